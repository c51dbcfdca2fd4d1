/-
  Z12 Z13 Z14 Z15 Z16 Z17 K45 Sy39 Y1 Y2 T18 T20 T22 T23 T24 T26 T27 T28 T29 T30 T31 Y3 Y4 Y5 X2 Sy23 O1 Y6 Y8 O4 Y9 G1 G2 F1 G3 S0 G4 G5 G6 G7 G8 G9 G10 G11 G12 F2 F3: parts of a proof, joined by program.
-/
import Derived.Test.YtnlacjgkdjnhmaaGreatI9
import Derived.Test.YtnlacjgkdjnhmaaGreatI7
import Derived.Test.YtnlacjgkdjnhmaaGreatI2
import Derived.Test.YtnlacjgkdjnhmaaGreatI3
import Derived.Test.YtnlacjgkdjnhmaaGreatI6
import Derived.Test.YtnlacjgkdjnhmaaGreatI5
namespace Go.Sy.YtnlacjgkdjnhmaaGreat
open Go.Proofs
attribute [local irreducible] Go.Sy.G Go.Sy.DR
set_option maxRecDepth 100000
set_option maxHeartbeats 4000000
theorem Aa3 {n:Net} {m:MacM} {J D:Int} (h:MacOK n m J D) (hD:0≤D) (dom:Int) {r:List EntryM × List OutM × Int} (hr:TabOK r.1):MacOK n (Jc m dom r) J (D+1):=by
 unfold Jc
 split
 ·exact Lf h hD 2
 split
 ·exact Lf (Ys h dom hr) hD _
 ·exact(Ys h dom hr).mono (Int.le_refl _) qn
def queL (q:QueuedM):List SV:=[Aa q.from_,Aa q.peer,Aa q.origin,A7 q.frame.dst,A7 q.frame.src,Aa q.frame.typ,.sl 1 Ak q.frame.body]
def Ai7 (n:Net) (m:MacM) (q:QueuedM) (l:List SeenM):Obs:=[(0,.box (Tq n 1 m.now m.injected m.drops)),(1,.box (Kh n m.up true)),(2,.row 1 D5 m.tables),(3,.row 1 U5 m.queues),(7,.box (queL q)),(1000,.row 3 Cg l)]
theorem Ain (n:Net) (hn:n.Fin) (hm1:n.Num) (m:MacM) (d:Bool) (J D:Int) (hm0:MacOK n m J D) (hD0:0≤D) (hD:D≤900000000000) (dom at_:Int) :
  Sy.Spec Tryz.prog 44 [.ptr 0 0,Aa dom,Aa at_] (Cf n m d) (.sl 3 Cg (pickT n m dom at_).2) (Cf n (pickT n m dom at_).1 (if (takeM m dom at_).2.2 then true else d)):=Ab Γ hm 100 F44 Tryz.ntmps44 rfl fun F hF=>by
 have hres:=pickT.eq_1 n m dom at_
 generalize pickT n m dom at_=res at *
 have q1:=Aam n m d dom at_ (Ek hm0 dom)
 have hok:=Ui hm0 dom at_
 have hpl:(takeM m dom at_).2.2=true→0≤dom∧dom.toNat<m.queues.length:=fun h=>by
  unfold takeM at h
  split at h
  ·cases h
  ·rename_i h2
   exact placeB_iff.1 (by cases hx:Ag dom m.queues.length;exact absurd hx h2;rfl)
 have htl:(takeM m dom at_).1.tables=m.tables:=by unfold takeM;split<;>rfl
 generalize takeM m dom at_=r at *
 obtain ⟨m1,q,ok⟩:=r
 have htq:m.queues.length=m.tables.length:=by rw[hm0.ques,hm0.tabs]
 ((conv=>whnf);repeat((first|refine aF ?_|refine aT ?_);(first|refine rG Γ hm ?_|refine rD Γ hm qq ?_);conv=>whnf))
 refine Ai (Aj [] E F45 q1 E ⟨E,E,E,E,Y⟩ E ⟨.inl E,.inl E,.inl E,.inl E,Y⟩) E E ?_
 ((first|refine rG Γ hm ?_|refine rD Γ hm qq ?_);(conv=>whnf);repeat((first|refine aF ?_|refine aT ?_);(first|refine rG Γ hm ?_|refine rD Γ hm qq ?_);conv=>whnf))
 cases ok
 ·rw[if_pos rfl]at hres
  subst hres
  (repeat (first | (refine⟨fun h=>False.elim (by first | (exact absurd h qx) | (simp at h;done) | (simp at h;omega)),fun _=>?_⟩;((first|refine rG Γ hm ?_|refine rD Γ hm qq ?_);(conv=>whnf);repeat((first|refine aF ?_|refine aT ?_);(first|refine rG Γ hm ?_|refine rD Γ hm qq ?_);conv=>whnf))) | (refine⟨fun _=>?_,fun h=>False.elim (by first | (exact absurd h qx) | (simp at h;done) | (simp at h;omega))⟩;((first|refine rG Γ hm ?_|refine rD Γ hm qq ?_);(conv=>whnf);repeat((first|refine aF ?_|refine aT ?_);(first|refine rG Γ hm ?_|refine rD Γ hm qq ?_);conv=>whnf)))))
  refine Ap 6 3 Cg E ?_
  exact done E (.cons .tmp .nil) [] (Cf n m1 d) (fun _ h=>h) E E ⟨Y,⟨.inl E,E,.inl E,E,.inl E,E,.inl E,E,Y⟩,E,E⟩
 rw[if_neg qy]at hres
 have hd:=hpl rfl
 have hd2:0≤dom∧dom.toNat<m1.tables.length:=by rw[htl,← htq];exact hd
 dsimp only at hres hok
 have q2:=Agh n hn m1.up d
 have q3:=Acl n hn hm1 (I6 n m1.up) (tableL m1 dom) dom q m1.now (Q5 hok.1 dom) hok.2
 have hb1:=Th (n:=n) (fw:=I6 n m1.up) (dom:=dom) (now:=m1.now) (Q5 hok.1 dom) hok.2
 have hb2:=Ti (fw:=I6 n m1.up) (t:=tableL m1 dom) (dom:=dom) (now:=m1.now) hn hm1 hok.2
 have hb3:=Li hn (I6 n m1.up) (tableL m1 dom) dom q m1.now
 have hb4:=Ack n (I6 n m1.up) (tableL m1 dom) dom q m1.now
 rw[Mn]at hres
 have hz:=Aa3 hok.1 hD0 dom hb1
 generalize bridgeT n (I6 n m1.up) (tableL m1 dom) dom q m1.now=b at *
 obtain ⟨t,out,e⟩:=b
 have hb2:∀ o∈out,OutOK n o:=hb2
 have hb3:out.length<4294967296:=hb3
 have hb4:Bh e:=hb4
 have ht0:=tableL.eq_1 m1 dom
 rw[T9 hd2.2]at ht0
 generalize tableL m1 dom=t0 at *
 subst ht0
 (repeat (first | (refine⟨fun h=>False.elim (by first | (exact absurd h qx) | (simp at h;done) | (simp at h;omega)),fun _=>?_⟩;((first|refine rG Γ hm ?_|refine rD Γ hm qq ?_);(conv=>whnf);repeat((first|refine aF ?_|refine aT ?_);(first|refine rG Γ hm ?_|refine rD Γ hm qq ?_);conv=>whnf))) | (refine⟨fun _=>?_,fun h=>False.elim (by first | (exact absurd h qx) | (simp at h;done) | (simp at h;omega))⟩;((first|refine rG Γ hm ?_|refine rD Γ hm qq ?_);(conv=>whnf);repeat((first|refine aF ?_|refine aT ?_);(first|refine rG Γ hm ?_|refine rD Γ hm qq ?_);conv=>whnf)))))
 refine Bv (Aj [] E F69 q2 E ⟨E,Y⟩ E ⟨.inl E,Y⟩) qq E ?_
 ((first|refine rG Γ hm ?_|refine rD Γ hm qq ?_);(conv=>whnf);repeat((first|refine aF ?_|refine aT ?_);(first|refine rG Γ hm ?_|refine rD Γ hm qq ?_);conv=>whnf))
 refine⟨hd2.1,hd2.2,?_⟩
 ((conv=>whnf);repeat((first|refine aF ?_|refine aT ?_);(first|refine rG Γ hm ?_|refine rD Γ hm qq ?_);conv=>whnf))
 refine⟨E,hd2.2,?_⟩
 ((conv=>whnf);repeat((first|refine aF ?_|refine aT ?_);(first|refine rG Γ hm ?_|refine rD Γ hm qq ?_);conv=>whnf))
 refine An q3 F68 E E E qq E ?_
 ((first|refine rG Γ hm ?_|refine rD Γ hm qq ?_);(conv=>whnf);repeat((first|refine aF ?_|refine aT ?_);(first|refine rG Γ hm ?_|refine rD Γ hm qq ?_);conv=>whnf))
 refine⟨qq,?_⟩
 ((conv=>whnf);repeat((first|refine aF ?_|refine aT ?_);(first|refine rG Γ hm ?_|refine rD Γ hm qq ?_);conv=>whnf))
 refine⟨fun h=>?_,fun h=>?_⟩
 ·have h2:¬ e=2:=by simpa using h
  clear h
  ((first|refine rG Γ hm ?_|refine rD Γ hm qq ?_);(conv=>whnf);repeat((first|refine aF ?_|refine aT ?_);(first|refine rG Γ hm ?_|refine rD Γ hm qq ?_);conv=>whnf))
  refine⟨hd2.1,hd2.2,?_⟩
  ((conv=>whnf);repeat((first|refine aF ?_|refine aT ?_);(first|refine rG Γ hm ?_|refine rD Γ hm qq ?_);conv=>whnf))
  refine⟨E,hd2.2,t,E,E,?_⟩
  ((conv=>whnf);repeat((first|refine aF ?_|refine aT ?_);(first|refine rG Γ hm ?_|refine rD Γ hm qq ?_);conv=>whnf))
  refine⟨fun h=>?_,fun h=>?_⟩
  ·have h3:¬ e=0:=by simpa using h
   clear h
   have hpd:Jc m1 dom (t,out,e)=Bz (Ds m1 dom t) e:=by
    unfold Jc
    rw[if_neg h2,if_pos h3]
   rw[hpd]at hres hz
   subst hres
   have q4:=Aca n (Ds m1 dom t) true e hb4.1 hb4.2 ⟨(hok.1.drp _).1,by have:=(hok.1.drp e.toNat).2;show m1.drops e.toNat≤1000000000000;omega⟩
   ((first|refine rG Γ hm ?_|refine rD Γ hm qq ?_);(conv=>whnf);repeat((first|refine aF ?_|refine aT ?_);(first|refine rG Γ hm ?_|refine rD Γ hm qq ?_);conv=>whnf))
   refine Ai (Aj [] E F70 q4 E ⟨E,E,E,E,Y⟩ E ⟨.inl E,.inl E,.inl E,.inl E,Y⟩) E E ?_
   ((first|refine rG Γ hm ?_|refine rD Γ hm qq ?_);(conv=>whnf);repeat((first|refine aF ?_|refine aT ?_);(first|refine rG Γ hm ?_|refine rD Γ hm qq ?_);conv=>whnf))
   have hdr:L8 (Bz (Ds m1 dom t) e):=fun i=>⟨(hz.drp i).1,by have:=(hz.drp i).2;omega⟩
   refine Cc 12 1000 3 Cg E E ?_
   refine A2 out.length (fun j=>[(0,.ptr 0 0),(7,.ptr 7 0),(12,.osl 1000),(69,.sl 9 Di out),(70,Aa out.length),(71,Aa j)]) (fun j=>Ai7 n (Bf n (Bz (Ds m1 dom t) e) q.origin (out.take j)).1 q (Bf n (Bz (Ds m1 dom t) e) q.origin (out.take j)).2) [] ⟨⟨E,E,E,E,E,E,E,E,E,E,E,E,Y⟩,⟨.inl E,E,.inl E,E,.inl E,E,.inl E,E,.inl E,E,.inl E,E,Y⟩,E,E⟩ ?_
   intro j hj
   ((first|refine rG Γ hm ?_|refine rD Γ hm qq ?_);(conv=>whnf);repeat((first|refine aF ?_|refine aT ?_);(first|refine rG Γ hm ?_|refine rD Γ hm qq ?_);conv=>whnf))
   refine⟨fun h=>?_,fun h=>?_⟩
   ·have hlt:j<out.length:=by have:=of_decide_eq_true h;omega
    have hj0:((j:Nat):Int).toNat<out.length:=by simpa using hlt
    obtain ⟨o,hoo⟩:∃ o,out[j]=o:=⟨_,rfl⟩
    have e1:out[((j:Nat):Int).toNat]'hj0=o:=hoo
    have hs:=Oe n (Bz (Ds m1 dom t) e) q.origin out j hlt
    rw[hoo]at hs
    have hjo:=Lb hn q.origin (out.take j) hz qn (fun x hx=>hb2 x (List.mem_of_mem_take hx))
    have hlen:(out.take j).length=j:=by rw[List.length_take];omega
    rw[hlen]at hjo
    have hsl:=Jj n q.origin (out.take j) (Bz (Ds m1 dom t) e)
    rw[hlen]at hsl
    have q5:=Um n hn (Bf n (Bz (Ds m1 dom t) e) q.origin (out.take j)).1 true J _ hjo qn o (hb2 o (by rw[← hoo];exact List.getElem_mem hlt)) q.origin
    have hfw:=L1 n (Bf n (Bz (Ds m1 dom t) e) q.origin (out.take j)).1 o q.origin
    clear h
    ((first|refine rG Γ hm ?_|refine rD Γ hm qq ?_);(conv=>whnf);repeat((first|refine aF ?_|refine aT ?_);(first|refine rG Γ hm ?_|refine rD Γ hm qq ?_);conv=>whnf))
    refine⟨E,by omega,hj0,?_⟩
    rw[e1]
    ((conv=>whnf);repeat((first|refine aF ?_|refine aT ?_);(first|refine rG Γ hm ?_|refine rD Γ hm qq ?_);conv=>whnf))
    refine Ai (Aj [] E F71 q5 E ⟨E,E,E,E,Y⟩ E ⟨.inl E,.inl E,.inl E,.inl E,Y⟩) E E ?_
    ((first|refine rG Γ hm ?_|refine rD Γ hm qq ?_);(conv=>whnf);repeat((first|refine aF ?_|refine aT ?_);(first|refine rG Γ hm ?_|refine rD Γ hm qq ?_);conv=>whnf))
    refine Ai (Al Γ.toTy 81 E E E E E (.row E) .sl qy qn qn) E E ?_
    ((first|refine rG Γ hm ?_|refine rD Γ hm qq ?_);(conv=>whnf);repeat((first|refine aF ?_|refine aT ?_);(first|refine rG Γ hm ?_|refine rD Γ hm qq ?_);conv=>whnf))
    refine⟨by unfold I64;omega,?_⟩
    ((conv=>whnf);repeat((first|refine aF ?_|refine aT ?_);(first|refine rG Γ hm ?_|refine rD Γ hm qq ?_);conv=>whnf))
    have g1:(Bf n (Bz (Ds m1 dom t) e) q.origin (out.take (j+1))).1=(goesM n (Bf n (Bz (Ds m1 dom t) e) q.origin (out.take j)).1 o q.origin).1:=by rw[hs]
    have g2:(Bf n (Bz (Ds m1 dom t) e) q.origin (out.take (j+1))).2=(Bf n (Bz (Ds m1 dom t) e) q.origin (out.take j)).2++(goesM n (Bf n (Bz (Ds m1 dom t) e) q.origin (out.take j)).1 o q.origin).2:=by rw[hs]
    refine Av [(1000,81)] hlt ⟨⟨E,E,E,E,E,E,E,E,E,E,E,E,Y⟩,?_,E,E⟩
    dsimp only
    rw[g1,g2]
    exact⟨.inl E,E,.inl E,E,.inl E,E,.inl E,E,.inl E,E,.inl E,E,Y⟩
   ·have hjj:j=out.length:=by have:=of_decide_eq_false h;omega
    subst hjj
    rw[List.take_length]
    clear h
    ((first|refine rG Γ hm ?_|refine rD Γ hm qq ?_);(conv=>whnf);repeat((first|refine aF ?_|refine aT ?_);(first|refine rG Γ hm ?_|refine rD Γ hm qq ?_);conv=>whnf))
    refine Au 1000 E ?_
    exact done E (.cons .tmp .nil) [] (Cf n (Bf n (Bz (Ds m1 dom t) e) q.origin out).1 true) (fun _ h=>h) E E ⟨Y,⟨.inl E,E,.inl E,E,.inl E,E,.inl E,E,Y⟩,E,E⟩
  ·have h3:e=0:=by simpa using h
   clear h
   have hpd:Jc m1 dom (t,out,e)=Ds m1 dom t:=by
    unfold Jc
    rw[if_neg h2,if_neg (fun h=>h h3)]
   rw[hpd]at hres hz
   subst hres
   ((first|refine rG Γ hm ?_|refine rD Γ hm qq ?_);(conv=>whnf);repeat((first|refine aF ?_|refine aT ?_);(first|refine rG Γ hm ?_|refine rD Γ hm qq ?_);conv=>whnf))
   have hdr:L8 (Ds m1 dom t):=fun i=>⟨(hz.drp i).1,by have:=(hz.drp i).2;omega⟩
   refine Cc 12 1000 3 Cg E E ?_
   refine A2 out.length (fun j=>[(0,.ptr 0 0),(7,.ptr 7 0),(12,.osl 1000),(69,.sl 9 Di out),(70,Aa out.length),(71,Aa j)]) (fun j=>Ai7 n (Bf n (Ds m1 dom t) q.origin (out.take j)).1 q (Bf n (Ds m1 dom t) q.origin (out.take j)).2) [] ⟨⟨E,E,E,E,E,E,E,E,E,E,E,E,Y⟩,⟨.inl E,E,.inl E,E,.inl E,E,.inl E,E,.inl E,E,.inl E,E,Y⟩,E,E⟩ ?_
   intro j hj
   ((first|refine rG Γ hm ?_|refine rD Γ hm qq ?_);(conv=>whnf);repeat((first|refine aF ?_|refine aT ?_);(first|refine rG Γ hm ?_|refine rD Γ hm qq ?_);conv=>whnf))
   refine⟨fun h=>?_,fun h=>?_⟩
   ·have hlt:j<out.length:=by have:=of_decide_eq_true h;omega
    have hj0:((j:Nat):Int).toNat<out.length:=by simpa using hlt
    obtain ⟨o,hoo⟩:∃ o,out[j]=o:=⟨_,rfl⟩
    have e1:out[((j:Nat):Int).toNat]'hj0=o:=hoo
    have hs:=Oe n (Ds m1 dom t) q.origin out j hlt
    rw[hoo]at hs
    have hjo:=Lb hn q.origin (out.take j) hz qn (fun x hx=>hb2 x (List.mem_of_mem_take hx))
    have hlen:(out.take j).length=j:=by rw[List.length_take];omega
    rw[hlen]at hjo
    have hsl:=Jj n q.origin (out.take j) (Ds m1 dom t)
    rw[hlen]at hsl
    have q5:=Um n hn (Bf n (Ds m1 dom t) q.origin (out.take j)).1 true J _ hjo qn o (hb2 o (by rw[← hoo];exact List.getElem_mem hlt)) q.origin
    have hfw:=L1 n (Bf n (Ds m1 dom t) q.origin (out.take j)).1 o q.origin
    clear h
    ((first|refine rG Γ hm ?_|refine rD Γ hm qq ?_);(conv=>whnf);repeat((first|refine aF ?_|refine aT ?_);(first|refine rG Γ hm ?_|refine rD Γ hm qq ?_);conv=>whnf))
    refine⟨E,by omega,hj0,?_⟩
    rw[e1]
    ((conv=>whnf);repeat((first|refine aF ?_|refine aT ?_);(first|refine rG Γ hm ?_|refine rD Γ hm qq ?_);conv=>whnf))
    refine Ai (Aj [] E F71 q5 E ⟨E,E,E,E,Y⟩ E ⟨.inl E,.inl E,.inl E,.inl E,Y⟩) E E ?_
    ((first|refine rG Γ hm ?_|refine rD Γ hm qq ?_);(conv=>whnf);repeat((first|refine aF ?_|refine aT ?_);(first|refine rG Γ hm ?_|refine rD Γ hm qq ?_);conv=>whnf))
    refine Ai (Al Γ.toTy 81 E E E E E (.row E) .sl qy qn qn) E E ?_
    ((first|refine rG Γ hm ?_|refine rD Γ hm qq ?_);(conv=>whnf);repeat((first|refine aF ?_|refine aT ?_);(first|refine rG Γ hm ?_|refine rD Γ hm qq ?_);conv=>whnf))
    refine⟨by unfold I64;omega,?_⟩
    ((conv=>whnf);repeat((first|refine aF ?_|refine aT ?_);(first|refine rG Γ hm ?_|refine rD Γ hm qq ?_);conv=>whnf))
    have g1:(Bf n (Ds m1 dom t) q.origin (out.take (j+1))).1=(goesM n (Bf n (Ds m1 dom t) q.origin (out.take j)).1 o q.origin).1:=by rw[hs]
    have g2:(Bf n (Ds m1 dom t) q.origin (out.take (j+1))).2=(Bf n (Ds m1 dom t) q.origin (out.take j)).2++(goesM n (Bf n (Ds m1 dom t) q.origin (out.take j)).1 o q.origin).2:=by rw[hs]
    refine Av [(1000,81)] hlt ⟨⟨E,E,E,E,E,E,E,E,E,E,E,E,Y⟩,?_,E,E⟩
    dsimp only
    rw[g1,g2]
    exact⟨.inl E,E,.inl E,E,.inl E,E,.inl E,E,.inl E,E,.inl E,E,Y⟩
   ·have hjj:j=out.length:=by have:=of_decide_eq_false h;omega
    subst hjj
    rw[List.take_length]
    clear h
    ((first|refine rG Γ hm ?_|refine rD Γ hm qq ?_);(conv=>whnf);repeat((first|refine aF ?_|refine aT ?_);(first|refine rG Γ hm ?_|refine rD Γ hm qq ?_);conv=>whnf))
    refine Au 1000 E ?_
    exact done E (.cons .tmp .nil) [] (Cf n (Bf n (Ds m1 dom t) q.origin out).1 true) (fun _ h=>h) E E ⟨Y,⟨.inl E,E,.inl E,E,.inl E,E,.inl E,E,Y⟩,E,E⟩
 ·have h2:e=2:=by simpa using h
  clear h
  subst h2
  have hpd:Jc m1 dom (t,out,2)=Bz m1 2:=by
   unfold Jc
   rw[if_pos rfl]
  rw[hpd]at hres hz
  subst hres
  have q4:=Aca n m1 true 2 qx qx ⟨(hok.1.drp _).1,by have:=(hok.1.drp (Int.toNat 2)).2;omega⟩
  ((first|refine rG Γ hm ?_|refine rD Γ hm qq ?_);(conv=>whnf);repeat((first|refine aF ?_|refine aT ?_);(first|refine rG Γ hm ?_|refine rD Γ hm qq ?_);conv=>whnf))
  refine Ai (Aj [] E F70 q4 E ⟨E,E,E,E,Y⟩ E ⟨.inl E,.inl E,.inl E,.inl E,Y⟩) E E ?_
  ((first|refine rG Γ hm ?_|refine rD Γ hm qq ?_);(conv=>whnf);repeat((first|refine aF ?_|refine aT ?_);(first|refine rG Γ hm ?_|refine rD Γ hm qq ?_);conv=>whnf))
  have hdr:L8 (Bz m1 2):=fun i=>⟨(hz.drp i).1,by have:=(hz.drp i).2;omega⟩
  refine Cc 12 1000 3 Cg E E ?_
  refine A2 out.length (fun j=>[(0,.ptr 0 0),(7,.ptr 7 0),(12,.osl 1000),(69,.sl 9 Di out),(70,Aa out.length),(71,Aa j)]) (fun j=>Ai7 n (Bf n (Bz m1 2) q.origin (out.take j)).1 q (Bf n (Bz m1 2) q.origin (out.take j)).2) [] ⟨⟨E,E,E,E,E,E,E,E,E,E,E,E,Y⟩,⟨.inl E,E,.inl E,E,.inl E,E,.inl E,E,.inl E,E,.inl E,E,Y⟩,E,E⟩ ?_
  intro j hj
  ((first|refine rG Γ hm ?_|refine rD Γ hm qq ?_);(conv=>whnf);repeat((first|refine aF ?_|refine aT ?_);(first|refine rG Γ hm ?_|refine rD Γ hm qq ?_);conv=>whnf))
  refine⟨fun h=>?_,fun h=>?_⟩
  ·have hlt:j<out.length:=by have:=of_decide_eq_true h;omega
   have hj0:((j:Nat):Int).toNat<out.length:=by simpa using hlt
   obtain ⟨o,hoo⟩:∃ o,out[j]=o:=⟨_,rfl⟩
   have e1:out[((j:Nat):Int).toNat]'hj0=o:=hoo
   have hs:=Oe n (Bz m1 2) q.origin out j hlt
   rw[hoo]at hs
   have hjo:=Lb hn q.origin (out.take j) hz qn (fun x hx=>hb2 x (List.mem_of_mem_take hx))
   have hlen:(out.take j).length=j:=by rw[List.length_take];omega
   rw[hlen]at hjo
   have hsl:=Jj n q.origin (out.take j) (Bz m1 2)
   rw[hlen]at hsl
   have q5:=Um n hn (Bf n (Bz m1 2) q.origin (out.take j)).1 true J _ hjo qn o (hb2 o (by rw[← hoo];exact List.getElem_mem hlt)) q.origin
   have hfw:=L1 n (Bf n (Bz m1 2) q.origin (out.take j)).1 o q.origin
   clear h
   ((first|refine rG Γ hm ?_|refine rD Γ hm qq ?_);(conv=>whnf);repeat((first|refine aF ?_|refine aT ?_);(first|refine rG Γ hm ?_|refine rD Γ hm qq ?_);conv=>whnf))
   refine⟨E,by omega,hj0,?_⟩
   rw[e1]
   ((conv=>whnf);repeat((first|refine aF ?_|refine aT ?_);(first|refine rG Γ hm ?_|refine rD Γ hm qq ?_);conv=>whnf))
   refine Ai (Aj [] E F71 q5 E ⟨E,E,E,E,Y⟩ E ⟨.inl E,.inl E,.inl E,.inl E,Y⟩) E E ?_
   ((first|refine rG Γ hm ?_|refine rD Γ hm qq ?_);(conv=>whnf);repeat((first|refine aF ?_|refine aT ?_);(first|refine rG Γ hm ?_|refine rD Γ hm qq ?_);conv=>whnf))
   refine Ai (Al Γ.toTy 81 E E E E E (.row E) .sl qy qn qn) E E ?_
   ((first|refine rG Γ hm ?_|refine rD Γ hm qq ?_);(conv=>whnf);repeat((first|refine aF ?_|refine aT ?_);(first|refine rG Γ hm ?_|refine rD Γ hm qq ?_);conv=>whnf))
   refine⟨by unfold I64;omega,?_⟩
   ((conv=>whnf);repeat((first|refine aF ?_|refine aT ?_);(first|refine rG Γ hm ?_|refine rD Γ hm qq ?_);conv=>whnf))
   have g1:(Bf n (Bz m1 2) q.origin (out.take (j+1))).1=(goesM n (Bf n (Bz m1 2) q.origin (out.take j)).1 o q.origin).1:=by rw[hs]
   have g2:(Bf n (Bz m1 2) q.origin (out.take (j+1))).2=(Bf n (Bz m1 2) q.origin (out.take j)).2++(goesM n (Bf n (Bz m1 2) q.origin (out.take j)).1 o q.origin).2:=by rw[hs]
   refine Av [(1000,81)] hlt ⟨⟨E,E,E,E,E,E,E,E,E,E,E,E,Y⟩,?_,E,E⟩
   dsimp only
   rw[g1,g2]
   exact⟨.inl E,E,.inl E,E,.inl E,E,.inl E,E,.inl E,E,.inl E,E,Y⟩
  ·have hjj:j=out.length:=by have:=of_decide_eq_false h;omega
   subst hjj
   rw[List.take_length]
   clear h
   ((first|refine rG Γ hm ?_|refine rD Γ hm qq ?_);(conv=>whnf);repeat((first|refine aF ?_|refine aT ?_);(first|refine rG Γ hm ?_|refine rD Γ hm qq ?_);conv=>whnf))
   refine Au 1000 E ?_
   exact done E (.cons .tmp .nil) [] (Cf n (Bf n (Bz m1 2) q.origin out).1 true) (fun _ h=>h) E E ⟨Y,⟨.inl E,E,.inl E,E,.inl E,E,.inl E,E,Y⟩,E,E⟩
theorem Af5 (l:List (List EntryM)) (now:Int) (j:Nat) (hj:j<l.length) :
  ((l.take j).map (fun t=>ageT t now)++l.drop j).set j (ageT l[j] now)=(l.take (j+1)).map (fun t=>ageT t now)++l.drop (j+1):=by
 apply List.ext_getElem
 ·simp only[List.length_set,List.length_append,List.length_map,List.length_take,List.length_drop];omega
 intro i h1 h2
 simp only[List.length_set,List.length_append,List.length_map,List.length_take,List.length_drop]at h1
 rw[List.getElem_set]
 by_cases hi:j=i
 ·subst hi
  rw[if_pos rfl,List.getElem_append_left (by simp;omega)]
  simp
 ·rw[if_neg hi]
  by_cases hlt:i<j
  ·rw[List.getElem_append_left (by simp;omega),List.getElem_append_left (by simp;omega)]
   simp
  ·rw[List.getElem_append_right (by simp;omega),List.getElem_append_right (by simp;omega)]
   simp only[List.getElem_drop,List.length_map,List.length_take]
   congr 1
   omega
theorem Ahh {P:Program} {o:Oper} {s:SS} {x y:Operand} {at_:Array TypeId} {k k':IntKind} {m n r:Int} (hr:(if n<m then n else m)=r) (h:o.op=.call ⟨.builtin .min,#[x,y],at_⟩)
  (hx:ev s x=.val (.int k m)) (hy:ev s y=.val (.int k' n)):Good P o s ⟨.val (.int k r),[],[]⟩:=by
 have:=Aka (P:=P) h hx hy
 rwa [hr]at this
def T5 (l:List (List EntryM)) (now:Int) (j:Nat):List (List EntryM):=(l.take j).map (fun t=>ageT t now)++l.drop j
theorem Ak4 (l:List (List EntryM)) (now:Int) (j:Nat) (hj:j<l.length) (h2:j<(T5 l now j).length):(T5 l now j)[j]=l[j]:=by
 have h:(T5 l now j)[j]? = l[j]?:=by
  unfold T5
  have hm:min j l.length=j:=by omega
  rw[List.getElem?_append_right (by simp;omega),List.getElem?_drop,List.length_map,List.length_take,hm,Nat.sub_self,Nat.add_zero]
 rw[List.getElem?_eq_getElem hj,List.getElem?_eq_getElem h2]at h
 exact Option.some.inj h
theorem Acr (l:List (List EntryM)) (now:Int) (j:Nat):(T5 l now j).length=l.length:=by
 unfold T5
 simp only[List.length_append,List.length_map,List.length_take,List.length_drop]
 omega
def tickO (n:Net) (m:MacM) (d:Bool) (now:Int) (j:Nat):Obs:=[(0,.box (Tq n 1 now m.injected m.drops)),(1,.box (Kh n m.up d)),(2,.row 1 D5 (T5 m.tables now j)),(3,.row 1 U5 m.queues)]
theorem Aim (n:Net) (m:MacM) (d:Bool) (J D:Int) (hm0:MacOK n m J D) (hs:Am n.domains) :
  Sy.Spec Tryz.prog 46 [.ptr 0 0] (Cf n m d) (.tup []) (Cf n (Mi m) d):=Ab Γ hm 100 F46 Tryz.ntmps46 rfl fun F hF=>by
 unfold Am at hs
 have hnow:=hm0.now
 have htl:m.tables.length<2147483648:=by rw[hm0.tabs];exact hs
 have hto:=hm0.tab
 obtain ⟨nw,hnw⟩:∃ nw,(if 1099511627776<m.now+1 then 1099511627776 else m.now+1)=nw:=⟨_,rfl⟩
 have hti:Mi m=⟨m.up,T5 m.tables nw m.tables.length,m.queues,nw,m.injected,m.drops⟩:=by
  have:min (m.now+1) 1099511627776=nw:=by rw[← hnw];split<;>omega
  unfold Mi T5
  rw[this,List.take_length,List.drop_length,List.append_nil]
 rw[hti]
 ((conv=>whnf);repeat((first|refine aF ?_|refine aT ?_);(first|refine rG Γ hm ?_|refine rD Γ hm qq ?_);conv=>whnf))
 refine⟨by unfold I64;omega,?_⟩
 ((conv=>whnf);repeat((first|refine aF ?_|refine aT ?_);(first|refine rG Γ hm ?_|refine rD Γ hm qq ?_);conv=>whnf))
 refine Ai (Ahh hnw E E E) E E ?_
 ((first|refine rG Γ hm ?_|refine rD Γ hm qq ?_);(conv=>whnf);repeat((first|refine aF ?_|refine aT ?_);(first|refine rG Γ hm ?_|refine rD Γ hm qq ?_);conv=>whnf))
 refine A2 m.tables.length (fun j=>[(0,.ptr 0 0),(16,.osl 2),(17,Aa m.tables.length),(18,Aa j)]) (fun j=>tickO n m d nw j) [] ⟨⟨E,E,E,E,E,E,E,E,Y⟩,⟨.inl E,E,.inl E,E,.inl E,E,.inl E,E,Y⟩,E,E⟩ ?_
 intro j hj
 ((first|refine rG Γ hm ?_|refine rD Γ hm qq ?_);(conv=>whnf);repeat((first|refine aF ?_|refine aT ?_);(first|refine rG Γ hm ?_|refine rD Γ hm qq ?_);conv=>whnf))
 refine⟨fun h=>?_,fun h=>?_⟩
 ·have hlt:j<m.tables.length:=by have:=of_decide_eq_true h;omega
  have hal:=Acr m.tables nw j
  have hj0:((j:Nat):Int).toNat<(T5 m.tables nw j).length:=by rw[hal];simpa using hlt
  obtain ⟨t,hoo⟩:∃ t,m.tables[j]=t:=⟨_,rfl⟩
  have e1:(T5 m.tables nw j)[((j:Nat):Int).toNat]'hj0=t:=(Ak4 m.tables nw j hlt (by rw[hal];exact hlt)).trans hoo
  have hs:=Af5 m.tables nw j hlt
  rw[hoo]at hs
  have ht:=hto t (by rw[← hoo];exact List.getElem_mem hlt)
  clear h
  ((first|refine rG Γ hm ?_|refine rD Γ hm qq ?_);(conv=>whnf);repeat((first|refine aF ?_|refine aT ?_);(first|refine rG Γ hm ?_|refine rD Γ hm qq ?_);conv=>whnf))
  refine⟨by omega,hj0,?_⟩
  ((conv=>whnf);repeat((first|refine aF ?_|refine aT ?_);(first|refine rG Γ hm ?_|refine rD Γ hm qq ?_);conv=>whnf))
  refine⟨E,hj0,?_⟩
  rw[e1]
  ((conv=>whnf);repeat((first|refine aF ?_|refine aT ?_);(first|refine rG Γ hm ?_|refine rD Γ hm qq ?_);conv=>whnf))
  refine An (Ali t nw ht.short ht.mac) F73 E E E qq E ?_
  ((first|refine rG Γ hm ?_|refine rD Γ hm qq ?_);(conv=>whnf);repeat((first|refine aF ?_|refine aT ?_);(first|refine rG Γ hm ?_|refine rD Γ hm qq ?_);conv=>whnf))
  refine⟨by omega,hj0,?_⟩
  ((conv=>whnf);repeat((first|refine aF ?_|refine aT ?_);(first|refine rG Γ hm ?_|refine rD Γ hm qq ?_);conv=>whnf))
  refine⟨E,hj0,ageT t nw,E,E,?_⟩
  ((conv=>whnf);repeat((first|refine aF ?_|refine aT ?_);(first|refine rG Γ hm ?_|refine rD Γ hm qq ?_);conv=>whnf))
  refine⟨qq,?_⟩
  ((conv=>whnf);repeat((first|refine aF ?_|refine aT ?_);(first|refine rG Γ hm ?_|refine rD Γ hm qq ?_);conv=>whnf))
  refine⟨by unfold I64;omega,?_⟩
  ((conv=>whnf);repeat((first|refine aF ?_|refine aT ?_);(first|refine rG Γ hm ?_|refine rD Γ hm qq ?_);conv=>whnf))
  exact Av [] hlt ⟨⟨E,E,E,E,E,E,E,E,Y⟩,⟨.inl E,E,.inl E,E,.inl (congrArg (Ob.row 1 D5) hs.symm),E,.inl E,E,Y⟩,E,E⟩
 ·have hjj:j=m.tables.length:=by have:=of_decide_eq_false h;omega
  subst hjj
  clear h
  ((first|refine rG Γ hm ?_|refine rD Γ hm qq ?_);(conv=>whnf);repeat((first|refine aF ?_|refine aT ?_);(first|refine rG Γ hm ?_|refine rD Γ hm qq ?_);conv=>whnf))
  exact Bm E .nil [] (Cf n ⟨m.up,T5 m.tables nw m.tables.length,m.queues,nw,m.injected,m.drops⟩ d) (fun _ h=>h) E E ⟨Y,⟨.inl E,E,.inl E,E,.inl E,E,.inl E,E,Y⟩,E,E⟩
def Aan (n:Net) (m:MacM) (d:Bool):Obs:=[(0,.box (Tq n 4 m.now m.injected m.drops)),(1,.non),(2,.row 1 D5 m.tables),(3,.row 1 U5 m.queues),(4,.box (Kh n m.up d))]
def upT (m:MacM) (up:List Bool):MacM:=⟨up,m.tables,m.queues,m.now,m.injected,m.drops⟩
def doD (n:Net) (m:MacM) (d:Bool) (x:StepM):Bool :=
 if x.kind=1 then d else if x.kind=2 then (if (takeM m x.domain x.at_).2.2 then true else d) else if x.kind=3 then d else if x.kind=4 then d else if x.kind=5 then (if x.up.length=n.links.length then false else d) else d
theorem simDoS (n:Net) (hn:n.Fin) (hm1:n.Num) (m:MacM) (d:Bool) (J D:Int) (hm0:MacOK n m J D) (hJ:J<900000000000) (hD0:0≤D) (hD:D≤900000000000) (x:StepM) (hb:x.bytes.length<100000) :
  Sy.Spec Tryz.prog 22 [.ptr 0 0,Bg x] (Cf n m d) (.tup [.sl 3 Cg (doT n m x).2,Aa 0]) (Aan n (doT n m x).1 (doD n m d x)):=Ab Γ hm 100 F22 Tryz.ntmps22 rfl fun F hF=>by
 have hres:=doT.eq_1 n m x
 generalize doT n m x=res at *
 have hdd:=doD.eq_1 n m d x
 generalize doD n m d x=dd at *
 ((conv=>whnf);repeat((first|refine aF ?_|refine aT ?_);(first|refine rG Γ hm ?_|refine rD Γ hm qq ?_);conv=>whnf))
 refine Ai (Aby (d:=900) E E E) E E ?_
 ((first|refine rG Γ hm ?_|refine rD Γ hm qq ?_);(conv=>whnf);repeat((first|refine aF ?_|refine aT ?_);(first|refine rG Γ hm ?_|refine rD Γ hm qq ?_);conv=>whnf))
 refine⟨fun h=>?_,fun h=>?_⟩
 ·have h1:x.kind=1:=by simpa using h
  rw[if_pos h1]at hres hdd
  subst hres
  subst hdd
  have q1:=Ac4 n hn m dd J D hm0 qn qn x.port x.bytes hb
  ((first|refine rG Γ hm ?_|refine rD Γ hm qq ?_);(conv=>whnf);repeat((first|refine aF ?_|refine aT ?_);(first|refine rG Γ hm ?_|refine rD Γ hm qq ?_);conv=>whnf))
  refine Ai (Aj [] E F43 q1 E ⟨E,E,E,E,Y⟩ E ⟨.inl E,.inl E,.inl E,.inl E,Y⟩) E E ?_
  ((first|refine rG Γ hm ?_|refine rD Γ hm qq ?_);(conv=>whnf);repeat((first|refine aF ?_|refine aT ?_);(first|refine rG Γ hm ?_|refine rD Γ hm qq ?_);conv=>whnf))
  refine Ap 4 3 Cg E ?_
  refine E9 1 4 E E qx ?_
  exact done E (.cons .tmp (.cons .tmp .nil)) [] (Aan n (injectT n m x.port x.bytes) dd) (fun _ h=>h) E E ⟨Y,⟨.inl E,E,.inl E,E,.inl E,E,.inl E,E,.inl E,E,Y⟩,E,E⟩
 have h1:¬ x.kind=1:=by simpa using h
 rw[if_neg h1]at hres hdd
 clear h
 ((first|refine rG Γ hm ?_|refine rD Γ hm qq ?_);(conv=>whnf);repeat((first|refine aF ?_|refine aT ?_);(first|refine rG Γ hm ?_|refine rD Γ hm qq ?_);conv=>whnf))
 refine⟨fun h=>?_,fun h=>?_⟩
 ·have h1:x.kind=2:=by simpa using h
  rw[if_pos h1]at hres hdd
  subst hres
  have q1:=Ain n hn hm1 m d J D hm0 hD0 hD x.domain x.at_
  rw[← hdd]at q1
  ((first|refine rG Γ hm ?_|refine rD Γ hm qq ?_);(conv=>whnf);repeat((first|refine aF ?_|refine aT ?_);(first|refine rG Γ hm ?_|refine rD Γ hm qq ?_);conv=>whnf))
  refine Ai (Aj [] E F44 q1 E ⟨E,E,E,E,Y⟩ E ⟨.inl E,.inl E,.inl E,.inl E,Y⟩) E E ?_
  ((first|refine rG Γ hm ?_|refine rD Γ hm qq ?_);(conv=>whnf);repeat((first|refine aF ?_|refine aT ?_);(first|refine rG Γ hm ?_|refine rD Γ hm qq ?_);conv=>whnf))
  refine E9 1 4 E E qx ?_
  exact done E (.cons .tmp (.cons .tmp .nil)) [] (Aan n (pickT n m x.domain x.at_).1 dd) (fun _ h=>h) E E ⟨Y,⟨.inl E,E,.inl E,E,.inl E,E,.inl E,E,.inl E,E,Y⟩,E,E⟩
 have h1:¬ x.kind=2:=by simpa using h
 rw[if_neg h1]at hres hdd
 clear h
 ((first|refine rG Γ hm ?_|refine rD Γ hm qq ?_);(conv=>whnf);repeat((first|refine aF ?_|refine aT ?_);(first|refine rG Γ hm ?_|refine rD Γ hm qq ?_);conv=>whnf))
 refine⟨fun h=>?_,fun h=>?_⟩
 ·have h1:x.kind=3:=by simpa using h
  rw[if_pos h1]at hres hdd
  subst hres
  subst hdd
  have q1:=Aam n m dd x.domain x.at_ (Ek hm0 _)
  ((first|refine rG Γ hm ?_|refine rD Γ hm qq ?_);(conv=>whnf);repeat((first|refine aF ?_|refine aT ?_);(first|refine rG Γ hm ?_|refine rD Γ hm qq ?_);conv=>whnf))
  refine Ai (Aj [] E F45 q1 E ⟨E,E,E,E,Y⟩ E ⟨.inl E,.inl E,.inl E,.inl E,Y⟩) E E ?_
  ((first|refine rG Γ hm ?_|refine rD Γ hm qq ?_);(conv=>whnf);repeat((first|refine aF ?_|refine aT ?_);(first|refine rG Γ hm ?_|refine rD Γ hm qq ?_);conv=>whnf))
  refine Ap 4 3 Cg E ?_
  refine E9 1 4 E E qx ?_
  exact done E (.cons .tmp (.cons .tmp .nil)) [] (Aan n (takeM m x.domain x.at_).1 dd) (fun _ h=>h) E E ⟨Y,⟨.inl E,E,.inl E,E,.inl E,E,.inl E,E,.inl E,E,Y⟩,E,E⟩
 have h1:¬ x.kind=3:=by simpa using h
 rw[if_neg h1]at hres hdd
 clear h
 ((first|refine rG Γ hm ?_|refine rD Γ hm qq ?_);(conv=>whnf);repeat((first|refine aF ?_|refine aT ?_);(first|refine rG Γ hm ?_|refine rD Γ hm qq ?_);conv=>whnf))
 refine⟨fun h=>?_,fun h=>?_⟩
 ·have h1:x.kind=4:=by simpa using h
  rw[if_pos h1]at hres hdd
  subst hres
  subst hdd
  have q1:=Aim n m dd J D hm0 hn.domains
  ((first|refine rG Γ hm ?_|refine rD Γ hm qq ?_);(conv=>whnf);repeat((first|refine aF ?_|refine aT ?_);(first|refine rG Γ hm ?_|refine rD Γ hm qq ?_);conv=>whnf))
  refine Ai (Aj [] E F46 q1 E ⟨E,E,E,E,Y⟩ E ⟨.inl E,.inl E,.inl E,.inl E,Y⟩) E E ?_
  ((first|refine rG Γ hm ?_|refine rD Γ hm qq ?_);(conv=>whnf);repeat((first|refine aF ?_|refine aT ?_);(first|refine rG Γ hm ?_|refine rD Γ hm qq ?_);conv=>whnf))
  refine Ap 4 3 Cg E ?_
  refine E9 1 4 E E qx ?_
  exact done E (.cons .tmp (.cons .tmp .nil)) [] (Aan n (Mi m) dd) (fun _ h=>h) E E ⟨Y,⟨.inl E,E,.inl E,E,.inl E,E,.inl E,E,.inl E,E,Y⟩,E,E⟩
 have h1:¬ x.kind=4:=by simpa using h
 rw[if_neg h1]at hres hdd
 clear h
 ((first|refine rG Γ hm ?_|refine rD Γ hm qq ?_);(conv=>whnf);repeat((first|refine aF ?_|refine aT ?_);(first|refine rG Γ hm ?_|refine rD Γ hm qq ?_);conv=>whnf))
 refine⟨fun h=>?_,fun h=>?_⟩
 ·have h1:x.kind=5:=by simpa using h
  rw[if_pos h1]at hres hdd
  clear h
  ((first|refine rG Γ hm ?_|refine rD Γ hm qq ?_);(conv=>whnf);repeat((first|refine aF ?_|refine aT ?_);(first|refine rG Γ hm ?_|refine rD Γ hm qq ?_);conv=>whnf))
  refine⟨qq,?_⟩
  ((conv=>whnf);repeat((first|refine aF ?_|refine aT ?_);(first|refine rG Γ hm ?_|refine rD Γ hm qq ?_);conv=>whnf))
  refine⟨fun h=>?_,fun h=>?_⟩
  ·have h2:x.up.length=n.links.length:=by have:=of_decide_eq_true h;omega
   rw[if_pos h2]at hres hdd
   subst hres
   subst hdd
   clear h
   have hls:=hn.links
   unfold Am at hls
   ((first|refine rG Γ hm ?_|refine rD Γ hm qq ?_);(conv=>whnf);repeat((first|refine aF ?_|refine aT ?_);(first|refine rG Γ hm ?_|refine rD Γ hm qq ?_);conv=>whnf))
   refine Ah (Wj x.up qn) F14 E E E E E ?_
   ((first|refine rG Γ hm ?_|refine rD Γ hm qq ?_);(conv=>whnf);repeat((first|refine aF ?_|refine aT ?_);(first|refine rG Γ hm ?_|refine rD Γ hm qq ?_);conv=>whnf))
   refine Ap 4 3 Cg E ?_
   refine A0 55 (Kh n x.up false) E (.cons (.refl _) (.cons (.refl _) (.cons (.refl _) (.cons (.refl _) (.cons .nil .nil))))) ?_
   exact done E (.cons .tmp (.cons .tmp .nil)) [(4,55)] (Aan n (upT m x.up) false) (fun _ h=>h) E E ⟨Y,⟨.inl E,E,.inr E,E,.inl E,E,.inl E,E,.inl E,E,Y⟩,E,E⟩
  ·have h2:¬ x.up.length=n.links.length:=by have:=of_decide_eq_false h;omega
   rw[if_neg h2]at hres hdd
   subst hres
   subst hdd
   clear h
   ((first|refine rG Γ hm ?_|refine rD Γ hm qq ?_);(conv=>whnf);repeat((first|refine aF ?_|refine aT ?_);(first|refine rG Γ hm ?_|refine rD Γ hm qq ?_);conv=>whnf))
   refine Ap 4 3 Cg E ?_
   refine E9 1 4 E E qx ?_
   exact done E (.cons .tmp (.cons .tmp .nil)) [] (Aan n m dd) (fun _ h=>h) E E ⟨Y,⟨.inl E,E,.inl E,E,.inl E,E,.inl E,E,.inl E,E,Y⟩,E,E⟩
 have h1:¬ x.kind=5:=by simpa using h
 rw[if_neg h1]at hres hdd
 subst hres
 subst hdd
 clear h
 ((first|refine rG Γ hm ?_|refine rD Γ hm qq ?_);(conv=>whnf);repeat((first|refine aF ?_|refine aT ?_);(first|refine rG Γ hm ?_|refine rD Γ hm qq ?_);conv=>whnf))
 refine Ap 4 3 Cg E ?_
 refine E9 1 4 E E qx ?_
 exact done E (.cons .tmp (.cons .tmp .nil)) [] (Aan n m dd) (fun _ h=>h) E E ⟨Y,⟨.inl E,E,.inl E,E,.inl E,E,.inl E,E,.inl E,E,Y⟩,E,E⟩
theorem Ac3 (n:Net) (hn:n.Fin) (hb:okB n (List.replicate n.links.length true)=false) :
  Sy.Spec Tryz.prog 41 [Aq n] [] (.tup [.val (.pointer none),Aa 2]) []:=Ab Γ hm 100 F41 Tryz.ntmps41 rfl fun F hF=>by
 have hls:=hn.links
 unfold Am at hls
 have q1:=Afc n.links.length qn
 have q2:=V3 n (List.replicate n.links.length true) hn hb
 generalize List.replicate n.links.length true=up at *
 ((conv=>whnf);repeat((first|refine aF ?_|refine aT ?_);(first|refine rG Γ hm ?_|refine rD Γ hm qq ?_);conv=>whnf))
 refine Ea 7 Ad [true] E E ?_
 refine Au 7 E ?_
 ((first|refine rG Γ hm ?_|refine rD Γ hm qq ?_);(conv=>whnf);repeat((first|refine aF ?_|refine aT ?_);(first|refine rG Γ hm ?_|refine rD Γ hm qq ?_);conv=>whnf))
 refine Ah q1 F60 E E E E E ?_
 ((first|refine rG Γ hm ?_|refine rD Γ hm qq ?_);(conv=>whnf);repeat((first|refine aF ?_|refine aT ?_);(first|refine rG Γ hm ?_|refine rD Γ hm qq ?_);conv=>whnf))
 refine Ah q2 F61 E E E E E ?_
 ((first|refine rG Γ hm ?_|refine rD Γ hm qq ?_);(conv=>whnf);repeat((first|refine aF ?_|refine aT ?_);(first|refine rG Γ hm ?_|refine rD Γ hm qq ?_);conv=>whnf))
 exact Ac E (.cons .tmp (.cons .tmp .nil)) E E
theorem Alm (n:Net) (hn:n.Fin) (hb:okB n (List.replicate n.links.length true)=true) :
  Sy.Spec Tryz.prog 41 [Aq n] [] (.tup [.ptr 0 0,Aa 0]) (Cf n (newT n) false):=Ab Γ hm 100 F41 Tryz.ntmps41 rfl fun F hF=>by
 have hls:=hn.links
 have hds:=hn.domains
 unfold Am at hls hds
 have q1:=Afc n.links.length qn
 have q2:=X5 n (List.replicate n.links.length true) hn hb
 have hnt:=newT.eq_1 n
 generalize newT n=m at *
 generalize List.replicate n.links.length true=up at *
 ((conv=>whnf);repeat((first|refine aF ?_|refine aT ?_);(first|refine rG Γ hm ?_|refine rD Γ hm qq ?_);conv=>whnf))
 refine Ea 7 Ad [true] E E ?_
 refine Au 7 E ?_
 ((first|refine rG Γ hm ?_|refine rD Γ hm qq ?_);(conv=>whnf);repeat((first|refine aF ?_|refine aT ?_);(first|refine rG Γ hm ?_|refine rD Γ hm qq ?_);conv=>whnf))
 refine Ah q1 F60 E E E E E ?_
 ((first|refine rG Γ hm ?_|refine rD Γ hm qq ?_);(conv=>whnf);repeat((first|refine aF ?_|refine aT ?_);(first|refine rG Γ hm ?_|refine rD Γ hm qq ?_);conv=>whnf))
 refine Ah q2 F61 E E E E E ?_
 ((first|refine rG Γ hm ?_|refine rD Γ hm qq ?_);(conv=>whnf);repeat((first|refine aF ?_|refine aT ?_);(first|refine rG Γ hm ?_|refine rD Γ hm qq ?_);conv=>whnf))
 refine An (copyS n hn) F62 E E E qq E ?_
 ((first|refine rG Γ hm ?_|refine rD Γ hm qq ?_);(conv=>whnf);repeat((first|refine aF ?_|refine aT ?_);(first|refine rG Γ hm ?_|refine rD Γ hm qq ?_);conv=>whnf))
 refine Bv (Bw Γ.toTy (d:=28) (n:=n.domains.length) (fun _:Unit=>.val (.slice none 0 0)) () E E E E E E E E qn qn E E E) qq E ?_
 ((first|refine rG Γ hm ?_|refine rD Γ hm qq ?_);(conv=>whnf);repeat((first|refine aF ?_|refine aT ?_);(first|refine rG Γ hm ?_|refine rD Γ hm qq ?_);conv=>whnf))
 refine Bv (Bw Γ.toTy (d:=32) (n:=n.domains.length) (fun _:Unit=>.val (.slice none 0 0)) () E E E E E E E E qn qn E E E) qq E ?_
 ((first|refine rG Γ hm ?_|refine rD Γ hm qq ?_);(conv=>whnf);repeat((first|refine aF ?_|refine aT ?_);(first|refine rG Γ hm ?_|refine rD Γ hm qq ?_);conv=>whnf))
 refine⟨qq,?_⟩
 refine Acv 28 (e':=D5) (l':=List.replicate n.domains.length []) E qy (fun M w i h1 h2 v hv=>?_) ?_
 ·rw[List.getElem_replicate]
  simp only[RdD]at hv
  exact Wo hv
 refine Acv 32 (e':=U5) (l':=List.replicate n.domains.length []) E qy (fun M w i h1 h2 v hv=>?_) ?_
 ·rw[List.getElem_replicate]
  simp only[RdD]at hv
  exact Wo hv
 refine A0 24 (Kh n up false) E (.cons (.refl _) (.cons (.refl _) (.cons (.refl _) (.cons (.refl _) (.cons .nil .nil))))) ?_
 ((first|refine rG Γ hm ?_|refine rD Γ hm qq ?_);(conv=>whnf);repeat((first|refine aF ?_|refine aT ?_);(first|refine rG Γ hm ?_|refine rD Γ hm qq ?_);conv=>whnf))
 subst hnt
 exact done E (.cons .tmp (.cons .tmp .nil)) [(0,34),(1,24),(2,28),(3,32)] (Cf n ⟨up,List.replicate n.domains.length [],List.replicate n.domains.length [],0,0,fun _=>0⟩ false) (fun _ h=>h) E E ⟨Y,⟨.inl E,E,.inl E,E,.inl E,E,.inl E,E,Y⟩,E,E⟩
end Go.Sy.YtnlacjgkdjnhmaaGreat
namespace Go.Sy.YtnlacjgkdjnhmaaGreat
open Go.Proofs
theorem Sx (n:Net):∀ (a b:List StepM) (m:MacM),C8 n m (a++b)=((C8 n (C8 n m a).1 b).1,(C8 n m a).2++(C8 n (C8 n m a).1 b).2)
 | [],b,m=>by simp[C8]
 | o::a,b,m=>by
  rw[List.cons_append,C8,C8,Sx n a b]
  simp
theorem Agk (n:Net) (m:MacM) (l:List StepM) (j:Nat) (hj:j<l.length) :
  C8 n m (l.take (j+1))=((doT n (C8 n m (l.take j)).1 l[j]).1,(C8 n m (l.take j)).2++(doT n (C8 n m (l.take j)).1 l[j]).2):=by
 rw[List.take_succ_eq_append_getElem hj,Sx]
 simp[C8]
def runF (n:Net) (s:MacM × Bool) (l:List StepM):MacM × Bool:=l.foldl (fun s x=>((doT n s.1 x).1,doD n s.1 s.2 x)) s
theorem Aar (n:Net):∀ (l:List StepM) (s:MacM × Bool),(runF n s l).1=(C8 n s.1 l).1
 | [],s=>rfl
 | x::l,s=>by
  have:=Aar n l ((doT n s.1 x).1,doD n s.1 s.2 x)
  rw[C8]
  exact this
def runD (n:Net) (m:MacM) (d:Bool) (l:List StepM):Bool:=(runF n (m,d) l).2
theorem Agl (n:Net) (m:MacM) (d:Bool) (l:List StepM) (j:Nat) (hj:j<l.length) :
  runD n m d (l.take (j+1))=doD n (C8 n m (l.take j)).1 (runD n m d (l.take j)) l[j]:=by
 unfold runD
 rw[List.take_succ_eq_append_getElem hj]
 have:=Aar n (l.take j) (m,d)
 unfold runF at this ⊢
 rw[List.foldl_append]
 show doD n (List.foldl _ (m,d) (l.take j)).1 _ l[j]=_
 rw[this]
theorem doT_ok {n:Net} (hn:n.Fin) (hm1:n.Num) {m:MacM} {J D:Int} (h:MacOK n m J D) (hJ:0≤J) (hD:0≤D) (x:StepM):MacOK n (doT n m x).1 (J+1) (D+4294967298):=by
 unfold doT
 split
 ·exact(Ad3 hn h hJ hD _ _).mono qn qn
 split
 ·have hok:=Ui h x.domain x.at_
  unfold pickT
  split
  ·exact hok.1.mono qn qn
  ·have hb:=Li hn (I6 n (takeM m x.domain x.at_).1.up) (tableL (takeM m x.domain x.at_).1 x.domain) x.domain (takeM m x.domain x.at_).2.1 (takeM m x.domain x.at_).1.now
   have h1:=Aa3 hok.1 hD x.domain (Th (n:=n) (fw:=I6 n (takeM m x.domain x.at_).1.up) (dom:=x.domain) (now:=(takeM m x.domain x.at_).1.now) (Q5 hok.1 x.domain) hok.2)
   have h2:=Lb hn (takeM m x.domain x.at_).2.1.origin (Mn n (takeM m x.domain x.at_).1 x.domain (takeM m x.domain x.at_).2.1).2.1 h1 qn (Ti hn hm1 hok.2)
   refine h2.mono qn ?_
   unfold Mn
   omega
 split
 ·exact(Ui h x.domain x.at_).1.mono qn qn
 split
 ·have h1:=h.now
  refine⟨h.up,by unfold Mi;simp only[List.length_map];exact h.tabs,h.ques,fun t ht=>?_,h.que,?_,?_,fun i=>?_⟩
  ·unfold Mi at ht
   obtain ⟨t0,ht0,rfl⟩:=List.mem_map.1 ht
   exact Amk (h.tab t0 ht0) _
  ·unfold Mi
   dsimp only
   omega
  ·have:=h.inj
   unfold Mi
   dsimp only
   omega
  ·have:=h.drp i
   unfold Mi
   dsimp only
   omega
 split
 ·split
  ·rename_i h2
   exact MacOK.mono (n:=n) (m:=⟨x.up,m.tables,m.queues,m.now,m.injected,m.drops⟩) ⟨h2,h.tabs,h.ques,h.tab,h.que,h.now,h.inj,h.drp⟩ qn qn
  ·exact h.mono qn qn
 ·exact h.mono qn qn
theorem Afr {n:Net} (hn:n.Fin) (m:MacM) (x:StepM):(doT n m x).2.length<4294967296:=by
 unfold doT
 split
 ·show (0:Nat)<4294967296;decide
 split
 ·unfold pickT
  split
  ·show (0:Nat)<4294967296;decide
  ·have hb:=Li hn (I6 n (takeM m x.domain x.at_).1.up) (tableL (takeM m x.domain x.at_).1 x.domain) x.domain (takeM m x.domain x.at_).2.1 (takeM m x.domain x.at_).1.now
   have h2:=Jj n (takeM m x.domain x.at_).2.1.origin (Mn n (takeM m x.domain x.at_).1 x.domain (takeM m x.domain x.at_).2.1).2.1 (Jc (takeM m x.domain x.at_).1 x.domain (Mn n (takeM m x.domain x.at_).1 x.domain (takeM m x.domain x.at_).2.1))
   unfold Mn at h2 ⊢
   omega
 split
 ·show (0:Nat)<4294967296;decide
 split
 ·show (0:Nat)<4294967296;decide
 split
 ·show (0:Nat)<4294967296;decide
 ·show (0:Nat)<4294967296;decide
theorem Ae9 {n:Net} (hn:n.Fin) (hm1:n.Num):∀ (l:List StepM) {m:MacM} {J D:Int},MacOK n m J D→0≤J→0≤D→MacOK n (C8 n m l).1 (J+l.length) (D+l.length * 4294967298)
 | [],m,J,D,h,_,_=>by
  rw[C8]
  exact h.mono qy qy
 | x::l,m,J,D,h,hJ,hD=>by
  rw[C8]
  have:=Ae9 hn hm1 l (doT_ok hn hm1 h hJ hD x) qn qn
  exact this.mono (by simp only[List.length_cons];omega) (by simp only[List.length_cons];omega)
theorem Uu {n:Net} (hn:n.Fin):∀ (l:List StepM) (m:MacM),(C8 n m l).2.length≤l.length * 4294967296
 | [],m=>by simp[C8]
 | x::l,m=>by
  rw[C8]
  have h1:=Uu hn l (doT n m x).1
  have h2:=Afr hn m x
  simp only[List.length_append,List.length_cons]
  omega
theorem Afg (n:Net):MacOK n (newT n) 0 0:=by
 refine⟨by simp[newT],by simp[newT],by simp[newT],fun t ht=>?_,fun l hl=>?_,by simp[newT],by simp[newT],fun i=>by simp[newT]⟩
 ·have:t=[]:=(List.mem_replicate.1 ht).2
  rw[this];exact Se
 ·have:l=[]:=(List.mem_replicate.1 hl).2
  rw[this];exact S6
def Af3 (n:Net):List Bool:=List.replicate n.links.length true
structure ScriptOK (l:List StepM):Prop where
 few:l.length≤60
 bytes:∀ x∈l,x.bytes.length≤2000
attribute [local irreducible] Go.Sy.G Go.Sy.DR
set_option maxRecDepth 100000
set_option maxHeartbeats 4000000
def runO (n:Net) (m:MacM) (d:Bool) (l:List SeenM):Obs:=[(0,.box (Tq n 1 m.now m.injected m.drops)),(1,.box (Kh n m.up d)),(2,.row 1 D5 m.tables),(3,.row 1 U5 m.queues),(1000,.row 3 Cg l)]
end Go.Sy.YtnlacjgkdjnhmaaGreat
namespace Go.Sy.YtnlacjgkdjnhmaaGreat
open Go.Proofs
attribute [local irreducible] Go.Sy.G Go.Sy.DR
set_option maxRecDepth 100000
set_option maxHeartbeats 4000000
theorem Acj (b:ByteArray):(b == b)=true:=by
 show (b.data == b.data)=true
 simp
end Go.Sy.YtnlacjgkdjnhmaaGreat
namespace Go.Sy.YtnlacjgkdjnhmaaGreat
section
variable {n:Net} {up:List Bool} {ranks roots costs:List Int}
end
end Go.Sy.YtnlacjgkdjnhmaaGreat
namespace Go.Sy.YtnlacjgkdjnhmaaGreat
instance:Inhabited Vec:=⟨⟨0,0,0,0,0⟩⟩
section
variable {n:Net} {up:List Bool} {ranks roots costs:List Int}
end
end Go.Sy.YtnlacjgkdjnhmaaGreat
namespace Go.Sy.YtnlacjgkdjnhmaaGreat
open Go.Proofs
attribute [local irreducible] Go.Sy.G Go.Sy.DR
set_option maxRecDepth 100000
set_option maxHeartbeats 4000000
theorem any_at3 {α:Type} {p:α→Bool} {l:List α} {j:Nat} (hj:j<l.length) (h:p l[j]=true):l.any p=true:=List.any_eq_true.2 ⟨_,List.getElem_mem hj,h⟩
theorem Ye {α:Type} {p:α→Bool} {l:List α} {j:Nat} (hI:Dy (fun _ x=>!(p x)) l j) (hj:l.length≤j):l.any p=false:=by
 rw[List.any_eq_false]
 intro x hx
 obtain ⟨i,hi,rfl⟩:=List.getElem_of_mem hx
 have:=hI i hi qn
 simpa using this
def Hi (x:StepM):Bool:=decide (2000<x.bytes.length) || decide (60<x.up.length)
def great33B (l:List StepM):Bool:=decide (60<l.length) || l.any Hi
theorem Aj7 (l:List StepM):Sy.Spec Tryz.prog 11 [.sl 6 Bg l] [] (Ad (great33B l)) []:=Ab Γ hm 100 F11 Tryz.ntmps11 rfl fun F hF=>by
 have hres:=great33B.eq_1 l
 generalize great33B l=res at *
 ((conv=>whnf);repeat((first|refine aF ?_|refine aT ?_);(first|refine rG Γ hm ?_|refine rD Γ hm qq ?_);conv=>whnf))
 refine⟨fun h=>?_,fun h=>?_⟩
 ·rw[decide_eq_true (by have:=of_decide_eq_true h;omega),Bool.true_or]at hres
  subst hres
  ((first|refine rG Γ hm ?_|refine rD Γ hm qq ?_);(conv=>whnf);repeat((first|refine aF ?_|refine aT ?_);(first|refine rG Γ hm ?_|refine rD Γ hm qq ?_);conv=>whnf))
  exact Ac E (.cons .tmp .nil) E E
 have hl:l.length≤60:=by have:=of_decide_eq_false h;omega
 rw[decide_eq_false qn,Bool.false_or]at hres
 ((first|refine rG Γ hm ?_|refine rD Γ hm qq ?_);(conv=>whnf);repeat((first|refine aF ?_|refine aT ?_);(first|refine rG Γ hm ?_|refine rD Γ hm qq ?_);conv=>whnf))
 refine Bc l.length (fun j=>Dy (fun _ x=>!(Hi x)) l j) (fun j=>[(0,.sl 6 Bg l),(3,Aa j)]) (fun _=>[]) [] (Bd _ _) ⟨⟨E,E,E,E,Y⟩,Y,E,E⟩ ?_
 intro j hj hI
 ((first|refine rG Γ hm ?_|refine rD Γ hm qq ?_);(conv=>whnf);repeat((first|refine aF ?_|refine aT ?_);(first|refine rG Γ hm ?_|refine rD Γ hm qq ?_);conv=>whnf))
 refine⟨fun h=>?_,fun h=>?_⟩
 ·have hlt:j<l.length:=by have:=of_decide_eq_true h;omega
  have hj0:((j:Nat):Int).toNat<l.length:=by simpa using hlt
  have hat:=fun h=>@any_at3 _ Hi l j hlt h
  have hnx:=fun h=>Ba (p:=fun _ x=>!(Hi x)) hI hlt h
  obtain ⟨x,hx⟩:∃ x,l[((j:Nat):Int).toNat]'hj0=x:=⟨_,rfl⟩
  have hx':l[j]=x:=hx
  rw[hx']at hat hnx
  ((first|refine rG Γ hm ?_|refine rD Γ hm qq ?_);(conv=>whnf);repeat((first|refine aF ?_|refine aT ?_);(first|refine rG Γ hm ?_|refine rD Γ hm qq ?_);conv=>whnf))
  refine⟨E,by omega,hj0,?_⟩
  rw[hx]
  ((conv=>whnf);repeat((first|refine aF ?_|refine aT ?_);(first|refine rG Γ hm ?_|refine rD Γ hm qq ?_);conv=>whnf))
  refine⟨fun h=>?_,fun h=>?_⟩
  ·rw[hat (by rw[Hi,decide_eq_true (by have:=of_decide_eq_true h;omega),Bool.true_or])]at hres
   subst hres
   ((first|refine rG Γ hm ?_|refine rD Γ hm qq ?_);(conv=>whnf);repeat((first|refine aF ?_|refine aT ?_);(first|refine rG Γ hm ?_|refine rD Γ hm qq ?_);conv=>whnf))
   exact Ac E (.cons .tmp .nil) E E
  have h1:=of_decide_eq_false h
  ((first|refine rG Γ hm ?_|refine rD Γ hm qq ?_);(conv=>whnf);repeat((first|refine aF ?_|refine aT ?_);(first|refine rG Γ hm ?_|refine rD Γ hm qq ?_);conv=>whnf))
  refine⟨E,by omega,hj0,?_⟩
  rw[hx]
  ((conv=>whnf);repeat((first|refine aF ?_|refine aT ?_);(first|refine rG Γ hm ?_|refine rD Γ hm qq ?_);conv=>whnf))
  refine⟨fun h=>?_,fun h=>?_⟩
  ·rw[hat (by rw[Hi,decide_eq_true (by have:=of_decide_eq_true h;omega:60<x.up.length),Bool.or_true])]at hres
   subst hres
   ((first|refine rG Γ hm ?_|refine rD Γ hm qq ?_);(conv=>whnf);repeat((first|refine aF ?_|refine aT ?_);(first|refine rG Γ hm ?_|refine rD Γ hm qq ?_);conv=>whnf))
   exact Ac E (.cons .tmp .nil) E E
  have h2:=of_decide_eq_false h
  ((first|refine rG Γ hm ?_|refine rD Γ hm qq ?_);(conv=>whnf);repeat((first|refine aF ?_|refine aT ?_);(first|refine rG Γ hm ?_|refine rD Γ hm qq ?_);conv=>whnf))
  refine⟨by unfold I64;omega,?_⟩
  ((conv=>whnf);repeat((first|refine aF ?_|refine aT ?_);(first|refine rG Γ hm ?_|refine rD Γ hm qq ?_);conv=>whnf))
  exact A9 [] hI qn (hnx (by rw[Hi,decide_eq_false qn,decide_eq_false qn];rfl)) ⟨⟨E,E,E,E,Y⟩,Y,E,E⟩
 ·have hje:j=l.length:=by have:=of_decide_eq_false h;omega
  subst hje
  rw[Ye hI (Nat.le_refl _)]at hres
  subst hres
  ((first|refine rG Γ hm ?_|refine rD Γ hm qq ?_);(conv=>whnf);repeat((first|refine aF ?_|refine aT ?_);(first|refine rG Γ hm ?_|refine rD Γ hm qq ?_);conv=>whnf))
  exact Ac E (.cons .tmp .nil) E E
theorem W3 {l:List StepM} (h:great33B l=false):l.length≤60∧∀ x∈l,x.bytes.length≤2000∧x.up.length≤60:=by
 simp only[great33B,Hi,Bool.or_eq_false_iff,decide_eq_false_iff_not,List.any_eq_false,Bool.or_eq_true,decide_eq_true_eq]at h
 refine⟨by omega,fun x hx=>?_⟩
 have:=h.2 x hx
 omega
end Go.Sy.YtnlacjgkdjnhmaaGreat
namespace Go.Sy
open Go.ChangeShapes Go.WideShapes Go.ChangeAt Go.RowKit
section
variable {H:Type} (enc:TypeId × Value→H) (P:Program) (W:World)
def Op1 (t:TypeId) {α:Type} (e:α→SV) (p:α→Prop):Prop :=
 ∀ n c y,DataW.trod enc P W 0 (fun _=>true) true n t [c]=some y→∃ x,p x∧Rd κ0 W (e x) c∧c.oneCell'=true
def OpN (t:TypeId) {α:Type} (e:α→SV) (p:α→Prop) (sz:Nat):Prop :=
 ∀ n cs y,DataW.trod enc P W 0 (fun _=>true) true n t cs=some y→∃ x,p x∧cs.length=sz∧Ones cs∧RdL κ0 W (cellsOf (e x)) cs
variable {enc P W}
theorem Bn {t:TypeId} {k:IntKind} (ht:P.underlying t=some (.int k)):Op1 enc P W t (fun z=>.val (.int k z)) (fun z=>(Lit.int k z).wf=true):=fun n c y h=>by
 obtain ⟨z,e,_,hw⟩:=DataW.trod_int ht h
 have e:c=.int k z:=by simpa using e
 subst e
 exact⟨z,hw,by simp[Rd],E⟩
theorem Adk {t:TypeId} (ht:P.underlying t=some .string):Op1 enc P W t Xg (fun s=>s.size≤maxLen):=fun n c y h=>by
 obtain ⟨z,e,_,hw⟩:=DataW.trod_string ht h
 have e:c=.string z:=by simpa using e
 subst e
 exact⟨z,hw,by simp[Xg,Rd],E⟩
theorem Y4 {t:TypeId} {k:IntKind} (ht:P.underlying t=some (.int k)):OpN enc P W t (fun z=>.val (.int k z)) (fun z=>(Lit.int k z).wf=true) 1:=fun n cs y h=>by
 obtain ⟨z,rfl,_,hw⟩:=DataW.trod_int ht h
 refine⟨z,hw,E,fun c hc=>by simp at hc;subst hc;rfl,?_⟩
 simp[cellsOf,RdL,Rd]
theorem Ajl {t:TypeId} (ht:P.underlying t=some .bool):OpN enc P W t Ad (fun _=>True) 1:=fun n cs y h=>by
 obtain ⟨z,rfl,_⟩:=DataW.trod_bool ht h
 refine⟨z,Y,E,fun c hc=>by simp at hc;subst hc;rfl,?_⟩
 simp[Ad,cellsOf,RdL,Rd]
theorem Yd {base:Nat} {a:Addr} {n:Nat} {cs:List Value} (h:W.cells? base a n=some cs):cs.length=n∧∀ j (_:j<n),W.cell? (a.add j)=cs[j]?:=by
 unfold World.cells? at h
 split at h
 ·refine⟨by simpa using mapM_some_length h,fun j hj=>?_⟩
  exact mapM_some_get h j j (by simp[hj])
 ·cases h
theorem Cm {t et:TypeId} {α:Type} {e:α→SV} {p:α→Prop} {sz:Nat} (ht:P.underlying t=some (.slice et)) (hsz:P.cellsOf et=sz) (h0:0<sz) (hb:∀ x,(e x).boxed=true) (hd:∀ x,(e x).data=true) (hO:OpN enc P W et e p sz) :
  Op1 enc P W t (fun l:List α=>.sl sz e l) (fun l=>(∀ x∈l,p x)∧l.length≤maxLen):=fun n c y h=>by
 rcases DataW.trod_slice ht h with ⟨hcs,_⟩ | ⟨a,len,cap,elems,rest,m,rfl,hcs,_,_,hlc,hcm,hel,hget,_⟩
 ·have hc:c=.slice none 0 0:=by simpa using hcs
  subst hc
  refine⟨[],⟨by simp,Nat.zero_le _⟩,?_,E⟩
  simp only[Rd,RdD]
  exact .inl ⟨Y,none,0,E⟩
 ·have hc:c=.slice (some a) len cap:=by simpa using hcs
  subst hc
  rw[hsz]at hget
  have hall:∀ i:Fin len,∃ x,p x∧∃ cs,W.cells? 0 (a.add (i * sz)) sz=some cs∧cs.length=sz∧Ones cs∧RdL κ0 W (cellsOf (e x)) cs:=fun i=>by
   have h1:=hget i.1 i.2
   rw[List.getElem?_eq_getElem qn]at h1
   obtain ⟨cs,h2,h3⟩:=Option.bind_eq_some_iff.1 h1
   obtain ⟨x,h4,h5,h6,h7⟩:=hO _ _ _ h3
   exact⟨x,h4,cs,h2,h5,h6,h7⟩
  let xs:Fin len→α:=fun i=>Classical.choose (hall i)
  have hxs:∀ i,p (xs i)∧∃ cs,W.cells? 0 (a.add (i.1 * sz)) sz=some cs∧cs.length=sz∧Ones cs∧RdL κ0 W (cellsOf (e (xs i))) cs:=fun i=>Classical.choose_spec (hall i)
  refine⟨List.ofFn xs,⟨fun x hx=>?_,by simp;omega⟩,?_,E⟩
  ·obtain ⟨i,rfl⟩:=List.mem_ofFn.1 hx
   exact(hxs i).1
  ·simp only[Rd,RdD]
   by_cases hl:len=0
   ·subst hl
    exact .inl ⟨by simp,_,_,E⟩
   ·have hcell:∀ i:Fin len,∀ j,j<sz→∃ v,W.cell? ((a.add (i.1 * sz)).add j)=some v:=fun i j hj=>by
     obtain ⟨_,cs,h1,h2,_⟩:=hxs i
     have:=(Yd h1).2 j hj
     rw[List.getElem?_eq_getElem qn]at this
     exact⟨_,this⟩
    obtain ⟨b,off,spot⟩:=a
    have hspot:spot=none:=by
     obtain ⟨v,hv⟩:=hcell ⟨0,by omega⟩ 0 h0
     simpa [Addr.add] using World.cell?_spot hv
    subst hspot
    have hadd:∀ i j,((⟨b,off,none⟩:Addr).add i).add j=⟨b,off+i+j,none⟩:=fun i j=>by rw[Addr.add_lit,Addr.add_lit]
    refine .inr ⟨b,off,cap,by simp,by simpa using hlc,?_,?_,fun i hi=>?_⟩
    ·rintro (⟨k,hk⟩ | hk)
     ·cases hk
     ·exact hk
    ·obtain ⟨v,hv⟩:=hcell ⟨0,by omega⟩ 0 h0
     rw[hadd]at hv
     rcases Nat.lt_or_ge b W.heap.size with h | h
     ·exact h
     ·simp[World.cell?,Array.getElem?_eq_none h]at hv
    ·simp only[List.length_ofFn]at hi
     obtain ⟨_,cs,h1,h2,h3,h4⟩:=hxs ⟨i,hi⟩
     obtain ⟨u,g1,g2⟩:=Rd.of_cells (hb _) h3 h4
     refine⟨u,?_,?_,by rw[g2];exact h3,fun j hj=>?_⟩
     ·rw[List.getElem_ofFn]
      exact Rd.data _ _ (hd _) g1
     ·have:u.cells.toList.length=sz:=by rw[g2,h2]
      simpa using this
     ·have:=(Yd h1).2 j hj
      rw[hadd]at this
      rw[this,← g2]
      simp
end
end Go.Sy
namespace Go.Sy.YtnlacjgkdjnhmaaGreat
open Go.Proofs Go.ChangeShapes Go.WideShapes Go.ChangeAt Go.RowKit
set_option maxRecDepth 100000
section
variable {H:Type} {enc:TypeId × Value→H} {W:World}
def wI (k:IntKind) (z:Int):Prop:=(Lit.int k z).wf=true
theorem O9:Op1 enc Tryz.prog W 32 (fun l:List Int=>.sl 1 (fun z=>.val (.int .i64 z)) l) (fun l=>(∀ z∈l,wI .i64 z)∧l.length≤maxLen) :=
 Cm Tryz.underlying32 (by kernel_rfl:Tryz.prog.cellsOf 3=1) qx (fun _=>rfl) (fun _=>rfl) (Y4 Tryz.underlying3)
theorem Als:Op1 enc Tryz.prog W 67 (fun l:List Int=>.sl 1 (fun z=>.val (.int .u32 z)) l) (fun l=>(∀ z∈l,wI .u32 z)∧l.length≤maxLen) :=
 Cm Tryz.underlying67 (by kernel_rfl:Tryz.prog.cellsOf 49=1) qx (fun _=>rfl) (fun _=>rfl) (Y4 Tryz.underlying49)
def Device.In (x:Device):Prop:=wI .i64 x.row∧wI .i64 x.prio∧x.name.size≤maxLen∧wI .u64 x.mac∧wI .u32 x.vtep
theorem Adp:OpN enc Tryz.prog W 51 A1 Device.In 5:=fun n cs y h=>by
 obtain ⟨xs,m,_,_,hlen,hx,hg⟩:=DataW.trod_struct Tryz.underlying51 h
 have hlen:cs.length=5:=hlen.trans (by kernel_rfl:Tryz.prog.cellsOf 51=5)
 have hx:xs.length=5:=hx
 match cs,hlen with
 | [c0,c1,c2,c3,c4],_ =>
  have g0:DataW.trod enc Tryz.prog W 0 (fun _=>true) true m 3 (([c0,c1,c2,c3,c4].drop 0).take (Tryz.prog.cellsOf 3))=xs[0]?:=hg 0 _ rfl
  rw[(by kernel_rfl:Tryz.prog.cellsOf 3=1),List.getElem?_eq_getElem qn]at g0
  obtain ⟨z0,p0,r0,o0⟩:=Bn Tryz.underlying3 _ _ _ g0
  have g1:DataW.trod enc Tryz.prog W 0 (fun _=>true) true m 3 (([c0,c1,c2,c3,c4].drop 1).take (Tryz.prog.cellsOf 3))=xs[1]?:=hg 1 _ rfl
  rw[(by kernel_rfl:Tryz.prog.cellsOf 3=1),List.getElem?_eq_getElem qn]at g1
  obtain ⟨z1,p1,r1,o1⟩:=Bn Tryz.underlying3 _ _ _ g1
  have g2:DataW.trod enc Tryz.prog W 0 (fun _=>true) true m 9 (([c0,c1,c2,c3,c4].drop 2).take (Tryz.prog.cellsOf 9))=xs[2]?:=hg 2 _ rfl
  rw[(by kernel_rfl:Tryz.prog.cellsOf 9=1),List.getElem?_eq_getElem qn]at g2
  obtain ⟨z2,p2,r2,o2⟩:=Adk Tryz.underlying9 _ _ _ g2
  have g3:DataW.trod enc Tryz.prog W 0 (fun _=>true) true m 48 (([c0,c1,c2,c3,c4].drop 3).take (Tryz.prog.cellsOf 48))=xs[3]?:=hg 3 _ rfl
  rw[(by kernel_rfl:Tryz.prog.cellsOf 48=1),List.getElem?_eq_getElem qn]at g3
  obtain ⟨z3,p3,r3,o3⟩:=Bn Tryz.underlying48 _ _ _ g3
  have g4:DataW.trod enc Tryz.prog W 0 (fun _=>true) true m 49 (([c0,c1,c2,c3,c4].drop 4).take (Tryz.prog.cellsOf 49))=xs[4]?:=hg 4 _ rfl
  rw[(by kernel_rfl:Tryz.prog.cellsOf 49=1),List.getElem?_eq_getElem qn]at g4
  obtain ⟨z4,p4,r4,o4⟩:=Bn Tryz.underlying49 _ _ _ g4
  refine⟨⟨z0,z1,z2,z3,z4⟩,⟨p0,p1,p2,p3,p4⟩,E,fun c hc=>?_,?_⟩
  ·simp only[List.mem_cons,List.not_mem_nil,or_false]at hc
   rcases hc with rfl | rfl | rfl | rfl | rfl<;>assumption
  ·simp only[A1,cellsOf,RdL]
   exact⟨_,_,E,r0,_,_,E,r1,_,_,E,r2,_,_,E,r3,_,_,E,r4,E⟩
def Port.In (x:Port):Prop:=wI .i64 x.row∧wI .i64 x.dev∧wI .i64 x.native∧wI .i64 x.cost∧wI .i64 x.link∧x.name.size≤maxLen∧((∀ z∈x.tagged,wI .i64 z)∧x.tagged.length≤maxLen)
theorem Ajm:OpN enc Tryz.prog W 53 A3 Port.In 7:=fun n cs y h=>by
 obtain ⟨xs,m,_,_,hlen,hx,hg⟩:=DataW.trod_struct Tryz.underlying53 h
 have hlen:cs.length=7:=hlen.trans (by kernel_rfl:Tryz.prog.cellsOf 53=7)
 have hx:xs.length=7:=hx
 match cs,hlen with
 | [c0,c1,c2,c3,c4,c5,c6],_ =>
  have g0:DataW.trod enc Tryz.prog W 0 (fun _=>true) true m 3 (([c0,c1,c2,c3,c4,c5,c6].drop 0).take (Tryz.prog.cellsOf 3))=xs[0]?:=hg 0 _ rfl
  rw[(by kernel_rfl:Tryz.prog.cellsOf 3=1),List.getElem?_eq_getElem qn]at g0
  obtain ⟨z0,p0,r0,o0⟩:=Bn Tryz.underlying3 _ _ _ g0
  have g1:DataW.trod enc Tryz.prog W 0 (fun _=>true) true m 3 (([c0,c1,c2,c3,c4,c5,c6].drop 1).take (Tryz.prog.cellsOf 3))=xs[1]?:=hg 1 _ rfl
  rw[(by kernel_rfl:Tryz.prog.cellsOf 3=1),List.getElem?_eq_getElem qn]at g1
  obtain ⟨z1,p1,r1,o1⟩:=Bn Tryz.underlying3 _ _ _ g1
  have g2:DataW.trod enc Tryz.prog W 0 (fun _=>true) true m 3 (([c0,c1,c2,c3,c4,c5,c6].drop 2).take (Tryz.prog.cellsOf 3))=xs[2]?:=hg 2 _ rfl
  rw[(by kernel_rfl:Tryz.prog.cellsOf 3=1),List.getElem?_eq_getElem qn]at g2
  obtain ⟨z2,p2,r2,o2⟩:=Bn Tryz.underlying3 _ _ _ g2
  have g3:DataW.trod enc Tryz.prog W 0 (fun _=>true) true m 3 (([c0,c1,c2,c3,c4,c5,c6].drop 3).take (Tryz.prog.cellsOf 3))=xs[3]?:=hg 3 _ rfl
  rw[(by kernel_rfl:Tryz.prog.cellsOf 3=1),List.getElem?_eq_getElem qn]at g3
  obtain ⟨z3,p3,r3,o3⟩:=Bn Tryz.underlying3 _ _ _ g3
  have g4:DataW.trod enc Tryz.prog W 0 (fun _=>true) true m 3 (([c0,c1,c2,c3,c4,c5,c6].drop 4).take (Tryz.prog.cellsOf 3))=xs[4]?:=hg 4 _ rfl
  rw[(by kernel_rfl:Tryz.prog.cellsOf 3=1),List.getElem?_eq_getElem qn]at g4
  obtain ⟨z4,p4,r4,o4⟩:=Bn Tryz.underlying3 _ _ _ g4
  have g5:DataW.trod enc Tryz.prog W 0 (fun _=>true) true m 9 (([c0,c1,c2,c3,c4,c5,c6].drop 5).take (Tryz.prog.cellsOf 9))=xs[5]?:=hg 5 _ rfl
  rw[(by kernel_rfl:Tryz.prog.cellsOf 9=1),List.getElem?_eq_getElem qn]at g5
  obtain ⟨z5,p5,r5,o5⟩:=Adk Tryz.underlying9 _ _ _ g5
  have g6:DataW.trod enc Tryz.prog W 0 (fun _=>true) true m 32 (([c0,c1,c2,c3,c4,c5,c6].drop 6).take (Tryz.prog.cellsOf 32))=xs[6]?:=hg 6 _ rfl
  rw[(by kernel_rfl:Tryz.prog.cellsOf 32=1),List.getElem?_eq_getElem qn]at g6
  obtain ⟨z6,p6,r6,o6⟩:=O9 _ _ _ g6
  refine⟨⟨z0,z1,z2,z3,z4,z5,z6⟩,⟨p0,p1,p2,p3,p4,p5,p6⟩,E,fun c hc=>?_,?_⟩
  ·simp only[List.mem_cons,List.not_mem_nil,or_false]at hc
   rcases hc with rfl | rfl | rfl | rfl | rfl | rfl | rfl<;>assumption
  ·simp only[A3,cellsOf,RdL]
   exact⟨_,_,E,r0,_,_,E,r1,_,_,E,r2,_,_,E,r3,_,_,E,r4,_,_,E,r5,_,_,E,r6,E⟩
def Link.In (x:Link):Prop:=wI .i64 x.row∧wI .i64 x.a∧wI .i64 x.b
theorem Ajn:OpN enc Tryz.prog W 91 B6 Link.In 3:=fun n cs y h=>by
 obtain ⟨xs,m,_,_,hlen,hx,hg⟩:=DataW.trod_struct Tryz.underlying91 h
 have hlen:cs.length=3:=hlen.trans (by kernel_rfl:Tryz.prog.cellsOf 91=3)
 have hx:xs.length=3:=hx
 match cs,hlen with
 | [c0,c1,c2],_ =>
  have g0:DataW.trod enc Tryz.prog W 0 (fun _=>true) true m 3 (([c0,c1,c2].drop 0).take (Tryz.prog.cellsOf 3))=xs[0]?:=hg 0 _ rfl
  rw[(by kernel_rfl:Tryz.prog.cellsOf 3=1),List.getElem?_eq_getElem qn]at g0
  obtain ⟨z0,p0,r0,o0⟩:=Bn Tryz.underlying3 _ _ _ g0
  have g1:DataW.trod enc Tryz.prog W 0 (fun _=>true) true m 3 (([c0,c1,c2].drop 1).take (Tryz.prog.cellsOf 3))=xs[1]?:=hg 1 _ rfl
  rw[(by kernel_rfl:Tryz.prog.cellsOf 3=1),List.getElem?_eq_getElem qn]at g1
  obtain ⟨z1,p1,r1,o1⟩:=Bn Tryz.underlying3 _ _ _ g1
  have g2:DataW.trod enc Tryz.prog W 0 (fun _=>true) true m 3 (([c0,c1,c2].drop 2).take (Tryz.prog.cellsOf 3))=xs[2]?:=hg 2 _ rfl
  rw[(by kernel_rfl:Tryz.prog.cellsOf 3=1),List.getElem?_eq_getElem qn]at g2
  obtain ⟨z2,p2,r2,o2⟩:=Bn Tryz.underlying3 _ _ _ g2
  refine⟨⟨z0,z1,z2⟩,⟨p0,p1,p2⟩,E,fun c hc=>?_,?_⟩
  ·simp only[List.mem_cons,List.not_mem_nil,or_false]at hc
   rcases hc with rfl | rfl | rfl<;>assumption
  ·simp only[B6,cellsOf,RdL]
   exact⟨_,_,E,r0,_,_,E,r1,_,_,E,r2,E⟩
def Domain.In (x:Domain):Prop:=wI .i64 x.dev∧wI .i64 x.vlan∧wI .i64 x.vni∧wI .i64 x.irb∧wI .i64 x.row∧((∀ z∈x.peers,wI .i64 z)∧x.peers.length≤maxLen)
theorem Ado:OpN enc Tryz.prog W 55 As Domain.In 6:=fun n cs y h=>by
 obtain ⟨xs,m,_,_,hlen,hx,hg⟩:=DataW.trod_struct Tryz.underlying55 h
 have hlen:cs.length=6:=hlen.trans (by kernel_rfl:Tryz.prog.cellsOf 55=6)
 have hx:xs.length=6:=hx
 match cs,hlen with
 | [c0,c1,c2,c3,c4,c5],_ =>
  have g0:DataW.trod enc Tryz.prog W 0 (fun _=>true) true m 3 (([c0,c1,c2,c3,c4,c5].drop 0).take (Tryz.prog.cellsOf 3))=xs[0]?:=hg 0 _ rfl
  rw[(by kernel_rfl:Tryz.prog.cellsOf 3=1),List.getElem?_eq_getElem qn]at g0
  obtain ⟨z0,p0,r0,o0⟩:=Bn Tryz.underlying3 _ _ _ g0
  have g1:DataW.trod enc Tryz.prog W 0 (fun _=>true) true m 3 (([c0,c1,c2,c3,c4,c5].drop 1).take (Tryz.prog.cellsOf 3))=xs[1]?:=hg 1 _ rfl
  rw[(by kernel_rfl:Tryz.prog.cellsOf 3=1),List.getElem?_eq_getElem qn]at g1
  obtain ⟨z1,p1,r1,o1⟩:=Bn Tryz.underlying3 _ _ _ g1
  have g2:DataW.trod enc Tryz.prog W 0 (fun _=>true) true m 3 (([c0,c1,c2,c3,c4,c5].drop 2).take (Tryz.prog.cellsOf 3))=xs[2]?:=hg 2 _ rfl
  rw[(by kernel_rfl:Tryz.prog.cellsOf 3=1),List.getElem?_eq_getElem qn]at g2
  obtain ⟨z2,p2,r2,o2⟩:=Bn Tryz.underlying3 _ _ _ g2
  have g3:DataW.trod enc Tryz.prog W 0 (fun _=>true) true m 3 (([c0,c1,c2,c3,c4,c5].drop 3).take (Tryz.prog.cellsOf 3))=xs[3]?:=hg 3 _ rfl
  rw[(by kernel_rfl:Tryz.prog.cellsOf 3=1),List.getElem?_eq_getElem qn]at g3
  obtain ⟨z3,p3,r3,o3⟩:=Bn Tryz.underlying3 _ _ _ g3
  have g4:DataW.trod enc Tryz.prog W 0 (fun _=>true) true m 3 (([c0,c1,c2,c3,c4,c5].drop 4).take (Tryz.prog.cellsOf 3))=xs[4]?:=hg 4 _ rfl
  rw[(by kernel_rfl:Tryz.prog.cellsOf 3=1),List.getElem?_eq_getElem qn]at g4
  obtain ⟨z4,p4,r4,o4⟩:=Bn Tryz.underlying3 _ _ _ g4
  have g5:DataW.trod enc Tryz.prog W 0 (fun _=>true) true m 32 (([c0,c1,c2,c3,c4,c5].drop 5).take (Tryz.prog.cellsOf 32))=xs[5]?:=hg 5 _ rfl
  rw[(by kernel_rfl:Tryz.prog.cellsOf 32=1),List.getElem?_eq_getElem qn]at g5
  obtain ⟨z5,p5,r5,o5⟩:=O9 _ _ _ g5
  refine⟨⟨z0,z1,z2,z3,z4,z5⟩,⟨p0,p1,p2,p3,p4,p5⟩,E,fun c hc=>?_,?_⟩
  ·simp only[List.mem_cons,List.not_mem_nil,or_false]at hc
   rcases hc with rfl | rfl | rfl | rfl | rfl | rfl<;>assumption
  ·simp only[As,cellsOf,RdL]
   exact⟨_,_,E,r0,_,_,E,r1,_,_,E,r2,_,_,E,r3,_,_,E,r4,_,_,E,r5,E⟩
def Static.In (x:Static):Prop:=wI .i64 x.row∧wI .i64 x.domain∧wI .i64 x.port∧wI .u64 x.mac
theorem Adm:OpN enc Tryz.prog W 95 Be Static.In 4:=fun n cs y h=>by
 obtain ⟨xs,m,_,_,hlen,hx,hg⟩:=DataW.trod_struct Tryz.underlying95 h
 have hlen:cs.length=4:=hlen.trans (by kernel_rfl:Tryz.prog.cellsOf 95=4)
 have hx:xs.length=4:=hx
 match cs,hlen with
 | [c0,c1,c2,c3],_ =>
  have g0:DataW.trod enc Tryz.prog W 0 (fun _=>true) true m 3 (([c0,c1,c2,c3].drop 0).take (Tryz.prog.cellsOf 3))=xs[0]?:=hg 0 _ rfl
  rw[(by kernel_rfl:Tryz.prog.cellsOf 3=1),List.getElem?_eq_getElem qn]at g0
  obtain ⟨z0,p0,r0,o0⟩:=Bn Tryz.underlying3 _ _ _ g0
  have g1:DataW.trod enc Tryz.prog W 0 (fun _=>true) true m 3 (([c0,c1,c2,c3].drop 1).take (Tryz.prog.cellsOf 3))=xs[1]?:=hg 1 _ rfl
  rw[(by kernel_rfl:Tryz.prog.cellsOf 3=1),List.getElem?_eq_getElem qn]at g1
  obtain ⟨z1,p1,r1,o1⟩:=Bn Tryz.underlying3 _ _ _ g1
  have g2:DataW.trod enc Tryz.prog W 0 (fun _=>true) true m 3 (([c0,c1,c2,c3].drop 2).take (Tryz.prog.cellsOf 3))=xs[2]?:=hg 2 _ rfl
  rw[(by kernel_rfl:Tryz.prog.cellsOf 3=1),List.getElem?_eq_getElem qn]at g2
  obtain ⟨z2,p2,r2,o2⟩:=Bn Tryz.underlying3 _ _ _ g2
  have g3:DataW.trod enc Tryz.prog W 0 (fun _=>true) true m 48 (([c0,c1,c2,c3].drop 3).take (Tryz.prog.cellsOf 48))=xs[3]?:=hg 3 _ rfl
  rw[(by kernel_rfl:Tryz.prog.cellsOf 48=1),List.getElem?_eq_getElem qn]at g3
  obtain ⟨z3,p3,r3,o3⟩:=Bn Tryz.underlying48 _ _ _ g3
  refine⟨⟨z0,z1,z2,z3⟩,⟨p0,p1,p2,p3⟩,E,fun c hc=>?_,?_⟩
  ·simp only[List.mem_cons,List.not_mem_nil,or_false]at hc
   rcases hc with rfl | rfl | rfl | rfl<;>assumption
  ·simp only[Be,cellsOf,RdL]
   exact⟨_,_,E,r0,_,_,E,r1,_,_,E,r2,_,_,E,r3,E⟩
def Flood.In (x:Flood):Prop:=wI .i64 x.row∧wI .i64 x.dev∧wI .i64 x.vni∧((∀ z∈x.addrs,wI .u32 z)∧x.addrs.length≤maxLen)
theorem Ag0:OpN enc Tryz.prog W 69 Bu Flood.In 4:=fun n cs y h=>by
 obtain ⟨xs,m,_,_,hlen,hx,hg⟩:=DataW.trod_struct Tryz.underlying69 h
 have hlen:cs.length=4:=hlen.trans (by kernel_rfl:Tryz.prog.cellsOf 69=4)
 have hx:xs.length=4:=hx
 match cs,hlen with
 | [c0,c1,c2,c3],_ =>
  have g0:DataW.trod enc Tryz.prog W 0 (fun _=>true) true m 3 (([c0,c1,c2,c3].drop 0).take (Tryz.prog.cellsOf 3))=xs[0]?:=hg 0 _ rfl
  rw[(by kernel_rfl:Tryz.prog.cellsOf 3=1),List.getElem?_eq_getElem qn]at g0
  obtain ⟨z0,p0,r0,o0⟩:=Bn Tryz.underlying3 _ _ _ g0
  have g1:DataW.trod enc Tryz.prog W 0 (fun _=>true) true m 3 (([c0,c1,c2,c3].drop 1).take (Tryz.prog.cellsOf 3))=xs[1]?:=hg 1 _ rfl
  rw[(by kernel_rfl:Tryz.prog.cellsOf 3=1),List.getElem?_eq_getElem qn]at g1
  obtain ⟨z1,p1,r1,o1⟩:=Bn Tryz.underlying3 _ _ _ g1
  have g2:DataW.trod enc Tryz.prog W 0 (fun _=>true) true m 3 (([c0,c1,c2,c3].drop 2).take (Tryz.prog.cellsOf 3))=xs[2]?:=hg 2 _ rfl
  rw[(by kernel_rfl:Tryz.prog.cellsOf 3=1),List.getElem?_eq_getElem qn]at g2
  obtain ⟨z2,p2,r2,o2⟩:=Bn Tryz.underlying3 _ _ _ g2
  have g3:DataW.trod enc Tryz.prog W 0 (fun _=>true) true m 67 (([c0,c1,c2,c3].drop 3).take (Tryz.prog.cellsOf 67))=xs[3]?:=hg 3 _ rfl
  rw[(by kernel_rfl:Tryz.prog.cellsOf 67=1),List.getElem?_eq_getElem qn]at g3
  obtain ⟨z3,p3,r3,o3⟩:=Als _ _ _ g3
  refine⟨⟨z0,z1,z2,z3⟩,⟨p0,p1,p2,p3⟩,E,fun c hc=>?_,?_⟩
  ·simp only[List.mem_cons,List.not_mem_nil,or_false]at hc
   rcases hc with rfl | rfl | rfl | rfl<;>assumption
  ·simp only[Bu,cellsOf,RdL]
   exact⟨_,_,E,r0,_,_,E,r1,_,_,E,r2,_,_,E,r3,E⟩
def Vrf.In (x:Vrf):Prop:=wI .i64 x.row∧wI .i64 x.dev∧x.name.size≤maxLen∧((∀ z∈x.imports,wI .i64 z)∧x.imports.length≤maxLen)∧((∀ z∈x.exports,wI .i64 z)∧x.exports.length≤maxLen)
theorem Alu:OpN enc Tryz.prog W 71 Ci Vrf.In 5:=fun n cs y h=>by
 obtain ⟨xs,m,_,_,hlen,hx,hg⟩:=DataW.trod_struct Tryz.underlying71 h
 have hlen:cs.length=5:=hlen.trans (by kernel_rfl:Tryz.prog.cellsOf 71=5)
 have hx:xs.length=5:=hx
 match cs,hlen with
 | [c0,c1,c2,c3,c4],_ =>
  have g0:DataW.trod enc Tryz.prog W 0 (fun _=>true) true m 3 (([c0,c1,c2,c3,c4].drop 0).take (Tryz.prog.cellsOf 3))=xs[0]?:=hg 0 _ rfl
  rw[(by kernel_rfl:Tryz.prog.cellsOf 3=1),List.getElem?_eq_getElem qn]at g0
  obtain ⟨z0,p0,r0,o0⟩:=Bn Tryz.underlying3 _ _ _ g0
  have g1:DataW.trod enc Tryz.prog W 0 (fun _=>true) true m 3 (([c0,c1,c2,c3,c4].drop 1).take (Tryz.prog.cellsOf 3))=xs[1]?:=hg 1 _ rfl
  rw[(by kernel_rfl:Tryz.prog.cellsOf 3=1),List.getElem?_eq_getElem qn]at g1
  obtain ⟨z1,p1,r1,o1⟩:=Bn Tryz.underlying3 _ _ _ g1
  have g2:DataW.trod enc Tryz.prog W 0 (fun _=>true) true m 9 (([c0,c1,c2,c3,c4].drop 2).take (Tryz.prog.cellsOf 9))=xs[2]?:=hg 2 _ rfl
  rw[(by kernel_rfl:Tryz.prog.cellsOf 9=1),List.getElem?_eq_getElem qn]at g2
  obtain ⟨z2,p2,r2,o2⟩:=Adk Tryz.underlying9 _ _ _ g2
  have g3:DataW.trod enc Tryz.prog W 0 (fun _=>true) true m 32 (([c0,c1,c2,c3,c4].drop 3).take (Tryz.prog.cellsOf 32))=xs[3]?:=hg 3 _ rfl
  rw[(by kernel_rfl:Tryz.prog.cellsOf 32=1),List.getElem?_eq_getElem qn]at g3
  obtain ⟨z3,p3,r3,o3⟩:=O9 _ _ _ g3
  have g4:DataW.trod enc Tryz.prog W 0 (fun _=>true) true m 32 (([c0,c1,c2,c3,c4].drop 4).take (Tryz.prog.cellsOf 32))=xs[4]?:=hg 4 _ rfl
  rw[(by kernel_rfl:Tryz.prog.cellsOf 32=1),List.getElem?_eq_getElem qn]at g4
  obtain ⟨z4,p4,r4,o4⟩:=O9 _ _ _ g4
  refine⟨⟨z0,z1,z2,z3,z4⟩,⟨p0,p1,p2,p3,p4⟩,E,fun c hc=>?_,?_⟩
  ·simp only[List.mem_cons,List.not_mem_nil,or_false]at hc
   rcases hc with rfl | rfl | rfl | rfl | rfl<;>assumption
  ·simp only[Ci,cellsOf,RdL]
   exact⟨_,_,E,r0,_,_,E,r1,_,_,E,r2,_,_,E,r3,_,_,E,r4,E⟩
def Irb.In (x:Irb):Prop:=wI .i64 x.row∧wI .i64 x.domain∧wI .i64 x.vrf∧wI .u32 x.addr∧wI .i64 x.bits
theorem Alw:OpN enc Tryz.prog W 107 C7 Irb.In 5:=fun n cs y h=>by
 obtain ⟨xs,m,_,_,hlen,hx,hg⟩:=DataW.trod_struct Tryz.underlying107 h
 have hlen:cs.length=5:=hlen.trans (by kernel_rfl:Tryz.prog.cellsOf 107=5)
 have hx:xs.length=4:=hx
 match cs,hlen with
 | [c0,c1,c2,c3,c4],_ =>
  have g0:DataW.trod enc Tryz.prog W 0 (fun _=>true) true m 3 (([c0,c1,c2,c3,c4].drop 0).take (Tryz.prog.cellsOf 3))=xs[0]?:=hg 0 _ rfl
  rw[(by kernel_rfl:Tryz.prog.cellsOf 3=1),List.getElem?_eq_getElem qn]at g0
  obtain ⟨z0,p0,r0,o0⟩:=Bn Tryz.underlying3 _ _ _ g0
  have g1:DataW.trod enc Tryz.prog W 0 (fun _=>true) true m 3 (([c0,c1,c2,c3,c4].drop 1).take (Tryz.prog.cellsOf 3))=xs[1]?:=hg 1 _ rfl
  rw[(by kernel_rfl:Tryz.prog.cellsOf 3=1),List.getElem?_eq_getElem qn]at g1
  obtain ⟨z1,p1,r1,o1⟩:=Bn Tryz.underlying3 _ _ _ g1
  have g2:DataW.trod enc Tryz.prog W 0 (fun _=>true) true m 3 (([c0,c1,c2,c3,c4].drop 2).take (Tryz.prog.cellsOf 3))=xs[2]?:=hg 2 _ rfl
  rw[(by kernel_rfl:Tryz.prog.cellsOf 3=1),List.getElem?_eq_getElem qn]at g2
  obtain ⟨z2,p2,r2,o2⟩:=Bn Tryz.underlying3 _ _ _ g2
  have g3:DataW.trod enc Tryz.prog W 0 (fun _=>true) true m 105 (([c0,c1,c2,c3,c4].drop 3).take (Tryz.prog.cellsOf 105))=xs[3]?:=hg 3 _ rfl
  rw[(by kernel_rfl:Tryz.prog.cellsOf 105=2),List.getElem?_eq_getElem qn]at g3
  obtain ⟨ys,m',_,_,_,hy,hg'⟩:=DataW.trod_struct Tryz.underlying105 g3
  have hy:ys.length=2:=hy
  have q0:DataW.trod enc Tryz.prog W 0 (fun _=>true) true m' 49 (([c3,c4].drop 0).take (Tryz.prog.cellsOf 49))=ys[0]?:=hg' 0 _ rfl
  have q1:DataW.trod enc Tryz.prog W 0 (fun _=>true) true m' 3 (([c3,c4].drop 1).take (Tryz.prog.cellsOf 3))=ys[1]?:=hg' 1 _ rfl
  rw[(by kernel_rfl:Tryz.prog.cellsOf 49=1),List.getElem?_eq_getElem qn]at q0
  rw[(by kernel_rfl:Tryz.prog.cellsOf 3=1),List.getElem?_eq_getElem qn]at q1
  obtain ⟨z3,p3,r3,o3⟩:=Bn Tryz.underlying49 _ _ _ q0
  obtain ⟨z4,p4,r4,o4⟩:=Bn Tryz.underlying3 _ _ _ q1
  refine⟨⟨z0,z1,z2,z3,z4⟩,⟨p0,p1,p2,p3,p4⟩,E,fun c hc=>?_,?_⟩
  ·simp only[List.mem_cons,List.not_mem_nil,or_false]at hc
   rcases hc with rfl | rfl | rfl | rfl | rfl<;>assumption
  ·simp only[C7,cellsOf,RdL]
   exact⟨_,_,E,r0,_,_,E,r1,_,_,E,r2,_,_,E,r3,_,_,E,r4,E⟩
structure Net.In (n:Net):Prop where
 devices:(∀ x∈n.devices,Device.In x)∧n.devices.length≤maxLen
 ports:(∀ x∈n.ports,Port.In x)∧n.ports.length≤maxLen
 links:(∀ x∈n.links,Link.In x)∧n.links.length≤maxLen
 domains:(∀ x∈n.domains,Domain.In x)∧n.domains.length≤maxLen
 statics:(∀ x∈n.statics,Static.In x)∧n.statics.length≤maxLen
 floods:(∀ x∈n.floods,Flood.In x)∧n.floods.length≤maxLen
 vrfs:(∀ x∈n.vrfs,Vrf.In x)∧n.vrfs.length≤maxLen
 irbs:(∀ x∈n.irbs,Irb.In x)∧n.irbs.length≤maxLen
theorem Alv:OpN enc Tryz.prog W 31 Aq Net.In 8:=fun n cs y h=>by
 obtain ⟨xs,m,_,_,hlen,hx,hg⟩:=DataW.trod_struct Tryz.underlying31 h
 have hlen:cs.length=8:=hlen.trans (by kernel_rfl:Tryz.prog.cellsOf 31=8)
 have hx:xs.length=8:=hx
 match cs,hlen with
 | [c0,c1,c2,c3,c4,c5,c6,c7],_ =>
  have g0:DataW.trod enc Tryz.prog W 0 (fun _=>true) true m 22 (([c0,c1,c2,c3,c4,c5,c6,c7].drop 0).take (Tryz.prog.cellsOf 22))=xs[0]?:=hg 0 _ rfl
  rw[(by kernel_rfl:Tryz.prog.cellsOf 22=1),List.getElem?_eq_getElem qn]at g0
  obtain ⟨z0,p0,r0,o0⟩:=Cm Tryz.underlying22 (by kernel_rfl:Tryz.prog.cellsOf 51=5) qx (fun _=>rfl) (fun _=>rfl) Adp _ _ _ g0
  have g1:DataW.trod enc Tryz.prog W 0 (fun _=>true) true m 23 (([c0,c1,c2,c3,c4,c5,c6,c7].drop 1).take (Tryz.prog.cellsOf 23))=xs[1]?:=hg 1 _ rfl
  rw[(by kernel_rfl:Tryz.prog.cellsOf 23=1),List.getElem?_eq_getElem qn]at g1
  obtain ⟨z1,p1,r1,o1⟩:=Cm Tryz.underlying23 (by kernel_rfl:Tryz.prog.cellsOf 53=7) qx (fun _=>rfl) (fun _=>rfl) Ajm _ _ _ g1
  have g2:DataW.trod enc Tryz.prog W 0 (fun _=>true) true m 24 (([c0,c1,c2,c3,c4,c5,c6,c7].drop 2).take (Tryz.prog.cellsOf 24))=xs[2]?:=hg 2 _ rfl
  rw[(by kernel_rfl:Tryz.prog.cellsOf 24=1),List.getElem?_eq_getElem qn]at g2
  obtain ⟨z2,p2,r2,o2⟩:=Cm Tryz.underlying24 (by kernel_rfl:Tryz.prog.cellsOf 91=3) qx (fun _=>rfl) (fun _=>rfl) Ajn _ _ _ g2
  have g3:DataW.trod enc Tryz.prog W 0 (fun _=>true) true m 25 (([c0,c1,c2,c3,c4,c5,c6,c7].drop 3).take (Tryz.prog.cellsOf 25))=xs[3]?:=hg 3 _ rfl
  rw[(by kernel_rfl:Tryz.prog.cellsOf 25=1),List.getElem?_eq_getElem qn]at g3
  obtain ⟨z3,p3,r3,o3⟩:=Cm Tryz.underlying25 (by kernel_rfl:Tryz.prog.cellsOf 55=6) qx (fun _=>rfl) (fun _=>rfl) Ado _ _ _ g3
  have g4:DataW.trod enc Tryz.prog W 0 (fun _=>true) true m 26 (([c0,c1,c2,c3,c4,c5,c6,c7].drop 4).take (Tryz.prog.cellsOf 26))=xs[4]?:=hg 4 _ rfl
  rw[(by kernel_rfl:Tryz.prog.cellsOf 26=1),List.getElem?_eq_getElem qn]at g4
  obtain ⟨z4,p4,r4,o4⟩:=Cm Tryz.underlying26 (by kernel_rfl:Tryz.prog.cellsOf 95=4) qx (fun _=>rfl) (fun _=>rfl) Adm _ _ _ g4
  have g5:DataW.trod enc Tryz.prog W 0 (fun _=>true) true m 27 (([c0,c1,c2,c3,c4,c5,c6,c7].drop 5).take (Tryz.prog.cellsOf 27))=xs[5]?:=hg 5 _ rfl
  rw[(by kernel_rfl:Tryz.prog.cellsOf 27=1),List.getElem?_eq_getElem qn]at g5
  obtain ⟨z5,p5,r5,o5⟩:=Cm Tryz.underlying27 (by kernel_rfl:Tryz.prog.cellsOf 69=4) qx (fun _=>rfl) (fun _=>rfl) Ag0 _ _ _ g5
  have g6:DataW.trod enc Tryz.prog W 0 (fun _=>true) true m 28 (([c0,c1,c2,c3,c4,c5,c6,c7].drop 6).take (Tryz.prog.cellsOf 28))=xs[6]?:=hg 6 _ rfl
  rw[(by kernel_rfl:Tryz.prog.cellsOf 28=1),List.getElem?_eq_getElem qn]at g6
  obtain ⟨z6,p6,r6,o6⟩:=Cm Tryz.underlying28 (by kernel_rfl:Tryz.prog.cellsOf 71=5) qx (fun _=>rfl) (fun _=>rfl) Alu _ _ _ g6
  have g7:DataW.trod enc Tryz.prog W 0 (fun _=>true) true m 29 (([c0,c1,c2,c3,c4,c5,c6,c7].drop 7).take (Tryz.prog.cellsOf 29))=xs[7]?:=hg 7 _ rfl
  rw[(by kernel_rfl:Tryz.prog.cellsOf 29=1),List.getElem?_eq_getElem qn]at g7
  obtain ⟨z7,p7,r7,o7⟩:=Cm Tryz.underlying29 (by kernel_rfl:Tryz.prog.cellsOf 107=5) qx (fun _=>rfl) (fun _=>rfl) Alw _ _ _ g7
  refine⟨⟨z0,z1,z2,z3,z4,z5,z6,z7⟩,⟨p0,p1,p2,p3,p4,p5,p6,p7⟩,E,fun c hc=>?_,?_⟩
  ·simp only[List.mem_cons,List.not_mem_nil,or_false]at hc
   rcases hc with rfl | rfl | rfl | rfl | rfl | rfl | rfl | rfl<;>assumption
  ·simp only[Aq,cellsOf,RdL]
   exact⟨_,_,E,r0,_,_,E,r1,_,_,E,r2,_,_,E,r3,_,_,E,r4,_,_,E,r5,_,_,E,r6,_,_,E,r7,E⟩
theorem Ago {t:TypeId} {fs:Array Field} {α:Type} {e:α→SV} {p:α→Prop} {sz base:Nat} {v:Value} {d:DataW H} {ps:List MemPlace} (ht:Tryz.prog.underlying t=some (.struct fs)) (hO:OpN enc Tryz.prog W t e p sz) (he:∀ x,e x=.agg (cellsOf (e x)))
  (hval:Value.okWide Tryz.prog W .any base t v) (h1:DataW.Trod enc Tryz.prog W 0 (fun _=>true) true t v d ps):∃ x,p x∧Rd κ0 W (e x) v:=by
 obtain ⟨cs,rfl,_⟩:=okWide_struct ht hval
 obtain ⟨fuel,hf⟩:=h1
 obtain ⟨x,h1,_,h2,h3⟩:=hO _ _ _ hf
 refine⟨x,h1,?_⟩
 rw[he x]
 simp only[Rd]
 exact⟨cs.toList,by simp,by simpa [Value.cells] using h2,by simpa [Value.cells] using h3⟩
theorem rd_net {base:Nat} {v:Value} {d:DataW H} {ps:List MemPlace} (hval:Value.okWide Tryz.prog W .any base 31 v) (h1:DataW.Trod enc Tryz.prog W 0 (fun _=>true) true 31 v d ps):∃ n:Net,n.In∧Rd κ0 W (Aq n) v :=
 Ago Tryz.underlying31 Alv (fun _=>rfl) hval h1
theorem U4 {t et:TypeId} {α:Type} {e:α→SV} {p:List α→Prop} {sz base:Nat} {v:Value} {d:DataW H} {ps:List MemPlace} (ht:Tryz.prog.underlying t=some (.slice et)) (hO:Op1 enc Tryz.prog W t (fun l:List α=>.sl sz e l) p)
  (hval:Value.okWide Tryz.prog W .any base t v) (h1:DataW.Trod enc Tryz.prog W 0 (fun _=>true) true t v d ps):∃ l,p l∧Rd κ0 W (.sl sz e l) v:=by
 obtain ⟨a,len,cap,rfl⟩:=okWide_slice ht hval
 obtain ⟨fuel,hf⟩:=h1
 obtain ⟨x,h1,h2,_⟩:=hO _ _ _ hf
 exact⟨x,h1,h2⟩
end
end Go.Sy.YtnlacjgkdjnhmaaGreat
namespace Go.Sy.YtnlacjgkdjnhmaaGreat
open Go.Proofs
attribute [local irreducible] Go.Sy.G Go.Sy.DR
set_option maxRecDepth 100000
set_option maxHeartbeats 4000000
theorem Ag3 {n:Net} (h:n.In):n.Num:=by
 refine⟨fun x hx=>?_,fun x hx=>?_⟩
 ·have:=(h.devices.1 x hx).2.2.2.2
  simp only[wI,Lit.wf,decide_eq_true_eq,Bool.and_eq_true]at this
  exact⟨this.1,Int.lt_of_le_of_lt this.2 qx⟩
 ·have:=(h.irbs.1 x hx).2.2.2.1
  simp only[wI,Lit.wf,decide_eq_true_eq,Bool.and_eq_true]at this
  exact⟨this.1,Int.lt_of_le_of_lt this.2 qx⟩
def netW33:Net:=⟨[⟨0,0,⟨#[97]⟩,0,0⟩],[⟨0,0,10,1,-1,⟨#[112]⟩,[]⟩,⟨0,0,10,1,-1,⟨#[113]⟩,[]⟩],[],[⟨0,10,0,-1,0,[]⟩],[],[],[],[]⟩
theorem Akh:netW33.Fin:=by
 constructor<;>first | (unfold Am;decide) | (intro x hx;unfold Am;simp only[netW33,List.mem_cons,List.not_mem_nil,or_false]at hx;first | (subst hx;decide) | (rcases hx with rfl | rfl<;>decide) | exact hx.elim)
theorem Ajo:netW33.Num:=by
 refine⟨fun x hx=>?_,fun x hx=>?_⟩
 ·simp only[netW33,List.mem_cons,List.not_mem_nil,or_false]at hx
  subst hx
  decide
 ·cases hx
end Go.Sy.YtnlacjgkdjnhmaaGreat
namespace Go.Sy.YtnlacjgkdjnhmaaGreat
open Go.Proofs Go.ChangeShapes Go.WideShapes Go.ChangeAt Go.RowKit
set_option maxRecDepth 100000
section
variable {H:Type} {enc:TypeId × Value→H} {W:World}
theorem Ajk {P:Program} {t:TypeId} (ht:P.underlying t=some (.int .u8)):OpN enc P W t Ak (fun _=>True) 1:=fun n cs y h=>by
 obtain ⟨z,h1,h2,h3,h4⟩:=Y4 ht n cs y h
 have hz:0≤z∧z<256:=by
  simp only[Lit.wf,Bool.and_eq_true,decide_eq_true_eq]at h1
  have a:=h1.1
  have b:=h1.2
  simp only[IntKind.min,IntKind.max,IntKind.signed,IntKind.bits]at a b
  constructor<;>simp at a b<;>omega
 refine⟨UInt8.ofNat z.toNat,Y,h2,h3,?_⟩
 have e:Ak (UInt8.ofNat z.toNat)=.val (.int .u8 z):=by
  rw[Ak,UInt8.toNat_ofNat_of_lt' (by show _<256;omega),Int.toNat_of_nonneg hz.1]
 rw[e];exact h4
theorem Ajh:Op1 enc Tryz.prog W 43 (fun l:List UInt8=>.sl 1 Ak l) (fun l=>(∀ x∈l,True)∧l.length≤maxLen) :=
 Cm Tryz.underlying43 (by kernel_rfl:Tryz.prog.cellsOf 5=1) qx (fun _=>rfl) (fun _=>rfl) (Ajk Tryz.underlying5)
theorem Aji:Op1 enc Tryz.prog W 44 (fun l:List Bool=>.sl 1 Ad l) (fun l=>(∀ x∈l,True)∧l.length≤maxLen) :=
 Cm Tryz.underlying44 (by kernel_rfl:Tryz.prog.cellsOf 4=1) qx (fun _=>rfl) (fun _=>rfl) (Ajl Tryz.underlying4)
def StepM.In (x:StepM):Prop:=wI .i64 x.kind∧wI .i64 x.port∧wI .i64 x.domain∧wI .i64 x.at_∧((∀ y∈x.bytes,True)∧x.bytes.length≤maxLen)∧((∀ y∈x.up,True)∧x.up.length≤maxLen)
theorem Agz:OpN enc Tryz.prog W 46 Bg StepM.In 6:=fun n cs y h=>by
 obtain ⟨xs,m,_,_,hlen,hx,hg⟩:=DataW.trod_struct Tryz.underlying46 h
 have hlen:cs.length=6:=hlen.trans (by kernel_rfl:Tryz.prog.cellsOf 46=6)
 have hx:xs.length=6:=hx
 match cs,hlen with
 | [c0,c1,c2,c3,c4,c5],_ =>
  have g0:DataW.trod enc Tryz.prog W 0 (fun _=>true) true m 3 (([c0,c1,c2,c3,c4,c5].drop 0).take (Tryz.prog.cellsOf 3))=xs[0]?:=hg 0 _ rfl
  rw[(by kernel_rfl:Tryz.prog.cellsOf 3=1),List.getElem?_eq_getElem qn]at g0
  obtain ⟨z0,p0,r0,o0⟩:=Bn Tryz.underlying3 _ _ _ g0
  have g1:DataW.trod enc Tryz.prog W 0 (fun _=>true) true m 3 (([c0,c1,c2,c3,c4,c5].drop 1).take (Tryz.prog.cellsOf 3))=xs[1]?:=hg 1 _ rfl
  rw[(by kernel_rfl:Tryz.prog.cellsOf 3=1),List.getElem?_eq_getElem qn]at g1
  obtain ⟨z1,p1,r1,o1⟩:=Bn Tryz.underlying3 _ _ _ g1
  have g2:DataW.trod enc Tryz.prog W 0 (fun _=>true) true m 3 (([c0,c1,c2,c3,c4,c5].drop 2).take (Tryz.prog.cellsOf 3))=xs[2]?:=hg 2 _ rfl
  rw[(by kernel_rfl:Tryz.prog.cellsOf 3=1),List.getElem?_eq_getElem qn]at g2
  obtain ⟨z2,p2,r2,o2⟩:=Bn Tryz.underlying3 _ _ _ g2
  have g3:DataW.trod enc Tryz.prog W 0 (fun _=>true) true m 3 (([c0,c1,c2,c3,c4,c5].drop 3).take (Tryz.prog.cellsOf 3))=xs[3]?:=hg 3 _ rfl
  rw[(by kernel_rfl:Tryz.prog.cellsOf 3=1),List.getElem?_eq_getElem qn]at g3
  obtain ⟨z3,p3,r3,o3⟩:=Bn Tryz.underlying3 _ _ _ g3
  have g4:DataW.trod enc Tryz.prog W 0 (fun _=>true) true m 43 (([c0,c1,c2,c3,c4,c5].drop 4).take (Tryz.prog.cellsOf 43))=xs[4]?:=hg 4 _ rfl
  rw[(by kernel_rfl:Tryz.prog.cellsOf 43=1),List.getElem?_eq_getElem qn]at g4
  obtain ⟨z4,p4,r4,o4⟩:=Ajh _ _ _ g4
  have g5:DataW.trod enc Tryz.prog W 0 (fun _=>true) true m 44 (([c0,c1,c2,c3,c4,c5].drop 5).take (Tryz.prog.cellsOf 44))=xs[5]?:=hg 5 _ rfl
  rw[(by kernel_rfl:Tryz.prog.cellsOf 44=1),List.getElem?_eq_getElem qn]at g5
  obtain ⟨z5,p5,r5,o5⟩:=Aji _ _ _ g5
  refine⟨⟨z0,z1,z2,z3,z4,z5⟩,⟨p0,p1,p2,p3,p4,p5⟩,E,fun c hc=>?_,?_⟩
  ·simp only[List.mem_cons,List.not_mem_nil,or_false]at hc
   rcases hc with rfl | rfl | rfl | rfl | rfl | rfl<;>assumption
  ·simp only[Bg,cellsOf,RdL]
   exact⟨_,_,E,r0,_,_,E,r1,_,_,E,r2,_,_,E,r3,_,_,E,r4,_,_,E,r5,E⟩
theorem Ajg:Op1 enc Tryz.prog W 34 (fun l:List StepM=>.sl 6 Bg l) (fun l=>(∀ x∈l,StepM.In x)∧l.length≤maxLen) :=
 Cm Tryz.underlying34 (by kernel_rfl:Tryz.prog.cellsOf 46=6) qx (fun _=>rfl) (fun _=>rfl) Agz
def SeenM.In (x:SeenM):Prop:=wI .i64 x.port∧wI .i64 x.origin∧((∀ y∈x.bytes,True)∧x.bytes.length≤maxLen)
theorem op_mac:Op1 enc Tryz.prog W 48 (fun m:Nat=>A7 m) (fun m=>m<18446744073709551616):=fun n c y h=>by
 obtain ⟨z,h1,h2,h3⟩:=Bn (k:=.u64) Tryz.underlying48 n c y h
 have hz:0≤z∧z<18446744073709551616:=by
  simp only[Lit.wf,Bool.and_eq_true,decide_eq_true_eq]at h1
  have a:=h1.1
  have b:=h1.2
  simp only[IntKind.min,IntKind.max,IntKind.signed,IntKind.bits]at a b
  constructor<;>simp at a b<;>omega
 refine⟨z.toNat,by omega,?_,h3⟩
 show Rd κ0 W (.val (.int .u64 ((z.toNat:Nat):Int))) c
 rw[show ((z.toNat:Nat):Int)=z by omega]
 exact h2
theorem Adl {t et:TypeId} {α:Type} {e:α→SV} {p:α→Prop} {sz:Nat} (ht:Tryz.prog.underlying t=some (.slice et)) (hO:Op1 enc Tryz.prog W t (fun l:List α=>.sl sz e l) (fun l=>(∀ x∈l,p x)∧l.length≤maxLen)) :
  OpN enc Tryz.prog W t (fun l:List α=>.sl sz e l) (fun l=>(∀ x∈l,p x)∧l.length≤maxLen) 1:=fun n cs y h=>by
 have h1:∃ c,cs=[c]:=by
  rcases DataW.trod_slice ht h with ⟨hcs,_⟩ | ⟨a,len,cap,elems,rest,m,_,hcs,_⟩
  ·exact⟨_,hcs⟩
  ·exact⟨_,hcs⟩
 obtain ⟨c,rfl⟩:=h1
 obtain ⟨x,h2,h3,h4⟩:=hO n c y h
 refine⟨x,h2,E,fun c' hc=>by simp only[List.mem_singleton]at hc;subst hc;exact h4,?_⟩
 simp only[cellsOf,RdL]
 exact⟨_,_,E,h3,E⟩
def EntryM.In (x:EntryM):Prop:=x.mac<18446744073709551616∧wI .i64 x.where_∧wI .i64 x.seen
theorem Adn:OpN enc Tryz.prog W 160 At EntryM.In 3:=fun n cs y h=>by
 obtain ⟨xs,m,_,_,hlen,hx,hg⟩:=DataW.trod_struct Tryz.underlying160 h
 have hlen:cs.length=3:=hlen.trans (by kernel_rfl:Tryz.prog.cellsOf 160=3)
 have hx:xs.length=3:=hx
 match cs,hlen with
 | [c0,c1,c2],_ =>
  have g0:DataW.trod enc Tryz.prog W 0 (fun _=>true) true m 48 (([c0,c1,c2].drop 0).take (Tryz.prog.cellsOf 48))=xs[0]?:=hg 0 _ rfl
  rw[(by kernel_rfl:Tryz.prog.cellsOf 48=1),List.getElem?_eq_getElem qn]at g0
  obtain ⟨z0,p0,r0,o0⟩:=op_mac _ _ _ g0
  have g1:DataW.trod enc Tryz.prog W 0 (fun _=>true) true m 3 (([c0,c1,c2].drop 1).take (Tryz.prog.cellsOf 3))=xs[1]?:=hg 1 _ rfl
  rw[(by kernel_rfl:Tryz.prog.cellsOf 3=1),List.getElem?_eq_getElem qn]at g1
  obtain ⟨z1,p1,r1,o1⟩:=Bn Tryz.underlying3 _ _ _ g1
  have g2:DataW.trod enc Tryz.prog W 0 (fun _=>true) true m 3 (([c0,c1,c2].drop 2).take (Tryz.prog.cellsOf 3))=xs[2]?:=hg 2 _ rfl
  rw[(by kernel_rfl:Tryz.prog.cellsOf 3=1),List.getElem?_eq_getElem qn]at g2
  obtain ⟨z2,p2,r2,o2⟩:=Bn Tryz.underlying3 _ _ _ g2
  refine⟨⟨z0,z1,z2⟩,⟨p0,p1,p2⟩,E,fun c hc=>?_,?_⟩
  ·simp only[List.mem_cons,List.not_mem_nil,or_false]at hc
   rcases hc with rfl | rfl | rfl<;>assumption
  ·simp only[At,cellsOf,RdL]
   exact⟨_,_,E,r0,_,_,E,r1,_,_,E,r2,E⟩
theorem Agy:Op1 enc Tryz.prog W 33 (fun l:List (List EntryM)=>.sl 1 (fun t=>.sl 3 At t) l) (fun l=>(∀ x∈l,(∀ e∈x,EntryM.In e)∧x.length≤maxLen)∧l.length≤maxLen) :=
 Cm Tryz.underlying33 (by kernel_rfl:Tryz.prog.cellsOf 58=1) qx (fun _=>rfl) (fun _=>rfl) (Adl Tryz.underlying58 (Cm Tryz.underlying58 (by kernel_rfl:Tryz.prog.cellsOf 160=3) qx (fun _=>rfl) (fun _=>rfl) Adn))
end
end Go.Sy.YtnlacjgkdjnhmaaGreat
namespace Go.Sy.YtnlacjgkdjnhmaaGreat
open Go.Proofs
def K1 (m:MacM) (i:Nat) (t:List EntryM):MacM:=if 60<t.length then m else (loadT m i t).1
def Ey (m0:MacM) (l:List (List EntryM)):Nat→MacM
 | 0=>m0
 | j+1=>K1 (Ey m0 l j) j ((l[j]?).getD [])
def Aev (l:List (List EntryM)):Prop:=∀ t∈l,(∀ e∈t,EntryM.In e)∧t.length≤maxLen
theorem Aaj {t:List EntryM} (h:∀ e∈t,EntryM.In e) (hl:t.length≤60):TabOK t:=by
 refine⟨by unfold Am;omega,fun e he=>(h e he).1,fun e he=>?_⟩
 have:=(h e he).2.1
 simp only[wI,Lit.wf,Bool.and_eq_true,decide_eq_true_eq,IntKind.max_i64]at this
 have e2:IntKind.min .i64=-9223372036854775808:=by decide
 rw[e2]at this
 unfold I64
 omega
theorem Abi {n:Net} {m:MacM} {J D:Int} (h:MacOK n m J D) (i:Nat) {t:List EntryM} (ht:∀ e∈t,EntryM.In e):MacOK n (K1 m i t) J D:=by
 unfold K1
 split
 ·exact h
 ·rename_i hl
  unfold loadT
  split
  ·exact Ys h _ (Aaj ht qn)
  ·exact h
theorem Vl {n:Net} {m:MacM} {J D:Int} (h:MacOK n m J D) {l:List (List EntryM)} (hl:Aev l):∀ j,MacOK n (Ey m l j) J D
 | 0=>h
 | j+1=>by
  rw[Ey]
  refine Abi (Vl h hl j) j ?_
  by_cases hj:j<l.length
  ·rw[List.getElem?_eq_getElem hj]
   exact(hl _ (List.getElem_mem hj)).1
  ·rw[List.getElem?_eq_none qn]
   intro e he
   cases he
attribute [local irreducible] Go.Sy.G Go.Sy.DR
set_option maxRecDepth 100000
set_option maxHeartbeats 4000000
end Go.Sy.YtnlacjgkdjnhmaaGreat
namespace Go.Sy.YtnlacjgkdjnhmaaGreat
open Go.Proofs
def Es (n:Net) (tabs:List (List EntryM)):MacM:=Ey (newT n) tabs tabs.length
def runTabsT (n:Net) (tabs:List (List EntryM)) (l:List StepM):List SeenM × Int:=if okB n (Af3 n)=true then ((C8 n (Es n tabs) l).2,0) else ([],2)
def H1 (n:Net) (of:List Int):Bool :=
 decide (of.length=n.ports.length) && Af n && (List.range of.length).all fun i=>if (nth n.ports (i:Int)).link<0 then decide (0≤nth of (i:Int)) && decide (nth of (i:Int)≤9) else decide (nth of (i:Int)=-1)
def Db (m:MacM):Prop:=0≤m.injected∧∀ l∈m.queues,∀ q∈l,1≤q.origin∧q.origin≤m.injected
theorem M6 {m:MacM} (h:Db m) (dom:Int):∀ q∈queueL m dom,1≤q.origin∧q.origin≤m.injected:=by
 intro q hq
 unfold queueL at hq
 by_cases hd:dom.toNat<m.queues.length
 ·exact h.2 _ (Ld hd) q hq
 ·rw[List.getElem?_eq_none qn]at hq;cases hq
theorem Aa7 {m:MacM} (h:Db m) (dom:Int) {l:List QueuedM} (hl:∀ q∈l,1≤q.origin∧q.origin≤m.injected):Db (Ac7 m dom l):=by
 refine⟨h.1,fun x hx=>?_⟩
 rcases T7 hx with rfl | hx
 ·exact hl
 ·exact h.2 x hx
theorem Vd {m:MacM} (h:Db m) (dom at_:Int):Db (takeM m dom at_).1∧(takeM m dom at_).1.injected=m.injected∧((takeM m dom at_).2.2=true→1≤(takeM m dom at_).2.1.origin∧(takeM m dom at_).2.1.origin≤m.injected):=by
 have hq:=M6 h dom
 unfold takeM
 split
 ·exact⟨h,rfl,fun h=>by cases h⟩
 ·refine⟨Aa7 h dom fun q hm=>?_,E,fun ht=>?_⟩
  ·unfold takeT at hm
   split at hm
   ·exact hq q hm
   ·exact hq q (List.mem_of_mem_eraseIdx hm)
  ·dsimp only at ht ⊢
   unfold takeT at ht ⊢
   split at ht
   ·cases ht
   ·rename_i hc
    rw[if_neg hc]
    exact hq _ (Ld qn)
theorem O7 {m:MacM} (h:Db m) (dom:Int) {q:QueuedM} (hq:1≤q.origin∧q.origin≤m.injected) (e:Int):Db (comeM m dom q e)∧(comeM m dom q e).injected=m.injected:=by
 unfold comeM
 split
 ·exact⟨h,E⟩
 split
 ·refine⟨Aa7 h dom fun x hx=>?_,E⟩
  unfold pushT at hx
  split at hx
  ·exact M6 h dom x hx
  ·rcases List.mem_append.1 hx with hx | hx
   ·exact M6 h dom x hx
   ·rw[List.mem_singleton.1 hx];exact hq
 ·exact⟨h,E⟩
theorem Aje {n:Net} {m:MacM} (h:Db m) (o:OutM) {org:Int} (ho:1≤org∧org≤m.injected):Db (goesM n m o org).1∧(goesM n m o org).1.injected=m.injected:=by
 unfold goesM
 split
 ·exact⟨h,E⟩
 split
 ·exact O7 h _ ho _
 split
 ·exact O7 h _ ho _
 split
 ·exact O7 h _ ho _
 ·exact⟨h,E⟩
theorem Xm {n:Net} {org:Int}:∀ (l:List OutM) {m:MacM},Db m→(1≤org∧org≤m.injected)→Db (Bf n m org l).1∧(Bf n m org l).1.injected=m.injected
 | [],m,h,_=>⟨h,rfl⟩
 | o::l,m,h,ho=>by
  rw[Bf]
  have h1:=Aje (n:=n) h o ho
  have h2:=Xm (n:=n) (org:=org) l h1.1 (by rw[h1.2];exact ho)
  exact⟨h2.1,by rw[h2.2,h1.2]⟩
theorem Agx {m:MacM} (h:Db m) (dom:Int) (r:List EntryM × List OutM × Int):Db (Jc m dom r)∧(Jc m dom r).injected=m.injected:=by
 unfold Jc
 split
 ·exact⟨h,E⟩
 split
 ·exact⟨h,E⟩
 ·exact⟨h,E⟩
theorem Ajd {n:Net} {m:MacM} (h:Db m) (dom at_:Int):Db (pickT n m dom at_).1∧(pickT n m dom at_).1.injected=m.injected:=by
 have h1:=Vd h dom at_
 unfold pickT
 split
 ·exact⟨h1.1,h1.2.1⟩
 ·rename_i hc
  have h2:=Agx h1.1 dom (Mn n (takeM m dom at_).1 dom (takeM m dom at_).2.1)
  have ht:=h1.2.2 (by simpa using hc)
  have h3:=Xm (n:=n) (org:=(takeM m dom at_).2.1.origin) (Mn n (takeM m dom at_).1 dom (takeM m dom at_).2.1).2.1 h2.1 (by rw[h2.2,h1.2.1];exact ht)
  exact⟨h3.1,by rw[h3.2,h2.2,h1.2.1]⟩
theorem Adh {n:Net} {m:MacM} (h:Db m) (port:Int) (b:List UInt8) (hp:Ag port n.ports.length=true) (hl:(nth n.ports port).link<0) :
  Db (injectT n m port b)∧(injectT n m port b).injected=m.injected+1:=by
 unfold injectT
 rw[if_neg (by rw[hp];simp;exact hl)]
 have h0:Db ⟨m.up,m.tables,m.queues,m.now,m.injected+1,m.drops⟩:=⟨by have:=h.1;dsimp only;omega,fun l hl q hq=>by have:=h.2 l hl q hq;dsimp only;omega⟩
 exact O7 h0 _ ⟨by have:=h.1;dsimp only;omega,Int.le_refl _⟩ _
theorem Tu {n:Net} {m:MacM} (port:Int) (b:List UInt8) (hp:¬ (Ag port n.ports.length=true∧(nth n.ports port).link<0)):injectT n m port b=m:=by
 unfold injectT
 rw[if_pos]
 by_cases h:Ag port n.ports.length=true
 ·exact .inr (Int.not_lt.1 fun x=>hp ⟨h,x⟩)
 ·exact .inl (by simpa using h)
def Zb (n:Net) (x:StepM):Int:=if x.kind=1∧Ag x.port n.ports.length=true∧(nth n.ports x.port).link<0 then 1 else 0
theorem Amd {n:Net} {m:MacM} (h:Db m) (x:StepM):Db (doT n m x).1∧(doT n m x).1.injected=m.injected+Zb n x:=by
 unfold doT
 by_cases hk:x.kind=1
 ·rw[if_pos hk]
  unfold Zb
  by_cases hc:Ag x.port n.ports.length=true∧(nth n.ports x.port).link<0
  ·rw[if_pos ⟨hk,hc⟩]
   exact Adh h _ _ hc.1 hc.2
  ·rw[if_neg (fun h=>hc h.2),Tu _ _ hc]
   exact⟨h,by simp⟩
 rw[if_neg hk]
 have h0:Zb n x=0:=by unfold Zb;rw[if_neg (fun h=>hk h.1)]
 rw[h0,Int.add_zero]
 split
 ·exact Ajd h _ _
 split
 ·have:=Vd h x.domain x.at_
  exact⟨this.1,this.2.1⟩
 split
 ·exact⟨h,E⟩
 split
 ·split
  ·exact⟨h,E⟩
  ·exact⟨h,E⟩
 ·exact⟨h,E⟩
theorem Xl {n:Net} {of:List Int} (h:H1 n of=true):of.length=n.ports.length∧Af n=true∧∀ p,Ag p of.length=true→(if (nth n.ports p).link<0 then 0≤nth of p∧nth of p≤9 else nth of p=-1):=by
 unfold H1 at h
 simp only[Bool.and_eq_true,decide_eq_true_eq,List.all_eq_true,List.mem_range]at h
 refine⟨h.1.1,h.1.2,fun p hp=>?_⟩
 have hp:=Bk hp
 have:=h.2 p.toNat qn
 rw[show ((p.toNat:Nat):Int)=p by omega]at this
 split at this
 ·rename_i hc;rw[if_pos hc];simpa using this
 ·rename_i hc;rw[if_neg hc];simpa using this
theorem Ajq (n:Net):Db (newT n):=by
 refine⟨by simp[newT],fun l hl q hq=>?_⟩
 have:l=[]:=(List.mem_replicate.1 hl).2
 rw[this]at hq;cases hq
theorem Xr {m:MacM} (h:Db m) (tabs:List (List EntryM)):∀ j,Db (Ey m tabs j)∧(Ey m tabs j).injected=m.injected
 | 0=>⟨h,rfl⟩
 | j+1=>by
  have ih:=Xr h tabs j
  rw[Ey]
  unfold K1
  split
  ·exact ih
  ·unfold loadT
   split
   ·exact ih
   ·exact ih
end Go.Sy.YtnlacjgkdjnhmaaGreat
namespace Go.Sy.YtnlacjgkdjnhmaaGreat
open Go.Proofs
def SeenOK (n:Net) (k:Int) (x:SeenM):Prop:=Ag x.port n.ports.length=true∧(nth n.ports x.port).link<0∧1≤x.origin∧x.origin≤k
def OutP (n:Net) (o:OutM):Prop:=o.kind=1→Ag o.port n.ports.length=true∧(nth n.ports o.port).link<0
theorem SeenOK.mono {n:Net} {k k':Int} {x:SeenM} (h:SeenOK n k x) (hk:k≤k'):SeenOK n k' x:=⟨h.1,h.2.1,h.2.2.1,by have:=h.2.2.2;omega⟩
theorem Ajc (n:Net) (dom:Int) (f:FrameM) (p:Int):OutP n (Tt n dom f p):=by
 intro h
 unfold Tt K0 at h ⊢
 by_cases he:(leaveT n p dom f).2≠0
 ·rw[if_pos he]at h
  exact absurd h (by dsimp only;decide)
 rw[if_neg he]at h ⊢
 dsimp only at h ⊢
 have hl:(nth n.ports p).link<0:=by
  by_cases hl:(nth n.ports p).link<0
  ·exact hl
  ·rw[if_neg hl]at h;exact absurd h qx
 refine⟨?_,hl⟩
 unfold leaveT at he
 by_cases hp:Ag p n.ports.length=false∨Ag dom n.domains.length=false∨Af n=false
 ·rw[if_pos hp]at he;exact absurd he qx
 ·cases hb:Ag p n.ports.length
  ·exact absurd (.inl hb) hp
  ·rfl
theorem Zx (n:Net) (fw:List Bool) (t:List EntryM) (dom:Int) (q:QueuedM) (now:Int):∀ o∈(bridgeT n fw t dom q now).2.1,OutP n o:=by
 intro o ho
 unfold bridgeT at ho
 split at ho
 ·cases ho
 split at ho
 ·split at ho
  ·cases ho
  ·rw[List.mem_singleton.1 ho]
   intro h;exact absurd h (by dsimp only;decide)
 ·rcases List.mem_append.1 ho with h | h
  ·obtain ⟨p,_,rfl⟩:=List.mem_map.1 h
   exact Ajc _ _ _ _
  ·obtain ⟨p,_,rfl⟩:=List.mem_map.1 h
   intro h
   unfold Wv K0 at h
   split at h<;>exact absurd h (by dsimp only;decide)
theorem Ad9 {n:Net} {m:MacM} {o:OutM} {org k:Int} (ho:OutP n o) (h1:1≤org) (h2:org≤k):∀ x∈(goesM n m o org).2,SeenOK n k x:=by
 intro x hx
 unfold goesM at hx
 split at hx
 ·rename_i hk
  rw[List.mem_singleton.1 hx]
  exact⟨(ho hk).1,(ho hk).2,h1,h2⟩
 split at hx
 ·cases hx
 split at hx
 ·cases hx
 split at hx<;>cases hx
theorem V2 {n:Net} {org k:Int} (h1:1≤org) (h2:org≤k):∀ (l:List OutM) {m:MacM},(∀ o∈l,OutP n o)→∀ x∈(Bf n m org l).2,SeenOK n k x
 | [],m,_,x,hx=>by cases hx
 | o::l,m,ho,x,hx=>by
  rw[Bf]at hx
  rcases List.mem_append.1 hx with h | h
  ·exact Ad9 (ho o qy) h1 h2 x h
  ·exact V2 h1 h2 l (fun o h=>ho o (by simp[h])) x h
theorem Akn {n:Net} {m:MacM} (h:Db m) (x:StepM):∀ y∈(doT n m x).2,SeenOK n m.injected y:=by
 intro y hy
 unfold doT at hy
 split at hy
 ·cases hy
 split at hy
 ·unfold pickT at hy
  have h1:=Vd h x.domain x.at_
  split at hy
  ·cases hy
  ·rename_i hc
   have ht:=h1.2.2 (by simpa using hc)
   exact V2 ht.1 ht.2 _ (Zx _ _ _ _ _ _) y hy
 split at hy
 ·cases hy
 split at hy
 ·cases hy
 split at hy
 ·split at hy<;>cases hy
 ·cases hy
theorem Abq (n:Net) (x:StepM):0≤Zb n x:=by unfold Zb;split<;>decide
def Ad4 (n:Net):List StepM→Int
 | []=>0
 | x::l=>Zb n x+Ad4 n l
theorem Abr (n:Net):∀ l,0≤Ad4 n l
 | []=>Int.le_refl _
 | x::l=>by rw[Ad4];have:=Abq n x;have:=Abr n l;omega
theorem Xj {n:Net}:∀ (l:List StepM) {m:MacM},Db m→∀ y∈(C8 n m l).2,SeenOK n (m.injected+Ad4 n l) y
 | [],m,h,y,hy=>by cases hy
 | x::l,m,h,y,hy=>by
  have h1:=Amd (n:=n) h x
  rw[C8]at hy
  rw[Ad4]
  have p1:=Abq n x
  have p2:=Abr n l
  rcases List.mem_append.1 hy with h2 | h2
  ·exact(Akn h x y h2).mono qn
  ·exact(Xj l h1.1 y h2).mono (by rw[h1.2];omega)
def injB (of:List Int) (x:StepM):Bool:=decide (x.kind=1) && (Ag x.port of.length && decide (0≤nth of x.port))
def E4 (of:List Int) (l:List StepM):List Int:=(l.filter (injB of)).map (·.port)
theorem U9 {n:Net} {of:List Int} (ho:H1 n of=true):∀ l,((E4 of l).length:Int)=Ad4 n l
 | []=>rfl
 | x::l=>by
  have ha:=Xl ho
  have ih:=U9 ho l
  have key:(if injB of x=true then 1 else 0)=Zb n x:=by
   unfold injB Zb
   by_cases hk:x.kind=1
   ·cases hp:Ag x.port of.length
    ·rw[ha.1]at hp
     simp[hp]
    ·have hw:=ha.2.2 x.port hp
     rw[ha.1]at hp
     by_cases hl:(nth n.ports x.port).link<0
     ·rw[if_pos hl]at hw
      simp[hk,hp,hl,hw.1]
     ·rw[if_neg hl]at hw
      simp[hk,hp,hl,hw]
   ·simp[hk]
  rw[Ad4,← ih,← key]
  unfold E4
  by_cases h:injB of x=true
  ·rw[List.filter_cons_of_pos h,if_pos h,List.map_cons,List.length_cons];omega
  ·rw[List.filter_cons_of_neg h,if_neg h];omega
theorem portsL_at {of:List Int} {l:List StepM}:∀ p∈E4 of l,Ag p of.length=true∧0≤nth of p:=by
 intro p hp
 obtain ⟨x,hx,rfl⟩:=List.mem_map.1 hp
 have:=(List.mem_filter.1 hx).2
 unfold injB at this
 simp only[Bool.and_eq_true,decide_eq_true_eq]at this
 exact this.2
def Kd (of by_:List Int):List SeenM→Int × Int × Bool
 | []=>(0,0,false)
 | s::l=>if nth of (nth by_ (s.origin-1))≠nth of s.port then (nth by_ (s.origin-1),s.port,true) else Kd of by_ l
def crossesT (n:Net) (of:List Int) (tabs:List (List EntryM)) (l:List StepM):Int × Int × Bool :=
 if H1 n of=true∧okB n (Af3 n)=true then Kd of (E4 of l) (C8 n (Es n tabs) l).2 else (0,0,false)
def crossB (n:Net) (of:List Int) (tabs:List (List EntryM)) (l:List StepM):Bool:=(crossesT n of tabs l).2.2
theorem Adr (n:Net) (tabs:List (List EntryM)):Db (Es n tabs)∧(Es n tabs).injected=0:=by
 have h:=Xr (Ajq n) tabs tabs.length
 exact⟨h.1,h.2⟩
theorem Ait {n:Net} {of:List Int} (ho:H1 n of=true) (tabs:List (List EntryM)) (l:List StepM):∀ s∈(C8 n (Es n tabs) l).2,
  Ag s.port of.length=true∧1≤s.origin∧s.origin≤(E4 of l).length:=by
 intro s hs
 have hl:=Adr n tabs
 have h:=Xj (n:=n) l hl.1 s hs
 rw[hl.2,Int.zero_add,← U9 ho]at h
 exact⟨by rw[(Xl ho).1];exact h.1,h.2.2.1,h.2.2.2⟩
def Bq (l:List StepM) (at_:Nat):List StepM:=l.take at_++l.drop (at_+1)
def Em (p:List StepM→Bool):Nat→List StepM→List StepM × Bool
 | 0,l=>(l,false)
 | k+1,l=>if p (Bq l k)=true then ((Em p k (Bq l k)).1,true) else Em p k l
def Is (p:List StepM→Bool) (l:List StepM):List StepM × Bool:=Em p l.length l
def Dr (p:List StepM→Bool):Nat→List StepM→List StepM
 | 0,l=>l
 | k+1,l=>if (Is p l).2=true then Dr p k (Is p l).1 else (Is p l).1
def Wz (p:List StepM→Bool) (l:List StepM):Bool:=p l && (List.range l.length).all fun i=>!(p (Bq l i))
theorem Ol (l:List StepM) (k:Nat) (h:k<l.length):(Bq l k).length+1=l.length:=by
 unfold Bq
 simp only[List.length_append,List.length_take,List.length_drop]
 omega
theorem Js (l:List StepM) (k:Nat):(Bq l k).Sublist l:=by
 unfold Bq
 have h1:(l.take k++l.drop k).Sublist l:=by rw[List.take_append_drop];exact List.Sublist.refl _
 refine List.Sublist.trans ?_ h1
 exact List.Sublist.append (List.Sublist.refl _) (by rw[← List.drop_drop];exact List.drop_sublist _ _)
theorem Jh (p:List StepM→Bool):∀ (k:Nat) (l:List StepM),((Em p k l).1).Sublist l
 | 0,l=>List.Sublist.refl _
 | k+1,l=>by
  rw[Em]
  split
  ·exact(Jh p k _).trans (Js l k)
  ·exact Jh p k l
theorem Sg (p:List StepM→Bool):∀ (k:Nat) (l:List StepM),k≤l.length→if (Em p k l).2=true then (Em p k l).1.length<l.length else (Em p k l).1=l∧∀ i,i<k→p (Bq l i)=false
 | 0,l,_=>by simp[Em]
 | k+1,l,h=>by
  rw[Em]
  have hl:=Ol l k qn
  by_cases hp:p (Bq l k)=true
  ·simp only[hp,if_true]
   have:=(Jh p k (Bq l k)).length_le
   omega
  ·rw[if_neg hp]
   have ih:=Sg p k l qn
   split
   ·rename_i h2
    rw[if_pos h2]at ih
    exact ih
   ·rename_i h2
    rw[if_neg h2]at ih
    refine⟨ih.1,fun i hi=>?_⟩
    by_cases he:i=k
    ·subst he;simpa using hp
    ·exact ih.2 i qn
theorem Y9 (p:List StepM→Bool):∀ (k:Nat) (l:List StepM),p l=true→p (Em p k l).1=true
 | 0,l,h=>h
 | k+1,l,h=>by
  rw[Em]
  split
  ·rename_i h2
   exact Y9 p k _ h2
  ·exact Y9 p k l h
theorem Vh (p:List StepM→Bool) (l:List StepM):Wz p l=true↔p l=true∧∀ i,i<l.length→p (Bq l i)=false:=by
 unfold Wz
 simp only[Bool.and_eq_true,List.all_eq_true,List.mem_range,Bool.not_eq_true']
theorem Vm (p:List StepM→Bool):∀ (k:Nat) (l:List StepM),(∀ i,i<k→p (Bq l i)=false)→Em p k l=(l,false)
 | 0,l,_=>rfl
 | k+1,l,h=>by
  rw[Em,if_neg (by rw[h k qn];simp)]
  exact Vm p k l (fun i hi=>h i qn)
theorem Q9 (p:List StepM→Bool):∀ (k:Nat) (l:List StepM),l.length<k→p l=true→(Dr p k l).Sublist l∧Wz p (Dr p k l)=true
 | 0,l,h,_=>absurd h (Nat.not_lt_zero _)
 | k+1,l,h,hp=>by
  rw[Dr]
  have hs:=Jh p l.length l
  have hl:=Sg p l.length l (Nat.le_refl _)
  have hq:=Y9 p l.length l hp
  unfold Is
  by_cases h2:(Em p l.length l).2=true
  ·rw[if_pos h2]at hl ⊢
   have ih:=Q9 p k (Em p l.length l).1 qn hq
   exact⟨ih.1.trans hs,ih.2⟩
  ·rw[if_neg h2]at hl ⊢
   rw[hl.1]
   exact⟨List.Sublist.refl _,(Vh p l).2 ⟨hp,hl.2⟩⟩
theorem Ul (p:List StepM→Bool) (k:Nat) (l:List StepM) (h:Wz p l=true):Dr p (k+1) l=l:=by
 rw[Dr]
 have hm:=(Vh p l).1 h
 unfold Is
 rw[Vm p _ l hm.2]
 rfl
theorem Agf (p:List StepM→Bool) (k:Nat) (l:List StepM) (hk:l.length<k) (hp:p l=true):Wz p l=decide ((Dr p k l).length=l.length):=by
 have h:=Q9 p k l hk hp
 by_cases he:(Dr p k l).length=l.length
 ·rw[decide_eq_true he,← h.1.eq_of_length he]
  exact h.2
 ·rw[decide_eq_false he]
  cases hm:Wz p l
  ·rfl
  ·obtain ⟨k',rfl⟩:∃ k',k=k'+1:=⟨k-1,by omega⟩
   exact absurd (by rw[Ul p k' l hm]) he
open Classical in
noncomputable def K7 (l:List StepM) (x:StepM) (k:Nat):Nat:=if l[k]? = some x then k+1 else k
noncomputable def Eu (l:List StepM):List StepM→Nat→Nat
 | [],k=>k
 | x::s,k=>Eu l s (K7 l x k)
theorem Mt (l:List StepM):∀ (a b:List StepM) (k:Nat),Eu l (a++b) k=Eu l b (Eu l a k)
 | [],b,k=>rfl
 | x::a,b,k=>by rw[List.cons_append,Eu,Eu,Mt l a b]
theorem Abw (l s:List StepM) (k j:Nat) (hj:j<s.length):Eu l (s.take (j+1)) k=K7 l s[j] (Eu l (s.take j) k):=by
 rw[List.take_succ_eq_append_getElem hj,Mt]
 rfl
theorem X2 (l:List StepM) (x:StepM) (k:Nat) (h:k≤l.length):K7 l x k≤l.length:=by
 unfold K7
 split
 ·rename_i h2
  have:=(List.getElem?_eq_some_iff.1 h2).1
  omega
 ·exact h
theorem Si (l:List StepM):∀ (s:List StepM) (k:Nat),k≤l.length→Eu l s k≤l.length
 | [],k,h=>h
 | x::s,k,h=>Si l s _ (X2 l x k h)
theorem Kb (l:List StepM):∀ (s:List StepM) (k:Nat),k≤l.length→(l.drop k).Sublist s→Eu l s k=l.length
 | [],k,h,hs=>by
  have:=List.sublist_nil.1 hs
  have h2:l.length-k=0:=by rw[← List.length_drop,this];rfl
  rw[Eu];omega
 | x::s,k,h,hs=>by
  rw[Eu]
  by_cases hk:k=l.length
  ·have:=Si l s _ (X2 l x k h)
   have h3:K7 l x k=k:=by unfold K7;rw[hk,List.getElem?_eq_none (Nat.le_refl _)];simp
   rw[h3,hk]
   exact Kb l s _ (Nat.le_refl _) (by rw[List.drop_length];exact List.nil_sublist _)
  ·have hlt:k<l.length:=by omega
   rw[List.drop_eq_getElem_cons hlt]at hs
   unfold K7
   by_cases he:l[k]? = some x
   ·rw[if_pos he]
    have hx:=(List.getElem?_eq_some_iff.1 he).2
    rw[hx]at hs
    exact Kb l s (k+1) hlt (List.Sublist.of_cons_cons hs)
   ·rw[if_neg he]
    have hne:l[k]≠x:=fun h=>he (by rw[List.getElem?_eq_getElem hlt,h])
    refine Kb l s k h ?_
    rw[List.drop_eq_getElem_cons hlt]
    cases hs with
    | cons _ h2=>exact h2
    | cons_cons _ h2=>exact absurd rfl hne
end Go.Sy.YtnlacjgkdjnhmaaGreat
namespace Go.Sy.YtnlacjgkdjnhmaaGreat
open Go.Proofs
def Ais (x y:StepM):Prop:=y.kind=x.kind∧y.port=x.port∧y.domain=x.domain∧y.bytes=x.bytes∧y.up.length=x.up.length
instance (x y:StepM):Decidable (Ais x y):=by unfold Ais;infer_instance
def Amq (l:List StepM) (x:StepM) (k:Nat):Prop:=∃ h:k<l.length,Ais x l[k]∧0≤l[k].at_∧l[k].at_≤x.at_
instance (l:List StepM) (x:StepM) (k:Nat):Decidable (Amq l x k):=by unfold Amq;infer_instance
end Go.Sy.YtnlacjgkdjnhmaaGreat
namespace Go.Sy.YtnlacjgkdjnhmaaGreat
open Go.Proofs
attribute [local irreducible] Go.Sy.G Go.Sy.DR
structure Bx (Q:Prop):Prop where out:Q
theorem sE {α:Sort _} {a b:α} {K:Prop} (e:a=b) (h:K):a=b∧K:=⟨e,h⟩
theorem xE {α:Sort _} {a b:α} {K:a=b→Prop} (e:a=b) (h:K e):∃ e:a=b,K e:=⟨e,h⟩
theorem sL {a b:Int} {K:Prop} (e:a≤b) (h:K):a≤b∧K:=⟨e,h⟩
theorem xL {a b:Int} {K:a≤b→Prop} (e:a≤b) (h:K e):∃ e:a≤b,K e:=⟨e,h⟩
theorem sM {a b:Nat} {K:Prop} (e:a≤b) (h:K):a≤b∧K:=⟨e,h⟩
theorem sT {a b:Nat} {K:Prop} (e:a<b) (h:K):a<b∧K:=⟨e,h⟩
theorem xT {a b:Nat} {K:a<b→Prop} (e:a<b) (h:K e):∃ e:a<b,K e:=⟨e,h⟩
theorem sN {a b:Int} {K:Prop} (e:a≠b) (h:K):a≠b∧K:=⟨e,h⟩
theorem sI {a:Int} {K:Prop} (e:I64 a) (h:K):I64 a∧K:=⟨e,h⟩
theorem ct {p q:Prop} {b:Bool} (h:q) (e:b=true→False:=by
 intro _h
 first | exact absurd _h qx | exact Bool.false_ne_true (Eq.trans (Eq.symm (by with_reducible assumption)) _h) | (simp at _h;done) | (simp at _h;omega)):(b=true→p)∧(b=false→q):=⟨fun x=>(e x).elim,fun _=>h⟩
theorem cf {p q:Prop} {b:Bool} (h:p) (e:b=false→False:=by
 intro _h
 first | exact absurd _h qx | exact Bool.false_ne_true (Eq.trans (Eq.symm _h) (by with_reducible assumption)) | (simp at _h;done) | (simp at _h;omega)):(b=true→p)∧(b=false→q):=⟨fun _=>h,fun x=>(e x).elim⟩
theorem S {P Q:Prop} (h:Q) (e:Bx Q→P:=by
 intro hb
 first | refine rg ?_ | refine rd qq ?_ | skip
 conv=>whnf
 repeat (first
  | ((first | refine aF ?_ | refine aT ?_ | refine ct ?_ | refine cf ?_);(first | refine rg ?_ | refine rd qq ?_);(conv=>whnf))
  | ((first | refine⟨(by kernel_rfl:Zm _ _=true),?_⟩ | refine sI (by unfold I64;omega) ?_);(conv=>whnf)))
 exact hb.out):P:=e ⟨h⟩
theorem T {P Q:Prop} (h:Q) (e:Bx Q→P:=by
 intro hb
 refine S ?_
 repeat ((first | refine sE (by exact rfl) ?_ | refine sL (by first | omega | decide) ?_ | refine xL (by first | omega | decide) ?_ | refine sT (by first | omega | decide) ?_ | refine xT (by first | omega | decide) ?_ | refine sM (by first | omega | decide) ?_ | refine sN (by first | omega | decide) ?_ | refine xE (by exact rfl) ?_);refine S ?_)
 exact hb.out):P:=e ⟨h⟩
theorem D {P:Prop} (h:P:=by
 apply Ac
 ·exact E
 ·(repeat (first | exact ResVs.nil | (apply ResVs.cons;(first | exact .tmp | exact .cell rfl rfl rfl rfl))))
 ·exact E
 ·exact E):P:=h
theorem U {P:Prop} (h:P:=by
 refine⟨?_,?_,E,E⟩
 ·repeat (first | exact trivial | exact rfl | refine⟨rfl,rfl,?_⟩)
 ·repeat (first | exact trivial | refine⟨.inl rfl,rfl,?_⟩ | refine⟨.inr rfl,rfl,?_⟩)):P:=h
theorem Uo {P:Prop} (h:P:=by
 repeat (first | exact trivial | refine⟨.inl rfl,rfl,?_⟩ | refine⟨.inr rfl,rfl,?_⟩)):P:=h
theorem doneE {P:Program} {fn:Func} {F:Fr} {R:SV} {H':Obs} {Γ:Go.Sy.Ty P} {n:Nat} {bn:List Nat} {hbn:∀ k,F.k0 k≠.new→k∈bn} {k:List KI} {s:SS} {rs:List ResultVar} (hf:fn.results=rs.toArray) {xs:List SV} (hx:ResVs Γ.get s rs xs)
  (hR:R.ren (Ax [])=Xb xs) (hRn:R.inn (Obs.keys H')=true) (hsub:Sub ⟨P,Γ,F,n,Q0 P fn F R H',bn,hbn⟩ s [] [] H'):G ⟨P,Γ,F,n,Q0 P fn F R H',bn,hbn⟩ (.code .ret::k) s:=done hf hx [] H' (fun _ h=>h) hR hRn hsub
theorem doneF {P:Program} {fn:Func} {F:Fr} {R:SV} {H':Obs} {Γ:Go.Sy.Ty P} {n:Nat} {bn:List Nat} {hbn:∀ k,F.k0 k≠.new→k∈bn} {s:SS} {rs:List ResultVar} (hf:fn.results=rs.toArray) {xs:List SV} (hx:ResVs Γ.get s rs xs)
  (hR:R.ren (Ax [])=Xb xs) (hRn:R.inn (Obs.keys H')=true) (hsub:Sub ⟨P,Γ,F,n,Q0 P fn F R H',bn,hbn⟩ s [] [] H'):G ⟨P,Γ,F,n,Q0 P fn F R H',bn,hbn⟩ [] s:=Bm hf hx [] H' (fun _ h=>h) hR hRn hsub
theorem E0 {P:Prop} (h:P:=by
 first | apply doneE | apply doneF
 ·exact E
 ·(repeat (first | exact ResVs.nil | (apply ResVs.cons;(first | exact .tmp | exact .cell rfl rfl rfl rfl))))
 ·exact E
 ·exact E
 ·exact U):P:=h
theorem W {P:Prop} (h:P:=by
 repeat (first | exact trivial | exact rfl | refine⟨rfl,?_⟩)):P:=h
theorem V {P:Prop} (h:P:=by
 repeat (first | exact trivial | refine⟨.inl rfl,?_⟩ | refine⟨.inr rfl,?_⟩)):P:=h
theorem C {P:Program} {f:FuncId} {fn:Func} {c:Code} {A:List SV} {R:SV} {Z Q:Prop} (hs:Sy.Spec P f A [] R []) (hf:Fun P f fn c) (h:Q) (e:Sy.Spec P f A [] R []→Fun P f fn c→Bx Q→Z:=by
 intro hs hf hb
 first | refine Ah hs hf rfl rfl rfl rfl rfl ?_ | refine An hs hf rfl rfl rfl qq rfl ?_
 refine T ?_
 exact hb.out):Z:=e hs hf ⟨h⟩
theorem X {C:Cx} {k:List KI} {s:SS} {all:Array Oper} {o:Oper} {rest:List Oper} {V:Up} {Q:Prop} (hg:Good C.P o s V) (h:Q) (hd:M0 C.n o=true:=by exact rfl) (hw:Dv C.n all o s=some true:=by exact rfl) (e:Bx Q→G C (.ops all rest::k) (s.upd o.dst V):=by
 intro hb
 refine T ?_
 exact hb.out):G C (.ops all (o::rest)::k) s:=Ai hg hd hw (e ⟨h⟩)
theorem Xd {C:Cx} {k:List KI} {s:SS} {all:Array Oper} {done:List Stp} {o:Oper} {rest:List Oper} {V:Up} {Q:Prop} (hg:Good C.P o s V) (h:Q) (hi:all[done.length]? = some o:=by kernel_rfl) (hw:Dv C.n all o s=some true:=by exact rfl) (hn:(Hh o || Kn o)=false:=by exact rfl) (e:Bx Q→DR C k all (done++[⟨done.length,o,V,true⟩]) rest (s.upd o.dst V):=by
 intro hb
 refine T ?_
 exact hb.out):DR C k all done (o::rest) s:=Bv hg hi hw (e ⟨h⟩) hn
end Go.Sy.YtnlacjgkdjnhmaaGreat
namespace Go.Sy.YtnlacjgkdjnhmaaGreat
open Go.Proofs
attribute [local irreducible] Go.Sy.G Go.Sy.DR
set_option maxRecDepth 100000
set_option maxHeartbeats 4000000
structure TabsOK (tabs:List (List EntryM)):Prop where
 few:tabs.length≤60
 tab:∀ t∈tabs,t.length≤60
 ok:Aev tabs
theorem Ads {n:Net} {tabs:List (List EntryM)} (h:TabsOK tabs) (m:MacM) (j:Nat) (hj:j<tabs.length):Ey m tabs (j+1)=(loadT (Ey m tabs j) j tabs[j]).1:=by
 rw[Ey,T9 hj,K1,if_neg (by have:=h.tab _ (List.getElem_mem hj);omega)]
theorem Ag7 {m:MacM} {j:Nat} {t:List EntryM} (h:¬ j<m.queues.length):(loadT m j t).1=m:=by
 unfold loadT
 rw[if_neg]
 intro hc
 have:=(placeB_iff.1 hc.1).2
 omega
theorem Tp (n:Net) (hn:n.Fin) (tabs:List (List EntryM)) (hok:okB n (Af3 n)=false) :
  Sy.Spec Tryz.prog 21 [Aq n,.sl 1 D5 tabs] [] (.tup [.val (.pointer none),Aa 2]) []:=Ab Γ hm 100 F21 Tryz.ntmps21 rfl fun F hF=>by
 refine T ?_
 refine C (Ac3 n hn hok) F41 ?_
 exact D
theorem Yo (n:Net) (hn:n.Fin) (tabs:List (List EntryM)) (ht:TabsOK tabs) (hok:okB n (Af3 n)=true) :
  Sy.Spec Tryz.prog 21 [Aq n,.sl 1 D5 tabs] [] (.tup [.ptr 0 0,Aa 0]) (Cf n (Es n tabs) false):=Ab Γ hm 100 F21 Tryz.ntmps21 rfl fun F hF=>by
 have q1:=Alm n hn hok
 have hn0:=Afg n
 unfold Es
 generalize newT n=m0 at *
 have htl:=ht.few
 have hds:=hn.domains
 unfold Am at hds
 refine T ?_
 refine X (Aj [(0,800),(1,801),(2,802),(3,803)] E F41 q1 E W E V) ?_
 refine E9 2 902 E E qx ?_
 refine A2 tabs.length (fun j=>[(2,.ptr 902 0),(6,.ptr 0 0),(18,.sl 1 D5 tabs),(19,Aa tabs.length),(20,Aa j)]) (fun j=>[(0,.box (Tq n 1 (Ey m0 tabs j).now (Ey m0 tabs j).injected (Ey m0 tabs j).drops)),(1,.box (Kh n (Ey m0 tabs j).up false)),(2,.row 1 D5 (Ey m0 tabs j).tables),(3,.row 1 U5 (Ey m0 tabs j).queues),(902,.box (Aa9 n))]) [(0,800),(1,801),(2,802),(3,803)] U ?_
 intro j hj
 have hok0:=Vl hn0 ht.ok j
 refine T ?_
 refine⟨fun h=>?_,fun h=>?_⟩
 ·have hlt:j<tabs.length:=by have:=of_decide_eq_true h;omega
  have hj0:((j:Nat):Int).toNat<tabs.length:=by simpa using hlt
  obtain ⟨t,hoo⟩:∃ t,tabs[j]=t:=⟨_,rfl⟩
  have e1:tabs[((j:Nat):Int).toNat]'hj0=t:=hoo
  have hs:=Ads (n:=n) ht m0 j hlt
  rw[hoo]at hs
  have hti:=ht.ok t (by rw[← hoo];exact List.getElem_mem hlt)
  have htt:=ht.tab t (by rw[← hoo];exact List.getElem_mem hlt)
  have hto:=Aaj hti.1 htt
  have hqd:=hok0.ques
  have q2:=Aio n (Ey m0 tabs j) false j t (by rw[hok0.tabs,hok0.ques]) hto.short hto.mac
  have hout:=Ag7 (m:=Ey m0 tabs j) (j:=j) (t:=t)
  rw[← hs]at q2 hout
  clear h
  refine S ?_
  refine⟨E,by omega,hj0,?_⟩
  rw[e1]
  refine T ?_
  refine⟨fun h=>?_,fun h=>?_⟩
  ·refine T ?_
   refine X (Aj [] E F42 q2 E W E V) ?_
   exact Av [] hlt U
  ·have hm:=hout (by have:=of_decide_eq_false h;omega)
   refine T ?_
   refine Av [] hlt ⟨⟨E,E,E,E,E,E,E,E,E,E,Y⟩,?_,E,E⟩
   dsimp only
   rw[hm]
   exact Uo
 ·have hjj:j=tabs.length:=by have:=of_decide_eq_false h;omega
  subst hjj
  refine T ?_
  exact E0
theorem Agc (n:Net) (hn:n.Fin) (hm1:n.Num) (tabs:List (List EntryM)) (ht:TabsOK tabs) (l:List StepM) (hl:ScriptOK l) :
  Sy.Spec Tryz.prog 18 [Aq n,.sl 1 D5 tabs,.sl 6 Bg l] [] (.tup [.sl 3 Cg (runTabsT n tabs l).1,Aa (runTabsT n tabs l).2]) []:=Ab Γ hm 100 F18 Tryz.ntmps18 rfl fun F hF=>by
 have hres:=runTabsT.eq_1 n tabs l
 generalize runTabsT n tabs l=res at *
 have hlen:=hl.few
 cases hok:okB n (Af3 n)
 ·rw[if_neg (by rw[hok];simp)]at hres
  subst hres
  refine T ?_
  refine C (Tp n hn tabs hok) F21 ?_
  refine Ap 6 3 Cg E ?_
  exact D
 ·rw[if_pos hok]at hres
  subst hres
  have q1:=Yo n hn tabs ht hok
  have hn0:MacOK n (Es n tabs) 0 0:=Vl (Afg n) ht.ok _
  generalize Es n tabs=m0 at *
  refine T ?_
  refine X (Aj [(0,800),(1,801),(2,802),(3,803)] E F21 q1 E W E V) ?_
  refine Cc 10 1000 3 Cg E E ?_
  refine A2 l.length (fun j=>[(8,.ptr 0 0),(10,.osl 1000),(24,.sl 6 Bg l),(25,Aa l.length),(26,Aa j)]) (fun j=>runO n (C8 n m0 (l.take j)).1 (runD n m0 false (l.take j)) (C8 n m0 (l.take j)).2) [(0,800),(1,801),(2,802),(3,803)] U ?_
  intro j hj
  refine T ?_
  refine⟨fun h=>?_,fun h=>?_⟩
  ·have hlt:j<l.length:=by have:=of_decide_eq_true h;omega
   have hj0:((j:Nat):Int).toNat<l.length:=by simpa using hlt
   obtain ⟨x,hoo⟩:∃ x,l[j]=x:=⟨_,rfl⟩
   have e1:l[((j:Nat):Int).toNat]'hj0=x:=hoo
   have hs:=Agk n m0 l j hlt
   have hds:=Agl n m0 false l j hlt
   rw[hoo]at hs hds
   have hxb:=hl.bytes x (by rw[← hoo];exact List.getElem_mem hlt)
   have hjo:=Ae9 hn hm1 (l.take j) hn0 (Int.le_refl _) (Int.le_refl _)
   have hjl:(l.take j).length=j:=by rw[List.length_take];omega
   have hjf:=Uu hn (l.take j) m0
   rw[hjl]at hjo hjf
   have q5:=simDoS n hn hm1 (C8 n m0 (l.take j)).1 (runD n m0 false (l.take j)) _ _ hjo qn qn qn x qn
   have hfw:=Afr hn (C8 n m0 (l.take j)).1 x
   have g1:(C8 n m0 (l.take (j+1))).1=(doT n (C8 n m0 (l.take j)).1 x).1:=by rw[hs]
   have g2:(C8 n m0 (l.take (j+1))).2=(C8 n m0 (l.take j)).2++(doT n (C8 n m0 (l.take j)).1 x).2:=by rw[hs]
   clear h
   refine S ?_
   refine⟨E,by omega,hj0,?_⟩
   rw[e1]
   refine T ?_
   refine X (Aj [(4,33)] E F22 q5 E W E V) ?_
   refine X (Al Γ.toTy 38 E E E E E (.row E) .sl qy qn qn) ?_
   refine Av [(1,33),(1000,38)] hlt ⟨⟨E,E,E,E,E,E,E,E,E,E,Y⟩,?_,E,E⟩
   dsimp only
   rw[g1,g2,hds]
   exact Uo
  ·have hjj:j=l.length:=by have:=of_decide_eq_false h;omega
   subst hjj
   rw[List.take_length]
   clear h
   refine T ?_
   refine Au 1000 E ?_
   exact D
def ownAt (n:Net) (of:List Int) (i:Nat):Bool:=if (nth n.ports (i:Int)).link<0 then decide (0≤nth of (i:Int)) && decide (nth of (i:Int)≤9) else decide (nth of (i:Int)=-1)
theorem Adf (n:Net) (of:List Int):H1 n of=(decide (of.length=n.ports.length) && Af n && (List.range of.length).all (ownAt n of)):=rfl
theorem Agq {k:Nat} {p:Nat→Bool} (h:∀ i,i<k→p i=true):(List.range k).all p=true:=by
 rw[List.all_eq_true]
 intro i hi
 exact h i (List.mem_range.1 hi)
theorem Agp {k j:Nat} {p:Nat→Bool} (hj:j<k) (h:p j=false):(List.range k).all p=false:=by
 rw[Bool.eq_false_iff]
 intro ha
 have:=List.all_eq_true.1 ha j (List.mem_range.2 hj)
 rw[h]at this;cases this
theorem Y1 (n:Net) (hn:n.Fin) (of:List Int):Sy.Spec Tryz.prog 17 [Aq n,.sl 1 Aa of] [] (Ad (H1 n of)) []:=Ab Γ hm 100 F17 Tryz.ntmps17 rfl fun F hF=>by
 have hres:=Adf n of
 generalize H1 n of=res at *
 have qr:=Bi n hn
 have hps:=hn.ports
 unfold Am at hps
 generalize Af n=nr at *
 refine T ?_
 refine⟨fun h=>?_,fun h=>?_⟩
 ·rw[decide_eq_false (show ¬ of.length=n.ports.length by simp at h;omega),Bool.false_and,Bool.false_and]at hres
  subst hres
  refine T ?_
  exact D
 have hlen:of.length=n.ports.length:=by simp at h;omega
 rw[decide_eq_true hlen,Bool.true_and]at hres
 refine T ?_
 refine C qr F20 ?_
 cases nr
 ·rw[Bool.false_and]at hres
  subst hres
  refine T ?_
  exact D
 rw[Bool.true_and]at hres
 refine T ?_
 refine Bc of.length (fun j=>∀ i,i<j→ownAt n of i=true) (fun j=>[(2,.ptr 2 0),(19,.sl 1 Aa of),(20,Aa of.length),(21,Aa j)]) (fun _=>[(2,.box (Aa9 n))]) [] (fun i hi=>absurd hi (Nat.not_lt_zero i)) U ?_
 intro j hj hI
 refine T ?_
 refine⟨fun h=>?_,fun h=>?_⟩
 ·have hlt:j<of.length:=by have:=of_decide_eq_true h;omega
  have hj0:((j:Nat):Int).toNat<of.length:=by simpa using hlt
  have hj1:((j:Nat):Int).toNat<n.ports.length:=by rw[← hlen];exact hj0
  have hat:=ownAt.eq_1 n of j
  rw[Ao hj1,Ao hj0]at hat
  obtain ⟨w,hw⟩:∃ w,of[((j:Nat):Int).toNat]'hj0=w:=⟨_,rfl⟩
  obtain ⟨p,hp⟩:∃ p,n.ports[((j:Nat):Int).toNat]'hj1=p:=⟨_,rfl⟩
  rw[hw,hp]at hat
  have bad:ownAt n of j=false→res=false:=fun hb=>by rw[hres];exact Agp hlt hb
  have good:ownAt n of j=true→∀ i,i<j+1→ownAt n of i=true:=fun hb i hi=>by
   by_cases he:i=j
   ·subst he;exact hb
   ·exact hI i qn
  generalize ownAt n of j=g at *
  clear h
  refine S ?_
  refine⟨E,by omega,hj0,?_⟩
  rw[hw]
  refine S ?_
  refine⟨E,by omega,hj1,?_⟩
  rw[hp]
  refine T ?_
  refine⟨fun h1=>?_,fun h1=>?_⟩
  ·have hl:=of_decide_eq_true h1
   rw[if_neg qn]at hat
   refine T ?_
   refine⟨fun h2=>?_,fun h2=>?_⟩
   ·have hr:=bad (by rw[hat];simp at h2;simp;omega)
    subst hr
    refine T ?_
    exact D
   ·have hx:=good (by rw[hat];simp at h2;simp;omega)
    refine T ?_
    refine A9 [] hI hlt hx ?_
    exact U
  ·have hl:=of_decide_eq_false h1
   rw[if_pos qn,← Bool.decide_and]at hat
   refine T ?_
   refine⟨fun h2=>?_,fun h2=>?_⟩
   ·have hr:=bad (by rw[hat];exact decide_eq_false (by have:=of_decide_eq_true h2;omega))
    subst hr
    refine T ?_
    exact D
   refine T ?_
   refine⟨fun h3=>?_,fun h3=>?_⟩
   ·have hr:=bad (by rw[hat];exact decide_eq_false (by have:=of_decide_eq_true h3;omega))
    subst hr
    refine T ?_
    exact D
   have hx:=good (by rw[hat];exact decide_eq_true (by have:=of_decide_eq_false h2;have:=of_decide_eq_false h3;omega))
   refine T ?_
   refine A9 [] hI hlt hx ?_
   exact U
 ·have hjj:j=of.length:=by have:=of_decide_eq_false h;omega
  subst hjj
  have hr:res=true:=by rw[hres];exact Agq hI
  subst hr
  refine T ?_
  exact D
theorem Jr {κ:Ka} {w:World} {a a':SV} {l l':List SV} (h1:∀ v,Rd κ w a' v→Rd κ w a v) (h2:∀ vs,RdL κ w l' vs→RdL κ w l vs):∀ vs,RdL κ w (a'::l') vs→RdL κ w (a::l) vs:=by
 intro vs h
 simp only[RdL]at h ⊢
 obtain ⟨v,r,e1,e2,e3⟩:=h
 exact⟨v,r,e1,h1 v e2,h2 r e3⟩
def great34B (n:Net) (tabs:List (List EntryM)) (l:List StepM):Bool:=D7 n || great33B l || decide (60<tabs.length) || tabs.any fun t=>decide (60<t.length)
theorem W2 {n:Net} {tabs:List (List EntryM)} {l:List StepM} (h:great34B n tabs l=false):D7 n=false∧great33B l=false∧tabs.length≤60∧∀ t∈tabs,t.length≤60:=by
 unfold great34B at h
 simp only[Bool.or_eq_false_iff,decide_eq_false_iff_not,List.any_eq_false,decide_eq_true_eq]at h
 exact⟨h.1.1.1,h.1.1.2,by omega,fun t ht=>by have:=h.2 t ht;omega⟩
theorem Aj6 (n:Net) (tabs:List (List EntryM)) (l:List StepM):Sy.Spec Tryz.prog 5 [Aq n,.sl 1 D5 tabs,.sl 6 Bg l] [] (Ad (great34B n tabs l)) []:=Ab Γ hm 100 F5 Tryz.ntmps5 rfl fun F hF=>by
 have hres:=great34B.eq_1 n tabs l
 generalize great34B n tabs l=res at *
 have q1:=greatS n
 have q2:=Aj7 l
 generalize D7 n=a at *
 generalize great33B l=b at *
 refine T ?_
 refine C q1 F10 ?_
 cases a
 rotate_left
 ·simp only[Bool.true_or]at hres
  subst hres
  refine T ?_
  exact D
 refine T ?_
 refine C q2 F11 ?_
 cases b
 rotate_left
 ·simp only[Bool.true_or,Bool.or_true]at hres
  subst hres
  refine T ?_
  exact D
 simp only[Bool.false_or]at hres
 refine T ?_
 refine⟨fun h=>?_,fun h=>?_⟩
 ·rw[decide_eq_true (by have:=of_decide_eq_true h;omega),Bool.true_or]at hres
  subst hres
  refine T ?_
  exact D
 have h1:=of_decide_eq_false h
 rw[decide_eq_false qn,Bool.false_or]at hres
 refine T ?_
 refine Bc tabs.length (fun j=>Dy (fun _ t=>!(decide (60<t.length))) tabs j) (fun j=>[(1,.sl 1 D5 tabs),(7,Aa j)]) (fun _=>[]) [] (Bd _ _) U ?_
 intro j hj hI
 refine T ?_
 refine⟨fun h=>?_,fun h=>?_⟩
 ·have hlt:j<tabs.length:=by have:=of_decide_eq_true h;omega
  have hj0:((j:Nat):Int).toNat<tabs.length:=by simpa using hlt
  have hat:=fun h=>@any_at3 _ (fun t:List EntryM=>decide (60<t.length)) tabs j hlt h
  have hnx:=fun h=>Ba (p:=fun _ (t:List EntryM)=>!(decide (60<t.length))) hI hlt h
  obtain ⟨x,hx⟩:∃ x,tabs[((j:Nat):Int).toNat]'hj0=x:=⟨_,rfl⟩
  have hx':tabs[j]=x:=hx
  rw[hx']at hat hnx
  refine S ?_
  refine⟨E,by omega,hj0,?_⟩
  rw[hx]
  refine T ?_
  refine⟨fun h=>?_,fun h=>?_⟩
  ·rw[hat (decide_eq_true (by have:=of_decide_eq_true h;omega))]at hres
   subst hres
   refine T ?_
   exact D
  ·have hn:=hnx (by rw[decide_eq_false (by have:=of_decide_eq_false h;omega)];rfl)
   refine T ?_
   refine A9 [] hI hlt hn ?_
   exact U
 ·rw[Ye hI (by have:=of_decide_eq_false h;omega)]at hres
  subst hres
  refine T ?_
  exact D
theorem Aai:TabsOK []:=⟨by decide,fun t h=>(by cases h),fun t h=>(by cases h)⟩
def Sp (n:Net) (of:List Int) (tabs:List (List EntryM)):List SV:=[.sl 5 A1 n.devices,.sl 7 A3 n.ports,.sl 3 B6 n.links,.sl 6 As n.domains,.sl 4 Be n.statics,.sl 4 Bu n.floods,.sl 5 Ci n.vrfs,.sl 5 C7 n.irbs,.sl 1 Aa of,.sl 1 D5 tabs]
def Zq (n:Net) (of:List Int) (tabs:List (List EntryM)):SV:=.agg [.sl 5 A1 n.devices,.sl 7 A3 n.ports,.sl 3 B6 n.links,.sl 6 As n.domains,.sl 4 Be n.statics,.sl 4 Bu n.floods,.sl 5 Ci n.vrfs,.sl 5 C7 n.irbs,.sl 1 Aa of,.sl 1 D5 tabs]
theorem Z3 (l:List StepM) (k:Nat) (hk:k<l.length) (hl:l.length<1000000) :
  Sy.Spec Tryz.prog 16 [.sl 6 Bg l,Aa (k:Nat)] [] (.sl 6 Bg (Bq l k)) []:=Ab Γ hm 0 F16 Tryz.ntmps16 rfl fun F hF=>by
 have hres:Bq l k=l.take k++(l.take l.length).drop (k+1):=by rw[List.take_length];rfl
 rw[hres]
 have hne:l≠[]:=fun e=>by rw[e]at hk;simp at hk
 conv=>whnf
 refine Amw 0 90 E hne ?_
 intro B off cap hcap
 refine S ?_
 refine Xd (Mu (hi:=k) Γ.toTy E E E E E E qn) ?_
 refine Xd (Zd (lo:=k+1) (hi:=l.length) Γ.toTy 90 E E E E E (.inr ⟨_,_,E,E⟩) (.inl ⟨E,E⟩) qn (Nat.le_refl _)) ?_
 have hll:((l.take l.length).drop (k+1)).length=l.length-(k+1):=by rw[List.length_drop,List.length_take];omega
 refine Xd (Mw Γ.toTy 90 E E E E E E (Nat.le_of_lt hk) E (by rw[hll];omega) (by rw[hll];omega)) ?_
 exact D
def portX (of:List Int) (x:StepM):List Int:=if injB of x=true then [x.port] else []
theorem Aa1 (of:List Int) (l:List StepM) (j:Nat) (hj:j<l.length):E4 of (l.take (j+1))=E4 of (l.take j)++portX of l[j]:=by
 unfold E4 portX
 rw[List.take_succ_eq_append_getElem hj,List.filter_append,List.map_append]
 congr 1
 by_cases h:injB of l[j]=true
 ·rw[if_pos h,List.filter_cons_of_pos h];rfl
 ·rw[if_neg h,List.filter_cons_of_neg h];rfl
theorem U8 (of:List Int) (l:List StepM):(E4 of l).length≤l.length:=by
 unfold E4
 rw[List.length_map]
 exact List.length_filter_le _ _
theorem Acf (n:Net) (of:List Int) (tabs:List (List EntryM)) (l:List StepM) (hl:l.length≤60) :
  Sy.Spec Tryz.prog 19 [Zq n of tabs,.sl 6 Bg l] [] (.sl 1 Aa (E4 of l)) []:=Ab Γ hm 100 F19 Tryz.ntmps19 rfl fun F hF=>by
 refine T ?_
 refine Cc 5 1000 1 Aa E E ?_
 refine A2 l.length (fun j=>[(2,.ptr 2 0),(5,.osl 1000),(8,.sl 6 Bg l),(9,Aa l.length),(10,Aa j)]) (fun j=>[(2,.box (Sp n of tabs)),(1000,.row 1 Aa (E4 of (l.take j)))]) [] U ?_
 intro j hj
 refine T ?_
 refine⟨fun h=>?_,fun h=>?_⟩
 ·have hlt:j<l.length:=by have:=of_decide_eq_true h;omega
  have hj0:((j:Nat):Int).toNat<l.length:=by simpa using hlt
  obtain ⟨x,hoo⟩:∃ x,l[j]=x:=⟨_,rfl⟩
  have e1:l[((j:Nat):Int).toNat]'hj0=x:=hoo
  have hs:=Aa1 of l j hlt
  have hpl:=U8 of (l.take j)
  rw[List.length_take]at hpl
  rw[hoo]at hs
  have hv:=portX.eq_1 of x
  have hb:=injB.eq_1 of x
  generalize injB of x=b at *
  generalize portX of x=v at *
  clear h
  refine S ?_
  refine⟨E,by omega,hj0,?_⟩
  rw[e1]
  refine T ?_
  by_cases hk:x.kind=1
  rotate_left
  ·rw[decide_eq_false hk,Bool.false_and]at hb
   rw[hb,if_neg qy]at hv
   rw[hv,List.append_nil]at hs
   refine T ?_
   refine Av [] hlt ⟨⟨E,E,E,E,E,E,E,E,E,E,Y⟩,⟨.inl E,E,.inl (congrArg (Ob.row 1 Aa) hs),E,Y⟩,E,E⟩
  rw[decide_eq_true hk,Bool.true_and]at hb
  refine S ?_
  refine⟨fun h1=>?_,fun h1=>?_⟩
  rotate_left
  ·rw[O4 (by have:=of_decide_eq_false h1;omega),Bool.false_and]at hb
   rw[hb,if_neg qy]at hv
   rw[hv,List.append_nil]at hs
   refine T ?_
   refine Av [] hlt ⟨⟨E,E,E,E,E,E,E,E,E,E,Y⟩,⟨.inl E,E,.inl (congrArg (Ob.row 1 Aa) hs),E,Y⟩,E,E⟩
  have h1:=of_decide_eq_true h1
  refine T ?_
  refine⟨fun h2=>?_,fun h2=>?_⟩
  rotate_left
  ·rw[O4 (by have:=of_decide_eq_false h2;omega),Bool.false_and]at hb
   rw[hb,if_neg qy]at hv
   rw[hv,List.append_nil]at hs
   refine T ?_
   refine Av [] hlt ⟨⟨E,E,E,E,E,E,E,E,E,E,Y⟩,⟨.inl E,E,.inl (congrArg (Ob.row 1 Aa) hs),E,Y⟩,E,E⟩
  have h2:=of_decide_eq_true h2
  have hkk:x.port.toNat<of.length:=by omega
  rw[Ir qn,Bool.true_and,Ao hkk]at hb
  refine T ?_
  refine⟨fun h3=>?_,fun h3=>?_⟩
  rotate_left
  ·rw[decide_eq_false (by have:=of_decide_eq_false h3;omega)]at hb
   rw[hb,if_neg qy]at hv
   rw[hv,List.append_nil]at hs
   refine T ?_
   refine Av [] hlt ⟨⟨E,E,E,E,E,E,E,E,E,E,Y⟩,⟨.inl E,E,.inl (congrArg (Ob.row 1 Aa) hs),E,Y⟩,E,E⟩
  rw[decide_eq_true (by have:=of_decide_eq_true h3;omega)]at hb
  rw[hb,if_pos rfl]at hv
  rw[hv]at hs
  refine T ?_
  refine X (Al Γ.toTy 43 rfl rfl rfl rfl rfl (.row rfl) (.lit (e:=Aa) (l:=[x.port]) rfl rfl) (fun j hj=>by cases hj;decide) (by simp;omega) (by simp;omega)) ?_
  refine Av [(1000,43)] hlt ⟨⟨E,E,E,E,E,E,E,E,E,E,Y⟩,⟨.inl E,E,.inl (congrArg (Ob.row 1 Aa) hs),E,Y⟩,E,E⟩
 ·have hjj:j=l.length:=by have:=of_decide_eq_false h;omega
  subst hjj
  rw[List.take_length]
  refine T ?_
  refine Au 1000 E ?_
  exact D
theorem Lg (of by_:List Int):∀ (a b:List SeenM),(∀ s∈a,nth of (nth by_ (s.origin-1))=nth of s.port)→Kd of by_ (a++b)=Kd of by_ b
 | [],b,_=>rfl
 | s::a,b,h=>by
  rw[List.cons_append,Kd,if_neg (fun hn=>hn (h s qy))]
  exact Lg of by_ a b (fun s hs=>h s (by simp[hs]))
theorem Af2 {α:Type} {p:Nat→α→Bool} {l:List α} {j:Nat} (h:Dy p l j):∀ x∈l.take j,∃ i,p i x=true:=by
 intro x hx
 obtain ⟨i,hi,rfl⟩:=List.getElem_of_mem hx
 rw[List.length_take]at hi
 refine⟨i,?_⟩
 rw[List.getElem_take]
 exact h i qn qn
def Aap (of by_:List Int) (s:SeenM):Bool:=decide (nth of (nth by_ (s.origin-1))=nth of s.port)
theorem Ace {of by_:List Int} {l:List SeenM} {j:Nat} (hI:Dy (fun _ s=>Aap of by_ s) l j) (hj:j<l.length) (h:nth of (nth by_ (l[j].origin-1))≠nth of l[j].port):Kd of by_ l=(nth by_ (l[j].origin-1),l[j].port,true):=by
 have e:l=l.take j++(l[j]::l.drop (j+1)):=by rw[← List.drop_eq_getElem_cons hj,List.take_append_drop]
 have hs:=Lg of by_ (l.take j) (l[j]::l.drop (j+1)) (fun s hs=>by obtain ⟨i,hp⟩:=Af2 hI s hs;exact of_decide_eq_true hp)
 rw[← e]at hs
 rw[hs,Kd,if_pos h]
theorem Acd {of by_:List Int} {l:List SeenM} {j:Nat} (hI:Dy (fun _ s=>Aap of by_ s) l j) (hj:l.length≤j):Kd of by_ l=(0,0,false):=by
 have hs:=Lg of by_ l [] (fun s hs=>by
  obtain ⟨i,hi,rfl⟩:=List.getElem_of_mem hs
  exact of_decide_eq_true (hI i hi qn))
 rw[List.append_nil]at hs
 rw[hs,Kd]
theorem Ec (n:Net) (hn:n.Fin) (hm1:n.Num) (of:List Int) (tabs:List (List EntryM)) (ht:TabsOK tabs) (l:List StepM) (hl:ScriptOK l) :
  Sy.Spec Tryz.prog 12 [Zq n of tabs,.sl 6 Bg l] [] (.tup [Aa (crossesT n of tabs l).1,Aa (crossesT n of tabs l).2.1,Ad (crossesT n of tabs l).2.2]) []:=Ab Γ hm 100 F12 Tryz.ntmps12 rfl fun F hF=>by
 have hres:=crossesT.eq_1 n of tabs l
 generalize crossesT n of tabs l=res at *
 have q1:=Y1 n hn of
 have q2:=Agc n hn hm1 tabs ht l hl
 have q3:=Acf n of tabs l hl.few
 have hrs:=fun ho=>Ait (n:=n) (of:=of) ho tabs l
 have hpa:=@portsL_at of l
 have hpl:=U8 of l
 have hfw:=Uu hn l (Es n tabs)
 have hlf:=hl.few
 have r2:=runTabsT.eq_1 n tabs l
 refine T ?_
 refine C q1 F17 ?_
 cases ho:H1 n of
 ·rw[if_neg (by rw[ho];simp)]at hres
  subst hres
  refine T ?_
  exact D
 have hrs:=hrs ho
 refine T ?_
 cases hok:okB n (Af3 n)
 ·rw[if_neg (by rw[hok];simp)]at hres r2
  subst hres
  rw[r2]at q2
  refine C q2 F18 ?_
  exact D
 rw[if_pos ⟨ho,hok⟩]at hres
 rw[if_pos hok]at r2
 rw[r2]at q2
 subst hres
 clear r2
 generalize (C8 n (Es n tabs) l).2=sn at *
 generalize E4 of l=bl at *
 refine C q2 F18 ?_
 refine C q3 F19 ?_
 refine Bc sn.length (fun j=>Dy (fun _ s=>Aap of bl s) sn j) (fun j=>[(2,.ptr 2 0),(9,.sl 1 Aa bl),(33,.sl 3 Cg sn),(34,Aa sn.length),(35,Aa j)]) (fun _=>[(2,.box (Sp n of tabs))]) [] (Bd _ _) U ?_
 intro j hj hI
 refine T ?_
 refine⟨fun h=>?_,fun h=>?_⟩
 ·have hlt:j<sn.length:=by have:=of_decide_eq_true h;omega
  have hj0:((j:Nat):Int).toNat<sn.length:=by simpa using hlt
  have hh:=fun h=>Ace hI hlt h
  have hnx:=fun h=>Ba (p:=fun _ s=>Aap of bl s) hI hlt h
  have hsn:=hrs _ (List.getElem_mem hlt)
  obtain ⟨x,hoo⟩:∃ x,sn[j]=x:=⟨_,rfl⟩
  have e1:sn[((j:Nat):Int).toNat]'hj0=x:=hoo
  rw[hoo]at hh hnx hsn
  unfold Aap at hnx
  obtain ⟨hx1,hx2,hx3⟩:=hsn
  have hx1:=Bk hx1
  have hk0:(x.origin-1).toNat<bl.length:=by omega
  have hw1:=(hpa _ (List.getElem_mem hk0)).1
  have hw1:=Bk hw1
  have hk1:(bl[(x.origin-1).toNat]'hk0).toNat<of.length:=by omega
  have hk2:x.port.toNat<of.length:=by omega
  rw[Ao hk0,Ao hk1,Ao hk2]at hh hnx
  clear h hrs hpa
  refine S ?_
  refine⟨E,by omega,hj0,?_⟩
  rw[e1]
  refine T ?_
  refine⟨fun h1=>?_,fun h1=>?_⟩
  ·rw[hh (by simpa using h1)]
   refine T ?_
   exact D
  ·have hI2:=hnx (decide_eq_true (by simpa using h1))
   refine T ?_
   refine A9 [] hI hlt hI2 ?_
   exact U
 ·rw[Acd hI (by have:=of_decide_eq_false h;omega)]
  refine T ?_
  exact D
theorem Jx {l l2:List StepM} (h:ScriptOK l) (hs:l2.Sublist l):ScriptOK l2:=⟨by have:=hs.length_le;have:=h.few;omega,fun x hx=>h.bytes x (hs.subset hx)⟩
theorem Un (n:Net) (hn:n.Fin) (hm1:n.Num) (of:List Int) (tabs:List (List EntryM)) (ht:TabsOK tabs) (l:List StepM) (hl:ScriptOK l) :
  Sy.Spec Tryz.prog 6 [Aq n,.sl 1 Aa of,.sl 1 D5 tabs,.sl 6 Bg l] [] (.tup [Aa (crossesT n of tabs l).1,Aa (crossesT n of tabs l).2.1,Ad (crossesT n of tabs l).2.2]) []:=Ab Γ hm 100 F6 Tryz.ntmps6 rfl fun F hF=>by
 refine T ?_
 refine C (Ec n hn hm1 of tabs ht l hl) F12 ?_
 exact D
def Amv (p:List StepM→Bool) (l:List StepM) (res:List StepM × Bool) (x:List StepM × Bool × Nat):Prop:=x.2.2≤x.1.length∧x.1.Sublist l∧res=((Em p x.2.2 x.1).1,x.2.1 || (Em p x.2.2 x.1).2)
theorem Aen (n:Net) (hn:n.Fin) (hm1:n.Num) (of:List Int) (tabs:List (List EntryM)) (ht:TabsOK tabs) (l:List StepM) (hl:ScriptOK l) :
  Sy.Spec Tryz.prog 15 [Zq n of tabs,.sl 6 Bg l] [] (.tup [.sl 6 Bg (Is (crossB n of tabs) l).1,Ad (Is (crossB n of tabs) l).2]) []:=Ab Γ hm 100 F15 Tryz.ntmps15 rfl fun F hF=>by
 have hlf:=hl.few
 have h0:Amv (crossB n of tabs) l (Is (crossB n of tabs) l) (l,false,l.length):=⟨Nat.le_refl _,List.Sublist.refl _,by unfold Is;simp⟩
 generalize Is (crossB n of tabs) l=res at *
 refine T ?_
 refine Z2 (Amv (crossB n of tabs) l res) (fun x=>[(1,.sl 6 Bg x.1),(2,.ptr 2 0),(6,Ad x.2.1),(7,Aa ((x.2.2:Nat)-1))]) (fun _=>[(2,.box (Sp n of tabs))]) (fun x=>x.2.2) (l,false,l.length) [] h0 U ?_
 intro x hx
 obtain ⟨cur,sm,k⟩:=x
 obtain ⟨hk,hsub,hlt⟩:=hx
 dsimp only at hk hsub hlt ⊢
 have hcl:=hsub.length_le
 cases k with
 | zero =>
  rw[Em]at hlt
  dsimp only at hlt
  rw[Bool.or_false]at hlt
  subst hlt
  refine T ?_
  exact D
 | succ k =>
  rw[show (((k+1:Nat):Int)-1)=(k:Int) by omega]
  have hwl:(Bq cur k).Sublist l:=(Js cur k).trans hsub
  have hwn:=Ol cur k qn
  have q1:=Z3 cur k qn qn
  have q2:=Ec n hn hm1 of tabs ht (Bq cur k) (Jx hl hwl)
  have hb:=crossB.eq_1 n of tabs (Bq cur k)
  rw[Em]at hlt
  generalize crossB n of tabs=p at *
  rw[hb]at hlt
  generalize crossesT n of tabs (Bq cur k)=cr at *
  obtain ⟨c1,c2,c3⟩:=cr
  refine T ?_
  refine C q1 F16 ?_
  refine C q2 F12 ?_
  cases c3
  ·rw[if_neg qy]at hlt
   refine T ?_
   refine Lm (cur,sm,k) [] ⟨by dsimp only;omega,hsub,hlt⟩ (by dsimp only;omega) ?_
   exact U
  ·rw[if_pos rfl]at hlt
   dsimp only at hlt
   rw[Bool.or_true]at hlt
   refine T ?_
   refine C q1 F16 ?_
   refine Lm (Bq cur k,true,k) [] ⟨by dsimp only;omega,hwl,by rw[hlt];rfl⟩ (by dsimp only;omega) ?_
   exact U
def smallT (n:Net) (of:List Int) (tabs:List (List EntryM)) (l:List StepM):List StepM × Int:=if crossB n of tabs l=true then (Dr (crossB n of tabs) (l.length+1) l,0) else ([],31)
def SmallI (p:List StepM→Bool) (l ans:List StepM) (x:List StepM × Bool):Prop:=x.1.Sublist l∧(x.2=true→∃ k,x.1.length<k∧ans=Dr p k x.1)∧(x.2=false→ans=x.1)
theorem Hs (n:Net) (hn:n.Fin) (hm1:n.Num) (of:List Int) (tabs:List (List EntryM)) (ht:TabsOK tabs) (l:List StepM) (hl:ScriptOK l) (hu:∀ x∈l,x.up.length<100000) :
  Sy.Spec Tryz.prog 7 [Aq n,.sl 1 Aa of,.sl 1 D5 tabs,.sl 6 Bg l] [] (.tup [.sl 6 Bg (smallT n of tabs l).1,Aa (smallT n of tabs l).2]) []:=Ab Γ hm 100 F7 Tryz.ntmps7 rfl fun F hF=>by
 have hres:=smallT.eq_1 n of tabs l
 generalize smallT n of tabs l=res at *
 have hb:=crossB.eq_1 n of tabs l
 have q1:=Ec n hn hm1 of tabs ht l hl
 have q2:=fun cur h=>Aen n hn hm1 of tabs ht cur h
 generalize hp:crossB n of tabs=p at *
 rw[hb]at hres
 generalize crossesT n of tabs l=cr at *
 obtain ⟨c1,c2,c3⟩:=cr
 have hlf:=hl.few
 refine T ?_
 refine C q1 F12 ?_
 cases c3
 ·rw[if_neg qy]at hres
  subst hres
  refine T ?_
  refine Ap 8 6 Bg E ?_
  exact D
 rw[if_pos rfl]at hres
 refine T ?_
 refine Cc 14 1000 6 Bg E E ?_
 refine A2 l.length (fun j=>[(10,.ptr 10 0),(14,.osl 1000),(31,.sl 6 Bg l),(32,Aa l.length),(33,Aa j)]) (fun j=>[(10,.box (Sp n of tabs)),(1000,.row 6 Bg (l.take j))]) [] U ?_
 intro j hj
 refine T ?_
 refine⟨fun h=>?_,fun h=>?_⟩
 ·have hlt:j<l.length:=by have:=of_decide_eq_true h;omega
  have hj0:((j:Nat):Int).toNat<l.length:=by simpa using hlt
  obtain ⟨x,hoo⟩:∃ x,l[j]=x:=⟨_,rfl⟩
  have e1:l[((j:Nat):Int).toNat]'hj0=x:=hoo
  have hs:=List.take_succ_eq_append_getElem hlt
  rw[hoo]at hs
  have hxm:x∈l:=by rw[← hoo];exact List.getElem_mem hlt
  have hxb:=hl.bytes x hxm
  have hxu:=hu x hxm
  have htl:(l.take j).length=j:=by rw[List.length_take];omega
  clear h
  refine S ?_
  refine⟨E,by omega,hj0,?_⟩
  rw[e1]
  refine T ?_
  refine C (Ik x.bytes qn) F13 ?_
  refine C (Wj x.up qn) F14 ?_
  refine X (Al Γ.toTy 48 rfl rfl rfl rfl rfl (.row rfl) (.lit (e:=Bg) (l:=[x]) rfl rfl) (fun j hj=>by cases hj;decide) (by simp;omega) (by simp;omega)) ?_
  refine Av [(1000,48)] hlt ⟨⟨E,E,E,E,E,E,E,E,E,E,Y⟩,⟨.inl E,E,.inl (congrArg (Ob.row 6 Bg) hs),E,Y⟩,E,E⟩
 have hjj:j=l.length:=by have:=of_decide_eq_false h;omega
 subst hjj
 rw[List.take_length]
 refine T ?_
 refine Au 1000 E ?_
 refine Z2 (SmallI p l res.1) (fun x=>[(10,.ptr 10 0),(14,.sl 6 Bg x.1),(17,Ad x.2)]) (fun _=>[(10,.box (Sp n of tabs))]) (fun x=>if x.2=true then x.1.length+1 else 0) (l,true) [] ⟨List.Sublist.refl _,fun _=>⟨l.length+1,by dsimp only;omega,by rw[hres]⟩,fun h=>by cases h⟩ U ?_
 intro x hx
 obtain ⟨cur,more⟩:=x
 obtain ⟨hsub,hx1,hx2⟩:=hx
 dsimp only at hsub hx1 hx2 ⊢
 have hr2:res.2=0:=by rw[hres]
 obtain ⟨r1,r2⟩:=res
 dsimp only at hx1 hx2 hr2 ⊢
 subst hr2
 clear hres h
 cases more
 ·have:=hx2 rfl
  subst this
  refine T ?_
  exact D
 obtain ⟨k,hk,hans⟩:=hx1 rfl
 obtain ⟨k,rfl⟩:∃ k',k=k'+1:=⟨k-1,by omega⟩
 have q3:=q2 cur (Jx hl hsub)
 have g1:=Jh p cur.length cur
 have g2:=Sg p cur.length cur (Nat.le_refl _)
 rw[Dr]at hans
 change ((Is p cur).1).Sublist cur at g1
 change (if (Is p cur).2=true then (Is p cur).1.length<cur.length else _) at g2
 generalize Is p cur=w at *
 obtain ⟨a,b⟩:=w
 dsimp only at g1 g2 hans q3
 refine T ?_
 refine C q3 F15 ?_
 cases b
 ·rw[if_neg qy]at hans
  refine Lm (a,false) [] ⟨g1.trans hsub,fun h=>(by cases h),fun _=>hans⟩ qy ?_
  exact U
 ·rw[if_pos rfl]at hans g2
  refine Lm (a,true) [] ⟨g1.trans hsub,fun _=>⟨k,by dsimp only;omega,hans⟩,fun h=>by cases h⟩ (by simp;omega) ?_
  exact U
def Wy (p:List StepM→Bool) (l:List StepM) (j:Nat):Bool:=p l && (List.range j).all fun i=>!(p (Bq l i))
theorem Xp (p:List StepM→Bool) (l:List StepM) (j:Nat):Wy p l (j+1)=(Wy p l j && !(p (Bq l j))):=by
 unfold Wy
 rw[List.range_succ,List.all_append,List.all_cons,List.all_nil,Bool.and_true,Bool.and_assoc]
theorem Aba (p:List StepM→Bool) (l:List StepM) (j:Nat) (h:Wy p l j=false):∀ k,Wy p l (j+k)=false
 | 0=>h
 | k+1=>by rw[← Nat.add_assoc,Xp,Aba p l j h k,Bool.false_and]
theorem Kt (n:Net) (hn:n.Fin) (hm1:n.Num) (of:List Int) (tabs:List (List EntryM)) (ht:TabsOK tabs) (l:List StepM) (hl:ScriptOK l) :
  Sy.Spec Tryz.prog 8 [Aq n,.sl 1 Aa of,.sl 1 D5 tabs,.sl 6 Bg l] [] (Ad (Wz (crossB n of tabs) l)) []:=Ab Γ hm 100 F8 Tryz.ntmps8 rfl fun F hF=>by
 have hb:=crossB.eq_1 n of tabs
 have q1:=Ec n hn hm1 of tabs ht l hl
 have q2:=fun k h=>Ec n hn hm1 of tabs ht (Bq l k) h
 have hlf:=hl.few
 rw[show Wz (crossB n of tabs) l=Wy (crossB n of tabs) l l.length from rfl]
 have h0:Wy (crossB n of tabs) l 0=(crossesT n of tabs l).2.2:=by unfold Wy;rw[hb];simp
 have hnx:=Xp (crossB n of tabs) l
 have hno:=Aba (crossB n of tabs) l
 have hbw:=fun k=>hb (Bq l k)
 generalize crossB n of tabs=p at *
 generalize crossesT n of tabs l=cr at *
 obtain ⟨c1,c2,c3⟩:=cr
 dsimp only at h0
 refine T ?_
 refine C q1 F12 ?_
 refine A2 l.length (fun j=>[(3,.sl 6 Bg l),(9,.ptr 9 0),(12,Ad (Wy p l j)),(29,Aa l.length),(30,Aa j)]) (fun _=>[(9,.box (Sp n of tabs))]) [] ⟨⟨E,E,E,E,congrArg Ad h0,E,E,E,E,E,Y⟩,⟨.inl E,E,Y⟩,E,E⟩ ?_
 intro j hj
 refine T ?_
 refine⟨fun h=>?_,fun h=>?_⟩
 ·have hlt:j<l.length:=by have:=of_decide_eq_true h;omega
  have hno:=hno j
  have hnx:=hnx j
  have hbw:=hbw j
  have hwl:=Js l j
  have q1:=Z3 l j hlt qn
  have q2:=q2 j (Jx hl hwl)
  clear h
  rw[hbw]at hnx
  generalize crossesT n of tabs (Bq l j)=cr at *
  obtain ⟨d1,d2,d3⟩:=cr
  dsimp only at hnx
  cases hm1:Wy p l j
  ·have hf:=hno hm1 (l.length-j)
   rw[show j+(l.length-j)=l.length by omega]at hf
   rw[hf]
   refine T ?_
   exact D
  ·rw[hm1,Bool.true_and]at hnx
   refine T ?_
   refine C q1 F16 ?_
   refine C q2 F12 ?_
   refine Av [] hlt ⟨⟨E,E,E,E,congrArg Ad hnx,E,E,E,E,E,Y⟩,⟨.inl E,E,Y⟩,E,E⟩
 ·have hjj:j=l.length:=by have:=of_decide_eq_false h;omega
  subst hjj
  refine T ?_
  exact D
end Go.Sy.YtnlacjgkdjnhmaaGreat
