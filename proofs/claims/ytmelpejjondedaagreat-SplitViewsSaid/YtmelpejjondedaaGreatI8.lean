/-
  Z12 Z13 Z14 Z15 Z16 Z17 K45 Sy39 Y1 Y2 T18 T20 T22 T23 T24 T26 T27 T28 T29 T30 T31 Y3 Y4 Y5 X2 Sy23 O1 Y6 Y8 O4 Y9 G1 G2 G3 S0 G4 G5 G6 G7 G8 G9 G10 G11 J21: parts of a proof, joined by program.
-/
import Derived.Test.YtmelpejjondedaaGreatI7
import Derived.Test.YtmelpejjondedaaGreatI6
import Derived.Test.YtmelpejjondedaaGreatI2
import Derived.Test.YtmelpejjondedaaGreatI5
import Derived.Test.YtmelpejjondedaaGreatI3
import Derived.Test.YtmelpejjondedaaGreatI4
import Derived.Test.YtmelpejjondedaaGreatRows
import Derived.ProofKit
namespace Go.Sy.YtmelpejjondedaaGreat
open Go.Proofs
attribute [local irreducible] Go.Sy.G Go.Sy.DR
set_option maxRecDepth 100000
set_option maxHeartbeats 4000000
theorem Zd {n:Net} {m:MacM} {J D:Int} (h:MacOK n m J D) (hD:0 ≤ D) (dom:Int) {r:List EntryM × List OutM × Int} (hr:TabOK r.1):MacOK n (M0 m dom r) J (D + 1):=by
 unfold M0
 split
 ·exact Kp h hD 2
 split
 ·exact Kp (W1 h dom hr) hD _
 ·exact (W1 h dom hr).mono (Int.le_refl _) (by omega)
def queL (q:QueuedM):List SV:=[Aa q.from_,Aa q.peer,Aa q.origin,A9 q.frame.dst,A9 q.frame.src,Aa q.frame.typ,.sl 1 Ak q.frame.body]
def Ag4 (n:Net) (m:MacM) (q:QueuedM) (l:List SeenM):Obs:=[(0,.box (Qc n 1 m.now m.injected m.drops)),(1,.box (Ix n m.up true)),(2,.row 1 Ir m.tables),(3,.row 1 Q1 m.queues),(7,.box (queL q)),(1000,.row 3 A3 l)]
theorem Agk (n:Net) (hn:n.Fin) (hm1:n.Num) (m:MacM) (d:Bool) (J D:Int) (hm0:MacOK n m J D) (hD0:0 ≤ D) (hD:D ≤ 900000000000) (dom at_:Int) :
  Sy.Spec Tryz.prog 52 [.ptr 0 0,Aa dom,Aa at_] (B1 n m d) (.sl 3 A3 (pickT n m dom at_).2) (B1 n (pickT n m dom at_).1 (if (takeM m dom at_).2.2 then true else d)):=Ab Γ hm 100 F52 Tryz.ntmps52 rfl fun F hF=>by
 have hres:=pickT.eq_1 n m dom at_
 generalize pickT n m dom at_ = res at *
 have q1:=Yt n m d dom at_ (Dr hm0 dom)
 have hok:=Tb hm0 dom at_
 have hpl:(takeM m dom at_).2.2 = true → 0 ≤ dom ∧ dom.toNat < m.queues.length:=fun h=>by
  unfold takeM at h
  split at h
  ·cases h
  ·rename_i h2
   exact placeB_iff.1 (by cases hx:Aj dom m.queues.length; exact absurd hx h2; rfl)
 have htl:(takeM m dom at_).1.tables = m.tables:=by unfold takeM; split <;> rfl
 generalize takeM m dom at_ = r at *
 obtain ⟨m1,q,ok⟩:=r
 have htq:m.queues.length = m.tables.length:=by rw [hm0.ques,hm0.tabs]
 conv=>whnf
 refine Ah (Ai [] E F53 q1 E ⟨E,E,E,E,Y⟩ E ⟨.inl E,.inl E,.inl E,.inl E,Y⟩) E E ?_
 refine rg ?_;conv=>whnf
 cases ok
 ·rw [if_pos rfl] at hres
  subst hres
  (refine ⟨fun _=>?_,fun h=>False.elim (by simp at h)⟩;refine rg ?_;conv=>whnf)
  refine Ao 6 3 A3 E ?_
  exact done E (.cons .tmp .nil) [] (B1 n m1 d) (fun _ h=>h) E E ⟨Y,⟨.inl E,E,.inl E,E,.inl E,E,.inl E,E,Y⟩,E,E⟩
 rw [if_neg (by simp)] at hres
 have hd:=hpl rfl
 have hd2:0 ≤ dom ∧ dom.toNat < m1.tables.length:=by rw [htl,← htq]; exact hd
 dsimp only at hres hok
 have q2:=Aee n hn m1.up d
 have q3:=Aaq n hn hm1 (I4 n m1.up) (tableL m1 dom) dom q m1.now (O4 hok.1 dom) hok.2
 have hb1:=Sf (n:=n) (fw:=I4 n m1.up) (dom:=dom) (now:=m1.now) (O4 hok.1 dom) hok.2
 have hb2:=Sg (fw:=I4 n m1.up) (t:=tableL m1 dom) (dom:=dom) (now:=m1.now) hn hm1 hok.2
 have hb3:=Sh hn (I4 n m1.up) (tableL m1 dom) dom q m1.now
 have hb4:=Aap n (I4 n m1.up) (tableL m1 dom) dom q m1.now
 rw [Ze] at hres
 have hz:=Zd hok.1 hD0 dom hb1
 generalize bridgeT n (I4 n m1.up) (tableL m1 dom) dom q m1.now = b at *
 obtain ⟨t,out,e⟩:=b
 have hb2:∀ o ∈ out,OutOK n o:=hb2
 have hb3:out.length < 4294967296:=hb3
 have hb4:Bb e:=hb4
 have ht0:=tableL.eq_1 m1 dom
 rw [Ol hd2.2] at ht0
 generalize tableL m1 dom = t0 at *
 subst ht0
 (refine ⟨fun h=>False.elim (by simp at h),fun _=>?_⟩;refine rg ?_;conv=>whnf)
 refine Bo (Ai [] E F103 q2 E ⟨E,Y⟩ E ⟨.inl E,Y⟩) (by kernel_rfl) E ?_
 refine rd (by kernel_rfl) ?_;conv=>whnf
 refine ⟨hd2.1,hd2.2,?_⟩
 conv=>whnf
 refine ⟨E,hd2.2,?_⟩
 conv=>whnf
 refine Ay q3 F102 E E E (by kernel_rfl) E ?_
 refine rd (by kernel_rfl) ?_;conv=>whnf
 refine ⟨(by kernel_rfl),?_⟩
 conv=>whnf
 refine ⟨fun h=>?_,fun h=>?_⟩
 ·have h2:¬ e = 2:=by simpa using h
  clear h
  refine rg ?_;conv=>whnf
  refine ⟨hd2.1,hd2.2,?_⟩
  conv=>whnf
  refine ⟨E,hd2.2,t,E,E,?_⟩
  conv=>whnf
  refine ⟨fun h=>?_,fun h=>?_⟩
  ·have h3:¬ e = 0:=by simpa using h
   clear h
   have hpd:M0 m1 dom (t,out,e) = Bv (Dk m1 dom t) e:=by
    unfold M0
    rw [if_neg h2,if_pos h3]
   rw [hpd] at hres hz
   subst hres
   have q4:=Aag n (Dk m1 dom t) true e hb4.1 hb4.2 ⟨(hok.1.drp _).1,by have:=(hok.1.drp e.toNat).2; show m1.drops e.toNat ≤ 1000000000000; omega⟩
   refine rg ?_;conv=>whnf
   refine Ah (Ai [] E F104 q4 E ⟨E,E,E,E,Y⟩ E ⟨.inl E,.inl E,.inl E,.inl E,Y⟩) E E ?_
   refine rg ?_;conv=>whnf
   have hdr:Ld (Bv (Dk m1 dom t) e):=fun i=>⟨(hz.drp i).1,by have:=(hz.drp i).2; omega⟩
   refine B7 12 1000 3 A3 E E ?_
   refine A0 out.length (fun j=>[(0,.ptr 0 0),(7,.ptr 7 0),(12,.osl 1000),(69,.sl 9 Da out),(70,Aa out.length),(71,Aa j)]) (fun j=>Ag4 n (Bg n (Bv (Dk m1 dom t) e) q.origin (out.take j)).1 q (Bg n (Bv (Dk m1 dom t) e) q.origin (out.take j)).2) [] ⟨⟨E,E,E,E,E,E,E,E,E,E,E,E,Y⟩,⟨.inl E,E,.inl E,E,.inl E,E,.inl E,E,.inl E,E,.inl E,E,Y⟩,E,E⟩ ?_
   intro j hj
   refine rg ?_;conv=>whnf
   refine ⟨fun h=>?_,fun h=>?_⟩
   ·have hlt:j < out.length:=by have:=of_decide_eq_true h; omega
    have hj0:((j:Nat):Int).toNat < out.length:=by simpa using hlt
    obtain ⟨o,hoo⟩:∃ o,out[j] = o:=⟨_,rfl⟩
    have e1:out[((j:Nat):Int).toNat]'hj0 = o:=hoo
    have hs:=Mg n (Bv (Dk m1 dom t) e) q.origin out j hlt
    rw [hoo] at hs
    have hjo:=Km hn q.origin (out.take j) hz (by omega) (fun x hx=>hb2 x (List.mem_of_mem_take hx))
    have hlen:(out.take j).length = j:=by rw [List.length_take]; omega
    rw [hlen] at hjo
    have hsl:=K7 n q.origin (out.take j) (Bv (Dk m1 dom t) e)
    rw [hlen] at hsl
    have q5:=Tf n hn (Bg n (Bv (Dk m1 dom t) e) q.origin (out.take j)).1 true J _ hjo (by omega) o (hb2 o (by rw [← hoo]; exact List.getElem_mem hlt)) q.origin
    have hfw:=K6 n (Bg n (Bv (Dk m1 dom t) e) q.origin (out.take j)).1 o q.origin
    clear h
    refine rg ?_;conv=>whnf
    refine ⟨E,by omega,hj0,?_⟩
    rw [e1]
    conv=>whnf
    refine Ah (Ai [] E F105 q5 E ⟨E,E,E,E,Y⟩ E ⟨.inl E,.inl E,.inl E,.inl E,Y⟩) E E ?_
    refine rg ?_;conv=>whnf
    refine Ah (Al Γ.toTy 81 E E E E E (.row E) .sl (by simp) (by omega) (by omega)) E E ?_
    refine rg ?_;conv=>whnf
    refine ⟨by unfold I64; omega,?_⟩
    conv=>whnf
    have g1:(Bg n (Bv (Dk m1 dom t) e) q.origin (out.take (j + 1))).1 = (goesM n (Bg n (Bv (Dk m1 dom t) e) q.origin (out.take j)).1 o q.origin).1:=by rw [hs]
    have g2:(Bg n (Bv (Dk m1 dom t) e) q.origin (out.take (j + 1))).2 = (Bg n (Bv (Dk m1 dom t) e) q.origin (out.take j)).2 ++ (goesM n (Bg n (Bv (Dk m1 dom t) e) q.origin (out.take j)).1 o q.origin).2:=by rw [hs]
    refine Aq [(1000,81)] hlt ⟨⟨E,E,E,E,E,E,E,E,E,E,E,E,Y⟩,?_,E,E⟩
    dsimp only
    rw [g1,g2]
    exact ⟨.inl E,E,.inl E,E,.inl E,E,.inl E,E,.inl E,E,.inl E,E,Y⟩
   ·have hjj:j = out.length:=by have:=of_decide_eq_false h; omega
    subst hjj
    rw [List.take_length]
    clear h
    refine rg ?_;conv=>whnf
    refine Ar 1000 E ?_
    exact done E (.cons .tmp .nil) [] (B1 n (Bg n (Bv (Dk m1 dom t) e) q.origin out).1 true) (fun _ h=>h) E E ⟨Y,⟨.inl E,E,.inl E,E,.inl E,E,.inl E,E,Y⟩,E,E⟩
  ·have h3:e = 0:=by simpa using h
   clear h
   have hpd:M0 m1 dom (t,out,e) = Dk m1 dom t:=by
    unfold M0
    rw [if_neg h2,if_neg (fun h=>h h3)]
   rw [hpd] at hres hz
   subst hres
   refine rg ?_;conv=>whnf
   have hdr:Ld (Dk m1 dom t):=fun i=>⟨(hz.drp i).1,by have:=(hz.drp i).2; omega⟩
   refine B7 12 1000 3 A3 E E ?_
   refine A0 out.length (fun j=>[(0,.ptr 0 0),(7,.ptr 7 0),(12,.osl 1000),(69,.sl 9 Da out),(70,Aa out.length),(71,Aa j)]) (fun j=>Ag4 n (Bg n (Dk m1 dom t) q.origin (out.take j)).1 q (Bg n (Dk m1 dom t) q.origin (out.take j)).2) [] ⟨⟨E,E,E,E,E,E,E,E,E,E,E,E,Y⟩,⟨.inl E,E,.inl E,E,.inl E,E,.inl E,E,.inl E,E,.inl E,E,Y⟩,E,E⟩ ?_
   intro j hj
   refine rg ?_;conv=>whnf
   refine ⟨fun h=>?_,fun h=>?_⟩
   ·have hlt:j < out.length:=by have:=of_decide_eq_true h; omega
    have hj0:((j:Nat):Int).toNat < out.length:=by simpa using hlt
    obtain ⟨o,hoo⟩:∃ o,out[j] = o:=⟨_,rfl⟩
    have e1:out[((j:Nat):Int).toNat]'hj0 = o:=hoo
    have hs:=Mg n (Dk m1 dom t) q.origin out j hlt
    rw [hoo] at hs
    have hjo:=Km hn q.origin (out.take j) hz (by omega) (fun x hx=>hb2 x (List.mem_of_mem_take hx))
    have hlen:(out.take j).length = j:=by rw [List.length_take]; omega
    rw [hlen] at hjo
    have hsl:=K7 n q.origin (out.take j) (Dk m1 dom t)
    rw [hlen] at hsl
    have q5:=Tf n hn (Bg n (Dk m1 dom t) q.origin (out.take j)).1 true J _ hjo (by omega) o (hb2 o (by rw [← hoo]; exact List.getElem_mem hlt)) q.origin
    have hfw:=K6 n (Bg n (Dk m1 dom t) q.origin (out.take j)).1 o q.origin
    clear h
    refine rg ?_;conv=>whnf
    refine ⟨E,by omega,hj0,?_⟩
    rw [e1]
    conv=>whnf
    refine Ah (Ai [] E F105 q5 E ⟨E,E,E,E,Y⟩ E ⟨.inl E,.inl E,.inl E,.inl E,Y⟩) E E ?_
    refine rg ?_;conv=>whnf
    refine Ah (Al Γ.toTy 81 E E E E E (.row E) .sl (by simp) (by omega) (by omega)) E E ?_
    refine rg ?_;conv=>whnf
    refine ⟨by unfold I64; omega,?_⟩
    conv=>whnf
    have g1:(Bg n (Dk m1 dom t) q.origin (out.take (j + 1))).1 = (goesM n (Bg n (Dk m1 dom t) q.origin (out.take j)).1 o q.origin).1:=by rw [hs]
    have g2:(Bg n (Dk m1 dom t) q.origin (out.take (j + 1))).2 = (Bg n (Dk m1 dom t) q.origin (out.take j)).2 ++ (goesM n (Bg n (Dk m1 dom t) q.origin (out.take j)).1 o q.origin).2:=by rw [hs]
    refine Aq [(1000,81)] hlt ⟨⟨E,E,E,E,E,E,E,E,E,E,E,E,Y⟩,?_,E,E⟩
    dsimp only
    rw [g1,g2]
    exact ⟨.inl E,E,.inl E,E,.inl E,E,.inl E,E,.inl E,E,.inl E,E,Y⟩
   ·have hjj:j = out.length:=by have:=of_decide_eq_false h; omega
    subst hjj
    rw [List.take_length]
    clear h
    refine rg ?_;conv=>whnf
    refine Ar 1000 E ?_
    exact done E (.cons .tmp .nil) [] (B1 n (Bg n (Dk m1 dom t) q.origin out).1 true) (fun _ h=>h) E E ⟨Y,⟨.inl E,E,.inl E,E,.inl E,E,.inl E,E,Y⟩,E,E⟩
 ·have h2:e = 2:=by simpa using h
  clear h
  subst h2
  have hpd:M0 m1 dom (t,out,2) = Bv m1 2:=by
   unfold M0
   rw [if_pos rfl]
  rw [hpd] at hres hz
  subst hres
  have q4:=Aag n m1 true 2 (by decide) (by decide) ⟨(hok.1.drp _).1,by have:=(hok.1.drp (Int.toNat 2)).2; omega⟩
  (refine rg ?_;(conv=>whnf);refine aT ?_;refine rg ?_;conv=>whnf)
  refine Ah (Ai [] E F104 q4 E ⟨E,E,E,E,Y⟩ E ⟨.inl E,.inl E,.inl E,.inl E,Y⟩) E E ?_
  refine rg ?_;conv=>whnf
  have hdr:Ld (Bv m1 2):=fun i=>⟨(hz.drp i).1,by have:=(hz.drp i).2; omega⟩
  refine B7 12 1000 3 A3 E E ?_
  refine A0 out.length (fun j=>[(0,.ptr 0 0),(7,.ptr 7 0),(12,.osl 1000),(69,.sl 9 Da out),(70,Aa out.length),(71,Aa j)]) (fun j=>Ag4 n (Bg n (Bv m1 2) q.origin (out.take j)).1 q (Bg n (Bv m1 2) q.origin (out.take j)).2) [] ⟨⟨E,E,E,E,E,E,E,E,E,E,E,E,Y⟩,⟨.inl E,E,.inl E,E,.inl E,E,.inl E,E,.inl E,E,.inl E,E,Y⟩,E,E⟩ ?_
  intro j hj
  refine rg ?_;conv=>whnf
  refine ⟨fun h=>?_,fun h=>?_⟩
  ·have hlt:j < out.length:=by have:=of_decide_eq_true h; omega
   have hj0:((j:Nat):Int).toNat < out.length:=by simpa using hlt
   obtain ⟨o,hoo⟩:∃ o,out[j] = o:=⟨_,rfl⟩
   have e1:out[((j:Nat):Int).toNat]'hj0 = o:=hoo
   have hs:=Mg n (Bv m1 2) q.origin out j hlt
   rw [hoo] at hs
   have hjo:=Km hn q.origin (out.take j) hz (by omega) (fun x hx=>hb2 x (List.mem_of_mem_take hx))
   have hlen:(out.take j).length = j:=by rw [List.length_take]; omega
   rw [hlen] at hjo
   have hsl:=K7 n q.origin (out.take j) (Bv m1 2)
   rw [hlen] at hsl
   have q5:=Tf n hn (Bg n (Bv m1 2) q.origin (out.take j)).1 true J _ hjo (by omega) o (hb2 o (by rw [← hoo]; exact List.getElem_mem hlt)) q.origin
   have hfw:=K6 n (Bg n (Bv m1 2) q.origin (out.take j)).1 o q.origin
   clear h
   refine rg ?_;conv=>whnf
   refine ⟨E,by omega,hj0,?_⟩
   rw [e1]
   conv=>whnf
   refine Ah (Ai [] E F105 q5 E ⟨E,E,E,E,Y⟩ E ⟨.inl E,.inl E,.inl E,.inl E,Y⟩) E E ?_
   refine rg ?_;conv=>whnf
   refine Ah (Al Γ.toTy 81 E E E E E (.row E) .sl (by simp) (by omega) (by omega)) E E ?_
   refine rg ?_;conv=>whnf
   refine ⟨by unfold I64; omega,?_⟩
   conv=>whnf
   have g1:(Bg n (Bv m1 2) q.origin (out.take (j + 1))).1 = (goesM n (Bg n (Bv m1 2) q.origin (out.take j)).1 o q.origin).1:=by rw [hs]
   have g2:(Bg n (Bv m1 2) q.origin (out.take (j + 1))).2 = (Bg n (Bv m1 2) q.origin (out.take j)).2 ++ (goesM n (Bg n (Bv m1 2) q.origin (out.take j)).1 o q.origin).2:=by rw [hs]
   refine Aq [(1000,81)] hlt ⟨⟨E,E,E,E,E,E,E,E,E,E,E,E,Y⟩,?_,E,E⟩
   dsimp only
   rw [g1,g2]
   exact ⟨.inl E,E,.inl E,E,.inl E,E,.inl E,E,.inl E,E,.inl E,E,Y⟩
  ·have hjj:j = out.length:=by have:=of_decide_eq_false h; omega
   subst hjj
   rw [List.take_length]
   clear h
   refine rg ?_;conv=>whnf
   refine Ar 1000 E ?_
   exact done E (.cons .tmp .nil) [] (B1 n (Bg n (Bv m1 2) q.origin out).1 true) (fun _ h=>h) E E ⟨Y,⟨.inl E,E,.inl E,E,.inl E,E,.inl E,E,Y⟩,E,E⟩
theorem Ad4 (l:List (List EntryM)) (now:Int) (j:Nat) (hj:j < l.length) :
  ((l.take j).map (fun t=>ageT t now) ++ l.drop j).set j (ageT l[j] now) = (l.take (j + 1)).map (fun t=>ageT t now) ++ l.drop (j + 1):=by
 apply List.ext_getElem
 ·simp only [List.length_set,List.length_append,List.length_map,List.length_take,List.length_drop]; omega
 intro i h1 h2
 simp only [List.length_set,List.length_append,List.length_map,List.length_take,List.length_drop] at h1
 rw [List.getElem_set]
 by_cases hi:j = i
 ·subst hi
  rw [if_pos rfl,List.getElem_append_left (by simp; omega)]
  simp
 ·rw [if_neg hi]
  by_cases hlt:i < j
  ·rw [List.getElem_append_left (by simp; omega),List.getElem_append_left (by simp; omega)]
   simp
  ·rw [List.getElem_append_right (by simp; omega),List.getElem_append_right (by simp; omega)]
   simp only [List.getElem_drop,List.length_map,List.length_take]
   congr 1
   omega
theorem Wg {P:Program} {o:Oper} {s:SS} {x y:Operand} {at_:Array TypeId} {k k':IntKind} {m n r:Int} (hr:(if n < m then n else m) = r) (h:o.op = .call ⟨.builtin .min,#[x,y],at_⟩)
  (hx:ev s x = .val (.int k m)) (hy:ev s y = .val (.int k' n)):Good P o s ⟨.val (.int k r),[],[]⟩:=by
 have:=Ah1 (P:=P) h hx hy
 rwa [hr] at this
def S0 (l:List (List EntryM)) (now:Int) (j:Nat):List (List EntryM):=(l.take j).map (fun t=>ageT t now) ++ l.drop j
theorem Aiv (l:List (List EntryM)) (now:Int) (j:Nat) (hj:j < l.length) (h2:j < (S0 l now j).length):(S0 l now j)[j] = l[j]:=by
 have h:(S0 l now j)[j]? = l[j]?:=by
  unfold S0
  have hm:min j l.length = j:=by omega
  rw [List.getElem?_append_right (by simp; omega),List.getElem?_drop,List.length_map,List.length_take,hm,Nat.sub_self,Nat.add_zero]
 rw [List.getElem?_eq_getElem hj,List.getElem?_eq_getElem h2] at h
 exact Option.some.inj h
theorem Aaw (l:List (List EntryM)) (now:Int) (j:Nat):(S0 l now j).length = l.length:=by
 unfold S0
 simp only [List.length_append,List.length_map,List.length_take,List.length_drop]
 omega
def tickO (n:Net) (m:MacM) (d:Bool) (now:Int) (j:Nat):Obs:=[(0,.box (Qc n 1 now m.injected m.drops)),(1,.box (Ix n m.up d)),(2,.row 1 Ir (S0 m.tables now j)),(3,.row 1 Q1 m.queues)]
theorem Agj (n:Net) (m:MacM) (d:Bool) (J D:Int) (hm0:MacOK n m J D) (hs:Am n.domains) :
  Sy.Spec Tryz.prog 54 [.ptr 0 0] (B1 n m d) (.tup []) (B1 n (Lm m) d):=Ab Γ hm 100 F54 Tryz.ntmps54 rfl fun F hF=>by
 unfold Am at hs
 have hnow:=hm0.now
 have htl:m.tables.length < 2147483648:=by rw [hm0.tabs]; exact hs
 have hto:=hm0.tab
 obtain ⟨nw,hnw⟩:∃ nw,(if 1099511627776 < m.now + 1 then 1099511627776 else m.now + 1) = nw:=⟨_,rfl⟩
 have hti:Lm m = ⟨m.up,S0 m.tables nw m.tables.length,m.queues,nw,m.injected,m.drops⟩:=by
  have:min (m.now + 1) 1099511627776 = nw:=by rw [← hnw]; split <;> omega
  unfold Lm S0
  rw [this,List.take_length,List.drop_length,List.append_nil]
 rw [hti]
 conv=>whnf
 refine ⟨by unfold I64; omega,?_⟩
 conv=>whnf
 refine Ah (Wg hnw E E E) E E ?_
 refine rg ?_;conv=>whnf
 refine A0 m.tables.length (fun j=>[(0,.ptr 0 0),(16,.osl 2),(17,Aa m.tables.length),(18,Aa j)]) (fun j=>tickO n m d nw j) [] ⟨⟨E,E,E,E,E,E,E,E,Y⟩,⟨.inl E,E,.inl E,E,.inl E,E,.inl E,E,Y⟩,E,E⟩ ?_
 intro j hj
 refine rg ?_;conv=>whnf
 refine ⟨fun h=>?_,fun h=>?_⟩
 ·have hlt:j < m.tables.length:=by have:=of_decide_eq_true h; omega
  have hal:=Aaw m.tables nw j
  have hj0:((j:Nat):Int).toNat < (S0 m.tables nw j).length:=by rw [hal]; simpa using hlt
  obtain ⟨t,hoo⟩:∃ t,m.tables[j] = t:=⟨_,rfl⟩
  have e1:(S0 m.tables nw j)[((j:Nat):Int).toNat]'hj0 = t:=(Aiv m.tables nw j hlt (by rw [hal]; exact hlt)).trans hoo
  have hs:=Ad4 m.tables nw j hlt
  rw [hoo] at hs
  have ht:=hto t (by rw [← hoo]; exact List.getElem_mem hlt)
  clear h
  refine rg ?_;conv=>whnf
  refine ⟨by omega,hj0,?_⟩
  conv=>whnf
  refine ⟨E,hj0,?_⟩
  rw [e1]
  conv=>whnf
  refine Ay (Aje t nw ht.short ht.mac) F107 E E E (by kernel_rfl) E ?_
  refine rd (by kernel_rfl) ?_;conv=>whnf
  refine ⟨by omega,hj0,?_⟩
  conv=>whnf
  refine ⟨E,hj0,ageT t nw,E,E,?_⟩
  conv=>whnf
  refine ⟨(by kernel_rfl),?_⟩
  conv=>whnf
  refine ⟨by unfold I64; omega,?_⟩
  conv=>whnf
  exact Aq [] hlt ⟨⟨E,E,E,E,E,E,E,E,Y⟩,⟨.inl E,E,.inl E,E,.inl (congrArg (Ob.row 1 Ir) hs.symm),E,.inl E,E,Y⟩,E,E⟩
 ·have hjj:j = m.tables.length:=by have:=of_decide_eq_false h; omega
  subst hjj
  clear h
  refine rg ?_;conv=>whnf
  exact Bc E .nil [] (B1 n ⟨m.up,S0 m.tables nw m.tables.length,m.queues,nw,m.injected,m.drops⟩ d) (fun _ h=>h) E E ⟨Y,⟨.inl E,E,.inl E,E,.inl E,E,.inl E,E,Y⟩,E,E⟩
def Yu (n:Net) (m:MacM) (d:Bool):Obs:=[(0,.box (Qc n 4 m.now m.injected m.drops)),(1,.non),(2,.row 1 Ir m.tables),(3,.row 1 Q1 m.queues),(4,.box (Ix n m.up d))]
def upT (m:MacM) (up:List Bool):MacM:=⟨up,m.tables,m.queues,m.now,m.injected,m.drops⟩
def doD (n:Net) (m:MacM) (d:Bool) (x:StepM):Bool :=
 if x.kind = 1 then d else if x.kind = 2 then (if (takeM m x.domain x.at_).2.2 then true else d) else if x.kind = 3 then d else if x.kind = 4 then d else if x.kind = 5 then (if x.up.length = n.links.length then false else d) else d
theorem simDoS (n:Net) (hn:n.Fin) (hm1:n.Num) (m:MacM) (d:Bool) (J D:Int) (hm0:MacOK n m J D) (hJ:J < 900000000000) (hD0:0 ≤ D) (hD:D ≤ 900000000000) (x:StepM) (hb:x.bytes.length < 100000) :
  Sy.Spec Tryz.prog 21 [.ptr 0 0,Ei x] (B1 n m d) (.tup [.sl 3 A3 (doT n m x).2,Aa 0]) (Yu n (doT n m x).1 (doD n m d x)):=Ab Γ hm 100 F21 Tryz.ntmps21 rfl fun F hF=>by
 have hres:=doT.eq_1 n m x
 generalize doT n m x = res at *
 have hdd:=doD.eq_1 n m d x
 generalize doD n m d x = dd at *
 conv=>whnf
 refine Ah (Z4 (d:=900) E E E) E E ?_
 (refine rg ?_;(conv=>whnf);refine aF ?_;refine rg ?_;conv=>whnf)
 refine ⟨fun h=>?_,fun h=>?_⟩
 ·have h1:x.kind = 1:=by simpa using h
  rw [if_pos h1] at hres hdd
  subst hres
  subst hdd
  have q1:=Aa9 n hn m dd J D hm0 (by omega) (by omega) x.port x.bytes hb
  refine rg ?_;conv=>whnf
  refine Ah (Ai [] E F51 q1 E ⟨E,E,E,E,Y⟩ E ⟨.inl E,.inl E,.inl E,.inl E,Y⟩) E E ?_
  refine rg ?_;conv=>whnf
  refine Ao 4 3 A3 E ?_
  refine Ew 1 4 E E (by decide) ?_
  exact done E (.cons .tmp (.cons .tmp .nil)) [] (Yu n (injectT n m x.port x.bytes) dd) (fun _ h=>h) E E ⟨Y,⟨.inl E,E,.inl E,E,.inl E,E,.inl E,E,.inl E,E,Y⟩,E,E⟩
 have h1:¬ x.kind = 1:=by simpa using h
 rw [if_neg h1] at hres hdd
 clear h
 refine rg ?_;conv=>whnf
 refine ⟨fun h=>?_,fun h=>?_⟩
 ·have h1:x.kind = 2:=by simpa using h
  rw [if_pos h1] at hres hdd
  subst hres
  have q1:=Agk n hn hm1 m d J D hm0 hD0 hD x.domain x.at_
  rw [← hdd] at q1
  refine rg ?_;conv=>whnf
  refine Ah (Ai [] E F52 q1 E ⟨E,E,E,E,Y⟩ E ⟨.inl E,.inl E,.inl E,.inl E,Y⟩) E E ?_
  refine rg ?_;conv=>whnf
  refine Ew 1 4 E E (by decide) ?_
  exact done E (.cons .tmp (.cons .tmp .nil)) [] (Yu n (pickT n m x.domain x.at_).1 dd) (fun _ h=>h) E E ⟨Y,⟨.inl E,E,.inl E,E,.inl E,E,.inl E,E,.inl E,E,Y⟩,E,E⟩
 have h1:¬ x.kind = 2:=by simpa using h
 rw [if_neg h1] at hres hdd
 clear h
 refine rg ?_;conv=>whnf
 refine ⟨fun h=>?_,fun h=>?_⟩
 ·have h1:x.kind = 3:=by simpa using h
  rw [if_pos h1] at hres hdd
  subst hres
  subst hdd
  have q1:=Yt n m dd x.domain x.at_ (Dr hm0 _)
  refine rg ?_;conv=>whnf
  refine Ah (Ai [] E F53 q1 E ⟨E,E,E,E,Y⟩ E ⟨.inl E,.inl E,.inl E,.inl E,Y⟩) E E ?_
  refine rg ?_;conv=>whnf
  refine Ao 4 3 A3 E ?_
  refine Ew 1 4 E E (by decide) ?_
  exact done E (.cons .tmp (.cons .tmp .nil)) [] (Yu n (takeM m x.domain x.at_).1 dd) (fun _ h=>h) E E ⟨Y,⟨.inl E,E,.inl E,E,.inl E,E,.inl E,E,.inl E,E,Y⟩,E,E⟩
 have h1:¬ x.kind = 3:=by simpa using h
 rw [if_neg h1] at hres hdd
 clear h
 refine rg ?_;conv=>whnf
 refine ⟨fun h=>?_,fun h=>?_⟩
 ·have h1:x.kind = 4:=by simpa using h
  rw [if_pos h1] at hres hdd
  subst hres
  subst hdd
  have q1:=Agj n m dd J D hm0 hn.domains
  refine rg ?_;conv=>whnf
  refine Ah (Ai [] E F54 q1 E ⟨E,E,E,E,Y⟩ E ⟨.inl E,.inl E,.inl E,.inl E,Y⟩) E E ?_
  refine rg ?_;conv=>whnf
  refine Ao 4 3 A3 E ?_
  refine Ew 1 4 E E (by decide) ?_
  exact done E (.cons .tmp (.cons .tmp .nil)) [] (Yu n (Lm m) dd) (fun _ h=>h) E E ⟨Y,⟨.inl E,E,.inl E,E,.inl E,E,.inl E,E,.inl E,E,Y⟩,E,E⟩
 have h1:¬ x.kind = 4:=by simpa using h
 rw [if_neg h1] at hres hdd
 clear h
 refine rg ?_;conv=>whnf
 refine ⟨fun h=>?_,fun h=>?_⟩
 ·have h1:x.kind = 5:=by simpa using h
  rw [if_pos h1] at hres hdd
  clear h
  refine rg ?_;conv=>whnf
  refine ⟨(by kernel_rfl),?_⟩
  conv=>whnf
  refine ⟨fun h=>?_,fun h=>?_⟩
  ·have h2:x.up.length = n.links.length:=by have:=of_decide_eq_true h; omega
   rw [if_pos h2] at hres hdd
   subst hres
   subst hdd
   clear h
   have hls:=hn.links
   unfold Am at hls
   refine rg ?_;conv=>whnf
   refine Ag (U1 x.up (by omega)) F55 E E E E E ?_
   refine rg ?_;conv=>whnf
   refine Ao 4 3 A3 E ?_
   refine A1 55 (Ix n x.up false) E (.cons (.refl _) (.cons (.refl _) (.cons (.refl _) (.cons (.refl _) (.cons .nil .nil))))) ?_
   exact done E (.cons .tmp (.cons .tmp .nil)) [(4,55)] (Yu n (upT m x.up) false) (fun _ h=>h) E E ⟨Y,⟨.inl E,E,.inr E,E,.inl E,E,.inl E,E,.inl E,E,Y⟩,E,E⟩
  ·have h2:¬ x.up.length = n.links.length:=by have:=of_decide_eq_false h; omega
   rw [if_neg h2] at hres hdd
   subst hres
   subst hdd
   clear h
   refine rg ?_;conv=>whnf
   refine Ao 4 3 A3 E ?_
   refine Ew 1 4 E E (by decide) ?_
   exact done E (.cons .tmp (.cons .tmp .nil)) [] (Yu n m dd) (fun _ h=>h) E E ⟨Y,⟨.inl E,E,.inl E,E,.inl E,E,.inl E,E,.inl E,E,Y⟩,E,E⟩
 have h1:¬ x.kind = 5:=by simpa using h
 rw [if_neg h1] at hres hdd
 subst hres
 subst hdd
 clear h
 refine rg ?_;conv=>whnf
 refine Ao 4 3 A3 E ?_
 refine Ew 1 4 E E (by decide) ?_
 exact done E (.cons .tmp (.cons .tmp .nil)) [] (Yu n m dd) (fun _ h=>h) E E ⟨Y,⟨.inl E,E,.inl E,E,.inl E,E,.inl E,E,.inl E,E,Y⟩,E,E⟩
theorem Aa8 (n:Net) (hn:n.Fin) (hb:okB n (List.replicate n.links.length true) = false) :
  Sy.Spec Tryz.prog 18 [At n] [] (.tup [.val (.pointer none),Aa 2]) []:=Ab Γ hm 100 F18 Tryz.ntmps18 rfl fun F hF=>by
 have hls:=hn.links
 unfold Am at hls
 have q1:=Adb n.links.length (by omega)
 have q2:=Uk n (List.replicate n.links.length true) hn hb
 generalize List.replicate n.links.length true = up at *
 conv=>whnf
 refine Ea 7 Ad [true] E E ?_
 refine Ar 7 E ?_
 refine rg ?_;conv=>whnf
 refine Ag q1 F43 E E E E E ?_
 refine rg ?_;conv=>whnf
 refine Ag q2 F44 E E E E E ?_
 (refine rg ?_;(conv=>whnf);refine aT ?_;refine rg ?_;conv=>whnf)
 exact Ac E (.cons .tmp (.cons .tmp .nil)) E E
theorem Ajh (n:Net) (hn:n.Fin) (hb:okB n (List.replicate n.links.length true) = true) :
  Sy.Spec Tryz.prog 18 [At n] [] (.tup [.ptr 0 0,Aa 0]) (B1 n (newT n) false):=Ab Γ hm 100 F18 Tryz.ntmps18 rfl fun F hF=>by
 have hls:=hn.links
 have hds:=hn.domains
 unfold Am at hls hds
 have q1:=Adb n.links.length (by omega)
 have q2:=Wh n (List.replicate n.links.length true) hn hb
 have hnt:=newT.eq_1 n
 generalize newT n = m at *
 generalize List.replicate n.links.length true = up at *
 conv=>whnf
 refine Ea 7 Ad [true] E E ?_
 refine Ar 7 E ?_
 refine rg ?_;conv=>whnf
 refine Ag q1 F43 E E E E E ?_
 refine rg ?_;conv=>whnf
 refine Ag q2 F44 E E E E E ?_
 (refine rg ?_;(conv=>whnf);refine aF ?_;refine rg ?_;conv=>whnf)
 refine Ay (copyS n hn) F45 E E E (by kernel_rfl) E ?_
 refine rd (by kernel_rfl) ?_;conv=>whnf
 refine Bo (Bt Γ.toTy (d:=28) (n:=n.domains.length) (fun _:Unit=>.val (.slice none 0 0)) () E E E E E E E E (by omega) (by omega) E E E) (by kernel_rfl) E ?_
 refine rd (by kernel_rfl) ?_;conv=>whnf
 refine Bo (Bt Γ.toTy (d:=32) (n:=n.domains.length) (fun _:Unit=>.val (.slice none 0 0)) () E E E E E E E E (by omega) (by omega) E E E) (by kernel_rfl) E ?_
 refine rd (by kernel_rfl) ?_;conv=>whnf
 refine ⟨(by kernel_rfl),?_⟩
 refine Aaz 28 (e':=Ir) (l':=List.replicate n.domains.length []) E (by simp) (fun M w i h1 h2 v hv=>?_) ?_
 ·rw [List.getElem_replicate]
  simp only [RdD] at hv
  exact U6 hv
 refine Aaz 32 (e':=Q1) (l':=List.replicate n.domains.length []) E (by simp) (fun M w i h1 h2 v hv=>?_) ?_
 ·rw [List.getElem_replicate]
  simp only [RdD] at hv
  exact U6 hv
 refine A1 24 (Ix n up false) E (.cons (.refl _) (.cons (.refl _) (.cons (.refl _) (.cons (.refl _) (.cons .nil .nil))))) ?_
 refine rg ?_;conv=>whnf
 subst hnt
 exact done E (.cons .tmp (.cons .tmp .nil)) [(0,34),(1,24),(2,28),(3,32)] (B1 n ⟨up,List.replicate n.domains.length [],List.replicate n.domains.length [],0,0,fun _=>0⟩ false) (fun _ h=>h) E E ⟨Y,⟨.inl E,E,.inl E,E,.inl E,E,.inl E,E,Y⟩,E,E⟩
end Go.Sy.YtmelpejjondedaaGreat
namespace Go.Sy.YtmelpejjondedaaGreat
open Go.Proofs
theorem Qv (n:Net):∀ (a b:List StepM) (m:MacM),Dq n m (a ++ b) = ((Dq n (Dq n m a).1 b).1,(Dq n m a).2 ++ (Dq n (Dq n m a).1 b).2)
 | [],b,m=>by simp [Dq]
 | o :: a,b,m=>by
  rw [List.cons_append,Dq,Dq,Qv n a b]
  simp
theorem Aei (n:Net) (m:MacM) (l:List StepM) (j:Nat) (hj:j < l.length) :
  Dq n m (l.take (j + 1)) = ((doT n (Dq n m (l.take j)).1 l[j]).1,(Dq n m (l.take j)).2 ++ (doT n (Dq n m (l.take j)).1 l[j]).2):=by
 rw [List.take_succ_eq_append_getElem hj,Qv]
 simp [Dq]
def runF (n:Net) (s:MacM × Bool) (l:List StepM):MacM × Bool:=l.foldl (fun s x=>((doT n s.1 x).1,doD n s.1 s.2 x)) s
theorem Yx (n:Net):∀ (l:List StepM) (s:MacM × Bool),(runF n s l).1 = (Dq n s.1 l).1
 | [],s=>rfl
 | x :: l,s=>by
  have:=Yx n l ((doT n s.1 x).1,doD n s.1 s.2 x)
  rw [Dq]
  exact this
def runD (n:Net) (m:MacM) (d:Bool) (l:List StepM):Bool:=(runF n (m,d) l).2
theorem Aej (n:Net) (m:MacM) (d:Bool) (l:List StepM) (j:Nat) (hj:j < l.length) :
  runD n m d (l.take (j + 1)) = doD n (Dq n m (l.take j)).1 (runD n m d (l.take j)) l[j]:=by
 unfold runD
 rw [List.take_succ_eq_append_getElem hj]
 have:=Yx n (l.take j) (m,d)
 unfold runF at this ⊢
 rw [List.foldl_append]
 show doD n (List.foldl _ (m,d) (l.take j)).1 _ l[j] = _
 rw [this]
theorem doT_ok {n:Net} (hn:n.Fin) (hm1:n.Num) {m:MacM} {J D:Int} (h:MacOK n m J D) (hJ:0 ≤ J) (hD:0 ≤ D) (x:StepM):MacOK n (doT n m x).1 (J + 1) (D + 4294967298):=by
 unfold doT
 split
 ·exact (Ab6 hn h hJ hD _ _).mono (by omega) (by omega)
 split
 ·have hok:=Tb h x.domain x.at_
  unfold pickT
  split
  ·exact hok.1.mono (by omega) (by omega)
  ·have hb:=Sh hn (I4 n (takeM m x.domain x.at_).1.up) (tableL (takeM m x.domain x.at_).1 x.domain) x.domain (takeM m x.domain x.at_).2.1 (takeM m x.domain x.at_).1.now
   have h1:=Zd hok.1 hD x.domain (Sf (n:=n) (fw:=I4 n (takeM m x.domain x.at_).1.up) (dom:=x.domain) (now:=(takeM m x.domain x.at_).1.now) (O4 hok.1 x.domain) hok.2)
   have h2:=Km hn (takeM m x.domain x.at_).2.1.origin (Ze n (takeM m x.domain x.at_).1 x.domain (takeM m x.domain x.at_).2.1).2.1 h1 (by omega) (Sg hn hm1 hok.2)
   refine h2.mono (by omega) ?_
   unfold Ze
   omega
 split
 ·exact (Tb h x.domain x.at_).1.mono (by omega) (by omega)
 split
 ·have h1:=h.now
  refine ⟨h.up,by unfold Lm; simp only [List.length_map]; exact h.tabs,h.ques,fun t ht=>?_,h.que,?_,?_,fun i=>?_⟩
  ·unfold Lm at ht
   obtain ⟨t0,ht0,rfl⟩:=List.mem_map.1 ht
   exact Akd (h.tab t0 ht0) _
  ·unfold Lm
   dsimp only
   omega
  ·have:=h.inj
   unfold Lm
   dsimp only
   omega
  ·have:=h.drp i
   unfold Lm
   dsimp only
   omega
 split
 ·split
  ·rename_i h2
   exact MacOK.mono (n:=n) (m:=⟨x.up,m.tables,m.queues,m.now,m.injected,m.drops⟩) ⟨h2,h.tabs,h.ques,h.tab,h.que,h.now,h.inj,h.drp⟩ (by omega) (by omega)
  ·exact h.mono (by omega) (by omega)
 ·exact h.mono (by omega) (by omega)
theorem Ac8 {n:Net} (hn:n.Fin) (hm1:n.Num):∀ (l:List StepM) {m:MacM} {J D:Int},MacOK n m J D → 0 ≤ J → 0 ≤ D → MacOK n (Dq n m l).1 (J + l.length) (D + l.length * 4294967298)
 | [],m,J,D,h,_,_=>by
  rw [Dq]
  exact h.mono (by simp) (by simp)
 | x :: l,m,J,D,h,hJ,hD=>by
  rw [Dq]
  have:=Ac8 hn hm1 l (doT_ok hn hm1 h hJ hD x) (by omega) (by omega)
  exact this.mono (by simp only [List.length_cons]; omega) (by simp only [List.length_cons]; omega)
theorem Adg (n:Net):MacOK n (newT n) 0 0:=by
 refine ⟨by simp [newT],by simp [newT],by simp [newT],fun t ht=>?_,fun l hl=>?_,by simp [newT],by simp [newT],fun i=>by simp [newT]⟩
 ·have:t = []:=(List.mem_replicate.1 ht).2
  rw [this]; exact Qg
 ·have:l = []:=(List.mem_replicate.1 hl).2
  rw [this]; exact Q4
def Ai8 (n:Net):List Bool:=List.replicate n.links.length true
structure ScriptOK (l:List StepM):Prop where
 few:l.length ≤ 60
 bytes:∀ x ∈ l,x.bytes.length ≤ 2000
attribute [local irreducible] Go.Sy.G Go.Sy.DR
set_option maxRecDepth 100000
set_option maxHeartbeats 4000000
end Go.Sy.YtmelpejjondedaaGreat
namespace Go.Sy.YtmelpejjondedaaGreat
open Go.Proofs
attribute [local irreducible] Go.Sy.G Go.Sy.DR
set_option maxRecDepth 100000
set_option maxHeartbeats 4000000
theorem Aao (b:ByteArray):(b == b) = true:=by
 show (b.data == b.data) = true
 simp
theorem Abe (l:List SeenM) (hl:l.length < 1000000000000):Sy.Spec Tryz.prog 16 [.sl 3 A3 l,.sl 3 A3 l] [] (Ad true) []:=Ab Γ hm 100 F16 Tryz.ntmps16 rfl fun F hF=>by
 conv=>whnf
 (refine ⟨fun h=>False.elim (by simp at h),fun _=>?_⟩;refine rg ?_;conv=>whnf)
 refine A0 l.length (fun j=>[(0,.sl 3 A3 l),(1,.sl 3 A3 l),(5,Aa j)]) (fun _=>[]) [] ⟨⟨E,E,E,E,E,E,Y⟩,Y,E,E⟩ ?_
 intro j hj
 refine rg ?_;conv=>whnf
 refine ⟨fun h=>?_,fun h=>?_⟩
 ·have hlt:j < l.length:=by have:=of_decide_eq_true h; omega
  have hj0:((j:Nat):Int).toNat < l.length:=by simpa using hlt
  clear h
  refine rg ?_;conv=>whnf
  refine ⟨E,by omega,hj0,?_⟩
  conv=>whnf
  refine ⟨E,by omega,hj0,?_⟩
  conv=>whnf
  (refine ⟨fun h=>False.elim (by simp at h),fun _=>?_⟩;refine rd (by kernel_rfl) ?_;conv=>whnf)
  refine ⟨E,by omega,hj0,?_⟩
  conv=>whnf
  refine ⟨E,by omega,hj0,?_⟩
  conv=>whnf
  (refine ⟨fun h=>False.elim (by simp at h),fun _=>?_⟩;refine rd (by kernel_rfl) ?_;conv=>whnf)
  refine ⟨E,by omega,hj0,?_⟩
  conv=>whnf
  refine Bo (Hn Γ.toTy (bs:=l[((j:Nat):Int).toNat].bytes) E E E E E E E .sl) (by kernel_rfl) E ?_
  refine rd (by kernel_rfl) ?_;conv=>whnf
  refine ⟨E,by omega,hj0,?_⟩
  conv=>whnf
  refine Bo (Hn Γ.toTy (bs:=l[((j:Nat):Int).toNat].bytes) E E E E E E E .sl) (by kernel_rfl) E ?_
  refine rd (by kernel_rfl) ?_;conv=>whnf
  refine ⟨(by kernel_rfl),?_⟩
  conv=>whnf
  refine ⟨fun h=>False.elim (by simp [Aao] at h),fun _=>?_⟩
  refine rg ?_;conv=>whnf
  refine ⟨by unfold I64; omega,?_⟩
  conv=>whnf
  exact Aq [] hlt ⟨⟨E,E,E,E,E,E,Y⟩,Y,E,E⟩
 ·refine rg ?_;conv=>whnf
  exact Ac E (.cons .tmp .nil) E E
end Go.Sy.YtmelpejjondedaaGreat
namespace Go.Sy.YtmelpejjondedaaGreat
section
variable {n:Net} {up:List Bool} {ranks roots costs:List Int}
end
end Go.Sy.YtmelpejjondedaaGreat
namespace Go.Sy.YtmelpejjondedaaGreat
instance:Inhabited Vec:=⟨⟨0,0,0,0,0⟩⟩
section
variable {n:Net} {up:List Bool} {ranks roots costs:List Int}
end
end Go.Sy.YtmelpejjondedaaGreat
namespace Go.Sy
open Go.ChangeShapes Go.WideShapes Go.ChangeAt Go.RowKit
section
variable {H:Type} (enc:TypeId × Value → H) (P:Program) (W:World)
def Op1 (t:TypeId) {α:Type} (e:α → SV) (p:α → Prop):Prop :=
 ∀ n c y,DataW.trod enc P W 0 (fun _=>true) true n t [c] = some y → ∃ x,p x ∧ Rd κ0 W (e x) c ∧ c.oneCell' = true
def OpN (t:TypeId) {α:Type} (e:α → SV) (p:α → Prop) (sz:Nat):Prop :=
 ∀ n cs y,DataW.trod enc P W 0 (fun _=>true) true n t cs = some y → ∃ x,p x ∧ cs.length = sz ∧ Ones cs ∧ RdL κ0 W (cellsOf (e x)) cs
variable {enc P W}
theorem Ag9 {t:TypeId} {k:IntKind} (ht:P.underlying t = some (.int k)):Op1 enc P W t (fun z=>.val (.int k z)) (fun z=>(Lit.int k z).wf = true):=fun n c y h=>by
 obtain ⟨z,e,_,hw⟩:=DataW.trod_int ht h
 have e:c = .int k z:=by simpa using e
 subst e
 exact ⟨z,hw,by simp [Rd],E⟩
theorem Adf {t:TypeId} {k:IntKind} (ht:P.underlying t = some (.int k)):OpN enc P W t (fun z=>.val (.int k z)) (fun z=>(Lit.int k z).wf = true) 1:=fun n cs y h=>by
 obtain ⟨z,rfl,_,hw⟩:=DataW.trod_int ht h
 refine ⟨z,hw,E,fun c hc=>by simp at hc; subst hc; rfl,?_⟩
 simp [cellsOf,RdL,Rd]
theorem Wp {base:Nat} {a:Addr} {n:Nat} {cs:List Value} (h:W.cells? base a n = some cs):cs.length = n ∧ ∀ j (_:j < n),W.cell? (a.add j) = cs[j]?:=by
 unfold World.cells? at h
 split at h
 ·refine ⟨by simpa using mapM_some_length h,fun j hj=>?_⟩
  exact mapM_some_get h j j (by simp [hj])
 ·cases h
theorem T0 {t et:TypeId} {α:Type} {e:α → SV} {p:α → Prop} {sz:Nat} (ht:P.underlying t = some (.slice et)) (hsz:P.cellsOf et = sz) (h0:0 < sz) (hb:∀ x,(e x).boxed = true) (hd:∀ x,(e x).data = true) (hO:OpN enc P W et e p sz) :
  Op1 enc P W t (fun l:List α=>.sl sz e l) (fun l=>(∀ x ∈ l,p x) ∧ l.length ≤ maxLen):=fun n c y h=>by
 rcases DataW.trod_slice ht h with ⟨hcs,_⟩ | ⟨a,len,cap,elems,rest,m,rfl,hcs,_,_,hlc,hcm,hel,hget,_⟩
 ·have hc:c = .slice none 0 0:=by simpa using hcs
  subst hc
  refine ⟨[],⟨by simp,Nat.zero_le _⟩,?_,E⟩
  simp only [Rd,RdD]
  exact .inl ⟨Y,none,0,E⟩
 ·have hc:c = .slice (some a) len cap:=by simpa using hcs
  subst hc
  rw [hsz] at hget
  have hall:∀ i:Fin len,∃ x,p x ∧ ∃ cs,W.cells? 0 (a.add (i * sz)) sz = some cs ∧ cs.length = sz ∧ Ones cs ∧ RdL κ0 W (cellsOf (e x)) cs:=fun i=>by
   have h1:=hget i.1 i.2
   rw [List.getElem?_eq_getElem (by omega)] at h1
   obtain ⟨cs,h2,h3⟩:=Option.bind_eq_some_iff.1 h1
   obtain ⟨x,h4,h5,h6,h7⟩:=hO _ _ _ h3
   exact ⟨x,h4,cs,h2,h5,h6,h7⟩
  let xs:Fin len → α:=fun i=>Classical.choose (hall i)
  have hxs:∀ i,p (xs i) ∧ ∃ cs,W.cells? 0 (a.add (i.1 * sz)) sz = some cs ∧ cs.length = sz ∧ Ones cs ∧ RdL κ0 W (cellsOf (e (xs i))) cs:=fun i=>Classical.choose_spec (hall i)
  refine ⟨List.ofFn xs,⟨fun x hx=>?_,by simp; omega⟩,?_,E⟩
  ·obtain ⟨i,rfl⟩:=List.mem_ofFn.1 hx
   exact (hxs i).1
  ·simp only [Rd,RdD]
   by_cases hl:len = 0
   ·subst hl
    exact .inl ⟨by simp,_,_,E⟩
   ·have hcell:∀ i:Fin len,∀ j,j < sz → ∃ v,W.cell? ((a.add (i.1 * sz)).add j) = some v:=fun i j hj=>by
     obtain ⟨_,cs,h1,h2,_⟩:=hxs i
     have:=(Wp h1).2 j hj
     rw [List.getElem?_eq_getElem (by omega)] at this
     exact ⟨_,this⟩
    obtain ⟨b,off,spot⟩:=a
    have hspot:spot = none:=by
     obtain ⟨v,hv⟩:=hcell ⟨0,by omega⟩ 0 h0
     simpa [Addr.add] using World.cell?_spot hv
    subst hspot
    have hadd:∀ i j,((⟨b,off,none⟩:Addr).add i).add j = ⟨b,off + i + j,none⟩:=fun i j=>by rw [Addr.add_lit,Addr.add_lit]
    refine .inr ⟨b,off,cap,by simp,by simpa using hlc,?_,?_,fun i hi=>?_⟩
    ·rintro (⟨k,hk⟩ | hk)
     ·cases hk
     ·exact hk
    ·obtain ⟨v,hv⟩:=hcell ⟨0,by omega⟩ 0 h0
     rw [hadd] at hv
     rcases Nat.lt_or_ge b W.heap.size with h | h
     ·exact h
     ·simp [World.cell?,Array.getElem?_eq_none h] at hv
    ·simp only [List.length_ofFn] at hi
     obtain ⟨_,cs,h1,h2,h3,h4⟩:=hxs ⟨i,hi⟩
     obtain ⟨u,g1,g2⟩:=Rd.of_cells (hb _) h3 h4
     refine ⟨u,?_,?_,by rw [g2]; exact h3,fun j hj=>?_⟩
     ·rw [List.getElem_ofFn]
      exact Rd.data _ _ (hd _) g1
     ·have:u.cells.toList.length = sz:=by rw [g2,h2]
      simpa using this
     ·have:=(Wp h1).2 j hj
      rw [hadd] at this
      rw [this,← g2]
      simp
end
end Go.Sy
namespace Go.Sy.YtmelpejjondedaaGreat
open Go.Proofs Go.ChangeShapes Go.WideShapes Go.ChangeAt Go.RowKit
set_option maxRecDepth 100000
section
variable {H:Type} {enc:TypeId × Value → H} {W:World}
def wI (k:IntKind) (z:Int):Prop:=(Lit.int k z).wf = true
theorem Ajn:Op1 enc Tryz.prog W 65 (fun l:List Int=>.sl 1 (fun z=>.val (.int .i64 z)) l) (fun l=>(∀ z ∈ l,wI .i64 z) ∧ l.length ≤ maxLen) :=
 T0 Tryz.underlying65 (by kernel_rfl:Tryz.prog.cellsOf 3 = 1) (by decide) (fun _=>rfl) (fun _=>rfl) (Adf Tryz.underlying3)
def Device.In (x:Device):Prop:=wI .i64 x.row ∧ wI .i64 x.prio ∧ x.name.size ≤ maxLen ∧ wI .u64 x.mac ∧ wI .u32 x.vtep
def Port.In (x:Port):Prop:=wI .i64 x.row ∧ wI .i64 x.dev ∧ wI .i64 x.native ∧ wI .i64 x.cost ∧ wI .i64 x.link ∧ x.name.size ≤ maxLen ∧ ((∀ z ∈ x.tagged,wI .i64 z) ∧ x.tagged.length ≤ maxLen)
def Link.In (x:Link):Prop:=wI .i64 x.row ∧ wI .i64 x.a ∧ wI .i64 x.b
def Domain.In (x:Domain):Prop:=wI .i64 x.dev ∧ wI .i64 x.vlan ∧ wI .i64 x.vni ∧ wI .i64 x.irb ∧ wI .i64 x.row ∧ ((∀ z ∈ x.peers,wI .i64 z) ∧ x.peers.length ≤ maxLen)
def Static.In (x:Static):Prop:=wI .i64 x.row ∧ wI .i64 x.domain ∧ wI .i64 x.port ∧ wI .u64 x.mac
def Flood.In (x:Flood):Prop:=wI .i64 x.row ∧ wI .i64 x.dev ∧ wI .i64 x.vni ∧ ((∀ z ∈ x.addrs,wI .u32 z) ∧ x.addrs.length ≤ maxLen)
def Vrf.In (x:Vrf):Prop:=wI .i64 x.row ∧ wI .i64 x.dev ∧ x.name.size ≤ maxLen ∧ ((∀ z ∈ x.imports,wI .i64 z) ∧ x.imports.length ≤ maxLen) ∧ ((∀ z ∈ x.exports,wI .i64 z) ∧ x.exports.length ≤ maxLen)
def Irb.In (x:Irb):Prop:=wI .i64 x.row ∧ wI .i64 x.domain ∧ wI .i64 x.vrf ∧ wI .u32 x.addr ∧ wI .i64 x.bits
structure Net.In (n:Net):Prop where
 devices:(∀ x ∈ n.devices,Device.In x) ∧ n.devices.length ≤ maxLen
 ports:(∀ x ∈ n.ports,Port.In x) ∧ n.ports.length ≤ maxLen
 links:(∀ x ∈ n.links,Link.In x) ∧ n.links.length ≤ maxLen
 domains:(∀ x ∈ n.domains,Domain.In x) ∧ n.domains.length ≤ maxLen
 statics:(∀ x ∈ n.statics,Static.In x) ∧ n.statics.length ≤ maxLen
 floods:(∀ x ∈ n.floods,Flood.In x) ∧ n.floods.length ≤ maxLen
 vrfs:(∀ x ∈ n.vrfs,Vrf.In x) ∧ n.vrfs.length ≤ maxLen
 irbs:(∀ x ∈ n.irbs,Irb.In x) ∧ n.irbs.length ≤ maxLen
theorem Y7 {t et:TypeId} {α:Type} {e:α → SV} {p:List α → Prop} {sz base:Nat} {v:Value} {d:DataW H} {ps:List MemPlace} (ht:Tryz.prog.underlying t = some (.slice et)) (hO:Op1 enc Tryz.prog W t (fun l:List α=>.sl sz e l) p)
  (hval:Value.okWide Tryz.prog W .any base t v) (h1:DataW.Trod enc Tryz.prog W 0 (fun _=>true) true t v d ps):∃ l,p l ∧ Rd κ0 W (.sl sz e l) v:=by
 obtain ⟨a,len,cap,rfl⟩:=okWide_slice ht hval
 obtain ⟨fuel,hf⟩:=h1
 obtain ⟨x,h1,h2,_⟩:=hO _ _ _ hf
 exact ⟨x,h1,h2⟩
end
end Go.Sy.YtmelpejjondedaaGreat
namespace Go.Sy.YtmelpejjondedaaGreat
open Go.Proofs
attribute [local irreducible] Go.Sy.G Go.Sy.DR
set_option maxRecDepth 100000
set_option maxHeartbeats 4000000
def netW33:Net:=⟨[⟨0,0,⟨#[97]⟩,0,0⟩],[⟨0,0,10,1,-1,⟨#[112]⟩,[]⟩,⟨0,0,10,1,-1,⟨#[113]⟩,[]⟩],[],[⟨0,10,0,-1,0,[]⟩],[],[],[],[]⟩
theorem Ah8:netW33.Fin:=by
 constructor <;> first | (unfold Am; decide) | (intro x hx; unfold Am; simp only [netW33,List.mem_cons,List.not_mem_nil,or_false] at hx; first | (subst hx; decide) | (rcases hx with rfl | rfl <;> decide) | exact hx.elim)
theorem Ahd:netW33.Num:=by
 refine ⟨fun x hx=>?_,fun x hx=>?_⟩
 ·simp only [netW33,List.mem_cons,List.not_mem_nil,or_false] at hx
  subst hx
  decide
 ·cases hx
end Go.Sy.YtmelpejjondedaaGreat
namespace Go.Sy.YtmelpejjondedaaGreat
open Go.Proofs Go.ChangeShapes Go.WideShapes Go.ChangeAt Go.RowKit
set_option maxRecDepth 100000
section
variable {H:Type} {enc:TypeId × Value → H} {W:World}
theorem Ahc {P:Program} {t:TypeId} (ht:P.underlying t = some (.int .u8)):OpN enc P W t Ak (fun _=>True) 1:=fun n cs y h=>by
 obtain ⟨z,h1,h2,h3,h4⟩:=Adf ht n cs y h
 have hz:0 ≤ z ∧ z < 256:=by
  simp only [Lit.wf,Bool.and_eq_true,decide_eq_true_eq] at h1
  have a:=h1.1
  have b:=h1.2
  simp only [IntKind.min,IntKind.max,IntKind.signed,IntKind.bits] at a b
  constructor <;> simp at a b <;> omega
 refine ⟨UInt8.ofNat z.toNat,Y,h2,h3,?_⟩
 have e:Ak (UInt8.ofNat z.toNat) = .val (.int .u8 z):=by
  rw [Ak,UInt8.toNat_ofNat_of_lt' (by show _ < 256; omega),Int.toNat_of_nonneg hz.1]
 rw [e]; exact h4
theorem Aha:Op1 enc Tryz.prog W 44 (fun l:List UInt8=>.sl 1 Ak l) (fun l=>(∀ x ∈ l,True) ∧ l.length ≤ maxLen) :=
 T0 Tryz.underlying44 (by kernel_rfl:Tryz.prog.cellsOf 5 = 1) (by decide) (fun _=>rfl) (fun _=>rfl) (Ahc Tryz.underlying5)
def StepM.In (x:StepM):Prop:=wI .i64 x.kind ∧ wI .i64 x.port ∧ wI .i64 x.domain ∧ wI .i64 x.at_ ∧ ((∀ y ∈ x.bytes,True) ∧ x.bytes.length ≤ maxLen) ∧ ((∀ y ∈ x.up,True) ∧ x.up.length ≤ maxLen)
def SeenM.In (x:SeenM):Prop:=wI .i64 x.port ∧ wI .i64 x.origin ∧ ((∀ y ∈ x.bytes,True) ∧ x.bytes.length ≤ maxLen)
theorem Aev:OpN enc Tryz.prog W 67 A3 SeenM.In 3:=fun n cs y h=>by
 obtain ⟨xs,m,_,_,hlen,hx,hg⟩:=DataW.trod_struct Tryz.underlying67 h
 have hlen:cs.length = 3:=hlen.trans (by kernel_rfl:Tryz.prog.cellsOf 67 = 3)
 have hx:xs.length = 3:=hx
 match cs,hlen with
 | [c0,c1,c2],_ =>
  have g0:DataW.trod enc Tryz.prog W 0 (fun _=>true) true m 3 (([c0,c1,c2].drop 0).take (Tryz.prog.cellsOf 3)) = xs[0]?:=hg 0 _ rfl
  rw [(by kernel_rfl:Tryz.prog.cellsOf 3 = 1),List.getElem?_eq_getElem (by omega)] at g0
  obtain ⟨z0,p0,r0,o0⟩:=Ag9 Tryz.underlying3 _ _ _ g0
  have g1:DataW.trod enc Tryz.prog W 0 (fun _=>true) true m 3 (([c0,c1,c2].drop 1).take (Tryz.prog.cellsOf 3)) = xs[1]?:=hg 1 _ rfl
  rw [(by kernel_rfl:Tryz.prog.cellsOf 3 = 1),List.getElem?_eq_getElem (by omega)] at g1
  obtain ⟨z1,p1,r1,o1⟩:=Ag9 Tryz.underlying3 _ _ _ g1
  have g2:DataW.trod enc Tryz.prog W 0 (fun _=>true) true m 44 (([c0,c1,c2].drop 2).take (Tryz.prog.cellsOf 44)) = xs[2]?:=hg 2 _ rfl
  rw [(by kernel_rfl:Tryz.prog.cellsOf 44 = 1),List.getElem?_eq_getElem (by omega)] at g2
  obtain ⟨z2,p2,r2,o2⟩:=Aha _ _ _ g2
  refine ⟨⟨z0,z1,z2⟩,⟨p0,p1,p2⟩,E,fun c hc=>?_,?_⟩
  ·simp only [List.mem_cons,List.not_mem_nil,or_false] at hc
   rcases hc with rfl | rfl | rfl <;> assumption
  ·simp only [A3,cellsOf,RdL]
   exact ⟨_,_,E,r0,_,_,E,r1,_,_,E,r2,E⟩
def EntryM.In (x:EntryM):Prop:=x.mac < 18446744073709551616 ∧ wI .i64 x.where_ ∧ wI .i64 x.seen
end
end Go.Sy.YtmelpejjondedaaGreat
namespace Go.Sy.YtmelpejjondedaaGreat
open Go.Proofs
def M9 (m:MacM) (i:Nat) (t:List EntryM):MacM:=if 60 < t.length then m else (loadT m i t).1
def Hy (m0:MacM) (l:List (List EntryM)):Nat → MacM
 | 0=>m0
 | j + 1=>M9 (Hy m0 l j) j ((l[j]?).getD [])
def Aix (l:List (List EntryM)):Prop:=∀ t ∈ l,(∀ e ∈ t,EntryM.In e) ∧ t.length ≤ maxLen
theorem Yq {t:List EntryM} (h:∀ e ∈ t,EntryM.In e) (hl:t.length ≤ 60):TabOK t:=by
 refine ⟨by unfold Am; omega,fun e he=>(h e he).1,fun e he=>?_⟩
 have:=(h e he).2.1
 simp only [wI,Lit.wf,Bool.and_eq_true,decide_eq_true_eq,IntKind.max_i64] at this
 have e2:IntKind.min .i64 = -9223372036854775808:=by decide
 rw [e2] at this
 unfold I64
 omega
theorem Zq {n:Net} {m:MacM} {J D:Int} (h:MacOK n m J D) (i:Nat) {t:List EntryM} (ht:∀ e ∈ t,EntryM.In e):MacOK n (M9 m i t) J D:=by
 unfold M9
 split
 ·exact h
 ·rename_i hl
  unfold loadT
  split
  ·exact W1 h _ (Yq ht (by omega))
  ·exact h
theorem T6 {n:Net} {m:MacM} {J D:Int} (h:MacOK n m J D) {l:List (List EntryM)} (hl:Aix l):∀ j,MacOK n (Hy m l j) J D
 | 0=>h
 | j + 1=>by
  rw [Hy]
  refine Zq (T6 h hl j) j ?_
  by_cases hj:j < l.length
  ·rw [List.getElem?_eq_getElem hj]
   exact (hl _ (List.getElem_mem hj)).1
  ·rw [List.getElem?_eq_none (by omega)]
   intro e he
   cases he
attribute [local irreducible] Go.Sy.G Go.Sy.DR
set_option maxRecDepth 100000
set_option maxHeartbeats 4000000
end Go.Sy.YtmelpejjondedaaGreat
namespace Go.Sy.YtmelpejjondedaaGreat
open Go.Proofs
def M8 (n:Net) (tabs:List (List EntryM)):MacM:=Hy (newT n) tabs tabs.length
def ownerI (of:List Int) (port:Int):Int:=if Aj port of.length = true then nth of port else -1
def noteL (of by_:List Int) (port:Int):List Int:=if 0 ≤ ownerI of port then by_ ++ [ownerI of port] else by_
def ownB (by_:List Int) (tenant origin:Int):Bool:=Aj (origin - 1) by_.length && decide (nth by_ (origin - 1) = tenant)
def U5 (l:List QueuedM) (by_:List Int) (tenant at_:Int):Int:=((l.take at_.toNat).countP fun q=>ownB by_ tenant q.origin:Nat)
def L9 (m:MacM) (dom:Int):List QueuedM:=if Aj dom m.queues.length = true then queueL m dom else []
def atStep (x:StepM) (at_:Int):StepM:=⟨x.kind,x.port,x.domain,at_,x.bytes,x.up⟩
def keepT (of by_:List Int) (tenant:Int) (m:MacM) (x:StepM):StepM × Bool :=
 if x.kind = 1 then (x,decide (ownerI of x.port = tenant) && decide (0 ≤ tenant))
 else if x.kind = 2 ∨ x.kind = 3 then
  (if Aj x.at_ (L9 m x.domain).length && ownB by_ tenant (((L9 m x.domain)[x.at_.toNat]?).getD noQ).origin then (atStep x (U5 (L9 m x.domain) by_ tenant x.at_),true) else (x,false))
 else (x,true)
def Zw (of by_:List Int) (tenant:Int) (m:MacM) (x:StepM):List StepM:=if (keepT of by_ tenant m x).2 = true then [(keepT of by_ tenant m x).1] else []
def byStep (of by_:List Int) (x:StepM):List Int:=if x.kind = 1 then noteL of by_ x.port else by_
def byL (of:List Int):List Int → List StepM → List Int
 | by_,[]=>by_
 | by_,x :: l=>byL of (byStep of by_ x) l
def L8 (n:Net) (of:List Int) (tenant:Int):MacM → List Int → List StepM → List StepM
 | _,_,[]=>[]
 | m,by_,x :: l=>Zw of by_ tenant m x ++ L8 n of tenant (doT n m x).1 (byStep of by_ x) l
def M3 (n:Net) (of:List Int):Bool :=
 decide (of.length = n.ports.length) && Af n && (List.range of.length).all fun i=>if (nth n.ports (i:Int)).link < 0 then decide (0 ≤ nth of (i:Int)) && decide (nth of (i:Int) ≤ 9) else decide (nth of (i:Int) = -1)
def reduceT (n:Net) (of:List Int) (tabs:List (List EntryM)) (l:List StepM) (tenant:Int):List StepM × Int :=
 if okB n (Ai8 n) = true ∧ M3 n of = true then (L8 n of tenant (M8 n tabs) [] l,0) else ([],2)
def J1 (l:List SeenM) (of:List Int) (tenant:Int):List SeenM:=(l.filter fun x=>Aj x.port of.length && decide (nth of x.port = tenant)).map fun x=>⟨x.port,0,x.bytes⟩
theorem U3 (of:List Int):∀ (a b:List StepM) (by_:List Int),byL of by_ (a ++ b) = byL of (byL of by_ a) b
 | [],b,by_=>rfl
 | x :: a,b,by_=>by
  rw [List.cons_append,byL,byL,U3 of a b]
theorem Aik (of by_:List Int) (l:List StepM) (j:Nat) (hj:j < l.length):byL of by_ (l.take (j + 1)) = byStep of (byL of by_ (l.take j)) l[j]:=by
 rw [List.take_succ_eq_append_getElem hj,U3]
 rfl
theorem Qw (n:Net) (of:List Int) (tenant:Int):∀ (a b:List StepM) (m:MacM) (by_:List Int),L8 n of tenant m by_ (a ++ b) = L8 n of tenant m by_ a ++ L8 n of tenant (Dq n m a).1 (byL of by_ a) b
 | [],b,m,by_=>rfl
 | x :: a,b,m,by_=>by
  rw [List.cons_append,L8,L8,Qw n of tenant a b,Dq,byL,List.append_assoc]
theorem Aem (n:Net) (of:List Int) (tenant:Int) (m:MacM) (by_:List Int) (l:List StepM) (j:Nat) (hj:j < l.length) :
  L8 n of tenant m by_ (l.take (j + 1)) = L8 n of tenant m by_ (l.take j) ++ Zw of (byL of by_ (l.take j)) tenant (Dq n m (l.take j)).1 l[j]:=by
 rw [List.take_succ_eq_append_getElem hj,Qw,L8,L8,List.append_nil]
theorem Ae8 (of by_:List Int) (tenant:Int) (m:MacM) (x:StepM):(Zw of by_ tenant m x).length ≤ 1:=by
 unfold Zw; split <;> simp
theorem Y5 (n:Net) (of:List Int) (tenant:Int):∀ (l:List StepM) (m:MacM) (by_:List Int),(L8 n of tenant m by_ l).length ≤ l.length
 | [],m,by_=>by simp [L8]
 | x :: l,m,by_=>by
  rw [L8]
  have h1:=Y5 n of tenant l (doT n m x).1 (byStep of by_ x)
  have h2:=Ae8 of by_ tenant m x
  simp only [List.length_append,List.length_cons]
  omega
theorem Acq (of by_:List Int) (x:StepM):(byStep of by_ x).length ≤ by_.length + 1:=by
 unfold byStep noteL
 split
 ·split
  ·simp
  ·omega
 ·omega
theorem Adu (of:List Int):∀ (l:List StepM) (by_:List Int),(byL of by_ l).length ≤ by_.length + l.length
 | [],by_=>by simp [byL]
 | x :: l,by_=>by
  rw [byL]
  have h1:=Adu of l (byStep of by_ x)
  have h2:=Acq of by_ x
  simp only [List.length_cons]
  omega
def Agr (x y:StepM):Prop:=y.kind = x.kind ∧ y.port = x.port ∧ y.domain = x.domain ∧ y.bytes = x.bytes ∧ y.up.length = x.up.length
instance (x y:StepM):Decidable (Agr x y):=by unfold Agr; infer_instance
def Akl (l:List StepM) (x:StepM) (k:Nat):Prop:=∃ h:k < l.length,Agr x l[k] ∧ 0 ≤ l[k].at_ ∧ l[k].at_ ≤ x.at_
instance (l:List StepM) (x:StepM) (k:Nat):Decidable (Akl l x k):=by unfold Akl; infer_instance
end Go.Sy.YtmelpejjondedaaGreat
namespace Go.Sy.YtmelpejjondedaaGreat
open Go.Proofs
attribute [local irreducible] Go.Sy.G Go.Sy.DR
structure Bx (Q:Prop):Prop where out:Q
theorem sE {α:Sort _} {a b:α} {K:Prop} (e:a = b) (h:K):a = b ∧ K:=⟨e,h⟩
theorem xE {α:Sort _} {a b:α} {K:a = b → Prop} (e:a = b) (h:K e):∃ e:a = b,K e:=⟨e,h⟩
theorem sL {a b:Int} {K:Prop} (e:a ≤ b) (h:K):a ≤ b ∧ K:=⟨e,h⟩
theorem xL {a b:Int} {K:a ≤ b → Prop} (e:a ≤ b) (h:K e):∃ e:a ≤ b,K e:=⟨e,h⟩
theorem sM {a b:Nat} {K:Prop} (e:a ≤ b) (h:K):a ≤ b ∧ K:=⟨e,h⟩
theorem sT {a b:Nat} {K:Prop} (e:a < b) (h:K):a < b ∧ K:=⟨e,h⟩
theorem xT {a b:Nat} {K:a < b → Prop} (e:a < b) (h:K e):∃ e:a < b,K e:=⟨e,h⟩
theorem sN {a b:Int} {K:Prop} (e:a ≠ b) (h:K):a ≠ b ∧ K:=⟨e,h⟩
theorem sI {a:Int} {K:Prop} (e:I64 a) (h:K):I64 a ∧ K:=⟨e,h⟩
theorem ct {p q:Prop} {b:Bool} (h:q) (e:b = true → False:=by
 intro _h
 first | exact absurd _h (by decide) | exact Bool.false_ne_true (Eq.trans (Eq.symm (by with_reducible assumption)) _h) | (simp at _h; done) | (simp at _h; omega)):(b = true → p) ∧ (b = false → q):=⟨fun x=>(e x).elim,fun _=>h⟩
theorem cf {p q:Prop} {b:Bool} (h:p) (e:b = false → False:=by
 intro _h
 first | exact absurd _h (by decide) | exact Bool.false_ne_true (Eq.trans (Eq.symm _h) (by with_reducible assumption)) | (simp at _h; done) | (simp at _h; omega)):(b = true → p) ∧ (b = false → q):=⟨fun _=>h,fun x=>(e x).elim⟩
theorem S {P Q:Prop} (h:Q) (e:Bx Q → P:=by
 intro hb
 first | refine rg ?_ | refine rd (by kernel_rfl) ?_ | skip
 conv=>whnf
 repeat (first
  | ((first | refine aF ?_ | refine aT ?_ | refine ct ?_ | refine cf ?_); (first | refine rg ?_ | refine rd (by kernel_rfl) ?_); (conv=>whnf))
  | ((first | refine ⟨(by kernel_rfl:Xx _ _ = true),?_⟩ | refine sI (by unfold I64; omega) ?_); (conv=>whnf)))
 exact hb.out):P:=e ⟨h⟩
theorem T {P Q:Prop} (h:Q) (e:Bx Q → P:=by
 intro hb
 refine S ?_
 repeat ((first | refine sE (by exact rfl) ?_ | refine sL (by first | omega | decide) ?_ | refine xL (by first | omega | decide) ?_ | refine sT (by first | omega | decide) ?_ | refine xT (by first | omega | decide) ?_ | refine sM (by first | omega | decide) ?_ | refine sN (by first | omega | decide) ?_ | refine xE (by exact rfl) ?_); refine S ?_)
 exact hb.out):P:=e ⟨h⟩
theorem D {P:Prop} (h:P:=by
 apply Ac
 ·exact E
 ·(repeat (first | exact ResVs.nil | (apply ResVs.cons; (first | exact .tmp | exact .cell rfl rfl rfl rfl))))
 ·exact E
 ·exact E):P:=h
theorem U {P:Prop} (h:P:=by
 refine ⟨?_,?_,E,E⟩
 ·repeat (first | exact trivial | exact rfl | refine ⟨rfl,rfl,?_⟩)
 ·repeat (first | exact trivial | refine ⟨.inl rfl,rfl,?_⟩ | refine ⟨.inr rfl,rfl,?_⟩)):P:=h
theorem Uo {P:Prop} (h:P:=by
 repeat (first | exact trivial | refine ⟨.inl rfl,rfl,?_⟩ | refine ⟨.inr rfl,rfl,?_⟩)):P:=h
theorem doneE {P:Program} {fn:Func} {F:Fr} {R:SV} {H':Obs} {Γ:Go.Sy.Ty P} {n:Nat} {bn:List Nat} {hbn:∀ k,F.k0 k ≠ .new → k ∈ bn} {k:List KI} {s:SS} {rs:List ResultVar} (hf:fn.results = rs.toArray) {xs:List SV} (hx:ResVs Γ.get s rs xs)
  (hR:R.ren (Aw []) = Vr xs) (hRn:R.inn (Obs.keys H') = true) (hsub:Sub ⟨P,Γ,F,n,Oy P fn F R H',bn,hbn⟩ s [] [] H'):G ⟨P,Γ,F,n,Oy P fn F R H',bn,hbn⟩ (.code .ret :: k) s:=done hf hx [] H' (fun _ h=>h) hR hRn hsub
theorem doneF {P:Program} {fn:Func} {F:Fr} {R:SV} {H':Obs} {Γ:Go.Sy.Ty P} {n:Nat} {bn:List Nat} {hbn:∀ k,F.k0 k ≠ .new → k ∈ bn} {s:SS} {rs:List ResultVar} (hf:fn.results = rs.toArray) {xs:List SV} (hx:ResVs Γ.get s rs xs)
  (hR:R.ren (Aw []) = Vr xs) (hRn:R.inn (Obs.keys H') = true) (hsub:Sub ⟨P,Γ,F,n,Oy P fn F R H',bn,hbn⟩ s [] [] H'):G ⟨P,Γ,F,n,Oy P fn F R H',bn,hbn⟩ [] s:=Bc hf hx [] H' (fun _ h=>h) hR hRn hsub
theorem E0 {P:Prop} (h:P:=by
 first | apply doneE | apply doneF
 ·exact E
 ·(repeat (first | exact ResVs.nil | (apply ResVs.cons; (first | exact .tmp | exact .cell rfl rfl rfl rfl))))
 ·exact E
 ·exact E
 ·exact U):P:=h
theorem W {P:Prop} (h:P:=by
 repeat (first | exact trivial | exact rfl | refine ⟨rfl,?_⟩)):P:=h
theorem V {P:Prop} (h:P:=by
 repeat (first | exact trivial | refine ⟨.inl rfl,?_⟩ | refine ⟨.inr rfl,?_⟩)):P:=h
theorem C {P:Program} {f:FuncId} {fn:Func} {c:Code} {A:List SV} {R:SV} {Z Q:Prop} (hs:Sy.Spec P f A [] R []) (hf:Fun P f fn c) (h:Q) (e:Sy.Spec P f A [] R [] → Fun P f fn c → Bx Q → Z:=by
 intro hs hf hb
 first | refine Ag hs hf rfl rfl rfl rfl rfl ?_ | refine Ay hs hf rfl rfl rfl (by kernel_rfl) rfl ?_
 refine T ?_
 exact hb.out):Z:=e hs hf ⟨h⟩
theorem X {C:Cx} {k:List KI} {s:SS} {all:Array Oper} {o:Oper} {rest:List Oper} {V:Up} {Q:Prop} (hg:Good C.P o s V) (h:Q) (hd:L0 C.n o = true:=by exact rfl) (hw:C7 C.n all o s = some true:=by exact rfl) (e:Bx Q → G C (.ops all rest :: k) (s.upd o.dst V):=by
 intro hb
 refine T ?_
 exact hb.out):G C (.ops all (o :: rest) :: k) s:=Ah hg hd hw (e ⟨h⟩)
theorem Xd {C:Cx} {k:List KI} {s:SS} {all:Array Oper} {done:List Stp} {o:Oper} {rest:List Oper} {V:Up} {Q:Prop} (hg:Good C.P o s V) (h:Q) (hi:all[done.length]? = some o:=by kernel_rfl) (hw:C7 C.n all o s = some true:=by exact rfl) (hn:(Ed o || Im o) = false:=by exact rfl) (e:Bx Q → DR C k all (done ++ [⟨done.length,o,V,true⟩]) rest (s.upd o.dst V):=by
 intro hb
 refine T ?_
 exact hb.out):DR C k all done (o :: rest) s:=Bo hg hi hw (e ⟨h⟩) hn
theorem Xe {C:Cx} {k:List KI} {s:SS} {all:Array Oper} {done:List Stp} {o:Oper} {rest:List Oper} {V:Up} {Q:Prop} (hg:Good C.P o s V) (h:Q) (hk:KeepL s V.objs:=by exact W) (hi:all[done.length]? = some o:=by kernel_rfl) (hw:C7 C.n all o s = some true:=by exact rfl) (hn:(Ed o || Im o) = false:=by exact rfl) (e:Bx Q → DR C k all (done ++ [⟨done.length,o,⟨V.v,V.rd ++ V.ws,[]⟩,true⟩]) rest (s.upd o.dst ⟨V.v,V.rd ++ V.ws,[]⟩):=by
 intro hb
 refine T ?_
 exact hb.out):DR C k all done (o :: rest) s:=stepD2 hg hk hi hw (e ⟨h⟩) hn
end Go.Sy.YtmelpejjondedaaGreat
namespace Go.Sy.YtmelpejjondedaaGreat
open Go.Proofs
attribute [local irreducible] Go.Sy.G Go.Sy.DR
set_option maxRecDepth 100000
set_option maxHeartbeats 4000000
def Ajv (of:List Int) (tenant:Int):List SV:=[.sl 1 Aa of,Aa tenant,.osl 11]
def Abu (of by_:List Int) (tenant:Int):Obs:=[(10,.box (Ajv of tenant)),(11,.row 1 Aa by_)]
def ledN (of by_:List Int) (tenant:Int):Obs:=[(10,.box [.sl 1 Aa of,Aa tenant,.osl 12]),(11,.non),(12,.row 1 Aa by_)]
theorem V4 (of by_:List Int) (tenant port:Int) :
  Sy.Spec Tryz.prog 110 [.ptr 10 0,Aa port] (Abu of by_ tenant) (Aa (ownerI of port)) (Abu of by_ tenant):=Ab Γ hm 100 F110 Tryz.ntmps110 rfl fun F hF=>by
 have hres:=ownerI.eq_1 of port
 generalize ownerI of port = res at *
 refine T ?_
 refine ⟨fun h=>?_,fun h=>?_⟩
 ·rw [if_neg (by rw [B6 (by have:=of_decide_eq_true h; omega)]; simp)] at hres
  subst hres
  refine T ?_
  exact E0
 refine T ?_
 refine ⟨fun h2=>?_,fun h2=>?_⟩
 ·rw [if_neg (by rw [B6 (by have:=of_decide_eq_true h2; omega)]; simp)] at hres
  subst hres
  refine T ?_
  exact E0
 have h0:=of_decide_eq_false h
 have h1:=of_decide_eq_false h2
 have hk:port.toNat < of.length:=by omega
 rw [if_pos (C2 (by omega)),An hk] at hres
 subst hres
 refine T ?_
 exact E0
theorem Ahn (of by_:List Int) (tenant port:Int) (hl:by_.length < 1000000) :
  Sy.Spec Tryz.prog 66 [.ptr 10 0,Aa port] (Abu of by_ tenant) (.tup []) (ledN of (noteL of by_ port) tenant):=Ab Γ hm 100 F66 Tryz.ntmps66 rfl fun F hF=>by
 have hres:=noteL.eq_1 of by_ port
 generalize noteL of by_ port = res at *
 have q:=V4 of by_ tenant port
 generalize ownerI of port = w at *
 refine T ?_
 refine X (Ai [] E F110 q E W E V) ?_
 refine ⟨fun h=>?_,fun h=>?_⟩
 ·rw [if_pos (by have:=of_decide_eq_true h; omega)] at hres
  subst hres
  refine T ?_
  refine Xe (Ai [] E F110 q E W E V) ?_
  refine Xd (Al Γ.toTy 17 rfl rfl rfl rfl rfl (.row rfl) (.lit (e:=Aa) (l:=[w]) rfl rfl) (fun j hj=>by cases hj; decide) (by simp; omega) (by simp; omega)) ?_
  exact Bc E .nil [(12,17)] (ledN of (by_ ++ [w]) tenant) (fun _ h=>h) E E U
 ·rw [if_neg (by have:=of_decide_eq_false h; omega)] at hres
  subst hres
  refine T ?_
  refine Aiz 11 12 E E (by decide) ?_
  exact E0
theorem Aju (of by_:List Int) (tenant origin:Int) (hl:by_.length < 1000000) :
  Sy.Spec Tryz.prog 111 [.ptr 10 0,Aa origin] (Abu of by_ tenant) (Ad (ownB by_ tenant origin)) (Abu of by_ tenant):=Ab Γ hm 100 F111 Tryz.ntmps111 rfl fun F hF=>by
 have hres:=ownB.eq_1 by_ tenant origin
 generalize ownB by_ tenant origin = res at *
 refine T ?_
 refine ⟨fun h=>?_,fun h=>?_⟩
 ·have h0:=of_decide_eq_true h
  refine T ?_
  refine ⟨fun h2=>?_,fun h2=>?_⟩
  ·have h1:=of_decide_eq_true h2
   have hk:(origin - 1).toNat < by_.length:=by omega
   rw [C2 (by omega),Bool.true_and,An hk] at hres
   subst hres
   refine T ?_
   exact E0
  ·rw [B6 (by have:=of_decide_eq_false h2; omega),Bool.false_and] at hres
   subst hres
   refine T ?_
   exact E0
 ·rw [B6 (by have:=of_decide_eq_false h; omega),Bool.false_and] at hres
  subst hres
  refine T ?_
  exact E0
theorem Ahj {α β:Type} (f:α → β) (l:List α) (j:Nat) (hj:j < l.length):(l.take (j + 1)).map f = (l.take j).map f ++ [f l[j]]:=by
 rw [List.take_succ_eq_append_getElem hj,List.map_append]; rfl
theorem Aak {α:Type} (f:α → Bool) (l:List α) (j:Nat) (hj:j < l.length):(l.take (j + 1)).countP f = (l.take j).countP f + (if f l[j] then 1 else 0):=by
 rw [List.take_succ_eq_append_getElem hj,List.countP_append]; simp [List.countP_cons]
theorem Aho (of by_:List Int) (tenant:Int) (hl:by_.length < 1000000) :
  Sy.Spec Tryz.prog 113 [.ptr 10 0] (Abu of by_ tenant) (.sl 1 Ad (by_.map fun t=>t == tenant)) (Abu of by_ tenant):=Ab Γ hm 100 F113 Tryz.ntmps113 rfl fun F hF=>by
 refine T ?_
 refine B7 3 1000 1 Ad E E ?_
 refine A0 by_.length (fun j=>[(0,.ptr 10 0),(3,.osl 1000),(9,.osl 11),(10,Aa by_.length),(11,Aa j)]) (fun j=>[(10,.box (Ajv of tenant)),(11,.row 1 Aa by_),(1000,.row 1 Ad ((by_.take j).map fun t=>t == tenant))]) [] U ?_
 intro j hj
 refine T ?_
 refine ⟨fun h=>?_,fun h=>?_⟩
 ·have hlt:j < by_.length:=by have:=of_decide_eq_true h; omega
  have hs:=Ahj (fun t=>t == tenant) by_ j hlt
  refine T ?_
  refine X (Al Γ.toTy 23 E E E E E (.row E) (.lit (e:=Ad) (l:=[by_[((j:Nat):Int).toNat]'(by omega) == tenant]) E E) (by simp) (by simp; omega) (by simp; omega)) ?_
  exact Aq [(1000,23)] hlt ⟨⟨E,E,E,E,E,E,E,E,E,E,Y⟩,⟨.inl E,E,.inl E,E,.inl (congrArg (Ob.row 1 Ad) hs),E,Y⟩,E,E⟩
 ·have hjj:j = by_.length:=by have:=of_decide_eq_false h; omega
  subst hjj
  rw [List.take_length]
  refine T ?_
  refine Ar 1000 E ?_
  exact E0
theorem Za (l:List QueuedM) (by_:List Int) (tenant at_:Int) (hl:l.length < 1000000) (hb:by_.length < 1000000) :
  Sy.Spec Tryz.prog 112 [.sl 7 A5 l,Aa at_,.sl 1 Ad (by_.map fun t=>t == tenant)] [] (Aa (U5 l by_ tenant at_)) []:=Ab Γ hm 100 F112 Tryz.ntmps112 rfl fun F hF=>by
 obtain ⟨v,hv⟩:∃ v:Int,(if (l.length:Int) < at_ then (l.length:Int) else at_) = v:=⟨_,rfl⟩
 have hkl:v.toNat ≤ l.length:=by split at hv <;> omega
 have hres:U5 l by_ tenant at_ = ((l.take v.toNat).countP fun q=>ownB by_ tenant q.origin:Nat):=by
  unfold U5
  split at hv
  ·subst hv
   rw [Int.toNat_natCast,List.take_length,List.take_of_length_le (by omega)]
  ·rw [hv]
 generalize U5 l by_ tenant at_ = res at *
 generalize hk:v.toNat = k at *
 refine T ?_
 refine A0 k (fun j=>[(0,.sl 7 A5 l),(1,Aa at_),(2,.sl 1 Ad (by_.map fun t=>t == tenant)),(7,Aa ((l.take j).countP fun q=>ownB by_ tenant q.origin:Nat)),(8,Aa j)]) (fun _=>[]) [] U ?_
 intro j hj
 refine T ?_
 refine X (Wg hv E E E) ?_
 refine ⟨fun h=>?_,fun h=>?_⟩
 ·have hlt:j < l.length:=by have:=of_decide_eq_true h; omega
  have hlk:j < k:=by have:=of_decide_eq_true h; omega
  have hs:=Aak (fun q=>ownB by_ tenant q.origin) l j hlt
  obtain ⟨q,hq⟩:∃ q,l[((j:Nat):Int).toNat]'(by omega) = q:=⟨_,rfl⟩
  have hq':l[j] = q:=hq
  rw [hq'] at hs
  have hc:=List.countP_le_length (p:=fun q=>ownB by_ tenant q.origin) (l:=l.take j)
  rw [List.length_take] at hc
  have hown:=ownB.eq_1 by_ tenant q.origin
  generalize ownB by_ tenant q.origin = w at *
  refine S ?_
  refine ⟨E,by omega,by omega,?_⟩
  rw [hq]
  refine T ?_
  refine ⟨fun h1=>?_,fun h1=>?_⟩
  ·refine T ?_
   refine ⟨fun h2=>?_,fun h2=>?_⟩
   ·have h1:=of_decide_eq_true h1
    have h2:=of_decide_eq_true h2
    rw [List.length_map] at h2
    have hk:(q.origin - 1).toNat < by_.length:=by omega
    rw [C2 (by omega),Bool.true_and,An hk] at hown
    have hm:(q.origin - 1).toNat < (by_.map fun t=>t == tenant).length:=by rw [List.length_map]; omega
    have he:(by_.map fun t=>t == tenant)[(q.origin - 1).toNat]'hm = w:=by rw [List.getElem_map,hown]; rfl
    refine T ?_
    rw [he]
    cases w
    ·refine T ?_
     exact Aq [] hlk ⟨⟨E,E,E,E,E,E,congrArg (fun z:Nat=>Aa z) hs,E,E,E,Y⟩,Y,E,E⟩
    ·refine T ?_
     exact Aq [] hlk ⟨⟨E,E,E,E,E,E,congrArg (fun z:Nat=>Aa z) hs,E,E,E,Y⟩,Y,E,E⟩
   ·have h1:=of_decide_eq_true h1
    have h2:=of_decide_eq_false h2
    rw [List.length_map] at h2
    rw [B6 (by omega),Bool.false_and] at hown
    subst hown
    refine T ?_
    exact Aq [] hlk ⟨⟨E,E,E,E,E,E,congrArg (fun z:Nat=>Aa z) hs,E,E,E,Y⟩,Y,E,E⟩
  ·rw [B6 (by have:=of_decide_eq_false h1; omega),Bool.false_and] at hown
   subst hown
   refine T ?_
   exact Aq [] hlk ⟨⟨E,E,E,E,E,E,congrArg (fun z:Nat=>Aa z) hs,E,E,E,Y⟩,Y,E,E⟩
 ·have hjj:j = k:=by have:=of_decide_eq_false h; omega
  subst hjj
  subst hres
  refine T ?_
  exact D
def Agm (n:Net) (m:MacM) (d:Bool) (of by_:List Int) (tenant:Int):Obs:=[(0,.box (Qc n 1 m.now m.injected m.drops)),(1,.box (Ix n m.up d)),(2,.row 1 Ir m.tables),(3,.row 1 Q1 m.queues),(10,.box (Ajv of tenant)),(11,.row 1 Aa by_)]
theorem Ahp (n:Net) (m:MacM) (d:Bool) (of by_:List Int) (tenant:Int) (x:StepM) (hq:∀ dom,Dv (queueL m dom)) (hb:by_.length < 1000000) (hx1:x.bytes.length < 100000) (hx2:x.up.length < 100000) :
  Sy.Spec Tryz.prog 65 [.ptr 10 0,.ptr 0 0,Ei x] (Agm n m d of by_ tenant) (.tup [Ei (keepT of by_ tenant m x).1,Ad (keepT of by_ tenant m x).2]) (Agm n m d of by_ tenant):=Ab Γ hm 100 F65 Tryz.ntmps65 rfl fun F hF=>by
 have hres:=keepT.eq_1 of by_ tenant m x
 generalize keepT of by_ tenant m x = res at *
 refine T ?_
 refine C (Eu x.bytes (by omega)) F63 ?_
 refine C (U1 x.up (by omega)) F55 ?_
 refine ⟨fun h=>?_,fun h=>?_⟩
 ·have h1:x.kind = 1:=by simpa using h
  rw [if_pos h1] at hres
  subst hres
  have q:=V4 of by_ tenant x.port
  generalize ownerI of x.port = w at *
  refine T ?_
  refine Xe (Ai [] E F110 q E W E V) ?_
  by_cases hw:w = tenant
  ·rw [decide_eq_true hw,Bool.true_and]
   refine ⟨fun h2=>?_,fun h2=>absurd (hw:w = tenant) (by simpa using h2)⟩
   refine T ?_
   exact E0
  ·rw [decide_eq_false hw,Bool.false_and]
   refine ⟨fun h2=>absurd (by simpa using h2) hw,fun h2=>?_⟩
   refine T ?_
   exact E0
 have h1:¬ x.kind = 1:=by simpa using h
 rw [if_neg h1] at hres
 clear h
 by_cases h23:x.kind = 2 ∨ x.kind = 3
 ·rw [if_pos h23] at hres
  have hqo:=hq x.domain
  have q1:Sy.Spec Tryz.prog 57 [.ptr 0 0,Aa x.domain] (B1 n m d) (.sl 7 A5 (L9 m x.domain)) (B1 n m d):=Aed n m d x.domain hqo
  have hql:(L9 m x.domain).length ≤ 64:=by
   unfold L9
   split
   ·exact hqo.1
   ·exact Nat.zero_le _
  generalize L9 m x.domain = l at *
  have q4:=Aho of by_ tenant hb
  have q5:=Za l by_ tenant x.at_ (by omega) hb
  refine T ?_
  refine ⟨fun h=>?_,fun h=>?_⟩
  rotate_left
  have h2:¬ x.kind = 2:=by simpa using h
  clear h
  refine T ?_
  rotate_left
  all_goals
   refine T ?_
   refine X (Ai [] E F57 q1 E W E V) ?_
   refine ⟨fun h=>?_,fun h=>?_⟩
   ·have h0:=of_decide_eq_true h
    rw [B6 (by omega),Bool.false_and,if_neg (by simp)] at hres
    subst hres
    refine T ?_
    exact E0
   have h0:=of_decide_eq_false h
   refine T ?_
   refine ⟨fun h=>?_,fun h=>?_⟩
   ·have h1:=of_decide_eq_true h
    rw [B6 (by omega),Bool.false_and,if_neg (by simp)] at hres
    subst hres
    refine T ?_
    exact E0
   have h1:=of_decide_eq_false h
   have hlt:x.at_.toNat < l.length:=by omega
   rw [C2 (by omega),Bool.true_and,List.getElem?_eq_getElem hlt,Option.getD_some] at hres
   obtain ⟨q,hqq⟩:∃ q,l[x.at_.toNat]'hlt = q:=⟨_,rfl⟩
   rw [hqq] at hres
   have q3:=Aju of by_ tenant q.origin hb
   generalize ownB by_ tenant q.origin = w at *
   refine S ?_
   refine ⟨E,by omega,hlt,?_⟩
   rw [hqq]
   refine T ?_
   refine X (Ca [] (D9 E E F111) q3 E W E V) ?_
   cases w
   ·rw [if_neg (by simp)] at hres
    subst hres
    refine T ?_
    exact E0
   rw [if_pos rfl] at hres
   subst hres
   refine T ?_
   refine Xe (Ai [] E F113 q4 E W E V) ?_
   refine C q5 F112 ?_
   exact E0
 ·rw [if_neg h23] at hres
  subst hres
  refine T ?_
  exact E0
structure TabsOK (tabs:List (List EntryM)):Prop where
 few:tabs.length ≤ 60
 tab:∀ t ∈ tabs,t.length ≤ 60
 ok:Aix tabs
theorem Abt {n:Net} {tabs:List (List EntryM)} (h:TabsOK tabs) (m:MacM) (j:Nat) (hj:j < tabs.length):Hy m tabs (j + 1) = (loadT (Hy m tabs j) j tabs[j]).1:=by
 rw [Hy,Ol hj,M9,if_neg (by have:=h.tab _ (List.getElem_mem hj); omega)]
theorem Ae1 {m:MacM} {j:Nat} {t:List EntryM} (h:¬ j < m.queues.length):(loadT m j t).1 = m:=by
 unfold loadT
 rw [if_neg]
 intro hc
 have:=(placeB_iff.1 hc.1).2
 omega
theorem Sp (n:Net) (hn:n.Fin) (tabs:List (List EntryM)) (hok:okB n (Ai8 n) = false) :
  Sy.Spec Tryz.prog 64 [At n,.sl 1 Ir tabs] [] (.tup [.val (.pointer none),Aa 2]) []:=Ab Γ hm 100 F64 Tryz.ntmps64 rfl fun F hF=>by
 refine T ?_
 refine C (Aa8 n hn hok) F18 ?_
 exact D
theorem Ww (n:Net) (hn:n.Fin) (tabs:List (List EntryM)) (ht:TabsOK tabs) (hok:okB n (Ai8 n) = true) :
  Sy.Spec Tryz.prog 64 [At n,.sl 1 Ir tabs] [] (.tup [.ptr 0 0,Aa 0]) (B1 n (M8 n tabs) false):=Ab Γ hm 100 F64 Tryz.ntmps64 rfl fun F hF=>by
 have q1:=Ajh n hn hok
 have hn0:=Adg n
 unfold M8
 generalize newT n = m0 at *
 have htl:=ht.few
 have hds:=hn.domains
 unfold Am at hds
 refine T ?_
 refine X (Ai [(0,800),(1,801),(2,802),(3,803)] E F18 q1 E W E V) ?_
 refine Ew 2 902 E E (by decide) ?_
 refine A0 tabs.length (fun j=>[(2,.ptr 902 0),(6,.ptr 0 0),(18,.sl 1 Ir tabs),(19,Aa tabs.length),(20,Aa j)]) (fun j=>[(0,.box (Qc n 1 (Hy m0 tabs j).now (Hy m0 tabs j).injected (Hy m0 tabs j).drops)),(1,.box (Ix n (Hy m0 tabs j).up false)),(2,.row 1 Ir (Hy m0 tabs j).tables),(3,.row 1 Q1 (Hy m0 tabs j).queues),(902,.box (Abs n))]) [(0,800),(1,801),(2,802),(3,803)] U ?_
 intro j hj
 have hok0:=T6 hn0 ht.ok j
 refine T ?_
 refine ⟨fun h=>?_,fun h=>?_⟩
 ·have hlt:j < tabs.length:=by have:=of_decide_eq_true h; omega
  have hj0:((j:Nat):Int).toNat < tabs.length:=by simpa using hlt
  obtain ⟨t,hoo⟩:∃ t,tabs[j] = t:=⟨_,rfl⟩
  have e1:tabs[((j:Nat):Int).toNat]'hj0 = t:=hoo
  have hs:=Abt (n:=n) ht m0 j hlt
  rw [hoo] at hs
  have hti:=ht.ok t (by rw [← hoo]; exact List.getElem_mem hlt)
  have htt:=ht.tab t (by rw [← hoo]; exact List.getElem_mem hlt)
  have hto:=Yq hti.1 htt
  have hqd:=hok0.ques
  have q2:=Agl n (Hy m0 tabs j) false j t (by rw [hok0.tabs,hok0.ques]) hto.short hto.mac
  have hout:=Ae1 (m:=Hy m0 tabs j) (j:=j) (t:=t)
  rw [← hs] at q2 hout
  clear h
  refine S ?_
  refine ⟨E,by omega,hj0,?_⟩
  rw [e1]
  refine T ?_
  refine ⟨fun h=>?_,fun h=>?_⟩
  ·refine T ?_
   refine X (Ai [] E F19 q2 E W E V) ?_
   exact Aq [] hlt U
  ·have hm:=hout (by have:=of_decide_eq_false h; omega)
   refine T ?_
   refine Aq [] hlt ⟨⟨E,E,E,E,E,E,E,E,E,E,Y⟩,?_,E,E⟩
   dsimp only
   rw [hm]
   exact Uo
 ·have hjj:j = tabs.length:=by have:=of_decide_eq_false h; omega
  subst hjj
  refine T ?_
  exact E0
def ownAt (n:Net) (of:List Int) (i:Nat):Bool:=if (nth n.ports (i:Int)).link < 0 then decide (0 ≤ nth of (i:Int)) && decide (nth of (i:Int) ≤ 9) else decide (nth of (i:Int) = -1)
theorem Abm (n:Net) (of:List Int):M3 n of = (decide (of.length = n.ports.length) && Af n && (List.range of.length).all (ownAt n of)):=rfl
theorem Aeo {k:Nat} {p:Nat → Bool} (h:∀ i,i < k → p i = true):(List.range k).all p = true:=by
 rw [List.all_eq_true]
 intro i hi
 exact h i (List.mem_range.1 hi)
theorem Aen {k j:Nat} {p:Nat → Bool} (hj:j < k) (h:p j = false):(List.range k).all p = false:=by
 rw [Bool.eq_false_iff]
 intro ha
 have:=List.all_eq_true.1 ha j (List.mem_range.2 hj)
 rw [h] at this; cases this
theorem Xa (n:Net) (hn:n.Fin) (of:List Int):Sy.Spec Tryz.prog 28 [At n,.sl 1 Aa of] [] (Ad (M3 n of)) []:=Ab Γ hm 100 F28 Tryz.ntmps28 rfl fun F hF=>by
 have hres:=Abm n of
 generalize M3 n of = res at *
 have qr:=Bf n hn
 have hps:=hn.ports
 unfold Am at hps
 generalize Af n = nr at *
 refine T ?_
 refine ⟨fun h=>?_,fun h=>?_⟩
 ·rw [decide_eq_false (show ¬ of.length = n.ports.length by simp at h; omega),Bool.false_and,Bool.false_and] at hres
  subst hres
  refine T ?_
  exact D
 have hlen:of.length = n.ports.length:=by simp at h; omega
 rw [decide_eq_true hlen,Bool.true_and] at hres
 refine T ?_
 refine C qr F67 ?_
 cases nr
 ·rw [Bool.false_and] at hres
  subst hres
  refine T ?_
  exact D
 rw [Bool.true_and] at hres
 refine T ?_
 refine Bq of.length (fun j=>∀ i,i < j → ownAt n of i = true) (fun j=>[(2,.ptr 2 0),(19,.sl 1 Aa of),(20,Aa of.length),(21,Aa j)]) (fun _=>[(2,.box (Abs n))]) [] (fun i hi=>absurd hi (Nat.not_lt_zero i)) U ?_
 intro j hj hI
 refine T ?_
 refine ⟨fun h=>?_,fun h=>?_⟩
 ·have hlt:j < of.length:=by have:=of_decide_eq_true h; omega
  have hj0:((j:Nat):Int).toNat < of.length:=by simpa using hlt
  have hj1:((j:Nat):Int).toNat < n.ports.length:=by rw [← hlen]; exact hj0
  have hat:=ownAt.eq_1 n of j
  rw [An hj1,An hj0] at hat
  obtain ⟨w,hw⟩:∃ w,of[((j:Nat):Int).toNat]'hj0 = w:=⟨_,rfl⟩
  obtain ⟨p,hp⟩:∃ p,n.ports[((j:Nat):Int).toNat]'hj1 = p:=⟨_,rfl⟩
  rw [hw,hp] at hat
  have bad:ownAt n of j = false → res = false:=fun hb=>by rw [hres]; exact Aen hlt hb
  have good:ownAt n of j = true → ∀ i,i < j + 1 → ownAt n of i = true:=fun hb i hi=>by
   by_cases he:i = j
   ·subst he; exact hb
   ·exact hI i (by omega)
  generalize ownAt n of j = g at *
  clear h
  refine S ?_
  refine ⟨E,by omega,hj0,?_⟩
  rw [hw]
  refine S ?_
  refine ⟨E,by omega,hj1,?_⟩
  rw [hp]
  refine T ?_
  refine ⟨fun h1=>?_,fun h1=>?_⟩
  ·have hl:=of_decide_eq_true h1
   rw [if_neg (by omega)] at hat
   refine T ?_
   refine ⟨fun h2=>?_,fun h2=>?_⟩
   ·have hr:=bad (by rw [hat]; simp at h2; simp; omega)
    subst hr
    refine T ?_
    exact D
   ·have hx:=good (by rw [hat]; simp at h2; simp; omega)
    refine T ?_
    refine Bk [] hI hlt hx ?_
    exact U
  ·have hl:=of_decide_eq_false h1
   rw [if_pos (by omega),← Bool.decide_and] at hat
   refine T ?_
   refine ⟨fun h2=>?_,fun h2=>?_⟩
   ·have hr:=bad (by rw [hat]; exact decide_eq_false (by have:=of_decide_eq_true h2; omega))
    subst hr
    refine T ?_
    exact D
   refine T ?_
   refine ⟨fun h3=>?_,fun h3=>?_⟩
   ·have hr:=bad (by rw [hat]; exact decide_eq_false (by have:=of_decide_eq_true h3; omega))
    subst hr
    refine T ?_
    exact D
   have hx:=good (by rw [hat]; exact decide_eq_true (by have:=of_decide_eq_false h2; have:=of_decide_eq_false h3; omega))
   refine T ?_
   refine Bk [] hI hlt hx ?_
   exact U
 ·have hjj:j = of.length:=by have:=of_decide_eq_false h; omega
  subst hjj
  have hr:res = true:=by rw [hres]; exact Aeo hI
  subst hr
  refine T ?_
  exact D
def redO (n:Net) (of:List Int) (tenant:Int) (m:MacM) (d:Bool) (by_:List Int) (out:List StepM):Obs :=
 [(0,.box (Qc n 1 m.now m.injected m.drops)),(1,.box (Ix n m.up d)),(2,.row 1 Ir m.tables),(3,.row 1 Q1 m.queues),(10,.box (Ajv of tenant)),(11,.row 1 Aa by_),(1000,.row 6 Ei out)]
theorem Ms (n:Net) (hn:n.Fin) (hm1:n.Num) (of:List Int) (tabs:List (List EntryM)) (ht:TabsOK tabs) (l:List StepM) (hl:ScriptOK l) (hu:∀ x ∈ l,x.up.length < 100000) (tenant:Int) :
  Sy.Spec Tryz.prog 27 [At n,.sl 1 Aa of,.sl 1 Ir tabs,.sl 6 Ei l,Aa tenant] [] (.tup [.sl 6 Ei (reduceT n of tabs l tenant).1,Aa (reduceT n of tabs l tenant).2]) []:=Ab Γ hm 100 F27 Tryz.ntmps27 rfl fun F hF=>by
 have hres:=reduceT.eq_1 n of tabs l tenant
 generalize reduceT n of tabs l tenant = res at *
 have hlen:=hl.few
 cases hok:okB n (Ai8 n)
 ·rw [if_neg (by rw [hok]; simp)] at hres
  subst hres
  refine T ?_
  refine C (Sp n hn tabs hok) F64 ?_
  refine Ao 10 6 Ei E ?_
  exact D
 have q1:=Ww n hn tabs ht hok
 have q2:=Xa n hn of
 have hn0:MacOK n (M8 n tabs) 0 0:=T6 (Adg n) ht.ok _
 generalize M8 n tabs = m0 at *
 refine T ?_
 refine X (Ai [(0,800),(1,801),(2,802),(3,803)] E F64 q1 E W E V) ?_
 refine C q2 F28 ?_
 cases how:M3 n of
 ·rw [if_neg (by rw [how]; simp)] at hres
  subst hres
  refine T ?_
  refine Ao 10 6 Ei E ?_
  exact D
 rw [if_pos ⟨hok,how⟩] at hres
 subst hres
 refine T ?_
 refine B7 15 1000 6 Ei E E ?_
 refine Aa0 37 2 1001 1 Aa E E E E ?_
 refine A0 l.length (fun j=>[(12,.ptr 0 0),(14,.ptr 10 0),(15,.osl 1000),(38,.sl 6 Ei l),(39,Aa l.length),(40,Aa j)]) (fun j=>redO n of tenant (Dq n m0 (l.take j)).1 (runD n m0 false (l.take j)) (byL of [] (l.take j)) (L8 n of tenant m0 [] (l.take j))) [(0,800),(1,801),(2,802),(3,803),(10,37),(11,1001)] U ?_
 intro j hj
 refine T ?_
 refine ⟨fun h=>?_,fun h=>?_⟩
 ·have hlt:j < l.length:=by have:=of_decide_eq_true h; omega
  have hj0:((j:Nat):Int).toNat < l.length:=by simpa using hlt
  obtain ⟨x,hoo⟩:∃ x,l[j] = x:=⟨_,rfl⟩
  have e1:l[((j:Nat):Int).toNat]'hj0 = x:=hoo
  have hs:=Aei n m0 l j hlt
  have hds:=Aej n m0 false l j hlt
  have hbs:=Aik of [] l j hlt
  have hrs:=Aem n of tenant m0 [] l j hlt
  rw [hoo] at hs hds hbs hrs
  have hxb:=hl.bytes x (by rw [← hoo]; exact List.getElem_mem hlt)
  have hxu:=hu x (by rw [← hoo]; exact List.getElem_mem hlt)
  have hjo:=Ac8 hn hm1 (l.take j) hn0 (Int.le_refl _) (Int.le_refl _)
  have hjl:(l.take j).length = j:=by rw [List.length_take]; omega
  have hbl:=Adu of (l.take j) []
  have hrl:=Y5 n of tenant (l.take j) m0 []
  rw [hjl] at hjo hbl hrl
  rw [List.length_nil] at hbl
  have q5:=simDoS n hn hm1 (Dq n m0 (l.take j)).1 (runD n m0 false (l.take j)) _ _ hjo (by omega) (by omega) (by omega) x (by omega)
  have g1:(Dq n m0 (l.take (j + 1))).1 = (doT n (Dq n m0 (l.take j)).1 x).1:=by rw [hs]
  have q3:=Ahp n (Dq n m0 (l.take j)).1 (runD n m0 false (l.take j)) of (byL of [] (l.take j)) tenant x (fun dom=>Dr hjo dom) (by omega) (by omega) hxu
  have q4:=Ahn of (byL of [] (l.take j)) tenant x.port (by omega)
  have hkl:Zw of (byL of [] (l.take j)) tenant (Dq n m0 (l.take j)).1 x = if (keepT of (byL of [] (l.take j)) tenant (Dq n m0 (l.take j)).1 x).2 = true then [(keepT of (byL of [] (l.take j)) tenant (Dq n m0 (l.take j)).1 x).1] else []:=rfl
  generalize keepT of (byL of [] (l.take j)) tenant (Dq n m0 (l.take j)).1 x = yb at *
  obtain ⟨y,b⟩:=yb
  have hb1:=byStep.eq_1 of (byL of [] (l.take j)) x
  clear h hs
  refine S ?_
  refine ⟨E,by omega,hj0,?_⟩
  rw [e1]
  refine T ?_
  refine X (Ai [] E F65 q3 E W E V) ?_
  cases b
  ·rw [hkl,if_neg (by simp),List.append_nil] at hrs
   refine T ?_
   refine ⟨fun h=>?_,fun h=>?_⟩
   ·rw [if_pos (by simpa using h)] at hb1
    refine T ?_
    refine X (Ai [(12,62)] E F66 q4 E W E V) ?_
    refine X (Ai [(4,65)] E F21 q5 E W E V) ?_
    refine Aq [(1,65),(11,62)] hlt ⟨⟨E,E,E,E,E,E,E,E,E,E,E,E,Y⟩,?_,E,E⟩
    dsimp only
    rw [g1,hds,hbs,hrs,hb1]
    exact Uo
   ·rw [if_neg (by simpa using h)] at hb1
    refine T ?_
    refine X (Ai [(4,65)] E F21 q5 E W E V) ?_
    refine Aq [(1,65)] hlt ⟨⟨E,E,E,E,E,E,E,E,E,E,E,E,Y⟩,?_,E,E⟩
    dsimp only
    rw [g1,hds,hbs,hrs,hb1]
    exact Uo
  ·rw [hkl,if_pos rfl] at hrs
   refine T ?_
   refine X (Al Γ.toTy 55 rfl rfl rfl rfl rfl (.row rfl) (.lit (e:=Ei) (l:=[y]) rfl rfl) (fun j hj=>by cases hj; decide) (by simp; omega) (by simp; omega)) ?_
   refine ⟨fun h=>?_,fun h=>?_⟩
   ·rw [if_pos (by simpa using h)] at hb1
    refine T ?_
    refine X (Ai [(12,62)] E F66 q4 E W E V) ?_
    refine X (Ai [(4,65)] E F21 q5 E W E V) ?_
    refine Aq [(1,65),(11,62),(1000,55)] hlt ⟨⟨E,E,E,E,E,E,E,E,E,E,E,E,Y⟩,?_,E,E⟩
    dsimp only
    rw [g1,hds,hbs,hrs,hb1]
    exact Uo
   ·rw [if_neg (by simpa using h)] at hb1
    refine T ?_
    refine X (Ai [(4,65)] E F21 q5 E W E V) ?_
    refine Aq [(1,65),(1000,55)] hlt ⟨⟨E,E,E,E,E,E,E,E,E,E,E,E,Y⟩,?_,E,E⟩
    dsimp only
    rw [g1,hds,hbs,hrs,hb1]
    exact Uo
 ·have hjj:j = l.length:=by have:=of_decide_eq_false h; omega
  subst hjj
  rw [List.take_length]
  refine T ?_
  refine Ar 1000 E ?_
  exact D
theorem H7 {κ:Ka} {w:World} {a a':SV} {l l':List SV} (h1:∀ v,Rd κ w a' v → Rd κ w a v) (h2:∀ vs,RdL κ w l' vs → RdL κ w l vs):∀ vs,RdL κ w (a' :: l') vs → RdL κ w (a :: l) vs:=by
 intro vs h
 simp only [RdL] at h ⊢
 obtain ⟨v,r,e1,e2,e3⟩:=h
 exact ⟨v,r,e1,h1 v e2,h2 r e3⟩
structure SeensOK (l:List SeenM):Prop where
 few:l.length ≤ 200
 bytes:∀ x ∈ l,x.bytes.length ≤ 2000
def viewX (of:List Int) (tenant:Int) (x:SeenM):List SeenM:=if (Aj x.port of.length && decide (nth of x.port = tenant)) = true then [⟨x.port,0,x.bytes⟩] else []
theorem S7 (of:List Int) (tenant:Int) (l:List SeenM) (j:Nat) (hj:j < l.length):J1 (l.take (j + 1)) of tenant = J1 (l.take j) of tenant ++ viewX of tenant l[j]:=by
 unfold J1 viewX
 rw [List.take_succ_eq_append_getElem hj,List.filter_append,List.map_append]
 congr 1
 by_cases h:(Aj l[j].port of.length && decide (nth of l[j].port = tenant)) = true
 ·rw [if_pos h,List.filter_cons_of_pos (p:=fun x:SeenM=>Aj x.port of.length && decide (nth of x.port = tenant)) h]; rfl
 ·rw [if_neg h,List.filter_cons_of_neg (p:=fun x:SeenM=>Aj x.port of.length && decide (nth of x.port = tenant)) h]; rfl
theorem O1 (of:List Int) (tenant:Int) (l:List SeenM):(J1 l of tenant).length ≤ l.length:=by
 unfold J1
 rw [List.length_map]
 exact List.length_filter_le _ _
theorem Te (l:List SeenM) (hl:SeensOK l) (of:List Int) (tenant:Int) :
  Sy.Spec Tryz.prog 24 [.sl 3 A3 l,.sl 1 Aa of,Aa tenant] [] (.sl 3 A3 (J1 l of tenant)) []:=Ab Γ hm 100 F24 Tryz.ntmps24 rfl fun F hF=>by
 have hlen:=hl.few
 refine T ?_
 refine B7 7 1000 3 A3 E E ?_
 refine A0 l.length (fun j=>[(1,.sl 1 Aa of),(2,Aa tenant),(7,.osl 1000),(10,.sl 3 A3 l),(11,Aa l.length),(12,Aa j)]) (fun j=>[(1000,.row 3 A3 (J1 (l.take j) of tenant))]) [] U ?_
 intro j hj
 refine T ?_
 refine ⟨fun h=>?_,fun h=>?_⟩
 ·have hlt:j < l.length:=by have:=of_decide_eq_true h; omega
  have hj0:((j:Nat):Int).toNat < l.length:=by simpa using hlt
  obtain ⟨x,hoo⟩:∃ x,l[j] = x:=⟨_,rfl⟩
  have e1:l[((j:Nat):Int).toNat]'hj0 = x:=hoo
  have hs:=S7 of tenant l j hlt
  have hvl:=O1 of tenant (l.take j)
  rw [List.length_take] at hvl
  have hxb:=hl.bytes x (by rw [← hoo]; exact List.getElem_mem hlt)
  rw [hoo] at hs
  have hv:=viewX.eq_1 of tenant x
  generalize viewX of tenant x = v at *
  clear h
  refine S ?_
  refine ⟨E,by omega,hj0,?_⟩
  rw [e1]
  refine T ?_
  refine ⟨fun h1=>?_,fun h1=>?_⟩
  ·have h1:=of_decide_eq_true h1
   refine T ?_
   refine ⟨fun h2=>?_,fun h2=>?_⟩
   ·have h2:=of_decide_eq_true h2
    have hk:x.port.toNat < of.length:=by omega
    rw [C2 (by omega),Bool.true_and,An hk] at hv
    refine T ?_
    refine ⟨fun h3=>?_,fun h3=>?_⟩
    ·rw [if_pos (decide_eq_true (by simpa using h3))] at hv
     subst hv
     refine T ?_
     refine C (Eu x.bytes (by omega)) F63 ?_
     refine Xd (Al Γ.toTy 43 rfl rfl rfl rfl rfl (.row rfl) (.lit (e:=A3) (l:=[⟨x.port,0,x.bytes⟩]) rfl rfl) (fun j hj=>by cases hj; decide) (by simp; omega) (by simp; omega)) ?_
     refine Aq [(1000,43)] hlt ⟨⟨E,E,E,E,E,E,E,E,E,E,E,E,Y⟩,⟨.inl (congrArg (Ob.row 3 A3) hs),E,Y⟩,E,E⟩
    ·rw [if_neg (by simpa using h3),] at hv
     subst hv
     rw [List.append_nil] at hs
     refine T ?_
     refine Aq [] hlt ⟨⟨E,E,E,E,E,E,E,E,E,E,E,E,Y⟩,⟨.inl (congrArg (Ob.row 3 A3) hs),E,Y⟩,E,E⟩
   ·rw [B6 (by have:=of_decide_eq_false h2; omega),Bool.false_and,if_neg (by simp)] at hv
    subst hv
    rw [List.append_nil] at hs
    refine T ?_
    refine Aq [] hlt ⟨⟨E,E,E,E,E,E,E,E,E,E,E,E,Y⟩,⟨.inl (congrArg (Ob.row 3 A3) hs),E,Y⟩,E,E⟩
  ·rw [B6 (by have:=of_decide_eq_false h1; omega),Bool.false_and,if_neg (by simp)] at hv
   subst hv
   rw [List.append_nil] at hs
   refine T ?_
   refine Aq [] hlt ⟨⟨E,E,E,E,E,E,E,E,E,E,E,E,Y⟩,⟨.inl (congrArg (Ob.row 3 A3) hs),E,Y⟩,E,E⟩
 ·have hjj:j = l.length:=by have:=of_decide_eq_false h; omega
  subst hjj
  rw [List.take_length]
  refine T ?_
  refine Ar 1000 E ?_
  exact D
theorem Ag0 (l:List SeenM) (hl:SeensOK l) (of:List Int) (tenant:Int) :
  Sy.Spec Tryz.prog 25 [.sl 3 A3 l,.sl 1 Aa of,Aa tenant] [] (.sl 3 A3 (J1 l of tenant)) []:=Ab Γ hm 100 F25 Tryz.ntmps25 rfl fun F hF=>by
 have hlen:=hl.few
 refine T ?_
 refine B7 7 1000 3 A3 E E ?_
 refine A0 l.length (fun j=>[(0,.sl 3 A3 l),(1,.sl 1 Aa of),(2,Aa tenant),(7,.osl 1000),(8,Aa j)]) (fun j=>[(1000,.row 3 A3 (J1 (l.take j) of tenant))]) [] U ?_
 intro j hj
 refine T ?_
 refine ⟨fun h=>?_,fun h=>?_⟩
 ·have hlt:j < l.length:=by have:=of_decide_eq_true h; omega
  have hj0:((j:Nat):Int).toNat < l.length:=by simpa using hlt
  obtain ⟨x,hoo⟩:∃ x,l[j] = x:=⟨_,rfl⟩
  have e1:l[((j:Nat):Int).toNat]'hj0 = x:=hoo
  have hs:=S7 of tenant l j hlt
  have hvl:=O1 of tenant (l.take j)
  rw [List.length_take] at hvl
  rw [hoo] at hs
  have hv:=viewX.eq_1 of tenant x
  generalize viewX of tenant x = v at *
  have q:=Y4 x.port of.length
  clear h
  refine S ?_
  refine ⟨E,by omega,hj0,?_⟩
  rw [e1]
  refine T ?_
  refine C q F35 ?_
  cases hp:Aj x.port of.length
  ·rw [hp,Bool.false_and,if_neg (by simp)] at hv
   subst hv
   rw [List.append_nil] at hs
   refine T ?_
   refine Aq [] hlt ⟨⟨E,E,E,E,E,E,E,E,E,E,Y⟩,⟨.inl (congrArg (Ob.row 3 A3) hs),E,Y⟩,E,E⟩
  ·have hpi:=Bl hp
   have hk:x.port.toNat < of.length:=by omega
   rw [hp,Bool.true_and,An hk] at hv
   refine S ?_
   refine ⟨E,by omega,hj0,?_⟩
   rw [e1]
   refine T ?_
   refine ⟨fun h3=>?_,fun h3=>?_⟩
   ·rw [if_pos (decide_eq_true (by simpa using h3))] at hv
    subst hv
    refine T ?_
    rw [← e1] at hs
    refine Xd (Al Γ.toTy 48 rfl rfl rfl rfl rfl (.row rfl) (.lit (e:=A3) (l:=[⟨(l[((j:Nat):Int).toNat]'hj0).port,0,(l[((j:Nat):Int).toNat]'hj0).bytes⟩]) rfl rfl) (fun j hj=>by cases hj; decide) (by simp; omega) (by simp; omega)) ?_
    refine Aq [(1000,48)] hlt ⟨⟨E,E,E,E,E,E,E,E,E,E,Y⟩,⟨.inl (congrArg (Ob.row 3 A3) hs),E,Y⟩,E,E⟩
   ·rw [if_neg (by simpa using h3)] at hv
    subst hv
    rw [List.append_nil] at hs
    refine T ?_
    refine Aq [] hlt ⟨⟨E,E,E,E,E,E,E,E,E,E,Y⟩,⟨.inl (congrArg (Ob.row 3 A3) hs),E,Y⟩,E,E⟩
 ·have hjj:j = l.length:=by have:=of_decide_eq_false h; omega
  subst hjj
  rw [List.take_length]
  refine T ?_
  refine Ar 1000 E ?_
  exact D
def stepsW34:List StepM:=[⟨1,0,0,0,[],[]⟩,⟨1,1,0,0,[],[]⟩,⟨4,0,0,0,[],[]⟩]
theorem redW34:reduceT netW33 [0,1] [] stepsW34 1 = ([⟨1,1,0,0,[],[]⟩,⟨4,0,0,0,[],[]⟩],0):=by kernel_rfl
theorem Aji:reduceT netW33 [] [] [] 1 = ([],2):=by kernel_rfl
theorem Ai6:J1 [⟨0,3,[]⟩,⟨1,3,[]⟩] [0,1] 1 = [⟨1,0,[]⟩]:=by kernel_rfl
theorem scriptW34:ScriptOK stepsW34 ∧ ∀ x ∈ stepsW34,x.up.length < 100000:=by
 refine ⟨⟨by decide,fun x hx=>?_⟩,fun x hx=>?_⟩
 all_goals
  simp only [stepsW34,List.mem_cons,List.not_mem_nil,or_false] at hx
  rcases hx with rfl | rfl | rfl <;> decide
theorem Yp:TabsOK []:=⟨by decide,fun t h=>(by cases h),fun t h=>(by cases h)⟩
theorem script_nil:ScriptOK [] ∧ ∀ x ∈ ([]:List StepM),x.up.length < 100000:=⟨⟨by decide,fun x h=>(by cases h)⟩,fun x h=>(by cases h)⟩
theorem Agq:SeensOK [⟨0,3,[]⟩,⟨1,3,[]⟩]:=by
 refine ⟨by decide,fun x hx=>?_⟩
 simp only [List.mem_cons,List.not_mem_nil,or_false] at hx
 rcases hx with rfl | rfl <;> decide
theorem Mn:Sy.Spec Tryz.prog 23 [] [] (Ad true) []:=Ab Γ hm 100 F23 Tryz.ntmps23 rfl fun F hF=>by
 have q1:=Ms netW33 Ah8 Ahd [0,1] [] Yp stepsW34 scriptW34.1 scriptW34.2 1
 have q2:=Ms netW33 Ah8 Ahd [] [] Yp [] script_nil.1 script_nil.2 1
 have q3:=Te [⟨0,3,[]⟩,⟨1,3,[]⟩] Agq [0,1] 1
 rw [redW34] at q1
 rw [Aji] at q2
 rw [Ai6] at q3
 have q1:=q1.view (A':=[At netW33,.sl 1 Aa [0,1],.val (.slice none 0 0),.sl 6 Ei stepsW34,Aa 1]) fun κ w=>H7 (fun _ h=>h) (H7 (fun _ h=>h) (H7 (fun _=>Lc) (fun _ h=>h)))
 have q2:=q2.view (A':=[At netW33,.val (.slice none 0 0),.val (.slice none 0 0),.val (.slice none 0 0),Aa 1]) fun κ w=>H7 (fun _ h=>h) (H7 (fun _=>Lc) (H7 (fun _=>Lc) (H7 (fun _=>Lc) (fun _ h=>h))))
 refine T ?_
 refine Ea 8 Bj netW33.devices E E ?_
 refine Ar 8 E ?_
 refine Qp 11 (netW33.ports.map Ba) E (.cons (.agg (.cons (.refl _) (.cons (.refl _) (.cons (.refl _) (.cons (.refl _) (.cons (.refl _) (.cons (.refl _) (.cons .nil .nil)))))))) (.cons (.agg (.cons (.refl _) (.cons (.refl _) (.cons (.refl _) (.cons (.refl _) (.cons (.refl _) (.cons (.refl _) (.cons .nil .nil)))))))) .nil)) E ?_
 refine Ea 11 Ba netW33.ports E E ?_
 refine Ar 11 E ?_
 refine Qp 13 (netW33.domains.map Av) E (.cons (.agg (.cons (.refl _) (.cons (.refl _) (.cons (.refl _) (.cons (.refl _) (.cons (.refl _) (.cons .nil .nil))))))) .nil) E ?_
 refine Ea 13 Av netW33.domains E E ?_
 refine Ar 13 E ?_
 refine A1 1 (Abs netW33) E (.cons (.refl _) (.cons (.refl _) (.cons .nil (.cons (.refl _) (.cons .nil (.cons .nil (.cons .nil (.cons .nil .nil)))))))) ?_
 refine Ea 17 Aa [0,1] E E ?_
 refine Ar 17 E ?_
 refine Qp 21 (stepsW34.map Ei) E (.cons (.agg (.cons (.refl _) (.cons (.refl _) (.cons (.refl _) (.cons (.refl _) (.cons .nil (.cons .nil .nil))))))) (.cons (.agg (.cons (.refl _) (.cons (.refl _) (.cons (.refl _) (.cons (.refl _) (.cons .nil (.cons .nil .nil))))))) (.cons (.agg (.cons (.refl _) (.cons (.refl _) (.cons (.refl _) (.cons (.refl _) (.cons .nil (.cons .nil .nil))))))) .nil))) E ?_
 refine Ea 21 Ei stepsW34 E E ?_
 refine Ar 21 E ?_
 refine G_vw 16 (At netW33) (.agg (.cons (.refl _) (.cons (.refl _) (.cons .nil (.cons (.refl _) (.cons .nil (.cons .nil (.cons .nil (.cons .nil .nil))))))))) ?_
 refine C q1 F27 ?_
 refine C q2 F27 ?_
 refine Qp 32 ([⟨0,3,[]⟩,⟨1,3,[]⟩].map A3) E (.cons (.agg (.cons (.refl _) (.cons (.refl _) (.cons .nil .nil)))) (.cons (.agg (.cons (.refl _) (.cons (.refl _) (.cons .nil .nil)))) .nil)) E ?_
 refine Ea 32 A3 [⟨0,3,[]⟩,⟨1,3,[]⟩] E E ?_
 refine Ar 32 E ?_
 refine Ea 33 Aa [0,1] E E ?_
 refine Ar 33 E ?_
 refine C q3 F24 ?_
 exact D
theorem Yr (l:List SeenM) (of:List Int) (tenant:Int):Sy.Spec Tryz.prog 6 [.sl 3 A3 l,.sl 1 Aa of,Aa tenant] [] (Ad true) []:=Ab Γ hm 100 F6 Tryz.ntmps6 rfl fun F hF=>by
 refine T ?_
 refine ⟨fun h=>?_,fun h=>?_⟩
 ·refine T ?_
  refine C Mn F23 ?_
  exact D
 refine T ?_
 refine ⟨fun h=>?_,fun h=>?_⟩
 ·refine T ?_
  refine C Mn F23 ?_
  exact D
 have hlen:=of_decide_eq_false h
 refine T ?_
 refine Bq l.length (fun j=>H6 (fun _ (x:SeenM)=>decide (x.bytes.length ≤ 2000)) l j) (fun j=>[(0,.sl 3 A3 l),(1,.sl 1 Aa of),(2,Aa tenant),(7,Aa j)]) (fun _=>[]) [] (Bs _ _) U ?_
 intro j hj hI
 refine T ?_
 refine ⟨fun h=>?_,fun h=>?_⟩
 ·have hlt:j < l.length:=by have:=of_decide_eq_true h; omega
  have hj0:((j:Nat):Int).toNat < l.length:=by simpa using hlt
  have hnx:=fun h=>Br (p:=fun _ (x:SeenM)=>decide (x.bytes.length ≤ 2000)) hI hlt h
  obtain ⟨x,hx⟩:∃ x,l[((j:Nat):Int).toNat]'hj0 = x:=⟨_,rfl⟩
  have hx':l[j] = x:=hx
  rw [hx'] at hnx
  refine S ?_
  refine ⟨E,by omega,hj0,?_⟩
  rw [hx]
  refine T ?_
  refine ⟨fun h=>?_,fun h=>?_⟩
  ·refine T ?_
   refine C Mn F23 ?_
   exact D
  ·have hn:=hnx (decide_eq_true (by have:=of_decide_eq_false h; omega))
   refine T ?_
   refine Bk [] hI hlt hn ?_
   exact U
 ·have hjj:j = l.length:=by have:=of_decide_eq_false h; omega
  subst hjj
  have hok:SeensOK l:=⟨by omega,fun x hx=>by
   obtain ⟨i,hi,rfl⟩:=List.getElem_of_mem hx
   exact of_decide_eq_true (hI i hi hi)⟩
  have hvl:=O1 of tenant l
  have q3:=Abe (J1 l of tenant) (by omega)
  refine T ?_
  refine C (Te l hok of tenant) F24 ?_
  refine C (Ag0 l hok of tenant) F25 ?_
  refine C q3 F16 ?_
  refine C Mn F23 ?_
  exact D
end Go.Sy.YtmelpejjondedaaGreat
namespace Go.Proofs.YtmelpejjondedaaGreat
open Go.ChangeShapes Go.WideShapes Go.ChangeAt Go.RowKit
set_option maxRecDepth 100000
theorem L6:Tryz.checked.prog.inPlace 6 = Rows.splitViewsRow.inPlace:=by kernel_rfl
theorem J0:Tryz.checked.prog.unfollowed 6 = Rows.splitViewsRow.unfollowed:=by kernel_rfl
theorem Le:Tryz.checked.prog.recurses 6 = Rows.splitViewsRow.recurses:=by kernel_rfl
theorem O7:Tryz.checked.prog.varsNamed 6 = Rows.splitViewsRow.named:=by kernel_rfl
theorem So:Tryz.checked.prog.liftsFinal = Rows.splitViewsRow.lifted:=by kernel_rfl
theorem L5:laidOutB Tryz.checked.prog = true:=by kernel_rfl
theorem Qa:Tryz.checked.prog.mayEnter = true:=by kernel_rfl
theorem O8:Tryz.checked.prog.stopsHeard = true:=by kernel_rfl
theorem O9:joinedFacts Tryz.checked.prog 6 Tryz.f6 Rows.splitViewsSpec Rows.splitViewsRow = true:=by
 unfold joinedFacts
 rw [L6,J0,Le,O7,So,L5,Qa,O8]
 kernel_rfl
end Go.Proofs.YtmelpejjondedaaGreat
