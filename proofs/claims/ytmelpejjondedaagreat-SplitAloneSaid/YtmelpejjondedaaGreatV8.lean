/-
  Z12 Z13 Z14 Z15 Z16 Z17 K45 Sy39 Y1 Y2 T18 T20 T22 T23 T24 T26 T27 T28 T29 T30 T31 Y3 Y4 Y5 X2 Sy23 O1 Y6 Y8 O4 Y9 G1 G2 G3 S0 G4 G5 G6 G7 G8 G9 G10 G11 G12 J23: parts of a proof, joined by program.
-/
import Derived.Test.YtmelpejjondedaaGreatV7
import Derived.Test.YtmelpejjondedaaGreatV6
import Derived.Test.YtmelpejjondedaaGreatV2
import Derived.Test.YtmelpejjondedaaGreatV5
import Derived.Test.YtmelpejjondedaaGreatV3
import Derived.Test.YtmelpejjondedaaGreatV4
import Derived.Test.YtmelpejjondedaaGreatRows
import Derived.ProofKit
namespace Go.Sy.YtmelpejjondedaaGreat
open Go.Proofs
attribute [local irreducible] Go.Sy.G Go.Sy.DR
set_option maxRecDepth 100000
set_option maxHeartbeats 4000000
theorem Z4 {n:Net} {m:MacM} {J D:Int} (h:MacOK n m J D) (hD:0 ≤ D) (dom:Int) {r:List EntryM × List OutM × Int} (hr:TabOK r.1):MacOK n (I9 m dom r) J (D + 1):=by
 unfold I9
 split
 ·exact K6 h hD 2
 split
 ·exact K6 (Xs h dom hr) hD _
 ·exact (Xs h dom hr).mono (Int.le_refl _) (by omega)
def queL (q:QueuedM):List SV:=[Aa q.from_,Aa q.peer,Aa q.origin,A7 q.frame.dst,A7 q.frame.src,Aa q.frame.typ,.sl 1 Al q.frame.body]
def Aif (n:Net) (m:MacM) (q:QueuedM) (l:List SeenM):Obs:=[(0,.box (Oa n 1 m.now m.injected m.drops)),(1,.box (Io n m.up true)),(2,.row 1 Ej m.tables),(3,.row 1 Oj m.queues),(7,.box (queL q)),(1000,.row 3 Bp l)]
theorem Ahv (n:Net) (hn:n.Fin) (hm1:n.Num) (m:MacM) (d:Bool) (J D:Int) (hm0:MacOK n m J D) (hD0:0 ≤ D) (hD:D ≤ 900000000000) (dom at_:Int) :
  Sy.Spec Tryz.prog 52 [.ptr 0 0,Aa dom,Aa at_] (B6 n m d) (.sl 3 Bp (pickT n m dom at_).2) (B6 n (pickT n m dom at_).1 (if (takeM m dom at_).2.2 then true else d)):=Ab Γ hm 100 F52 Tryz.ntmps52 rfl fun F hF=>by
 have hres:=pickT.eq_1 n m dom at_
 generalize pickT n m dom at_ = res at *
 have q1:=Zm n m d dom at_ (Dw hm0 dom)
 have hok:=Tu hm0 dom at_
 have hpl:(takeM m dom at_).2.2 = true → 0 ≤ dom ∧ dom.toNat < m.queues.length:=fun h=>by
  unfold takeM at h
  split at h
  ·cases h
  ·rename_i h2
   exact placeB_iff.1 (by cases hx:Aj dom m.queues.length; exact absurd hx h2; rfl)
 have htl:(takeM m dom at_).1.tables = m.tables:=by unfold takeM; split <;> rfl
 generalize takeM m dom at_ = r at *
 obtain ⟨m1,q,ok⟩:=r
 have htq:m.queues.length = m.tables.length:=by rw [hm0.ques,hm0.tabs]
 conv=>whnf
 refine Ai (Ah [] E F53 q1 E ⟨E,E,E,E,Y⟩ E ⟨.inl E,.inl E,.inl E,.inl E,Y⟩) E E ?_
 refine rg ?_;conv=>whnf
 cases ok
 ·rw [if_pos rfl] at hres
  subst hres
  (refine ⟨fun _=>?_,fun h=>False.elim (by simp at h)⟩;refine rg ?_;conv=>whnf)
  refine Ao 6 3 Bp E ?_
  exact done E (.cons .tmp .nil) [] (B6 n m1 d) (fun _ h=>h) E E ⟨Y,⟨.inl E,E,.inl E,E,.inl E,E,.inl E,E,Y⟩,E,E⟩
 rw [if_neg (by simp)] at hres
 have hd:=hpl rfl
 have hd2:0 ≤ dom ∧ dom.toNat < m1.tables.length:=by rw [htl,← htq]; exact hd
 dsimp only at hres hok
 have q2:=Afh n hn m1.up d
 have q3:=Abi n hn hm1 (I2 n m1.up) (tableL m1 dom) dom q m1.now (Qm hok.1 dom) hok.2
 have hb1:=S0 (n:=n) (fw:=I2 n m1.up) (dom:=dom) (now:=m1.now) (Qm hok.1 dom) hok.2
 have hb2:=S1 (fw:=I2 n m1.up) (t:=tableL m1 dom) (dom:=dom) (now:=m1.now) hn hm1 hok.2
 have hb3:=K8 hn (I2 n m1.up) (tableL m1 dom) dom q m1.now
 have hb4:=Abh n (I2 n m1.up) (tableL m1 dom) dom q m1.now
 rw [L9] at hres
 have hz:=Z4 hok.1 hD0 dom hb1
 generalize bridgeT n (I2 n m1.up) (tableL m1 dom) dom q m1.now = b at *
 obtain ⟨t,out,e⟩:=b
 have hb2:∀ o ∈ out,OutOK n o:=hb2
 have hb3:out.length < 4294967296:=hb3
 have hb4:Bd e:=hb4
 have ht0:=tableL.eq_1 m1 dom
 rw [O5 hd2.2] at ht0
 generalize tableL m1 dom = t0 at *
 subst ht0
 (refine ⟨fun h=>False.elim (by simp at h),fun _=>?_⟩;refine rg ?_;conv=>whnf)
 refine Bu (Ah [] E F103 q2 E ⟨E,Y⟩ E ⟨.inl E,Y⟩) (by kernel_rfl) E ?_
 refine rd (by kernel_rfl) ?_;conv=>whnf
 refine ⟨hd2.1,hd2.2,?_⟩
 conv=>whnf
 refine ⟨E,hd2.2,?_⟩
 conv=>whnf
 refine Ay q3 F102 E E E (by kernel_rfl) E ?_
 refine rd (by kernel_rfl) ?_;conv=>whnf
 refine ⟨(by kernel_rfl),?_⟩
 conv=>whnf
 refine ⟨fun h=>?_,fun h=>?_⟩
 ·have h2:¬ e = 2:=by simpa using h
  clear h
  refine rg ?_;conv=>whnf
  refine ⟨hd2.1,hd2.2,?_⟩
  conv=>whnf
  refine ⟨E,hd2.2,t,E,E,?_⟩
  conv=>whnf
  refine ⟨fun h=>?_,fun h=>?_⟩
  ·have h3:¬ e = 0:=by simpa using h
   clear h
   have hpd:I9 m1 dom (t,out,e) = B0 (Dq m1 dom t) e:=by
    unfold I9
    rw [if_neg h2,if_pos h3]
   rw [hpd] at hres hz
   subst hres
   have q4:=Aa8 n (Dq m1 dom t) true e hb4.1 hb4.2 ⟨(hok.1.drp _).1,by have:=(hok.1.drp e.toNat).2; show m1.drops e.toNat ≤ 1000000000000; omega⟩
   refine rg ?_;conv=>whnf
   refine Ai (Ah [] E F104 q4 E ⟨E,E,E,E,Y⟩ E ⟨.inl E,.inl E,.inl E,.inl E,Y⟩) E E ?_
   refine rg ?_;conv=>whnf
   have hdr:Lv (B0 (Dq m1 dom t) e):=fun i=>⟨(hz.drp i).1,by have:=(hz.drp i).2; omega⟩
   refine B5 12 1000 3 Bp E E ?_
   refine A0 out.length (fun j=>[(0,.ptr 0 0),(7,.ptr 7 0),(12,.osl 1000),(69,.sl 9 De out),(70,Aa out.length),(71,Aa j)]) (fun j=>Aif n (Be n (B0 (Dq m1 dom t) e) q.origin (out.take j)).1 q (Be n (B0 (Dq m1 dom t) e) q.origin (out.take j)).2) [] ⟨⟨E,E,E,E,E,E,E,E,E,E,E,E,Y⟩,⟨.inl E,E,.inl E,E,.inl E,E,.inl E,E,.inl E,E,.inl E,E,Y⟩,E,E⟩ ?_
   intro j hj
   refine rg ?_;conv=>whnf
   refine ⟨fun h=>?_,fun h=>?_⟩
   ·have hlt:j < out.length:=by have:=of_decide_eq_true h; omega
    have hj0:((j:Nat):Int).toNat < out.length:=by simpa using hlt
    obtain ⟨o,hoo⟩:∃ o,out[j] = o:=⟨_,rfl⟩
    have e1:out[((j:Nat):Int).toNat]'hj0 = o:=hoo
    have hs:=Mx n (B0 (Dq m1 dom t) e) q.origin out j hlt
    rw [hoo] at hs
    have hjo:=K3 hn q.origin (out.take j) hz (by omega) (fun x hx=>hb2 x (List.mem_of_mem_take hx))
    have hlen:(out.take j).length = j:=by rw [List.length_take]; omega
    rw [hlen] at hjo
    have hsl:=Jf n q.origin (out.take j) (B0 (Dq m1 dom t) e)
    rw [hlen] at hsl
    have q5:=Tx n hn (Be n (B0 (Dq m1 dom t) e) q.origin (out.take j)).1 true J _ hjo (by omega) o (hb2 o (by rw [← hoo]; exact List.getElem_mem hlt)) q.origin
    have hfw:=Lo n (Be n (B0 (Dq m1 dom t) e) q.origin (out.take j)).1 o q.origin
    clear h
    refine rg ?_;conv=>whnf
    refine ⟨E,by omega,hj0,?_⟩
    rw [e1]
    conv=>whnf
    refine Ai (Ah [] E F105 q5 E ⟨E,E,E,E,Y⟩ E ⟨.inl E,.inl E,.inl E,.inl E,Y⟩) E E ?_
    refine rg ?_;conv=>whnf
    refine Ai (Ak Γ.toTy 81 E E E E E (.row E) .sl (by simp) (by omega) (by omega)) E E ?_
    refine rg ?_;conv=>whnf
    refine ⟨by unfold I64; omega,?_⟩
    conv=>whnf
    have g1:(Be n (B0 (Dq m1 dom t) e) q.origin (out.take (j + 1))).1 = (goesM n (Be n (B0 (Dq m1 dom t) e) q.origin (out.take j)).1 o q.origin).1:=by rw [hs]
    have g2:(Be n (B0 (Dq m1 dom t) e) q.origin (out.take (j + 1))).2 = (Be n (B0 (Dq m1 dom t) e) q.origin (out.take j)).2 ++ (goesM n (Be n (B0 (Dq m1 dom t) e) q.origin (out.take j)).1 o q.origin).2:=by rw [hs]
    refine Ar [(1000,81)] hlt ⟨⟨E,E,E,E,E,E,E,E,E,E,E,E,Y⟩,?_,E,E⟩
    dsimp only
    rw [g1,g2]
    exact ⟨.inl E,E,.inl E,E,.inl E,E,.inl E,E,.inl E,E,.inl E,E,Y⟩
   ·have hjj:j = out.length:=by have:=of_decide_eq_false h; omega
    subst hjj
    rw [List.take_length]
    clear h
    refine rg ?_;conv=>whnf
    refine At 1000 E ?_
    exact done E (.cons .tmp .nil) [] (B6 n (Be n (B0 (Dq m1 dom t) e) q.origin out).1 true) (fun _ h=>h) E E ⟨Y,⟨.inl E,E,.inl E,E,.inl E,E,.inl E,E,Y⟩,E,E⟩
  ·have h3:e = 0:=by simpa using h
   clear h
   have hpd:I9 m1 dom (t,out,e) = Dq m1 dom t:=by
    unfold I9
    rw [if_neg h2,if_neg (fun h=>h h3)]
   rw [hpd] at hres hz
   subst hres
   refine rg ?_;conv=>whnf
   have hdr:Lv (Dq m1 dom t):=fun i=>⟨(hz.drp i).1,by have:=(hz.drp i).2; omega⟩
   refine B5 12 1000 3 Bp E E ?_
   refine A0 out.length (fun j=>[(0,.ptr 0 0),(7,.ptr 7 0),(12,.osl 1000),(69,.sl 9 De out),(70,Aa out.length),(71,Aa j)]) (fun j=>Aif n (Be n (Dq m1 dom t) q.origin (out.take j)).1 q (Be n (Dq m1 dom t) q.origin (out.take j)).2) [] ⟨⟨E,E,E,E,E,E,E,E,E,E,E,E,Y⟩,⟨.inl E,E,.inl E,E,.inl E,E,.inl E,E,.inl E,E,.inl E,E,Y⟩,E,E⟩ ?_
   intro j hj
   refine rg ?_;conv=>whnf
   refine ⟨fun h=>?_,fun h=>?_⟩
   ·have hlt:j < out.length:=by have:=of_decide_eq_true h; omega
    have hj0:((j:Nat):Int).toNat < out.length:=by simpa using hlt
    obtain ⟨o,hoo⟩:∃ o,out[j] = o:=⟨_,rfl⟩
    have e1:out[((j:Nat):Int).toNat]'hj0 = o:=hoo
    have hs:=Mx n (Dq m1 dom t) q.origin out j hlt
    rw [hoo] at hs
    have hjo:=K3 hn q.origin (out.take j) hz (by omega) (fun x hx=>hb2 x (List.mem_of_mem_take hx))
    have hlen:(out.take j).length = j:=by rw [List.length_take]; omega
    rw [hlen] at hjo
    have hsl:=Jf n q.origin (out.take j) (Dq m1 dom t)
    rw [hlen] at hsl
    have q5:=Tx n hn (Be n (Dq m1 dom t) q.origin (out.take j)).1 true J _ hjo (by omega) o (hb2 o (by rw [← hoo]; exact List.getElem_mem hlt)) q.origin
    have hfw:=Lo n (Be n (Dq m1 dom t) q.origin (out.take j)).1 o q.origin
    clear h
    refine rg ?_;conv=>whnf
    refine ⟨E,by omega,hj0,?_⟩
    rw [e1]
    conv=>whnf
    refine Ai (Ah [] E F105 q5 E ⟨E,E,E,E,Y⟩ E ⟨.inl E,.inl E,.inl E,.inl E,Y⟩) E E ?_
    refine rg ?_;conv=>whnf
    refine Ai (Ak Γ.toTy 81 E E E E E (.row E) .sl (by simp) (by omega) (by omega)) E E ?_
    refine rg ?_;conv=>whnf
    refine ⟨by unfold I64; omega,?_⟩
    conv=>whnf
    have g1:(Be n (Dq m1 dom t) q.origin (out.take (j + 1))).1 = (goesM n (Be n (Dq m1 dom t) q.origin (out.take j)).1 o q.origin).1:=by rw [hs]
    have g2:(Be n (Dq m1 dom t) q.origin (out.take (j + 1))).2 = (Be n (Dq m1 dom t) q.origin (out.take j)).2 ++ (goesM n (Be n (Dq m1 dom t) q.origin (out.take j)).1 o q.origin).2:=by rw [hs]
    refine Ar [(1000,81)] hlt ⟨⟨E,E,E,E,E,E,E,E,E,E,E,E,Y⟩,?_,E,E⟩
    dsimp only
    rw [g1,g2]
    exact ⟨.inl E,E,.inl E,E,.inl E,E,.inl E,E,.inl E,E,.inl E,E,Y⟩
   ·have hjj:j = out.length:=by have:=of_decide_eq_false h; omega
    subst hjj
    rw [List.take_length]
    clear h
    refine rg ?_;conv=>whnf
    refine At 1000 E ?_
    exact done E (.cons .tmp .nil) [] (B6 n (Be n (Dq m1 dom t) q.origin out).1 true) (fun _ h=>h) E E ⟨Y,⟨.inl E,E,.inl E,E,.inl E,E,.inl E,E,Y⟩,E,E⟩
 ·have h2:e = 2:=by simpa using h
  clear h
  subst h2
  have hpd:I9 m1 dom (t,out,2) = B0 m1 2:=by
   unfold I9
   rw [if_pos rfl]
  rw [hpd] at hres hz
  subst hres
  have q4:=Aa8 n m1 true 2 (by decide) (by decide) ⟨(hok.1.drp _).1,by have:=(hok.1.drp (Int.toNat 2)).2; omega⟩
  (refine rg ?_;(conv=>whnf);refine aT ?_;refine rg ?_;conv=>whnf)
  refine Ai (Ah [] E F104 q4 E ⟨E,E,E,E,Y⟩ E ⟨.inl E,.inl E,.inl E,.inl E,Y⟩) E E ?_
  refine rg ?_;conv=>whnf
  have hdr:Lv (B0 m1 2):=fun i=>⟨(hz.drp i).1,by have:=(hz.drp i).2; omega⟩
  refine B5 12 1000 3 Bp E E ?_
  refine A0 out.length (fun j=>[(0,.ptr 0 0),(7,.ptr 7 0),(12,.osl 1000),(69,.sl 9 De out),(70,Aa out.length),(71,Aa j)]) (fun j=>Aif n (Be n (B0 m1 2) q.origin (out.take j)).1 q (Be n (B0 m1 2) q.origin (out.take j)).2) [] ⟨⟨E,E,E,E,E,E,E,E,E,E,E,E,Y⟩,⟨.inl E,E,.inl E,E,.inl E,E,.inl E,E,.inl E,E,.inl E,E,Y⟩,E,E⟩ ?_
  intro j hj
  refine rg ?_;conv=>whnf
  refine ⟨fun h=>?_,fun h=>?_⟩
  ·have hlt:j < out.length:=by have:=of_decide_eq_true h; omega
   have hj0:((j:Nat):Int).toNat < out.length:=by simpa using hlt
   obtain ⟨o,hoo⟩:∃ o,out[j] = o:=⟨_,rfl⟩
   have e1:out[((j:Nat):Int).toNat]'hj0 = o:=hoo
   have hs:=Mx n (B0 m1 2) q.origin out j hlt
   rw [hoo] at hs
   have hjo:=K3 hn q.origin (out.take j) hz (by omega) (fun x hx=>hb2 x (List.mem_of_mem_take hx))
   have hlen:(out.take j).length = j:=by rw [List.length_take]; omega
   rw [hlen] at hjo
   have hsl:=Jf n q.origin (out.take j) (B0 m1 2)
   rw [hlen] at hsl
   have q5:=Tx n hn (Be n (B0 m1 2) q.origin (out.take j)).1 true J _ hjo (by omega) o (hb2 o (by rw [← hoo]; exact List.getElem_mem hlt)) q.origin
   have hfw:=Lo n (Be n (B0 m1 2) q.origin (out.take j)).1 o q.origin
   clear h
   refine rg ?_;conv=>whnf
   refine ⟨E,by omega,hj0,?_⟩
   rw [e1]
   conv=>whnf
   refine Ai (Ah [] E F105 q5 E ⟨E,E,E,E,Y⟩ E ⟨.inl E,.inl E,.inl E,.inl E,Y⟩) E E ?_
   refine rg ?_;conv=>whnf
   refine Ai (Ak Γ.toTy 81 E E E E E (.row E) .sl (by simp) (by omega) (by omega)) E E ?_
   refine rg ?_;conv=>whnf
   refine ⟨by unfold I64; omega,?_⟩
   conv=>whnf
   have g1:(Be n (B0 m1 2) q.origin (out.take (j + 1))).1 = (goesM n (Be n (B0 m1 2) q.origin (out.take j)).1 o q.origin).1:=by rw [hs]
   have g2:(Be n (B0 m1 2) q.origin (out.take (j + 1))).2 = (Be n (B0 m1 2) q.origin (out.take j)).2 ++ (goesM n (Be n (B0 m1 2) q.origin (out.take j)).1 o q.origin).2:=by rw [hs]
   refine Ar [(1000,81)] hlt ⟨⟨E,E,E,E,E,E,E,E,E,E,E,E,Y⟩,?_,E,E⟩
   dsimp only
   rw [g1,g2]
   exact ⟨.inl E,E,.inl E,E,.inl E,E,.inl E,E,.inl E,E,.inl E,E,Y⟩
  ·have hjj:j = out.length:=by have:=of_decide_eq_false h; omega
   subst hjj
   rw [List.take_length]
   clear h
   refine rg ?_;conv=>whnf
   refine At 1000 E ?_
   exact done E (.cons .tmp .nil) [] (B6 n (Be n (B0 m1 2) q.origin out).1 true) (fun _ h=>h) E E ⟨Y,⟨.inl E,E,.inl E,E,.inl E,E,.inl E,E,Y⟩,E,E⟩
theorem Ae7 (l:List (List EntryM)) (now:Int) (j:Nat) (hj:j < l.length) :
  ((l.take j).map (fun t=>ageT t now) ++ l.drop j).set j (ageT l[j] now) = (l.take (j + 1)).map (fun t=>ageT t now) ++ l.drop (j + 1):=by
 apply List.ext_getElem
 ·simp only [List.length_set,List.length_append,List.length_map,List.length_take,List.length_drop]; omega
 intro i h1 h2
 simp only [List.length_set,List.length_append,List.length_map,List.length_take,List.length_drop] at h1
 rw [List.getElem_set]
 by_cases hi:j = i
 ·subst hi
  rw [if_pos rfl,List.getElem_append_left (by simp; omega)]
  simp
 ·rw [if_neg hi]
  by_cases hlt:i < j
  ·rw [List.getElem_append_left (by simp; omega),List.getElem_append_left (by simp; omega)]
   simp
  ·rw [List.getElem_append_right (by simp; omega),List.getElem_append_right (by simp; omega)]
   simp only [List.getElem_drop,List.length_map,List.length_take]
   congr 1
   omega
theorem W5 {P:Program} {o:Oper} {s:SS} {x y:Operand} {at_:Array TypeId} {k k':IntKind} {m n r:Int} (hr:(if n < m then n else m) = r) (h:o.op = .call ⟨.builtin .min,#[x,y],at_⟩)
  (hx:ev s x = .val (.int k m)) (hy:ev s y = .val (.int k' n)):Good P o s ⟨.val (.int k r),[],[]⟩:=by
 have:=Ajl (P:=P) h hx hy
 rwa [hr] at this
def Ti (l:List (List EntryM)) (now:Int) (j:Nat):List (List EntryM):=(l.take j).map (fun t=>ageT t now) ++ l.drop j
theorem Akf (l:List (List EntryM)) (now:Int) (j:Nat) (hj:j < l.length) (h2:j < (Ti l now j).length):(Ti l now j)[j] = l[j]:=by
 have h:(Ti l now j)[j]? = l[j]?:=by
  unfold Ti
  have hm:min j l.length = j:=by omega
  rw [List.getElem?_append_right (by simp; omega),List.getElem?_drop,List.length_map,List.length_take,hm,Nat.sub_self,Nat.add_zero]
 rw [List.getElem?_eq_getElem hj,List.getElem?_eq_getElem h2] at h
 exact Option.some.inj h
theorem Abq (l:List (List EntryM)) (now:Int) (j:Nat):(Ti l now j).length = l.length:=by
 unfold Ti
 simp only [List.length_append,List.length_map,List.length_take,List.length_drop]
 omega
def tickO (n:Net) (m:MacM) (d:Bool) (now:Int) (j:Nat):Obs:=[(0,.box (Oa n 1 now m.injected m.drops)),(1,.box (Io n m.up d)),(2,.row 1 Ej (Ti m.tables now j)),(3,.row 1 Oj m.queues)]
theorem Ahu (n:Net) (m:MacM) (d:Bool) (J D:Int) (hm0:MacOK n m J D) (hs:Am n.domains) :
  Sy.Spec Tryz.prog 54 [.ptr 0 0] (B6 n m d) (.tup []) (B6 n (L4 m) d):=Ab Γ hm 100 F54 Tryz.ntmps54 rfl fun F hF=>by
 unfold Am at hs
 have hnow:=hm0.now
 have htl:m.tables.length < 2147483648:=by rw [hm0.tabs]; exact hs
 have hto:=hm0.tab
 obtain ⟨nw,hnw⟩:∃ nw,(if 1099511627776 < m.now + 1 then 1099511627776 else m.now + 1) = nw:=⟨_,rfl⟩
 have hti:L4 m = ⟨m.up,Ti m.tables nw m.tables.length,m.queues,nw,m.injected,m.drops⟩:=by
  have:min (m.now + 1) 1099511627776 = nw:=by rw [← hnw]; split <;> omega
  unfold L4 Ti
  rw [this,List.take_length,List.drop_length,List.append_nil]
 rw [hti]
 conv=>whnf
 refine ⟨by unfold I64; omega,?_⟩
 conv=>whnf
 refine Ai (W5 hnw E E E) E E ?_
 refine rg ?_;conv=>whnf
 refine A0 m.tables.length (fun j=>[(0,.ptr 0 0),(16,.osl 2),(17,Aa m.tables.length),(18,Aa j)]) (fun j=>tickO n m d nw j) [] ⟨⟨E,E,E,E,E,E,E,E,Y⟩,⟨.inl E,E,.inl E,E,.inl E,E,.inl E,E,Y⟩,E,E⟩ ?_
 intro j hj
 refine rg ?_;conv=>whnf
 refine ⟨fun h=>?_,fun h=>?_⟩
 ·have hlt:j < m.tables.length:=by have:=of_decide_eq_true h; omega
  have hal:=Abq m.tables nw j
  have hj0:((j:Nat):Int).toNat < (Ti m.tables nw j).length:=by rw [hal]; simpa using hlt
  obtain ⟨t,hoo⟩:∃ t,m.tables[j] = t:=⟨_,rfl⟩
  have e1:(Ti m.tables nw j)[((j:Nat):Int).toNat]'hj0 = t:=(Akf m.tables nw j hlt (by rw [hal]; exact hlt)).trans hoo
  have hs:=Ae7 m.tables nw j hlt
  rw [hoo] at hs
  have ht:=hto t (by rw [← hoo]; exact List.getElem_mem hlt)
  clear h
  refine rg ?_;conv=>whnf
  refine ⟨by omega,hj0,?_⟩
  conv=>whnf
  refine ⟨E,hj0,?_⟩
  rw [e1]
  conv=>whnf
  refine Ay (Akw t nw ht.short ht.mac) F107 E E E (by kernel_rfl) E ?_
  refine rd (by kernel_rfl) ?_;conv=>whnf
  refine ⟨by omega,hj0,?_⟩
  conv=>whnf
  refine ⟨E,hj0,ageT t nw,E,E,?_⟩
  conv=>whnf
  refine ⟨(by kernel_rfl),?_⟩
  conv=>whnf
  refine ⟨by unfold I64; omega,?_⟩
  conv=>whnf
  exact Ar [] hlt ⟨⟨E,E,E,E,E,E,E,E,Y⟩,⟨.inl E,E,.inl E,E,.inl (congrArg (Ob.row 1 Ej) hs.symm),E,.inl E,E,Y⟩,E,E⟩
 ·have hjj:j = m.tables.length:=by have:=of_decide_eq_false h; omega
  subst hjj
  clear h
  refine rg ?_;conv=>whnf
  exact Bi E .nil [] (B6 n ⟨m.up,Ti m.tables nw m.tables.length,m.queues,nw,m.injected,m.drops⟩ d) (fun _ h=>h) E E ⟨Y,⟨.inl E,E,.inl E,E,.inl E,E,.inl E,E,Y⟩,E,E⟩
def Zn (n:Net) (m:MacM) (d:Bool):Obs:=[(0,.box (Oa n 4 m.now m.injected m.drops)),(1,.non),(2,.row 1 Ej m.tables),(3,.row 1 Oj m.queues),(4,.box (Io n m.up d))]
def upT (m:MacM) (up:List Bool):MacM:=⟨up,m.tables,m.queues,m.now,m.injected,m.drops⟩
def doD (n:Net) (m:MacM) (d:Bool) (x:StepM):Bool :=
 if x.kind = 1 then d else if x.kind = 2 then (if (takeM m x.domain x.at_).2.2 then true else d) else if x.kind = 3 then d else if x.kind = 4 then d else if x.kind = 5 then (if x.up.length = n.links.length then false else d) else d
theorem Ah0 (n:Net) (hn:n.Fin) (hm1:n.Num) (m:MacM) (d:Bool) (J D:Int) (hm0:MacOK n m J D) (hJ:J < 900000000000) (hD0:0 ≤ D) (hD:D ≤ 900000000000) (x:StepM) (hb:x.bytes.length < 100000) :
  Sy.Spec Tryz.prog 21 [.ptr 0 0,Bt x] (B6 n m d) (.tup [.sl 3 Bp (doT n m x).2,Aa 0]) (Zn n (doT n m x).1 (doD n m d x)):=Ab Γ hm 100 F21 Tryz.ntmps21 rfl fun F hF=>by
 have hres:=doT.eq_1 n m x
 generalize doT n m x = res at *
 have hdd:=doD.eq_1 n m d x
 generalize doD n m d x = dd at *
 conv=>whnf
 refine Ai (Aaw (d:=900) E E E) E E ?_
 (refine rg ?_;(conv=>whnf);refine aF ?_;refine rg ?_;conv=>whnf)
 refine ⟨fun h=>?_,fun h=>?_⟩
 ·have h1:x.kind = 1:=by simpa using h
  rw [if_pos h1] at hres hdd
  subst hres
  subst hdd
  have q1:=Ab6 n hn m dd J D hm0 (by omega) (by omega) x.port x.bytes hb
  refine rg ?_;conv=>whnf
  refine Ai (Ah [] E F51 q1 E ⟨E,E,E,E,Y⟩ E ⟨.inl E,.inl E,.inl E,.inl E,Y⟩) E E ?_
  refine rg ?_;conv=>whnf
  refine Ao 4 3 Bp E ?_
  refine E7 1 4 E E (by decide) ?_
  exact done E (.cons .tmp (.cons .tmp .nil)) [] (Zn n (injectT n m x.port x.bytes) dd) (fun _ h=>h) E E ⟨Y,⟨.inl E,E,.inl E,E,.inl E,E,.inl E,E,.inl E,E,Y⟩,E,E⟩
 have h1:¬ x.kind = 1:=by simpa using h
 rw [if_neg h1] at hres hdd
 clear h
 refine rg ?_;conv=>whnf
 refine ⟨fun h=>?_,fun h=>?_⟩
 ·have h1:x.kind = 2:=by simpa using h
  rw [if_pos h1] at hres hdd
  subst hres
  have q1:=Ahv n hn hm1 m d J D hm0 hD0 hD x.domain x.at_
  rw [← hdd] at q1
  refine rg ?_;conv=>whnf
  refine Ai (Ah [] E F52 q1 E ⟨E,E,E,E,Y⟩ E ⟨.inl E,.inl E,.inl E,.inl E,Y⟩) E E ?_
  refine rg ?_;conv=>whnf
  refine E7 1 4 E E (by decide) ?_
  exact done E (.cons .tmp (.cons .tmp .nil)) [] (Zn n (pickT n m x.domain x.at_).1 dd) (fun _ h=>h) E E ⟨Y,⟨.inl E,E,.inl E,E,.inl E,E,.inl E,E,.inl E,E,Y⟩,E,E⟩
 have h1:¬ x.kind = 2:=by simpa using h
 rw [if_neg h1] at hres hdd
 clear h
 refine rg ?_;conv=>whnf
 refine ⟨fun h=>?_,fun h=>?_⟩
 ·have h1:x.kind = 3:=by simpa using h
  rw [if_pos h1] at hres hdd
  subst hres
  subst hdd
  have q1:=Zm n m dd x.domain x.at_ (Dw hm0 _)
  refine rg ?_;conv=>whnf
  refine Ai (Ah [] E F53 q1 E ⟨E,E,E,E,Y⟩ E ⟨.inl E,.inl E,.inl E,.inl E,Y⟩) E E ?_
  refine rg ?_;conv=>whnf
  refine Ao 4 3 Bp E ?_
  refine E7 1 4 E E (by decide) ?_
  exact done E (.cons .tmp (.cons .tmp .nil)) [] (Zn n (takeM m x.domain x.at_).1 dd) (fun _ h=>h) E E ⟨Y,⟨.inl E,E,.inl E,E,.inl E,E,.inl E,E,.inl E,E,Y⟩,E,E⟩
 have h1:¬ x.kind = 3:=by simpa using h
 rw [if_neg h1] at hres hdd
 clear h
 refine rg ?_;conv=>whnf
 refine ⟨fun h=>?_,fun h=>?_⟩
 ·have h1:x.kind = 4:=by simpa using h
  rw [if_pos h1] at hres hdd
  subst hres
  subst hdd
  have q1:=Ahu n m dd J D hm0 hn.domains
  refine rg ?_;conv=>whnf
  refine Ai (Ah [] E F54 q1 E ⟨E,E,E,E,Y⟩ E ⟨.inl E,.inl E,.inl E,.inl E,Y⟩) E E ?_
  refine rg ?_;conv=>whnf
  refine Ao 4 3 Bp E ?_
  refine E7 1 4 E E (by decide) ?_
  exact done E (.cons .tmp (.cons .tmp .nil)) [] (Zn n (L4 m) dd) (fun _ h=>h) E E ⟨Y,⟨.inl E,E,.inl E,E,.inl E,E,.inl E,E,.inl E,E,Y⟩,E,E⟩
 have h1:¬ x.kind = 4:=by simpa using h
 rw [if_neg h1] at hres hdd
 clear h
 refine rg ?_;conv=>whnf
 refine ⟨fun h=>?_,fun h=>?_⟩
 ·have h1:x.kind = 5:=by simpa using h
  rw [if_pos h1] at hres hdd
  clear h
  refine rg ?_;conv=>whnf
  refine ⟨(by kernel_rfl),?_⟩
  conv=>whnf
  refine ⟨fun h=>?_,fun h=>?_⟩
  ·have h2:x.up.length = n.links.length:=by have:=of_decide_eq_true h; omega
   rw [if_pos h2] at hres hdd
   subst hres
   subst hdd
   clear h
   have hls:=hn.links
   unfold Am at hls
   refine rg ?_;conv=>whnf
   refine Ag (Vi x.up (by omega)) F55 E E E E E ?_
   refine rg ?_;conv=>whnf
   refine Ao 4 3 Bp E ?_
   refine A1 55 (Io n x.up false) E (.cons (.refl _) (.cons (.refl _) (.cons (.refl _) (.cons (.refl _) (.cons .nil .nil))))) ?_
   exact done E (.cons .tmp (.cons .tmp .nil)) [(4,55)] (Zn n (upT m x.up) false) (fun _ h=>h) E E ⟨Y,⟨.inl E,E,.inr E,E,.inl E,E,.inl E,E,.inl E,E,Y⟩,E,E⟩
  ·have h2:¬ x.up.length = n.links.length:=by have:=of_decide_eq_false h; omega
   rw [if_neg h2] at hres hdd
   subst hres
   subst hdd
   clear h
   refine rg ?_;conv=>whnf
   refine Ao 4 3 Bp E ?_
   refine E7 1 4 E E (by decide) ?_
   exact done E (.cons .tmp (.cons .tmp .nil)) [] (Zn n m dd) (fun _ h=>h) E E ⟨Y,⟨.inl E,E,.inl E,E,.inl E,E,.inl E,E,.inl E,E,Y⟩,E,E⟩
 have h1:¬ x.kind = 5:=by simpa using h
 rw [if_neg h1] at hres hdd
 subst hres
 subst hdd
 clear h
 refine rg ?_;conv=>whnf
 refine Ao 4 3 Bp E ?_
 refine E7 1 4 E E (by decide) ?_
 exact done E (.cons .tmp (.cons .tmp .nil)) [] (Zn n m dd) (fun _ h=>h) E E ⟨Y,⟨.inl E,E,.inl E,E,.inl E,E,.inl E,E,.inl E,E,Y⟩,E,E⟩
theorem Ab5 (n:Net) (hn:n.Fin) (hb:okB n (List.replicate n.links.length true) = false) :
  Sy.Spec Tryz.prog 18 [Aq n] [] (.tup [.val (.pointer none),Aa 2]) []:=Ab Γ hm 100 F18 Tryz.ntmps18 rfl fun F hF=>by
 have hls:=hn.links
 unfold Am at hls
 have q1:=Aed n.links.length (by omega)
 have q2:=U3 n (List.replicate n.links.length true) hn hb
 generalize List.replicate n.links.length true = up at *
 conv=>whnf
 refine Ei 7 Ad [true] E E ?_
 refine At 7 E ?_
 refine rg ?_;conv=>whnf
 refine Ag q1 F43 E E E E E ?_
 refine rg ?_;conv=>whnf
 refine Ag q2 F44 E E E E E ?_
 (refine rg ?_;(conv=>whnf);refine aT ?_;refine rg ?_;conv=>whnf)
 exact Ac E (.cons .tmp (.cons .tmp .nil)) E E
theorem Akz (n:Net) (hn:n.Fin) (hb:okB n (List.replicate n.links.length true) = true) :
  Sy.Spec Tryz.prog 18 [Aq n] [] (.tup [.ptr 0 0,Aa 0]) (B6 n (newT n) false):=Ab Γ hm 100 F18 Tryz.ntmps18 rfl fun F hF=>by
 have hls:=hn.links
 have hds:=hn.domains
 unfold Am at hls hds
 have q1:=Aed n.links.length (by omega)
 have q2:=W6 n (List.replicate n.links.length true) hn hb
 have hnt:=newT.eq_1 n
 generalize newT n = m at *
 generalize List.replicate n.links.length true = up at *
 conv=>whnf
 refine Ei 7 Ad [true] E E ?_
 refine At 7 E ?_
 refine rg ?_;conv=>whnf
 refine Ag q1 F43 E E E E E ?_
 refine rg ?_;conv=>whnf
 refine Ag q2 F44 E E E E E ?_
 (refine rg ?_;(conv=>whnf);refine aF ?_;refine rg ?_;conv=>whnf)
 refine Ay (copyS n hn) F45 E E E (by kernel_rfl) E ?_
 refine rd (by kernel_rfl) ?_;conv=>whnf
 refine Bu (Bv Γ.toTy (d:=28) (n:=n.domains.length) (fun _:Unit=>.val (.slice none 0 0)) () E E E E E E E E (by omega) (by omega) E E E) (by kernel_rfl) E ?_
 refine rd (by kernel_rfl) ?_;conv=>whnf
 refine Bu (Bv Γ.toTy (d:=32) (n:=n.domains.length) (fun _:Unit=>.val (.slice none 0 0)) () E E E E E E E E (by omega) (by omega) E E E) (by kernel_rfl) E ?_
 refine rd (by kernel_rfl) ?_;conv=>whnf
 refine ⟨(by kernel_rfl),?_⟩
 refine Abt 28 (e':=Ej) (l':=List.replicate n.domains.length []) E (by simp) (fun M w i h1 h2 v hv=>?_) ?_
 ·rw [List.getElem_replicate]
  simp only [RdD] at hv
  exact Vm hv
 refine Abt 32 (e':=Oj) (l':=List.replicate n.domains.length []) E (by simp) (fun M w i h1 h2 v hv=>?_) ?_
 ·rw [List.getElem_replicate]
  simp only [RdD] at hv
  exact Vm hv
 refine A1 24 (Io n up false) E (.cons (.refl _) (.cons (.refl _) (.cons (.refl _) (.cons (.refl _) (.cons .nil .nil))))) ?_
 refine rg ?_;conv=>whnf
 subst hnt
 exact done E (.cons .tmp (.cons .tmp .nil)) [(0,34),(1,24),(2,28),(3,32)] (B6 n ⟨up,List.replicate n.domains.length [],List.replicate n.domains.length [],0,0,fun _=>0⟩ false) (fun _ h=>h) E E ⟨Y,⟨.inl E,E,.inl E,E,.inl E,E,.inl E,E,Y⟩,E,E⟩
end Go.Sy.YtmelpejjondedaaGreat
namespace Go.Sy.YtmelpejjondedaaGreat
open Go.Proofs
theorem Sf (n:Net):∀ (a b:List StepM) (m:MacM),Ca n m (a ++ b) = ((Ca n (Ca n m a).1 b).1,(Ca n m a).2 ++ (Ca n (Ca n m a).1 b).2)
 | [],b,m=>by simp [Ca]
 | o :: a,b,m=>by
  rw [List.cons_append,Ca,Ca,Sf n a b]
  simp
theorem Wj (n:Net) (m:MacM) (l:List StepM) (j:Nat) (hj:j < l.length) :
  Ca n m (l.take (j + 1)) = ((doT n (Ca n m (l.take j)).1 l[j]).1,(Ca n m (l.take j)).2 ++ (doT n (Ca n m (l.take j)).1 l[j]).2):=by
 rw [List.take_succ_eq_append_getElem hj,Sf]
 simp [Ca]
def runF (n:Net) (s:MacM × Bool) (l:List StepM):MacM × Bool:=l.foldl (fun s x=>((doT n s.1 x).1,doD n s.1 s.2 x)) s
theorem Zq (n:Net):∀ (l:List StepM) (s:MacM × Bool),(runF n s l).1 = (Ca n s.1 l).1
 | [],s=>rfl
 | x :: l,s=>by
  have:=Zq n l ((doT n s.1 x).1,doD n s.1 s.2 x)
  rw [Ca]
  exact this
def runD (n:Net) (m:MacM) (d:Bool) (l:List StepM):Bool:=(runF n (m,d) l).2
theorem Wk (n:Net) (m:MacM) (d:Bool) (l:List StepM) (j:Nat) (hj:j < l.length) :
  runD n m d (l.take (j + 1)) = doD n (Ca n m (l.take j)).1 (runD n m d (l.take j)) l[j]:=by
 unfold runD
 rw [List.take_succ_eq_append_getElem hj]
 have:=Zq n (l.take j) (m,d)
 unfold runF at this ⊢
 rw [List.foldl_append]
 show doD n (List.foldl _ (m,d) (l.take j)).1 _ l[j] = _
 rw [this]
theorem doT_ok {n:Net} (hn:n.Fin) (hm1:n.Num) {m:MacM} {J D:Int} (h:MacOK n m J D) (hJ:0 ≤ J) (hD:0 ≤ D) (x:StepM):MacOK n (doT n m x).1 (J + 1) (D + 4294967298):=by
 unfold doT
 split
 ·exact (Ada hn h hJ hD _ _).mono (by omega) (by omega)
 split
 ·have hok:=Tu h x.domain x.at_
  unfold pickT
  split
  ·exact hok.1.mono (by omega) (by omega)
  ·have hb:=K8 hn (I2 n (takeM m x.domain x.at_).1.up) (tableL (takeM m x.domain x.at_).1 x.domain) x.domain (takeM m x.domain x.at_).2.1 (takeM m x.domain x.at_).1.now
   have h1:=Z4 hok.1 hD x.domain (S0 (n:=n) (fw:=I2 n (takeM m x.domain x.at_).1.up) (dom:=x.domain) (now:=(takeM m x.domain x.at_).1.now) (Qm hok.1 x.domain) hok.2)
   have h2:=K3 hn (takeM m x.domain x.at_).2.1.origin (L9 n (takeM m x.domain x.at_).1 x.domain (takeM m x.domain x.at_).2.1).2.1 h1 (by omega) (S1 hn hm1 hok.2)
   refine h2.mono (by omega) ?_
   unfold L9
   omega
 split
 ·exact (Tu h x.domain x.at_).1.mono (by omega) (by omega)
 split
 ·have h1:=h.now
  refine ⟨h.up,by unfold L4; simp only [List.length_map]; exact h.tabs,h.ques,fun t ht=>?_,h.que,?_,?_,fun i=>?_⟩
  ·unfold L4 at ht
   obtain ⟨t0,ht0,rfl⟩:=List.mem_map.1 ht
   exact Alz (h.tab t0 ht0) _
  ·unfold L4
   dsimp only
   omega
  ·have:=h.inj
   unfold L4
   dsimp only
   omega
  ·have:=h.drp i
   unfold L4
   dsimp only
   omega
 split
 ·split
  ·rename_i h2
   exact MacOK.mono (n:=n) (m:=⟨x.up,m.tables,m.queues,m.now,m.injected,m.drops⟩) ⟨h2,h.tabs,h.ques,h.tab,h.que,h.now,h.inj,h.drp⟩ (by omega) (by omega)
  ·exact h.mono (by omega) (by omega)
 ·exact h.mono (by omega) (by omega)
theorem Aes {n:Net} (hn:n.Fin) (m:MacM) (x:StepM):(doT n m x).2.length < 4294967296:=by
 unfold doT
 split
 ·show (0:Nat) < 4294967296; decide
 split
 ·unfold pickT
  split
  ·show (0:Nat) < 4294967296; decide
  ·have hb:=K8 hn (I2 n (takeM m x.domain x.at_).1.up) (tableL (takeM m x.domain x.at_).1 x.domain) x.domain (takeM m x.domain x.at_).2.1 (takeM m x.domain x.at_).1.now
   have h2:=Jf n (takeM m x.domain x.at_).2.1.origin (L9 n (takeM m x.domain x.at_).1 x.domain (takeM m x.domain x.at_).2.1).2.1 (I9 (takeM m x.domain x.at_).1 x.domain (L9 n (takeM m x.domain x.at_).1 x.domain (takeM m x.domain x.at_).2.1))
   unfold L9 at h2 ⊢
   omega
 split
 ·show (0:Nat) < 4294967296; decide
 split
 ·show (0:Nat) < 4294967296; decide
 split
 ·show (0:Nat) < 4294967296; decide
 ·show (0:Nat) < 4294967296; decide
theorem Xu {n:Net} (hn:n.Fin) (hm1:n.Num):∀ (l:List StepM) {m:MacM} {J D:Int},MacOK n m J D → 0 ≤ J → 0 ≤ D → MacOK n (Ca n m l).1 (J + l.length) (D + l.length * 4294967298)
 | [],m,J,D,h,_,_=>by
  rw [Ca]
  exact h.mono (by simp) (by simp)
 | x :: l,m,J,D,h,hJ,hD=>by
  rw [Ca]
  have:=Xu hn hm1 l (doT_ok hn hm1 h hJ hD x) (by omega) (by omega)
  exact this.mono (by simp only [List.length_cons]; omega) (by simp only [List.length_cons]; omega)
theorem T4 {n:Net} (hn:n.Fin):∀ (l:List StepM) (m:MacM),(Ca n m l).2.length ≤ l.length * 4294967296
 | [],m=>by simp [Ca]
 | x :: l,m=>by
  rw [Ca]
  have h1:=T4 hn l (doT n m x).1
  have h2:=Aes hn m x
  simp only [List.length_append,List.length_cons]
  omega
theorem X8 (n:Net):MacOK n (newT n) 0 0:=by
 refine ⟨by simp [newT],by simp [newT],by simp [newT],fun t ht=>?_,fun l hl=>?_,by simp [newT],by simp [newT],fun i=>by simp [newT]⟩
 ·have:t = []:=(List.mem_replicate.1 ht).2
  rw [this]; exact Qx
 ·have:l = []:=(List.mem_replicate.1 hl).2
  rw [this]; exact Sn
def Aby (n:Net):List Bool:=List.replicate n.links.length true
structure ScriptOK (l:List StepM):Prop where
 few:l.length ≤ 60
 bytes:∀ x ∈ l,x.bytes.length ≤ 2000
attribute [local irreducible] Go.Sy.G Go.Sy.DR
set_option maxRecDepth 100000
set_option maxHeartbeats 4000000
def runO (n:Net) (m:MacM) (d:Bool) (l:List SeenM):Obs:=[(0,.box (Oa n 1 m.now m.injected m.drops)),(1,.box (Io n m.up d)),(2,.row 1 Ej m.tables),(3,.row 1 Oj m.queues),(1000,.row 3 Bp l)]
end Go.Sy.YtmelpejjondedaaGreat
namespace Go.Sy.YtmelpejjondedaaGreat
open Go.Proofs
attribute [local irreducible] Go.Sy.G Go.Sy.DR
set_option maxRecDepth 100000
set_option maxHeartbeats 4000000
theorem Abg (b:ByteArray):(b == b) = true:=by
 show (b.data == b.data) = true
 simp
end Go.Sy.YtmelpejjondedaaGreat
namespace Go.Sy.YtmelpejjondedaaGreat
section
variable {n:Net} {up:List Bool} {ranks roots costs:List Int}
end
end Go.Sy.YtmelpejjondedaaGreat
namespace Go.Sy.YtmelpejjondedaaGreat
instance:Inhabited Vec:=⟨⟨0,0,0,0,0⟩⟩
section
variable {n:Net} {up:List Bool} {ranks roots costs:List Int}
end
end Go.Sy.YtmelpejjondedaaGreat
namespace Go.Sy.YtmelpejjondedaaGreat
open Go.Proofs
attribute [local irreducible] Go.Sy.G Go.Sy.DR
set_option maxRecDepth 100000
set_option maxHeartbeats 4000000
theorem any_at3 {α:Type} {p:α → Bool} {l:List α} {j:Nat} (hj:j < l.length) (h:p l[j] = true):l.any p = true:=List.any_eq_true.2 ⟨_,List.getElem_mem hj,h⟩
theorem Xh {α:Type} {p:α → Bool} {l:List α} {j:Nat} (hI:Ep (fun _ x=>!(p x)) l j) (hj:l.length ≤ j):l.any p = false:=by
 rw [List.any_eq_false]
 intro x hx
 obtain ⟨i,hi,rfl⟩:=List.getElem_of_mem hx
 have:=hI i hi (by omega)
 simpa using this
def Hh (x:StepM):Bool:=decide (2000 < x.bytes.length) || decide (60 < x.up.length)
def great33B (l:List StepM):Bool:=decide (60 < l.length) || l.any Hh
theorem Aji (l:List StepM):Sy.Spec Tryz.prog 11 [.sl 6 Bt l] [] (Ad (great33B l)) []:=Ab Γ hm 100 F11 Tryz.ntmps11 rfl fun F hF=>by
 have hres:=great33B.eq_1 l
 generalize great33B l = res at *
 conv=>whnf
 refine ⟨fun h=>?_,fun h=>?_⟩
 ·rw [decide_eq_true (by have:=of_decide_eq_true h; omega),Bool.true_or] at hres
  subst hres
  refine rg ?_;conv=>whnf
  exact Ac E (.cons .tmp .nil) E E
 have hl:l.length ≤ 60:=by have:=of_decide_eq_false h; omega
 rw [decide_eq_false (by omega),Bool.false_or] at hres
 refine rg ?_;conv=>whnf
 refine Bc l.length (fun j=>Ep (fun _ x=>!(Hh x)) l j) (fun j=>[(0,.sl 6 Bt l),(3,Aa j)]) (fun _=>[]) [] (Bf _ _) ⟨⟨E,E,E,E,Y⟩,Y,E,E⟩ ?_
 intro j hj hI
 refine rg ?_;conv=>whnf
 refine ⟨fun h=>?_,fun h=>?_⟩
 ·have hlt:j < l.length:=by have:=of_decide_eq_true h; omega
  have hj0:((j:Nat):Int).toNat < l.length:=by simpa using hlt
  have hat:=fun h=>@any_at3 _ Hh l j hlt h
  have hnx:=fun h=>Bb (p:=fun _ x=>!(Hh x)) hI hlt h
  obtain ⟨x,hx⟩:∃ x,l[((j:Nat):Int).toNat]'hj0 = x:=⟨_,rfl⟩
  have hx':l[j] = x:=hx
  rw [hx'] at hat hnx
  refine rg ?_;conv=>whnf
  refine ⟨E,by omega,hj0,?_⟩
  rw [hx]
  conv=>whnf
  refine ⟨fun h=>?_,fun h=>?_⟩
  ·rw [hat (by rw [Hh,decide_eq_true (by have:=of_decide_eq_true h; omega),Bool.true_or])] at hres
   subst hres
   (refine rg ?_;(conv=>whnf);refine aT ?_;refine rg ?_;conv=>whnf)
   exact Ac E (.cons .tmp .nil) E E
  have h1:=of_decide_eq_false h
  refine rg ?_;conv=>whnf
  refine ⟨E,by omega,hj0,?_⟩
  rw [hx]
  conv=>whnf
  refine ⟨fun h=>?_,fun h=>?_⟩
  ·rw [hat (by rw [Hh,decide_eq_true (by have:=of_decide_eq_true h; omega:60 < x.up.length),Bool.or_true])] at hres
   subst hres
   refine rg ?_;conv=>whnf
   exact Ac E (.cons .tmp .nil) E E
  have h2:=of_decide_eq_false h
  refine rg ?_;conv=>whnf
  refine ⟨by unfold I64; omega,?_⟩
  conv=>whnf
  exact Ba [] hI (by omega) (hnx (by rw [Hh,decide_eq_false (by omega),decide_eq_false (by omega)]; rfl)) ⟨⟨E,E,E,E,Y⟩,Y,E,E⟩
 ·have hje:j = l.length:=by have:=of_decide_eq_false h; omega
  subst hje
  rw [Xh hI (Nat.le_refl _)] at hres
  subst hres
  refine rg ?_;conv=>whnf
  exact Ac E (.cons .tmp .nil) E E
theorem V0 {l:List StepM} (h:great33B l = false):l.length ≤ 60 ∧ ∀ x ∈ l,x.bytes.length ≤ 2000 ∧ x.up.length ≤ 60:=by
 simp only [great33B,Hh,Bool.or_eq_false_iff,decide_eq_false_iff_not,List.any_eq_false,Bool.or_eq_true,decide_eq_true_eq] at h
 refine ⟨by omega,fun x hx=>?_⟩
 have:=h.2 x hx
 omega
end Go.Sy.YtmelpejjondedaaGreat
namespace Go.Sy
open Go.ChangeShapes Go.WideShapes Go.ChangeAt Go.RowKit
section
variable {H:Type} (enc:TypeId × Value → H) (P:Program) (W:World)
def Op1 (t:TypeId) {α:Type} (e:α → SV) (p:α → Prop):Prop :=
 ∀ n c y,DataW.trod enc P W 0 (fun _=>true) true n t [c] = some y → ∃ x,p x ∧ Rd κ0 W (e x) c ∧ c.oneCell' = true
def OpN (t:TypeId) {α:Type} (e:α → SV) (p:α → Prop) (sz:Nat):Prop :=
 ∀ n cs y,DataW.trod enc P W 0 (fun _=>true) true n t cs = some y → ∃ x,p x ∧ cs.length = sz ∧ Ones cs ∧ RdL κ0 W (cellsOf (e x)) cs
variable {enc P W}
theorem Bn {t:TypeId} {k:IntKind} (ht:P.underlying t = some (.int k)):Op1 enc P W t (fun z=>.val (.int k z)) (fun z=>(Lit.int k z).wf = true):=fun n c y h=>by
 obtain ⟨z,e,_,hw⟩:=DataW.trod_int ht h
 have e:c = .int k z:=by simpa using e
 subst e
 exact ⟨z,hw,by simp [Rd],E⟩
theorem Acn {t:TypeId} (ht:P.underlying t = some .string):Op1 enc P W t Wf (fun s=>s.size ≤ maxLen):=fun n c y h=>by
 obtain ⟨z,e,_,hw⟩:=DataW.trod_string ht h
 have e:c = .string z:=by simpa using e
 subst e
 exact ⟨z,hw,by simp [Wf,Rd],E⟩
theorem X7 {t:TypeId} {k:IntKind} (ht:P.underlying t = some (.int k)):OpN enc P W t (fun z=>.val (.int k z)) (fun z=>(Lit.int k z).wf = true) 1:=fun n cs y h=>by
 obtain ⟨z,rfl,_,hw⟩:=DataW.trod_int ht h
 refine ⟨z,hw,E,fun c hc=>by simp at hc; subst hc; rfl,?_⟩
 simp [cellsOf,RdL,Rd]
theorem Air {t:TypeId} (ht:P.underlying t = some .bool):OpN enc P W t Ad (fun _=>True) 1:=fun n cs y h=>by
 obtain ⟨z,rfl,_⟩:=DataW.trod_bool ht h
 refine ⟨z,Y,E,fun c hc=>by simp at hc; subst hc; rfl,?_⟩
 simp [Ad,cellsOf,RdL,Rd]
theorem Xg {base:Nat} {a:Addr} {n:Nat} {cs:List Value} (h:W.cells? base a n = some cs):cs.length = n ∧ ∀ j (_:j < n),W.cell? (a.add j) = cs[j]?:=by
 unfold World.cells? at h
 split at h
 ·refine ⟨by simpa using mapM_some_length h,fun j hj=>?_⟩
  exact mapM_some_get h j j (by simp [hj])
 ·cases h
theorem Cm {t et:TypeId} {α:Type} {e:α → SV} {p:α → Prop} {sz:Nat} (ht:P.underlying t = some (.slice et)) (hsz:P.cellsOf et = sz) (h0:0 < sz) (hb:∀ x,(e x).boxed = true) (hd:∀ x,(e x).data = true) (hO:OpN enc P W et e p sz) :
  Op1 enc P W t (fun l:List α=>.sl sz e l) (fun l=>(∀ x ∈ l,p x) ∧ l.length ≤ maxLen):=fun n c y h=>by
 rcases DataW.trod_slice ht h with ⟨hcs,_⟩ | ⟨a,len,cap,elems,rest,m,rfl,hcs,_,_,hlc,hcm,hel,hget,_⟩
 ·have hc:c = .slice none 0 0:=by simpa using hcs
  subst hc
  refine ⟨[],⟨by simp,Nat.zero_le _⟩,?_,E⟩
  simp only [Rd,RdD]
  exact .inl ⟨Y,none,0,E⟩
 ·have hc:c = .slice (some a) len cap:=by simpa using hcs
  subst hc
  rw [hsz] at hget
  have hall:∀ i:Fin len,∃ x,p x ∧ ∃ cs,W.cells? 0 (a.add (i * sz)) sz = some cs ∧ cs.length = sz ∧ Ones cs ∧ RdL κ0 W (cellsOf (e x)) cs:=fun i=>by
   have h1:=hget i.1 i.2
   rw [List.getElem?_eq_getElem (by omega)] at h1
   obtain ⟨cs,h2,h3⟩:=Option.bind_eq_some_iff.1 h1
   obtain ⟨x,h4,h5,h6,h7⟩:=hO _ _ _ h3
   exact ⟨x,h4,cs,h2,h5,h6,h7⟩
  let xs:Fin len → α:=fun i=>Classical.choose (hall i)
  have hxs:∀ i,p (xs i) ∧ ∃ cs,W.cells? 0 (a.add (i.1 * sz)) sz = some cs ∧ cs.length = sz ∧ Ones cs ∧ RdL κ0 W (cellsOf (e (xs i))) cs:=fun i=>Classical.choose_spec (hall i)
  refine ⟨List.ofFn xs,⟨fun x hx=>?_,by simp; omega⟩,?_,E⟩
  ·obtain ⟨i,rfl⟩:=List.mem_ofFn.1 hx
   exact (hxs i).1
  ·simp only [Rd,RdD]
   by_cases hl:len = 0
   ·subst hl
    exact .inl ⟨by simp,_,_,E⟩
   ·have hcell:∀ i:Fin len,∀ j,j < sz → ∃ v,W.cell? ((a.add (i.1 * sz)).add j) = some v:=fun i j hj=>by
     obtain ⟨_,cs,h1,h2,_⟩:=hxs i
     have:=(Xg h1).2 j hj
     rw [List.getElem?_eq_getElem (by omega)] at this
     exact ⟨_,this⟩
    obtain ⟨b,off,spot⟩:=a
    have hspot:spot = none:=by
     obtain ⟨v,hv⟩:=hcell ⟨0,by omega⟩ 0 h0
     simpa [Addr.add] using World.cell?_spot hv
    subst hspot
    have hadd:∀ i j,((⟨b,off,none⟩:Addr).add i).add j = ⟨b,off + i + j,none⟩:=fun i j=>by rw [Addr.add_lit,Addr.add_lit]
    refine .inr ⟨b,off,cap,by simp,by simpa using hlc,?_,?_,fun i hi=>?_⟩
    ·rintro (⟨k,hk⟩ | hk)
     ·cases hk
     ·exact hk
    ·obtain ⟨v,hv⟩:=hcell ⟨0,by omega⟩ 0 h0
     rw [hadd] at hv
     rcases Nat.lt_or_ge b W.heap.size with h | h
     ·exact h
     ·simp [World.cell?,Array.getElem?_eq_none h] at hv
    ·simp only [List.length_ofFn] at hi
     obtain ⟨_,cs,h1,h2,h3,h4⟩:=hxs ⟨i,hi⟩
     obtain ⟨u,g1,g2⟩:=Rd.of_cells (hb _) h3 h4
     refine ⟨u,?_,?_,by rw [g2]; exact h3,fun j hj=>?_⟩
     ·rw [List.getElem_ofFn]
      exact Rd.data _ _ (hd _) g1
     ·have:u.cells.toList.length = sz:=by rw [g2,h2]
      simpa using this
     ·have:=(Xg h1).2 j hj
      rw [hadd] at this
      rw [this,← g2]
      simp
end
end Go.Sy
namespace Go.Sy.YtmelpejjondedaaGreat
open Go.Proofs Go.ChangeShapes Go.WideShapes Go.ChangeAt Go.RowKit
set_option maxRecDepth 100000
section
variable {H:Type} {enc:TypeId × Value → H} {W:World}
def wI (k:IntKind) (z:Int):Prop:=(Lit.int k z).wf = true
theorem Oo:Op1 enc Tryz.prog W 65 (fun l:List Int=>.sl 1 (fun z=>.val (.int .i64 z)) l) (fun l=>(∀ z ∈ l,wI .i64 z) ∧ l.length ≤ maxLen) :=
 Cm Tryz.underlying65 (by kernel_rfl:Tryz.prog.cellsOf 3 = 1) (by decide) (fun _=>rfl) (fun _=>rfl) (X7 Tryz.underlying3)
theorem Ak6:Op1 enc Tryz.prog W 84 (fun l:List Int=>.sl 1 (fun z=>.val (.int .u32 z)) l) (fun l=>(∀ z ∈ l,wI .u32 z) ∧ l.length ≤ maxLen) :=
 Cm Tryz.underlying84 (by kernel_rfl:Tryz.prog.cellsOf 90 = 1) (by decide) (fun _=>rfl) (fun _=>rfl) (X7 Tryz.underlying90)
def Device.In (x:Device):Prop:=wI .i64 x.row ∧ wI .i64 x.prio ∧ x.name.size ≤ maxLen ∧ wI .u64 x.mac ∧ wI .u32 x.vtep
theorem Acs:OpN enc Tryz.prog W 92 Bj Device.In 5:=fun n cs y h=>by
 obtain ⟨xs,m,_,_,hlen,hx,hg⟩:=DataW.trod_struct Tryz.underlying92 h
 have hlen:cs.length = 5:=hlen.trans (by kernel_rfl:Tryz.prog.cellsOf 92 = 5)
 have hx:xs.length = 5:=hx
 match cs,hlen with
 | [c0,c1,c2,c3,c4],_ =>
  have g0:DataW.trod enc Tryz.prog W 0 (fun _=>true) true m 3 (([c0,c1,c2,c3,c4].drop 0).take (Tryz.prog.cellsOf 3)) = xs[0]?:=hg 0 _ rfl
  rw [(by kernel_rfl:Tryz.prog.cellsOf 3 = 1),List.getElem?_eq_getElem (by omega)] at g0
  obtain ⟨z0,p0,r0,o0⟩:=Bn Tryz.underlying3 _ _ _ g0
  have g1:DataW.trod enc Tryz.prog W 0 (fun _=>true) true m 3 (([c0,c1,c2,c3,c4].drop 1).take (Tryz.prog.cellsOf 3)) = xs[1]?:=hg 1 _ rfl
  rw [(by kernel_rfl:Tryz.prog.cellsOf 3 = 1),List.getElem?_eq_getElem (by omega)] at g1
  obtain ⟨z1,p1,r1,o1⟩:=Bn Tryz.underlying3 _ _ _ g1
  have g2:DataW.trod enc Tryz.prog W 0 (fun _=>true) true m 9 (([c0,c1,c2,c3,c4].drop 2).take (Tryz.prog.cellsOf 9)) = xs[2]?:=hg 2 _ rfl
  rw [(by kernel_rfl:Tryz.prog.cellsOf 9 = 1),List.getElem?_eq_getElem (by omega)] at g2
  obtain ⟨z2,p2,r2,o2⟩:=Acn Tryz.underlying9 _ _ _ g2
  have g3:DataW.trod enc Tryz.prog W 0 (fun _=>true) true m 89 (([c0,c1,c2,c3,c4].drop 3).take (Tryz.prog.cellsOf 89)) = xs[3]?:=hg 3 _ rfl
  rw [(by kernel_rfl:Tryz.prog.cellsOf 89 = 1),List.getElem?_eq_getElem (by omega)] at g3
  obtain ⟨z3,p3,r3,o3⟩:=Bn Tryz.underlying89 _ _ _ g3
  have g4:DataW.trod enc Tryz.prog W 0 (fun _=>true) true m 90 (([c0,c1,c2,c3,c4].drop 4).take (Tryz.prog.cellsOf 90)) = xs[4]?:=hg 4 _ rfl
  rw [(by kernel_rfl:Tryz.prog.cellsOf 90 = 1),List.getElem?_eq_getElem (by omega)] at g4
  obtain ⟨z4,p4,r4,o4⟩:=Bn Tryz.underlying90 _ _ _ g4
  refine ⟨⟨z0,z1,z2,z3,z4⟩,⟨p0,p1,p2,p3,p4⟩,E,fun c hc=>?_,?_⟩
  ·simp only [List.mem_cons,List.not_mem_nil,or_false] at hc
   rcases hc with rfl | rfl | rfl | rfl | rfl <;> assumption
  ·simp only [Bj,cellsOf,RdL]
   exact ⟨_,_,E,r0,_,_,E,r1,_,_,E,r2,_,_,E,r3,_,_,E,r4,E⟩
def Port.In (x:Port):Prop:=wI .i64 x.row ∧ wI .i64 x.dev ∧ wI .i64 x.native ∧ wI .i64 x.cost ∧ wI .i64 x.link ∧ x.name.size ≤ maxLen ∧ ((∀ z ∈ x.tagged,wI .i64 z) ∧ x.tagged.length ≤ maxLen)
theorem Ais:OpN enc Tryz.prog W 81 A9 Port.In 7:=fun n cs y h=>by
 obtain ⟨xs,m,_,_,hlen,hx,hg⟩:=DataW.trod_struct Tryz.underlying81 h
 have hlen:cs.length = 7:=hlen.trans (by kernel_rfl:Tryz.prog.cellsOf 81 = 7)
 have hx:xs.length = 7:=hx
 match cs,hlen with
 | [c0,c1,c2,c3,c4,c5,c6],_ =>
  have g0:DataW.trod enc Tryz.prog W 0 (fun _=>true) true m 3 (([c0,c1,c2,c3,c4,c5,c6].drop 0).take (Tryz.prog.cellsOf 3)) = xs[0]?:=hg 0 _ rfl
  rw [(by kernel_rfl:Tryz.prog.cellsOf 3 = 1),List.getElem?_eq_getElem (by omega)] at g0
  obtain ⟨z0,p0,r0,o0⟩:=Bn Tryz.underlying3 _ _ _ g0
  have g1:DataW.trod enc Tryz.prog W 0 (fun _=>true) true m 3 (([c0,c1,c2,c3,c4,c5,c6].drop 1).take (Tryz.prog.cellsOf 3)) = xs[1]?:=hg 1 _ rfl
  rw [(by kernel_rfl:Tryz.prog.cellsOf 3 = 1),List.getElem?_eq_getElem (by omega)] at g1
  obtain ⟨z1,p1,r1,o1⟩:=Bn Tryz.underlying3 _ _ _ g1
  have g2:DataW.trod enc Tryz.prog W 0 (fun _=>true) true m 3 (([c0,c1,c2,c3,c4,c5,c6].drop 2).take (Tryz.prog.cellsOf 3)) = xs[2]?:=hg 2 _ rfl
  rw [(by kernel_rfl:Tryz.prog.cellsOf 3 = 1),List.getElem?_eq_getElem (by omega)] at g2
  obtain ⟨z2,p2,r2,o2⟩:=Bn Tryz.underlying3 _ _ _ g2
  have g3:DataW.trod enc Tryz.prog W 0 (fun _=>true) true m 3 (([c0,c1,c2,c3,c4,c5,c6].drop 3).take (Tryz.prog.cellsOf 3)) = xs[3]?:=hg 3 _ rfl
  rw [(by kernel_rfl:Tryz.prog.cellsOf 3 = 1),List.getElem?_eq_getElem (by omega)] at g3
  obtain ⟨z3,p3,r3,o3⟩:=Bn Tryz.underlying3 _ _ _ g3
  have g4:DataW.trod enc Tryz.prog W 0 (fun _=>true) true m 3 (([c0,c1,c2,c3,c4,c5,c6].drop 4).take (Tryz.prog.cellsOf 3)) = xs[4]?:=hg 4 _ rfl
  rw [(by kernel_rfl:Tryz.prog.cellsOf 3 = 1),List.getElem?_eq_getElem (by omega)] at g4
  obtain ⟨z4,p4,r4,o4⟩:=Bn Tryz.underlying3 _ _ _ g4
  have g5:DataW.trod enc Tryz.prog W 0 (fun _=>true) true m 9 (([c0,c1,c2,c3,c4,c5,c6].drop 5).take (Tryz.prog.cellsOf 9)) = xs[5]?:=hg 5 _ rfl
  rw [(by kernel_rfl:Tryz.prog.cellsOf 9 = 1),List.getElem?_eq_getElem (by omega)] at g5
  obtain ⟨z5,p5,r5,o5⟩:=Acn Tryz.underlying9 _ _ _ g5
  have g6:DataW.trod enc Tryz.prog W 0 (fun _=>true) true m 65 (([c0,c1,c2,c3,c4,c5,c6].drop 6).take (Tryz.prog.cellsOf 65)) = xs[6]?:=hg 6 _ rfl
  rw [(by kernel_rfl:Tryz.prog.cellsOf 65 = 1),List.getElem?_eq_getElem (by omega)] at g6
  obtain ⟨z6,p6,r6,o6⟩:=Oo _ _ _ g6
  refine ⟨⟨z0,z1,z2,z3,z4,z5,z6⟩,⟨p0,p1,p2,p3,p4,p5,p6⟩,E,fun c hc=>?_,?_⟩
  ·simp only [List.mem_cons,List.not_mem_nil,or_false] at hc
   rcases hc with rfl | rfl | rfl | rfl | rfl | rfl | rfl <;> assumption
  ·simp only [A9,cellsOf,RdL]
   exact ⟨_,_,E,r0,_,_,E,r1,_,_,E,r2,_,_,E,r3,_,_,E,r4,_,_,E,r5,_,_,E,r6,E⟩
def Link.In (x:Link):Prop:=wI .i64 x.row ∧ wI .i64 x.a ∧ wI .i64 x.b
theorem Ait:OpN enc Tryz.prog W 167 Cg Link.In 3:=fun n cs y h=>by
 obtain ⟨xs,m,_,_,hlen,hx,hg⟩:=DataW.trod_struct Tryz.underlying167 h
 have hlen:cs.length = 3:=hlen.trans (by kernel_rfl:Tryz.prog.cellsOf 167 = 3)
 have hx:xs.length = 3:=hx
 match cs,hlen with
 | [c0,c1,c2],_ =>
  have g0:DataW.trod enc Tryz.prog W 0 (fun _=>true) true m 3 (([c0,c1,c2].drop 0).take (Tryz.prog.cellsOf 3)) = xs[0]?:=hg 0 _ rfl
  rw [(by kernel_rfl:Tryz.prog.cellsOf 3 = 1),List.getElem?_eq_getElem (by omega)] at g0
  obtain ⟨z0,p0,r0,o0⟩:=Bn Tryz.underlying3 _ _ _ g0
  have g1:DataW.trod enc Tryz.prog W 0 (fun _=>true) true m 3 (([c0,c1,c2].drop 1).take (Tryz.prog.cellsOf 3)) = xs[1]?:=hg 1 _ rfl
  rw [(by kernel_rfl:Tryz.prog.cellsOf 3 = 1),List.getElem?_eq_getElem (by omega)] at g1
  obtain ⟨z1,p1,r1,o1⟩:=Bn Tryz.underlying3 _ _ _ g1
  have g2:DataW.trod enc Tryz.prog W 0 (fun _=>true) true m 3 (([c0,c1,c2].drop 2).take (Tryz.prog.cellsOf 3)) = xs[2]?:=hg 2 _ rfl
  rw [(by kernel_rfl:Tryz.prog.cellsOf 3 = 1),List.getElem?_eq_getElem (by omega)] at g2
  obtain ⟨z2,p2,r2,o2⟩:=Bn Tryz.underlying3 _ _ _ g2
  refine ⟨⟨z0,z1,z2⟩,⟨p0,p1,p2⟩,E,fun c hc=>?_,?_⟩
  ·simp only [List.mem_cons,List.not_mem_nil,or_false] at hc
   rcases hc with rfl | rfl | rfl <;> assumption
  ·simp only [Cg,cellsOf,RdL]
   exact ⟨_,_,E,r0,_,_,E,r1,_,_,E,r2,E⟩
def Domain.In (x:Domain):Prop:=wI .i64 x.dev ∧ wI .i64 x.vlan ∧ wI .i64 x.vni ∧ wI .i64 x.irb ∧ wI .i64 x.row ∧ ((∀ z ∈ x.peers,wI .i64 z) ∧ x.peers.length ≤ maxLen)
theorem Acr:OpN enc Tryz.prog W 83 Au Domain.In 6:=fun n cs y h=>by
 obtain ⟨xs,m,_,_,hlen,hx,hg⟩:=DataW.trod_struct Tryz.underlying83 h
 have hlen:cs.length = 6:=hlen.trans (by kernel_rfl:Tryz.prog.cellsOf 83 = 6)
 have hx:xs.length = 6:=hx
 match cs,hlen with
 | [c0,c1,c2,c3,c4,c5],_ =>
  have g0:DataW.trod enc Tryz.prog W 0 (fun _=>true) true m 3 (([c0,c1,c2,c3,c4,c5].drop 0).take (Tryz.prog.cellsOf 3)) = xs[0]?:=hg 0 _ rfl
  rw [(by kernel_rfl:Tryz.prog.cellsOf 3 = 1),List.getElem?_eq_getElem (by omega)] at g0
  obtain ⟨z0,p0,r0,o0⟩:=Bn Tryz.underlying3 _ _ _ g0
  have g1:DataW.trod enc Tryz.prog W 0 (fun _=>true) true m 3 (([c0,c1,c2,c3,c4,c5].drop 1).take (Tryz.prog.cellsOf 3)) = xs[1]?:=hg 1 _ rfl
  rw [(by kernel_rfl:Tryz.prog.cellsOf 3 = 1),List.getElem?_eq_getElem (by omega)] at g1
  obtain ⟨z1,p1,r1,o1⟩:=Bn Tryz.underlying3 _ _ _ g1
  have g2:DataW.trod enc Tryz.prog W 0 (fun _=>true) true m 3 (([c0,c1,c2,c3,c4,c5].drop 2).take (Tryz.prog.cellsOf 3)) = xs[2]?:=hg 2 _ rfl
  rw [(by kernel_rfl:Tryz.prog.cellsOf 3 = 1),List.getElem?_eq_getElem (by omega)] at g2
  obtain ⟨z2,p2,r2,o2⟩:=Bn Tryz.underlying3 _ _ _ g2
  have g3:DataW.trod enc Tryz.prog W 0 (fun _=>true) true m 3 (([c0,c1,c2,c3,c4,c5].drop 3).take (Tryz.prog.cellsOf 3)) = xs[3]?:=hg 3 _ rfl
  rw [(by kernel_rfl:Tryz.prog.cellsOf 3 = 1),List.getElem?_eq_getElem (by omega)] at g3
  obtain ⟨z3,p3,r3,o3⟩:=Bn Tryz.underlying3 _ _ _ g3
  have g4:DataW.trod enc Tryz.prog W 0 (fun _=>true) true m 3 (([c0,c1,c2,c3,c4,c5].drop 4).take (Tryz.prog.cellsOf 3)) = xs[4]?:=hg 4 _ rfl
  rw [(by kernel_rfl:Tryz.prog.cellsOf 3 = 1),List.getElem?_eq_getElem (by omega)] at g4
  obtain ⟨z4,p4,r4,o4⟩:=Bn Tryz.underlying3 _ _ _ g4
  have g5:DataW.trod enc Tryz.prog W 0 (fun _=>true) true m 65 (([c0,c1,c2,c3,c4,c5].drop 5).take (Tryz.prog.cellsOf 65)) = xs[5]?:=hg 5 _ rfl
  rw [(by kernel_rfl:Tryz.prog.cellsOf 65 = 1),List.getElem?_eq_getElem (by omega)] at g5
  obtain ⟨z5,p5,r5,o5⟩:=Oo _ _ _ g5
  refine ⟨⟨z0,z1,z2,z3,z4,z5⟩,⟨p0,p1,p2,p3,p4,p5⟩,E,fun c hc=>?_,?_⟩
  ·simp only [List.mem_cons,List.not_mem_nil,or_false] at hc
   rcases hc with rfl | rfl | rfl | rfl | rfl | rfl <;> assumption
  ·simp only [Au,cellsOf,RdL]
   exact ⟨_,_,E,r0,_,_,E,r1,_,_,E,r2,_,_,E,r3,_,_,E,r4,_,_,E,r5,E⟩
def Static.In (x:Static):Prop:=wI .i64 x.row ∧ wI .i64 x.domain ∧ wI .i64 x.port ∧ wI .u64 x.mac
theorem Acp:OpN enc Tryz.prog W 196 Bg Static.In 4:=fun n cs y h=>by
 obtain ⟨xs,m,_,_,hlen,hx,hg⟩:=DataW.trod_struct Tryz.underlying196 h
 have hlen:cs.length = 4:=hlen.trans (by kernel_rfl:Tryz.prog.cellsOf 196 = 4)
 have hx:xs.length = 4:=hx
 match cs,hlen with
 | [c0,c1,c2,c3],_ =>
  have g0:DataW.trod enc Tryz.prog W 0 (fun _=>true) true m 3 (([c0,c1,c2,c3].drop 0).take (Tryz.prog.cellsOf 3)) = xs[0]?:=hg 0 _ rfl
  rw [(by kernel_rfl:Tryz.prog.cellsOf 3 = 1),List.getElem?_eq_getElem (by omega)] at g0
  obtain ⟨z0,p0,r0,o0⟩:=Bn Tryz.underlying3 _ _ _ g0
  have g1:DataW.trod enc Tryz.prog W 0 (fun _=>true) true m 3 (([c0,c1,c2,c3].drop 1).take (Tryz.prog.cellsOf 3)) = xs[1]?:=hg 1 _ rfl
  rw [(by kernel_rfl:Tryz.prog.cellsOf 3 = 1),List.getElem?_eq_getElem (by omega)] at g1
  obtain ⟨z1,p1,r1,o1⟩:=Bn Tryz.underlying3 _ _ _ g1
  have g2:DataW.trod enc Tryz.prog W 0 (fun _=>true) true m 3 (([c0,c1,c2,c3].drop 2).take (Tryz.prog.cellsOf 3)) = xs[2]?:=hg 2 _ rfl
  rw [(by kernel_rfl:Tryz.prog.cellsOf 3 = 1),List.getElem?_eq_getElem (by omega)] at g2
  obtain ⟨z2,p2,r2,o2⟩:=Bn Tryz.underlying3 _ _ _ g2
  have g3:DataW.trod enc Tryz.prog W 0 (fun _=>true) true m 89 (([c0,c1,c2,c3].drop 3).take (Tryz.prog.cellsOf 89)) = xs[3]?:=hg 3 _ rfl
  rw [(by kernel_rfl:Tryz.prog.cellsOf 89 = 1),List.getElem?_eq_getElem (by omega)] at g3
  obtain ⟨z3,p3,r3,o3⟩:=Bn Tryz.underlying89 _ _ _ g3
  refine ⟨⟨z0,z1,z2,z3⟩,⟨p0,p1,p2,p3⟩,E,fun c hc=>?_,?_⟩
  ·simp only [List.mem_cons,List.not_mem_nil,or_false] at hc
   rcases hc with rfl | rfl | rfl | rfl <;> assumption
  ·simp only [Bg,cellsOf,RdL]
   exact ⟨_,_,E,r0,_,_,E,r1,_,_,E,r2,_,_,E,r3,E⟩
def Flood.In (x:Flood):Prop:=wI .i64 x.row ∧ wI .i64 x.dev ∧ wI .i64 x.vni ∧ ((∀ z ∈ x.addrs,wI .u32 z) ∧ x.addrs.length ≤ maxLen)
theorem Af2:OpN enc Tryz.prog W 86 Bz Flood.In 4:=fun n cs y h=>by
 obtain ⟨xs,m,_,_,hlen,hx,hg⟩:=DataW.trod_struct Tryz.underlying86 h
 have hlen:cs.length = 4:=hlen.trans (by kernel_rfl:Tryz.prog.cellsOf 86 = 4)
 have hx:xs.length = 4:=hx
 match cs,hlen with
 | [c0,c1,c2,c3],_ =>
  have g0:DataW.trod enc Tryz.prog W 0 (fun _=>true) true m 3 (([c0,c1,c2,c3].drop 0).take (Tryz.prog.cellsOf 3)) = xs[0]?:=hg 0 _ rfl
  rw [(by kernel_rfl:Tryz.prog.cellsOf 3 = 1),List.getElem?_eq_getElem (by omega)] at g0
  obtain ⟨z0,p0,r0,o0⟩:=Bn Tryz.underlying3 _ _ _ g0
  have g1:DataW.trod enc Tryz.prog W 0 (fun _=>true) true m 3 (([c0,c1,c2,c3].drop 1).take (Tryz.prog.cellsOf 3)) = xs[1]?:=hg 1 _ rfl
  rw [(by kernel_rfl:Tryz.prog.cellsOf 3 = 1),List.getElem?_eq_getElem (by omega)] at g1
  obtain ⟨z1,p1,r1,o1⟩:=Bn Tryz.underlying3 _ _ _ g1
  have g2:DataW.trod enc Tryz.prog W 0 (fun _=>true) true m 3 (([c0,c1,c2,c3].drop 2).take (Tryz.prog.cellsOf 3)) = xs[2]?:=hg 2 _ rfl
  rw [(by kernel_rfl:Tryz.prog.cellsOf 3 = 1),List.getElem?_eq_getElem (by omega)] at g2
  obtain ⟨z2,p2,r2,o2⟩:=Bn Tryz.underlying3 _ _ _ g2
  have g3:DataW.trod enc Tryz.prog W 0 (fun _=>true) true m 84 (([c0,c1,c2,c3].drop 3).take (Tryz.prog.cellsOf 84)) = xs[3]?:=hg 3 _ rfl
  rw [(by kernel_rfl:Tryz.prog.cellsOf 84 = 1),List.getElem?_eq_getElem (by omega)] at g3
  obtain ⟨z3,p3,r3,o3⟩:=Ak6 _ _ _ g3
  refine ⟨⟨z0,z1,z2,z3⟩,⟨p0,p1,p2,p3⟩,E,fun c hc=>?_,?_⟩
  ·simp only [List.mem_cons,List.not_mem_nil,or_false] at hc
   rcases hc with rfl | rfl | rfl | rfl <;> assumption
  ·simp only [Bz,cellsOf,RdL]
   exact ⟨_,_,E,r0,_,_,E,r1,_,_,E,r2,_,_,E,r3,E⟩
def Vrf.In (x:Vrf):Prop:=wI .i64 x.row ∧ wI .i64 x.dev ∧ x.name.size ≤ maxLen ∧ ((∀ z ∈ x.imports,wI .i64 z) ∧ x.imports.length ≤ maxLen) ∧ ((∀ z ∈ x.exports,wI .i64 z) ∧ x.exports.length ≤ maxLen)
theorem Ak8:OpN enc Tryz.prog W 88 Cu Vrf.In 5:=fun n cs y h=>by
 obtain ⟨xs,m,_,_,hlen,hx,hg⟩:=DataW.trod_struct Tryz.underlying88 h
 have hlen:cs.length = 5:=hlen.trans (by kernel_rfl:Tryz.prog.cellsOf 88 = 5)
 have hx:xs.length = 5:=hx
 match cs,hlen with
 | [c0,c1,c2,c3,c4],_ =>
  have g0:DataW.trod enc Tryz.prog W 0 (fun _=>true) true m 3 (([c0,c1,c2,c3,c4].drop 0).take (Tryz.prog.cellsOf 3)) = xs[0]?:=hg 0 _ rfl
  rw [(by kernel_rfl:Tryz.prog.cellsOf 3 = 1),List.getElem?_eq_getElem (by omega)] at g0
  obtain ⟨z0,p0,r0,o0⟩:=Bn Tryz.underlying3 _ _ _ g0
  have g1:DataW.trod enc Tryz.prog W 0 (fun _=>true) true m 3 (([c0,c1,c2,c3,c4].drop 1).take (Tryz.prog.cellsOf 3)) = xs[1]?:=hg 1 _ rfl
  rw [(by kernel_rfl:Tryz.prog.cellsOf 3 = 1),List.getElem?_eq_getElem (by omega)] at g1
  obtain ⟨z1,p1,r1,o1⟩:=Bn Tryz.underlying3 _ _ _ g1
  have g2:DataW.trod enc Tryz.prog W 0 (fun _=>true) true m 9 (([c0,c1,c2,c3,c4].drop 2).take (Tryz.prog.cellsOf 9)) = xs[2]?:=hg 2 _ rfl
  rw [(by kernel_rfl:Tryz.prog.cellsOf 9 = 1),List.getElem?_eq_getElem (by omega)] at g2
  obtain ⟨z2,p2,r2,o2⟩:=Acn Tryz.underlying9 _ _ _ g2
  have g3:DataW.trod enc Tryz.prog W 0 (fun _=>true) true m 65 (([c0,c1,c2,c3,c4].drop 3).take (Tryz.prog.cellsOf 65)) = xs[3]?:=hg 3 _ rfl
  rw [(by kernel_rfl:Tryz.prog.cellsOf 65 = 1),List.getElem?_eq_getElem (by omega)] at g3
  obtain ⟨z3,p3,r3,o3⟩:=Oo _ _ _ g3
  have g4:DataW.trod enc Tryz.prog W 0 (fun _=>true) true m 65 (([c0,c1,c2,c3,c4].drop 4).take (Tryz.prog.cellsOf 65)) = xs[4]?:=hg 4 _ rfl
  rw [(by kernel_rfl:Tryz.prog.cellsOf 65 = 1),List.getElem?_eq_getElem (by omega)] at g4
  obtain ⟨z4,p4,r4,o4⟩:=Oo _ _ _ g4
  refine ⟨⟨z0,z1,z2,z3,z4⟩,⟨p0,p1,p2,p3,p4⟩,E,fun c hc=>?_,?_⟩
  ·simp only [List.mem_cons,List.not_mem_nil,or_false] at hc
   rcases hc with rfl | rfl | rfl | rfl | rfl <;> assumption
  ·simp only [Cu,cellsOf,RdL]
   exact ⟨_,_,E,r0,_,_,E,r1,_,_,E,r2,_,_,E,r3,_,_,E,r4,E⟩
def Irb.In (x:Irb):Prop:=wI .i64 x.row ∧ wI .i64 x.domain ∧ wI .i64 x.vrf ∧ wI .u32 x.addr ∧ wI .i64 x.bits
theorem Ala:OpN enc Tryz.prog W 203 Dn Irb.In 5:=fun n cs y h=>by
 obtain ⟨xs,m,_,_,hlen,hx,hg⟩:=DataW.trod_struct Tryz.underlying203 h
 have hlen:cs.length = 5:=hlen.trans (by kernel_rfl:Tryz.prog.cellsOf 203 = 5)
 have hx:xs.length = 4:=hx
 match cs,hlen with
 | [c0,c1,c2,c3,c4],_ =>
  have g0:DataW.trod enc Tryz.prog W 0 (fun _=>true) true m 3 (([c0,c1,c2,c3,c4].drop 0).take (Tryz.prog.cellsOf 3)) = xs[0]?:=hg 0 _ rfl
  rw [(by kernel_rfl:Tryz.prog.cellsOf 3 = 1),List.getElem?_eq_getElem (by omega)] at g0
  obtain ⟨z0,p0,r0,o0⟩:=Bn Tryz.underlying3 _ _ _ g0
  have g1:DataW.trod enc Tryz.prog W 0 (fun _=>true) true m 3 (([c0,c1,c2,c3,c4].drop 1).take (Tryz.prog.cellsOf 3)) = xs[1]?:=hg 1 _ rfl
  rw [(by kernel_rfl:Tryz.prog.cellsOf 3 = 1),List.getElem?_eq_getElem (by omega)] at g1
  obtain ⟨z1,p1,r1,o1⟩:=Bn Tryz.underlying3 _ _ _ g1
  have g2:DataW.trod enc Tryz.prog W 0 (fun _=>true) true m 3 (([c0,c1,c2,c3,c4].drop 2).take (Tryz.prog.cellsOf 3)) = xs[2]?:=hg 2 _ rfl
  rw [(by kernel_rfl:Tryz.prog.cellsOf 3 = 1),List.getElem?_eq_getElem (by omega)] at g2
  obtain ⟨z2,p2,r2,o2⟩:=Bn Tryz.underlying3 _ _ _ g2
  have g3:DataW.trod enc Tryz.prog W 0 (fun _=>true) true m 201 (([c0,c1,c2,c3,c4].drop 3).take (Tryz.prog.cellsOf 201)) = xs[3]?:=hg 3 _ rfl
  rw [(by kernel_rfl:Tryz.prog.cellsOf 201 = 2),List.getElem?_eq_getElem (by omega)] at g3
  obtain ⟨ys,m',_,_,_,hy,hg'⟩:=DataW.trod_struct Tryz.underlying201 g3
  have hy:ys.length = 2:=hy
  have q0:DataW.trod enc Tryz.prog W 0 (fun _=>true) true m' 90 (([c3,c4].drop 0).take (Tryz.prog.cellsOf 90)) = ys[0]?:=hg' 0 _ rfl
  have q1:DataW.trod enc Tryz.prog W 0 (fun _=>true) true m' 3 (([c3,c4].drop 1).take (Tryz.prog.cellsOf 3)) = ys[1]?:=hg' 1 _ rfl
  rw [(by kernel_rfl:Tryz.prog.cellsOf 90 = 1),List.getElem?_eq_getElem (by omega)] at q0
  rw [(by kernel_rfl:Tryz.prog.cellsOf 3 = 1),List.getElem?_eq_getElem (by omega)] at q1
  obtain ⟨z3,p3,r3,o3⟩:=Bn Tryz.underlying90 _ _ _ q0
  obtain ⟨z4,p4,r4,o4⟩:=Bn Tryz.underlying3 _ _ _ q1
  refine ⟨⟨z0,z1,z2,z3,z4⟩,⟨p0,p1,p2,p3,p4⟩,E,fun c hc=>?_,?_⟩
  ·simp only [List.mem_cons,List.not_mem_nil,or_false] at hc
   rcases hc with rfl | rfl | rfl | rfl | rfl <;> assumption
  ·simp only [Dn,cellsOf,RdL]
   exact ⟨_,_,E,r0,_,_,E,r1,_,_,E,r2,_,_,E,r3,_,_,E,r4,E⟩
structure Net.In (n:Net):Prop where
 devices:(∀ x ∈ n.devices,Device.In x) ∧ n.devices.length ≤ maxLen
 ports:(∀ x ∈ n.ports,Port.In x) ∧ n.ports.length ≤ maxLen
 links:(∀ x ∈ n.links,Link.In x) ∧ n.links.length ≤ maxLen
 domains:(∀ x ∈ n.domains,Domain.In x) ∧ n.domains.length ≤ maxLen
 statics:(∀ x ∈ n.statics,Static.In x) ∧ n.statics.length ≤ maxLen
 floods:(∀ x ∈ n.floods,Flood.In x) ∧ n.floods.length ≤ maxLen
 vrfs:(∀ x ∈ n.vrfs,Vrf.In x) ∧ n.vrfs.length ≤ maxLen
 irbs:(∀ x ∈ n.irbs,Irb.In x) ∧ n.irbs.length ≤ maxLen
theorem Ak9:OpN enc Tryz.prog W 31 Aq Net.In 8:=fun n cs y h=>by
 obtain ⟨xs,m,_,_,hlen,hx,hg⟩:=DataW.trod_struct Tryz.underlying31 h
 have hlen:cs.length = 8:=hlen.trans (by kernel_rfl:Tryz.prog.cellsOf 31 = 8)
 have hx:xs.length = 8:=hx
 match cs,hlen with
 | [c0,c1,c2,c3,c4,c5,c6,c7],_ =>
  have g0:DataW.trod enc Tryz.prog W 0 (fun _=>true) true m 22 (([c0,c1,c2,c3,c4,c5,c6,c7].drop 0).take (Tryz.prog.cellsOf 22)) = xs[0]?:=hg 0 _ rfl
  rw [(by kernel_rfl:Tryz.prog.cellsOf 22 = 1),List.getElem?_eq_getElem (by omega)] at g0
  obtain ⟨z0,p0,r0,o0⟩:=Cm Tryz.underlying22 (by kernel_rfl:Tryz.prog.cellsOf 92 = 5) (by decide) (fun _=>rfl) (fun _=>rfl) Acs _ _ _ g0
  have g1:DataW.trod enc Tryz.prog W 0 (fun _=>true) true m 23 (([c0,c1,c2,c3,c4,c5,c6,c7].drop 1).take (Tryz.prog.cellsOf 23)) = xs[1]?:=hg 1 _ rfl
  rw [(by kernel_rfl:Tryz.prog.cellsOf 23 = 1),List.getElem?_eq_getElem (by omega)] at g1
  obtain ⟨z1,p1,r1,o1⟩:=Cm Tryz.underlying23 (by kernel_rfl:Tryz.prog.cellsOf 81 = 7) (by decide) (fun _=>rfl) (fun _=>rfl) Ais _ _ _ g1
  have g2:DataW.trod enc Tryz.prog W 0 (fun _=>true) true m 24 (([c0,c1,c2,c3,c4,c5,c6,c7].drop 2).take (Tryz.prog.cellsOf 24)) = xs[2]?:=hg 2 _ rfl
  rw [(by kernel_rfl:Tryz.prog.cellsOf 24 = 1),List.getElem?_eq_getElem (by omega)] at g2
  obtain ⟨z2,p2,r2,o2⟩:=Cm Tryz.underlying24 (by kernel_rfl:Tryz.prog.cellsOf 167 = 3) (by decide) (fun _=>rfl) (fun _=>rfl) Ait _ _ _ g2
  have g3:DataW.trod enc Tryz.prog W 0 (fun _=>true) true m 25 (([c0,c1,c2,c3,c4,c5,c6,c7].drop 3).take (Tryz.prog.cellsOf 25)) = xs[3]?:=hg 3 _ rfl
  rw [(by kernel_rfl:Tryz.prog.cellsOf 25 = 1),List.getElem?_eq_getElem (by omega)] at g3
  obtain ⟨z3,p3,r3,o3⟩:=Cm Tryz.underlying25 (by kernel_rfl:Tryz.prog.cellsOf 83 = 6) (by decide) (fun _=>rfl) (fun _=>rfl) Acr _ _ _ g3
  have g4:DataW.trod enc Tryz.prog W 0 (fun _=>true) true m 26 (([c0,c1,c2,c3,c4,c5,c6,c7].drop 4).take (Tryz.prog.cellsOf 26)) = xs[4]?:=hg 4 _ rfl
  rw [(by kernel_rfl:Tryz.prog.cellsOf 26 = 1),List.getElem?_eq_getElem (by omega)] at g4
  obtain ⟨z4,p4,r4,o4⟩:=Cm Tryz.underlying26 (by kernel_rfl:Tryz.prog.cellsOf 196 = 4) (by decide) (fun _=>rfl) (fun _=>rfl) Acp _ _ _ g4
  have g5:DataW.trod enc Tryz.prog W 0 (fun _=>true) true m 27 (([c0,c1,c2,c3,c4,c5,c6,c7].drop 5).take (Tryz.prog.cellsOf 27)) = xs[5]?:=hg 5 _ rfl
  rw [(by kernel_rfl:Tryz.prog.cellsOf 27 = 1),List.getElem?_eq_getElem (by omega)] at g5
  obtain ⟨z5,p5,r5,o5⟩:=Cm Tryz.underlying27 (by kernel_rfl:Tryz.prog.cellsOf 86 = 4) (by decide) (fun _=>rfl) (fun _=>rfl) Af2 _ _ _ g5
  have g6:DataW.trod enc Tryz.prog W 0 (fun _=>true) true m 28 (([c0,c1,c2,c3,c4,c5,c6,c7].drop 6).take (Tryz.prog.cellsOf 28)) = xs[6]?:=hg 6 _ rfl
  rw [(by kernel_rfl:Tryz.prog.cellsOf 28 = 1),List.getElem?_eq_getElem (by omega)] at g6
  obtain ⟨z6,p6,r6,o6⟩:=Cm Tryz.underlying28 (by kernel_rfl:Tryz.prog.cellsOf 88 = 5) (by decide) (fun _=>rfl) (fun _=>rfl) Ak8 _ _ _ g6
  have g7:DataW.trod enc Tryz.prog W 0 (fun _=>true) true m 29 (([c0,c1,c2,c3,c4,c5,c6,c7].drop 7).take (Tryz.prog.cellsOf 29)) = xs[7]?:=hg 7 _ rfl
  rw [(by kernel_rfl:Tryz.prog.cellsOf 29 = 1),List.getElem?_eq_getElem (by omega)] at g7
  obtain ⟨z7,p7,r7,o7⟩:=Cm Tryz.underlying29 (by kernel_rfl:Tryz.prog.cellsOf 203 = 5) (by decide) (fun _=>rfl) (fun _=>rfl) Ala _ _ _ g7
  refine ⟨⟨z0,z1,z2,z3,z4,z5,z6,z7⟩,⟨p0,p1,p2,p3,p4,p5,p6,p7⟩,E,fun c hc=>?_,?_⟩
  ·simp only [List.mem_cons,List.not_mem_nil,or_false] at hc
   rcases hc with rfl | rfl | rfl | rfl | rfl | rfl | rfl | rfl <;> assumption
  ·simp only [Aq,cellsOf,RdL]
   exact ⟨_,_,E,r0,_,_,E,r1,_,_,E,r2,_,_,E,r3,_,_,E,r4,_,_,E,r5,_,_,E,r6,_,_,E,r7,E⟩
theorem Afo {t:TypeId} {fs:Array Field} {α:Type} {e:α → SV} {p:α → Prop} {sz base:Nat} {v:Value} {d:DataW H} {ps:List MemPlace} (ht:Tryz.prog.underlying t = some (.struct fs)) (hO:OpN enc Tryz.prog W t e p sz) (he:∀ x,e x = .agg (cellsOf (e x)))
  (hval:Value.okWide Tryz.prog W .any base t v) (h1:DataW.Trod enc Tryz.prog W 0 (fun _=>true) true t v d ps):∃ x,p x ∧ Rd κ0 W (e x) v:=by
 obtain ⟨cs,rfl,_⟩:=okWide_struct ht hval
 obtain ⟨fuel,hf⟩:=h1
 obtain ⟨x,h1,_,h2,h3⟩:=hO _ _ _ hf
 refine ⟨x,h1,?_⟩
 rw [he x]
 simp only [Rd]
 exact ⟨cs.toList,by simp,by simpa [Value.cells] using h2,by simpa [Value.cells] using h3⟩
theorem rd_net {base:Nat} {v:Value} {d:DataW H} {ps:List MemPlace} (hval:Value.okWide Tryz.prog W .any base 31 v) (h1:DataW.Trod enc Tryz.prog W 0 (fun _=>true) true 31 v d ps):∃ n:Net,n.In ∧ Rd κ0 W (Aq n) v :=
 Afo Tryz.underlying31 Ak9 (fun _=>rfl) hval h1
theorem Uf {t et:TypeId} {α:Type} {e:α → SV} {p:List α → Prop} {sz base:Nat} {v:Value} {d:DataW H} {ps:List MemPlace} (ht:Tryz.prog.underlying t = some (.slice et)) (hO:Op1 enc Tryz.prog W t (fun l:List α=>.sl sz e l) p)
  (hval:Value.okWide Tryz.prog W .any base t v) (h1:DataW.Trod enc Tryz.prog W 0 (fun _=>true) true t v d ps):∃ l,p l ∧ Rd κ0 W (.sl sz e l) v:=by
 obtain ⟨a,len,cap,rfl⟩:=okWide_slice ht hval
 obtain ⟨fuel,hf⟩:=h1
 obtain ⟨x,h1,h2,_⟩:=hO _ _ _ hf
 exact ⟨x,h1,h2⟩
end
end Go.Sy.YtmelpejjondedaaGreat
namespace Go.Sy.YtmelpejjondedaaGreat
open Go.Proofs
attribute [local irreducible] Go.Sy.G Go.Sy.DR
set_option maxRecDepth 100000
set_option maxHeartbeats 4000000
theorem Af5 {n:Net} (h:n.In):n.Num:=by
 refine ⟨fun x hx=>?_,fun x hx=>?_⟩
 ·have:=(h.devices.1 x hx).2.2.2.2
  simp only [wI,Lit.wf,decide_eq_true_eq,Bool.and_eq_true] at this
  exact ⟨this.1,Int.lt_of_le_of_lt this.2 (by decide)⟩
 ·have:=(h.irbs.1 x hx).2.2.2.1
  simp only [wI,Lit.wf,decide_eq_true_eq,Bool.and_eq_true] at this
  exact ⟨this.1,Int.lt_of_le_of_lt this.2 (by decide)⟩
def netW33:Net:=⟨[⟨0,0,⟨#[97]⟩,0,0⟩],[⟨0,0,10,1,-1,⟨#[112]⟩,[]⟩,⟨0,0,10,1,-1,⟨#[113]⟩,[]⟩],[],[⟨0,10,0,-1,0,[]⟩],[],[],[],[]⟩
theorem Ajs:netW33.Fin:=by
 constructor <;> first | (unfold Am; decide) | (intro x hx; unfold Am; simp only [netW33,List.mem_cons,List.not_mem_nil,or_false] at hx; first | (subst hx; decide) | (rcases hx with rfl | rfl <;> decide) | exact hx.elim)
theorem Aiu:netW33.Num:=by
 refine ⟨fun x hx=>?_,fun x hx=>?_⟩
 ·simp only [netW33,List.mem_cons,List.not_mem_nil,or_false] at hx
  subst hx
  decide
 ·cases hx
end Go.Sy.YtmelpejjondedaaGreat
namespace Go.Sy.YtmelpejjondedaaGreat
open Go.Proofs Go.ChangeShapes Go.WideShapes Go.ChangeAt Go.RowKit
set_option maxRecDepth 100000
section
variable {H:Type} {enc:TypeId × Value → H} {W:World}
theorem Aiq {P:Program} {t:TypeId} (ht:P.underlying t = some (.int .u8)):OpN enc P W t Al (fun _=>True) 1:=fun n cs y h=>by
 obtain ⟨z,h1,h2,h3,h4⟩:=X7 ht n cs y h
 have hz:0 ≤ z ∧ z < 256:=by
  simp only [Lit.wf,Bool.and_eq_true,decide_eq_true_eq] at h1
  have a:=h1.1
  have b:=h1.2
  simp only [IntKind.min,IntKind.max,IntKind.signed,IntKind.bits] at a b
  constructor <;> simp at a b <;> omega
 refine ⟨UInt8.ofNat z.toNat,Y,h2,h3,?_⟩
 have e:Al (UInt8.ofNat z.toNat) = .val (.int .u8 z):=by
  rw [Al,UInt8.toNat_ofNat_of_lt' (by show _ < 256; omega),Int.toNat_of_nonneg hz.1]
 rw [e]; exact h4
theorem Ain:Op1 enc Tryz.prog W 44 (fun l:List UInt8=>.sl 1 Al l) (fun l=>(∀ x ∈ l,True) ∧ l.length ≤ maxLen) :=
 Cm Tryz.underlying44 (by kernel_rfl:Tryz.prog.cellsOf 5 = 1) (by decide) (fun _=>rfl) (fun _=>rfl) (Aiq Tryz.underlying5)
theorem Aio:Op1 enc Tryz.prog W 45 (fun l:List Bool=>.sl 1 Ad l) (fun l=>(∀ x ∈ l,True) ∧ l.length ≤ maxLen) :=
 Cm Tryz.underlying45 (by kernel_rfl:Tryz.prog.cellsOf 4 = 1) (by decide) (fun _=>rfl) (fun _=>rfl) (Air Tryz.underlying4)
def StepM.In (x:StepM):Prop:=wI .i64 x.kind ∧ wI .i64 x.port ∧ wI .i64 x.domain ∧ wI .i64 x.at_ ∧ ((∀ y ∈ x.bytes,True) ∧ x.bytes.length ≤ maxLen) ∧ ((∀ y ∈ x.up,True) ∧ x.up.length ≤ maxLen)
theorem Af1:OpN enc Tryz.prog W 47 Bt StepM.In 6:=fun n cs y h=>by
 obtain ⟨xs,m,_,_,hlen,hx,hg⟩:=DataW.trod_struct Tryz.underlying47 h
 have hlen:cs.length = 6:=hlen.trans (by kernel_rfl:Tryz.prog.cellsOf 47 = 6)
 have hx:xs.length = 6:=hx
 match cs,hlen with
 | [c0,c1,c2,c3,c4,c5],_ =>
  have g0:DataW.trod enc Tryz.prog W 0 (fun _=>true) true m 3 (([c0,c1,c2,c3,c4,c5].drop 0).take (Tryz.prog.cellsOf 3)) = xs[0]?:=hg 0 _ rfl
  rw [(by kernel_rfl:Tryz.prog.cellsOf 3 = 1),List.getElem?_eq_getElem (by omega)] at g0
  obtain ⟨z0,p0,r0,o0⟩:=Bn Tryz.underlying3 _ _ _ g0
  have g1:DataW.trod enc Tryz.prog W 0 (fun _=>true) true m 3 (([c0,c1,c2,c3,c4,c5].drop 1).take (Tryz.prog.cellsOf 3)) = xs[1]?:=hg 1 _ rfl
  rw [(by kernel_rfl:Tryz.prog.cellsOf 3 = 1),List.getElem?_eq_getElem (by omega)] at g1
  obtain ⟨z1,p1,r1,o1⟩:=Bn Tryz.underlying3 _ _ _ g1
  have g2:DataW.trod enc Tryz.prog W 0 (fun _=>true) true m 3 (([c0,c1,c2,c3,c4,c5].drop 2).take (Tryz.prog.cellsOf 3)) = xs[2]?:=hg 2 _ rfl
  rw [(by kernel_rfl:Tryz.prog.cellsOf 3 = 1),List.getElem?_eq_getElem (by omega)] at g2
  obtain ⟨z2,p2,r2,o2⟩:=Bn Tryz.underlying3 _ _ _ g2
  have g3:DataW.trod enc Tryz.prog W 0 (fun _=>true) true m 3 (([c0,c1,c2,c3,c4,c5].drop 3).take (Tryz.prog.cellsOf 3)) = xs[3]?:=hg 3 _ rfl
  rw [(by kernel_rfl:Tryz.prog.cellsOf 3 = 1),List.getElem?_eq_getElem (by omega)] at g3
  obtain ⟨z3,p3,r3,o3⟩:=Bn Tryz.underlying3 _ _ _ g3
  have g4:DataW.trod enc Tryz.prog W 0 (fun _=>true) true m 44 (([c0,c1,c2,c3,c4,c5].drop 4).take (Tryz.prog.cellsOf 44)) = xs[4]?:=hg 4 _ rfl
  rw [(by kernel_rfl:Tryz.prog.cellsOf 44 = 1),List.getElem?_eq_getElem (by omega)] at g4
  obtain ⟨z4,p4,r4,o4⟩:=Ain _ _ _ g4
  have g5:DataW.trod enc Tryz.prog W 0 (fun _=>true) true m 45 (([c0,c1,c2,c3,c4,c5].drop 5).take (Tryz.prog.cellsOf 45)) = xs[5]?:=hg 5 _ rfl
  rw [(by kernel_rfl:Tryz.prog.cellsOf 45 = 1),List.getElem?_eq_getElem (by omega)] at g5
  obtain ⟨z5,p5,r5,o5⟩:=Aio _ _ _ g5
  refine ⟨⟨z0,z1,z2,z3,z4,z5⟩,⟨p0,p1,p2,p3,p4,p5⟩,E,fun c hc=>?_,?_⟩
  ·simp only [List.mem_cons,List.not_mem_nil,or_false] at hc
   rcases hc with rfl | rfl | rfl | rfl | rfl | rfl <;> assumption
  ·simp only [Bt,cellsOf,RdL]
   exact ⟨_,_,E,r0,_,_,E,r1,_,_,E,r2,_,_,E,r3,_,_,E,r4,_,_,E,r5,E⟩
theorem Aim:Op1 enc Tryz.prog W 32 (fun l:List StepM=>.sl 6 Bt l) (fun l=>(∀ x ∈ l,StepM.In x) ∧ l.length ≤ maxLen) :=
 Cm Tryz.underlying32 (by kernel_rfl:Tryz.prog.cellsOf 47 = 6) (by decide) (fun _=>rfl) (fun _=>rfl) Af1
def SeenM.In (x:SeenM):Prop:=wI .i64 x.port ∧ wI .i64 x.origin ∧ ((∀ y ∈ x.bytes,True) ∧ x.bytes.length ≤ maxLen)
theorem op_mac:Op1 enc Tryz.prog W 89 (fun m:Nat=>A7 m) (fun m=>m < 18446744073709551616):=fun n c y h=>by
 obtain ⟨z,h1,h2,h3⟩:=Bn (k:=.u64) Tryz.underlying89 n c y h
 have hz:0 ≤ z ∧ z < 18446744073709551616:=by
  simp only [Lit.wf,Bool.and_eq_true,decide_eq_true_eq] at h1
  have a:=h1.1
  have b:=h1.2
  simp only [IntKind.min,IntKind.max,IntKind.signed,IntKind.bits] at a b
  constructor <;> simp at a b <;> omega
 refine ⟨z.toNat,by omega,?_,h3⟩
 show Rd κ0 W (.val (.int .u64 ((z.toNat:Nat):Int))) c
 rw [show ((z.toNat:Nat):Int) = z by omega]
 exact h2
theorem Aco {t et:TypeId} {α:Type} {e:α → SV} {p:α → Prop} {sz:Nat} (ht:Tryz.prog.underlying t = some (.slice et)) (hO:Op1 enc Tryz.prog W t (fun l:List α=>.sl sz e l) (fun l=>(∀ x ∈ l,p x) ∧ l.length ≤ maxLen)) :
  OpN enc Tryz.prog W t (fun l:List α=>.sl sz e l) (fun l=>(∀ x ∈ l,p x) ∧ l.length ≤ maxLen) 1:=fun n cs y h=>by
 have h1:∃ c,cs = [c]:=by
  rcases DataW.trod_slice ht h with ⟨hcs,_⟩ | ⟨a,len,cap,elems,rest,m,_,hcs,_⟩
  ·exact ⟨_,hcs⟩
  ·exact ⟨_,hcs⟩
 obtain ⟨c,rfl⟩:=h1
 obtain ⟨x,h2,h3,h4⟩:=hO n c y h
 refine ⟨x,h2,E,fun c' hc=>by simp only [List.mem_singleton] at hc; subst hc; exact h4,?_⟩
 simp only [cellsOf,RdL]
 exact ⟨_,_,E,h3,E⟩
def EntryM.In (x:EntryM):Prop:=x.mac < 18446744073709551616 ∧ wI .i64 x.where_ ∧ wI .i64 x.seen
theorem Acq:OpN enc Tryz.prog W 137 As EntryM.In 3:=fun n cs y h=>by
 obtain ⟨xs,m,_,_,hlen,hx,hg⟩:=DataW.trod_struct Tryz.underlying137 h
 have hlen:cs.length = 3:=hlen.trans (by kernel_rfl:Tryz.prog.cellsOf 137 = 3)
 have hx:xs.length = 3:=hx
 match cs,hlen with
 | [c0,c1,c2],_ =>
  have g0:DataW.trod enc Tryz.prog W 0 (fun _=>true) true m 89 (([c0,c1,c2].drop 0).take (Tryz.prog.cellsOf 89)) = xs[0]?:=hg 0 _ rfl
  rw [(by kernel_rfl:Tryz.prog.cellsOf 89 = 1),List.getElem?_eq_getElem (by omega)] at g0
  obtain ⟨z0,p0,r0,o0⟩:=op_mac _ _ _ g0
  have g1:DataW.trod enc Tryz.prog W 0 (fun _=>true) true m 3 (([c0,c1,c2].drop 1).take (Tryz.prog.cellsOf 3)) = xs[1]?:=hg 1 _ rfl
  rw [(by kernel_rfl:Tryz.prog.cellsOf 3 = 1),List.getElem?_eq_getElem (by omega)] at g1
  obtain ⟨z1,p1,r1,o1⟩:=Bn Tryz.underlying3 _ _ _ g1
  have g2:DataW.trod enc Tryz.prog W 0 (fun _=>true) true m 3 (([c0,c1,c2].drop 2).take (Tryz.prog.cellsOf 3)) = xs[2]?:=hg 2 _ rfl
  rw [(by kernel_rfl:Tryz.prog.cellsOf 3 = 1),List.getElem?_eq_getElem (by omega)] at g2
  obtain ⟨z2,p2,r2,o2⟩:=Bn Tryz.underlying3 _ _ _ g2
  refine ⟨⟨z0,z1,z2⟩,⟨p0,p1,p2⟩,E,fun c hc=>?_,?_⟩
  ·simp only [List.mem_cons,List.not_mem_nil,or_false] at hc
   rcases hc with rfl | rfl | rfl <;> assumption
  ·simp only [As,cellsOf,RdL]
   exact ⟨_,_,E,r0,_,_,E,r1,_,_,E,r2,E⟩
theorem Af0:Op1 enc Tryz.prog W 51 (fun l:List (List EntryM)=>.sl 1 (fun t=>.sl 3 As t) l) (fun l=>(∀ x ∈ l,(∀ e ∈ x,EntryM.In e) ∧ x.length ≤ maxLen) ∧ l.length ≤ maxLen) :=
 Cm Tryz.underlying51 (by kernel_rfl:Tryz.prog.cellsOf 55 = 1) (by decide) (fun _=>rfl) (fun _=>rfl) (Aco Tryz.underlying55 (Cm Tryz.underlying55 (by kernel_rfl:Tryz.prog.cellsOf 137 = 3) (by decide) (fun _=>rfl) (fun _=>rfl) Acq))
end
end Go.Sy.YtmelpejjondedaaGreat
namespace Go.Sy.YtmelpejjondedaaGreat
open Go.Proofs
def Ku (m:MacM) (i:Nat) (t:List EntryM):MacM:=if 60 < t.length then m else (loadT m i t).1
def D2 (m0:MacM) (l:List (List EntryM)):Nat → MacM
 | 0=>m0
 | j + 1=>Ku (D2 m0 l j) j ((l[j]?).getD [])
def Adz (l:List (List EntryM)):Prop:=∀ t ∈ l,(∀ e ∈ t,EntryM.In e) ∧ t.length ≤ maxLen
theorem Zj {t:List EntryM} (h:∀ e ∈ t,EntryM.In e) (hl:t.length ≤ 60):TabOK t:=by
 refine ⟨by unfold Am; omega,fun e he=>(h e he).1,fun e he=>?_⟩
 have:=(h e he).2.1
 simp only [wI,Lit.wf,Bool.and_eq_true,decide_eq_true_eq,IntKind.max_i64] at this
 have e2:IntKind.min .i64 = -9223372036854775808:=by decide
 rw [e2] at this
 unfold I64
 omega
theorem Aaj {n:Net} {m:MacM} {J D:Int} (h:MacOK n m J D) (i:Nat) {t:List EntryM} (ht:∀ e ∈ t,EntryM.In e):MacOK n (Ku m i t) J D:=by
 unfold Ku
 split
 ·exact h
 ·rename_i hl
  unfold loadT
  split
  ·exact Xs h _ (Zj ht (by omega))
  ·exact h
theorem Ou {n:Net} {m:MacM} {J D:Int} (h:MacOK n m J D) {l:List (List EntryM)} (hl:Adz l):∀ j,MacOK n (D2 m l j) J D
 | 0=>h
 | j + 1=>by
  rw [D2]
  refine Aaj (Ou h hl j) j ?_
  by_cases hj:j < l.length
  ·rw [List.getElem?_eq_getElem hj]
   exact (hl _ (List.getElem_mem hj)).1
  ·rw [List.getElem?_eq_none (by omega)]
   intro e he
   cases he
attribute [local irreducible] Go.Sy.G Go.Sy.DR
set_option maxRecDepth 100000
set_option maxHeartbeats 4000000
end Go.Sy.YtmelpejjondedaaGreat
namespace Go.Sy.YtmelpejjondedaaGreat
open Go.Proofs
def Dx (n:Net) (tabs:List (List EntryM)):MacM:=D2 (newT n) tabs tabs.length
def runTabsT (n:Net) (tabs:List (List EntryM)) (l:List StepM):List SeenM × Int:=if okB n (Aby n) = true then ((Ca n (Dx n tabs) l).2,0) else ([],2)
def ownerI (of:List Int) (port:Int):Int:=if Aj port of.length = true then nth of port else -1
def noteL (of by_:List Int) (port:Int):List Int:=if 0 ≤ ownerI of port then by_ ++ [ownerI of port] else by_
def ownB (by_:List Int) (tenant origin:Int):Bool:=Aj (origin - 1) by_.length && decide (nth by_ (origin - 1) = tenant)
def M3 (l:List QueuedM) (by_:List Int) (tenant at_:Int):Int:=((l.take at_.toNat).countP fun q=>ownB by_ tenant q.origin:Nat)
def Ee (m:MacM) (dom:Int):List QueuedM:=if Aj dom m.queues.length = true then queueL m dom else []
def atStep (x:StepM) (at_:Int):StepM:=⟨x.kind,x.port,x.domain,at_,x.bytes,x.up⟩
def keepT (of by_:List Int) (tenant:Int) (m:MacM) (x:StepM):StepM × Bool :=
 if x.kind = 1 then (x,decide (ownerI of x.port = tenant) && decide (0 ≤ tenant))
 else if x.kind = 2 ∨ x.kind = 3 then
  (if Aj x.at_ (Ee m x.domain).length && ownB by_ tenant (((Ee m x.domain)[x.at_.toNat]?).getD noQ).origin then (atStep x (M3 (Ee m x.domain) by_ tenant x.at_),true) else (x,false))
 else (x,true)
def Kd (of by_:List Int) (tenant:Int) (m:MacM) (x:StepM):List StepM:=if (keepT of by_ tenant m x).2 = true then [(keepT of by_ tenant m x).1] else []
def byStep (of by_:List Int) (x:StepM):List Int:=if x.kind = 1 then noteL of by_ x.port else by_
def byL (of:List Int):List Int → List StepM → List Int
 | by_,[]=>by_
 | by_,x :: l=>byL of (byStep of by_ x) l
def Ey (n:Net) (of:List Int) (tenant:Int):MacM → List Int → List StepM → List StepM
 | _,_,[]=>[]
 | m,by_,x :: l=>Kd of by_ tenant m x ++ Ey n of tenant (doT n m x).1 (byStep of by_ x) l
def Ha (n:Net) (of:List Int):Bool :=
 decide (of.length = n.ports.length) && Af n && (List.range of.length).all fun i=>if (nth n.ports (i:Int)).link < 0 then decide (0 ≤ nth of (i:Int)) && decide (nth of (i:Int) ≤ 9) else decide (nth of (i:Int) = -1)
def reduceT (n:Net) (of:List Int) (tabs:List (List EntryM)) (l:List StepM) (tenant:Int):List StepM × Int :=
 if okB n (Aby n) = true ∧ Ha n of = true then (Ey n of tenant (Dx n tabs) [] l,0) else ([],2)
def Q9 (l:List SeenM) (of:List Int) (tenant:Int):List SeenM:=(l.filter fun x=>Aj x.port of.length && decide (nth of x.port = tenant)).map fun x=>⟨x.port,0,x.bytes⟩
theorem Vk (of:List Int):∀ (a b:List StepM) (by_:List Int),byL of by_ (a ++ b) = byL of (byL of by_ a) b
 | [],b,by_=>rfl
 | x :: a,b,by_=>by
  rw [List.cons_append,byL,byL,Vk of a b]
theorem Aj4 (of by_:List Int) (l:List StepM) (j:Nat) (hj:j < l.length):byL of by_ (l.take (j + 1)) = byStep of (byL of by_ (l.take j)) l[j]:=by
 rw [List.take_succ_eq_append_getElem hj,Vk]
 rfl
theorem Sg (n:Net) (of:List Int) (tenant:Int):∀ (a b:List StepM) (m:MacM) (by_:List Int),Ey n of tenant m by_ (a ++ b) = Ey n of tenant m by_ a ++ Ey n of tenant (Ca n m a).1 (byL of by_ a) b
 | [],b,m,by_=>rfl
 | x :: a,b,m,by_=>by
  rw [List.cons_append,Ey,Ey,Sg n of tenant a b,Ca,byL,List.append_assoc]
theorem Afn (n:Net) (of:List Int) (tenant:Int) (m:MacM) (by_:List Int) (l:List StepM) (j:Nat) (hj:j < l.length) :
  Ey n of tenant m by_ (l.take (j + 1)) = Ey n of tenant m by_ (l.take j) ++ Kd of (byL of by_ (l.take j)) tenant (Ca n m (l.take j)).1 l[j]:=by
 rw [List.take_succ_eq_append_getElem hj,Sg,Ey,Ey,List.append_nil]
theorem Agh (of by_:List Int) (tenant:Int) (m:MacM) (x:StepM):(Kd of by_ tenant m x).length ≤ 1:=by
 unfold Kd; split <;> simp
theorem Ua (n:Net) (of:List Int) (tenant:Int):∀ (l:List StepM) (m:MacM) (by_:List Int),(Ey n of tenant m by_ l).length ≤ l.length
 | [],m,by_=>by simp [Ey]
 | x :: l,m,by_=>by
  rw [Ey]
  have h1:=Ua n of tenant l (doT n m x).1 (byStep of by_ x)
  have h2:=Agh of by_ tenant m x
  simp only [List.length_append,List.length_cons]
  omega
theorem Adu (of by_:List Int) (x:StepM):(byStep of by_ x).length ≤ by_.length + 1:=by
 unfold byStep noteL
 split
 ·split
  ·simp
  ·omega
 ·omega
theorem Aew (of:List Int):∀ (l:List StepM) (by_:List Int),(byL of by_ l).length ≤ by_.length + l.length
 | [],by_=>by simp [byL]
 | x :: l,by_=>by
  rw [byL]
  have h1:=Aew of l (byStep of by_ x)
  have h2:=Adu of by_ x
  simp only [List.length_cons]
  omega
def Dg (m:MacM):Prop:=0 ≤ m.injected ∧ ∀ l ∈ m.queues,∀ q ∈ l,1 ≤ q.origin ∧ q.origin ≤ m.injected
theorem Jy {m:MacM} (h:Dg m) (dom:Int):∀ q ∈ queueL m dom,1 ≤ q.origin ∧ q.origin ≤ m.injected:=by
 intro q hq
 unfold queueL at hq
 by_cases hd:dom.toNat < m.queues.length
 ·exact h.2 _ (Jg hd) q hq
 ·rw [List.getElem?_eq_none (by omega)] at hq; cases hq
theorem Z9 {m:MacM} (h:Dg m) (dom:Int) {l:List QueuedM} (hl:∀ q ∈ l,1 ≤ q.origin ∧ q.origin ≤ m.injected):Dg (Xt m dom l):=by
 refine ⟨h.1,fun x hx=>?_⟩
 rcases Tj hx with rfl | hx
 ·exact hl
 ·exact h.2 x hx
theorem Z8 {m:MacM} (h:Dg m) (dom at_:Int):Dg (takeM m dom at_).1 ∧ (takeM m dom at_).1.injected = m.injected ∧ ((takeM m dom at_).2.2 = true → 1 ≤ (takeM m dom at_).2.1.origin ∧ (takeM m dom at_).2.1.origin ≤ m.injected):=by
 have hq:=Jy h dom
 unfold takeM
 split
 ·exact ⟨h,rfl,fun h=>by cases h⟩
 ·refine ⟨Z9 h dom fun q hm=>?_,E,fun ht=>?_⟩
  ·unfold takeT at hm
   split at hm
   ·exact hq q hm
   ·exact hq q (List.mem_of_mem_eraseIdx hm)
  ·dsimp only at ht ⊢
   unfold takeT at ht ⊢
   split at ht
   ·cases ht
   ·rename_i hc
    rw [if_neg hc]
    exact hq _ (Jg (by omega))
theorem Om {m:MacM} (h:Dg m) (dom:Int) {q:QueuedM} (hq:1 ≤ q.origin ∧ q.origin ≤ m.injected) (e:Int):Dg (comeM m dom q e) ∧ (comeM m dom q e).injected = m.injected:=by
 unfold comeM
 split
 ·exact ⟨h,E⟩
 split
 ·refine ⟨Z9 h dom fun x hx=>?_,E⟩
  unfold pushT at hx
  split at hx
  ·exact Jy h dom x hx
  ·rcases List.mem_append.1 hx with hx | hx
   ·exact Jy h dom x hx
   ·rw [List.mem_singleton.1 hx]; exact hq
 ·exact ⟨h,E⟩
theorem Aik {n:Net} {m:MacM} (h:Dg m) (o:OutM) {org:Int} (ho:1 ≤ org ∧ org ≤ m.injected):Dg (goesM n m o org).1 ∧ (goesM n m o org).1.injected = m.injected:=by
 unfold goesM
 split
 ·exact ⟨h,E⟩
 split
 ·exact Om h _ ho _
 split
 ·exact Om h _ ho _
 split
 ·exact Om h _ ho _
 ·exact ⟨h,E⟩
theorem Wm {n:Net} {org:Int}:∀ (l:List OutM) {m:MacM},Dg m → (1 ≤ org ∧ org ≤ m.injected) → Dg (Be n m org l).1 ∧ (Be n m org l).1.injected = m.injected
 | [],m,h,_=>⟨h,rfl⟩
 | o :: l,m,h,ho=>by
  rw [Be]
  have h1:=Aik (n:=n) h o ho
  have h2:=Wm (n:=n) (org:=org) l h1.1 (by rw [h1.2]; exact ho)
  exact ⟨h2.1,by rw [h2.2,h1.2]⟩
theorem Afz {m:MacM} (h:Dg m) (dom:Int) (r:List EntryM × List OutM × Int):Dg (I9 m dom r) ∧ (I9 m dom r).injected = m.injected:=by
 unfold I9
 split
 ·exact ⟨h,E⟩
 split
 ·exact ⟨h,E⟩
 ·exact ⟨h,E⟩
theorem Aij {n:Net} {m:MacM} (h:Dg m) (dom at_:Int):Dg (pickT n m dom at_).1 ∧ (pickT n m dom at_).1.injected = m.injected:=by
 have h1:=Z8 h dom at_
 unfold pickT
 split
 ·exact ⟨h1.1,h1.2.1⟩
 ·rename_i hc
  have h2:=Afz h1.1 dom (L9 n (takeM m dom at_).1 dom (takeM m dom at_).2.1)
  have ht:=h1.2.2 (by simpa using hc)
  have h3:=Wm (n:=n) (org:=(takeM m dom at_).2.1.origin) (L9 n (takeM m dom at_).1 dom (takeM m dom at_).2.1).2.1 h2.1 (by rw [h2.2,h1.2.1]; exact ht)
  exact ⟨h3.1,by rw [h3.2,h2.2,h1.2.1]⟩
theorem Ack {n:Net} {m:MacM} (h:Dg m) (port:Int) (b:List UInt8) (hp:Aj port n.ports.length = true) (hl:(nth n.ports port).link < 0) :
  Dg (injectT n m port b) ∧ (injectT n m port b).injected = m.injected + 1:=by
 unfold injectT
 rw [if_neg (by rw [hp]; simp; exact hl)]
 have h0:Dg ⟨m.up,m.tables,m.queues,m.now,m.injected + 1,m.drops⟩:=⟨by have:=h.1; dsimp only; omega,fun l hl q hq=>by have:=h.2 l hl q hq; dsimp only; omega⟩
 exact Om h0 _ ⟨by have:=h.1; dsimp only; omega,Int.le_refl _⟩ _
theorem S9 {n:Net} {m:MacM} (port:Int) (b:List UInt8) (hp:¬ (Aj port n.ports.length = true ∧ (nth n.ports port).link < 0)):injectT n m port b = m:=by
 unfold injectT
 rw [if_pos]
 by_cases h:Aj port n.ports.length = true
 ·exact .inr (Int.not_lt.1 fun x=>hp ⟨h,x⟩)
 ·exact .inl (by simpa using h)
def Agl (n:Net) (x:StepM):Int:=if x.kind = 1 ∧ Aj x.port n.ports.length = true ∧ (nth n.ports x.port).link < 0 then 1 else 0
theorem Aer {n:Net} {m:MacM} (h:Dg m) (x:StepM):Dg (doT n m x).1 ∧ (doT n m x).1.injected = m.injected + Agl n x:=by
 unfold doT
 by_cases hk:x.kind = 1
 ·rw [if_pos hk]
  unfold Agl
  by_cases hc:Aj x.port n.ports.length = true ∧ (nth n.ports x.port).link < 0
  ·rw [if_pos ⟨hk,hc⟩]
   exact Ack h _ _ hc.1 hc.2
  ·rw [if_neg (fun h=>hc h.2),S9 _ _ hc]
   exact ⟨h,by simp⟩
 rw [if_neg hk]
 have h0:Agl n x = 0:=by unfold Agl; rw [if_neg (fun h=>hk h.1)]
 rw [h0,Int.add_zero]
 split
 ·exact Aij h _ _
 split
 ·have:=Z8 h x.domain x.at_
  exact ⟨this.1,this.2.1⟩
 split
 ·exact ⟨h,E⟩
 split
 ·split
  ·exact ⟨h,E⟩
  ·exact ⟨h,E⟩
 ·exact ⟨h,E⟩
theorem Afj (m:MacM) (dom:Int):Xt m dom (queueL m dom) = m:=by
 unfold Xt queueL
 by_cases hd:dom.toNat < m.queues.length
 ·rw [List.getElem?_eq_getElem hd]
  simp
 ·rw [List.getElem?_eq_none (by omega),List.set_eq_of_length_le (by omega)]
theorem Wd {m:MacM} {dom at_:Int} (h:Aj at_ (Ee m dom).length = false):(takeM m dom at_).1 = m ∧ (takeM m dom at_).2.2 = false:=by
 unfold takeM
 split
 ·exact ⟨E,E⟩
 ·rename_i hd
  have hd:Aj dom m.queues.length = true:=by simpa using hd
  have hq:Ee m dom = queueL m dom:=by unfold Ee; rw [if_pos hd]
  rw [hq] at h
  have ht:takeT (queueL m dom) at_ = (noQ,queueL m dom,false):=by
   unfold takeT
   rw [if_pos]
   by_cases h1:at_ < 0
   ·exact .inl h1
   ·refine .inr ?_
    by_cases h2:(queueL m dom).length ≤ at_
    ·exact h2
    ·rw [Cb ⟨by omega,by omega⟩] at h; cases h
  rw [ht]
  exact ⟨Afj m dom,E⟩
theorem Afu {n:Net} {m:MacM} {dom at_:Int} (h:Aj at_ (Ee m dom).length = false):pickT n m dom at_ = (m,[]):=by
 have:=Wd h
 unfold pickT
 rw [if_pos this.2,this.1]
def MineB (of:List Int) (tenant:Int) (x:StepM):Prop:=x.kind = 1 → Aj x.port of.length = true ∧ nth of x.port = tenant
theorem Af6 {k:Nat} {a:Int} {i:Int} (h:Aj i k = true):nth (List.replicate k a) i = a:=by
 have:=Bh h
 rw [An (by simp; omega)]
 simp
theorem Ak2 {k:Nat} {tenant o:Int} (h:1 ≤ o ∧ o ≤ k):ownB (List.replicate k tenant) tenant o = true:=by
 have hp:Aj (o - 1) (List.replicate k tenant).length = true:=Cb (by rw [List.length_replicate]; omega)
 unfold ownB
 rw [hp]
 rw [List.length_replicate] at hp
 rw [Af6 hp]
 simp
theorem Afw {n:Net} {of:List Int} (h:Ha n of = true):of.length = n.ports.length ∧ Af n = true ∧ ∀ p,Aj p of.length = true → (if (nth n.ports p).link < 0 then 0 ≤ nth of p ∧ nth of p ≤ 9 else nth of p = -1):=by
 unfold Ha at h
 simp only [Bool.and_eq_true,decide_eq_true_eq,List.all_eq_true,List.mem_range] at h
 refine ⟨h.1.1,h.1.2,fun p hp=>?_⟩
 have hp:=Bh hp
 have:=h.2 p.toNat (by omega)
 rw [show ((p.toNat:Nat):Int) = p by omega] at this
 split at this
 ·rename_i hc; rw [if_pos hc]; simpa using this
 ·rename_i hc; rw [if_neg hc]; simpa using this
theorem Ac4 {n:Net} {of:List Int} {tenant:Int} (ho:Ha n of = true) (ht:0 ≤ tenant) {m:MacM} (hm:Dg m) {x:StepM} (hx:MineB of tenant x) :
  (Kd of (List.replicate m.injected.toNat tenant) tenant m x = [x] ∧ byStep of (List.replicate m.injected.toNat tenant) x = List.replicate (doT n m x).1.injected.toNat tenant)
  ∨ (Kd of (List.replicate m.injected.toNat tenant) tenant m x = [] ∧ doT n m x = (m,[]) ∧ byStep of (List.replicate m.injected.toNat tenant) x = List.replicate m.injected.toNat tenant):=by
 have hoa:=Afw ho
 have hin:=(Aer (n:=n) hm x).2
 by_cases h1:x.kind = 1
 ·obtain ⟨hp,he⟩:=hx h1
  have hw:ownerI of x.port = tenant:=by unfold ownerI; rw [if_pos hp,he]
  have hlk:(nth n.ports x.port).link < 0:=by
   have:=hoa.2.2 _ hp
   rw [he] at this
   split at this
   ·assumption
   ·omega
  refine .inl ⟨?_,?_⟩
  ·unfold Kd keepT
   rw [if_pos h1,hw]
   simp [ht]
  ·rw [hin]
   unfold byStep noteL Agl
   rw [if_pos h1,hw,if_pos ht,if_pos ⟨h1,by rw [← hoa.1]; exact hp,hlk⟩]
   have:=hm.1
   rw [show (m.injected + 1).toNat = m.injected.toNat + 1 by omega,List.replicate_succ']
 have hb:byStep of (List.replicate m.injected.toNat tenant) x = List.replicate m.injected.toNat tenant:=by unfold byStep; rw [if_neg h1]
 have hi0:(doT n m x).1.injected = m.injected:=by rw [hin]; unfold Agl; rw [if_neg (fun h=>h1 h.1),Int.add_zero]
 by_cases h2:x.kind = 2 ∨ x.kind = 3
 ·cases hp:Aj x.at_ (Ee m x.domain).length
  ·refine .inr ⟨?_,?_,hb⟩
   ·unfold Kd keepT
    rw [if_neg h1,if_pos h2,hp]
    rfl
   ·unfold doT
    rw [if_neg h1]
    rcases h2 with h2 | h2
    ·rw [if_pos h2,Afu hp]
    ·rw [if_neg (by omega),if_pos h2,(Wd hp).1]
  ·refine .inl ⟨?_,by rw [hi0]; exact hb⟩
   have hpi:=Bh hp
   have hall:∀ q ∈ Ee m x.domain,ownB (List.replicate m.injected.toNat tenant) tenant q.origin = true:=by
    intro q hq
    unfold Ee at hq
    split at hq
    ·have:=Jy hm _ q hq
     exact Ak2 (by omega)
    ·cases hq
   have hc:M3 (Ee m x.domain) (List.replicate m.injected.toNat tenant) tenant x.at_ = x.at_:=by
    unfold M3
    rw [List.countP_eq_length.2 (fun q hq=>hall q (List.mem_of_mem_take hq)),List.length_take]
    omega
   unfold Kd keepT
   rw [if_neg h1,if_pos h2,hp,hall _ (Jg (by omega)),hc]
   rfl
 ·refine .inl ⟨?_,by rw [hi0]; exact hb⟩
  unfold Kd keepT
  rw [if_neg h1,if_neg h2]
  rfl
theorem Q6 {n:Net} {of:List Int} {tenant:Int} (ho:Ha n of = true) (ht:0 ≤ tenant):∀ (l:List StepM) {m:MacM},Dg m → (∀ x ∈ l,MineB of tenant x) →
  Ca n m (Ey n of tenant m (List.replicate m.injected.toNat tenant) l) = Ca n m l
  ∧ Ey n of tenant m (List.replicate m.injected.toNat tenant) (Ey n of tenant m (List.replicate m.injected.toNat tenant) l) = Ey n of tenant m (List.replicate m.injected.toNat tenant) l
 | [],m,_,_=>⟨rfl,rfl⟩
 | x :: l,m,hm,hl=>by
  have hx:=hl x (by simp)
  have hm1:=(Aer (n:=n) hm x).1
  rcases Ac4 (n:=n) ho ht hm hx with ⟨h1,h2⟩ | ⟨h1,h2,h3⟩
  ·have ih:=Q6 ho ht l hm1 (fun y hy=>hl y (by simp [hy]))
   rw [Ey,h1,h2,List.singleton_append]
   refine ⟨?_,?_⟩
   ·rw [Ca,Ca,ih.1]
   ·rw [Ey,h1,h2,ih.2,List.singleton_append]
  ·have ih:=Q6 ho ht l hm (fun y hy=>hl y (by simp [hy]))
   rw [Ey,h1,h2,h3,List.nil_append]
   refine ⟨?_,ih.2⟩
   rw [ih.1,Ca,h2,List.nil_append]
theorem Zx (n:Net) (of:List Int) (tenant:Int):∀ (l:List StepM) (m:MacM) (by_:List Int),∀ y ∈ Ey n of tenant m by_ l,∃ x ∈ l,y.bytes = x.bytes ∧ y.up = x.up
 | [],m,by_,y,hy=>by cases hy
 | x :: l,m,by_,y,hy=>by
  rw [Ey] at hy
  rcases List.mem_append.1 hy with hy | hy
  ·refine ⟨x,by simp,?_⟩
   unfold Kd at hy
   split at hy
   ·rw [List.mem_singleton.1 hy]
    unfold keepT
    split
    ·exact ⟨E,E⟩
    split
    ·split
     ·exact ⟨E,E⟩
     ·exact ⟨E,E⟩
    ·exact ⟨E,E⟩
   ·cases hy
  ·obtain ⟨z,hz,h⟩:=Zx n of tenant l _ _ y hy
   exact ⟨z,by simp [hz],h⟩
theorem Aiw (n:Net):Dg (newT n):=by
 refine ⟨by simp [newT],fun l hl q hq=>?_⟩
 have:l = []:=(List.mem_replicate.1 hl).2
 rw [this] at hq; cases hq
theorem Wq {m:MacM} (h:Dg m) (tabs:List (List EntryM)):∀ j,Dg (D2 m tabs j) ∧ (D2 m tabs j).injected = m.injected
 | 0=>⟨h,rfl⟩
 | j + 1=>by
  have ih:=Wq h tabs j
  rw [D2]
  unfold Ku
  split
  ·exact ih
  ·unfold loadT
   split
   ·exact ih
   ·exact ih
def Ah3 (x y:StepM):Prop:=y.kind = x.kind ∧ y.port = x.port ∧ y.domain = x.domain ∧ y.bytes = x.bytes ∧ y.up.length = x.up.length
instance (x y:StepM):Decidable (Ah3 x y):=by unfold Ah3; infer_instance
def Al7 (l:List StepM) (x:StepM) (k:Nat):Prop:=∃ h:k < l.length,Ah3 x l[k] ∧ 0 ≤ l[k].at_ ∧ l[k].at_ ≤ x.at_
instance (l:List StepM) (x:StepM) (k:Nat):Decidable (Al7 l x k):=by unfold Al7; infer_instance
end Go.Sy.YtmelpejjondedaaGreat
namespace Go.Sy.YtmelpejjondedaaGreat
open Go.Proofs
attribute [local irreducible] Go.Sy.G Go.Sy.DR
structure Bx (Q:Prop):Prop where out:Q
theorem sE {α:Sort _} {a b:α} {K:Prop} (e:a = b) (h:K):a = b ∧ K:=⟨e,h⟩
theorem xE {α:Sort _} {a b:α} {K:a = b → Prop} (e:a = b) (h:K e):∃ e:a = b,K e:=⟨e,h⟩
theorem sL {a b:Int} {K:Prop} (e:a ≤ b) (h:K):a ≤ b ∧ K:=⟨e,h⟩
theorem xL {a b:Int} {K:a ≤ b → Prop} (e:a ≤ b) (h:K e):∃ e:a ≤ b,K e:=⟨e,h⟩
theorem sM {a b:Nat} {K:Prop} (e:a ≤ b) (h:K):a ≤ b ∧ K:=⟨e,h⟩
theorem sT {a b:Nat} {K:Prop} (e:a < b) (h:K):a < b ∧ K:=⟨e,h⟩
theorem xT {a b:Nat} {K:a < b → Prop} (e:a < b) (h:K e):∃ e:a < b,K e:=⟨e,h⟩
theorem sN {a b:Int} {K:Prop} (e:a ≠ b) (h:K):a ≠ b ∧ K:=⟨e,h⟩
theorem sI {a:Int} {K:Prop} (e:I64 a) (h:K):I64 a ∧ K:=⟨e,h⟩
theorem ct {p q:Prop} {b:Bool} (h:q) (e:b = true → False:=by
 intro _h
 first | exact absurd _h (by decide) | exact Bool.false_ne_true (Eq.trans (Eq.symm (by with_reducible assumption)) _h) | (simp at _h; done) | (simp at _h; omega)):(b = true → p) ∧ (b = false → q):=⟨fun x=>(e x).elim,fun _=>h⟩
theorem cf {p q:Prop} {b:Bool} (h:p) (e:b = false → False:=by
 intro _h
 first | exact absurd _h (by decide) | exact Bool.false_ne_true (Eq.trans (Eq.symm _h) (by with_reducible assumption)) | (simp at _h; done) | (simp at _h; omega)):(b = true → p) ∧ (b = false → q):=⟨fun _=>h,fun x=>(e x).elim⟩
theorem S {P Q:Prop} (h:Q) (e:Bx Q → P:=by
 intro hb
 first | refine rg ?_ | refine rd (by kernel_rfl) ?_ | skip
 conv=>whnf
 repeat (first
  | ((first | refine aF ?_ | refine aT ?_ | refine ct ?_ | refine cf ?_); (first | refine rg ?_ | refine rd (by kernel_rfl) ?_); (conv=>whnf))
  | ((first | refine ⟨(by kernel_rfl:Yq _ _ = true),?_⟩ | refine sI (by unfold I64; omega) ?_); (conv=>whnf)))
 exact hb.out):P:=e ⟨h⟩
theorem T {P Q:Prop} (h:Q) (e:Bx Q → P:=by
 intro hb
 refine S ?_
 repeat ((first | refine sE (by exact rfl) ?_ | refine sL (by first | omega | decide) ?_ | refine xL (by first | omega | decide) ?_ | refine sT (by first | omega | decide) ?_ | refine xT (by first | omega | decide) ?_ | refine sM (by first | omega | decide) ?_ | refine sN (by first | omega | decide) ?_ | refine xE (by exact rfl) ?_); refine S ?_)
 exact hb.out):P:=e ⟨h⟩
theorem D {P:Prop} (h:P:=by
 apply Ac
 ·exact E
 ·(repeat (first | exact ResVs.nil | (apply ResVs.cons; (first | exact .tmp | exact .cell rfl rfl rfl rfl))))
 ·exact E
 ·exact E):P:=h
theorem U {P:Prop} (h:P:=by
 refine ⟨?_,?_,E,E⟩
 ·repeat (first | exact trivial | exact rfl | refine ⟨rfl,rfl,?_⟩)
 ·repeat (first | exact trivial | refine ⟨.inl rfl,rfl,?_⟩ | refine ⟨.inr rfl,rfl,?_⟩)):P:=h
theorem Uo {P:Prop} (h:P:=by
 repeat (first | exact trivial | refine ⟨.inl rfl,rfl,?_⟩ | refine ⟨.inr rfl,rfl,?_⟩)):P:=h
theorem doneE {P:Program} {fn:Func} {F:Fr} {R:SV} {H':Obs} {Γ:Go.Sy.Ty P} {n:Nat} {bn:List Nat} {hbn:∀ k,F.k0 k ≠ .new → k ∈ bn} {k:List KI} {s:SS} {rs:List ResultVar} (hf:fn.results = rs.toArray) {xs:List SV} (hx:ResVs Γ.get s rs xs)
  (hR:R.ren (Aw []) = Wa xs) (hRn:R.inn (Obs.keys H') = true) (hsub:Sub ⟨P,Γ,F,n,Qh P fn F R H',bn,hbn⟩ s [] [] H'):G ⟨P,Γ,F,n,Qh P fn F R H',bn,hbn⟩ (.code .ret :: k) s:=done hf hx [] H' (fun _ h=>h) hR hRn hsub
theorem doneF {P:Program} {fn:Func} {F:Fr} {R:SV} {H':Obs} {Γ:Go.Sy.Ty P} {n:Nat} {bn:List Nat} {hbn:∀ k,F.k0 k ≠ .new → k ∈ bn} {s:SS} {rs:List ResultVar} (hf:fn.results = rs.toArray) {xs:List SV} (hx:ResVs Γ.get s rs xs)
  (hR:R.ren (Aw []) = Wa xs) (hRn:R.inn (Obs.keys H') = true) (hsub:Sub ⟨P,Γ,F,n,Qh P fn F R H',bn,hbn⟩ s [] [] H'):G ⟨P,Γ,F,n,Qh P fn F R H',bn,hbn⟩ [] s:=Bi hf hx [] H' (fun _ h=>h) hR hRn hsub
theorem E0 {P:Prop} (h:P:=by
 first | apply doneE | apply doneF
 ·exact E
 ·(repeat (first | exact ResVs.nil | (apply ResVs.cons; (first | exact .tmp | exact .cell rfl rfl rfl rfl))))
 ·exact E
 ·exact E
 ·exact U):P:=h
theorem W {P:Prop} (h:P:=by
 repeat (first | exact trivial | exact rfl | refine ⟨rfl,?_⟩)):P:=h
theorem V {P:Prop} (h:P:=by
 repeat (first | exact trivial | refine ⟨.inl rfl,?_⟩ | refine ⟨.inr rfl,?_⟩)):P:=h
theorem C {P:Program} {f:FuncId} {fn:Func} {c:Code} {A:List SV} {R:SV} {Z Q:Prop} (hs:Sy.Spec P f A [] R []) (hf:Fun P f fn c) (h:Q) (e:Sy.Spec P f A [] R [] → Fun P f fn c → Bx Q → Z:=by
 intro hs hf hb
 first | refine Ag hs hf rfl rfl rfl rfl rfl ?_ | refine Ay hs hf rfl rfl rfl (by kernel_rfl) rfl ?_
 refine T ?_
 exact hb.out):Z:=e hs hf ⟨h⟩
theorem X {C:Cx} {k:List KI} {s:SS} {all:Array Oper} {o:Oper} {rest:List Oper} {V:Up} {Q:Prop} (hg:Good C.P o s V) (h:Q) (hd:Mj C.n o = true:=by exact rfl) (hw:Db C.n all o s = some true:=by exact rfl) (e:Bx Q → G C (.ops all rest :: k) (s.upd o.dst V):=by
 intro hb
 refine T ?_
 exact hb.out):G C (.ops all (o :: rest) :: k) s:=Ai hg hd hw (e ⟨h⟩)
theorem Xd {C:Cx} {k:List KI} {s:SS} {all:Array Oper} {done:List Stp} {o:Oper} {rest:List Oper} {V:Up} {Q:Prop} (hg:Good C.P o s V) (h:Q) (hi:all[done.length]? = some o:=by kernel_rfl) (hw:Db C.n all o s = some true:=by exact rfl) (hn:(Em o || Iz o) = false:=by exact rfl) (e:Bx Q → DR C k all (done ++ [⟨done.length,o,V,true⟩]) rest (s.upd o.dst V):=by
 intro hb
 refine T ?_
 exact hb.out):DR C k all done (o :: rest) s:=Bu hg hi hw (e ⟨h⟩) hn
theorem Xe {C:Cx} {k:List KI} {s:SS} {all:Array Oper} {done:List Stp} {o:Oper} {rest:List Oper} {V:Up} {Q:Prop} (hg:Good C.P o s V) (h:Q) (hk:KeepL s V.objs:=by exact W) (hi:all[done.length]? = some o:=by kernel_rfl) (hw:Db C.n all o s = some true:=by exact rfl) (hn:(Em o || Iz o) = false:=by exact rfl) (e:Bx Q → DR C k all (done ++ [⟨done.length,o,⟨V.v,V.rd ++ V.ws,[]⟩,true⟩]) rest (s.upd o.dst ⟨V.v,V.rd ++ V.ws,[]⟩):=by
 intro hb
 refine T ?_
 exact hb.out):DR C k all done (o :: rest) s:=stepD2 hg hk hi hw (e ⟨h⟩) hn
end Go.Sy.YtmelpejjondedaaGreat
namespace Go.Sy.YtmelpejjondedaaGreat
open Go.Proofs
attribute [local irreducible] Go.Sy.G Go.Sy.DR
set_option maxRecDepth 100000
set_option maxHeartbeats 4000000
def Alh (of:List Int) (tenant:Int):List SV:=[.sl 1 Aa of,Aa tenant,.osl 11]
def Acx (of by_:List Int) (tenant:Int):Obs:=[(10,.box (Alh of tenant)),(11,.row 1 Aa by_)]
def ledN (of by_:List Int) (tenant:Int):Obs:=[(10,.box [.sl 1 Aa of,Aa tenant,.osl 12]),(11,.non),(12,.row 1 Aa by_)]
theorem Wt (of by_:List Int) (tenant port:Int) :
  Sy.Spec Tryz.prog 110 [.ptr 10 0,Aa port] (Acx of by_ tenant) (Aa (ownerI of port)) (Acx of by_ tenant):=Ab Γ hm 100 F110 Tryz.ntmps110 rfl fun F hF=>by
 have hres:=ownerI.eq_1 of port
 generalize ownerI of port = res at *
 refine T ?_
 refine ⟨fun h=>?_,fun h=>?_⟩
 ·rw [if_neg (by rw [Bw (by have:=of_decide_eq_true h; omega)]; simp)] at hres
  subst hres
  refine T ?_
  exact E0
 refine T ?_
 refine ⟨fun h2=>?_,fun h2=>?_⟩
 ·rw [if_neg (by rw [Bw (by have:=of_decide_eq_true h2; omega)]; simp)] at hres
  subst hres
  refine T ?_
  exact E0
 have h0:=of_decide_eq_false h
 have h1:=of_decide_eq_false h2
 have hk:port.toNat < of.length:=by omega
 rw [if_pos (Cb (by omega)),An hk] at hres
 subst hres
 refine T ?_
 exact E0
theorem Ai5 (of by_:List Int) (tenant port:Int) (hl:by_.length < 1000000) :
  Sy.Spec Tryz.prog 66 [.ptr 10 0,Aa port] (Acx of by_ tenant) (.tup []) (ledN of (noteL of by_ port) tenant):=Ab Γ hm 100 F66 Tryz.ntmps66 rfl fun F hF=>by
 have hres:=noteL.eq_1 of by_ port
 generalize noteL of by_ port = res at *
 have q:=Wt of by_ tenant port
 generalize ownerI of port = w at *
 refine T ?_
 refine X (Ah [] E F110 q E W E V) ?_
 refine ⟨fun h=>?_,fun h=>?_⟩
 ·rw [if_pos (by have:=of_decide_eq_true h; omega)] at hres
  subst hres
  refine T ?_
  refine Xe (Ah [] E F110 q E W E V) ?_
  refine Xd (Ak Γ.toTy 17 rfl rfl rfl rfl rfl (.row rfl) (.lit (e:=Aa) (l:=[w]) rfl rfl) (fun j hj=>by cases hj; decide) (by simp; omega) (by simp; omega)) ?_
  exact Bi E .nil [(12,17)] (ledN of (by_ ++ [w]) tenant) (fun _ h=>h) E E U
 ·rw [if_neg (by have:=of_decide_eq_false h; omega)] at hres
  subst hres
  refine T ?_
  refine Aki 11 12 E E (by decide) ?_
  exact E0
theorem Alg (of by_:List Int) (tenant origin:Int) (hl:by_.length < 1000000) :
  Sy.Spec Tryz.prog 111 [.ptr 10 0,Aa origin] (Acx of by_ tenant) (Ad (ownB by_ tenant origin)) (Acx of by_ tenant):=Ab Γ hm 100 F111 Tryz.ntmps111 rfl fun F hF=>by
 have hres:=ownB.eq_1 by_ tenant origin
 generalize ownB by_ tenant origin = res at *
 refine T ?_
 refine ⟨fun h=>?_,fun h=>?_⟩
 ·have h0:=of_decide_eq_true h
  refine T ?_
  refine ⟨fun h2=>?_,fun h2=>?_⟩
  ·have h1:=of_decide_eq_true h2
   have hk:(origin - 1).toNat < by_.length:=by omega
   rw [Cb (by omega),Bool.true_and,An hk] at hres
   subst hres
   refine T ?_
   exact E0
  ·rw [Bw (by have:=of_decide_eq_false h2; omega),Bool.false_and] at hres
   subst hres
   refine T ?_
   exact E0
 ·rw [Bw (by have:=of_decide_eq_false h; omega),Bool.false_and] at hres
  subst hres
  refine T ?_
  exact E0
theorem Ai1 {α β:Type} (f:α → β) (l:List α) (j:Nat) (hj:j < l.length):(l.take (j + 1)).map f = (l.take j).map f ++ [f l[j]]:=by
 rw [List.take_succ_eq_append_getElem hj,List.map_append]; rfl
theorem Abc {α:Type} (f:α → Bool) (l:List α) (j:Nat) (hj:j < l.length):(l.take (j + 1)).countP f = (l.take j).countP f + (if f l[j] then 1 else 0):=by
 rw [List.take_succ_eq_append_getElem hj,List.countP_append]; simp [List.countP_cons]
theorem Ai6 (of by_:List Int) (tenant:Int) (hl:by_.length < 1000000) :
  Sy.Spec Tryz.prog 113 [.ptr 10 0] (Acx of by_ tenant) (.sl 1 Ad (by_.map fun t=>t == tenant)) (Acx of by_ tenant):=Ab Γ hm 100 F113 Tryz.ntmps113 rfl fun F hF=>by
 refine T ?_
 refine B5 3 1000 1 Ad E E ?_
 refine A0 by_.length (fun j=>[(0,.ptr 10 0),(3,.osl 1000),(9,.osl 11),(10,Aa by_.length),(11,Aa j)]) (fun j=>[(10,.box (Alh of tenant)),(11,.row 1 Aa by_),(1000,.row 1 Ad ((by_.take j).map fun t=>t == tenant))]) [] U ?_
 intro j hj
 refine T ?_
 refine ⟨fun h=>?_,fun h=>?_⟩
 ·have hlt:j < by_.length:=by have:=of_decide_eq_true h; omega
  have hs:=Ai1 (fun t=>t == tenant) by_ j hlt
  refine T ?_
  refine X (Ak Γ.toTy 23 E E E E E (.row E) (.lit (e:=Ad) (l:=[by_[((j:Nat):Int).toNat]'(by omega) == tenant]) E E) (by simp) (by simp; omega) (by simp; omega)) ?_
  exact Ar [(1000,23)] hlt ⟨⟨E,E,E,E,E,E,E,E,E,E,Y⟩,⟨.inl E,E,.inl E,E,.inl (congrArg (Ob.row 1 Ad) hs),E,Y⟩,E,E⟩
 ·have hjj:j = by_.length:=by have:=of_decide_eq_false h; omega
  subst hjj
  rw [List.take_length]
  refine T ?_
  refine At 1000 E ?_
  exact E0
theorem Z1 (l:List QueuedM) (by_:List Int) (tenant at_:Int) (hl:l.length < 1000000) (hb:by_.length < 1000000) :
  Sy.Spec Tryz.prog 112 [.sl 7 A4 l,Aa at_,.sl 1 Ad (by_.map fun t=>t == tenant)] [] (Aa (M3 l by_ tenant at_)) []:=Ab Γ hm 100 F112 Tryz.ntmps112 rfl fun F hF=>by
 obtain ⟨v,hv⟩:∃ v:Int,(if (l.length:Int) < at_ then (l.length:Int) else at_) = v:=⟨_,rfl⟩
 have hkl:v.toNat ≤ l.length:=by split at hv <;> omega
 have hres:M3 l by_ tenant at_ = ((l.take v.toNat).countP fun q=>ownB by_ tenant q.origin:Nat):=by
  unfold M3
  split at hv
  ·subst hv
   rw [Int.toNat_natCast,List.take_length,List.take_of_length_le (by omega)]
  ·rw [hv]
 generalize M3 l by_ tenant at_ = res at *
 generalize hk:v.toNat = k at *
 refine T ?_
 refine A0 k (fun j=>[(0,.sl 7 A4 l),(1,Aa at_),(2,.sl 1 Ad (by_.map fun t=>t == tenant)),(7,Aa ((l.take j).countP fun q=>ownB by_ tenant q.origin:Nat)),(8,Aa j)]) (fun _=>[]) [] U ?_
 intro j hj
 refine T ?_
 refine X (W5 hv E E E) ?_
 refine ⟨fun h=>?_,fun h=>?_⟩
 ·have hlt:j < l.length:=by have:=of_decide_eq_true h; omega
  have hlk:j < k:=by have:=of_decide_eq_true h; omega
  have hs:=Abc (fun q=>ownB by_ tenant q.origin) l j hlt
  obtain ⟨q,hq⟩:∃ q,l[((j:Nat):Int).toNat]'(by omega) = q:=⟨_,rfl⟩
  have hq':l[j] = q:=hq
  rw [hq'] at hs
  have hc:=List.countP_le_length (p:=fun q=>ownB by_ tenant q.origin) (l:=l.take j)
  rw [List.length_take] at hc
  have hown:=ownB.eq_1 by_ tenant q.origin
  generalize ownB by_ tenant q.origin = w at *
  refine S ?_
  refine ⟨E,by omega,by omega,?_⟩
  rw [hq]
  refine T ?_
  refine ⟨fun h1=>?_,fun h1=>?_⟩
  ·refine T ?_
   refine ⟨fun h2=>?_,fun h2=>?_⟩
   ·have h1:=of_decide_eq_true h1
    have h2:=of_decide_eq_true h2
    rw [List.length_map] at h2
    have hk:(q.origin - 1).toNat < by_.length:=by omega
    rw [Cb (by omega),Bool.true_and,An hk] at hown
    have hm:(q.origin - 1).toNat < (by_.map fun t=>t == tenant).length:=by rw [List.length_map]; omega
    have he:(by_.map fun t=>t == tenant)[(q.origin - 1).toNat]'hm = w:=by rw [List.getElem_map,hown]; rfl
    refine T ?_
    rw [he]
    cases w
    ·refine T ?_
     exact Ar [] hlk ⟨⟨E,E,E,E,E,E,congrArg (fun z:Nat=>Aa z) hs,E,E,E,Y⟩,Y,E,E⟩
    ·refine T ?_
     exact Ar [] hlk ⟨⟨E,E,E,E,E,E,congrArg (fun z:Nat=>Aa z) hs,E,E,E,Y⟩,Y,E,E⟩
   ·have h1:=of_decide_eq_true h1
    have h2:=of_decide_eq_false h2
    rw [List.length_map] at h2
    rw [Bw (by omega),Bool.false_and] at hown
    subst hown
    refine T ?_
    exact Ar [] hlk ⟨⟨E,E,E,E,E,E,congrArg (fun z:Nat=>Aa z) hs,E,E,E,Y⟩,Y,E,E⟩
  ·rw [Bw (by have:=of_decide_eq_false h1; omega),Bool.false_and] at hown
   subst hown
   refine T ?_
   exact Ar [] hlk ⟨⟨E,E,E,E,E,E,congrArg (fun z:Nat=>Aa z) hs,E,E,E,Y⟩,Y,E,E⟩
 ·have hjj:j = k:=by have:=of_decide_eq_false h; omega
  subst hjj
  subst hres
  refine T ?_
  exact D
def Ahx (n:Net) (m:MacM) (d:Bool) (of by_:List Int) (tenant:Int):Obs:=[(0,.box (Oa n 1 m.now m.injected m.drops)),(1,.box (Io n m.up d)),(2,.row 1 Ej m.tables),(3,.row 1 Oj m.queues),(10,.box (Alh of tenant)),(11,.row 1 Aa by_)]
theorem Ai7 (n:Net) (m:MacM) (d:Bool) (of by_:List Int) (tenant:Int) (x:StepM) (hq:∀ dom,D1 (queueL m dom)) (hb:by_.length < 1000000) (hx1:x.bytes.length < 100000) (hx2:x.up.length < 100000) :
  Sy.Spec Tryz.prog 65 [.ptr 10 0,.ptr 0 0,Bt x] (Ahx n m d of by_ tenant) (.tup [Bt (keepT of by_ tenant m x).1,Ad (keepT of by_ tenant m x).2]) (Ahx n m d of by_ tenant):=Ab Γ hm 100 F65 Tryz.ntmps65 rfl fun F hF=>by
 have hres:=keepT.eq_1 of by_ tenant m x
 generalize keepT of by_ tenant m x = res at *
 refine T ?_
 refine C (E5 x.bytes (by omega)) F63 ?_
 refine C (Vi x.up (by omega)) F55 ?_
 refine ⟨fun h=>?_,fun h=>?_⟩
 ·have h1:x.kind = 1:=by simpa using h
  rw [if_pos h1] at hres
  subst hres
  have q:=Wt of by_ tenant x.port
  generalize ownerI of x.port = w at *
  refine T ?_
  refine Xe (Ah [] E F110 q E W E V) ?_
  by_cases hw:w = tenant
  ·rw [decide_eq_true hw,Bool.true_and]
   refine ⟨fun h2=>?_,fun h2=>absurd (hw:w = tenant) (by simpa using h2)⟩
   refine T ?_
   exact E0
  ·rw [decide_eq_false hw,Bool.false_and]
   refine ⟨fun h2=>absurd (by simpa using h2) hw,fun h2=>?_⟩
   refine T ?_
   exact E0
 have h1:¬ x.kind = 1:=by simpa using h
 rw [if_neg h1] at hres
 clear h
 by_cases h23:x.kind = 2 ∨ x.kind = 3
 ·rw [if_pos h23] at hres
  have hqo:=hq x.domain
  have q1:Sy.Spec Tryz.prog 57 [.ptr 0 0,Aa x.domain] (B6 n m d) (.sl 7 A4 (Ee m x.domain)) (B6 n m d):=Afg n m d x.domain hqo
  have hql:(Ee m x.domain).length ≤ 64:=by
   unfold Ee
   split
   ·exact hqo.1
   ·exact Nat.zero_le _
  generalize Ee m x.domain = l at *
  have q4:=Ai6 of by_ tenant hb
  have q5:=Z1 l by_ tenant x.at_ (by omega) hb
  refine T ?_
  refine ⟨fun h=>?_,fun h=>?_⟩
  rotate_left
  have h2:¬ x.kind = 2:=by simpa using h
  clear h
  refine T ?_
  rotate_left
  all_goals
   refine T ?_
   refine X (Ah [] E F57 q1 E W E V) ?_
   refine ⟨fun h=>?_,fun h=>?_⟩
   ·have h0:=of_decide_eq_true h
    rw [Bw (by omega),Bool.false_and,if_neg (by simp)] at hres
    subst hres
    refine T ?_
    exact E0
   have h0:=of_decide_eq_false h
   refine T ?_
   refine ⟨fun h=>?_,fun h=>?_⟩
   ·have h1:=of_decide_eq_true h
    rw [Bw (by omega),Bool.false_and,if_neg (by simp)] at hres
    subst hres
    refine T ?_
    exact E0
   have h1:=of_decide_eq_false h
   have hlt:x.at_.toNat < l.length:=by omega
   rw [Cb (by omega),Bool.true_and,List.getElem?_eq_getElem hlt,Option.getD_some] at hres
   obtain ⟨q,hqq⟩:∃ q,l[x.at_.toNat]'hlt = q:=⟨_,rfl⟩
   rw [hqq] at hres
   have q3:=Alg of by_ tenant q.origin hb
   generalize ownB by_ tenant q.origin = w at *
   refine S ?_
   refine ⟨E,by omega,hlt,?_⟩
   rw [hqq]
   refine T ?_
   refine X (Ce [] (Eh E E F111) q3 E W E V) ?_
   cases w
   ·rw [if_neg (by simp)] at hres
    subst hres
    refine T ?_
    exact E0
   rw [if_pos rfl] at hres
   subst hres
   refine T ?_
   refine Xe (Ah [] E F113 q4 E W E V) ?_
   refine C q5 F112 ?_
   exact E0
 ·rw [if_neg h23] at hres
  subst hres
  refine T ?_
  exact E0
structure TabsOK (tabs:List (List EntryM)):Prop where
 few:tabs.length ≤ 60
 tab:∀ t ∈ tabs,t.length ≤ 60
 ok:Adz tabs
theorem Acw {n:Net} {tabs:List (List EntryM)} (h:TabsOK tabs) (m:MacM) (j:Nat) (hj:j < tabs.length):D2 m tabs (j + 1) = (loadT (D2 m tabs j) j tabs[j]).1:=by
 rw [D2,O5 hj,Ku,if_neg (by have:=h.tab _ (List.getElem_mem hj); omega)]
theorem Aga {m:MacM} {j:Nat} {t:List EntryM} (h:¬ j < m.queues.length):(loadT m j t).1 = m:=by
 unfold loadT
 rw [if_neg]
 intro hc
 have:=(placeB_iff.1 hc.1).2
 omega
theorem Kb (n:Net) (hn:n.Fin) (tabs:List (List EntryM)) (hok:okB n (Aby n) = false) :
  Sy.Spec Tryz.prog 64 [Aq n,.sl 1 Ej tabs] [] (.tup [.val (.pointer none),Aa 2]) []:=Ab Γ hm 100 F64 Tryz.ntmps64 rfl fun F hF=>by
 refine T ?_
 refine C (Ab5 n hn hok) F18 ?_
 exact D
theorem M9 (n:Net) (hn:n.Fin) (tabs:List (List EntryM)) (ht:TabsOK tabs) (hok:okB n (Aby n) = true) :
  Sy.Spec Tryz.prog 64 [Aq n,.sl 1 Ej tabs] [] (.tup [.ptr 0 0,Aa 0]) (B6 n (Dx n tabs) false):=Ab Γ hm 100 F64 Tryz.ntmps64 rfl fun F hF=>by
 have q1:=Akz n hn hok
 have hn0:=X8 n
 unfold Dx
 generalize newT n = m0 at *
 have htl:=ht.few
 have hds:=hn.domains
 unfold Am at hds
 refine T ?_
 refine X (Ah [(0,800),(1,801),(2,802),(3,803)] E F18 q1 E W E V) ?_
 refine E7 2 902 E E (by decide) ?_
 refine A0 tabs.length (fun j=>[(2,.ptr 902 0),(6,.ptr 0 0),(18,.sl 1 Ej tabs),(19,Aa tabs.length),(20,Aa j)]) (fun j=>[(0,.box (Oa n 1 (D2 m0 tabs j).now (D2 m0 tabs j).injected (D2 m0 tabs j).drops)),(1,.box (Io n (D2 m0 tabs j).up false)),(2,.row 1 Ej (D2 m0 tabs j).tables),(3,.row 1 Oj (D2 m0 tabs j).queues),(902,.box (Aab n))]) [(0,800),(1,801),(2,802),(3,803)] U ?_
 intro j hj
 have hok0:=Ou hn0 ht.ok j
 refine T ?_
 refine ⟨fun h=>?_,fun h=>?_⟩
 ·have hlt:j < tabs.length:=by have:=of_decide_eq_true h; omega
  have hj0:((j:Nat):Int).toNat < tabs.length:=by simpa using hlt
  obtain ⟨t,hoo⟩:∃ t,tabs[j] = t:=⟨_,rfl⟩
  have e1:tabs[((j:Nat):Int).toNat]'hj0 = t:=hoo
  have hs:=Acw (n:=n) ht m0 j hlt
  rw [hoo] at hs
  have hti:=ht.ok t (by rw [← hoo]; exact List.getElem_mem hlt)
  have htt:=ht.tab t (by rw [← hoo]; exact List.getElem_mem hlt)
  have hto:=Zj hti.1 htt
  have hqd:=hok0.ques
  have q2:=Ahw n (D2 m0 tabs j) false j t (by rw [hok0.tabs,hok0.ques]) hto.short hto.mac
  have hout:=Aga (m:=D2 m0 tabs j) (j:=j) (t:=t)
  rw [← hs] at q2 hout
  clear h
  refine S ?_
  refine ⟨E,by omega,hj0,?_⟩
  rw [e1]
  refine T ?_
  refine ⟨fun h=>?_,fun h=>?_⟩
  ·refine T ?_
   refine X (Ah [] E F19 q2 E W E V) ?_
   exact Ar [] hlt U
  ·have hm:=hout (by have:=of_decide_eq_false h; omega)
   refine T ?_
   refine Ar [] hlt ⟨⟨E,E,E,E,E,E,E,E,E,E,Y⟩,?_,E,E⟩
   dsimp only
   rw [hm]
   exact Uo
 ·have hjj:j = tabs.length:=by have:=of_decide_eq_false h; omega
  subst hjj
  refine T ?_
  exact E0
theorem Wh (n:Net) (hn:n.Fin) (hm1:n.Num) (tabs:List (List EntryM)) (ht:TabsOK tabs) (l:List StepM) (hl:ScriptOK l) :
  Sy.Spec Tryz.prog 30 [Aq n,.sl 1 Ej tabs,.sl 6 Bt l] [] (.tup [.sl 3 Bp (runTabsT n tabs l).1,Aa (runTabsT n tabs l).2]) []:=Ab Γ hm 100 F30 Tryz.ntmps30 rfl fun F hF=>by
 have hres:=runTabsT.eq_1 n tabs l
 generalize runTabsT n tabs l = res at *
 have hlen:=hl.few
 cases hok:okB n (Aby n)
 ·rw [if_neg (by rw [hok]; simp)] at hres
  subst hres
  refine T ?_
  refine C (Kb n hn tabs hok) F64 ?_
  refine Ao 6 3 Bp E ?_
  exact D
 ·rw [if_pos hok] at hres
  subst hres
  have q1:=M9 n hn tabs ht hok
  have hn0:MacOK n (Dx n tabs) 0 0:=Ou (X8 n) ht.ok _
  generalize Dx n tabs = m0 at *
  refine T ?_
  refine X (Ah [(0,800),(1,801),(2,802),(3,803)] E F64 q1 E W E V) ?_
  refine B5 10 1000 3 Bp E E ?_
  refine A0 l.length (fun j=>[(8,.ptr 0 0),(10,.osl 1000),(24,.sl 6 Bt l),(25,Aa l.length),(26,Aa j)]) (fun j=>runO n (Ca n m0 (l.take j)).1 (runD n m0 false (l.take j)) (Ca n m0 (l.take j)).2) [(0,800),(1,801),(2,802),(3,803)] U ?_
  intro j hj
  refine T ?_
  refine ⟨fun h=>?_,fun h=>?_⟩
  ·have hlt:j < l.length:=by have:=of_decide_eq_true h; omega
   have hj0:((j:Nat):Int).toNat < l.length:=by simpa using hlt
   obtain ⟨x,hoo⟩:∃ x,l[j] = x:=⟨_,rfl⟩
   have e1:l[((j:Nat):Int).toNat]'hj0 = x:=hoo
   have hs:=Wj n m0 l j hlt
   have hds:=Wk n m0 false l j hlt
   rw [hoo] at hs hds
   have hxb:=hl.bytes x (by rw [← hoo]; exact List.getElem_mem hlt)
   have hjo:=Xu hn hm1 (l.take j) hn0 (Int.le_refl _) (Int.le_refl _)
   have hjl:(l.take j).length = j:=by rw [List.length_take]; omega
   have hjf:=T4 hn (l.take j) m0
   rw [hjl] at hjo hjf
   have q5:=Ah0 n hn hm1 (Ca n m0 (l.take j)).1 (runD n m0 false (l.take j)) _ _ hjo (by omega) (by omega) (by omega) x (by omega)
   have hfw:=Aes hn (Ca n m0 (l.take j)).1 x
   have g1:(Ca n m0 (l.take (j + 1))).1 = (doT n (Ca n m0 (l.take j)).1 x).1:=by rw [hs]
   have g2:(Ca n m0 (l.take (j + 1))).2 = (Ca n m0 (l.take j)).2 ++ (doT n (Ca n m0 (l.take j)).1 x).2:=by rw [hs]
   clear h
   refine S ?_
   refine ⟨E,by omega,hj0,?_⟩
   rw [e1]
   refine T ?_
   refine X (Ah [(4,33)] E F21 q5 E W E V) ?_
   refine X (Ak Γ.toTy 38 E E E E E (.row E) .sl (by simp) (by omega) (by omega)) ?_
   refine Ar [(1,33),(1000,38)] hlt ⟨⟨E,E,E,E,E,E,E,E,E,E,Y⟩,?_,E,E⟩
   dsimp only
   rw [g1,g2,hds]
   exact Uo
  ·have hjj:j = l.length:=by have:=of_decide_eq_false h; omega
   subst hjj
   rw [List.take_length]
   clear h
   refine T ?_
   refine At 1000 E ?_
   exact D
def ownAt (n:Net) (of:List Int) (i:Nat):Bool:=if (nth n.ports (i:Int)).link < 0 then decide (0 ≤ nth of (i:Int)) && decide (nth of (i:Int) ≤ 9) else decide (nth of (i:Int) = -1)
theorem Aci (n:Net) (of:List Int):Ha n of = (decide (of.length = n.ports.length) && Af n && (List.range of.length).all (ownAt n of)):=rfl
theorem Afq {k:Nat} {p:Nat → Bool} (h:∀ i,i < k → p i = true):(List.range k).all p = true:=by
 rw [List.all_eq_true]
 intro i hi
 exact h i (List.mem_range.1 hi)
theorem Afp {k j:Nat} {p:Nat → Bool} (hj:j < k) (h:p j = false):(List.range k).all p = false:=by
 rw [Bool.eq_false_iff]
 intro ha
 have:=List.all_eq_true.1 ha j (List.mem_range.2 hj)
 rw [h] at this; cases this
theorem X3 (n:Net) (hn:n.Fin) (of:List Int):Sy.Spec Tryz.prog 28 [Aq n,.sl 1 Aa of] [] (Ad (Ha n of)) []:=Ab Γ hm 100 F28 Tryz.ntmps28 rfl fun F hF=>by
 have hres:=Aci n of
 generalize Ha n of = res at *
 have qr:=Bm n hn
 have hps:=hn.ports
 unfold Am at hps
 generalize Af n = nr at *
 refine T ?_
 refine ⟨fun h=>?_,fun h=>?_⟩
 ·rw [decide_eq_false (show ¬ of.length = n.ports.length by simp at h; omega),Bool.false_and,Bool.false_and] at hres
  subst hres
  refine T ?_
  exact D
 have hlen:of.length = n.ports.length:=by simp at h; omega
 rw [decide_eq_true hlen,Bool.true_and] at hres
 refine T ?_
 refine C qr F67 ?_
 cases nr
 ·rw [Bool.false_and] at hres
  subst hres
  refine T ?_
  exact D
 rw [Bool.true_and] at hres
 refine T ?_
 refine Bc of.length (fun j=>∀ i,i < j → ownAt n of i = true) (fun j=>[(2,.ptr 2 0),(19,.sl 1 Aa of),(20,Aa of.length),(21,Aa j)]) (fun _=>[(2,.box (Aab n))]) [] (fun i hi=>absurd hi (Nat.not_lt_zero i)) U ?_
 intro j hj hI
 refine T ?_
 refine ⟨fun h=>?_,fun h=>?_⟩
 ·have hlt:j < of.length:=by have:=of_decide_eq_true h; omega
  have hj0:((j:Nat):Int).toNat < of.length:=by simpa using hlt
  have hj1:((j:Nat):Int).toNat < n.ports.length:=by rw [← hlen]; exact hj0
  have hat:=ownAt.eq_1 n of j
  rw [An hj1,An hj0] at hat
  obtain ⟨w,hw⟩:∃ w,of[((j:Nat):Int).toNat]'hj0 = w:=⟨_,rfl⟩
  obtain ⟨p,hp⟩:∃ p,n.ports[((j:Nat):Int).toNat]'hj1 = p:=⟨_,rfl⟩
  rw [hw,hp] at hat
  have bad:ownAt n of j = false → res = false:=fun hb=>by rw [hres]; exact Afp hlt hb
  have good:ownAt n of j = true → ∀ i,i < j + 1 → ownAt n of i = true:=fun hb i hi=>by
   by_cases he:i = j
   ·subst he; exact hb
   ·exact hI i (by omega)
  generalize ownAt n of j = g at *
  clear h
  refine S ?_
  refine ⟨E,by omega,hj0,?_⟩
  rw [hw]
  refine S ?_
  refine ⟨E,by omega,hj1,?_⟩
  rw [hp]
  refine T ?_
  refine ⟨fun h1=>?_,fun h1=>?_⟩
  ·have hl:=of_decide_eq_true h1
   rw [if_neg (by omega)] at hat
   refine T ?_
   refine ⟨fun h2=>?_,fun h2=>?_⟩
   ·have hr:=bad (by rw [hat]; simp at h2; simp; omega)
    subst hr
    refine T ?_
    exact D
   ·have hx:=good (by rw [hat]; simp at h2; simp; omega)
    refine T ?_
    refine Ba [] hI hlt hx ?_
    exact U
  ·have hl:=of_decide_eq_false h1
   rw [if_pos (by omega),← Bool.decide_and] at hat
   refine T ?_
   refine ⟨fun h2=>?_,fun h2=>?_⟩
   ·have hr:=bad (by rw [hat]; exact decide_eq_false (by have:=of_decide_eq_true h2; omega))
    subst hr
    refine T ?_
    exact D
   refine T ?_
   refine ⟨fun h3=>?_,fun h3=>?_⟩
   ·have hr:=bad (by rw [hat]; exact decide_eq_false (by have:=of_decide_eq_true h3; omega))
    subst hr
    refine T ?_
    exact D
   have hx:=good (by rw [hat]; exact decide_eq_true (by have:=of_decide_eq_false h2; have:=of_decide_eq_false h3; omega))
   refine T ?_
   refine Ba [] hI hlt hx ?_
   exact U
 ·have hjj:j = of.length:=by have:=of_decide_eq_false h; omega
  subst hjj
  have hr:res = true:=by rw [hres]; exact Afq hI
  subst hr
  refine T ?_
  exact D
def redO (n:Net) (of:List Int) (tenant:Int) (m:MacM) (d:Bool) (by_:List Int) (out:List StepM):Obs :=
 [(0,.box (Oa n 1 m.now m.injected m.drops)),(1,.box (Io n m.up d)),(2,.row 1 Ej m.tables),(3,.row 1 Oj m.queues),(10,.box (Alh of tenant)),(11,.row 1 Aa by_),(1000,.row 6 Bt out)]
theorem Hr (n:Net) (hn:n.Fin) (hm1:n.Num) (of:List Int) (tabs:List (List EntryM)) (ht:TabsOK tabs) (l:List StepM) (hl:ScriptOK l) (hu:∀ x ∈ l,x.up.length < 100000) (tenant:Int) :
  Sy.Spec Tryz.prog 27 [Aq n,.sl 1 Aa of,.sl 1 Ej tabs,.sl 6 Bt l,Aa tenant] [] (.tup [.sl 6 Bt (reduceT n of tabs l tenant).1,Aa (reduceT n of tabs l tenant).2]) []:=Ab Γ hm 100 F27 Tryz.ntmps27 rfl fun F hF=>by
 have hres:=reduceT.eq_1 n of tabs l tenant
 generalize reduceT n of tabs l tenant = res at *
 have hlen:=hl.few
 cases hok:okB n (Aby n)
 ·rw [if_neg (by rw [hok]; simp)] at hres
  subst hres
  refine T ?_
  refine C (Kb n hn tabs hok) F64 ?_
  refine Ao 10 6 Bt E ?_
  exact D
 have q1:=M9 n hn tabs ht hok
 have q2:=X3 n hn of
 have hn0:MacOK n (Dx n tabs) 0 0:=Ou (X8 n) ht.ok _
 generalize Dx n tabs = m0 at *
 refine T ?_
 refine X (Ah [(0,800),(1,801),(2,802),(3,803)] E F64 q1 E W E V) ?_
 refine C q2 F28 ?_
 cases how:Ha n of
 ·rw [if_neg (by rw [how]; simp)] at hres
  subst hres
  refine T ?_
  refine Ao 10 6 Bt E ?_
  exact D
 rw [if_pos ⟨hok,how⟩] at hres
 subst hres
 refine T ?_
 refine B5 15 1000 6 Bt E E ?_
 refine Abu 37 2 1001 1 Aa E E E E ?_
 refine A0 l.length (fun j=>[(12,.ptr 0 0),(14,.ptr 10 0),(15,.osl 1000),(38,.sl 6 Bt l),(39,Aa l.length),(40,Aa j)]) (fun j=>redO n of tenant (Ca n m0 (l.take j)).1 (runD n m0 false (l.take j)) (byL of [] (l.take j)) (Ey n of tenant m0 [] (l.take j))) [(0,800),(1,801),(2,802),(3,803),(10,37),(11,1001)] U ?_
 intro j hj
 refine T ?_
 refine ⟨fun h=>?_,fun h=>?_⟩
 ·have hlt:j < l.length:=by have:=of_decide_eq_true h; omega
  have hj0:((j:Nat):Int).toNat < l.length:=by simpa using hlt
  obtain ⟨x,hoo⟩:∃ x,l[j] = x:=⟨_,rfl⟩
  have e1:l[((j:Nat):Int).toNat]'hj0 = x:=hoo
  have hs:=Wj n m0 l j hlt
  have hds:=Wk n m0 false l j hlt
  have hbs:=Aj4 of [] l j hlt
  have hrs:=Afn n of tenant m0 [] l j hlt
  rw [hoo] at hs hds hbs hrs
  have hxb:=hl.bytes x (by rw [← hoo]; exact List.getElem_mem hlt)
  have hxu:=hu x (by rw [← hoo]; exact List.getElem_mem hlt)
  have hjo:=Xu hn hm1 (l.take j) hn0 (Int.le_refl _) (Int.le_refl _)
  have hjl:(l.take j).length = j:=by rw [List.length_take]; omega
  have hbl:=Aew of (l.take j) []
  have hrl:=Ua n of tenant (l.take j) m0 []
  rw [hjl] at hjo hbl hrl
  rw [List.length_nil] at hbl
  have q5:=Ah0 n hn hm1 (Ca n m0 (l.take j)).1 (runD n m0 false (l.take j)) _ _ hjo (by omega) (by omega) (by omega) x (by omega)
  have g1:(Ca n m0 (l.take (j + 1))).1 = (doT n (Ca n m0 (l.take j)).1 x).1:=by rw [hs]
  have q3:=Ai7 n (Ca n m0 (l.take j)).1 (runD n m0 false (l.take j)) of (byL of [] (l.take j)) tenant x (fun dom=>Dw hjo dom) (by omega) (by omega) hxu
  have q4:=Ai5 of (byL of [] (l.take j)) tenant x.port (by omega)
  have hkl:Kd of (byL of [] (l.take j)) tenant (Ca n m0 (l.take j)).1 x = if (keepT of (byL of [] (l.take j)) tenant (Ca n m0 (l.take j)).1 x).2 = true then [(keepT of (byL of [] (l.take j)) tenant (Ca n m0 (l.take j)).1 x).1] else []:=rfl
  generalize keepT of (byL of [] (l.take j)) tenant (Ca n m0 (l.take j)).1 x = yb at *
  obtain ⟨y,b⟩:=yb
  have hb1:=byStep.eq_1 of (byL of [] (l.take j)) x
  clear h hs
  refine S ?_
  refine ⟨E,by omega,hj0,?_⟩
  rw [e1]
  refine T ?_
  refine X (Ah [] E F65 q3 E W E V) ?_
  cases b
  ·rw [hkl,if_neg (by simp),List.append_nil] at hrs
   refine T ?_
   refine ⟨fun h=>?_,fun h=>?_⟩
   ·rw [if_pos (by simpa using h)] at hb1
    refine T ?_
    refine X (Ah [(12,62)] E F66 q4 E W E V) ?_
    refine X (Ah [(4,65)] E F21 q5 E W E V) ?_
    refine Ar [(1,65),(11,62)] hlt ⟨⟨E,E,E,E,E,E,E,E,E,E,E,E,Y⟩,?_,E,E⟩
    dsimp only
    rw [g1,hds,hbs,hrs,hb1]
    exact Uo
   ·rw [if_neg (by simpa using h)] at hb1
    refine T ?_
    refine X (Ah [(4,65)] E F21 q5 E W E V) ?_
    refine Ar [(1,65)] hlt ⟨⟨E,E,E,E,E,E,E,E,E,E,E,E,Y⟩,?_,E,E⟩
    dsimp only
    rw [g1,hds,hbs,hrs,hb1]
    exact Uo
  ·rw [hkl,if_pos rfl] at hrs
   refine T ?_
   refine X (Ak Γ.toTy 55 rfl rfl rfl rfl rfl (.row rfl) (.lit (e:=Bt) (l:=[y]) rfl rfl) (fun j hj=>by cases hj; decide) (by simp; omega) (by simp; omega)) ?_
   refine ⟨fun h=>?_,fun h=>?_⟩
   ·rw [if_pos (by simpa using h)] at hb1
    refine T ?_
    refine X (Ah [(12,62)] E F66 q4 E W E V) ?_
    refine X (Ah [(4,65)] E F21 q5 E W E V) ?_
    refine Ar [(1,65),(11,62),(1000,55)] hlt ⟨⟨E,E,E,E,E,E,E,E,E,E,E,E,Y⟩,?_,E,E⟩
    dsimp only
    rw [g1,hds,hbs,hrs,hb1]
    exact Uo
   ·rw [if_neg (by simpa using h)] at hb1
    refine T ?_
    refine X (Ah [(4,65)] E F21 q5 E W E V) ?_
    refine Ar [(1,65),(1000,55)] hlt ⟨⟨E,E,E,E,E,E,E,E,E,E,E,E,Y⟩,?_,E,E⟩
    dsimp only
    rw [g1,hds,hbs,hrs,hb1]
    exact Uo
 ·have hjj:j = l.length:=by have:=of_decide_eq_false h; omega
  subst hjj
  rw [List.take_length]
  refine T ?_
  refine At 1000 E ?_
  exact D
theorem Ii {κ:Ka} {w:World} {a a':SV} {l l':List SV} (h1:∀ v,Rd κ w a' v → Rd κ w a v) (h2:∀ vs,RdL κ w l' vs → RdL κ w l vs):∀ vs,RdL κ w (a' :: l') vs → RdL κ w (a :: l) vs:=by
 intro vs h
 simp only [RdL] at h ⊢
 obtain ⟨v,r,e1,e2,e3⟩:=h
 exact ⟨v,r,e1,h1 v e2,h2 r e3⟩
structure SeensOK (l:List SeenM):Prop where
 few:l.length ≤ 200
 bytes:∀ x ∈ l,x.bytes.length ≤ 2000
def viewX (of:List Int) (tenant:Int) (x:SeenM):List SeenM:=if (Aj x.port of.length && decide (nth of x.port = tenant)) = true then [⟨x.port,0,x.bytes⟩] else []
theorem Abx (of:List Int) (tenant:Int) (l:List SeenM) (j:Nat) (hj:j < l.length):Q9 (l.take (j + 1)) of tenant = Q9 (l.take j) of tenant ++ viewX of tenant l[j]:=by
 unfold Q9 viewX
 rw [List.take_succ_eq_append_getElem hj,List.filter_append,List.map_append]
 congr 1
 by_cases h:(Aj l[j].port of.length && decide (nth of l[j].port = tenant)) = true
 ·rw [if_pos h,List.filter_cons_of_pos (p:=fun x:SeenM=>Aj x.port of.length && decide (nth of x.port = tenant)) h]; rfl
 ·rw [if_neg h,List.filter_cons_of_neg (p:=fun x:SeenM=>Aj x.port of.length && decide (nth of x.port = tenant)) h]; rfl
theorem Ae5 (of:List Int) (tenant:Int) (l:List SeenM):(Q9 l of tenant).length ≤ l.length:=by
 unfold Q9
 rw [List.length_map]
 exact List.length_filter_le _ _
theorem Ab3 (l:List SeenM) (hl:SeensOK l) (of:List Int) (tenant:Int) :
  Sy.Spec Tryz.prog 24 [.sl 3 Bp l,.sl 1 Aa of,Aa tenant] [] (.sl 3 Bp (Q9 l of tenant)) []:=Ab Γ hm 100 F24 Tryz.ntmps24 rfl fun F hF=>by
 have hlen:=hl.few
 refine T ?_
 refine B5 7 1000 3 Bp E E ?_
 refine A0 l.length (fun j=>[(1,.sl 1 Aa of),(2,Aa tenant),(7,.osl 1000),(10,.sl 3 Bp l),(11,Aa l.length),(12,Aa j)]) (fun j=>[(1000,.row 3 Bp (Q9 (l.take j) of tenant))]) [] U ?_
 intro j hj
 refine T ?_
 refine ⟨fun h=>?_,fun h=>?_⟩
 ·have hlt:j < l.length:=by have:=of_decide_eq_true h; omega
  have hj0:((j:Nat):Int).toNat < l.length:=by simpa using hlt
  obtain ⟨x,hoo⟩:∃ x,l[j] = x:=⟨_,rfl⟩
  have e1:l[((j:Nat):Int).toNat]'hj0 = x:=hoo
  have hs:=Abx of tenant l j hlt
  have hvl:=Ae5 of tenant (l.take j)
  rw [List.length_take] at hvl
  have hxb:=hl.bytes x (by rw [← hoo]; exact List.getElem_mem hlt)
  rw [hoo] at hs
  have hv:=viewX.eq_1 of tenant x
  generalize viewX of tenant x = v at *
  clear h
  refine S ?_
  refine ⟨E,by omega,hj0,?_⟩
  rw [e1]
  refine T ?_
  refine ⟨fun h1=>?_,fun h1=>?_⟩
  ·have h1:=of_decide_eq_true h1
   refine T ?_
   refine ⟨fun h2=>?_,fun h2=>?_⟩
   ·have h2:=of_decide_eq_true h2
    have hk:x.port.toNat < of.length:=by omega
    rw [Cb (by omega),Bool.true_and,An hk] at hv
    refine T ?_
    refine ⟨fun h3=>?_,fun h3=>?_⟩
    ·rw [if_pos (decide_eq_true (by simpa using h3))] at hv
     subst hv
     refine T ?_
     refine C (E5 x.bytes (by omega)) F63 ?_
     refine Xd (Ak Γ.toTy 43 rfl rfl rfl rfl rfl (.row rfl) (.lit (e:=Bp) (l:=[⟨x.port,0,x.bytes⟩]) rfl rfl) (fun j hj=>by cases hj; decide) (by simp; omega) (by simp; omega)) ?_
     refine Ar [(1000,43)] hlt ⟨⟨E,E,E,E,E,E,E,E,E,E,E,E,Y⟩,⟨.inl (congrArg (Ob.row 3 Bp) hs),E,Y⟩,E,E⟩
    ·rw [if_neg (by simpa using h3),] at hv
     subst hv
     rw [List.append_nil] at hs
     refine T ?_
     refine Ar [] hlt ⟨⟨E,E,E,E,E,E,E,E,E,E,E,E,Y⟩,⟨.inl (congrArg (Ob.row 3 Bp) hs),E,Y⟩,E,E⟩
   ·rw [Bw (by have:=of_decide_eq_false h2; omega),Bool.false_and,if_neg (by simp)] at hv
    subst hv
    rw [List.append_nil] at hs
    refine T ?_
    refine Ar [] hlt ⟨⟨E,E,E,E,E,E,E,E,E,E,E,E,Y⟩,⟨.inl (congrArg (Ob.row 3 Bp) hs),E,Y⟩,E,E⟩
  ·rw [Bw (by have:=of_decide_eq_false h1; omega),Bool.false_and,if_neg (by simp)] at hv
   subst hv
   rw [List.append_nil] at hs
   refine T ?_
   refine Ar [] hlt ⟨⟨E,E,E,E,E,E,E,E,E,E,E,E,Y⟩,⟨.inl (congrArg (Ob.row 3 Bp) hs),E,Y⟩,E,E⟩
 ·have hjj:j = l.length:=by have:=of_decide_eq_false h; omega
  subst hjj
  rw [List.take_length]
  refine T ?_
  refine At 1000 E ?_
  exact D
def great34B (n:Net) (tabs:List (List EntryM)) (l:List StepM):Bool:=D4 n || great33B l || decide (60 < tabs.length) || tabs.any fun t=>decide (60 < t.length)
theorem Vz {n:Net} {tabs:List (List EntryM)} {l:List StepM} (h:great34B n tabs l = false):D4 n = false ∧ great33B l = false ∧ tabs.length ≤ 60 ∧ ∀ t ∈ tabs,t.length ≤ 60:=by
 unfold great34B at h
 simp only [Bool.or_eq_false_iff,decide_eq_false_iff_not,List.any_eq_false,decide_eq_true_eq] at h
 exact ⟨h.1.1.1,h.1.1.2,by omega,fun t ht=>by have:=h.2 t ht; omega⟩
theorem Ajh (n:Net) (tabs:List (List EntryM)) (l:List StepM):Sy.Spec Tryz.prog 26 [Aq n,.sl 1 Ej tabs,.sl 6 Bt l] [] (Ad (great34B n tabs l)) []:=Ab Γ hm 100 F26 Tryz.ntmps26 rfl fun F hF=>by
 have hres:=great34B.eq_1 n tabs l
 generalize great34B n tabs l = res at *
 have q1:=greatS n
 have q2:=Aji l
 generalize D4 n = a at *
 generalize great33B l = b at *
 refine T ?_
 refine C q1 F10 ?_
 cases a
 rotate_left
 ·simp only [Bool.true_or] at hres
  subst hres
  refine T ?_
  exact D
 refine T ?_
 refine C q2 F11 ?_
 cases b
 rotate_left
 ·simp only [Bool.true_or,Bool.or_true] at hres
  subst hres
  refine T ?_
  exact D
 simp only [Bool.false_or] at hres
 refine T ?_
 refine ⟨fun h=>?_,fun h=>?_⟩
 ·rw [decide_eq_true (by have:=of_decide_eq_true h; omega),Bool.true_or] at hres
  subst hres
  refine T ?_
  exact D
 have h1:=of_decide_eq_false h
 rw [decide_eq_false (by omega),Bool.false_or] at hres
 refine T ?_
 refine Bc tabs.length (fun j=>Ep (fun _ t=>!(decide (60 < t.length))) tabs j) (fun j=>[(1,.sl 1 Ej tabs),(7,Aa j)]) (fun _=>[]) [] (Bf _ _) U ?_
 intro j hj hI
 refine T ?_
 refine ⟨fun h=>?_,fun h=>?_⟩
 ·have hlt:j < tabs.length:=by have:=of_decide_eq_true h; omega
  have hj0:((j:Nat):Int).toNat < tabs.length:=by simpa using hlt
  have hat:=fun h=>@any_at3 _ (fun t:List EntryM=>decide (60 < t.length)) tabs j hlt h
  have hnx:=fun h=>Bb (p:=fun _ (t:List EntryM)=>!(decide (60 < t.length))) hI hlt h
  obtain ⟨x,hx⟩:∃ x,tabs[((j:Nat):Int).toNat]'hj0 = x:=⟨_,rfl⟩
  have hx':tabs[j] = x:=hx
  rw [hx'] at hat hnx
  refine S ?_
  refine ⟨E,by omega,hj0,?_⟩
  rw [hx]
  refine T ?_
  refine ⟨fun h=>?_,fun h=>?_⟩
  ·rw [hat (decide_eq_true (by have:=of_decide_eq_true h; omega))] at hres
   subst hres
   refine T ?_
   exact D
  ·have hn:=hnx (by rw [decide_eq_false (by have:=of_decide_eq_false h; omega)]; rfl)
   refine T ?_
   refine Ba [] hI hlt hn ?_
   exact U
 ·rw [Xh hI (by have:=of_decide_eq_false h; omega)] at hres
  subst hres
  refine T ?_
  exact D
def stepsW34:List StepM:=[⟨1,0,0,0,[],[]⟩,⟨1,1,0,0,[],[]⟩,⟨4,0,0,0,[],[]⟩]
theorem redW34:reduceT netW33 [0,1] [] stepsW34 1 = ([⟨1,1,0,0,[],[]⟩,⟨4,0,0,0,[],[]⟩],0):=by kernel_rfl
theorem Ak0:reduceT netW33 [] [] [] 1 = ([],2):=by kernel_rfl
theorem Akp:Q9 [⟨0,3,[]⟩,⟨1,3,[]⟩] [0,1] 1 = [⟨1,0,[]⟩]:=by kernel_rfl
theorem scriptW34:ScriptOK stepsW34 ∧ ∀ x ∈ stepsW34,x.up.length < 100000:=by
 refine ⟨⟨by decide,fun x hx=>?_⟩,fun x hx=>?_⟩
 all_goals
  simp only [stepsW34,List.mem_cons,List.not_mem_nil,or_false] at hx
  rcases hx with rfl | rfl | rfl <;> decide
theorem Zi:TabsOK []:=⟨by decide,fun t h=>(by cases h),fun t h=>(by cases h)⟩
theorem script_nil:ScriptOK [] ∧ ∀ x ∈ ([]:List StepM),x.up.length < 100000:=⟨⟨by decide,fun x h=>(by cases h)⟩,fun x h=>(by cases h)⟩
theorem Ah2:SeensOK [⟨0,3,[]⟩,⟨1,3,[]⟩]:=by
 refine ⟨by decide,fun x hx=>?_⟩
 simp only [List.mem_cons,List.not_mem_nil,or_false] at hx
 rcases hx with rfl | rfl <;> decide
theorem Aha:Sy.Spec Tryz.prog 23 [] [] (Ad true) []:=Ab Γ hm 100 F23 Tryz.ntmps23 rfl fun F hF=>by
 have q1:=Hr netW33 Ajs Aiu [0,1] [] Zi stepsW34 scriptW34.1 scriptW34.2 1
 have q2:=Hr netW33 Ajs Aiu [] [] Zi [] script_nil.1 script_nil.2 1
 have q3:=Ab3 [⟨0,3,[]⟩,⟨1,3,[]⟩] Ah2 [0,1] 1
 rw [redW34] at q1
 rw [Ak0] at q2
 rw [Akp] at q3
 have q1:=q1.view (A':=[Aq netW33,.sl 1 Aa [0,1],.val (.slice none 0 0),.sl 6 Bt stepsW34,Aa 1]) fun κ w=>Ii (fun _ h=>h) (Ii (fun _ h=>h) (Ii (fun _=>Lu) (fun _ h=>h)))
 have q2:=q2.view (A':=[Aq netW33,.val (.slice none 0 0),.val (.slice none 0 0),.val (.slice none 0 0),Aa 1]) fun κ w=>Ii (fun _ h=>h) (Ii (fun _=>Lu) (Ii (fun _=>Lu) (Ii (fun _=>Lu) (fun _ h=>h))))
 refine T ?_
 refine Ei 8 Bj netW33.devices E E ?_
 refine At 8 E ?_
 refine Q7 11 (netW33.ports.map A9) E (.cons (.agg (.cons (.refl _) (.cons (.refl _) (.cons (.refl _) (.cons (.refl _) (.cons (.refl _) (.cons (.refl _) (.cons .nil .nil)))))))) (.cons (.agg (.cons (.refl _) (.cons (.refl _) (.cons (.refl _) (.cons (.refl _) (.cons (.refl _) (.cons (.refl _) (.cons .nil .nil)))))))) .nil)) E ?_
 refine Ei 11 A9 netW33.ports E E ?_
 refine At 11 E ?_
 refine Q7 13 (netW33.domains.map Au) E (.cons (.agg (.cons (.refl _) (.cons (.refl _) (.cons (.refl _) (.cons (.refl _) (.cons (.refl _) (.cons .nil .nil))))))) .nil) E ?_
 refine Ei 13 Au netW33.domains E E ?_
 refine At 13 E ?_
 refine A1 1 (Aab netW33) E (.cons (.refl _) (.cons (.refl _) (.cons .nil (.cons (.refl _) (.cons .nil (.cons .nil (.cons .nil (.cons .nil .nil)))))))) ?_
 refine Ei 17 Aa [0,1] E E ?_
 refine At 17 E ?_
 refine Q7 21 (stepsW34.map Bt) E (.cons (.agg (.cons (.refl _) (.cons (.refl _) (.cons (.refl _) (.cons (.refl _) (.cons .nil (.cons .nil .nil))))))) (.cons (.agg (.cons (.refl _) (.cons (.refl _) (.cons (.refl _) (.cons (.refl _) (.cons .nil (.cons .nil .nil))))))) (.cons (.agg (.cons (.refl _) (.cons (.refl _) (.cons (.refl _) (.cons (.refl _) (.cons .nil (.cons .nil .nil))))))) .nil))) E ?_
 refine Ei 21 Bt stepsW34 E E ?_
 refine At 21 E ?_
 refine G_vw 16 (Aq netW33) (.agg (.cons (.refl _) (.cons (.refl _) (.cons .nil (.cons (.refl _) (.cons .nil (.cons .nil (.cons .nil (.cons .nil .nil))))))))) ?_
 refine C q1 F27 ?_
 refine C q2 F27 ?_
 refine Q7 32 ([⟨0,3,[]⟩,⟨1,3,[]⟩].map Bp) E (.cons (.agg (.cons (.refl _) (.cons (.refl _) (.cons .nil .nil)))) (.cons (.agg (.cons (.refl _) (.cons (.refl _) (.cons .nil .nil)))) .nil)) E ?_
 refine Ei 32 Bp [⟨0,3,[]⟩,⟨1,3,[]⟩] E E ?_
 refine At 32 E ?_
 refine Ei 33 Aa [0,1] E E ?_
 refine At 33 E ?_
 refine C q3 F24 ?_
 exact D
def aloneB (of:List Int) (tenant:Int) (x:StepM):Bool:=decide (¬ x.kind = 1) || (Aj x.port of.length && decide (nth of x.port = tenant))
def J7 (of:List Int) (tenant:Int) (l:List StepM):List StepM:=l.filter (aloneB of tenant)
theorem Abm (of:List Int) (tenant:Int) (l:List StepM) (j:Nat) (hj:j < l.length):J7 of tenant (l.take (j + 1)) = J7 of tenant (l.take j) ++ if aloneB of tenant l[j] = true then [l[j]] else []:=by
 unfold J7
 rw [List.take_succ_eq_append_getElem hj,List.filter_append]
 congr 1
 by_cases h:aloneB of tenant l[j] = true
 ·rw [if_pos h,List.filter_cons_of_pos h]; rfl
 ·rw [if_neg h,List.filter_cons_of_neg h]; rfl
theorem Abn {of:List Int} {tenant:Int} {l:List StepM}:∀ x ∈ J7 of tenant l,MineB of tenant x:=by
 intro x hx hk
 have:=(List.mem_filter.1 hx).2
 unfold aloneB at this
 rw [decide_eq_false (by simpa using hk),Bool.false_or,Bool.and_eq_true,decide_eq_true_eq] at this
 exact this
theorem Se {l l2:List StepM} (h:ScriptOK l) (hu:∀ x ∈ l,x.up.length < 100000) (hl:l2.length ≤ l.length) (hm:∀ y ∈ l2,∃ x ∈ l,y.bytes = x.bytes ∧ y.up = x.up):ScriptOK l2 ∧ ∀ x ∈ l2,x.up.length < 100000:=by
 refine ⟨⟨by have:=h.few; omega,fun y hy=>?_⟩,fun y hy=>?_⟩
 ·obtain ⟨x,hx,e1,_⟩:=hm y hy
  rw [e1]; exact h.bytes x hx
 ·obtain ⟨x,hx,_,e2⟩:=hm y hy
  rw [e2]; exact hu x hx
theorem Zk (n:Net) (hin:n.In) (of:List Int) (tabs:List (List EntryM)) (htabs:Adz tabs) (l:List StepM) (tenant:Int) :
  Sy.Spec Tryz.prog 9 [Aq n,.sl 1 Aa of,.sl 1 Ej tabs,.sl 6 Bt l,Aa tenant] [] (Ad true) []:=Ab Γ hm 100 F9 Tryz.ntmps9 rfl fun F hF=>by
 have hm1:=Af5 hin
 refine T ?_
 refine C Aha F23 ?_
 have q1:=Ajh n tabs l
 cases hg:great34B n tabs l
 rotate_left
 ·rw [hg] at q1
  refine C q1 F26 ?_
  exact D
 rw [hg] at q1
 have hgf:=Vz hg
 have hn:=Yn hgf.1
 have hf:=V0 hgf.2.1
 have hsc:ScriptOK l:=⟨hf.1,fun x hx=>(hf.2 x hx).1⟩
 have hu:∀ x ∈ l,x.up.length < 100000:=fun x hx=>by have:=(hf.2 x hx).2; omega
 have ht:TabsOK tabs:=⟨hgf.2.2.1,hgf.2.2.2,htabs⟩
 have hlen:=hsc.few
 refine C q1 F26 ?_
 refine ⟨fun h=>?_,fun h=>?_⟩
 ·refine T ?_
  exact D
 refine T ?_
 refine ⟨fun h=>?_,fun h=>?_⟩
 ·refine T ?_
  exact D
 have ht0:0 ≤ tenant:=by have:=of_decide_eq_false h; omega
 refine T ?_
 refine B5 11 1000 6 Bt E E ?_
 refine A0 l.length (fun j=>[(1,.sl 1 Aa of),(2,.sl 1 Ej tabs),(4,Aa tenant),(5,.ptr 5 0),(11,.osl 1000),(38,.sl 6 Bt l),(39,Aa l.length),(40,Aa j)]) (fun j=>[(5,.box (Aab n)),(1000,.row 6 Bt (J7 of tenant (l.take j)))]) [] U ?_
 intro j hj
 refine T ?_
 refine ⟨fun h=>?_,fun h=>?_⟩
 ·have hlt:j < l.length:=by have:=of_decide_eq_true h; omega
  have hj0:((j:Nat):Int).toNat < l.length:=by simpa using hlt
  obtain ⟨x,hoo⟩:∃ x,l[j] = x:=⟨_,rfl⟩
  have e1:l[((j:Nat):Int).toNat]'hj0 = x:=hoo
  have hs:=Abm of tenant l j hlt
  have hal:(J7 of tenant (l.take j)).length ≤ j:=by
   have:=List.length_filter_le (aloneB of tenant) (l.take j)
   rw [List.length_take] at this
   unfold J7
   omega
  rw [hoo] at hs
  have hv:=aloneB.eq_1 of tenant x
  generalize aloneB of tenant x = v at *
  clear h
  refine S ?_
  refine ⟨E,by omega,hj0,?_⟩
  rw [e1]
  refine T ?_
  by_cases hk:x.kind = 1
  ·rw [decide_eq_false (by simpa using hk),Bool.false_or] at hv
   refine S ?_
   refine ⟨fun h1=>?_,fun h1=>?_⟩
   rotate_left
   ·rw [Bw (by have:=of_decide_eq_false h1; omega),Bool.false_and] at hv
    rw [hv,if_neg (by simp),List.append_nil] at hs
    refine T ?_
    refine Ar [] hlt ⟨⟨E,E,E,E,E,E,E,E,E,E,E,E,E,E,E,E,Y⟩,⟨.inl E,E,.inl (congrArg (Ob.row 6 Bt) hs),E,Y⟩,E,E⟩
   have h1:=of_decide_eq_true h1
   refine T ?_
   refine ⟨fun h2=>?_,fun h2=>?_⟩
   rotate_left
   ·rw [Bw (by have:=of_decide_eq_false h2; omega),Bool.false_and] at hv
    rw [hv,if_neg (by simp),List.append_nil] at hs
    refine T ?_
    refine Ar [] hlt ⟨⟨E,E,E,E,E,E,E,E,E,E,E,E,E,E,E,E,Y⟩,⟨.inl E,E,.inl (congrArg (Ob.row 6 Bt) hs),E,Y⟩,E,E⟩
   have h2:=of_decide_eq_true h2
   have hkk:x.port.toNat < of.length:=by omega
   rw [Cb (by omega),Bool.true_and,An hkk] at hv
   refine T ?_
   refine ⟨fun h3=>?_,fun h3=>?_⟩
   rotate_left
   ·rw [hv,if_neg (by simpa using h3),List.append_nil] at hs
    refine T ?_
    refine Ar [] hlt ⟨⟨E,E,E,E,E,E,E,E,E,E,E,E,E,E,E,E,Y⟩,⟨.inl E,E,.inl (congrArg (Ob.row 6 Bt) hs),E,Y⟩,E,E⟩
   rw [hv,if_pos (by simpa using h3)] at hs
   refine T ?_
   refine X (Ak Γ.toTy 71 rfl rfl rfl rfl rfl (.row rfl) (.lit (e:=Bt) (l:=[x]) rfl rfl) (fun j hj=>by cases hj; decide) (by simp; omega) (by simp; omega)) ?_
   refine Ar [(1000,71)] hlt ⟨⟨E,E,E,E,E,E,E,E,E,E,E,E,E,E,E,E,Y⟩,⟨.inl E,E,.inl (congrArg (Ob.row 6 Bt) hs),E,Y⟩,E,E⟩
  ·rw [decide_eq_true hk,Bool.true_or] at hv
   rw [hv,if_pos rfl] at hs
   refine S ?_
   refine X (Ak Γ.toTy 71 rfl rfl rfl rfl rfl (.row rfl) (.lit (e:=Bt) (l:=[x]) rfl rfl) (fun j hj=>by cases hj; decide) (by simp; omega) (by simp; omega)) ?_
   refine Ar [(1000,71)] hlt ⟨⟨E,E,E,E,E,E,E,E,E,E,E,E,E,E,E,E,Y⟩,⟨.inl E,E,.inl (congrArg (Ob.row 6 Bt) hs),E,Y⟩,E,E⟩
 have hjj:j = l.length:=by have:=of_decide_eq_false h; omega
 subst hjj
 rw [List.take_length]
 refine T ?_
 refine At 1000 E ?_
 have hmine:=Abn (of:=of) (tenant:=tenant) (l:=l)
 have hp:=Se (l2:=J7 of tenant l) hsc hu (List.length_filter_le _ _) (fun y hy=>⟨y,(List.mem_filter.1 hy).1,rfl,rfl⟩)
 generalize J7 of tenant l = own at *
 have q2:=Hr n hn hm1 of tabs ht own hp.1 hp.2 tenant
 have r2:=reduceT.eq_1 n of tabs own tenant
 by_cases hc:okB n (Aby n) = true ∧ Ha n of = true
 rotate_left
 ·rw [if_neg hc] at r2
  rw [r2] at q2
  refine C q2 F27 ?_
  exact D
 rw [if_pos hc] at r2
 have hold:=Wq (Aiw n) tabs tabs.length
 have hi0:(D2 (newT n) tabs tabs.length).injected = 0:=by rw [hold.2]; rfl
 have hal:=Q6 hc.2 ht0 own hold.1 hmine
 rw [hi0] at hal
 have hz:List.replicate (Int.toNat 0) tenant = []:=rfl
 rw [hz] at hal
 have hp2:=Se (l2:=Ey n of tenant (Dx n tabs) [] own) hp.1 hp.2 (Ua _ _ _ _ _ _) (Zx _ _ _ _ _ _)
 have q3:=Wh n hn hm1 tabs ht own hp.1
 have q4:=Wh n hn hm1 tabs ht _ hp2.1
 have q5:=Hr n hn hm1 of tabs ht _ hp2.1 hp2.2 tenant
 have r3:=runTabsT.eq_1 n tabs own
 have r4:=runTabsT.eq_1 n tabs (Ey n of tenant (Dx n tabs) [] own)
 have r5:=reduceT.eq_1 n of tabs (Ey n of tenant (Dx n tabs) [] own) tenant
 rw [if_pos hc.1] at r3 r4
 rw [if_pos hc] at r5
 have hfew:=T4 hn own (Dx n tabs)
 have hof:=hp.1.few
 rw [show Dx n tabs = D2 (newT n) tabs tabs.length from rfl] at *
 rw [hal.1] at r4
 rw [hal.2] at r5
 rw [r2] at q2
 rw [r3] at q3
 rw [r4] at q4
 rw [r5] at q5
 generalize Ey n of tenant (D2 (newT n) tabs tabs.length) [] own = rl at *
 generalize (Ca n (D2 (newT n) tabs tabs.length) own).2 = sn at *
 refine C q2 F27 ?_
 refine C q3 F30 ?_
 refine C q4 F30 ?_
 refine C q5 F27 ?_
 refine A0 sn.length (fun j=>[(16,.sl 3 Bp sn),(18,.sl 3 Bp sn),(135,Aa sn.length),(136,Aa j)]) (fun _=>[]) [] U ?_
 intro j hj
 refine T ?_
 refine ⟨fun h=>?_,fun h=>?_⟩
 ·have hlt:j < sn.length:=by have:=of_decide_eq_true h; omega
  have hj0:((j:Nat):Int).toNat < sn.length:=by simpa using hlt
  refine T ?_
  refine Xd (H1 Γ.toTy (bs:=(sn[((j:Nat):Int).toNat]'hj0).bytes) E E E E E E E .sl) ?_
  refine Xd (H1 Γ.toTy (bs:=(sn[((j:Nat):Int).toNat]'hj0).bytes) E E E E E E E .sl) ?_
  refine ⟨fun h=>False.elim (by simp [Abg] at h),fun _=>?_⟩
  refine T ?_
  refine Ar [] hlt U
 ·refine T ?_
  exact D
end Go.Sy.YtmelpejjondedaaGreat
namespace Go.Proofs.YtmelpejjondedaaGreat
open Go.ChangeShapes Go.WideShapes Go.ChangeAt Go.RowKit
set_option maxRecDepth 100000
theorem Mp:Tryz.checked.prog.inPlace 9 = Rows.splitAloneRow.inPlace:=by kernel_rfl
theorem Ki:Tryz.checked.prog.unfollowed 9 = Rows.splitAloneRow.unfollowed:=by kernel_rfl
theorem Lw:Tryz.checked.prog.recurses 9 = Rows.splitAloneRow.recurses:=by kernel_rfl
theorem Qp:Tryz.checked.prog.varsNamed 9 = Rows.splitAloneRow.named:=by kernel_rfl
theorem S8:Tryz.checked.prog.liftsFinal = Rows.splitAloneRow.lifted:=by kernel_rfl
theorem Mo:laidOutB Tryz.checked.prog = true:=by kernel_rfl
theorem Qs:Tryz.checked.prog.mayEnter = true:=by kernel_rfl
theorem Qq:Tryz.checked.prog.stopsHeard = true:=by kernel_rfl
theorem Qr:joinedFacts Tryz.checked.prog 9 Tryz.f9 Rows.splitAloneSpec Rows.splitAloneRow = true:=by
 unfold joinedFacts
 rw [Mp,Ki,Lw,Qp,S8,Mo,Qs,Qq]
 kernel_rfl
end Go.Proofs.YtmelpejjondedaaGreat
