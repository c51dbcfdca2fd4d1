/-
  Z12 Z13 Z14 Z15 Z16 Z17 K45 Sy39 Y1 Y2 T18 T20 T22 T23 T24 T26 T27 T28 T29 T30 T31 Y3: parts of a proof, joined by program.
-/
import Derived.Test.YtmelpejjondedaaGreatH9
import Derived.Test.YtmelpejjondedaaGreatH7
import Derived.Test.YtmelpejjondedaaGreatH2
import Derived.Test.YtmelpejjondedaaGreatH6
import Derived.Test.YtmelpejjondedaaGreatH3
namespace Go.Sy.YtmelpejjondedaaGreat
open Go.Proofs
attribute [local irreducible] Go.Sy.G Go.Sy.DR
set_option maxRecDepth 100000
set_option maxHeartbeats 4000000
theorem Xv {n:Net} {m:MacM} {J D:Int} (h:MacOK n m J D) (hD:0 ≤ D) (dom:Int) {r:List EntryM × List OutM × Int} (hr:TabOK r.1):MacOK n (Jc m dom r) J (D + 1):=by
 unfold Jc
 split
 ·exact On h hD 2
 split
 ·exact On (Aa6 h dom hr) hD _
 ·exact (Aa6 h dom hr).mono (Int.le_refl _) (by omega)
def queL (q:QueuedM):List SV:=[Aa q.from_,Aa q.peer,Aa q.origin,Ay q.frame.dst,Ay q.frame.src,Aa q.frame.typ,.sl 1 Aj q.frame.body]
def Am3 (n:Net) (m:MacM) (q:QueuedM) (l:List SeenM):Obs:=[(0,.box (V9 n 1 m.now m.injected m.drops)),(1,.box (Mj n m.up true)),(2,.row 1 H8 m.tables),(3,.row 1 La m.queues),(7,.box (queL q)),(1000,.row 3 Bl l)]
theorem Amk (n:Net) (hn:n.Fin) (hm1:n.Num) (m:MacM) (d:Bool) (J D:Int) (hm0:MacOK n m J D) (hD0:0 ≤ D) (hD:D ≤ 900000000000) (dom at_:Int) :
  Sy.Spec Tryz.prog 52 [.ptr 0 0,Aa dom,Aa at_] (B8 n m d) (.sl 3 Bl (pickT n m dom at_).2) (B8 n (pickT n m dom at_).1 (if (takeM m dom at_).2.2 then true else d)):=Ab Γ hm 100 F52 Tryz.ntmps52 rfl fun F hF=>by
 have hres:=pickT.eq_1 n m dom at_
 generalize pickT n m dom at_ = res at *
 have q1:=Ac5 n m d dom at_ (Cw hm0 dom)
 have hok:=S3 hm0 dom at_
 have hpl:(takeM m dom at_).2.2 = true → 0 ≤ dom ∧ dom.toNat < m.queues.length:=fun h=>by
  unfold takeM at h
  split at h
  ·cases h
  ·rename_i h2
   exact placeB_iff.1 (by cases hx:Am dom m.queues.length; exact absurd hx h2; rfl)
 have htl:(takeM m dom at_).1.tables = m.tables:=by unfold takeM; split <;> rfl
 generalize takeM m dom at_ = r at *
 obtain ⟨m1,q,ok⟩:=r
 have htq:m.queues.length = m.tables.length:=by rw [hm0.ques,hm0.tabs]
 conv=>whnf
 refine Ai (Ak [] E F53 q1 E ⟨E,E,E,E,Y⟩ E ⟨.inl E,.inl E,.inl E,.inl E,Y⟩) E E ?_
 refine rg ?_;conv=>whnf
 cases ok
 ·rw [if_pos rfl] at hres
  subst hres
  (refine ⟨fun _=>?_,fun h=>False.elim (by simp at h)⟩;refine rg ?_;conv=>whnf)
  refine An 6 3 Bl E ?_
  exact done E (.cons .tmp .nil) [] (B8 n m1 d) (fun _ h=>h) E E ⟨Y,⟨.inl E,E,.inl E,E,.inl E,E,.inl E,E,Y⟩,E,E⟩
 rw [if_neg (by simp)] at hres
 have hd:=hpl rfl
 have hd2:0 ≤ dom ∧ dom.toNat < m1.tables.length:=by rw [htl,← htq]; exact hd
 dsimp only at hres hok
 have q2:=Ajv n hn m1.up d
 have q3:=Afc n hn hm1 (Hs n m1.up) (tableL m1 dom) dom q m1.now (K4 hok.1 dom) hok.2
 have hb1:=Or (n:=n) (fw:=Hs n m1.up) (dom:=dom) (now:=m1.now) (K4 hok.1 dom) hok.2
 have hb2:=Ot (fw:=Hs n m1.up) (t:=tableL m1 dom) (dom:=dom) (now:=m1.now) hn hm1 hok.2
 have hb3:=Ks hn (Hs n m1.up) (tableL m1 dom) dom q m1.now
 have hb4:=V3 n (Hs n m1.up) (tableL m1 dom) dom q m1.now
 rw [Ti] at hres
 have hz:=Xv hok.1 hD0 dom hb1
 generalize bridgeT n (Hs n m1.up) (tableL m1 dom) dom q m1.now = b at *
 obtain ⟨t,out,e⟩:=b
 have hb2:∀ o ∈ out,OutOK n o:=hb2
 have hb3:out.length < 4294967296:=hb3
 have hb4:Bv e:=hb4
 have ht0:=tableL.eq_1 m1 dom
 rw [H4 hd2.2] at ht0
 generalize tableL m1 dom = t0 at *
 subst ht0
 (refine ⟨fun h=>False.elim (by simp at h),fun _=>?_⟩;refine rg ?_;conv=>whnf)
 refine Bi (Ak [] E F103 q2 E ⟨E,Y⟩ E ⟨.inl E,Y⟩) (by kernel_rfl) E ?_
 refine rd (by kernel_rfl) ?_;conv=>whnf
 refine ⟨hd2.1,hd2.2,?_⟩
 conv=>whnf
 refine ⟨E,hd2.2,?_⟩
 conv=>whnf
 refine At q3 F102 E E E (by kernel_rfl) E ?_
 refine rd (by kernel_rfl) ?_;conv=>whnf
 refine ⟨(by kernel_rfl),?_⟩
 conv=>whnf
 refine ⟨fun h=>?_,fun h=>?_⟩
 ·have h2:¬ e = 2:=by simpa using h
  clear h
  refine rg ?_;conv=>whnf
  refine ⟨hd2.1,hd2.2,?_⟩
  conv=>whnf
  refine ⟨E,hd2.2,t,E,E,?_⟩
  conv=>whnf
  refine ⟨fun h=>?_,fun h=>?_⟩
  ·have h3:¬ e = 0:=by simpa using h
   clear h
   have hpd:Jc m1 dom (t,out,e) = Be (Bu m1 dom t) e:=by
    unfold Jc
    rw [if_neg h2,if_pos h3]
   rw [hpd] at hres hz
   subst hres
   have q4:=Ae4 n (Bu m1 dom t) true e hb4.1 hb4.2 ⟨(hok.1.drp _).1,by have:=(hok.1.drp e.toNat).2; show m1.drops e.toNat ≤ 1000000000000; omega⟩
   refine rg ?_;conv=>whnf
   refine Ai (Ak [] E F104 q4 E ⟨E,E,E,E,Y⟩ E ⟨.inl E,.inl E,.inl E,.inl E,Y⟩) E E ?_
   refine rg ?_;conv=>whnf
   have hdr:He (Be (Bu m1 dom t) e):=fun i=>⟨(hz.drp i).1,by have:=(hz.drp i).2; omega⟩
   refine Bt 12 1000 3 Bl E E ?_
   refine Au out.length (fun j=>[(0,.ptr 0 0),(7,.ptr 7 0),(12,.osl 1000),(69,.sl 9 Bg out),(70,Aa out.length),(71,Aa j)]) (fun j=>Am3 n (Ba n (Be (Bu m1 dom t) e) q.origin (out.take j)).1 q (Ba n (Be (Bu m1 dom t) e) q.origin (out.take j)).2) [] ⟨⟨E,E,E,E,E,E,E,E,E,E,E,E,Y⟩,⟨.inl E,E,.inl E,E,.inl E,E,.inl E,E,.inl E,E,.inl E,E,Y⟩,E,E⟩ ?_
   intro j hj
   refine rg ?_;conv=>whnf
   refine ⟨fun h=>?_,fun h=>?_⟩
   ·have hlt:j < out.length:=by have:=of_decide_eq_true h; omega
    have hj0:((j:Nat):Int).toNat < out.length:=by simpa using hlt
    obtain ⟨o,hoo⟩:∃ o,out[j] = o:=⟨_,rfl⟩
    have e1:out[((j:Nat):Int).toNat]'hj0 = o:=hoo
    have hs:=Ih n (Be (Bu m1 dom t) e) q.origin out j hlt
    rw [hoo] at hs
    have hjo:=I4 hn q.origin (out.take j) hz (by omega) (fun x hx=>hb2 x (List.mem_of_mem_take hx))
    have hlen:(out.take j).length = j:=by rw [List.length_take]; omega
    rw [hlen] at hjo
    have hsl:=Hn n q.origin (out.take j) (Be (Bu m1 dom t) e)
    rw [hlen] at hsl
    have q5:=W9 n hn (Ba n (Be (Bu m1 dom t) e) q.origin (out.take j)).1 true J _ hjo (by omega) o (hb2 o (by rw [← hoo]; exact List.getElem_mem hlt)) q.origin
    have hfw:=Ig n (Ba n (Be (Bu m1 dom t) e) q.origin (out.take j)).1 o q.origin
    clear h
    refine rg ?_;conv=>whnf
    refine ⟨E,by omega,hj0,?_⟩
    rw [e1]
    conv=>whnf
    refine Ai (Ak [] E F105 q5 E ⟨E,E,E,E,Y⟩ E ⟨.inl E,.inl E,.inl E,.inl E,Y⟩) E E ?_
    refine rg ?_;conv=>whnf
    refine Ai (Af Γ.toTy 81 E E E E E (.row E) .sl (by simp) (by omega) (by omega)) E E ?_
    refine rg ?_;conv=>whnf
    refine ⟨by unfold I64; omega,?_⟩
    conv=>whnf
    have g1:(Ba n (Be (Bu m1 dom t) e) q.origin (out.take (j + 1))).1 = (goesM n (Ba n (Be (Bu m1 dom t) e) q.origin (out.take j)).1 o q.origin).1:=by rw [hs]
    have g2:(Ba n (Be (Bu m1 dom t) e) q.origin (out.take (j + 1))).2 = (Ba n (Be (Bu m1 dom t) e) q.origin (out.take j)).2 ++ (goesM n (Ba n (Be (Bu m1 dom t) e) q.origin (out.take j)).1 o q.origin).2:=by rw [hs]
    refine Ar [(1000,81)] hlt ⟨⟨E,E,E,E,E,E,E,E,E,E,E,E,Y⟩,?_,E,E⟩
    dsimp only
    rw [g1,g2]
    exact ⟨.inl E,E,.inl E,E,.inl E,E,.inl E,E,.inl E,E,.inl E,E,Y⟩
   ·have hjj:j = out.length:=by have:=of_decide_eq_false h; omega
    subst hjj
    rw [List.take_length]
    clear h
    refine rg ?_;conv=>whnf
    refine As 1000 E ?_
    exact done E (.cons .tmp .nil) [] (B8 n (Ba n (Be (Bu m1 dom t) e) q.origin out).1 true) (fun _ h=>h) E E ⟨Y,⟨.inl E,E,.inl E,E,.inl E,E,.inl E,E,Y⟩,E,E⟩
  ·have h3:e = 0:=by simpa using h
   clear h
   have hpd:Jc m1 dom (t,out,e) = Bu m1 dom t:=by
    unfold Jc
    rw [if_neg h2,if_neg (fun h=>h h3)]
   rw [hpd] at hres hz
   subst hres
   refine rg ?_;conv=>whnf
   have hdr:He (Bu m1 dom t):=fun i=>⟨(hz.drp i).1,by have:=(hz.drp i).2; omega⟩
   refine Bt 12 1000 3 Bl E E ?_
   refine Au out.length (fun j=>[(0,.ptr 0 0),(7,.ptr 7 0),(12,.osl 1000),(69,.sl 9 Bg out),(70,Aa out.length),(71,Aa j)]) (fun j=>Am3 n (Ba n (Bu m1 dom t) q.origin (out.take j)).1 q (Ba n (Bu m1 dom t) q.origin (out.take j)).2) [] ⟨⟨E,E,E,E,E,E,E,E,E,E,E,E,Y⟩,⟨.inl E,E,.inl E,E,.inl E,E,.inl E,E,.inl E,E,.inl E,E,Y⟩,E,E⟩ ?_
   intro j hj
   refine rg ?_;conv=>whnf
   refine ⟨fun h=>?_,fun h=>?_⟩
   ·have hlt:j < out.length:=by have:=of_decide_eq_true h; omega
    have hj0:((j:Nat):Int).toNat < out.length:=by simpa using hlt
    obtain ⟨o,hoo⟩:∃ o,out[j] = o:=⟨_,rfl⟩
    have e1:out[((j:Nat):Int).toNat]'hj0 = o:=hoo
    have hs:=Ih n (Bu m1 dom t) q.origin out j hlt
    rw [hoo] at hs
    have hjo:=I4 hn q.origin (out.take j) hz (by omega) (fun x hx=>hb2 x (List.mem_of_mem_take hx))
    have hlen:(out.take j).length = j:=by rw [List.length_take]; omega
    rw [hlen] at hjo
    have hsl:=Hn n q.origin (out.take j) (Bu m1 dom t)
    rw [hlen] at hsl
    have q5:=W9 n hn (Ba n (Bu m1 dom t) q.origin (out.take j)).1 true J _ hjo (by omega) o (hb2 o (by rw [← hoo]; exact List.getElem_mem hlt)) q.origin
    have hfw:=Ig n (Ba n (Bu m1 dom t) q.origin (out.take j)).1 o q.origin
    clear h
    refine rg ?_;conv=>whnf
    refine ⟨E,by omega,hj0,?_⟩
    rw [e1]
    conv=>whnf
    refine Ai (Ak [] E F105 q5 E ⟨E,E,E,E,Y⟩ E ⟨.inl E,.inl E,.inl E,.inl E,Y⟩) E E ?_
    refine rg ?_;conv=>whnf
    refine Ai (Af Γ.toTy 81 E E E E E (.row E) .sl (by simp) (by omega) (by omega)) E E ?_
    refine rg ?_;conv=>whnf
    refine ⟨by unfold I64; omega,?_⟩
    conv=>whnf
    have g1:(Ba n (Bu m1 dom t) q.origin (out.take (j + 1))).1 = (goesM n (Ba n (Bu m1 dom t) q.origin (out.take j)).1 o q.origin).1:=by rw [hs]
    have g2:(Ba n (Bu m1 dom t) q.origin (out.take (j + 1))).2 = (Ba n (Bu m1 dom t) q.origin (out.take j)).2 ++ (goesM n (Ba n (Bu m1 dom t) q.origin (out.take j)).1 o q.origin).2:=by rw [hs]
    refine Ar [(1000,81)] hlt ⟨⟨E,E,E,E,E,E,E,E,E,E,E,E,Y⟩,?_,E,E⟩
    dsimp only
    rw [g1,g2]
    exact ⟨.inl E,E,.inl E,E,.inl E,E,.inl E,E,.inl E,E,.inl E,E,Y⟩
   ·have hjj:j = out.length:=by have:=of_decide_eq_false h; omega
    subst hjj
    rw [List.take_length]
    clear h
    refine rg ?_;conv=>whnf
    refine As 1000 E ?_
    exact done E (.cons .tmp .nil) [] (B8 n (Ba n (Bu m1 dom t) q.origin out).1 true) (fun _ h=>h) E E ⟨Y,⟨.inl E,E,.inl E,E,.inl E,E,.inl E,E,Y⟩,E,E⟩
 ·have h2:e = 2:=by simpa using h
  clear h
  subst h2
  have hpd:Jc m1 dom (t,out,2) = Be m1 2:=by
   unfold Jc
   rw [if_pos rfl]
  rw [hpd] at hres hz
  subst hres
  have q4:=Ae4 n m1 true 2 (by decide) (by decide) ⟨(hok.1.drp _).1,by have:=(hok.1.drp (Int.toNat 2)).2; omega⟩
  (refine rg ?_;(conv=>whnf);refine aT ?_;refine rg ?_;conv=>whnf)
  refine Ai (Ak [] E F104 q4 E ⟨E,E,E,E,Y⟩ E ⟨.inl E,.inl E,.inl E,.inl E,Y⟩) E E ?_
  refine rg ?_;conv=>whnf
  have hdr:He (Be m1 2):=fun i=>⟨(hz.drp i).1,by have:=(hz.drp i).2; omega⟩
  refine Bt 12 1000 3 Bl E E ?_
  refine Au out.length (fun j=>[(0,.ptr 0 0),(7,.ptr 7 0),(12,.osl 1000),(69,.sl 9 Bg out),(70,Aa out.length),(71,Aa j)]) (fun j=>Am3 n (Ba n (Be m1 2) q.origin (out.take j)).1 q (Ba n (Be m1 2) q.origin (out.take j)).2) [] ⟨⟨E,E,E,E,E,E,E,E,E,E,E,E,Y⟩,⟨.inl E,E,.inl E,E,.inl E,E,.inl E,E,.inl E,E,.inl E,E,Y⟩,E,E⟩ ?_
  intro j hj
  refine rg ?_;conv=>whnf
  refine ⟨fun h=>?_,fun h=>?_⟩
  ·have hlt:j < out.length:=by have:=of_decide_eq_true h; omega
   have hj0:((j:Nat):Int).toNat < out.length:=by simpa using hlt
   obtain ⟨o,hoo⟩:∃ o,out[j] = o:=⟨_,rfl⟩
   have e1:out[((j:Nat):Int).toNat]'hj0 = o:=hoo
   have hs:=Ih n (Be m1 2) q.origin out j hlt
   rw [hoo] at hs
   have hjo:=I4 hn q.origin (out.take j) hz (by omega) (fun x hx=>hb2 x (List.mem_of_mem_take hx))
   have hlen:(out.take j).length = j:=by rw [List.length_take]; omega
   rw [hlen] at hjo
   have hsl:=Hn n q.origin (out.take j) (Be m1 2)
   rw [hlen] at hsl
   have q5:=W9 n hn (Ba n (Be m1 2) q.origin (out.take j)).1 true J _ hjo (by omega) o (hb2 o (by rw [← hoo]; exact List.getElem_mem hlt)) q.origin
   have hfw:=Ig n (Ba n (Be m1 2) q.origin (out.take j)).1 o q.origin
   clear h
   refine rg ?_;conv=>whnf
   refine ⟨E,by omega,hj0,?_⟩
   rw [e1]
   conv=>whnf
   refine Ai (Ak [] E F105 q5 E ⟨E,E,E,E,Y⟩ E ⟨.inl E,.inl E,.inl E,.inl E,Y⟩) E E ?_
   refine rg ?_;conv=>whnf
   refine Ai (Af Γ.toTy 81 E E E E E (.row E) .sl (by simp) (by omega) (by omega)) E E ?_
   refine rg ?_;conv=>whnf
   refine ⟨by unfold I64; omega,?_⟩
   conv=>whnf
   have g1:(Ba n (Be m1 2) q.origin (out.take (j + 1))).1 = (goesM n (Ba n (Be m1 2) q.origin (out.take j)).1 o q.origin).1:=by rw [hs]
   have g2:(Ba n (Be m1 2) q.origin (out.take (j + 1))).2 = (Ba n (Be m1 2) q.origin (out.take j)).2 ++ (goesM n (Ba n (Be m1 2) q.origin (out.take j)).1 o q.origin).2:=by rw [hs]
   refine Ar [(1000,81)] hlt ⟨⟨E,E,E,E,E,E,E,E,E,E,E,E,Y⟩,?_,E,E⟩
   dsimp only
   rw [g1,g2]
   exact ⟨.inl E,E,.inl E,E,.inl E,E,.inl E,E,.inl E,E,.inl E,E,Y⟩
  ·have hjj:j = out.length:=by have:=of_decide_eq_false h; omega
   subst hjj
   rw [List.take_length]
   clear h
   refine rg ?_;conv=>whnf
   refine As 1000 E ?_
   exact done E (.cons .tmp .nil) [] (B8 n (Ba n (Be m1 2) q.origin out).1 true) (fun _ h=>h) E E ⟨Y,⟨.inl E,E,.inl E,E,.inl E,E,.inl E,E,Y⟩,E,E⟩
theorem Uo (l:List (List EntryM)) (now:Int) (j:Nat) (hj:j < l.length) :
  ((l.take j).map (fun t=>ageT t now) ++ l.drop j).set j (ageT l[j] now) = (l.take (j + 1)).map (fun t=>ageT t now) ++ l.drop (j + 1):=by
 apply List.ext_getElem
 ·simp only [List.length_set,List.length_append,List.length_map,List.length_take,List.length_drop]; omega
 intro i h1 h2
 simp only [List.length_set,List.length_append,List.length_map,List.length_take,List.length_drop] at h1
 rw [List.getElem_set]
 by_cases hi:j = i
 ·subst hi
  rw [if_pos rfl,List.getElem_append_left (by simp; omega)]
  simp
 ·rw [if_neg hi]
  by_cases hlt:i < j
  ·rw [List.getElem_append_left (by simp; omega),List.getElem_append_left (by simp; omega)]
   simp
  ·rw [List.getElem_append_right (by simp; omega),List.getElem_append_right (by simp; omega)]
   simp only [List.getElem_drop,List.length_map,List.length_take]
   congr 1
   omega
theorem Ala {P:Program} {o:Oper} {s:SS} {x y:Operand} {at_:Array TypeId} {k k':IntKind} {m n r:Int} (hr:(if n < m then n else m) = r) (h:o.op = .call ⟨.builtin .min,#[x,y],at_⟩)
  (hx:ev s x = .val (.int k m)) (hy:ev s y = .val (.int k' n)):Good P o s ⟨.val (.int k r),[],[]⟩:=by
 have:=An4 (P:=P) h hx hy
 rwa [hr] at this
def K2 (l:List (List EntryM)) (now:Int) (j:Nat):List (List EntryM):=(l.take j).map (fun t=>ageT t now) ++ l.drop j
theorem Y0 (l:List (List EntryM)) (now:Int) (j:Nat) (hj:j < l.length) (h2:j < (K2 l now j).length):(K2 l now j)[j] = l[j]:=by
 have h:(K2 l now j)[j]? = l[j]?:=by
  unfold K2
  have hm:min j l.length = j:=by omega
  rw [List.getElem?_append_right (by simp; omega),List.getElem?_drop,List.length_map,List.length_take,hm,Nat.sub_self,Nat.add_zero]
 rw [List.getElem?_eq_getElem hj,List.getElem?_eq_getElem h2] at h
 exact Option.some.inj h
theorem Ox (l:List (List EntryM)) (now:Int) (j:Nat):(K2 l now j).length = l.length:=by
 unfold K2
 simp only [List.length_append,List.length_map,List.length_take,List.length_drop]
 omega
def tickO (n:Net) (m:MacM) (d:Bool) (now:Int) (j:Nat):Obs:=[(0,.box (V9 n 1 now m.injected m.drops)),(1,.box (Mj n m.up d)),(2,.row 1 H8 (K2 m.tables now j)),(3,.row 1 La m.queues)]
theorem Amj (n:Net) (m:MacM) (d:Bool) (J D:Int) (hm0:MacOK n m J D) (hs:Aq n.domains) :
  Sy.Spec Tryz.prog 54 [.ptr 0 0] (B8 n m d) (.tup []) (B8 n (Mh m) d):=Ab Γ hm 100 F54 Tryz.ntmps54 rfl fun F hF=>by
 unfold Aq at hs
 have hnow:=hm0.now
 have htl:m.tables.length < 2147483648:=by rw [hm0.tabs]; exact hs
 have hto:=hm0.tab
 obtain ⟨nw,hnw⟩:∃ nw,(if 1099511627776 < m.now + 1 then 1099511627776 else m.now + 1) = nw:=⟨_,rfl⟩
 have hti:Mh m = ⟨m.up,K2 m.tables nw m.tables.length,m.queues,nw,m.injected,m.drops⟩:=by
  have:min (m.now + 1) 1099511627776 = nw:=by rw [← hnw]; split <;> omega
  unfold Mh K2
  rw [this,List.take_length,List.drop_length,List.append_nil]
 rw [hti]
 conv=>whnf
 refine ⟨by unfold I64; omega,?_⟩
 conv=>whnf
 refine Ai (Ala hnw E E E) E E ?_
 refine rg ?_;conv=>whnf
 refine Au m.tables.length (fun j=>[(0,.ptr 0 0),(16,.osl 2),(17,Aa m.tables.length),(18,Aa j)]) (fun j=>tickO n m d nw j) [] ⟨⟨E,E,E,E,E,E,E,E,Y⟩,⟨.inl E,E,.inl E,E,.inl E,E,.inl E,E,Y⟩,E,E⟩ ?_
 intro j hj
 refine rg ?_;conv=>whnf
 refine ⟨fun h=>?_,fun h=>?_⟩
 ·have hlt:j < m.tables.length:=by have:=of_decide_eq_true h; omega
  have hal:=Ox m.tables nw j
  have hj0:((j:Nat):Int).toNat < (K2 m.tables nw j).length:=by rw [hal]; simpa using hlt
  obtain ⟨t,hoo⟩:∃ t,m.tables[j] = t:=⟨_,rfl⟩
  have e1:(K2 m.tables nw j)[((j:Nat):Int).toNat]'hj0 = t:=(Y0 m.tables nw j hlt (by rw [hal]; exact hlt)).trans hoo
  have hs:=Uo m.tables nw j hlt
  rw [hoo] at hs
  have ht:=hto t (by rw [← hoo]; exact List.getElem_mem hlt)
  clear h
  refine rg ?_;conv=>whnf
  refine ⟨by omega,hj0,?_⟩
  conv=>whnf
  refine ⟨E,hj0,?_⟩
  rw [e1]
  conv=>whnf
  refine At (Apc t nw ht.short ht.mac) F107 E E E (by kernel_rfl) E ?_
  refine rd (by kernel_rfl) ?_;conv=>whnf
  refine ⟨by omega,hj0,?_⟩
  conv=>whnf
  refine ⟨E,hj0,ageT t nw,E,E,?_⟩
  conv=>whnf
  refine ⟨(by kernel_rfl),?_⟩
  conv=>whnf
  refine ⟨by unfold I64; omega,?_⟩
  conv=>whnf
  exact Ar [] hlt ⟨⟨E,E,E,E,E,E,E,E,Y⟩,⟨.inl E,E,.inl E,E,.inl (congrArg (Ob.row 1 H8) hs.symm),E,.inl E,E,Y⟩,E,E⟩
 ·have hjj:j = m.tables.length:=by have:=of_decide_eq_false h; omega
  subst hjj
  clear h
  refine rg ?_;conv=>whnf
  exact Bx E .nil [] (B8 n ⟨m.up,K2 m.tables nw m.tables.length,m.queues,nw,m.injected,m.drops⟩ d) (fun _ h=>h) E E ⟨Y,⟨.inl E,E,.inl E,E,.inl E,E,.inl E,E,Y⟩,E,E⟩
def Ac6 (n:Net) (m:MacM) (d:Bool):Obs:=[(0,.box (V9 n 4 m.now m.injected m.drops)),(1,.non),(2,.row 1 H8 m.tables),(3,.row 1 La m.queues),(4,.box (Mj n m.up d))]
def upT (m:MacM) (up:List Bool):MacM:=⟨up,m.tables,m.queues,m.now,m.injected,m.drops⟩
def doD (n:Net) (m:MacM) (d:Bool) (x:StepM):Bool :=
 if x.kind = 1 then d else if x.kind = 2 then (if (takeM m x.domain x.at_).2.2 then true else d) else if x.kind = 3 then d else if x.kind = 4 then d else if x.kind = 5 then (if x.up.length = n.links.length then false else d) else d
theorem Amn (n:Net) (hn:n.Fin) (hm1:n.Num) (m:MacM) (d:Bool) (J D:Int) (hm0:MacOK n m J D) (hJ:J < 900000000000) (hD0:0 ≤ D) (hD:D ≤ 900000000000) (x:StepM) (hb:x.bytes.length < 100000) :
  Sy.Spec Tryz.prog 21 [.ptr 0 0,Dr x] (B8 n m d) (.tup [.sl 3 Bl (doT n m x).2,Aa 0]) (Ac6 n (doT n m x).1 (doD n m d x)):=Ab Γ hm 100 F21 Tryz.ntmps21 rfl fun F hF=>by
 have hres:=doT.eq_1 n m x
 generalize doT n m x = res at *
 have hdd:=doD.eq_1 n m d x
 generalize doD n m d x = dd at *
 conv=>whnf
 refine Ai (Aep (d:=900) E E E) E E ?_
 (refine rg ?_;(conv=>whnf);refine aF ?_;refine rg ?_;conv=>whnf)
 refine ⟨fun h=>?_,fun h=>?_⟩
 ·have h1:x.kind = 1:=by simpa using h
  rw [if_pos h1] at hres hdd
  subst hres
  subst hdd
  have q1:=Afs n hn m dd J D hm0 (by omega) (by omega) x.port x.bytes hb
  refine rg ?_;conv=>whnf
  refine Ai (Ak [] E F51 q1 E ⟨E,E,E,E,Y⟩ E ⟨.inl E,.inl E,.inl E,.inl E,Y⟩) E E ?_
  refine rg ?_;conv=>whnf
  refine An 4 3 Bl E ?_
  refine Jq 1 4 E E (by decide) ?_
  exact done E (.cons .tmp (.cons .tmp .nil)) [] (Ac6 n (injectT n m x.port x.bytes) dd) (fun _ h=>h) E E ⟨Y,⟨.inl E,E,.inl E,E,.inl E,E,.inl E,E,.inl E,E,Y⟩,E,E⟩
 have h1:¬ x.kind = 1:=by simpa using h
 rw [if_neg h1] at hres hdd
 clear h
 refine rg ?_;conv=>whnf
 refine ⟨fun h=>?_,fun h=>?_⟩
 ·have h1:x.kind = 2:=by simpa using h
  rw [if_pos h1] at hres hdd
  subst hres
  have q1:=Amk n hn hm1 m d J D hm0 hD0 hD x.domain x.at_
  rw [← hdd] at q1
  refine rg ?_;conv=>whnf
  refine Ai (Ak [] E F52 q1 E ⟨E,E,E,E,Y⟩ E ⟨.inl E,.inl E,.inl E,.inl E,Y⟩) E E ?_
  refine rg ?_;conv=>whnf
  refine Jq 1 4 E E (by decide) ?_
  exact done E (.cons .tmp (.cons .tmp .nil)) [] (Ac6 n (pickT n m x.domain x.at_).1 dd) (fun _ h=>h) E E ⟨Y,⟨.inl E,E,.inl E,E,.inl E,E,.inl E,E,.inl E,E,Y⟩,E,E⟩
 have h1:¬ x.kind = 2:=by simpa using h
 rw [if_neg h1] at hres hdd
 clear h
 refine rg ?_;conv=>whnf
 refine ⟨fun h=>?_,fun h=>?_⟩
 ·have h1:x.kind = 3:=by simpa using h
  rw [if_pos h1] at hres hdd
  subst hres
  subst hdd
  have q1:=Ac5 n m dd x.domain x.at_ (Cw hm0 _)
  refine rg ?_;conv=>whnf
  refine Ai (Ak [] E F53 q1 E ⟨E,E,E,E,Y⟩ E ⟨.inl E,.inl E,.inl E,.inl E,Y⟩) E E ?_
  refine rg ?_;conv=>whnf
  refine An 4 3 Bl E ?_
  refine Jq 1 4 E E (by decide) ?_
  exact done E (.cons .tmp (.cons .tmp .nil)) [] (Ac6 n (takeM m x.domain x.at_).1 dd) (fun _ h=>h) E E ⟨Y,⟨.inl E,E,.inl E,E,.inl E,E,.inl E,E,.inl E,E,Y⟩,E,E⟩
 have h1:¬ x.kind = 3:=by simpa using h
 rw [if_neg h1] at hres hdd
 clear h
 refine rg ?_;conv=>whnf
 refine ⟨fun h=>?_,fun h=>?_⟩
 ·have h1:x.kind = 4:=by simpa using h
  rw [if_pos h1] at hres hdd
  subst hres
  subst hdd
  have q1:=Amj n m dd J D hm0 hn.domains
  refine rg ?_;conv=>whnf
  refine Ai (Ak [] E F54 q1 E ⟨E,E,E,E,Y⟩ E ⟨.inl E,.inl E,.inl E,.inl E,Y⟩) E E ?_
  refine rg ?_;conv=>whnf
  refine An 4 3 Bl E ?_
  refine Jq 1 4 E E (by decide) ?_
  exact done E (.cons .tmp (.cons .tmp .nil)) [] (Ac6 n (Mh m) dd) (fun _ h=>h) E E ⟨Y,⟨.inl E,E,.inl E,E,.inl E,E,.inl E,E,.inl E,E,Y⟩,E,E⟩
 have h1:¬ x.kind = 4:=by simpa using h
 rw [if_neg h1] at hres hdd
 clear h
 refine rg ?_;conv=>whnf
 refine ⟨fun h=>?_,fun h=>?_⟩
 ·have h1:x.kind = 5:=by simpa using h
  rw [if_pos h1] at hres hdd
  clear h
  refine rg ?_;conv=>whnf
  refine ⟨(by kernel_rfl),?_⟩
  conv=>whnf
  refine ⟨fun h=>?_,fun h=>?_⟩
  ·have h2:x.up.length = n.links.length:=by have:=of_decide_eq_true h; omega
   rw [if_pos h2] at hres hdd
   subst hres
   subst hdd
   clear h
   have hls:=hn.links
   unfold Aq at hls
   refine rg ?_;conv=>whnf
   refine Ag (Ah5 x.up (by omega)) F55 E E E E E ?_
   refine rg ?_;conv=>whnf
   refine An 4 3 Bl E ?_
   refine Av 55 (Mj n x.up false) E (.cons (.refl _) (.cons (.refl _) (.cons (.refl _) (.cons (.refl _) (.cons .nil .nil))))) ?_
   exact done E (.cons .tmp (.cons .tmp .nil)) [(4,55)] (Ac6 n (upT m x.up) false) (fun _ h=>h) E E ⟨Y,⟨.inl E,E,.inr E,E,.inl E,E,.inl E,E,.inl E,E,Y⟩,E,E⟩
  ·have h2:¬ x.up.length = n.links.length:=by have:=of_decide_eq_false h; omega
   rw [if_neg h2] at hres hdd
   subst hres
   subst hdd
   clear h
   refine rg ?_;conv=>whnf
   refine An 4 3 Bl E ?_
   refine Jq 1 4 E E (by decide) ?_
   exact done E (.cons .tmp (.cons .tmp .nil)) [] (Ac6 n m dd) (fun _ h=>h) E E ⟨Y,⟨.inl E,E,.inl E,E,.inl E,E,.inl E,E,.inl E,E,Y⟩,E,E⟩
 have h1:¬ x.kind = 5:=by simpa using h
 rw [if_neg h1] at hres hdd
 subst hres
 subst hdd
 clear h
 refine rg ?_;conv=>whnf
 refine An 4 3 Bl E ?_
 refine Jq 1 4 E E (by decide) ?_
 exact done E (.cons .tmp (.cons .tmp .nil)) [] (Ac6 n m dd) (fun _ h=>h) E E ⟨Y,⟨.inl E,E,.inl E,E,.inl E,E,.inl E,E,.inl E,E,Y⟩,E,E⟩
theorem W8 (n:Net) (hn:n.Fin) (hb:okB n (List.replicate n.links.length true) = false) :
  Sy.Spec Tryz.prog 18 [Ap n] [] (.tup [.val (.pointer none),Aa 2]) []:=Ab Γ hm 100 F18 Tryz.ntmps18 rfl fun F hF=>by
 have hls:=hn.links
 unfold Aq at hls
 have q1:=Aio n.links.length (by omega)
 have q2:=Yl n (List.replicate n.links.length true) hn hb
 generalize List.replicate n.links.length true = up at *
 conv=>whnf
 refine Eb 7 Ad [true] E E ?_
 refine As 7 E ?_
 refine rg ?_;conv=>whnf
 refine Ag q1 F43 E E E E E ?_
 refine rg ?_;conv=>whnf
 refine Ag q2 F44 E E E E E ?_
 (refine rg ?_;(conv=>whnf);refine aT ?_;refine rg ?_;conv=>whnf)
 exact Ac E (.cons .tmp (.cons .tmp .nil)) E E
theorem Aik (n:Net) (hn:n.Fin) (hb:okB n (List.replicate n.links.length true) = true) :
  Sy.Spec Tryz.prog 18 [Ap n] [] (.tup [.ptr 0 0,Aa 0]) (B8 n (newT n) false):=Ab Γ hm 100 F18 Tryz.ntmps18 rfl fun F hF=>by
 have hls:=hn.links
 have hds:=hn.domains
 unfold Aq at hls hds
 have q1:=Aio n.links.length (by omega)
 have q2:=Aal n (List.replicate n.links.length true) hn hb
 have hnt:=newT.eq_1 n
 generalize newT n = m at *
 generalize List.replicate n.links.length true = up at *
 conv=>whnf
 refine Eb 7 Ad [true] E E ?_
 refine As 7 E ?_
 refine rg ?_;conv=>whnf
 refine Ag q1 F43 E E E E E ?_
 refine rg ?_;conv=>whnf
 refine Ag q2 F44 E E E E E ?_
 (refine rg ?_;(conv=>whnf);refine aF ?_;refine rg ?_;conv=>whnf)
 refine At (copyS n hn) F45 E E E (by kernel_rfl) E ?_
 refine rd (by kernel_rfl) ?_;conv=>whnf
 refine Bi (Bw Γ.toTy (d:=28) (n:=n.domains.length) (fun _:Unit=>.val (.slice none 0 0)) () E E E E E E E E (by omega) (by omega) E E E) (by kernel_rfl) E ?_
 refine rd (by kernel_rfl) ?_;conv=>whnf
 refine Bi (Bw Γ.toTy (d:=32) (n:=n.domains.length) (fun _:Unit=>.val (.slice none 0 0)) () E E E E E E E E (by omega) (by omega) E E E) (by kernel_rfl) E ?_
 refine rd (by kernel_rfl) ?_;conv=>whnf
 refine ⟨(by kernel_rfl),?_⟩
 refine Uk 28 (e':=H8) (l':=List.replicate n.domains.length []) E (by simp) (fun M w i h1 h2 v hv=>?_) ?_
 ·rw [List.getElem_replicate]
  simp only [RdD] at hv
  exact Mf hv
 refine Uk 32 (e':=La) (l':=List.replicate n.domains.length []) E (by simp) (fun M w i h1 h2 v hv=>?_) ?_
 ·rw [List.getElem_replicate]
  simp only [RdD] at hv
  exact Mf hv
 refine Av 24 (Mj n up false) E (.cons (.refl _) (.cons (.refl _) (.cons (.refl _) (.cons (.refl _) (.cons .nil .nil))))) ?_
 refine rg ?_;conv=>whnf
 subst hnt
 exact done E (.cons .tmp (.cons .tmp .nil)) [(0,34),(1,24),(2,28),(3,32)] (B8 n ⟨up,List.replicate n.domains.length [],List.replicate n.domains.length [],0,0,fun _=>0⟩ false) (fun _ h=>h) E E ⟨Y,⟨.inl E,E,.inl E,E,.inl E,E,.inl E,E,Y⟩,E,E⟩
theorem Ajx (x:StepM) :
  Sy.Spec Tryz.prog 21 [.val (.pointer none),Dr x] [] (.tup [.sl 3 Bl [],Aa 1]) []:=Ab Γ hm 100 F21 Tryz.ntmps21 rfl fun F hF=>by
 conv=>whnf
 refine Ai (I3 Γ.toTy E (.inl E) E E E (.inr ⟨E,E,E⟩)) E E ?_
 (refine rg ?_;(conv=>whnf);refine aT ?_;refine rg ?_;conv=>whnf)
 refine An 4 3 Bl E ?_
 exact Ac E (.cons .tmp (.cons .tmp .nil)) E E
end Go.Sy.YtmelpejjondedaaGreat
namespace Go.Sy.YtmelpejjondedaaGreat
open Go.Proofs
theorem Vi (n:Net):∀ (a b:List StepM) (m:MacM),Di n m (a ++ b) = ((Di n (Di n m a).1 b).1,(Di n m a).2 ++ (Di n (Di n m a).1 b).2)
 | [],b,m=>by simp [Di]
 | o :: a,b,m=>by
  rw [List.cons_append,Di,Di,Vi n a b]
  simp
theorem Zx (n:Net) (m:MacM) (l:List StepM) (j:Nat) (hj:j < l.length) :
  Di n m (l.take (j + 1)) = ((doT n (Di n m (l.take j)).1 l[j]).1,(Di n m (l.take j)).2 ++ (doT n (Di n m (l.take j)).1 l[j]).2):=by
 rw [List.take_succ_eq_append_getElem hj,Vi]
 simp [Di]
def runF (n:Net) (s:MacM × Bool) (l:List StepM):MacM × Bool:=l.foldl (fun s x=>((doT n s.1 x).1,doD n s.1 s.2 x)) s
theorem Adc (n:Net):∀ (l:List StepM) (s:MacM × Bool),(runF n s l).1 = (Di n s.1 l).1
 | [],s=>rfl
 | x :: l,s=>by
  have:=Adc n l ((doT n s.1 x).1,doD n s.1 s.2 x)
  rw [Di]
  exact this
def runD (n:Net) (m:MacM) (d:Bool) (l:List StepM):Bool:=(runF n (m,d) l).2
theorem Zy (n:Net) (m:MacM) (d:Bool) (l:List StepM) (j:Nat) (hj:j < l.length) :
  runD n m d (l.take (j + 1)) = doD n (Di n m (l.take j)).1 (runD n m d (l.take j)) l[j]:=by
 unfold runD
 rw [List.take_succ_eq_append_getElem hj]
 have:=Adc n (l.take j) (m,d)
 unfold runF at this ⊢
 rw [List.foldl_append]
 show doD n (List.foldl _ (m,d) (l.take j)).1 _ l[j] = _
 rw [this]
theorem Aoh {n:Net} (hn:n.Fin) (hm1:n.Num) {m:MacM} {J D:Int} (h:MacOK n m J D) (hJ:0 ≤ J) (hD:0 ≤ D) (x:StepM):MacOK n (doT n m x).1 (J + 1) (D + 4294967298):=by
 unfold doT
 split
 ·exact (Ahl hn h hJ hD _ _).mono (by omega) (by omega)
 split
 ·have hok:=S3 h x.domain x.at_
  unfold pickT
  split
  ·exact hok.1.mono (by omega) (by omega)
  ·have hb:=Ks hn (Hs n (takeM m x.domain x.at_).1.up) (tableL (takeM m x.domain x.at_).1 x.domain) x.domain (takeM m x.domain x.at_).2.1 (takeM m x.domain x.at_).1.now
   have h1:=Xv hok.1 hD x.domain (Or (n:=n) (fw:=Hs n (takeM m x.domain x.at_).1.up) (dom:=x.domain) (now:=(takeM m x.domain x.at_).1.now) (K4 hok.1 x.domain) hok.2)
   have h2:=I4 hn (takeM m x.domain x.at_).2.1.origin (Ti n (takeM m x.domain x.at_).1 x.domain (takeM m x.domain x.at_).2.1).2.1 h1 (by omega) (Ot hn hm1 hok.2)
   refine h2.mono (by omega) ?_
   unfold Ti
   omega
 split
 ·exact (S3 h x.domain x.at_).1.mono (by omega) (by omega)
 split
 ·have h1:=h.now
  refine ⟨h.up,by unfold Mh; simp only [List.length_map]; exact h.tabs,h.ques,fun t ht=>?_,h.que,?_,?_,fun i=>?_⟩
  ·unfold Mh at ht
   obtain ⟨t0,ht0,rfl⟩:=List.mem_map.1 ht
   exact Aqg (h.tab t0 ht0) _
  ·unfold Mh
   dsimp only
   omega
  ·have:=h.inj
   unfold Mh
   dsimp only
   omega
  ·have:=h.drp i
   unfold Mh
   dsimp only
   omega
 split
 ·split
  ·rename_i h2
   exact MacOK.mono (n:=n) (m:=⟨x.up,m.tables,m.queues,m.now,m.injected,m.drops⟩) ⟨h2,h.tabs,h.ques,h.tab,h.que,h.now,h.inj,h.drp⟩ (by omega) (by omega)
  ·exact h.mono (by omega) (by omega)
 ·exact h.mono (by omega) (by omega)
theorem Aca {n:Net} (hn:n.Fin) (m:MacM) (x:StepM):(doT n m x).2.length < 4294967296:=by
 unfold doT
 split
 ·show (0:Nat) < 4294967296; decide
 split
 ·unfold pickT
  split
  ·show (0:Nat) < 4294967296; decide
  ·have hb:=Ks hn (Hs n (takeM m x.domain x.at_).1.up) (tableL (takeM m x.domain x.at_).1 x.domain) x.domain (takeM m x.domain x.at_).2.1 (takeM m x.domain x.at_).1.now
   have h2:=Hn n (takeM m x.domain x.at_).2.1.origin (Ti n (takeM m x.domain x.at_).1 x.domain (takeM m x.domain x.at_).2.1).2.1 (Jc (takeM m x.domain x.at_).1 x.domain (Ti n (takeM m x.domain x.at_).1 x.domain (takeM m x.domain x.at_).2.1))
   unfold Ti at h2 ⊢
   omega
 split
 ·show (0:Nat) < 4294967296; decide
 split
 ·show (0:Nat) < 4294967296; decide
 split
 ·show (0:Nat) < 4294967296; decide
 ·show (0:Nat) < 4294967296; decide
theorem Aa7 {n:Net} (hn:n.Fin) (hm1:n.Num):∀ (l:List StepM) {m:MacM} {J D:Int},MacOK n m J D → 0 ≤ J → 0 ≤ D → MacOK n (Di n m l).1 (J + l.length) (D + l.length * 4294967298)
 | [],m,J,D,h,_,_=>by
  rw [Di]
  exact h.mono (by simp) (by simp)
 | x :: l,m,J,D,h,hJ,hD=>by
  rw [Di]
  have:=Aa7 hn hm1 l (Aoh hn hm1 h hJ hD x) (by omega) (by omega)
  exact this.mono (by simp only [List.length_cons]; omega) (by simp only [List.length_cons]; omega)
theorem Adb {n:Net} (hn:n.Fin):∀ (l:List StepM) (m:MacM),(Di n m l).2.length ≤ l.length * 4294967296
 | [],m=>by simp [Di]
 | x :: l,m=>by
  rw [Di]
  have h1:=Adb hn l (doT n m x).1
  have h2:=Aca hn m x
  simp only [List.length_append,List.length_cons]
  omega
theorem Ait (n:Net):MacOK n (newT n) 0 0:=by
 refine ⟨by simp [newT],by simp [newT],by simp [newT],fun t ht=>?_,fun l hl=>?_,by simp [newT],by simp [newT],fun i=>by simp [newT]⟩
 ·have:t = []:=(List.mem_replicate.1 ht).2
  rw [this]; exact U0
 ·have:l = []:=(List.mem_replicate.1 hl).2
  rw [this]; exact Vs
def Aax (n:Net):List Bool:=List.replicate n.links.length true
def runT (n:Net) (l:List StepM):List SeenM × Int:=if okB n (Aax n) = true then ((Di n (newT n) l).2,0) else ([],2)
structure ScriptOK (l:List StepM):Prop where
 few:l.length ≤ 60
 bytes:∀ x ∈ l,x.bytes.length ≤ 2000
attribute [local irreducible] Go.Sy.G Go.Sy.DR
set_option maxRecDepth 100000
set_option maxHeartbeats 4000000
def runO (n:Net) (m:MacM) (d:Bool) (l:List SeenM):Obs:=[(0,.box (V9 n 1 m.now m.injected m.drops)),(1,.box (Mj n m.up d)),(2,.row 1 H8 m.tables),(3,.row 1 La m.queues),(1000,.row 3 Bl l)]
theorem Apf (n:Net) (hn:n.Fin) (hm1:n.Num) (l:List StepM) (hl:ScriptOK l) :
  Sy.Spec Tryz.prog 13 [Ap n,.sl 6 Dr l] [] (.tup [.sl 3 Bl (runT n l).1,Aa (runT n l).2]) []:=Ab Γ hm 100 F13 Tryz.ntmps13 rfl fun F hF=>by
 have hres:=runT.eq_1 n l
 generalize runT n l = res at *
 have hlen:=hl.few
 cases hok:okB n (Aax n)
 ·rw [if_neg (by rw [hok]; simp)] at hres
  subst hres
  have q1:=W8 n hn hok
  conv=>whnf
  refine Ag q1 F18 E E E E E ?_
  (refine rg ?_;(conv=>whnf);refine aT ?_;refine rg ?_;conv=>whnf)
  refine An 4 3 Bl E ?_
  exact Ac E (.cons .tmp (.cons .tmp .nil)) E E
 ·rw [if_pos hok] at hres
  subst hres
  have q1:=Aik n hn hok
  have hn0:=Ait n
  generalize newT n = m0 at *
  conv=>whnf
  refine Ai (Ak [(0,800),(1,801),(2,802),(3,803)] E F18 q1 E Y E ⟨.inr E,.inr E,.inr E,.inr E,Y⟩) E E ?_
  (refine rg ?_;(conv=>whnf);refine aF ?_;refine rg ?_;conv=>whnf)
  refine Bt 8 1000 3 Bl E E ?_
  refine Au l.length (fun j=>[(6,.ptr 0 0),(8,.osl 1000),(21,.sl 6 Dr l),(22,Aa l.length),(23,Aa j)]) (fun j=>runO n (Di n m0 (l.take j)).1 (runD n m0 false (l.take j)) (Di n m0 (l.take j)).2) [(0,800),(1,801),(2,802),(3,803)] ⟨⟨E,E,E,E,E,E,E,E,E,E,Y⟩,⟨.inl E,E,.inl E,E,.inl E,E,.inl E,E,.inl E,E,Y⟩,E,E⟩ ?_
  intro j hj
  refine rg ?_;conv=>whnf
  refine ⟨fun h=>?_,fun h=>?_⟩
  ·have hlt:j < l.length:=by have:=of_decide_eq_true h; omega
   have hj0:((j:Nat):Int).toNat < l.length:=by simpa using hlt
   obtain ⟨x,hoo⟩:∃ x,l[j] = x:=⟨_,rfl⟩
   have e1:l[((j:Nat):Int).toNat]'hj0 = x:=hoo
   have hs:=Zx n m0 l j hlt
   have hds:=Zy n m0 false l j hlt
   rw [hoo] at hs hds
   have hxb:=hl.bytes x (by rw [← hoo]; exact List.getElem_mem hlt)
   have hjo:=Aa7 hn hm1 (l.take j) hn0 (Int.le_refl _) (Int.le_refl _)
   have hjl:(l.take j).length = j:=by rw [List.length_take]; omega
   have hjf:=Adb hn (l.take j) m0
   rw [hjl] at hjo hjf
   have q5:=Amn n hn hm1 (Di n m0 (l.take j)).1 (runD n m0 false (l.take j)) _ _ hjo (by omega) (by omega) (by omega) x (by omega)
   have hfw:=Aca hn (Di n m0 (l.take j)).1 x
   clear h
   refine rg ?_;conv=>whnf
   refine ⟨E,by omega,hj0,?_⟩
   rw [e1]
   conv=>whnf
   refine Ai (Ak [(4,30)] E F21 q5 E ⟨E,E,E,E,Y⟩ E ⟨.inl E,.inl E,.inl E,.inl E,.inr E,Y⟩) E E ?_
   refine rg ?_;conv=>whnf
   refine Ai (Af Γ.toTy 35 E E E E E (.row E) .sl (by simp) (by omega) (by omega)) E E ?_
   refine rg ?_;conv=>whnf
   refine ⟨by unfold I64; omega,?_⟩
   conv=>whnf
   have g1:(Di n m0 (l.take (j + 1))).1 = (doT n (Di n m0 (l.take j)).1 x).1:=by rw [hs]
   have g2:(Di n m0 (l.take (j + 1))).2 = (Di n m0 (l.take j)).2 ++ (doT n (Di n m0 (l.take j)).1 x).2:=by rw [hs]
   refine Ar [(1,30),(1000,35)] hlt ⟨⟨E,E,E,E,E,E,E,E,E,E,Y⟩,?_,E,E⟩
   dsimp only
   rw [g1,g2,hds]
   exact ⟨.inl E,E,.inl E,E,.inl E,E,.inl E,E,.inl E,E,Y⟩
  ·have hjj:j = l.length:=by have:=of_decide_eq_false h; omega
   subst hjj
   rw [List.take_length]
   clear h
   refine rg ?_;conv=>whnf
   refine As 1000 E ?_
   exact Ac E (.cons .tmp (.cons .tmp .nil)) E E
end Go.Sy.YtmelpejjondedaaGreat
namespace Go.Sy.YtmelpejjondedaaGreat
open Go.Proofs
attribute [local irreducible] Go.Sy.G Go.Sy.DR
set_option maxRecDepth 100000
set_option maxHeartbeats 4000000
theorem Oq (b:ByteArray):(b == b) = true:=by
 show (b.data == b.data) = true
 simp
theorem Af5 (l:List SeenM) (hl:l.length < 1000000000000):Sy.Spec Tryz.prog 16 [.sl 3 Bl l,.sl 3 Bl l] [] (Ad true) []:=Ab Γ hm 100 F16 Tryz.ntmps16 rfl fun F hF=>by
 conv=>whnf
 (refine ⟨fun h=>False.elim (by simp at h),fun _=>?_⟩;refine rg ?_;conv=>whnf)
 refine Au l.length (fun j=>[(0,.sl 3 Bl l),(1,.sl 3 Bl l),(5,Aa j)]) (fun _=>[]) [] ⟨⟨E,E,E,E,E,E,Y⟩,Y,E,E⟩ ?_
 intro j hj
 refine rg ?_;conv=>whnf
 refine ⟨fun h=>?_,fun h=>?_⟩
 ·have hlt:j < l.length:=by have:=of_decide_eq_true h; omega
  have hj0:((j:Nat):Int).toNat < l.length:=by simpa using hlt
  clear h
  refine rg ?_;conv=>whnf
  refine ⟨E,by omega,hj0,?_⟩
  conv=>whnf
  refine ⟨E,by omega,hj0,?_⟩
  conv=>whnf
  (refine ⟨fun h=>False.elim (by simp at h),fun _=>?_⟩;refine rd (by kernel_rfl) ?_;conv=>whnf)
  refine ⟨E,by omega,hj0,?_⟩
  conv=>whnf
  refine ⟨E,by omega,hj0,?_⟩
  conv=>whnf
  (refine ⟨fun h=>False.elim (by simp at h),fun _=>?_⟩;refine rd (by kernel_rfl) ?_;conv=>whnf)
  refine ⟨E,by omega,hj0,?_⟩
  conv=>whnf
  refine Bi (Dh Γ.toTy (bs:=l[((j:Nat):Int).toNat].bytes) E E E E E E E .sl) (by kernel_rfl) E ?_
  refine rd (by kernel_rfl) ?_;conv=>whnf
  refine ⟨E,by omega,hj0,?_⟩
  conv=>whnf
  refine Bi (Dh Γ.toTy (bs:=l[((j:Nat):Int).toNat].bytes) E E E E E E E .sl) (by kernel_rfl) E ?_
  refine rd (by kernel_rfl) ?_;conv=>whnf
  refine ⟨(by kernel_rfl),?_⟩
  conv=>whnf
  refine ⟨fun h=>False.elim (by simp [Oq] at h),fun _=>?_⟩
  refine rg ?_;conv=>whnf
  refine ⟨by unfold I64; omega,?_⟩
  conv=>whnf
  exact Ar [] hlt ⟨⟨E,E,E,E,E,E,Y⟩,Y,E,E⟩
 ·refine rg ?_;conv=>whnf
  exact Ac E (.cons .tmp .nil) E E
theorem Age (l:List EntryM) (hl:l.length < 1000000000000):Sy.Spec Tryz.prog 58 [.sl 3 Al l,.sl 3 Al l] [] (Ad true) []:=Ab Γ hm 100 F58 Tryz.ntmps58 rfl fun F hF=>by
 conv=>whnf
 (refine ⟨fun h=>False.elim (by simp at h),fun _=>?_⟩;refine rg ?_;conv=>whnf)
 refine Au l.length (fun j=>[(0,.sl 3 Al l),(1,.sl 3 Al l),(5,Aa j)]) (fun _=>[]) [] ⟨⟨E,E,E,E,E,E,Y⟩,Y,E,E⟩ ?_
 intro j hj
 refine rg ?_;conv=>whnf
 refine ⟨fun h=>?_,fun h=>?_⟩
 ·have hlt:j < l.length:=by have:=of_decide_eq_true h; omega
  have hj0:((j:Nat):Int).toNat < l.length:=by simpa using hlt
  obtain ⟨x,hoo⟩:∃ x,l[j] = x:=⟨_,rfl⟩
  have e1:l[((j:Nat):Int).toNat]'hj0 = x:=hoo
  clear h
  refine rg ?_;conv=>whnf
  refine ⟨E,by omega,hj0,?_⟩
  rw [e1]
  conv=>whnf
  refine ⟨E,by omega,hj0,?_⟩
  rw [e1]
  conv=>whnf
  refine ⟨(by kernel_rfl),?_⟩
  conv=>whnf
  (refine ⟨fun h=>False.elim (by simp at h),fun _=>?_⟩;refine rg ?_;conv=>whnf)
  refine ⟨by unfold I64; omega,?_⟩
  conv=>whnf
  exact Ar [] hlt ⟨⟨E,E,E,E,E,E,Y⟩,Y,E,E⟩
 ·refine rg ?_;conv=>whnf
  exact Ac E (.cons .tmp .nil) E E
theorem Agl (f:FrameM):Sy.Spec Tryz.prog 188 [Bc f,Bc f] [] (Ad true) []:=Ab Γ hm 100 F188 Tryz.ntmps188 rfl fun F hF=>by
 conv=>whnf
 (refine ⟨fun _=>?_,fun h=>False.elim (by simp at h)⟩;refine rg ?_;conv=>whnf)
 (refine ⟨fun _=>?_,fun h=>False.elim (by simp at h)⟩;refine rg ?_;conv=>whnf)
 (refine ⟨fun _=>?_,fun h=>False.elim (by simp at h)⟩;refine rg ?_;conv=>whnf)
 refine Ai (Dh Γ.toTy (bs:=f.body) E E E E E E E .sl) E E ?_
 refine rg ?_;conv=>whnf
 refine Ai (Dh Γ.toTy (bs:=f.body) E E E E E E E .sl) E E ?_
 refine rg ?_;conv=>whnf
 refine Ac E (.cons .tmp .nil) ?_ E
 exact congrArg Ad (Oq _).symm
theorem Ake (q:QueuedM):Sy.Spec Tryz.prog 108 [Aw q,Aw q] [] (Ad true) []:=Ab Γ hm 100 F108 Tryz.ntmps108 rfl fun F hF=>by
 conv=>whnf
 (refine ⟨fun _=>?_,fun h=>False.elim (by simp at h)⟩;refine rg ?_;conv=>whnf)
 (refine ⟨fun _=>?_,fun h=>False.elim (by simp at h)⟩;refine rg ?_;conv=>whnf)
 (refine ⟨fun _=>?_,fun h=>False.elim (by simp at h)⟩;refine rg ?_;conv=>whnf)
 refine Ag (Agl q.frame) F188 E E E E E ?_
 refine rg ?_;conv=>whnf
 exact Ac E (.cons .tmp .nil) E E
theorem Af7 (l:List QueuedM) (hl:l.length < 1000000000000):Sy.Spec Tryz.prog 56 [.sl 7 Aw l,.sl 7 Aw l] [] (Ad true) []:=Ab Γ hm 100 F56 Tryz.ntmps56 rfl fun F hF=>by
 conv=>whnf
 (refine ⟨fun h=>False.elim (by simp at h),fun _=>?_⟩;refine rg ?_;conv=>whnf)
 refine Au l.length (fun j=>[(0,.sl 7 Aw l),(1,.sl 7 Aw l),(5,Aa j)]) (fun _=>[]) [] ⟨⟨E,E,E,E,E,E,Y⟩,Y,E,E⟩ ?_
 intro j hj
 refine rg ?_;conv=>whnf
 refine ⟨fun h=>?_,fun h=>?_⟩
 ·have hlt:j < l.length:=by have:=of_decide_eq_true h; omega
  have hj0:((j:Nat):Int).toNat < l.length:=by simpa using hlt
  obtain ⟨x,hoo⟩:∃ x,l[j] = x:=⟨_,rfl⟩
  have e1:l[((j:Nat):Int).toNat]'hj0 = x:=hoo
  clear h
  refine rg ?_;conv=>whnf
  refine ⟨E,by omega,hj0,?_⟩
  rw [e1]
  conv=>whnf
  refine ⟨E,by omega,hj0,?_⟩
  rw [e1]
  conv=>whnf
  refine At (Ake x) F108 E E E (by kernel_rfl) E ?_
  refine rd (by kernel_rfl) ?_;conv=>whnf
  refine ⟨(by kernel_rfl),?_⟩
  ((conv=>whnf);refine aF ?_;refine rg ?_;conv=>whnf)
  (skip)
  refine ⟨by unfold I64; omega,?_⟩
  conv=>whnf
  exact Ar [] hlt ⟨⟨E,E,E,E,E,E,Y⟩,Y,E,E⟩
 ·refine rg ?_;conv=>whnf
  exact Ac E (.cons .tmp .nil) E E
theorem Ux {n:Net} (hb:Ah n = true) {i:Nat} (hi:i < n.ports.length):n.ports[i].link = -1 ∨ 0 ≤ n.ports[i].link:=by
 have:=Aod hb hi
 simp only [Em,Am,Bool.and_eq_true,Bool.or_eq_true,decide_eq_true_eq,beq_iff_eq] at this
 rcases this.2 with h1 | h1
 ·exact .inl h1
 ·exact .inr h1.1.1
theorem Aj2 {n:Net} {fw:List Bool} {dom fr:Int} (h:roomB n fw dom fr = true):fr = -1 ∨ fr = -2 ∨ 0 ≤ fr:=by
 simp only [roomB,Bool.and_eq_true,Bool.or_eq_true,decide_eq_true_eq] at h
 rcases h.2 with (h | h) | h
 ·exact .inl h
 ·exact .inr (.inl h)
 ·exact .inr (.inr (By fr (inB_mem.1 h)).1)
theorem Af9 (n:Net) (hn:n.Fin) (hm0:n.Num) (fw:List Bool) (t:List EntryM) (dom:Int) (q:QueuedM) (now:Int) (ht:TabOK t) (hq:QueuedOK q) :
  Sy.Spec Tryz.prog 81 [Ap n,.sl 1 Ad fw,.sl 3 Al t,Aa dom,Aw q,Aa now] [] (.tup [.sl 3 Al (bridgeT n fw t dom q now).1,.sl 9 Bg (bridgeT n fw t dom q now).2.1,Aa (bridgeT n fw t dom q now).2.2]) []:=Ab Γ hm 100 F81 Tryz.ntmps81 rfl fun F hF=>by
 have hres:=bridgeT.eq_1 n fw t dom q now
 generalize bridgeT n fw t dom q now = res at *
 have qf:=Vk n hn fw dom q.from_
 have qr:=Ki t ht.short ht.mac
 have htl:=ht.short
 unfold Aq at htl
 conv=>whnf
 refine Bf 6 8 (Ap n) E E E ?_
 refine Bf 10 7 (Aw q) E E E ?_
 refine rg ?_;conv=>whnf
 cases hroom:roomB n fw dom q.from_
 ·rw [if_pos (.inl hroom)] at hres
  subst hres
  rw [floodT,if_pos hroom] at qf
  refine Ag qf F143 E E E E E ?_
  (refine rg ?_;(conv=>whnf);refine aT ?_;refine rg ?_;(conv=>whnf);refine aT ?_;refine rg ?_;conv=>whnf)
  refine An 13 9 Bg E ?_
  refine An 12 3 Al E ?_
  exact Ac E (.cons .tmp (.cons .tmp (.cons .tmp .nil))) E E
 rw [floodT,if_neg (by rw [hroom]; decide)] at qf
 refine Ag qf F143 E E E E E ?_
 (refine rg ?_;(conv=>whnf);refine aF ?_;refine rg ?_;conv=>whnf)
 refine Ag qr F20 E E E E E ?_
 cases htb:tableB t
 ·rw [if_pos (.inr htb)] at hres
  subst hres
  (refine rg ?_;(conv=>whnf);refine aT ?_;refine rg ?_;conv=>whnf)
  refine An 13 9 Bg E ?_
  refine An 12 3 Al E ?_
  exact Ac E (.cons .tmp (.cons .tmp (.cons .tmp .nil))) E E
 rw [if_neg (by simp [hroom,htb])] at hres
 have hfrom:=Aj2 hroom
 have hlq:=learnQ.eq_1 t q now
 have hu:=Lf ht hq now
 generalize learnQ t q now = u at *
 have hbn:Ah n = true:=by
  simp only [roomB,Bool.and_eq_true] at hroom
  exact hroom.1.2
 have hpd:Am dom n.domains.length = true:=by
  simp only [roomB,Bool.and_eq_true] at hroom
  exact hroom.1.1.1
 have hsr:=hq.frame.src
 have hpe:=hq.peer
 have hfr:=hq.from_
 have qro:=Abb n hn hm0 hbn dom hpd q.frame.dst
 generalize routerT n dom q.frame.dst = ro at *
 obtain ⟨irb,ok⟩:=ro
 dsimp only at hres qro
 have hs:=hq.frame.src
 have hd2:=hq.frame.dst
 have hfw:=Ai6 hu q.frame.dst
 have qd:=Aba n hn fw u dom q.from_ q.frame.dst hu.short hfw (by omega)
 have hports:=Ub hbn fw u dom q.from_ q.frame.dst
 have hfew:=Ss hn fw u dom q.from_ q.frame.dst
 have qh:=Akf n hn hm0 irb q.frame hq.frame
 (refine rg ?_;(conv=>whnf);refine aF ?_;refine rg ?_;conv=>whnf)
 refine Ai (Af Γ.toTy 54 E E E E E (.lit (e:=Al) (l:=[]) E E) .sl (by simp) (by simp; omega) (by simp; omega)) E E ?_
 refine As 54 E ?_
 rcases hfrom with hf | hf | hf
 ·rw [if_neg (by omega),if_pos hf] at hlq
  have qle:=Vl t q.frame.src (-1 - q.peer) now ht.short ht.mac (by omega)
  rw [← hlq] at qle
  refine rg ?_;conv=>whnf
  (refine ⟨fun h=>False.elim (by simp at h; omega),fun _=>?_⟩;refine rg ?_;conv=>whnf)
  (refine ⟨fun _=>?_,fun h=>False.elim (by simp at h; omega)⟩;refine rg ?_;conv=>whnf)
  refine ⟨by unfold I64; omega,?_⟩
  conv=>whnf
  refine Ag qle F144 E E E E E ?_
  refine rg ?_;conv=>whnf
  refine Ag qro F145 E E E E E ?_
  cases ok
  rotate_left
  ·rw [if_pos rfl] at hres
   generalize hopT n irb q.frame = hp at *
   obtain ⟨to,g,e⟩:=hp
   dsimp only at hres qh
   (refine rg ?_;(conv=>whnf);refine aT ?_;refine rg ?_;conv=>whnf)
   refine Ag qh F146 E E E E E ?_
   refine rg ?_;conv=>whnf
   refine ⟨fun h=>?_,fun h=>?_⟩
   ·rw [if_pos (by simpa using h)] at hres
    subst hres
    refine rg ?_;conv=>whnf
    refine An 13 9 Bg E ?_
    exact Ac E (.cons .tmp (.cons .tmp (.cons .tmp .nil))) E E
   ·rw [if_neg (by simpa using h)] at hres
    subst hres
    refine rg ?_;conv=>whnf
    refine ⟨(by kernel_rfl),?_⟩
    conv=>whnf
    refine Oz 105 [Bg ⟨4,0,to,[],g,0⟩] E (.cons (.agg (.cons (.refl _) (.cons (.refl _) (.cons (.refl _) (.cons .nil (.cons (.refl _) (.cons (.refl _) (.cons (.refl _) (.cons (.refl _) (.cons (.refl _) .nil)))))))))) .nil) E ?_
    refine Eb 105 Bg [⟨4,0,to,[],g,0⟩] E E ?_
    refine As 105 E ?_
    exact Ac E (.cons .tmp (.cons .tmp (.cons .tmp .nil))) E E
  rw [if_neg (by decide)] at hres
  generalize decideT n fw u dom q.from_ q.frame.dst = dc at *
  obtain ⟨ports,peers,e0⟩:=dc
  dsimp only at hres qd hports hfew
  obtain ⟨hf1,hf2⟩:=hfew
  (refine rg ?_;(conv=>whnf);refine aF ?_;refine rg ?_;conv=>whnf)
  refine Ag qd F147 E E E E E ?_
  refine rg ?_;conv=>whnf
  refine Bt 27 1000 9 Bg E E ?_
  refine Au ports.length (fun j=>[(3,Aa dom),(6,.ref 8 (Ap n) 0),(10,.ref 7 (Aw q) 0),(18,.sl 3 Al u),(24,.sl 1 Aa ports),(25,.sl 1 Aa peers),(27,.osl 1000),(28,Aa j)])
   (fun j=>[(1000,.row 9 Bg ((ports.take j).map (Et n dom q.frame)))]) [] ⟨⟨rfl,rfl,rfl,rfl,rfl,rfl,rfl,rfl,rfl,rfl,rfl,rfl,rfl,rfl,rfl,rfl,trivial⟩,⟨.inl rfl,rfl,trivial⟩,rfl,rfl⟩ ?_
  intro j hj
  refine rg ?_;conv=>whnf
  refine ⟨fun h=>?_,fun h=>?_⟩
  ·have hlt:j < ports.length:=by have:=of_decide_eq_true h; omega
   have hj0:((j:Nat):Int).toNat < ports.length:=by simpa using hlt
   obtain ⟨p,hp⟩:∃ p,ports[j] = p:=⟨_,rfl⟩
   have e1:ports[((j:Nat):Int).toNat]'hj0 = p:=hp
   have hs:(ports.take (j + 1)).map (Et n dom q.frame) = (ports.take j).map (Et n dom q.frame) ++ [Et n dom q.frame p]:=by
    rw [List.take_succ_eq_append_getElem hlt,List.map_append,hp]; rfl
   have hal:((ports.take j).map (Et n dom q.frame)).length = j:=by rw [List.length_map,List.length_take]; omega
   have hpi:=hports p (by rw [← hp]; exact List.getElem_mem hlt)
   have hpk:p.toNat < n.ports.length:=by omega
   have ql:=Xh n hn p dom q.frame hq.frame
   have hop:Et n dom q.frame p = Dz (Jk (if (nth n.ports p).link < 0 then 1 else 2) p 0) ((leaveT n p dom q.frame).1,(leaveT n p dom q.frame).2):=rfl
   rw [hop,Ao hpk] at hs
   clear hop
   obtain ⟨acc,hacc⟩:∃ acc,(ports.take j).map (Et n dom q.frame) = acc:=⟨_,rfl⟩
   rw [hacc] at hs hal ⊢
   have hli:=Ux hbn hpk
   obtain ⟨x,hx⟩:∃ x,n.ports[p.toNat]'hpk = x:=⟨_,rfl⟩
   rw [hx] at hs hli
   clear h
   refine rg ?_;conv=>whnf
   refine ⟨E,by omega,hj0,?_⟩
   rw [e1]
   conv=>whnf
   refine At ql F148 E E E (by kernel_rfl) E ?_
   refine rd (by kernel_rfl) ?_;conv=>whnf
   refine ⟨(by kernel_rfl),?_⟩
   conv=>whnf
   refine ⟨E,by omega,hj0,?_⟩
   rw [e1]
   conv=>whnf
   refine ⟨E,by omega,hj0,?_⟩
   rw [e1]
   conv=>whnf
   refine ⟨E,hpi.1,hpk,?_⟩
   rw [hx]
   conv=>whnf
   refine ⟨(by kernel_rfl),?_⟩
   conv=>whnf
   refine ⟨fun h=>?_,fun h=>?_⟩
   ·rw [if_neg (by have:¬ x.link = -1:=(by simpa using h); omega)] at hs
    refine rg ?_;conv=>whnf
    refine Ai (D8 [] [] E F149 (D4 2 p 0 (leaveT n p dom q.frame).1 (leaveT n p dom q.frame).2) (.cons (.agg (.cons (.refl _) (.cons (.refl _) (.cons (.refl _) (.cons .nil (.cons (.refl _) (.cons (.refl _) (.cons (.refl _) (.cons .nil (.cons (.refl _) .nil)))))))))) (.cons (.refl _) (.cons (.refl _) .nil))) Y E Y E) E E ?_
    refine rg ?_;conv=>whnf
    refine Ai (Af Γ.toTy 160 E E E E E (.row E) (.lit (e:=Bg) (l:=[Dz (Jk 2 p 0) ((leaveT n p dom q.frame).1,(leaveT n p dom q.frame).2)]) E E) (by simp) (by simp; omega) (by simp; omega)) E E ?_
    refine rg ?_;conv=>whnf
    refine ⟨by unfold I64; omega,?_⟩
    conv=>whnf
    exact Ar [(1000,160)] hlt ⟨⟨E,E,E,E,E,E,E,E,E,E,E,E,E,E,E,E,Y⟩,⟨.inl (congrArg (Ob.row 9 Bg) hs),E,Y⟩,E,E⟩
   ·rw [if_pos (by have:x.link = -1:=(by simpa using h); omega)] at hs
    refine rg ?_;conv=>whnf
    refine Ai (D8 [] [] E F149 (D4 1 p 0 (leaveT n p dom q.frame).1 (leaveT n p dom q.frame).2) (.cons (.agg (.cons (.refl _) (.cons (.refl _) (.cons (.refl _) (.cons .nil (.cons (.refl _) (.cons (.refl _) (.cons (.refl _) (.cons .nil (.cons (.refl _) .nil)))))))))) (.cons (.refl _) (.cons (.refl _) .nil))) Y E Y E) E E ?_
    refine rg ?_;conv=>whnf
    refine Ai (Af Γ.toTy 160 E E E E E (.row E) (.lit (e:=Bg) (l:=[Dz (Jk 1 p 0) ((leaveT n p dom q.frame).1,(leaveT n p dom q.frame).2)]) E E) (by simp) (by simp; omega) (by simp; omega)) E E ?_
    refine rg ?_;conv=>whnf
    refine ⟨by unfold I64; omega,?_⟩
    conv=>whnf
    exact Ar [(1000,160)] hlt ⟨⟨E,E,E,E,E,E,E,E,E,E,E,E,E,E,E,E,Y⟩,⟨.inl (congrArg (Ob.row 9 Bg) hs),E,Y⟩,E,E⟩
  have hjj:j = ports.length:=by have:=of_decide_eq_false h; omega
  subst hjj
  clear h
  rw [List.take_length]
  obtain ⟨acc0,hacc0⟩:∃ acc0,ports.map (Et n dom q.frame) = acc0:=⟨_,rfl⟩
  have hal0:acc0.length = ports.length:=by rw [← hacc0,List.length_map]
  rw [hacc0] at hres ⊢
  refine rg ?_;conv=>whnf
  refine Au peers.length (fun j=>[(3,Aa dom),(6,.ref 8 (Ap n) 0),(10,.ref 7 (Aw q) 0),(18,.sl 3 Al u),(25,.sl 1 Aa peers),(27,.osl 1000),(32,Aa j)])
   (fun j=>[(1000,.row 9 Bg (acc0 ++ (peers.take j).map (Hq n dom q.frame)))]) [] ⟨⟨rfl,rfl,rfl,rfl,rfl,rfl,rfl,rfl,rfl,rfl,rfl,rfl,rfl,rfl,trivial⟩,⟨.inl (congrArg (Ob.row 9 Bg) (by simp)),rfl,trivial⟩,rfl,rfl⟩ ?_
  intro j hj
  refine rg ?_;conv=>whnf
  refine ⟨fun h=>?_,fun h=>?_⟩
  ·have hlt:j < peers.length:=by have:=of_decide_eq_true h; omega
   have hj0:((j:Nat):Int).toNat < peers.length:=by simpa using hlt
   obtain ⟨p,hp⟩:∃ p,peers[j] = p:=⟨_,rfl⟩
   have e1:peers[((j:Nat):Int).toNat]'hj0 = p:=hp
   have hs:acc0 ++ (peers.take (j + 1)).map (Hq n dom q.frame) = (acc0 ++ (peers.take j).map (Hq n dom q.frame)) ++ [Hq n dom q.frame p]:=by
    rw [List.take_succ_eq_append_getElem hlt,List.map_append,hp,List.append_assoc]; rfl
   have hal:(acc0 ++ (peers.take j).map (Hq n dom q.frame)).length ≤ ports.length + j:=by rw [List.length_append,List.length_map,List.length_take]; omega
   have ql:=Sc n hn hm0 dom p q.frame hq.frame
   have hop:Hq n dom q.frame p = Dz (Jk 3 0 p) ((meshT n dom p q.frame).1,(meshT n dom p q.frame).2):=rfl
   rw [hop] at hs
   clear hop
   obtain ⟨acc,hacc⟩:∃ acc,acc0 ++ (peers.take j).map (Hq n dom q.frame) = acc:=⟨_,rfl⟩
   rw [hacc] at hs hal ⊢
   clear h
   refine rg ?_;conv=>whnf
   refine ⟨E,by omega,hj0,?_⟩
   rw [e1]
   conv=>whnf
   refine At ql F150 E E E (by kernel_rfl) E ?_
   refine rd (by kernel_rfl) ?_;conv=>whnf
   refine ⟨(by kernel_rfl),?_⟩
   conv=>whnf
   refine ⟨E,by omega,hj0,?_⟩
   rw [e1]
   conv=>whnf
   refine Ai (D8 [] [] E F149 (D4 3 0 p (meshT n dom p q.frame).1 (meshT n dom p q.frame).2) (.cons (.agg (.cons (.refl _) (.cons (.refl _) (.cons (.refl _) (.cons .nil (.cons (.refl _) (.cons (.refl _) (.cons (.refl _) (.cons .nil (.cons (.refl _) .nil)))))))))) (.cons (.refl _) (.cons (.refl _) .nil))) Y E Y E) E E ?_
   refine rg ?_;conv=>whnf
   refine Ai (Af Γ.toTy 189 E E E E E (.row E) (.lit (e:=Bg) (l:=[Dz (Jk 3 0 p) ((meshT n dom p q.frame).1,(meshT n dom p q.frame).2)]) E E) (by simp) (by simp; omega) (by simp; omega)) E E ?_
   refine rg ?_;conv=>whnf
   refine ⟨by unfold I64; omega,?_⟩
   conv=>whnf
   exact Ar [(1000,189)] hlt ⟨⟨E,E,E,E,E,E,E,E,E,E,E,E,E,E,Y⟩,⟨.inl (congrArg (Ob.row 9 Bg) hs),E,Y⟩,E,E⟩
  have hjj:j = peers.length:=by have:=of_decide_eq_false h; omega
  subst hjj
  clear h
  rw [List.take_length]
  subst hres
  refine rg ?_;conv=>whnf
  refine As 1000 E ?_
  exact Ac E (.cons .tmp (.cons .tmp (.cons .tmp .nil))) E E
 ·rw [if_pos hf] at hlq
  subst hlq
  refine rg ?_;conv=>whnf
  (refine ⟨fun h=>False.elim (by simp at h; omega),fun _=>?_⟩;refine rg ?_;conv=>whnf)
  (refine ⟨fun h=>False.elim (by simp at h; omega),fun _=>?_⟩;refine rg ?_;conv=>whnf)
  refine Ag qro F145 E E E E E ?_
  cases ok
  rotate_left
  ·rw [if_pos rfl] at hres
   generalize hopT n irb q.frame = hp at *
   obtain ⟨to,g,e⟩:=hp
   dsimp only at hres qh
   (refine rg ?_;(conv=>whnf);refine aT ?_;refine rg ?_;conv=>whnf)
   refine Ag qh F146 E E E E E ?_
   refine rg ?_;conv=>whnf
   refine ⟨fun h=>?_,fun h=>?_⟩
   ·rw [if_pos (by simpa using h)] at hres
    subst hres
    refine rg ?_;conv=>whnf
    refine An 13 9 Bg E ?_
    exact Ac E (.cons .tmp (.cons .tmp (.cons .tmp .nil))) E E
   ·rw [if_neg (by simpa using h)] at hres
    subst hres
    refine rg ?_;conv=>whnf
    refine ⟨(by kernel_rfl),?_⟩
    conv=>whnf
    refine Oz 105 [Bg ⟨4,0,to,[],g,0⟩] E (.cons (.agg (.cons (.refl _) (.cons (.refl _) (.cons (.refl _) (.cons .nil (.cons (.refl _) (.cons (.refl _) (.cons (.refl _) (.cons (.refl _) (.cons (.refl _) .nil)))))))))) .nil) E ?_
    refine Eb 105 Bg [⟨4,0,to,[],g,0⟩] E E ?_
    refine As 105 E ?_
    exact Ac E (.cons .tmp (.cons .tmp (.cons .tmp .nil))) E E
  rw [if_neg (by decide)] at hres
  generalize decideT n fw u dom q.from_ q.frame.dst = dc at *
  obtain ⟨ports,peers,e0⟩:=dc
  dsimp only at hres qd hports hfew
  obtain ⟨hf1,hf2⟩:=hfew
  (refine rg ?_;(conv=>whnf);refine aF ?_;refine rg ?_;conv=>whnf)
  refine Ag qd F147 E E E E E ?_
  refine rg ?_;conv=>whnf
  refine Bt 27 1000 9 Bg E E ?_
  refine Au ports.length (fun j=>[(3,Aa dom),(6,.ref 8 (Ap n) 0),(10,.ref 7 (Aw q) 0),(18,.sl 3 Al u),(24,.sl 1 Aa ports),(25,.sl 1 Aa peers),(27,.osl 1000),(28,Aa j)])
   (fun j=>[(1000,.row 9 Bg ((ports.take j).map (Et n dom q.frame)))]) [] ⟨⟨rfl,rfl,rfl,rfl,rfl,rfl,rfl,rfl,rfl,rfl,rfl,rfl,rfl,rfl,rfl,rfl,trivial⟩,⟨.inl rfl,rfl,trivial⟩,rfl,rfl⟩ ?_
  intro j hj
  refine rg ?_;conv=>whnf
  refine ⟨fun h=>?_,fun h=>?_⟩
  ·have hlt:j < ports.length:=by have:=of_decide_eq_true h; omega
   have hj0:((j:Nat):Int).toNat < ports.length:=by simpa using hlt
   obtain ⟨p,hp⟩:∃ p,ports[j] = p:=⟨_,rfl⟩
   have e1:ports[((j:Nat):Int).toNat]'hj0 = p:=hp
   have hs:(ports.take (j + 1)).map (Et n dom q.frame) = (ports.take j).map (Et n dom q.frame) ++ [Et n dom q.frame p]:=by
    rw [List.take_succ_eq_append_getElem hlt,List.map_append,hp]; rfl
   have hal:((ports.take j).map (Et n dom q.frame)).length = j:=by rw [List.length_map,List.length_take]; omega
   have hpi:=hports p (by rw [← hp]; exact List.getElem_mem hlt)
   have hpk:p.toNat < n.ports.length:=by omega
   have ql:=Xh n hn p dom q.frame hq.frame
   have hop:Et n dom q.frame p = Dz (Jk (if (nth n.ports p).link < 0 then 1 else 2) p 0) ((leaveT n p dom q.frame).1,(leaveT n p dom q.frame).2):=rfl
   rw [hop,Ao hpk] at hs
   clear hop
   obtain ⟨acc,hacc⟩:∃ acc,(ports.take j).map (Et n dom q.frame) = acc:=⟨_,rfl⟩
   rw [hacc] at hs hal ⊢
   have hli:=Ux hbn hpk
   obtain ⟨x,hx⟩:∃ x,n.ports[p.toNat]'hpk = x:=⟨_,rfl⟩
   rw [hx] at hs hli
   clear h
   refine rg ?_;conv=>whnf
   refine ⟨E,by omega,hj0,?_⟩
   rw [e1]
   conv=>whnf
   refine At ql F148 E E E (by kernel_rfl) E ?_
   refine rd (by kernel_rfl) ?_;conv=>whnf
   refine ⟨(by kernel_rfl),?_⟩
   conv=>whnf
   refine ⟨E,by omega,hj0,?_⟩
   rw [e1]
   conv=>whnf
   refine ⟨E,by omega,hj0,?_⟩
   rw [e1]
   conv=>whnf
   refine ⟨E,hpi.1,hpk,?_⟩
   rw [hx]
   conv=>whnf
   refine ⟨(by kernel_rfl),?_⟩
   conv=>whnf
   refine ⟨fun h=>?_,fun h=>?_⟩
   ·rw [if_neg (by have:¬ x.link = -1:=(by simpa using h); omega)] at hs
    refine rg ?_;conv=>whnf
    refine Ai (D8 [] [] E F149 (D4 2 p 0 (leaveT n p dom q.frame).1 (leaveT n p dom q.frame).2) (.cons (.agg (.cons (.refl _) (.cons (.refl _) (.cons (.refl _) (.cons .nil (.cons (.refl _) (.cons (.refl _) (.cons (.refl _) (.cons .nil (.cons (.refl _) .nil)))))))))) (.cons (.refl _) (.cons (.refl _) .nil))) Y E Y E) E E ?_
    refine rg ?_;conv=>whnf
    refine Ai (Af Γ.toTy 160 E E E E E (.row E) (.lit (e:=Bg) (l:=[Dz (Jk 2 p 0) ((leaveT n p dom q.frame).1,(leaveT n p dom q.frame).2)]) E E) (by simp) (by simp; omega) (by simp; omega)) E E ?_
    refine rg ?_;conv=>whnf
    refine ⟨by unfold I64; omega,?_⟩
    conv=>whnf
    exact Ar [(1000,160)] hlt ⟨⟨E,E,E,E,E,E,E,E,E,E,E,E,E,E,E,E,Y⟩,⟨.inl (congrArg (Ob.row 9 Bg) hs),E,Y⟩,E,E⟩
   ·rw [if_pos (by have:x.link = -1:=(by simpa using h); omega)] at hs
    refine rg ?_;conv=>whnf
    refine Ai (D8 [] [] E F149 (D4 1 p 0 (leaveT n p dom q.frame).1 (leaveT n p dom q.frame).2) (.cons (.agg (.cons (.refl _) (.cons (.refl _) (.cons (.refl _) (.cons .nil (.cons (.refl _) (.cons (.refl _) (.cons (.refl _) (.cons .nil (.cons (.refl _) .nil)))))))))) (.cons (.refl _) (.cons (.refl _) .nil))) Y E Y E) E E ?_
    refine rg ?_;conv=>whnf
    refine Ai (Af Γ.toTy 160 E E E E E (.row E) (.lit (e:=Bg) (l:=[Dz (Jk 1 p 0) ((leaveT n p dom q.frame).1,(leaveT n p dom q.frame).2)]) E E) (by simp) (by simp; omega) (by simp; omega)) E E ?_
    refine rg ?_;conv=>whnf
    refine ⟨by unfold I64; omega,?_⟩
    conv=>whnf
    exact Ar [(1000,160)] hlt ⟨⟨E,E,E,E,E,E,E,E,E,E,E,E,E,E,E,E,Y⟩,⟨.inl (congrArg (Ob.row 9 Bg) hs),E,Y⟩,E,E⟩
  have hjj:j = ports.length:=by have:=of_decide_eq_false h; omega
  subst hjj
  clear h
  rw [List.take_length]
  obtain ⟨acc0,hacc0⟩:∃ acc0,ports.map (Et n dom q.frame) = acc0:=⟨_,rfl⟩
  have hal0:acc0.length = ports.length:=by rw [← hacc0,List.length_map]
  rw [hacc0] at hres ⊢
  refine rg ?_;conv=>whnf
  refine Au peers.length (fun j=>[(3,Aa dom),(6,.ref 8 (Ap n) 0),(10,.ref 7 (Aw q) 0),(18,.sl 3 Al u),(25,.sl 1 Aa peers),(27,.osl 1000),(32,Aa j)])
   (fun j=>[(1000,.row 9 Bg (acc0 ++ (peers.take j).map (Hq n dom q.frame)))]) [] ⟨⟨rfl,rfl,rfl,rfl,rfl,rfl,rfl,rfl,rfl,rfl,rfl,rfl,rfl,rfl,trivial⟩,⟨.inl (congrArg (Ob.row 9 Bg) (by simp)),rfl,trivial⟩,rfl,rfl⟩ ?_
  intro j hj
  refine rg ?_;conv=>whnf
  refine ⟨fun h=>?_,fun h=>?_⟩
  ·have hlt:j < peers.length:=by have:=of_decide_eq_true h; omega
   have hj0:((j:Nat):Int).toNat < peers.length:=by simpa using hlt
   obtain ⟨p,hp⟩:∃ p,peers[j] = p:=⟨_,rfl⟩
   have e1:peers[((j:Nat):Int).toNat]'hj0 = p:=hp
   have hs:acc0 ++ (peers.take (j + 1)).map (Hq n dom q.frame) = (acc0 ++ (peers.take j).map (Hq n dom q.frame)) ++ [Hq n dom q.frame p]:=by
    rw [List.take_succ_eq_append_getElem hlt,List.map_append,hp,List.append_assoc]; rfl
   have hal:(acc0 ++ (peers.take j).map (Hq n dom q.frame)).length ≤ ports.length + j:=by rw [List.length_append,List.length_map,List.length_take]; omega
   have ql:=Sc n hn hm0 dom p q.frame hq.frame
   have hop:Hq n dom q.frame p = Dz (Jk 3 0 p) ((meshT n dom p q.frame).1,(meshT n dom p q.frame).2):=rfl
   rw [hop] at hs
   clear hop
   obtain ⟨acc,hacc⟩:∃ acc,acc0 ++ (peers.take j).map (Hq n dom q.frame) = acc:=⟨_,rfl⟩
   rw [hacc] at hs hal ⊢
   clear h
   refine rg ?_;conv=>whnf
   refine ⟨E,by omega,hj0,?_⟩
   rw [e1]
   conv=>whnf
   refine At ql F150 E E E (by kernel_rfl) E ?_
   refine rd (by kernel_rfl) ?_;conv=>whnf
   refine ⟨(by kernel_rfl),?_⟩
   conv=>whnf
   refine ⟨E,by omega,hj0,?_⟩
   rw [e1]
   conv=>whnf
   refine Ai (D8 [] [] E F149 (D4 3 0 p (meshT n dom p q.frame).1 (meshT n dom p q.frame).2) (.cons (.agg (.cons (.refl _) (.cons (.refl _) (.cons (.refl _) (.cons .nil (.cons (.refl _) (.cons (.refl _) (.cons (.refl _) (.cons .nil (.cons (.refl _) .nil)))))))))) (.cons (.refl _) (.cons (.refl _) .nil))) Y E Y E) E E ?_
   refine rg ?_;conv=>whnf
   refine Ai (Af Γ.toTy 189 E E E E E (.row E) (.lit (e:=Bg) (l:=[Dz (Jk 3 0 p) ((meshT n dom p q.frame).1,(meshT n dom p q.frame).2)]) E E) (by simp) (by simp; omega) (by simp; omega)) E E ?_
   refine rg ?_;conv=>whnf
   refine ⟨by unfold I64; omega,?_⟩
   conv=>whnf
   exact Ar [(1000,189)] hlt ⟨⟨E,E,E,E,E,E,E,E,E,E,E,E,E,E,Y⟩,⟨.inl (congrArg (Ob.row 9 Bg) hs),E,Y⟩,E,E⟩
  have hjj:j = peers.length:=by have:=of_decide_eq_false h; omega
  subst hjj
  clear h
  rw [List.take_length]
  subst hres
  refine rg ?_;conv=>whnf
  refine As 1000 E ?_
  exact Ac E (.cons .tmp (.cons .tmp (.cons .tmp .nil))) E E
 ·rw [if_neg (by omega),if_neg (by omega)] at hlq
  have qle:=Vl t q.frame.src q.from_ now ht.short ht.mac (by omega)
  rw [← hlq] at qle
  refine rg ?_;conv=>whnf
  (refine ⟨fun _=>?_,fun h=>False.elim (by simp at h; omega)⟩;refine rg ?_;conv=>whnf)
  refine Ag qle F144 E E E E E ?_
  refine rg ?_;conv=>whnf
  (refine ⟨fun h=>False.elim (by simp at h; omega),fun _=>?_⟩;refine rg ?_;conv=>whnf)
  refine Ag qro F145 E E E E E ?_
  cases ok
  rotate_left
  ·rw [if_pos rfl] at hres
   generalize hopT n irb q.frame = hp at *
   obtain ⟨to,g,e⟩:=hp
   dsimp only at hres qh
   (refine rg ?_;(conv=>whnf);refine aT ?_;refine rg ?_;conv=>whnf)
   refine Ag qh F146 E E E E E ?_
   refine rg ?_;conv=>whnf
   refine ⟨fun h=>?_,fun h=>?_⟩
   ·rw [if_pos (by simpa using h)] at hres
    subst hres
    refine rg ?_;conv=>whnf
    refine An 13 9 Bg E ?_
    exact Ac E (.cons .tmp (.cons .tmp (.cons .tmp .nil))) E E
   ·rw [if_neg (by simpa using h)] at hres
    subst hres
    refine rg ?_;conv=>whnf
    refine ⟨(by kernel_rfl),?_⟩
    conv=>whnf
    refine Oz 105 [Bg ⟨4,0,to,[],g,0⟩] E (.cons (.agg (.cons (.refl _) (.cons (.refl _) (.cons (.refl _) (.cons .nil (.cons (.refl _) (.cons (.refl _) (.cons (.refl _) (.cons (.refl _) (.cons (.refl _) .nil)))))))))) .nil) E ?_
    refine Eb 105 Bg [⟨4,0,to,[],g,0⟩] E E ?_
    refine As 105 E ?_
    exact Ac E (.cons .tmp (.cons .tmp (.cons .tmp .nil))) E E
  rw [if_neg (by decide)] at hres
  generalize decideT n fw u dom q.from_ q.frame.dst = dc at *
  obtain ⟨ports,peers,e0⟩:=dc
  dsimp only at hres qd hports hfew
  obtain ⟨hf1,hf2⟩:=hfew
  (refine rg ?_;(conv=>whnf);refine aF ?_;refine rg ?_;conv=>whnf)
  refine Ag qd F147 E E E E E ?_
  refine rg ?_;conv=>whnf
  refine Bt 27 1000 9 Bg E E ?_
  refine Au ports.length (fun j=>[(3,Aa dom),(6,.ref 8 (Ap n) 0),(10,.ref 7 (Aw q) 0),(18,.sl 3 Al u),(24,.sl 1 Aa ports),(25,.sl 1 Aa peers),(27,.osl 1000),(28,Aa j)])
   (fun j=>[(1000,.row 9 Bg ((ports.take j).map (Et n dom q.frame)))]) [] ⟨⟨rfl,rfl,rfl,rfl,rfl,rfl,rfl,rfl,rfl,rfl,rfl,rfl,rfl,rfl,rfl,rfl,trivial⟩,⟨.inl rfl,rfl,trivial⟩,rfl,rfl⟩ ?_
  intro j hj
  refine rg ?_;conv=>whnf
  refine ⟨fun h=>?_,fun h=>?_⟩
  ·have hlt:j < ports.length:=by have:=of_decide_eq_true h; omega
   have hj0:((j:Nat):Int).toNat < ports.length:=by simpa using hlt
   obtain ⟨p,hp⟩:∃ p,ports[j] = p:=⟨_,rfl⟩
   have e1:ports[((j:Nat):Int).toNat]'hj0 = p:=hp
   have hs:(ports.take (j + 1)).map (Et n dom q.frame) = (ports.take j).map (Et n dom q.frame) ++ [Et n dom q.frame p]:=by
    rw [List.take_succ_eq_append_getElem hlt,List.map_append,hp]; rfl
   have hal:((ports.take j).map (Et n dom q.frame)).length = j:=by rw [List.length_map,List.length_take]; omega
   have hpi:=hports p (by rw [← hp]; exact List.getElem_mem hlt)
   have hpk:p.toNat < n.ports.length:=by omega
   have ql:=Xh n hn p dom q.frame hq.frame
   have hop:Et n dom q.frame p = Dz (Jk (if (nth n.ports p).link < 0 then 1 else 2) p 0) ((leaveT n p dom q.frame).1,(leaveT n p dom q.frame).2):=rfl
   rw [hop,Ao hpk] at hs
   clear hop
   obtain ⟨acc,hacc⟩:∃ acc,(ports.take j).map (Et n dom q.frame) = acc:=⟨_,rfl⟩
   rw [hacc] at hs hal ⊢
   have hli:=Ux hbn hpk
   obtain ⟨x,hx⟩:∃ x,n.ports[p.toNat]'hpk = x:=⟨_,rfl⟩
   rw [hx] at hs hli
   clear h
   refine rg ?_;conv=>whnf
   refine ⟨E,by omega,hj0,?_⟩
   rw [e1]
   conv=>whnf
   refine At ql F148 E E E (by kernel_rfl) E ?_
   refine rd (by kernel_rfl) ?_;conv=>whnf
   refine ⟨(by kernel_rfl),?_⟩
   conv=>whnf
   refine ⟨E,by omega,hj0,?_⟩
   rw [e1]
   conv=>whnf
   refine ⟨E,by omega,hj0,?_⟩
   rw [e1]
   conv=>whnf
   refine ⟨E,hpi.1,hpk,?_⟩
   rw [hx]
   conv=>whnf
   refine ⟨(by kernel_rfl),?_⟩
   conv=>whnf
   refine ⟨fun h=>?_,fun h=>?_⟩
   ·rw [if_neg (by have:¬ x.link = -1:=(by simpa using h); omega)] at hs
    refine rg ?_;conv=>whnf
    refine Ai (D8 [] [] E F149 (D4 2 p 0 (leaveT n p dom q.frame).1 (leaveT n p dom q.frame).2) (.cons (.agg (.cons (.refl _) (.cons (.refl _) (.cons (.refl _) (.cons .nil (.cons (.refl _) (.cons (.refl _) (.cons (.refl _) (.cons .nil (.cons (.refl _) .nil)))))))))) (.cons (.refl _) (.cons (.refl _) .nil))) Y E Y E) E E ?_
    refine rg ?_;conv=>whnf
    refine Ai (Af Γ.toTy 160 E E E E E (.row E) (.lit (e:=Bg) (l:=[Dz (Jk 2 p 0) ((leaveT n p dom q.frame).1,(leaveT n p dom q.frame).2)]) E E) (by simp) (by simp; omega) (by simp; omega)) E E ?_
    refine rg ?_;conv=>whnf
    refine ⟨by unfold I64; omega,?_⟩
    conv=>whnf
    exact Ar [(1000,160)] hlt ⟨⟨E,E,E,E,E,E,E,E,E,E,E,E,E,E,E,E,Y⟩,⟨.inl (congrArg (Ob.row 9 Bg) hs),E,Y⟩,E,E⟩
   ·rw [if_pos (by have:x.link = -1:=(by simpa using h); omega)] at hs
    refine rg ?_;conv=>whnf
    refine Ai (D8 [] [] E F149 (D4 1 p 0 (leaveT n p dom q.frame).1 (leaveT n p dom q.frame).2) (.cons (.agg (.cons (.refl _) (.cons (.refl _) (.cons (.refl _) (.cons .nil (.cons (.refl _) (.cons (.refl _) (.cons (.refl _) (.cons .nil (.cons (.refl _) .nil)))))))))) (.cons (.refl _) (.cons (.refl _) .nil))) Y E Y E) E E ?_
    refine rg ?_;conv=>whnf
    refine Ai (Af Γ.toTy 160 E E E E E (.row E) (.lit (e:=Bg) (l:=[Dz (Jk 1 p 0) ((leaveT n p dom q.frame).1,(leaveT n p dom q.frame).2)]) E E) (by simp) (by simp; omega) (by simp; omega)) E E ?_
    refine rg ?_;conv=>whnf
    refine ⟨by unfold I64; omega,?_⟩
    conv=>whnf
    exact Ar [(1000,160)] hlt ⟨⟨E,E,E,E,E,E,E,E,E,E,E,E,E,E,E,E,Y⟩,⟨.inl (congrArg (Ob.row 9 Bg) hs),E,Y⟩,E,E⟩
  have hjj:j = ports.length:=by have:=of_decide_eq_false h; omega
  subst hjj
  clear h
  rw [List.take_length]
  obtain ⟨acc0,hacc0⟩:∃ acc0,ports.map (Et n dom q.frame) = acc0:=⟨_,rfl⟩
  have hal0:acc0.length = ports.length:=by rw [← hacc0,List.length_map]
  rw [hacc0] at hres ⊢
  refine rg ?_;conv=>whnf
  refine Au peers.length (fun j=>[(3,Aa dom),(6,.ref 8 (Ap n) 0),(10,.ref 7 (Aw q) 0),(18,.sl 3 Al u),(25,.sl 1 Aa peers),(27,.osl 1000),(32,Aa j)])
   (fun j=>[(1000,.row 9 Bg (acc0 ++ (peers.take j).map (Hq n dom q.frame)))]) [] ⟨⟨rfl,rfl,rfl,rfl,rfl,rfl,rfl,rfl,rfl,rfl,rfl,rfl,rfl,rfl,trivial⟩,⟨.inl (congrArg (Ob.row 9 Bg) (by simp)),rfl,trivial⟩,rfl,rfl⟩ ?_
  intro j hj
  refine rg ?_;conv=>whnf
  refine ⟨fun h=>?_,fun h=>?_⟩
  ·have hlt:j < peers.length:=by have:=of_decide_eq_true h; omega
   have hj0:((j:Nat):Int).toNat < peers.length:=by simpa using hlt
   obtain ⟨p,hp⟩:∃ p,peers[j] = p:=⟨_,rfl⟩
   have e1:peers[((j:Nat):Int).toNat]'hj0 = p:=hp
   have hs:acc0 ++ (peers.take (j + 1)).map (Hq n dom q.frame) = (acc0 ++ (peers.take j).map (Hq n dom q.frame)) ++ [Hq n dom q.frame p]:=by
    rw [List.take_succ_eq_append_getElem hlt,List.map_append,hp,List.append_assoc]; rfl
   have hal:(acc0 ++ (peers.take j).map (Hq n dom q.frame)).length ≤ ports.length + j:=by rw [List.length_append,List.length_map,List.length_take]; omega
   have ql:=Sc n hn hm0 dom p q.frame hq.frame
   have hop:Hq n dom q.frame p = Dz (Jk 3 0 p) ((meshT n dom p q.frame).1,(meshT n dom p q.frame).2):=rfl
   rw [hop] at hs
   clear hop
   obtain ⟨acc,hacc⟩:∃ acc,acc0 ++ (peers.take j).map (Hq n dom q.frame) = acc:=⟨_,rfl⟩
   rw [hacc] at hs hal ⊢
   clear h
   refine rg ?_;conv=>whnf
   refine ⟨E,by omega,hj0,?_⟩
   rw [e1]
   conv=>whnf
   refine At ql F150 E E E (by kernel_rfl) E ?_
   refine rd (by kernel_rfl) ?_;conv=>whnf
   refine ⟨(by kernel_rfl),?_⟩
   conv=>whnf
   refine ⟨E,by omega,hj0,?_⟩
   rw [e1]
   conv=>whnf
   refine Ai (D8 [] [] E F149 (D4 3 0 p (meshT n dom p q.frame).1 (meshT n dom p q.frame).2) (.cons (.agg (.cons (.refl _) (.cons (.refl _) (.cons (.refl _) (.cons .nil (.cons (.refl _) (.cons (.refl _) (.cons (.refl _) (.cons .nil (.cons (.refl _) .nil)))))))))) (.cons (.refl _) (.cons (.refl _) .nil))) Y E Y E) E E ?_
   refine rg ?_;conv=>whnf
   refine Ai (Af Γ.toTy 189 E E E E E (.row E) (.lit (e:=Bg) (l:=[Dz (Jk 3 0 p) ((meshT n dom p q.frame).1,(meshT n dom p q.frame).2)]) E E) (by simp) (by simp; omega) (by simp; omega)) E E ?_
   refine rg ?_;conv=>whnf
   refine ⟨by unfold I64; omega,?_⟩
   conv=>whnf
   exact Ar [(1000,189)] hlt ⟨⟨E,E,E,E,E,E,E,E,E,E,E,E,E,E,Y⟩,⟨.inl (congrArg (Ob.row 9 Bg) hs),E,Y⟩,E,E⟩
  have hjj:j = peers.length:=by have:=of_decide_eq_false h; omega
  subst hjj
  clear h
  rw [List.take_length]
  subst hres
  refine rg ?_;conv=>whnf
  refine As 1000 E ?_
  exact Ac E (.cons .tmp (.cons .tmp (.cons .tmp .nil))) E E
end Go.Sy.YtmelpejjondedaaGreat
namespace Go.Sy
theorem K5:∀ (l:List SV) (off:Nat) (z:SV),setAt l off [z] = l.set off z
 | [],0,_=>rfl
 | [],_ + 1,_=>rfl
 | _ :: l,0,z=>by
  show z :: setAt l 0 [] = z :: l
  cases l <;> rfl
 | x :: l,n + 1,z=>by
  show x :: setAt l n [z] = x :: l.set n z
  rw [K5 l n z]
theorem Wk {b:Bool} {A B:Prop} (h:A):b = true → (match b with | true=>A | false=>B):=by
 intro hb
 subst hb
 exact h
theorem Abp {o:Option SV} {y:SV} {f:SV → Prop} {B:Prop} (h:f y):o = some y → (match o with | some y=>f y | none=>B):=by
 intro hb
 subst hb
 exact h
theorem Ai5 {l l':List SV} {K:List SV → Prop} (h:l = l') (hk:fl l' K):fl l K:=by
 rw [h]; exact hk
end Go.Sy
namespace Go.Sy.YtmelpejjondedaaGreat
open Go.Proofs
attribute [local irreducible] Go.Sy.G Go.Sy.DR
set_option maxRecDepth 100000
set_option maxHeartbeats 4000000
def Il (n:Net) (up:List Bool) (now inj:Int) (d:Nat → Int):List SV :=
 [.sl 5 Br n.devices,.sl 7 Bh n.ports,.sl 3 Cp n.links,.sl 6 A0 n.domains,.sl 4 Bp n.statics,.sl 4 B6 n.floods,.sl 5 Cz n.vrfs,.sl 5 Dm n.irbs,.sl 1 Ad up,.osl 902,.osl 903,.val (.int .i64 now),.val (.int .i64 inj),
 .val (.int .i64 (d 0)),.val (.int .i64 (d 1)),.val (.int .i64 (d 2)),.val (.int .i64 (d 3)),.val (.int .i64 (d 4)),.val (.int .i64 (d 5)),.val (.int .i64 (d 6)),.val (.int .i64 (d 7)),.val (.int .i64 (d 8)),.val (.int .i64 (d 9)),.val (.int .i64 (d 10)),.val (.int .i64 (d 11)),.val (.int .i64 (d 12)),.val (.int .i64 (d 13)),.val (.int .i64 (d 14)),.val (.int .i64 (d 15)),.val (.int .i64 (d 16)),.val (.int .i64 (d 17)),.val (.int .i64 (d 18)),.val (.int .i64 (d 19)),.val (.int .i64 (d 20)),.val (.int .i64 (d 21)),.val (.int .i64 (d 22)),.val (.int .i64 (d 23)),.val (.int .i64 (d 24)),.val (.int .i64 (d 25)),.val (.int .i64 (d 26)),.val (.int .i64 (d 27)),.val (.int .i64 (d 28)),.val (.int .i64 (d 29)),.val (.int .i64 (d 30)),.val (.int .i64 (d 31)),.val (.int .i64 (d 32)),.val (.int .i64 (d 33)),.val (.int .i64 (d 34)),.val (.int .i64 (d 35)),.val (.int .i64 (d 36)),.val (.int .i64 (d 37)),.val (.int .i64 (d 38)),.val (.int .i64 (d 39)),.val (.int .i64 (d 40)),.val (.int .i64 (d 41)),.val (.int .i64 (d 42)),.val (.int .i64 (d 43)),.val (.int .i64 (d 44)),.val (.int .i64 (d 45)),.val (.int .i64 (d 46)),.val (.int .i64 (d 47)),.val (.int .i64 (d 48)),.val (.int .i64 (d 49)),.val (.int .i64 (d 50)),.val (.int .i64 (d 51)),.val (.int .i64 (d 52)),.val (.int .i64 (d 53)),.val (.int .i64 (d 54)),.val (.int .i64 (d 55)),.val (.int .i64 (d 56)),.val (.int .i64 (d 57)),.val (.int .i64 (d 58)),.val (.int .i64 (d 59)),.val (.int .i64 (d 60)),.val (.int .i64 (d 61)),.val (.int .i64 (d 62)),.val (.int .i64 (d 63))]
def Ek (n:Net) (m:MacM):Obs:=[(0,.box (Il n m.up m.now m.injected m.drops)),(902,.row 1 H8 m.tables),(903,.row 1 La m.queues)]
theorem Sq (n:Net) (up:List Bool) (now inj:Int) (d:Nat → Int):Il n up now inj d =
  .sl 5 Br n.devices :: .sl 7 Bh n.ports :: .sl 3 Cp n.links :: .sl 6 A0 n.domains :: .sl 4 Bp n.statics :: .sl 4 B6 n.floods :: .sl 5 Cz n.vrfs :: .sl 5 Dm n.irbs :: .sl 1 Ad up :: .osl 902 :: .osl 903 :: .val (.int .i64 now) :: .val (.int .i64 inj) ::
   (List.range' 0 64).map (fun i=>.val (.int .i64 (d i))):=rfl
theorem H5 (n:Net) (up:List Bool) (now inj:Int) (d:Nat → Int) (e:Nat) (he:e < 64):D9 (Il n up now inj d) (0 + 13 + e * 1) = some (.val (.int .i64 (d e))):=by
 rw [Sq,show 0 + 13 + e * 1 = e + 13 by omega]
 show D9 ((List.range' 0 64).map (fun i=>SV.val (.int .i64 (d i)))) e = _
 rw [getI_map _ e 0 64 he,Nat.zero_add]
theorem Aog (n:Net) (up:List Bool) (now inj:Int) (d:Nat → Int) (e:Nat) (v:Int):(Il n up now inj d).set (0 + 13 + e * 1) (.val (.int .i64 v)) = Il n up now inj (fun i=>if i = e then v else d i):=by
 rw [Sq,Sq,show 0 + 13 + e * 1 = e + 13 by omega]
 have h:=Aa5 (fun i=>SV.val (.int .i64 (d i))) (.val (.int .i64 v)) e 0 64
 have h2:(fun i=>if i = 0 + e then SV.val (.int .i64 v) else SV.val (.int .i64 (d i))) = (fun i=>SV.val (.int .i64 (if i = e then v else d i))):=by
  funext i
  rw [Nat.zero_add]
  split <;> rfl
 rw [h2] at h
 rw [← h]
 rfl
theorem Lm (n:Net) (m:MacM) (e:Int):Il n m.up m.now m.injected (Be m e).drops = (Il n m.up m.now m.injected m.drops).set (0 + 13 + e.toNat * 1) (.val (.int .i64 (m.drops e.toNat + 1))):=by
 rw [Aog]
 congr 1
 funext i
 show (if i = e.toNat then m.drops i + 1 else m.drops i) = _
 split
 ·rename_i h; rw [h]
 ·rfl
theorem Amp {α:Type} (l:List α) (i:Nat) (h:i < l.length):l.set i l[i] = l:=by
 simp
theorem T9 (n:Net) (m:MacM) (dom:Int) (q:QueuedM) (e:Int) (he:0 ≤ e ∧ e < 64) (hd:e = 0 → 0 ≤ dom ∧ dom.toNat < m.queues.length) (hb:He m) (hl:Dp (queueL m dom)) (hq:QueuedOK q) :
  Sy.Spec Tryz.prog 37 [.ptr 0 0,Aa dom,Aw q,Aa e] (Ek n m) (.tup []) (Ek n (comeM m dom q e)):=Ab Γ hm 100 F37 Tryz.ntmps37 rfl fun F hF=>by
 have hqb:=Hw hl
 have hp:=Af8 (queueL m dom) q hqb.1
 have hres:=comeM.eq_1 m dom q e
 generalize comeM m dom q e = res at *
 have hbe:=hb e.toNat
 have hb3:=hb 3
 have hg:E0 ⟨.int .i64,1,[.int .i64 0]⟩ (Il n m.up m.now m.injected m.drops) (0 + 13 + e.toNat * 1) = _:=H5 n m.up m.now m.injected m.drops e.toNat (by omega)
 have hgl:=Jm (H5 n m.up m.now m.injected m.drops e.toNat (by omega))
 have hst:=Lm n m e
 have hst2:setAt (Il n m.up m.now m.injected m.drops) (0 + 13 + e.toNat * 1) [.val (.int .i64 (m.drops e.toNat + 1))] = Il n m.up m.now m.injected (Be m e).drops:=by rw [hst,K5]
 have hble:Nat.ble (0 + 13 + e.toNat * 1 + 1) (Il n m.up m.now m.injected m.drops).length = true:=Nat.ble_eq_true_of_le hgl
 conv=>whnf
 refine ⟨fun h=>?_,fun h=>?_⟩
 ·rw [if_pos (by simpa using h)] at hres
  subst hres
  refine rg ?_;conv=>whnf
  refine ⟨he.1,by omega,?_⟩
  conv=>whnf
  rw [hg]
  conv=>whnf
  refine ⟨by unfold I64; omega,?_⟩
  conv=>whnf
  refine ⟨he.1,by omega,?_⟩
  conv=>whnf
  refine Wk (Ai5 hst2 ?_) hble
  conv=>whnf
  refine ⟨(by kernel_rfl),?_⟩
  conv=>whnf
  exact done E .nil [] (Ek n (Be m e)) (fun _ h=>h) E E ⟨Y,⟨.inl E,E,.inl E,E,.inl E,E,Y⟩,E,E⟩
 have h0:e = 0:=by simpa using h
 have hd:=hd h0
 rw [if_neg (by rw [h0]; decide)] at hres
 clear h hqb hl he
 have hq0:=queueL.eq_1 m dom
 have hq1:(pushT (queueL m dom) q).2 = false → (pushT (queueL m dom) q).1 = queueL m dom:=fun h=>by
  unfold pushT at h ⊢
  split at h
  ·rw [if_pos (by assumption)]
  ·cases h
 rw [H4 hd.2] at hq0
 generalize queueL m dom = l at *
 generalize pushT l q = r at *
 obtain ⟨l2,ok⟩:=r
 subst hq0
 refine rg ?_;conv=>whnf
 refine ⟨hd.1,hd.2,?_⟩
 conv=>whnf
 refine ⟨E,hd.2,?_⟩
 conv=>whnf
 refine At hp F80 E E E (by kernel_rfl) E ?_
 refine rd (by kernel_rfl) ?_;conv=>whnf
 refine ⟨(by kernel_rfl),?_⟩
 conv=>whnf
 cases ok
 ·rw [if_neg (by simp)] at hres
  subst hres
  have hl2:l2 = m.queues[dom.toNat]:=hq1 rfl
  (refine ⟨fun _=>?_,fun h=>False.elim (by simp at h)⟩;refine rg ?_;conv=>whnf)
  refine ⟨by decide,by decide,?_⟩
  conv=>whnf
  refine ⟨by unfold I64; omega,?_⟩
  conv=>whnf
  refine ⟨by decide,by decide,?_⟩
  conv=>whnf
  refine ⟨(by kernel_rfl),?_⟩
  conv=>whnf
  refine ⟨hd.1,hd.2,?_⟩
  conv=>whnf
  refine ⟨E,hd.2,l2,E,E,?_⟩
  conv=>whnf
  have hss:m.queues.set dom.toNat l2 = m.queues:=by rw [hl2]; exact Amp _ _ hd.2
  exact Bx E .nil [] (Ek n (Be m 3)) (fun _ h=>h) E E ⟨Y,⟨.inl (congrArg Ob.box (Lm n m 3)),E,.inl E,E,.inl (congrArg (Ob.row 1 La) hss.symm),E,Y⟩,E,E⟩
 ·rw [if_pos rfl] at hres
  subst hres
  (refine ⟨fun h=>False.elim (by simp at h),fun _=>?_⟩;refine rg ?_;conv=>whnf)
  refine ⟨hd.1,hd.2,?_⟩
  conv=>whnf
  refine ⟨E,hd.2,l2,E,E,?_⟩
  conv=>whnf
  exact Bx E .nil [] (Ek n (Ac9 m dom l2)) (fun _ h=>h) E E ⟨Y,⟨.inl E,E,.inl E,E,.inl E,E,Y⟩,E,E⟩
theorem Ae5 (n:Net) (m:MacM) (x:StepM) (hl:Dp (queueL m x.domain)) :
  Sy.Spec Tryz.prog 39 [.ptr 0 0,Dr x] (Ek n m) (.tup [Aw (takeM m x.domain x.at_).2.1,Ad (takeM m x.domain x.at_).2.2]) (Ek n (takeM m x.domain x.at_).1):=Ab Γ hm 100 F39 Tryz.ntmps39 rfl fun F hF=>by
 have hqb:=Hw hl
 have hp:=Af6 (queueL m x.domain) x.at_ hqb.1
 have h1:=A9 x.domain m.queues.length
 have hpl:=placeB_iff (d:=x.domain) (k:=m.queues.length)
 have hres:=takeM.eq_1 m x.domain x.at_
 generalize takeM m x.domain x.at_ = res at *
 generalize Am x.domain m.queues.length = b at *
 have hq0:=queueL.eq_1 m x.domain
 clear hl hqb
 generalize queueL m x.domain = l at *
 generalize takeT l x.at_ = r at *
 obtain ⟨q,l2,ok⟩:=r
 conv=>whnf
 refine At h1 F35 E E E (by kernel_rfl) E ?_
 cases b
 ·rw [if_pos rfl] at hres
  subst hres
  refine rd (by kernel_rfl) ?_;conv=>whnf
  refine ⟨(by kernel_rfl),?_⟩
  ((conv=>whnf);refine aT ?_;refine rg ?_;conv=>whnf)
  (skip)
  refine Av 4 [Aa 0,Aa 0,Aa 0,Ay 0,Ay 0,Aa 0,.sl 1 Aj []] E (.cons (.refl _) (.cons (.refl _) (.cons (.refl _) (.cons (.refl _) (.cons (.refl _) (.cons (.refl _) (.cons .nil .nil))))))) ?_
  exact done E (.cons (.cell E E E E) (.cons .tmp .nil)) [] (Ek n m) (fun _ h=>h) E E ⟨Y,⟨.inl E,E,.inl E,E,.inl E,E,Y⟩,E,E⟩
 have hd:=hpl.1 rfl
 rw [H4 hd.2] at hq0
 subst hq0
 rw [if_neg (by simp)] at hres
 subst hres
 refine rd (by kernel_rfl) ?_;conv=>whnf
 refine ⟨(by kernel_rfl),?_⟩
 ((conv=>whnf);refine aF ?_;refine rg ?_;conv=>whnf)
 (skip)
 refine ⟨hd.1,hd.2,?_⟩
 conv=>whnf
 refine ⟨E,hd.2,?_⟩
 conv=>whnf
 refine At hp F70 E E E (by kernel_rfl) E ?_
 refine rd (by kernel_rfl) ?_;conv=>whnf
 refine ⟨(by kernel_rfl),?_⟩
 conv=>whnf
 refine ⟨hd.1,hd.2,?_⟩
 conv=>whnf
 refine ⟨E,hd.2,l2,E,E,?_⟩
 conv=>whnf
 refine ⟨(by kernel_rfl),?_⟩
 conv=>whnf
 exact done E (.cons (.cell E E E E) (.cons .tmp .nil)) [] (Ek n (Ac9 m x.domain l2)) (fun _ h=>h) E E ⟨Y,⟨.inl E,E,.inl E,E,.inl E,E,Y⟩,E,E⟩
theorem Ab9 (n:Net) (hn:n.Fin) (hm1:n.Num) (m:MacM) (J D:Int) (hm0:MacOK n m J D) (hD:D ≤ 1000000000000) (o:OutM) (ho:OutOK n o) (origin:Int) :
  Sy.Spec Tryz.prog 82 [.ptr 0 0,Bg o,Aa origin] (Ek n m) (.sl 3 Bl (goesM n m o origin).2) (Ek n (goesM n m o origin).1):=Ab Γ hm 100 F82 Tryz.ntmps82 rfl fun F hF=>by
 have hres:=goesM.eq_1 n m o origin
 generalize goesM n m o origin = res at *
 have hdr:He m:=fun i=>⟨(hm0.drp i).1,by have:=(hm0.drp i).2; omega⟩
 have hbl:o.bytes.length < 100000:=by have:=ho.bytes; omega
 have hin:∀ {x:Int},DomIn n x → 0 ≤ x ∧ x.toNat < m.queues.length:=fun h=>by rw [hm0.ques]; exact h
 conv=>whnf
 refine ⟨fun h=>?_,fun h=>?_⟩
 ·have h1:o.kind = 1:=by simpa using h
  rw [if_pos h1] at hres
  subst hres
  refine rg ?_;conv=>whnf
  refine Eb 25 Bl [⟨o.port,origin,o.bytes⟩] E E ?_
  refine As 25 E ?_
  exact done E (.cons .tmp .nil) [] (Ek n m) (fun _ h=>h) E E ⟨Y,⟨.inl E,E,.inl E,E,.inl E,E,Y⟩,E,E⟩
 have h1:¬ o.kind = 1:=by simpa using h
 rw [if_neg h1] at hres
 clear h
 refine rg ?_;conv=>whnf
 refine ⟨fun h=>?_,fun h=>?_⟩
 ·have h2:o.kind = 2:=by simpa using h
  rw [if_pos h2] at hres
  have q1:=Agb n hn o.port o.bytes hbl
  have he:=Z7 n o.port o.bytes
  have hd:=fun h=>hin (Z8 (n:=n) (port:=o.port) (b:=o.bytes) h)
  have hf:=X0 n o.port o.bytes
  have ht:=Xz hn o.port o.bytes
  generalize linkT n o.port o.bytes = r at *
  have q2:=T9 n m r.2.1 ⟨r.1,0,origin,r.2.2.1⟩ r.2.2.2 he hd hdr (Cw hm0 _) (De hf _ (by omega) (by decide))
  subst hres
  refine rg ?_;conv=>whnf
  refine At q1 F151 E E E (by kernel_rfl) E ?_
  refine rd (by kernel_rfl) ?_;conv=>whnf
  refine ⟨(by kernel_rfl),?_⟩
  conv=>whnf
  refine Ai (Ak [] E F37 q2 E ⟨E,E,E,Y⟩ E ⟨.inl E,.inl E,.inl E,Y⟩) E E ?_
  refine rg ?_;conv=>whnf
  refine An 6 3 Bl E ?_
  exact done E (.cons .tmp .nil) [] (Ek n (comeM _ _ _ _)) (fun _ h=>h) E E ⟨Y,⟨.inl E,E,.inl E,E,.inl E,E,Y⟩,E,E⟩
 have h2:¬ o.kind = 2:=by simpa using h
 rw [if_neg h2] at hres
 clear h
 refine rg ?_;conv=>whnf
 refine ⟨fun h=>?_,fun h=>?_⟩
 ·have h2:o.kind = 3:=by simpa using h
  rw [if_pos h2] at hres
  have q1:=Agd n hn o.bytes hbl
  have he:=Aas n o.bytes
  have hd:=fun h=>hin (Vc (n:=n) (b:=o.bytes) h).2
  have hf:=Yw n o.bytes
  have ht:=Sw hn o.bytes
  generalize comeT n o.bytes = r at *
  have q2:=T9 n m r.2.1 ⟨-1,r.1,origin,r.2.2.1⟩ r.2.2.2 he hd hdr (Cw hm0 _) (De hf _ (by decide) ht)
  subst hres
  refine rg ?_;conv=>whnf
  refine At q1 F152 E E E (by kernel_rfl) E ?_
  refine rd (by kernel_rfl) ?_;conv=>whnf
  refine ⟨(by kernel_rfl),?_⟩
  conv=>whnf
  refine Ai (Ak [] E F37 q2 E ⟨E,E,E,Y⟩ E ⟨.inl E,.inl E,.inl E,Y⟩) E E ?_
  refine rg ?_;conv=>whnf
  refine An 6 3 Bl E ?_
  exact done E (.cons .tmp .nil) [] (Ek n (comeM _ _ _ _)) (fun _ h=>h) E E ⟨Y,⟨.inl E,E,.inl E,E,.inl E,E,Y⟩,E,E⟩
 have h3:¬ o.kind = 3:=by simpa using h
 rw [if_neg h3] at hres
 clear h
 refine rg ?_;conv=>whnf
 refine ⟨fun h=>?_,fun h=>?_⟩
 ·have h4:o.kind = 4:=by simpa using h
  rw [if_pos h4] at hres
  have hf:=ho.frame h4
  have q2:=T9 n m o.domain ⟨-2,0,origin,o.frame⟩ 0 (by decide) (fun _=>hin hf.2) hdr (Cw hm0 _) (De hf.1 _ (by decide) (by decide))
  subst hres
  refine rg ?_;conv=>whnf
  refine Ai (Ak [] E F37 q2 E ⟨E,E,E,Y⟩ E ⟨.inl E,.inl E,.inl E,Y⟩) E E ?_
  refine rg ?_;conv=>whnf
  refine An 6 3 Bl E ?_
  exact done E (.cons .tmp .nil) [] (Ek n (comeM _ _ _ _)) (fun _ h=>h) E E ⟨Y,⟨.inl E,E,.inl E,E,.inl E,E,Y⟩,E,E⟩
 have h4:¬ o.kind = 4:=by simpa using h
 rw [if_neg h4] at hres
 have h5:o.kind = 5:=by have:=ho.kind; omega
 have he:=ho.err h5
 obtain ⟨e,hee⟩:∃ e,o.error = e:=⟨_,rfl⟩
 rw [hee] at he hres
 have hbe:=hdr e.toNat
 have hg:E0 ⟨.int .i64,1,[.int .i64 0]⟩ (Il n m.up m.now m.injected m.drops) (0 + 13 + e.toNat * 1) = _:=H5 n m.up m.now m.injected m.drops e.toNat (by have:=he.2; omega)
 have hgl:=Jm (H5 n m.up m.now m.injected m.drops e.toNat (by have:=he.2; omega))
 have hst2:setAt (Il n m.up m.now m.injected m.drops) (0 + 13 + e.toNat * 1) [.val (.int .i64 (m.drops e.toNat + 1))] = Il n m.up m.now m.injected (Be m e).drops:=by rw [Lm n m e,K5]
 have hble:Nat.ble (0 + 13 + e.toNat * 1 + 1) (Il n m.up m.now m.injected m.drops).length = true:=Nat.ble_eq_true_of_le hgl
 subst hres
 clear h
 refine rg ?_;conv=>whnf
 refine ⟨fun _=>?_,fun h=>absurd h5 (by simpa using h)⟩
 rw [hee]
 refine rg ?_;conv=>whnf
 refine ⟨he.1,by have:=he.2; omega,?_⟩
 conv=>whnf
 rw [hg]
 conv=>whnf
 refine ⟨by unfold I64; omega,?_⟩
 conv=>whnf
 refine ⟨he.1,by have:=he.2; omega,?_⟩
 conv=>whnf
 refine Wk (Ai5 hst2 ?_) hble
 conv=>whnf
 refine ⟨(by kernel_rfl),?_⟩
 conv=>whnf
 refine An 6 3 Bl E ?_
 exact done E (.cons .tmp .nil) [] (Ek n (Be m e)) (fun _ h=>h) E E ⟨Y,⟨.inl E,E,.inl E,E,.inl E,E,Y⟩,E,E⟩
end Go.Sy.YtmelpejjondedaaGreat
namespace Go.Sy.YtmelpejjondedaaGreat
section
variable {n:Net} {up:List Bool} {ranks roots costs:List Int}
end
end Go.Sy.YtmelpejjondedaaGreat
namespace Go.Sy.YtmelpejjondedaaGreat
open Go.Proofs
attribute [local irreducible] Go.Sy.G Go.Sy.DR
set_option maxRecDepth 100000
set_option maxHeartbeats 4000000
theorem Aj3 {n:Net} {up:List Bool} (h:okB n up = true) {p:Nat} (hp:p < n.ports.length) (hl:B7 n up p < 0):nth (I6 n up) p = 0:=by
 obtain ⟨hu,hr,hcost⟩:=ok_iff.1 h
 rw [I6,Zz hr hp,if_neg (fun hb=>?_),Afx hl]
 obtain ⟨j,h1,_⟩:=Yy hb
 have:=h1.2
 omega
theorem far_up {n:Net} {up:List Bool} (hr:Ah n = true) {i:Nat} (hi:i < n.ports.length) (h0:0 ≤ n.ports[i].link) (hu:up.getD n.ports[i].link.toNat false = true) :
  ∃ j:Nat,j < n.ports.length ∧ B7 n up i = j ∧ (nth n.links n.ports[i].link).a + (nth n.links n.ports[i].link).b - i = j:=by
 have hp:=Jv hr hi
 have hpl:=Es hr hi
 simp only [Em,Bool.and_eq_true,Bool.or_eq_true,beq_iff_eq] at hp
 have hp:=hp.2
 have hlk:n.ports[i].link.toNat < n.links.length:=by omega
 have he:=Id hr hlk
 have hfar:B7 n up i = (nth n.links n.ports[i].link).a + (nth n.links n.ports[i].link).b - i:=by
  rw [B7,A8 hi]
  simp only [hu,Bool.not_true,Bool.or_false,decide_eq_true_eq]
  rw [if_neg (by omega)]
 rw [Ao (l:=n.links) (i:=n.ports[i].link) hlk] at hfar hp ⊢
 generalize n.links[n.ports[i].link.toNat] = l at *
 exact ⟨(B7 n up i).toNat,by omega,by omega,by omega⟩
end Go.Sy.YtmelpejjondedaaGreat
namespace Go.Sy.YtmelpejjondedaaGreat
instance:Inhabited Vec:=⟨⟨0,0,0,0,0⟩⟩
def Afm (ranks:List Int) (d:Nat):Vec:=⟨ranks.getD d 0,0,ranks.getD d 0,-1,-1⟩
def Jd (n:Net) (ranks:List Int):List Vec:=(List.range n.devices.length).map (Afm ranks)
def Lg (n:Net) (ranks:List Int) (old:List Vec) (i j:Nat):Vec:=⟨(nth old (Bj n j)).root,(nth old (Bj n j)).cost + Hm n i,nth ranks (Bj n j),j,i⟩
def X4 (n:Net) (up:List Bool) (ranks:List Int) (old best:List Vec) (i:Nat):List Vec :=
 if 0 ≤ B7 n up i ∧ Ce (Lg n ranks old i (B7 n up i).toNat) (nth best (Bj n i)) = true then best.set (Bj n i).toNat (Lg n ranks old i (B7 n up i).toNat) else best
def J7 (n:Net) (up:List Bool) (ranks:List Int) (old:List Vec) (m:Nat):List Vec:=(List.range m).foldl (X4 n up ranks old) old
theorem L5 (n:Net) (up:List Bool) (ranks:List Int) (old:List Vec) (m:Nat):J7 n up ranks old (m + 1) = X4 n up ranks old (J7 n up ranks old m) m:=by
 rw [J7,List.range_succ,List.foldl_append]; rfl
def Cv (n:Net) (up:List Bool) (ranks:List Int):Nat → List Vec
 | 0=>Jd n ranks
 | r + 1=>J7 n up ranks (Cv n up ranks r) n.ports.length
theorem Abz (n:Net) (up:List Bool) (ranks:List Int) (old best:List Vec) (i:Nat):(X4 n up ranks old best i).length = best.length:=by
 rw [X4]; split
 ·rw [List.length_set]
 ·rfl
theorem Jl (n:Net) (up:List Bool) (ranks:List Int) (old:List Vec):∀ m,(J7 n up ranks old m).length = old.length
 | 0=>rfl
 | m + 1=>by rw [L5,Abz,Jl n up ranks old m]
theorem D6 (n:Net) (up:List Bool) (ranks:List Int):∀ r,(Cv n up ranks r).length = n.devices.length
 | 0=>by simp [Cv,Jd]
 | r + 1=>by rw [Cv,Jl,D6 n up ranks r]
theorem Apx {α:Type} [Inhabited α] {l:List α} {a b:Int} {v:α} (h0:0 ≤ a) (h1:a < l.length) (hb:0 ≤ b):nth (l.set a.toNat v) b = if b = a then v else nth l b:=by
 rw [nth,nth,List.getElem?_set]
 by_cases h:b = a
 ·subst h
  rw [if_pos rfl,if_pos rfl,if_pos (by omega)]
  rfl
 ·rw [if_neg (by omega),if_neg h]
section
variable {n:Net} {up:List Bool} {ranks roots costs:List Int}
structure KnowM (n:Net) (up:List Bool) (ranks:List Int) (old best:List Vec) (m:Nat):Prop where
 shape:∀ d:Int,0 ≤ d → d < n.devices.length → nth best d = nth old d ∨ ∃ i j:Nat,i < m ∧ Hop n up i j ∧ Bj n i = d ∧ nth best d = Lg n ranks old i j
 was:∀ d:Int,0 ≤ d → d < n.devices.length → Ce (nth old d) (nth best d) = false
 cand:∀ i j:Nat,i < m → Hop n up i j → Ce (Lg n ranks old i j) (nth best (Bj n i)) = false
theorem J5 {a b c:Vec} (h1:Ce b a = false) (h2:Ce c b = false):Ce c a = false:=by
 cases h:Ce c a
 ·rfl
 ·by_cases hbc:b = c
  ·subst hbc; rw [h1] at h; exact h.symm
  ·rcases Sg hbc with h3 | h3
   ·have:=Sf h3 h; rw [h1] at this; exact this.symm
   ·rw [h2] at h3; cases h3
theorem O9 (hr:Ah n = true) (old:List Vec) (hl:old.length = n.devices.length):∀ m,m ≤ n.ports.length → KnowM n up ranks old (J7 n up ranks old m) m
 | 0,_=>⟨fun d _ _=>.inl rfl,fun d _ _=>Kl _,fun i j h=>absurd h (by omega)⟩
 | m + 1,hm=>by
  have ih:=O9 hr old hl m (by omega)
  have hlen:=Jl n up ranks old m
  have hpd:=Cq hr (show m < n.ports.length by omega)
  rw [L5,X4]
  split
  ·rename_i hc
   obtain ⟨j,hj⟩:∃ j:Nat,B7 n up m = j:=⟨(B7 n up m).toNat,by omega⟩
   have hop:Hop n up m j:=⟨by omega,hj⟩
   rw [hj,Int.toNat_natCast] at hc ⊢
   have hset:∀ d:Int,0 ≤ d → nth ((J7 n up ranks old m).set (Bj n m).toNat (Lg n ranks old m j)) d = if d = Bj n m then Lg n ranks old m j else nth (J7 n up ranks old m) d:=fun d h0=>Apx hpd.1 (by omega) h0
   have hnew:Ce (nth (J7 n up ranks old m) (Bj n m)) (Lg n ranks old m j) = false:=Ag8 hc.2
   refine ⟨fun d h0 h1=>?_,fun d h0 h1=>?_,fun i k hi hik=>?_⟩
   ·rw [hset d h0]
    by_cases hd:d = Bj n m
    ·rw [if_pos hd]; exact .inr ⟨m,j,by omega,hop,hd.symm,rfl⟩
    ·rw [if_neg hd]
     rcases ih.shape d h0 h1 with h | ⟨i,k,e1,e2,e3,e4⟩
     ·exact .inl h
     ·exact .inr ⟨i,k,by omega,e2,e3,e4⟩
   ·rw [hset d h0]
    by_cases hd:d = Bj n m
    ·rw [if_pos hd,hd]
     exact J5 hnew (ih.was _ hpd.1 hpd.2)
    ·rw [if_neg hd]; exact ih.was d h0 h1
   ·have hpi:=Cq hr hik.1
    rw [hset _ hpi.1]
    by_cases him:i = m
    ·subst him
     have:k = j:=by have:=hik.2; omega
     subst this
     rw [if_pos rfl]; exact Kl _
    ·by_cases hd:Bj n i = Bj n m
     ·rw [if_pos hd]
      have:=ih.cand i k (by omega) hik
      rw [hd] at this
      exact J5 hnew this
     ·rw [if_neg hd]; exact ih.cand i k (by omega) hik
  ·rename_i hc
   refine ⟨fun d h0 h1=>?_,ih.was,fun i k hi hik=>?_⟩
   ·rcases ih.shape d h0 h1 with h | ⟨i,k,e1,e2,e3,e4⟩
    ·exact .inl h
    ·exact .inr ⟨i,k,by omega,e2,e3,e4⟩
   ·by_cases him:i = m
    ·subst him
     cases h:Ce (Lg n ranks old i k) (nth (J7 n up ranks old i) (Bj n i))
     ·rfl
     ·refine absurd ⟨by rw [hik.2]; omega,?_⟩ hc
      rw [hik.2,Int.toNat_natCast]
      exact h
    ·exact ih.cand i k (by omega) hik
structure KnowR (n:Net) (up:List Bool) (ranks roots costs:List Int) (r:Nat) (best:List Vec):Prop where
 low:∀ d:Int,0 ≤ d → d < n.devices.length → Le2 (nth roots d) (nth costs d) (nth best d).root (nth best d).cost
 shape:∀ d:Int,0 ≤ d → d < n.devices.length → nth best d = ⟨nth ranks d,0,nth ranks d,-1,-1⟩ ∨ ∃ (i j:Nat) (x c:Int),Hop n up i j ∧ Bj n i = d ∧ Le2 (nth roots (Bj n j)) (nth costs (Bj n j)) x c ∧ nth best d = ⟨x,c + Hm n i,nth ranks (Bj n j),j,i⟩
 self:∀ d:Int,0 ≤ d → d < n.devices.length → Ce ⟨nth ranks d,0,nth ranks d,-1,-1⟩ (nth best d) = false
 bound:∀ d:Int,0 ≤ d → d < n.devices.length → 0 ≤ (nth best d).cost ∧ (nth best d).cost ≤ 65535 * r
theorem Qb (hrk:ranks.length = n.devices.length) {d:Int} (h0:0 ≤ d) (h1:d < n.devices.length):nth (Jd n ranks) d = ⟨nth ranks d,0,nth ranks d,-1,-1⟩:=by
 rw [Ao (by simp [Jd]; omega)]
 simp only [Jd,List.getElem_map,List.getElem_range,Afm]
 rw [A8 (by omega),Ao (by omega)]
theorem Aiv {a b c d m:Int} (h:Le2 a b c d):Le2 a (b + m) c (d + m):=by
 unfold Le2 at *
 omega
theorem Qa (S:Solved n up ranks roots costs) (hr:Ah n = true) (hcost:Ci n = true) (hrk:ranks.length = n.devices.length):∀ r,KnowR n up ranks roots costs r (Cv n up ranks r)
 | 0=>by
  refine ⟨fun d h0 h1=>?_,fun d h0 h1=>?_,fun d h0 h1=>?_,fun d h0 h1=>?_⟩
  ·rw [Cv,Qb hrk h0 h1]; exact S.self d h0 h1
  ·exact .inl (Qb hrk h0 h1)
  ·rw [Cv,Qb hrk h0 h1]; exact Kl _
  ·rw [Cv,Qb hrk h0 h1]; exact ⟨by simp,by simp⟩
 | r + 1=>by
  have ih:=Qa S hr hcost hrk r
  have hM:=O9 (up:=up) (ranks:=ranks) hr (Cv n up ranks r) (D6 n up ranks r) n.ports.length (Nat.le_refl _)
  rw [Cv]
  refine ⟨fun d h0 h1=>?_,fun d h0 h1=>?_,fun d h0 h1=>J5 (hM.was d h0 h1) (ih.self d h0 h1),fun d h0 h1=>?_⟩
  ·rcases hM.shape d h0 h1 with h | ⟨i,j,_,e2,e3,e4⟩
   ·rw [h]; exact ih.low d h0 h1
   ·rw [e4]
    have hj:=Cq hr (E1 hr e2)
    have t1:=S.tri i j e2
    rw [e3] at t1
    exact U3 t1 (Aiv (ih.low _ hj.1 hj.2))
  ·rcases hM.shape d h0 h1 with h | ⟨i,j,_,e2,e3,e4⟩
   ·rw [h]; exact ih.shape d h0 h1
   ·have hj:=Cq hr (E1 hr e2)
    exact .inr ⟨i,j,_,_,e2,e3,ih.low _ hj.1 hj.2,e4⟩
  ·rcases hM.shape d h0 h1 with h | ⟨i,j,_,e2,e3,e4⟩
   ·rw [h]
    have:=ih.bound d h0 h1
    omega
   ·rw [e4]
    have hj:=Cq hr (E1 hr e2)
    have:=ih.bound _ hj.1 hj.2
    have:=J1 hcost e2.1
    simp only [Lg]
    omega
theorem Tk {a b:Vec} (h:Ce a b = false):Le2 b.root b.cost a.root a.cost:=by
 unfold Le2
 simp only [Ce] at h
 grind
def dep (n:Net) (costs:List Int) (d:Int):Nat:=(List.range n.devices.length).countP fun e:Nat=>decide (nth costs (e:Int) < nth costs d)
theorem dep_lt {a d:Int} (ha:0 ≤ a ∧ a < n.devices.length) (h:nth costs a < nth costs d):dep n costs a < dep n costs d:=by
 have hmem:a.toNat ∈ List.range n.devices.length:=List.mem_range.2 (by omega)
 obtain ⟨l1,l2,hl⟩:=List.append_of_mem hmem
 have ea:((a.toNat:Nat):Int) = a:=by omega
 simp only [dep,hl,List.countP_append,List.countP_cons,ea,h,Int.lt_irrefl,decide_true,decide_false,if_true,Bool.false_eq_true,if_false]
 have m1:=List.countP_mono_left (l:=l1) (p:=fun e:Nat=>decide (nth costs (e:Int) < nth costs a)) (q:=fun e:Nat=>decide (nth costs (e:Int) < nth costs d)) (fun x _ hx=>by simp only [decide_eq_true_eq] at hx ⊢; omega)
 have m2:=List.countP_mono_left (l:=l2) (p:=fun e:Nat=>decide (nth costs (e:Int) < nth costs a)) (q:=fun e:Nat=>decide (nth costs (e:Int) < nth costs d)) (fun x _ hx=>by simp only [decide_eq_true_eq] at hx ⊢; omega)
 omega
theorem dep_le (d:Int):dep n costs d ≤ n.devices.length:=by
 have:=List.countP_le_length (p:=fun e:Nat=>decide (nth costs (e:Int) < nth costs d)) (l:=List.range n.devices.length)
 simpa [dep] using this
theorem X5 (S:Solved n up ranks roots costs) (hr:Ah n = true) (hcost:Ci n = true) (hrk:ranks.length = n.devices.length):∀ (r:Nat) (d:Int),0 ≤ d → d < n.devices.length → dep n costs d ≤ r → Le2 (nth (Cv n up ranks r) d).root (nth (Cv n up ranks r) d).cost (nth roots d) (nth costs d)
 | r,d,h0,h1,hd=>by
  rcases S.der d h0 h1 with h | ⟨i,j,e1,e2,e3,e4⟩
  ·have:=Tk ((Qa S hr hcost hrk r).self d h0 h1)
   rw [h.1,h.2]
   exact this
  ·have hp:=J1 hcost e1.1
   have hj:=Cq hr (E1 hr e1)
   have hlt:=dep_lt (costs:=costs) (d:=d) hj (by omega)
   match r with
   | 0=>omega
   | r + 1 =>
    have ih:=X5 S hr hcost hrk r (Bj n j) hj.1 hj.2 (by omega)
    have hM:=O9 (up:=up) (ranks:=ranks) hr (Cv n up ranks r) (D6 n up ranks r) n.ports.length (Nat.le_refl _)
    have hc:=Tk (hM.cand i j e1.1 e1)
    rw [e2] at hc
    rw [e3,e4]
    exact U3 hc (Aiv ih)
theorem X3 (S:Solved n up ranks roots costs) (hr:Ah n = true) (hcost:Ci n = true) (hrk:ranks.length = n.devices.length) {r:Nat} (hrn:n.devices.length ≤ r) {d:Int} (h0:0 ≤ d) (h1:d < n.devices.length) :
  (nth (Cv n up ranks r) d).root = nth roots d ∧ (nth (Cv n up ranks r) d).cost = nth costs d:=by
 have a1:=(Qa S hr hcost hrk r).low d h0 h1
 have a2:=X5 S hr hcost hrk r d h0 h1 (Nat.le_trans (dep_le d) hrn)
 unfold Le2 at a1 a2
 omega
theorem Anp (S:Solved n up ranks roots costs) (hr:Ah n = true) (hcost:Ci n = true) (hrk:ranks.length = n.devices.length) {d:Int} (h0:0 ≤ d) (h1:d < n.devices.length) :
  (nth (Cv n up ranks (n.devices.length + 1)) d).root = nth roots d ∧ (nth (Cv n up ranks (n.devices.length + 1)) d).cost = nth costs d ∧ (nth (Cv n up ranks (n.devices.length + 1)) d).own = Ex n up ranks roots costs d:=by
 obtain ⟨x1,x2⟩:=X3 S hr hcost hrk (r:=n.devices.length + 1) (by omega) h0 h1
 refine ⟨x1,x2,?_⟩
 have hI:=Qa S hr hcost hrk (n.devices.length + 1)
 have hcb:=Mv S h0 h1
 by_cases hroot:nth roots d = nth ranks d
 ·rw [Alq hroot]
  have hz:=Ac2 S h0 h1 hroot
  rcases hI.shape d h0 h1 with h | ⟨i,j,x,c,e1,e2,e3,e4⟩
  ·rw [h]
  ·exfalso
   have hp:=J1 hcost e1.1
   have hj:=Cq hr (E1 hr e1)
   have hrt:=Kf S hr e1
   have hcj:=Mv S hj.1 hj.2
   rw [e4] at x1 x2
   simp only at x1 x2
   rw [e2] at hrt
   unfold Le2 at e3
   omega
 ·obtain ⟨i,j,b1,b2,b3,b4⟩:=Alp S hr h0 h1 hroot
  obtain ⟨j',c1,c2,_,c4⟩:=Yy b3
  have:j' = j:=by have:=c1.2; have:=b1.2; omega
  subst this
  have hmem:nth (Cv n up ranks (n.devices.length + 1)) d ∈ Hp n up ranks roots costs d n.ports.length:=by
   rcases hI.shape d h0 h1 with h | ⟨p,q,x,c,e1,e2,e3,e4⟩
   ·exfalso
    rw [h] at x1
    exact hroot x1.symm
   ·refine best_mem.2 ⟨p,q,e1,e2,?_⟩
    have hrt:=Kf S hr e1
    have hv:=W3 S hr e1
    rw [e2] at hrt hv
    rw [e4] at x1 x2
    simp only at x1 x2
    have g1:x = nth roots (Bj n q):=by omega
    have g2:c = nth costs (Bj n q):=by unfold Le2 at e3; omega
    rw [e4,g1,g2]
  have hle:=Aaa _ _ hmem
  have hM:=O9 (up:=up) (ranks:=ranks) hr (Cv n up ranks n.devices.length) (D6 n up ranks n.devices.length) n.ports.length (Nat.le_refl _)
  have hcand:=hM.cand i j' b1.1 b1
  have hj:=Cq hr (E1 hr b1)
  obtain ⟨y1,y2⟩:=X3 S hr hcost hrk (r:=n.devices.length) (Nat.le_refl _) hj.1 hj.2
  rw [Lg,y1,y2,b2] at hcand
  have hcand:Ce ⟨nth roots (Bj n j'),nth costs (Bj n j') + Hm n i,nth ranks (Bj n j'),j',i⟩ (nth (Cv n up ranks (n.devices.length + 1)) d) = false:=hcand
  rw [c4] at hle
  rw [b3]
  by_cases he:nth (Cv n up ranks (n.devices.length + 1)) d = ⟨nth roots (Bj n j'),nth costs (Bj n j') + Hm n i,nth ranks (Bj n j'),j',i⟩
  ·rw [he]
  ·rcases Sg he with h | h
   ·rw [hle] at h; cases h
   ·rw [hcand] at h; cases h
end
end Go.Sy.YtmelpejjondedaaGreat
namespace Go.Sy.YtmelpejjondedaaGreat
open Go.Proofs
attribute [local irreducible] Go.Sy.G Go.Sy.DR
set_option maxRecDepth 100000
set_option maxHeartbeats 4000000
theorem Z3 {n:Net} {up:List Bool} (hr:Ah n = true) {i:Nat} (hi:i < n.ports.length) (h0:n.ports[i].link ≠ -1) (hu:up.getD n.ports[i].link.toNat false = true):J3 n.links i = B7 n up i:=by
 have hpl:=Es hr hi
 obtain ⟨j,hj,hf,hsum⟩:=far_up (up:=up) hr hi (by omega) hu
 have hop:Hop n up i j:=⟨hi,hf⟩
 obtain ⟨k,hk,h1,h2,h3,h4,hne⟩:=U7 hr hop
 rw [hf]
 have hall:∀ q (hq:q < n.links.length),(n.links[q].a = i ∨ n.links[q].b = i) → q = k:=fun q hq h=>by
  have hlq:=Sa hr hq
  simp only [J6,Bool.and_eq_true,beq_iff_eq,bne_iff_ne] at hlq
  rcases h with h | h
  ·rw [h] at hlq; have:=hlq.1.2; omega
  ·rw [h] at hlq; have:=hlq.2; omega
 have hij:(i:Int) ≠ j:=fun h=>hne (by have:i = j:=(by omega); rw [this])
 rw [Ao (l:=n.links) (i:=(k:Int)) (by simpa using hk)] at h4
 simp only [Int.toNat_natCast] at h4
 have hfind:n.links.find? (fun l=>l.a == (i:Int) || l.b == (i:Int)) = some n.links[k]:=by
  rw [List.find?_eq_some_iff_getElem]
  refine ⟨?_,k,hk,E,fun q hq=>?_⟩
  ·rcases h4 with h4 | h4 <;> simp [h4.1,h4.2]
  ·have hn:¬ (n.links[q].a = i ∨ n.links[q].b = i):=fun h=>by have:=hall q (by omega) h; omega
   simpa using hn
 rw [J3,hfind]
 simp only
 rcases h4 with h4 | h4
 ·rw [if_pos h4.1,h4.2]
 ·rw [if_neg (by rw [h4.1]; omega),h4.1]
def U4 (n:Net) (up:List Bool) (ranks:List Int) (x:SV):List SV:=[.sl 5 Br n.devices,.sl 7 Bh n.ports,.sl 3 Cp n.links,.sl 6 A0 n.domains,.sl 4 Bp n.statics,.sl 4 B6 n.floods,.sl 5 Cz n.vrfs,.sl 5 Dm n.irbs,.sl 1 Ad up,.sl 1 Aa ranks,x]
def Aeh (n:Net) (up:List Bool) (ranks:List Int) (best:List Vec):Obs:=[(0,.box (U4 n up ranks (.osl 1))),(1,.row 5 Dl best)]
def Ahf (n:Net) (up:List Bool) (ranks:List Int) (best:List Vec):SV:=.ref 11 (.agg (U4 n up ranks (.sl 5 Dl best))) 0
theorem Apj (n:Net) (up:List Bool) (ranks:List Int) (best:List Vec) (i:Nat) (hr:Ah n = true) (hu:up.length = n.links.length) (hi:i < n.ports.length) :
  Sy.Spec Tryz.prog 135 [.ptr 0 0,Aa i] (Aeh n up ranks best) (Aa (B7 n up i)) (Aeh n up ranks best):=Ab Γ hm 100 F135 Tryz.ntmps135 rfl fun F hF=>by
 have hpl:=Es hr hi
 have hf:=Cr hr
 have e1:n.ports[(i:Int).toNat]'(by omega) = n.ports[i]:=rfl
 have hof:=Z3 (up:=up) hr hi
 have hfar:B7 n up i = if n.ports[i].link < 0 || !(up.getD n.ports[i].link.toNat false) then -1 else (nth n.links n.ports[i].link).a + (nth n.links n.ports[i].link).b - i:=by
  rw [B7,A8 hi]
 have hos:=Agu n i (by unfold Aq; omega)
 generalize B7 n up i = f at *
 conv=>whnf
 refine ⟨E,by omega,by omega,?_⟩
 conv=>whnf
 refine ⟨fun h=>?_,fun h=>?_⟩
 ·have h1:n.ports[i].link = -1:=by simpa using h
  rw [h1] at hfar
  have hfr:f = -1:=hfar
  refine rd (by kernel_rfl) ?_;conv=>whnf
  refine ⟨(by kernel_rfl),?_⟩
  ((conv=>whnf);refine aT ?_;refine rg ?_;conv=>whnf)
  refine done E (.cons .tmp .nil) [] (Aeh n up ranks best) (fun _ h=>h) ?_ E ⟨Y,⟨.inl E,E,.inl E,E,Y⟩,E,E⟩
  exact congrArg Aa hfr
 have h1:¬ n.ports[i].link = -1:=by simpa using h
 have hlk:n.ports[i].link.toNat < up.length:=by omega
 have hof:=hof h1
 rw [A8 hlk] at hof hfar
 refine rd (by kernel_rfl) ?_;conv=>whnf
 refine ⟨E,by omega,by omega,?_⟩
 conv=>whnf
 refine ⟨E,by simp only [Int.toNat_natCast]; omega,by simp only [Int.toNat_natCast]; omega,?_⟩
 conv=>whnf
 refine ⟨(by kernel_rfl),?_⟩
 conv=>whnf
 refine ⟨fun h2=>?_,fun h2=>?_⟩
 ·have h3:up[n.ports[i].link.toNat] = false:=by simpa using h2
  rw [h3] at hfar
  have hfr:f = -1:=by simpa using hfar
  refine rg ?_;conv=>whnf
  refine done E (.cons .tmp .nil) [] (Aeh n up ranks best) (fun _ h=>h) ?_ E ⟨Y,⟨.inl E,E,.inl E,E,Y⟩,E,E⟩
  exact congrArg Aa hfr
 ·have h3:up[n.ports[i].link.toNat] = true:=by simpa using h2
  rw [hof h3] at hos
  refine rg ?_;conv=>whnf
  refine Ag hos F204 E E E E E ?_
  refine rg ?_;conv=>whnf
  exact done E (.cons .tmp .nil) [] (Aeh n up ranks best) (fun _ h=>h) E E ⟨Y,⟨.inl E,E,.inl E,E,Y⟩,E,E⟩
theorem Api (n:Net) (up:List Bool) (ranks:List Int) (best:List Vec) (i:Nat) (hr:Ah n = true) (hu:up.length = n.links.length) (hi:i < n.ports.length) :
  Sy.Spec Tryz.prog 135 [Ahf n up ranks best,Aa i] [] (Aa (B7 n up i)) []:=Ab Γ hm 100 F135 Tryz.ntmps135 rfl fun F hF=>by
 have hpl:=Es hr hi
 have hf:=Cr hr
 have e1:n.ports[(i:Int).toNat]'(by omega) = n.ports[i]:=rfl
 have hof:=Z3 (up:=up) hr hi
 have hfar:B7 n up i = if n.ports[i].link < 0 || !(up.getD n.ports[i].link.toNat false) then -1 else (nth n.links n.ports[i].link).a + (nth n.links n.ports[i].link).b - i:=by
  rw [B7,A8 hi]
 have hos:=Agu n i (by unfold Aq; omega)
 generalize B7 n up i = f at *
 conv=>whnf
 refine ⟨E,by omega,by omega,?_⟩
 conv=>whnf
 refine ⟨fun h=>?_,fun h=>?_⟩
 ·have h1:n.ports[i].link = -1:=by simpa using h
  rw [h1] at hfar
  have hfr:f = -1:=hfar
  refine rd (by kernel_rfl) ?_;conv=>whnf
  refine ⟨(by kernel_rfl),?_⟩
  ((conv=>whnf);refine aT ?_;refine rg ?_;conv=>whnf)
  refine Ac E (.cons .tmp .nil) ?_ E
  exact congrArg Aa hfr
 have h1:¬ n.ports[i].link = -1:=by simpa using h
 have hlk:n.ports[i].link.toNat < up.length:=by omega
 have hof:=hof h1
 rw [A8 hlk] at hof hfar
 refine rd (by kernel_rfl) ?_;conv=>whnf
 refine ⟨E,by omega,by omega,?_⟩
 conv=>whnf
 refine ⟨E,by simp only [Int.toNat_natCast]; omega,by simp only [Int.toNat_natCast]; omega,?_⟩
 conv=>whnf
 refine ⟨(by kernel_rfl),?_⟩
 conv=>whnf
 refine ⟨fun h2=>?_,fun h2=>?_⟩
 ·have h3:up[n.ports[i].link.toNat] = false:=by simpa using h2
  rw [h3] at hfar
  have hfr:f = -1:=by simpa using hfar
  refine rg ?_;conv=>whnf
  refine Ac E (.cons .tmp .nil) ?_ E
  exact congrArg Aa hfr
 ·have h3:up[n.ports[i].link.toNat] = true:=by simpa using h2
  rw [hof h3] at hos
  refine rg ?_;conv=>whnf
  refine Ag hos F204 E E E E E ?_
  refine rg ?_;conv=>whnf
  exact Ac E (.cons .tmp .nil) E E
theorem Ahg (n:Net) (ranks:List Int) (j:Nat) (h:j < n.devices.length):(Jd n ranks).take (j + 1) = (Jd n ranks).take j ++ [Afm ranks j]:=by
 rw [List.take_succ_eq_append_getElem (by simpa [Jd] using h)]
 simp [Jd]
theorem Vt (n:Net) (up:List Bool) (ranks:List Int) (hr:Ah n = true) (hcost:Ci n = true) (old:List Vec) (hl:old.length = n.devices.length) {b:Int} (hb:∀ x ∈ old,0 ≤ x.cost ∧ x.cost ≤ b):∀ m,m ≤ n.ports.length → ∀ x ∈ J7 n up ranks old m,0 ≤ x.cost ∧ x.cost ≤ b + 65535
 | 0,_,x,hx=>by have:=hb x hx; omega
 | m + 1,hm,x,hx=>by
  have ih:=Vt n up ranks hr hcost old hl hb m (by omega)
  rw [L5,X4] at hx
  split at hx
  ·rename_i hc
   rcases List.mem_or_eq_of_mem_set hx with h | h
   ·exact ih x h
   ·have hp:=J1 hcost (show m < n.ports.length by omega)
    obtain ⟨j,hj⟩:∃ j:Nat,B7 n up m = j:=⟨(B7 n up m).toNat,by omega⟩
    have hop:Hop n up m j:=⟨by omega,hj⟩
    have hjd:=Cq hr (E1 hr hop)
    have he:nth old (Bj n j) ∈ old:=by rw [Ao (by omega)]; exact List.getElem_mem _
    have:=hb _ he
    rw [hj,Int.toNat_natCast] at h
    rw [h]
    simp only [Lg]
    omega
  ·exact ih x hx
theorem Vu (n:Net) (up:List Bool) (ranks:List Int) (hr:Ah n = true) (hcost:Ci n = true):∀ r:Nat,∀ x ∈ Cv n up ranks r,0 ≤ x.cost ∧ x.cost ≤ 65535 * r
 | 0,x,hx=>by
  simp only [Cv,Jd,List.mem_map] at hx
  obtain ⟨_,_,rfl⟩:=hx
  simp [Afm]
 | r + 1,x,hx=>by
  have:=Vt n up ranks hr hcost (Cv n up ranks r) (D6 n up ranks r) (Vu n up ranks hr hcost r) n.ports.length (Nat.le_refl _) x hx
  omega
theorem Amz (n:Net) (up:List Bool) (hn:n.Fin) (hu:up.length = n.links.length) (hr:Ah n = true) (hcost:Ci n = true) :
  Sy.Spec Tryz.prog 134 [Ap n,.sl 1 Ad up] [] (Ahf n up (Cn n) (Cv n up (Cn n) (n.devices.length + 1))) []:=Ab Γ hm 100 F134 Tryz.ntmps134 rfl fun F hF=>by
 have hf:=Cr hr
 have hrs:=Aj9 n hn
 rw [← Xq n] at hrs
 have hrk:=Eg n
 generalize Cn n = ranks at *
 conv=>whnf
 refine At hrs F202 E E E (by kernel_rfl) E ?_
 refine rd (by kernel_rfl) ?_;conv=>whnf
 refine ⟨(by kernel_rfl),?_⟩
 conv=>whnf
 refine Bf 2 8 (Ap n) E E E ?_
 refine Ul 18 10 1000 5 Dl E E E E ?_
 refine Au n.devices.length (fun j=>[(2,.ref 8 (Ap n) 0),(5,.ptr 18 0),(6,Aa j)]) (fun j=>[(18,.box (U4 n up ranks (.osl 1000))),(1000,.row 5 Dl ((Jd n ranks).take j))]) []
  ⟨⟨rfl,rfl,rfl,rfl,rfl,rfl,trivial⟩,⟨.inl rfl,rfl,.inl rfl,rfl,trivial⟩,rfl,rfl⟩ ?_
 intro j hj
 refine rg ?_;conv=>whnf
 refine ⟨fun h=>?_,fun h=>?_⟩
 ·have hlt:j < n.devices.length:=by simpa using h
  have hsucc:=Ahg n ranks j hlt
  have hln:((Jd n ranks).take j).length ≤ 8:=by simp [Jd]; omega
  have hv:Afm ranks j = ⟨ranks[(j:Int).toNat]'(by omega),0,ranks[(j:Int).toNat]'(by omega),-1,-1⟩:=by
   simp only [Afm,Int.toNat_natCast]; rw [A8 (by omega)]
  obtain ⟨u,hu'⟩:∃ u,(Jd n ranks).take j = u:=⟨_,rfl⟩
  rw [hu'] at hsucc hln ⊢
  refine rg ?_;conv=>whnf
  refine ⟨E,by omega,by omega,?_⟩
  conv=>whnf
  refine ⟨E,by omega,by omega,?_⟩
  conv=>whnf
  refine Bi (Af Γ.toTy 47 E E E E E (.row E) (.lit (e:=Dl) (l:=[Afm ranks j]) E (by rw [hv]; rfl)) (by simp) (by simp; omega) (by simp; omega)) (by kernel_rfl) E ?_
  refine rd (by kernel_rfl) ?_;conv=>whnf
  refine ⟨(by kernel_rfl),?_⟩
  conv=>whnf
  refine ⟨by unfold I64; omega,?_⟩
  conv=>whnf
  exact Ar [(1000,47)] hlt ⟨⟨E,E,E,E,E,E,Y⟩,⟨.inl E,E,.inl (congrArg (Ob.row 5 Dl) hsucc),E,Y⟩,E,E⟩
 have hjl:j = n.devices.length:=by
  have:¬ j < n.devices.length:=by simpa using h
  omega
 subst hjl
 have hall:(Jd n ranks).take n.devices.length = Cv n up ranks 0:=by rw [List.take_of_length_le (by simp [Jd]),Cv]
 clear h hj
 refine rg ?_;conv=>whnf
 refine Au (n.devices.length + 1) (fun r=>[(2,.ref 8 (Ap n) 0),(5,.ptr 18 0),(7,Aa r)]) (fun r=>[(18,.box (U4 n up ranks (.osl 1000))),(1000,.row 5 Dl (Cv n up ranks r))]) []
  ⟨⟨rfl,rfl,rfl,rfl,rfl,rfl,trivial⟩,⟨.inl rfl,rfl,.inl (by rw [← hall]; rfl),rfl,trivial⟩,rfl,rfl⟩ ?_
 clear hall
 intro r hrn
 refine rg ?_;conv=>whnf
 refine ⟨fun h=>?_,fun h=>?_⟩
 ·have hlt:r < n.devices.length + 1:=by
   have:(r:Int) ≤ n.devices.length:=of_decide_eq_true h
   omega
  have hol:=D6 n up ranks r
  have hob:=Vu n up ranks hr hcost r
  have hnext:Cv n up ranks (r + 1) = J7 n up ranks (Cv n up ranks r) n.ports.length:=rfl
  obtain ⟨old,hold⟩:∃ old,Cv n up ranks r = old:=⟨_,rfl⟩
  rw [hold] at hol hob hnext ⊢
  have hz:J7 n up ranks old 0 = old:=rfl
  refine rg ?_;conv=>whnf
  refine Ai (Af Γ.toTy 62 E E E E E (.lit (e:=Dl) (l:=[]) E E) (.row (l:=old) E) (by simp) (by simp; omega) (by simp; omega)) E E ?_
  refine rg ?_;conv=>whnf
  refine As 62 E ?_
  refine Au n.ports.length (fun i=>[(2,.ref 8 (Ap n) 0),(5,.ptr 18 0),(7,Aa r),(8,.sl 5 Dl old),(9,Aa i)]) (fun i=>[(18,.box (U4 n up ranks (.osl 1000))),(1000,.row 5 Dl (J7 n up ranks old i))]) []
   ⟨⟨rfl,rfl,rfl,rfl,rfl,rfl,rfl,rfl,rfl,rfl,trivial⟩,⟨.inl rfl,rfl,.inl rfl,rfl,trivial⟩,rfl,rfl⟩ ?_
  intro i hi
  refine rg ?_;conv=>whnf
  refine ⟨fun h=>?_,fun h=>?_⟩
  ·have hil:i < n.ports.length:=by simpa using h
   have hul:=Jl n up ranks old i
   have hsucc:=L5 n up ranks old i
   rw [X4] at hsucc
   have hfl:=Sl (up:=up) hr hil
   have ei:Bj n i = (n.ports[(i:Int).toNat]'(by omega)).dev:=by rw [Bj,Ao (by omega)]
   have ec:Hm n i = (n.ports[(i:Int).toNat]'(by omega)).cost:=by rw [Hm,Ao (by omega)]
   have hpi:=Cq hr hil
   have hci:=J1 hcost hil
   generalize J7 n up ranks old i = u at *
   have hcall:=Apj n up ranks u i hr hu hil
   obtain ⟨f,hf'⟩:∃ f,B7 n up i = f:=⟨_,rfl⟩
   rw [hf'] at hfl hcall hsucc
   refine rg ?_;conv=>whnf
   refine Ai (Ak [(0,18),(1,1000)] E F135 hcall E ⟨E,E,Y⟩ E ⟨.inl E,.inl E,Y⟩) E E ?_
   refine rg ?_;conv=>whnf
   refine ⟨fun h=>?_,fun h=>?_⟩
   ·have hneg:f < 0:=of_decide_eq_true h
    rw [if_neg (fun hh=>absurd hh.1 (by omega))] at hsucc
    refine rg ?_;conv=>whnf
    refine ⟨by unfold I64; omega,?_⟩
    conv=>whnf
    exact Ar [] hil ⟨⟨E,E,E,E,E,E,E,E,E,E,Y⟩,⟨.inl E,E,.inl (congrArg (Ob.row 5 Dl) hsucc),E,Y⟩,E,E⟩
   have hneg:¬ f < 0:=of_decide_eq_false h
   obtain ⟨j,rfl⟩:∃ j:Nat,f = j:=⟨f.toNat,by omega⟩
   have hjl:=hfl (by omega)
   have ej:Bj n j = (n.ports[(j:Int).toNat]'(by omega)).dev:=by rw [Bj,Ao (by omega)]
   have hpj:=Cq hr (show j < n.ports.length by omega)
   obtain ⟨q,hq⟩:∃ q,n.ports[(j:Int).toNat]'(by omega) = q:=⟨_,rfl⟩
   rw [hq] at ej
   rw [ej] at hpj
   have hv:Lg n ranks old i j = ⟨(old[q.dev.toNat]'(by omega)).root,(old[q.dev.toNat]'(by omega)).cost + (n.ports[(i:Int).toNat]'(by omega)).cost,ranks[q.dev.toNat]'(by omega),j,i⟩:=by
    rw [Lg,ej,ec,Ao (l:=old) (i:=q.dev) (by omega),Ao (l:=ranks) (i:=q.dev) (by omega)]
   have hbo:=hob _ (List.getElem_mem (show q.dev.toNat < old.length by omega))
   rw [ec] at hci
   rw [ei] at hpi
   rw [Int.toNat_natCast,hv,ei,Ao (l:=u) (i:=(n.ports[(i:Int).toNat]'(by omega)).dev) (by omega)] at hsucc
   have hless:=Amx ⟨(old[q.dev.toNat]'(by omega)).root,(old[q.dev.toNat]'(by omega)).cost + (n.ports[(i:Int).toNat]'(by omega)).cost,ranks[q.dev.toNat]'(by omega),j,i⟩ (u[(n.ports[(i:Int).toNat]'(by omega)).dev.toNat]'(by omega))
   refine rg ?_;conv=>whnf
   refine ⟨E,by omega,by omega,?_⟩
   rw [hq]
   conv=>whnf
   refine ⟨E,by omega,by omega,?_⟩
   conv=>whnf
   refine ⟨E,by omega,by omega,?_⟩
   conv=>whnf
   refine ⟨E,by omega,by omega,?_⟩
   conv=>whnf
   refine ⟨by unfold I64; omega,?_⟩
   conv=>whnf
   refine ⟨E,by omega,by omega,?_⟩
   conv=>whnf
   refine ⟨(by kernel_rfl),?_⟩
   conv=>whnf
   refine ⟨E,by omega,by omega,?_⟩
   conv=>whnf
   refine ⟨by omega,by omega,?_⟩
   conv=>whnf
   refine ⟨E,by omega,?_⟩
   conv=>whnf
   refine At hless F203 E E E (by kernel_rfl) E ?_
   refine rd (by kernel_rfl) ?_;conv=>whnf
   refine ⟨(by kernel_rfl),?_⟩
   conv=>whnf
   refine ⟨fun h=>?_,fun h=>?_⟩
   ·rw [if_pos ⟨by omega,h⟩] at hsucc
    refine rg ?_;conv=>whnf
    refine ⟨E,by omega,by omega,?_⟩
    conv=>whnf
    refine ⟨by omega,by omega,?_⟩
    conv=>whnf
    refine ⟨E,by omega,⟨(old[q.dev.toNat]'(by omega)).root,(old[q.dev.toNat]'(by omega)).cost + (n.ports[(i:Int).toNat]'(by omega)).cost,ranks[q.dev.toNat]'(by omega),j,i⟩,E,E,?_⟩
    conv=>whnf
    refine ⟨(by kernel_rfl),?_⟩
    conv=>whnf
    refine ⟨by unfold I64; omega,?_⟩
    conv=>whnf
    exact Ar [] hil ⟨⟨E,E,E,E,E,E,E,E,E,E,Y⟩,⟨.inl E,E,.inl (congrArg (Ob.row 5 Dl) hsucc),E,Y⟩,E,E⟩
   ·rw [if_neg (fun hh=>by rw [hh.2] at h; cases h)] at hsucc
    refine rg ?_;conv=>whnf
    refine ⟨by unfold I64; omega,?_⟩
    conv=>whnf
    exact Ar [] hil ⟨⟨E,E,E,E,E,E,E,E,E,E,Y⟩,⟨.inl E,E,.inl (congrArg (Ob.row 5 Dl) hsucc),E,Y⟩,E,E⟩
  have hil:i = n.ports.length:=by
   have:¬ i < n.ports.length:=by simpa using h
   omega
  subst hil
  refine rg ?_;conv=>whnf
  refine ⟨by unfold I64; omega,?_⟩
  conv=>whnf
  exact Ar [] (by omega) ⟨⟨E,E,E,E,E,E,Y⟩,⟨.inl E,E,.inl (congrArg (Ob.row 5 Dl) hnext),E,Y⟩,E,E⟩
 have hrl:r = n.devices.length + 1:=by
  have:¬ (r:Int) ≤ n.devices.length:=of_decide_eq_false h
  omega
 subst hrl
 refine rg ?_;conv=>whnf
 refine As 1000 E ?_
 refine Bf 18 11 (.agg (U4 n up ranks (.sl 5 Dl (Cv n up ranks (n.devices.length + 1))))) E E E ?_
 exact Ac E (.cons .tmp .nil) E E
def M9 (n:Net) (up:List Bool):List Vec:=Cv n up (Cn n) (n.devices.length + 1)
theorem Aby (n:Net) (up:List Bool):(M9 n up).length = n.devices.length:=D6 ..
theorem Aiw {n:Net} {up:List Bool} (h:okB n up = true) {d:Int} (h0:0 ≤ d) (h1:d < n.devices.length) :
  (nth (M9 n up) d).root = nth (Q9 n up) d ∧ (nth (M9 n up) d).cost = nth (Su n up) d ∧ (nth (M9 n up) d).own = Ex n up (Cn n) (Q9 n up) (Su n up) d:=by
 obtain ⟨hu,hr,hcost⟩:=ok_iff.1 h
 exact Anp (Ve h) hr hcost (Eg n) h0 h1
theorem Aqt (n:Net) (up:List Bool) (hn:n.Fin):Sy.Spec Tryz.prog 133 [Ap n,.sl 1 Ad up] [] (Ad (okB n up)) []:=Ab Γ hm 100 F133 Tryz.ntmps133 rfl fun F hF=>by
 conv=>whnf
 (repeat' (first | (refine ⟨fun h=>?_,fun h=>?_⟩ <;> (repeat (first | simp only [beq_iff_eq] at h | simp only [beq_eq_false_iff_ne] at h)) <;> ((refine rg ?_);(conv=>whnf);repeat((refine aF ?_);(refine rg ?_);(conv=>whnf)))) | (refine Ac rfl (.cons .tmp .nil) ?_ rfl) | (refine Ag (Dw n hn) F74 rfl rfl rfl rfl rfl ?_; ((refine rg ?_);(conv=>whnf))) | (refine Ag (Akd n hn.ports) F201 rfl rfl rfl rfl rfl ?_; ((refine rg ?_);(conv=>whnf)))))
 all_goals (refine congrArg Ad ?_; clear hF; simp_all [okB])
 all_goals omega
theorem Adm (n:Net) (up:List Bool) (hn:n.Fin) (h:okB n up = false):Sy.Spec Tryz.prog 73 [Ap n,.sl 1 Ad up] [] (.tup [.sl 1 Aa [],Aa 2]) []:=Ab Γ hm 100 F73 Tryz.ntmps73 rfl fun F hF=>by
 have hfit:=Aqt n up hn
 rw [h] at hfit
 conv=>whnf
 refine Ag hfit F133 E E E E E ?_
 (refine rg ?_;(conv=>whnf);refine aT ?_;refine rg ?_;conv=>whnf)
 refine An 4 1 Aa E ?_
 exact Ac E (.cons .tmp (.cons .tmp .nil)) E E
theorem Aj4 {n:Net} {up:List Bool} (h:okB n up = true) {i:Nat} (hi:i < n.ports.length) :
  (B7 n up i < 0 → nth (I6 n up) i = 0) ∧ (∀ j:Nat,B7 n up i = j → nth (I6 n up) i = if (nth (M9 n up) (Bj n i)).own = i then 1 else
   if (nth (M9 n up) (Bj n i)).cost < (nth (M9 n up) (Bj n j)).cost ∨ ((nth (M9 n up) (Bj n i)).cost = (nth (M9 n up) (Bj n j)).cost ∧ nth (Cn n) (Bj n i) < nth (Cn n) (Bj n j)) then 2 else 3):=by
 obtain ⟨hu,hr,hcost⟩:=ok_iff.1 h
 refine ⟨fun hf=>Aj3 h hi hf,fun j hj=>?_⟩
 have hop:Hop n up i j:=⟨hi,hj⟩
 have hpi:=Cq hr hi
 have hpj:=Cq hr (E1 hr hop)
 obtain ⟨_,k1,k2⟩:=Aiw h hpi.1 hpi.2
 obtain ⟨_,k3,_⟩:=Aiw h hpj.1 hpj.2
 rw [I6,Zz hr hi,Aj5 hop,k1,k2,k3]
theorem Af1 (n:Net) (up:List Bool) (hn:n.Fin) (h:okB n up = true):Sy.Spec Tryz.prog 73 [Ap n,.sl 1 Ad up] [] (.tup [.sl 1 Aa (I6 n up),Aa 0]) []:=Ab Γ hm 100 F73 Tryz.ntmps73 rfl fun F hF=>by
 have hfit:=Aqt n up hn
 rw [h] at hfit
 obtain ⟨hu,hr,hcost⟩:=ok_iff.1 h
 have hf:=Cr hr
 have hkn:=Amz n up hn hu hr hcost
 have hkl:=Aby n up
 have hrk:=Eg n
 have hrole:=fun i hi=>Aj4 h (i:=i) hi
 have hrl:=Kv n up
 rw [show Cv n up (Cn n) (n.devices.length + 1) = M9 n up from rfl] at hkn
 generalize Cn n = ranks at *
 generalize M9 n up = best at *
 generalize I6 n up = roles at *
 clear h
 conv=>whnf
 refine Ag hfit F133 E E E E E ?_
 (refine rg ?_;(conv=>whnf);refine aF ?_;refine rg ?_;conv=>whnf)
 refine Ag hkn F134 E E E E E ?_
 refine rg ?_;conv=>whnf
 refine Bf 2 8 (Ap n) E E E ?_
 refine Bt 7 1000 1 Aa E E ?_
 refine Au n.ports.length (fun j=>[(2,.ref 8 (Ap n) 0),(6,Ahf n up ranks best),(7,.osl 1000),(8,Aa j)]) (fun j=>[(1000,.row 1 Aa (roles.take j))]) []
  ⟨⟨rfl,rfl,rfl,rfl,rfl,rfl,rfl,rfl,trivial⟩,⟨.inl (by simp only [List.take_zero]; rfl),rfl,trivial⟩,rfl,rfl⟩ ?_
 intro i hi
 refine rg ?_;conv=>whnf
 refine ⟨fun h=>?_,fun h=>?_⟩
 ·have hlt:i < n.ports.length:=by simpa using h
  obtain ⟨hr0,hr1⟩:=hrole i hlt
  have hsucc:roles.take (i + 1) = roles.take i ++ [roles[i]'(by omega)]:=List.take_succ_eq_append_getElem (by omega)
  have hln:(roles.take i).length ≤ 40:=by simp; omega
  rw [Ao (l:=roles) (i:=(i:Int)) (by omega)] at hr0
  rw [Ao (l:=roles) (i:=(i:Int)) (by omega)] at hr1
  simp only [Int.toNat_natCast] at hr0 hr1
  generalize roles.take i = o at *
  have hcall:=Api n up ranks best i hr hu hlt
  have hfl:=Sl (up:=up) hr hlt
  obtain ⟨f,hf'⟩:∃ f,B7 n up i = f:=⟨_,rfl⟩
  rw [hf'] at hfl hcall hr0 hr1
  refine rg ?_;conv=>whnf
  refine Ag hcall F135 E E E E E ?_
  refine rg ?_;conv=>whnf
  refine ⟨fun h=>?_,fun h=>?_⟩
  ·have hpos:0 ≤ f:=of_decide_eq_true h
   obtain ⟨j,rfl⟩:∃ j:Nat,f = j:=⟨f.toNat,by omega⟩
   have hjl:=hfl (by omega)
   have hr1:=hr1 j rfl
   have ei:Bj n i = (n.ports[(i:Int).toNat]'(by omega)).dev:=by rw [Bj,Ao (by omega)]
   have ej:Bj n j = (n.ports[(j:Int).toNat]'(by omega)).dev:=by rw [Bj,Ao (by omega)]
   obtain ⟨p,hp⟩:∃ q,n.ports[(i:Int).toNat]'(by omega) = q:=⟨_,rfl⟩
   obtain ⟨q,hq⟩:∃ q,n.ports[(j:Int).toNat]'(by omega) = q:=⟨_,rfl⟩
   have hpi:=Cq hr hlt
   have hpj:=Cq hr (show j < n.ports.length by omega)
   rw [hp] at ei
   rw [hq] at ej
   rw [ei] at hpi
   rw [ej] at hpj
   rw [ei,ej,Ao (l:=best) (i:=p.dev) (by omega),Ao (l:=best) (i:=q.dev) (by omega),Ao (l:=ranks) (i:=p.dev) (by omega),Ao (l:=ranks) (i:=q.dev) (by omega)] at hr1
   refine rg ?_;conv=>whnf
   refine ⟨E,by omega,by omega,?_⟩
   rw [hp]
   conv=>whnf
   refine ⟨E,by omega,by omega,?_⟩
   rw [hq]
   conv=>whnf
   refine ⟨(by kernel_rfl),?_⟩
   conv=>whnf
   (repeat' (first | (refine ⟨fun h=>?_,fun h=>?_⟩ <;> (repeat (first | simp only [decide_eq_true_eq] at h | simp only [decide_eq_false_iff_not] at h | simp only [beq_iff_eq] at h | simp only [beq_eq_false_iff_ne] at h)) <;> ((first|refine rg ?_|refine rd (by kernel_rfl) ?_);(conv=>whnf))) | (refine ⟨(by kernel_rfl),?_⟩; ((conv=>whnf);repeat((first|refine aF ?_|refine aT ?_);(refine rg ?_);(conv=>whnf)))) | (refine ⟨by (omega),by (omega),?_⟩; ((conv=>whnf))) | (refine ⟨by (unfold I64; omega),?_⟩; ((conv=>whnf))) | (refine Ai (Af Γ.toTy 110 rfl rfl rfl rfl rfl (.row rfl) (.lit (e:=Aa) (l:=[(1:Int)]) rfl rfl) (by simp) (by simp; omega) (by simp; omega)) rfl rfl ?_; ((refine rg ?_);(conv=>whnf))) | (refine Ai (Af Γ.toTy 110 rfl rfl rfl rfl rfl (.row rfl) (.lit (e:=Aa) (l:=[(2:Int)]) rfl rfl) (by simp) (by simp; omega) (by simp; omega)) rfl rfl ?_; ((refine rg ?_);(conv=>whnf))) | (refine Ai (Af Γ.toTy 110 rfl rfl rfl rfl rfl (.row rfl) (.lit (e:=Aa) (l:=[(3:Int)]) rfl rfl) (by simp) (by simp; omega) (by simp; omega)) rfl rfl ?_; ((refine rg ?_);(conv=>whnf))) | refine Ar [(1000,110)] hlt ⟨⟨rfl,rfl,rfl,rfl,rfl,rfl,rfl,rfl,trivial⟩,⟨.inl (congrArg (Ob.row 1 Aa) ?_),rfl,trivial⟩,rfl,rfl⟩))
   all_goals (rw [hsucc,hr1]; clear hF hfit hkn hcall hrole; refine congrArg (fun z=>o ++ [z]) ?_; grind)
  ·have hneg:f < 0:=by
    have:¬ 0 ≤ f:=of_decide_eq_false h
    omega
   rw [hr0 hneg] at hsucc
   refine rg ?_;conv=>whnf
   refine Ai (Af Γ.toTy 110 E E E E E (.row E) (.lit (e:=Aa) (l:=[(0:Int)]) E E) (by simp) (by simp; omega) (by simp; omega)) E E ?_
   refine rg ?_;conv=>whnf
   refine ⟨by unfold I64; omega,?_⟩
   conv=>whnf
   exact Ar [(1000,110)] hlt ⟨⟨E,E,E,E,E,E,E,E,Y⟩,⟨.inl (congrArg (Ob.row 1 Aa) hsucc),E,Y⟩,E,E⟩
 have hjj:i = n.ports.length:=by
  have:¬ i < n.ports.length:=by simpa using h
  omega
 subst hjj
 rw [List.take_of_length_le (by omega)]
 refine rg ?_;conv=>whnf
 refine As 1000 E ?_
 exact Ac E (.cons .tmp (.cons .tmp .nil)) E E
theorem Qr (n:Net) (up:List Bool) (hn:n.Fin) (h:okB n up = false):Sy.Spec Tryz.prog 34 [Ap n,.sl 1 Ad up] [] (.tup [.sl 1 Ad [],Aa 2]) []:=Ab Γ hm 100 F34 Tryz.ntmps34 rfl fun F hF=>by
 conv=>whnf
 refine Ag (Adm n up hn h) F73 E E E E E ?_
 (refine rg ?_;(conv=>whnf);refine aT ?_;refine rg ?_;conv=>whnf)
 refine An 4 1 Ad E ?_
 exact Ac E (.cons .tmp (.cons .tmp .nil)) E E
theorem Ap4 (roles:List Int) (l:Link):Va roles l = ((nth roles l.a == 1 && nth roles l.b == 2) || (nth roles l.a == 2 && nth roles l.b == 1)):=by
 simp only [Va,inB,List.any_cons,List.any_nil,Bool.or_false]
 rw [Bool.eq_iff_iff]
 simp only [Bool.and_eq_true,Bool.or_eq_true,beq_iff_eq]
 omega
theorem Tc (n:Net) (up:List Bool) (hn:n.Fin) (h:okB n up = true):Sy.Spec Tryz.prog 34 [Ap n,.sl 1 Ad up] [] (.tup [.sl 1 Ad (An8 n up),Aa 0]) []:=Ab Γ hm 100 F34 Tryz.ntmps34 rfl fun F hF=>by
 obtain ⟨hu,hr,hcost⟩:=ok_iff.1 h
 have hf:=Cr hr
 have hro:=Af1 n up hn h
 have hrl:=Kv n up
 rw [An8]
 generalize I6 n up = roles at *
 conv=>whnf
 refine Ag hro F73 E E E E E ?_
 (refine rg ?_;(conv=>whnf);refine aF ?_;refine rg ?_;conv=>whnf)
 refine Bf 2 8 (Ap n) E E E ?_
 refine Bt 8 1000 1 Ad E E ?_
 refine Au n.links.length (fun j=>[(2,.ref 8 (Ap n) 0),(6,.sl 1 Aa roles),(8,.osl 1000),(9,Aa j)]) (fun j=>[(1000,.row 1 Ad ((n.links.take j).map (Va roles)))]) []
  ⟨⟨rfl,rfl,rfl,rfl,rfl,rfl,rfl,rfl,trivial⟩,⟨.inl (by simp only [List.take_zero,List.map_nil]; rfl),rfl,trivial⟩,rfl,rfl⟩ ?_
 intro j hj
 refine rg ?_;conv=>whnf
 refine ⟨fun h=>?_,fun h=>?_⟩
 ·have hlt:j < n.links.length:=by simpa using h
  have he:=Id hr hlt
  have e1:n.links[(j:Int).toNat]'(by omega) = n.links[j]:=rfl
  have hsucc:(n.links.take (j + 1)).map (Va roles) = (n.links.take j).map (Va roles) ++ [Va roles n.links[j]]:=by
   rw [List.take_succ_eq_append_getElem hlt,List.map_append]; rfl
  have hln:((n.links.take j).map (Va roles)).length ≤ 20:=by simp; omega
  obtain ⟨o,ho'⟩:∃ o,(n.links.take j).map (Va roles) = o:=⟨_,rfl⟩
  rw [ho'] at hsucc hln ⊢
  obtain ⟨l,hl⟩:∃ l,n.links[j] = l:=⟨_,rfl⟩
  rw [hl] at e1 hsucc he
  have hA:0 ≤ l.a ∧ l.a < roles.length:=by omega
  have hB:0 ≤ l.b ∧ l.b < roles.length:=by omega
  rw [Ap4,Ao (l:=roles) (i:=l.a) (by omega),Ao (l:=roles) (i:=l.b) (by omega)] at hsucc
  obtain ⟨x,hx⟩:∃ x,roles[l.a.toNat]'(by omega) = x:=⟨_,rfl⟩
  obtain ⟨y,hy⟩:∃ y,roles[l.b.toNat]'(by omega) = y:=⟨_,rfl⟩
  rw [hx,hy] at hsucc
  refine rg ?_;conv=>whnf
  refine ⟨E,by omega,by omega,?_⟩
  rw [e1]
  conv=>whnf
  refine ⟨E,by omega,by omega,?_⟩
  rw [hx]
  conv=>whnf
  refine ⟨E,by omega,by omega,?_⟩
  rw [e1]
  conv=>whnf
  refine ⟨E,by omega,by omega,?_⟩
  rw [hy]
  conv=>whnf
  refine ⟨(by kernel_rfl),?_⟩
  conv=>whnf
  (repeat' (first | (refine ⟨fun h=>?_,fun h=>?_⟩ <;> (repeat (first | simp only [beq_iff_eq] at h | simp only [beq_eq_false_iff_ne] at h)) <;> ((refine rg ?_);(conv=>whnf);repeat((refine aF ?_);(refine rg ?_);(conv=>whnf)))) | (refine ⟨by (unfold I64; omega),?_⟩; ((conv=>whnf))) | (refine Ai (Af Γ.toTy 62 rfl rfl rfl rfl rfl (.row rfl) (.lit (e:=Ad) (l:=[true]) rfl rfl) (by simp) (by simp; omega) (by simp; omega)) rfl rfl ?_; ((refine rg ?_);(conv=>whnf))) | (refine Ai (Af Γ.toTy 62 rfl rfl rfl rfl rfl (.row rfl) (.lit (e:=Ad) (l:=[false]) rfl rfl) (by simp) (by simp; omega) (by simp; omega)) rfl rfl ?_; ((refine rg ?_);(conv=>whnf))) | (refine Ai (Af Γ.toTy 62 rfl rfl rfl rfl rfl (.row rfl) (.lit (e:=Ad) (l:=[y == 1]) rfl rfl) (by simp) (by simp; omega) (by simp; omega)) rfl rfl ?_; ((refine rg ?_);(conv=>whnf))) | refine Ar [(1000,62)] hlt ⟨⟨rfl,rfl,rfl,rfl,rfl,rfl,rfl,rfl,trivial⟩,⟨.inl (congrArg (Ob.row 1 Ad) ?_),rfl,trivial⟩,rfl,rfl⟩))
  all_goals (rw [hsucc]; clear hF hro; refine congrArg (fun z=>o ++ [z]) ?_; clear hsucc; simp_all)
 have hjj:j = n.links.length:=by
  have:¬ j < n.links.length:=by simpa using h
  omega
 subst hjj
 rw [List.take_length]
 refine rg ?_;conv=>whnf
 refine As 1000 E ?_
 exact Ac E (.cons .tmp (.cons .tmp .nil)) E E
def Aof (n:Net) (m:MacM) (q:QueuedM) (l:List SeenM):Obs:=[(0,.box (Il n m.up m.now m.injected m.drops)),(902,.row 1 H8 m.tables),(903,.row 1 La m.queues),(5,.box (queL q)),(1000,.row 3 Bl l)]
theorem Aoe (n:Net) (hn:n.Fin) (hm1:n.Num) (m:MacM) (J D:Int) (hm0:MacOK n m J D) (hD0:0 ≤ D) (hD:D ≤ 900000000000) (x:StepM) :
  Sy.Spec Tryz.prog 38 [.ptr 0 0,Dr x] (Ek n m) (.sl 3 Bl (pickT n m x.domain x.at_).2) (Ek n (pickT n m x.domain x.at_).1):=Ab Γ hm 100 F38 Tryz.ntmps38 rfl fun F hF=>by
 have hres:=pickT.eq_1 n m x.domain x.at_
 generalize pickT n m x.domain x.at_ = res at *
 have q1:=Ae5 n m x (Cw hm0 x.domain)
 have hok:=S3 hm0 x.domain x.at_
 have hpl:(takeM m x.domain x.at_).2.2 = true → 0 ≤ x.domain ∧ x.domain.toNat < m.queues.length:=fun h=>by
  unfold takeM at h
  split at h
  ·cases h
  ·rename_i h2
   exact placeB_iff.1 (by cases hx:Am x.domain m.queues.length; exact absurd hx h2; rfl)
 have htl:(takeM m x.domain x.at_).1.tables = m.tables:=by unfold takeM; split <;> rfl
 generalize takeM m x.domain x.at_ = r at *
 obtain ⟨m1,q,ok⟩:=r
 have htq:m.queues.length = m.tables.length:=by rw [hm0.ques,hm0.tabs]
 conv=>whnf
 refine Ai (Ak [] E F39 q1 E ⟨E,E,E,Y⟩ E ⟨.inl E,.inl E,.inl E,Y⟩) E E ?_
 refine rg ?_;conv=>whnf
 cases ok
 ·rw [if_pos rfl] at hres
  subst hres
  (refine ⟨fun _=>?_,fun h=>False.elim (by simp at h)⟩;refine rg ?_;conv=>whnf)
  refine An 4 3 Bl E ?_
  exact done E (.cons .tmp .nil) [] (Ek n m1) (fun _ h=>h) E E ⟨Y,⟨.inl E,E,.inl E,E,.inl E,E,Y⟩,E,E⟩
 rw [if_neg (by simp)] at hres
 have hd:=hpl rfl
 have hd2:0 ≤ x.domain ∧ x.domain.toNat < m1.tables.length:=by rw [htl,← htq]; exact hd
 dsimp only at hres hok
 have hf:∃ e,Sy.Spec Tryz.prog 34 [Ap n,.sl 1 Ad m1.up] [] (.tup [.sl 1 Ad (Hs n m1.up),Aa e]) []:=by
  unfold Hs
  split
  ·rename_i h; exact ⟨0,Tc n m1.up hn h⟩
  ·rename_i h; exact ⟨2,Qr n m1.up hn (by simpa using h)⟩
 obtain ⟨ef,hf⟩:=hf
 have q3:=Af9 n hn hm1 (Hs n m1.up) (tableL m1 x.domain) x.domain q m1.now (K4 hok.1 x.domain) hok.2
 have hb1:=Or (n:=n) (fw:=Hs n m1.up) (dom:=x.domain) (now:=m1.now) (K4 hok.1 x.domain) hok.2
 have hb2:=Ot (fw:=Hs n m1.up) (t:=tableL m1 x.domain) (dom:=x.domain) (now:=m1.now) hn hm1 hok.2
 have hb3:=Ks hn (Hs n m1.up) (tableL m1 x.domain) x.domain q m1.now
 have hb4:=V3 n (Hs n m1.up) (tableL m1 x.domain) x.domain q m1.now
 rw [Ti] at hres
 have hz:=Xv hok.1 hD0 x.domain hb1
 have hdr0:∀ i,0 ≤ m1.drops i ∧ m1.drops i ≤ 1000000000000:=fun i=>⟨(hok.1.drp i).1,by have:=(hok.1.drp i).2; omega⟩
 generalize bridgeT n (Hs n m1.up) (tableL m1 x.domain) x.domain q m1.now = b at *
 generalize Hs n m1.up = fw at *
 obtain ⟨t,out,e⟩:=b
 have hb2:∀ o ∈ out,OutOK n o:=hb2
 have hb3:out.length < 4294967296:=hb3
 have hb4:Bv e:=hb4
 have ht0:=tableL.eq_1 m1 x.domain
 rw [H4 hd2.2] at ht0
 generalize tableL m1 x.domain = t0 at *
 subst ht0
 (refine ⟨fun h=>False.elim (by simp at h),fun _=>?_⟩;refine rg ?_;conv=>whnf)
 refine At hf F34 E E E (by kernel_rfl) E ?_
 refine rd (by kernel_rfl) ?_;conv=>whnf
 refine ⟨(by kernel_rfl),?_⟩
 conv=>whnf
 refine ⟨hd2.1,hd2.2,?_⟩
 conv=>whnf
 refine ⟨E,hd2.2,?_⟩
 conv=>whnf
 refine At q3 F81 E E E (by kernel_rfl) E ?_
 refine rd (by kernel_rfl) ?_;conv=>whnf
 refine ⟨(by kernel_rfl),?_⟩
 conv=>whnf
 refine ⟨fun h=>?_,fun h=>?_⟩
 ·have h2:¬ e = 2:=by simpa using h
  clear h
  refine rg ?_;conv=>whnf
  refine ⟨hd2.1,hd2.2,?_⟩
  conv=>whnf
  refine ⟨E,hd2.2,t,E,E,?_⟩
  conv=>whnf
  refine ⟨(by kernel_rfl),?_⟩
  conv=>whnf
  refine ⟨fun h=>?_,fun h=>?_⟩
  ·have h3:¬ e = 0:=by simpa using h
   clear h
   have hpd:Jc m1 x.domain (t,out,e) = Be (Bu m1 x.domain t) e:=by
    unfold Jc
    rw [if_neg h2,if_pos h3]
   rw [hpd] at hres hz
   subst hres
   have hbe:=hdr0 e.toNat
   have hg:E0 ⟨.int .i64,1,[.int .i64 0]⟩ (Il n (Bu m1 x.domain t).up (Bu m1 x.domain t).now (Bu m1 x.domain t).injected (Bu m1 x.domain t).drops) (0 + 13 + e.toNat * 1) = _:=H5 n (Bu m1 x.domain t).up (Bu m1 x.domain t).now (Bu m1 x.domain t).injected (Bu m1 x.domain t).drops e.toNat (by have:=hb4.2; omega)
   have hgl:=Jm (H5 n (Bu m1 x.domain t).up (Bu m1 x.domain t).now (Bu m1 x.domain t).injected (Bu m1 x.domain t).drops e.toNat (by have:=hb4.2; omega))
   have hst2:setAt (Il n (Bu m1 x.domain t).up (Bu m1 x.domain t).now (Bu m1 x.domain t).injected (Bu m1 x.domain t).drops) (0 + 13 + e.toNat * 1) [.val (.int .i64 ((Bu m1 x.domain t).drops e.toNat + 1))] = Il n (Bu m1 x.domain t).up (Bu m1 x.domain t).now (Bu m1 x.domain t).injected (Be (Bu m1 x.domain t) e).drops:=by rw [Lm n (Bu m1 x.domain t) e,K5]
   have hble:Nat.ble (0 + 13 + e.toNat * 1 + 1) (Il n (Bu m1 x.domain t).up (Bu m1 x.domain t).now (Bu m1 x.domain t).injected (Bu m1 x.domain t).drops).length = true:=Nat.ble_eq_true_of_le hgl
   refine rg ?_;conv=>whnf
   refine ⟨hb4.1,by have:=hb4.2; show e.toNat < 64; omega,?_⟩
   conv=>whnf
   refine Abp ?_ hg
   conv=>whnf
   refine ⟨(show I64 (m1.drops e.toNat + 1) by unfold I64; omega),?_⟩
   conv=>whnf
   refine ⟨hb4.1,by have:=hb4.2; show e.toNat < 64; omega,?_⟩
   conv=>whnf
   refine Wk (Ai5 hst2 ?_) hble
   conv=>whnf
   refine ⟨(by kernel_rfl),?_⟩
   conv=>whnf
   have hdr:He (Be (Bu m1 x.domain t) e):=fun i=>⟨(hz.drp i).1,by have:=(hz.drp i).2; omega⟩
   refine Bt 12 1000 3 Bl E E ?_
   refine Au out.length (fun j=>[(0,.ptr 0 0),(5,.ptr 5 0),(10,.sl 9 Bg out),(12,.osl 1000),(13,Aa j)]) (fun j=>Aof n (Ba n (Be (Bu m1 x.domain t) e) q.origin (out.take j)).1 q (Ba n (Be (Bu m1 x.domain t) e) q.origin (out.take j)).2) [] ⟨⟨E,E,E,E,E,E,E,E,E,E,Y⟩,⟨.inl E,E,.inl E,E,.inl E,E,.inl E,E,.inl E,E,Y⟩,E,E⟩ ?_
   intro j hj
   refine rg ?_;conv=>whnf
   refine ⟨fun h=>?_,fun h=>?_⟩
   ·have hlt:j < out.length:=by have:=of_decide_eq_true h; omega
    have hj0:((j:Nat):Int).toNat < out.length:=by simpa using hlt
    obtain ⟨o,hoo⟩:∃ o,out[j] = o:=⟨_,rfl⟩
    have e1:out[((j:Nat):Int).toNat]'hj0 = o:=hoo
    have hs:=Ih n (Be (Bu m1 x.domain t) e) q.origin out j hlt
    rw [hoo] at hs
    have hjo:=I4 hn q.origin (out.take j) hz (by omega) (fun x hx=>hb2 x (List.mem_of_mem_take hx))
    have hlen:(out.take j).length = j:=by rw [List.length_take]; omega
    rw [hlen] at hjo
    have hsl:=Hn n q.origin (out.take j) (Be (Bu m1 x.domain t) e)
    rw [hlen] at hsl
    have q5:=Ab9 n hn hm1 (Ba n (Be (Bu m1 x.domain t) e) q.origin (out.take j)).1 J _ hjo (by omega) o (hb2 o (by rw [← hoo]; exact List.getElem_mem hlt)) q.origin
    have hfw:=Ig n (Ba n (Be (Bu m1 x.domain t) e) q.origin (out.take j)).1 o q.origin
    clear h
    refine rg ?_;conv=>whnf
    refine ⟨E,by omega,hj0,?_⟩
    rw [e1]
    conv=>whnf
    refine Bi (Ak [] E F82 q5 E ⟨E,E,E,Y⟩ E ⟨.inl E,.inl E,.inl E,Y⟩) (by kernel_rfl) E ?_
    refine rd (by kernel_rfl) ?_;conv=>whnf
    refine Bi (Af Γ.toTy 96 E E E E E (.row E) .sl (by simp) (by omega) (by omega)) (by kernel_rfl) E ?_
    refine rd (by kernel_rfl) ?_;conv=>whnf
    refine ⟨(by kernel_rfl),?_⟩
    conv=>whnf
    refine ⟨by unfold I64; omega,?_⟩
    conv=>whnf
    have g1:(Ba n (Be (Bu m1 x.domain t) e) q.origin (out.take (j + 1))).1 = (goesM n (Ba n (Be (Bu m1 x.domain t) e) q.origin (out.take j)).1 o q.origin).1:=by rw [hs]
    have g2:(Ba n (Be (Bu m1 x.domain t) e) q.origin (out.take (j + 1))).2 = (Ba n (Be (Bu m1 x.domain t) e) q.origin (out.take j)).2 ++ (goesM n (Ba n (Be (Bu m1 x.domain t) e) q.origin (out.take j)).1 o q.origin).2:=by rw [hs]
    refine Ar [(1000,96)] hlt ⟨⟨E,E,E,E,E,E,E,E,E,E,Y⟩,?_,E,E⟩
    dsimp only
    rw [g1,g2]
    exact ⟨.inl E,E,.inl E,E,.inl E,E,.inl E,E,.inl E,E,Y⟩
   ·have hjj:j = out.length:=by have:=of_decide_eq_false h; omega
    subst hjj
    rw [List.take_length]
    clear h
    refine rg ?_;conv=>whnf
    refine As 1000 E ?_
    exact done E (.cons .tmp .nil) [] (Ek n (Ba n (Be (Bu m1 x.domain t) e) q.origin out).1) (fun _ h=>h) E E ⟨Y,⟨.inl E,E,.inl E,E,.inl E,E,Y⟩,E,E⟩
  ·have h3:e = 0:=by simpa using h
   clear h
   have hpd:Jc m1 x.domain (t,out,e) = Bu m1 x.domain t:=by
    unfold Jc
    rw [if_neg h2,if_neg (fun h=>h h3)]
   rw [hpd] at hres hz
   subst hres
   refine rg ?_;conv=>whnf
   have hdr:He (Bu m1 x.domain t):=fun i=>⟨(hz.drp i).1,by have:=(hz.drp i).2; omega⟩
   refine Bt 12 1000 3 Bl E E ?_
   refine Au out.length (fun j=>[(0,.ptr 0 0),(5,.ptr 5 0),(10,.sl 9 Bg out),(12,.osl 1000),(13,Aa j)]) (fun j=>Aof n (Ba n (Bu m1 x.domain t) q.origin (out.take j)).1 q (Ba n (Bu m1 x.domain t) q.origin (out.take j)).2) [] ⟨⟨E,E,E,E,E,E,E,E,E,E,Y⟩,⟨.inl E,E,.inl E,E,.inl E,E,.inl E,E,.inl E,E,Y⟩,E,E⟩ ?_
   intro j hj
   refine rg ?_;conv=>whnf
   refine ⟨fun h=>?_,fun h=>?_⟩
   ·have hlt:j < out.length:=by have:=of_decide_eq_true h; omega
    have hj0:((j:Nat):Int).toNat < out.length:=by simpa using hlt
    obtain ⟨o,hoo⟩:∃ o,out[j] = o:=⟨_,rfl⟩
    have e1:out[((j:Nat):Int).toNat]'hj0 = o:=hoo
    have hs:=Ih n (Bu m1 x.domain t) q.origin out j hlt
    rw [hoo] at hs
    have hjo:=I4 hn q.origin (out.take j) hz (by omega) (fun x hx=>hb2 x (List.mem_of_mem_take hx))
    have hlen:(out.take j).length = j:=by rw [List.length_take]; omega
    rw [hlen] at hjo
    have hsl:=Hn n q.origin (out.take j) (Bu m1 x.domain t)
    rw [hlen] at hsl
    have q5:=Ab9 n hn hm1 (Ba n (Bu m1 x.domain t) q.origin (out.take j)).1 J _ hjo (by omega) o (hb2 o (by rw [← hoo]; exact List.getElem_mem hlt)) q.origin
    have hfw:=Ig n (Ba n (Bu m1 x.domain t) q.origin (out.take j)).1 o q.origin
    clear h
    refine rg ?_;conv=>whnf
    refine ⟨E,by omega,hj0,?_⟩
    rw [e1]
    conv=>whnf
    refine Bi (Ak [] E F82 q5 E ⟨E,E,E,Y⟩ E ⟨.inl E,.inl E,.inl E,Y⟩) (by kernel_rfl) E ?_
    refine rd (by kernel_rfl) ?_;conv=>whnf
    refine Bi (Af Γ.toTy 96 E E E E E (.row E) .sl (by simp) (by omega) (by omega)) (by kernel_rfl) E ?_
    refine rd (by kernel_rfl) ?_;conv=>whnf
    refine ⟨(by kernel_rfl),?_⟩
    conv=>whnf
    refine ⟨by unfold I64; omega,?_⟩
    conv=>whnf
    have g1:(Ba n (Bu m1 x.domain t) q.origin (out.take (j + 1))).1 = (goesM n (Ba n (Bu m1 x.domain t) q.origin (out.take j)).1 o q.origin).1:=by rw [hs]
    have g2:(Ba n (Bu m1 x.domain t) q.origin (out.take (j + 1))).2 = (Ba n (Bu m1 x.domain t) q.origin (out.take j)).2 ++ (goesM n (Ba n (Bu m1 x.domain t) q.origin (out.take j)).1 o q.origin).2:=by rw [hs]
    refine Ar [(1000,96)] hlt ⟨⟨E,E,E,E,E,E,E,E,E,E,Y⟩,?_,E,E⟩
    dsimp only
    rw [g1,g2]
    exact ⟨.inl E,E,.inl E,E,.inl E,E,.inl E,E,.inl E,E,Y⟩
   ·have hjj:j = out.length:=by have:=of_decide_eq_false h; omega
    subst hjj
    rw [List.take_length]
    clear h
    refine rg ?_;conv=>whnf
    refine As 1000 E ?_
    exact done E (.cons .tmp .nil) [] (Ek n (Ba n (Bu m1 x.domain t) q.origin out).1) (fun _ h=>h) E E ⟨Y,⟨.inl E,E,.inl E,E,.inl E,E,Y⟩,E,E⟩
 ·have h2:e = 2:=by simpa using h
  clear h
  have hpd:Jc m1 x.domain (t,out,e) = Be m1 e:=by
   unfold Jc
   rw [if_pos h2,h2]
  rw [hpd] at hres hz
  subst hres
  refine rg ?_;conv=>whnf
  refine ⟨fun _=>?_,fun h=>False.elim (by rw [h2] at h; simp at h)⟩
  have hbe:=hdr0 e.toNat
  have hg:E0 ⟨.int .i64,1,[.int .i64 0]⟩ (Il n (m1).up (m1).now (m1).injected (m1).drops) (0 + 13 + e.toNat * 1) = _:=H5 n (m1).up (m1).now (m1).injected (m1).drops e.toNat (by have:=hb4.2; omega)
  have hgl:=Jm (H5 n (m1).up (m1).now (m1).injected (m1).drops e.toNat (by have:=hb4.2; omega))
  have hst2:setAt (Il n (m1).up (m1).now (m1).injected (m1).drops) (0 + 13 + e.toNat * 1) [.val (.int .i64 ((m1).drops e.toNat + 1))] = Il n (m1).up (m1).now (m1).injected (Be (m1) e).drops:=by rw [Lm n (m1) e,K5]
  have hble:Nat.ble (0 + 13 + e.toNat * 1 + 1) (Il n (m1).up (m1).now (m1).injected (m1).drops).length = true:=Nat.ble_eq_true_of_le hgl
  refine rg ?_;conv=>whnf
  refine ⟨hb4.1,by have:=hb4.2; show e.toNat < 64; omega,?_⟩
  conv=>whnf
  refine Abp ?_ hg
  conv=>whnf
  refine ⟨(show I64 (m1.drops e.toNat + 1) by unfold I64; omega),?_⟩
  conv=>whnf
  refine ⟨hb4.1,by have:=hb4.2; show e.toNat < 64; omega,?_⟩
  conv=>whnf
  refine Wk (Ai5 hst2 ?_) hble
  conv=>whnf
  refine ⟨(by kernel_rfl),?_⟩
  conv=>whnf
  have hdr:He (Be m1 e):=fun i=>⟨(hz.drp i).1,by have:=(hz.drp i).2; omega⟩
  refine Bt 12 1000 3 Bl E E ?_
  refine Au out.length (fun j=>[(0,.ptr 0 0),(5,.ptr 5 0),(10,.sl 9 Bg out),(12,.osl 1000),(13,Aa j)]) (fun j=>Aof n (Ba n (Be m1 e) q.origin (out.take j)).1 q (Ba n (Be m1 e) q.origin (out.take j)).2) [] ⟨⟨E,E,E,E,E,E,E,E,E,E,Y⟩,⟨.inl E,E,.inl E,E,.inl E,E,.inl E,E,.inl E,E,Y⟩,E,E⟩ ?_
  intro j hj
  refine rg ?_;conv=>whnf
  refine ⟨fun h=>?_,fun h=>?_⟩
  ·have hlt:j < out.length:=by have:=of_decide_eq_true h; omega
   have hj0:((j:Nat):Int).toNat < out.length:=by simpa using hlt
   obtain ⟨o,hoo⟩:∃ o,out[j] = o:=⟨_,rfl⟩
   have e1:out[((j:Nat):Int).toNat]'hj0 = o:=hoo
   have hs:=Ih n (Be m1 e) q.origin out j hlt
   rw [hoo] at hs
   have hjo:=I4 hn q.origin (out.take j) hz (by omega) (fun x hx=>hb2 x (List.mem_of_mem_take hx))
   have hlen:(out.take j).length = j:=by rw [List.length_take]; omega
   rw [hlen] at hjo
   have hsl:=Hn n q.origin (out.take j) (Be m1 e)
   rw [hlen] at hsl
   have q5:=Ab9 n hn hm1 (Ba n (Be m1 e) q.origin (out.take j)).1 J _ hjo (by omega) o (hb2 o (by rw [← hoo]; exact List.getElem_mem hlt)) q.origin
   have hfw:=Ig n (Ba n (Be m1 e) q.origin (out.take j)).1 o q.origin
   clear h
   refine rg ?_;conv=>whnf
   refine ⟨E,by omega,hj0,?_⟩
   rw [e1]
   conv=>whnf
   refine Bi (Ak [] E F82 q5 E ⟨E,E,E,Y⟩ E ⟨.inl E,.inl E,.inl E,Y⟩) (by kernel_rfl) E ?_
   refine rd (by kernel_rfl) ?_;conv=>whnf
   refine Bi (Af Γ.toTy 96 E E E E E (.row E) .sl (by simp) (by omega) (by omega)) (by kernel_rfl) E ?_
   refine rd (by kernel_rfl) ?_;conv=>whnf
   refine ⟨(by kernel_rfl),?_⟩
   conv=>whnf
   refine ⟨by unfold I64; omega,?_⟩
   conv=>whnf
   have g1:(Ba n (Be m1 e) q.origin (out.take (j + 1))).1 = (goesM n (Ba n (Be m1 e) q.origin (out.take j)).1 o q.origin).1:=by rw [hs]
   have g2:(Ba n (Be m1 e) q.origin (out.take (j + 1))).2 = (Ba n (Be m1 e) q.origin (out.take j)).2 ++ (goesM n (Ba n (Be m1 e) q.origin (out.take j)).1 o q.origin).2:=by rw [hs]
   refine Ar [(1000,96)] hlt ⟨⟨E,E,E,E,E,E,E,E,E,E,Y⟩,?_,E,E⟩
   dsimp only
   rw [g1,g2]
   exact ⟨.inl E,E,.inl E,E,.inl E,E,.inl E,E,.inl E,E,Y⟩
  ·have hjj:j = out.length:=by have:=of_decide_eq_false h; omega
   subst hjj
   rw [List.take_length]
   clear h
   refine rg ?_;conv=>whnf
   refine As 1000 E ?_
   exact done E (.cons .tmp .nil) [] (Ek n (Ba n (Be m1 e) q.origin out).1) (fun _ h=>h) E E ⟨Y,⟨.inl E,E,.inl E,E,.inl E,E,Y⟩,E,E⟩
end Go.Sy.YtmelpejjondedaaGreat
