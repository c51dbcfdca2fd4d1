/-
  T1 T2 T3 T4 V6 V7 V8 T5 T6 T7 T8 T9 T10 T11 T12 T13 T15 T16 T17 T14 T19 T21 Z0 Z1 Z2: parts of a proof, joined by program.
-/
import Derived.Test.YtmelpejjondedaaGreatH3
import Derived.Test.YtmelpejjondedaaGreatH5
namespace Go.Sy.YtmelpejjondedaaGreat
open Go.Proofs
attribute [local irreducible] Go.Sy.G Go.Sy.DR
set_option maxRecDepth 20000
set_option maxHeartbeats 4000000
structure Item where
 (root cost dev:Int)
instance:Inhabited Item:=⟨⟨0,0,0⟩⟩
def Bq (x:Item):SV:=.agg [Aa x.root,Aa x.cost,Aa x.dev]
def B3 (x y:Item):Bool:=decide (x.root < y.root) || (x.root == y.root && decide (x.cost < y.cost))
theorem Uw (q:List Item):Sy.Spec Tryz.prog 234 [.sl 3 Bq q] [] (Aa q.length) []:=Ab Γ hm 100 F234 Tryz.ntmps234 rfl fun F hF=>by
 conv=>whnf
 exact Ac E (.cons .tmp .nil) E E
theorem J0 (q:List Item) (i j:Nat) (hi:i < q.length) (hj:j < q.length):Sy.Spec Tryz.prog 384 [.sl 3 Bq q,Aa i,Aa j] [] (Ad (B3 q[i] q[j])) []:=Ab Γ hm 100 F384 Tryz.ntmps384 rfl fun F hF=>by
 have e1:q[(i:Int).toNat]'(by omega) = q[i]:=rfl
 have e2:q[(j:Int).toNat]'(by omega) = q[j]:=rfl
 conv=>whnf
 (repeat' (first | (refine ⟨fun h=>?_,fun h=>?_⟩ <;> (repeat (first | simp only [decide_eq_true_eq] at h | simp only [decide_eq_false_iff_not] at h | simp only [beq_iff_eq] at h | simp only [beq_eq_false_iff_ne] at h)) <;> ((refine rd (by kernel_rfl) ?_);(conv=>whnf))) | (refine Ac rfl (.cons .tmp .nil) ?_ rfl) | (refine ⟨(by kernel_rfl),?_⟩; ((conv=>whnf))) | (refine ⟨by (omega),by (omega),?_⟩; ((conv=>whnf)))))
 all_goals (refine congrArg Ad ?_; clear hF; grind [B3])
theorem Jz (q:List Item) (i j:Nat) (hi:i < q.length) (hj:j < q.length):Sy.Spec Tryz.prog 387 [.osl 0,Aa i,Aa j] [(0,.row 3 Bq q)] (.tup []) [(0,.row 3 Bq ((q.set i q[j]).set j q[i]))]:=Ab Γ hm 100 F387 Tryz.ntmps387 rfl fun F hF=>by
 have e1:q[(i:Int).toNat]'(by omega) = q[i]:=rfl
 have e2:q[(j:Int).toNat]'(by omega) = q[j]:=rfl
 conv=>whnf
 refine ⟨by omega,by omega,?_⟩
 conv=>whnf
 refine ⟨E,by omega,?_⟩
 rw [e2]
 conv=>whnf
 refine ⟨by omega,by omega,?_⟩
 conv=>whnf
 refine ⟨E,by omega,?_⟩
 rw [e1]
 conv=>whnf
 refine ⟨by omega,by omega,?_⟩
 conv=>whnf
 refine ⟨E,by omega,q[j],E,E,?_⟩
 conv=>whnf
 refine ⟨by omega,by simp; omega,?_⟩
 conv=>whnf
 refine ⟨E,by simp; omega,q[i],E,E,?_⟩
 conv=>whnf
 refine ⟨(by kernel_rfl),?_⟩
 conv=>whnf
 exact Bx E .nil [] [(0,.row 3 Bq ((q.set i q[j]).set j q[i]))] (fun _ h=>h) E E ⟨Y,⟨.inl E,E,Y⟩,E,E⟩
theorem Ago (q:List Item) (x:Item) (hq:q.length < 1000000):Sy.Spec Tryz.prog 386 [.ptr 0 0,.ifc 345 (Bq x)] [(0,.box [.osl 1]),(1,.row 3 Bq q)] (.tup []) [(0,.box [.osl 2]),(1,.non),(2,.row 3 Bq (q ++ [x]))]:=Ab Γ hm 100 F386 Tryz.ntmps386 rfl fun F hF=>by
 conv=>whnf
 refine Ai (V1 Γ.toTy E E E E) E E ?_
 (refine rg ?_;(conv=>whnf);refine aT ?_;refine rg ?_;conv=>whnf)
 refine Bi (Af Γ.toTy 18 E E E E E (.row E) (.lit (l:=[x]) E E) (by simp) (by simp; omega) (by simp; omega)) (by kernel_rfl) E ?_
 refine rd (by kernel_rfl) ?_;conv=>whnf
 refine ⟨(by kernel_rfl),?_⟩
 conv=>whnf
 exact Bx E .nil [(2,18)] [(0,.box [.osl 2]),(1,.non),(2,.row 3 Bq (q ++ [x]))] (fun _ h=>h) E E ⟨Y,⟨.inl E,E,.inl E,E,.inl E,E,Y⟩,E,E⟩
theorem Akl (q:List Item) (hq:q ≠ []) (hl:q.length < 1000000):Sy.Spec Tryz.prog 385 [.ptr 0 0] [(0,.box [.osl 1]),(1,.row 3 Bq q)] (.ifc 345 (Bq (q.getLast hq))) [(0,.box [.osl 2]),(1,.non),(2,.row 3 Bq q.dropLast)]:=Ab Γ hm 100 F385 Tryz.ntmps385 rfl fun F hF=>by
 have h0:0 < q.length:=List.length_pos_iff.2 hq
 have e1:q[((q.length:Int) - 1).toNat]'(by omega) = q.getLast hq:=by
  rw [List.getLast_eq_getElem]
  congr 1
  omega
 conv=>whnf
 refine ⟨by unfold I64; omega,?_⟩
 conv=>whnf
 refine ⟨by omega,by omega,?_⟩
 conv=>whnf
 refine ⟨E,by omega,?_⟩
 rw [e1]
 conv=>whnf
 refine ⟨(by kernel_rfl),?_⟩
 conv=>whnf
 refine ⟨by unfold I64; omega,?_⟩
 conv=>whnf
 refine Bi (Yg Γ.toTy (d:=23) (hi:=q.length - 1) E E E E E (by decide) E (.inl ⟨E,E⟩) (.inr ⟨_,_,E,congrArg (fun z=>SV.val (.int .i64 z)) (by omega)⟩) (by omega)) (by kernel_rfl) E ?_
 rw [← List.dropLast_eq_take]
 refine rd (by kernel_rfl) ?_;conv=>whnf
 refine ⟨(by kernel_rfl),?_⟩
 conv=>whnf
 exact done E (.cons .tmp .nil) [(2,23)] [(0,.box [.osl 2]),(1,.non),(2,.row 3 Bq q.dropLast)] (fun _ h=>h) E E ⟨Y,⟨.inl E,E,.inl E,E,.inl E,E,Y⟩,E,E⟩
end Go.Sy.YtmelpejjondedaaGreat
namespace Go.Sy.YtmelpejjondedaaGreat
open Go.Proofs
attribute [local irreducible] Go.Sy.G Go.Sy.DR
set_option maxRecDepth 100000
set_option maxHeartbeats 4000000
theorem mLen : Meth Tryz.prog 340 "Len" 234 false 342 := .of (by kernel_rfl) Tryz.underlying340
theorem Ad8 : Meth Tryz.prog 340 "Less" 384 false 342 := .of (by kernel_rfl) Tryz.underlying340
theorem Ad7 : Meth Tryz.prog 340 "Swap" 387 false 342 := .of (by kernel_rfl) Tryz.underlying340
theorem mPush : Meth Tryz.prog 340 "Push" 386 true 342 := .of (by kernel_rfl) Tryz.underlying340
theorem mPop : Meth Tryz.prog 340 "Pop" 385 true 342 := .of (by kernel_rfl) Tryz.underlying340
def Dq (q:List Item) (i j:Nat):List Item:=(q.set i (q.getD j default)).set j (q.getD i default)
theorem A7 (q:List Item) (i j:Nat):(Dq q i j).length = q.length:=by simp [Dq]
def upF:Nat → List Item → Nat → List Item
 | 0,q,_=>q
 | n + 1,q,j=>if j = 0 then q else if B3 (q.getD j default) (q.getD ((j - 1) / 2) default) then upF n (Dq q ((j - 1) / 2) j) ((j - 1) / 2) else q
theorem Acv:∀ (n m:Nat) (q:List Item) (j:Nat),j ≤ n → j ≤ m → upF n q j = upF m q j
 | 0,m,q,j,h,_=>by
  have:j = 0:=by omega
  subst this
  cases m <;> simp [upF]
 | n + 1,0,q,j,_,h=>by
  have:j = 0:=by omega
  subst this
  simp [upF]
 | n + 1,m + 1,q,j,h1,h2=>by
  rw [upF,upF]
  split
  ·rfl
  ·split
   ·exact Acv n m _ _ (by omega) (by omega)
   ·rfl
theorem Al3 (r:List Item):∀ (i:Nat),i ≠ 0 → upF i r i = if B3 (r.getD i default) (r.getD ((i - 1) / 2) default) then upF ((i - 1) / 2) (Dq r ((i - 1) / 2) i) ((i - 1) / 2) else r
 | 0,h=>absurd rfl h
 | m + 1,_=>by
  rw [upF,if_neg (by omega)]
  split
  ·exact Acv _ _ _ _ (by omega) (by omega)
  ·rfl
theorem upS (q:List Item) (j:Nat) (hj:j < q.length) (hl:q.length < 1000000) :
  Sy.Spec Tryz.prog 285 [.ifc 340 (.ptr 0 0),Aa j] [(0,.box [.osl 1]),(1,.row 3 Bq q)] (.tup []) [(0,.box [.osl 1]),(1,.row 3 Bq (upF j q j))]:=Ab Γ hm 100 F285 Tryz.ntmps285 rfl fun F hF=>by
 conv=>whnf
 refine Oy (α:={p:List Item × Nat // upF p.2 p.1 p.2 = upF j q j ∧ p.1.length = q.length ∧ p.2 < p.1.length}) (fun p=>[(0,.ifc 340 (.ptr 0 0)),(1,Aa p.1.2)]) (fun p=>[(0,.box [.osl 1]),(1,.row 3 Bq p.1.1)]) (fun p=>p.1.2) ⟨(q,j),E,E,hj⟩ []
  ⟨⟨rfl,rfl,rfl,rfl,trivial⟩,⟨.inl rfl,rfl,.inl rfl,rfl,trivial⟩,rfl,rfl⟩ ?_
 rintro ⟨⟨r,i⟩,h1,h2,h3⟩
 simp only at h1 h2 h3
 dsimp only
 have hw:IntKind.i64.wrap (((i:Int) - 1).tdiv 2) = (((i - 1) / 2:Nat):Int):=by
  rcases Nat.eq_zero_or_pos i with h0 | h0
  ·subst h0; rfl
  ·have:((i:Int) - 1) = ((i - 1:Nat):Int):=by omega
   rw [this,Int.tdiv_eq_ediv_of_nonneg (by omega),IntKind.wrap_i64]
   omega
 refine rg ?_;conv=>whnf
 refine ⟨by unfold I64; omega,?_⟩
 conv=>whnf
 refine ⟨by decide,?_⟩
 rw [hw]
 conv=>whnf
 refine ⟨fun h=>?_,fun h=>?_⟩
 ·have h0:i = 0:=by
   have:(((i - 1) / 2:Nat):Int) = i:=by simpa using h
   omega
  subst h0
  have e:upF j q j = r:=by rw [← h1]; rfl
  rw [e]
  (refine rg ?_;(conv=>whnf);refine aT ?_;refine rg ?_;conv=>whnf)
  exact Bx E .nil [] [(0,.box [.osl 1]),(1,.row 3 Bq r)] (fun _ h=>h) E E ⟨Y,⟨.inl E,E,.inl E,E,Y⟩,E,E⟩
 have h0:i ≠ 0:=by
  intro h0
  subst h0
  exact absurd h (by decide)
 have hp:(i - 1) / 2 < r.length:=by omega
 have hless:=J0 r i ((i - 1) / 2) h3 hp
 refine rg ?_;conv=>whnf
 refine Ai (D0 [1] (Bo Γ.toTy Ad8 F384 E E E E E) hless (.cons (.row E E) (.cons (.refl _) (.cons (.refl _) .nil))) E E) E E ?_
 refine rg ?_;conv=>whnf
 have hu:upF i r i = if B3 r[i] r[(i - 1) / 2] then upF ((i - 1) / 2) (Dq r ((i - 1) / 2) i) ((i - 1) / 2) else r:=by
  rw [Al3 r i h0,A8 h3,A8 hp]
 refine ⟨fun h=>?_,fun h=>?_⟩
 ·have hlt:B3 r[i] r[(i - 1) / 2] = false:=by simpa using h
  have e:upF j q j = r:=by rw [← h1,hu,hlt]; rfl
  rw [e]
  refine rg ?_;conv=>whnf
  exact Bx E .nil [] [(0,.box [.osl 1]),(1,.row 3 Bq r)] (fun _ h=>h) E E ⟨Y,⟨.inl E,E,.inl E,E,Y⟩,E,E⟩
 have hlt:B3 r[i] r[(i - 1) / 2] = true:=by simpa using h
 rw [hlt,if_pos rfl] at hu
 have hsw:=Jz r ((i - 1) / 2) i hp h3
 have e:(r.set ((i - 1) / 2) r[i]).set i r[(i - 1) / 2] = Dq r ((i - 1) / 2) i:=by
  rw [Dq,A8 h3,A8 hp]
 rw [e] at hsw
 refine rg ?_;conv=>whnf
 refine Ai (C8 [(0,1)] (Bo Γ.toTy Ad7 F387 E E E E E) hsw E ⟨E,Y⟩ E ⟨.inl E,Y⟩) E E ?_
 refine rg ?_;conv=>whnf
 exact Q3 (α:={p:List Item × Nat // upF p.2 p.1 p.2 = upF j q j ∧ p.1.length = q.length ∧ p.2 < p.1.length}) (L:=fun p=>[(0,.ifc 340 (.ptr 0 0)),(1,Aa p.1.2)]) (O:=fun p=>[(0,.box [.osl 1]),(1,.row 3 Bq p.1.1)]) (μ:=fun p=>p.1.2) (x:=⟨(r,i),h1,h2,h3⟩)
  ⟨(Dq r ((i - 1) / 2) i,(i - 1) / 2),by rw [← h1,hu],by rw [A7]; exact h2,by rw [A7]; exact hp⟩ [] (by simp only; omega)
  ⟨⟨rfl,rfl,rfl,rfl,trivial⟩,⟨.inl rfl,rfl,.inl rfl,rfl,trivial⟩,rfl,rfl⟩
theorem Wv:∀ (n:Nat) (q:List Item) (j:Nat),(upF n q j).length = q.length
 | 0,q,j=>rfl
 | n + 1,q,j=>by
  rw [upF]
  split
  ·rfl
  ·split
   ·rw [Wv n,A7]
   ·rfl
def Qt (q:List Item) (x:Item):List Item:=upF q.length (q ++ [x]) q.length
theorem Aai (q:List Item) (x:Item) (hl:q.length < 999999) :
  Sy.Spec Tryz.prog 233 [.ifc 340 (.ptr 0 0),.ifc 345 (Bq x)] [(0,.box [.osl 1]),(1,.row 3 Bq q)] (.tup []) [(0,.box [.osl 2]),(1,.non),(2,.row 3 Bq (Qt q x))]:=Ab Γ hm 100 F233 Tryz.ntmps233 rfl fun F hF=>by
 have hpush:=Ago q x (by omega)
 have hlen:=Uw (q ++ [x])
 have hup:=upS (q ++ [x]) q.length (by simp) (by simp; omega)
 have hln:(((q ++ [x]).length:Nat):Int) - 1 = (q.length:Int):=by simp
 conv=>whnf
 refine Ai (C8 (rd:=[]) [(2,6)] (Q2 mPush F386 E E) hpush E ⟨E,E,Y⟩ E ⟨.inl E,.inl E,.inr E,Y⟩) E E ?_
 refine rg ?_;conv=>whnf
 refine Ai (D0 [6] (Bo Γ.toTy mLen F234 E E E E E) hlen (.cons (.row E E) .nil) E E) E E ?_
 refine rg ?_;conv=>whnf
 refine ⟨by unfold I64; simp; omega,?_⟩
 rw [hln]
 conv=>whnf
 refine Ai (Ak [(1,6)] E F285 hup E ⟨E,E,Y⟩ E ⟨.inl E,.inl E,Y⟩) E E ?_
 refine rg ?_;conv=>whnf
 exact Bx E .nil [(2,6)] [(0,.box [.osl 2]),(1,.non),(2,.row 3 Bq (Qt q x))] (fun _ h=>h) E E ⟨Y,⟨.inl E,E,.inl E,E,.inl E,E,Y⟩,E,E⟩
def Dk (q:List Item) (i n:Nat):Nat:=if 2 * i + 2 < n ∧ B3 (q.getD (2 * i + 2) default) (q.getD (2 * i + 1) default) = true then 2 * i + 2 else 2 * i + 1
theorem Lq (q:List Item) (i n:Nat) (h:2 * i + 1 < n):Dk q i n < n ∧ i < Dk q i n:=by
 unfold Dk
 split <;> omega
def Dn:Nat → List Item → Nat → Nat → List Item × Nat
 | 0,q,i,_=>(q,i)
 | f + 1,q,i,n=>if 2 * i + 1 < n then (if B3 (q.getD (Dk q i n) default) (q.getD i default) then Dn f (Dq q i (Dk q i n)) (Dk q i n) n else (q,i)) else (q,i)
theorem Sp:∀ (f g:Nat) (q:List Item) (i n:Nat),n ≤ f + i → n ≤ g + i → Dn f q i n = Dn g q i n
 | 0,g,q,i,n,h1,h2=>by
  cases g with
  | zero=>rfl
  | succ g=>rw [Dn,Dn,if_neg (by omega)]
 | f + 1,0,q,i,n,h1,h2=>by rw [Dn,Dn,if_neg (by omega)]
 | f + 1,g + 1,q,i,n,h1,h2=>by
  rw [Dn,Dn]
  split
  ·rename_i h
   have:=Lq q i n h
   split
   ·exact Sp f g _ _ n (by omega) (by omega)
   ·rfl
  ·rfl
theorem Ah0 (r:List Item) (i n:Nat):Dn (n - i) r i n = if 2 * i + 1 < n then (if B3 (r.getD (Dk r i n) default) (r.getD i default) then Dn (n - Dk r i n) (Dq r i (Dk r i n)) (Dk r i n) n else (r,i)) else (r,i):=by
 rw [Sp (n - i) (n - i + 1) r i n (by omega) (by omega),Dn]
 split
 ·rename_i h
  have:=Lq r i n h
  split
  ·exact Sp _ _ _ _ _ (by omega) (by omega)
  ·rfl
 ·rfl
theorem T8:∀ (f:Nat) (q:List Item) (i n:Nat),(Dn f q i n).1.length = q.length
 | 0,_,_,_=>rfl
 | f + 1,q,i,n=>by
  rw [Dn]
  split
  ·split
   ·rw [T8 f,A7]
   ·rfl
  ·rfl
theorem downS (q:List Item) (i0 n:Nat) (hn:n ≤ q.length) (hi:i0 < q.length) (hl:q.length < 1000000) :
  Sy.Spec Tryz.prog 286 [.ifc 340 (.ptr 0 0),Aa i0,Aa n] [(0,.box [.osl 1]),(1,.row 3 Bq q)] (Ad (decide (((Dn (n - i0) q i0 n).2:Int) > i0))) [(0,.box [.osl 1]),(1,.row 3 Bq (Dn (n - i0) q i0 n).1)]:=Ab Γ hm 100 F286 Tryz.ntmps286 rfl fun F hF=>by
 generalize hD:Dn (n - i0) q i0 n = D
 conv=>whnf
 refine Oy (α:={p:List Item × Nat // Dn (n - p.2) p.1 p.2 n = D ∧ p.1.length = q.length ∧ p.2 < p.1.length}) (fun p=>[(0,.ifc 340 (.ptr 0 0)),(1,Aa i0),(2,Aa n),(7,Aa p.1.2)]) (fun p=>[(0,.box [.osl 1]),(1,.row 3 Bq p.1.1)]) (fun p=>n - p.1.2) ⟨(q,i0),hD,E,hi⟩ []
  ⟨⟨rfl,rfl,rfl,rfl,rfl,rfl,rfl,rfl,trivial⟩,⟨.inl rfl,rfl,.inl rfl,rfl,trivial⟩,rfl,rfl⟩ ?_
 rintro ⟨⟨r,i⟩,h1,h2,h3⟩
 simp only at h1 h2 h3
 dsimp only
 have h10:=h1
 rw [Ah0] at h1
 have hj1:(2:Int) * i + 1 = ((2 * i + 1:Nat):Int):=by omega
 have hj2:((2 * i + 1:Nat):Int) + 1 = ((2 * i + 2:Nat):Int):=by omega
 refine rg ?_;conv=>whnf
 refine ⟨by unfold I64; omega,?_⟩
 conv=>whnf
 refine ⟨by unfold I64; omega,?_⟩
 rw [hj1]
 conv=>whnf
 refine ⟨fun h=>?_,fun h=>?_⟩
 ·have hge:¬ 2 * i + 1 < n:=by have:=of_decide_eq_true h; omega
  rw [if_neg hge] at h1
  rw [← h1]
  (refine rg ?_;(conv=>whnf);refine aT ?_;refine rg ?_;conv=>whnf)
  exact done E (.cons .tmp .nil) [] [(0,.box [.osl 1]),(1,.row 3 Bq r)] (fun _ h=>h) E E ⟨Y,⟨.inl E,E,.inl E,E,Y⟩,E,E⟩
 have hlt:2 * i + 1 < n:=by have:=of_decide_eq_false h; omega
 rw [if_pos hlt] at h1
 (refine rg ?_;(conv=>whnf);refine aF ?_;refine rg ?_;conv=>whnf)
 refine ⟨by unfold I64; omega,?_⟩
 rw [hj2]
 conv=>whnf
 refine ⟨fun h=>?_,fun h=>?_⟩
 ·have h2n:2 * i + 2 < n:=by have:=of_decide_eq_true h; omega
  have hA:2 * i + 2 < r.length:=by omega
  have hB:2 * i + 1 < r.length:=by omega
  have hlc:=J0 r (2 * i + 2) (2 * i + 1) hA hB
  refine rg ?_;conv=>whnf
  refine Ai (D0 [1] (Bo Γ.toTy Ad8 F384 E E E E E) hlc (.cons (.row E E) (.cons (.refl _) (.cons (.refl _) .nil))) E E) E E ?_
  refine rg ?_;conv=>whnf
  refine ⟨fun h=>?_,fun h=>?_⟩
  ·have hc:Dk r i n = 2 * i + 2:=by rw [Dk,if_pos ⟨h2n,by rw [A8 hA,A8 hB]; exact h⟩]
   have hJ:=hA
   refine rg ?_;conv=>whnf
   rw [hc,A8 hJ,A8 h3] at h1
   have hls:=J0 r (2 * i + 2) i hJ h3
   refine Ai (D0 [1] (Bo Γ.toTy Ad8 F384 E E E E E) hls (.cons (.row E E) (.cons (.refl _) (.cons (.refl _) .nil))) E E) E E ?_
   refine rg ?_;conv=>whnf
   refine ⟨fun h=>?_,fun h=>?_⟩
   ·have hf:B3 r[2 * i + 2] r[i] = false:=by simpa using h
    rw [hf] at h1
    have e:D = (r,i):=h1.symm
    rw [e]
    refine rg ?_;conv=>whnf
    exact done E (.cons .tmp .nil) [] [(0,.box [.osl 1]),(1,.row 3 Bq r)] (fun _ h=>h) E E ⟨Y,⟨.inl E,E,.inl E,E,Y⟩,E,E⟩
   have hf:B3 r[2 * i + 2] r[i] = true:=by simpa using h
   rw [hf,if_pos rfl] at h1
   have hsw:=Jz r i (2 * i + 2) h3 hJ
   have e:(r.set i r[2 * i + 2]).set (2 * i + 2) r[i] = Dq r i (2 * i + 2):=by
    rw [Dq,A8 h3,A8 hJ]
   rw [e] at hsw
   refine rg ?_;conv=>whnf
   refine Ai (C8 [(0,1)] (Bo Γ.toTy Ad7 F387 E E E E E) hsw E ⟨E,Y⟩ E ⟨.inl E,Y⟩) E E ?_
   refine rg ?_;conv=>whnf
   exact Q3 (α:={p:List Item × Nat // Dn (n - p.2) p.1 p.2 n = D ∧ p.1.length = q.length ∧ p.2 < p.1.length}) (L:=fun p=>[(0,.ifc 340 (.ptr 0 0)),(1,Aa i0),(2,Aa n),(7,Aa p.1.2)]) (O:=fun p=>[(0,.box [.osl 1]),(1,.row 3 Bq p.1.1)]) (μ:=fun p=>n - p.1.2) (x:=⟨(r,i),h10,h2,h3⟩)
    ⟨(Dq r i (2 * i + 2),2 * i + 2),h1,by rw [A7]; exact h2,by rw [A7]; exact hJ⟩ [] (by simp only; omega)
    ⟨⟨rfl,rfl,rfl,rfl,rfl,rfl,rfl,rfl,trivial⟩,⟨.inl rfl,rfl,.inl rfl,rfl,trivial⟩,rfl,rfl⟩
  ·have hc:Dk r i n = 2 * i + 1:=by rw [Dk,if_neg (fun hh=>by rw [A8 hA,A8 hB,h] at hh; exact absurd hh.2 (by simp))]
   have hJ:=hB
   refine rg ?_;conv=>whnf
   rw [hc,A8 hJ,A8 h3] at h1
   have hls:=J0 r (2 * i + 1) i hJ h3
   refine Ai (D0 [1] (Bo Γ.toTy Ad8 F384 E E E E E) hls (.cons (.row E E) (.cons (.refl _) (.cons (.refl _) .nil))) E E) E E ?_
   refine rg ?_;conv=>whnf
   refine ⟨fun h=>?_,fun h=>?_⟩
   ·have hf:B3 r[2 * i + 1] r[i] = false:=by simpa using h
    rw [hf] at h1
    have e:D = (r,i):=h1.symm
    rw [e]
    refine rg ?_;conv=>whnf
    exact done E (.cons .tmp .nil) [] [(0,.box [.osl 1]),(1,.row 3 Bq r)] (fun _ h=>h) E E ⟨Y,⟨.inl E,E,.inl E,E,Y⟩,E,E⟩
   have hf:B3 r[2 * i + 1] r[i] = true:=by simpa using h
   rw [hf,if_pos rfl] at h1
   have hsw:=Jz r i (2 * i + 1) h3 hJ
   have e:(r.set i r[2 * i + 1]).set (2 * i + 1) r[i] = Dq r i (2 * i + 1):=by
    rw [Dq,A8 h3,A8 hJ]
   rw [e] at hsw
   refine rg ?_;conv=>whnf
   refine Ai (C8 [(0,1)] (Bo Γ.toTy Ad7 F387 E E E E E) hsw E ⟨E,Y⟩ E ⟨.inl E,Y⟩) E E ?_
   refine rg ?_;conv=>whnf
   exact Q3 (α:={p:List Item × Nat // Dn (n - p.2) p.1 p.2 n = D ∧ p.1.length = q.length ∧ p.2 < p.1.length}) (L:=fun p=>[(0,.ifc 340 (.ptr 0 0)),(1,Aa i0),(2,Aa n),(7,Aa p.1.2)]) (O:=fun p=>[(0,.box [.osl 1]),(1,.row 3 Bq p.1.1)]) (μ:=fun p=>n - p.1.2) (x:=⟨(r,i),h10,h2,h3⟩)
    ⟨(Dq r i (2 * i + 1),2 * i + 1),h1,by rw [A7]; exact h2,by rw [A7]; exact hJ⟩ [] (by simp only; omega)
    ⟨⟨rfl,rfl,rfl,rfl,rfl,rfl,rfl,rfl,trivial⟩,⟨.inl rfl,rfl,.inl rfl,rfl,trivial⟩,rfl,rfl⟩
 ·have h2n:¬ 2 * i + 2 < n:=by have:=of_decide_eq_false h; omega
  have hJ:2 * i + 1 < r.length:=by omega
  have hc:Dk r i n = 2 * i + 1:=by rw [Dk,if_neg (fun hh=>h2n hh.1)]
  (refine rg ?_;(conv=>whnf);refine aF ?_;refine rg ?_;conv=>whnf)
  rw [hc,A8 hJ,A8 h3] at h1
  have hls:=J0 r (2 * i + 1) i hJ h3
  refine Ai (D0 [1] (Bo Γ.toTy Ad8 F384 E E E E E) hls (.cons (.row E E) (.cons (.refl _) (.cons (.refl _) .nil))) E E) E E ?_
  refine rg ?_;conv=>whnf
  refine ⟨fun h=>?_,fun h=>?_⟩
  ·have hf:B3 r[2 * i + 1] r[i] = false:=by simpa using h
   rw [hf] at h1
   have e:D = (r,i):=h1.symm
   rw [e]
   refine rg ?_;conv=>whnf
   exact done E (.cons .tmp .nil) [] [(0,.box [.osl 1]),(1,.row 3 Bq r)] (fun _ h=>h) E E ⟨Y,⟨.inl E,E,.inl E,E,Y⟩,E,E⟩
  have hf:B3 r[2 * i + 1] r[i] = true:=by simpa using h
  rw [hf,if_pos rfl] at h1
  have hsw:=Jz r i (2 * i + 1) h3 hJ
  have e:(r.set i r[2 * i + 1]).set (2 * i + 1) r[i] = Dq r i (2 * i + 1):=by
   rw [Dq,A8 h3,A8 hJ]
  rw [e] at hsw
  refine rg ?_;conv=>whnf
  refine Ai (C8 [(0,1)] (Bo Γ.toTy Ad7 F387 E E E E E) hsw E ⟨E,Y⟩ E ⟨.inl E,Y⟩) E E ?_
  refine rg ?_;conv=>whnf
  exact Q3 (α:={p:List Item × Nat // Dn (n - p.2) p.1 p.2 n = D ∧ p.1.length = q.length ∧ p.2 < p.1.length}) (L:=fun p=>[(0,.ifc 340 (.ptr 0 0)),(1,Aa i0),(2,Aa n),(7,Aa p.1.2)]) (O:=fun p=>[(0,.box [.osl 1]),(1,.row 3 Bq p.1.1)]) (μ:=fun p=>n - p.1.2) (x:=⟨(r,i),h10,h2,h3⟩)
   ⟨(Dq r i (2 * i + 1),2 * i + 1),h1,by rw [A7]; exact h2,by rw [A7]; exact hJ⟩ [] (by simp only; omega)
   ⟨⟨rfl,rfl,rfl,rfl,rfl,rfl,rfl,rfl,trivial⟩,⟨.inl rfl,rfl,.inl rfl,rfl,trivial⟩,rfl,rfl⟩
def Cy (q:List Item):List Item:=(Dn (q.length - 1 - 0) (Dq q 0 (q.length - 1)) 0 (q.length - 1)).1
theorem Dx (q:List Item):(Cy q).length = q.length:=by rw [Cy,T8,A7]
theorem Do {q:List Item} (h:q ≠ []):Cy q ≠ []:=fun e=>h (List.eq_nil_of_length_eq_zero (by rw [← Dx,e]; rfl))
theorem Anw (q:List Item) (hq:q ≠ []) (hl:q.length < 1000000) :
  Sy.Spec Tryz.prog 235 [.ifc 340 (.ptr 0 0)] [(0,.box [.osl 1]),(1,.row 3 Bq q)] (.ifc 345 (Bq ((Cy q).getLast (Do hq)))) [(0,.box [.osl 2]),(1,.non),(2,.row 3 Bq (Cy q).dropLast)]:=Ab Γ hm 100 F235 Tryz.ntmps235 rfl fun F hF=>by
 have h0:0 < q.length:=List.length_pos_iff.2 hq
 have hlen:=Uw q
 have hsw:=Jz q 0 (q.length - 1) h0 (by omega)
 have e:(q.set 0 q[q.length - 1]).set (q.length - 1) q[0] = Dq q 0 (q.length - 1):=by
  rw [Dq,A8 (show q.length - 1 < q.length by omega),A8 h0]
 rw [e] at hsw
 have hdn:=downS (Dq q 0 (q.length - 1)) 0 (q.length - 1) (by rw [A7]; omega) (by rw [A7]; exact h0) (by rw [A7]; exact hl)
 have hpop:=Akl (Cy q) (Do hq) (by rw [Dx]; exact hl)
 have hln:(q.length:Int) - 1 = ((q.length - 1:Nat):Int):=by omega
 conv=>whnf
 refine Ai (D0 [1] (Bo Γ.toTy mLen F234 E E E E E) hlen (.cons (.row E E) .nil) E E) E E ?_
 refine rg ?_;conv=>whnf
 refine ⟨by unfold I64; omega,?_⟩
 rw [hln]
 conv=>whnf
 refine Ai (C8 [(0,1)] (Bo Γ.toTy Ad7 F387 E E E E E) hsw E ⟨E,Y⟩ E ⟨.inl E,Y⟩) E E ?_
 refine rg ?_;conv=>whnf
 refine Ai (Ak [] E F286 hdn E ⟨E,E,Y⟩ E ⟨.inl E,.inl E,Y⟩) E E ?_
 refine rg ?_;conv=>whnf
 refine Ai (C8 (rd:=[]) [(2,14)] (Q2 mPop F385 E E) hpop E ⟨E,E,Y⟩ E ⟨.inl E,.inl E,.inr E,Y⟩) E E ?_
 refine rg ?_;conv=>whnf
 exact done E (.cons .tmp .nil) [(2,14)] [(0,.box [.osl 2]),(1,.non),(2,.row 3 Bq (Cy q).dropLast)] (fun _ h=>h) E E ⟨Y,⟨.inl E,E,.inl E,E,.inl E,E,Y⟩,E,E⟩
end Go.Sy.YtmelpejjondedaaGreat
namespace Go.Sy.YtmelpejjondedaaGreat
open Go.Proofs
attribute [local irreducible] Go.Sy.G Go.Sy.DR
set_option maxRecDepth 20000
set_option maxHeartbeats 4000000
theorem great1 {n:Net} (h:n.ports.any (fun p=>decide (100 < p.tagged.length)) = true):If n = true:=by simp only [If,h,Bool.or_true,Bool.true_or]
theorem great2 {n:Net} (h:n.domains.any (fun p=>decide (100 < p.peers.length)) = true):If n = true:=by simp only [If,h,Bool.or_true,Bool.true_or]
theorem great3 {n:Net} (h:n.floods.any (fun p=>decide (100 < p.addrs.length)) = true):If n = true:=by simp only [If,h,Bool.or_true,Bool.true_or]
theorem great4 {n:Net} (h:n.vrfs.any (fun v=>decide (100 < v.imports.length) || decide (100 < v.exports.length)) = true):If n = true:=by simp only [If,h,Bool.or_true]
theorem greatS (n:Net):Sy.Spec Tryz.prog 10 [Ap n] [] (Ad (If n)) []:=Ab Γ hm 100 F10 Tryz.ntmps10 rfl fun F hF=>by
 conv=>whnf
 (repeat' (first | (refine ⟨fun h=>?_,fun h=>?_⟩ <;> (repeat (first | simp only [decide_eq_true_eq] at h | simp only [decide_eq_false_iff_not] at h)) <;> ((refine rg ?_);(conv=>whnf);repeat((refine aT ?_);(refine rg ?_);(conv=>whnf)))) | (refine Ac rfl (.cons .tmp .nil) ?_ rfl)))
 all_goals first
  | (refine congrArg Ad ?_; clear hF; grind [If])
  | skip
 have l1:n.ports.length ≤ 200:=by omega
 have l2:n.domains.length ≤ 200:=by omega
 have l3:n.floods.length ≤ 200:=by omega
 have l4:n.vrfs.length ≤ 200:=by omega
 refine Bf 1 8 (Ap n) E E E ?_
 refine A2 n.ports.length (fun j=>Da (fun _ p=>!(decide (100 < p.tagged.length))) n.ports j) (fun j=>[(1,.ref 8 (Ap n) 0),(3,Aa j)]) (fun _=>[]) [] (A5 _ _) ⟨⟨E,E,E,E,Y⟩,Y,E,E⟩ ?_
 intro j hj hI
 refine rg ?_;conv=>whnf
 refine ⟨fun h=>?_,fun h=>?_⟩
 ·have hjl:j < n.ports.length:=by simpa using h
  refine rg ?_;conv=>whnf
  (repeat' (first | (refine ⟨fun h=>?_,fun h=>?_⟩ <;> (repeat (first | simp only [decide_eq_true_eq] at h | simp only [decide_eq_false_iff_not] at h)) <;> ((refine rg ?_);(conv=>whnf))) | (refine Ac rfl (.cons .tmp .nil) ?_ rfl) | (refine ⟨(by kernel_rfl),?_⟩; ((conv=>whnf))) | (refine ⟨by (omega),by (omega),?_⟩; ((conv=>whnf))) | (refine ⟨by (unfold I64; omega),?_⟩; ((conv=>whnf))) | refine Ax [] hI hjl ?_ ⟨⟨rfl,rfl,rfl,rfl,trivial⟩,trivial,rfl,rfl⟩))
  all_goals (simp only [Int.toNat_natCast] at *)
  ·refine congrArg Ad ?_
   exact great1 (Ls hjl (by simp; omega))
  ·exact A3 hI hjl (by simp; omega)
 have a1:n.ports.any (fun p=>decide (100 < p.tagged.length)) = false:=Jp hI (by simpa using h)
 clear hI hj h
 refine rg ?_;conv=>whnf
 refine A2 n.domains.length (fun j=>Da (fun _ p=>!(decide (100 < p.peers.length))) n.domains j) (fun j=>[(1,.ref 8 (Ap n) 0),(4,Aa j)]) (fun _=>[]) [] (A5 _ _) ⟨⟨E,E,E,E,Y⟩,Y,E,E⟩ ?_
 intro j hj hI
 refine rg ?_;conv=>whnf
 refine ⟨fun h=>?_,fun h=>?_⟩
 ·have hjl:j < n.domains.length:=by simpa using h
  refine rg ?_;conv=>whnf
  (repeat' (first | (refine ⟨fun h=>?_,fun h=>?_⟩ <;> (repeat (first | simp only [decide_eq_true_eq] at h | simp only [decide_eq_false_iff_not] at h)) <;> ((refine rg ?_);(conv=>whnf))) | (refine Ac rfl (.cons .tmp .nil) ?_ rfl) | (refine ⟨(by kernel_rfl),?_⟩; ((conv=>whnf))) | (refine ⟨by (omega),by (omega),?_⟩; ((conv=>whnf))) | (refine ⟨by (unfold I64; omega),?_⟩; ((conv=>whnf))) | refine Ax [] hI hjl ?_ ⟨⟨rfl,rfl,rfl,rfl,trivial⟩,trivial,rfl,rfl⟩))
  all_goals (simp only [Int.toNat_natCast] at *)
  ·refine congrArg Ad ?_
   exact great2 (Ls hjl (by simp; omega))
  ·exact A3 hI hjl (by simp; omega)
 have a2:n.domains.any (fun p=>decide (100 < p.peers.length)) = false:=Jp hI (by simpa using h)
 clear hI hj h
 refine rg ?_;conv=>whnf
 refine A2 n.floods.length (fun j=>Da (fun _ p=>!(decide (100 < p.addrs.length))) n.floods j) (fun j=>[(1,.ref 8 (Ap n) 0),(5,Aa j)]) (fun _=>[]) [] (A5 _ _) ⟨⟨E,E,E,E,Y⟩,Y,E,E⟩ ?_
 intro j hj hI
 refine rg ?_;conv=>whnf
 refine ⟨fun h=>?_,fun h=>?_⟩
 ·have hjl:j < n.floods.length:=by simpa using h
  refine rg ?_;conv=>whnf
  (repeat' (first | (refine ⟨fun h=>?_,fun h=>?_⟩ <;> (repeat (first | simp only [decide_eq_true_eq] at h | simp only [decide_eq_false_iff_not] at h)) <;> ((refine rg ?_);(conv=>whnf))) | (refine Ac rfl (.cons .tmp .nil) ?_ rfl) | (refine ⟨(by kernel_rfl),?_⟩; ((conv=>whnf))) | (refine ⟨by (omega),by (omega),?_⟩; ((conv=>whnf))) | (refine ⟨by (unfold I64; omega),?_⟩; ((conv=>whnf))) | refine Ax [] hI hjl ?_ ⟨⟨rfl,rfl,rfl,rfl,trivial⟩,trivial,rfl,rfl⟩))
  all_goals (simp only [Int.toNat_natCast] at *)
  ·refine congrArg Ad ?_
   exact great3 (Ls hjl (by simp; omega))
  ·exact A3 hI hjl (by simp; omega)
 have a3:n.floods.any (fun p=>decide (100 < p.addrs.length)) = false:=Jp hI (by simpa using h)
 clear hI hj h
 refine rg ?_;conv=>whnf
 refine A2 n.vrfs.length (fun j=>Da (fun _ v=>!(decide (100 < v.imports.length) || decide (100 < v.exports.length))) n.vrfs j) (fun j=>[(1,.ref 8 (Ap n) 0),(6,Aa j)]) (fun _=>[]) [] (A5 _ _) ⟨⟨E,E,E,E,Y⟩,Y,E,E⟩ ?_
 intro j hj hI
 refine rg ?_;conv=>whnf
 refine ⟨fun h=>?_,fun h=>?_⟩
 ·have hjl:j < n.vrfs.length:=by simpa using h
  refine rg ?_;conv=>whnf
  (repeat' (first | (refine ⟨fun h=>?_,fun h=>?_⟩ <;> (repeat (first | simp only [decide_eq_true_eq] at h | simp only [decide_eq_false_iff_not] at h)) <;> ((refine rg ?_);(conv=>whnf);repeat((refine aT ?_);(refine rg ?_);(conv=>whnf)))) | (refine Ac rfl (.cons .tmp .nil) ?_ rfl) | (refine ⟨(by kernel_rfl),?_⟩; ((conv=>whnf))) | (refine ⟨by (omega),by (omega),?_⟩; ((conv=>whnf))) | (refine ⟨by (unfold I64; omega),?_⟩; ((conv=>whnf))) | refine Ax [] hI hjl ?_ ⟨⟨rfl,rfl,rfl,rfl,trivial⟩,trivial,rfl,rfl⟩))
  all_goals (simp only [Int.toNat_natCast] at *)
  all_goals first
   | exact A3 hI hjl (by simp; omega)
   | (refine congrArg Ad ?_; exact great4 (Ls hjl (by simp; omega)))
 have a4:n.vrfs.any (fun v=>decide (100 < v.imports.length) || decide (100 < v.exports.length)) = false:=Jp hI (by simpa using h)
 clear hI hj h
 refine rg ?_;conv=>whnf
 refine Ac E (.cons .tmp .nil) (congrArg Ad ?_) E
 rw [If,a1,a2,a3,a4]
 simp
 omega
def Cs:Vec → List Vec → Vec
 | v,[]=>v
 | v,x :: l=>Cs (if Ce x v then x else v) l
def Aqo:Vec:=⟨0,0,0,0,0⟩
def Hi:List Vec → Vec × Bool
 | []=>(Aqo,false)
 | v :: l=>(Cs v (v :: l),true)
theorem Kl (a:Vec):Ce a a = false:=by simp [Ce]
theorem Ag8 {a b:Vec} (h:Ce a b = true):Ce b a = false:=by
 unfold Ce at *
 grind
theorem Sg {a b:Vec} (h:a ≠ b):Ce a b = true ∨ Ce b a = true:=by
 obtain ⟨a1,a2,a3,a4,a5⟩:=a
 obtain ⟨b1,b2,b3,b4,b5⟩:=b
 simp only [ne_eq,Vec.mk.injEq] at h
 simp only [Ce]
 grind
theorem Sf {a b c:Vec} (h1:Ce a b = true) (h2:Ce b c = true):Ce a c = true:=by
 obtain ⟨a1,a2,a3,a4,a5⟩:=a
 obtain ⟨b1,b2,b3,b4,b5⟩:=b
 obtain ⟨c1,c2,c3,c4,c5⟩:=c
 simp only [Ce] at *
 grind
theorem X1:∀ (v:Vec) (l:List Vec),Cs v l = v ∨ Cs v l ∈ l
 | v,[]=>.inl rfl
 | v,x :: l=>by
  rw [Cs]
  rcases X1 (if Ce x v then x else v) l with h | h
  ·rw [h]
   split
   ·exact .inr (by simp)
   ·exact .inl E
  ·exact .inr (by simp [h])
theorem Z9:∀ (v:Vec) (l:List Vec),Ce v (Cs v l) = false ∧ ∀ x ∈ l,Ce x (Cs v l) = false
 | v,[]=>⟨Kl v,by simp⟩
 | v,x :: l=>by
  rw [Cs]
  obtain ⟨h1,h2⟩:=Z9 (if Ce x v then x else v) l
  have key:Ce v (Cs (if Ce x v then x else v) l) = false ∧ Ce x (Cs (if Ce x v then x else v) l) = false:=by
   generalize Cs (if Ce x v then x else v) l = m at *
   cases hx:Ce x v with
   | true =>
    rw [hx] at h1
    simp only [if_true] at h1
    refine ⟨?_,h1⟩
    cases hv:Ce v m with
    | false=>rfl
    | true=>rw [Sf hx hv] at h1; cases h1
   | false =>
    rw [hx] at h1
    simp only [Bool.false_eq_true,if_false] at h1
    refine ⟨h1,?_⟩
    cases hv:Ce x m with
    | false=>rfl
    | true =>
     by_cases hxv:x = v
     ·subst hxv; rw [hv] at h1; cases h1
     ·rcases Sg hxv with h3 | h3
      ·rw [hx] at h3; cases h3
      ·rw [Sf h3 hv] at h1; cases h1
  refine ⟨key.1,fun y hy=>?_⟩
  rcases List.mem_cons.1 hy with rfl | hy
  ·exact key.2
  ·exact h2 y hy
theorem Aee (v:Vec) (l:List Vec) (j:Nat) (h:j < l.length):Cs v (l.take (j + 1)) = (if Ce l[j] (Cs v (l.take j)) then l[j] else Cs v (l.take j)):=by
 have key:∀ (a b:List Vec) (v:Vec),Cs v (a ++ b) = Cs (Cs v a) b:=by
  intro a
  induction a with
  | nil=>intro b v; rfl
  | cons x a ih=>intro b v; rw [List.cons_append,Cs,Cs,ih]
 rw [List.take_succ_eq_append_getElem h,key]
 rfl
theorem leastS (l:List Vec) (hl:Aq l):Sy.Spec Tryz.prog 236 [.sl 5 Dl l] [] (.tup [Dl (Hi l).1,Ad (Hi l).2]) []:=Ab Γ hm 100 F236 Tryz.ntmps236 rfl fun F hF=>by
 unfold Aq at hl
 have hR:∀ h:0 < l.length,Hi l = (Cs l[0] l,true):=fun h=>by
  cases l with
  | nil=>simp at h
  | cons v t=>rfl
 conv=>whnf
 refine ⟨fun h=>?_,fun h=>?_⟩
 ·have:l = []:=List.eq_nil_of_length_eq_zero (by have:(l.length:Int) = 0:=(by simpa using h); omega)
  subst this
  refine rg ?_;conv=>whnf
  exact done E (.cons (.cell E E E E) (.cons .tmp .nil)) [] [] (fun _ h=>h) E E ⟨Y,Y,E,E⟩
 have h0:0 < l.length:=by
  have:¬ (l.length:Int) = 0:=by simpa using h
  omega
 rw [hR h0]
 refine rg ?_;conv=>whnf
 refine ⟨E,by decide,h0,?_⟩
 conv=>whnf
 have e0:l[(0:Int).toNat]'(h0) = l[0]:=rfl
 generalize hv:l[0] = v at *
 refine Au l.length (fun j=>[(0,.sl 5 Dl l),(2,.ptr 2 0),(4,.ptr 4 0),(14,.sl 5 Dl l),(15,Aa l.length),(16,Aa j)]) (fun j=>[(2,.box [Aa 0,Aa 0,Aa 0,Aa 0,Aa 0]),(4,.box [Aa (Cs v (l.take j)).root,Aa (Cs v (l.take j)).cost,Aa (Cs v (l.take j)).bridge,Aa (Cs v (l.take j)).port,Aa (Cs v (l.take j)).own])]) []
  ⟨⟨rfl,rfl,rfl,rfl,rfl,rfl,rfl,rfl,rfl,rfl,rfl,rfl,trivial⟩,⟨.inl rfl,rfl,.inl (by subst hv; rfl),rfl,trivial⟩,rfl,rfl⟩ ?_
 intro j hj
 refine rg ?_;conv=>whnf
 refine ⟨fun h=>?_,fun h=>?_⟩
 ·have hlt:j < l.length:=by simpa using h
  have hdrop:=Aee v l j hlt
  generalize hx:l[j] = x at hdrop
  have hx':l[(j:Int).toNat]'(by omega) = x:=hx
  generalize hmn:Cs v (l.take j) = m at hdrop
  refine rg ?_;conv=>whnf
  refine ⟨E,by omega,by omega,?_⟩
  rw [hx']
  conv=>whnf
  refine Ag (lessS x m) F287 E E E E E ?_
  refine rg ?_;conv=>whnf
  refine ⟨fun h2=>?_,fun h2=>?_⟩
  ·rw [h2,if_pos rfl] at hdrop
   refine rg ?_;conv=>whnf
   refine ⟨by unfold I64; omega,?_⟩
   conv=>whnf
   exact Ar [] hlt ⟨⟨E,E,E,E,E,E,E,E,E,E,E,E,Y⟩,⟨.inl E,E,.inl (by rw [hdrop]; rfl),E,Y⟩,E,E⟩
  ·rw [h2] at hdrop
   refine rg ?_;conv=>whnf
   refine ⟨by unfold I64; omega,?_⟩
   conv=>whnf
   exact Ar [] hlt ⟨⟨E,E,E,E,E,E,E,E,E,E,E,E,Y⟩,⟨.inl E,E,.inl (by rw [hdrop]; rfl),E,Y⟩,E,E⟩
 ·have hjl:¬ j < l.length:=by simpa using h
  rw [List.take_of_length_le (by omega)]
  refine rg ?_;conv=>whnf
  exact done E (.cons (.cell E E E E) (.cons .tmp .nil)) [] [] (fun _ h=>h) E E ⟨Y,Y,E,E⟩
theorem Aef {l:List Vec} (h:(Hi l).2 = false):l = [] ∧ (Hi l).1 = Aqo:=by
 cases l with
 | nil=>exact ⟨rfl,rfl⟩
 | cons v t=>cases h
theorem Aaa (l:List Vec):∀ x ∈ l,Ce x (Hi l).1 = false:=by
 cases l with
 | nil=>simp
 | cons v t=>exact (Z9 v (v :: t)).2
theorem Ahe {l:List Vec} (h:(Hi l).2 = true):(Hi l).1 ∈ l:=by
 cases l with
 | nil=>cases h
 | cons v t =>
  rcases X1 v (v :: t) with h | h
  ·show Cs v (v :: t) ∈ v :: t
   rw [h]; simp
  ·exact h
theorem Vo (n:Net):∀ x ∈ Cn n,0 ≤ x ∧ x < n.devices.length:=fun x hx=>by
 rw [Xq,Jo] at hx
 obtain ⟨i,hi,rfl⟩:=List.mem_map.1 hx
 have hi:=List.mem_range.1 hi
 have h1:=List.countP_le_length (p:=fun k=>Cg n (k:Nat) i) (l:=List.range n.devices.length)
 rw [List.length_range] at h1
 have h2:(List.range n.devices.length).countP (fun k=>Cg n (k:Nat) i) ≠ n.devices.length:=fun e=>by
  have:=List.countP_eq_length.1 (e.trans List.length_range.symm) i (List.mem_range.2 hi)
  rw [Me] at this
  cases this
 omega
theorem Eg (n:Net):(Cn n).length = n.devices.length:=by rw [Xq,Jo]; simp
end Go.Sy.YtmelpejjondedaaGreat
namespace Go.Sy.YtmelpejjondedaaGreat
open Go.Proofs
attribute [local irreducible] Go.Sy.G Go.Sy.DR
set_option maxRecDepth 100000
set_option maxHeartbeats 4000000
def Qp (n:Net) (up:List Bool) (ranks:List Int) (x y:SV):List SV:=[.sl 5 Br n.devices,.sl 7 Bh n.ports,.sl 3 Cp n.links,.sl 6 A0 n.domains,.sl 4 Bp n.statics,.sl 4 B6 n.floods,.sl 5 Cz n.vrfs,.sl 5 Dm n.irbs,.sl 1 Ad up,.sl 1 Aa ranks,x,y]
def B7 (n:Net) (up:List Bool) (i:Nat):Int :=
 let p:=n.ports.getD i default
 if p.link < 0 || !(up.getD p.link.toNat false) then -1 else (nth n.links p.link).a + (nth n.links p.link).b - i
theorem farS (n:Net) (up:List Bool) (ranks:List Int) (x y:SV) (_hx:(x.boxed && x.data && y.boxed && y.data && Nat.beq (cellsOf x).length 1 && Nat.beq (cellsOf y).length 1) = true) (i:Nat) (hr:Ah n = true) (hu:up.length = n.links.length) (hi:i < n.ports.length) :
  Sy.Spec Tryz.prog 158 [.ref 12 (.agg (Qp n up ranks x y)) 0,Aa i] [] (Aa (B7 n up i)) []:=Ab Γ hm 100 F158 Tryz.ntmps158 rfl fun F hF=>by
 have hpl:=Es hr hi
 have hf:=Cr hr
 have e1:n.ports[(i:Int).toNat]'(by omega) = n.ports[i]:=rfl
 have hfar:B7 n up i = if n.ports[i].link < 0 || !(up.getD n.ports[i].link.toNat false) then -1 else (nth n.links n.ports[i].link).a + (nth n.links n.ports[i].link).b - i:=by
  rw [B7,A8 hi]
 generalize hp:n.ports[i] = p at *
 have hle:=fun h=>Id hr (i:=p.link.toNat) h
 conv=>whnf
 refine ⟨E,by omega,by omega,?_⟩
 rw [e1]
 conv=>whnf
 (repeat' (first | (refine ⟨fun h=>?_,fun h=>?_⟩ <;> (repeat (first | simp only [decide_eq_true_eq] at h | simp only [decide_eq_false_iff_not] at h | simp only [Bool.not_eq_true'] at h | simp only [Bool.not_eq_false'] at h)) <;> ((first|refine rg ?_|refine rd (by kernel_rfl) ?_);(conv=>whnf))) | (refine Ac rfl (.cons .tmp .nil) ?_ rfl) | (refine ⟨(by kernel_rfl),?_⟩; ((conv=>whnf);repeat((refine aT ?_);(refine rg ?_);(conv=>whnf)))) | (refine ⟨by (first | omega | ((have hq:=hle (by omega); unfold I64; omega))),by (first | omega | ((have hq:=hle (by omega); unfold I64; omega))),?_⟩; ((conv=>whnf)))))
 all_goals (refine congrArg Aa ?_; rw [hfar])
 ·simp_all
 ·have h1:up.getD p.link.toNat false = false:=by rw [A8 (by omega)]; assumption
  rw [h1]; simp
 ·have h1:up.getD p.link.toNat false = true:=by rw [A8 (by omega)]; assumption
  rw [h1,Ao (by omega)]
  simp_all
def Mu (n:Net) (up:List Bool) (ranks roots costs:List Int):SV:=.ref 12 (.agg (Qp n up ranks (.sl 1 Aa roots) (.sl 1 Aa costs))) 0
def Jn (n:Net) (ranks costs:List Int) (i k:Nat):Bool :=
 let a:=(n.ports.getD i default).dev
 let b:=(n.ports.getD k default).dev
 decide (nth costs a < nth costs b) || (nth costs a == nth costs b && decide (nth ranks a < nth ranks b))
theorem Afq (n:Net) (up:List Bool) (ranks roots costs:List Int) (i k:Nat) (hr:Ah n = true) (hrk:ranks.length = n.devices.length) (hc:costs.length = n.devices.length) (hi:i < n.ports.length) (hk:k < n.ports.length) :
  Sy.Spec Tryz.prog 159 [Mu n up ranks roots costs,Aa i,Aa k] [] (Ad (Jn n ranks costs i k)) []:=Ab Γ hm 100 F159 Tryz.ntmps159 rfl fun F hF=>by
 have hd1:=M3 hr hi
 have hd2:=M3 hr hk
 have e1:n.ports[(i:Int).toNat]'(by omega) = n.ports[i]:=rfl
 have e2:n.ports[(k:Int).toNat]'(by omega) = n.ports[k]:=rfl
 have hres:Jn n ranks costs i k = (decide (nth costs n.ports[i].dev < nth costs n.ports[k].dev) || (nth costs n.ports[i].dev == nth costs n.ports[k].dev && decide (nth ranks n.ports[i].dev < nth ranks n.ports[k].dev))):=by
  rw [Jn,A8 hi,A8 hk]
 rw [Ao (by omega),Ao (by omega),Ao (by omega),Ao (by omega)] at hres
 conv=>whnf
 (repeat' (first | (refine ⟨fun h=>?_,fun h=>?_⟩ <;> (repeat (first | simp only [decide_eq_true_eq] at h | simp only [decide_eq_false_iff_not] at h | simp only [beq_iff_eq] at h | simp only [beq_eq_false_iff_ne] at h)) <;> ((refine rd (by kernel_rfl) ?_);(conv=>whnf))) | (refine Ac rfl (.cons .tmp .nil) ?_ rfl) | (refine ⟨(by kernel_rfl),?_⟩; ((conv=>whnf))) | (refine ⟨by (first | omega | (simp only [Int.toNat_natCast]; omega)),by (first | omega | (simp only [Int.toNat_natCast]; omega)),?_⟩; ((conv=>whnf)))))
 all_goals (refine congrArg Ad ?_; rw [hres]; clear hF hres hr; simp only [Int.toNat_natCast] at *; grind)
theorem Sl {n:Net} {up:List Bool} (h:Ah n = true) {i:Nat} (hi:i < n.ports.length) (hf:0 ≤ B7 n up i):B7 n up i < n.ports.length:=by
 have hp:=Jv h hi
 have hpl:=Es h hi
 simp only [Em,Bool.and_eq_true,Bool.or_eq_true,beq_iff_eq] at hp
 have hp:=hp.2
 unfold B7 at *
 rw [A8 hi] at *
 simp only at *
 split at hf
 ·omega
 ·rename_i hc
  rw [if_neg hc]
  simp only [Bool.or_eq_true,decide_eq_true_eq,not_or] at hc
  rcases hp with hp | hp
  ·omega
  ·have hl:n.ports[i].link.toNat < n.links.length:=by omega
   have he:=Id h hl
   rw [Ao hl] at *
   omega
def Ug (n:Net) (up:List Bool) (ranks roots costs:List Int) (dev:Int) (i:Nat):Option Vec :=
 let p:=n.ports.getD i default
 let far:=B7 n up i
 let there:=(nth n.ports far).dev
 if p.dev == dev && decide (0 ≤ far) then some ⟨nth roots there,nth costs there + p.cost,nth ranks there,far,i⟩ else none
def Hp (n:Net) (up:List Bool) (ranks roots costs:List Int) (dev:Int) (j:Nat):List Vec:=(List.range j).filterMap (Ug n up ranks roots costs dev)
theorem Aia (n:Net) (up:List Bool) (ranks roots costs:List Int) (dev:Int) (j:Nat):Hp n up ranks roots costs dev (j + 1) = Hp n up ranks roots costs dev j ++ (Ug n up ranks roots costs dev j).toList:=by
 rw [Hp,List.range_succ,List.filterMap_append]
 cases h:Ug n up ranks roots costs dev j <;> simp [Hp,h]
theorem Uh (n:Net) (up:List Bool) (ranks roots costs:List Int) (dev:Int) (j:Nat):(Hp n up ranks roots costs dev j).length ≤ j:=by
 have:=List.length_filterMap_le (Ug n up ranks roots costs dev) (List.range j)
 simpa [Hp] using this
def Ex (n:Net) (up:List Bool) (ranks roots costs:List Int) (dev:Int):Int :=
 let r:=Hi (Hp n up ranks roots costs dev n.ports.length)
 if !r.2 || nth roots dev == nth ranks dev then -1 else r.1.own
theorem bestS (n:Net) (up:List Bool) (ranks roots costs:List Int) (dev:Int) (hr:Ah n = true) (hu:up.length = n.links.length) (hcost:Ci n = true) (hrk:ranks.length = n.devices.length) (hro:roots.length = n.devices.length) (hc:costs.length = n.devices.length)
  (hb:∀ c ∈ costs,0 ≤ c ∧ c < 1000000000) (hd:0 ≤ dev ∧ dev < n.devices.length) :
  Sy.Spec Tryz.prog 160 [Mu n up ranks roots costs,Aa dev] [] (Aa (Ex n up ranks roots costs dev)) []:=Ab Γ hm 100 F160 Tryz.ntmps160 rfl fun F hF=>by
 have hf:=Cr hr
 conv=>whnf
 refine Bt 5 1000 5 Dl E E ?_
 refine Au n.ports.length (fun j=>[(0,Mu n up ranks roots costs),(1,Aa dev),(5,.osl 1000),(16,.sl 7 Bh n.ports),(17,Aa n.ports.length),(18,Aa j)]) (fun j=>[(1000,.row 5 Dl (Hp n up ranks roots costs dev j))]) []
  ⟨⟨rfl,rfl,rfl,rfl,rfl,rfl,rfl,rfl,rfl,rfl,rfl,rfl,trivial⟩,⟨.inl rfl,rfl,trivial⟩,rfl,rfl⟩ ?_
 intro j hj
 refine rg ?_;conv=>whnf
 refine ⟨fun h=>?_,fun h=>?_⟩
 ·have hlt:j < n.ports.length:=by simpa using h
  have e1:n.ports[(j:Int).toNat]'(by omega) = n.ports[j]:=rfl
  have hfar:=farS n up ranks (.sl 1 Aa roots) (.sl 1 Aa costs) rfl j hr hu hlt
  have hfl:=Sl (up:=up) hr hlt
  have hsucc:=Aia n up ranks roots costs dev j
  have hbl:=Uh n up ranks roots costs dev j
  have hcand:Ug n up ranks roots costs dev j = if n.ports[j].dev == dev && decide (0 ≤ B7 n up j) then some ⟨nth roots (nth n.ports (B7 n up j)).dev,nth costs (nth n.ports (B7 n up j)).dev + n.ports[j].cost,nth ranks (nth n.ports (B7 n up j)).dev,B7 n up j,j⟩ else none:=by
   rw [Ug,A8 hlt]
  generalize B7 n up j = k at *
  have hpc:1 ≤ n.ports[j].cost ∧ n.ports[j].cost ≤ 65535:=by
   simp only [Ci,Bool.not_eq_true',List.any_eq_false] at hcost
   have:=hcost _ (List.getElem_mem hlt)
   simp only [H6,Bool.or_eq_true,decide_eq_true_eq,not_or] at this
   omega
  obtain ⟨p,hp⟩:∃ p,n.ports[j] = p:=⟨_,rfl⟩
  rw [hp] at e1 hcand hpc
  refine rg ?_;conv=>whnf
  refine ⟨E,by omega,by omega,?_⟩
  rw [e1]
  conv=>whnf
  refine Ag hfar F158 E E E E E ?_
  refine rg ?_;conv=>whnf
  refine ⟨fun h=>?_,fun h=>?_⟩
  ·refine rg ?_;conv=>whnf
   refine ⟨fun h2=>?_,fun h2=>?_⟩
   ·have hk0:0 ≤ k:=of_decide_eq_true h2
    have hk1:=hfl hk0
    rw [if_pos (by simp only [Bool.and_eq_true,decide_eq_true_eq]; exact ⟨h,hk0⟩),Ao (l:=n.ports) (i:=k) (by omega)] at hcand
    have hpd:=M3 hr (i:=k.toNat) (by omega)
    obtain ⟨q,hq⟩:∃ q,n.ports[k.toNat]'(by omega) = q:=⟨_,rfl⟩
    rw [hq] at hcand hpd
    have hcb:=hb (costs[q.dev.toNat]'(by omega)) (List.getElem_mem _)
    rw [Ao (l:=roots) (i:=q.dev) (by omega),Ao (l:=costs) (i:=q.dev) (by omega),Ao (l:=ranks) (i:=q.dev) (by omega)] at hcand
    refine rg ?_;conv=>whnf
    refine ⟨E,hk0,by omega,?_⟩
    rw [hq]
    conv=>whnf
    refine ⟨(by kernel_rfl),?_⟩
    refine ⟨by omega,by omega,?_⟩
    conv=>whnf
    refine ⟨(by kernel_rfl),?_⟩
    refine ⟨by omega,by omega,?_⟩
    conv=>whnf
    refine ⟨by unfold I64; omega,?_⟩
    conv=>whnf
    refine ⟨(by kernel_rfl),?_⟩
    refine ⟨by omega,by omega,?_⟩
    conv=>whnf
    refine Bi (Af Γ.toTy 72 E E E E E (.row E) (.lit (l:=[(⟨roots[q.dev.toNat]'(by omega),costs[q.dev.toNat]'(by omega) + p.cost,ranks[q.dev.toNat]'(by omega),k,j⟩:Vec)]) E E) (by simp) (by simp; omega) (by simp; omega)) (by kernel_rfl) E ?_
    refine rd (by kernel_rfl) ?_;conv=>whnf
    refine ⟨(by kernel_rfl),?_⟩
    conv=>whnf
    refine ⟨by unfold I64; omega,?_⟩
    conv=>whnf
    refine Ar [(1000,72)] hlt ⟨⟨E,E,E,E,E,E,E,E,E,E,E,E,Y⟩,⟨.inl (congrArg (Ob.row 5 Dl) ?_),E,Y⟩,E,E⟩
    rw [hsucc,hcand]
    rfl
   ·have hk0:¬ 0 ≤ k:=of_decide_eq_false h2
    rw [if_neg (by simp only [Bool.and_eq_true,decide_eq_true_eq]; exact fun hh=>hk0 hh.2)] at hcand
    refine rg ?_;conv=>whnf
    refine ⟨by unfold I64; omega,?_⟩
    conv=>whnf
    refine Ar [] hlt ⟨⟨E,E,E,E,E,E,E,E,E,E,E,E,Y⟩,⟨.inl (congrArg (Ob.row 5 Dl) ?_),E,Y⟩,E,E⟩
    rw [hsucc,hcand]
    simp
  ·rw [if_neg (by rw [h]; simp)] at hcand
   (refine rg ?_;(conv=>whnf);refine aF ?_;refine rg ?_;conv=>whnf)
   refine ⟨by unfold I64; omega,?_⟩
   conv=>whnf
   refine Ar [] hlt ⟨⟨E,E,E,E,E,E,E,E,E,E,E,E,Y⟩,⟨.inl (congrArg (Ob.row 5 Dl) ?_),E,Y⟩,E,E⟩
   rw [hsucc,hcand]
   simp
 ·have hjl:j = n.ports.length:=by
   have:¬ j < n.ports.length:=by simpa using h
   omega
  subst hjl
  have hbl:=Uh n up ranks roots costs dev n.ports.length
  have hbi:Ex n up ranks roots costs dev = if !(Hi (Hp n up ranks roots costs dev n.ports.length)).2 || nth roots dev == nth ranks dev then -1 else (Hi (Hp n up ranks roots costs dev n.ports.length)).1.own:=rfl
  rw [Ao (by omega),Ao (by omega)] at hbi
  have hls:=leastS (Hp n up ranks roots costs dev n.ports.length) (by unfold Aq; omega)
  generalize Hi (Hp n up ranks roots costs dev n.ports.length) = r at hls hbi
  obtain ⟨v,ok⟩:=r
  simp only at hls hbi
  rw [hbi]
  refine rg ?_;conv=>whnf
  refine As 1000 E ?_
  refine Ag hls F236 E E E E E ?_
  refine rg ?_;conv=>whnf
  (repeat' (first | (refine ⟨fun h=>?_,fun h=>?_⟩ <;> (repeat (first | simp only [beq_iff_eq] at h | simp only [beq_eq_false_iff_ne] at h | simp only [Bool.not_eq_true'] at h | simp only [Bool.not_eq_false'] at h)) <;> ((first|refine rg ?_|refine rd (by kernel_rfl) ?_);(conv=>whnf))) | (refine Ac rfl (.cons .tmp .nil) ?_ rfl) | (refine ⟨(by kernel_rfl),?_⟩; ((conv=>whnf);repeat((refine aT ?_);(refine rg ?_);(conv=>whnf)))) | (refine ⟨by (omega),by (omega),?_⟩; ((conv=>whnf)))))
  all_goals (refine congrArg Aa ?_; clear hF hls hbi; grind)
theorem best_lt {n:Net} {up:List Bool} {ranks roots costs:List Int} {dev:Int} (h:0 ≤ Ex n up ranks roots costs dev):Ex n up ranks roots costs dev < n.ports.length:=by
 have hmem:=@Ahe (Hp n up ranks roots costs dev n.ports.length)
 unfold Ex at *
 simp only at *
 split at h
 ·omega
 ·rename_i hc
  rw [if_neg hc]
  simp only [Bool.or_eq_true,Bool.not_eq_true',not_or] at hc
  have h2:=hmem (by simpa using hc.1)
  obtain ⟨i,hi,he⟩:=List.mem_filterMap.1 h2
  have hi:=List.mem_range.1 hi
  unfold Ug at he
  simp only at he
  split at he
  ·have e:=congrArg Vec.own (Option.some.inj he)
   simp only at e
   omega
  ·cases he
def Mx (n:Net) (up:List Bool) (ranks costs:List Int) (i:Nat):Int :=
 if B7 n up i < 0 then 0 else if Jn n ranks costs i (B7 n up i).toNat then 2 else 3
def Hh (n:Net) (up:List Bool) (ranks costs:List Int) (j:Nat):List Int:=(List.range n.ports.length).map fun i=>if i < j then Mx n up ranks costs i else 0
theorem Kw (n:Net) (up:List Bool) (ranks costs:List Int) (j:Nat):(Hh n up ranks costs j).length = n.ports.length:=by simp [Hh]
theorem Ade (n:Net) (up:List Bool) (ranks costs:List Int):Hh n up ranks costs 0 = List.replicate n.ports.length 0:=by
 rw [Hh]
 exact List.ext_getElem (by simp) (by simp)
theorem Adf (n:Net) (up:List Bool) (ranks costs:List Int) (j:Nat) (hj:j < n.ports.length):Hh n up ranks costs (j + 1) = (Hh n up ranks costs j).set j (Mx n up ranks costs j):=by
 refine List.ext_getElem (by simp [Hh]) (fun i h1 h2=>?_)
 rw [List.getElem_set]
 simp only [Hh,List.getElem_map,List.getElem_range]
 rcases Nat.lt_trichotomy i j with h | h | h
 ·rw [if_pos (by omega),if_neg (by omega),if_pos h]
 ·subst h; rw [if_pos (by omega),if_pos rfl]
 ·rw [if_neg (by omega),if_neg (by omega),if_neg (by omega)]
theorem Adg (n:Net) (up:List Bool) (ranks costs:List Int) (j:Nat) (h:Mx n up ranks costs j = 0):Hh n up ranks costs (j + 1) = Hh n up ranks costs j:=by
 simp only [Hh]
 refine List.map_congr_left (fun i _=>?_)
 by_cases hij:i < j
 ·rw [if_pos (by omega),if_pos hij]
 ·by_cases he:i = j
  ·subst he; rw [if_pos (by omega),if_neg hij,h]
  ·rw [if_neg (by omega),if_neg hij]
def Hu (n:Net) (up:List Bool) (ranks roots costs:List Int):Nat → List Int
 | 0=>Hh n up ranks costs n.ports.length
 | d + 1=>if 0 ≤ Ex n up ranks roots costs d then (Hu n up ranks roots costs d).set (Ex n up ranks roots costs d).toNat 1 else Hu n up ranks roots costs d
theorem E5 (n:Net) (up:List Bool) (ranks roots costs:List Int):∀ d,(Hu n up ranks roots costs d).length = n.ports.length
 | 0=>Kw n up ranks costs _
 | d + 1=>by
  rw [Hu]
  split
  ·rw [List.length_set,E5]
  ·rw [E5]
theorem rolesS (n:Net) (up:List Bool) (ranks roots costs:List Int) (hr:Ah n = true) (hu:up.length = n.links.length) (hcost:Ci n = true) (hrk:ranks.length = n.devices.length) (hro:roots.length = n.devices.length) (hc:costs.length = n.devices.length)
  (hb:∀ c ∈ costs,0 ≤ c ∧ c < 1000000000) :
  Sy.Spec Tryz.prog 85 [Mu n up ranks roots costs] [] (.sl 1 Aa (Hu n up ranks roots costs n.devices.length)) []:=Ab Γ hm 100 F85 Tryz.ntmps85 rfl fun F hF=>by
 have hf:=Cr hr
 conv=>whnf
 refine Ai (Bw Γ.toTy (d:=14) (n:=n.ports.length) Aa 0 E E E E E E E E (by omega) (by omega) E E E) E E ?_
 rw [← Ade n up ranks costs]
 refine rg ?_;conv=>whnf
 refine Au n.ports.length (fun j=>[(0,Mu n up ranks roots costs),(3,.osl 14),(20,Aa n.ports.length),(21,Aa j)]) (fun j=>[(14,.row 1 Aa (Hh n up ranks costs j))]) []
  ⟨⟨rfl,rfl,rfl,rfl,rfl,rfl,rfl,rfl,trivial⟩,⟨.inl rfl,rfl,trivial⟩,rfl,rfl⟩ ?_
 intro j hj
 refine rg ?_;conv=>whnf
 refine ⟨fun h=>?_,fun h=>?_⟩
 ·have hlt:j < n.ports.length:=by simpa using h
  have hfar:=farS n up ranks (.sl 1 Aa roots) (.sl 1 Aa costs) rfl j hr hu hlt
  have hfl:=Sl (up:=up) hr hlt
  have hlen:=Kw n up ranks costs j
  have hrole:Mx n up ranks costs j = if B7 n up j < 0 then 0 else if Jn n ranks costs j (B7 n up j).toNat then 2 else 3:=rfl
  have hsucc:=Adf n up ranks costs j hlt
  have hsame:=Adg n up ranks costs j
  generalize B7 n up j = k at *
  refine rg ?_;conv=>whnf
  refine Ag hfar F158 E E E E E ?_
  refine rg ?_;conv=>whnf
  refine ⟨fun h=>?_,fun h=>?_⟩
  ·have hk:k < 0:=of_decide_eq_true h
   rw [if_pos hk] at hrole
   refine rg ?_;conv=>whnf
   refine ⟨by unfold I64; omega,?_⟩
   conv=>whnf
   exact Ar [] hlt ⟨⟨E,E,E,E,E,E,E,E,Y⟩,⟨.inl (congrArg (Ob.row 1 Aa) (hsame hrole)),E,Y⟩,E,E⟩
  have hk:¬ k < 0:=of_decide_eq_false h
  rw [if_neg hk] at hrole
  obtain ⟨m,rfl⟩:∃ m:Nat,k = m:=⟨k.toNat,by omega⟩
  have hah:=Afq n up ranks roots costs j m hr hrk hc hlt (by omega)
  rw [Int.toNat_natCast] at hrole
  refine rg ?_;conv=>whnf
  refine Ag hah F159 E E E E E ?_
  refine rg ?_;conv=>whnf
  refine ⟨fun h=>?_,fun h=>?_⟩
  ·rw [h,if_pos rfl] at hrole
   rw [hrole] at hsucc
   refine rg ?_;conv=>whnf
   refine ⟨by omega,by omega,?_⟩
   conv=>whnf
   refine ⟨E,by omega,2,E,E,?_⟩
   conv=>whnf
   refine ⟨by unfold I64; omega,?_⟩
   conv=>whnf
   exact Ar [] hlt ⟨⟨E,E,E,E,E,E,E,E,Y⟩,⟨.inl (congrArg (Ob.row 1 Aa) hsucc),E,Y⟩,E,E⟩
  ·rw [h] at hrole
   simp only [Bool.false_eq_true,if_false] at hrole
   rw [hrole] at hsucc
   refine rg ?_;conv=>whnf
   refine ⟨by omega,by omega,?_⟩
   conv=>whnf
   refine ⟨E,by omega,3,E,E,?_⟩
   conv=>whnf
   refine ⟨by unfold I64; omega,?_⟩
   conv=>whnf
   exact Ar [] hlt ⟨⟨E,E,E,E,E,E,E,E,Y⟩,⟨.inl (congrArg (Ob.row 1 Aa) hsucc),E,Y⟩,E,E⟩
 have hjl:j = n.ports.length:=by
  have:¬ j < n.ports.length:=by simpa using h
  omega
 subst hjl
 refine rg ?_;conv=>whnf
 refine Au n.devices.length (fun d=>[(0,Mu n up ranks roots costs),(3,.osl 14),(47,Aa n.devices.length),(48,Aa d)]) (fun d=>[(14,.row 1 Aa (Hu n up ranks roots costs d))]) []
  ⟨⟨rfl,rfl,rfl,rfl,rfl,rfl,rfl,rfl,trivial⟩,⟨.inl rfl,rfl,trivial⟩,rfl,rfl⟩ ?_
 clear hj h
 intro d hdle
 refine rg ?_;conv=>whnf
 refine ⟨fun h=>?_,fun h=>?_⟩
 ·have hlt:d < n.devices.length:=by simpa using h
  have hbs:=bestS n up ranks roots costs d hr hu hcost hrk hro hc hb (by omega)
  have hbl:=@best_lt n up ranks roots costs d
  have hlen:=E5 n up ranks roots costs d
  have hsucc:Hu n up ranks roots costs (d + 1) = if 0 ≤ Ex n up ranks roots costs d then (Hu n up ranks roots costs d).set (Ex n up ranks roots costs d).toNat 1 else Hu n up ranks roots costs d:=rfl
  generalize Ex n up ranks roots costs d = k at *
  refine rg ?_;conv=>whnf
  refine Ag hbs F160 E E E E E ?_
  refine rg ?_;conv=>whnf
  refine ⟨fun h=>?_,fun h=>?_⟩
  ·have hk:0 ≤ k:=of_decide_eq_true h
   rw [if_pos hk] at hsucc
   refine rg ?_;conv=>whnf
   refine ⟨hk,by omega,?_⟩
   conv=>whnf
   refine ⟨E,by omega,1,E,E,?_⟩
   conv=>whnf
   refine ⟨by unfold I64; omega,?_⟩
   conv=>whnf
   exact Ar [] hlt ⟨⟨E,E,E,E,E,E,E,E,Y⟩,⟨.inl (congrArg (Ob.row 1 Aa) hsucc),E,Y⟩,E,E⟩
  ·have hk:¬ 0 ≤ k:=of_decide_eq_false h
   rw [if_neg hk] at hsucc
   refine rg ?_;conv=>whnf
   refine ⟨by unfold I64; omega,?_⟩
   conv=>whnf
   exact Ar [] hlt ⟨⟨E,E,E,E,E,E,E,E,Y⟩,⟨.inl (congrArg (Ob.row 1 Aa) hsucc),E,Y⟩,E,E⟩
 have hdl:d = n.devices.length:=by
  have:¬ d < n.devices.length:=by simpa using h
  omega
 subst hdl
 refine rg ?_;conv=>whnf
 refine As 14 E ?_
 exact Ac E (.cons .tmp .nil) E E
def Zv (n:Net) (up:List Bool) (ranks:List Int) (roots costs:List Int):Obs:=[(0,.box (Qp n up ranks (.osl 1) (.osl 2))),(1,.row 1 Aa roots),(2,.row 1 Aa costs)]
theorem farR (n:Net) (up:List Bool) (ranks roots costs:List Int) (i:Nat) (hr:Ah n = true) (hu:up.length = n.links.length) (hi:i < n.ports.length) :
  Sy.Spec Tryz.prog 158 [.ptr 0 0,Aa i] (Zv n up ranks roots costs) (Aa (B7 n up i)) (Zv n up ranks roots costs):=Ab Γ hm 100 F158 Tryz.ntmps158 rfl fun F hF=>by
 have hpl:=Es hr hi
 have hf:=Cr hr
 have e1:n.ports[(i:Int).toNat]'(by omega) = n.ports[i]:=rfl
 have hfar:B7 n up i = if n.ports[i].link < 0 || !(up.getD n.ports[i].link.toNat false) then -1 else (nth n.links n.ports[i].link).a + (nth n.links n.ports[i].link).b - i:=by
  rw [B7,A8 hi]
 generalize hp:n.ports[i] = p at *
 have hle:=fun h=>Id hr (i:=p.link.toNat) h
 conv=>whnf
 refine ⟨E,by omega,by omega,?_⟩
 rw [e1]
 conv=>whnf
 (repeat' (first | (refine ⟨fun h=>?_,fun h=>?_⟩ <;> (repeat (first | simp only [decide_eq_true_eq] at h | simp only [decide_eq_false_iff_not] at h | simp only [Bool.not_eq_true'] at h | simp only [Bool.not_eq_false'] at h)) <;> ((first|refine rg ?_|refine rd (by kernel_rfl) ?_);(conv=>whnf))) | (refine ⟨(by kernel_rfl),?_⟩; ((conv=>whnf);repeat((refine aT ?_);(refine rg ?_);(conv=>whnf)))) | (refine ⟨by (first | omega | ((have hq:=hle (by omega); unfold I64; omega))),by (first | omega | ((have hq:=hle (by omega); unfold I64; omega))),?_⟩; ((conv=>whnf))) | refine done rfl (.cons .tmp .nil) [] (Zv n up ranks roots costs) (fun _ h=>h) ?_ rfl ⟨trivial,⟨.inl rfl,rfl,.inl rfl,rfl,.inl rfl,rfl,trivial⟩,rfl,rfl⟩))
 all_goals (refine congrArg Aa ?_; rw [hfar])
 ·simp_all
 ·have h1:up.getD p.link.toNat false = false:=by rw [A8 (by omega)]; assumption
  rw [h1]; simp
 ·have h1:up.getD p.link.toNat false = true:=by rw [A8 (by omega)]; assumption
  rw [h1,Ao (by omega)]
  simp_all
def C5 (n:Net) (up:List Bool) (x:Item) (q:List Item) (i:Nat):List Item :=
 if (n.ports.getD i default).dev = x.dev ∧ 0 ≤ B7 n up i then Qt q ⟨x.root,x.cost + (nth n.ports (B7 n up i)).cost,(nth n.ports (B7 n up i)).dev⟩ else q
def L1 (n:Net) (up:List Bool) (s:List Item × List Int × List Int):List Item × List Int × List Int :=
 let x:=(Cy s.1).getLast?.getD default
 let q:=(Cy s.1).dropLast
 if 0 ≤ nth s.2.1 x.dev then (q,s.2) else ((List.range n.ports.length).foldl (C5 n up x) q,s.2.1.set x.dev.toNat x.root,s.2.2.set x.dev.toNat x.cost)
def Ez (n:Net) (up:List Bool):Nat → List Item × List Int × List Int → List Item × List Int × List Int
 | 0,s=>s
 | f + 1,s=>if s.1 = [] then s else Ez n up f (L1 n up s)
end Go.Sy.YtmelpejjondedaaGreat
namespace Go.Sy.YtmelpejjondedaaGreat
theorem Q7 (q:List Item) (i j:Nat) (hi:i < q.length) (hj:j < q.length):(Dq q i j).Perm q:=by
 rw [Dq,A8 hi,A8 hj]
 exact List.set_set_perm hi hj
theorem Acs:∀ (f:Nat) (q:List Item) (j:Nat),j < q.length → (upF f q j).Perm q
 | 0,_,_,_=>.refl _
 | f + 1,q,j,hj=>by
  rw [upF]
  split
  ·exact .refl _
  ·split
   ·exact (Acs f _ _ (by rw [A7]; omega)).trans (Q7 q _ _ (by omega) hj)
   ·exact .refl _
theorem Ys:∀ (f:Nat) (q:List Item) (i n:Nat),i < q.length → n ≤ q.length → (Dn f q i n).1.Perm q
 | 0,_,_,_,_,_=>.refl _
 | f + 1,q,i,n,hi,hn=>by
  rw [Dn]
  split
  ·rename_i h
   have hc:=Lq q i n h
   split
   ·exact (Ys f _ _ n (by rw [A7]; omega) (by rw [A7]; exact hn)).trans (Q7 q _ _ hi (by omega))
   ·exact .refl _
  ·exact .refl _
theorem L2 (q:List Item) (x:Item):(Qt q x).Perm (x :: q) :=
 (Acs _ _ _ (by simp)).trans (List.perm_append_comm (l₁:=q) (l₂:=[x]))
theorem Jh (q:List Item) (x:Item):(Qt q x).length = q.length + 1:=by rw [Qt,Wv]; simp
theorem O7 (q:List Item) (hq:q ≠ []):(Cy q).Perm q:=by
 have h0:0 < q.length:=List.length_pos_iff.2 hq
 exact (Ys _ _ _ _ (by rw [A7]; exact h0) (by rw [A7]; omega)).trans (Q7 q _ _ h0 (by omega))
def Kd (q:List Item) (n:Nat):Prop:=∀ c,0 < c → c < n → c < q.length → B3 (q.getD c default) (q.getD ((c - 1) / 2) default) = false
theorem L7 {x y z:Item} (h1:B3 y x = false) (h2:B3 z y = false):B3 z x = false:=by
 unfold B3 at *
 grind
theorem Ahm {q:List Item} {n:Nat} (h:Kd q n) (hn:n ≤ q.length):∀ c,c < n → B3 (q.getD c default) (q.getD 0 default) = false:=by
 intro c
 induction c using Nat.strongRecOn with
 | ind c ih =>
  intro hc
  rcases Nat.eq_zero_or_pos c with h0 | h0
  ·subst h0; unfold B3; grind
  ·have h1:=h c h0 hc (by omega)
   have h2:=ih ((c - 1) / 2) (by omega) (by omega)
   exact L7 h2 h1
theorem Ec (q:List Item) (i j c:Nat) (hi:i < q.length) (hj:j < q.length):(Dq q i j).getD c default = if c = j then q.getD i default else if c = i then q.getD j default else q.getD c default:=by
 rw [Dq]
 simp only [List.getD_eq_getElem?_getD,List.getElem?_set,List.length_set]
 by_cases h1:c = j
 ·subst h1; simp [hj]
 ·rw [if_neg (Ne.symm h1),if_neg h1]
  by_cases h2:c = i
  ·subst h2; simp [hi]
  ·rw [if_neg (Ne.symm h2),if_neg h2]
theorem L8 {x y:Item} (h:B3 x y = true):B3 y x = false:=by
 unfold B3 at *
 grind
structure UpInv (q:List Item) (j n:Nat):Prop where
 heap:∀ c,0 < c → c < n → c ≠ j → B3 (q.getD c default) (q.getD ((c - 1) / 2) default) = false
 over:∀ c,0 < c → c < n → (c - 1) / 2 = j → 0 < j → B3 (q.getD c default) (q.getD ((j - 1) / 2) default) = false
theorem Acu (n:Nat):∀ (f:Nat) (q:List Item) (j:Nat),j ≤ f → j < n → n ≤ q.length → UpInv q j n → Kd (upF f q j) n
 | 0,q,j,hf,hj,hn,hI=>by
  have:j = 0:=by omega
  subst this
  exact fun c h0 hc _=>hI.heap c h0 hc (by omega)
 | f + 1,q,j,hf,hj,hn,hI=>by
  rw [upF]
  split
  ·rename_i h0
   subst h0
   exact fun c h0 hc _=>hI.heap c h0 hc (by omega)
  ·rename_i h0
   split
   ·rename_i hlt
    have hp:(j - 1) / 2 < j:=by omega
    refine Acu n f _ _ (by omega) (by omega) (by rw [A7]; exact hn) ⟨fun c hc0 hcn hcp=>?_,fun c hc0 hcn hpar hp0=>?_⟩
    ·rw [Ec _ _ _ _ (by omega) (by omega),Ec _ _ _ _ (by omega) (by omega)]
     by_cases hcj:c = j
     ·subst hcj
      rw [if_pos rfl,if_neg (by omega),if_pos rfl]
      exact L8 hlt
     ·rw [if_neg hcj,if_neg hcp]
      by_cases hpj:(c - 1) / 2 = j
      ·rw [if_pos hpj]
       exact hI.over c hc0 hcn hpj (by omega)
      ·rw [if_neg hpj]
       by_cases hpp:(c - 1) / 2 = (j - 1) / 2
       ·rw [if_pos hpp]
        have:=hI.heap c hc0 hcn hcj
        rw [hpp] at this
        exact L7 (L8 hlt) this
       ·rw [if_neg hpp]
        exact hI.heap c hc0 hcn hcj
    ·rw [Ec _ _ _ _ (by omega) (by omega),Ec _ _ _ _ (by omega) (by omega)]
     have hpI:=hI.heap ((j - 1) / 2) hp0 (by omega) (by omega)
     rw [if_neg (show ((j - 1) / 2 - 1) / 2 ≠ j by omega),if_neg (show ((j - 1) / 2 - 1) / 2 ≠ (j - 1) / 2 by omega)]
     by_cases hcj:c = j
     ·rw [if_pos hcj]; exact hpI
     ·rw [if_neg hcj,if_neg (by omega)]
      have:=hI.heap c hc0 hcn hcj
      rw [hpar] at this
      exact L7 hpI this
   ·rename_i hlt
    intro c hc0 hcn _
    by_cases hcj:c = j
    ·subst hcj; simpa using hlt
    ·exact hI.heap c hc0 hcn hcj
theorem Lj {q r:List Item} {c:Nat} (h:c < q.length):(q ++ r).getD c default = q.getD c default:=by
 simp [List.getD_eq_getElem?_getD,List.getElem?_append_left h]
theorem Xs (q:List Item) (x:Item) (h:Kd q q.length):Kd (Qt q x) (Qt q x).length:=by
 rw [Jh]
 refine Acu (q.length + 1) _ _ _ (Nat.le_refl _) (by omega) (by simp) ⟨fun c hc0 hcn hcj=>?_,fun c hc0 hcn hpar hp0=>by omega⟩
 rw [Lj (by omega),Lj (by omega)]
 exact h c hc0 (by omega) (by omega)
structure DownInv (q:List Item) (i n:Nat):Prop where
 heap:∀ c,0 < c → c < n → (c - 1) / 2 ≠ i → B3 (q.getD c default) (q.getD ((c - 1) / 2) default) = false
 over:∀ c,0 < c → c < n → (c - 1) / 2 = i → 0 < i → B3 (q.getD c default) (q.getD ((i - 1) / 2) default) = false
theorem Aln (q:List Item) (i n c:Nat) (_h:2 * i + 1 < n) (hc0:0 < c) (hc:c < n) (hp:(c - 1) / 2 = i):B3 (q.getD c default) (q.getD (Dk q i n) default) = false:=by
 have hcc:c = 2 * i + 1 ∨ c = 2 * i + 2:=by omega
 unfold Dk
 split
 ·rename_i hh
  rcases hcc with rfl | rfl
  ·exact L8 hh.2
  ·unfold B3; grind
 ·rename_i hh
  rcases hcc with rfl | rfl
  ·unfold B3; grind
  ·cases hlt:B3 (q.getD (2 * i + 2) default) (q.getD (2 * i + 1) default) with
   | false=>rfl
   | true=>exact absurd ⟨hc,hlt⟩ hh
theorem Yt (n:Nat):∀ (f:Nat) (q:List Item) (i:Nat),n ≤ f + i → i < q.length → n ≤ q.length → DownInv q i n → Kd (Dn f q i n).1 n
 | 0,q,i,hf,hi,hn,hI=>fun c hc0 hc _=>hI.heap c hc0 hc (by omega)
 | f + 1,q,i,hf,hi,hn,hI=>by
  rw [Dn]
  split
  ·rename_i h
   have hcl:=Lq q i n h
   have hpar:(Dk q i n - 1) / 2 = i:=by unfold Dk; split <;> omega
   have hle:=fun c=>Aln q i n c h
   generalize Dk q i n = k at *
   split
   ·rename_i hlt
    refine Yt n f _ _ (by omega) (by rw [A7]; omega) (by rw [A7]; exact hn) ⟨fun c hc0 hcn hck=>?_,fun c hc0 hcn hcp hk0=>?_⟩
    ·rw [Ec _ _ _ _ hi (by omega),Ec _ _ _ _ hi (by omega),if_neg hck]
     by_cases hc1:c = k
     ·subst hc1
      rw [if_pos rfl,if_pos hpar]
      exact L8 hlt
     ·rw [if_neg hc1]
      by_cases hc2:c = i
      ·subst hc2
       rw [if_pos rfl,if_neg (by omega)]
       exact hI.over k (by omega) hcl.1 hpar hc0
      ·rw [if_neg hc2]
       by_cases hc3:(c - 1) / 2 = i
       ·rw [if_pos hc3]; exact hle c hc0 hcn hc3
       ·rw [if_neg hc3]; exact hI.heap c hc0 hcn hc3
    ·rw [Ec _ _ _ _ hi (by omega),Ec _ _ _ _ hi (by omega)]
     rw [if_neg (by omega),if_neg (by omega),hpar,if_neg (by omega),if_pos rfl]
     have:=hI.heap c hc0 hcn (by omega)
     rwa [hcp] at this
   ·rename_i hlt
    intro c hc0 hcn _
    by_cases hc3:(c - 1) / 2 = i
    ·rw [hc3]
     exact L7 (by simpa using hlt) (hle c hc0 hcn hc3)
    ·exact hI.heap c hc0 hcn hc3
  ·exact fun c hc0 hc _=>hI.heap c hc0 hc (by omega)
theorem Yr (n:Nat):∀ (f:Nat) (q:List Item) (i c:Nat),i < n → n ≤ q.length → n ≤ c → (Dn f q i n).1.getD c default = q.getD c default
 | 0,_,_,_,_,_,_=>rfl
 | f + 1,q,i,c,hi,hn,hc=>by
  rw [Dn]
  split
  ·rename_i h
   have hcl:=Lq q i n h
   split
   ·rw [Yr n f _ _ c (by omega) (by rw [A7]; exact hn) hc,Ec _ _ _ _ (by omega) (by omega),if_neg (by omega),if_neg (by omega)]
   ·rfl
  ·rfl
theorem Adw (q:List Item) (hq:q ≠ []):(Cy q).getLast (Do hq) = q.getD 0 default:=by
 have h0:0 < q.length:=List.length_pos_iff.2 hq
 rw [List.getLast_eq_getElem,← A8 (show (Cy q).length - 1 < (Cy q).length by rw [Dx]; omega),Dx]
 by_cases h1:q.length = 1
 ·have:Cy q = q:=by
   obtain ⟨x,rfl⟩:=List.length_eq_one_iff.1 h1
   rfl
  rw [this,h1]
 ·rw [Cy,Yr _ _ _ _ _ (by omega) (by rw [A7]; omega) (Nat.le_refl _),Ec _ _ _ _ h0 (by omega),if_pos rfl]
theorem Akm (q:List Item) (hq:q ≠ []):(Cy q).dropLast ++ [q.getD 0 default] = Cy q:=by
 rw [← Adw q hq]; exact List.dropLast_concat_getLast (Do hq)
theorem Am1 (q:List Item) (hq:q ≠ []):(q.getD 0 default :: (Cy q).dropLast).Perm q :=
 ((List.perm_append_comm (l₁:=[q.getD 0 default]) (l₂:=(Cy q).dropLast)).trans (by rw [Akm q hq])).trans (O7 q hq)
theorem Am2 (q:List Item) (hq:q ≠ []) (h:Kd q q.length):Kd (Cy q).dropLast (Cy q).dropLast.length:=by
 have h0:0 < q.length:=List.length_pos_iff.2 hq
 have hd:(Cy q).dropLast.length = q.length - 1:=by rw [List.length_dropLast,Dx]
 have hh:Kd (Cy q) (q.length - 1):=by
  rw [Cy]
  refine Yt (q.length - 1) _ _ _ (by omega) (by rw [A7]; exact h0) (by rw [A7]; omega) ⟨fun c hc0 hcn hp=>?_,fun c hc0 hcn hp h=>by omega⟩
  rw [Ec _ _ _ _ h0 (by omega),Ec _ _ _ _ h0 (by omega),if_neg (by omega),if_neg (by omega),if_neg (by omega),if_neg hp]
  exact h c hc0 (by omega) (by omega)
 intro c hc0 hcn _
 rw [hd] at hcn
 have hl:=Dx q
 have e:∀ k,k < q.length - 1 → (Cy q).dropLast.getD k default = (Cy q).getD k default:=fun k hk=>by
  rw [A8 (show k < (Cy q).dropLast.length by omega),A8 (show k < (Cy q).length by omega),List.getElem_dropLast]
 rw [e c hcn,e _ (by omega)]
 exact hh c hc0 hcn (by omega)
theorem Akn (q:List Item) (h:Kd q q.length):∀ x ∈ q,B3 x (q.getD 0 default) = false:=fun x hx=>by
 obtain ⟨c,hc,rfl⟩:=List.getElem_of_mem hx
 have:=Ahm h (Nat.le_refl _) c hc
 rwa [A8 hc] at this
def D2 (ranks:List Int) (j:Nat):List Item:=(List.range j).foldl (fun q (i:Nat)=>Qt q ⟨ranks.getD i 0,0,i⟩) []
theorem Iu (ranks:List Int) (j:Nat):D2 ranks (j + 1) = Qt (D2 ranks j) ⟨ranks.getD j 0,0,j⟩:=by
 rw [D2,List.range_succ,List.foldl_append]; rfl
theorem Ku (ranks:List Int):∀ j,(D2 ranks j).length = j
 | 0=>rfl
 | j + 1=>by rw [Iu,Jh,Ku ranks j]
def Tn (roots:List Int):Nat:=roots.countP (fun r=>decide (r < 0))
def reachM (s:List Item × List Int × List Int):Nat:=41 * Tn s.2.1 + s.1.length
structure ReachInv (n:Net) (s:List Item × List Int × List Int):Prop where
 rootsL:s.2.1.length = n.devices.length
 costsL:s.2.2.length = n.devices.length
 items:∀ x ∈ s.1,0 ≤ x.dev ∧ x.dev < n.devices.length ∧ 0 ≤ x.root ∧ 0 ≤ x.cost ∧ x.cost + 65535 * Tn s.2.1 ≤ 65535 * n.devices.length
 few:s.1.length + 40 * Tn s.2.1 ≤ 1000
theorem Ani (roots:List Int):Tn roots ≤ roots.length:=List.countP_le_length
theorem Akz {roots:List Int} {i:Nat} {v:Int} (h:i < roots.length) (h0:roots[i] < 0) (hv:0 ≤ v):Tn (roots.set i v) + 1 = Tn roots:=by
 have h1:0 < roots.countP (fun r=>decide (r < 0)):=List.countP_pos_iff.2 ⟨roots[i],List.getElem_mem h,by simpa using h0⟩
 have hv':¬ v < 0:=by omega
 rw [Tn,Tn,List.countP_set h]
 simp only [h0,hv',decide_true,decide_false,if_true,Bool.false_eq_true,if_false]
 omega
theorem Abh (n:Net) (up:List Bool) (x:Item) (hr:Ah n = true) (hcost:Ci n = true) {m:Nat} (hx:0 ≤ x.root ∧ 0 ≤ x.cost ∧ x.cost + 65535 * (m + 1) ≤ 65535 * n.devices.length) (q:List Item)
  (hq:∀ y ∈ q,0 ≤ y.dev ∧ y.dev < n.devices.length ∧ 0 ≤ y.root ∧ 0 ≤ y.cost ∧ y.cost + 65535 * m ≤ 65535 * n.devices.length) (i:Nat) (hi:i < n.ports.length) :
  (∀ y ∈ C5 n up x q i,0 ≤ y.dev ∧ y.dev < n.devices.length ∧ 0 ≤ y.root ∧ 0 ≤ y.cost ∧ y.cost + 65535 * m ≤ 65535 * n.devices.length) ∧ (C5 n up x q i).length ≤ q.length + 1:=by
 rw [C5]
 split
 ·rename_i h
  have hlt:=Sl hr hi h.2
  have hk:(B7 n up i).toNat < n.ports.length:=by omega
  have hd:=M3 hr hk
  have hpc:1 ≤ n.ports[(B7 n up i).toNat].cost ∧ n.ports[(B7 n up i).toNat].cost ≤ 65535:=by
   simp only [Ci,Bool.not_eq_true',List.any_eq_false] at hcost
   have:=hcost _ (List.getElem_mem hk)
   simp only [H6,Bool.or_eq_true,decide_eq_true_eq,not_or] at this
   omega
  have e:nth n.ports (B7 n up i) = n.ports[(B7 n up i).toNat]:=Ao (l:=n.ports) (i:=B7 n up i) (by omega)
  rw [e]
  refine ⟨fun y hy=>?_,by rw [Jh]; omega⟩
  rcases List.mem_cons.1 ((L2 q _).mem_iff.1 hy) with rfl | hy
  ·simp only
   omega
  ·exact hq y hy
 ·exact ⟨hq,by omega⟩
theorem Xo (n:Net) (up:List Bool) (x:Item) (hr:Ah n = true) (hcost:Ci n = true) {m:Nat} (hx:0 ≤ x.root ∧ 0 ≤ x.cost ∧ x.cost + 65535 * (m + 1) ≤ 65535 * n.devices.length) (q:List Item)
  (hq:∀ y ∈ q,0 ≤ y.dev ∧ y.dev < n.devices.length ∧ 0 ≤ y.root ∧ 0 ≤ y.cost ∧ y.cost + 65535 * m ≤ 65535 * n.devices.length):∀ i,i ≤ n.ports.length →
  (∀ y ∈ (List.range i).foldl (C5 n up x) q,0 ≤ y.dev ∧ y.dev < n.devices.length ∧ 0 ≤ y.root ∧ 0 ≤ y.cost ∧ y.cost + 65535 * m ≤ 65535 * n.devices.length) ∧ ((List.range i).foldl (C5 n up x) q).length ≤ q.length + i
 | 0,_=>⟨hq,by simp⟩
 | i + 1,hi=>by
  obtain ⟨h1,h2⟩:=Xo n up x hr hcost hx q hq i (by omega)
  rw [List.range_succ,List.foldl_append]
  obtain ⟨h3,h4⟩:=Abh n up x hr hcost hx _ h1 i (by omega)
  exact ⟨h3,by simp only [List.foldl_cons,List.foldl_nil]; omega⟩
theorem X2 {q:List Item} (hq:q ≠ []):(Cy q).getLast?.getD default = (Cy q).getLast (Do hq):=by
 rw [List.getLast?_eq_some_getLast (Do hq)]; rfl
theorem Jy (n:Net) (up:List Bool) (hr:Ah n = true) (hcost:Ci n = true) (s:List Item × List Int × List Int) (hI:ReachInv n s) (hne:s.1 ≠ []):ReachInv n (L1 n up s) ∧ reachM (L1 n up s) < reachM s:=by
 have hf:=Cr hr
 have hx:=hI.items _ ((O7 s.1 hne).mem_iff.1 (List.getLast_mem (Do hne)))
 have hd:∀ y ∈ (Cy s.1).dropLast,y ∈ s.1:=fun y hy=>(O7 s.1 hne).mem_iff.1 ((List.dropLast_sublist _).subset hy)
 have h0:0 < s.1.length:=List.length_pos_iff.2 hne
 have hdl:(Cy s.1).dropLast.length + 1 = s.1.length:=by rw [List.length_dropLast,Dx]; omega
 have hfew:=hI.few
 rw [L1,X2 hne]
 generalize (Cy s.1).getLast (Do hne) = x at *
 split
 ·exact ⟨⟨hI.rootsL,hI.costsL,fun y hy=>hI.items y (hd y hy),by simp only; omega⟩,by unfold reachM; simp only; omega⟩
 ·rename_i hneg
  have hk:x.dev.toNat < s.2.1.length:=by rw [hI.rootsL]; omega
  rw [Ao (l:=s.2.1) (i:=x.dev) (by rw [hI.rootsL]; omega)] at hneg
  have hm:=Akz hk (by omega) hx.2.2.1
  obtain ⟨h1,h2⟩:=Xo n up x hr hcost (m:=Tn (s.2.1.set x.dev.toNat x.root)) ⟨hx.2.2.1,hx.2.2.2.1,by have:=hx.2.2.2.2; omega⟩ (Cy s.1).dropLast (fun y hy=>by have:=hI.items y (hd y hy); omega) n.ports.length (Nat.le_refl _)
  exact ⟨⟨by simp only [List.length_set]; exact hI.rootsL,by simp only [List.length_set]; exact hI.costsL,h1,by simp only; omega⟩,by unfold reachM; simp only; omega⟩
theorem Vn (n:Net) (up:List Bool) (hr:Ah n = true) (hcost:Ci n = true):∀ (f g:Nat) (s:List Item × List Int × List Int),ReachInv n s → reachM s ≤ f → reachM s ≤ g → Ez n up f s = Ez n up g s
 | 0,0,_,_,_,_=>rfl
 | 0,g + 1,s,_,h,_=>by
  have:s.1 = []:=List.eq_nil_of_length_eq_zero (by unfold reachM at h; omega)
  rw [Ez,Ez,if_pos this]
 | f + 1,0,s,_,_,h=>by
  have:s.1 = []:=List.eq_nil_of_length_eq_zero (by unfold reachM at h; omega)
  rw [Ez,Ez,if_pos this]
 | f + 1,g + 1,s,hI,h1,h2=>by
  rw [Ez,Ez]
  split
  ·rfl
  ·rename_i hne
   obtain ⟨h3,h4⟩:=Jy n up hr hcost s hI hne
   exact Vn n up hr hcost f g _ h3 (by omega) (by omega)
def I8 (n:Net) (up:List Bool) (s:List Item × List Int × List Int):List Item × List Int × List Int:=Ez n up (reachM s) s
theorem Agm (n:Net) (up:List Bool) (s:List Item × List Int × List Int) (h:s.1 = []):I8 n up s = s:=by
 rw [I8]
 cases reachM s with
 | zero=>rfl
 | succ m=>rw [Ez,if_pos h]
theorem Adt (n:Net) (up:List Bool) (hr:Ah n = true) (hcost:Ci n = true) (s:List Item × List Int × List Int) (hI:ReachInv n s) (hne:s.1 ≠ []):I8 n up s = I8 n up (L1 n up s):=by
 obtain ⟨h3,h4⟩:=Jy n up hr hcost s hI hne
 rw [I8,I8]
 obtain ⟨m,hm⟩:∃ m,reachM s = m + 1:=⟨reachM s - 1,by omega⟩
 rw [hm,Ez,if_neg hne]
 exact Vn n up hr hcost _ _ _ h3 (by omega) (Nat.le_refl _)
theorem Vg (ranks:List Int) (m:Nat) (hrr:∀ r ∈ ranks,0 ≤ r):∀ j,j ≤ ranks.length → ∀ y ∈ D2 ranks j,0 ≤ y.dev ∧ y.dev < m + ranks.length ∧ 0 ≤ y.root ∧ y.cost = 0
 | 0,_,y,hy=>by simp [D2] at hy
 | j + 1,hj,y,hy=>by
  rw [Iu] at hy
  rcases List.mem_cons.1 ((L2 _ _).mem_iff.1 hy) with rfl | hy
  ·have h1:=hrr (ranks[j]'(by omega)) (List.getElem_mem _)
   have h2:(0:Int) ≤ (j:Int) ∧ (j:Int) < m + ranks.length:=by omega
   exact ⟨h2.1,h2.2,by rw [A8 (show j < ranks.length by omega)]; exact h1,E⟩
  ·exact Vg ranks m hrr j (by omega) y hy
theorem Zu (n:Net) (ranks roots costs:List Int) (hr:Ah n = true) (hrk:ranks.length = n.devices.length) (hro:roots.length = n.devices.length) (hc:costs.length = n.devices.length) (hrr:∀ r ∈ ranks,0 ≤ r):ReachInv n (D2 ranks ranks.length,roots,costs):=by
 have hf:=Cr hr
 have hm:=Ani roots
 refine ⟨hro,hc,fun y hy=>?_,by simp only [Ku]; omega⟩
 have:=Vg ranks 0 hrr _ (Nat.le_refl _) y hy
 simp only
 omega
def Le2 (r c r' c':Int):Prop:=r < r' ∨ (r = r' ∧ c ≤ c')
theorem Ak3 {x y:Item} (h:B3 y x = false):Le2 x.root x.cost y.root y.cost:=by
 simp only [B3,Bool.or_eq_false_iff,decide_eq_false_iff_not,Bool.and_eq_false_iff,beq_eq_false_iff_ne] at h
 unfold Le2
 omega
theorem U3 {a b c d e f:Int} (h1:Le2 a b c d) (h2:Le2 c d e f):Le2 a b e f:=by
 unfold Le2 at *
 omega
theorem Aeg {a b c d m:Int} (h1:Le2 a b c d) (hm:0 ≤ m):Le2 a b c (d + m):=by
 unfold Le2 at *
 omega
def Hop (n:Net) (up:List Bool) (i j:Nat):Prop:=i < n.ports.length ∧ B7 n up i = j
theorem E1 {n:Net} {up:List Bool} (hr:Ah n = true) {i j:Nat} (h:Hop n up i j):j < n.ports.length:=by
 have:=Sl (up:=up) hr h.1 (by rw [h.2]; omega)
 rw [h.2] at this
 omega
theorem U7 {n:Net} {up:List Bool} (hr:Ah n = true) {i j:Nat} (h:Hop n up i j) :
  ∃ k:Nat,k < n.links.length ∧ (nth n.ports i).link = k ∧ (nth n.ports j).link = k ∧ up.getD k false = true ∧ (((nth n.links k).a = i ∧ (nth n.links k).b = j) ∨ ((nth n.links k).a = j ∧ (nth n.links k).b = i)) ∧ Bj n i ≠ Bj n j:=by
 have hj:=E1 hr h
 obtain ⟨hi,hf⟩:=h
 have hp:=Jv hr hi
 have hpl:=Es hr hi
 simp only [Em,Bool.and_eq_true,Bool.or_eq_true,beq_iff_eq] at hp
 have hp:=hp.2
 have e:nth n.ports i = n.ports[i]:=Ao (l:=n.ports) (i:=(i:Int)) (by simpa using hi)
 unfold B7 at hf
 rw [A8 hi] at hf
 simp only at hf
 split at hf
 ·omega
 ·rename_i hc
  simp only [Bool.or_eq_true,decide_eq_true_eq,not_or,Bool.not_eq_true',Bool.not_eq_false] at hc
  rcases hp with hp | hp
  ·omega
  ·have hl:n.ports[i].link.toNat < n.links.length:=by omega
   have hlk:=Sa hr hl
   have he:=Id hr hl
   have ek:((n.ports[i].link.toNat:Nat):Int) = n.ports[i].link:=by omega
   refine ⟨n.ports[i].link.toNat,hl,by rw [e]; omega,?_⟩
   simp only [J6,Bool.and_eq_true,beq_iff_eq,bne_iff_ne] at hlk
   obtain ⟨⟨⟨_,hne⟩,h1⟩,h2⟩:=hlk
   rw [ek]
   rw [Ao (l:=n.links) (i:=n.ports[i].link) (by omega)] at hf hp ⊢
   generalize n.links[n.ports[i].link.toNat] = l at *
   rcases hp.2 with ha | hb
   ·have hb:l.b = j:=by omega
    rw [ha,hb] at hne
    rw [hb] at h2
    exact ⟨by omega,by simpa using hc.2,.inl ⟨ha,hb⟩,hne⟩
   ·have ha:l.a = j:=by omega
    rw [ha,hb] at hne
    rw [ha] at h1
    exact ⟨by omega,by simpa using hc.2,.inr ⟨ha,hb⟩,fun h=>hne h.symm⟩
theorem Ye {n:Net} {up:List Bool} (hr:Ah n = true) {i j:Nat} (h:Hop n up i j):Hop n up j i:=by
 have hj:=E1 hr h
 obtain ⟨k,hk,_,h2,h3,h4,_⟩:=U7 hr h
 refine ⟨hj,?_⟩
 unfold B7
 have e:n.ports.getD j default = nth n.ports j:=rfl
 rw [e]
 simp only [h2,Int.toNat_natCast,h3]
 rw [if_neg (by simp)]
 omega
theorem Cq {n:Net} (hr:Ah n = true) {i:Nat} (hi:i < n.ports.length):0 ≤ Bj n i ∧ Bj n i < n.devices.length:=by
 rw [Bj,Ao (l:=n.ports) (i:=(i:Int)) (by simpa using hi)]
 exact M3 hr hi
def Der (n:Net) (up:List Bool) (K R C:Int → Int) (r c d:Int):Prop :=
 (r = K d ∧ c = 0) ∨ ∃ i j:Nat,Hop n up i j ∧ Bj n i = d ∧ 0 ≤ R (Bj n j) ∧ r = R (Bj n j) ∧ c = C (Bj n j) + Hm n i
structure Dij (n:Net) (up:List Bool) (K:Int → Int) (q:List Item) (R C:Int → Int):Prop where
 heap:Kd q q.length
 items:∀ x ∈ q,Der n up K R C x.root x.cost x.dev
 done:∀ d:Int,0 ≤ d → d < n.devices.length → 0 ≤ R d → Der n up K R C (R d) (C d) d
 own:∀ d:Int,0 ≤ d → d < n.devices.length → R d < 0 → ⟨K d,0,d⟩ ∈ q
 push:∀ i j:Nat,Hop n up i j → R (Bj n i) < 0 → 0 ≤ R (Bj n j) → ⟨R (Bj n j),C (Bj n j) + Hm n i,Bj n i⟩ ∈ q
 low:∀ d:Int,0 ≤ d → d < n.devices.length → 0 ≤ R d → ∀ x ∈ q,Le2 (R d) (C d) x.root x.cost
 self:∀ d:Int,0 ≤ d → d < n.devices.length → 0 ≤ R d → Le2 (R d) (C d) (K d) 0
 tri:∀ i j:Nat,Hop n up i j → 0 ≤ R (Bj n i) → 0 ≤ R (Bj n j) → Le2 (R (Bj n i)) (C (Bj n i)) (R (Bj n j)) (C (Bj n j) + Hm n i)
theorem Xm (n:Net) (up:List Bool) (x:Item) (q:List Item) (y:Item):∀ m,y ∈ (List.range m).foldl (C5 n up x) q ↔ y ∈ q ∨ ∃ i,i < m ∧ Bj n i = x.dev ∧ 0 ≤ B7 n up i ∧ y = ⟨x.root,x.cost + (nth n.ports (B7 n up i)).cost,(nth n.ports (B7 n up i)).dev⟩
 | 0=>by simp
 | m + 1=>by
  rw [List.range_succ,List.foldl_append]
  simp only [List.foldl_cons,List.foldl_nil]
  rw [C5]
  have ih:=Xm n up x q y m
  have e:(n.ports.getD m default).dev = Bj n m:=rfl
  rw [e]
  split
  ·rename_i h
   rw [(L2 _ _).mem_iff,List.mem_cons,ih]
   constructor
   ·rintro (h1 | h1 | ⟨i,h1,h2⟩)
    ·exact .inr ⟨m,by omega,h.1,h.2,h1⟩
    ·exact .inl h1
    ·exact .inr ⟨i,by omega,h2⟩
   ·rintro (h1 | ⟨i,h1,h2,h3,h4⟩)
    ·exact .inr (.inl h1)
    ·by_cases hm:i = m
     ·subst hm; exact .inl h4
     ·exact .inr (.inr ⟨i,by omega,h2,h3,h4⟩)
  ·rename_i h
   rw [ih]
   constructor
   ·rintro (h1 | ⟨i,h1,h2⟩)
    ·exact .inl h1
    ·exact .inr ⟨i,by omega,h2⟩
   ·rintro (h1 | ⟨i,h1,h2,h3,h4⟩)
    ·exact .inl h1
    ·by_cases hm:i = m
     ·subst hm; exact absurd ⟨h2,h3⟩ h
     ·exact .inr ⟨i,by omega,h2,h3,h4⟩
theorem Vm (n:Net) (up:List Bool) (x:Item) (q:List Item) (h:Kd q q.length):∀ m,Kd ((List.range m).foldl (C5 n up x) q) ((List.range m).foldl (C5 n up x) q).length
 | 0=>h
 | m + 1=>by
  rw [List.range_succ,List.foldl_append]
  simp only [List.foldl_cons,List.foldl_nil]
  have ih:=Vm n up x q h m
  rw [C5]
  split
  ·exact Xs _ _ ih
  ·exact ih
theorem Yv {n:Net} {up:List Bool} {K R C R' C':Int → Int} {r c d:Int} (h:Der n up K R C r c d) (hs:∀ e,0 ≤ R e → R' e = R e ∧ C' e = C e):Der n up K R' C' r c d:=by
 rcases h with h | ⟨i,j,h1,h2,h3,h4,h5⟩
 ·exact .inl h
 ·obtain ⟨e1,e2⟩:=hs _ h3
  exact .inr ⟨i,j,h1,h2,by rw [e1]; exact h3,by rw [e1]; exact h4,by rw [e2]; exact h5⟩
theorem Aok {n:Net} {up:List Bool} {K R C:Int → Int} {q q':List Item} {x:Item} (h:Dij n up K q R C) (hp:(x :: q').Perm q) (hh:Kd q' q'.length) (hx:0 ≤ R x.dev):Dij n up K q' R C:=by
 have hm:∀ y,y ∈ q ↔ y = x ∨ y ∈ q':=fun y=>by rw [← hp.mem_iff,List.mem_cons]
 refine ⟨hh,fun y hy=>h.items y ((hm y).2 (.inr hy)),h.done,fun d h0 h1 h2=>?_,fun i j hij h1 h2=>?_,fun d h0 h1 h2 y hy=>h.low d h0 h1 h2 y ((hm y).2 (.inr hy)),h.self,h.tri⟩
 ·rcases (hm _).1 (h.own d h0 h1 h2) with e | e
  ·rw [← e] at hx; simp only at hx; omega
  ·exact e
 ·rcases (hm _).1 (h.push i j hij h1 h2) with e | e
  ·rw [← e] at hx; simp only at hx; omega
  ·exact e
theorem Aoj {n:Net} {up:List Bool} {K R C R' C':Int → Int} {q q':List Item} {x:Item} (hr:Ah n = true) (hcost:Ci n = true) (h:Dij n up K q R C) (hp:(x :: q').Perm q) (hh:Kd q' q'.length)
  (hmin:∀ y ∈ q,B3 y x = false) (hx:R x.dev < 0) (hx0:0 ≤ x.root) (_hxd:0 ≤ x.dev ∧ x.dev < n.devices.length)
  (hR:∀ e,R' e = if e = x.dev then x.root else R e) (hC:∀ e,C' e = if e = x.dev then x.cost else C e) :
  Dij n up K ((List.range n.ports.length).foldl (C5 n up x) q') R' C':=by
 have hm:∀ y,y ∈ q ↔ y = x ∨ y ∈ q':=fun y=>by rw [← hp.mem_iff,List.mem_cons]
 have hn:=fun y=>Xm n up x q' y n.ports.length
 have hs:∀ e,0 ≤ R e → R' e = R e ∧ C' e = C e:=fun e he=>by
  have:e ≠ x.dev:=fun h=>by rw [h] at he; omega
  rw [hR,hC,if_neg this,if_neg this]
  exact ⟨E,E⟩
 have hRd:R' x.dev = x.root:=by rw [hR,if_pos rfl]
 have hCd:C' x.dev = x.cost:=by rw [hC,if_pos rfl]
 have hxq:x ∈ q:=(hm x).2 (.inl rfl)
 have hle:∀ y ∈ q,Le2 x.root x.cost y.root y.cost:=fun y hy=>Ak3 (hmin y hy)
 have hnew:∀ y,y ∈ (List.range n.ports.length).foldl (C5 n up x) q' ↔ y ∈ q' ∨ ∃ i j:Nat,Hop n up i j ∧ Bj n i = x.dev ∧ y = ⟨x.root,x.cost + Hm n j,Bj n j⟩:=fun y=>by
  rw [hn y]
  constructor
  ·rintro (h1 | ⟨i,h1,h2,h3,h4⟩)
   ·exact .inl h1
   ·obtain ⟨j,hj⟩:∃ j:Nat,B7 n up i = j:=⟨(B7 n up i).toNat,by omega⟩
    rw [hj] at h4
    exact .inr ⟨i,j,⟨h1,hj⟩,h2,h4⟩
  ·rintro (h1 | ⟨i,j,h1,h2,h3⟩)
   ·exact .inl h1
   ·refine .inr ⟨i,h1.1,h2,by rw [h1.2]; omega,?_⟩
    rw [h1.2]
    exact h3
 refine ⟨Vm n up x q' hh _,fun y hy=>?_,fun d h0 h1 h2=>?_,fun d h0 h1 h2=>?_,fun i j hij h1 h2=>?_,fun d h0 h1 h2 y hy=>?_,fun d h0 h1 h2=>?_,fun i j hij h1 h2=>?_⟩
 ·rcases (hnew y).1 hy with hy | ⟨i,j,h1,h2,rfl⟩
  ·exact Yv (h.items y ((hm y).2 (.inr hy))) hs
  ·exact .inr ⟨j,i,Ye hr h1,E,by rw [h2,hRd]; exact hx0,by rw [h2,hRd],by rw [h2,hCd]⟩
 ·by_cases hd:d = x.dev
  ·subst hd
   rw [hRd,hCd]
   exact Yv (h.items x hxq) hs
  ·rw [hR,if_neg hd] at h2
   obtain ⟨e1,e2⟩:=hs d h2
   rw [e1,e2]
   exact Yv (h.done d h0 h1 h2) hs
 ·have hd:d ≠ x.dev:=fun e=>by rw [e,hRd] at h2; omega
  rw [hR,if_neg hd] at h2
  refine (hnew _).2 (.inl ?_)
  rcases (hm _).1 (h.own d h0 h1 h2) with e | e
  ·exact absurd (congrArg Item.dev e) hd
  ·exact e
 ·have hd:Bj n i ≠ x.dev:=fun e=>by rw [e,hRd] at h1; omega
  rw [hR,if_neg hd] at h1
  by_cases hj:Bj n j = x.dev
  ·rw [hj,hRd,hCd]
   exact (hnew _).2 (.inr ⟨j,i,Ye hr hij,hj,E⟩)
  ·rw [hR,if_neg hj] at h2
   obtain ⟨e1,e2⟩:=hs _ h2
   rw [e1,e2]
   refine (hnew _).2 (.inl ?_)
   rcases (hm _).1 (h.push i j hij h1 h2) with e | e
   ·exact absurd (congrArg Item.dev e) hd
   ·exact e
 ·have hdx:Le2 (R' d) (C' d) x.root x.cost:=by
   by_cases hd:d = x.dev
   ·subst hd; rw [hRd,hCd]; exact .inr ⟨rfl,Int.le_refl _⟩
   ·rw [hR,if_neg hd] at h2
    obtain ⟨e1,e2⟩:=hs d h2
    rw [e1,e2]
    exact h.low d h0 h1 h2 x hxq
  rcases (hnew y).1 hy with hy | ⟨i,j,h3,_,rfl⟩
  ·exact U3 hdx (hle y ((hm y).2 (.inr hy)))
  ·exact Aeg hdx (by have:=J1 hcost (E1 hr h3); omega)
 ·by_cases hd:d = x.dev
  ·subst hd
   rw [hRd,hCd]
   exact hle _ (h.own _ h0 h1 hx)
  ·rw [hR,if_neg hd] at h2
   obtain ⟨e1,e2⟩:=hs d h2
   rw [e1,e2]
   exact h.self d h0 h1 h2
 ·have hj:=E1 hr hij
  have hpc:=J1 hcost hij.1
  have hne:=(U7 hr hij).choose_spec.2.2.2.2.2
  by_cases hd:Bj n i = x.dev
  ·rw [hd,hRd,hCd]
   have hjd:Bj n j ≠ x.dev:=fun e=>hne (by rw [hd,e])
   rw [hR,if_neg hjd] at h2
   obtain ⟨e1,e2⟩:=hs _ h2
   rw [e1,e2]
   exact hle _ (h.push i j hij (by rw [hd]; exact hx) h2)
  ·rw [hR,if_neg hd] at h1
   obtain ⟨e1,e2⟩:=hs _ h1
   rw [e1,e2]
   by_cases hjd:Bj n j = x.dev
   ·rw [hjd,hRd,hCd]
    have hdl:=Cq hr hij.1
    exact Aeg (h.low _ hdl.1 hdl.2 h1 x hxq) (by omega)
   ·rw [hR,if_neg hjd] at h2
    obtain ⟨e3,e4⟩:=hs _ h2
    rw [e3,e4]
    exact h.tri i j hij h1 h2
def atI (l:List Int) (e:Int):Int:=if e < 0 then -1 else nth l e
theorem Kc {l:List Int} {e:Int} (h:0 ≤ e):atI l e = nth l e:=by rw [atI,if_neg (by omega)]
theorem Ajc {l:List Int} {d v:Int} (h0:0 ≤ d) (h1:d < l.length) (e:Int):atI (l.set d.toNat v) e = if e = d then v else atI l e:=by
 by_cases he:e < 0
 ·rw [atI,if_pos he,if_neg (by omega),atI,if_pos he]
 ·rw [atI,if_neg he,atI,if_neg he,nth,nth,List.getElem?_set]
  by_cases hd:e = d
  ·subst hd
   rw [if_pos rfl,if_pos rfl,if_pos (by omega)]
   rfl
  ·rw [if_neg (by omega),if_neg hd]
structure DijS (n:Net) (up:List Bool) (ranks:List Int) (s:List Item × List Int × List Int):Prop where
 inv:ReachInv n s
 dij:Dij n up (atI ranks) s.1 (atI s.2.1) (atI s.2.2)
 bound:∀ c ∈ s.2.2,0 ≤ c ∧ c ≤ 1000000
theorem Agn (n:Net) (up:List Bool) (ranks:List Int) (hr:Ah n = true) (hcost:Ci n = true) (s:List Item × List Int × List Int) (hI:DijS n up ranks s) (hne:s.1 ≠ []):DijS n up ranks (L1 n up s):=by
 have hf:=Cr hr
 have h1:=(Jy n up hr hcost s hI.inv hne).1
 have hrest:=Am1 s.1 hne
 have hheap:=Am2 s.1 hne hI.dij.heap
 have hleast:=Akn s.1 hI.dij.heap
 have hx:=hI.inv.items _ (hrest.mem_iff.1 (List.mem_cons_self ..))
 have hrl:=hI.inv.rootsL
 have hcl:=hI.inv.costsL
 have hd:=hI.dij
 have hb:=hI.bound
 rw [L1,X2 hne,Adw s.1 hne] at *
 generalize s.1.getD 0 default = x at *
 try simp only at *
 have ea:nth s.2.1 x.dev = atI s.2.1 x.dev:=(Kc hx.1).symm
 rw [ea]; rw [ea] at h1
 split
 ·rename_i hc
  rw [if_pos hc] at h1
  exact ⟨h1,Aok hd hrest hheap hc,hb⟩
 ·rename_i hc
  rw [if_neg hc] at h1
  refine ⟨h1,Aoj hr hcost hd hrest hheap hleast (by omega) hx.2.2.1 ⟨hx.1,hx.2.1⟩ (Ajc hx.1 (by omega)) (Ajc hx.1 (by omega)),fun c hc=>?_⟩
  rcases List.mem_or_eq_of_mem_set hc with h | h
  ·exact hb c h
  ·omega
theorem Xp (n:Net) (up:List Bool) (ranks:List Int) (hr:Ah n = true) (hcost:Ci n = true):∀ (f:Nat) (s:List Item × List Int × List Int),DijS n up ranks s → reachM s ≤ f → DijS n up ranks (Ez n up f s) ∧ (Ez n up f s).1 = []
 | 0,s,h,hf=>⟨h,List.eq_nil_of_length_eq_zero (by unfold reachM at hf; rw [Ez]; omega)⟩
 | f + 1,s,h,hf=>by
  rw [Ez]
  split
  ·rename_i he; exact ⟨h,he⟩
  ·rename_i hne
   exact Xp n up ranks hr hcost f _ (Agn n up ranks hr hcost s h hne) (by have:=(Jy n up hr hcost s h.inv hne).2; omega)
structure Solved (n:Net) (up:List Bool) (ranks roots costs:List Int):Prop where
 rootsL:roots.length = n.devices.length
 costsL:costs.length = n.devices.length
 bound:∀ c ∈ costs,0 ≤ c ∧ c ≤ 1000000
 root:∀ d:Int,0 ≤ d → d < n.devices.length → 0 ≤ nth roots d
 self:∀ d:Int,0 ≤ d → d < n.devices.length → Le2 (nth roots d) (nth costs d) (nth ranks d) 0
 tri:∀ i j:Nat,Hop n up i j → Le2 (nth roots (Bj n i)) (nth costs (Bj n i)) (nth roots (Bj n j)) (nth costs (Bj n j) + Hm n i)
 der:∀ d:Int,0 ≤ d → d < n.devices.length → (nth roots d = nth ranks d ∧ nth costs d = 0) ∨ ∃ i j:Nat,Hop n up i j ∧ Bj n i = d ∧ nth roots d = nth roots (Bj n j) ∧ nth costs d = nth costs (Bj n j) + Hm n i
theorem Ajr (n:Net) (up:List Bool) (ranks:List Int) (hr:Ah n = true) (s:List Item × List Int × List Int) (h:DijS n up ranks s) (he:s.1 = []):Solved n up ranks s.2.1 s.2.2:=by
 have hd:=h.dij
 rw [he] at hd
 have h0:∀ d:Int,0 ≤ d → d < n.devices.length → 0 ≤ atI s.2.1 d:=fun d h1 h2=>by
  by_cases hc:0 ≤ atI s.2.1 d
  ·exact hc
  ·have:=hd.own d h1 h2 (by omega)
   simp at this
 refine ⟨h.inv.rootsL,h.inv.costsL,h.bound,fun d h1 h2=>?_,fun d h1 h2=>?_,fun i j hij=>?_,fun d h1 h2=>?_⟩
 ·have:=h0 d h1 h2
  rwa [Kc h1] at this
 ·have:=hd.self d h1 h2 (h0 d h1 h2)
  simpa only [Kc h1] using this
 ·have hi:=Cq hr hij.1
  have hj:=Cq hr (E1 hr hij)
  have:=hd.tri i j hij (h0 _ hi.1 hi.2) (h0 _ hj.1 hj.2)
  simpa only [Kc hi.1,Kc hj.1] using this
 ·rcases hd.done d h1 h2 (h0 d h1 h2) with h3 | ⟨i,j,h3,h4,_,h5,h6⟩
  ·simp only [Kc h1] at h3
   exact .inl h3
  ·have hj:=Cq hr (E1 hr h3)
   simp only [Kc h1,Kc hj.1] at h5 h6
   exact .inr ⟨i,j,h3,h4,h5,h6⟩
theorem Us (ranks:List Int) (y:Item):∀ j,y ∈ D2 ranks j ↔ ∃ i,i < j ∧ y = ⟨ranks.getD i 0,0,i⟩
 | 0=>by simp [D2]
 | j + 1=>by
  rw [Iu,(L2 _ _).mem_iff,List.mem_cons,Us ranks y j]
  constructor
  ·rintro (h | ⟨i,h1,h2⟩)
   ·exact ⟨j,by omega,h⟩
   ·exact ⟨i,by omega,h2⟩
  ·rintro ⟨i,h1,h2⟩
   by_cases h:i = j
   ·subst h; exact .inl h2
   ·exact .inr ⟨i,by omega,h2⟩
theorem W2 (ranks:List Int):∀ j,Kd (D2 ranks j) (D2 ranks j).length
 | 0=>fun c _ h2 _=>by simp [D2] at h2
 | j + 1=>by
  rw [Iu]
  exact Xs _ _ (W2 ranks j)
theorem Y9 {v:Int} {m:Nat} {d:Int} (h1:d < m) (h0:0 ≤ d):nth (List.replicate m v) d = v:=by
 rw [Ao (by simp; omega)]; simp
theorem Ajp (n:Net) (up:List Bool) (ranks:List Int) (hr:Ah n = true) (hrk:ranks.length = n.devices.length) (hrr:∀ r ∈ ranks,0 ≤ r) :
  DijS n up ranks (D2 ranks ranks.length,List.replicate n.devices.length (-1),List.replicate n.devices.length 0):=by
 have hneg:∀ d:Int,0 ≤ d → d < n.devices.length → atI (List.replicate n.devices.length (-1)) d = -1:=fun d h0 h1=>by rw [Kc h0,Y9 h1 h0]
 refine ⟨Zu n ranks _ _ hr hrk (by simp) (by simp) hrr,⟨W2 ranks _,fun x hx=>?_,fun d h0 h1 h2=>?_,fun d h0 h1 h2=>?_,fun i j hij h1 h2=>?_,fun d h0 h1 h2=>?_,fun d h0 h1 h2=>?_,fun i j hij h1 h2=>?_⟩,fun c hc=>?_⟩
 ·obtain ⟨i,h1,rfl⟩:=(Us ranks x _).1 hx
  refine .inl ⟨?_,E⟩
  simp only
  rw [Kc (by omega),Ao (by simpa using h1),A8 h1]
  rfl
 ·rw [hneg d h0 h1] at h2; omega
 ·refine (Us ranks _ _).2 ⟨d.toNat,by omega,?_⟩
  rw [Kc h0,Ao (by omega),A8 (by omega),Int.toNat_of_nonneg h0]
 ·have hj:=Cq hr (E1 hr hij)
  rw [hneg _ hj.1 hj.2] at h2; omega
 ·rw [hneg d h0 h1] at h2; omega
 ·rw [hneg d h0 h1] at h2; omega
 ·have hj:=Cq hr (E1 hr hij)
  rw [hneg _ hj.1 hj.2] at h2; omega
 ·have:=List.eq_of_mem_replicate hc
  omega
def M2 (n:Net) (up:List Bool) (ranks:List Int):List Item × List Int × List Int:=I8 n up (D2 ranks ranks.length,List.replicate n.devices.length (-1),List.replicate n.devices.length 0)
theorem Y5 (n:Net) (up:List Bool) (ranks:List Int) (hr:Ah n = true) (hcost:Ci n = true) (hrk:ranks.length = n.devices.length) (hrr:∀ r ∈ ranks,0 ≤ r):Solved n up ranks (M2 n up ranks).2.1 (M2 n up ranks).2.2:=by
 obtain ⟨h1,h2⟩:=Xp n up ranks hr hcost _ _ (Ajp n up ranks hr hrk hrr) (Nat.le_refl _)
 exact Ajr n up ranks hr _ h1 h2
end Go.Sy.YtmelpejjondedaaGreat
namespace Go.Sy.YtmelpejjondedaaGreat
section
variable {n:Net} {up:List Bool} {ranks roots costs:List Int}
theorem Kf (S:Solved n up ranks roots costs) (hr:Ah n = true) {i j:Nat} (h:Hop n up i j):nth roots (Bj n i) = nth roots (Bj n j):=by
 have h1:=S.tri i j h
 have h2:=S.tri j i (Ye hr h)
 unfold Le2 at h1 h2
 omega
theorem W3 (S:Solved n up ranks roots costs) (hr:Ah n = true) {i j:Nat} (h:Hop n up i j):nth costs (Bj n i) ≤ nth costs (Bj n j) + Hm n i:=by
 have h1:=S.tri i j h
 have h2:=Kf S hr h
 unfold Le2 at h1
 omega
theorem Mv (S:Solved n up ranks roots costs) {d:Int} (h0:0 ≤ d) (h1:d < n.devices.length):0 ≤ nth costs d ∧ nth costs d ≤ 1000000:=by
 have hl:=S.costsL
 rw [Ao (by omega)]
 exact S.bound _ (List.getElem_mem _)
theorem Ac2 (S:Solved n up ranks roots costs) {d:Int} (h0:0 ≤ d) (h1:d < n.devices.length) (h:nth roots d = nth ranks d):nth costs d = 0:=by
 have h2:=S.self d h0 h1
 have h3:=Mv S h0 h1
 unfold Le2 at h2
 omega
theorem Afr (S:Solved n up ranks roots costs) {d:Int} (h0:0 ≤ d) (h1:d < n.devices.length) (h:nth roots d ≠ nth ranks d):∃ i j:Nat,Hop n up i j ∧ Bj n i = d ∧ nth roots d = nth roots (Bj n j) ∧ nth costs d = nth costs (Bj n j) + Hm n i:=by
 rcases S.der d h0 h1 with h2 | h2
 ·exact absurd h2.1 h
 ·exact h2
theorem best_mem {dev:Int} {v:Vec}:v ∈ Hp n up ranks roots costs dev n.ports.length ↔ ∃ i j:Nat,Hop n up i j ∧ Bj n i = dev ∧ v = ⟨nth roots (Bj n j),nth costs (Bj n j) + Hm n i,nth ranks (Bj n j),j,i⟩:=by
 rw [Hp,List.mem_filterMap]
 constructor
 ·rintro ⟨i,hi,he⟩
  have hi:=List.mem_range.1 hi
  unfold Ug at he
  simp only at he
  split at he
  ·rename_i hc
   simp only [Bool.and_eq_true,beq_iff_eq,decide_eq_true_eq] at hc
   obtain ⟨j,hj⟩:∃ j:Nat,B7 n up i = j:=⟨(B7 n up i).toNat,by omega⟩
   rw [hj] at he
   exact ⟨i,j,⟨hi,hj⟩,hc.1,(Option.some.inj he).symm⟩
  ·cases he
 ·rintro ⟨i,j,⟨hi,hj⟩,hd,rfl⟩
  refine ⟨i,List.mem_range.2 hi,?_⟩
  unfold Ug
  have e:(n.ports.getD i default).dev = dev:=hd
  simp only [hj,e]
  rw [if_pos (by simp)]
  rfl
theorem Alq {d:Int} (h:nth roots d = nth ranks d):Ex n up ranks roots costs d = -1:=by
 simp only [Ex,h,beq_self_eq_true,Bool.or_true,if_true]
theorem Yy {d:Int} {i:Nat} (h:Ex n up ranks roots costs d = i):∃ j:Nat,Hop n up i j ∧ Bj n i = d ∧ nth roots d ≠ nth ranks d ∧ (Hi (Hp n up ranks roots costs d n.ports.length)).1 = ⟨nth roots (Bj n j),nth costs (Bj n j) + Hm n i,nth ranks (Bj n j),j,i⟩:=by
 have hmem:=@Ahe (Hp n up ranks roots costs d n.ports.length)
 unfold Ex at h
 simp only at h
 split at h
 ·omega
 ·rename_i hc
  simp only [Bool.or_eq_true,Bool.not_eq_true',not_or,Bool.not_eq_false,beq_iff_eq] at hc
  obtain ⟨i',j,h1,h2,h3⟩:=best_mem.1 (hmem hc.1)
  rw [h3] at h
  have:i' = i:=by simp only at h; omega
  subst this
  exact ⟨j,h1,h2,hc.2,h3⟩
theorem Alp (S:Solved n up ranks roots costs) (hr:Ah n = true) {d:Int} (h0:0 ≤ d) (h1:d < n.devices.length) (h:nth roots d ≠ nth ranks d):∃ i j:Nat,Hop n up i j ∧ Bj n i = d ∧ Ex n up ranks roots costs d = i ∧ nth costs d = nth costs (Bj n j) + Hm n i:=by
 obtain ⟨p,q,g1,g2,g3,g4⟩:=Afr S h0 h1 h
 have hm:=(best_mem (ranks:=ranks) (roots:=roots) (costs:=costs)).2 ⟨p,q,g1,g2,rfl⟩
 have h2:(Hi (Hp n up ranks roots costs d n.ports.length)).2 = true:=by
  cases hb:(Hi (Hp n up ranks roots costs d n.ports.length)).2
  ·rw [(Aef hb).1] at hm; simp at hm
  ·rfl
 obtain ⟨i,j,e1,e2,e3⟩:=best_mem.1 (Ahe h2)
 have hle:=Aaa _ _ hm
 rw [e3] at hle
 refine ⟨i,j,e1,e2,?_,?_⟩
 ·unfold Ex
  simp only [h2,Bool.not_true,Bool.false_or,beq_iff_eq]
  rw [if_neg h,e3]
 ·have r1:=Kf S hr e1
  have v1:=W3 S hr e1
  rw [e2] at r1 v1
  simp only [Ce] at hle
  grind
theorem Afw (n:Net) (up:List Bool) (ranks costs:List Int) {p:Nat} (hp:p < n.ports.length):nth (Hh n up ranks costs n.ports.length) p = Mx n up ranks costs p:=by
 rw [Ao (by rw [Kw]; simpa using hp)]
 simp [Hh,hp]
theorem S8 (n:Net) (up:List Bool) (ranks roots costs:List Int) {p:Nat} (hp:p < n.ports.length):∀ e:Nat,(∀ d:Nat,d < e → Ex n up ranks roots costs d ≠ p) → nth (Hu n up ranks roots costs e) p = Mx n up ranks costs p
 | 0,_=>Afw n up ranks costs hp
 | e + 1,h=>by
  have ih:=S8 n up ranks roots costs hp e (fun d hd=>h d (by omega))
  have hne:=h e (by omega)
  rw [Hu]
  split
  ·rw [nth,List.getElem?_set_ne (by omega)]
   exact ih
  ·exact ih
theorem Vj (n:Net) (up:List Bool) (ranks roots costs:List Int) {p:Nat} (hp:p < n.ports.length):∀ (e d:Nat),d < e → Ex n up ranks roots costs d = p → nth (Hu n up ranks roots costs e) p = 1
 | 0,_,h,_=>absurd h (by omega)
 | e + 1,d,h,hb=>by
  have hl:=E5 n up ranks roots costs e
  rw [Hu]
  by_cases hbe:Ex n up ranks roots costs e = p
  ·rw [hbe,if_pos (by omega),nth,Int.toNat_natCast,List.getElem?_set_self (by omega)]
   rfl
  ·have hde:d ≠ e:=fun h=>hbe (by rw [← h]; exact hb)
   have ih:=Vj n up ranks roots costs hp e d (by omega) hb
   split
   ·rw [nth,List.getElem?_set_ne (by omega)]
    exact ih
   ·exact ih
def Ams (n:Net) (up:List Bool) (ranks roots costs:List Int):List Int:=Hu n up ranks roots costs n.devices.length
theorem Zz (hr:Ah n = true) {p:Nat} (hp:p < n.ports.length):nth (Ams n up ranks roots costs) p = if Ex n up ranks roots costs (Bj n p) = p then 1 else Mx n up ranks costs p:=by
 have hd:=Cq hr hp
 split
 ·rename_i h
  refine Vj n up ranks roots costs hp _ (Bj n p).toNat (by omega) ?_
  rw [Int.toNat_of_nonneg hd.1]
  exact h
 ·rename_i h
  refine S8 n up ranks roots costs hp _ (fun d _ hb=>h ?_)
  obtain ⟨_,_,h2,_⟩:=Yy hb
  rw [h2]
  exact hb
theorem Afx {p:Nat} (h:B7 n up p < 0):Mx n up ranks costs p = 0:=by rw [Mx,if_pos h]
theorem Aj5 {p q:Nat} (h:Hop n up p q):Mx n up ranks costs p = if nth costs (Bj n p) < nth costs (Bj n q) ∨ (nth costs (Bj n p) = nth costs (Bj n q) ∧ nth ranks (Bj n p) < nth ranks (Bj n q)) then 2 else 3:=by
 rw [Mx,h.2,if_neg (by omega),Int.toNat_natCast,Jn]
 have e1:(n.ports.getD p default).dev = Bj n p:=rfl
 have e2:(n.ports.getD q default).dev = Bj n q:=rfl
 simp only [e1,e2,Bool.or_eq_true,decide_eq_true_eq,Bool.and_eq_true,beq_iff_eq]
def Va (roles:List Int) (l:Link):Bool:=inB [nth roles l.a,nth roles l.b] 1 && inB [nth roles l.a,nth roles l.b] 2
def fwdL (n:Net) (roles:List Int):List Bool:=n.links.map (Va roles)
end
end Go.Sy.YtmelpejjondedaaGreat
namespace Go.Sy.YtmelpejjondedaaGreat
open Go.Proofs
theorem G_lit {C:Cx} {k:List KI} {s:SS} (d:Nat) {sz:Nat} {α:Type} (e:α → SV) (l:List α) {svs:List SV} (h:s.h d = .lit sz svs) (hl:l.map e = svs) (hg:G C k ⟨s.σ,upd s.h d (.row sz e l)⟩):G C k s:=fun κ a w hs=>by
 refine hg κ a w ⟨hs.defers,hs.size,hs.inv,hs.ctx,hs.slot,fun j=>?_⟩
 show ObOK κ w j (upd s.h d (.row sz e l) j)
 by_cases hj:j = d
 ·subst hj
  rw [Bs]
  have hob:=hs.obj j
  rw [h] at hob
  have hlen:l.length = svs.length:=by rw [← hl,List.length_map]
  obtain ⟨b,cap,cs,T,fr,e1,e2,e3,e4,e5,e6⟩:=hob
  exact .inr ⟨b,cap,cs,T,fr,by rw [hlen]; exact e1,e2,e3,e4,by omega,fun i x hx=>by rw [hlen]; exact e6 i x (K6 hl i x hx)⟩
 ·rw [Cf _ _ hj]; exact hs.obj j
attribute [local irreducible] Go.Sy.G Go.Sy.DR
set_option maxRecDepth 100000
set_option maxHeartbeats 4000000
theorem Xn (n:Net) (up:List Bool) (x:Item) (q:List Item):∀ i,((List.range i).foldl (C5 n up x) q).length ≤ q.length + i
 | 0=>by simp
 | i + 1=>by
  have:=Xn n up x q i
  rw [List.range_succ,List.foldl_append]
  simp only [List.foldl_cons,List.foldl_nil]
  rw [C5]
  split
  ·rw [Jh]; omega
  ·omega
theorem reachS (n:Net) (up:List Bool) (ranks roots costs:List Int) (hr:Ah n = true) (hu:up.length = n.links.length) (hcost:Ci n = true) (hrk:ranks.length = n.devices.length) (hro:roots.length = n.devices.length) (hc:costs.length = n.devices.length) (hrr:∀ r ∈ ranks,0 ≤ r) (D:List Item × List Int × List Int) (hD:I8 n up (D2 ranks ranks.length,roots,costs) = D) :
  Sy.Spec Tryz.prog 157 [.ptr 0 0] (Zv n up ranks roots costs) (.tup []) (Zv n up ranks D.2.1 D.2.2):=Ab Γ hm 100 F157 Tryz.ntmps157 rfl fun F hF=>by
 have hf:=Cr hr
 conv=>whnf
 refine G_lit 10 Bq [] E E ?_
 refine Au ranks.length (fun j=>[(0,.ptr 0 0),(2,.ptr 11 0),(15,.sl 1 Aa ranks),(16,Aa ranks.length),(17,Aa j)]) (fun j=>[(0,.box (Qp n up ranks (.osl 1) (.osl 2))),(1,.row 1 Aa roots),(2,.row 1 Aa costs),(11,.box [.osl 12]),(12,.row 3 Bq (D2 ranks j))]) [(12,10)]
  ⟨⟨rfl,rfl,rfl,rfl,rfl,rfl,rfl,rfl,rfl,rfl,trivial⟩,⟨.inl rfl,rfl,.inl rfl,rfl,.inl rfl,rfl,.inl rfl,rfl,.inl rfl,rfl,trivial⟩,rfl,rfl⟩ ?_
 intro j hj
 refine rg ?_;conv=>whnf
 refine ⟨fun h=>?_,fun h=>?_⟩
 ·have hlt:j < ranks.length:=by simpa using h
  have e1:ranks[(j:Int).toNat]'(by omega) = ranks[j]:=rfl
  have hpush:=Aai (D2 ranks j) ⟨ranks.getD j 0,0,j⟩ (by rw [Ku]; omega)
  have hsucc:=Iu ranks j
  rw [A8 (show j < ranks.length by omega)] at hpush hsucc
  refine rg ?_;conv=>whnf
  refine ⟨by omega,by omega,?_⟩
  conv=>whnf
  refine ⟨by omega,?_⟩
  rw [e1]
  conv=>whnf
  refine Ai (Ak [(0,11),(1,12),(2,28)] E F233 hpush E ⟨E,E,Y⟩ E ⟨.inl E,.inl E,.inr E,Y⟩) E E ?_
  refine rg ?_;conv=>whnf
  refine ⟨by unfold I64; omega,?_⟩
  conv=>whnf
  refine Ar [(12,28)] hlt ⟨⟨E,E,E,E,E,E,E,E,E,E,Y⟩,⟨.inl E,E,.inl E,E,.inl E,E,.inl E,E,.inl (congrArg (Ob.row 3 Bq) hsucc),E,Y⟩,E,E⟩
 ·have hjl:j = ranks.length:=by
   have:¬ j < ranks.length:=by simpa using h
   omega
  subst hjl
  refine rg ?_;conv=>whnf
  refine Oy (α:={s:List Item × List Int × List Int // ReachInv n s ∧ I8 n up s = D}) (fun p=>[(0,.ptr 0 0),(2,.ptr 11 0)]) (fun p=>[(0,.box (Qp n up ranks (.osl 1) (.osl 2))),(1,.row 1 Aa p.1.2.1),(2,.row 1 Aa p.1.2.2),(11,.box [.osl 12]),(12,.row 3 Bq p.1.1)]) (fun p=>reachM p.1) ⟨(D2 ranks ranks.length,roots,costs),Zu n ranks roots costs hr hrk hro hc hrr,hD⟩ []
   ⟨⟨rfl,rfl,rfl,rfl,trivial⟩,⟨.inl rfl,rfl,.inl rfl,rfl,.inl rfl,rfl,.inl rfl,rfl,.inl rfl,rfl,trivial⟩,rfl,rfl⟩ ?_
  rintro ⟨⟨q,ro,co⟩,hI,hDq⟩
  have hlen:=Uw q
  have hdn:=Agm n up (q,ro,co)
  have hds:=Adt n up hr hcost (q,ro,co) hI
  dsimp only at hdn hds ⊢
  refine rg ?_;conv=>whnf
  refine Ai (Sk [12] E F234 hlen (.cons (.row E E) .nil) E E) E E ?_
  refine rg ?_;conv=>whnf
  refine ⟨fun h2=>?_,fun h2=>?_⟩
  ·have hne:q ≠ []:=fun e=>by subst e; simp at h2
   have hpop:=Anw q hne (by have:=hI.few; simp only at this; omega)
   have hx:=hI.items _ ((O7 q hne).mem_iff.1 (List.getLast_mem (Do hne)))
   have hst:L1 n up (q,ro,co) = if 0 ≤ nth ro ((Cy q).getLast (Do hne)).dev then ((Cy q).dropLast,ro,co) else ((List.range n.ports.length).foldl (C5 n up ((Cy q).getLast (Do hne))) (Cy q).dropLast,ro.set ((Cy q).getLast (Do hne)).dev.toNat ((Cy q).getLast (Do hne)).root,co.set ((Cy q).getLast (Do hne)).dev.toNat ((Cy q).getLast (Do hne)).cost):=by
    rw [L1,X2 hne]
   have hr1:=Jy n up hr hcost (q,ro,co) hI hne
   have hD1:=hds hne
   rw [hDq] at hD1
   rw [hst] at hr1 hD1
   generalize (Cy q).getLast (Do hne) = x at *
   have hroL:=hI.rootsL
   have hcoL:=hI.costsL
   dsimp only at hroL hcoL
   rw [Ao (l:=ro) (i:=x.dev) (by omega)] at hr1 hD1
   refine rg ?_;conv=>whnf
   refine Ai (Ak [(0,11),(1,12),(2,38)] E F235 hpop E ⟨E,E,Y⟩ E ⟨.inl E,.inl E,.inr E,Y⟩) E E ?_
   refine rg ?_;conv=>whnf
   refine Ai (V1 Γ.toTy E E E E) E E ?_
   (refine rg ?_;(conv=>whnf);refine aF ?_;refine rd (by kernel_rfl) ?_;conv=>whnf)
   have hx1:=hx.1
   have hx2:=hx.2.1
   refine ⟨by omega,by omega,?_⟩
   conv=>whnf
   refine ⟨E,by omega,?_⟩
   conv=>whnf
   refine ⟨(by kernel_rfl),?_⟩
   conv=>whnf
   refine ⟨fun h3=>?_,fun h3=>?_⟩
   ·have h30:0 ≤ ro[x.dev.toNat]'(by omega):=of_decide_eq_true h3
    rw [if_pos h30] at hr1 hD1
    refine rg ?_;conv=>whnf
    exact Q3 (α:={s:List Item × List Int × List Int // ReachInv n s ∧ I8 n up s = D}) (L:=fun p=>[(0,.ptr 0 0),(2,.ptr 11 0)]) (O:=fun p=>[(0,.box (Qp n up ranks (.osl 1) (.osl 2))),(1,.row 1 Aa p.1.2.1),(2,.row 1 Aa p.1.2.2),(11,.box [.osl 12]),(12,.row 3 Bq p.1.1)]) (μ:=fun p=>reachM p.1) (x:=⟨(q,ro,co),hI,hDq⟩)
     ⟨((Cy q).dropLast,ro,co),hr1.1,hD1.symm⟩ [(12,38)] hr1.2
     ⟨⟨rfl,rfl,rfl,rfl,trivial⟩,⟨.inl rfl,rfl,.inl rfl,rfl,.inl rfl,rfl,.inl rfl,rfl,.inl rfl,rfl,trivial⟩,rfl,rfl⟩
   ·have h30:¬ 0 ≤ ro[x.dev.toNat]'(by omega):=of_decide_eq_false h3
    rw [if_neg h30] at hr1 hD1
    refine rg ?_;conv=>whnf
    refine ⟨by omega,by omega,?_⟩
    conv=>whnf
    refine ⟨by omega,by omega,?_⟩
    conv=>whnf
    refine ⟨x.root,E,E,?_⟩
    conv=>whnf
    refine ⟨by omega,by omega,E,by omega,x.cost,E,E,?_⟩
    conv=>whnf
    refine ⟨(by kernel_rfl),?_⟩
    conv=>whnf
    generalize ro.set x.dev.toNat x.root = ro' at *
    generalize co.set x.dev.toNat x.cost = co' at *
    refine Au n.ports.length (fun j=>[(0,.ptr 0 0),(2,.ptr 11 0),(5,.ptr 5 0),(77,.sl 7 Bh n.ports),(78,Aa n.ports.length),(79,Aa j)]) (fun j=>[(0,.box (Qp n up ranks (.osl 1) (.osl 2))),(1,.row 1 Aa ro'),(2,.row 1 Aa co'),(5,.box [Aa x.root,Aa x.cost,Aa x.dev]),(11,.box [.osl 12]),(12,.row 3 Bq ((List.range j).foldl (C5 n up x) (Cy q).dropLast))]) [(12,38)]
     ⟨⟨rfl,rfl,rfl,rfl,rfl,rfl,rfl,rfl,rfl,rfl,rfl,rfl,trivial⟩,⟨.inl rfl,rfl,.inl rfl,rfl,.inl rfl,rfl,.inl rfl,rfl,.inl rfl,rfl,.inl rfl,rfl,trivial⟩,rfl,rfl⟩ ?_
    intro j hj
    refine rg ?_;conv=>whnf
    refine ⟨fun h4=>?_,fun h4=>?_⟩
    ·have hlt:j < n.ports.length:=by simpa using h4
     have e1:n.ports[(j:Int).toNat]'(by omega) = n.ports[j]:=rfl
     have hfar:=farR n up ranks ro' co' j hr hu hlt
     have hql:(Cy q).dropLast.length ≤ q.length:=by rw [List.length_dropLast,Dx]; omega
     have hlenQ:=Xn n up x (Cy q).dropLast j
     have hfew:=hI.few
     dsimp only at hfew
     have hsucc:(List.range (j + 1)).foldl (C5 n up x) (Cy q).dropLast = C5 n up x ((List.range j).foldl (C5 n up x) (Cy q).dropLast) j:=by
      rw [List.range_succ,List.foldl_append]; rfl
     generalize (List.range j).foldl (C5 n up x) (Cy q).dropLast = Q at *
     rw [C5,A8 hlt] at hsucc
     refine rg ?_;conv=>whnf
     refine ⟨by omega,by omega,?_⟩
     conv=>whnf
     refine ⟨by omega,?_⟩
     rw [e1]
     conv=>whnf
     refine Ai (Ak [] E F158 hfar E ⟨E,E,E,Y⟩ E ⟨.inl E,.inl E,.inl E,Y⟩) E E ?_
     refine rg ?_;conv=>whnf
     refine ⟨fun h5=>?_,fun h5=>?_⟩
     ·refine rg ?_;conv=>whnf
      refine ⟨fun h6=>?_,fun h6=>?_⟩
      ·have hk0:0 ≤ B7 n up j:=of_decide_eq_true h6
       have hk1:=Sl (up:=up) hr hlt hk0
       rw [if_pos ⟨by simpa using h5,hk0⟩,Ao (l:=n.ports) (i:=B7 n up j) (by omega)] at hsucc
       have hpc:1 ≤ (n.ports[(B7 n up j).toNat]'(by omega)).cost ∧ (n.ports[(B7 n up j).toNat]'(by omega)).cost ≤ 65535:=by
        simp only [Ci,Bool.not_eq_true',List.any_eq_false] at hcost
        have:=hcost _ (List.getElem_mem (show (B7 n up j).toNat < n.ports.length by omega))
        simp only [H6,Bool.or_eq_true,decide_eq_true_eq,not_or] at this
        omega
       have hxc:=hx.2.2.2
       have hpush:=Aai Q ⟨x.root,x.cost + (n.ports[(B7 n up j).toNat]'(by omega)).cost,(n.ports[(B7 n up j).toNat]'(by omega)).dev⟩ (by omega)
       refine rg ?_;conv=>whnf
       refine ⟨E,hk0,by omega,?_⟩
       conv=>whnf
       refine ⟨by unfold I64; omega,?_⟩
       conv=>whnf
       refine ⟨E,hk0,by omega,?_⟩
       conv=>whnf
       refine Bi (Ak [(0,11),(1,12),(2,123)] E F233 hpush E ⟨E,E,Y⟩ E ⟨.inl E,.inl E,.inr E,Y⟩) (by kernel_rfl) E ?_
       refine rd (by kernel_rfl) ?_;conv=>whnf
       refine ⟨(by kernel_rfl),?_⟩
       conv=>whnf
       refine ⟨by unfold I64; omega,?_⟩
       conv=>whnf
       refine Ar [(12,123)] hlt ⟨⟨E,E,E,E,E,E,E,E,E,E,E,E,Y⟩,⟨.inl E,E,.inl E,E,.inl E,E,.inl E,E,.inl E,E,.inl (congrArg (Ob.row 3 Bq) hsucc),E,Y⟩,E,E⟩
      ·rw [if_neg (fun hh=>(of_decide_eq_false h6) hh.2)] at hsucc
       refine rg ?_;conv=>whnf
       refine ⟨by unfold I64; omega,?_⟩
       conv=>whnf
       refine Ar [] hlt ⟨⟨E,E,E,E,E,E,E,E,E,E,E,E,Y⟩,⟨.inl E,E,.inl E,E,.inl E,E,.inl E,E,.inl E,E,.inl (congrArg (Ob.row 3 Bq) hsucc),E,Y⟩,E,E⟩
     ·rw [if_neg (fun hh=>absurd hh.1 (by simpa using h5))] at hsucc
      (refine rg ?_;(conv=>whnf);refine aF ?_;refine rg ?_;conv=>whnf)
      refine ⟨by unfold I64; omega,?_⟩
      conv=>whnf
      refine Ar [] hlt ⟨⟨E,E,E,E,E,E,E,E,E,E,E,E,Y⟩,⟨.inl E,E,.inl E,E,.inl E,E,.inl E,E,.inl E,E,.inl (congrArg (Ob.row 3 Bq) hsucc),E,Y⟩,E,E⟩
    ·have hjl:j = n.ports.length:=by
      have:¬ j < n.ports.length:=by simpa using h4
      omega
     subst hjl
     refine rg ?_;conv=>whnf
     exact Q3 (α:={s:List Item × List Int × List Int // ReachInv n s ∧ I8 n up s = D}) (L:=fun p=>[(0,.ptr 0 0),(2,.ptr 11 0)]) (O:=fun p=>[(0,.box (Qp n up ranks (.osl 1) (.osl 2))),(1,.row 1 Aa p.1.2.1),(2,.row 1 Aa p.1.2.2),(11,.box [.osl 12]),(12,.row 3 Bq p.1.1)]) (μ:=fun p=>reachM p.1) (x:=⟨(q,ro,co),hI,hDq⟩)
      ⟨((List.range n.ports.length).foldl (C5 n up x) (Cy q).dropLast,ro',co'),hr1.1,hD1.symm⟩ [] hr1.2
      ⟨⟨rfl,rfl,rfl,rfl,trivial⟩,⟨.inl rfl,rfl,.inl rfl,rfl,.inl rfl,rfl,.inl rfl,rfl,.inl rfl,rfl,trivial⟩,rfl,rfl⟩
  ·have he:q = []:=List.eq_nil_of_length_eq_zero (by
    have:¬ 0 < q.length:=by simpa using h2
    omega)
   have e:D = (q,ro,co):=by rw [← hDq,hdn he]
   rw [e]
   refine rg ?_;conv=>whnf
   exact Bx E .nil [] (Zv n up ranks ro co) (fun _ h=>h) E E ⟨Y,⟨.inl E,E,.inl E,E,.inl E,E,Y⟩,E,E⟩
end Go.Sy.YtmelpejjondedaaGreat
namespace Go.Sy.YtmelpejjondedaaGreat
open Go.Proofs
attribute [local irreducible] Go.Sy.G Go.Sy.DR
set_option maxRecDepth 100000
set_option maxHeartbeats 4000000
def okB (n:Net) (up:List Bool):Bool:=decide (up.length = n.links.length) && (Ah n && Ci n)
theorem ok_iff {n:Net} {up:List Bool}:okB n up = true ↔ up.length = n.links.length ∧ Ah n = true ∧ Ci n = true:=by simp [okB]
def Q9 (n:Net) (up:List Bool):List Int:=(M2 n up (Cn n)).2.1
def Su (n:Net) (up:List Bool):List Int:=(M2 n up (Cn n)).2.2
def Abn (n:Net) (up:List Bool):SV:=Mu n up (Cn n) (Q9 n up) (Su n up)
theorem Apo (n:Net) (up:List Bool) (hn:n.Fin) (h:okB n up = false):Sy.Spec Tryz.prog 84 [Ap n,.sl 1 Ad up] [] (.tup [.val (.pointer none),Aa 2]) []:=Ab Γ hm 100 F84 Tryz.ntmps84 rfl fun F hF=>by
 have h':¬ (up.length = n.links.length ∧ Ah n = true ∧ Ci n = true):=fun hh=>by rw [ok_iff.2 hh] at h; cases h
 conv=>whnf
 (repeat' (first | (refine ⟨fun h=>?_,fun h=>?_⟩ <;> (repeat (first | simp only [bne_iff_ne] at h | simp only [bne_eq_false_iff_eq] at h | simp only [Bool.not_eq_true'] at h | simp only [Bool.not_eq_false'] at h)) <;> ((refine rg ?_);(conv=>whnf);repeat((refine aT ?_);(refine rg ?_);(conv=>whnf)))) | (refine Ag (B4 n hn) F67 rfl rfl rfl rfl rfl ?_; ((refine rg ?_);(conv=>whnf))) | (refine Ag (Aol n hn.ports) F155 rfl rfl rfl rfl rfl ?_; ((refine rg ?_);(conv=>whnf))) | refine Ac rfl (.cons .tmp (.cons .tmp .nil)) rfl rfl))
 all_goals exact absurd ⟨by omega,by assumption,by assumption⟩ h'
def Mm (m j:Nat):List Int:=List.replicate j (-1) ++ List.replicate (m - j) 0
theorem Aht (m:Nat):Mm m 0 = List.replicate m 0:=by simp [Mm]
theorem Alf (m:Nat):Mm m m = List.replicate m (-1):=by simp [Mm]
theorem Ab8 (m j:Nat) (h:j ≤ m):(Mm m j).length = m:=by simp [Mm]; omega
theorem Ahu (m j:Nat) (h:j < m):Mm m (j + 1) = (Mm m j).set j (-1):=by
 have e:m - j = (m - (j + 1)) + 1:=by omega
 rw [Mm,Mm,e,List.set_append_right _ _ (by simp),List.length_replicate,Nat.sub_self,List.replicate_succ' (n:=j),List.replicate_succ (n:=m - (j + 1))]
 simp
theorem openOK (n:Net) (up:List Bool) (hn:n.Fin) (hu:up.length = n.links.length) (hr:Ah n = true) (hcost:Ci n = true):Sy.Spec Tryz.prog 84 [Ap n,.sl 1 Ad up] [] (.tup [Abn n up,Aa 0]) []:=Ab Γ hm 100 F84 Tryz.ntmps84 rfl fun F hF=>by
 have hf:=Cr hr
 have hrt:=B4 n hn
 have hct:=Aol n hn.ports
 have hrs:=ranksS n hn
 rw [hr] at hrt
 rw [hcost] at hct
 rw [hr,if_pos rfl] at hrs
 have hrk:=Eg n
 have hrr:∀ r ∈ Cn n,0 ≤ r:=fun r h=>(Vo n r h).1
 have hsv:Abn n up = Mu n up (Cn n) (M2 n up (Cn n)).2.1 (M2 n up (Cn n)).2.2:=rfl
 rw [hsv]
 generalize Cn n = ranks at *
 have hreach:=fun D hD=>reachS n up ranks (List.replicate n.devices.length (-1)) (List.replicate n.devices.length 0) hr hu hcost hrk (by simp) (by simp) hrr D hD
 have hRT:I8 n up (D2 ranks ranks.length,List.replicate n.devices.length (-1),List.replicate n.devices.length 0) = M2 n up ranks:=rfl
 generalize M2 n up ranks = D at *
 have hreach:=hreach D hRT
 clear hRT hsv
 conv=>whnf
 refine ⟨fun h=>absurd h (by simp [hu]),fun h=>?_⟩
 refine rg ?_;conv=>whnf
 refine Ag hrt F67 E E E E E ?_
 (refine rg ?_;(conv=>whnf);refine aF ?_;refine rg ?_;conv=>whnf)
 refine Ag hct F155 E E E E E ?_
 (refine rg ?_;(conv=>whnf);refine aF ?_;refine rg ?_;conv=>whnf)
 refine At hrs F156 E E E (by kernel_rfl) E ?_
 refine rd (by kernel_rfl) ?_;conv=>whnf
 refine Bi (Bw Γ.toTy (d:=31) (n:=n.devices.length) Aa 0 E E E E E E E E (by omega) (by omega) E E E) (by kernel_rfl) E ?_
 refine rd (by kernel_rfl) ?_;conv=>whnf
 refine Bi (Bw Γ.toTy (d:=35) (n:=n.devices.length) Aa 0 E E E E E E E E (by omega) (by omega) E E E) (by kernel_rfl) E ?_
 refine rd (by kernel_rfl) ?_;conv=>whnf
 refine ⟨(by kernel_rfl),?_⟩
 conv=>whnf
 refine Au n.devices.length (fun j=>[(6,.ptr 37 0),(42,Aa (List.replicate n.devices.length (0:Int)).length),(43,Aa j)]) (fun j=>[(37,.box (Qp n up ranks (.osl 31) (.osl 35))),(31,.row 1 Aa (Mm n.devices.length j)),(35,.row 1 Aa (List.replicate n.devices.length 0))]) []
  ⟨⟨rfl,rfl,rfl,rfl,rfl,rfl,trivial⟩,⟨.inl rfl,rfl,.inl (by rw [Aht]; rfl),rfl,.inl rfl,rfl,trivial⟩,rfl,rfl⟩ ?_
 intro j hj
 have hlen:=Ab8 n.devices.length j hj
 refine rg ?_;conv=>whnf
 refine ⟨fun h=>?_,fun h=>?_⟩
 ·have hlt:j < n.devices.length:=by simpa using h
  have hsucc:=Ahu n.devices.length j hlt
  generalize Mm n.devices.length j = u at *
  refine rg ?_;conv=>whnf
  refine ⟨by omega,by omega,?_⟩
  conv=>whnf
  refine ⟨E,by omega,-1,E,E,?_⟩
  conv=>whnf
  refine ⟨by unfold I64; omega,?_⟩
  conv=>whnf
  exact Ar [] hlt ⟨⟨E,E,E,E,E,E,Y⟩,⟨.inl E,E,.inl (congrArg (Ob.row 1 Aa) hsucc),E,.inl E,E,Y⟩,E,E⟩
 have hjl:j = n.devices.length:=by
  have:¬ j < n.devices.length:=by simpa using h
  omega
 subst hjl
 have hall:=Alf n.devices.length
 rw [← hall] at hreach
 refine rg ?_;conv=>whnf
 refine Ai (Ak [(0,37),(1,31),(2,35)] E F157 hreach E ⟨E,E,E,Y⟩ E ⟨.inl E,.inl E,.inl E,Y⟩) E E ?_
 refine As 31 E ?_
 refine As 35 E ?_
 refine Bf 37 12 (.agg (Qp n up ranks (.sl 1 Aa D.2.1) (.sl 1 Aa D.2.2))) E E E ?_
 refine rg ?_;conv=>whnf
 exact Ac E (.cons .tmp (.cons .tmp .nil)) E E
theorem Ve {n:Net} {up:List Bool} (h:okB n up = true):Solved n up (Cn n) (Q9 n up) (Su n up):=by
 obtain ⟨hu,hr,hcost⟩:=ok_iff.1 h
 exact Y5 n up (Cn n) hr hcost (Eg n) (fun r h=>(Vo n r h).1)
def I6 (n:Net) (up:List Bool):List Int:=Ams n up (Cn n) (Q9 n up) (Su n up)
def An8 (n:Net) (up:List Bool):List Bool:=fwdL n (I6 n up)
theorem Kv (n:Net) (up:List Bool):(I6 n up).length = n.ports.length:=E5 ..
theorem Agw (n:Net) (up:List Bool) (h:okB n up = true):Sy.Spec Tryz.prog 85 [Abn n up] [] (.sl 1 Aa (I6 n up)) []:=by
 obtain ⟨hu,hr,hcost⟩:=ok_iff.1 h
 have S:=Ve h
 exact rolesS n up (Cn n) (Q9 n up) (Su n up) hr hu hcost (Eg n) S.rootsL S.costsL (fun c hc=>by have:=S.bound c hc; omega)
theorem Yl (n:Net) (up:List Bool) (hn:n.Fin) (h:okB n up = false):Sy.Spec Tryz.prog 44 [Ap n,.sl 1 Ad up] [] (.tup [.sl 1 Ad [],Aa 2]) []:=Ab Γ hm 100 F44 Tryz.ntmps44 rfl fun F hF=>by
 conv=>whnf
 refine Ag (Apo n up hn h) F84 E E E E E ?_
 (refine rg ?_;(conv=>whnf);refine aT ?_;refine rg ?_;conv=>whnf)
 refine An 4 1 Ad E ?_
 exact Ac E (.cons .tmp (.cons .tmp .nil)) E E
def Wf (n:Net) (roles:List Int) (j:Nat):List Bool:=(n.links.take j).map (Va roles) ++ List.replicate (n.links.length - j) false
theorem Alb (n:Net) (roles:List Int):Wf n roles 0 = List.replicate n.links.length false:=by simp [Wf]
theorem An7 (n:Net) (roles:List Int):Wf n roles n.links.length = fwdL n roles:=by simp [Wf,fwdL]
theorem Aer (n:Net) (roles:List Int) (j:Nat) (h:j ≤ n.links.length):(Wf n roles j).length = n.links.length:=by simp [Wf]; omega
theorem Alc (n:Net) (roles:List Int) (j:Nat) (h:j < n.links.length):Wf n roles (j + 1) = (Wf n roles j).set j (Va roles n.links[j]):=by
 have e:n.links.length - j = (n.links.length - (j + 1)) + 1:=by omega
 have el:((n.links.take j).map (Va roles)).length = j:=by simp; omega
 rw [Wf,Wf,List.set_append_right _ _ (by omega),el,Nat.sub_self,List.take_succ_eq_append_getElem h,List.map_append,e,List.replicate_succ,List.set_cons_zero]
 simp
theorem Aal (n:Net) (up:List Bool) (hn:n.Fin) (h:okB n up = true):Sy.Spec Tryz.prog 44 [Ap n,.sl 1 Ad up] [] (.tup [.sl 1 Ad (An8 n up),Aa 0]) []:=Ab Γ hm 100 F44 Tryz.ntmps44 rfl fun F hF=>by
 obtain ⟨hu,hr,hcost⟩:=ok_iff.1 h
 have hf:=Cr hr
 have ho:=openOK n up hn hu hr hcost
 have hro:=Agw n up h
 have hrl:=Kv n up
 rw [An8]
 generalize I6 n up = roles at *
 unfold Abn at ho hro
 generalize Cn n = ranks at *
 generalize Q9 n up = roots at *
 generalize Su n up = costs at *
 conv=>whnf
 refine Ag ho F84 E E E E E ?_
 (refine rg ?_;(conv=>whnf);refine aF ?_;refine rg ?_;conv=>whnf)
 refine Ag hro F85 E E E E E ?_
 refine rg ?_;conv=>whnf
 refine Ai (Bw Γ.toTy (d:=27) (n:=n.links.length) Ad false E E E E E E E E (by omega) (by omega) E E E) E E ?_
 rw [← Alb n roles]
 refine rg ?_;conv=>whnf
 refine Au n.links.length (fun j=>[(8,.sl 1 Aa roles),(9,.osl 27),(29,.sl 3 Cp n.links),(30,Aa n.links.length),(31,Aa j)]) (fun j=>[(27,.row 1 Ad (Wf n roles j))]) []
  ⟨⟨rfl,rfl,rfl,rfl,rfl,rfl,rfl,rfl,rfl,rfl,trivial⟩,⟨.inl rfl,rfl,trivial⟩,rfl,rfl⟩ ?_
 intro j hj
 have hall:=An7 n roles
 refine rg ?_;conv=>whnf
 refine ⟨fun h=>?_,fun h=>?_⟩
 ·have hlt:j < n.links.length:=by simpa using h
  have he:=Id hr hlt
  have e1:n.links[(j:Int).toNat]'(by omega) = n.links[j]:=rfl
  have hlen:=Aer n roles j hj
  have hsucc:=Alc n roles j hlt
  generalize Wf n roles j = u at *
  generalize n.links[j] = l at *
  rw [Va,Ao (l:=roles) (i:=l.a) (by omega),Ao (l:=roles) (i:=l.b) (by omega)] at hsucc
  refine rg ?_;conv=>whnf
  refine ⟨E,by omega,by omega,?_⟩
  rw [e1]
  conv=>whnf
  refine ⟨E,by omega,by omega,?_⟩
  conv=>whnf
  refine ⟨E,by omega,by omega,?_⟩
  conv=>whnf
  refine ⟨(by kernel_rfl),?_⟩
  conv=>whnf
  have hA:0 ≤ l.a ∧ l.a < roles.length:=by omega
  have hB:0 ≤ l.b ∧ l.b < roles.length:=by omega
  obtain ⟨x,hx⟩:∃ x,roles[l.a.toNat]'(by omega) = x:=⟨_,rfl⟩
  obtain ⟨y,hy⟩:∃ y,roles[l.b.toNat]'(by omega) = y:=⟨_,rfl⟩
  rw [hx,hy] at hsucc
  refine Afj 46 (e:=Aa) (l:=[x,y]) E (by rw [← hx,← hy]; rfl) ?_
  refine As 46 E ?_
  refine Ag (Dv [x,y] 1 (by unfold Aq; simp)) F86 E E E E E ?_
  refine rg ?_;conv=>whnf
  refine ⟨fun h1=>?_,fun h1=>?_⟩
  ·rw [h1,Bool.true_and] at hsucc
   refine rg ?_;conv=>whnf
   refine Ag (Dv [x,y] 2 (by unfold Aq; simp)) F86 E E E E E ?_
   refine rg ?_;conv=>whnf
   refine ⟨by omega,by omega,?_⟩
   conv=>whnf
   refine ⟨E,by omega,inB [x,y] 2,E,E,?_⟩
   conv=>whnf
   refine ⟨by unfold I64; omega,?_⟩
   conv=>whnf
   exact Ar [] hlt ⟨⟨E,E,E,E,E,E,E,E,E,E,Y⟩,⟨.inl (congrArg (Ob.row 1 Ad) hsucc),E,Y⟩,E,E⟩
  ·rw [h1,Bool.false_and] at hsucc
   refine rg ?_;conv=>whnf
   refine ⟨by omega,by omega,?_⟩
   conv=>whnf
   refine ⟨E,by omega,false,E,E,?_⟩
   conv=>whnf
   refine ⟨by unfold I64; omega,?_⟩
   conv=>whnf
   exact Ar [] hlt ⟨⟨E,E,E,E,E,E,E,E,E,E,Y⟩,⟨.inl (congrArg (Ob.row 1 Ad) hsucc),E,Y⟩,E,E⟩
 have hjl:j = n.links.length:=by
  have:¬ j < n.links.length:=by simpa using h
  omega
 subst hjl
 rw [← hall]
 refine rg ?_;conv=>whnf
 refine As 27 E ?_
 exact Ac E (.cons .tmp (.cons .tmp .nil)) E E
end Go.Sy.YtmelpejjondedaaGreat
namespace Go.Sy.YtmelpejjondedaaGreat
open Go.Proofs
structure MacM where
 up:List Bool
 tables:List (List EntryM)
 queues:List (List QueuedM)
 now:Int
 injected:Int
 drops:Nat → Int
def Be (m:MacM) (e:Int):MacM:=⟨m.up,m.tables,m.queues,m.now,m.injected,fun i=>if i = e.toNat then m.drops i + 1 else m.drops i⟩
def queueL (m:MacM) (dom:Int):List QueuedM:=(m.queues[dom.toNat]?).getD []
def tableL (m:MacM) (dom:Int):List EntryM:=(m.tables[dom.toNat]?).getD []
def Ac9 (m:MacM) (dom:Int) (l:List QueuedM):MacM:=⟨m.up,m.tables,m.queues.set dom.toNat l,m.now,m.injected,m.drops⟩
def Bu (m:MacM) (dom:Int) (t:List EntryM):MacM:=⟨m.up,m.tables.set dom.toNat t,m.queues,m.now,m.injected,m.drops⟩
def comeM (m:MacM) (dom:Int) (q:QueuedM) (e:Int):MacM :=
 if e ≠ 0 then Be m e else if (pushT (queueL m dom) q).2 = true then Ac9 m dom (pushT (queueL m dom) q).1 else Be m 3
def takeM (m:MacM) (dom at_:Int):MacM × QueuedM × Bool :=
 if Am dom m.queues.length = false then (m,noQ,false)
 else (Ac9 m dom (takeT (queueL m dom) at_).2.1,(takeT (queueL m dom) at_).1,(takeT (queueL m dom) at_).2.2)
def injectT (n:Net) (m:MacM) (port:Int) (b:List UInt8):MacM :=
 if Am port n.ports.length = false ∨ 0 ≤ (nth n.ports port).link then m
 else comeM ⟨m.up,m.tables,m.queues,m.now,m.injected + 1,m.drops⟩ (enterT n port b).1 ⟨port,0,m.injected + 1,(enterT n port b).2.1⟩ (enterT n port b).2.2
def goesM (n:Net) (m:MacM) (o:OutM) (origin:Int):MacM × List SeenM :=
 if o.kind = 1 then (m,[⟨o.port,origin,o.bytes⟩])
 else if o.kind = 2 then (comeM m (linkT n o.port o.bytes).2.1 ⟨(linkT n o.port o.bytes).1,0,origin,(linkT n o.port o.bytes).2.2.1⟩ (linkT n o.port o.bytes).2.2.2,[])
 else if o.kind = 3 then (comeM m (comeT n o.bytes).2.1 ⟨-1,(comeT n o.bytes).1,origin,(comeT n o.bytes).2.2.1⟩ (comeT n o.bytes).2.2.2,[])
 else if o.kind = 4 then (comeM m o.domain ⟨-2,0,origin,o.frame⟩ 0,[])
 else (Be m o.error,[])
def Ba (n:Net) (m:MacM) (origin:Int):List OutM → MacM × List SeenM
 | []=>(m,[])
 | o :: l=>((Ba n (goesM n m o origin).1 origin l).1,(goesM n m o origin).2 ++ (Ba n (goesM n m o origin).1 origin l).2)
def Hs (n:Net) (up:List Bool):List Bool:=if okB n up = true then An8 n up else []
def Ti (n:Net) (m:MacM) (dom:Int) (q:QueuedM):List EntryM × List OutM × Int:=bridgeT n (Hs n m.up) (tableL m dom) dom q m.now
def Jc (m:MacM) (dom:Int) (r:List EntryM × List OutM × Int):MacM :=
 if r.2.2 = 2 then Be m 2 else if r.2.2 ≠ 0 then Be (Bu m dom r.1) r.2.2 else Bu m dom r.1
def pickT (n:Net) (m:MacM) (dom at_:Int):MacM × List SeenM :=
 if (takeM m dom at_).2.2 = false then ((takeM m dom at_).1,[])
 else Ba n (Jc (takeM m dom at_).1 dom (Ti n (takeM m dom at_).1 dom (takeM m dom at_).2.1)) (takeM m dom at_).2.1.origin (Ti n (takeM m dom at_).1 dom (takeM m dom at_).2.1).2.1
def Mh (m:MacM):MacM :=
 let now:=min (m.now + 1) 1099511627776
 ⟨m.up,m.tables.map (fun t=>ageT t now),m.queues,now,m.injected,m.drops⟩
def doT (n:Net) (m:MacM) (x:StepM):MacM × List SeenM :=
 if x.kind = 1 then (injectT n m x.port x.bytes,[])
 else if x.kind = 2 then pickT n m x.domain x.at_
 else if x.kind = 3 then ((takeM m x.domain x.at_).1,[])
 else if x.kind = 4 then (Mh m,[])
 else if x.kind = 5 then ((if x.up.length = n.links.length then ⟨x.up,m.tables,m.queues,m.now,m.injected,m.drops⟩ else m),[])
 else (m,[])
def newT (n:Net):MacM:=⟨List.replicate n.links.length true,List.replicate n.domains.length [],List.replicate n.domains.length [],0,0,fun _=>0⟩
def Di (n:Net):MacM → List StepM → MacM × List SeenM
 | m,[]=>(m,[])
 | m,x :: l=>((Di n (doT n m x).1 l).1,(doT n m x).2 ++ (Di n (doT n m x).1 l).2)
def Bv (e:Int):Prop:=0 ≤ e ∧ e < 64
def DomIn (n:Net) (d:Int):Prop:=0 ≤ d ∧ d.toNat < n.domains.length
theorem En {n:Net} {d:Int} (h:Am d n.domains.length = true):DomIn n d:=by
 have:=Bn h
 unfold DomIn
 omega
theorem Uq (b:List UInt8):Bv (takeF b).2:=by
 unfold takeF Bv
 repeat' split
 all_goals (dsimp only; omega)
theorem Afo (f:FrameM):Bv (stripT f).2.2.2:=by
 unfold stripT Bv
 repeat' split
 all_goals (dsimp only; omega)
theorem Sn (n:Net) (port:Int) (b:List UInt8):Bv (enterT n port b).2.2:=by
 have h1:=Uq b
 have h2:=Afo (takeF b).1
 have h3:∀ f tg v,Bv (Ik n port f tg v).2.2:=fun f tg v=>by
  unfold Ik Bv
  repeat' split
  all_goals (dsimp only; omega)
 unfold enterT
 split
 ·unfold Bv; dsimp only; omega
 split
 ·exact h1
 split
 ·split
  ·exact h2
  ·exact h3 _ _ _
 ·exact h3 _ _ _
theorem Z7 (n:Net) (port:Int) (b:List UInt8):Bv (linkT n port b).2.2.2:=by
 unfold linkT
 split
 ·unfold Bv; dsimp only; omega
 ·exact Sn _ _ _
theorem Ag9 (n:Net) (port dom:Int) (f:FrameM):Bv (leaveT n port dom f).2:=by
 unfold leaveT
 split
 ·unfold Bv; dsimp only; omega
 split
 ·unfold Bv; dsimp only; omega
 split
 ·unfold Bv; dsimp only; omega
 split
 ·unfold Bv; dsimp only; omega
 split
 ·show Bv (tagT f (nth n.domains dom).vlan).2
  unfold tagT Bv
  repeat' split
  all_goals (dsimp only; omega)
 ·unfold Bv; dsimp only; omega
theorem Aji (a b:Nat) (v:Int) (f:FrameM):Bv (wrapT a b v f).2:=by
 unfold wrapT Bv
 repeat' split
 all_goals (dsimp only; omega)
theorem Ak0 (n:Net) (dom peer:Int) (f:FrameM):Bv (meshT n dom peer f).2:=by
 unfold meshT
 split
 ·unfold Bv; dsimp only; omega
 split
 ·unfold Bv; dsimp only; omega
 ·exact Aji _ _ _ _
theorem Vx (b:List UInt8):Bv (ipTakeT b).2:=by
 unfold ipTakeT Bv
 repeat' split
 all_goals (dsimp only; omega)
theorem Aa0 (b:List UInt8):Bv (udpTakeT b).2.2.2:=by
 unfold udpTakeT Bv
 repeat' split
 all_goals (dsimp only; omega)
theorem Al1 (b:List UInt8):Bv (vniT b).2.2:=by
 unfold vniT Bv
 repeat' split
 all_goals (dsimp only; omega)
theorem Ags (b:List UInt8):Bv (outerT b).2:=by
 unfold outerT
 split
 ·exact Uq _
 split
 ·unfold Bv; dsimp only; omega
 split
 ·exact Vx _
 ·unfold Bv; dsimp only; split <;> omega
theorem Ahk (b:List UInt8):Bv (innerT b).2.2:=by
 unfold innerT
 split
 ·exact Aa0 _
 split
 ·unfold Bv; dsimp only; omega
 split
 ·exact Al1 _
 split
 ·exact Uq _
 split
 ·unfold Bv; dsimp only; omega
 ·unfold Bv; dsimp only; omega
theorem Acw (b:List UInt8):Bv (unwrapT b).2.2.2.2:=by
 unfold unwrapT
 split
 ·exact Ags _
 split
 ·exact Ahk _
 ·unfold Bv; dsimp only; omega
theorem Aas (n:Net) (b:List UInt8):Bv (comeT n b).2.2.2:=by
 unfold comeT
 split
 ·unfold Bv; dsimp only; omega
 split
 ·exact Acw _
 split
 ·unfold Bv; dsimp only; omega
 split
 ·unfold Bv; dsimp only; omega
 ·unfold Bv; dsimp only; omega
theorem Anu (n:Net) (irb:Int) (f:FrameM):Bv (hopT n irb f).2.2:=by
 unfold hopT
 split
 ·unfold Bv; dsimp only; omega
 split
 ·unfold Bv; dsimp only; omega
 split
 ·exact Vx _
 split
 ·unfold Bv; dsimp only; omega
 split
 ·unfold Bv; dsimp only; omega
 split
 ·unfold Bv; dsimp only; omega
 ·unfold Bv; dsimp only; omega
theorem V3 (n:Net) (fw:List Bool) (t:List EntryM) (dom:Int) (q:QueuedM) (now:Int):Bv (bridgeT n fw t dom q now).2.2:=by
 unfold bridgeT
 split
 ·unfold Bv; dsimp only; omega
 split
 ·split
  ·exact Anu _ _ _
  ·unfold Bv; dsimp only; omega
 ·unfold Bv; dsimp only; omega
theorem Ai9 {n:Net} {dev v:Int} (h:Ch n dev v = true):DomIn n (Yu n dev v):=by
 have h1:0 ≤ Yu n dev v:=by simpa [Ch] using h
 have h2:Yu n dev v < n.domains.length:=Ir _ _
 exact ⟨h1,by omega⟩
theorem Al2 {n:Net} (hb:Ah n = true) {port:Int} (hp:Am port n.ports.length = true) {tg:Bool} {vid:Int} (h:(vlanT (nth n.ports port) tg vid).2 = true):DomIn n (Yu n (nth n.ports port).dev (vlanT (nth n.ports port) tg vid).1):=by
 have hk:=Bn hp
 have hk2:port.toNat < n.ports.length:=by omega
 simp only [Ah,Bool.and_eq_true] at hb
 have hpb:=allB_iff.1 hb.1.1.1.1.1.2 _ hk2
 rw [Ao hk2] at h ⊢
 generalize n.ports[port.toNat] = p at *
 simp only [Em,Bool.and_eq_true] at hpb
 obtain ⟨⟨⟨⟨⟨⟨⟨⟨g1,g2⟩,g3⟩,g4⟩,g5⟩,g6⟩,g7⟩,g8⟩,g9⟩:=hpb
 unfold vlanT at h ⊢
 split
 ·rw [if_pos (by assumption)] at h
  have h1:p.native ≠ 0:=by simpa using h
  have h2:0 ≤ p.native:=by simpa using g2
  refine Ai9 ?_
  have h3:decide (0 < p.native) = true:=by simp; omega
  rw [h3,Bool.true_and] at g8
  simpa using g8
 ·rw [if_neg (by assumption)] at h
  split
  ·rename_i h4
   have h5:vid ∈ p.tagged:=inB_mem.1 h4
   obtain ⟨i,hi,rfl⟩:=List.mem_iff_getElem.1 h5
   exact Ai9 (allB_iff.1 g7 i hi)
  ·rw [if_neg (by assumption)] at h
   cases h
theorem So {n:Net} {port:Int} {b:List UInt8} (h:(enterT n port b).2.2 = 0):DomIn n (enterT n port b).1:=by
 unfold enterT at h ⊢
 split
 ·rw [if_pos (by assumption)] at h; cases h
 rename_i hc
 rw [if_neg hc] at h
 have hp:Am port n.ports.length = true:=by cases hx:Am port n.ports.length; exact absurd (.inl hx) hc; rfl
 have hb:Ah n = true:=by cases hx:Ah n; exact absurd (.inr hx) hc; rfl
 have key:∀ f tg v,(Ik n port f tg v).2.2 = 0 → DomIn n (Ik n port f tg v).1:=fun f tg v h=>by
  unfold Ik at h ⊢
  split
  ·rw [if_pos (by assumption)] at h; cases h
  rw [if_neg (by assumption)] at h
  split
  ·rw [if_pos (by assumption)] at h; cases h
  rename_i h5
  show DomIn n (Kr n _ _)
  rw [Kr,if_pos hb]
  exact Al2 hb hp (by simpa using h5)
 split
 ·rename_i h2
  rw [if_pos h2] at h
  exact absurd h h2
 rename_i h2
 rw [if_neg h2] at h
 split
 ·rename_i h3
  rw [if_pos h3] at h
  split
  ·rename_i h4
   rw [if_pos h4] at h
   exact absurd h h4
  ·rename_i h4
   rw [if_neg h4] at h
   exact key _ _ _ h
 ·rename_i h3
  rw [if_neg h3] at h
  exact key _ _ _ h
theorem Z8 {n:Net} {port:Int} {b:List UInt8} (h:(linkT n port b).2.2.2 = 0):DomIn n (linkT n port b).2.1:=by
 unfold linkT at h ⊢
 split
 ·rw [if_pos (by assumption)] at h; cases h
 ·rename_i h2
  rw [if_neg h2] at h
  exact So h
theorem Xw {n:Net} (hb:Ah n = true) {dom:Nat} (hd:dom < n.domains.length) {k:Int} (hk:k ∈ n.domains[dom].peers):DomIn n k:=by
 simp only [Ah,Bool.and_eq_true] at hb
 have:=allB_iff.1 hb.1.1.1.1.1.1.2 _ hd
 obtain ⟨i,hi,rfl⟩:=List.mem_iff_getElem.1 hk
 have h2:=allB_iff.1 this i hi
 simp only [M6,Bool.and_eq_true] at h2
 exact En h2.1.1.1.1.1.1.1.1.1
theorem Aoc {n:Net} (hb:Ah n = true) {src dst:Nat} {vni:Int} (h:¬ (endsT n src dst vni).1 < 0):DomIn n (endsT n src dst vni).1 ∧ DomIn n (endsT n src dst vni).2:=by
 unfold endsT at h ⊢
 dsimp only at h ⊢
 split
 ·rw [if_pos (by assumption)] at h; exact absurd (by decide) h
 rename_i h1
 rw [if_neg h1] at h
 split
 ·rw [if_pos (by assumption)] at h; exact absurd (by decide) h
 rename_i h2
 have hd:=Ir (fun d:Domain=>decide (d.dev = C7 (fun d:Device=>decide (d.vtep = (dst:Int))) n.devices) && decide (d.vni = vni)) n.domains
 generalize C7 (fun d:Domain=>decide (d.dev = C7 (fun d:Device=>decide (d.vtep = (dst:Int))) n.devices) && decide (d.vni = vni)) n.domains = dom at *
 have hd2:dom.toNat < n.domains.length:=by omega
 have hi:=Ir (fun k:Int=>decide (Ei n k = (src:Int))) (nth n.domains dom).peers
 generalize C7 (fun k:Int=>decide (Ei n k = (src:Int))) (nth n.domains dom).peers = i at *
 rw [Ao hd2] at hi ⊢
 have hi2:i.toNat < (n.domains[dom.toNat]).peers.length:=by omega
 refine ⟨?_,⟨by dsimp only; omega,hd2⟩⟩
 show DomIn n (nth (n.domains[dom.toNat]).peers i)
 rw [Ao hi2]
 exact Xw hb hd2 (List.getElem_mem hi2)
theorem Vc {n:Net} {b:List UInt8} (h:(comeT n b).2.2.2 = 0):DomIn n (comeT n b).1 ∧ DomIn n (comeT n b).2.1:=by
 unfold comeT at h ⊢
 split
 ·rw [if_pos (by assumption)] at h; cases h
 rename_i hb
 rw [if_neg hb] at h
 split
 ·rename_i h2
  rw [if_pos h2] at h; exact absurd h h2
 rename_i h2
 rw [if_neg h2] at h
 split
 ·rw [if_pos (by assumption)] at h; cases h
 rename_i h3
 rw [if_neg h3] at h
 split
 ·rw [if_pos (by assumption)] at h; cases h
 exact Aoc (by simpa using hb) h3
theorem Anv {n:Net} {irb:Int} {f:FrameM} (hin:∀ (d:Int),(lookT n irb d).2 = true → 0 ≤ (lookT n irb d).1 ∧ (lookT n irb d).1.toNat < n.irbs.length) (h:(hopT n irb f).2.2 = 0):DomIn n (hopT n irb f).1:=by
 unfold hopT at h ⊢
 split
 ·rw [if_pos (by assumption)] at h; cases h
 rename_i h1
 rw [if_neg h1] at h
 split
 ·rw [if_pos (by assumption)] at h; cases h
 rename_i h2
 rw [if_neg h2] at h
 split
 ·rename_i h3
  rw [if_pos h3] at h; exact absurd h h3
 rename_i h3
 rw [if_neg h3] at h
 split
 ·rw [if_pos (by assumption)] at h; cases h
 rename_i h4
 rw [if_neg h4] at h
 split
 ·rw [if_pos (by assumption)] at h; cases h
 rename_i h5
 rw [if_neg h5] at h
 split
 ·rw [if_pos (by assumption)] at h; cases h
 have hl:=hin ((ipTakeT f.body).1.dst:Int) (by simpa using h5)
 have hb:Ah n = true:=by cases hx:Ah n; exact absurd (.inr hx) h1; rfl
 have:=(C2 hb hl.2).1
 show DomIn n (nth n.irbs _).domain
 rw [Ao hl.2]
 exact this
structure TabOK (t:List EntryM):Prop where
 short:Aq t
 mac:∀ e ∈ t,e.mac < 18446744073709551616
 wh:∀ e ∈ t,I64 e.where_
structure QueuedOK (q:QueuedM):Prop where
 frame:FrameOK q.frame
 from_:-2 ≤ q.from_ ∧ q.from_ < 1099511627776
 peer:0 ≤ q.peer ∧ q.peer < 1099511627776
def Dp (l:List QueuedM):Prop:=l.length ≤ 64 ∧ ∀ q ∈ l,QueuedOK q
structure MacOK (n:Net) (m:MacM) (J D:Int):Prop where
 up:m.up.length = n.links.length
 tabs:m.tables.length = n.domains.length
 ques:m.queues.length = n.domains.length
 tab:∀ t ∈ m.tables,TabOK t
 que:∀ l ∈ m.queues,Dp l
 now:0 ≤ m.now ∧ m.now ≤ 1099511627776
 inj:0 ≤ m.injected ∧ m.injected ≤ J
 drp:∀ i,0 ≤ m.drops i ∧ m.drops i ≤ D
theorem De {f:FrameM} (hf:FrameOK f) {a b:Int} (c:Int) (h1:-2 ≤ a ∧ a < 1099511627776) (h2:0 ≤ b ∧ b < 1099511627776):QueuedOK ⟨a,b,c,f⟩:=⟨hf,h1,h2⟩
theorem Anf:QueuedOK noQ:=⟨Ds,by decide,by decide⟩
theorem U0:TabOK []:=⟨by unfold Aq; decide,fun _ h=>(by cases h),fun _ h=>(by cases h)⟩
theorem Vs:Dp []:=⟨by decide,fun _ h=>(by cases h)⟩
theorem Abu {α:Type} {l:List α} {i:Nat} {x y:α} (h:y ∈ l.set i x):y = x ∨ y ∈ l:=by
 rcases List.mem_or_eq_of_mem_set h with h | h
 ·exact .inr h
 ·exact .inl h
theorem Yk {α:Type} {l:List α} {i:Nat} {d:α} (h:i < l.length):(l[i]?).getD d ∈ l:=by
 rw [List.getElem?_eq_getElem h]
 exact List.getElem_mem h
theorem Cw {n:Net} {m:MacM} {J D:Int} (h:MacOK n m J D) (dom:Int):Dp (queueL m dom):=by
 unfold queueL
 by_cases hd:dom.toNat < m.queues.length
 ·exact h.que _ (Yk hd)
 ·rw [List.getElem?_eq_none (by omega)]; exact Vs
theorem K4 {n:Net} {m:MacM} {J D:Int} (h:MacOK n m J D) (dom:Int):TabOK (tableL m dom):=by
 unfold tableL
 by_cases hd:dom.toNat < m.tables.length
 ·exact h.tab _ (Yk hd)
 ·rw [List.getElem?_eq_none (by omega)]; exact U0
theorem MacOK.mono {n:Net} {m:MacM} {J D J' D':Int} (h:MacOK n m J D) (h1:J ≤ J') (h2:D ≤ D'):MacOK n m J' D' :=
 ⟨h.up,h.tabs,h.ques,h.tab,h.que,h.now,⟨h.inj.1,by have:=h.inj.2; omega⟩,fun i=>⟨(h.drp i).1,by have:=(h.drp i).2; omega⟩⟩
theorem On {n:Net} {m:MacM} {J D:Int} (h:MacOK n m J D) (hD:0 ≤ D) (e:Int):MacOK n (Be m e) J (D + 1):=by
 refine ⟨h.up,h.tabs,h.ques,h.tab,h.que,h.now,h.inj,fun i=>?_⟩
 have:=h.drp i
 show 0 ≤ (if i = e.toNat then m.drops i + 1 else m.drops i) ∧ (if i = e.toNat then m.drops i + 1 else m.drops i) ≤ D + 1
 split <;> omega
theorem Aim {n:Net} {m:MacM} {J D:Int} (h:MacOK n m J D) (dom:Int) {l:List QueuedM} (hl:Dp l):MacOK n (Ac9 m dom l) J D:=by
 refine ⟨h.up,h.tabs,by rw [Ac9]; simp [h.ques],h.tab,fun x hx=>?_,h.now,h.inj,h.drp⟩
 rcases Abu hx with rfl | hx
 ·exact hl
 ·exact h.que x hx
theorem Aa6 {n:Net} {m:MacM} {J D:Int} (h:MacOK n m J D) (dom:Int) {l:List EntryM} (hl:TabOK l):MacOK n (Bu m dom l) J D:=by
 refine ⟨h.up,by rw [Bu]; simp [h.tabs],h.ques,fun x hx=>?_,h.que,h.now,h.inj,h.drp⟩
 rcases Abu hx with rfl | hx
 ·exact hl
 ·exact h.tab x hx
theorem Am0 {l:List QueuedM} (hl:Dp l) {q:QueuedM} (hq:QueuedOK q):Dp (pushT l q).1:=by
 unfold pushT
 split
 ·exact hl
 ·refine ⟨by simp; omega,fun x hx=>?_⟩
  rcases List.mem_append.1 hx with hx | hx
  ·exact hl.2 x hx
  ·rw [List.mem_singleton.1 hx]; exact hq
theorem Al8 {l:List QueuedM} (hl:Dp l) (at_:Int):QueuedOK (takeT l at_).1 ∧ Dp (takeT l at_).2.1:=by
 unfold takeT
 split
 ·exact ⟨Anf,hl⟩
 ·rename_i h
  refine ⟨hl.2 _ (Yk (by omega)),?_,fun x hx=>hl.2 x (List.mem_of_mem_eraseIdx hx)⟩
  have:=List.length_eraseIdx_le l at_.toNat
  have:=hl.1
  show (l.eraseIdx at_.toNat).length ≤ 64
  omega
theorem Ud {n:Net} {m:MacM} {J D:Int} (h:MacOK n m J D) (hD:0 ≤ D) (dom:Int) {q:QueuedM} (hq:QueuedOK q) (e:Int):MacOK n (comeM m dom q e) J (D + 1):=by
 unfold comeM
 split
 ·exact On h hD e
 split
 ·exact (Aim h dom (Am0 (Cw h dom) hq)).mono (Int.le_refl _) (by omega)
 ·exact On h hD 3
theorem S3 {n:Net} {m:MacM} {J D:Int} (h:MacOK n m J D) (dom at_:Int):MacOK n (takeM m dom at_).1 J D ∧ QueuedOK (takeM m dom at_).2.1:=by
 unfold takeM
 split
 ·exact ⟨h,Anf⟩
 ·have:=Al8 (Cw h dom) at_
  exact ⟨Aim h dom this.2,this.1⟩
theorem Ahl {n:Net} (hn:n.Fin) {m:MacM} {J D:Int} (h:MacOK n m J D) (hJ:0 ≤ J) (hD:0 ≤ D) (port:Int) (b:List UInt8):MacOK n (injectT n m port b) (J + 1) (D + 1):=by
 unfold injectT
 split
 ·exact h.mono (by omega) (by omega)
 ·rename_i hc
  have hp:Am port n.ports.length = true:=by cases hx:Am port n.ports.length; exact absurd (.inl hx) hc; rfl
  have hpi:=Bn hp
  have hs:=hn.ports
  unfold Aq at hs
  have h1:=h.inj
  have hm:MacOK n ⟨m.up,m.tables,m.queues,m.now,m.injected + 1,m.drops⟩ (J + 1) D:=⟨h.up,h.tabs,h.ques,h.tab,h.que,h.now,(by show 0 ≤ m.injected + 1 ∧ m.injected + 1 ≤ J + 1; omega),h.drp⟩
  exact Ud hm hD _ (De (Qf _ _ _) _ (by omega) (by omega)) _
structure OutOK (n:Net) (o:OutM):Prop where
 kind:1 ≤ o.kind ∧ o.kind ≤ 5
 bytes:o.bytes.length ≤ 1518
 frame:o.kind = 4 → FrameOK o.frame ∧ DomIn n o.domain
 err:o.kind = 5 → Bv o.error
theorem Akq {n:Net} (hn:n.Fin) (port:Int):-1 ≤ D5 n port ∧ D5 n port < 2147483648:=by
 unfold D5
 split
 ·rename_i h
  obtain ⟨⟨h1,h2⟩,h3,hb⟩:=h
  have hk:port.toNat < n.ports.length:=by omega
  rw [Ao hk] at h3 ⊢
  have hl:=(Kq hb hk h3).1
  rw [Ao hl]
  simp only [Ah,Bool.and_eq_true] at hb
  have hlb:=allB_iff.1 hb.1.1.1.1.2 _ hl
  simp only [J6,Bool.and_eq_true] at hlb
  have ha:=Bn hlb.1.1.1.1
  have hb2:=Bn hlb.1.1.1.2
  have hs:=hn.ports
  unfold Aq at hs
  split <;> omega
 ·omega
theorem Xz {n:Net} (hn:n.Fin) (port:Int) (b:List UInt8):0 ≤ (linkT n port b).1 ∧ (linkT n port b).1 < 1099511627776:=by
 have:=Akq hn port
 unfold linkT
 split <;> dsimp only <;> omega
theorem Sw {n:Net} (hn:n.Fin) (b:List UInt8):0 ≤ (comeT n b).1 ∧ (comeT n b).1 < 1099511627776:=by
 by_cases h:(comeT n b).2.2.2 = 0
 ·have:=(Vc h).1
  have hs:=hn.domains
  unfold Aq at hs
  unfold DomIn at this
  omega
 ·unfold comeT at h ⊢
  split
  ·decide
  rename_i h1
  rw [if_neg h1] at h
  split
  ·exact ⟨Int.le_refl _,by dsimp only; omega⟩
  rename_i h1
  rw [if_neg h1] at h
  split
  ·decide
  rename_i h1
  rw [if_neg h1] at h
  split
  ·decide
  rename_i h1
  rw [if_neg h1] at h
  exact absurd E h
theorem An6 {n:Net} (hn:n.Fin) {m:MacM} {J D:Int} (h:MacOK n m J D) (hD:0 ≤ D) {o:OutM} (ho:OutOK n o) (origin:Int):MacOK n (goesM n m o origin).1 J (D + 1):=by
 unfold goesM
 split
 ·exact h.mono (Int.le_refl _) (by omega)
 split
 ·have:=Xz hn o.port o.bytes
  exact Ud h hD _ (De (X0 _ _ _) _ (by omega) (by omega)) _
 split
 ·exact Ud h hD _ (De (Yw _ _) _ (by omega) (Sw hn o.bytes)) _
 split
 ·rename_i h4
  exact Ud h hD o.domain (De (a:=-2) (b:=0) (ho.frame h4).1 origin (by decide) (by decide)) 0
 ·exact On h hD _
theorem I4 {n:Net} (hn:n.Fin) (origin:Int):∀ (l:List OutM) {m:MacM} {J D:Int},MacOK n m J D → 0 ≤ D → (∀ o ∈ l,OutOK n o) → MacOK n (Ba n m origin l).1 J (D + l.length)
 | [],m,J,D,h,_,_=>by
  rw [Ba]
  exact h.mono (Int.le_refl _) (by simp)
 | o :: l,m,J,D,h,hD,ho=>by
  rw [Ba]
  have:=I4 hn origin l (An6 hn h hD (ho o (by simp)) origin) (by omega) (fun x hx=>ho x (by simp [hx]))
  exact this.mono (Int.le_refl _) (by simp only [List.length_cons]; omega)
theorem Ad9 {n:Net} {o:OutM} {r:List UInt8 × Int} (hk:1 ≤ o.kind ∧ o.kind ≤ 3) (hr:r.1.length ≤ 1518) (he:Bv r.2):OutOK n (Dz o r):=by
 unfold Dz
 split
 ·exact ⟨⟨by dsimp only; omega,by dsimp only; omega⟩,by simp,fun h=>absurd h (by dsimp only; omega),fun _=>he⟩
 ·exact ⟨⟨hk.1,by have:=hk.2; dsimp only; omega⟩,hr,fun h=>by have:=hk.2; dsimp only at h; omega,fun h=>by have:=hk.2; dsimp only at h; omega⟩
theorem Ak2 {t:List EntryM} (h:TabOK t) {m:Nat} (hm:m < 18446744073709551616) {wh:Int} (hw:I64 wh) (now:Int):TabOK (learnT t m wh now):=by
 have hs:=h.short
 unfold Aq at hs
 have key:∀ e:EntryM,e ∈ learnT t m wh now → e ∈ t ∨ e = ⟨m,wh,now⟩:=fun e he=>by
  unfold learnT at he
  split at he
  ·exact .inl he
  split at he
  ·rcases Abu he with h | h
   ·exact .inr h
   ·exact .inl h
  ·rcases List.mem_append.1 he with h | h
   ·split at h
    ·exact .inl (List.mem_of_mem_eraseIdx h)
    ·exact .inl h
   ·exact .inr (List.mem_singleton.1 h)
 refine ⟨?_,fun e he=>?_,fun e he=>?_⟩
 ·unfold learnT
  split
  ·exact h.short
  rename_i hb
  have h8:t.length ≤ 8:=by
   have:tableB t = true:=by cases hx:tableB t; exact absurd (.inl hx) hb; rfl
   simp only [tableB,Bool.and_eq_true,decide_eq_true_eq] at this
   exact this.1
  split
  ·unfold Aq; simp; omega
  ·unfold Aq
   split
   ·have:=List.length_eraseIdx_le t (oldestU t t.length)
    simp only [List.length_append,List.length_cons,List.length_nil]
    omega
   ·simp only [List.length_append,List.length_cons,List.length_nil]
    omega
 ·rcases key e he with h1 | rfl
  ·exact h.mac e h1
  ·exact hm
 ·rcases key e he with h1 | rfl
  ·exact h.wh e h1
  ·exact hw
theorem Lf {t:List EntryM} (h:TabOK t) {q:QueuedM} (hq:QueuedOK q) (now:Int):TabOK (learnQ t q now):=by
 unfold learnQ
 split
 ·exact h
 ·have hs:=hq.frame.src
  refine Ak2 h (by omega) ?_ now
  have h1:=hq.from_
  have h2:=hq.peer
  unfold I64
  split <;> omega
theorem Aqg {t:List EntryM} (h:TabOK t) (now:Int):TabOK (ageT t now):=by
 unfold ageT
 split
 ·exact h
 ·have hs:=h.short
  unfold Aq at hs
  refine ⟨?_,fun e he=>h.mac e (List.mem_filter.1 he).1,fun e he=>h.wh e (List.mem_filter.1 he).1⟩
  unfold Aq
  exact Nat.lt_of_le_of_lt (List.length_filter_le _ _) hs
theorem Ad4 (n:Net) (dom:Int):(Az n dom).length ≤ n.ports.length:=by
 rw [Az]
 have:=Ea (I1 n (nth n.domains dom)) n.ports.length
 exact this
end Go.Sy.YtmelpejjondedaaGreat
