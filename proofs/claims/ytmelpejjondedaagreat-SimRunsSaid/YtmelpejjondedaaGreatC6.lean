/-
  T1 T2 T3 T4 V6 V7 V8 T5 T6 T7 T8 T9 T10 T11 T12 T13 T15 T16 T17 T14 T19 T21 Z0 Z1 Z2: parts of a proof, joined by program.
-/
import Derived.Test.YtmelpejjondedaaGreatC3
import Derived.Test.YtmelpejjondedaaGreatC5
namespace Go.Sy.YtmelpejjondedaaGreat
open Go.Proofs
attribute [local irreducible] Go.Sy.G Go.Sy.DR
set_option maxRecDepth 20000
set_option maxHeartbeats 4000000
structure Item where
 (root cost dev:Int)
instance:Inhabited Item:=⟨⟨0,0,0⟩⟩
def Bq (x:Item):SV:=.agg [Aa x.root,Aa x.cost,Aa x.dev]
def B1 (x y:Item):Bool:=decide (x.root < y.root) || (x.root == y.root && decide (x.cost < y.cost))
theorem Uq (q:List Item):Sy.Spec Tryz.prog 234 [.sl 3 Bq q] [] (Aa q.length) []:=Ab Γ hm 100 F234 Tryz.ntmps234 rfl fun F hF=>by
 conv=>whnf
 exact Ac E (.cons .tmp .nil) E E
theorem Ju (q:List Item) (i j:Nat) (hi:i < q.length) (hj:j < q.length):Sy.Spec Tryz.prog 384 [.sl 3 Bq q,Aa i,Aa j] [] (Ad (B1 q[i] q[j])) []:=Ab Γ hm 100 F384 Tryz.ntmps384 rfl fun F hF=>by
 have e1:q[(i:Int).toNat]'(by omega) = q[i]:=rfl
 have e2:q[(j:Int).toNat]'(by omega) = q[j]:=rfl
 conv=>whnf
 (repeat' (first | (refine ⟨fun h=>?_,fun h=>?_⟩ <;> (repeat (first | simp only [decide_eq_true_eq] at h | simp only [decide_eq_false_iff_not] at h | simp only [beq_iff_eq] at h | simp only [beq_eq_false_iff_ne] at h)) <;> ((refine rd (by kernel_rfl) ?_);(conv=>whnf))) | (refine Ac rfl (.cons .tmp .nil) ?_ rfl) | (refine ⟨(by kernel_rfl),?_⟩; ((conv=>whnf))) | (refine ⟨by (omega),by (omega),?_⟩; ((conv=>whnf)))))
 all_goals (refine congrArg Ad ?_; clear hF; grind [B1])
theorem Jt (q:List Item) (i j:Nat) (hi:i < q.length) (hj:j < q.length):Sy.Spec Tryz.prog 387 [.osl 0,Aa i,Aa j] [(0,.row 3 Bq q)] (.tup []) [(0,.row 3 Bq ((q.set i q[j]).set j q[i]))]:=Ab Γ hm 100 F387 Tryz.ntmps387 rfl fun F hF=>by
 have e1:q[(i:Int).toNat]'(by omega) = q[i]:=rfl
 have e2:q[(j:Int).toNat]'(by omega) = q[j]:=rfl
 conv=>whnf
 refine ⟨by omega,by omega,?_⟩
 conv=>whnf
 refine ⟨E,by omega,?_⟩
 rw [e2]
 conv=>whnf
 refine ⟨by omega,by omega,?_⟩
 conv=>whnf
 refine ⟨E,by omega,?_⟩
 rw [e1]
 conv=>whnf
 refine ⟨by omega,by omega,?_⟩
 conv=>whnf
 refine ⟨E,by omega,q[j],E,E,?_⟩
 conv=>whnf
 refine ⟨by omega,by simp; omega,?_⟩
 conv=>whnf
 refine ⟨E,by simp; omega,q[i],E,E,?_⟩
 conv=>whnf
 refine ⟨(by kernel_rfl),?_⟩
 conv=>whnf
 exact Bx E .nil [] [(0,.row 3 Bq ((q.set i q[j]).set j q[i]))] (fun _ h=>h) E E ⟨Y,⟨.inl E,E,Y⟩,E,E⟩
theorem Af3 (q:List Item) (x:Item) (hq:q.length < 1000000):Sy.Spec Tryz.prog 386 [.ptr 0 0,.ifc 345 (Bq x)] [(0,.box [.osl 1]),(1,.row 3 Bq q)] (.tup []) [(0,.box [.osl 2]),(1,.non),(2,.row 3 Bq (q ++ [x]))]:=Ab Γ hm 100 F386 Tryz.ntmps386 rfl fun F hF=>by
 conv=>whnf
 refine Ai (Vu Γ.toTy E E E E) E E ?_
 (refine rg ?_;(conv=>whnf);refine aT ?_;refine rg ?_;conv=>whnf)
 refine Bj (Af Γ.toTy 18 E E E E E (.row E) (.lit (l:=[x]) E E) (by simp) (by simp; omega) (by simp; omega)) (by kernel_rfl) E ?_
 refine rd (by kernel_rfl) ?_;conv=>whnf
 refine ⟨(by kernel_rfl),?_⟩
 conv=>whnf
 exact Bx E .nil [(2,18)] [(0,.box [.osl 2]),(1,.non),(2,.row 3 Bq (q ++ [x]))] (fun _ h=>h) E E ⟨Y,⟨.inl E,E,.inl E,E,.inl E,E,Y⟩,E,E⟩
theorem Ajy (q:List Item) (hq:q ≠ []) (hl:q.length < 1000000):Sy.Spec Tryz.prog 385 [.ptr 0 0] [(0,.box [.osl 1]),(1,.row 3 Bq q)] (.ifc 345 (Bq (q.getLast hq))) [(0,.box [.osl 2]),(1,.non),(2,.row 3 Bq q.dropLast)]:=Ab Γ hm 100 F385 Tryz.ntmps385 rfl fun F hF=>by
 have h0:0 < q.length:=List.length_pos_iff.2 hq
 have e1:q[((q.length:Int) - 1).toNat]'(by omega) = q.getLast hq:=by
  rw [List.getLast_eq_getElem]
  congr 1
  omega
 conv=>whnf
 refine ⟨by unfold I64; omega,?_⟩
 conv=>whnf
 refine ⟨by omega,by omega,?_⟩
 conv=>whnf
 refine ⟨E,by omega,?_⟩
 rw [e1]
 conv=>whnf
 refine ⟨(by kernel_rfl),?_⟩
 conv=>whnf
 refine ⟨by unfold I64; omega,?_⟩
 conv=>whnf
 refine Bj (X3 Γ.toTy (d:=23) (hi:=q.length - 1) E E E E E (by decide) E (.inl ⟨E,E⟩) (.inr ⟨_,_,E,congrArg (fun z=>SV.val (.int .i64 z)) (by omega)⟩) (by omega)) (by kernel_rfl) E ?_
 rw [← List.dropLast_eq_take]
 refine rd (by kernel_rfl) ?_;conv=>whnf
 refine ⟨(by kernel_rfl),?_⟩
 conv=>whnf
 exact done E (.cons .tmp .nil) [(2,23)] [(0,.box [.osl 2]),(1,.non),(2,.row 3 Bq q.dropLast)] (fun _ h=>h) E E ⟨Y,⟨.inl E,E,.inl E,E,.inl E,E,Y⟩,E,E⟩
end Go.Sy.YtmelpejjondedaaGreat
namespace Go.Sy.YtmelpejjondedaaGreat
open Go.Proofs
attribute [local irreducible] Go.Sy.G Go.Sy.DR
set_option maxRecDepth 100000
set_option maxHeartbeats 4000000
theorem mLen : Meth Tryz.prog 340 "Len" 234 false 342 := .of (by kernel_rfl) Tryz.underlying340
theorem Adr : Meth Tryz.prog 340 "Less" 384 false 342 := .of (by kernel_rfl) Tryz.underlying340
theorem Adq : Meth Tryz.prog 340 "Swap" 387 false 342 := .of (by kernel_rfl) Tryz.underlying340
theorem mPush : Meth Tryz.prog 340 "Push" 386 true 342 := .of (by kernel_rfl) Tryz.underlying340
theorem mPop : Meth Tryz.prog 340 "Pop" 385 true 342 := .of (by kernel_rfl) Tryz.underlying340
def Do (q:List Item) (i j:Nat):List Item:=(q.set i (q.getD j default)).set j (q.getD i default)
theorem A6 (q:List Item) (i j:Nat):(Do q i j).length = q.length:=by simp [Do]
def upF:Nat → List Item → Nat → List Item
 | 0,q,_=>q
 | n + 1,q,j=>if j = 0 then q else if B1 (q.getD j default) (q.getD ((j - 1) / 2) default) then upF n (Do q ((j - 1) / 2) j) ((j - 1) / 2) else q
theorem Aci:∀ (n m:Nat) (q:List Item) (j:Nat),j ≤ n → j ≤ m → upF n q j = upF m q j
 | 0,m,q,j,h,_=>by
  have:j = 0:=by omega
  subst this
  cases m <;> simp [upF]
 | n + 1,0,q,j,_,h=>by
  have:j = 0:=by omega
  subst this
  simp [upF]
 | n + 1,m + 1,q,j,h1,h2=>by
  rw [upF,upF]
  split
  ·rfl
  ·split
   ·exact Aci n m _ _ (by omega) (by omega)
   ·rfl
theorem Alf (r:List Item):∀ (i:Nat),i ≠ 0 → upF i r i = if B1 (r.getD i default) (r.getD ((i - 1) / 2) default) then upF ((i - 1) / 2) (Do r ((i - 1) / 2) i) ((i - 1) / 2) else r
 | 0,h=>absurd rfl h
 | m + 1,_=>by
  rw [upF,if_neg (by omega)]
  split
  ·exact Aci _ _ _ _ (by omega) (by omega)
  ·rfl
theorem upS (q:List Item) (j:Nat) (hj:j < q.length) (hl:q.length < 1000000) :
  Sy.Spec Tryz.prog 285 [.ifc 340 (.ptr 0 0),Aa j] [(0,.box [.osl 1]),(1,.row 3 Bq q)] (.tup []) [(0,.box [.osl 1]),(1,.row 3 Bq (upF j q j))]:=Ab Γ hm 100 F285 Tryz.ntmps285 rfl fun F hF=>by
 conv=>whnf
 refine Ov (α:={p:List Item × Nat // upF p.2 p.1 p.2 = upF j q j ∧ p.1.length = q.length ∧ p.2 < p.1.length}) (fun p=>[(0,.ifc 340 (.ptr 0 0)),(1,Aa p.1.2)]) (fun p=>[(0,.box [.osl 1]),(1,.row 3 Bq p.1.1)]) (fun p=>p.1.2) ⟨(q,j),E,E,hj⟩ []
  ⟨⟨rfl,rfl,rfl,rfl,trivial⟩,⟨.inl rfl,rfl,.inl rfl,rfl,trivial⟩,rfl,rfl⟩ ?_
 rintro ⟨⟨r,i⟩,h1,h2,h3⟩
 simp only at h1 h2 h3
 dsimp only
 have hw:IntKind.i64.wrap (((i:Int) - 1).tdiv 2) = (((i - 1) / 2:Nat):Int):=by
  rcases Nat.eq_zero_or_pos i with h0 | h0
  ·subst h0; rfl
  ·have:((i:Int) - 1) = ((i - 1:Nat):Int):=by omega
   rw [this,Int.tdiv_eq_ediv_of_nonneg (by omega),IntKind.wrap_i64]
   omega
 refine rg ?_;conv=>whnf
 refine ⟨by unfold I64; omega,?_⟩
 conv=>whnf
 refine ⟨by decide,?_⟩
 rw [hw]
 conv=>whnf
 refine ⟨fun h=>?_,fun h=>?_⟩
 ·have h0:i = 0:=by
   have:(((i - 1) / 2:Nat):Int) = i:=by simpa using h
   omega
  subst h0
  have e:upF j q j = r:=by rw [← h1]; rfl
  rw [e]
  (refine rg ?_;(conv=>whnf);refine aT ?_;refine rg ?_;conv=>whnf)
  exact Bx E .nil [] [(0,.box [.osl 1]),(1,.row 3 Bq r)] (fun _ h=>h) E E ⟨Y,⟨.inl E,E,.inl E,E,Y⟩,E,E⟩
 have h0:i ≠ 0:=by
  intro h0
  subst h0
  exact absurd h (by decide)
 have hp:(i - 1) / 2 < r.length:=by omega
 have hless:=Ju r i ((i - 1) / 2) h3 hp
 refine rg ?_;conv=>whnf
 refine Ai (Dz [1] (Bo Γ.toTy Adr F384 E E E E E) hless (.cons (.row E E) (.cons (.refl _) (.cons (.refl _) .nil))) E E) E E ?_
 refine rg ?_;conv=>whnf
 have hu:upF i r i = if B1 r[i] r[(i - 1) / 2] then upF ((i - 1) / 2) (Do r ((i - 1) / 2) i) ((i - 1) / 2) else r:=by
  rw [Alf r i h0,A9 h3,A9 hp]
 refine ⟨fun h=>?_,fun h=>?_⟩
 ·have hlt:B1 r[i] r[(i - 1) / 2] = false:=by simpa using h
  have e:upF j q j = r:=by rw [← h1,hu,hlt]; rfl
  rw [e]
  refine rg ?_;conv=>whnf
  exact Bx E .nil [] [(0,.box [.osl 1]),(1,.row 3 Bq r)] (fun _ h=>h) E E ⟨Y,⟨.inl E,E,.inl E,E,Y⟩,E,E⟩
 have hlt:B1 r[i] r[(i - 1) / 2] = true:=by simpa using h
 rw [hlt,if_pos rfl] at hu
 have hsw:=Jt r ((i - 1) / 2) i hp h3
 have e:(r.set ((i - 1) / 2) r[i]).set i r[(i - 1) / 2] = Do r ((i - 1) / 2) i:=by
  rw [Do,A9 h3,A9 hp]
 rw [e] at hsw
 refine rg ?_;conv=>whnf
 refine Ai (C6 [(0,1)] (Bo Γ.toTy Adq F387 E E E E E) hsw E ⟨E,Y⟩ E ⟨.inl E,Y⟩) E E ?_
 refine rg ?_;conv=>whnf
 exact Qy (α:={p:List Item × Nat // upF p.2 p.1 p.2 = upF j q j ∧ p.1.length = q.length ∧ p.2 < p.1.length}) (L:=fun p=>[(0,.ifc 340 (.ptr 0 0)),(1,Aa p.1.2)]) (O:=fun p=>[(0,.box [.osl 1]),(1,.row 3 Bq p.1.1)]) (μ:=fun p=>p.1.2) (x:=⟨(r,i),h1,h2,h3⟩)
  ⟨(Do r ((i - 1) / 2) i,(i - 1) / 2),by rw [← h1,hu],by rw [A6]; exact h2,by rw [A6]; exact hp⟩ [] (by simp only; omega)
  ⟨⟨rfl,rfl,rfl,rfl,trivial⟩,⟨.inl rfl,rfl,.inl rfl,rfl,trivial⟩,rfl,rfl⟩
theorem Wo:∀ (n:Nat) (q:List Item) (j:Nat),(upF n q j).length = q.length
 | 0,q,j=>rfl
 | n + 1,q,j=>by
  rw [upF]
  split
  ·rfl
  ·split
   ·rw [Wo n,A6]
   ·rfl
def Qp (q:List Item) (x:Item):List Item:=upF q.length (q ++ [x]) q.length
theorem Z7 (q:List Item) (x:Item) (hl:q.length < 999999) :
  Sy.Spec Tryz.prog 233 [.ifc 340 (.ptr 0 0),.ifc 345 (Bq x)] [(0,.box [.osl 1]),(1,.row 3 Bq q)] (.tup []) [(0,.box [.osl 2]),(1,.non),(2,.row 3 Bq (Qp q x))]:=Ab Γ hm 100 F233 Tryz.ntmps233 rfl fun F hF=>by
 have hpush:=Af3 q x (by omega)
 have hlen:=Uq (q ++ [x])
 have hup:=upS (q ++ [x]) q.length (by simp) (by simp; omega)
 have hln:(((q ++ [x]).length:Nat):Int) - 1 = (q.length:Int):=by simp
 conv=>whnf
 refine Ai (C6 (rd:=[]) [(2,6)] (Qx mPush F386 E E) hpush E ⟨E,E,Y⟩ E ⟨.inl E,.inl E,.inr E,Y⟩) E E ?_
 refine rg ?_;conv=>whnf
 refine Ai (Dz [6] (Bo Γ.toTy mLen F234 E E E E E) hlen (.cons (.row E E) .nil) E E) E E ?_
 refine rg ?_;conv=>whnf
 refine ⟨by unfold I64; simp; omega,?_⟩
 rw [hln]
 conv=>whnf
 refine Ai (Ak [(1,6)] E F285 hup E ⟨E,E,Y⟩ E ⟨.inl E,.inl E,Y⟩) E E ?_
 refine rg ?_;conv=>whnf
 exact Bx E .nil [(2,6)] [(0,.box [.osl 2]),(1,.non),(2,.row 3 Bq (Qp q x))] (fun _ h=>h) E E ⟨Y,⟨.inl E,E,.inl E,E,.inl E,E,Y⟩,E,E⟩
def Dj (q:List Item) (i n:Nat):Nat:=if 2 * i + 2 < n ∧ B1 (q.getD (2 * i + 2) default) (q.getD (2 * i + 1) default) = true then 2 * i + 2 else 2 * i + 1
theorem Ll (q:List Item) (i n:Nat) (h:2 * i + 1 < n):Dj q i n < n ∧ i < Dj q i n:=by
 unfold Dj
 split <;> omega
def Dm:Nat → List Item → Nat → Nat → List Item × Nat
 | 0,q,i,_=>(q,i)
 | f + 1,q,i,n=>if 2 * i + 1 < n then (if B1 (q.getD (Dj q i n) default) (q.getD i default) then Dm f (Do q i (Dj q i n)) (Dj q i n) n else (q,i)) else (q,i)
theorem Sm:∀ (f g:Nat) (q:List Item) (i n:Nat),n ≤ f + i → n ≤ g + i → Dm f q i n = Dm g q i n
 | 0,g,q,i,n,h1,h2=>by
  cases g with
  | zero=>rfl
  | succ g=>rw [Dm,Dm,if_neg (by omega)]
 | f + 1,0,q,i,n,h1,h2=>by rw [Dm,Dm,if_neg (by omega)]
 | f + 1,g + 1,q,i,n,h1,h2=>by
  rw [Dm,Dm]
  split
  ·rename_i h
   have:=Ll q i n h
   split
   ·exact Sm f g _ _ n (by omega) (by omega)
   ·rfl
  ·rfl
theorem Ahe (r:List Item) (i n:Nat):Dm (n - i) r i n = if 2 * i + 1 < n then (if B1 (r.getD (Dj r i n) default) (r.getD i default) then Dm (n - Dj r i n) (Do r i (Dj r i n)) (Dj r i n) n else (r,i)) else (r,i):=by
 rw [Sm (n - i) (n - i + 1) r i n (by omega) (by omega),Dm]
 split
 ·rename_i h
  have:=Ll r i n h
  split
  ·exact Sm _ _ _ _ _ (by omega) (by omega)
  ·rfl
 ·rfl
theorem T3:∀ (f:Nat) (q:List Item) (i n:Nat),(Dm f q i n).1.length = q.length
 | 0,_,_,_=>rfl
 | f + 1,q,i,n=>by
  rw [Dm]
  split
  ·split
   ·rw [T3 f,A6]
   ·rfl
  ·rfl
theorem downS (q:List Item) (i0 n:Nat) (hn:n ≤ q.length) (hi:i0 < q.length) (hl:q.length < 1000000) :
  Sy.Spec Tryz.prog 286 [.ifc 340 (.ptr 0 0),Aa i0,Aa n] [(0,.box [.osl 1]),(1,.row 3 Bq q)] (Ad (decide (((Dm (n - i0) q i0 n).2:Int) > i0))) [(0,.box [.osl 1]),(1,.row 3 Bq (Dm (n - i0) q i0 n).1)]:=Ab Γ hm 100 F286 Tryz.ntmps286 rfl fun F hF=>by
 generalize hD:Dm (n - i0) q i0 n = D
 conv=>whnf
 refine Ov (α:={p:List Item × Nat // Dm (n - p.2) p.1 p.2 n = D ∧ p.1.length = q.length ∧ p.2 < p.1.length}) (fun p=>[(0,.ifc 340 (.ptr 0 0)),(1,Aa i0),(2,Aa n),(7,Aa p.1.2)]) (fun p=>[(0,.box [.osl 1]),(1,.row 3 Bq p.1.1)]) (fun p=>n - p.1.2) ⟨(q,i0),hD,E,hi⟩ []
  ⟨⟨rfl,rfl,rfl,rfl,rfl,rfl,rfl,rfl,trivial⟩,⟨.inl rfl,rfl,.inl rfl,rfl,trivial⟩,rfl,rfl⟩ ?_
 rintro ⟨⟨r,i⟩,h1,h2,h3⟩
 simp only at h1 h2 h3
 dsimp only
 have h10:=h1
 rw [Ahe] at h1
 have hj1:(2:Int) * i + 1 = ((2 * i + 1:Nat):Int):=by omega
 have hj2:((2 * i + 1:Nat):Int) + 1 = ((2 * i + 2:Nat):Int):=by omega
 refine rg ?_;conv=>whnf
 refine ⟨by unfold I64; omega,?_⟩
 conv=>whnf
 refine ⟨by unfold I64; omega,?_⟩
 rw [hj1]
 conv=>whnf
 refine ⟨fun h=>?_,fun h=>?_⟩
 ·have hge:¬ 2 * i + 1 < n:=by have:=of_decide_eq_true h; omega
  rw [if_neg hge] at h1
  rw [← h1]
  (refine rg ?_;(conv=>whnf);refine aT ?_;refine rg ?_;conv=>whnf)
  exact done E (.cons .tmp .nil) [] [(0,.box [.osl 1]),(1,.row 3 Bq r)] (fun _ h=>h) E E ⟨Y,⟨.inl E,E,.inl E,E,Y⟩,E,E⟩
 have hlt:2 * i + 1 < n:=by have:=of_decide_eq_false h; omega
 rw [if_pos hlt] at h1
 (refine rg ?_;(conv=>whnf);refine aF ?_;refine rg ?_;conv=>whnf)
 refine ⟨by unfold I64; omega,?_⟩
 rw [hj2]
 conv=>whnf
 refine ⟨fun h=>?_,fun h=>?_⟩
 ·have h2n:2 * i + 2 < n:=by have:=of_decide_eq_true h; omega
  have hA:2 * i + 2 < r.length:=by omega
  have hB:2 * i + 1 < r.length:=by omega
  have hlc:=Ju r (2 * i + 2) (2 * i + 1) hA hB
  refine rg ?_;conv=>whnf
  refine Ai (Dz [1] (Bo Γ.toTy Adr F384 E E E E E) hlc (.cons (.row E E) (.cons (.refl _) (.cons (.refl _) .nil))) E E) E E ?_
  refine rg ?_;conv=>whnf
  refine ⟨fun h=>?_,fun h=>?_⟩
  ·have hc:Dj r i n = 2 * i + 2:=by rw [Dj,if_pos ⟨h2n,by rw [A9 hA,A9 hB]; exact h⟩]
   have hJ:=hA
   refine rg ?_;conv=>whnf
   rw [hc,A9 hJ,A9 h3] at h1
   have hls:=Ju r (2 * i + 2) i hJ h3
   refine Ai (Dz [1] (Bo Γ.toTy Adr F384 E E E E E) hls (.cons (.row E E) (.cons (.refl _) (.cons (.refl _) .nil))) E E) E E ?_
   refine rg ?_;conv=>whnf
   refine ⟨fun h=>?_,fun h=>?_⟩
   ·have hf:B1 r[2 * i + 2] r[i] = false:=by simpa using h
    rw [hf] at h1
    have e:D = (r,i):=h1.symm
    rw [e]
    refine rg ?_;conv=>whnf
    exact done E (.cons .tmp .nil) [] [(0,.box [.osl 1]),(1,.row 3 Bq r)] (fun _ h=>h) E E ⟨Y,⟨.inl E,E,.inl E,E,Y⟩,E,E⟩
   have hf:B1 r[2 * i + 2] r[i] = true:=by simpa using h
   rw [hf,if_pos rfl] at h1
   have hsw:=Jt r i (2 * i + 2) h3 hJ
   have e:(r.set i r[2 * i + 2]).set (2 * i + 2) r[i] = Do r i (2 * i + 2):=by
    rw [Do,A9 h3,A9 hJ]
   rw [e] at hsw
   refine rg ?_;conv=>whnf
   refine Ai (C6 [(0,1)] (Bo Γ.toTy Adq F387 E E E E E) hsw E ⟨E,Y⟩ E ⟨.inl E,Y⟩) E E ?_
   refine rg ?_;conv=>whnf
   exact Qy (α:={p:List Item × Nat // Dm (n - p.2) p.1 p.2 n = D ∧ p.1.length = q.length ∧ p.2 < p.1.length}) (L:=fun p=>[(0,.ifc 340 (.ptr 0 0)),(1,Aa i0),(2,Aa n),(7,Aa p.1.2)]) (O:=fun p=>[(0,.box [.osl 1]),(1,.row 3 Bq p.1.1)]) (μ:=fun p=>n - p.1.2) (x:=⟨(r,i),h10,h2,h3⟩)
    ⟨(Do r i (2 * i + 2),2 * i + 2),h1,by rw [A6]; exact h2,by rw [A6]; exact hJ⟩ [] (by simp only; omega)
    ⟨⟨rfl,rfl,rfl,rfl,rfl,rfl,rfl,rfl,trivial⟩,⟨.inl rfl,rfl,.inl rfl,rfl,trivial⟩,rfl,rfl⟩
  ·have hc:Dj r i n = 2 * i + 1:=by rw [Dj,if_neg (fun hh=>by rw [A9 hA,A9 hB,h] at hh; exact absurd hh.2 (by simp))]
   have hJ:=hB
   refine rg ?_;conv=>whnf
   rw [hc,A9 hJ,A9 h3] at h1
   have hls:=Ju r (2 * i + 1) i hJ h3
   refine Ai (Dz [1] (Bo Γ.toTy Adr F384 E E E E E) hls (.cons (.row E E) (.cons (.refl _) (.cons (.refl _) .nil))) E E) E E ?_
   refine rg ?_;conv=>whnf
   refine ⟨fun h=>?_,fun h=>?_⟩
   ·have hf:B1 r[2 * i + 1] r[i] = false:=by simpa using h
    rw [hf] at h1
    have e:D = (r,i):=h1.symm
    rw [e]
    refine rg ?_;conv=>whnf
    exact done E (.cons .tmp .nil) [] [(0,.box [.osl 1]),(1,.row 3 Bq r)] (fun _ h=>h) E E ⟨Y,⟨.inl E,E,.inl E,E,Y⟩,E,E⟩
   have hf:B1 r[2 * i + 1] r[i] = true:=by simpa using h
   rw [hf,if_pos rfl] at h1
   have hsw:=Jt r i (2 * i + 1) h3 hJ
   have e:(r.set i r[2 * i + 1]).set (2 * i + 1) r[i] = Do r i (2 * i + 1):=by
    rw [Do,A9 h3,A9 hJ]
   rw [e] at hsw
   refine rg ?_;conv=>whnf
   refine Ai (C6 [(0,1)] (Bo Γ.toTy Adq F387 E E E E E) hsw E ⟨E,Y⟩ E ⟨.inl E,Y⟩) E E ?_
   refine rg ?_;conv=>whnf
   exact Qy (α:={p:List Item × Nat // Dm (n - p.2) p.1 p.2 n = D ∧ p.1.length = q.length ∧ p.2 < p.1.length}) (L:=fun p=>[(0,.ifc 340 (.ptr 0 0)),(1,Aa i0),(2,Aa n),(7,Aa p.1.2)]) (O:=fun p=>[(0,.box [.osl 1]),(1,.row 3 Bq p.1.1)]) (μ:=fun p=>n - p.1.2) (x:=⟨(r,i),h10,h2,h3⟩)
    ⟨(Do r i (2 * i + 1),2 * i + 1),h1,by rw [A6]; exact h2,by rw [A6]; exact hJ⟩ [] (by simp only; omega)
    ⟨⟨rfl,rfl,rfl,rfl,rfl,rfl,rfl,rfl,trivial⟩,⟨.inl rfl,rfl,.inl rfl,rfl,trivial⟩,rfl,rfl⟩
 ·have h2n:¬ 2 * i + 2 < n:=by have:=of_decide_eq_false h; omega
  have hJ:2 * i + 1 < r.length:=by omega
  have hc:Dj r i n = 2 * i + 1:=by rw [Dj,if_neg (fun hh=>h2n hh.1)]
  (refine rg ?_;(conv=>whnf);refine aF ?_;refine rg ?_;conv=>whnf)
  rw [hc,A9 hJ,A9 h3] at h1
  have hls:=Ju r (2 * i + 1) i hJ h3
  refine Ai (Dz [1] (Bo Γ.toTy Adr F384 E E E E E) hls (.cons (.row E E) (.cons (.refl _) (.cons (.refl _) .nil))) E E) E E ?_
  refine rg ?_;conv=>whnf
  refine ⟨fun h=>?_,fun h=>?_⟩
  ·have hf:B1 r[2 * i + 1] r[i] = false:=by simpa using h
   rw [hf] at h1
   have e:D = (r,i):=h1.symm
   rw [e]
   refine rg ?_;conv=>whnf
   exact done E (.cons .tmp .nil) [] [(0,.box [.osl 1]),(1,.row 3 Bq r)] (fun _ h=>h) E E ⟨Y,⟨.inl E,E,.inl E,E,Y⟩,E,E⟩
  have hf:B1 r[2 * i + 1] r[i] = true:=by simpa using h
  rw [hf,if_pos rfl] at h1
  have hsw:=Jt r i (2 * i + 1) h3 hJ
  have e:(r.set i r[2 * i + 1]).set (2 * i + 1) r[i] = Do r i (2 * i + 1):=by
   rw [Do,A9 h3,A9 hJ]
  rw [e] at hsw
  refine rg ?_;conv=>whnf
  refine Ai (C6 [(0,1)] (Bo Γ.toTy Adq F387 E E E E E) hsw E ⟨E,Y⟩ E ⟨.inl E,Y⟩) E E ?_
  refine rg ?_;conv=>whnf
  exact Qy (α:={p:List Item × Nat // Dm (n - p.2) p.1 p.2 n = D ∧ p.1.length = q.length ∧ p.2 < p.1.length}) (L:=fun p=>[(0,.ifc 340 (.ptr 0 0)),(1,Aa i0),(2,Aa n),(7,Aa p.1.2)]) (O:=fun p=>[(0,.box [.osl 1]),(1,.row 3 Bq p.1.1)]) (μ:=fun p=>n - p.1.2) (x:=⟨(r,i),h10,h2,h3⟩)
   ⟨(Do r i (2 * i + 1),2 * i + 1),h1,by rw [A6]; exact h2,by rw [A6]; exact hJ⟩ [] (by simp only; omega)
   ⟨⟨rfl,rfl,rfl,rfl,rfl,rfl,rfl,rfl,trivial⟩,⟨.inl rfl,rfl,.inl rfl,rfl,trivial⟩,rfl,rfl⟩
def Cw (q:List Item):List Item:=(Dm (q.length - 1 - 0) (Do q 0 (q.length - 1)) 0 (q.length - 1)).1
theorem Dw (q:List Item):(Cw q).length = q.length:=by rw [Cw,T3,A6]
theorem Dn {q:List Item} (h:q ≠ []):Cw q ≠ []:=fun e=>h (List.eq_nil_of_length_eq_zero (by rw [← Dw,e]; rfl))
theorem Am9 (q:List Item) (hq:q ≠ []) (hl:q.length < 1000000) :
  Sy.Spec Tryz.prog 235 [.ifc 340 (.ptr 0 0)] [(0,.box [.osl 1]),(1,.row 3 Bq q)] (.ifc 345 (Bq ((Cw q).getLast (Dn hq)))) [(0,.box [.osl 2]),(1,.non),(2,.row 3 Bq (Cw q).dropLast)]:=Ab Γ hm 100 F235 Tryz.ntmps235 rfl fun F hF=>by
 have h0:0 < q.length:=List.length_pos_iff.2 hq
 have hlen:=Uq q
 have hsw:=Jt q 0 (q.length - 1) h0 (by omega)
 have e:(q.set 0 q[q.length - 1]).set (q.length - 1) q[0] = Do q 0 (q.length - 1):=by
  rw [Do,A9 (show q.length - 1 < q.length by omega),A9 h0]
 rw [e] at hsw
 have hdn:=downS (Do q 0 (q.length - 1)) 0 (q.length - 1) (by rw [A6]; omega) (by rw [A6]; exact h0) (by rw [A6]; exact hl)
 have hpop:=Ajy (Cw q) (Dn hq) (by rw [Dw]; exact hl)
 have hln:(q.length:Int) - 1 = ((q.length - 1:Nat):Int):=by omega
 conv=>whnf
 refine Ai (Dz [1] (Bo Γ.toTy mLen F234 E E E E E) hlen (.cons (.row E E) .nil) E E) E E ?_
 refine rg ?_;conv=>whnf
 refine ⟨by unfold I64; omega,?_⟩
 rw [hln]
 conv=>whnf
 refine Ai (C6 [(0,1)] (Bo Γ.toTy Adq F387 E E E E E) hsw E ⟨E,Y⟩ E ⟨.inl E,Y⟩) E E ?_
 refine rg ?_;conv=>whnf
 refine Ai (Ak [] E F286 hdn E ⟨E,E,Y⟩ E ⟨.inl E,.inl E,Y⟩) E E ?_
 refine rg ?_;conv=>whnf
 refine Ai (C6 (rd:=[]) [(2,14)] (Qx mPop F385 E E) hpop E ⟨E,E,Y⟩ E ⟨.inl E,.inl E,.inr E,Y⟩) E E ?_
 refine rg ?_;conv=>whnf
 exact done E (.cons .tmp .nil) [(2,14)] [(0,.box [.osl 2]),(1,.non),(2,.row 3 Bq (Cw q).dropLast)] (fun _ h=>h) E E ⟨Y,⟨.inl E,E,.inl E,E,.inl E,E,Y⟩,E,E⟩
end Go.Sy.YtmelpejjondedaaGreat
namespace Go.Sy.YtmelpejjondedaaGreat
open Go.Proofs
attribute [local irreducible] Go.Sy.G Go.Sy.DR
set_option maxRecDepth 20000
set_option maxHeartbeats 4000000
theorem great1 {n:Net} (h:n.ports.any (fun p=>decide (100 < p.tagged.length)) = true):H9 n = true:=by simp only [H9,h,Bool.or_true,Bool.true_or]
theorem great2 {n:Net} (h:n.domains.any (fun p=>decide (100 < p.peers.length)) = true):H9 n = true:=by simp only [H9,h,Bool.or_true,Bool.true_or]
theorem great3 {n:Net} (h:n.floods.any (fun p=>decide (100 < p.addrs.length)) = true):H9 n = true:=by simp only [H9,h,Bool.or_true,Bool.true_or]
theorem great4 {n:Net} (h:n.vrfs.any (fun v=>decide (100 < v.imports.length) || decide (100 < v.exports.length)) = true):H9 n = true:=by simp only [H9,h,Bool.or_true]
theorem greatS (n:Net):Sy.Spec Tryz.prog 10 [Ap n] [] (Ad (H9 n)) []:=Ab Γ hm 100 F10 Tryz.ntmps10 rfl fun F hF=>by
 conv=>whnf
 (repeat' (first | (refine ⟨fun h=>?_,fun h=>?_⟩ <;> (repeat (first | simp only [decide_eq_true_eq] at h | simp only [decide_eq_false_iff_not] at h)) <;> ((refine rg ?_);(conv=>whnf);repeat((refine aT ?_);(refine rg ?_);(conv=>whnf)))) | (refine Ac rfl (.cons .tmp .nil) ?_ rfl)))
 all_goals first
  | (refine congrArg Ad ?_; clear hF; grind [H9])
  | skip
 have l1:n.ports.length ≤ 200:=by omega
 have l2:n.domains.length ≤ 200:=by omega
 have l3:n.floods.length ≤ 200:=by omega
 have l4:n.vrfs.length ≤ 200:=by omega
 refine Bf 1 8 (Ap n) E E E ?_
 refine A2 n.ports.length (fun j=>C8 (fun _ p=>!(decide (100 < p.tagged.length))) n.ports j) (fun j=>[(1,.ref 8 (Ap n) 0),(3,Aa j)]) (fun _=>[]) [] (A5 _ _) ⟨⟨E,E,E,E,Y⟩,Y,E,E⟩ ?_
 intro j hj hI
 refine rg ?_;conv=>whnf
 refine ⟨fun h=>?_,fun h=>?_⟩
 ·have hjl:j < n.ports.length:=by simpa using h
  refine rg ?_;conv=>whnf
  (repeat' (first | (refine ⟨fun h=>?_,fun h=>?_⟩ <;> (repeat (first | simp only [decide_eq_true_eq] at h | simp only [decide_eq_false_iff_not] at h)) <;> ((refine rg ?_);(conv=>whnf))) | (refine Ac rfl (.cons .tmp .nil) ?_ rfl) | (refine ⟨(by kernel_rfl),?_⟩; ((conv=>whnf))) | (refine ⟨by (omega),by (omega),?_⟩; ((conv=>whnf))) | (refine ⟨by (unfold I64; omega),?_⟩; ((conv=>whnf))) | refine Aw [] hI hjl ?_ ⟨⟨rfl,rfl,rfl,rfl,trivial⟩,trivial,rfl,rfl⟩))
  all_goals (simp only [Int.toNat_natCast] at *)
  ·refine congrArg Ad ?_
   exact great1 (Ln hjl (by simp; omega))
  ·exact A3 hI hjl (by simp; omega)
 have a1:n.ports.any (fun p=>decide (100 < p.tagged.length)) = false:=Jj hI (by simpa using h)
 clear hI hj h
 refine rg ?_;conv=>whnf
 refine A2 n.domains.length (fun j=>C8 (fun _ p=>!(decide (100 < p.peers.length))) n.domains j) (fun j=>[(1,.ref 8 (Ap n) 0),(4,Aa j)]) (fun _=>[]) [] (A5 _ _) ⟨⟨E,E,E,E,Y⟩,Y,E,E⟩ ?_
 intro j hj hI
 refine rg ?_;conv=>whnf
 refine ⟨fun h=>?_,fun h=>?_⟩
 ·have hjl:j < n.domains.length:=by simpa using h
  refine rg ?_;conv=>whnf
  (repeat' (first | (refine ⟨fun h=>?_,fun h=>?_⟩ <;> (repeat (first | simp only [decide_eq_true_eq] at h | simp only [decide_eq_false_iff_not] at h)) <;> ((refine rg ?_);(conv=>whnf))) | (refine Ac rfl (.cons .tmp .nil) ?_ rfl) | (refine ⟨(by kernel_rfl),?_⟩; ((conv=>whnf))) | (refine ⟨by (omega),by (omega),?_⟩; ((conv=>whnf))) | (refine ⟨by (unfold I64; omega),?_⟩; ((conv=>whnf))) | refine Aw [] hI hjl ?_ ⟨⟨rfl,rfl,rfl,rfl,trivial⟩,trivial,rfl,rfl⟩))
  all_goals (simp only [Int.toNat_natCast] at *)
  ·refine congrArg Ad ?_
   exact great2 (Ln hjl (by simp; omega))
  ·exact A3 hI hjl (by simp; omega)
 have a2:n.domains.any (fun p=>decide (100 < p.peers.length)) = false:=Jj hI (by simpa using h)
 clear hI hj h
 refine rg ?_;conv=>whnf
 refine A2 n.floods.length (fun j=>C8 (fun _ p=>!(decide (100 < p.addrs.length))) n.floods j) (fun j=>[(1,.ref 8 (Ap n) 0),(5,Aa j)]) (fun _=>[]) [] (A5 _ _) ⟨⟨E,E,E,E,Y⟩,Y,E,E⟩ ?_
 intro j hj hI
 refine rg ?_;conv=>whnf
 refine ⟨fun h=>?_,fun h=>?_⟩
 ·have hjl:j < n.floods.length:=by simpa using h
  refine rg ?_;conv=>whnf
  (repeat' (first | (refine ⟨fun h=>?_,fun h=>?_⟩ <;> (repeat (first | simp only [decide_eq_true_eq] at h | simp only [decide_eq_false_iff_not] at h)) <;> ((refine rg ?_);(conv=>whnf))) | (refine Ac rfl (.cons .tmp .nil) ?_ rfl) | (refine ⟨(by kernel_rfl),?_⟩; ((conv=>whnf))) | (refine ⟨by (omega),by (omega),?_⟩; ((conv=>whnf))) | (refine ⟨by (unfold I64; omega),?_⟩; ((conv=>whnf))) | refine Aw [] hI hjl ?_ ⟨⟨rfl,rfl,rfl,rfl,trivial⟩,trivial,rfl,rfl⟩))
  all_goals (simp only [Int.toNat_natCast] at *)
  ·refine congrArg Ad ?_
   exact great3 (Ln hjl (by simp; omega))
  ·exact A3 hI hjl (by simp; omega)
 have a3:n.floods.any (fun p=>decide (100 < p.addrs.length)) = false:=Jj hI (by simpa using h)
 clear hI hj h
 refine rg ?_;conv=>whnf
 refine A2 n.vrfs.length (fun j=>C8 (fun _ v=>!(decide (100 < v.imports.length) || decide (100 < v.exports.length))) n.vrfs j) (fun j=>[(1,.ref 8 (Ap n) 0),(6,Aa j)]) (fun _=>[]) [] (A5 _ _) ⟨⟨E,E,E,E,Y⟩,Y,E,E⟩ ?_
 intro j hj hI
 refine rg ?_;conv=>whnf
 refine ⟨fun h=>?_,fun h=>?_⟩
 ·have hjl:j < n.vrfs.length:=by simpa using h
  refine rg ?_;conv=>whnf
  (repeat' (first | (refine ⟨fun h=>?_,fun h=>?_⟩ <;> (repeat (first | simp only [decide_eq_true_eq] at h | simp only [decide_eq_false_iff_not] at h)) <;> ((refine rg ?_);(conv=>whnf);repeat((refine aT ?_);(refine rg ?_);(conv=>whnf)))) | (refine Ac rfl (.cons .tmp .nil) ?_ rfl) | (refine ⟨(by kernel_rfl),?_⟩; ((conv=>whnf))) | (refine ⟨by (omega),by (omega),?_⟩; ((conv=>whnf))) | (refine ⟨by (unfold I64; omega),?_⟩; ((conv=>whnf))) | refine Aw [] hI hjl ?_ ⟨⟨rfl,rfl,rfl,rfl,trivial⟩,trivial,rfl,rfl⟩))
  all_goals (simp only [Int.toNat_natCast] at *)
  all_goals first
   | exact A3 hI hjl (by simp; omega)
   | (refine congrArg Ad ?_; exact great4 (Ln hjl (by simp; omega)))
 have a4:n.vrfs.any (fun v=>decide (100 < v.imports.length) || decide (100 < v.exports.length)) = false:=Jj hI (by simpa using h)
 clear hI hj h
 refine rg ?_;conv=>whnf
 refine Ac E (.cons .tmp .nil) (congrArg Ad ?_) E
 rw [H9,a1,a2,a3,a4]
 simp
 omega
def Cr:Vec → List Vec → Vec
 | v,[]=>v
 | v,x :: l=>Cr (if Cc x v then x else v) l
def Apz:Vec:=⟨0,0,0,0,0⟩
def Hg:List Vec → Vec × Bool
 | []=>(Apz,false)
 | v :: l=>(Cr v (v :: l),true)
theorem Kg (a:Vec):Cc a a = false:=by simp [Cc]
theorem Agl {a b:Vec} (h:Cc a b = true):Cc b a = false:=by
 unfold Cc at *
 grind
theorem Sd {a b:Vec} (h:a ≠ b):Cc a b = true ∨ Cc b a = true:=by
 obtain ⟨a1,a2,a3,a4,a5⟩:=a
 obtain ⟨b1,b2,b3,b4,b5⟩:=b
 simp only [ne_eq,Vec.mk.injEq] at h
 simp only [Cc]
 grind
theorem Sc {a b c:Vec} (h1:Cc a b = true) (h2:Cc b c = true):Cc a c = true:=by
 obtain ⟨a1,a2,a3,a4,a5⟩:=a
 obtain ⟨b1,b2,b3,b4,b5⟩:=b
 obtain ⟨c1,c2,c3,c4,c5⟩:=c
 simp only [Cc] at *
 grind
theorem Xo:∀ (v:Vec) (l:List Vec),Cr v l = v ∨ Cr v l ∈ l
 | v,[]=>.inl rfl
 | v,x :: l=>by
  rw [Cr]
  rcases Xo (if Cc x v then x else v) l with h | h
  ·rw [h]
   split
   ·exact .inr (by simp)
   ·exact .inl E
  ·exact .inr (by simp [h])
theorem Zy:∀ (v:Vec) (l:List Vec),Cc v (Cr v l) = false ∧ ∀ x ∈ l,Cc x (Cr v l) = false
 | v,[]=>⟨Kg v,by simp⟩
 | v,x :: l=>by
  rw [Cr]
  obtain ⟨h1,h2⟩:=Zy (if Cc x v then x else v) l
  have key:Cc v (Cr (if Cc x v then x else v) l) = false ∧ Cc x (Cr (if Cc x v then x else v) l) = false:=by
   generalize Cr (if Cc x v then x else v) l = m at *
   cases hx:Cc x v with
   | true =>
    rw [hx] at h1
    simp only [if_true] at h1
    refine ⟨?_,h1⟩
    cases hv:Cc v m with
    | false=>rfl
    | true=>rw [Sc hx hv] at h1; cases h1
   | false =>
    rw [hx] at h1
    simp only [Bool.false_eq_true,if_false] at h1
    refine ⟨h1,?_⟩
    cases hv:Cc x m with
    | false=>rfl
    | true =>
     by_cases hxv:x = v
     ·subst hxv; rw [hv] at h1; cases h1
     ·rcases Sd hxv with h3 | h3
      ·rw [hx] at h3; cases h3
      ·rw [Sc h3 hv] at h1; cases h1
  refine ⟨key.1,fun y hy=>?_⟩
  rcases List.mem_cons.1 hy with rfl | hy
  ·exact key.2
  ·exact h2 y hy
theorem Adw (v:Vec) (l:List Vec) (j:Nat) (h:j < l.length):Cr v (l.take (j + 1)) = (if Cc l[j] (Cr v (l.take j)) then l[j] else Cr v (l.take j)):=by
 have key:∀ (a b:List Vec) (v:Vec),Cr v (a ++ b) = Cr (Cr v a) b:=by
  intro a
  induction a with
  | nil=>intro b v; rfl
  | cons x a ih=>intro b v; rw [List.cons_append,Cr,Cr,ih]
 rw [List.take_succ_eq_append_getElem h,key]
 rfl
theorem leastS (l:List Vec) (hl:Aq l):Sy.Spec Tryz.prog 236 [.sl 5 Dk l] [] (.tup [Dk (Hg l).1,Ad (Hg l).2]) []:=Ab Γ hm 100 F236 Tryz.ntmps236 rfl fun F hF=>by
 unfold Aq at hl
 have hR:∀ h:0 < l.length,Hg l = (Cr l[0] l,true):=fun h=>by
  cases l with
  | nil=>simp at h
  | cons v t=>rfl
 conv=>whnf
 refine ⟨fun h=>?_,fun h=>?_⟩
 ·have:l = []:=List.eq_nil_of_length_eq_zero (by have:(l.length:Int) = 0:=(by simpa using h); omega)
  subst this
  refine rg ?_;conv=>whnf
  exact done E (.cons (.cell E E E E) (.cons .tmp .nil)) [] [] (fun _ h=>h) E E ⟨Y,Y,E,E⟩
 have h0:0 < l.length:=by
  have:¬ (l.length:Int) = 0:=by simpa using h
  omega
 rw [hR h0]
 refine rg ?_;conv=>whnf
 refine ⟨E,by decide,h0,?_⟩
 conv=>whnf
 have e0:l[(0:Int).toNat]'(h0) = l[0]:=rfl
 generalize hv:l[0] = v at *
 refine Av l.length (fun j=>[(0,.sl 5 Dk l),(2,.ptr 2 0),(4,.ptr 4 0),(14,.sl 5 Dk l),(15,Aa l.length),(16,Aa j)]) (fun j=>[(2,.box [Aa 0,Aa 0,Aa 0,Aa 0,Aa 0]),(4,.box [Aa (Cr v (l.take j)).root,Aa (Cr v (l.take j)).cost,Aa (Cr v (l.take j)).bridge,Aa (Cr v (l.take j)).port,Aa (Cr v (l.take j)).own])]) []
  ⟨⟨rfl,rfl,rfl,rfl,rfl,rfl,rfl,rfl,rfl,rfl,rfl,rfl,trivial⟩,⟨.inl rfl,rfl,.inl (by subst hv; rfl),rfl,trivial⟩,rfl,rfl⟩ ?_
 intro j hj
 refine rg ?_;conv=>whnf
 refine ⟨fun h=>?_,fun h=>?_⟩
 ·have hlt:j < l.length:=by simpa using h
  have hdrop:=Adw v l j hlt
  generalize hx:l[j] = x at hdrop
  have hx':l[(j:Int).toNat]'(by omega) = x:=hx
  generalize hmn:Cr v (l.take j) = m at hdrop
  refine rg ?_;conv=>whnf
  refine ⟨E,by omega,by omega,?_⟩
  rw [hx']
  conv=>whnf
  refine Ag (lessS x m) F287 E E E E E ?_
  refine rg ?_;conv=>whnf
  refine ⟨fun h2=>?_,fun h2=>?_⟩
  ·rw [h2,if_pos rfl] at hdrop
   refine rg ?_;conv=>whnf
   refine ⟨by unfold I64; omega,?_⟩
   conv=>whnf
   exact Ar [] hlt ⟨⟨E,E,E,E,E,E,E,E,E,E,E,E,Y⟩,⟨.inl E,E,.inl (by rw [hdrop]; rfl),E,Y⟩,E,E⟩
  ·rw [h2] at hdrop
   refine rg ?_;conv=>whnf
   refine ⟨by unfold I64; omega,?_⟩
   conv=>whnf
   exact Ar [] hlt ⟨⟨E,E,E,E,E,E,E,E,E,E,E,E,Y⟩,⟨.inl E,E,.inl (by rw [hdrop]; rfl),E,Y⟩,E,E⟩
 ·have hjl:¬ j < l.length:=by simpa using h
  rw [List.take_of_length_le (by omega)]
  refine rg ?_;conv=>whnf
  exact done E (.cons (.cell E E E E) (.cons .tmp .nil)) [] [] (fun _ h=>h) E E ⟨Y,Y,E,E⟩
theorem Adx {l:List Vec} (h:(Hg l).2 = false):l = [] ∧ (Hg l).1 = Apz:=by
 cases l with
 | nil=>exact ⟨rfl,rfl⟩
 | cons v t=>cases h
theorem Zz (l:List Vec):∀ x ∈ l,Cc x (Hg l).1 = false:=by
 cases l with
 | nil=>simp
 | cons v t=>exact (Zy v (v :: t)).2
theorem Agr {l:List Vec} (h:(Hg l).2 = true):(Hg l).1 ∈ l:=by
 cases l with
 | nil=>cases h
 | cons v t =>
  rcases Xo v (v :: t) with h | h
  ·show Cr v (v :: t) ∈ v :: t
   rw [h]; simp
  ·exact h
theorem Vi (n:Net):∀ x ∈ Cm n,0 ≤ x ∧ x < n.devices.length:=fun x hx=>by
 rw [Xf,Ji] at hx
 obtain ⟨i,hi,rfl⟩:=List.mem_map.1 hx
 have hi:=List.mem_range.1 hi
 have h1:=List.countP_le_length (p:=fun k=>Cf n (k:Nat) i) (l:=List.range n.devices.length)
 rw [List.length_range] at h1
 have h2:(List.range n.devices.length).countP (fun k=>Cf n (k:Nat) i) ≠ n.devices.length:=fun e=>by
  have:=List.countP_eq_length.1 (e.trans List.length_range.symm) i (List.mem_range.2 hi)
  rw [L8] at this
  cases this
 omega
theorem Ee (n:Net):(Cm n).length = n.devices.length:=by rw [Xf,Ji]; simp
end Go.Sy.YtmelpejjondedaaGreat
namespace Go.Sy.YtmelpejjondedaaGreat
open Go.Proofs
attribute [local irreducible] Go.Sy.G Go.Sy.DR
set_option maxRecDepth 100000
set_option maxHeartbeats 4000000
def Ql (n:Net) (up:List Bool) (ranks:List Int) (x y:SV):List SV:=[.sl 5 Br n.devices,.sl 7 Bi n.ports,.sl 3 Co n.links,.sl 6 Ay n.domains,.sl 4 Bp n.statics,.sl 4 B5 n.floods,.sl 5 Cy n.vrfs,.sl 5 Dl n.irbs,.sl 1 Ad up,.sl 1 Aa ranks,x,y]
def B6 (n:Net) (up:List Bool) (i:Nat):Int :=
 let p:=n.ports.getD i default
 if p.link < 0 || !(up.getD p.link.toNat false) then -1 else (nth n.links p.link).a + (nth n.links p.link).b - i
theorem farS (n:Net) (up:List Bool) (ranks:List Int) (x y:SV) (_hx:(x.boxed && x.data && y.boxed && y.data && Nat.beq (cellsOf x).length 1 && Nat.beq (cellsOf y).length 1) = true) (i:Nat) (hr:Ah n = true) (hu:up.length = n.links.length) (hi:i < n.ports.length) :
  Sy.Spec Tryz.prog 158 [.ref 12 (.agg (Ql n up ranks x y)) 0,Aa i] [] (Aa (B6 n up i)) []:=Ab Γ hm 100 F158 Tryz.ntmps158 rfl fun F hF=>by
 have hpl:=Eq hr hi
 have hf:=Cq hr
 have e1:n.ports[(i:Int).toNat]'(by omega) = n.ports[i]:=rfl
 have hfar:B6 n up i = if n.ports[i].link < 0 || !(up.getD n.ports[i].link.toNat false) then -1 else (nth n.links n.ports[i].link).a + (nth n.links n.ports[i].link).b - i:=by
  rw [B6,A9 hi]
 generalize hp:n.ports[i] = p at *
 have hle:=fun h=>H7 hr (i:=p.link.toNat) h
 conv=>whnf
 refine ⟨E,by omega,by omega,?_⟩
 rw [e1]
 conv=>whnf
 (repeat' (first | (refine ⟨fun h=>?_,fun h=>?_⟩ <;> (repeat (first | simp only [decide_eq_true_eq] at h | simp only [decide_eq_false_iff_not] at h | simp only [Bool.not_eq_true'] at h | simp only [Bool.not_eq_false'] at h)) <;> ((first|refine rg ?_|refine rd (by kernel_rfl) ?_);(conv=>whnf))) | (refine Ac rfl (.cons .tmp .nil) ?_ rfl) | (refine ⟨(by kernel_rfl),?_⟩; ((conv=>whnf);repeat((refine aT ?_);(refine rg ?_);(conv=>whnf)))) | (refine ⟨by (first | omega | ((have hq:=hle (by omega); unfold I64; omega))),by (first | omega | ((have hq:=hle (by omega); unfold I64; omega))),?_⟩; ((conv=>whnf)))))
 all_goals (refine congrArg Aa ?_; rw [hfar])
 ·simp_all
 ·have h1:up.getD p.link.toNat false = false:=by rw [A9 (by omega)]; assumption
  rw [h1]; simp
 ·have h1:up.getD p.link.toNat false = true:=by rw [A9 (by omega)]; assumption
  rw [h1,Ao (by omega)]
  simp_all
def Mo (n:Net) (up:List Bool) (ranks roots costs:List Int):SV:=.ref 12 (.agg (Ql n up ranks (.sl 1 Aa roots) (.sl 1 Aa costs))) 0
def Jh (n:Net) (ranks costs:List Int) (i k:Nat):Bool :=
 let a:=(n.ports.getD i default).dev
 let b:=(n.ports.getD k default).dev
 decide (nth costs a < nth costs b) || (nth costs a == nth costs b && decide (nth ranks a < nth ranks b))
theorem Ae7 (n:Net) (up:List Bool) (ranks roots costs:List Int) (i k:Nat) (hr:Ah n = true) (hrk:ranks.length = n.devices.length) (hc:costs.length = n.devices.length) (hi:i < n.ports.length) (hk:k < n.ports.length) :
  Sy.Spec Tryz.prog 159 [Mo n up ranks roots costs,Aa i,Aa k] [] (Ad (Jh n ranks costs i k)) []:=Ab Γ hm 100 F159 Tryz.ntmps159 rfl fun F hF=>by
 have hd1:=My hr hi
 have hd2:=My hr hk
 have e1:n.ports[(i:Int).toNat]'(by omega) = n.ports[i]:=rfl
 have e2:n.ports[(k:Int).toNat]'(by omega) = n.ports[k]:=rfl
 have hres:Jh n ranks costs i k = (decide (nth costs n.ports[i].dev < nth costs n.ports[k].dev) || (nth costs n.ports[i].dev == nth costs n.ports[k].dev && decide (nth ranks n.ports[i].dev < nth ranks n.ports[k].dev))):=by
  rw [Jh,A9 hi,A9 hk]
 rw [Ao (by omega),Ao (by omega),Ao (by omega),Ao (by omega)] at hres
 conv=>whnf
 (repeat' (first | (refine ⟨fun h=>?_,fun h=>?_⟩ <;> (repeat (first | simp only [decide_eq_true_eq] at h | simp only [decide_eq_false_iff_not] at h | simp only [beq_iff_eq] at h | simp only [beq_eq_false_iff_ne] at h)) <;> ((refine rd (by kernel_rfl) ?_);(conv=>whnf))) | (refine Ac rfl (.cons .tmp .nil) ?_ rfl) | (refine ⟨(by kernel_rfl),?_⟩; ((conv=>whnf))) | (refine ⟨by (first | omega | (simp only [Int.toNat_natCast]; omega)),by (first | omega | (simp only [Int.toNat_natCast]; omega)),?_⟩; ((conv=>whnf)))))
 all_goals (refine congrArg Ad ?_; rw [hres]; clear hF hres hr; simp only [Int.toNat_natCast] at *; grind)
theorem Si {n:Net} {up:List Bool} (h:Ah n = true) {i:Nat} (hi:i < n.ports.length) (hf:0 ≤ B6 n up i):B6 n up i < n.ports.length:=by
 have hp:=Jp h hi
 have hpl:=Eq h hi
 simp only [El,Bool.and_eq_true,Bool.or_eq_true,beq_iff_eq] at hp
 have hp:=hp.2
 unfold B6 at *
 rw [A9 hi] at *
 simp only at *
 split at hf
 ·omega
 ·rename_i hc
  rw [if_neg hc]
  simp only [Bool.or_eq_true,decide_eq_true_eq,not_or] at hc
  rcases hp with hp | hp
  ·omega
  ·have hl:n.ports[i].link.toNat < n.links.length:=by omega
   have he:=H7 h hl
   rw [Ao hl] at *
   omega
def Ua (n:Net) (up:List Bool) (ranks roots costs:List Int) (dev:Int) (i:Nat):Option Vec :=
 let p:=n.ports.getD i default
 let far:=B6 n up i
 let there:=(nth n.ports far).dev
 if p.dev == dev && decide (0 ≤ far) then some ⟨nth roots there,nth costs there + p.cost,nth ranks there,far,i⟩ else none
def Hn (n:Net) (up:List Bool) (ranks roots costs:List Int) (dev:Int) (j:Nat):List Vec:=(List.range j).filterMap (Ua n up ranks roots costs dev)
theorem Aho (n:Net) (up:List Bool) (ranks roots costs:List Int) (dev:Int) (j:Nat):Hn n up ranks roots costs dev (j + 1) = Hn n up ranks roots costs dev j ++ (Ua n up ranks roots costs dev j).toList:=by
 rw [Hn,List.range_succ,List.filterMap_append]
 cases h:Ua n up ranks roots costs dev j <;> simp [Hn,h]
theorem Ub (n:Net) (up:List Bool) (ranks roots costs:List Int) (dev:Int) (j:Nat):(Hn n up ranks roots costs dev j).length ≤ j:=by
 have:=List.length_filterMap_le (Ua n up ranks roots costs dev) (List.range j)
 simpa [Hn] using this
def Ew (n:Net) (up:List Bool) (ranks roots costs:List Int) (dev:Int):Int :=
 let r:=Hg (Hn n up ranks roots costs dev n.ports.length)
 if !r.2 || nth roots dev == nth ranks dev then -1 else r.1.own
theorem bestS (n:Net) (up:List Bool) (ranks roots costs:List Int) (dev:Int) (hr:Ah n = true) (hu:up.length = n.links.length) (hcost:Ch n = true) (hrk:ranks.length = n.devices.length) (hro:roots.length = n.devices.length) (hc:costs.length = n.devices.length)
  (hb:∀ c ∈ costs,0 ≤ c ∧ c < 1000000000) (hd:0 ≤ dev ∧ dev < n.devices.length) :
  Sy.Spec Tryz.prog 160 [Mo n up ranks roots costs,Aa dev] [] (Aa (Ew n up ranks roots costs dev)) []:=Ab Γ hm 100 F160 Tryz.ntmps160 rfl fun F hF=>by
 have hf:=Cq hr
 conv=>whnf
 refine Bs 5 1000 5 Dk E E ?_
 refine Av n.ports.length (fun j=>[(0,Mo n up ranks roots costs),(1,Aa dev),(5,.osl 1000),(16,.sl 7 Bi n.ports),(17,Aa n.ports.length),(18,Aa j)]) (fun j=>[(1000,.row 5 Dk (Hn n up ranks roots costs dev j))]) []
  ⟨⟨rfl,rfl,rfl,rfl,rfl,rfl,rfl,rfl,rfl,rfl,rfl,rfl,trivial⟩,⟨.inl rfl,rfl,trivial⟩,rfl,rfl⟩ ?_
 intro j hj
 refine rg ?_;conv=>whnf
 refine ⟨fun h=>?_,fun h=>?_⟩
 ·have hlt:j < n.ports.length:=by simpa using h
  have e1:n.ports[(j:Int).toNat]'(by omega) = n.ports[j]:=rfl
  have hfar:=farS n up ranks (.sl 1 Aa roots) (.sl 1 Aa costs) rfl j hr hu hlt
  have hfl:=Si (up:=up) hr hlt
  have hsucc:=Aho n up ranks roots costs dev j
  have hbl:=Ub n up ranks roots costs dev j
  have hcand:Ua n up ranks roots costs dev j = if n.ports[j].dev == dev && decide (0 ≤ B6 n up j) then some ⟨nth roots (nth n.ports (B6 n up j)).dev,nth costs (nth n.ports (B6 n up j)).dev + n.ports[j].cost,nth ranks (nth n.ports (B6 n up j)).dev,B6 n up j,j⟩ else none:=by
   rw [Ua,A9 hlt]
  generalize B6 n up j = k at *
  have hpc:1 ≤ n.ports[j].cost ∧ n.ports[j].cost ≤ 65535:=by
   simp only [Ch,Bool.not_eq_true',List.any_eq_false] at hcost
   have:=hcost _ (List.getElem_mem hlt)
   simp only [H1,Bool.or_eq_true,decide_eq_true_eq,not_or] at this
   omega
  obtain ⟨p,hp⟩:∃ p,n.ports[j] = p:=⟨_,rfl⟩
  rw [hp] at e1 hcand hpc
  refine rg ?_;conv=>whnf
  refine ⟨E,by omega,by omega,?_⟩
  rw [e1]
  conv=>whnf
  refine Ag hfar F158 E E E E E ?_
  refine rg ?_;conv=>whnf
  refine ⟨fun h=>?_,fun h=>?_⟩
  ·refine rg ?_;conv=>whnf
   refine ⟨fun h2=>?_,fun h2=>?_⟩
   ·have hk0:0 ≤ k:=of_decide_eq_true h2
    have hk1:=hfl hk0
    rw [if_pos (by simp only [Bool.and_eq_true,decide_eq_true_eq]; exact ⟨h,hk0⟩),Ao (l:=n.ports) (i:=k) (by omega)] at hcand
    have hpd:=My hr (i:=k.toNat) (by omega)
    obtain ⟨q,hq⟩:∃ q,n.ports[k.toNat]'(by omega) = q:=⟨_,rfl⟩
    rw [hq] at hcand hpd
    have hcb:=hb (costs[q.dev.toNat]'(by omega)) (List.getElem_mem _)
    rw [Ao (l:=roots) (i:=q.dev) (by omega),Ao (l:=costs) (i:=q.dev) (by omega),Ao (l:=ranks) (i:=q.dev) (by omega)] at hcand
    refine rg ?_;conv=>whnf
    refine ⟨E,hk0,by omega,?_⟩
    rw [hq]
    conv=>whnf
    refine ⟨(by kernel_rfl),?_⟩
    refine ⟨by omega,by omega,?_⟩
    conv=>whnf
    refine ⟨(by kernel_rfl),?_⟩
    refine ⟨by omega,by omega,?_⟩
    conv=>whnf
    refine ⟨by unfold I64; omega,?_⟩
    conv=>whnf
    refine ⟨(by kernel_rfl),?_⟩
    refine ⟨by omega,by omega,?_⟩
    conv=>whnf
    refine Bj (Af Γ.toTy 72 E E E E E (.row E) (.lit (l:=[(⟨roots[q.dev.toNat]'(by omega),costs[q.dev.toNat]'(by omega) + p.cost,ranks[q.dev.toNat]'(by omega),k,j⟩:Vec)]) E E) (by simp) (by simp; omega) (by simp; omega)) (by kernel_rfl) E ?_
    refine rd (by kernel_rfl) ?_;conv=>whnf
    refine ⟨(by kernel_rfl),?_⟩
    conv=>whnf
    refine ⟨by unfold I64; omega,?_⟩
    conv=>whnf
    refine Ar [(1000,72)] hlt ⟨⟨E,E,E,E,E,E,E,E,E,E,E,E,Y⟩,⟨.inl (congrArg (Ob.row 5 Dk) ?_),E,Y⟩,E,E⟩
    rw [hsucc,hcand]
    rfl
   ·have hk0:¬ 0 ≤ k:=of_decide_eq_false h2
    rw [if_neg (by simp only [Bool.and_eq_true,decide_eq_true_eq]; exact fun hh=>hk0 hh.2)] at hcand
    refine rg ?_;conv=>whnf
    refine ⟨by unfold I64; omega,?_⟩
    conv=>whnf
    refine Ar [] hlt ⟨⟨E,E,E,E,E,E,E,E,E,E,E,E,Y⟩,⟨.inl (congrArg (Ob.row 5 Dk) ?_),E,Y⟩,E,E⟩
    rw [hsucc,hcand]
    simp
  ·rw [if_neg (by rw [h]; simp)] at hcand
   (refine rg ?_;(conv=>whnf);refine aF ?_;refine rg ?_;conv=>whnf)
   refine ⟨by unfold I64; omega,?_⟩
   conv=>whnf
   refine Ar [] hlt ⟨⟨E,E,E,E,E,E,E,E,E,E,E,E,Y⟩,⟨.inl (congrArg (Ob.row 5 Dk) ?_),E,Y⟩,E,E⟩
   rw [hsucc,hcand]
   simp
 ·have hjl:j = n.ports.length:=by
   have:¬ j < n.ports.length:=by simpa using h
   omega
  subst hjl
  have hbl:=Ub n up ranks roots costs dev n.ports.length
  have hbi:Ew n up ranks roots costs dev = if !(Hg (Hn n up ranks roots costs dev n.ports.length)).2 || nth roots dev == nth ranks dev then -1 else (Hg (Hn n up ranks roots costs dev n.ports.length)).1.own:=rfl
  rw [Ao (by omega),Ao (by omega)] at hbi
  have hls:=leastS (Hn n up ranks roots costs dev n.ports.length) (by unfold Aq; omega)
  generalize Hg (Hn n up ranks roots costs dev n.ports.length) = r at hls hbi
  obtain ⟨v,ok⟩:=r
  simp only at hls hbi
  rw [hbi]
  refine rg ?_;conv=>whnf
  refine As 1000 E ?_
  refine Ag hls F236 E E E E E ?_
  refine rg ?_;conv=>whnf
  (repeat' (first | (refine ⟨fun h=>?_,fun h=>?_⟩ <;> (repeat (first | simp only [beq_iff_eq] at h | simp only [beq_eq_false_iff_ne] at h | simp only [Bool.not_eq_true'] at h | simp only [Bool.not_eq_false'] at h)) <;> ((first|refine rg ?_|refine rd (by kernel_rfl) ?_);(conv=>whnf))) | (refine Ac rfl (.cons .tmp .nil) ?_ rfl) | (refine ⟨(by kernel_rfl),?_⟩; ((conv=>whnf);repeat((refine aT ?_);(refine rg ?_);(conv=>whnf)))) | (refine ⟨by (omega),by (omega),?_⟩; ((conv=>whnf)))))
  all_goals (refine congrArg Aa ?_; clear hF hls hbi; grind)
theorem best_lt {n:Net} {up:List Bool} {ranks roots costs:List Int} {dev:Int} (h:0 ≤ Ew n up ranks roots costs dev):Ew n up ranks roots costs dev < n.ports.length:=by
 have hmem:=@Agr (Hn n up ranks roots costs dev n.ports.length)
 unfold Ew at *
 simp only at *
 split at h
 ·omega
 ·rename_i hc
  rw [if_neg hc]
  simp only [Bool.or_eq_true,Bool.not_eq_true',not_or] at hc
  have h2:=hmem (by simpa using hc.1)
  obtain ⟨i,hi,he⟩:=List.mem_filterMap.1 h2
  have hi:=List.mem_range.1 hi
  unfold Ua at he
  simp only at he
  split at he
  ·have e:=congrArg Vec.own (Option.some.inj he)
   simp only at e
   omega
  ·cases he
def Mr (n:Net) (up:List Bool) (ranks costs:List Int) (i:Nat):Int :=
 if B6 n up i < 0 then 0 else if Jh n ranks costs i (B6 n up i).toNat then 2 else 3
def He (n:Net) (up:List Bool) (ranks costs:List Int) (j:Nat):List Int:=(List.range n.ports.length).map fun i=>if i < j then Mr n up ranks costs i else 0
theorem Ks (n:Net) (up:List Bool) (ranks costs:List Int) (j:Nat):(He n up ranks costs j).length = n.ports.length:=by simp [He]
theorem Acy (n:Net) (up:List Bool) (ranks costs:List Int):He n up ranks costs 0 = List.replicate n.ports.length 0:=by
 rw [He]
 exact List.ext_getElem (by simp) (by simp)
theorem Acz (n:Net) (up:List Bool) (ranks costs:List Int) (j:Nat) (hj:j < n.ports.length):He n up ranks costs (j + 1) = (He n up ranks costs j).set j (Mr n up ranks costs j):=by
 refine List.ext_getElem (by simp [He]) (fun i h1 h2=>?_)
 rw [List.getElem_set]
 simp only [He,List.getElem_map,List.getElem_range]
 rcases Nat.lt_trichotomy i j with h | h | h
 ·rw [if_pos (by omega),if_neg (by omega),if_pos h]
 ·subst h; rw [if_pos (by omega),if_pos rfl]
 ·rw [if_neg (by omega),if_neg (by omega),if_neg (by omega)]
theorem Ac0 (n:Net) (up:List Bool) (ranks costs:List Int) (j:Nat) (h:Mr n up ranks costs j = 0):He n up ranks costs (j + 1) = He n up ranks costs j:=by
 simp only [He]
 refine List.map_congr_left (fun i _=>?_)
 by_cases hij:i < j
 ·rw [if_pos (by omega),if_pos hij]
 ·by_cases he:i = j
  ·subst he; rw [if_pos (by omega),if_neg hij,h]
  ·rw [if_neg (by omega),if_neg hij]
def Hs (n:Net) (up:List Bool) (ranks roots costs:List Int):Nat → List Int
 | 0=>He n up ranks costs n.ports.length
 | d + 1=>if 0 ≤ Ew n up ranks roots costs d then (Hs n up ranks roots costs d).set (Ew n up ranks roots costs d).toNat 1 else Hs n up ranks roots costs d
theorem E2 (n:Net) (up:List Bool) (ranks roots costs:List Int):∀ d,(Hs n up ranks roots costs d).length = n.ports.length
 | 0=>Ks n up ranks costs _
 | d + 1=>by
  rw [Hs]
  split
  ·rw [List.length_set,E2]
  ·rw [E2]
theorem rolesS (n:Net) (up:List Bool) (ranks roots costs:List Int) (hr:Ah n = true) (hu:up.length = n.links.length) (hcost:Ch n = true) (hrk:ranks.length = n.devices.length) (hro:roots.length = n.devices.length) (hc:costs.length = n.devices.length)
  (hb:∀ c ∈ costs,0 ≤ c ∧ c < 1000000000) :
  Sy.Spec Tryz.prog 85 [Mo n up ranks roots costs] [] (.sl 1 Aa (Hs n up ranks roots costs n.devices.length)) []:=Ab Γ hm 100 F85 Tryz.ntmps85 rfl fun F hF=>by
 have hf:=Cq hr
 conv=>whnf
 refine Ai (Bw Γ.toTy (d:=14) (n:=n.ports.length) Aa 0 E E E E E E E E (by omega) (by omega) E E E) E E ?_
 rw [← Acy n up ranks costs]
 refine rg ?_;conv=>whnf
 refine Av n.ports.length (fun j=>[(0,Mo n up ranks roots costs),(3,.osl 14),(20,Aa n.ports.length),(21,Aa j)]) (fun j=>[(14,.row 1 Aa (He n up ranks costs j))]) []
  ⟨⟨rfl,rfl,rfl,rfl,rfl,rfl,rfl,rfl,trivial⟩,⟨.inl rfl,rfl,trivial⟩,rfl,rfl⟩ ?_
 intro j hj
 refine rg ?_;conv=>whnf
 refine ⟨fun h=>?_,fun h=>?_⟩
 ·have hlt:j < n.ports.length:=by simpa using h
  have hfar:=farS n up ranks (.sl 1 Aa roots) (.sl 1 Aa costs) rfl j hr hu hlt
  have hfl:=Si (up:=up) hr hlt
  have hlen:=Ks n up ranks costs j
  have hrole:Mr n up ranks costs j = if B6 n up j < 0 then 0 else if Jh n ranks costs j (B6 n up j).toNat then 2 else 3:=rfl
  have hsucc:=Acz n up ranks costs j hlt
  have hsame:=Ac0 n up ranks costs j
  generalize B6 n up j = k at *
  refine rg ?_;conv=>whnf
  refine Ag hfar F158 E E E E E ?_
  refine rg ?_;conv=>whnf
  refine ⟨fun h=>?_,fun h=>?_⟩
  ·have hk:k < 0:=of_decide_eq_true h
   rw [if_pos hk] at hrole
   refine rg ?_;conv=>whnf
   refine ⟨by unfold I64; omega,?_⟩
   conv=>whnf
   exact Ar [] hlt ⟨⟨E,E,E,E,E,E,E,E,Y⟩,⟨.inl (congrArg (Ob.row 1 Aa) (hsame hrole)),E,Y⟩,E,E⟩
  have hk:¬ k < 0:=of_decide_eq_false h
  rw [if_neg hk] at hrole
  obtain ⟨m,rfl⟩:∃ m:Nat,k = m:=⟨k.toNat,by omega⟩
  have hah:=Ae7 n up ranks roots costs j m hr hrk hc hlt (by omega)
  rw [Int.toNat_natCast] at hrole
  refine rg ?_;conv=>whnf
  refine Ag hah F159 E E E E E ?_
  refine rg ?_;conv=>whnf
  refine ⟨fun h=>?_,fun h=>?_⟩
  ·rw [h,if_pos rfl] at hrole
   rw [hrole] at hsucc
   refine rg ?_;conv=>whnf
   refine ⟨by omega,by omega,?_⟩
   conv=>whnf
   refine ⟨E,by omega,2,E,E,?_⟩
   conv=>whnf
   refine ⟨by unfold I64; omega,?_⟩
   conv=>whnf
   exact Ar [] hlt ⟨⟨E,E,E,E,E,E,E,E,Y⟩,⟨.inl (congrArg (Ob.row 1 Aa) hsucc),E,Y⟩,E,E⟩
  ·rw [h] at hrole
   simp only [Bool.false_eq_true,if_false] at hrole
   rw [hrole] at hsucc
   refine rg ?_;conv=>whnf
   refine ⟨by omega,by omega,?_⟩
   conv=>whnf
   refine ⟨E,by omega,3,E,E,?_⟩
   conv=>whnf
   refine ⟨by unfold I64; omega,?_⟩
   conv=>whnf
   exact Ar [] hlt ⟨⟨E,E,E,E,E,E,E,E,Y⟩,⟨.inl (congrArg (Ob.row 1 Aa) hsucc),E,Y⟩,E,E⟩
 have hjl:j = n.ports.length:=by
  have:¬ j < n.ports.length:=by simpa using h
  omega
 subst hjl
 refine rg ?_;conv=>whnf
 refine Av n.devices.length (fun d=>[(0,Mo n up ranks roots costs),(3,.osl 14),(47,Aa n.devices.length),(48,Aa d)]) (fun d=>[(14,.row 1 Aa (Hs n up ranks roots costs d))]) []
  ⟨⟨rfl,rfl,rfl,rfl,rfl,rfl,rfl,rfl,trivial⟩,⟨.inl rfl,rfl,trivial⟩,rfl,rfl⟩ ?_
 clear hj h
 intro d hdle
 refine rg ?_;conv=>whnf
 refine ⟨fun h=>?_,fun h=>?_⟩
 ·have hlt:d < n.devices.length:=by simpa using h
  have hbs:=bestS n up ranks roots costs d hr hu hcost hrk hro hc hb (by omega)
  have hbl:=@best_lt n up ranks roots costs d
  have hlen:=E2 n up ranks roots costs d
  have hsucc:Hs n up ranks roots costs (d + 1) = if 0 ≤ Ew n up ranks roots costs d then (Hs n up ranks roots costs d).set (Ew n up ranks roots costs d).toNat 1 else Hs n up ranks roots costs d:=rfl
  generalize Ew n up ranks roots costs d = k at *
  refine rg ?_;conv=>whnf
  refine Ag hbs F160 E E E E E ?_
  refine rg ?_;conv=>whnf
  refine ⟨fun h=>?_,fun h=>?_⟩
  ·have hk:0 ≤ k:=of_decide_eq_true h
   rw [if_pos hk] at hsucc
   refine rg ?_;conv=>whnf
   refine ⟨hk,by omega,?_⟩
   conv=>whnf
   refine ⟨E,by omega,1,E,E,?_⟩
   conv=>whnf
   refine ⟨by unfold I64; omega,?_⟩
   conv=>whnf
   exact Ar [] hlt ⟨⟨E,E,E,E,E,E,E,E,Y⟩,⟨.inl (congrArg (Ob.row 1 Aa) hsucc),E,Y⟩,E,E⟩
  ·have hk:¬ 0 ≤ k:=of_decide_eq_false h
   rw [if_neg hk] at hsucc
   refine rg ?_;conv=>whnf
   refine ⟨by unfold I64; omega,?_⟩
   conv=>whnf
   exact Ar [] hlt ⟨⟨E,E,E,E,E,E,E,E,Y⟩,⟨.inl (congrArg (Ob.row 1 Aa) hsucc),E,Y⟩,E,E⟩
 have hdl:d = n.devices.length:=by
  have:¬ d < n.devices.length:=by simpa using h
  omega
 subst hdl
 refine rg ?_;conv=>whnf
 refine As 14 E ?_
 exact Ac E (.cons .tmp .nil) E E
def Zl (n:Net) (up:List Bool) (ranks:List Int) (roots costs:List Int):Obs:=[(0,.box (Ql n up ranks (.osl 1) (.osl 2))),(1,.row 1 Aa roots),(2,.row 1 Aa costs)]
theorem farR (n:Net) (up:List Bool) (ranks roots costs:List Int) (i:Nat) (hr:Ah n = true) (hu:up.length = n.links.length) (hi:i < n.ports.length) :
  Sy.Spec Tryz.prog 158 [.ptr 0 0,Aa i] (Zl n up ranks roots costs) (Aa (B6 n up i)) (Zl n up ranks roots costs):=Ab Γ hm 100 F158 Tryz.ntmps158 rfl fun F hF=>by
 have hpl:=Eq hr hi
 have hf:=Cq hr
 have e1:n.ports[(i:Int).toNat]'(by omega) = n.ports[i]:=rfl
 have hfar:B6 n up i = if n.ports[i].link < 0 || !(up.getD n.ports[i].link.toNat false) then -1 else (nth n.links n.ports[i].link).a + (nth n.links n.ports[i].link).b - i:=by
  rw [B6,A9 hi]
 generalize hp:n.ports[i] = p at *
 have hle:=fun h=>H7 hr (i:=p.link.toNat) h
 conv=>whnf
 refine ⟨E,by omega,by omega,?_⟩
 rw [e1]
 conv=>whnf
 (repeat' (first | (refine ⟨fun h=>?_,fun h=>?_⟩ <;> (repeat (first | simp only [decide_eq_true_eq] at h | simp only [decide_eq_false_iff_not] at h | simp only [Bool.not_eq_true'] at h | simp only [Bool.not_eq_false'] at h)) <;> ((first|refine rg ?_|refine rd (by kernel_rfl) ?_);(conv=>whnf))) | (refine ⟨(by kernel_rfl),?_⟩; ((conv=>whnf);repeat((refine aT ?_);(refine rg ?_);(conv=>whnf)))) | (refine ⟨by (first | omega | ((have hq:=hle (by omega); unfold I64; omega))),by (first | omega | ((have hq:=hle (by omega); unfold I64; omega))),?_⟩; ((conv=>whnf))) | refine done rfl (.cons .tmp .nil) [] (Zl n up ranks roots costs) (fun _ h=>h) ?_ rfl ⟨trivial,⟨.inl rfl,rfl,.inl rfl,rfl,.inl rfl,rfl,trivial⟩,rfl,rfl⟩))
 all_goals (refine congrArg Aa ?_; rw [hfar])
 ·simp_all
 ·have h1:up.getD p.link.toNat false = false:=by rw [A9 (by omega)]; assumption
  rw [h1]; simp
 ·have h1:up.getD p.link.toNat false = true:=by rw [A9 (by omega)]; assumption
  rw [h1,Ao (by omega)]
  simp_all
def C4 (n:Net) (up:List Bool) (x:Item) (q:List Item) (i:Nat):List Item :=
 if (n.ports.getD i default).dev = x.dev ∧ 0 ≤ B6 n up i then Qp q ⟨x.root,x.cost + (nth n.ports (B6 n up i)).cost,(nth n.ports (B6 n up i)).dev⟩ else q
def Lw (n:Net) (up:List Bool) (s:List Item × List Int × List Int):List Item × List Int × List Int :=
 let x:=(Cw s.1).getLast?.getD default
 let q:=(Cw s.1).dropLast
 if 0 ≤ nth s.2.1 x.dev then (q,s.2) else ((List.range n.ports.length).foldl (C4 n up x) q,s.2.1.set x.dev.toNat x.root,s.2.2.set x.dev.toNat x.cost)
def Ey (n:Net) (up:List Bool):Nat → List Item × List Int × List Int → List Item × List Int × List Int
 | 0,s=>s
 | f + 1,s=>if s.1 = [] then s else Ey n up f (Lw n up s)
end Go.Sy.YtmelpejjondedaaGreat
namespace Go.Sy.YtmelpejjondedaaGreat
theorem Q2 (q:List Item) (i j:Nat) (hi:i < q.length) (hj:j < q.length):(Do q i j).Perm q:=by
 rw [Do,A9 hi,A9 hj]
 exact List.set_set_perm hi hj
theorem Acg:∀ (f:Nat) (q:List Item) (j:Nat),j < q.length → (upF f q j).Perm q
 | 0,_,_,_=>.refl _
 | f + 1,q,j,hj=>by
  rw [upF]
  split
  ·exact .refl _
  ·split
   ·exact (Acg f _ _ (by rw [A6]; omega)).trans (Q2 q _ _ (by omega) hj)
   ·exact .refl _
theorem Yf:∀ (f:Nat) (q:List Item) (i n:Nat),i < q.length → n ≤ q.length → (Dm f q i n).1.Perm q
 | 0,_,_,_,_,_=>.refl _
 | f + 1,q,i,n,hi,hn=>by
  rw [Dm]
  split
  ·rename_i h
   have hc:=Ll q i n h
   split
   ·exact (Yf f _ _ n (by rw [A6]; omega) (by rw [A6]; exact hn)).trans (Q2 q _ _ hi (by omega))
   ·exact .refl _
  ·exact .refl _
theorem Lx (q:List Item) (x:Item):(Qp q x).Perm (x :: q) :=
 (Acg _ _ _ (by simp)).trans (List.perm_append_comm (l₁:=q) (l₂:=[x]))
theorem Jc (q:List Item) (x:Item):(Qp q x).length = q.length + 1:=by rw [Qp,Wo]; simp
theorem O3 (q:List Item) (hq:q ≠ []):(Cw q).Perm q:=by
 have h0:0 < q.length:=List.length_pos_iff.2 hq
 exact (Yf _ _ _ _ (by rw [A6]; exact h0) (by rw [A6]; omega)).trans (Q2 q _ _ h0 (by omega))
def J7 (q:List Item) (n:Nat):Prop:=∀ c,0 < c → c < n → c < q.length → B1 (q.getD c default) (q.getD ((c - 1) / 2) default) = false
theorem L2 {x y z:Item} (h1:B1 y x = false) (h2:B1 z y = false):B1 z x = false:=by
 unfold B1 at *
 grind
theorem Agz {q:List Item} {n:Nat} (h:J7 q n) (hn:n ≤ q.length):∀ c,c < n → B1 (q.getD c default) (q.getD 0 default) = false:=by
 intro c
 induction c using Nat.strongRecOn with
 | ind c ih =>
  intro hc
  rcases Nat.eq_zero_or_pos c with h0 | h0
  ·subst h0; unfold B1; grind
  ·have h1:=h c h0 hc (by omega)
   have h2:=ih ((c - 1) / 2) (by omega) (by omega)
   exact L2 h2 h1
theorem Ea (q:List Item) (i j c:Nat) (hi:i < q.length) (hj:j < q.length):(Do q i j).getD c default = if c = j then q.getD i default else if c = i then q.getD j default else q.getD c default:=by
 rw [Do]
 simp only [List.getD_eq_getElem?_getD,List.getElem?_set,List.length_set]
 by_cases h1:c = j
 ·subst h1; simp [hj]
 ·rw [if_neg (Ne.symm h1),if_neg h1]
  by_cases h2:c = i
  ·subst h2; simp [hi]
  ·rw [if_neg (Ne.symm h2),if_neg h2]
theorem L3 {x y:Item} (h:B1 x y = true):B1 y x = false:=by
 unfold B1 at *
 grind
structure UpInv (q:List Item) (j n:Nat):Prop where
 heap:∀ c,0 < c → c < n → c ≠ j → B1 (q.getD c default) (q.getD ((c - 1) / 2) default) = false
 over:∀ c,0 < c → c < n → (c - 1) / 2 = j → 0 < j → B1 (q.getD c default) (q.getD ((j - 1) / 2) default) = false
theorem Ach (n:Nat):∀ (f:Nat) (q:List Item) (j:Nat),j ≤ f → j < n → n ≤ q.length → UpInv q j n → J7 (upF f q j) n
 | 0,q,j,hf,hj,hn,hI=>by
  have:j = 0:=by omega
  subst this
  exact fun c h0 hc _=>hI.heap c h0 hc (by omega)
 | f + 1,q,j,hf,hj,hn,hI=>by
  rw [upF]
  split
  ·rename_i h0
   subst h0
   exact fun c h0 hc _=>hI.heap c h0 hc (by omega)
  ·rename_i h0
   split
   ·rename_i hlt
    have hp:(j - 1) / 2 < j:=by omega
    refine Ach n f _ _ (by omega) (by omega) (by rw [A6]; exact hn) ⟨fun c hc0 hcn hcp=>?_,fun c hc0 hcn hpar hp0=>?_⟩
    ·rw [Ea _ _ _ _ (by omega) (by omega),Ea _ _ _ _ (by omega) (by omega)]
     by_cases hcj:c = j
     ·subst hcj
      rw [if_pos rfl,if_neg (by omega),if_pos rfl]
      exact L3 hlt
     ·rw [if_neg hcj,if_neg hcp]
      by_cases hpj:(c - 1) / 2 = j
      ·rw [if_pos hpj]
       exact hI.over c hc0 hcn hpj (by omega)
      ·rw [if_neg hpj]
       by_cases hpp:(c - 1) / 2 = (j - 1) / 2
       ·rw [if_pos hpp]
        have:=hI.heap c hc0 hcn hcj
        rw [hpp] at this
        exact L2 (L3 hlt) this
       ·rw [if_neg hpp]
        exact hI.heap c hc0 hcn hcj
    ·rw [Ea _ _ _ _ (by omega) (by omega),Ea _ _ _ _ (by omega) (by omega)]
     have hpI:=hI.heap ((j - 1) / 2) hp0 (by omega) (by omega)
     rw [if_neg (show ((j - 1) / 2 - 1) / 2 ≠ j by omega),if_neg (show ((j - 1) / 2 - 1) / 2 ≠ (j - 1) / 2 by omega)]
     by_cases hcj:c = j
     ·rw [if_pos hcj]; exact hpI
     ·rw [if_neg hcj,if_neg (by omega)]
      have:=hI.heap c hc0 hcn hcj
      rw [hpar] at this
      exact L2 hpI this
   ·rename_i hlt
    intro c hc0 hcn _
    by_cases hcj:c = j
    ·subst hcj; simpa using hlt
    ·exact hI.heap c hc0 hcn hcj
theorem Le {q r:List Item} {c:Nat} (h:c < q.length):(q ++ r).getD c default = q.getD c default:=by
 simp [List.getD_eq_getElem?_getD,List.getElem?_append_left h]
theorem Xg (q:List Item) (x:Item) (h:J7 q q.length):J7 (Qp q x) (Qp q x).length:=by
 rw [Jc]
 refine Ach (q.length + 1) _ _ _ (Nat.le_refl _) (by omega) (by simp) ⟨fun c hc0 hcn hcj=>?_,fun c hc0 hcn hpar hp0=>by omega⟩
 rw [Le (by omega),Le (by omega)]
 exact h c hc0 (by omega) (by omega)
structure DownInv (q:List Item) (i n:Nat):Prop where
 heap:∀ c,0 < c → c < n → (c - 1) / 2 ≠ i → B1 (q.getD c default) (q.getD ((c - 1) / 2) default) = false
 over:∀ c,0 < c → c < n → (c - 1) / 2 = i → 0 < i → B1 (q.getD c default) (q.getD ((i - 1) / 2) default) = false
theorem Akz (q:List Item) (i n c:Nat) (_h:2 * i + 1 < n) (hc0:0 < c) (hc:c < n) (hp:(c - 1) / 2 = i):B1 (q.getD c default) (q.getD (Dj q i n) default) = false:=by
 have hcc:c = 2 * i + 1 ∨ c = 2 * i + 2:=by omega
 unfold Dj
 split
 ·rename_i hh
  rcases hcc with rfl | rfl
  ·exact L3 hh.2
  ·unfold B1; grind
 ·rename_i hh
  rcases hcc with rfl | rfl
  ·unfold B1; grind
  ·cases hlt:B1 (q.getD (2 * i + 2) default) (q.getD (2 * i + 1) default) with
   | false=>rfl
   | true=>exact absurd ⟨hc,hlt⟩ hh
theorem Yg (n:Nat):∀ (f:Nat) (q:List Item) (i:Nat),n ≤ f + i → i < q.length → n ≤ q.length → DownInv q i n → J7 (Dm f q i n).1 n
 | 0,q,i,hf,hi,hn,hI=>fun c hc0 hc _=>hI.heap c hc0 hc (by omega)
 | f + 1,q,i,hf,hi,hn,hI=>by
  rw [Dm]
  split
  ·rename_i h
   have hcl:=Ll q i n h
   have hpar:(Dj q i n - 1) / 2 = i:=by unfold Dj; split <;> omega
   have hle:=fun c=>Akz q i n c h
   generalize Dj q i n = k at *
   split
   ·rename_i hlt
    refine Yg n f _ _ (by omega) (by rw [A6]; omega) (by rw [A6]; exact hn) ⟨fun c hc0 hcn hck=>?_,fun c hc0 hcn hcp hk0=>?_⟩
    ·rw [Ea _ _ _ _ hi (by omega),Ea _ _ _ _ hi (by omega),if_neg hck]
     by_cases hc1:c = k
     ·subst hc1
      rw [if_pos rfl,if_pos hpar]
      exact L3 hlt
     ·rw [if_neg hc1]
      by_cases hc2:c = i
      ·subst hc2
       rw [if_pos rfl,if_neg (by omega)]
       exact hI.over k (by omega) hcl.1 hpar hc0
      ·rw [if_neg hc2]
       by_cases hc3:(c - 1) / 2 = i
       ·rw [if_pos hc3]; exact hle c hc0 hcn hc3
       ·rw [if_neg hc3]; exact hI.heap c hc0 hcn hc3
    ·rw [Ea _ _ _ _ hi (by omega),Ea _ _ _ _ hi (by omega)]
     rw [if_neg (by omega),if_neg (by omega),hpar,if_neg (by omega),if_pos rfl]
     have:=hI.heap c hc0 hcn (by omega)
     rwa [hcp] at this
   ·rename_i hlt
    intro c hc0 hcn _
    by_cases hc3:(c - 1) / 2 = i
    ·rw [hc3]
     exact L2 (by simpa using hlt) (hle c hc0 hcn hc3)
    ·exact hI.heap c hc0 hcn hc3
  ·exact fun c hc0 hc _=>hI.heap c hc0 hc (by omega)
theorem Ye (n:Nat):∀ (f:Nat) (q:List Item) (i c:Nat),i < n → n ≤ q.length → n ≤ c → (Dm f q i n).1.getD c default = q.getD c default
 | 0,_,_,_,_,_,_=>rfl
 | f + 1,q,i,c,hi,hn,hc=>by
  rw [Dm]
  split
  ·rename_i h
   have hcl:=Ll q i n h
   split
   ·rw [Ye n f _ _ c (by omega) (by rw [A6]; exact hn) hc,Ea _ _ _ _ (by omega) (by omega),if_neg (by omega),if_neg (by omega)]
   ·rfl
  ·rfl
theorem Adf (q:List Item) (hq:q ≠ []):(Cw q).getLast (Dn hq) = q.getD 0 default:=by
 have h0:0 < q.length:=List.length_pos_iff.2 hq
 rw [List.getLast_eq_getElem,← A9 (show (Cw q).length - 1 < (Cw q).length by rw [Dw]; omega),Dw]
 by_cases h1:q.length = 1
 ·have:Cw q = q:=by
   obtain ⟨x,rfl⟩:=List.length_eq_one_iff.1 h1
   rfl
  rw [this,h1]
 ·rw [Cw,Ye _ _ _ _ _ (by omega) (by rw [A6]; omega) (Nat.le_refl _),Ea _ _ _ _ h0 (by omega),if_pos rfl]
theorem Ajz (q:List Item) (hq:q ≠ []):(Cw q).dropLast ++ [q.getD 0 default] = Cw q:=by
 rw [← Adf q hq]; exact List.dropLast_concat_getLast (Dn hq)
theorem Ame (q:List Item) (hq:q ≠ []):(q.getD 0 default :: (Cw q).dropLast).Perm q :=
 ((List.perm_append_comm (l₁:=[q.getD 0 default]) (l₂:=(Cw q).dropLast)).trans (by rw [Ajz q hq])).trans (O3 q hq)
theorem Amf (q:List Item) (hq:q ≠ []) (h:J7 q q.length):J7 (Cw q).dropLast (Cw q).dropLast.length:=by
 have h0:0 < q.length:=List.length_pos_iff.2 hq
 have hd:(Cw q).dropLast.length = q.length - 1:=by rw [List.length_dropLast,Dw]
 have hh:J7 (Cw q) (q.length - 1):=by
  rw [Cw]
  refine Yg (q.length - 1) _ _ _ (by omega) (by rw [A6]; exact h0) (by rw [A6]; omega) ⟨fun c hc0 hcn hp=>?_,fun c hc0 hcn hp h=>by omega⟩
  rw [Ea _ _ _ _ h0 (by omega),Ea _ _ _ _ h0 (by omega),if_neg (by omega),if_neg (by omega),if_neg (by omega),if_neg hp]
  exact h c hc0 (by omega) (by omega)
 intro c hc0 hcn _
 rw [hd] at hcn
 have hl:=Dw q
 have e:∀ k,k < q.length - 1 → (Cw q).dropLast.getD k default = (Cw q).getD k default:=fun k hk=>by
  rw [A9 (show k < (Cw q).dropLast.length by omega),A9 (show k < (Cw q).length by omega),List.getElem_dropLast]
 rw [e c hcn,e _ (by omega)]
 exact hh c hc0 hcn (by omega)
theorem Aj0 (q:List Item) (h:J7 q q.length):∀ x ∈ q,B1 x (q.getD 0 default) = false:=fun x hx=>by
 obtain ⟨c,hc,rfl⟩:=List.getElem_of_mem hx
 have:=Agz h (Nat.le_refl _) c hc
 rwa [A9 hc] at this
def D0 (ranks:List Int) (j:Nat):List Item:=(List.range j).foldl (fun q (i:Nat)=>Qp q ⟨ranks.getD i 0,0,i⟩) []
theorem Im (ranks:List Int) (j:Nat):D0 ranks (j + 1) = Qp (D0 ranks j) ⟨ranks.getD j 0,0,j⟩:=by
 rw [D0,List.range_succ,List.foldl_append]; rfl
theorem Kq (ranks:List Int):∀ j,(D0 ranks j).length = j
 | 0=>rfl
 | j + 1=>by rw [Im,Jc,Kq ranks j]
def Tj (roots:List Int):Nat:=roots.countP (fun r=>decide (r < 0))
def reachM (s:List Item × List Int × List Int):Nat:=41 * Tj s.2.1 + s.1.length
structure ReachInv (n:Net) (s:List Item × List Int × List Int):Prop where
 rootsL:s.2.1.length = n.devices.length
 costsL:s.2.2.length = n.devices.length
 items:∀ x ∈ s.1,0 ≤ x.dev ∧ x.dev < n.devices.length ∧ 0 ≤ x.root ∧ 0 ≤ x.cost ∧ x.cost + 65535 * Tj s.2.1 ≤ 65535 * n.devices.length
 few:s.1.length + 40 * Tj s.2.1 ≤ 1000
theorem Amv (roots:List Int):Tj roots ≤ roots.length:=List.countP_le_length
theorem Akb {roots:List Int} {i:Nat} {v:Int} (h:i < roots.length) (h0:roots[i] < 0) (hv:0 ≤ v):Tj (roots.set i v) + 1 = Tj roots:=by
 have h1:0 < roots.countP (fun r=>decide (r < 0)):=List.countP_pos_iff.2 ⟨roots[i],List.getElem_mem h,by simpa using h0⟩
 have hv':¬ v < 0:=by omega
 rw [Tj,Tj,List.countP_set h]
 simp only [h0,hv',decide_true,decide_false,if_true,Bool.false_eq_true,if_false]
 omega
theorem Aa6 (n:Net) (up:List Bool) (x:Item) (hr:Ah n = true) (hcost:Ch n = true) {m:Nat} (hx:0 ≤ x.root ∧ 0 ≤ x.cost ∧ x.cost + 65535 * (m + 1) ≤ 65535 * n.devices.length) (q:List Item)
  (hq:∀ y ∈ q,0 ≤ y.dev ∧ y.dev < n.devices.length ∧ 0 ≤ y.root ∧ 0 ≤ y.cost ∧ y.cost + 65535 * m ≤ 65535 * n.devices.length) (i:Nat) (hi:i < n.ports.length) :
  (∀ y ∈ C4 n up x q i,0 ≤ y.dev ∧ y.dev < n.devices.length ∧ 0 ≤ y.root ∧ 0 ≤ y.cost ∧ y.cost + 65535 * m ≤ 65535 * n.devices.length) ∧ (C4 n up x q i).length ≤ q.length + 1:=by
 rw [C4]
 split
 ·rename_i h
  have hlt:=Si hr hi h.2
  have hk:(B6 n up i).toNat < n.ports.length:=by omega
  have hd:=My hr hk
  have hpc:1 ≤ n.ports[(B6 n up i).toNat].cost ∧ n.ports[(B6 n up i).toNat].cost ≤ 65535:=by
   simp only [Ch,Bool.not_eq_true',List.any_eq_false] at hcost
   have:=hcost _ (List.getElem_mem hk)
   simp only [H1,Bool.or_eq_true,decide_eq_true_eq,not_or] at this
   omega
  have e:nth n.ports (B6 n up i) = n.ports[(B6 n up i).toNat]:=Ao (l:=n.ports) (i:=B6 n up i) (by omega)
  rw [e]
  refine ⟨fun y hy=>?_,by rw [Jc]; omega⟩
  rcases List.mem_cons.1 ((Lx q _).mem_iff.1 hy) with rfl | hy
  ·simp only
   omega
  ·exact hq y hy
 ·exact ⟨hq,by omega⟩
theorem Xd (n:Net) (up:List Bool) (x:Item) (hr:Ah n = true) (hcost:Ch n = true) {m:Nat} (hx:0 ≤ x.root ∧ 0 ≤ x.cost ∧ x.cost + 65535 * (m + 1) ≤ 65535 * n.devices.length) (q:List Item)
  (hq:∀ y ∈ q,0 ≤ y.dev ∧ y.dev < n.devices.length ∧ 0 ≤ y.root ∧ 0 ≤ y.cost ∧ y.cost + 65535 * m ≤ 65535 * n.devices.length):∀ i,i ≤ n.ports.length →
  (∀ y ∈ (List.range i).foldl (C4 n up x) q,0 ≤ y.dev ∧ y.dev < n.devices.length ∧ 0 ≤ y.root ∧ 0 ≤ y.cost ∧ y.cost + 65535 * m ≤ 65535 * n.devices.length) ∧ ((List.range i).foldl (C4 n up x) q).length ≤ q.length + i
 | 0,_=>⟨hq,by simp⟩
 | i + 1,hi=>by
  obtain ⟨h1,h2⟩:=Xd n up x hr hcost hx q hq i (by omega)
  rw [List.range_succ,List.foldl_append]
  obtain ⟨h3,h4⟩:=Aa6 n up x hr hcost hx _ h1 i (by omega)
  exact ⟨h3,by simp only [List.foldl_cons,List.foldl_nil]; omega⟩
theorem Xp {q:List Item} (hq:q ≠ []):(Cw q).getLast?.getD default = (Cw q).getLast (Dn hq):=by
 rw [List.getLast?_eq_some_getLast (Dn hq)]; rfl
theorem Js (n:Net) (up:List Bool) (hr:Ah n = true) (hcost:Ch n = true) (s:List Item × List Int × List Int) (hI:ReachInv n s) (hne:s.1 ≠ []):ReachInv n (Lw n up s) ∧ reachM (Lw n up s) < reachM s:=by
 have hf:=Cq hr
 have hx:=hI.items _ ((O3 s.1 hne).mem_iff.1 (List.getLast_mem (Dn hne)))
 have hd:∀ y ∈ (Cw s.1).dropLast,y ∈ s.1:=fun y hy=>(O3 s.1 hne).mem_iff.1 ((List.dropLast_sublist _).subset hy)
 have h0:0 < s.1.length:=List.length_pos_iff.2 hne
 have hdl:(Cw s.1).dropLast.length + 1 = s.1.length:=by rw [List.length_dropLast,Dw]; omega
 have hfew:=hI.few
 rw [Lw,Xp hne]
 generalize (Cw s.1).getLast (Dn hne) = x at *
 split
 ·exact ⟨⟨hI.rootsL,hI.costsL,fun y hy=>hI.items y (hd y hy),by simp only; omega⟩,by unfold reachM; simp only; omega⟩
 ·rename_i hneg
  have hk:x.dev.toNat < s.2.1.length:=by rw [hI.rootsL]; omega
  rw [Ao (l:=s.2.1) (i:=x.dev) (by rw [hI.rootsL]; omega)] at hneg
  have hm:=Akb hk (by omega) hx.2.2.1
  obtain ⟨h1,h2⟩:=Xd n up x hr hcost (m:=Tj (s.2.1.set x.dev.toNat x.root)) ⟨hx.2.2.1,hx.2.2.2.1,by have:=hx.2.2.2.2; omega⟩ (Cw s.1).dropLast (fun y hy=>by have:=hI.items y (hd y hy); omega) n.ports.length (Nat.le_refl _)
  exact ⟨⟨by simp only [List.length_set]; exact hI.rootsL,by simp only [List.length_set]; exact hI.costsL,h1,by simp only; omega⟩,by unfold reachM; simp only; omega⟩
theorem Vh (n:Net) (up:List Bool) (hr:Ah n = true) (hcost:Ch n = true):∀ (f g:Nat) (s:List Item × List Int × List Int),ReachInv n s → reachM s ≤ f → reachM s ≤ g → Ey n up f s = Ey n up g s
 | 0,0,_,_,_,_=>rfl
 | 0,g + 1,s,_,h,_=>by
  have:s.1 = []:=List.eq_nil_of_length_eq_zero (by unfold reachM at h; omega)
  rw [Ey,Ey,if_pos this]
 | f + 1,0,s,_,_,h=>by
  have:s.1 = []:=List.eq_nil_of_length_eq_zero (by unfold reachM at h; omega)
  rw [Ey,Ey,if_pos this]
 | f + 1,g + 1,s,hI,h1,h2=>by
  rw [Ey,Ey]
  split
  ·rfl
  ·rename_i hne
   obtain ⟨h3,h4⟩:=Js n up hr hcost s hI hne
   exact Vh n up hr hcost f g _ h3 (by omega) (by omega)
def I1 (n:Net) (up:List Bool) (s:List Item × List Int × List Int):List Item × List Int × List Int:=Ey n up (reachM s) s
theorem Af0 (n:Net) (up:List Bool) (s:List Item × List Int × List Int) (h:s.1 = []):I1 n up s = s:=by
 rw [I1]
 cases reachM s with
 | zero=>rfl
 | succ m=>rw [Ey,if_pos h]
theorem Add (n:Net) (up:List Bool) (hr:Ah n = true) (hcost:Ch n = true) (s:List Item × List Int × List Int) (hI:ReachInv n s) (hne:s.1 ≠ []):I1 n up s = I1 n up (Lw n up s):=by
 obtain ⟨h3,h4⟩:=Js n up hr hcost s hI hne
 rw [I1,I1]
 obtain ⟨m,hm⟩:∃ m,reachM s = m + 1:=⟨reachM s - 1,by omega⟩
 rw [hm,Ey,if_neg hne]
 exact Vh n up hr hcost _ _ _ h3 (by omega) (Nat.le_refl _)
theorem Va (ranks:List Int) (m:Nat) (hrr:∀ r ∈ ranks,0 ≤ r):∀ j,j ≤ ranks.length → ∀ y ∈ D0 ranks j,0 ≤ y.dev ∧ y.dev < m + ranks.length ∧ 0 ≤ y.root ∧ y.cost = 0
 | 0,_,y,hy=>by simp [D0] at hy
 | j + 1,hj,y,hy=>by
  rw [Im] at hy
  rcases List.mem_cons.1 ((Lx _ _).mem_iff.1 hy) with rfl | hy
  ·have h1:=hrr (ranks[j]'(by omega)) (List.getElem_mem _)
   have h2:(0:Int) ≤ (j:Int) ∧ (j:Int) < m + ranks.length:=by omega
   exact ⟨h2.1,h2.2,by rw [A9 (show j < ranks.length by omega)]; exact h1,E⟩
  ·exact Va ranks m hrr j (by omega) y hy
theorem Zk (n:Net) (ranks roots costs:List Int) (hr:Ah n = true) (hrk:ranks.length = n.devices.length) (hro:roots.length = n.devices.length) (hc:costs.length = n.devices.length) (hrr:∀ r ∈ ranks,0 ≤ r):ReachInv n (D0 ranks ranks.length,roots,costs):=by
 have hf:=Cq hr
 have hm:=Amv roots
 refine ⟨hro,hc,fun y hy=>?_,by simp only [Kq]; omega⟩
 have:=Va ranks 0 hrr _ (Nat.le_refl _) y hy
 simp only
 omega
def Le2 (r c r' c':Int):Prop:=r < r' ∨ (r = r' ∧ c ≤ c')
theorem Akf {x y:Item} (h:B1 y x = false):Le2 x.root x.cost y.root y.cost:=by
 simp only [B1,Bool.or_eq_false_iff,decide_eq_false_iff_not,Bool.and_eq_false_iff,beq_eq_false_iff_ne] at h
 unfold Le2
 omega
theorem Ux {a b c d e f:Int} (h1:Le2 a b c d) (h2:Le2 c d e f):Le2 a b e f:=by
 unfold Le2 at *
 omega
theorem Ady {a b c d m:Int} (h1:Le2 a b c d) (hm:0 ≤ m):Le2 a b c (d + m):=by
 unfold Le2 at *
 omega
def Hop (n:Net) (up:List Bool) (i j:Nat):Prop:=i < n.ports.length ∧ B6 n up i = j
theorem Ez {n:Net} {up:List Bool} (hr:Ah n = true) {i j:Nat} (h:Hop n up i j):j < n.ports.length:=by
 have:=Si (up:=up) hr h.1 (by rw [h.2]; omega)
 rw [h.2] at this
 omega
theorem U1 {n:Net} {up:List Bool} (hr:Ah n = true) {i j:Nat} (h:Hop n up i j) :
  ∃ k:Nat,k < n.links.length ∧ (nth n.ports i).link = k ∧ (nth n.ports j).link = k ∧ up.getD k false = true ∧ (((nth n.links k).a = i ∧ (nth n.links k).b = j) ∨ ((nth n.links k).a = j ∧ (nth n.links k).b = i)) ∧ Bk n i ≠ Bk n j:=by
 have hj:=Ez hr h
 obtain ⟨hi,hf⟩:=h
 have hp:=Jp hr hi
 have hpl:=Eq hr hi
 simp only [El,Bool.and_eq_true,Bool.or_eq_true,beq_iff_eq] at hp
 have hp:=hp.2
 have e:nth n.ports i = n.ports[i]:=Ao (l:=n.ports) (i:=(i:Int)) (by simpa using hi)
 unfold B6 at hf
 rw [A9 hi] at hf
 simp only at hf
 split at hf
 ·omega
 ·rename_i hc
  simp only [Bool.or_eq_true,decide_eq_true_eq,not_or,Bool.not_eq_true',Bool.not_eq_false] at hc
  rcases hp with hp | hp
  ·omega
  ·have hl:n.ports[i].link.toNat < n.links.length:=by omega
   have hlk:=Q6 hr hl
   have he:=H7 hr hl
   have ek:((n.ports[i].link.toNat:Nat):Int) = n.ports[i].link:=by omega
   refine ⟨n.ports[i].link.toNat,hl,by rw [e]; omega,?_⟩
   simp only [J0,Bool.and_eq_true,beq_iff_eq,bne_iff_ne] at hlk
   obtain ⟨⟨⟨_,hne⟩,h1⟩,h2⟩:=hlk
   rw [ek]
   rw [Ao (l:=n.links) (i:=n.ports[i].link) (by omega)] at hf hp ⊢
   generalize n.links[n.ports[i].link.toNat] = l at *
   rcases hp.2 with ha | hb
   ·have hb:l.b = j:=by omega
    rw [ha,hb] at hne
    rw [hb] at h2
    exact ⟨by omega,by simpa using hc.2,.inl ⟨ha,hb⟩,hne⟩
   ·have ha:l.a = j:=by omega
    rw [ha,hb] at hne
    rw [ha] at h1
    exact ⟨by omega,by simpa using hc.2,.inr ⟨ha,hb⟩,fun h=>hne h.symm⟩
theorem X1 {n:Net} {up:List Bool} (hr:Ah n = true) {i j:Nat} (h:Hop n up i j):Hop n up j i:=by
 have hj:=Ez hr h
 obtain ⟨k,hk,_,h2,h3,h4,_⟩:=U1 hr h
 refine ⟨hj,?_⟩
 unfold B6
 have e:n.ports.getD j default = nth n.ports j:=rfl
 rw [e]
 simp only [h2,Int.toNat_natCast,h3]
 rw [if_neg (by simp)]
 omega
theorem Cp {n:Net} (hr:Ah n = true) {i:Nat} (hi:i < n.ports.length):0 ≤ Bk n i ∧ Bk n i < n.devices.length:=by
 rw [Bk,Ao (l:=n.ports) (i:=(i:Int)) (by simpa using hi)]
 exact My hr hi
def Der (n:Net) (up:List Bool) (K R C:Int → Int) (r c d:Int):Prop :=
 (r = K d ∧ c = 0) ∨ ∃ i j:Nat,Hop n up i j ∧ Bk n i = d ∧ 0 ≤ R (Bk n j) ∧ r = R (Bk n j) ∧ c = C (Bk n j) + Hk n i
structure Dij (n:Net) (up:List Bool) (K:Int → Int) (q:List Item) (R C:Int → Int):Prop where
 heap:J7 q q.length
 items:∀ x ∈ q,Der n up K R C x.root x.cost x.dev
 done:∀ d:Int,0 ≤ d → d < n.devices.length → 0 ≤ R d → Der n up K R C (R d) (C d) d
 own:∀ d:Int,0 ≤ d → d < n.devices.length → R d < 0 → ⟨K d,0,d⟩ ∈ q
 push:∀ i j:Nat,Hop n up i j → R (Bk n i) < 0 → 0 ≤ R (Bk n j) → ⟨R (Bk n j),C (Bk n j) + Hk n i,Bk n i⟩ ∈ q
 low:∀ d:Int,0 ≤ d → d < n.devices.length → 0 ≤ R d → ∀ x ∈ q,Le2 (R d) (C d) x.root x.cost
 self:∀ d:Int,0 ≤ d → d < n.devices.length → 0 ≤ R d → Le2 (R d) (C d) (K d) 0
 tri:∀ i j:Nat,Hop n up i j → 0 ≤ R (Bk n i) → 0 ≤ R (Bk n j) → Le2 (R (Bk n i)) (C (Bk n i)) (R (Bk n j)) (C (Bk n j) + Hk n i)
theorem Xb (n:Net) (up:List Bool) (x:Item) (q:List Item) (y:Item):∀ m,y ∈ (List.range m).foldl (C4 n up x) q ↔ y ∈ q ∨ ∃ i,i < m ∧ Bk n i = x.dev ∧ 0 ≤ B6 n up i ∧ y = ⟨x.root,x.cost + (nth n.ports (B6 n up i)).cost,(nth n.ports (B6 n up i)).dev⟩
 | 0=>by simp
 | m + 1=>by
  rw [List.range_succ,List.foldl_append]
  simp only [List.foldl_cons,List.foldl_nil]
  rw [C4]
  have ih:=Xb n up x q y m
  have e:(n.ports.getD m default).dev = Bk n m:=rfl
  rw [e]
  split
  ·rename_i h
   rw [(Lx _ _).mem_iff,List.mem_cons,ih]
   constructor
   ·rintro (h1 | h1 | ⟨i,h1,h2⟩)
    ·exact .inr ⟨m,by omega,h.1,h.2,h1⟩
    ·exact .inl h1
    ·exact .inr ⟨i,by omega,h2⟩
   ·rintro (h1 | ⟨i,h1,h2,h3,h4⟩)
    ·exact .inr (.inl h1)
    ·by_cases hm:i = m
     ·subst hm; exact .inl h4
     ·exact .inr (.inr ⟨i,by omega,h2,h3,h4⟩)
  ·rename_i h
   rw [ih]
   constructor
   ·rintro (h1 | ⟨i,h1,h2⟩)
    ·exact .inl h1
    ·exact .inr ⟨i,by omega,h2⟩
   ·rintro (h1 | ⟨i,h1,h2,h3,h4⟩)
    ·exact .inl h1
    ·by_cases hm:i = m
     ·subst hm; exact absurd ⟨h2,h3⟩ h
     ·exact .inr ⟨i,by omega,h2,h3,h4⟩
theorem Vg (n:Net) (up:List Bool) (x:Item) (q:List Item) (h:J7 q q.length):∀ m,J7 ((List.range m).foldl (C4 n up x) q) ((List.range m).foldl (C4 n up x) q).length
 | 0=>h
 | m + 1=>by
  rw [List.range_succ,List.foldl_append]
  simp only [List.foldl_cons,List.foldl_nil]
  have ih:=Vg n up x q h m
  rw [C4]
  split
  ·exact Xg _ _ ih
  ·exact ih
theorem Yi {n:Net} {up:List Bool} {K R C R' C':Int → Int} {r c d:Int} (h:Der n up K R C r c d) (hs:∀ e,0 ≤ R e → R' e = R e ∧ C' e = C e):Der n up K R' C' r c d:=by
 rcases h with h | ⟨i,j,h1,h2,h3,h4,h5⟩
 ·exact .inl h
 ·obtain ⟨e1,e2⟩:=hs _ h3
  exact .inr ⟨i,j,h1,h2,by rw [e1]; exact h3,by rw [e1]; exact h4,by rw [e2]; exact h5⟩
theorem Anw {n:Net} {up:List Bool} {K R C:Int → Int} {q q':List Item} {x:Item} (h:Dij n up K q R C) (hp:(x :: q').Perm q) (hh:J7 q' q'.length) (hx:0 ≤ R x.dev):Dij n up K q' R C:=by
 have hm:∀ y,y ∈ q ↔ y = x ∨ y ∈ q':=fun y=>by rw [← hp.mem_iff,List.mem_cons]
 refine ⟨hh,fun y hy=>h.items y ((hm y).2 (.inr hy)),h.done,fun d h0 h1 h2=>?_,fun i j hij h1 h2=>?_,fun d h0 h1 h2 y hy=>h.low d h0 h1 h2 y ((hm y).2 (.inr hy)),h.self,h.tri⟩
 ·rcases (hm _).1 (h.own d h0 h1 h2) with e | e
  ·rw [← e] at hx; simp only at hx; omega
  ·exact e
 ·rcases (hm _).1 (h.push i j hij h1 h2) with e | e
  ·rw [← e] at hx; simp only at hx; omega
  ·exact e
theorem Anv {n:Net} {up:List Bool} {K R C R' C':Int → Int} {q q':List Item} {x:Item} (hr:Ah n = true) (hcost:Ch n = true) (h:Dij n up K q R C) (hp:(x :: q').Perm q) (hh:J7 q' q'.length)
  (hmin:∀ y ∈ q,B1 y x = false) (hx:R x.dev < 0) (hx0:0 ≤ x.root) (_hxd:0 ≤ x.dev ∧ x.dev < n.devices.length)
  (hR:∀ e,R' e = if e = x.dev then x.root else R e) (hC:∀ e,C' e = if e = x.dev then x.cost else C e) :
  Dij n up K ((List.range n.ports.length).foldl (C4 n up x) q') R' C':=by
 have hm:∀ y,y ∈ q ↔ y = x ∨ y ∈ q':=fun y=>by rw [← hp.mem_iff,List.mem_cons]
 have hn:=fun y=>Xb n up x q' y n.ports.length
 have hs:∀ e,0 ≤ R e → R' e = R e ∧ C' e = C e:=fun e he=>by
  have:e ≠ x.dev:=fun h=>by rw [h] at he; omega
  rw [hR,hC,if_neg this,if_neg this]
  exact ⟨E,E⟩
 have hRd:R' x.dev = x.root:=by rw [hR,if_pos rfl]
 have hCd:C' x.dev = x.cost:=by rw [hC,if_pos rfl]
 have hxq:x ∈ q:=(hm x).2 (.inl rfl)
 have hle:∀ y ∈ q,Le2 x.root x.cost y.root y.cost:=fun y hy=>Akf (hmin y hy)
 have hnew:∀ y,y ∈ (List.range n.ports.length).foldl (C4 n up x) q' ↔ y ∈ q' ∨ ∃ i j:Nat,Hop n up i j ∧ Bk n i = x.dev ∧ y = ⟨x.root,x.cost + Hk n j,Bk n j⟩:=fun y=>by
  rw [hn y]
  constructor
  ·rintro (h1 | ⟨i,h1,h2,h3,h4⟩)
   ·exact .inl h1
   ·obtain ⟨j,hj⟩:∃ j:Nat,B6 n up i = j:=⟨(B6 n up i).toNat,by omega⟩
    rw [hj] at h4
    exact .inr ⟨i,j,⟨h1,hj⟩,h2,h4⟩
  ·rintro (h1 | ⟨i,j,h1,h2,h3⟩)
   ·exact .inl h1
   ·refine .inr ⟨i,h1.1,h2,by rw [h1.2]; omega,?_⟩
    rw [h1.2]
    exact h3
 refine ⟨Vg n up x q' hh _,fun y hy=>?_,fun d h0 h1 h2=>?_,fun d h0 h1 h2=>?_,fun i j hij h1 h2=>?_,fun d h0 h1 h2 y hy=>?_,fun d h0 h1 h2=>?_,fun i j hij h1 h2=>?_⟩
 ·rcases (hnew y).1 hy with hy | ⟨i,j,h1,h2,rfl⟩
  ·exact Yi (h.items y ((hm y).2 (.inr hy))) hs
  ·exact .inr ⟨j,i,X1 hr h1,E,by rw [h2,hRd]; exact hx0,by rw [h2,hRd],by rw [h2,hCd]⟩
 ·by_cases hd:d = x.dev
  ·subst hd
   rw [hRd,hCd]
   exact Yi (h.items x hxq) hs
  ·rw [hR,if_neg hd] at h2
   obtain ⟨e1,e2⟩:=hs d h2
   rw [e1,e2]
   exact Yi (h.done d h0 h1 h2) hs
 ·have hd:d ≠ x.dev:=fun e=>by rw [e,hRd] at h2; omega
  rw [hR,if_neg hd] at h2
  refine (hnew _).2 (.inl ?_)
  rcases (hm _).1 (h.own d h0 h1 h2) with e | e
  ·exact absurd (congrArg Item.dev e) hd
  ·exact e
 ·have hd:Bk n i ≠ x.dev:=fun e=>by rw [e,hRd] at h1; omega
  rw [hR,if_neg hd] at h1
  by_cases hj:Bk n j = x.dev
  ·rw [hj,hRd,hCd]
   exact (hnew _).2 (.inr ⟨j,i,X1 hr hij,hj,E⟩)
  ·rw [hR,if_neg hj] at h2
   obtain ⟨e1,e2⟩:=hs _ h2
   rw [e1,e2]
   refine (hnew _).2 (.inl ?_)
   rcases (hm _).1 (h.push i j hij h1 h2) with e | e
   ·exact absurd (congrArg Item.dev e) hd
   ·exact e
 ·have hdx:Le2 (R' d) (C' d) x.root x.cost:=by
   by_cases hd:d = x.dev
   ·subst hd; rw [hRd,hCd]; exact .inr ⟨rfl,Int.le_refl _⟩
   ·rw [hR,if_neg hd] at h2
    obtain ⟨e1,e2⟩:=hs d h2
    rw [e1,e2]
    exact h.low d h0 h1 h2 x hxq
  rcases (hnew y).1 hy with hy | ⟨i,j,h3,_,rfl⟩
  ·exact Ux hdx (hle y ((hm y).2 (.inr hy)))
  ·exact Ady hdx (by have:=Jv hcost (Ez hr h3); omega)
 ·by_cases hd:d = x.dev
  ·subst hd
   rw [hRd,hCd]
   exact hle _ (h.own _ h0 h1 hx)
  ·rw [hR,if_neg hd] at h2
   obtain ⟨e1,e2⟩:=hs d h2
   rw [e1,e2]
   exact h.self d h0 h1 h2
 ·have hj:=Ez hr hij
  have hpc:=Jv hcost hij.1
  have hne:=(U1 hr hij).choose_spec.2.2.2.2.2
  by_cases hd:Bk n i = x.dev
  ·rw [hd,hRd,hCd]
   have hjd:Bk n j ≠ x.dev:=fun e=>hne (by rw [hd,e])
   rw [hR,if_neg hjd] at h2
   obtain ⟨e1,e2⟩:=hs _ h2
   rw [e1,e2]
   exact hle _ (h.push i j hij (by rw [hd]; exact hx) h2)
  ·rw [hR,if_neg hd] at h1
   obtain ⟨e1,e2⟩:=hs _ h1
   rw [e1,e2]
   by_cases hjd:Bk n j = x.dev
   ·rw [hjd,hRd,hCd]
    have hdl:=Cp hr hij.1
    exact Ady (h.low _ hdl.1 hdl.2 h1 x hxq) (by omega)
   ·rw [hR,if_neg hjd] at h2
    obtain ⟨e3,e4⟩:=hs _ h2
    rw [e3,e4]
    exact h.tri i j hij h1 h2
def atI (l:List Int) (e:Int):Int:=if e < 0 then -1 else nth l e
theorem J6 {l:List Int} {e:Int} (h:0 ≤ e):atI l e = nth l e:=by rw [atI,if_neg (by omega)]
theorem Ais {l:List Int} {d v:Int} (h0:0 ≤ d) (h1:d < l.length) (e:Int):atI (l.set d.toNat v) e = if e = d then v else atI l e:=by
 by_cases he:e < 0
 ·rw [atI,if_pos he,if_neg (by omega),atI,if_pos he]
 ·rw [atI,if_neg he,atI,if_neg he,nth,nth,List.getElem?_set]
  by_cases hd:e = d
  ·subst hd
   rw [if_pos rfl,if_pos rfl,if_pos (by omega)]
   rfl
  ·rw [if_neg (by omega),if_neg hd]
structure DijS (n:Net) (up:List Bool) (ranks:List Int) (s:List Item × List Int × List Int):Prop where
 inv:ReachInv n s
 dij:Dij n up (atI ranks) s.1 (atI s.2.1) (atI s.2.2)
 bound:∀ c ∈ s.2.2,0 ≤ c ∧ c ≤ 1000000
theorem Af1 (n:Net) (up:List Bool) (ranks:List Int) (hr:Ah n = true) (hcost:Ch n = true) (s:List Item × List Int × List Int) (hI:DijS n up ranks s) (hne:s.1 ≠ []):DijS n up ranks (Lw n up s):=by
 have hf:=Cq hr
 have h1:=(Js n up hr hcost s hI.inv hne).1
 have hrest:=Ame s.1 hne
 have hheap:=Amf s.1 hne hI.dij.heap
 have hleast:=Aj0 s.1 hI.dij.heap
 have hx:=hI.inv.items _ (hrest.mem_iff.1 (List.mem_cons_self ..))
 have hrl:=hI.inv.rootsL
 have hcl:=hI.inv.costsL
 have hd:=hI.dij
 have hb:=hI.bound
 rw [Lw,Xp hne,Adf s.1 hne] at *
 generalize s.1.getD 0 default = x at *
 try simp only at *
 have ea:nth s.2.1 x.dev = atI s.2.1 x.dev:=(J6 hx.1).symm
 rw [ea]; rw [ea] at h1
 split
 ·rename_i hc
  rw [if_pos hc] at h1
  exact ⟨h1,Anw hd hrest hheap hc,hb⟩
 ·rename_i hc
  rw [if_neg hc] at h1
  refine ⟨h1,Anv hr hcost hd hrest hheap hleast (by omega) hx.2.2.1 ⟨hx.1,hx.2.1⟩ (Ais hx.1 (by omega)) (Ais hx.1 (by omega)),fun c hc=>?_⟩
  rcases List.mem_or_eq_of_mem_set hc with h | h
  ·exact hb c h
  ·omega
theorem Xe (n:Net) (up:List Bool) (ranks:List Int) (hr:Ah n = true) (hcost:Ch n = true):∀ (f:Nat) (s:List Item × List Int × List Int),DijS n up ranks s → reachM s ≤ f → DijS n up ranks (Ey n up f s) ∧ (Ey n up f s).1 = []
 | 0,s,h,hf=>⟨h,List.eq_nil_of_length_eq_zero (by unfold reachM at hf; rw [Ey]; omega)⟩
 | f + 1,s,h,hf=>by
  rw [Ey]
  split
  ·rename_i he; exact ⟨h,he⟩
  ·rename_i hne
   exact Xe n up ranks hr hcost f _ (Af1 n up ranks hr hcost s h hne) (by have:=(Js n up hr hcost s h.inv hne).2; omega)
structure Solved (n:Net) (up:List Bool) (ranks roots costs:List Int):Prop where
 rootsL:roots.length = n.devices.length
 costsL:costs.length = n.devices.length
 bound:∀ c ∈ costs,0 ≤ c ∧ c ≤ 1000000
 root:∀ d:Int,0 ≤ d → d < n.devices.length → 0 ≤ nth roots d
 self:∀ d:Int,0 ≤ d → d < n.devices.length → Le2 (nth roots d) (nth costs d) (nth ranks d) 0
 tri:∀ i j:Nat,Hop n up i j → Le2 (nth roots (Bk n i)) (nth costs (Bk n i)) (nth roots (Bk n j)) (nth costs (Bk n j) + Hk n i)
 der:∀ d:Int,0 ≤ d → d < n.devices.length → (nth roots d = nth ranks d ∧ nth costs d = 0) ∨ ∃ i j:Nat,Hop n up i j ∧ Bk n i = d ∧ nth roots d = nth roots (Bk n j) ∧ nth costs d = nth costs (Bk n j) + Hk n i
theorem Ai6 (n:Net) (up:List Bool) (ranks:List Int) (hr:Ah n = true) (s:List Item × List Int × List Int) (h:DijS n up ranks s) (he:s.1 = []):Solved n up ranks s.2.1 s.2.2:=by
 have hd:=h.dij
 rw [he] at hd
 have h0:∀ d:Int,0 ≤ d → d < n.devices.length → 0 ≤ atI s.2.1 d:=fun d h1 h2=>by
  by_cases hc:0 ≤ atI s.2.1 d
  ·exact hc
  ·have:=hd.own d h1 h2 (by omega)
   simp at this
 refine ⟨h.inv.rootsL,h.inv.costsL,h.bound,fun d h1 h2=>?_,fun d h1 h2=>?_,fun i j hij=>?_,fun d h1 h2=>?_⟩
 ·have:=h0 d h1 h2
  rwa [J6 h1] at this
 ·have:=hd.self d h1 h2 (h0 d h1 h2)
  simpa only [J6 h1] using this
 ·have hi:=Cp hr hij.1
  have hj:=Cp hr (Ez hr hij)
  have:=hd.tri i j hij (h0 _ hi.1 hi.2) (h0 _ hj.1 hj.2)
  simpa only [J6 hi.1,J6 hj.1] using this
 ·rcases hd.done d h1 h2 (h0 d h1 h2) with h3 | ⟨i,j,h3,h4,_,h5,h6⟩
  ·simp only [J6 h1] at h3
   exact .inl h3
  ·have hj:=Cp hr (Ez hr h3)
   simp only [J6 h1,J6 hj.1] at h5 h6
   exact .inr ⟨i,j,h3,h4,h5,h6⟩
theorem Um (ranks:List Int) (y:Item):∀ j,y ∈ D0 ranks j ↔ ∃ i,i < j ∧ y = ⟨ranks.getD i 0,0,i⟩
 | 0=>by simp [D0]
 | j + 1=>by
  rw [Im,(Lx _ _).mem_iff,List.mem_cons,Um ranks y j]
  constructor
  ·rintro (h | ⟨i,h1,h2⟩)
   ·exact ⟨j,by omega,h⟩
   ·exact ⟨i,by omega,h2⟩
  ·rintro ⟨i,h1,h2⟩
   by_cases h:i = j
   ·subst h; exact .inl h2
   ·exact .inr ⟨i,by omega,h2⟩
theorem Wu (ranks:List Int):∀ j,J7 (D0 ranks j) (D0 ranks j).length
 | 0=>fun c _ h2 _=>by simp [D0] at h2
 | j + 1=>by
  rw [Im]
  exact Xg _ _ (Wu ranks j)
theorem Yy {v:Int} {m:Nat} {d:Int} (h1:d < m) (h0:0 ≤ d):nth (List.replicate m v) d = v:=by
 rw [Ao (by simp; omega)]; simp
theorem Ai4 (n:Net) (up:List Bool) (ranks:List Int) (hr:Ah n = true) (hrk:ranks.length = n.devices.length) (hrr:∀ r ∈ ranks,0 ≤ r) :
  DijS n up ranks (D0 ranks ranks.length,List.replicate n.devices.length (-1),List.replicate n.devices.length 0):=by
 have hneg:∀ d:Int,0 ≤ d → d < n.devices.length → atI (List.replicate n.devices.length (-1)) d = -1:=fun d h0 h1=>by rw [J6 h0,Yy h1 h0]
 refine ⟨Zk n ranks _ _ hr hrk (by simp) (by simp) hrr,⟨Wu ranks _,fun x hx=>?_,fun d h0 h1 h2=>?_,fun d h0 h1 h2=>?_,fun i j hij h1 h2=>?_,fun d h0 h1 h2=>?_,fun d h0 h1 h2=>?_,fun i j hij h1 h2=>?_⟩,fun c hc=>?_⟩
 ·obtain ⟨i,h1,rfl⟩:=(Um ranks x _).1 hx
  refine .inl ⟨?_,E⟩
  simp only
  rw [J6 (by omega),Ao (by simpa using h1),A9 h1]
  rfl
 ·rw [hneg d h0 h1] at h2; omega
 ·refine (Um ranks _ _).2 ⟨d.toNat,by omega,?_⟩
  rw [J6 h0,Ao (by omega),A9 (by omega),Int.toNat_of_nonneg h0]
 ·have hj:=Cp hr (Ez hr hij)
  rw [hneg _ hj.1 hj.2] at h2; omega
 ·rw [hneg d h0 h1] at h2; omega
 ·rw [hneg d h0 h1] at h2; omega
 ·have hj:=Cp hr (Ez hr hij)
  rw [hneg _ hj.1 hj.2] at h2; omega
 ·have:=List.eq_of_mem_replicate hc
  omega
def Mx (n:Net) (up:List Bool) (ranks:List Int):List Item × List Int × List Int:=I1 n up (D0 ranks ranks.length,List.replicate n.devices.length (-1),List.replicate n.devices.length 0)
theorem Yu (n:Net) (up:List Bool) (ranks:List Int) (hr:Ah n = true) (hcost:Ch n = true) (hrk:ranks.length = n.devices.length) (hrr:∀ r ∈ ranks,0 ≤ r):Solved n up ranks (Mx n up ranks).2.1 (Mx n up ranks).2.2:=by
 obtain ⟨h1,h2⟩:=Xe n up ranks hr hcost _ _ (Ai4 n up ranks hr hrk hrr) (Nat.le_refl _)
 exact Ai6 n up ranks hr _ h1 h2
end Go.Sy.YtmelpejjondedaaGreat
namespace Go.Sy.YtmelpejjondedaaGreat
section
variable {n:Net} {up:List Bool} {ranks roots costs:List Int}
theorem Kb (S:Solved n up ranks roots costs) (hr:Ah n = true) {i j:Nat} (h:Hop n up i j):nth roots (Bk n i) = nth roots (Bk n j):=by
 have h1:=S.tri i j h
 have h2:=S.tri j i (X1 hr h)
 unfold Le2 at h1 h2
 omega
theorem Wv (S:Solved n up ranks roots costs) (hr:Ah n = true) {i j:Nat} (h:Hop n up i j):nth costs (Bk n i) ≤ nth costs (Bk n j) + Hk n i:=by
 have h1:=S.tri i j h
 have h2:=Kb S hr h
 unfold Le2 at h1
 omega
theorem Mp (S:Solved n up ranks roots costs) {d:Int} (h0:0 ≤ d) (h1:d < n.devices.length):0 ≤ nth costs d ∧ nth costs d ≤ 1000000:=by
 have hl:=S.costsL
 rw [Ao (by omega)]
 exact S.bound _ (List.getElem_mem _)
theorem Aco (S:Solved n up ranks roots costs) {d:Int} (h0:0 ≤ d) (h1:d < n.devices.length) (h:nth roots d = nth ranks d):nth costs d = 0:=by
 have h2:=S.self d h0 h1
 have h3:=Mp S h0 h1
 unfold Le2 at h2
 omega
theorem Ae8 (S:Solved n up ranks roots costs) {d:Int} (h0:0 ≤ d) (h1:d < n.devices.length) (h:nth roots d ≠ nth ranks d):∃ i j:Nat,Hop n up i j ∧ Bk n i = d ∧ nth roots d = nth roots (Bk n j) ∧ nth costs d = nth costs (Bk n j) + Hk n i:=by
 rcases S.der d h0 h1 with h2 | h2
 ·exact absurd h2.1 h
 ·exact h2
theorem best_mem {dev:Int} {v:Vec}:v ∈ Hn n up ranks roots costs dev n.ports.length ↔ ∃ i j:Nat,Hop n up i j ∧ Bk n i = dev ∧ v = ⟨nth roots (Bk n j),nth costs (Bk n j) + Hk n i,nth ranks (Bk n j),j,i⟩:=by
 rw [Hn,List.mem_filterMap]
 constructor
 ·rintro ⟨i,hi,he⟩
  have hi:=List.mem_range.1 hi
  unfold Ua at he
  simp only at he
  split at he
  ·rename_i hc
   simp only [Bool.and_eq_true,beq_iff_eq,decide_eq_true_eq] at hc
   obtain ⟨j,hj⟩:∃ j:Nat,B6 n up i = j:=⟨(B6 n up i).toNat,by omega⟩
   rw [hj] at he
   exact ⟨i,j,⟨hi,hj⟩,hc.1,(Option.some.inj he).symm⟩
  ·cases he
 ·rintro ⟨i,j,⟨hi,hj⟩,hd,rfl⟩
  refine ⟨i,List.mem_range.2 hi,?_⟩
  unfold Ua
  have e:(n.ports.getD i default).dev = dev:=hd
  simp only [hj,e]
  rw [if_pos (by simp)]
  rfl
theorem Ak2 {d:Int} (h:nth roots d = nth ranks d):Ew n up ranks roots costs d = -1:=by
 simp only [Ew,h,beq_self_eq_true,Bool.or_true,if_true]
theorem Yk {d:Int} {i:Nat} (h:Ew n up ranks roots costs d = i):∃ j:Nat,Hop n up i j ∧ Bk n i = d ∧ nth roots d ≠ nth ranks d ∧ (Hg (Hn n up ranks roots costs d n.ports.length)).1 = ⟨nth roots (Bk n j),nth costs (Bk n j) + Hk n i,nth ranks (Bk n j),j,i⟩:=by
 have hmem:=@Agr (Hn n up ranks roots costs d n.ports.length)
 unfold Ew at h
 simp only at h
 split at h
 ·omega
 ·rename_i hc
  simp only [Bool.or_eq_true,Bool.not_eq_true',not_or,Bool.not_eq_false,beq_iff_eq] at hc
  obtain ⟨i',j,h1,h2,h3⟩:=best_mem.1 (hmem hc.1)
  rw [h3] at h
  have:i' = i:=by simp only at h; omega
  subst this
  exact ⟨j,h1,h2,hc.2,h3⟩
theorem Ak1 (S:Solved n up ranks roots costs) (hr:Ah n = true) {d:Int} (h0:0 ≤ d) (h1:d < n.devices.length) (h:nth roots d ≠ nth ranks d):∃ i j:Nat,Hop n up i j ∧ Bk n i = d ∧ Ew n up ranks roots costs d = i ∧ nth costs d = nth costs (Bk n j) + Hk n i:=by
 obtain ⟨p,q,g1,g2,g3,g4⟩:=Ae8 S h0 h1 h
 have hm:=(best_mem (ranks:=ranks) (roots:=roots) (costs:=costs)).2 ⟨p,q,g1,g2,rfl⟩
 have h2:(Hg (Hn n up ranks roots costs d n.ports.length)).2 = true:=by
  cases hb:(Hg (Hn n up ranks roots costs d n.ports.length)).2
  ·rw [(Adx hb).1] at hm; simp at hm
  ·rfl
 obtain ⟨i,j,e1,e2,e3⟩:=best_mem.1 (Agr h2)
 have hle:=Zz _ _ hm
 rw [e3] at hle
 refine ⟨i,j,e1,e2,?_,?_⟩
 ·unfold Ew
  simp only [h2,Bool.not_true,Bool.false_or,beq_iff_eq]
  rw [if_neg h,e3]
 ·have r1:=Kb S hr e1
  have v1:=Wv S hr e1
  rw [e2] at r1 v1
  simp only [Cc] at hle
  grind
theorem Afe (n:Net) (up:List Bool) (ranks costs:List Int) {p:Nat} (hp:p < n.ports.length):nth (He n up ranks costs n.ports.length) p = Mr n up ranks costs p:=by
 rw [Ao (by rw [Ks]; simpa using hp)]
 simp [He,hp]
theorem S4 (n:Net) (up:List Bool) (ranks roots costs:List Int) {p:Nat} (hp:p < n.ports.length):∀ e:Nat,(∀ d:Nat,d < e → Ew n up ranks roots costs d ≠ p) → nth (Hs n up ranks roots costs e) p = Mr n up ranks costs p
 | 0,_=>Afe n up ranks costs hp
 | e + 1,h=>by
  have ih:=S4 n up ranks roots costs hp e (fun d hd=>h d (by omega))
  have hne:=h e (by omega)
  rw [Hs]
  split
  ·rw [nth,List.getElem?_set_ne (by omega)]
   exact ih
  ·exact ih
theorem Vd (n:Net) (up:List Bool) (ranks roots costs:List Int) {p:Nat} (hp:p < n.ports.length):∀ (e d:Nat),d < e → Ew n up ranks roots costs d = p → nth (Hs n up ranks roots costs e) p = 1
 | 0,_,h,_=>absurd h (by omega)
 | e + 1,d,h,hb=>by
  have hl:=E2 n up ranks roots costs e
  rw [Hs]
  by_cases hbe:Ew n up ranks roots costs e = p
  ·rw [hbe,if_pos (by omega),nth,Int.toNat_natCast,List.getElem?_set_self (by omega)]
   rfl
  ·have hde:d ≠ e:=fun h=>hbe (by rw [← h]; exact hb)
   have ih:=Vd n up ranks roots costs hp e d (by omega) hb
   split
   ·rw [nth,List.getElem?_set_ne (by omega)]
    exact ih
   ·exact ih
def Al4 (n:Net) (up:List Bool) (ranks roots costs:List Int):List Int:=Hs n up ranks roots costs n.devices.length
theorem Zo (hr:Ah n = true) {p:Nat} (hp:p < n.ports.length):nth (Al4 n up ranks roots costs) p = if Ew n up ranks roots costs (Bk n p) = p then 1 else Mr n up ranks costs p:=by
 have hd:=Cp hr hp
 split
 ·rename_i h
  refine Vd n up ranks roots costs hp _ (Bk n p).toNat (by omega) ?_
  rw [Int.toNat_of_nonneg hd.1]
  exact h
 ·rename_i h
  refine S4 n up ranks roots costs hp _ (fun d _ hb=>h ?_)
  obtain ⟨_,_,h2,_⟩:=Yk hb
  rw [h2]
  exact hb
theorem Aff {p:Nat} (h:B6 n up p < 0):Mr n up ranks costs p = 0:=by rw [Mr,if_pos h]
theorem Ajj {p q:Nat} (h:Hop n up p q):Mr n up ranks costs p = if nth costs (Bk n p) < nth costs (Bk n q) ∨ (nth costs (Bk n p) = nth costs (Bk n q) ∧ nth ranks (Bk n p) < nth ranks (Bk n q)) then 2 else 3:=by
 rw [Mr,h.2,if_neg (by omega),Int.toNat_natCast,Jh]
 have e1:(n.ports.getD p default).dev = Bk n p:=rfl
 have e2:(n.ports.getD q default).dev = Bk n q:=rfl
 simp only [e1,e2,Bool.or_eq_true,decide_eq_true_eq,Bool.and_eq_true,beq_iff_eq]
def U4 (roles:List Int) (l:Link):Bool:=inB [nth roles l.a,nth roles l.b] 1 && inB [nth roles l.a,nth roles l.b] 2
def fwdL (n:Net) (roles:List Int):List Bool:=n.links.map (U4 roles)
end
end Go.Sy.YtmelpejjondedaaGreat
namespace Go.Sy.YtmelpejjondedaaGreat
open Go.Proofs
theorem G_lit {C:Cx} {k:List KI} {s:SS} (d:Nat) {sz:Nat} {α:Type} (e:α → SV) (l:List α) {svs:List SV} (h:s.h d = .lit sz svs) (hl:l.map e = svs) (hg:G C k ⟨s.σ,upd s.h d (.row sz e l)⟩):G C k s:=fun κ a w hs=>by
 refine hg κ a w ⟨hs.defers,hs.size,hs.inv,hs.ctx,hs.slot,fun j=>?_⟩
 show ObOK κ w j (upd s.h d (.row sz e l) j)
 by_cases hj:j = d
 ·subst hj
  rw [Bt]
  have hob:=hs.obj j
  rw [h] at hob
  have hlen:l.length = svs.length:=by rw [← hl,List.length_map]
  obtain ⟨b,cap,cs,T,fr,e1,e2,e3,e4,e5,e6⟩:=hob
  exact .inr ⟨b,cap,cs,T,fr,by rw [hlen]; exact e1,e2,e3,e4,by omega,fun i x hx=>by rw [hlen]; exact e6 i x (K2 hl i x hx)⟩
 ·rw [Cd _ _ hj]; exact hs.obj j
attribute [local irreducible] Go.Sy.G Go.Sy.DR
set_option maxRecDepth 100000
set_option maxHeartbeats 4000000
theorem Xc (n:Net) (up:List Bool) (x:Item) (q:List Item):∀ i,((List.range i).foldl (C4 n up x) q).length ≤ q.length + i
 | 0=>by simp
 | i + 1=>by
  have:=Xc n up x q i
  rw [List.range_succ,List.foldl_append]
  simp only [List.foldl_cons,List.foldl_nil]
  rw [C4]
  split
  ·rw [Jc]; omega
  ·omega
theorem reachS (n:Net) (up:List Bool) (ranks roots costs:List Int) (hr:Ah n = true) (hu:up.length = n.links.length) (hcost:Ch n = true) (hrk:ranks.length = n.devices.length) (hro:roots.length = n.devices.length) (hc:costs.length = n.devices.length) (hrr:∀ r ∈ ranks,0 ≤ r) (D:List Item × List Int × List Int) (hD:I1 n up (D0 ranks ranks.length,roots,costs) = D) :
  Sy.Spec Tryz.prog 157 [.ptr 0 0] (Zl n up ranks roots costs) (.tup []) (Zl n up ranks D.2.1 D.2.2):=Ab Γ hm 100 F157 Tryz.ntmps157 rfl fun F hF=>by
 have hf:=Cq hr
 conv=>whnf
 refine G_lit 10 Bq [] E E ?_
 refine Av ranks.length (fun j=>[(0,.ptr 0 0),(2,.ptr 11 0),(15,.sl 1 Aa ranks),(16,Aa ranks.length),(17,Aa j)]) (fun j=>[(0,.box (Ql n up ranks (.osl 1) (.osl 2))),(1,.row 1 Aa roots),(2,.row 1 Aa costs),(11,.box [.osl 12]),(12,.row 3 Bq (D0 ranks j))]) [(12,10)]
  ⟨⟨rfl,rfl,rfl,rfl,rfl,rfl,rfl,rfl,rfl,rfl,trivial⟩,⟨.inl rfl,rfl,.inl rfl,rfl,.inl rfl,rfl,.inl rfl,rfl,.inl rfl,rfl,trivial⟩,rfl,rfl⟩ ?_
 intro j hj
 refine rg ?_;conv=>whnf
 refine ⟨fun h=>?_,fun h=>?_⟩
 ·have hlt:j < ranks.length:=by simpa using h
  have e1:ranks[(j:Int).toNat]'(by omega) = ranks[j]:=rfl
  have hpush:=Z7 (D0 ranks j) ⟨ranks.getD j 0,0,j⟩ (by rw [Kq]; omega)
  have hsucc:=Im ranks j
  rw [A9 (show j < ranks.length by omega)] at hpush hsucc
  refine rg ?_;conv=>whnf
  refine ⟨by omega,by omega,?_⟩
  conv=>whnf
  refine ⟨by omega,?_⟩
  rw [e1]
  conv=>whnf
  refine Ai (Ak [(0,11),(1,12),(2,28)] E F233 hpush E ⟨E,E,Y⟩ E ⟨.inl E,.inl E,.inr E,Y⟩) E E ?_
  refine rg ?_;conv=>whnf
  refine ⟨by unfold I64; omega,?_⟩
  conv=>whnf
  refine Ar [(12,28)] hlt ⟨⟨E,E,E,E,E,E,E,E,E,E,Y⟩,⟨.inl E,E,.inl E,E,.inl E,E,.inl E,E,.inl (congrArg (Ob.row 3 Bq) hsucc),E,Y⟩,E,E⟩
 ·have hjl:j = ranks.length:=by
   have:¬ j < ranks.length:=by simpa using h
   omega
  subst hjl
  refine rg ?_;conv=>whnf
  refine Ov (α:={s:List Item × List Int × List Int // ReachInv n s ∧ I1 n up s = D}) (fun p=>[(0,.ptr 0 0),(2,.ptr 11 0)]) (fun p=>[(0,.box (Ql n up ranks (.osl 1) (.osl 2))),(1,.row 1 Aa p.1.2.1),(2,.row 1 Aa p.1.2.2),(11,.box [.osl 12]),(12,.row 3 Bq p.1.1)]) (fun p=>reachM p.1) ⟨(D0 ranks ranks.length,roots,costs),Zk n ranks roots costs hr hrk hro hc hrr,hD⟩ []
   ⟨⟨rfl,rfl,rfl,rfl,trivial⟩,⟨.inl rfl,rfl,.inl rfl,rfl,.inl rfl,rfl,.inl rfl,rfl,.inl rfl,rfl,trivial⟩,rfl,rfl⟩ ?_
  rintro ⟨⟨q,ro,co⟩,hI,hDq⟩
  have hlen:=Uq q
  have hdn:=Af0 n up (q,ro,co)
  have hds:=Add n up hr hcost (q,ro,co) hI
  dsimp only at hdn hds ⊢
  refine rg ?_;conv=>whnf
  refine Ai (Sh [12] E F234 hlen (.cons (.row E E) .nil) E E) E E ?_
  refine rg ?_;conv=>whnf
  refine ⟨fun h2=>?_,fun h2=>?_⟩
  ·have hne:q ≠ []:=fun e=>by subst e; simp at h2
   have hpop:=Am9 q hne (by have:=hI.few; simp only at this; omega)
   have hx:=hI.items _ ((O3 q hne).mem_iff.1 (List.getLast_mem (Dn hne)))
   have hst:Lw n up (q,ro,co) = if 0 ≤ nth ro ((Cw q).getLast (Dn hne)).dev then ((Cw q).dropLast,ro,co) else ((List.range n.ports.length).foldl (C4 n up ((Cw q).getLast (Dn hne))) (Cw q).dropLast,ro.set ((Cw q).getLast (Dn hne)).dev.toNat ((Cw q).getLast (Dn hne)).root,co.set ((Cw q).getLast (Dn hne)).dev.toNat ((Cw q).getLast (Dn hne)).cost):=by
    rw [Lw,Xp hne]
   have hr1:=Js n up hr hcost (q,ro,co) hI hne
   have hD1:=hds hne
   rw [hDq] at hD1
   rw [hst] at hr1 hD1
   generalize (Cw q).getLast (Dn hne) = x at *
   have hroL:=hI.rootsL
   have hcoL:=hI.costsL
   dsimp only at hroL hcoL
   rw [Ao (l:=ro) (i:=x.dev) (by omega)] at hr1 hD1
   refine rg ?_;conv=>whnf
   refine Ai (Ak [(0,11),(1,12),(2,38)] E F235 hpop E ⟨E,E,Y⟩ E ⟨.inl E,.inl E,.inr E,Y⟩) E E ?_
   refine rg ?_;conv=>whnf
   refine Ai (Vu Γ.toTy E E E E) E E ?_
   (refine rg ?_;(conv=>whnf);refine aF ?_;refine rd (by kernel_rfl) ?_;conv=>whnf)
   have hx1:=hx.1
   have hx2:=hx.2.1
   refine ⟨by omega,by omega,?_⟩
   conv=>whnf
   refine ⟨E,by omega,?_⟩
   conv=>whnf
   refine ⟨(by kernel_rfl),?_⟩
   conv=>whnf
   refine ⟨fun h3=>?_,fun h3=>?_⟩
   ·have h30:0 ≤ ro[x.dev.toNat]'(by omega):=of_decide_eq_true h3
    rw [if_pos h30] at hr1 hD1
    refine rg ?_;conv=>whnf
    exact Qy (α:={s:List Item × List Int × List Int // ReachInv n s ∧ I1 n up s = D}) (L:=fun p=>[(0,.ptr 0 0),(2,.ptr 11 0)]) (O:=fun p=>[(0,.box (Ql n up ranks (.osl 1) (.osl 2))),(1,.row 1 Aa p.1.2.1),(2,.row 1 Aa p.1.2.2),(11,.box [.osl 12]),(12,.row 3 Bq p.1.1)]) (μ:=fun p=>reachM p.1) (x:=⟨(q,ro,co),hI,hDq⟩)
     ⟨((Cw q).dropLast,ro,co),hr1.1,hD1.symm⟩ [(12,38)] hr1.2
     ⟨⟨rfl,rfl,rfl,rfl,trivial⟩,⟨.inl rfl,rfl,.inl rfl,rfl,.inl rfl,rfl,.inl rfl,rfl,.inl rfl,rfl,trivial⟩,rfl,rfl⟩
   ·have h30:¬ 0 ≤ ro[x.dev.toNat]'(by omega):=of_decide_eq_false h3
    rw [if_neg h30] at hr1 hD1
    refine rg ?_;conv=>whnf
    refine ⟨by omega,by omega,?_⟩
    conv=>whnf
    refine ⟨by omega,by omega,?_⟩
    conv=>whnf
    refine ⟨x.root,E,E,?_⟩
    conv=>whnf
    refine ⟨by omega,by omega,E,by omega,x.cost,E,E,?_⟩
    conv=>whnf
    refine ⟨(by kernel_rfl),?_⟩
    conv=>whnf
    generalize ro.set x.dev.toNat x.root = ro' at *
    generalize co.set x.dev.toNat x.cost = co' at *
    refine Av n.ports.length (fun j=>[(0,.ptr 0 0),(2,.ptr 11 0),(5,.ptr 5 0),(77,.sl 7 Bi n.ports),(78,Aa n.ports.length),(79,Aa j)]) (fun j=>[(0,.box (Ql n up ranks (.osl 1) (.osl 2))),(1,.row 1 Aa ro'),(2,.row 1 Aa co'),(5,.box [Aa x.root,Aa x.cost,Aa x.dev]),(11,.box [.osl 12]),(12,.row 3 Bq ((List.range j).foldl (C4 n up x) (Cw q).dropLast))]) [(12,38)]
     ⟨⟨rfl,rfl,rfl,rfl,rfl,rfl,rfl,rfl,rfl,rfl,rfl,rfl,trivial⟩,⟨.inl rfl,rfl,.inl rfl,rfl,.inl rfl,rfl,.inl rfl,rfl,.inl rfl,rfl,.inl rfl,rfl,trivial⟩,rfl,rfl⟩ ?_
    intro j hj
    refine rg ?_;conv=>whnf
    refine ⟨fun h4=>?_,fun h4=>?_⟩
    ·have hlt:j < n.ports.length:=by simpa using h4
     have e1:n.ports[(j:Int).toNat]'(by omega) = n.ports[j]:=rfl
     have hfar:=farR n up ranks ro' co' j hr hu hlt
     have hql:(Cw q).dropLast.length ≤ q.length:=by rw [List.length_dropLast,Dw]; omega
     have hlenQ:=Xc n up x (Cw q).dropLast j
     have hfew:=hI.few
     dsimp only at hfew
     have hsucc:(List.range (j + 1)).foldl (C4 n up x) (Cw q).dropLast = C4 n up x ((List.range j).foldl (C4 n up x) (Cw q).dropLast) j:=by
      rw [List.range_succ,List.foldl_append]; rfl
     generalize (List.range j).foldl (C4 n up x) (Cw q).dropLast = Q at *
     rw [C4,A9 hlt] at hsucc
     refine rg ?_;conv=>whnf
     refine ⟨by omega,by omega,?_⟩
     conv=>whnf
     refine ⟨by omega,?_⟩
     rw [e1]
     conv=>whnf
     refine Ai (Ak [] E F158 hfar E ⟨E,E,E,Y⟩ E ⟨.inl E,.inl E,.inl E,Y⟩) E E ?_
     refine rg ?_;conv=>whnf
     refine ⟨fun h5=>?_,fun h5=>?_⟩
     ·refine rg ?_;conv=>whnf
      refine ⟨fun h6=>?_,fun h6=>?_⟩
      ·have hk0:0 ≤ B6 n up j:=of_decide_eq_true h6
       have hk1:=Si (up:=up) hr hlt hk0
       rw [if_pos ⟨by simpa using h5,hk0⟩,Ao (l:=n.ports) (i:=B6 n up j) (by omega)] at hsucc
       have hpc:1 ≤ (n.ports[(B6 n up j).toNat]'(by omega)).cost ∧ (n.ports[(B6 n up j).toNat]'(by omega)).cost ≤ 65535:=by
        simp only [Ch,Bool.not_eq_true',List.any_eq_false] at hcost
        have:=hcost _ (List.getElem_mem (show (B6 n up j).toNat < n.ports.length by omega))
        simp only [H1,Bool.or_eq_true,decide_eq_true_eq,not_or] at this
        omega
       have hxc:=hx.2.2.2
       have hpush:=Z7 Q ⟨x.root,x.cost + (n.ports[(B6 n up j).toNat]'(by omega)).cost,(n.ports[(B6 n up j).toNat]'(by omega)).dev⟩ (by omega)
       refine rg ?_;conv=>whnf
       refine ⟨E,hk0,by omega,?_⟩
       conv=>whnf
       refine ⟨by unfold I64; omega,?_⟩
       conv=>whnf
       refine ⟨E,hk0,by omega,?_⟩
       conv=>whnf
       refine Bj (Ak [(0,11),(1,12),(2,123)] E F233 hpush E ⟨E,E,Y⟩ E ⟨.inl E,.inl E,.inr E,Y⟩) (by kernel_rfl) E ?_
       refine rd (by kernel_rfl) ?_;conv=>whnf
       refine ⟨(by kernel_rfl),?_⟩
       conv=>whnf
       refine ⟨by unfold I64; omega,?_⟩
       conv=>whnf
       refine Ar [(12,123)] hlt ⟨⟨E,E,E,E,E,E,E,E,E,E,E,E,Y⟩,⟨.inl E,E,.inl E,E,.inl E,E,.inl E,E,.inl E,E,.inl (congrArg (Ob.row 3 Bq) hsucc),E,Y⟩,E,E⟩
      ·rw [if_neg (fun hh=>(of_decide_eq_false h6) hh.2)] at hsucc
       refine rg ?_;conv=>whnf
       refine ⟨by unfold I64; omega,?_⟩
       conv=>whnf
       refine Ar [] hlt ⟨⟨E,E,E,E,E,E,E,E,E,E,E,E,Y⟩,⟨.inl E,E,.inl E,E,.inl E,E,.inl E,E,.inl E,E,.inl (congrArg (Ob.row 3 Bq) hsucc),E,Y⟩,E,E⟩
     ·rw [if_neg (fun hh=>absurd hh.1 (by simpa using h5))] at hsucc
      (refine rg ?_;(conv=>whnf);refine aF ?_;refine rg ?_;conv=>whnf)
      refine ⟨by unfold I64; omega,?_⟩
      conv=>whnf
      refine Ar [] hlt ⟨⟨E,E,E,E,E,E,E,E,E,E,E,E,Y⟩,⟨.inl E,E,.inl E,E,.inl E,E,.inl E,E,.inl E,E,.inl (congrArg (Ob.row 3 Bq) hsucc),E,Y⟩,E,E⟩
    ·have hjl:j = n.ports.length:=by
      have:¬ j < n.ports.length:=by simpa using h4
      omega
     subst hjl
     refine rg ?_;conv=>whnf
     exact Qy (α:={s:List Item × List Int × List Int // ReachInv n s ∧ I1 n up s = D}) (L:=fun p=>[(0,.ptr 0 0),(2,.ptr 11 0)]) (O:=fun p=>[(0,.box (Ql n up ranks (.osl 1) (.osl 2))),(1,.row 1 Aa p.1.2.1),(2,.row 1 Aa p.1.2.2),(11,.box [.osl 12]),(12,.row 3 Bq p.1.1)]) (μ:=fun p=>reachM p.1) (x:=⟨(q,ro,co),hI,hDq⟩)
      ⟨((List.range n.ports.length).foldl (C4 n up x) (Cw q).dropLast,ro',co'),hr1.1,hD1.symm⟩ [] hr1.2
      ⟨⟨rfl,rfl,rfl,rfl,trivial⟩,⟨.inl rfl,rfl,.inl rfl,rfl,.inl rfl,rfl,.inl rfl,rfl,.inl rfl,rfl,trivial⟩,rfl,rfl⟩
  ·have he:q = []:=List.eq_nil_of_length_eq_zero (by
    have:¬ 0 < q.length:=by simpa using h2
    omega)
   have e:D = (q,ro,co):=by rw [← hDq,hdn he]
   rw [e]
   refine rg ?_;conv=>whnf
   exact Bx E .nil [] (Zl n up ranks ro co) (fun _ h=>h) E E ⟨Y,⟨.inl E,E,.inl E,E,.inl E,E,Y⟩,E,E⟩
end Go.Sy.YtmelpejjondedaaGreat
namespace Go.Sy.YtmelpejjondedaaGreat
open Go.Proofs
attribute [local irreducible] Go.Sy.G Go.Sy.DR
set_option maxRecDepth 100000
set_option maxHeartbeats 4000000
def okB (n:Net) (up:List Bool):Bool:=decide (up.length = n.links.length) && (Ah n && Ch n)
theorem ok_iff {n:Net} {up:List Bool}:okB n up = true ↔ up.length = n.links.length ∧ Ah n = true ∧ Ch n = true:=by simp [okB]
def Q5 (n:Net) (up:List Bool):List Int:=(Mx n up (Cm n)).2.1
def Sq (n:Net) (up:List Bool):List Int:=(Mx n up (Cm n)).2.2
def Abc (n:Net) (up:List Bool):SV:=Mo n up (Cm n) (Q5 n up) (Sq n up)
theorem Aoz (n:Net) (up:List Bool) (hn:n.Fin) (h:okB n up = false):Sy.Spec Tryz.prog 84 [Ap n,.sl 1 Ad up] [] (.tup [.val (.pointer none),Aa 2]) []:=Ab Γ hm 100 F84 Tryz.ntmps84 rfl fun F hF=>by
 have h':¬ (up.length = n.links.length ∧ Ah n = true ∧ Ch n = true):=fun hh=>by rw [ok_iff.2 hh] at h; cases h
 conv=>whnf
 (repeat' (first | (refine ⟨fun h=>?_,fun h=>?_⟩ <;> (repeat (first | simp only [bne_iff_ne] at h | simp only [bne_eq_false_iff_eq] at h | simp only [Bool.not_eq_true'] at h | simp only [Bool.not_eq_false'] at h)) <;> ((refine rg ?_);(conv=>whnf);repeat((refine aT ?_);(refine rg ?_);(conv=>whnf)))) | (refine Ag (B3 n hn) F67 rfl rfl rfl rfl rfl ?_; ((refine rg ?_);(conv=>whnf))) | (refine Ag (Anx n hn.ports) F155 rfl rfl rfl rfl rfl ?_; ((refine rg ?_);(conv=>whnf))) | refine Ac rfl (.cons .tmp (.cons .tmp .nil)) rfl rfl))
 all_goals exact absurd ⟨by omega,by assumption,by assumption⟩ h'
def Mg (m j:Nat):List Int:=List.replicate j (-1) ++ List.replicate (m - j) 0
theorem Ag6 (m:Nat):Mg m 0 = List.replicate m 0:=by simp [Mg]
theorem Akr (m:Nat):Mg m m = List.replicate m (-1):=by simp [Mg]
theorem Abw (m j:Nat) (h:j ≤ m):(Mg m j).length = m:=by simp [Mg]; omega
theorem Ag7 (m j:Nat) (h:j < m):Mg m (j + 1) = (Mg m j).set j (-1):=by
 have e:m - j = (m - (j + 1)) + 1:=by omega
 rw [Mg,Mg,e,List.set_append_right _ _ (by simp),List.length_replicate,Nat.sub_self,List.replicate_succ' (n:=j),List.replicate_succ (n:=m - (j + 1))]
 simp
theorem openOK (n:Net) (up:List Bool) (hn:n.Fin) (hu:up.length = n.links.length) (hr:Ah n = true) (hcost:Ch n = true):Sy.Spec Tryz.prog 84 [Ap n,.sl 1 Ad up] [] (.tup [Abc n up,Aa 0]) []:=Ab Γ hm 100 F84 Tryz.ntmps84 rfl fun F hF=>by
 have hf:=Cq hr
 have hrt:=B3 n hn
 have hct:=Anx n hn.ports
 have hrs:=ranksS n hn
 rw [hr] at hrt
 rw [hcost] at hct
 rw [hr,if_pos rfl] at hrs
 have hrk:=Ee n
 have hrr:∀ r ∈ Cm n,0 ≤ r:=fun r h=>(Vi n r h).1
 have hsv:Abc n up = Mo n up (Cm n) (Mx n up (Cm n)).2.1 (Mx n up (Cm n)).2.2:=rfl
 rw [hsv]
 generalize Cm n = ranks at *
 have hreach:=fun D hD=>reachS n up ranks (List.replicate n.devices.length (-1)) (List.replicate n.devices.length 0) hr hu hcost hrk (by simp) (by simp) hrr D hD
 have hRT:I1 n up (D0 ranks ranks.length,List.replicate n.devices.length (-1),List.replicate n.devices.length 0) = Mx n up ranks:=rfl
 generalize Mx n up ranks = D at *
 have hreach:=hreach D hRT
 clear hRT hsv
 conv=>whnf
 refine ⟨fun h=>absurd h (by simp [hu]),fun h=>?_⟩
 refine rg ?_;conv=>whnf
 refine Ag hrt F67 E E E E E ?_
 (refine rg ?_;(conv=>whnf);refine aF ?_;refine rg ?_;conv=>whnf)
 refine Ag hct F155 E E E E E ?_
 (refine rg ?_;(conv=>whnf);refine aF ?_;refine rg ?_;conv=>whnf)
 refine At hrs F156 E E E (by kernel_rfl) E ?_
 refine rd (by kernel_rfl) ?_;conv=>whnf
 refine Bj (Bw Γ.toTy (d:=31) (n:=n.devices.length) Aa 0 E E E E E E E E (by omega) (by omega) E E E) (by kernel_rfl) E ?_
 refine rd (by kernel_rfl) ?_;conv=>whnf
 refine Bj (Bw Γ.toTy (d:=35) (n:=n.devices.length) Aa 0 E E E E E E E E (by omega) (by omega) E E E) (by kernel_rfl) E ?_
 refine rd (by kernel_rfl) ?_;conv=>whnf
 refine ⟨(by kernel_rfl),?_⟩
 conv=>whnf
 refine Av n.devices.length (fun j=>[(6,.ptr 37 0),(42,Aa (List.replicate n.devices.length (0:Int)).length),(43,Aa j)]) (fun j=>[(37,.box (Ql n up ranks (.osl 31) (.osl 35))),(31,.row 1 Aa (Mg n.devices.length j)),(35,.row 1 Aa (List.replicate n.devices.length 0))]) []
  ⟨⟨rfl,rfl,rfl,rfl,rfl,rfl,trivial⟩,⟨.inl rfl,rfl,.inl (by rw [Ag6]; rfl),rfl,.inl rfl,rfl,trivial⟩,rfl,rfl⟩ ?_
 intro j hj
 have hlen:=Abw n.devices.length j hj
 refine rg ?_;conv=>whnf
 refine ⟨fun h=>?_,fun h=>?_⟩
 ·have hlt:j < n.devices.length:=by simpa using h
  have hsucc:=Ag7 n.devices.length j hlt
  generalize Mg n.devices.length j = u at *
  refine rg ?_;conv=>whnf
  refine ⟨by omega,by omega,?_⟩
  conv=>whnf
  refine ⟨E,by omega,-1,E,E,?_⟩
  conv=>whnf
  refine ⟨by unfold I64; omega,?_⟩
  conv=>whnf
  exact Ar [] hlt ⟨⟨E,E,E,E,E,E,Y⟩,⟨.inl E,E,.inl (congrArg (Ob.row 1 Aa) hsucc),E,.inl E,E,Y⟩,E,E⟩
 have hjl:j = n.devices.length:=by
  have:¬ j < n.devices.length:=by simpa using h
  omega
 subst hjl
 have hall:=Akr n.devices.length
 rw [← hall] at hreach
 refine rg ?_;conv=>whnf
 refine Ai (Ak [(0,37),(1,31),(2,35)] E F157 hreach E ⟨E,E,E,Y⟩ E ⟨.inl E,.inl E,.inl E,Y⟩) E E ?_
 refine As 31 E ?_
 refine As 35 E ?_
 refine Bf 37 12 (.agg (Ql n up ranks (.sl 1 Aa D.2.1) (.sl 1 Aa D.2.2))) E E E ?_
 refine rg ?_;conv=>whnf
 exact Ac E (.cons .tmp (.cons .tmp .nil)) E E
theorem U8 {n:Net} {up:List Bool} (h:okB n up = true):Solved n up (Cm n) (Q5 n up) (Sq n up):=by
 obtain ⟨hu,hr,hcost⟩:=ok_iff.1 h
 exact Yu n up (Cm n) hr hcost (Ee n) (fun r h=>(Vi n r h).1)
def Iz (n:Net) (up:List Bool):List Int:=Al4 n up (Cm n) (Q5 n up) (Sq n up)
def Anl (n:Net) (up:List Bool):List Bool:=fwdL n (Iz n up)
theorem Kr (n:Net) (up:List Bool):(Iz n up).length = n.ports.length:=E2 ..
theorem Agb (n:Net) (up:List Bool) (h:okB n up = true):Sy.Spec Tryz.prog 85 [Abc n up] [] (.sl 1 Aa (Iz n up)) []:=by
 obtain ⟨hu,hr,hcost⟩:=ok_iff.1 h
 have S:=U8 h
 exact rolesS n up (Cm n) (Q5 n up) (Sq n up) hr hu hcost (Ee n) S.rootsL S.costsL (fun c hc=>by have:=S.bound c hc; omega)
theorem X8 (n:Net) (up:List Bool) (hn:n.Fin) (h:okB n up = false):Sy.Spec Tryz.prog 44 [Ap n,.sl 1 Ad up] [] (.tup [.sl 1 Ad [],Aa 2]) []:=Ab Γ hm 100 F44 Tryz.ntmps44 rfl fun F hF=>by
 conv=>whnf
 refine Ag (Aoz n up hn h) F84 E E E E E ?_
 (refine rg ?_;(conv=>whnf);refine aT ?_;refine rg ?_;conv=>whnf)
 refine Am 4 1 Ad E ?_
 exact Ac E (.cons .tmp (.cons .tmp .nil)) E E
def Wa (n:Net) (roles:List Int) (j:Nat):List Bool:=(n.links.take j).map (U4 roles) ++ List.replicate (n.links.length - j) false
theorem Akn (n:Net) (roles:List Int):Wa n roles 0 = List.replicate n.links.length false:=by simp [Wa]
theorem Ank (n:Net) (roles:List Int):Wa n roles n.links.length = fwdL n roles:=by simp [Wa,fwdL]
theorem Ad9 (n:Net) (roles:List Int) (j:Nat) (h:j ≤ n.links.length):(Wa n roles j).length = n.links.length:=by simp [Wa]; omega
theorem Ako (n:Net) (roles:List Int) (j:Nat) (h:j < n.links.length):Wa n roles (j + 1) = (Wa n roles j).set j (U4 roles n.links[j]):=by
 have e:n.links.length - j = (n.links.length - (j + 1)) + 1:=by omega
 have el:((n.links.take j).map (U4 roles)).length = j:=by simp; omega
 rw [Wa,Wa,List.set_append_right _ _ (by omega),el,Nat.sub_self,List.take_succ_eq_append_getElem h,List.map_append,e,List.replicate_succ,List.set_cons_zero]
 simp
theorem Aaa (n:Net) (up:List Bool) (hn:n.Fin) (h:okB n up = true):Sy.Spec Tryz.prog 44 [Ap n,.sl 1 Ad up] [] (.tup [.sl 1 Ad (Anl n up),Aa 0]) []:=Ab Γ hm 100 F44 Tryz.ntmps44 rfl fun F hF=>by
 obtain ⟨hu,hr,hcost⟩:=ok_iff.1 h
 have hf:=Cq hr
 have ho:=openOK n up hn hu hr hcost
 have hro:=Agb n up h
 have hrl:=Kr n up
 rw [Anl]
 generalize Iz n up = roles at *
 unfold Abc at ho hro
 generalize Cm n = ranks at *
 generalize Q5 n up = roots at *
 generalize Sq n up = costs at *
 conv=>whnf
 refine Ag ho F84 E E E E E ?_
 (refine rg ?_;(conv=>whnf);refine aF ?_;refine rg ?_;conv=>whnf)
 refine Ag hro F85 E E E E E ?_
 refine rg ?_;conv=>whnf
 refine Ai (Bw Γ.toTy (d:=27) (n:=n.links.length) Ad false E E E E E E E E (by omega) (by omega) E E E) E E ?_
 rw [← Akn n roles]
 refine rg ?_;conv=>whnf
 refine Av n.links.length (fun j=>[(8,.sl 1 Aa roles),(9,.osl 27),(29,.sl 3 Co n.links),(30,Aa n.links.length),(31,Aa j)]) (fun j=>[(27,.row 1 Ad (Wa n roles j))]) []
  ⟨⟨rfl,rfl,rfl,rfl,rfl,rfl,rfl,rfl,rfl,rfl,trivial⟩,⟨.inl rfl,rfl,trivial⟩,rfl,rfl⟩ ?_
 intro j hj
 have hall:=Ank n roles
 refine rg ?_;conv=>whnf
 refine ⟨fun h=>?_,fun h=>?_⟩
 ·have hlt:j < n.links.length:=by simpa using h
  have he:=H7 hr hlt
  have e1:n.links[(j:Int).toNat]'(by omega) = n.links[j]:=rfl
  have hlen:=Ad9 n roles j hj
  have hsucc:=Ako n roles j hlt
  generalize Wa n roles j = u at *
  generalize n.links[j] = l at *
  rw [U4,Ao (l:=roles) (i:=l.a) (by omega),Ao (l:=roles) (i:=l.b) (by omega)] at hsucc
  refine rg ?_;conv=>whnf
  refine ⟨E,by omega,by omega,?_⟩
  rw [e1]
  conv=>whnf
  refine ⟨E,by omega,by omega,?_⟩
  conv=>whnf
  refine ⟨E,by omega,by omega,?_⟩
  conv=>whnf
  refine ⟨(by kernel_rfl),?_⟩
  conv=>whnf
  have hA:0 ≤ l.a ∧ l.a < roles.length:=by omega
  have hB:0 ≤ l.b ∧ l.b < roles.length:=by omega
  obtain ⟨x,hx⟩:∃ x,roles[l.a.toNat]'(by omega) = x:=⟨_,rfl⟩
  obtain ⟨y,hy⟩:∃ y,roles[l.b.toNat]'(by omega) = y:=⟨_,rfl⟩
  rw [hx,hy] at hsucc
  refine Ae0 46 (e:=Aa) (l:=[x,y]) E (by rw [← hx,← hy]; rfl) ?_
  refine As 46 E ?_
  refine Ag (Du [x,y] 1 (by unfold Aq; simp)) F86 E E E E E ?_
  refine rg ?_;conv=>whnf
  refine ⟨fun h1=>?_,fun h1=>?_⟩
  ·rw [h1,Bool.true_and] at hsucc
   refine rg ?_;conv=>whnf
   refine Ag (Du [x,y] 2 (by unfold Aq; simp)) F86 E E E E E ?_
   refine rg ?_;conv=>whnf
   refine ⟨by omega,by omega,?_⟩
   conv=>whnf
   refine ⟨E,by omega,inB [x,y] 2,E,E,?_⟩
   conv=>whnf
   refine ⟨by unfold I64; omega,?_⟩
   conv=>whnf
   exact Ar [] hlt ⟨⟨E,E,E,E,E,E,E,E,E,E,Y⟩,⟨.inl (congrArg (Ob.row 1 Ad) hsucc),E,Y⟩,E,E⟩
  ·rw [h1,Bool.false_and] at hsucc
   refine rg ?_;conv=>whnf
   refine ⟨by omega,by omega,?_⟩
   conv=>whnf
   refine ⟨E,by omega,false,E,E,?_⟩
   conv=>whnf
   refine ⟨by unfold I64; omega,?_⟩
   conv=>whnf
   exact Ar [] hlt ⟨⟨E,E,E,E,E,E,E,E,E,E,Y⟩,⟨.inl (congrArg (Ob.row 1 Ad) hsucc),E,Y⟩,E,E⟩
 have hjl:j = n.links.length:=by
  have:¬ j < n.links.length:=by simpa using h
  omega
 subst hjl
 rw [← hall]
 refine rg ?_;conv=>whnf
 refine As 27 E ?_
 exact Ac E (.cons .tmp (.cons .tmp .nil)) E E
end Go.Sy.YtmelpejjondedaaGreat
namespace Go.Sy.YtmelpejjondedaaGreat
open Go.Proofs
structure MacM where
 up:List Bool
 tables:List (List EntryM)
 queues:List (List QueuedM)
 now:Int
 injected:Int
 drops:Nat → Int
def Be (m:MacM) (e:Int):MacM:=⟨m.up,m.tables,m.queues,m.now,m.injected,fun i=>if i = e.toNat then m.drops i + 1 else m.drops i⟩
def queueL (m:MacM) (dom:Int):List QueuedM:=(m.queues[dom.toNat]?).getD []
def tableL (m:MacM) (dom:Int):List EntryM:=(m.tables[dom.toNat]?).getD []
def Acu (m:MacM) (dom:Int) (l:List QueuedM):MacM:=⟨m.up,m.tables,m.queues.set dom.toNat l,m.now,m.injected,m.drops⟩
def Bv (m:MacM) (dom:Int) (t:List EntryM):MacM:=⟨m.up,m.tables.set dom.toNat t,m.queues,m.now,m.injected,m.drops⟩
def comeM (m:MacM) (dom:Int) (q:QueuedM) (e:Int):MacM :=
 if e ≠ 0 then Be m e else if (pushT (queueL m dom) q).2 = true then Acu m dom (pushT (queueL m dom) q).1 else Be m 3
def takeM (m:MacM) (dom at_:Int):MacM × QueuedM × Bool :=
 if Al dom m.queues.length = false then (m,noQ,false)
 else (Acu m dom (takeT (queueL m dom) at_).2.1,(takeT (queueL m dom) at_).1,(takeT (queueL m dom) at_).2.2)
def injectT (n:Net) (m:MacM) (port:Int) (b:List UInt8):MacM :=
 if Al port n.ports.length = false ∨ 0 ≤ (nth n.ports port).link then m
 else comeM ⟨m.up,m.tables,m.queues,m.now,m.injected + 1,m.drops⟩ (enterT n port b).1 ⟨port,0,m.injected + 1,(enterT n port b).2.1⟩ (enterT n port b).2.2
def goesM (n:Net) (m:MacM) (o:OutM) (origin:Int):MacM × List SeenM :=
 if o.kind = 1 then (m,[⟨o.port,origin,o.bytes⟩])
 else if o.kind = 2 then (comeM m (linkT n o.port o.bytes).2.1 ⟨(linkT n o.port o.bytes).1,0,origin,(linkT n o.port o.bytes).2.2.1⟩ (linkT n o.port o.bytes).2.2.2,[])
 else if o.kind = 3 then (comeM m (comeT n o.bytes).2.1 ⟨-1,(comeT n o.bytes).1,origin,(comeT n o.bytes).2.2.1⟩ (comeT n o.bytes).2.2.2,[])
 else if o.kind = 4 then (comeM m o.domain ⟨-2,0,origin,o.frame⟩ 0,[])
 else (Be m o.error,[])
def Bb (n:Net) (m:MacM) (origin:Int):List OutM → MacM × List SeenM
 | []=>(m,[])
 | o :: l=>((Bb n (goesM n m o origin).1 origin l).1,(goesM n m o origin).2 ++ (Bb n (goesM n m o origin).1 origin l).2)
def Hq (n:Net) (up:List Bool):List Bool:=if okB n up = true then Anl n up else []
def Te (n:Net) (m:MacM) (dom:Int) (q:QueuedM):List EntryM × List OutM × Int:=bridgeT n (Hq n m.up) (tableL m dom) dom q m.now
def I5 (m:MacM) (dom:Int) (r:List EntryM × List OutM × Int):MacM :=
 if r.2.2 = 2 then Be m 2 else if r.2.2 ≠ 0 then Be (Bv m dom r.1) r.2.2 else Bv m dom r.1
def pickT (n:Net) (m:MacM) (dom at_:Int):MacM × List SeenM :=
 if (takeM m dom at_).2.2 = false then ((takeM m dom at_).1,[])
 else Bb n (I5 (takeM m dom at_).1 dom (Te n (takeM m dom at_).1 dom (takeM m dom at_).2.1)) (takeM m dom at_).2.1.origin (Te n (takeM m dom at_).1 dom (takeM m dom at_).2.1).2.1
def Mb (m:MacM):MacM :=
 let now:=min (m.now + 1) 1099511627776
 ⟨m.up,m.tables.map (fun t=>ageT t now),m.queues,now,m.injected,m.drops⟩
def doT (n:Net) (m:MacM) (x:StepM):MacM × List SeenM :=
 if x.kind = 1 then (injectT n m x.port x.bytes,[])
 else if x.kind = 2 then pickT n m x.domain x.at_
 else if x.kind = 3 then ((takeM m x.domain x.at_).1,[])
 else if x.kind = 4 then (Mb m,[])
 else if x.kind = 5 then ((if x.up.length = n.links.length then ⟨x.up,m.tables,m.queues,m.now,m.injected,m.drops⟩ else m),[])
 else (m,[])
def newT (n:Net):MacM:=⟨List.replicate n.links.length true,List.replicate n.domains.length [],List.replicate n.domains.length [],0,0,fun _=>0⟩
def Cz (n:Net):MacM → List StepM → MacM × List SeenM
 | m,[]=>(m,[])
 | m,x :: l=>((Cz n (doT n m x).1 l).1,(doT n m x).2 ++ (Cz n (doT n m x).1 l).2)
def Bu (e:Int):Prop:=0 ≤ e ∧ e < 64
def DomIn (n:Net) (d:Int):Prop:=0 ≤ d ∧ d.toNat < n.domains.length
theorem Em {n:Net} {d:Int} (h:Al d n.domains.length = true):DomIn n d:=by
 have:=Bn h
 unfold DomIn
 omega
theorem Uj (b:List UInt8):Bu (takeF b).2:=by
 unfold takeF Bu
 repeat' split
 all_goals (dsimp only; omega)
theorem Ae5 (f:FrameM):Bu (stripT f).2.2.2:=by
 unfold stripT Bu
 repeat' split
 all_goals (dsimp only; omega)
theorem Sk (n:Net) (port:Int) (b:List UInt8):Bu (enterT n port b).2.2:=by
 have h1:=Uj b
 have h2:=Ae5 (takeF b).1
 have h3:∀ f tg v,Bu (Ie n port f tg v).2.2:=fun f tg v=>by
  unfold Ie Bu
  repeat' split
  all_goals (dsimp only; omega)
 unfold enterT
 split
 ·unfold Bu; dsimp only; omega
 split
 ·exact h1
 split
 ·split
  ·exact h2
  ·exact h3 _ _ _
 ·exact h3 _ _ _
theorem Zw (n:Net) (port:Int) (b:List UInt8):Bu (linkT n port b).2.2.2:=by
 unfold linkT
 split
 ·unfold Bu; dsimp only; omega
 ·exact Sk _ _ _
theorem Agm (n:Net) (port dom:Int) (f:FrameM):Bu (leaveT n port dom f).2:=by
 unfold leaveT
 split
 ·unfold Bu; dsimp only; omega
 split
 ·unfold Bu; dsimp only; omega
 split
 ·unfold Bu; dsimp only; omega
 split
 ·unfold Bu; dsimp only; omega
 split
 ·show Bu (tagT f (nth n.domains dom).vlan).2
  unfold tagT Bu
  repeat' split
  all_goals (dsimp only; omega)
 ·unfold Bu; dsimp only; omega
theorem Aix (a b:Nat) (v:Int) (f:FrameM):Bu (wrapT a b v f).2:=by
 unfold wrapT Bu
 repeat' split
 all_goals (dsimp only; omega)
theorem Akc (n:Net) (dom peer:Int) (f:FrameM):Bu (meshT n dom peer f).2:=by
 unfold meshT
 split
 ·unfold Bu; dsimp only; omega
 split
 ·unfold Bu; dsimp only; omega
 ·exact Aix _ _ _ _
theorem Vq (b:List UInt8):Bu (ipTakeT b).2:=by
 unfold ipTakeT Bu
 repeat' split
 all_goals (dsimp only; omega)
theorem Aap (b:List UInt8):Bu (udpTakeT b).2.2.2:=by
 unfold udpTakeT Bu
 repeat' split
 all_goals (dsimp only; omega)
theorem Ald (b:List UInt8):Bu (vniT b).2.2:=by
 unfold vniT Bu
 repeat' split
 all_goals (dsimp only; omega)
theorem Af7 (b:List UInt8):Bu (outerT b).2:=by
 unfold outerT
 split
 ·exact Uj _
 split
 ·unfold Bu; dsimp only; omega
 split
 ·exact Vq _
 ·unfold Bu; dsimp only; split <;> omega
theorem Agx (b:List UInt8):Bu (innerT b).2.2:=by
 unfold innerT
 split
 ·exact Aap _
 split
 ·unfold Bu; dsimp only; omega
 split
 ·exact Ald _
 split
 ·exact Uj _
 split
 ·unfold Bu; dsimp only; omega
 ·unfold Bu; dsimp only; omega
theorem Acj (b:List UInt8):Bu (unwrapT b).2.2.2.2:=by
 unfold unwrapT
 split
 ·exact Af7 _
 split
 ·exact Agx _
 ·unfold Bu; dsimp only; omega
theorem Aah (n:Net) (b:List UInt8):Bu (comeT n b).2.2.2:=by
 unfold comeT
 split
 ·unfold Bu; dsimp only; omega
 split
 ·exact Acj _
 split
 ·unfold Bu; dsimp only; omega
 split
 ·unfold Bu; dsimp only; omega
 ·unfold Bu; dsimp only; omega
theorem Am7 (n:Net) (irb:Int) (f:FrameM):Bu (hopT n irb f).2.2:=by
 unfold hopT
 split
 ·unfold Bu; dsimp only; omega
 split
 ·unfold Bu; dsimp only; omega
 split
 ·exact Vq _
 split
 ·unfold Bu; dsimp only; omega
 split
 ·unfold Bu; dsimp only; omega
 split
 ·unfold Bu; dsimp only; omega
 ·unfold Bu; dsimp only; omega
theorem Vx (n:Net) (fw:List Bool) (t:List EntryM) (dom:Int) (q:QueuedM) (now:Int):Bu (bridgeT n fw t dom q now).2.2:=by
 unfold bridgeT
 split
 ·unfold Bu; dsimp only; omega
 split
 ·split
  ·exact Am7 _ _ _
  ·unfold Bu; dsimp only; omega
 ·unfold Bu; dsimp only; omega
theorem Aip {n:Net} {dev v:Int} (h:Cg n dev v = true):DomIn n (Yh n dev v):=by
 have h1:0 ≤ Yh n dev v:=by simpa [Cg] using h
 have h2:Yh n dev v < n.domains.length:=Ij _ _
 exact ⟨h1,by omega⟩
theorem Ale {n:Net} (hb:Ah n = true) {port:Int} (hp:Al port n.ports.length = true) {tg:Bool} {vid:Int} (h:(vlanT (nth n.ports port) tg vid).2 = true):DomIn n (Yh n (nth n.ports port).dev (vlanT (nth n.ports port) tg vid).1):=by
 have hk:=Bn hp
 have hk2:port.toNat < n.ports.length:=by omega
 simp only [Ah,Bool.and_eq_true] at hb
 have hpb:=allB_iff.1 hb.1.1.1.1.1.2 _ hk2
 rw [Ao hk2] at h ⊢
 generalize n.ports[port.toNat] = p at *
 simp only [El,Bool.and_eq_true] at hpb
 obtain ⟨⟨⟨⟨⟨⟨⟨⟨g1,g2⟩,g3⟩,g4⟩,g5⟩,g6⟩,g7⟩,g8⟩,g9⟩:=hpb
 unfold vlanT at h ⊢
 split
 ·rw [if_pos (by assumption)] at h
  have h1:p.native ≠ 0:=by simpa using h
  have h2:0 ≤ p.native:=by simpa using g2
  refine Aip ?_
  have h3:decide (0 < p.native) = true:=by simp; omega
  rw [h3,Bool.true_and] at g8
  simpa using g8
 ·rw [if_neg (by assumption)] at h
  split
  ·rename_i h4
   have h5:vid ∈ p.tagged:=inB_mem.1 h4
   obtain ⟨i,hi,rfl⟩:=List.mem_iff_getElem.1 h5
   exact Aip (allB_iff.1 g7 i hi)
  ·rw [if_neg (by assumption)] at h
   cases h
theorem Sl {n:Net} {port:Int} {b:List UInt8} (h:(enterT n port b).2.2 = 0):DomIn n (enterT n port b).1:=by
 unfold enterT at h ⊢
 split
 ·rw [if_pos (by assumption)] at h; cases h
 rename_i hc
 rw [if_neg hc] at h
 have hp:Al port n.ports.length = true:=by cases hx:Al port n.ports.length; exact absurd (.inl hx) hc; rfl
 have hb:Ah n = true:=by cases hx:Ah n; exact absurd (.inr hx) hc; rfl
 have key:∀ f tg v,(Ie n port f tg v).2.2 = 0 → DomIn n (Ie n port f tg v).1:=fun f tg v h=>by
  unfold Ie at h ⊢
  split
  ·rw [if_pos (by assumption)] at h; cases h
  rw [if_neg (by assumption)] at h
  split
  ·rw [if_pos (by assumption)] at h; cases h
  rename_i h5
  show DomIn n (Kn n _ _)
  rw [Kn,if_pos hb]
  exact Ale hb hp (by simpa using h5)
 split
 ·rename_i h2
  rw [if_pos h2] at h
  exact absurd h h2
 rename_i h2
 rw [if_neg h2] at h
 split
 ·rename_i h3
  rw [if_pos h3] at h
  split
  ·rename_i h4
   rw [if_pos h4] at h
   exact absurd h h4
  ·rename_i h4
   rw [if_neg h4] at h
   exact key _ _ _ h
 ·rename_i h3
  rw [if_neg h3] at h
  exact key _ _ _ h
theorem Zx {n:Net} {port:Int} {b:List UInt8} (h:(linkT n port b).2.2.2 = 0):DomIn n (linkT n port b).2.1:=by
 unfold linkT at h ⊢
 split
 ·rw [if_pos (by assumption)] at h; cases h
 ·rename_i h2
  rw [if_neg h2] at h
  exact Sl h
theorem Xk {n:Net} (hb:Ah n = true) {dom:Nat} (hd:dom < n.domains.length) {k:Int} (hk:k ∈ n.domains[dom].peers):DomIn n k:=by
 simp only [Ah,Bool.and_eq_true] at hb
 have:=allB_iff.1 hb.1.1.1.1.1.1.2 _ hd
 obtain ⟨i,hi,rfl⟩:=List.mem_iff_getElem.1 hk
 have h2:=allB_iff.1 this i hi
 simp only [M1,Bool.and_eq_true] at h2
 exact Em h2.1.1.1.1.1.1.1.1.1
theorem Anp {n:Net} (hb:Ah n = true) {src dst:Nat} {vni:Int} (h:¬ (endsT n src dst vni).1 < 0):DomIn n (endsT n src dst vni).1 ∧ DomIn n (endsT n src dst vni).2:=by
 unfold endsT at h ⊢
 dsimp only at h ⊢
 split
 ·rw [if_pos (by assumption)] at h; exact absurd (by decide) h
 rename_i h1
 rw [if_neg h1] at h
 split
 ·rw [if_pos (by assumption)] at h; exact absurd (by decide) h
 rename_i h2
 have hd:=Ij (fun d:Domain=>decide (d.dev = C5 (fun d:Device=>decide (d.vtep = (dst:Int))) n.devices) && decide (d.vni = vni)) n.domains
 generalize C5 (fun d:Domain=>decide (d.dev = C5 (fun d:Device=>decide (d.vtep = (dst:Int))) n.devices) && decide (d.vni = vni)) n.domains = dom at *
 have hd2:dom.toNat < n.domains.length:=by omega
 have hi:=Ij (fun k:Int=>decide (Ef n k = (src:Int))) (nth n.domains dom).peers
 generalize C5 (fun k:Int=>decide (Ef n k = (src:Int))) (nth n.domains dom).peers = i at *
 rw [Ao hd2] at hi ⊢
 have hi2:i.toNat < (n.domains[dom.toNat]).peers.length:=by omega
 refine ⟨?_,⟨by dsimp only; omega,hd2⟩⟩
 show DomIn n (nth (n.domains[dom.toNat]).peers i)
 rw [Ao hi2]
 exact Xk hb hd2 (List.getElem_mem hi2)
theorem U6 {n:Net} {b:List UInt8} (h:(comeT n b).2.2.2 = 0):DomIn n (comeT n b).1 ∧ DomIn n (comeT n b).2.1:=by
 unfold comeT at h ⊢
 split
 ·rw [if_pos (by assumption)] at h; cases h
 rename_i hb
 rw [if_neg hb] at h
 split
 ·rename_i h2
  rw [if_pos h2] at h; exact absurd h h2
 rename_i h2
 rw [if_neg h2] at h
 split
 ·rw [if_pos (by assumption)] at h; cases h
 rename_i h3
 rw [if_neg h3] at h
 split
 ·rw [if_pos (by assumption)] at h; cases h
 exact Anp (by simpa using hb) h3
theorem Am8 {n:Net} {irb:Int} {f:FrameM} (hin:∀ (d:Int),(lookT n irb d).2 = true → 0 ≤ (lookT n irb d).1 ∧ (lookT n irb d).1.toNat < n.irbs.length) (h:(hopT n irb f).2.2 = 0):DomIn n (hopT n irb f).1:=by
 unfold hopT at h ⊢
 split
 ·rw [if_pos (by assumption)] at h; cases h
 rename_i h1
 rw [if_neg h1] at h
 split
 ·rw [if_pos (by assumption)] at h; cases h
 rename_i h2
 rw [if_neg h2] at h
 split
 ·rename_i h3
  rw [if_pos h3] at h; exact absurd h h3
 rename_i h3
 rw [if_neg h3] at h
 split
 ·rw [if_pos (by assumption)] at h; cases h
 rename_i h4
 rw [if_neg h4] at h
 split
 ·rw [if_pos (by assumption)] at h; cases h
 rename_i h5
 rw [if_neg h5] at h
 split
 ·rw [if_pos (by assumption)] at h; cases h
 have hl:=hin ((ipTakeT f.body).1.dst:Int) (by simpa using h5)
 have hb:Ah n = true:=by cases hx:Ah n; exact absurd (.inr hx) h1; rfl
 have:=(C2 hb hl.2).1
 show DomIn n (nth n.irbs _).domain
 rw [Ao hl.2]
 exact this
structure TabOK (t:List EntryM):Prop where
 short:Aq t
 mac:∀ e ∈ t,e.mac < 18446744073709551616
 wh:∀ e ∈ t,I64 e.where_
structure QueuedOK (q:QueuedM):Prop where
 frame:FrameOK q.frame
 from_:-2 ≤ q.from_ ∧ q.from_ < 1099511627776
 peer:0 ≤ q.peer ∧ q.peer < 1099511627776
def Ev (l:List QueuedM):Prop:=l.length ≤ 64 ∧ ∀ q ∈ l,QueuedOK q
structure MacOK (n:Net) (m:MacM) (J D:Int):Prop where
 up:m.up.length = n.links.length
 tabs:m.tables.length = n.domains.length
 ques:m.queues.length = n.domains.length
 tab:∀ t ∈ m.tables,TabOK t
 que:∀ l ∈ m.queues,Ev l
 now:0 ≤ m.now ∧ m.now ≤ 1099511627776
 inj:0 ≤ m.injected ∧ m.injected ≤ J
 drp:∀ i,0 ≤ m.drops i ∧ m.drops i ≤ D
theorem Dd {f:FrameM} (hf:FrameOK f) {a b:Int} (c:Int) (h1:-2 ≤ a ∧ a < 1099511627776) (h2:0 ≤ b ∧ b < 1099511627776):QueuedOK ⟨a,b,c,f⟩:=⟨hf,h1,h2⟩
theorem Ams:QueuedOK noQ:=⟨Dr,by decide,by decide⟩
theorem Uu:TabOK []:=⟨by unfold Aq; decide,fun _ h=>(by cases h),fun _ h=>(by cases h)⟩
theorem Vm:Ev []:=⟨by decide,fun _ h=>(by cases h)⟩
theorem Abi {α:Type} {l:List α} {i:Nat} {x y:α} (h:y ∈ l.set i x):y = x ∨ y ∈ l:=by
 rcases List.mem_or_eq_of_mem_set h with h | h
 ·exact .inr h
 ·exact .inl h
theorem X7 {α:Type} {l:List α} {i:Nat} {d:α} (h:i < l.length):(l[i]?).getD d ∈ l:=by
 rw [List.getElem?_eq_getElem h]
 exact List.getElem_mem h
theorem Cv {n:Net} {m:MacM} {J D:Int} (h:MacOK n m J D) (dom:Int):Ev (queueL m dom):=by
 unfold queueL
 by_cases hd:dom.toNat < m.queues.length
 ·exact h.que _ (X7 hd)
 ·rw [List.getElem?_eq_none (by omega)]; exact Vm
theorem K0 {n:Net} {m:MacM} {J D:Int} (h:MacOK n m J D) (dom:Int):TabOK (tableL m dom):=by
 unfold tableL
 by_cases hd:dom.toNat < m.tables.length
 ·exact h.tab _ (X7 hd)
 ·rw [List.getElem?_eq_none (by omega)]; exact Uu
theorem MacOK.mono {n:Net} {m:MacM} {J D J' D':Int} (h:MacOK n m J D) (h1:J ≤ J') (h2:D ≤ D'):MacOK n m J' D' :=
 ⟨h.up,h.tabs,h.ques,h.tab,h.que,h.now,⟨h.inj.1,by have:=h.inj.2; omega⟩,fun i=>⟨(h.drp i).1,by have:=(h.drp i).2; omega⟩⟩
theorem Ok {n:Net} {m:MacM} {J D:Int} (h:MacOK n m J D) (hD:0 ≤ D) (e:Int):MacOK n (Be m e) J (D + 1):=by
 refine ⟨h.up,h.tabs,h.ques,h.tab,h.que,h.now,h.inj,fun i=>?_⟩
 have:=h.drp i
 show 0 ≤ (if i = e.toNat then m.drops i + 1 else m.drops i) ∧ (if i = e.toNat then m.drops i + 1 else m.drops i) ≤ D + 1
 split <;> omega
theorem Ah1 {n:Net} {m:MacM} {J D:Int} (h:MacOK n m J D) (dom:Int) {l:List QueuedM} (hl:Ev l):MacOK n (Acu m dom l) J D:=by
 refine ⟨h.up,h.tabs,by rw [Acu]; simp [h.ques],h.tab,fun x hx=>?_,h.now,h.inj,h.drp⟩
 rcases Abi hx with rfl | hx
 ·exact hl
 ·exact h.que x hx
theorem Ah0 {n:Net} {m:MacM} {J D:Int} (h:MacOK n m J D) (dom:Int) {l:List EntryM} (hl:TabOK l):MacOK n (Bv m dom l) J D:=by
 refine ⟨h.up,by rw [Bv]; simp [h.tabs],h.ques,fun x hx=>?_,h.que,h.now,h.inj,h.drp⟩
 rcases Abi hx with rfl | hx
 ·exact hl
 ·exact h.tab x hx
theorem Amd {l:List QueuedM} (hl:Ev l) {q:QueuedM} (hq:QueuedOK q):Ev (pushT l q).1:=by
 unfold pushT
 split
 ·exact hl
 ·refine ⟨by simp; omega,fun x hx=>?_⟩
  rcases List.mem_append.1 hx with hx | hx
  ·exact hl.2 x hx
  ·rw [List.mem_singleton.1 hx]; exact hq
theorem Alk {l:List QueuedM} (hl:Ev l) (at_:Int):QueuedOK (takeT l at_).1 ∧ Ev (takeT l at_).2.1:=by
 unfold takeT
 split
 ·exact ⟨Ams,hl⟩
 ·rename_i h
  refine ⟨hl.2 _ (X7 (by omega)),?_,fun x hx=>hl.2 x (List.mem_of_mem_eraseIdx hx)⟩
  have:=List.length_eraseIdx_le l at_.toNat
  have:=hl.1
  show (l.eraseIdx at_.toNat).length ≤ 64
  omega
theorem T8 {n:Net} {m:MacM} {J D:Int} (h:MacOK n m J D) (hD:0 ≤ D) (dom:Int) {q:QueuedM} (hq:QueuedOK q) (e:Int):MacOK n (comeM m dom q e) J (D + 1):=by
 unfold comeM
 split
 ·exact Ok h hD e
 split
 ·exact (Ah1 h dom (Amd (Cv h dom) hq)).mono (Int.le_refl _) (by omega)
 ·exact Ok h hD 3
theorem Sz {n:Net} {m:MacM} {J D:Int} (h:MacOK n m J D) (dom at_:Int):MacOK n (takeM m dom at_).1 J D ∧ QueuedOK (takeM m dom at_).2.1:=by
 unfold takeM
 split
 ·exact ⟨h,Ams⟩
 ·have:=Alk (Cv h dom) at_
  exact ⟨Ah1 h dom this.2,this.1⟩
theorem Agy {n:Net} (hn:n.Fin) {m:MacM} {J D:Int} (h:MacOK n m J D) (hJ:0 ≤ J) (hD:0 ≤ D) (port:Int) (b:List UInt8):MacOK n (injectT n m port b) (J + 1) (D + 1):=by
 unfold injectT
 split
 ·exact h.mono (by omega) (by omega)
 ·rename_i hc
  have hp:Al port n.ports.length = true:=by cases hx:Al port n.ports.length; exact absurd (.inl hx) hc; rfl
  have hpi:=Bn hp
  have hs:=hn.ports
  unfold Aq at hs
  have h1:=h.inj
  have hm:MacOK n ⟨m.up,m.tables,m.queues,m.now,m.injected + 1,m.drops⟩ (J + 1) D:=⟨h.up,h.tabs,h.ques,h.tab,h.que,h.now,(by show 0 ≤ m.injected + 1 ∧ m.injected + 1 ≤ J + 1; omega),h.drp⟩
  exact T8 hm hD _ (Dd (Qc _ _ _) _ (by omega) (by omega)) _
structure OutOK (n:Net) (o:OutM):Prop where
 kind:1 ≤ o.kind ∧ o.kind ≤ 5
 bytes:o.bytes.length ≤ 1518
 frame:o.kind = 4 → FrameOK o.frame ∧ DomIn n o.domain
 err:o.kind = 5 → Bu o.error
theorem Aj3 {n:Net} (hn:n.Fin) (port:Int):-1 ≤ D3 n port ∧ D3 n port < 2147483648:=by
 unfold D3
 split
 ·rename_i h
  obtain ⟨⟨h1,h2⟩,h3,hb⟩:=h
  have hk:port.toNat < n.ports.length:=by omega
  rw [Ao hk] at h3 ⊢
  have hl:=(Km hb hk h3).1
  rw [Ao hl]
  simp only [Ah,Bool.and_eq_true] at hb
  have hlb:=allB_iff.1 hb.1.1.1.1.2 _ hl
  simp only [J0,Bool.and_eq_true] at hlb
  have ha:=Bn hlb.1.1.1.1
  have hb2:=Bn hlb.1.1.1.2
  have hs:=hn.ports
  unfold Aq at hs
  split <;> omega
 ·omega
theorem Xm {n:Net} (hn:n.Fin) (port:Int) (b:List UInt8):0 ≤ (linkT n port b).1 ∧ (linkT n port b).1 < 1099511627776:=by
 have:=Aj3 hn port
 unfold linkT
 split <;> dsimp only <;> omega
theorem Ss {n:Net} (hn:n.Fin) (b:List UInt8):0 ≤ (comeT n b).1 ∧ (comeT n b).1 < 1099511627776:=by
 by_cases h:(comeT n b).2.2.2 = 0
 ·have:=(U6 h).1
  have hs:=hn.domains
  unfold Aq at hs
  unfold DomIn at this
  omega
 ·unfold comeT at h ⊢
  split
  ·decide
  rename_i h1
  rw [if_neg h1] at h
  split
  ·exact ⟨Int.le_refl _,by dsimp only; omega⟩
  rename_i h1
  rw [if_neg h1] at h
  split
  ·decide
  rename_i h1
  rw [if_neg h1] at h
  split
  ·decide
  rename_i h1
  rw [if_neg h1] at h
  exact absurd E h
theorem Anj {n:Net} (hn:n.Fin) {m:MacM} {J D:Int} (h:MacOK n m J D) (hD:0 ≤ D) {o:OutM} (ho:OutOK n o) (origin:Int):MacOK n (goesM n m o origin).1 J (D + 1):=by
 unfold goesM
 split
 ·exact h.mono (Int.le_refl _) (by omega)
 split
 ·have:=Xm hn o.port o.bytes
  exact T8 h hD _ (Dd (Xn _ _ _) _ (by omega) (by omega)) _
 split
 ·exact T8 h hD _ (Dd (Yj _ _) _ (by omega) (Ss hn o.bytes)) _
 split
 ·rename_i h4
  exact T8 h hD o.domain (Dd (a:=-2) (b:=0) (ho.frame h4).1 origin (by decide) (by decide)) 0
 ·exact Ok h hD _
theorem Iv {n:Net} (hn:n.Fin) (origin:Int):∀ (l:List OutM) {m:MacM} {J D:Int},MacOK n m J D → 0 ≤ D → (∀ o ∈ l,OutOK n o) → MacOK n (Bb n m origin l).1 J (D + l.length)
 | [],m,J,D,h,_,_=>by
  rw [Bb]
  exact h.mono (Int.le_refl _) (by simp)
 | o :: l,m,J,D,h,hD,ho=>by
  rw [Bb]
  have:=Iv hn origin l (Anj hn h hD (ho o (by simp)) origin) (by omega) (fun x hx=>ho x (by simp [hx]))
  exact this.mono (Int.le_refl _) (by simp only [List.length_cons]; omega)
theorem Ads {n:Net} {o:OutM} {r:List UInt8 × Int} (hk:1 ≤ o.kind ∧ o.kind ≤ 3) (hr:r.1.length ≤ 1518) (he:Bu r.2):OutOK n (Dy o r):=by
 unfold Dy
 split
 ·exact ⟨⟨by dsimp only; omega,by dsimp only; omega⟩,by simp,fun h=>absurd h (by dsimp only; omega),fun _=>he⟩
 ·exact ⟨⟨hk.1,by have:=hk.2; dsimp only; omega⟩,hr,fun h=>by have:=hk.2; dsimp only at h; omega,fun h=>by have:=hk.2; dsimp only at h; omega⟩
theorem Ake {t:List EntryM} (h:TabOK t) {m:Nat} (hm:m < 18446744073709551616) {wh:Int} (hw:I64 wh) (now:Int):TabOK (learnT t m wh now):=by
 have hs:=h.short
 unfold Aq at hs
 have key:∀ e:EntryM,e ∈ learnT t m wh now → e ∈ t ∨ e = ⟨m,wh,now⟩:=fun e he=>by
  unfold learnT at he
  split at he
  ·exact .inl he
  split at he
  ·rcases Abi he with h | h
   ·exact .inr h
   ·exact .inl h
  ·rcases List.mem_append.1 he with h | h
   ·split at h
    ·exact .inl (List.mem_of_mem_eraseIdx h)
    ·exact .inl h
   ·exact .inr (List.mem_singleton.1 h)
 refine ⟨?_,fun e he=>?_,fun e he=>?_⟩
 ·unfold learnT
  split
  ·exact h.short
  rename_i hb
  have h8:t.length ≤ 8:=by
   have:tableB t = true:=by cases hx:tableB t; exact absurd (.inl hx) hb; rfl
   simp only [tableB,Bool.and_eq_true,decide_eq_true_eq] at this
   exact this.1
  split
  ·unfold Aq; simp; omega
  ·unfold Aq
   split
   ·have:=List.length_eraseIdx_le t (oldestU t t.length)
    simp only [List.length_append,List.length_cons,List.length_nil]
    omega
   ·simp only [List.length_append,List.length_cons,List.length_nil]
    omega
 ·rcases key e he with h1 | rfl
  ·exact h.mac e h1
  ·exact hm
 ·rcases key e he with h1 | rfl
  ·exact h.wh e h1
  ·exact hw
theorem La {t:List EntryM} (h:TabOK t) {q:QueuedM} (hq:QueuedOK q) (now:Int):TabOK (learnQ t q now):=by
 unfold learnQ
 split
 ·exact h
 ·have hs:=hq.frame.src
  refine Ake h (by omega) ?_ now
  have h1:=hq.from_
  have h2:=hq.peer
  unfold I64
  split <;> omega
theorem Apr {t:List EntryM} (h:TabOK t) (now:Int):TabOK (ageT t now):=by
 unfold ageT
 split
 ·exact h
 ·have hs:=h.short
  unfold Aq at hs
  refine ⟨?_,fun e he=>h.mac e (List.mem_filter.1 he).1,fun e he=>h.wh e (List.mem_filter.1 he).1⟩
  unfold Aq
  exact Nat.lt_of_le_of_lt (List.length_filter_le _ _) hs
theorem Adn (n:Net) (dom:Int):(Ax n dom).length ≤ n.ports.length:=by
 rw [Ax]
 have:=D8 (It n (nth n.domains dom)) n.ports.length
 exact this
end Go.Sy.YtmelpejjondedaaGreat
