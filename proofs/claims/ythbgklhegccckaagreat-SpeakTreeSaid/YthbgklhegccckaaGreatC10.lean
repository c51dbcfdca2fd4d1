/-
  Contracts: the tree's queue, and the heap over it, 1. Contracts: the heap over the tree's queue, 2. Contracts: the heap over the tree's queue, 3. Contracts: the heap over the tree's queue, 4; spans.
-/
import Derived.Test.YthbgklhegccckaaGreatC5
import Derived.Test.YthbgklhegccckaaGreatC4
import Derived.Test.YthbgklhegccckaaGreatC8

namespace Go.Sy.YthbgklhegccckaaGreat
open Go.Proofs
-- SIMP: placeB

attribute [local irreducible] Go.Sy.G Go.Sy.DR
set_option maxRecDepth 20000
set_option maxHeartbeats 4000000

/-- What was reached. -/
structure Item where
  (root cost dev : Int)
instance : Inhabited Item := ⟨⟨0, 0, 0⟩⟩
def itemSV (x : Item) : SV := .agg [intSV x.root, intSV x.cost, intSV x.dev]
def itemLt (x y : Item) : Bool := decide (x.root < y.root) || (x.root == y.root && decide (x.cost < y.cost))

theorem queueLenS (q : List Item) : Sy.Spec Tryz.prog 111 [.sl 3 itemSV q] [] (intSV q.length) [] := contract Γ hm 100 F111 Tryz.ntmps111 rfl fun F hF => by
  ((conv => whnf); repeat ((first | refine aF ?_ | refine aT ?_); (first | refine run Γ hm 400 ?_ | refine runD Γ hm 400 (by kernel_rfl) ?_); conv => whnf))
  exact done0 rfl (.cons .tmp .nil) rfl rfl

theorem queueLessS (q : List Item) (i j : Nat) (hi : i < q.length) (hj : j < q.length) : Sy.Spec Tryz.prog 177 [.sl 3 itemSV q, intSV i, intSV j] [] (boolSV (itemLt q[i] q[j])) [] := contract Γ hm 100 F177 Tryz.ntmps177 rfl fun F hF => by
  have e1 : q[(i : Int).toNat]'(by omega) = q[i] := rfl
  have e2 : q[(j : Int).toNat]'(by omega) = q[j] := rfl
  ((conv => whnf); repeat ((first | refine aF ?_ | refine aT ?_); (first | refine run Γ hm 400 ?_ | refine runD Γ hm 400 (by kernel_rfl) ?_); conv => whnf))
  (repeat' (first | (refine ⟨fun h => ?_, fun h => ?_⟩ <;> (repeat (first | (simp only [placeB] at h) | (simp only [decide_eq_true_eq] at h) | (simp only [decide_eq_false_iff_not] at h) | (simp only [beq_iff_eq] at h) | (simp only [beq_eq_false_iff_ne] at h) | (simp only [bne_iff_ne] at h) | (simp only [bne_eq_false_iff_eq] at h) | (simp only [Bool.and_eq_true] at h) | (simp only [Bool.or_eq_true] at h) | (simp only [Bool.and_eq_false_iff] at h) | (simp only [Bool.or_eq_false_iff] at h) | (simp only [Bool.not_eq_true'] at h) | (simp only [Bool.not_eq_false'] at h) | (simp only [Bool.not_eq_eq_eq_not] at h) | (simp only [Bool.not_true] at h) | (simp only [Bool.not_false] at h))) <;> ((first | refine run Γ hm 400 ?_ | refine runD Γ hm 400 (by kernel_rfl) ?_); (conv => whnf); repeat ((first | refine aF ?_ | refine aT ?_); (first | refine run Γ hm 400 ?_ | refine runD Γ hm 400 (by kernel_rfl) ?_); conv => whnf))) | (refine done0 rfl (.cons .tmp .nil) ?_ rfl) | (refine ⟨(by kernel_rfl), ?_⟩; ((conv => whnf); repeat ((first | refine aF ?_ | refine aT ?_); (first | refine run Γ hm 400 ?_ | refine runD Γ hm 400 (by kernel_rfl) ?_); conv => whnf))) | (refine ⟨by (first | (unfold I64; omega) | omega | (simp only [Int.toNat_natCast]; omega) | done), by (first | (unfold I64; omega) | omega | (simp only [Int.toNat_natCast]; omega) | done), ?_⟩; ((conv => whnf); repeat ((first | refine aF ?_ | refine aT ?_); (first | refine run Γ hm 400 ?_ | refine runD Γ hm 400 (by kernel_rfl) ?_); conv => whnf))) | (refine ⟨by (first | (unfold I64; omega) | omega | (simp only [Int.toNat_natCast]; omega) | done), ?_⟩; ((conv => whnf); repeat ((first | refine aF ?_ | refine aT ?_); (first | refine run Γ hm 400 ?_ | refine runD Γ hm 400 (by kernel_rfl) ?_); conv => whnf)))))
  all_goals (refine congrArg boolSV ?_; clear hF; grind [itemLt])

theorem queueSwapS (q : List Item) (i j : Nat) (hi : i < q.length) (hj : j < q.length) : Sy.Spec Tryz.prog 180 [.osl 0, intSV i, intSV j] [(0, .row 3 itemSV q)] (.tup []) [(0, .row 3 itemSV ((q.set i q[j]).set j q[i]))] := contract Γ hm 100 F180 Tryz.ntmps180 rfl fun F hF => by
  have e1 : q[(i : Int).toNat]'(by omega) = q[i] := rfl
  have e2 : q[(j : Int).toNat]'(by omega) = q[j] := rfl
  ((conv => whnf); repeat ((first | refine aF ?_ | refine aT ?_); (first | refine run Γ hm 400 ?_ | refine runD Γ hm 400 (by kernel_rfl) ?_); conv => whnf))
  refine ⟨by omega, by omega, ?_⟩
  ((conv => whnf); repeat ((first | refine aF ?_ | refine aT ?_); (first | refine run Γ hm 400 ?_ | refine runD Γ hm 400 (by kernel_rfl) ?_); conv => whnf))
  refine ⟨rfl, by omega, ?_⟩
  rw [e2]
  ((conv => whnf); repeat ((first | refine aF ?_ | refine aT ?_); (first | refine run Γ hm 400 ?_ | refine runD Γ hm 400 (by kernel_rfl) ?_); conv => whnf))
  refine ⟨by omega, by omega, ?_⟩
  ((conv => whnf); repeat ((first | refine aF ?_ | refine aT ?_); (first | refine run Γ hm 400 ?_ | refine runD Γ hm 400 (by kernel_rfl) ?_); conv => whnf))
  refine ⟨rfl, by omega, ?_⟩
  rw [e1]
  ((conv => whnf); repeat ((first | refine aF ?_ | refine aT ?_); (first | refine run Γ hm 400 ?_ | refine runD Γ hm 400 (by kernel_rfl) ?_); conv => whnf))
  refine ⟨by omega, by omega, ?_⟩
  ((conv => whnf); repeat ((first | refine aF ?_ | refine aT ?_); (first | refine run Γ hm 400 ?_ | refine runD Γ hm 400 (by kernel_rfl) ?_); conv => whnf))
  refine ⟨rfl, by omega, q[j], rfl, rfl, ?_⟩
  ((conv => whnf); repeat ((first | refine aF ?_ | refine aT ?_); (first | refine run Γ hm 400 ?_ | refine runD Γ hm 400 (by kernel_rfl) ?_); conv => whnf))
  refine ⟨by omega, by simp; omega, ?_⟩
  ((conv => whnf); repeat ((first | refine aF ?_ | refine aT ?_); (first | refine run Γ hm 400 ?_ | refine runD Γ hm 400 (by kernel_rfl) ?_); conv => whnf))
  refine ⟨rfl, by simp; omega, q[i], rfl, rfl, ?_⟩
  ((conv => whnf); repeat ((first | refine aF ?_ | refine aT ?_); (first | refine run Γ hm 400 ?_ | refine runD Γ hm 400 (by kernel_rfl) ?_); conv => whnf))
  refine ⟨(by kernel_rfl), ?_⟩
  ((conv => whnf); repeat ((first | refine aF ?_ | refine aT ?_); (first | refine run Γ hm 400 ?_ | refine runD Γ hm 400 (by kernel_rfl) ?_); conv => whnf))
  exact done_end rfl .nil [] [(0, .row 3 itemSV ((q.set i q[j]).set j q[i]))] (fun _ h => h) rfl rfl ⟨trivial, ⟨.inl rfl, rfl, trivial⟩, rfl, rfl⟩

theorem queuePushS (q : List Item) (x : Item) (hq : q.length < 1000000) : Sy.Spec Tryz.prog 179 [.ptr 0 0, .ifc 186 (itemSV x)] [(0, .box [.osl 1]), (1, .row 3 itemSV q)] (.tup []) [(0, .box [.osl 2]), (1, .non), (2, .row 3 itemSV (q ++ [x]))] := contract Γ hm 100 F179 Tryz.ntmps179 rfl fun F hF => by
  ((conv => whnf); repeat ((first | refine aF ?_ | refine aT ?_); (first | refine run Γ hm 400 ?_ | refine runD Γ hm 400 (by kernel_rfl) ?_); conv => whnf))
  refine stepOp (good_assert Γ.toTy rfl rfl rfl rfl) rfl rfl ?_
  ((first | refine run Γ hm 400 ?_ | refine runD Γ hm 400 (by kernel_rfl) ?_); (conv => whnf); repeat ((first | refine aF ?_ | refine aT ?_); (first | refine run Γ hm 400 ?_ | refine runD Γ hm 400 (by kernel_rfl) ?_); conv => whnf))
  refine stepD (good_appendT Γ.toTy 18 rfl rfl rfl rfl rfl (.row rfl) (.lit (l := [x]) rfl rfl) (by simp) (by simp; omega) (by simp; omega)) (by kernel_rfl) rfl ?_
  ((first | refine run Γ hm 400 ?_ | refine runD Γ hm 400 (by kernel_rfl) ?_); (conv => whnf); repeat ((first | refine aF ?_ | refine aT ?_); (first | refine run Γ hm 400 ?_ | refine runD Γ hm 400 (by kernel_rfl) ?_); conv => whnf))
  refine ⟨(by kernel_rfl), ?_⟩
  ((conv => whnf); repeat ((first | refine aF ?_ | refine aT ?_); (first | refine run Γ hm 400 ?_ | refine runD Γ hm 400 (by kernel_rfl) ?_); conv => whnf))
  exact done_end rfl .nil [(2, 18)] [(0, .box [.osl 2]), (1, .non), (2, .row 3 itemSV (q ++ [x]))] (fun _ h => h) rfl rfl ⟨trivial, ⟨.inl rfl, rfl, .inl rfl, rfl, .inl rfl, rfl, trivial⟩, rfl, rfl⟩

theorem queuePopS (q : List Item) (hq : q ≠ []) (hl : q.length < 1000000) : Sy.Spec Tryz.prog 178 [.ptr 0 0] [(0, .box [.osl 1]), (1, .row 3 itemSV q)] (.ifc 186 (itemSV (q.getLast hq))) [(0, .box [.osl 2]), (1, .non), (2, .row 3 itemSV q.dropLast)] := contract Γ hm 100 F178 Tryz.ntmps178 rfl fun F hF => by
  have h0 : 0 < q.length := List.length_pos_iff.2 hq
  have e1 : q[((q.length : Int) - 1).toNat]'(by omega) = q.getLast hq := by
    rw [List.getLast_eq_getElem]
    congr 1
    omega
  ((conv => whnf); repeat ((first | refine aF ?_ | refine aT ?_); (first | refine run Γ hm 400 ?_ | refine runD Γ hm 400 (by kernel_rfl) ?_); conv => whnf))
  refine ⟨by unfold I64; omega, ?_⟩
  ((conv => whnf); repeat ((first | refine aF ?_ | refine aT ?_); (first | refine run Γ hm 400 ?_ | refine runD Γ hm 400 (by kernel_rfl) ?_); conv => whnf))
  refine ⟨by omega, by omega, ?_⟩
  ((conv => whnf); repeat ((first | refine aF ?_ | refine aT ?_); (first | refine run Γ hm 400 ?_ | refine runD Γ hm 400 (by kernel_rfl) ?_); conv => whnf))
  refine ⟨rfl, by omega, ?_⟩
  rw [e1]
  ((conv => whnf); repeat ((first | refine aF ?_ | refine aT ?_); (first | refine run Γ hm 400 ?_ | refine runD Γ hm 400 (by kernel_rfl) ?_); conv => whnf))
  refine ⟨(by kernel_rfl), ?_⟩
  ((conv => whnf); repeat ((first | refine aF ?_ | refine aT ?_); (first | refine run Γ hm 400 ?_ | refine runD Γ hm 400 (by kernel_rfl) ?_); conv => whnf))
  refine ⟨by unfold I64; omega, ?_⟩
  ((conv => whnf); repeat ((first | refine aF ?_ | refine aT ?_); (first | refine run Γ hm 400 ?_ | refine runD Γ hm 400 (by kernel_rfl) ?_); conv => whnf))
  refine stepD (good_slice_osl Γ.toTy (d := 23) (hi := q.length - 1) rfl rfl rfl rfl rfl (by decide) rfl (.inl ⟨rfl, rfl⟩) (.inr ⟨_, _, rfl, congrArg (fun z => SV.val (.int .i64 z)) (by omega)⟩) (by omega)) (by kernel_rfl) rfl ?_
  rw [← List.dropLast_eq_take]
  ((first | refine run Γ hm 400 ?_ | refine runD Γ hm 400 (by kernel_rfl) ?_); (conv => whnf); repeat ((first | refine aF ?_ | refine aT ?_); (first | refine run Γ hm 400 ?_ | refine runD Γ hm 400 (by kernel_rfl) ?_); conv => whnf))
  refine ⟨(by kernel_rfl), ?_⟩
  ((conv => whnf); repeat ((first | refine aF ?_ | refine aT ?_); (first | refine run Γ hm 400 ?_ | refine runD Γ hm 400 (by kernel_rfl) ?_); conv => whnf))
  exact done rfl (.cons .tmp .nil) [(2, 23)] [(0, .box [.osl 2]), (1, .non), (2, .row 3 itemSV q.dropLast)] (fun _ h => h) rfl rfl ⟨trivial, ⟨.inl rfl, rfl, .inl rfl, rfl, .inl rfl, rfl, trivial⟩, rfl, rfl⟩
end Go.Sy.YthbgklhegccckaaGreat

namespace Go.Sy.YthbgklhegccckaaGreat
open Go.Proofs
-- SIMP: placeB

attribute [local irreducible] Go.Sy.G Go.Sy.DR
set_option maxRecDepth 100000
set_option maxHeartbeats 4000000

theorem mLen : Meth Tryz.prog 181 "Len" 111 false 183 := .of (by kernel_rfl) Tryz.underlying181
theorem mLess : Meth Tryz.prog 181 "Less" 177 false 183 := .of (by kernel_rfl) Tryz.underlying181
theorem mSwap : Meth Tryz.prog 181 "Swap" 180 false 183 := .of (by kernel_rfl) Tryz.underlying181
theorem mPush : Meth Tryz.prog 181 "Push" 179 true 183 := .of (by kernel_rfl) Tryz.underlying181
theorem mPop : Meth Tryz.prog 181 "Pop" 178 true 183 := .of (by kernel_rfl) Tryz.underlying181

def swapL (q : List Item) (i j : Nat) : List Item := (q.set i (q.getD j default)).set j (q.getD i default)
theorem swapL_length (q : List Item) (i j : Nat) : (swapL q i j).length = q.length := by simp [swapL]

/-- Brought up in a heap. -/
def upF : Nat → List Item → Nat → List Item
  | 0, q, _ => q
  | n + 1, q, j => if j = 0 then q else if itemLt (q.getD j default) (q.getD ((j - 1) / 2) default) then upF n (swapL q ((j - 1) / 2) j) ((j - 1) / 2) else q

theorem upF_fuel : ∀ (n m : Nat) (q : List Item) (j : Nat), j ≤ n → j ≤ m → upF n q j = upF m q j
  | 0, m, q, j, h, _ => by
    have : j = 0 := by omega
    subst this
    cases m <;> simp [upF]
  | n + 1, 0, q, j, _, h => by
    have : j = 0 := by omega
    subst this
    simp [upF]
  | n + 1, m + 1, q, j, h1, h2 => by
    rw [upF, upF]
    split
    · rfl
    · split
      · exact upF_fuel n m _ _ (by omega) (by omega)
      · rfl


theorem upF_step (r : List Item) : ∀ (i : Nat), i ≠ 0 → upF i r i = if itemLt (r.getD i default) (r.getD ((i - 1) / 2) default) then upF ((i - 1) / 2) (swapL r ((i - 1) / 2) i) ((i - 1) / 2) else r
  | 0, h => absurd rfl h
  | m + 1, _ => by
    rw [upF, if_neg (by omega)]
    split
    · exact upF_fuel _ _ _ _ (by omega) (by omega)
    · rfl

theorem upS (q : List Item) (j : Nat) (hj : j < q.length) (hl : q.length < 1000000) :
    Sy.Spec Tryz.prog 140 [.ifc 181 (.ptr 0 0), intSV j] [(0, .box [.osl 1]), (1, .row 3 itemSV q)] (.tup []) [(0, .box [.osl 1]), (1, .row 3 itemSV (upF j q j))] := contract Γ hm 100 F140 Tryz.ntmps140 rfl fun F hF => by
  ((conv => whnf); repeat ((first | refine aF ?_ | refine aT ?_); (first | refine run Γ hm 400 ?_ | refine runD Γ hm 400 (by kernel_rfl) ?_); conv => whnf))
  refine G_loop (α := {p : List Item × Nat // upF p.2 p.1 p.2 = upF j q j ∧ p.1.length = q.length ∧ p.2 < p.1.length}) (fun p => [(0, .ifc 181 (.ptr 0 0)), (1, intSV p.1.2)]) (fun p => [(0, .box [.osl 1]), (1, .row 3 itemSV p.1.1)]) (fun p => p.1.2) ⟨(q, j), rfl, rfl, hj⟩ []
    ⟨⟨rfl, rfl, rfl, rfl, trivial⟩, ⟨.inl rfl, rfl, .inl rfl, rfl, trivial⟩, rfl, rfl⟩ ?_
  rintro ⟨⟨r, i⟩, h1, h2, h3⟩
  simp only at h1 h2 h3
  dsimp only
  have hw : IntKind.i64.wrap (((i : Int) - 1).tdiv 2) = (((i - 1) / 2 : Nat) : Int) := by
    rcases Nat.eq_zero_or_pos i with h0 | h0
    · subst h0; rfl
    · have : ((i : Int) - 1) = ((i - 1 : Nat) : Int) := by omega
      rw [this, Int.tdiv_eq_ediv_of_nonneg (by omega), IntKind.wrap_i64]
      omega
  ((first | refine run Γ hm 400 ?_ | refine runD Γ hm 400 (by kernel_rfl) ?_); (conv => whnf); repeat ((first | refine aF ?_ | refine aT ?_); (first | refine run Γ hm 400 ?_ | refine runD Γ hm 400 (by kernel_rfl) ?_); conv => whnf))
  refine ⟨by unfold I64; omega, ?_⟩
  ((conv => whnf); repeat ((first | refine aF ?_ | refine aT ?_); (first | refine run Γ hm 400 ?_ | refine runD Γ hm 400 (by kernel_rfl) ?_); conv => whnf))
  refine ⟨by decide, ?_⟩
  rw [hw]
  ((conv => whnf); repeat ((first | refine aF ?_ | refine aT ?_); (first | refine run Γ hm 400 ?_ | refine runD Γ hm 400 (by kernel_rfl) ?_); conv => whnf))
  refine ⟨fun h => ?_, fun h => ?_⟩
  · have h0 : i = 0 := by
      have : (((i - 1) / 2 : Nat) : Int) = i := by simpa using h
      omega
    subst h0
    have e : upF j q j = r := by rw [← h1]; rfl
    rw [e]
    ((first | refine run Γ hm 400 ?_ | refine runD Γ hm 400 (by kernel_rfl) ?_); (conv => whnf); repeat ((first | refine aF ?_ | refine aT ?_); (first | refine run Γ hm 400 ?_ | refine runD Γ hm 400 (by kernel_rfl) ?_); conv => whnf))
    exact done_end rfl .nil [] [(0, .box [.osl 1]), (1, .row 3 itemSV r)] (fun _ h => h) rfl rfl ⟨trivial, ⟨.inl rfl, rfl, .inl rfl, rfl, trivial⟩, rfl, rfl⟩
  have h0 : i ≠ 0 := by
    intro h0
    subst h0
    exact absurd h (by decide)
  have hp : (i - 1) / 2 < r.length := by omega
  have hless := queueLessS r i ((i - 1) / 2) h3 hp
  ((first | refine run Γ hm 400 ?_ | refine runD Γ hm 400 (by kernel_rfl) ?_); (conv => whnf); repeat ((first | refine aF ?_ | refine aT ?_); (first | refine run Γ hm 400 ?_ | refine runD Γ hm 400 (by kernel_rfl) ?_); conv => whnf))
  refine stepOp (good_callKE [1] (enters_invoke_val Γ.toTy mLess F177 rfl rfl rfl rfl rfl) hless (.cons (.row rfl rfl) (.cons (.refl _) (.cons (.refl _) .nil))) rfl rfl) rfl rfl ?_
  ((first | refine run Γ hm 400 ?_ | refine runD Γ hm 400 (by kernel_rfl) ?_); (conv => whnf); repeat ((first | refine aF ?_ | refine aT ?_); (first | refine run Γ hm 400 ?_ | refine runD Γ hm 400 (by kernel_rfl) ?_); conv => whnf))
  have hu : upF i r i = if itemLt r[i] r[(i - 1) / 2] then upF ((i - 1) / 2) (swapL r ((i - 1) / 2) i) ((i - 1) / 2) else r := by
    rw [upF_step r i h0, getD_at h3, getD_at hp]
  refine ⟨fun h => ?_, fun h => ?_⟩
  · have hlt : itemLt r[i] r[(i - 1) / 2] = false := by simpa using h
    have e : upF j q j = r := by rw [← h1, hu, hlt]; rfl
    rw [e]
    ((first | refine run Γ hm 400 ?_ | refine runD Γ hm 400 (by kernel_rfl) ?_); (conv => whnf); repeat ((first | refine aF ?_ | refine aT ?_); (first | refine run Γ hm 400 ?_ | refine runD Γ hm 400 (by kernel_rfl) ?_); conv => whnf))
    exact done_end rfl .nil [] [(0, .box [.osl 1]), (1, .row 3 itemSV r)] (fun _ h => h) rfl rfl ⟨trivial, ⟨.inl rfl, rfl, .inl rfl, rfl, trivial⟩, rfl, rfl⟩
  have hlt : itemLt r[i] r[(i - 1) / 2] = true := by simpa using h
  rw [hlt, if_pos rfl] at hu
  have hsw := queueSwapS r ((i - 1) / 2) i hp h3
  have e : (r.set ((i - 1) / 2) r[i]).set i r[(i - 1) / 2] = swapL r ((i - 1) / 2) i := by
    rw [swapL, getD_at h3, getD_at hp]
  rw [e] at hsw
  ((first | refine run Γ hm 400 ?_ | refine runD Γ hm 400 (by kernel_rfl) ?_); (conv => whnf); repeat ((first | refine aF ?_ | refine aT ?_); (first | refine run Γ hm 400 ?_ | refine runD Γ hm 400 (by kernel_rfl) ?_); conv => whnf))
  refine stepOp (good_callE [(0, 1)] (enters_invoke_val Γ.toTy mSwap F180 rfl rfl rfl rfl rfl) hsw rfl ⟨rfl, trivial⟩ rfl ⟨.inl rfl, trivial⟩) rfl rfl ?_
  ((first | refine run Γ hm 400 ?_ | refine runD Γ hm 400 (by kernel_rfl) ?_); (conv => whnf); repeat ((first | refine aF ?_ | refine aT ?_); (first | refine run Γ hm 400 ?_ | refine runD Γ hm 400 (by kernel_rfl) ?_); conv => whnf))
  exact G_inv (α := {p : List Item × Nat // upF p.2 p.1 p.2 = upF j q j ∧ p.1.length = q.length ∧ p.2 < p.1.length}) (L := fun p => [(0, .ifc 181 (.ptr 0 0)), (1, intSV p.1.2)]) (O := fun p => [(0, .box [.osl 1]), (1, .row 3 itemSV p.1.1)]) (μ := fun p => p.1.2) (x := ⟨(r, i), h1, h2, h3⟩)
    ⟨(swapL r ((i - 1) / 2) i, (i - 1) / 2), by rw [← h1, hu], by rw [swapL_length]; exact h2, by rw [swapL_length]; exact hp⟩ [] (by simp only; omega)
    ⟨⟨rfl, rfl, rfl, rfl, trivial⟩, ⟨.inl rfl, rfl, .inl rfl, rfl, trivial⟩, rfl, rfl⟩

theorem upF_length : ∀ (n : Nat) (q : List Item) (j : Nat), (upF n q j).length = q.length
  | 0, q, j => rfl
  | n + 1, q, j => by
    rw [upF]
    split
    · rfl
    · split
      · rw [upF_length n, swapL_length]
      · rfl

def pushH (q : List Item) (x : Item) : List Item := upF q.length (q ++ [x]) q.length

theorem heapPushS (q : List Item) (x : Item) (hl : q.length < 999999) :
    Sy.Spec Tryz.prog 110 [.ifc 181 (.ptr 0 0), .ifc 186 (itemSV x)] [(0, .box [.osl 1]), (1, .row 3 itemSV q)] (.tup []) [(0, .box [.osl 2]), (1, .non), (2, .row 3 itemSV (pushH q x))] := contract Γ hm 100 F110 Tryz.ntmps110 rfl fun F hF => by
  have hpush := queuePushS q x (by omega)
  have hlen := queueLenS (q ++ [x])
  have hup := upS (q ++ [x]) q.length (by simp) (by simp; omega)
  have hln : (((q ++ [x]).length : Nat) : Int) - 1 = (q.length : Int) := by simp
  ((conv => whnf); repeat ((first | refine aF ?_ | refine aT ?_); (first | refine run Γ hm 400 ?_ | refine runD Γ hm 400 (by kernel_rfl) ?_); conv => whnf))
  refine stepOp (good_callE (rd := []) [(2, 6)] (enters_invoke mPush F179 rfl rfl) hpush rfl ⟨rfl, rfl, trivial⟩ rfl ⟨.inl rfl, .inl rfl, .inr rfl, trivial⟩) rfl rfl ?_
  ((first | refine run Γ hm 400 ?_ | refine runD Γ hm 400 (by kernel_rfl) ?_); (conv => whnf); repeat ((first | refine aF ?_ | refine aT ?_); (first | refine run Γ hm 400 ?_ | refine runD Γ hm 400 (by kernel_rfl) ?_); conv => whnf))
  refine stepOp (good_callKE [6] (enters_invoke_val Γ.toTy mLen F111 rfl rfl rfl rfl rfl) hlen (.cons (.row rfl rfl) .nil) rfl rfl) rfl rfl ?_
  ((first | refine run Γ hm 400 ?_ | refine runD Γ hm 400 (by kernel_rfl) ?_); (conv => whnf); repeat ((first | refine aF ?_ | refine aT ?_); (first | refine run Γ hm 400 ?_ | refine runD Γ hm 400 (by kernel_rfl) ?_); conv => whnf))
  refine ⟨by unfold I64; simp; omega, ?_⟩
  rw [hln]
  ((conv => whnf); repeat ((first | refine aF ?_ | refine aT ?_); (first | refine run Γ hm 400 ?_ | refine runD Γ hm 400 (by kernel_rfl) ?_); conv => whnf))
  refine stepOp (good_call [(1, 6)] rfl F140 hup rfl ⟨rfl, rfl, trivial⟩ rfl ⟨.inl rfl, .inl rfl, trivial⟩) rfl rfl ?_
  ((first | refine run Γ hm 400 ?_ | refine runD Γ hm 400 (by kernel_rfl) ?_); (conv => whnf); repeat ((first | refine aF ?_ | refine aT ?_); (first | refine run Γ hm 400 ?_ | refine runD Γ hm 400 (by kernel_rfl) ?_); conv => whnf))
  exact done_end rfl .nil [(2, 6)] [(0, .box [.osl 2]), (1, .non), (2, .row 3 itemSV (pushH q x))] (fun _ h => h) rfl rfl ⟨trivial, ⟨.inl rfl, rfl, .inl rfl, rfl, .inl rfl, rfl, trivial⟩, rfl, rfl⟩
end Go.Sy.YthbgklhegccckaaGreat

namespace Go.Sy.YthbgklhegccckaaGreat
open Go.Proofs
-- SIMP: placeB

attribute [local irreducible] Go.Sy.G Go.Sy.DR
set_option maxRecDepth 100000
set_option maxHeartbeats 4000000

/-- The lesser child's place. -/
def childN (q : List Item) (i n : Nat) : Nat := if 2 * i + 2 < n ∧ itemLt (q.getD (2 * i + 2) default) (q.getD (2 * i + 1) default) = true then 2 * i + 2 else 2 * i + 1

theorem childN_lt (q : List Item) (i n : Nat) (h : 2 * i + 1 < n) : childN q i n < n ∧ i < childN q i n := by
  unfold childN
  split <;> omega

/-- Brought down in a heap of n. -/
def downF : Nat → List Item → Nat → Nat → List Item × Nat
  | 0, q, i, _ => (q, i)
  | f + 1, q, i, n => if 2 * i + 1 < n then (if itemLt (q.getD (childN q i n) default) (q.getD i default) then downF f (swapL q i (childN q i n)) (childN q i n) n else (q, i)) else (q, i)

theorem downF_fuel : ∀ (f g : Nat) (q : List Item) (i n : Nat), n ≤ f + i → n ≤ g + i → downF f q i n = downF g q i n
  | 0, g, q, i, n, h1, h2 => by
    cases g with
    | zero => rfl
    | succ g => rw [downF, downF, if_neg (by omega)]
  | f + 1, 0, q, i, n, h1, h2 => by rw [downF, downF, if_neg (by omega)]
  | f + 1, g + 1, q, i, n, h1, h2 => by
    rw [downF, downF]
    split
    · rename_i h
      have := childN_lt q i n h
      split
      · exact downF_fuel f g _ _ n (by omega) (by omega)
      · rfl
    · rfl

theorem downF_step (r : List Item) (i n : Nat) : downF (n - i) r i n = if 2 * i + 1 < n then (if itemLt (r.getD (childN r i n) default) (r.getD i default) then downF (n - childN r i n) (swapL r i (childN r i n)) (childN r i n) n else (r, i)) else (r, i) := by
  rw [downF_fuel (n - i) (n - i + 1) r i n (by omega) (by omega), downF]
  split
  · rename_i h
    have := childN_lt r i n h
    split
    · exact downF_fuel _ _ _ _ _ (by omega) (by omega)
    · rfl
  · rfl

theorem downF_length : ∀ (f : Nat) (q : List Item) (i n : Nat), (downF f q i n).1.length = q.length
  | 0, _, _, _ => rfl
  | f + 1, q, i, n => by
    rw [downF]
    split
    · split
      · rw [downF_length f, swapL_length]
      · rfl
    · rfl

theorem downS (q : List Item) (i0 n : Nat) (hn : n ≤ q.length) (hi : i0 < q.length) (hl : q.length < 1000000) :
    Sy.Spec Tryz.prog 141 [.ifc 181 (.ptr 0 0), intSV i0, intSV n] [(0, .box [.osl 1]), (1, .row 3 itemSV q)] (boolSV (decide (((downF (n - i0) q i0 n).2 : Int) > i0))) [(0, .box [.osl 1]), (1, .row 3 itemSV (downF (n - i0) q i0 n).1)] := contract Γ hm 100 F141 Tryz.ntmps141 rfl fun F hF => by
  generalize hD : downF (n - i0) q i0 n = D
  ((conv => whnf); repeat ((first | refine aF ?_ | refine aT ?_); (first | refine run Γ hm 400 ?_ | refine runD Γ hm 400 (by kernel_rfl) ?_); conv => whnf))
  refine G_loop (α := {p : List Item × Nat // downF (n - p.2) p.1 p.2 n = D ∧ p.1.length = q.length ∧ p.2 < p.1.length}) (fun p => [(0, .ifc 181 (.ptr 0 0)), (1, intSV i0), (2, intSV n), (7, intSV p.1.2)]) (fun p => [(0, .box [.osl 1]), (1, .row 3 itemSV p.1.1)]) (fun p => n - p.1.2) ⟨(q, i0), hD, rfl, hi⟩ []
    ⟨⟨rfl, rfl, rfl, rfl, rfl, rfl, rfl, rfl, trivial⟩, ⟨.inl rfl, rfl, .inl rfl, rfl, trivial⟩, rfl, rfl⟩ ?_
  rintro ⟨⟨r, i⟩, h1, h2, h3⟩
  simp only at h1 h2 h3
  dsimp only
  have h10 := h1
  rw [downF_step] at h1
  have hj1 : (2 : Int) * i + 1 = ((2 * i + 1 : Nat) : Int) := by omega
  have hj2 : ((2 * i + 1 : Nat) : Int) + 1 = ((2 * i + 2 : Nat) : Int) := by omega
  ((first | refine run Γ hm 400 ?_ | refine runD Γ hm 400 (by kernel_rfl) ?_); (conv => whnf); repeat ((first | refine aF ?_ | refine aT ?_); (first | refine run Γ hm 400 ?_ | refine runD Γ hm 400 (by kernel_rfl) ?_); conv => whnf))
  refine ⟨by unfold I64; omega, ?_⟩
  ((conv => whnf); repeat ((first | refine aF ?_ | refine aT ?_); (first | refine run Γ hm 400 ?_ | refine runD Γ hm 400 (by kernel_rfl) ?_); conv => whnf))
  refine ⟨by unfold I64; omega, ?_⟩
  rw [hj1]
  ((conv => whnf); repeat ((first | refine aF ?_ | refine aT ?_); (first | refine run Γ hm 400 ?_ | refine runD Γ hm 400 (by kernel_rfl) ?_); conv => whnf))
  refine ⟨fun h => ?_, fun h => ?_⟩
  · have hge : ¬ 2 * i + 1 < n := by have := of_decide_eq_true h; omega
    rw [if_neg hge] at h1
    rw [← h1]
    ((first | refine run Γ hm 400 ?_ | refine runD Γ hm 400 (by kernel_rfl) ?_); (conv => whnf); repeat ((first | refine aF ?_ | refine aT ?_); (first | refine run Γ hm 400 ?_ | refine runD Γ hm 400 (by kernel_rfl) ?_); conv => whnf))
    exact done rfl (.cons .tmp .nil) [] [(0, .box [.osl 1]), (1, .row 3 itemSV r)] (fun _ h => h) rfl rfl ⟨trivial, ⟨.inl rfl, rfl, .inl rfl, rfl, trivial⟩, rfl, rfl⟩
  have hlt : 2 * i + 1 < n := by have := of_decide_eq_false h; omega
  rw [if_pos hlt] at h1
  ((first | refine run Γ hm 400 ?_ | refine runD Γ hm 400 (by kernel_rfl) ?_); (conv => whnf); repeat ((first | refine aF ?_ | refine aT ?_); (first | refine run Γ hm 400 ?_ | refine runD Γ hm 400 (by kernel_rfl) ?_); conv => whnf))
  refine ⟨by unfold I64; omega, ?_⟩
  rw [hj2]
  ((conv => whnf); repeat ((first | refine aF ?_ | refine aT ?_); (first | refine run Γ hm 400 ?_ | refine runD Γ hm 400 (by kernel_rfl) ?_); conv => whnf))
  refine ⟨fun h => ?_, fun h => ?_⟩
  · have h2n : 2 * i + 2 < n := by have := of_decide_eq_true h; omega
    have hA : 2 * i + 2 < r.length := by omega
    have hB : 2 * i + 1 < r.length := by omega
    have hlc := queueLessS r (2 * i + 2) (2 * i + 1) hA hB
    ((first | refine run Γ hm 400 ?_ | refine runD Γ hm 400 (by kernel_rfl) ?_); (conv => whnf); repeat ((first | refine aF ?_ | refine aT ?_); (first | refine run Γ hm 400 ?_ | refine runD Γ hm 400 (by kernel_rfl) ?_); conv => whnf))
    refine stepOp (good_callKE [1] (enters_invoke_val Γ.toTy mLess F177 rfl rfl rfl rfl rfl) hlc (.cons (.row rfl rfl) (.cons (.refl _) (.cons (.refl _) .nil))) rfl rfl) rfl rfl ?_
    ((first | refine run Γ hm 400 ?_ | refine runD Γ hm 400 (by kernel_rfl) ?_); (conv => whnf); repeat ((first | refine aF ?_ | refine aT ?_); (first | refine run Γ hm 400 ?_ | refine runD Γ hm 400 (by kernel_rfl) ?_); conv => whnf))
    refine ⟨fun h => ?_, fun h => ?_⟩
    · have hc : childN r i n = 2 * i + 2 := by rw [childN, if_pos ⟨h2n, by rw [getD_at hA, getD_at hB]; exact h⟩]
      have hJ := hA
      ((first | refine run Γ hm 400 ?_ | refine runD Γ hm 400 (by kernel_rfl) ?_); (conv => whnf); repeat ((first | refine aF ?_ | refine aT ?_); (first | refine run Γ hm 400 ?_ | refine runD Γ hm 400 (by kernel_rfl) ?_); conv => whnf))
      rw [hc, getD_at hJ, getD_at h3] at h1
      have hls := queueLessS r (2 * i + 2) i hJ h3
      refine stepOp (good_callKE [1] (enters_invoke_val Γ.toTy mLess F177 rfl rfl rfl rfl rfl) hls (.cons (.row rfl rfl) (.cons (.refl _) (.cons (.refl _) .nil))) rfl rfl) rfl rfl ?_
      ((first | refine run Γ hm 400 ?_ | refine runD Γ hm 400 (by kernel_rfl) ?_); (conv => whnf); repeat ((first | refine aF ?_ | refine aT ?_); (first | refine run Γ hm 400 ?_ | refine runD Γ hm 400 (by kernel_rfl) ?_); conv => whnf))
      refine ⟨fun h => ?_, fun h => ?_⟩
      · have hf : itemLt r[2 * i + 2] r[i] = false := by simpa using h
        rw [hf] at h1
        have e : D = (r, i) := h1.symm
        rw [e]
        ((first | refine run Γ hm 400 ?_ | refine runD Γ hm 400 (by kernel_rfl) ?_); (conv => whnf); repeat ((first | refine aF ?_ | refine aT ?_); (first | refine run Γ hm 400 ?_ | refine runD Γ hm 400 (by kernel_rfl) ?_); conv => whnf))
        exact done rfl (.cons .tmp .nil) [] [(0, .box [.osl 1]), (1, .row 3 itemSV r)] (fun _ h => h) rfl rfl ⟨trivial, ⟨.inl rfl, rfl, .inl rfl, rfl, trivial⟩, rfl, rfl⟩
      have hf : itemLt r[2 * i + 2] r[i] = true := by simpa using h
      rw [hf, if_pos rfl] at h1
      have hsw := queueSwapS r i (2 * i + 2) h3 hJ
      have e : (r.set i r[2 * i + 2]).set (2 * i + 2) r[i] = swapL r i (2 * i + 2) := by
        rw [swapL, getD_at h3, getD_at hJ]
      rw [e] at hsw
      ((first | refine run Γ hm 400 ?_ | refine runD Γ hm 400 (by kernel_rfl) ?_); (conv => whnf); repeat ((first | refine aF ?_ | refine aT ?_); (first | refine run Γ hm 400 ?_ | refine runD Γ hm 400 (by kernel_rfl) ?_); conv => whnf))
      refine stepOp (good_callE [(0, 1)] (enters_invoke_val Γ.toTy mSwap F180 rfl rfl rfl rfl rfl) hsw rfl ⟨rfl, trivial⟩ rfl ⟨.inl rfl, trivial⟩) rfl rfl ?_
      ((first | refine run Γ hm 400 ?_ | refine runD Γ hm 400 (by kernel_rfl) ?_); (conv => whnf); repeat ((first | refine aF ?_ | refine aT ?_); (first | refine run Γ hm 400 ?_ | refine runD Γ hm 400 (by kernel_rfl) ?_); conv => whnf))
      exact G_inv (α := {p : List Item × Nat // downF (n - p.2) p.1 p.2 n = D ∧ p.1.length = q.length ∧ p.2 < p.1.length}) (L := fun p => [(0, .ifc 181 (.ptr 0 0)), (1, intSV i0), (2, intSV n), (7, intSV p.1.2)]) (O := fun p => [(0, .box [.osl 1]), (1, .row 3 itemSV p.1.1)]) (μ := fun p => n - p.1.2) (x := ⟨(r, i), h10, h2, h3⟩)
        ⟨(swapL r i (2 * i + 2), 2 * i + 2), h1, by rw [swapL_length]; exact h2, by rw [swapL_length]; exact hJ⟩ [] (by simp only; omega)
        ⟨⟨rfl, rfl, rfl, rfl, rfl, rfl, rfl, rfl, trivial⟩, ⟨.inl rfl, rfl, .inl rfl, rfl, trivial⟩, rfl, rfl⟩
    · have hc : childN r i n = 2 * i + 1 := by rw [childN, if_neg (fun hh => by rw [getD_at hA, getD_at hB, h] at hh; exact absurd hh.2 (by simp))]
      have hJ := hB
      ((first | refine run Γ hm 400 ?_ | refine runD Γ hm 400 (by kernel_rfl) ?_); (conv => whnf); repeat ((first | refine aF ?_ | refine aT ?_); (first | refine run Γ hm 400 ?_ | refine runD Γ hm 400 (by kernel_rfl) ?_); conv => whnf))
      rw [hc, getD_at hJ, getD_at h3] at h1
      have hls := queueLessS r (2 * i + 1) i hJ h3
      refine stepOp (good_callKE [1] (enters_invoke_val Γ.toTy mLess F177 rfl rfl rfl rfl rfl) hls (.cons (.row rfl rfl) (.cons (.refl _) (.cons (.refl _) .nil))) rfl rfl) rfl rfl ?_
      ((first | refine run Γ hm 400 ?_ | refine runD Γ hm 400 (by kernel_rfl) ?_); (conv => whnf); repeat ((first | refine aF ?_ | refine aT ?_); (first | refine run Γ hm 400 ?_ | refine runD Γ hm 400 (by kernel_rfl) ?_); conv => whnf))
      refine ⟨fun h => ?_, fun h => ?_⟩
      · have hf : itemLt r[2 * i + 1] r[i] = false := by simpa using h
        rw [hf] at h1
        have e : D = (r, i) := h1.symm
        rw [e]
        ((first | refine run Γ hm 400 ?_ | refine runD Γ hm 400 (by kernel_rfl) ?_); (conv => whnf); repeat ((first | refine aF ?_ | refine aT ?_); (first | refine run Γ hm 400 ?_ | refine runD Γ hm 400 (by kernel_rfl) ?_); conv => whnf))
        exact done rfl (.cons .tmp .nil) [] [(0, .box [.osl 1]), (1, .row 3 itemSV r)] (fun _ h => h) rfl rfl ⟨trivial, ⟨.inl rfl, rfl, .inl rfl, rfl, trivial⟩, rfl, rfl⟩
      have hf : itemLt r[2 * i + 1] r[i] = true := by simpa using h
      rw [hf, if_pos rfl] at h1
      have hsw := queueSwapS r i (2 * i + 1) h3 hJ
      have e : (r.set i r[2 * i + 1]).set (2 * i + 1) r[i] = swapL r i (2 * i + 1) := by
        rw [swapL, getD_at h3, getD_at hJ]
      rw [e] at hsw
      ((first | refine run Γ hm 400 ?_ | refine runD Γ hm 400 (by kernel_rfl) ?_); (conv => whnf); repeat ((first | refine aF ?_ | refine aT ?_); (first | refine run Γ hm 400 ?_ | refine runD Γ hm 400 (by kernel_rfl) ?_); conv => whnf))
      refine stepOp (good_callE [(0, 1)] (enters_invoke_val Γ.toTy mSwap F180 rfl rfl rfl rfl rfl) hsw rfl ⟨rfl, trivial⟩ rfl ⟨.inl rfl, trivial⟩) rfl rfl ?_
      ((first | refine run Γ hm 400 ?_ | refine runD Γ hm 400 (by kernel_rfl) ?_); (conv => whnf); repeat ((first | refine aF ?_ | refine aT ?_); (first | refine run Γ hm 400 ?_ | refine runD Γ hm 400 (by kernel_rfl) ?_); conv => whnf))
      exact G_inv (α := {p : List Item × Nat // downF (n - p.2) p.1 p.2 n = D ∧ p.1.length = q.length ∧ p.2 < p.1.length}) (L := fun p => [(0, .ifc 181 (.ptr 0 0)), (1, intSV i0), (2, intSV n), (7, intSV p.1.2)]) (O := fun p => [(0, .box [.osl 1]), (1, .row 3 itemSV p.1.1)]) (μ := fun p => n - p.1.2) (x := ⟨(r, i), h10, h2, h3⟩)
        ⟨(swapL r i (2 * i + 1), 2 * i + 1), h1, by rw [swapL_length]; exact h2, by rw [swapL_length]; exact hJ⟩ [] (by simp only; omega)
        ⟨⟨rfl, rfl, rfl, rfl, rfl, rfl, rfl, rfl, trivial⟩, ⟨.inl rfl, rfl, .inl rfl, rfl, trivial⟩, rfl, rfl⟩
  · have h2n : ¬ 2 * i + 2 < n := by have := of_decide_eq_false h; omega
    have hJ : 2 * i + 1 < r.length := by omega
    have hc : childN r i n = 2 * i + 1 := by rw [childN, if_neg (fun hh => h2n hh.1)]
    ((first | refine run Γ hm 400 ?_ | refine runD Γ hm 400 (by kernel_rfl) ?_); (conv => whnf); repeat ((first | refine aF ?_ | refine aT ?_); (first | refine run Γ hm 400 ?_ | refine runD Γ hm 400 (by kernel_rfl) ?_); conv => whnf))
    rw [hc, getD_at hJ, getD_at h3] at h1
    have hls := queueLessS r (2 * i + 1) i hJ h3
    refine stepOp (good_callKE [1] (enters_invoke_val Γ.toTy mLess F177 rfl rfl rfl rfl rfl) hls (.cons (.row rfl rfl) (.cons (.refl _) (.cons (.refl _) .nil))) rfl rfl) rfl rfl ?_
    ((first | refine run Γ hm 400 ?_ | refine runD Γ hm 400 (by kernel_rfl) ?_); (conv => whnf); repeat ((first | refine aF ?_ | refine aT ?_); (first | refine run Γ hm 400 ?_ | refine runD Γ hm 400 (by kernel_rfl) ?_); conv => whnf))
    refine ⟨fun h => ?_, fun h => ?_⟩
    · have hf : itemLt r[2 * i + 1] r[i] = false := by simpa using h
      rw [hf] at h1
      have e : D = (r, i) := h1.symm
      rw [e]
      ((first | refine run Γ hm 400 ?_ | refine runD Γ hm 400 (by kernel_rfl) ?_); (conv => whnf); repeat ((first | refine aF ?_ | refine aT ?_); (first | refine run Γ hm 400 ?_ | refine runD Γ hm 400 (by kernel_rfl) ?_); conv => whnf))
      exact done rfl (.cons .tmp .nil) [] [(0, .box [.osl 1]), (1, .row 3 itemSV r)] (fun _ h => h) rfl rfl ⟨trivial, ⟨.inl rfl, rfl, .inl rfl, rfl, trivial⟩, rfl, rfl⟩
    have hf : itemLt r[2 * i + 1] r[i] = true := by simpa using h
    rw [hf, if_pos rfl] at h1
    have hsw := queueSwapS r i (2 * i + 1) h3 hJ
    have e : (r.set i r[2 * i + 1]).set (2 * i + 1) r[i] = swapL r i (2 * i + 1) := by
      rw [swapL, getD_at h3, getD_at hJ]
    rw [e] at hsw
    ((first | refine run Γ hm 400 ?_ | refine runD Γ hm 400 (by kernel_rfl) ?_); (conv => whnf); repeat ((first | refine aF ?_ | refine aT ?_); (first | refine run Γ hm 400 ?_ | refine runD Γ hm 400 (by kernel_rfl) ?_); conv => whnf))
    refine stepOp (good_callE [(0, 1)] (enters_invoke_val Γ.toTy mSwap F180 rfl rfl rfl rfl rfl) hsw rfl ⟨rfl, trivial⟩ rfl ⟨.inl rfl, trivial⟩) rfl rfl ?_
    ((first | refine run Γ hm 400 ?_ | refine runD Γ hm 400 (by kernel_rfl) ?_); (conv => whnf); repeat ((first | refine aF ?_ | refine aT ?_); (first | refine run Γ hm 400 ?_ | refine runD Γ hm 400 (by kernel_rfl) ?_); conv => whnf))
    exact G_inv (α := {p : List Item × Nat // downF (n - p.2) p.1 p.2 n = D ∧ p.1.length = q.length ∧ p.2 < p.1.length}) (L := fun p => [(0, .ifc 181 (.ptr 0 0)), (1, intSV i0), (2, intSV n), (7, intSV p.1.2)]) (O := fun p => [(0, .box [.osl 1]), (1, .row 3 itemSV p.1.1)]) (μ := fun p => n - p.1.2) (x := ⟨(r, i), h10, h2, h3⟩)
      ⟨(swapL r i (2 * i + 1), 2 * i + 1), h1, by rw [swapL_length]; exact h2, by rw [swapL_length]; exact hJ⟩ [] (by simp only; omega)
      ⟨⟨rfl, rfl, rfl, rfl, rfl, rfl, rfl, rfl, trivial⟩, ⟨.inl rfl, rfl, .inl rfl, rfl, trivial⟩, rfl, rfl⟩
end Go.Sy.YthbgklhegccckaaGreat

namespace Go.Sy.YthbgklhegccckaaGreat
open Go.Proofs
-- SIMP: placeB

attribute [local irreducible] Go.Sy.G Go.Sy.DR
set_option maxRecDepth 100000
set_option maxHeartbeats 4000000

/-- What is left in a heap whose first one was swapped to its end and taken: all, the taken one last. -/
def popL (q : List Item) : List Item := (downF (q.length - 1 - 0) (swapL q 0 (q.length - 1)) 0 (q.length - 1)).1
theorem popL_length (q : List Item) : (popL q).length = q.length := by rw [popL, downF_length, swapL_length]
theorem popL_ne {q : List Item} (h : q ≠ []) : popL q ≠ [] := fun e => h (List.eq_nil_of_length_eq_zero (by rw [← popL_length, e]; rfl))

theorem heapPopS (q : List Item) (hq : q ≠ []) (hl : q.length < 1000000) :
    Sy.Spec Tryz.prog 112 [.ifc 181 (.ptr 0 0)] [(0, .box [.osl 1]), (1, .row 3 itemSV q)] (.ifc 186 (itemSV ((popL q).getLast (popL_ne hq)))) [(0, .box [.osl 2]), (1, .non), (2, .row 3 itemSV (popL q).dropLast)] := contract Γ hm 100 F112 Tryz.ntmps112 rfl fun F hF => by
  have h0 : 0 < q.length := List.length_pos_iff.2 hq
  have hlen := queueLenS q
  have hsw := queueSwapS q 0 (q.length - 1) h0 (by omega)
  have e : (q.set 0 q[q.length - 1]).set (q.length - 1) q[0] = swapL q 0 (q.length - 1) := by
    rw [swapL, getD_at (show q.length - 1 < q.length by omega), getD_at h0]
  rw [e] at hsw
  have hdn := downS (swapL q 0 (q.length - 1)) 0 (q.length - 1) (by rw [swapL_length]; omega) (by rw [swapL_length]; exact h0) (by rw [swapL_length]; exact hl)
  have hpop := queuePopS (popL q) (popL_ne hq) (by rw [popL_length]; exact hl)
  have hln : (q.length : Int) - 1 = ((q.length - 1 : Nat) : Int) := by omega
  ((conv => whnf); repeat ((first | refine aF ?_ | refine aT ?_); (first | refine run Γ hm 400 ?_ | refine runD Γ hm 400 (by kernel_rfl) ?_); conv => whnf))
  refine stepOp (good_callKE [1] (enters_invoke_val Γ.toTy mLen F111 rfl rfl rfl rfl rfl) hlen (.cons (.row rfl rfl) .nil) rfl rfl) rfl rfl ?_
  ((first | refine run Γ hm 400 ?_ | refine runD Γ hm 400 (by kernel_rfl) ?_); (conv => whnf); repeat ((first | refine aF ?_ | refine aT ?_); (first | refine run Γ hm 400 ?_ | refine runD Γ hm 400 (by kernel_rfl) ?_); conv => whnf))
  refine ⟨by unfold I64; omega, ?_⟩
  rw [hln]
  ((conv => whnf); repeat ((first | refine aF ?_ | refine aT ?_); (first | refine run Γ hm 400 ?_ | refine runD Γ hm 400 (by kernel_rfl) ?_); conv => whnf))
  refine stepOp (good_callE [(0, 1)] (enters_invoke_val Γ.toTy mSwap F180 rfl rfl rfl rfl rfl) hsw rfl ⟨rfl, trivial⟩ rfl ⟨.inl rfl, trivial⟩) rfl rfl ?_
  ((first | refine run Γ hm 400 ?_ | refine runD Γ hm 400 (by kernel_rfl) ?_); (conv => whnf); repeat ((first | refine aF ?_ | refine aT ?_); (first | refine run Γ hm 400 ?_ | refine runD Γ hm 400 (by kernel_rfl) ?_); conv => whnf))
  refine stepOp (good_call [] rfl F141 hdn rfl ⟨rfl, rfl, trivial⟩ rfl ⟨.inl rfl, .inl rfl, trivial⟩) rfl rfl ?_
  ((first | refine run Γ hm 400 ?_ | refine runD Γ hm 400 (by kernel_rfl) ?_); (conv => whnf); repeat ((first | refine aF ?_ | refine aT ?_); (first | refine run Γ hm 400 ?_ | refine runD Γ hm 400 (by kernel_rfl) ?_); conv => whnf))
  refine stepOp (good_callE (rd := []) [(2, 14)] (enters_invoke mPop F178 rfl rfl) hpop rfl ⟨rfl, rfl, trivial⟩ rfl ⟨.inl rfl, .inl rfl, .inr rfl, trivial⟩) rfl rfl ?_
  ((first | refine run Γ hm 400 ?_ | refine runD Γ hm 400 (by kernel_rfl) ?_); (conv => whnf); repeat ((first | refine aF ?_ | refine aT ?_); (first | refine run Γ hm 400 ?_ | refine runD Γ hm 400 (by kernel_rfl) ?_); conv => whnf))
  exact done rfl (.cons .tmp .nil) [(2, 14)] [(0, .box [.osl 2]), (1, .non), (2, .row 3 itemSV (popL q).dropLast)] (fun _ h => h) rfl rfl ⟨trivial, ⟨.inl rfl, rfl, .inl rfl, rfl, .inl rfl, rfl, trivial⟩, rfl, rfl⟩
end Go.Sy.YthbgklhegccckaaGreat
