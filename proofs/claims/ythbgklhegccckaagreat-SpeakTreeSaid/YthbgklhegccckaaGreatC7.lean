/-
  Contracts: vectors (package vector, palingref24), 1. Contracts: vectors (package vector, palingref24), 2: sorting. Contracts: vectors (package vector, palingref24), 3: ranks. The plain law of ranks: the program's are the document's.
-/
import Derived.Test.YthbgklhegccckaaGreatC6

namespace Go.Sy.YthbgklhegccckaaGreat
open Go.Proofs
-- SIMP: placeB

attribute [local irreducible] Go.Sy.G Go.Sy.DR
set_option maxRecDepth 20000
set_option maxHeartbeats 4000000

theorem isNaNintS (a : Int) : Sy.Spec Tryz.prog 118 [intSV a] [] (boolSV false) [] := contract Γ hm 100 F118 Tryz.ntmps118 rfl fun F hF => by
  ((conv => whnf); repeat ((first | refine aF ?_ | refine aT ?_); (first | refine run Γ hm 400 ?_ | refine runD Γ hm 400 (by kernel_rfl) ?_); conv => whnf))
  exact done0 rfl (.cons .tmp .nil) (congrArg boolSV (by simp)) rfl
theorem isNaNu64S (a : Int) : Sy.Spec Tryz.prog 117 [u64SV a] [] (boolSV false) [] := contract Γ hm 100 F117 Tryz.ntmps117 rfl fun F hF => by
  ((conv => whnf); repeat ((first | refine aF ?_ | refine aT ?_); (first | refine run Γ hm 400 ?_ | refine runD Γ hm 400 (by kernel_rfl) ?_); conv => whnf))
  exact done0 rfl (.cons .tmp .nil) (congrArg boolSV (by simp)) rfl

def cmpI (a b : Int) : Int := if a < b then -1 else if a > b then 1 else 0

theorem compareIntS (a b : Int) : Sy.Spec Tryz.prog 70 [intSV a, intSV b] [] (intSV (cmpI a b)) [] := contract Γ hm 100 F70 Tryz.ntmps70 rfl fun F hF => by
  ((conv => whnf); repeat ((first | refine aF ?_ | refine aT ?_); (first | refine run Γ hm 400 ?_ | refine runD Γ hm 400 (by kernel_rfl) ?_); conv => whnf))
  (repeat' (first | (refine ⟨fun h => ?_, fun h => ?_⟩ <;> (repeat (first | (simp only [placeB] at h) | (simp only [decide_eq_true_eq] at h) | (simp only [decide_eq_false_iff_not] at h) | (simp only [beq_iff_eq] at h) | (simp only [beq_eq_false_iff_ne] at h) | (simp only [bne_iff_ne] at h) | (simp only [bne_eq_false_iff_eq] at h) | (simp only [Bool.and_eq_true] at h) | (simp only [Bool.or_eq_true] at h) | (simp only [Bool.and_eq_false_iff] at h) | (simp only [Bool.or_eq_false_iff] at h) | (simp only [Bool.not_eq_true'] at h) | (simp only [Bool.not_eq_false'] at h) | (simp only [Bool.not_eq_eq_eq_not] at h) | (simp only [Bool.not_true] at h) | (simp only [Bool.not_false] at h))) <;> ((first | refine run Γ hm 400 ?_ | refine runD Γ hm 400 (by kernel_rfl) ?_); (conv => whnf); repeat ((first | refine aF ?_ | refine aT ?_); (first | refine run Γ hm 400 ?_ | refine runD Γ hm 400 (by kernel_rfl) ?_); conv => whnf))) | (refine done0 rfl (.cons .tmp .nil) ?_ rfl) | (refine ⟨(by kernel_rfl), ?_⟩; ((conv => whnf); repeat ((first | refine aF ?_ | refine aT ?_); (first | refine run Γ hm 400 ?_ | refine runD Γ hm 400 (by kernel_rfl) ?_); conv => whnf))) | (refine ⟨by (first | (unfold I64; omega) | omega | (simp only [Int.toNat_natCast]; omega) | done), by (first | (unfold I64; omega) | omega | (simp only [Int.toNat_natCast]; omega) | done), ?_⟩; ((conv => whnf); repeat ((first | refine aF ?_ | refine aT ?_); (first | refine run Γ hm 400 ?_ | refine runD Γ hm 400 (by kernel_rfl) ?_); conv => whnf))) | (refine ⟨by (first | (unfold I64; omega) | omega | (simp only [Int.toNat_natCast]; omega) | done), ?_⟩; ((conv => whnf); repeat ((first | refine aF ?_ | refine aT ?_); (first | refine run Γ hm 400 ?_ | refine runD Γ hm 400 (by kernel_rfl) ?_); conv => whnf))) | (refine call0 (isNaNintS a) F118 rfl rfl rfl rfl rfl ?_; ((first | refine run Γ hm 400 ?_ | refine runD Γ hm 400 (by kernel_rfl) ?_); (conv => whnf); repeat ((first | refine aF ?_ | refine aT ?_); (first | refine run Γ hm 400 ?_ | refine runD Γ hm 400 (by kernel_rfl) ?_); conv => whnf))) | (refine callD0 (isNaNintS a) F118 rfl rfl rfl (by kernel_rfl) rfl ?_; ((first | refine run Γ hm 400 ?_ | refine runD Γ hm 400 (by kernel_rfl) ?_); (conv => whnf); repeat ((first | refine aF ?_ | refine aT ?_); (first | refine run Γ hm 400 ?_ | refine runD Γ hm 400 (by kernel_rfl) ?_); conv => whnf))) | (refine call0 (isNaNintS b) F118 rfl rfl rfl rfl rfl ?_; ((first | refine run Γ hm 400 ?_ | refine runD Γ hm 400 (by kernel_rfl) ?_); (conv => whnf); repeat ((first | refine aF ?_ | refine aT ?_); (first | refine run Γ hm 400 ?_ | refine runD Γ hm 400 (by kernel_rfl) ?_); conv => whnf))) | (refine callD0 (isNaNintS b) F118 rfl rfl rfl (by kernel_rfl) rfl ?_; ((first | refine run Γ hm 400 ?_ | refine runD Γ hm 400 (by kernel_rfl) ?_); (conv => whnf); repeat ((first | refine aF ?_ | refine aT ?_); (first | refine run Γ hm 400 ?_ | refine runD Γ hm 400 (by kernel_rfl) ?_); conv => whnf)))))
  all_goals (refine congrArg intSV ?_; clear hF; grind [cmpI])
theorem compareU64S (a b : Int) : Sy.Spec Tryz.prog 69 [u64SV a, u64SV b] [] (intSV (cmpI a b)) [] := contract Γ hm 100 F69 Tryz.ntmps69 rfl fun F hF => by
  ((conv => whnf); repeat ((first | refine aF ?_ | refine aT ?_); (first | refine run Γ hm 400 ?_ | refine runD Γ hm 400 (by kernel_rfl) ?_); conv => whnf))
  (repeat' (first | (refine ⟨fun h => ?_, fun h => ?_⟩ <;> (repeat (first | (simp only [placeB] at h) | (simp only [decide_eq_true_eq] at h) | (simp only [decide_eq_false_iff_not] at h) | (simp only [beq_iff_eq] at h) | (simp only [beq_eq_false_iff_ne] at h) | (simp only [bne_iff_ne] at h) | (simp only [bne_eq_false_iff_eq] at h) | (simp only [Bool.and_eq_true] at h) | (simp only [Bool.or_eq_true] at h) | (simp only [Bool.and_eq_false_iff] at h) | (simp only [Bool.or_eq_false_iff] at h) | (simp only [Bool.not_eq_true'] at h) | (simp only [Bool.not_eq_false'] at h) | (simp only [Bool.not_eq_eq_eq_not] at h) | (simp only [Bool.not_true] at h) | (simp only [Bool.not_false] at h))) <;> ((first | refine run Γ hm 400 ?_ | refine runD Γ hm 400 (by kernel_rfl) ?_); (conv => whnf); repeat ((first | refine aF ?_ | refine aT ?_); (first | refine run Γ hm 400 ?_ | refine runD Γ hm 400 (by kernel_rfl) ?_); conv => whnf))) | (refine done0 rfl (.cons .tmp .nil) ?_ rfl) | (refine ⟨(by kernel_rfl), ?_⟩; ((conv => whnf); repeat ((first | refine aF ?_ | refine aT ?_); (first | refine run Γ hm 400 ?_ | refine runD Γ hm 400 (by kernel_rfl) ?_); conv => whnf))) | (refine ⟨by (first | (unfold I64; omega) | omega | (simp only [Int.toNat_natCast]; omega) | done), by (first | (unfold I64; omega) | omega | (simp only [Int.toNat_natCast]; omega) | done), ?_⟩; ((conv => whnf); repeat ((first | refine aF ?_ | refine aT ?_); (first | refine run Γ hm 400 ?_ | refine runD Γ hm 400 (by kernel_rfl) ?_); conv => whnf))) | (refine ⟨by (first | (unfold I64; omega) | omega | (simp only [Int.toNat_natCast]; omega) | done), ?_⟩; ((conv => whnf); repeat ((first | refine aF ?_ | refine aT ?_); (first | refine run Γ hm 400 ?_ | refine runD Γ hm 400 (by kernel_rfl) ?_); conv => whnf))) | (refine call0 (isNaNu64S a) F117 rfl rfl rfl rfl rfl ?_; ((first | refine run Γ hm 400 ?_ | refine runD Γ hm 400 (by kernel_rfl) ?_); (conv => whnf); repeat ((first | refine aF ?_ | refine aT ?_); (first | refine run Γ hm 400 ?_ | refine runD Γ hm 400 (by kernel_rfl) ?_); conv => whnf))) | (refine callD0 (isNaNu64S a) F117 rfl rfl rfl (by kernel_rfl) rfl ?_; ((first | refine run Γ hm 400 ?_ | refine runD Γ hm 400 (by kernel_rfl) ?_); (conv => whnf); repeat ((first | refine aF ?_ | refine aT ?_); (first | refine run Γ hm 400 ?_ | refine runD Γ hm 400 (by kernel_rfl) ?_); conv => whnf))) | (refine call0 (isNaNu64S b) F117 rfl rfl rfl rfl rfl ?_; ((first | refine run Γ hm 400 ?_ | refine runD Γ hm 400 (by kernel_rfl) ?_); (conv => whnf); repeat ((first | refine aF ?_ | refine aT ?_); (first | refine run Γ hm 400 ?_ | refine runD Γ hm 400 (by kernel_rfl) ?_); conv => whnf))) | (refine callD0 (isNaNu64S b) F117 rfl rfl rfl (by kernel_rfl) rfl ?_; ((first | refine run Γ hm 400 ?_ | refine runD Γ hm 400 (by kernel_rfl) ?_); (conv => whnf); repeat ((first | refine aF ?_ | refine aT ?_); (first | refine run Γ hm 400 ?_ | refine runD Γ hm 400 (by kernel_rfl) ?_); conv => whnf)))))
  all_goals (refine congrArg intSV ?_; clear hF; grind [cmpI])

/-- cmp.Or. -/
def orI : List Int → Int
  | [] => 0
  | x :: l => if x = 0 then orI l else x

theorem orI_skip : ∀ {l : List Int} {j : Nat}, (∀ i (h : i < l.length), i < j → l[i] = 0) → orI l = orI (l.drop j)
  | l, 0, _ => rfl
  | [], j + 1, _ => rfl
  | x :: l, j + 1, h => by
    have h0 := h 0 (by simp) (by omega)
    simp only [List.getElem_cons_zero] at h0
    rw [orI, if_pos h0, List.drop_succ_cons]
    exact orI_skip fun i hi hij => h (i + 1) (by simp; omega) (by omega)

theorem orS (l : List Int) (hl : Short l) : Sy.Spec Tryz.prog 68 [.sl 1 intSV l] [] (intSV (orI l)) [] := contract Γ hm 100 F68 Tryz.ntmps68 rfl fun F hF => by
  unfold Short at hl
  ((conv => whnf); repeat ((first | refine aF ?_ | refine aT ?_); (first | refine run Γ hm 400 ?_ | refine runD Γ hm 400 (by kernel_rfl) ?_); conv => whnf))
  refine G_countP l.length (fun j => ∀ i (h : i < l.length), i < j → l[i] = 0) (fun j => [(3, intSV 0), (6, .sl 1 intSV l), (7, intSV l.length), (8, intSV j)]) (fun _ => []) [] (fun i h hj => absurd hj (by omega)) ⟨⟨rfl, rfl, rfl, rfl, rfl, rfl, rfl, rfl, trivial⟩, trivial, rfl, rfl⟩ ?_
  intro j hj hI
  ((first | refine run Γ hm 400 ?_ | refine runD Γ hm 400 (by kernel_rfl) ?_); (conv => whnf); repeat ((first | refine aF ?_ | refine aT ?_); (first | refine run Γ hm 400 ?_ | refine runD Γ hm 400 (by kernel_rfl) ?_); conv => whnf))
  (repeat' (first | (refine ⟨fun h => ?_, fun h => ?_⟩ <;> (repeat (first | (simp only [placeB] at h) | (simp only [decide_eq_true_eq] at h) | (simp only [decide_eq_false_iff_not] at h) | (simp only [beq_iff_eq] at h) | (simp only [beq_eq_false_iff_ne] at h) | (simp only [bne_iff_ne] at h) | (simp only [bne_eq_false_iff_eq] at h) | (simp only [Bool.and_eq_true] at h) | (simp only [Bool.or_eq_true] at h) | (simp only [Bool.and_eq_false_iff] at h) | (simp only [Bool.or_eq_false_iff] at h) | (simp only [Bool.not_eq_true'] at h) | (simp only [Bool.not_eq_false'] at h) | (simp only [Bool.not_eq_eq_eq_not] at h) | (simp only [Bool.not_true] at h) | (simp only [Bool.not_false] at h))) <;> ((first | refine run Γ hm 400 ?_ | refine runD Γ hm 400 (by kernel_rfl) ?_); (conv => whnf); repeat ((first | refine aF ?_ | refine aT ?_); (first | refine run Γ hm 400 ?_ | refine runD Γ hm 400 (by kernel_rfl) ?_); conv => whnf))) | (refine done0 rfl (.cons .tmp .nil) ?_ rfl) | (refine ⟨(by kernel_rfl), ?_⟩; ((conv => whnf); repeat ((first | refine aF ?_ | refine aT ?_); (first | refine run Γ hm 400 ?_ | refine runD Γ hm 400 (by kernel_rfl) ?_); conv => whnf))) | (refine ⟨by (first | (unfold I64; omega) | omega | (simp only [Int.toNat_natCast]; omega) | done), by (first | (unfold I64; omega) | omega | (simp only [Int.toNat_natCast]; omega) | done), ?_⟩; ((conv => whnf); repeat ((first | refine aF ?_ | refine aT ?_); (first | refine run Γ hm 400 ?_ | refine runD Γ hm 400 (by kernel_rfl) ?_); conv => whnf))) | (refine ⟨by (first | (unfold I64; omega) | omega | (simp only [Int.toNat_natCast]; omega) | done), ?_⟩; ((conv => whnf); repeat ((first | refine aF ?_ | refine aT ?_); (first | refine run Γ hm 400 ?_ | refine runD Γ hm 400 (by kernel_rfl) ?_); conv => whnf))) | (refine G_nextP [] hI (by omega) ?_ ⟨⟨rfl, rfl, rfl, rfl, rfl, rfl, rfl, rfl, trivial⟩, trivial, rfl, rfl⟩)))
  all_goals try (refine congrArg intSV ?_)
  · have hj2 : j < l.length := by omega
    rw [orI_skip hI, List.drop_eq_getElem_cons hj2, orI, if_neg (by simpa using h)]
    rfl
  · intro i hi hij
    rcases Nat.lt_or_ge i j with h1 | h1
    · exact hI i hi h1
    · have : i = j := by omega
      subst this
      simpa using h
  · rw [orI_skip hI, List.drop_of_length_le (by omega)]
    rfl

theorem orI_cmp (a b : Int) (l : List Int) : decide (orI (cmpI a b :: l) < 0) = if a ≠ b then decide (a < b) else decide (orI l < 0) := by
  rw [orI, cmpI]
  by_cases h1 : a < b
  · simp [h1, show a ≠ b by omega]
  · by_cases h2 : a > b
    · simp [h1, h2, show a ≠ b by omega]
    · simp [show a = b by omega]

structure Vec where
  (root cost bridge port own : Int)
def vecSV (v : Vec) : SV := .agg [intSV v.root, intSV v.cost, intSV v.bridge, intSV v.port, intSV v.own]
def lessV (a b : Vec) : Bool :=
  if a.root ≠ b.root then decide (a.root < b.root) else if a.cost ≠ b.cost then decide (a.cost < b.cost) else if a.bridge ≠ b.bridge then decide (a.bridge < b.bridge) else
    if a.port ≠ b.port then decide (a.port < b.port) else decide (a.own < b.own)

theorem lessS (a b : Vec) : Sy.Spec Tryz.prog 142 [vecSV a, vecSV b] [] (boolSV (lessV a b)) [] := contract Γ hm 100 F142 Tryz.ntmps142 rfl fun F hF => by
  ((conv => whnf); repeat ((first | refine aF ?_ | refine aT ?_); (first | refine run Γ hm 400 ?_ | refine runD Γ hm 400 (by kernel_rfl) ?_); conv => whnf))
  (repeat' (first | (refine ⟨fun h => ?_, fun h => ?_⟩ <;> (repeat (first | (simp only [placeB] at h) | (simp only [decide_eq_true_eq] at h) | (simp only [decide_eq_false_iff_not] at h) | (simp only [beq_iff_eq] at h) | (simp only [beq_eq_false_iff_ne] at h) | (simp only [bne_iff_ne] at h) | (simp only [bne_eq_false_iff_eq] at h) | (simp only [Bool.and_eq_true] at h) | (simp only [Bool.or_eq_true] at h) | (simp only [Bool.and_eq_false_iff] at h) | (simp only [Bool.or_eq_false_iff] at h) | (simp only [Bool.not_eq_true'] at h) | (simp only [Bool.not_eq_false'] at h) | (simp only [Bool.not_eq_eq_eq_not] at h) | (simp only [Bool.not_true] at h) | (simp only [Bool.not_false] at h))) <;> ((first | refine run Γ hm 400 ?_ | refine runD Γ hm 400 (by kernel_rfl) ?_); (conv => whnf); repeat ((first | refine aF ?_ | refine aT ?_); (first | refine run Γ hm 400 ?_ | refine runD Γ hm 400 (by kernel_rfl) ?_); conv => whnf))) | (refine done0 rfl (.cons .tmp .nil) ?_ rfl) | (refine ⟨(by kernel_rfl), ?_⟩; ((conv => whnf); repeat ((first | refine aF ?_ | refine aT ?_); (first | refine run Γ hm 400 ?_ | refine runD Γ hm 400 (by kernel_rfl) ?_); conv => whnf))) | (refine ⟨by (first | (unfold I64; omega) | omega | (simp only [Int.toNat_natCast]; omega) | done), by (first | (unfold I64; omega) | omega | (simp only [Int.toNat_natCast]; omega) | done), ?_⟩; ((conv => whnf); repeat ((first | refine aF ?_ | refine aT ?_); (first | refine run Γ hm 400 ?_ | refine runD Γ hm 400 (by kernel_rfl) ?_); conv => whnf))) | (refine ⟨by (first | (unfold I64; omega) | omega | (simp only [Int.toNat_natCast]; omega) | done), ?_⟩; ((conv => whnf); repeat ((first | refine aF ?_ | refine aT ?_); (first | refine run Γ hm 400 ?_ | refine runD Γ hm 400 (by kernel_rfl) ?_); conv => whnf))) | (refine call0 (compareIntS a.root b.root) F70 rfl rfl rfl rfl rfl ?_; ((first | refine run Γ hm 400 ?_ | refine runD Γ hm 400 (by kernel_rfl) ?_); (conv => whnf); repeat ((first | refine aF ?_ | refine aT ?_); (first | refine run Γ hm 400 ?_ | refine runD Γ hm 400 (by kernel_rfl) ?_); conv => whnf))) | (refine callD0 (compareIntS a.root b.root) F70 rfl rfl rfl (by kernel_rfl) rfl ?_; ((first | refine run Γ hm 400 ?_ | refine runD Γ hm 400 (by kernel_rfl) ?_); (conv => whnf); repeat ((first | refine aF ?_ | refine aT ?_); (first | refine run Γ hm 400 ?_ | refine runD Γ hm 400 (by kernel_rfl) ?_); conv => whnf))) | (refine call0 (compareIntS a.cost b.cost) F70 rfl rfl rfl rfl rfl ?_; ((first | refine run Γ hm 400 ?_ | refine runD Γ hm 400 (by kernel_rfl) ?_); (conv => whnf); repeat ((first | refine aF ?_ | refine aT ?_); (first | refine run Γ hm 400 ?_ | refine runD Γ hm 400 (by kernel_rfl) ?_); conv => whnf))) | (refine callD0 (compareIntS a.cost b.cost) F70 rfl rfl rfl (by kernel_rfl) rfl ?_; ((first | refine run Γ hm 400 ?_ | refine runD Γ hm 400 (by kernel_rfl) ?_); (conv => whnf); repeat ((first | refine aF ?_ | refine aT ?_); (first | refine run Γ hm 400 ?_ | refine runD Γ hm 400 (by kernel_rfl) ?_); conv => whnf))) | (refine call0 (compareIntS a.bridge b.bridge) F70 rfl rfl rfl rfl rfl ?_; ((first | refine run Γ hm 400 ?_ | refine runD Γ hm 400 (by kernel_rfl) ?_); (conv => whnf); repeat ((first | refine aF ?_ | refine aT ?_); (first | refine run Γ hm 400 ?_ | refine runD Γ hm 400 (by kernel_rfl) ?_); conv => whnf))) | (refine callD0 (compareIntS a.bridge b.bridge) F70 rfl rfl rfl (by kernel_rfl) rfl ?_; ((first | refine run Γ hm 400 ?_ | refine runD Γ hm 400 (by kernel_rfl) ?_); (conv => whnf); repeat ((first | refine aF ?_ | refine aT ?_); (first | refine run Γ hm 400 ?_ | refine runD Γ hm 400 (by kernel_rfl) ?_); conv => whnf))) | (refine call0 (compareIntS a.port b.port) F70 rfl rfl rfl rfl rfl ?_; ((first | refine run Γ hm 400 ?_ | refine runD Γ hm 400 (by kernel_rfl) ?_); (conv => whnf); repeat ((first | refine aF ?_ | refine aT ?_); (first | refine run Γ hm 400 ?_ | refine runD Γ hm 400 (by kernel_rfl) ?_); conv => whnf))) | (refine callD0 (compareIntS a.port b.port) F70 rfl rfl rfl (by kernel_rfl) rfl ?_; ((first | refine run Γ hm 400 ?_ | refine runD Γ hm 400 (by kernel_rfl) ?_); (conv => whnf); repeat ((first | refine aF ?_ | refine aT ?_); (first | refine run Γ hm 400 ?_ | refine runD Γ hm 400 (by kernel_rfl) ?_); conv => whnf))) | (refine call0 (compareIntS a.own b.own) F70 rfl rfl rfl rfl rfl ?_; ((first | refine run Γ hm 400 ?_ | refine runD Γ hm 400 (by kernel_rfl) ?_); (conv => whnf); repeat ((first | refine aF ?_ | refine aT ?_); (first | refine run Γ hm 400 ?_ | refine runD Γ hm 400 (by kernel_rfl) ?_); conv => whnf))) | (refine callD0 (compareIntS a.own b.own) F70 rfl rfl rfl (by kernel_rfl) rfl ?_; ((first | refine run Γ hm 400 ?_ | refine runD Γ hm 400 (by kernel_rfl) ?_); (conv => whnf); repeat ((first | refine aF ?_ | refine aT ?_); (first | refine run Γ hm 400 ?_ | refine runD Γ hm 400 (by kernel_rfl) ?_); conv => whnf))) | (refine callDK [33] (orS [cmpI a.root b.root, cmpI a.cost b.cost, cmpI a.bridge b.bridge, cmpI a.port b.port, cmpI a.own b.own] (by simp [Short])) F68 rfl (.cons (.lit rfl rfl rfl) .nil) rfl (by kernel_rfl) rfl ?_; ((first | refine run Γ hm 400 ?_ | refine runD Γ hm 400 (by kernel_rfl) ?_); (conv => whnf); repeat ((first | refine aF ?_ | refine aT ?_); (first | refine run Γ hm 400 ?_ | refine runD Γ hm 400 (by kernel_rfl) ?_); conv => whnf)))))
  all_goals (refine congrArg boolSV ?_; clear hF)
  · grind [lessV]
  · rw [orI_cmp, orI_cmp, orI_cmp, orI_cmp, orI_cmp, lessV]
    by_cases h1 : a.own = b.own
    · simp [h1, orI]
    · simp [h1]
end Go.Sy.YthbgklhegccckaaGreat

namespace Go.Sy.YthbgklhegccckaaGreat
open Go.Proofs
-- SIMP: placeB

attribute [local irreducible] Go.Sy.G Go.Sy.DR
set_option maxRecDepth 20000
set_option maxHeartbeats 4000000

/-- Put into a list that is sorted from its end on. -/
def insR (lt : Int → Int → Bool) (x : Int) : List Int → List Int
  | [] => [x]
  | y :: r => if lt x y then y :: insR lt x r else x :: y :: r
def isortR (lt : Int → Int → Bool) (l : List Int) : List Int := l.foldl (fun r x => insR lt x r) []
def isort (lt : Int → Int → Bool) (l : List Int) : List Int := (isortR lt l).reverse

theorem insR_perm (lt : Int → Int → Bool) (x : Int) : ∀ r, (insR lt x r).Perm (x :: r)
  | [] => .refl _
  | y :: r => by
    rw [insR]
    split
    · exact ((insR_perm lt x r).cons y).trans (.swap x y r)
    · exact .refl _
theorem foldl_insR_perm (lt : Int → Int → Bool) : ∀ (l r : List Int), (l.foldl (fun r x => insR lt x r) r).Perm (l ++ r)
  | [], r => .refl _
  | x :: l, r => by
    rw [List.foldl_cons]
    refine (foldl_insR_perm lt l _).trans ?_
    refine ((insR_perm lt x r).append_left l).trans ?_
    simp
theorem isortR_perm (lt : Int → Int → Bool) (l : List Int) : (isortR lt l).Perm l := by
  have := foldl_insR_perm lt l []
  simpa [isortR] using this
theorem isort_perm (lt : Int → Int → Bool) (l : List Int) : (isort lt l).Perm l := (List.reverse_perm _).trans (isortR_perm lt l)

theorem isortR_take (lt : Int → Int → Bool) (l : List Int) (i : Nat) (h : i < l.length) : isortR lt (l.take (i + 1)) = insR lt l[i] (isortR lt (l.take i)) := by
  rw [List.take_succ_eq_append_getElem h, isortR, List.foldl_append]
  rfl

theorem swap_eq (A B : List Int) (x y : Int) : ((A.reverse ++ y :: x :: B).set (A.length + 1) y).set A.length x = A.reverse ++ x :: y :: B := by
  rw [List.set_append_right _ _ (by simp), List.set_append_right _ _ (by simp)]
  simp

mutual
theorem inn_nil {K : List Nat} : ∀ x : SV, x.inn [] = true → x.inn K = true
  | .ptr _ _, h => by simp [SV.inn, memN] at h
  | .rpt _ _ _ _, h => by simp [SV.inn, memN] at h
  | .osl _, h => by simp [SV.inn, memN] at h
  | .agg l, h => by simp only [SV.inn] at h ⊢; exact innL_nil l h
  | .tup l, h => by simp only [SV.inn] at h ⊢; exact innL_nil l h
  | .ifc _ x, h => by simp only [SV.inn] at h ⊢; exact inn_nil x h
  | .clo _ f l, h => by simp only [SV.inn, Bool.and_eq_true] at h ⊢; exact ⟨innL_nil f h.1, innL_nil l h.2⟩
  | .top, _ => rfl
  | .val _, _ => rfl
  | .sl _ _ _, _ => rfl
  | .ref _ _ _, _ => rfl
theorem innL_nil {K : List Nat} : ∀ l : List SV, innL [] l = true → innL K l = true
  | [], _ => rfl
  | x :: l, h => by simp only [innL, Bool.and_eq_true] at h ⊢; exact ⟨inn_nil x h.1, innL_nil l h.2⟩
end

theorem insertionSortS (l : List Int) (c : Int → Int → Int) (Q : Int → Prop) (f : FuncId) (first cap : List SV) (hc : (SV.clo (.func f) first cap).inn [] = true) (hf : ∀ a b, Q a → Q b → FunS Tryz.prog f (first ++ [intSV a, intSV b] ++ cap) (intSV (c a b))) (hQ : ∀ a ∈ l, Q a) (hl : Short l) :
    Sy.Spec Tryz.prog 153 [.osl 0, intSV 0, intSV l.length, .clo (.func f) first cap] [(0, .row 1 intSV l)] (.tup []) [(0, .row 1 intSV (isort (fun a b => decide (c a b < 0)) l))] := contract Γ hm 100 F153 Tryz.ntmps153 rfl fun F hF => by
  unfold Short at hl
  have hin : ∀ x y : Int, innL [] (first ++ [intSV x, intSV y] ++ cap) = true := fun x y => clo_inn hc rfl
  have hc' : (SV.clo (.func f) first cap).inn [0] = true := inn_nil _ hc
  generalize hlt : (fun a b => decide (c a b < 0)) = lt
  ((conv => whnf); repeat ((first | refine aF ?_ | refine aT ?_); (first | refine run Γ hm 400 ?_ | refine runD Γ hm 400 (by kernel_rfl) ?_); conv => whnf))
  (repeat' (first | (refine ⟨fun h => ?_, fun h => ?_⟩ <;> (repeat (first | (simp only [placeB] at h) | (simp only [decide_eq_true_eq] at h) | (simp only [decide_eq_false_iff_not] at h) | (simp only [beq_iff_eq] at h) | (simp only [beq_eq_false_iff_ne] at h) | (simp only [bne_iff_ne] at h) | (simp only [bne_eq_false_iff_eq] at h) | (simp only [Bool.and_eq_true] at h) | (simp only [Bool.or_eq_true] at h) | (simp only [Bool.and_eq_false_iff] at h) | (simp only [Bool.or_eq_false_iff] at h) | (simp only [Bool.not_eq_true'] at h) | (simp only [Bool.not_eq_false'] at h) | (simp only [Bool.not_eq_eq_eq_not] at h) | (simp only [Bool.not_true] at h) | (simp only [Bool.not_false] at h))) <;> ((first | refine run Γ hm 400 ?_ | refine runD Γ hm 400 (by kernel_rfl) ?_); (conv => whnf); repeat ((first | refine aF ?_ | refine aT ?_); (first | refine run Γ hm 400 ?_ | refine runD Γ hm 400 (by kernel_rfl) ?_); conv => whnf))) | (refine done0 rfl (.cons .tmp .nil) ?_ rfl) | (refine ⟨(by kernel_rfl), ?_⟩; ((conv => whnf); repeat ((first | refine aF ?_ | refine aT ?_); (first | refine run Γ hm 400 ?_ | refine runD Γ hm 400 (by kernel_rfl) ?_); conv => whnf))) | (refine ⟨by (first | (unfold I64; omega) | omega | (simp only [Int.toNat_natCast]; omega) | done), by (first | (unfold I64; omega) | omega | (simp only [Int.toNat_natCast]; omega) | done), ?_⟩; ((conv => whnf); repeat ((first | refine aF ?_ | refine aT ?_); (first | refine run Γ hm 400 ?_ | refine runD Γ hm 400 (by kernel_rfl) ?_); conv => whnf))) | (refine ⟨by (first | (unfold I64; omega) | omega | (simp only [Int.toNat_natCast]; omega) | done), ?_⟩; ((conv => whnf); repeat ((first | refine aF ?_ | refine aT ?_); (first | refine run Γ hm 400 ?_ | refine runD Γ hm 400 (by kernel_rfl) ?_); conv => whnf)))))
  refine G_countP l.length (fun _ => True) (fun j => [(0, .osl 0), (1, intSV 0), (2, intSV l.length), (3, .clo (.func f) first cap), (8, intSV ((j : Int) + 1))]) (fun j => [(0, .row 1 intSV ((isortR lt (l.take (j + 1))).reverse ++ l.drop (j + 1)))]) [] trivial ⟨⟨rfl, rfl, rfl, rfl, rfl, rfl, ren_id _, hc', rfl, rfl, trivial⟩, ⟨.inl (congrArg (Ob.row 1 intSV) ?_), rfl, trivial⟩, rfl, rfl⟩ ?_
  · cases l with
    | nil => rfl
    | cons a l => simp [isortR, insR]
  intro j hj _
  ((first | refine run Γ hm 400 ?_ | refine runD Γ hm 400 (by kernel_rfl) ?_); (conv => whnf); repeat ((first | refine aF ?_ | refine aT ?_); (first | refine run Γ hm 400 ?_ | refine runD Γ hm 400 (by kernel_rfl) ?_); conv => whnf))
  refine ⟨fun h => ?_, fun h => ?_⟩
  · have hjl : j + 1 < l.length := by have := of_decide_eq_true h; omega
    have hdrop : l.drop (j + 1) = l[j + 1] :: l.drop (j + 1 + 1) := List.drop_eq_getElem_cons hjl
    have htake := isortR_take lt l (j + 1) hjl
    have hr : (isortR lt (l.take (j + 1))).length = j + 1 := by rw [(isortR_perm lt _).length_eq]; simp; omega
    have hQx : Q l[j + 1] := hQ _ (List.getElem_mem hjl)
    have hQr : ∀ z ∈ isortR lt (l.take (j + 1)), Q z := fun z hz => hQ z (List.mem_of_mem_take ((isortR_perm lt _).mem_iff.1 hz))
    rw [hdrop]
    generalize l[j + 1] = x at htake hQx
    generalize isortR lt (l.take (j + 1)) = r at htake hr hQr
    generalize hR : l.drop (j + 1 + 1) = R at *
    ((first | refine run Γ hm 400 ?_ | refine runD Γ hm 400 (by kernel_rfl) ?_); (conv => whnf); repeat ((first | refine aF ?_ | refine aT ?_); (first | refine run Γ hm 400 ?_ | refine runD Γ hm 400 (by kernel_rfl) ?_); conv => whnf))
    refine G_loop (α := {p : List Int × List Int // insR lt x r = p.2.reverse ++ insR lt x p.1 ∧ p.1.length + p.2.length = j + 1 ∧ ∀ z ∈ p.1, Q z}) (fun p => [(0, .osl 0), (1, intSV 0), (2, intSV l.length), (3, .clo (.func f) first cap), (8, intSV ((j : Int) + 1)), (9, intSV p.1.1.length)]) (fun p => [(0, .row 1 intSV (p.1.1.reverse ++ x :: (p.1.2 ++ R)))]) (fun p => p.1.1.length) ⟨(r, []), by simp, by simpa using hr, hQr⟩ []
      ⟨⟨rfl, rfl, rfl, rfl, rfl, rfl, ren_id _, hc', rfl, rfl, congrArg intSV (by rw [hr]; omega), rfl, trivial⟩, ⟨.inl rfl, rfl, trivial⟩, rfl, rfl⟩ ?_
    rintro ⟨⟨A, B⟩, hp1, hp2, hp3⟩
    simp only at hp1 hp2 hp3
    dsimp only
    cases A with
    | nil =>
      simp only [insR] at hp1
      ((first | refine run Γ hm 400 ?_ | refine runD Γ hm 400 (by kernel_rfl) ?_); (conv => whnf); repeat ((first | refine aF ?_ | refine aT ?_); (first | refine run Γ hm 400 ?_ | refine runD Γ hm 400 (by kernel_rfl) ?_); conv => whnf))
      refine ⟨(by kernel_rfl), ?_⟩
      ((conv => whnf); repeat ((first | refine aF ?_ | refine aT ?_); (first | refine run Γ hm 400 ?_ | refine runD Γ hm 400 (by kernel_rfl) ?_); conv => whnf))
      refine ⟨by unfold I64; omega, ?_⟩
      ((conv => whnf); repeat ((first | refine aF ?_ | refine aT ?_); (first | refine run Γ hm 400 ?_ | refine runD Γ hm 400 (by kernel_rfl) ?_); conv => whnf))
      refine G_nextP [] trivial (by omega) trivial ⟨⟨rfl, rfl, rfl, rfl, rfl, rfl, ren_id _, hc', congrArg intSV (by omega), rfl, trivial⟩, ⟨.inl (congrArg (Ob.row 1 intSV) ?_), rfl, trivial⟩, rfl, rfl⟩
      show (isortR lt (l.take (j + 1 + 1))).reverse ++ l.drop (j + 1 + 1) = [].reverse ++ x :: (B ++ R)
      rw [htake, hp1, hR]
      simp
    | cons y A =>
      have hQy := hp3 y (by simp)
      ((first | refine run Γ hm 400 ?_ | refine runD Γ hm 400 (by kernel_rfl) ?_); (conv => whnf); repeat ((first | refine aF ?_ | refine aT ?_); (first | refine run Γ hm 400 ?_ | refine runD Γ hm 400 (by kernel_rfl) ?_); conv => whnf))
      refine ⟨fun _ => ?_, fun h => absurd (of_decide_eq_false h) (by simp)⟩
      ((first | refine run Γ hm 400 ?_ | refine runD Γ hm 400 (by kernel_rfl) ?_); (conv => whnf); repeat ((first | refine aF ?_ | refine aT ?_); (first | refine run Γ hm 400 ?_ | refine runD Γ hm 400 (by kernel_rfl) ?_); conv => whnf))
      have e1 : ((y :: A).reverse ++ x :: (B ++ R))[(((y :: A).length : Nat) : Int).toNat]'(by simp) = x := by simp
      have e2 : ((y :: A).reverse ++ x :: (B ++ R))[((((y :: A).length : Nat) : Int) - 1).toNat]'(by simp) = y := by simp
      refine ⟨by omega, by simp, ?_⟩
      ((conv => whnf); repeat ((first | refine aF ?_ | refine aT ?_); (first | refine run Γ hm 400 ?_ | refine runD Γ hm 400 (by kernel_rfl) ?_); conv => whnf))
      refine ⟨rfl, by simp, ?_⟩
      rw [e1]
      ((conv => whnf); repeat ((first | refine aF ?_ | refine aT ?_); (first | refine run Γ hm 400 ?_ | refine runD Γ hm 400 (by kernel_rfl) ?_); conv => whnf))
      refine ⟨by unfold I64; simp at hp2; simp; omega, ?_⟩
      ((conv => whnf); repeat ((first | refine aF ?_ | refine aT ?_); (first | refine run Γ hm 400 ?_ | refine runD Γ hm 400 (by kernel_rfl) ?_); conv => whnf))
      refine ⟨by simp, by simp, ?_⟩
      ((conv => whnf); repeat ((first | refine aF ?_ | refine aT ?_); (first | refine run Γ hm 400 ?_ | refine runD Γ hm 400 (by kernel_rfl) ?_); conv => whnf))
      refine ⟨rfl, by simp, ?_⟩
      rw [e2]
      ((conv => whnf); repeat ((first | refine aF ?_ | refine aT ?_); (first | refine run Γ hm 400 ?_ | refine runD Γ hm 400 (by kernel_rfl) ?_); conv => whnf))
      refine callDC (hf x y hQx hQy) rfl rfl rfl (by simp only [hin]; rfl) (by kernel_rfl) rfl ?_
      ((first | refine run Γ hm 400 ?_ | refine runD Γ hm 400 (by kernel_rfl) ?_); (conv => whnf); repeat ((first | refine aF ?_ | refine aT ?_); (first | refine run Γ hm 400 ?_ | refine runD Γ hm 400 (by kernel_rfl) ?_); conv => whnf))
      refine ⟨(by kernel_rfl), ?_⟩
      ((conv => whnf); repeat ((first | refine aF ?_ | refine aT ?_); (first | refine run Γ hm 400 ?_ | refine runD Γ hm 400 (by kernel_rfl) ?_); conv => whnf))
      refine ⟨fun h2 => ?_, fun h2 => ?_⟩
      · ((first | refine run Γ hm 400 ?_ | refine runD Γ hm 400 (by kernel_rfl) ?_); (conv => whnf); repeat ((first | refine aF ?_ | refine aT ?_); (first | refine run Γ hm 400 ?_ | refine runD Γ hm 400 (by kernel_rfl) ?_); conv => whnf))
        refine ⟨by unfold I64; simp at hp2; simp; omega, ?_⟩
        ((conv => whnf); repeat ((first | refine aF ?_ | refine aT ?_); (first | refine run Γ hm 400 ?_ | refine runD Γ hm 400 (by kernel_rfl) ?_); conv => whnf))
        refine ⟨by unfold I64; simp at hp2; simp; omega, ?_⟩
        ((conv => whnf); repeat ((first | refine aF ?_ | refine aT ?_); (first | refine run Γ hm 400 ?_ | refine runD Γ hm 400 (by kernel_rfl) ?_); conv => whnf))
        refine ⟨by simp, by simp, ?_⟩
        ((conv => whnf); repeat ((first | refine aF ?_ | refine aT ?_); (first | refine run Γ hm 400 ?_ | refine runD Γ hm 400 (by kernel_rfl) ?_); conv => whnf))
        refine ⟨rfl, by simp, ?_⟩
        rw [e2]
        ((conv => whnf); repeat ((first | refine aF ?_ | refine aT ?_); (first | refine run Γ hm 400 ?_ | refine runD Γ hm 400 (by kernel_rfl) ?_); conv => whnf))
        refine ⟨by omega, by simp, ?_⟩
        ((conv => whnf); repeat ((first | refine aF ?_ | refine aT ?_); (first | refine run Γ hm 400 ?_ | refine runD Γ hm 400 (by kernel_rfl) ?_); conv => whnf))
        refine ⟨rfl, by simp, ?_⟩
        rw [e1]
        ((conv => whnf); repeat ((first | refine aF ?_ | refine aT ?_); (first | refine run Γ hm 400 ?_ | refine runD Γ hm 400 (by kernel_rfl) ?_); conv => whnf))
        refine ⟨by omega, by simp, ?_⟩
        ((conv => whnf); repeat ((first | refine aF ?_ | refine aT ?_); (first | refine run Γ hm 400 ?_ | refine runD Γ hm 400 (by kernel_rfl) ?_); conv => whnf))
        refine ⟨rfl, by simp, y, rfl, rfl, ?_⟩
        ((conv => whnf); repeat ((first | refine aF ?_ | refine aT ?_); (first | refine run Γ hm 400 ?_ | refine runD Γ hm 400 (by kernel_rfl) ?_); conv => whnf))
        refine ⟨by simp, by simp, ?_⟩
        ((conv => whnf); repeat ((first | refine aF ?_ | refine aT ?_); (first | refine run Γ hm 400 ?_ | refine runD Γ hm 400 (by kernel_rfl) ?_); conv => whnf))
        refine ⟨rfl, by simp, x, rfl, rfl, ?_⟩
        ((conv => whnf); repeat ((first | refine aF ?_ | refine aT ?_); (first | refine run Γ hm 400 ?_ | refine runD Γ hm 400 (by kernel_rfl) ?_); conv => whnf))
        refine ⟨(by kernel_rfl), ?_⟩
        ((conv => whnf); repeat ((first | refine aF ?_ | refine aT ?_); (first | refine run Γ hm 400 ?_ | refine runD Γ hm 400 (by kernel_rfl) ?_); conv => whnf))
        refine ⟨by unfold I64; simp at hp2; simp; omega, ?_⟩
        ((conv => whnf); repeat ((first | refine aF ?_ | refine aT ?_); (first | refine run Γ hm 400 ?_ | refine runD Γ hm 400 (by kernel_rfl) ?_); conv => whnf))
        have hxy : lt x y = true := by rw [← hlt]; exact h2
        refine G_inv (α := {p : List Int × List Int // insR lt x r = p.2.reverse ++ insR lt x p.1 ∧ p.1.length + p.2.length = j + 1 ∧ ∀ z ∈ p.1, Q z}) (L := fun p => [(0, .osl 0), (1, intSV 0), (2, intSV l.length), (3, .clo (.func f) first cap), (8, intSV ((j : Int) + 1)), (9, intSV p.1.1.length)]) (O := fun p => [(0, .row 1 intSV (p.1.1.reverse ++ x :: (p.1.2 ++ R)))]) (μ := fun p => p.1.1.length) (x := ⟨(y :: A, B), hp1, hp2, hp3⟩)
          ⟨(A, y :: B), by simp only [hp1, insR, hxy, if_true]; simp, by simp at hp2 ⊢; omega, fun z hz => hp3 z (by simp [hz])⟩ [] (by simp)
          ⟨⟨rfl, rfl, rfl, rfl, rfl, rfl, ren_id _, hc', rfl, rfl, congrArg intSV (by simp), rfl, trivial⟩, ⟨.inl (congrArg (Ob.row 1 intSV) ?_), rfl, trivial⟩, rfl, rfl⟩
        simp
      · ((first | refine run Γ hm 400 ?_ | refine runD Γ hm 400 (by kernel_rfl) ?_); (conv => whnf); repeat ((first | refine aF ?_ | refine aT ?_); (first | refine run Γ hm 400 ?_ | refine runD Γ hm 400 (by kernel_rfl) ?_); conv => whnf))
        have hxy : lt x y = false := by rw [← hlt]; exact h2
        refine ⟨by unfold I64; omega, ?_⟩
        ((conv => whnf); repeat ((first | refine aF ?_ | refine aT ?_); (first | refine run Γ hm 400 ?_ | refine runD Γ hm 400 (by kernel_rfl) ?_); conv => whnf))
        refine G_nextP [] trivial (by omega) trivial ⟨⟨rfl, rfl, rfl, rfl, rfl, rfl, ren_id _, hc', congrArg intSV (by omega), rfl, trivial⟩, ⟨.inl (congrArg (Ob.row 1 intSV) ?_), rfl, trivial⟩, rfl, rfl⟩
        show (isortR lt (l.take (j + 1 + 1))).reverse ++ l.drop (j + 1 + 1) = (y :: A).reverse ++ x :: (B ++ R)
        rw [htake, hp1, hR, insR, hxy]
        simp
  · have h := of_decide_eq_false h
    have e : (isortR lt (l.take (j + 1))).reverse ++ l.drop (j + 1) = isort lt l := by
      rw [List.take_of_length_le (by omega), List.drop_of_length_le (by omega), List.append_nil]
      rfl
    rw [e]
    ((first | refine run Γ hm 400 ?_ | refine runD Γ hm 400 (by kernel_rfl) ?_); (conv => whnf); repeat ((first | refine aF ?_ | refine aT ?_); (first | refine run Γ hm 400 ?_ | refine runD Γ hm 400 (by kernel_rfl) ?_); conv => whnf))
    exact done_end rfl .nil [] [(0, .row 1 intSV (isort lt l))] (fun _ h => h) rfl rfl ⟨trivial, ⟨.inl rfl, rfl, trivial⟩, rfl, rfl⟩

theorem stableS (l : List Int) (c : Int → Int → Int) (Q : Int → Prop) (f : FuncId) (first cap : List SV) (hc : (SV.clo (.func f) first cap).inn [] = true) (hf : ∀ a b, Q a → Q b → FunS Tryz.prog f (first ++ [intSV a, intSV b] ++ cap) (intSV (c a b))) (hQ : ∀ a ∈ l, Q a) (hl : l.length < 20) :
    Sy.Spec Tryz.prog 139 [.osl 0, intSV l.length, .clo (.func f) first cap] [(0, .row 1 intSV l)] (.tup []) [(0, .row 1 intSV (isort (fun a b => decide (c a b < 0)) l))] := contract Γ hm 100 F139 Tryz.ntmps139 rfl fun F hF => by
  have hc' : (SV.clo (.func f) first cap).inn [0] = true := inn_nil _ hc
  have hins := insertionSortS l c Q f first cap hc hf hQ (by unfold Short; omega)
  generalize isort (fun a b => decide (c a b < 0)) l = l' at hins
  ((conv => whnf); repeat ((first | refine aF ?_ | refine aT ?_); (first | refine run Γ hm 400 ?_ | refine runD Γ hm 400 (by kernel_rfl) ?_); conv => whnf))
  refine G_count 0 (fun j => [(0, .osl 0), (1, intSV l.length), (2, .clo (.func f) first cap), (6, intSV 20), (7, intSV 0), (8, intSV 20)]) (fun _ => [(0, .row 1 intSV l)]) [] ⟨⟨rfl, rfl, rfl, rfl, ren_id _, hc', rfl, rfl, rfl, rfl, rfl, rfl, trivial⟩, ⟨.inl rfl, rfl, trivial⟩, rfl, rfl⟩ ?_
  intro j hj
  ((first | refine run Γ hm 400 ?_ | refine runD Γ hm 400 (by kernel_rfl) ?_); (conv => whnf); repeat ((first | refine aF ?_ | refine aT ?_); (first | refine run Γ hm 400 ?_ | refine runD Γ hm 400 (by kernel_rfl) ?_); conv => whnf))
  refine ⟨fun h => absurd (of_decide_eq_true h) (by omega), fun _ => ?_⟩
  ((first | refine run Γ hm 400 ?_ | refine runD Γ hm 400 (by kernel_rfl) ?_); (conv => whnf); repeat ((first | refine aF ?_ | refine aT ?_); (first | refine run Γ hm 400 ?_ | refine runD Γ hm 400 (by kernel_rfl) ?_); conv => whnf))
  refine stepOp (good_call [] rfl F153 hins (renL_id _) ⟨rfl, trivial⟩ (by
    have h0 : innL [0] [.osl 0, intSV 0, intSV l.length, .clo (.func f) first cap] = true := by simp only [innL, hc']; rfl
    simp only [callOK, Obs.keys, List.map_cons, List.map_nil, h0]; rfl) ⟨.inl rfl, trivial⟩) rfl rfl ?_
  ((first | refine run Γ hm 400 ?_ | refine runD Γ hm 400 (by kernel_rfl) ?_); (conv => whnf); repeat ((first | refine aF ?_ | refine aT ?_); (first | refine run Γ hm 400 ?_ | refine runD Γ hm 400 (by kernel_rfl) ?_); conv => whnf))
  refine G_count 0 (fun j => [(1, intSV l.length), (6, intSV 20)]) (fun _ => [(0, .row 1 intSV l')]) [] ⟨⟨rfl, rfl, rfl, rfl, trivial⟩, ⟨.inl rfl, rfl, trivial⟩, rfl, rfl⟩ ?_
  clear hj
  intro j hj
  ((first | refine run Γ hm 400 ?_ | refine runD Γ hm 400 (by kernel_rfl) ?_); (conv => whnf); repeat ((first | refine aF ?_ | refine aT ?_); (first | refine run Γ hm 400 ?_ | refine runD Γ hm 400 (by kernel_rfl) ?_); conv => whnf))
  refine ⟨fun h => absurd (of_decide_eq_true h) (by omega), fun _ => ?_⟩
  ((first | refine run Γ hm 400 ?_ | refine runD Γ hm 400 (by kernel_rfl) ?_); (conv => whnf); repeat ((first | refine aF ?_ | refine aT ?_); (first | refine run Γ hm 400 ?_ | refine runD Γ hm 400 (by kernel_rfl) ?_); conv => whnf))
  exact done_end rfl .nil [] [(0, .row 1 intSV l')] (fun _ h => h) rfl rfl ⟨trivial, ⟨.inl rfl, rfl, trivial⟩, rfl, rfl⟩

theorem sortStableS (l : List Int) (c : Int → Int → Int) (Q : Int → Prop) (f : FuncId) (first cap : List SV) (hc : (SV.clo (.func f) first cap).inn [] = true) (hf : ∀ a b, Q a → Q b → FunS Tryz.prog f (first ++ [intSV a, intSV b] ++ cap) (intSV (c a b))) (hQ : ∀ a ∈ l, Q a) (hl : l.length < 20) :
    Sy.Spec Tryz.prog 108 [.osl 0, .clo (.func f) first cap] [(0, .row 1 intSV l)] (.tup []) [(0, .row 1 intSV (isort (fun a b => decide (c a b < 0)) l))] := contract Γ hm 100 F108 Tryz.ntmps108 rfl fun F hF => by
  have hc' : (SV.clo (.func f) first cap).inn [0] = true := inn_nil _ hc
  have hst := stableS l c Q f first cap hc hf hQ hl
  generalize isort (fun a b => decide (c a b < 0)) l = l' at hst
  ((conv => whnf); repeat ((first | refine aF ?_ | refine aT ?_); (first | refine run Γ hm 400 ?_ | refine runD Γ hm 400 (by kernel_rfl) ?_); conv => whnf))
  refine stepOp (good_call [] rfl F139 hst (renL_id _) ⟨rfl, trivial⟩ (by
    have h0 : innL [0] [.osl 0, intSV l.length, .clo (.func f) first cap] = true := by simp only [innL, hc']; rfl
    simp only [callOK, Obs.keys, List.map_cons, List.map_nil, h0]; rfl) ⟨.inl rfl, trivial⟩) rfl rfl ?_
  ((first | refine run Γ hm 400 ?_ | refine runD Γ hm 400 (by kernel_rfl) ?_); (conv => whnf); repeat ((first | refine aF ?_ | refine aT ?_); (first | refine run Γ hm 400 ?_ | refine runD Γ hm 400 (by kernel_rfl) ?_); conv => whnf))
  exact done_end rfl .nil [] [(0, .row 1 intSV l')] (fun _ h => h) rfl rfl ⟨trivial, ⟨.inl rfl, rfl, trivial⟩, rfl, rfl⟩
end Go.Sy.YthbgklhegccckaaGreat

namespace Go.Sy.YthbgklhegccckaaGreat
open Go.Proofs
-- SIMP: placeB

attribute [local irreducible] Go.Sy.G Go.Sy.DR
set_option maxRecDepth 20000
set_option maxHeartbeats 4000000

def keyC (n : Net) (a b : Int) : Int := orI [cmpI (nth n.devices a).prio (nth n.devices b).prio, cmpI (nth n.devices a).mac (nth n.devices b).mac]

theorem ranks1 (n : Net) (a b : Int) (ha : 0 ≤ a ∧ a < n.devices.length) (hb : 0 ≤ b ∧ b < n.devices.length) : Sy.Spec Tryz.prog 109 [intSV a, intSV b, .ref 8 (netSV n) 0] [] (intSV (keyC n a b)) [] := contract Γ hm 100 F109 Tryz.ntmps109 rfl fun F hF => by
  have e1 : keyC n a b = orI [cmpI (n.devices[a.toNat]'(by omega)).prio (n.devices[b.toNat]'(by omega)).prio, cmpI (n.devices[a.toNat]'(by omega)).mac (n.devices[b.toNat]'(by omega)).mac] := by
    rw [keyC, nth_eq (by omega), nth_eq (by omega)]
  rw [e1]
  ((conv => whnf); repeat ((first | refine aF ?_ | refine aT ?_); (first | refine run Γ hm 400 ?_ | refine runD Γ hm 400 (by kernel_rfl) ?_); conv => whnf))
  (repeat' (first | (refine ⟨fun h => ?_, fun h => ?_⟩ <;> (repeat (first | (simp only [placeB] at h) | (simp only [decide_eq_true_eq] at h) | (simp only [decide_eq_false_iff_not] at h) | (simp only [beq_iff_eq] at h) | (simp only [beq_eq_false_iff_ne] at h) | (simp only [bne_iff_ne] at h) | (simp only [bne_eq_false_iff_eq] at h) | (simp only [Bool.and_eq_true] at h) | (simp only [Bool.or_eq_true] at h) | (simp only [Bool.and_eq_false_iff] at h) | (simp only [Bool.or_eq_false_iff] at h) | (simp only [Bool.not_eq_true'] at h) | (simp only [Bool.not_eq_false'] at h) | (simp only [Bool.not_eq_eq_eq_not] at h) | (simp only [Bool.not_true] at h) | (simp only [Bool.not_false] at h))) <;> ((first | refine run Γ hm 400 ?_ | refine runD Γ hm 400 (by kernel_rfl) ?_); (conv => whnf); repeat ((first | refine aF ?_ | refine aT ?_); (first | refine run Γ hm 400 ?_ | refine runD Γ hm 400 (by kernel_rfl) ?_); conv => whnf))) | (refine done0 rfl (.cons .tmp .nil) ?_ rfl) | (refine ⟨(by kernel_rfl), ?_⟩; ((conv => whnf); repeat ((first | refine aF ?_ | refine aT ?_); (first | refine run Γ hm 400 ?_ | refine runD Γ hm 400 (by kernel_rfl) ?_); conv => whnf))) | (refine ⟨by (first | (unfold I64; omega) | omega | (simp only [Int.toNat_natCast]; omega) | done), by (first | (unfold I64; omega) | omega | (simp only [Int.toNat_natCast]; omega) | done), ?_⟩; ((conv => whnf); repeat ((first | refine aF ?_ | refine aT ?_); (first | refine run Γ hm 400 ?_ | refine runD Γ hm 400 (by kernel_rfl) ?_); conv => whnf))) | (refine ⟨by (first | (unfold I64; omega) | omega | (simp only [Int.toNat_natCast]; omega) | done), ?_⟩; ((conv => whnf); repeat ((first | refine aF ?_ | refine aT ?_); (first | refine run Γ hm 400 ?_ | refine runD Γ hm 400 (by kernel_rfl) ?_); conv => whnf))) | (refine call0 (compareIntS (n.devices[a.toNat]'(by omega)).prio (n.devices[b.toNat]'(by omega)).prio) F70 rfl rfl rfl rfl rfl ?_; ((first | refine run Γ hm 400 ?_ | refine runD Γ hm 400 (by kernel_rfl) ?_); (conv => whnf); repeat ((first | refine aF ?_ | refine aT ?_); (first | refine run Γ hm 400 ?_ | refine runD Γ hm 400 (by kernel_rfl) ?_); conv => whnf))) | (refine callD0 (compareIntS (n.devices[a.toNat]'(by omega)).prio (n.devices[b.toNat]'(by omega)).prio) F70 rfl rfl rfl (by kernel_rfl) rfl ?_; ((first | refine run Γ hm 400 ?_ | refine runD Γ hm 400 (by kernel_rfl) ?_); (conv => whnf); repeat ((first | refine aF ?_ | refine aT ?_); (first | refine run Γ hm 400 ?_ | refine runD Γ hm 400 (by kernel_rfl) ?_); conv => whnf))) | (refine call0 (compareU64S (n.devices[a.toNat]'(by omega)).mac (n.devices[b.toNat]'(by omega)).mac) F69 rfl rfl rfl rfl rfl ?_; ((first | refine run Γ hm 400 ?_ | refine runD Γ hm 400 (by kernel_rfl) ?_); (conv => whnf); repeat ((first | refine aF ?_ | refine aT ?_); (first | refine run Γ hm 400 ?_ | refine runD Γ hm 400 (by kernel_rfl) ?_); conv => whnf))) | (refine callD0 (compareU64S (n.devices[a.toNat]'(by omega)).mac (n.devices[b.toNat]'(by omega)).mac) F69 rfl rfl rfl (by kernel_rfl) rfl ?_; ((first | refine run Γ hm 400 ?_ | refine runD Γ hm 400 (by kernel_rfl) ?_); (conv => whnf); repeat ((first | refine aF ?_ | refine aT ?_); (first | refine run Γ hm 400 ?_ | refine runD Γ hm 400 (by kernel_rfl) ?_); conv => whnf))) | (refine callDK [28] (orS [cmpI (n.devices[a.toNat]'(by omega)).prio (n.devices[b.toNat]'(by omega)).prio, cmpI (n.devices[a.toNat]'(by omega)).mac (n.devices[b.toNat]'(by omega)).mac] (by simp [Short])) F68 rfl (.cons (.lit rfl rfl rfl) .nil) rfl (by kernel_rfl) rfl ?_; ((first | refine run Γ hm 400 ?_ | refine runD Γ hm 400 (by kernel_rfl) ?_); (conv => whnf); repeat ((first | refine aF ?_ | refine aT ?_); (first | refine run Γ hm 400 ?_ | refine runD Γ hm 400 (by kernel_rfl) ?_); conv => whnf)))))
  all_goals rfl

def ordL (m : Nat) : List Int := (List.range m).map fun (i : Nat) => (i : Int)
theorem ordL_succ (m : Nat) : ordL (m + 1) = ordL m ++ [(m : Int)] := by simp [ordL, List.range_succ]
theorem ordL_length (m : Nat) : (ordL m).length = m := by simp [ordL]

def rankFill (ord : List Int) : Nat → List Int
  | 0 => List.replicate ord.length 0
  | j + 1 => (rankFill ord j).set (nth ord j).toNat j
theorem rankFill_length (ord : List Int) : ∀ j, (rankFill ord j).length = ord.length
  | 0 => by simp [rankFill]
  | j + 1 => by simp [rankFill, rankFill_length ord j]

def sortedL (n : Net) : List Int := isort (fun a b => decide (keyC n a b < 0)) (ordL n.devices.length)
def ranksL (n : Net) : List Int := rankFill (sortedL n) n.devices.length

theorem ranksS (n : Net) (hn : n.Fin) : Sy.Spec Tryz.prog 61 [netSV n] [] (.sl 1 intSV (if netRightB n then ranksL n else [])) [] := contract Γ hm 100 F61 Tryz.ntmps61 rfl fun F hF => by
  have hl := hn.devices
  unfold Short at hl
  ((conv => whnf); repeat ((first | refine aF ?_ | refine aT ?_); (first | refine run Γ hm 400 ?_ | refine runD Γ hm 400 (by kernel_rfl) ?_); conv => whnf))
  refine call0 (namesRightS n hn) F19 rfl rfl rfl rfl rfl ?_
  ((first | refine run Γ hm 400 ?_ | refine runD Γ hm 400 (by kernel_rfl) ?_); (conv => whnf); repeat ((first | refine aF ?_ | refine aT ?_); (first | refine run Γ hm 400 ?_ | refine runD Γ hm 400 (by kernel_rfl) ?_); conv => whnf))
  refine ⟨fun h => ?_, fun h => ?_⟩
  · have h : netRightB n = false := by simpa using h
    ((first | refine run Γ hm 400 ?_ | refine runD Γ hm 400 (by kernel_rfl) ?_); (conv => whnf); repeat ((first | refine aF ?_ | refine aT ?_); (first | refine run Γ hm 400 ?_ | refine runD Γ hm 400 (by kernel_rfl) ?_); conv => whnf))
    refine G_nilsl 2 1 intSV rfl ?_
    exact done0 rfl (.cons .tmp .nil) (by rw [h]; rfl) rfl
  have h : netRightB n = true := by simpa using h
  have h8 : n.devices.length ≤ 8 := by
    simp only [netRightB, fewB, Bool.and_eq_true, decide_eq_true_eq] at h
    exact h.1.1.1.1.1.1.1.1.1.1.1.1.1.1.1
  rw [h, if_pos rfl, ranksL]
  ((first | refine run Γ hm 400 ?_ | refine runD Γ hm 400 (by kernel_rfl) ?_); (conv => whnf); repeat ((first | refine aF ?_ | refine aT ?_); (first | refine run Γ hm 400 ?_ | refine runD Γ hm 400 (by kernel_rfl) ?_); conv => whnf))
  refine G_box 1 8 (netSV n) rfl rfl rfl ?_
  refine G_adopt 3 1000 1 intSV rfl rfl ?_
  refine G_count n.devices.length (fun j => [(1, .ref 8 (netSV n) 0), (3, .osl 1000), (13, intSV n.devices.length), (14, intSV j)]) (fun j => [(1000, .row 1 intSV (ordL j))]) [] ⟨⟨rfl, rfl, rfl, rfl, rfl, rfl, rfl, rfl, trivial⟩, ⟨.inl rfl, rfl, trivial⟩, rfl, rfl⟩ ?_
  intro j hj
  ((first | refine run Γ hm 400 ?_ | refine runD Γ hm 400 (by kernel_rfl) ?_); (conv => whnf); repeat ((first | refine aF ?_ | refine aT ?_); (first | refine run Γ hm 400 ?_ | refine runD Γ hm 400 (by kernel_rfl) ?_); conv => whnf))
  refine ⟨fun h2 => ?_, fun h2 => ?_⟩
  · have hlt : j < n.devices.length := by simpa using h2
    ((first | refine run Γ hm 400 ?_ | refine runD Γ hm 400 (by kernel_rfl) ?_); (conv => whnf); repeat ((first | refine aF ?_ | refine aT ?_); (first | refine run Γ hm 400 ?_ | refine runD Γ hm 400 (by kernel_rfl) ?_); conv => whnf))
    refine stepOp (good_appendT Γ.toTy 20 rfl rfl rfl rfl rfl (.row rfl) (.lit (l := [(j : Int)]) rfl rfl) (by simp) (by simp [ordL_length]; omega) (by simp [ordL_length]; omega)) rfl rfl ?_
    ((first | refine run Γ hm 400 ?_ | refine runD Γ hm 400 (by kernel_rfl) ?_); (conv => whnf); repeat ((first | refine aF ?_ | refine aT ?_); (first | refine run Γ hm 400 ?_ | refine runD Γ hm 400 (by kernel_rfl) ?_); conv => whnf))
    refine ⟨by unfold I64; omega, ?_⟩
    ((conv => whnf); repeat ((first | refine aF ?_ | refine aT ?_); (first | refine run Γ hm 400 ?_ | refine runD Γ hm 400 (by kernel_rfl) ?_); conv => whnf))
    exact G_next [(1000, 20)] hlt ⟨⟨rfl, rfl, rfl, rfl, rfl, rfl, rfl, rfl, trivial⟩, ⟨.inl (congrArg (Ob.row 1 intSV) (ordL_succ j)), rfl, trivial⟩, rfl, rfl⟩
  have hjl : j = n.devices.length := by have : ¬ j < n.devices.length := by simpa using h2
                                        omega
  subst hjl
  ((first | refine run Γ hm 400 ?_ | refine runD Γ hm 400 (by kernel_rfl) ?_); (conv => whnf); repeat ((first | refine aF ?_ | refine aT ?_); (first | refine run Γ hm 400 ?_ | refine runD Γ hm 400 (by kernel_rfl) ?_); conv => whnf))
  have hsort := sortStableS (ordL n.devices.length) (keyC n) (fun a => 0 ≤ a ∧ a < n.devices.length) 109 [] [.ref 8 (netSV n) 0] rfl (fun a b ha hb => ⟨⟨_, _, F109⟩, ranks1 n a b ha hb⟩) (fun a ha => by
    obtain ⟨i, hi, rfl⟩ := List.mem_map.1 ha
    have := List.mem_range.1 hi
    omega) (by rw [ordL_length]; omega)
  have hslen : (sortedL n).length = n.devices.length := by rw [sortedL, (isort_perm _ _).length_eq, ordL_length]
  have hsm : ∀ a ∈ sortedL n, 0 ≤ a ∧ a < n.devices.length := fun a ha => by
    have := (isort_perm _ _).mem_iff.1 ha
    obtain ⟨i, hi, rfl⟩ := List.mem_map.1 this
    have := List.mem_range.1 hi
    omega
  change Sy.Spec _ _ _ _ _ [(0, .row 1 intSV (sortedL n))] at hsort
  generalize sortedL n = sl at hsort hslen hsm
  refine stepOp (good_call [(0, 1000)] rfl F108 hsort rfl ⟨rfl, trivial⟩ rfl ⟨.inl rfl, trivial⟩) rfl rfl ?_
  ((first | refine run Γ hm 400 ?_ | refine runD Γ hm 400 (by kernel_rfl) ?_); (conv => whnf); repeat ((first | refine aF ?_ | refine aT ?_); (first | refine run Γ hm 400 ?_ | refine runD Γ hm 400 (by kernel_rfl) ?_); conv => whnf))
  refine stepOp (good_makeSlice Γ.toTy (d := 27) (n := sl.length) intSV 0 rfl rfl rfl rfl rfl rfl rfl rfl (by omega) (by omega) rfl rfl rfl) rfl rfl ?_
  ((first | refine run Γ hm 400 ?_ | refine runD Γ hm 400 (by kernel_rfl) ?_); (conv => whnf); repeat ((first | refine aF ?_ | refine aT ?_); (first | refine run Γ hm 400 ?_ | refine runD Γ hm 400 (by kernel_rfl) ?_); conv => whnf))
  refine G_count sl.length (fun j => [(5, .osl 27), (28, .osl 1000), (29, intSV sl.length), (30, intSV j)]) (fun j => [(1000, .row 1 intSV sl), (27, .row 1 intSV (rankFill sl j))]) [] ⟨⟨rfl, rfl, rfl, rfl, rfl, rfl, rfl, rfl, trivial⟩, ⟨.inl rfl, rfl, .inl rfl, rfl, trivial⟩, rfl, rfl⟩ ?_
  clear hj h2
  intro j hj
  ((first | refine run Γ hm 400 ?_ | refine runD Γ hm 400 (by kernel_rfl) ?_); (conv => whnf); repeat ((first | refine aF ?_ | refine aT ?_); (first | refine run Γ hm 400 ?_ | refine runD Γ hm 400 (by kernel_rfl) ?_); conv => whnf))
  refine ⟨fun h2 => ?_, fun h2 => ?_⟩
  · have hlt : j < sl.length := by simpa using h2
    have hmj := hsm _ (List.getElem_mem hlt)
    have hnth : nth sl j = sl[j] := nth_eq (by simpa using hlt)
    have hfl := rankFill_length sl j
    ((first | refine run Γ hm 400 ?_ | refine runD Γ hm 400 (by kernel_rfl) ?_); (conv => whnf); repeat ((first | refine aF ?_ | refine aT ?_); (first | refine run Γ hm 400 ?_ | refine runD Γ hm 400 (by kernel_rfl) ?_); conv => whnf))
    refine ⟨by omega, by omega, ?_⟩
    ((conv => whnf); repeat ((first | refine aF ?_ | refine aT ?_); (first | refine run Γ hm 400 ?_ | refine runD Γ hm 400 (by kernel_rfl) ?_); conv => whnf))
    refine ⟨rfl, by omega, ?_⟩
    ((conv => whnf); repeat ((first | refine aF ?_ | refine aT ?_); (first | refine run Γ hm 400 ?_ | refine runD Γ hm 400 (by kernel_rfl) ?_); conv => whnf))
    refine ⟨hmj.1, by rw [hfl]; exact (by omega : sl[j].toNat < sl.length), ?_⟩
    ((conv => whnf); repeat ((first | refine aF ?_ | refine aT ?_); (first | refine run Γ hm 400 ?_ | refine runD Γ hm 400 (by kernel_rfl) ?_); conv => whnf))
    refine ⟨rfl, by rw [hfl]; exact (by omega : sl[j].toNat < sl.length), (j : Int), rfl, rfl, ?_⟩
    ((conv => whnf); repeat ((first | refine aF ?_ | refine aT ?_); (first | refine run Γ hm 400 ?_ | refine runD Γ hm 400 (by kernel_rfl) ?_); conv => whnf))
    refine ⟨by unfold I64; omega, ?_⟩
    ((conv => whnf); repeat ((first | refine aF ?_ | refine aT ?_); (first | refine run Γ hm 400 ?_ | refine runD Γ hm 400 (by kernel_rfl) ?_); conv => whnf))
    exact G_next [] hlt ⟨⟨rfl, rfl, rfl, rfl, rfl, rfl, rfl, rfl, trivial⟩, ⟨.inl rfl, rfl, .inl (congrArg (Ob.row 1 intSV) (by rw [rankFill, hnth]; rfl)), rfl, trivial⟩, rfl, rfl⟩
  have hjl : j = n.devices.length := by
    have : ¬ j < sl.length := by simpa using h2
    omega
  subst hjl
  ((first | refine run Γ hm 400 ?_ | refine runD Γ hm 400 (by kernel_rfl) ?_); (conv => whnf); repeat ((first | refine aF ?_ | refine aT ?_); (first | refine run Γ hm 400 ?_ | refine runD Γ hm 400 (by kernel_rfl) ?_); conv => whnf))
  refine G_data 27 rfl ?_
  exact done0 rfl (.cons .tmp .nil) rfl rfl

/-- The document's ranks. -/
def aheadB (n : Net) (a b : Int) : Bool :=
  if (nth n.devices a).prio ≠ (nth n.devices b).prio then decide ((nth n.devices a).prio < (nth n.devices b).prio) else
    if (nth n.devices a).mac ≠ (nth n.devices b).mac then decide ((nth n.devices a).mac < (nth n.devices b).mac) else decide (a < b)

def refRanksL (n : Net) : List Int := (List.range n.devices.length).map fun (i : Nat) => (((List.range n.devices.length).countP fun k => aheadB n (k : Nat) i : Nat) : Int)
end Go.Sy.YthbgklhegccckaaGreat

namespace Go.Sy.YthbgklhegccckaaGreat

theorem key_lt (n : Net) (a b : Int) : decide (keyC n a b < 0) = if (nth n.devices a).prio ≠ (nth n.devices b).prio then decide ((nth n.devices a).prio < (nth n.devices b).prio) else
    if (nth n.devices a).mac ≠ (nth n.devices b).mac then decide ((nth n.devices a).mac < (nth n.devices b).mac) else false := by
  rw [keyC, orI_cmp, orI_cmp]
  rfl

theorem ahead_irrefl (n : Net) (a : Int) : aheadB n a a = false := by simp [aheadB]
theorem ahead_trans (n : Net) {a b c : Int} (h1 : aheadB n a b = true) (h2 : aheadB n b c = true) : aheadB n a c = true := by
  unfold aheadB at *
  generalize nth n.devices a = x at *
  generalize nth n.devices b = y at *
  generalize nth n.devices c = z at *
  grind
theorem ahead_asymm (n : Net) {a b : Int} (h1 : aheadB n a b = true) : aheadB n b a = false := by
  cases h : aheadB n b a with
  | false => rfl
  | true => have := ahead_trans n h1 h; rw [ahead_irrefl] at this; cases this

theorem key_ahead (n : Net) {x y : Int} (h : y < x) : decide (keyC n x y < 0) = aheadB n x y := by
  rw [key_lt]
  unfold aheadB
  generalize nth n.devices x = p at *
  generalize nth n.devices y = q at *
  grind
theorem key_not (n : Net) {x y : Int} (h : y < x) (hk : aheadB n x y = false) : aheadB n y x = true := by
  unfold aheadB at *
  generalize nth n.devices x = p at *
  generalize nth n.devices y = q at *
  grind

theorem insR_desc (n : Net) (x : Int) : ∀ (r : List Int), (∀ y ∈ r, y < x) → r.Pairwise (fun a b => aheadB n b a = true) → (insR (fun a b => decide (keyC n a b < 0)) x r).Pairwise (fun a b => aheadB n b a = true)
  | [], _, _ => by simp [insR]
  | y :: r, hx, hp => by
    have hy := hx y (by simp)
    rw [List.pairwise_cons] at hp
    rw [insR]
    split
    · rename_i hlt
      rw [key_ahead n hy] at hlt
      rw [List.pairwise_cons]
      refine ⟨fun z hz => ?_, insR_desc n x r (fun z hz => hx z (by simp [hz])) hp.2⟩
      rcases List.mem_cons.1 ((insR_perm _ x r).mem_iff.1 hz) with rfl | hz
      · exact hlt
      · exact hp.1 z hz
    · rename_i hlt
      rw [key_ahead n hy] at hlt
      have hyx := key_not n hy (by simpa using hlt)
      rw [List.pairwise_cons, List.pairwise_cons]
      refine ⟨fun z hz => ?_, hp⟩
      rcases List.mem_cons.1 hz with rfl | hz
      · exact hyx
      · exact ahead_trans n (hp.1 z hz) hyx

theorem isortR_desc (n : Net) : ∀ m, (isortR (fun a b => decide (keyC n a b < 0)) (ordL m)).Pairwise (fun a b => aheadB n b a = true)
  | 0 => by simp [isortR, ordL]
  | m + 1 => by
    rw [ordL_succ, isortR, List.foldl_append]
    refine insR_desc n m _ (fun y hy => ?_) (isortR_desc n m)
    have := (isortR_perm _ _).mem_iff.1 hy
    obtain ⟨i, hi, rfl⟩ := List.mem_map.1 this
    have := List.mem_range.1 hi
    omega

theorem sortedL_pairwise (n : Net) : (sortedL n).Pairwise (fun a b => aheadB n a b = true) := by
  rw [sortedL, isort, List.pairwise_reverse]
  exact isortR_desc n _

theorem sortedL_perm (n : Net) : (sortedL n).Perm (ordL n.devices.length) := isort_perm _ _

theorem count_place (n : Net) {l : List Int} (hp : l.Pairwise (fun a b => aheadB n a b = true)) (r : Nat) (hr : r < l.length) : l.countP (fun k => aheadB n k l[r]) = r := by
  have hsplit : l = l.take r ++ l[r] :: l.drop (r + 1) := by
    rw [← List.drop_eq_getElem_cons hr, List.take_append_drop]
  have h1 : (l.take r).countP (fun k => aheadB n k l[r]) = r := by
    rw [List.countP_eq_length.2 (fun k hk => ?_), List.length_take]
    · omega
    · obtain ⟨i, hi, rfl⟩ := List.mem_iff_getElem.1 hk
      simp only [List.length_take] at hi
      rw [List.getElem_take]
      exact List.pairwise_iff_getElem.1 hp i r (by omega) hr (by omega)
  have h2 : (l.drop (r + 1)).countP (fun k => aheadB n k l[r]) = 0 := by
    rw [List.countP_eq_zero]
    intro k hk
    obtain ⟨i, hi, rfl⟩ := List.mem_iff_getElem.1 hk
    simp only [List.length_drop] at hi
    rw [List.getElem_drop]
    have := List.pairwise_iff_getElem.1 hp r (r + 1 + i) hr (by omega) (by omega)
    simp [ahead_asymm n this]
  calc l.countP (fun k => aheadB n k l[r]) = (l.take r ++ l[r] :: l.drop (r + 1)).countP (fun k => aheadB n k l[r]) := congrArg _ hsplit
    _ = r := by rw [List.countP_append, List.countP_cons, h1, h2, ahead_irrefl]; simp

theorem rankFill_get (L : List Int) (hn : L.Nodup) (hm : ∀ a ∈ L, 0 ≤ a ∧ a < L.length) : ∀ (j : Nat), j ≤ L.length → ∀ (r : Nat) (hr : r < L.length), r < j → (rankFill L j)[L[r].toNat]? = some (r : Int)
  | 0, _, r, _, h => by omega
  | j + 1, hj, r, hr, h => by
    have hmr := hm _ (List.getElem_mem hr)
    have hlen := rankFill_length L j
    have hnth : nth L (j : Int) = L[j] := nth_eq (by simp; omega)
    rw [rankFill, hnth, List.getElem?_set]
    split
    · rename_i he
      have hmj := hm _ (List.getElem_mem (show j < L.length by omega))
      have hjr : L[j] = L[r] := by omega
      have : j = r := by
        have := (List.getElem_inj (i := j) (j := r) (h₀ := by omega) (h₁ := hr) hn).1 hjr
        exact this
      subst this
      rw [if_pos (by omega)]
    · rename_i he
      have hne : r ≠ j := fun e => he (by subst e; rfl)
      exact rankFill_get L hn hm j (by omega) r hr (by omega)

theorem ordL_nodup (m : Nat) : (ordL m).Nodup := by
  rw [ordL]
  exact List.Pairwise.map _ (fun (a b : Nat) (h : a ≠ b) => by intro e; exact h (by omega)) List.nodup_range

theorem ranks_eq (n : Net) : ranksL n = refRanksL n := by
  have hp := sortedL_perm n
  have hlen : (sortedL n).length = n.devices.length := by rw [hp.length_eq, ordL_length]
  have hnd : (sortedL n).Nodup := hp.nodup_iff.2 (ordL_nodup _)
  have hm : ∀ a ∈ sortedL n, 0 ≤ a ∧ a < (sortedL n).length := fun a ha => by
    obtain ⟨i, hi, rfl⟩ := List.mem_map.1 (hp.mem_iff.1 ha)
    have := List.mem_range.1 hi
    omega
  refine List.ext_getElem? fun i => ?_
  rcases Nat.lt_or_ge i n.devices.length with hi | hi
  · have hin : (i : Int) ∈ sortedL n := hp.mem_iff.2 (List.mem_map.2 ⟨i, List.mem_range.2 hi, rfl⟩)
    obtain ⟨r, hr, he⟩ := List.mem_iff_getElem.1 hin
    have h1 := rankFill_get (sortedL n) hnd hm n.devices.length (by omega) r hr (by omega)
    rw [he] at h1
    have h2 := count_place n (sortedL_pairwise n) r hr
    rw [he, hp.countP_eq] at h2
    rw [ranksL, refRanksL, List.getElem?_map, List.getElem?_range hi]
    simp only [Int.toNat_natCast] at h1
    rw [h1]
    simp only [Option.map_some]
    congr 2
    rw [← h2, ordL, List.countP_map]
    rfl
  · rw [List.getElem?_eq_none, List.getElem?_eq_none]
    · simp [refRanksL]; omega
    · rw [ranksL, rankFill_length]; omega
theorem G_vw {C : Cx} {k : List KI} {s : SS} (d : Nat) (x : SV) (h : Vw s [] (s.σ d) x) (hg : G C k ⟨upd s.σ d x, s.h⟩) : G C k s := fun κ a w hs =>
  hg κ a w ⟨hs.defers, hs.size, hs.inv, hs.ctx, fun i => by
    show Rd κ w (upd s.σ d x i) _
    by_cases hi : i = d
    · subst hi; rw [upd_self]; exact Vw.rd hs.inv (fun _ hn => by cases hn) h (hs.slot i)
    · rw [upd_ne _ _ hi]; exact hs.slot i, hs.obj⟩

end Go.Sy.YthbgklhegccckaaGreat
