/-
  Contracts: the laws of vectors, 2.
-/
import Derived.Test.YtjnkgkpenhjmfaaV7
namespace Go.Sy.Ytjnkgkpenhjmfaa
open Go.Proofs
-- SIMP: placeB

attribute [local irreducible] Go.Sy.G Go.Sy.DR
set_option maxRecDepth 20000
set_option maxHeartbeats 4000000

theorem leastV_mem : ∀ (v : Vec) (l : List Vec), leastV v l = v ∨ leastV v l ∈ l
  | v, [] => .inl rfl
  | v, x :: l => by
    rw [leastV]
    rcases leastV_mem (if lessV x v then x else v) l with h | h
    · rw [h]
      split
      · exact .inr (by simp)
      · exact .inl rfl
    · exact .inr (by simp [h])
theorem leastV_le : ∀ (v : Vec) (l : List Vec), lessV v (leastV v l) = false ∧ ∀ x ∈ l, lessV x (leastV v l) = false
  | v, [] => ⟨less_irrefl v, by simp⟩
  | v, x :: l => by
    rw [leastV]
    obtain ⟨h1, h2⟩ := leastV_le (if lessV x v then x else v) l
    have key : lessV v (leastV (if lessV x v then x else v) l) = false ∧ lessV x (leastV (if lessV x v then x else v) l) = false := by
      generalize leastV (if lessV x v then x else v) l = m at *
      cases hx : lessV x v with
      | true =>
        rw [hx] at h1
        simp only [if_true] at h1
        refine ⟨?_, h1⟩
        cases hv : lessV v m with
        | false => rfl
        | true => rw [less_trans hx hv] at h1; cases h1
      | false =>
        rw [hx] at h1
        simp only [Bool.false_eq_true, if_false] at h1
        refine ⟨h1, ?_⟩
        cases hv : lessV x m with
        | false => rfl
        | true =>
          by_cases hxv : x = v
          · subst hxv; rw [hv] at h1; cases h1
          · rcases less_total hxv with h3 | h3
            · rw [hx] at h3; cases h3
            · rw [less_trans h3 hv] at h1; cases h1
    refine ⟨key.1, fun y hy => ?_⟩
    rcases List.mem_cons.1 hy with rfl | hy
    · exact key.2
    · exact h2 y hy

theorem leastV_drop (v : Vec) (l : List Vec) (j : Nat) (h : j < l.length) : leastV v (l.take (j + 1)) = (if lessV l[j] (leastV v (l.take j)) then l[j] else leastV v (l.take j)) := by
  have key : ∀ (a b : List Vec) (v : Vec), leastV v (a ++ b) = leastV (leastV v a) b := by
    intro a
    induction a with
    | nil => intro b v; rfl
    | cons x a ih => intro b v; rw [List.cons_append, leastV, leastV, ih]
  rw [List.take_succ_eq_append_getElem h, key]
  rfl

theorem leastS (l : List Vec) (hl : Short l) : Sy.Spec Try.prog 18 [.sl 5 vecSV l] [] (.tup [vecSV (leastR l).1, boolSV (leastR l).2]) [] := contract Γ hm 100 F18 Try.ntmps18 rfl fun F hF => by
  unfold Short at hl
  have hR : ∀ h : 0 < l.length, leastR l = (leastV l[0] l, true) := fun h => by
    cases l with
    | nil => simp at h
    | cons v t => rfl
  ((conv => whnf); repeat (first | (refine ⟨fun (h : false = true) => (Bool.false_ne_true h).elim, fun _ => ?_⟩; ((first | (refine run Γ hm 400 ?_) | (refine runD Γ hm 400 (by kernel_rfl) ?_)); (conv => whnf))) | (refine ⟨fun _ => ?_, fun (h : true = false) => (Bool.false_ne_true h.symm).elim⟩; ((first | (refine run Γ hm 400 ?_) | (refine runD Γ hm 400 (by kernel_rfl) ?_)); (conv => whnf)))))
  refine ⟨fun h => ?_, fun h => ?_⟩
  · have : l = [] := List.eq_nil_of_length_eq_zero (by have : (l.length : Int) = 0 := by simpa using h
                                                       omega)
    subst this
    (((first | (refine run Γ hm 400 ?_) | (refine runD Γ hm 400 (by kernel_rfl) ?_)); (conv => whnf)); repeat (first | (refine ⟨fun (h : false = true) => (Bool.false_ne_true h).elim, fun _ => ?_⟩; ((first | (refine run Γ hm 400 ?_) | (refine runD Γ hm 400 (by kernel_rfl) ?_)); (conv => whnf))) | (refine ⟨fun _ => ?_, fun (h : true = false) => (Bool.false_ne_true h.symm).elim⟩; ((first | (refine run Γ hm 400 ?_) | (refine runD Γ hm 400 (by kernel_rfl) ?_)); (conv => whnf)))))
    exact done rfl (.cons (.cell rfl rfl rfl rfl) (.cons .tmp .nil)) [] [] (fun _ h => h) rfl rfl ⟨trivial, trivial, rfl, rfl⟩
  have h0 : 0 < l.length := by
    have : ¬ (l.length : Int) = 0 := by simpa using h
    omega
  rw [hR h0]
  (((first | (refine run Γ hm 400 ?_) | (refine runD Γ hm 400 (by kernel_rfl) ?_)); (conv => whnf)); repeat (first | (refine ⟨fun (h : false = true) => (Bool.false_ne_true h).elim, fun _ => ?_⟩; ((first | (refine run Γ hm 400 ?_) | (refine runD Γ hm 400 (by kernel_rfl) ?_)); (conv => whnf))) | (refine ⟨fun _ => ?_, fun (h : true = false) => (Bool.false_ne_true h.symm).elim⟩; ((first | (refine run Γ hm 400 ?_) | (refine runD Γ hm 400 (by kernel_rfl) ?_)); (conv => whnf)))))
  refine ⟨rfl, by decide, h0, ?_⟩
  ((conv => whnf); repeat (first | (refine ⟨fun (h : false = true) => (Bool.false_ne_true h).elim, fun _ => ?_⟩; ((first | (refine run Γ hm 400 ?_) | (refine runD Γ hm 400 (by kernel_rfl) ?_)); (conv => whnf))) | (refine ⟨fun _ => ?_, fun (h : true = false) => (Bool.false_ne_true h.symm).elim⟩; ((first | (refine run Γ hm 400 ?_) | (refine runD Γ hm 400 (by kernel_rfl) ?_)); (conv => whnf)))))
  have e0 : l[(0 : Int).toNat]'(h0) = l[0] := rfl
  generalize hv : l[0] = v at *
  refine G_count l.length (fun j => [(0, .sl 5 vecSV l), (2, .ptr 2 0), (4, .ptr 4 0), (14, .sl 5 vecSV l), (15, intSV l.length), (16, intSV j)]) (fun j => [(2, .box [intSV 0, intSV 0, intSV 0, intSV 0, intSV 0]), (4, .box [intSV (leastV v (l.take j)).root, intSV (leastV v (l.take j)).cost, intSV (leastV v (l.take j)).bridge, intSV (leastV v (l.take j)).port, intSV (leastV v (l.take j)).own])]) []
    ⟨⟨rfl, rfl, rfl, rfl, rfl, rfl, rfl, rfl, rfl, rfl, rfl, rfl, trivial⟩, ⟨.inl rfl, rfl, .inl (by subst hv; rfl), rfl, trivial⟩, rfl, rfl⟩ ?_
  intro j hj
  (((first | (refine run Γ hm 400 ?_) | (refine runD Γ hm 400 (by kernel_rfl) ?_)); (conv => whnf)); repeat (first | (refine ⟨fun (h : false = true) => (Bool.false_ne_true h).elim, fun _ => ?_⟩; ((first | (refine run Γ hm 400 ?_) | (refine runD Γ hm 400 (by kernel_rfl) ?_)); (conv => whnf))) | (refine ⟨fun _ => ?_, fun (h : true = false) => (Bool.false_ne_true h.symm).elim⟩; ((first | (refine run Γ hm 400 ?_) | (refine runD Γ hm 400 (by kernel_rfl) ?_)); (conv => whnf)))))
  refine ⟨fun h => ?_, fun h => ?_⟩
  · have hlt : j < l.length := by simpa using h
    have hdrop := leastV_drop v l j hlt
    generalize hx : l[j] = x at hdrop
    have hx' : l[(j : Int).toNat]'(by omega) = x := hx
    generalize hmn : leastV v (l.take j) = m at hdrop
    (((first | (refine run Γ hm 400 ?_) | (refine runD Γ hm 400 (by kernel_rfl) ?_)); (conv => whnf)); repeat (first | (refine ⟨fun (h : false = true) => (Bool.false_ne_true h).elim, fun _ => ?_⟩; ((first | (refine run Γ hm 400 ?_) | (refine runD Γ hm 400 (by kernel_rfl) ?_)); (conv => whnf))) | (refine ⟨fun _ => ?_, fun (h : true = false) => (Bool.false_ne_true h.symm).elim⟩; ((first | (refine run Γ hm 400 ?_) | (refine runD Γ hm 400 (by kernel_rfl) ?_)); (conv => whnf)))))
    refine ⟨rfl, by omega, by omega, ?_⟩
    rw [hx']
    ((conv => whnf); repeat (first | (refine ⟨fun (h : false = true) => (Bool.false_ne_true h).elim, fun _ => ?_⟩; ((first | (refine run Γ hm 400 ?_) | (refine runD Γ hm 400 (by kernel_rfl) ?_)); (conv => whnf))) | (refine ⟨fun _ => ?_, fun (h : true = false) => (Bool.false_ne_true h.symm).elim⟩; ((first | (refine run Γ hm 400 ?_) | (refine runD Γ hm 400 (by kernel_rfl) ?_)); (conv => whnf)))))
    refine call0 (lessS x m) F16 rfl rfl rfl rfl rfl ?_
    (((first | (refine run Γ hm 400 ?_) | (refine runD Γ hm 400 (by kernel_rfl) ?_)); (conv => whnf)); repeat (first | (refine ⟨fun (h : false = true) => (Bool.false_ne_true h).elim, fun _ => ?_⟩; ((first | (refine run Γ hm 400 ?_) | (refine runD Γ hm 400 (by kernel_rfl) ?_)); (conv => whnf))) | (refine ⟨fun _ => ?_, fun (h : true = false) => (Bool.false_ne_true h.symm).elim⟩; ((first | (refine run Γ hm 400 ?_) | (refine runD Γ hm 400 (by kernel_rfl) ?_)); (conv => whnf)))))
    refine ⟨fun h2 => ?_, fun h2 => ?_⟩
    · rw [h2, if_pos rfl] at hdrop
      (((first | (refine run Γ hm 400 ?_) | (refine runD Γ hm 400 (by kernel_rfl) ?_)); (conv => whnf)); repeat (first | (refine ⟨fun (h : false = true) => (Bool.false_ne_true h).elim, fun _ => ?_⟩; ((first | (refine run Γ hm 400 ?_) | (refine runD Γ hm 400 (by kernel_rfl) ?_)); (conv => whnf))) | (refine ⟨fun _ => ?_, fun (h : true = false) => (Bool.false_ne_true h.symm).elim⟩; ((first | (refine run Γ hm 400 ?_) | (refine runD Γ hm 400 (by kernel_rfl) ?_)); (conv => whnf)))))
      refine ⟨by unfold I64; omega, ?_⟩
      ((conv => whnf); repeat (first | (refine ⟨fun (h : false = true) => (Bool.false_ne_true h).elim, fun _ => ?_⟩; ((first | (refine run Γ hm 400 ?_) | (refine runD Γ hm 400 (by kernel_rfl) ?_)); (conv => whnf))) | (refine ⟨fun _ => ?_, fun (h : true = false) => (Bool.false_ne_true h.symm).elim⟩; ((first | (refine run Γ hm 400 ?_) | (refine runD Γ hm 400 (by kernel_rfl) ?_)); (conv => whnf)))))
      exact G_next [] hlt ⟨⟨rfl, rfl, rfl, rfl, rfl, rfl, rfl, rfl, rfl, rfl, rfl, rfl, trivial⟩, ⟨.inl rfl, rfl, .inl (by rw [hdrop]; rfl), rfl, trivial⟩, rfl, rfl⟩
    · rw [h2] at hdrop
      (((first | (refine run Γ hm 400 ?_) | (refine runD Γ hm 400 (by kernel_rfl) ?_)); (conv => whnf)); repeat (first | (refine ⟨fun (h : false = true) => (Bool.false_ne_true h).elim, fun _ => ?_⟩; ((first | (refine run Γ hm 400 ?_) | (refine runD Γ hm 400 (by kernel_rfl) ?_)); (conv => whnf))) | (refine ⟨fun _ => ?_, fun (h : true = false) => (Bool.false_ne_true h.symm).elim⟩; ((first | (refine run Γ hm 400 ?_) | (refine runD Γ hm 400 (by kernel_rfl) ?_)); (conv => whnf)))))
      refine ⟨by unfold I64; omega, ?_⟩
      ((conv => whnf); repeat (first | (refine ⟨fun (h : false = true) => (Bool.false_ne_true h).elim, fun _ => ?_⟩; ((first | (refine run Γ hm 400 ?_) | (refine runD Γ hm 400 (by kernel_rfl) ?_)); (conv => whnf))) | (refine ⟨fun _ => ?_, fun (h : true = false) => (Bool.false_ne_true h.symm).elim⟩; ((first | (refine run Γ hm 400 ?_) | (refine runD Γ hm 400 (by kernel_rfl) ?_)); (conv => whnf)))))
      exact G_next [] hlt ⟨⟨rfl, rfl, rfl, rfl, rfl, rfl, rfl, rfl, rfl, rfl, rfl, rfl, trivial⟩, ⟨.inl rfl, rfl, .inl (by rw [hdrop]; rfl), rfl, trivial⟩, rfl, rfl⟩
  · have hjl : ¬ j < l.length := by simpa using h
    rw [List.take_of_length_le (by omega)]
    (((first | (refine run Γ hm 400 ?_) | (refine runD Γ hm 400 (by kernel_rfl) ?_)); (conv => whnf)); repeat (first | (refine ⟨fun (h : false = true) => (Bool.false_ne_true h).elim, fun _ => ?_⟩; ((first | (refine run Γ hm 400 ?_) | (refine runD Γ hm 400 (by kernel_rfl) ?_)); (conv => whnf))) | (refine ⟨fun _ => ?_, fun (h : true = false) => (Bool.false_ne_true h.symm).elim⟩; ((first | (refine run Γ hm 400 ?_) | (refine runD Γ hm 400 (by kernel_rfl) ?_)); (conv => whnf)))))
    exact done rfl (.cons (.cell rfl rfl rfl rfl) (.cons .tmp .nil)) [] [] (fun _ h => h) rfl rfl ⟨trivial, trivial, rfl, rfl⟩

theorem leastR_none {l : List Vec} (h : (leastR l).2 = false) : l = [] ∧ (leastR l).1 = zeroV := by
  cases l with
  | nil => exact ⟨rfl, rfl⟩
  | cons v t => cases h
theorem leastR_le (l : List Vec) : ∀ x ∈ l, lessV x (leastR l).1 = false := by
  cases l with
  | nil => simp
  | cons v t => exact (leastV_le v (v :: t)).2
theorem leastR_mem {l : List Vec} (h : (leastR l).2 = true) : (leastR l).1 ∈ l := by
  cases l with
  | nil => cases h
  | cons v t =>
    rcases leastV_mem v (v :: t) with h | h
    · show leastV v (v :: t) ∈ v :: t
      rw [h]; simp
    · exact h

theorem vectorLeastS (l : List Vec) : Sy.Spec Try.prog 7 [.sl 5 vecSV l] [] (boolSV true) [] := contract Γ hm 100 F7 Try.ntmps7 rfl fun F hF => by
  ((conv => whnf); repeat (first | (refine ⟨fun (h : false = true) => (Bool.false_ne_true h).elim, fun _ => ?_⟩; ((first | (refine run Γ hm 400 ?_) | (refine runD Γ hm 400 (by kernel_rfl) ?_)); (conv => whnf))) | (refine ⟨fun _ => ?_, fun (h : true = false) => (Bool.false_ne_true h.symm).elim⟩; ((first | (refine run Γ hm 400 ?_) | (refine runD Γ hm 400 (by kernel_rfl) ?_)); (conv => whnf)))))
  refine call0 worksS F9 rfl rfl rfl rfl rfl ?_
  (((first | (refine run Γ hm 400 ?_) | (refine runD Γ hm 400 (by kernel_rfl) ?_)); (conv => whnf)); repeat (first | (refine ⟨fun (h : false = true) => (Bool.false_ne_true h).elim, fun _ => ?_⟩; ((first | (refine run Γ hm 400 ?_) | (refine runD Γ hm 400 (by kernel_rfl) ?_)); (conv => whnf))) | (refine ⟨fun _ => ?_, fun (h : true = false) => (Bool.false_ne_true h.symm).elim⟩; ((first | (refine run Γ hm 400 ?_) | (refine runD Γ hm 400 (by kernel_rfl) ?_)); (conv => whnf)))))
  (repeat' (first | (refine ⟨fun h => ?_, fun h => ?_⟩ <;> (repeat (first | (simp only [placeB] at h) | (simp only [decide_eq_true_eq] at h) | (simp only [decide_eq_false_iff_not] at h) | (simp only [beq_iff_eq] at h) | (simp only [beq_eq_false_iff_ne] at h) | (simp only [bne_iff_ne] at h) | (simp only [bne_eq_false_iff_eq] at h) | (simp only [Bool.and_eq_true] at h) | (simp only [Bool.or_eq_true] at h) | (simp only [Bool.and_eq_false_iff] at h) | (simp only [Bool.or_eq_false_iff] at h) | (simp only [Bool.not_eq_true'] at h) | (simp only [Bool.not_eq_false'] at h) | (simp only [Bool.not_eq_eq_eq_not] at h) | (simp only [Bool.not_true] at h) | (simp only [Bool.not_false] at h))) <;> (((first | (refine run Γ hm 400 ?_) | (refine runD Γ hm 400 (by kernel_rfl) ?_)); (conv => whnf)); repeat (first | (refine ⟨fun (h : false = true) => (Bool.false_ne_true h).elim, fun _ => ?_⟩; ((first | (refine run Γ hm 400 ?_) | (refine runD Γ hm 400 (by kernel_rfl) ?_)); (conv => whnf))) | (refine ⟨fun _ => ?_, fun (h : true = false) => (Bool.false_ne_true h.symm).elim⟩; ((first | (refine run Γ hm 400 ?_) | (refine runD Γ hm 400 (by kernel_rfl) ?_)); (conv => whnf)))))) | (refine done0 rfl (.cons .tmp .nil) ?_ rfl) | (refine ⟨(by kernel_rfl), ?_⟩; ((conv => whnf); repeat (first | (refine ⟨fun (h : false = true) => (Bool.false_ne_true h).elim, fun _ => ?_⟩; ((first | (refine run Γ hm 400 ?_) | (refine runD Γ hm 400 (by kernel_rfl) ?_)); (conv => whnf))) | (refine ⟨fun _ => ?_, fun (h : true = false) => (Bool.false_ne_true h.symm).elim⟩; ((first | (refine run Γ hm 400 ?_) | (refine runD Γ hm 400 (by kernel_rfl) ?_)); (conv => whnf)))))) | (refine ⟨by (first | (unfold I64; omega) | omega | (simp only [Int.toNat_natCast]; omega) | done), by (first | (unfold I64; omega) | omega | (simp only [Int.toNat_natCast]; omega) | done), ?_⟩; ((conv => whnf); repeat (first | (refine ⟨fun (h : false = true) => (Bool.false_ne_true h).elim, fun _ => ?_⟩; ((first | (refine run Γ hm 400 ?_) | (refine runD Γ hm 400 (by kernel_rfl) ?_)); (conv => whnf))) | (refine ⟨fun _ => ?_, fun (h : true = false) => (Bool.false_ne_true h.symm).elim⟩; ((first | (refine run Γ hm 400 ?_) | (refine runD Γ hm 400 (by kernel_rfl) ?_)); (conv => whnf)))))) | (refine ⟨by (first | (unfold I64; omega) | omega | (simp only [Int.toNat_natCast]; omega) | done), ?_⟩; ((conv => whnf); repeat (first | (refine ⟨fun (h : false = true) => (Bool.false_ne_true h).elim, fun _ => ?_⟩; ((first | (refine run Γ hm 400 ?_) | (refine runD Γ hm 400 (by kernel_rfl) ?_)); (conv => whnf))) | (refine ⟨fun _ => ?_, fun (h : true = false) => (Bool.false_ne_true h.symm).elim⟩; ((first | (refine run Γ hm 400 ?_) | (refine runD Γ hm 400 (by kernel_rfl) ?_)); (conv => whnf))))))))
  all_goals first | (refine congrArg boolSV ?_; rfl) | skip
  have hl : l.length ≤ 1000 := by omega
  have hn := @leastR_none l
  have hle := leastR_le l
  have hmem := @leastR_mem l
  have hls := leastS l (by unfold Short; omega)
  generalize leastR l = r at hls hn hle hmem
  obtain ⟨v, ok⟩ := r
  simp only at hls hn hle hmem
  refine call0 hls F18 rfl rfl rfl rfl rfl ?_
  (((first | (refine run Γ hm 400 ?_) | (refine runD Γ hm 400 (by kernel_rfl) ?_)); (conv => whnf)); repeat (first | (refine ⟨fun (h : false = true) => (Bool.false_ne_true h).elim, fun _ => ?_⟩; ((first | (refine run Γ hm 400 ?_) | (refine runD Γ hm 400 (by kernel_rfl) ?_)); (conv => whnf))) | (refine ⟨fun _ => ?_, fun (h : true = false) => (Bool.false_ne_true h.symm).elim⟩; ((first | (refine run Γ hm 400 ?_) | (refine runD Γ hm 400 (by kernel_rfl) ?_)); (conv => whnf)))))
  refine ⟨fun h2 => ?_, fun h2 => ?_⟩
  · have h2 : ok = false := by simpa using h2
    obtain ⟨rfl, rfl⟩ := hn h2
    (((first | (refine run Γ hm 400 ?_) | (refine runD Γ hm 400 (by kernel_rfl) ?_)); (conv => whnf)); repeat (first | (refine ⟨fun (h : false = true) => (Bool.false_ne_true h).elim, fun _ => ?_⟩; ((first | (refine run Γ hm 400 ?_) | (refine runD Γ hm 400 (by kernel_rfl) ?_)); (conv => whnf))) | (refine ⟨fun _ => ?_, fun (h : true = false) => (Bool.false_ne_true h.symm).elim⟩; ((first | (refine run Γ hm 400 ?_) | (refine runD Γ hm 400 (by kernel_rfl) ?_)); (conv => whnf)))))
    exact done0 rfl (.cons .tmp .nil) rfl rfl
  have h2 : ok = true := by simpa using h2
  (((first | (refine run Γ hm 400 ?_) | (refine runD Γ hm 400 (by kernel_rfl) ?_)); (conv => whnf)); repeat (first | (refine ⟨fun (h : false = true) => (Bool.false_ne_true h).elim, fun _ => ?_⟩; ((first | (refine run Γ hm 400 ?_) | (refine runD Γ hm 400 (by kernel_rfl) ?_)); (conv => whnf))) | (refine ⟨fun _ => ?_, fun (h : true = false) => (Bool.false_ne_true h.symm).elim⟩; ((first | (refine run Γ hm 400 ?_) | (refine runD Γ hm 400 (by kernel_rfl) ?_)); (conv => whnf)))))
  refine G_box 3 5 (vecSV v) rfl rfl rfl ?_
  refine G_count l.length (fun j => [(3, .ref 5 (vecSV v) 0), (5, boolSV ((l.take j).any fun x => vecEq x v)), (28, .sl 5 vecSV l), (29, intSV l.length), (30, intSV j)]) (fun _ => []) [] ⟨⟨rfl, rfl, rfl, rfl, rfl, rfl, rfl, rfl, rfl, rfl, trivial⟩, trivial, rfl, rfl⟩ ?_
  intro j hj
  (((first | (refine run Γ hm 400 ?_) | (refine runD Γ hm 400 (by kernel_rfl) ?_)); (conv => whnf)); repeat (first | (refine ⟨fun (h : false = true) => (Bool.false_ne_true h).elim, fun _ => ?_⟩; ((first | (refine run Γ hm 400 ?_) | (refine runD Γ hm 400 (by kernel_rfl) ?_)); (conv => whnf))) | (refine ⟨fun _ => ?_, fun (h : true = false) => (Bool.false_ne_true h.symm).elim⟩; ((first | (refine run Γ hm 400 ?_) | (refine runD Γ hm 400 (by kernel_rfl) ?_)); (conv => whnf)))))
  refine ⟨fun h => ?_, fun h => ?_⟩
  · have hlt : j < l.length := by simpa using h
    have htake : ((l.take (j + 1)).any fun x => vecEq x v) = (((l.take j).any fun x => vecEq x v) || vecEq l[j] v) := by
      rw [List.take_succ_eq_append_getElem hlt, List.any_append, List.any_cons, List.any_nil, Bool.or_false]
    have hlx := hle _ (List.getElem_mem hlt)
    generalize hx : l[j] = x at htake hlx
    have hx' : l[(j : Int).toNat]'(by omega) = x := hx
    have hless := lessS x v
    rw [hlx] at hless
    generalize hq : ((l.take j).any fun x => vecEq x v) = q at htake
    (((first | (refine run Γ hm 400 ?_) | (refine runD Γ hm 400 (by kernel_rfl) ?_)); (conv => whnf)); repeat (first | (refine ⟨fun (h : false = true) => (Bool.false_ne_true h).elim, fun _ => ?_⟩; ((first | (refine run Γ hm 400 ?_) | (refine runD Γ hm 400 (by kernel_rfl) ?_)); (conv => whnf))) | (refine ⟨fun _ => ?_, fun (h : true = false) => (Bool.false_ne_true h.symm).elim⟩; ((first | (refine run Γ hm 400 ?_) | (refine runD Γ hm 400 (by kernel_rfl) ?_)); (conv => whnf)))))
    refine ⟨rfl, by omega, by omega, ?_⟩
    rw [hx']
    ((conv => whnf); repeat (first | (refine ⟨fun (h : false = true) => (Bool.false_ne_true h).elim, fun _ => ?_⟩; ((first | (refine run Γ hm 400 ?_) | (refine runD Γ hm 400 (by kernel_rfl) ?_)); (conv => whnf))) | (refine ⟨fun _ => ?_, fun (h : true = false) => (Bool.false_ne_true h.symm).elim⟩; ((first | (refine run Γ hm 400 ?_) | (refine runD Γ hm 400 (by kernel_rfl) ?_)); (conv => whnf)))))
    refine ⟨fun h3 => ?_, fun h3 => ?_⟩
    · subst h3
      (((first | (refine run Γ hm 400 ?_) | (refine runD Γ hm 400 (by kernel_rfl) ?_)); (conv => whnf)); repeat (first | (refine ⟨fun (h : false = true) => (Bool.false_ne_true h).elim, fun _ => ?_⟩; ((first | (refine run Γ hm 400 ?_) | (refine runD Γ hm 400 (by kernel_rfl) ?_)); (conv => whnf))) | (refine ⟨fun _ => ?_, fun (h : true = false) => (Bool.false_ne_true h.symm).elim⟩; ((first | (refine run Γ hm 400 ?_) | (refine runD Γ hm 400 (by kernel_rfl) ?_)); (conv => whnf)))))
      refine call0 hless F16 rfl rfl rfl rfl rfl ?_
      (((first | (refine run Γ hm 400 ?_) | (refine runD Γ hm 400 (by kernel_rfl) ?_)); (conv => whnf)); repeat (first | (refine ⟨fun (h : false = true) => (Bool.false_ne_true h).elim, fun _ => ?_⟩; ((first | (refine run Γ hm 400 ?_) | (refine runD Γ hm 400 (by kernel_rfl) ?_)); (conv => whnf))) | (refine ⟨fun _ => ?_, fun (h : true = false) => (Bool.false_ne_true h.symm).elim⟩; ((first | (refine run Γ hm 400 ?_) | (refine runD Γ hm 400 (by kernel_rfl) ?_)); (conv => whnf)))))
      refine ⟨by unfold I64; omega, ?_⟩
      ((conv => whnf); repeat (first | (refine ⟨fun (h : false = true) => (Bool.false_ne_true h).elim, fun _ => ?_⟩; ((first | (refine run Γ hm 400 ?_) | (refine runD Γ hm 400 (by kernel_rfl) ?_)); (conv => whnf))) | (refine ⟨fun _ => ?_, fun (h : true = false) => (Bool.false_ne_true h.symm).elim⟩; ((first | (refine run Γ hm 400 ?_) | (refine runD Γ hm 400 (by kernel_rfl) ?_)); (conv => whnf)))))
      exact G_next [] hlt ⟨⟨rfl, rfl, congrArg boolSV (by rw [htake]; rfl), rfl, rfl, rfl, rfl, rfl, rfl, rfl, trivial⟩, trivial, rfl, rfl⟩
    · subst h3
      (((first | (refine run Γ hm 400 ?_) | (refine runD Γ hm 400 (by kernel_rfl) ?_)); (conv => whnf)); repeat (first | (refine ⟨fun (h : false = true) => (Bool.false_ne_true h).elim, fun _ => ?_⟩; ((first | (refine run Γ hm 400 ?_) | (refine runD Γ hm 400 (by kernel_rfl) ?_)); (conv => whnf))) | (refine ⟨fun _ => ?_, fun (h : true = false) => (Bool.false_ne_true h.symm).elim⟩; ((first | (refine run Γ hm 400 ?_) | (refine runD Γ hm 400 (by kernel_rfl) ?_)); (conv => whnf)))))
      refine call0 hless F16 rfl rfl rfl rfl rfl ?_
      (((first | (refine run Γ hm 400 ?_) | (refine runD Γ hm 400 (by kernel_rfl) ?_)); (conv => whnf)); repeat (first | (refine ⟨fun (h : false = true) => (Bool.false_ne_true h).elim, fun _ => ?_⟩; ((first | (refine run Γ hm 400 ?_) | (refine runD Γ hm 400 (by kernel_rfl) ?_)); (conv => whnf))) | (refine ⟨fun _ => ?_, fun (h : true = false) => (Bool.false_ne_true h.symm).elim⟩; ((first | (refine run Γ hm 400 ?_) | (refine runD Γ hm 400 (by kernel_rfl) ?_)); (conv => whnf)))))
      refine ⟨by unfold I64; omega, ?_⟩
      ((conv => whnf); repeat (first | (refine ⟨fun (h : false = true) => (Bool.false_ne_true h).elim, fun _ => ?_⟩; ((first | (refine run Γ hm 400 ?_) | (refine runD Γ hm 400 (by kernel_rfl) ?_)); (conv => whnf))) | (refine ⟨fun _ => ?_, fun (h : true = false) => (Bool.false_ne_true h.symm).elim⟩; ((first | (refine run Γ hm 400 ?_) | (refine runD Γ hm 400 (by kernel_rfl) ?_)); (conv => whnf)))))
      exact G_next [] hlt ⟨⟨rfl, rfl, congrArg boolSV (by rw [htake]; rfl), rfl, rfl, rfl, rfl, rfl, rfl, rfl, trivial⟩, trivial, rfl, rfl⟩
  · have hjl : ¬ j < l.length := by simpa using h
    have : ((l.take j).any fun x => vecEq x v) = true := by
      rw [List.take_of_length_le (by omega)]
      exact List.any_eq_true.2 ⟨v, hmem h2, vecEq_iff.2 rfl⟩
    rw [this]
    (((first | (refine run Γ hm 400 ?_) | (refine runD Γ hm 400 (by kernel_rfl) ?_)); (conv => whnf)); repeat (first | (refine ⟨fun (h : false = true) => (Bool.false_ne_true h).elim, fun _ => ?_⟩; ((first | (refine run Γ hm 400 ?_) | (refine runD Γ hm 400 (by kernel_rfl) ?_)); (conv => whnf))) | (refine ⟨fun _ => ?_, fun (h : true = false) => (Bool.false_ne_true h.symm).elim⟩; ((first | (refine run Γ hm 400 ?_) | (refine runD Γ hm 400 (by kernel_rfl) ?_)); (conv => whnf)))))
    exact done0 rfl (.cons .tmp .nil) rfl rfl

/-! ### Ranks are unlike -/
theorem ranks_range (n : Net) : ∀ x ∈ ranksL n, 0 ≤ x ∧ x < n.devices.length := fun x hx => by
  rw [ranks_eq, refRanksL] at hx
  obtain ⟨i, hi, rfl⟩ := List.mem_map.1 hx
  have hi := List.mem_range.1 hi
  have h1 := List.countP_le_length (p := fun k => aheadB n (k : Nat) i) (l := List.range n.devices.length)
  rw [List.length_range] at h1
  have h2 : (List.range n.devices.length).countP (fun k => aheadB n (k : Nat) i) ≠ n.devices.length := fun e => by
    have := List.countP_eq_length.1 (e.trans List.length_range.symm) i (List.mem_range.2 hi)
    rw [ahead_irrefl] at this
    cases this
  omega

theorem ahead_total (n : Net) {a b : Int} (h : a ≠ b) : aheadB n a b = true ∨ aheadB n b a = true := by
  unfold aheadB
  generalize nth n.devices a = x
  generalize nth n.devices b = y
  grind

theorem rank_lt (n : Net) {i k : Nat} (hi : i < n.devices.length) (hk : k < n.devices.length) (h : aheadB n i k = true) : (List.range n.devices.length).countP (fun q => aheadB n (q : Nat) i) < (List.range n.devices.length).countP (fun q => aheadB n (q : Nat) k) := by
  have h1 : (List.range n.devices.length).countP (fun q => aheadB n (q : Nat) i) + ((List.range n.devices.length).filter (fun q => aheadB n (q : Nat) k && !aheadB n (q : Nat) i)).length = (List.range n.devices.length).countP (fun q => aheadB n (q : Nat) k) := by
    generalize List.range n.devices.length = l
    induction l with
    | nil => rfl
    | cons q l ih =>
      rw [List.countP_cons, List.countP_cons, List.filter_cons]
      cases h1 : aheadB n q i with
      | true =>
        have h2 : aheadB n q k = true := ahead_trans n h1 h
        simp only [h2, if_true, Bool.not_true, Bool.and_false, Bool.false_eq_true, if_false]
        omega
      | false =>
        cases h2 : aheadB n q k with
        | true => simp only [if_true, Bool.not_false, Bool.and_true, Bool.false_eq_true, if_false, List.length_cons]; omega
        | false => simp only [Bool.false_eq_true, if_false, Bool.and_self, Bool.false_and]; omega
  have h2 : 0 < ((List.range n.devices.length).filter (fun q => aheadB n (q : Nat) k && !aheadB n (q : Nat) i)).length := by
    refine List.length_pos_of_mem (a := i) ?_
    rw [List.mem_filter]
    exact ⟨List.mem_range.2 hi, by simp [h, ahead_irrefl]⟩
  omega

theorem ranksL_length (n : Net) : (ranksL n).length = n.devices.length := by rw [ranks_eq, refRanksL]; simp
theorem ranksL_get (n : Net) (i : Nat) (hi : i < (ranksL n).length) : (ranksL n)[i] = (((List.range n.devices.length).countP fun k => aheadB n (k : Nat) i : Nat) : Int) := by
  have e := ranks_eq n
  have : (ranksL n)[i] = (refRanksL n)[i]'(by rw [← e]; exact hi) := by congr 1
  rw [this]
  simp [refRanksL]

theorem ranks_unlike (n : Net) {i k : Nat} (hi : i < (ranksL n).length) (hk : k < (ranksL n).length) (h : i ≠ k) : (ranksL n)[i] ≠ (ranksL n)[k] := by
  have e := ranksL_length n
  rw [ranksL_get, ranksL_get]
  rcases ahead_total n (a := (i : Int)) (b := (k : Int)) (by omega) with h1 | h1
  · have := rank_lt n (i := i) (k := k) (by omega) (by omega) h1
    omega
  · have := rank_lt n (i := k) (k := i) (by omega) (by omega) h1
    omega

theorem ranks_prio (n : Net) {i k : Nat} (hi : i < (ranksL n).length) (hk : k < (ranksL n).length) (h : (n.devices[i]'(by rw [← ranksL_length]; exact hi)).prio < (n.devices[k]'(by rw [← ranksL_length]; exact hk)).prio) : (ranksL n)[i] < (ranksL n)[k] := by
  have e := ranksL_length n
  rw [ranksL_get, ranksL_get]
  have h1 : aheadB n i k = true := by
    unfold aheadB
    rw [nth_eq (i := (i : Int)) (by simp; omega), nth_eq (i := (k : Int)) (by simp; omega)]
    simp only [Int.toNat_natCast]
    rw [if_pos (by omega)]
    exact decide_eq_true h
  have := rank_lt n (i := i) (k := k) (by omega) (by omega) h1
  omega
end Go.Sy.Ytjnkgkpenhjmfaa
