/-
  Contracts: the laws of vectors, 3.
-/
import Derived.Test.YtjnkgkpenhjmfaaV8
namespace Go.Sy.Ytjnkgkpenhjmfaa
open Go.Proofs
-- SIMP: placeB

attribute [local irreducible] Go.Sy.G Go.Sy.DR
set_option maxRecDepth 20000
set_option maxHeartbeats 4000000

theorem vectorUnlikeS (n : Net) : Sy.Spec Try.prog 6 [netSV n] [] (boolSV true) [] := contract Γ hm 100 F6 Try.ntmps6 rfl fun F hF => by
  ((conv => whnf); repeat (first | (refine ⟨fun (h : false = true) => (Bool.false_ne_true h).elim, fun _ => ?_⟩; ((first | (refine run Γ hm 400 ?_) | (refine runD Γ hm 400 (by kernel_rfl) ?_)); (conv => whnf))) | (refine ⟨fun _ => ?_, fun (h : true = false) => (Bool.false_ne_true h.symm).elim⟩; ((first | (refine run Γ hm 400 ?_) | (refine runD Γ hm 400 (by kernel_rfl) ?_)); (conv => whnf)))))
  refine call0 worksS F9 rfl rfl rfl rfl rfl ?_
  (((first | (refine run Γ hm 400 ?_) | (refine runD Γ hm 400 (by kernel_rfl) ?_)); (conv => whnf)); repeat (first | (refine ⟨fun (h : false = true) => (Bool.false_ne_true h).elim, fun _ => ?_⟩; ((first | (refine run Γ hm 400 ?_) | (refine runD Γ hm 400 (by kernel_rfl) ?_)); (conv => whnf))) | (refine ⟨fun _ => ?_, fun (h : true = false) => (Bool.false_ne_true h.symm).elim⟩; ((first | (refine run Γ hm 400 ?_) | (refine runD Γ hm 400 (by kernel_rfl) ?_)); (conv => whnf)))))
  refine call0 (greatS n) F8 rfl rfl rfl rfl rfl ?_
  (((first | (refine run Γ hm 400 ?_) | (refine runD Γ hm 400 (by kernel_rfl) ?_)); (conv => whnf)); repeat (first | (refine ⟨fun (h : false = true) => (Bool.false_ne_true h).elim, fun _ => ?_⟩; ((first | (refine run Γ hm 400 ?_) | (refine runD Γ hm 400 (by kernel_rfl) ?_)); (conv => whnf))) | (refine ⟨fun _ => ?_, fun (h : true = false) => (Bool.false_ne_true h.symm).elim⟩; ((first | (refine run Γ hm 400 ?_) | (refine runD Γ hm 400 (by kernel_rfl) ?_)); (conv => whnf)))))
  refine ⟨fun hg => ?_, fun hg => ?_⟩
  · (((first | (refine run Γ hm 400 ?_) | (refine runD Γ hm 400 (by kernel_rfl) ?_)); (conv => whnf)); repeat (first | (refine ⟨fun (h : false = true) => (Bool.false_ne_true h).elim, fun _ => ?_⟩; ((first | (refine run Γ hm 400 ?_) | (refine runD Γ hm 400 (by kernel_rfl) ?_)); (conv => whnf))) | (refine ⟨fun _ => ?_, fun (h : true = false) => (Bool.false_ne_true h.symm).elim⟩; ((first | (refine run Γ hm 400 ?_) | (refine runD Γ hm 400 (by kernel_rfl) ?_)); (conv => whnf)))))
    exact done0 rfl (.cons .tmp .nil) rfl rfl
  have hn := fin_of_great hg
  (((first | (refine run Γ hm 400 ?_) | (refine runD Γ hm 400 (by kernel_rfl) ?_)); (conv => whnf)); repeat (first | (refine ⟨fun (h : false = true) => (Bool.false_ne_true h).elim, fun _ => ?_⟩; ((first | (refine run Γ hm 400 ?_) | (refine runD Γ hm 400 (by kernel_rfl) ?_)); (conv => whnf))) | (refine ⟨fun _ => ?_, fun (h : true = false) => (Bool.false_ne_true h.symm).elim⟩; ((first | (refine run Γ hm 400 ?_) | (refine runD Γ hm 400 (by kernel_rfl) ?_)); (conv => whnf)))))
  refine G_box 1 8 (netSV n) rfl rfl rfl ?_
  have hrs := ranksS n hn
  have hsh := ranks_short n hn
  have hlen : netRightB n = true → (if netRightB n then ranksL n else []).length = n.devices.length := fun h => by rw [h, if_pos rfl, ranksL_length]
  have hrange : ∀ x ∈ (if netRightB n then ranksL n else []), 0 ≤ x ∧ x < n.devices.length := by
    split
    · exact ranks_range n
    · simp
  have hun : ∀ (i k : Nat) (hi : i < (if netRightB n then ranksL n else []).length) (hk : k < (if netRightB n then ranksL n else []).length), i ≠ k → (if netRightB n then ranksL n else [])[i] ≠ (if netRightB n then ranksL n else [])[k] := by
    split
    · exact fun i k hi hk h => ranks_unlike n hi hk h
    · intro i k hi; simp at hi
  have hpr : ∀ (i k : Nat) (hi : i < (if netRightB n then ranksL n else []).length) (hk : k < (if netRightB n then ranksL n else []).length) (hi' : i < n.devices.length) (hk' : k < n.devices.length), n.devices[i].prio < n.devices[k].prio → (if netRightB n then ranksL n else [])[i] < (if netRightB n then ranksL n else [])[k] := by
    split
    · exact fun i k hi hk hi' hk' h => ranks_prio n hi hk h
    · intro i k hi; simp at hi
  have hnil : (if netRightB n then ranksL n else []).length ≠ 0 → netRightB n = true := by
    split
    · rename_i h; exact fun _ => h
    · simp
  generalize (if netRightB n then ranksL n else []) = L at *
  unfold Short at hsh
  refine call0 hrs F10 rfl rfl rfl rfl rfl ?_
  (((first | (refine run Γ hm 400 ?_) | (refine runD Γ hm 400 (by kernel_rfl) ?_)); (conv => whnf)); repeat (first | (refine ⟨fun (h : false = true) => (Bool.false_ne_true h).elim, fun _ => ?_⟩; ((first | (refine run Γ hm 400 ?_) | (refine runD Γ hm 400 (by kernel_rfl) ?_)); (conv => whnf))) | (refine ⟨fun _ => ?_, fun (h : true = false) => (Bool.false_ne_true h.symm).elim⟩; ((first | (refine run Γ hm 400 ?_) | (refine runD Γ hm 400 (by kernel_rfl) ?_)); (conv => whnf)))))
  refine ⟨fun h => ?_, fun h => ?_⟩
  · (((first | (refine run Γ hm 400 ?_) | (refine runD Γ hm 400 (by kernel_rfl) ?_)); (conv => whnf)); repeat (first | (refine ⟨fun (h : false = true) => (Bool.false_ne_true h).elim, fun _ => ?_⟩; ((first | (refine run Γ hm 400 ?_) | (refine runD Γ hm 400 (by kernel_rfl) ?_)); (conv => whnf))) | (refine ⟨fun _ => ?_, fun (h : true = false) => (Bool.false_ne_true h.symm).elim⟩; ((first | (refine run Γ hm 400 ?_) | (refine runD Γ hm 400 (by kernel_rfl) ?_)); (conv => whnf)))))
    exact done0 rfl (.cons .tmp .nil) rfl rfl
  have hlen := hlen (hnil (by
    have : ¬ (L.length : Int) = 0 := by simpa using h
    omega))
  clear h
  (((first | (refine run Γ hm 400 ?_) | (refine runD Γ hm 400 (by kernel_rfl) ?_)); (conv => whnf)); repeat (first | (refine ⟨fun (h : false = true) => (Bool.false_ne_true h).elim, fun _ => ?_⟩; ((first | (refine run Γ hm 400 ?_) | (refine runD Γ hm 400 (by kernel_rfl) ?_)); (conv => whnf))) | (refine ⟨fun _ => ?_, fun (h : true = false) => (Bool.false_ne_true h.symm).elim⟩; ((first | (refine run Γ hm 400 ?_) | (refine runD Γ hm 400 (by kernel_rfl) ?_)); (conv => whnf)))))
  refine ⟨fun h => absurd hlen (by have : ¬ (L.length : Int) = n.devices.length := by simpa using h
                                   omega), fun h => ?_⟩
  clear h
  (((first | (refine run Γ hm 400 ?_) | (refine runD Γ hm 400 (by kernel_rfl) ?_)); (conv => whnf)); repeat (first | (refine ⟨fun (h : false = true) => (Bool.false_ne_true h).elim, fun _ => ?_⟩; ((first | (refine run Γ hm 400 ?_) | (refine runD Γ hm 400 (by kernel_rfl) ?_)); (conv => whnf))) | (refine ⟨fun _ => ?_, fun (h : true = false) => (Bool.false_ne_true h.symm).elim⟩; ((first | (refine run Γ hm 400 ?_) | (refine runD Γ hm 400 (by kernel_rfl) ?_)); (conv => whnf)))))
  refine G_count L.length (fun j => [(1, .ref 8 (netSV n) 0), (3, .sl 1 intSV L), (23, .sl 1 intSV L), (24, intSV L.length), (25, intSV j)]) (fun _ => []) [] ⟨⟨rfl, rfl, rfl, rfl, rfl, rfl, rfl, rfl, rfl, rfl, trivial⟩, trivial, rfl, rfl⟩ ?_
  intro j hj
  (((first | (refine run Γ hm 400 ?_) | (refine runD Γ hm 400 (by kernel_rfl) ?_)); (conv => whnf)); repeat (first | (refine ⟨fun (h : false = true) => (Bool.false_ne_true h).elim, fun _ => ?_⟩; ((first | (refine run Γ hm 400 ?_) | (refine runD Γ hm 400 (by kernel_rfl) ?_)); (conv => whnf))) | (refine ⟨fun _ => ?_, fun (h : true = false) => (Bool.false_ne_true h.symm).elim⟩; ((first | (refine run Γ hm 400 ?_) | (refine runD Γ hm 400 (by kernel_rfl) ?_)); (conv => whnf)))))
  refine ⟨fun h => ?_, fun h => ?_⟩
  · have hlt : j < L.length := by simpa using h
    have hrj := hrange _ (List.getElem_mem hlt)
    have hxj : L[(j : Int).toNat]'(by omega) = L[j] := rfl
    obtain ⟨x, hx⟩ : ∃ x, L[j] = x := ⟨_, rfl⟩
    rw [hx] at hrj hxj
    (((first | (refine run Γ hm 400 ?_) | (refine runD Γ hm 400 (by kernel_rfl) ?_)); (conv => whnf)); repeat (first | (refine ⟨fun (h : false = true) => (Bool.false_ne_true h).elim, fun _ => ?_⟩; ((first | (refine run Γ hm 400 ?_) | (refine runD Γ hm 400 (by kernel_rfl) ?_)); (conv => whnf))) | (refine ⟨fun _ => ?_, fun (h : true = false) => (Bool.false_ne_true h.symm).elim⟩; ((first | (refine run Γ hm 400 ?_) | (refine runD Γ hm 400 (by kernel_rfl) ?_)); (conv => whnf)))))
    refine ⟨rfl, by omega, by omega, ?_⟩
    rw [hxj]
    ((conv => whnf); repeat (first | (refine ⟨fun (h : false = true) => (Bool.false_ne_true h).elim, fun _ => ?_⟩; ((first | (refine run Γ hm 400 ?_) | (refine runD Γ hm 400 (by kernel_rfl) ?_)); (conv => whnf))) | (refine ⟨fun _ => ?_, fun (h : true = false) => (Bool.false_ne_true h.symm).elim⟩; ((first | (refine run Γ hm 400 ?_) | (refine runD Γ hm 400 (by kernel_rfl) ?_)); (conv => whnf)))))
    refine ⟨fun h => absurd (of_decide_eq_true h) (by omega), fun _ => ?_⟩
    (((first | (refine run Γ hm 400 ?_) | (refine runD Γ hm 400 (by kernel_rfl) ?_)); (conv => whnf)); repeat (first | (refine ⟨fun (h : false = true) => (Bool.false_ne_true h).elim, fun _ => ?_⟩; ((first | (refine run Γ hm 400 ?_) | (refine runD Γ hm 400 (by kernel_rfl) ?_)); (conv => whnf))) | (refine ⟨fun _ => ?_, fun (h : true = false) => (Bool.false_ne_true h.symm).elim⟩; ((first | (refine run Γ hm 400 ?_) | (refine runD Γ hm 400 (by kernel_rfl) ?_)); (conv => whnf)))))
    refine ⟨fun h => absurd (of_decide_eq_true h) (by omega), fun _ => ?_⟩
    (((first | (refine run Γ hm 400 ?_) | (refine runD Γ hm 400 (by kernel_rfl) ?_)); (conv => whnf)); repeat (first | (refine ⟨fun (h : false = true) => (Bool.false_ne_true h).elim, fun _ => ?_⟩; ((first | (refine run Γ hm 400 ?_) | (refine runD Γ hm 400 (by kernel_rfl) ?_)); (conv => whnf))) | (refine ⟨fun _ => ?_, fun (h : true = false) => (Bool.false_ne_true h.symm).elim⟩; ((first | (refine run Γ hm 400 ?_) | (refine runD Γ hm 400 (by kernel_rfl) ?_)); (conv => whnf)))))
    refine G_count L.length (fun k => [(1, .ref 8 (netSV n) 0), (3, .sl 1 intSV L), (4, intSV j), (5, intSV x), (23, .sl 1 intSV L), (24, intSV L.length), (25, intSV j), (38, .sl 1 intSV L), (39, intSV L.length), (40, intSV k)]) (fun _ => []) [] ⟨⟨rfl, rfl, rfl, rfl, rfl, rfl, rfl, rfl, rfl, rfl, rfl, rfl, rfl, rfl, rfl, rfl, rfl, rfl, rfl, rfl, trivial⟩, trivial, rfl, rfl⟩ ?_
    intro k hk
    (((first | (refine run Γ hm 400 ?_) | (refine runD Γ hm 400 (by kernel_rfl) ?_)); (conv => whnf)); repeat (first | (refine ⟨fun (h : false = true) => (Bool.false_ne_true h).elim, fun _ => ?_⟩; ((first | (refine run Γ hm 400 ?_) | (refine runD Γ hm 400 (by kernel_rfl) ?_)); (conv => whnf))) | (refine ⟨fun _ => ?_, fun (h : true = false) => (Bool.false_ne_true h.symm).elim⟩; ((first | (refine run Γ hm 400 ?_) | (refine runD Γ hm 400 (by kernel_rfl) ?_)); (conv => whnf)))))
    refine ⟨fun h => ?_, fun h => ?_⟩
    · have hlt2 : k < L.length := by simpa using h
      have hxk : L[(k : Int).toNat]'(by omega) = L[k] := rfl
      have hun' := hun j k hlt hlt2
      have hpr' := hpr j k hlt hlt2 (by omega) (by omega)
      rw [hx] at hun' hpr'
      obtain ⟨y, hy⟩ : ∃ y, L[k] = y := ⟨_, rfl⟩
      rw [hy] at hxk hun' hpr'
      (((first | (refine run Γ hm 400 ?_) | (refine runD Γ hm 400 (by kernel_rfl) ?_)); (conv => whnf)); repeat (first | (refine ⟨fun (h : false = true) => (Bool.false_ne_true h).elim, fun _ => ?_⟩; ((first | (refine run Γ hm 400 ?_) | (refine runD Γ hm 400 (by kernel_rfl) ?_)); (conv => whnf))) | (refine ⟨fun _ => ?_, fun (h : true = false) => (Bool.false_ne_true h.symm).elim⟩; ((first | (refine run Γ hm 400 ?_) | (refine runD Γ hm 400 (by kernel_rfl) ?_)); (conv => whnf)))))
      refine ⟨rfl, by omega, by omega, ?_⟩
      rw [hxk]
      ((conv => whnf); repeat (first | (refine ⟨fun (h : false = true) => (Bool.false_ne_true h).elim, fun _ => ?_⟩; ((first | (refine run Γ hm 400 ?_) | (refine runD Γ hm 400 (by kernel_rfl) ?_)); (conv => whnf))) | (refine ⟨fun _ => ?_, fun (h : true = false) => (Bool.false_ne_true h.symm).elim⟩; ((first | (refine run Γ hm 400 ?_) | (refine runD Γ hm 400 (by kernel_rfl) ?_)); (conv => whnf)))))
      (repeat' (first | (refine ⟨fun h => ?_, fun h => ?_⟩ <;> (repeat (first | (simp only [placeB] at h) | (simp only [decide_eq_true_eq] at h) | (simp only [decide_eq_false_iff_not] at h) | (simp only [beq_iff_eq] at h) | (simp only [beq_eq_false_iff_ne] at h) | (simp only [bne_iff_ne] at h) | (simp only [bne_eq_false_iff_eq] at h) | (simp only [Bool.and_eq_true] at h) | (simp only [Bool.or_eq_true] at h) | (simp only [Bool.and_eq_false_iff] at h) | (simp only [Bool.or_eq_false_iff] at h) | (simp only [Bool.not_eq_true'] at h) | (simp only [Bool.not_eq_false'] at h) | (simp only [Bool.not_eq_eq_eq_not] at h) | (simp only [Bool.not_true] at h) | (simp only [Bool.not_false] at h))) <;> (((first | (refine run Γ hm 400 ?_) | (refine runD Γ hm 400 (by kernel_rfl) ?_)); (conv => whnf)); repeat (first | (refine ⟨fun (h : false = true) => (Bool.false_ne_true h).elim, fun _ => ?_⟩; ((first | (refine run Γ hm 400 ?_) | (refine runD Γ hm 400 (by kernel_rfl) ?_)); (conv => whnf))) | (refine ⟨fun _ => ?_, fun (h : true = false) => (Bool.false_ne_true h.symm).elim⟩; ((first | (refine run Γ hm 400 ?_) | (refine runD Γ hm 400 (by kernel_rfl) ?_)); (conv => whnf)))))) | (refine done0 rfl (.cons .tmp .nil) ?_ rfl) | (refine ⟨(by kernel_rfl), ?_⟩; ((conv => whnf); repeat (first | (refine ⟨fun (h : false = true) => (Bool.false_ne_true h).elim, fun _ => ?_⟩; ((first | (refine run Γ hm 400 ?_) | (refine runD Γ hm 400 (by kernel_rfl) ?_)); (conv => whnf))) | (refine ⟨fun _ => ?_, fun (h : true = false) => (Bool.false_ne_true h.symm).elim⟩; ((first | (refine run Γ hm 400 ?_) | (refine runD Γ hm 400 (by kernel_rfl) ?_)); (conv => whnf)))))) | (refine ⟨by (first | (unfold I64; omega) | omega | (simp only [Int.toNat_natCast]; omega) | done), by (first | (unfold I64; omega) | omega | (simp only [Int.toNat_natCast]; omega) | done), ?_⟩; ((conv => whnf); repeat (first | (refine ⟨fun (h : false = true) => (Bool.false_ne_true h).elim, fun _ => ?_⟩; ((first | (refine run Γ hm 400 ?_) | (refine runD Γ hm 400 (by kernel_rfl) ?_)); (conv => whnf))) | (refine ⟨fun _ => ?_, fun (h : true = false) => (Bool.false_ne_true h.symm).elim⟩; ((first | (refine run Γ hm 400 ?_) | (refine runD Γ hm 400 (by kernel_rfl) ?_)); (conv => whnf)))))) | (refine ⟨by (first | (unfold I64; omega) | omega | (simp only [Int.toNat_natCast]; omega) | done), ?_⟩; ((conv => whnf); repeat (first | (refine ⟨fun (h : false = true) => (Bool.false_ne_true h).elim, fun _ => ?_⟩; ((first | (refine run Γ hm 400 ?_) | (refine runD Γ hm 400 (by kernel_rfl) ?_)); (conv => whnf))) | (refine ⟨fun _ => ?_, fun (h : true = false) => (Bool.false_ne_true h.symm).elim⟩; ((first | (refine run Γ hm 400 ?_) | (refine runD Γ hm 400 (by kernel_rfl) ?_)); (conv => whnf)))))) | (refine G_next [] hlt2 ⟨⟨rfl, rfl, rfl, rfl, rfl, rfl, rfl, rfl, rfl, rfl, rfl, rfl, rfl, rfl, rfl, rfl, rfl, rfl, rfl, rfl, trivial⟩, trivial, rfl, rfl⟩)))
      all_goals (exfalso; clear hrs hF hun hpr; simp only [Int.toNat_natCast] at *; grind)
    · (((first | (refine run Γ hm 400 ?_) | (refine runD Γ hm 400 (by kernel_rfl) ?_)); (conv => whnf)); repeat (first | (refine ⟨fun (h : false = true) => (Bool.false_ne_true h).elim, fun _ => ?_⟩; ((first | (refine run Γ hm 400 ?_) | (refine runD Γ hm 400 (by kernel_rfl) ?_)); (conv => whnf))) | (refine ⟨fun _ => ?_, fun (h : true = false) => (Bool.false_ne_true h.symm).elim⟩; ((first | (refine run Γ hm 400 ?_) | (refine runD Γ hm 400 (by kernel_rfl) ?_)); (conv => whnf)))))
      refine ⟨by unfold I64; omega, ?_⟩
      ((conv => whnf); repeat (first | (refine ⟨fun (h : false = true) => (Bool.false_ne_true h).elim, fun _ => ?_⟩; ((first | (refine run Γ hm 400 ?_) | (refine runD Γ hm 400 (by kernel_rfl) ?_)); (conv => whnf))) | (refine ⟨fun _ => ?_, fun (h : true = false) => (Bool.false_ne_true h.symm).elim⟩; ((first | (refine run Γ hm 400 ?_) | (refine runD Γ hm 400 (by kernel_rfl) ?_)); (conv => whnf)))))
      exact G_next [] hlt ⟨⟨rfl, rfl, rfl, rfl, rfl, rfl, rfl, rfl, rfl, rfl, trivial⟩, trivial, rfl, rfl⟩
  · (((first | (refine run Γ hm 400 ?_) | (refine runD Γ hm 400 (by kernel_rfl) ?_)); (conv => whnf)); repeat (first | (refine ⟨fun (h : false = true) => (Bool.false_ne_true h).elim, fun _ => ?_⟩; ((first | (refine run Γ hm 400 ?_) | (refine runD Γ hm 400 (by kernel_rfl) ?_)); (conv => whnf))) | (refine ⟨fun _ => ?_, fun (h : true = false) => (Bool.false_ne_true h.symm).elim⟩; ((first | (refine run Γ hm 400 ?_) | (refine runD Γ hm 400 (by kernel_rfl) ?_)); (conv => whnf)))))
    exact done0 rfl (.cons .tmp .nil) rfl rfl
end Go.Sy.Ytjnkgkpenhjmfaa
