/-
  Contracts: places, lists. Contracts: lists asked by a function. Contracts: the judge of nets (package names). Texts, split at a byte: strings.Split. Numbers as texts. Contracts: the judge of nets (package names), 2. Contracts: the judge of nets (package names), 3. Contracts: names.Right.
-/
import Derived.Test.YtjomehmhkcnadaaGreatDoorB3

namespace Go.Sy.YtjomehmhkcnadaaGreatDoor
open Go.Proofs
-- SIMP: placeB

attribute [local irreducible] Go.Sy.G Go.Sy.DR
set_option maxRecDepth 20000
set_option maxHeartbeats 4000000

theorem placeS_Device {α : Type} (sz : Nat) (e : α → SV) (l : List α) (i : Int) : Sy.Spec Tryz.prog 50 [.sl sz e l, intSV i] [] (boolSV (placeB i l.length)) [] := contract Γ hm 100 F50 Tryz.ntmps50 rfl fun F hF => by
  ((conv=>whnf);repeat((first|refine aF ?_|refine aT ?_);(first|refine rG Γ hm ?_|refine rD Γ hm (by kernel_rfl) ?_);conv=>whnf))
  (repeat' (first | (refine ⟨fun h => ?_, fun h => ?_⟩ <;> (repeat (first | (simp only [placeB] at h) | (simp only [decide_eq_true_eq] at h) | (simp only [decide_eq_false_iff_not] at h) | (simp only [beq_iff_eq] at h) | (simp only [beq_eq_false_iff_ne] at h) | (simp only [bne_iff_ne] at h) | (simp only [bne_eq_false_iff_eq] at h) | (simp only [Bool.and_eq_true] at h) | (simp only [Bool.or_eq_true] at h) | (simp only [Bool.and_eq_false_iff] at h) | (simp only [Bool.or_eq_false_iff] at h) | (simp only [Bool.not_eq_true'] at h) | (simp only [Bool.not_eq_false'] at h) | (simp only [Bool.not_eq_eq_eq_not] at h) | (simp only [Bool.not_true] at h) | (simp only [Bool.not_false] at h))) <;> ((first|refine rG Γ hm ?_|refine rD Γ hm (by kernel_rfl) ?_);(conv=>whnf);repeat((first|refine aF ?_|refine aT ?_);(first|refine rG Γ hm ?_|refine rD Γ hm (by kernel_rfl) ?_);conv=>whnf))) | (refine done0 rfl (.cons .tmp .nil) ?_ rfl) | (refine ⟨(by kernel_rfl), ?_⟩; ((conv=>whnf);repeat((first|refine aF ?_|refine aT ?_);(first|refine rG Γ hm ?_|refine rD Γ hm (by kernel_rfl) ?_);conv=>whnf))) | (refine ⟨by (first | (unfold I64; omega) | omega | (simp only [Int.toNat_natCast]; omega) | done), by (first | (unfold I64; omega) | omega | (simp only [Int.toNat_natCast]; omega) | done), ?_⟩; ((conv=>whnf);repeat((first|refine aF ?_|refine aT ?_);(first|refine rG Γ hm ?_|refine rD Γ hm (by kernel_rfl) ?_);conv=>whnf))) | (refine ⟨by (first | (unfold I64; omega) | omega | (simp only [Int.toNat_natCast]; omega) | done), ?_⟩; ((conv=>whnf);repeat((first|refine aF ?_|refine aT ?_);(first|refine rG Γ hm ?_|refine rD Γ hm (by kernel_rfl) ?_);conv=>whnf)))))
  all_goals (refine congrArg boolSV ?_)
  all_goals grind [placeB]

theorem placeS_Irb {α : Type} (sz : Nat) (e : α → SV) (l : List α) (i : Int) : Sy.Spec Tryz.prog 77 [.sl sz e l, intSV i] [] (boolSV (placeB i l.length)) [] := contract Γ hm 100 F77 Tryz.ntmps77 rfl fun F hF => by
  ((conv=>whnf);repeat((first|refine aF ?_|refine aT ?_);(first|refine rG Γ hm ?_|refine rD Γ hm (by kernel_rfl) ?_);conv=>whnf))
  (repeat' (first | (refine ⟨fun h => ?_, fun h => ?_⟩ <;> (repeat (first | (simp only [placeB] at h) | (simp only [decide_eq_true_eq] at h) | (simp only [decide_eq_false_iff_not] at h) | (simp only [beq_iff_eq] at h) | (simp only [beq_eq_false_iff_ne] at h) | (simp only [bne_iff_ne] at h) | (simp only [bne_eq_false_iff_eq] at h) | (simp only [Bool.and_eq_true] at h) | (simp only [Bool.or_eq_true] at h) | (simp only [Bool.and_eq_false_iff] at h) | (simp only [Bool.or_eq_false_iff] at h) | (simp only [Bool.not_eq_true'] at h) | (simp only [Bool.not_eq_false'] at h) | (simp only [Bool.not_eq_eq_eq_not] at h) | (simp only [Bool.not_true] at h) | (simp only [Bool.not_false] at h))) <;> ((first|refine rG Γ hm ?_|refine rD Γ hm (by kernel_rfl) ?_);(conv=>whnf);repeat((first|refine aF ?_|refine aT ?_);(first|refine rG Γ hm ?_|refine rD Γ hm (by kernel_rfl) ?_);conv=>whnf))) | (refine done0 rfl (.cons .tmp .nil) ?_ rfl) | (refine ⟨(by kernel_rfl), ?_⟩; ((conv=>whnf);repeat((first|refine aF ?_|refine aT ?_);(first|refine rG Γ hm ?_|refine rD Γ hm (by kernel_rfl) ?_);conv=>whnf))) | (refine ⟨by (first | (unfold I64; omega) | omega | (simp only [Int.toNat_natCast]; omega) | done), by (first | (unfold I64; omega) | omega | (simp only [Int.toNat_natCast]; omega) | done), ?_⟩; ((conv=>whnf);repeat((first|refine aF ?_|refine aT ?_);(first|refine rG Γ hm ?_|refine rD Γ hm (by kernel_rfl) ?_);conv=>whnf))) | (refine ⟨by (first | (unfold I64; omega) | omega | (simp only [Int.toNat_natCast]; omega) | done), ?_⟩; ((conv=>whnf);repeat((first|refine aF ?_|refine aT ?_);(first|refine rG Γ hm ?_|refine rD Γ hm (by kernel_rfl) ?_);conv=>whnf)))))
  all_goals (refine congrArg boolSV ?_)
  all_goals grind [placeB]

theorem placeS_Link {α : Type} (sz : Nat) (e : α → SV) (l : List α) (i : Int) : Sy.Spec Tryz.prog 84 [.sl sz e l, intSV i] [] (boolSV (placeB i l.length)) [] := contract Γ hm 100 F84 Tryz.ntmps84 rfl fun F hF => by
  ((conv=>whnf);repeat((first|refine aF ?_|refine aT ?_);(first|refine rG Γ hm ?_|refine rD Γ hm (by kernel_rfl) ?_);conv=>whnf))
  (repeat' (first | (refine ⟨fun h => ?_, fun h => ?_⟩ <;> (repeat (first | (simp only [placeB] at h) | (simp only [decide_eq_true_eq] at h) | (simp only [decide_eq_false_iff_not] at h) | (simp only [beq_iff_eq] at h) | (simp only [beq_eq_false_iff_ne] at h) | (simp only [bne_iff_ne] at h) | (simp only [bne_eq_false_iff_eq] at h) | (simp only [Bool.and_eq_true] at h) | (simp only [Bool.or_eq_true] at h) | (simp only [Bool.and_eq_false_iff] at h) | (simp only [Bool.or_eq_false_iff] at h) | (simp only [Bool.not_eq_true'] at h) | (simp only [Bool.not_eq_false'] at h) | (simp only [Bool.not_eq_eq_eq_not] at h) | (simp only [Bool.not_true] at h) | (simp only [Bool.not_false] at h))) <;> ((first|refine rG Γ hm ?_|refine rD Γ hm (by kernel_rfl) ?_);(conv=>whnf);repeat((first|refine aF ?_|refine aT ?_);(first|refine rG Γ hm ?_|refine rD Γ hm (by kernel_rfl) ?_);conv=>whnf))) | (refine done0 rfl (.cons .tmp .nil) ?_ rfl) | (refine ⟨(by kernel_rfl), ?_⟩; ((conv=>whnf);repeat((first|refine aF ?_|refine aT ?_);(first|refine rG Γ hm ?_|refine rD Γ hm (by kernel_rfl) ?_);conv=>whnf))) | (refine ⟨by (first | (unfold I64; omega) | omega | (simp only [Int.toNat_natCast]; omega) | done), by (first | (unfold I64; omega) | omega | (simp only [Int.toNat_natCast]; omega) | done), ?_⟩; ((conv=>whnf);repeat((first|refine aF ?_|refine aT ?_);(first|refine rG Γ hm ?_|refine rD Γ hm (by kernel_rfl) ?_);conv=>whnf))) | (refine ⟨by (first | (unfold I64; omega) | omega | (simp only [Int.toNat_natCast]; omega) | done), ?_⟩; ((conv=>whnf);repeat((first|refine aF ?_|refine aT ?_);(first|refine rG Γ hm ?_|refine rD Γ hm (by kernel_rfl) ?_);conv=>whnf)))))
  all_goals (refine congrArg boolSV ?_)
  all_goals grind [placeB]

theorem placeS_Port {α : Type} (sz : Nat) (e : α → SV) (l : List α) (i : Int) : Sy.Spec Tryz.prog 85 [.sl sz e l, intSV i] [] (boolSV (placeB i l.length)) [] := contract Γ hm 100 F85 Tryz.ntmps85 rfl fun F hF => by
  ((conv=>whnf);repeat((first|refine aF ?_|refine aT ?_);(first|refine rG Γ hm ?_|refine rD Γ hm (by kernel_rfl) ?_);conv=>whnf))
  (repeat' (first | (refine ⟨fun h => ?_, fun h => ?_⟩ <;> (repeat (first | (simp only [placeB] at h) | (simp only [decide_eq_true_eq] at h) | (simp only [decide_eq_false_iff_not] at h) | (simp only [beq_iff_eq] at h) | (simp only [beq_eq_false_iff_ne] at h) | (simp only [bne_iff_ne] at h) | (simp only [bne_eq_false_iff_eq] at h) | (simp only [Bool.and_eq_true] at h) | (simp only [Bool.or_eq_true] at h) | (simp only [Bool.and_eq_false_iff] at h) | (simp only [Bool.or_eq_false_iff] at h) | (simp only [Bool.not_eq_true'] at h) | (simp only [Bool.not_eq_false'] at h) | (simp only [Bool.not_eq_eq_eq_not] at h) | (simp only [Bool.not_true] at h) | (simp only [Bool.not_false] at h))) <;> ((first|refine rG Γ hm ?_|refine rD Γ hm (by kernel_rfl) ?_);(conv=>whnf);repeat((first|refine aF ?_|refine aT ?_);(first|refine rG Γ hm ?_|refine rD Γ hm (by kernel_rfl) ?_);conv=>whnf))) | (refine done0 rfl (.cons .tmp .nil) ?_ rfl) | (refine ⟨(by kernel_rfl), ?_⟩; ((conv=>whnf);repeat((first|refine aF ?_|refine aT ?_);(first|refine rG Γ hm ?_|refine rD Γ hm (by kernel_rfl) ?_);conv=>whnf))) | (refine ⟨by (first | (unfold I64; omega) | omega | (simp only [Int.toNat_natCast]; omega) | done), by (first | (unfold I64; omega) | omega | (simp only [Int.toNat_natCast]; omega) | done), ?_⟩; ((conv=>whnf);repeat((first|refine aF ?_|refine aT ?_);(first|refine rG Γ hm ?_|refine rD Γ hm (by kernel_rfl) ?_);conv=>whnf))) | (refine ⟨by (first | (unfold I64; omega) | omega | (simp only [Int.toNat_natCast]; omega) | done), ?_⟩; ((conv=>whnf);repeat((first|refine aF ?_|refine aT ?_);(first|refine rG Γ hm ?_|refine rD Γ hm (by kernel_rfl) ?_);conv=>whnf)))))
  all_goals (refine congrArg boolSV ?_)
  all_goals grind [placeB]

theorem placeS_Domain {α : Type} (sz : Nat) (e : α → SV) (l : List α) (i : Int) : Sy.Spec Tryz.prog 86 [.sl sz e l, intSV i] [] (boolSV (placeB i l.length)) [] := contract Γ hm 100 F86 Tryz.ntmps86 rfl fun F hF => by
  ((conv=>whnf);repeat((first|refine aF ?_|refine aT ?_);(first|refine rG Γ hm ?_|refine rD Γ hm (by kernel_rfl) ?_);conv=>whnf))
  (repeat' (first | (refine ⟨fun h => ?_, fun h => ?_⟩ <;> (repeat (first | (simp only [placeB] at h) | (simp only [decide_eq_true_eq] at h) | (simp only [decide_eq_false_iff_not] at h) | (simp only [beq_iff_eq] at h) | (simp only [beq_eq_false_iff_ne] at h) | (simp only [bne_iff_ne] at h) | (simp only [bne_eq_false_iff_eq] at h) | (simp only [Bool.and_eq_true] at h) | (simp only [Bool.or_eq_true] at h) | (simp only [Bool.and_eq_false_iff] at h) | (simp only [Bool.or_eq_false_iff] at h) | (simp only [Bool.not_eq_true'] at h) | (simp only [Bool.not_eq_false'] at h) | (simp only [Bool.not_eq_eq_eq_not] at h) | (simp only [Bool.not_true] at h) | (simp only [Bool.not_false] at h))) <;> ((first|refine rG Γ hm ?_|refine rD Γ hm (by kernel_rfl) ?_);(conv=>whnf);repeat((first|refine aF ?_|refine aT ?_);(first|refine rG Γ hm ?_|refine rD Γ hm (by kernel_rfl) ?_);conv=>whnf))) | (refine done0 rfl (.cons .tmp .nil) ?_ rfl) | (refine ⟨(by kernel_rfl), ?_⟩; ((conv=>whnf);repeat((first|refine aF ?_|refine aT ?_);(first|refine rG Γ hm ?_|refine rD Γ hm (by kernel_rfl) ?_);conv=>whnf))) | (refine ⟨by (first | (unfold I64; omega) | omega | (simp only [Int.toNat_natCast]; omega) | done), by (first | (unfold I64; omega) | omega | (simp only [Int.toNat_natCast]; omega) | done), ?_⟩; ((conv=>whnf);repeat((first|refine aF ?_|refine aT ?_);(first|refine rG Γ hm ?_|refine rD Γ hm (by kernel_rfl) ?_);conv=>whnf))) | (refine ⟨by (first | (unfold I64; omega) | omega | (simp only [Int.toNat_natCast]; omega) | done), ?_⟩; ((conv=>whnf);repeat((first|refine aF ?_|refine aT ?_);(first|refine rG Γ hm ?_|refine rD Γ hm (by kernel_rfl) ?_);conv=>whnf)))))
  all_goals (refine congrArg boolSV ?_)
  all_goals grind [placeB]

theorem placeS_Vrf {α : Type} (sz : Nat) (e : α → SV) (l : List α) (i : Int) : Sy.Spec Tryz.prog 89 [.sl sz e l, intSV i] [] (boolSV (placeB i l.length)) [] := contract Γ hm 100 F89 Tryz.ntmps89 rfl fun F hF => by
  ((conv=>whnf);repeat((first|refine aF ?_|refine aT ?_);(first|refine rG Γ hm ?_|refine rD Γ hm (by kernel_rfl) ?_);conv=>whnf))
  (repeat' (first | (refine ⟨fun h => ?_, fun h => ?_⟩ <;> (repeat (first | (simp only [placeB] at h) | (simp only [decide_eq_true_eq] at h) | (simp only [decide_eq_false_iff_not] at h) | (simp only [beq_iff_eq] at h) | (simp only [beq_eq_false_iff_ne] at h) | (simp only [bne_iff_ne] at h) | (simp only [bne_eq_false_iff_eq] at h) | (simp only [Bool.and_eq_true] at h) | (simp only [Bool.or_eq_true] at h) | (simp only [Bool.and_eq_false_iff] at h) | (simp only [Bool.or_eq_false_iff] at h) | (simp only [Bool.not_eq_true'] at h) | (simp only [Bool.not_eq_false'] at h) | (simp only [Bool.not_eq_eq_eq_not] at h) | (simp only [Bool.not_true] at h) | (simp only [Bool.not_false] at h))) <;> ((first|refine rG Γ hm ?_|refine rD Γ hm (by kernel_rfl) ?_);(conv=>whnf);repeat((first|refine aF ?_|refine aT ?_);(first|refine rG Γ hm ?_|refine rD Γ hm (by kernel_rfl) ?_);conv=>whnf))) | (refine done0 rfl (.cons .tmp .nil) ?_ rfl) | (refine ⟨(by kernel_rfl), ?_⟩; ((conv=>whnf);repeat((first|refine aF ?_|refine aT ?_);(first|refine rG Γ hm ?_|refine rD Γ hm (by kernel_rfl) ?_);conv=>whnf))) | (refine ⟨by (first | (unfold I64; omega) | omega | (simp only [Int.toNat_natCast]; omega) | done), by (first | (unfold I64; omega) | omega | (simp only [Int.toNat_natCast]; omega) | done), ?_⟩; ((conv=>whnf);repeat((first|refine aF ?_|refine aT ?_);(first|refine rG Γ hm ?_|refine rD Γ hm (by kernel_rfl) ?_);conv=>whnf))) | (refine ⟨by (first | (unfold I64; omega) | omega | (simp only [Int.toNat_natCast]; omega) | done), ?_⟩; ((conv=>whnf);repeat((first|refine aF ?_|refine aT ?_);(first|refine rG Γ hm ?_|refine rD Γ hm (by kernel_rfl) ?_);conv=>whnf)))))
  all_goals (refine congrArg boolSV ?_)
  all_goals grind [placeB]

theorem indexS (l : List Int) (x : Int) (hl : Short l) : Sy.Spec Tryz.prog 82 [.sl 1 intSV l, intSV x] [] (intSV (idxI (· == x) l)) [] := contract Γ hm 100 F82 Tryz.ntmps82 rfl fun F hF => by
  unfold Short at hl
  ((conv=>whnf);repeat((first|refine aF ?_|refine aT ?_);(first|refine rG Γ hm ?_|refine rD Γ hm (by kernel_rfl) ?_);conv=>whnf))
  refine G_countP l.length (fun j => ∀ i (h : i < l.length), i < j → (l[i] == x) = false) (fun j => [(0, .sl 1 intSV l), (1, intSV x), (7, intSV l.length), (8, intSV j)]) (fun _ => []) [] (fun i h hj => absurd hj (by omega)) ⟨⟨rfl, rfl, rfl, rfl, rfl, rfl, rfl, rfl, trivial⟩, trivial, rfl, rfl⟩ ?_
  intro j hj hI
  ((first|refine rG Γ hm ?_|refine rD Γ hm (by kernel_rfl) ?_);(conv=>whnf);repeat((first|refine aF ?_|refine aT ?_);(first|refine rG Γ hm ?_|refine rD Γ hm (by kernel_rfl) ?_);conv=>whnf))
  (repeat' (first | (refine ⟨fun h => ?_, fun h => ?_⟩ <;> (repeat (first | (simp only [placeB] at h) | (simp only [decide_eq_true_eq] at h) | (simp only [decide_eq_false_iff_not] at h) | (simp only [beq_iff_eq] at h) | (simp only [beq_eq_false_iff_ne] at h) | (simp only [bne_iff_ne] at h) | (simp only [bne_eq_false_iff_eq] at h) | (simp only [Bool.and_eq_true] at h) | (simp only [Bool.or_eq_true] at h) | (simp only [Bool.and_eq_false_iff] at h) | (simp only [Bool.or_eq_false_iff] at h) | (simp only [Bool.not_eq_true'] at h) | (simp only [Bool.not_eq_false'] at h) | (simp only [Bool.not_eq_eq_eq_not] at h) | (simp only [Bool.not_true] at h) | (simp only [Bool.not_false] at h))) <;> ((first|refine rG Γ hm ?_|refine rD Γ hm (by kernel_rfl) ?_);(conv=>whnf);repeat((first|refine aF ?_|refine aT ?_);(first|refine rG Γ hm ?_|refine rD Γ hm (by kernel_rfl) ?_);conv=>whnf))) | (refine done0 rfl (.cons .tmp .nil) ?_ rfl) | (refine ⟨(by kernel_rfl), ?_⟩; ((conv=>whnf);repeat((first|refine aF ?_|refine aT ?_);(first|refine rG Γ hm ?_|refine rD Γ hm (by kernel_rfl) ?_);conv=>whnf))) | (refine ⟨by (first | (unfold I64; omega) | omega | (simp only [Int.toNat_natCast]; omega) | done), by (first | (unfold I64; omega) | omega | (simp only [Int.toNat_natCast]; omega) | done), ?_⟩; ((conv=>whnf);repeat((first|refine aF ?_|refine aT ?_);(first|refine rG Γ hm ?_|refine rD Γ hm (by kernel_rfl) ?_);conv=>whnf))) | (refine ⟨by (first | (unfold I64; omega) | omega | (simp only [Int.toNat_natCast]; omega) | done), ?_⟩; ((conv=>whnf);repeat((first|refine aF ?_|refine aT ?_);(first|refine rG Γ hm ?_|refine rD Γ hm (by kernel_rfl) ?_);conv=>whnf))) | (refine G_nextP [] hI (by omega) ?_ ⟨⟨rfl, rfl, rfl, rfl, rfl, rfl, rfl, rfl, trivial⟩, trivial, rfl, rfl⟩)))
  all_goals try (refine congrArg intSV ?_)
  · exact idxI_found (by omega) hI (by simpa using h.symm)
  · intro i hi hij
    rcases Nat.lt_or_ge i j with h1 | h1
    · exact hI i hi h1
    · have : i = j := by omega
      subst this
      simpa using Ne.symm h
  · exact idxI_none (fun i hi => hI i hi (by omega))

theorem containsS (l : List Int) (x : Int) (hl : Short l) : Sy.Spec Tryz.prog 83 [.sl 1 intSV l, intSV x] [] (boolSV (inB l x)) [] := contract Γ hm 100 F83 Tryz.ntmps83 rfl fun F hF => by
  ((conv=>whnf);repeat((first|refine aF ?_|refine aT ?_);(first|refine rG Γ hm ?_|refine rD Γ hm (by kernel_rfl) ?_);conv=>whnf))
  (repeat' (first | (refine ⟨fun h => ?_, fun h => ?_⟩ <;> (repeat (first | (simp only [placeB] at h) | (simp only [decide_eq_true_eq] at h) | (simp only [decide_eq_false_iff_not] at h) | (simp only [beq_iff_eq] at h) | (simp only [beq_eq_false_iff_ne] at h) | (simp only [bne_iff_ne] at h) | (simp only [bne_eq_false_iff_eq] at h) | (simp only [Bool.and_eq_true] at h) | (simp only [Bool.or_eq_true] at h) | (simp only [Bool.and_eq_false_iff] at h) | (simp only [Bool.or_eq_false_iff] at h) | (simp only [Bool.not_eq_true'] at h) | (simp only [Bool.not_eq_false'] at h) | (simp only [Bool.not_eq_eq_eq_not] at h) | (simp only [Bool.not_true] at h) | (simp only [Bool.not_false] at h))) <;> ((first|refine rG Γ hm ?_|refine rD Γ hm (by kernel_rfl) ?_);(conv=>whnf);repeat((first|refine aF ?_|refine aT ?_);(first|refine rG Γ hm ?_|refine rD Γ hm (by kernel_rfl) ?_);conv=>whnf))) | (refine done0 rfl (.cons .tmp .nil) ?_ rfl) | (refine ⟨(by kernel_rfl), ?_⟩; ((conv=>whnf);repeat((first|refine aF ?_|refine aT ?_);(first|refine rG Γ hm ?_|refine rD Γ hm (by kernel_rfl) ?_);conv=>whnf))) | (refine ⟨by (first | (unfold I64; omega) | omega | (simp only [Int.toNat_natCast]; omega) | done), by (first | (unfold I64; omega) | omega | (simp only [Int.toNat_natCast]; omega) | done), ?_⟩; ((conv=>whnf);repeat((first|refine aF ?_|refine aT ?_);(first|refine rG Γ hm ?_|refine rD Γ hm (by kernel_rfl) ?_);conv=>whnf))) | (refine ⟨by (first | (unfold I64; omega) | omega | (simp only [Int.toNat_natCast]; omega) | done), ?_⟩; ((conv=>whnf);repeat((first|refine aF ?_|refine aT ?_);(first|refine rG Γ hm ?_|refine rD Γ hm (by kernel_rfl) ?_);conv=>whnf))) | (refine call0 (indexS _ _ hl) F82 rfl rfl rfl rfl rfl ?_; ((first|refine rG Γ hm ?_|refine rD Γ hm (by kernel_rfl) ?_);(conv=>whnf);repeat((first|refine aF ?_|refine aT ?_);(first|refine rG Γ hm ?_|refine rD Γ hm (by kernel_rfl) ?_);conv=>whnf))) | (refine callD0 (indexS _ _ hl) F82 rfl rfl rfl (by kernel_rfl) rfl ?_; ((first|refine rG Γ hm ?_|refine rD Γ hm (by kernel_rfl) ?_);(conv=>whnf);repeat((first|refine aF ?_|refine aT ?_);(first|refine rG Γ hm ?_|refine rD Γ hm (by kernel_rfl) ?_);conv=>whnf)))))
  exact congrArg boolSV (idxI_any _ _).symm

def memberB (p : Port) (v : Int) : Bool := v != 0 && (v == p.native || inB p.tagged v)

theorem memberS (p : Port) (v : Int) (hl : Short p.tagged) : Sy.Spec Tryz.prog 87 [portSV p, intSV v] [] (boolSV (memberB p v)) [] := contract Γ hm 100 F87 Tryz.ntmps87 rfl fun F hF => by
  ((conv=>whnf);repeat((first|refine aF ?_|refine aT ?_);(first|refine rG Γ hm ?_|refine rD Γ hm (by kernel_rfl) ?_);conv=>whnf))
  (repeat' (first | (refine ⟨fun h => ?_, fun h => ?_⟩ <;> (repeat (first | (simp only [placeB] at h) | (simp only [decide_eq_true_eq] at h) | (simp only [decide_eq_false_iff_not] at h) | (simp only [beq_iff_eq] at h) | (simp only [beq_eq_false_iff_ne] at h) | (simp only [bne_iff_ne] at h) | (simp only [bne_eq_false_iff_eq] at h) | (simp only [Bool.and_eq_true] at h) | (simp only [Bool.or_eq_true] at h) | (simp only [Bool.and_eq_false_iff] at h) | (simp only [Bool.or_eq_false_iff] at h) | (simp only [Bool.not_eq_true'] at h) | (simp only [Bool.not_eq_false'] at h) | (simp only [Bool.not_eq_eq_eq_not] at h) | (simp only [Bool.not_true] at h) | (simp only [Bool.not_false] at h))) <;> ((first|refine rG Γ hm ?_|refine rD Γ hm (by kernel_rfl) ?_);(conv=>whnf);repeat((first|refine aF ?_|refine aT ?_);(first|refine rG Γ hm ?_|refine rD Γ hm (by kernel_rfl) ?_);conv=>whnf))) | (refine done0 rfl (.cons .tmp .nil) ?_ rfl) | (refine ⟨(by kernel_rfl), ?_⟩; ((conv=>whnf);repeat((first|refine aF ?_|refine aT ?_);(first|refine rG Γ hm ?_|refine rD Γ hm (by kernel_rfl) ?_);conv=>whnf))) | (refine ⟨by (first | (unfold I64; omega) | omega | (simp only [Int.toNat_natCast]; omega) | done), by (first | (unfold I64; omega) | omega | (simp only [Int.toNat_natCast]; omega) | done), ?_⟩; ((conv=>whnf);repeat((first|refine aF ?_|refine aT ?_);(first|refine rG Γ hm ?_|refine rD Γ hm (by kernel_rfl) ?_);conv=>whnf))) | (refine ⟨by (first | (unfold I64; omega) | omega | (simp only [Int.toNat_natCast]; omega) | done), ?_⟩; ((conv=>whnf);repeat((first|refine aF ?_|refine aT ?_);(first|refine rG Γ hm ?_|refine rD Γ hm (by kernel_rfl) ?_);conv=>whnf))) | (refine call0 (containsS _ _ hl) F83 rfl rfl rfl rfl rfl ?_; ((first|refine rG Γ hm ?_|refine rD Γ hm (by kernel_rfl) ?_);(conv=>whnf);repeat((first|refine aF ?_|refine aT ?_);(first|refine rG Γ hm ?_|refine rD Γ hm (by kernel_rfl) ?_);conv=>whnf))) | (refine callD0 (containsS _ _ hl) F83 rfl rfl rfl (by kernel_rfl) rfl ?_; ((first|refine rG Γ hm ?_|refine rD Γ hm (by kernel_rfl) ?_);(conv=>whnf);repeat((first|refine aF ?_|refine aT ?_);(first|refine rG Γ hm ?_|refine rD Γ hm (by kernel_rfl) ?_);conv=>whnf)))))
  all_goals (refine congrArg boolSV ?_)
  all_goals grind [memberB]

/-- num.Rising. -/
def riseP (l : List Int) (least most : Int) (i : Nat) (x : Int) : Bool := decide (least ≤ x) && decide (x ≤ most) && (i == 0 || decide (nth l ((i : Int) - 1) < x))
def risingB (l : List Int) (least most : Int) : Bool := decide (0 < l.length) && decide (l.length ≤ 16) && allB (riseP l least most) l

theorem numRisingS (l : List Int) (least most : Int) (hl : Short l) : Sy.Spec Tryz.prog 88 [.sl 1 intSV l, intSV least, intSV most] [] (boolSV (risingB l least most)) [] := contract Γ hm 100 F88 Tryz.ntmps88 rfl fun F hF => by
  unfold Short at hl
  ((conv=>whnf);repeat((first|refine aF ?_|refine aT ?_);(first|refine rG Γ hm ?_|refine rD Γ hm (by kernel_rfl) ?_);conv=>whnf))
  refine G_countP l.length (fun j => Upto (riseP l least most) l j) (fun j => [(0, .sl 1 intSV l), (1, intSV least), (2, intSV most), (9, .sl 1 intSV l), (10, intSV l.length), (11, intSV j)]) (fun _ => []) [] (upto_zero _ _) ⟨⟨rfl, rfl, rfl, rfl, rfl, rfl, rfl, rfl, rfl, rfl, rfl, rfl, trivial⟩, trivial, rfl, rfl⟩ ?_
  intro j hj hI
  ((first|refine rG Γ hm ?_|refine rD Γ hm (by kernel_rfl) ?_);(conv=>whnf);repeat((first|refine aF ?_|refine aT ?_);(first|refine rG Γ hm ?_|refine rD Γ hm (by kernel_rfl) ?_);conv=>whnf))
  (repeat' (first | (refine ⟨fun h => ?_, fun h => ?_⟩ <;> (repeat (first | (simp only [placeB] at h) | (simp only [decide_eq_true_eq] at h) | (simp only [decide_eq_false_iff_not] at h) | (simp only [beq_iff_eq] at h) | (simp only [beq_eq_false_iff_ne] at h) | (simp only [bne_iff_ne] at h) | (simp only [bne_eq_false_iff_eq] at h) | (simp only [Bool.and_eq_true] at h) | (simp only [Bool.or_eq_true] at h) | (simp only [Bool.and_eq_false_iff] at h) | (simp only [Bool.or_eq_false_iff] at h) | (simp only [Bool.not_eq_true'] at h) | (simp only [Bool.not_eq_false'] at h) | (simp only [Bool.not_eq_eq_eq_not] at h) | (simp only [Bool.not_true] at h) | (simp only [Bool.not_false] at h))) <;> ((first|refine rG Γ hm ?_|refine rD Γ hm (by kernel_rfl) ?_);(conv=>whnf);repeat((first|refine aF ?_|refine aT ?_);(first|refine rG Γ hm ?_|refine rD Γ hm (by kernel_rfl) ?_);conv=>whnf))) | (refine done0 rfl (.cons .tmp .nil) ?_ rfl) | (refine ⟨(by kernel_rfl), ?_⟩; ((conv=>whnf);repeat((first|refine aF ?_|refine aT ?_);(first|refine rG Γ hm ?_|refine rD Γ hm (by kernel_rfl) ?_);conv=>whnf))) | (refine ⟨by (first | (unfold I64; omega) | omega | (simp only [Int.toNat_natCast]; omega) | done), by (first | (unfold I64; omega) | omega | (simp only [Int.toNat_natCast]; omega) | done), ?_⟩; ((conv=>whnf);repeat((first|refine aF ?_|refine aT ?_);(first|refine rG Γ hm ?_|refine rD Γ hm (by kernel_rfl) ?_);conv=>whnf))) | (refine ⟨by (first | (unfold I64; omega) | omega | (simp only [Int.toNat_natCast]; omega) | done), ?_⟩; ((conv=>whnf);repeat((first|refine aF ?_|refine aT ?_);(first|refine rG Γ hm ?_|refine rD Γ hm (by kernel_rfl) ?_);conv=>whnf))) | (refine G_nextP [] hI (by omega) ?_ ⟨⟨rfl, rfl, rfl, rfl, rfl, rfl, rfl, rfl, rfl, rfl, rfl, rfl, trivial⟩, trivial, rfl, rfl⟩)))
  all_goals try (refine congrArg boolSV ?_)
  all_goals try simp only [Int.toNat_natCast, Int.pred_toNat] at *
  · rw [risingB, allB_false (i := j) (by omega) (by simp [riseP]; omega)]; simp
  · rw [risingB, allB_false (i := j) (by omega) (by simp [riseP]; omega)]; simp
  · rw [risingB, allB_false (i := j) (by omega) (by simp only [riseP, nth_eq (show ((j : Int) - 1).toNat < l.length by omega), Int.pred_toNat, Int.toNat_natCast]; simp; omega)]; simp
  · exact upto_next hI (by omega) (by simp only [riseP, nth_eq (show ((j : Int) - 1).toNat < l.length by omega), Int.pred_toNat, Int.toNat_natCast]; simp; omega)
  · exact upto_next hI (by omega) (by simp [riseP]; omega)
  · rw [risingB, upto_all hI (by omega), Bool.eq_iff_iff]; simp; omega
  · rw [risingB]; simp; omega

theorem risingS (l : List Int) (most : Int) (hl : Short l) : Sy.Spec Tryz.prog 53 [.sl 1 intSV l, intSV most] [] (boolSV (decide (l.length = 0) || risingB l 1 most)) [] := contract Γ hm 100 F53 Tryz.ntmps53 rfl fun F hF => by
  ((conv=>whnf);repeat((first|refine aF ?_|refine aT ?_);(first|refine rG Γ hm ?_|refine rD Γ hm (by kernel_rfl) ?_);conv=>whnf))
  (repeat' (first | (refine ⟨fun h => ?_, fun h => ?_⟩ <;> (repeat (first | (simp only [placeB] at h) | (simp only [decide_eq_true_eq] at h) | (simp only [decide_eq_false_iff_not] at h) | (simp only [beq_iff_eq] at h) | (simp only [beq_eq_false_iff_ne] at h) | (simp only [bne_iff_ne] at h) | (simp only [bne_eq_false_iff_eq] at h) | (simp only [Bool.and_eq_true] at h) | (simp only [Bool.or_eq_true] at h) | (simp only [Bool.and_eq_false_iff] at h) | (simp only [Bool.or_eq_false_iff] at h) | (simp only [Bool.not_eq_true'] at h) | (simp only [Bool.not_eq_false'] at h) | (simp only [Bool.not_eq_eq_eq_not] at h) | (simp only [Bool.not_true] at h) | (simp only [Bool.not_false] at h))) <;> ((first|refine rG Γ hm ?_|refine rD Γ hm (by kernel_rfl) ?_);(conv=>whnf);repeat((first|refine aF ?_|refine aT ?_);(first|refine rG Γ hm ?_|refine rD Γ hm (by kernel_rfl) ?_);conv=>whnf))) | (refine done0 rfl (.cons .tmp .nil) ?_ rfl) | (refine ⟨(by kernel_rfl), ?_⟩; ((conv=>whnf);repeat((first|refine aF ?_|refine aT ?_);(first|refine rG Γ hm ?_|refine rD Γ hm (by kernel_rfl) ?_);conv=>whnf))) | (refine ⟨by (first | (unfold I64; omega) | omega | (simp only [Int.toNat_natCast]; omega) | done), by (first | (unfold I64; omega) | omega | (simp only [Int.toNat_natCast]; omega) | done), ?_⟩; ((conv=>whnf);repeat((first|refine aF ?_|refine aT ?_);(first|refine rG Γ hm ?_|refine rD Γ hm (by kernel_rfl) ?_);conv=>whnf))) | (refine ⟨by (first | (unfold I64; omega) | omega | (simp only [Int.toNat_natCast]; omega) | done), ?_⟩; ((conv=>whnf);repeat((first|refine aF ?_|refine aT ?_);(first|refine rG Γ hm ?_|refine rD Γ hm (by kernel_rfl) ?_);conv=>whnf))) | (refine call0 (numRisingS l 1 most hl) F88 rfl rfl rfl rfl rfl ?_; ((first|refine rG Γ hm ?_|refine rD Γ hm (by kernel_rfl) ?_);(conv=>whnf);repeat((first|refine aF ?_|refine aT ?_);(first|refine rG Γ hm ?_|refine rD Γ hm (by kernel_rfl) ?_);conv=>whnf))) | (refine callD0 (numRisingS l 1 most hl) F88 rfl rfl rfl (by kernel_rfl) rfl ?_; ((first|refine rG Γ hm ?_|refine rD Γ hm (by kernel_rfl) ?_);(conv=>whnf);repeat((first|refine aF ?_|refine aT ?_);(first|refine rG Γ hm ?_|refine rD Γ hm (by kernel_rfl) ?_);conv=>whnf)))))
  all_goals (refine congrArg boolSV ?_)
  all_goals grind

end Go.Sy.YtjomehmhkcnadaaGreatDoor

namespace Go.Sy.YtjomehmhkcnadaaGreatDoor
open Go.Proofs
-- SIMP: placeB

attribute [local irreducible] Go.Sy.G Go.Sy.DR
set_option maxRecDepth 20000
set_option maxHeartbeats 4000000

theorem innL_append {K : List Nat} : ∀ (a b : List SV), innL K (a ++ b) = (innL K a && innL K b)
  | [], b => by simp [innL]
  | x :: a, b => by simp [innL, innL_append a b, Bool.and_assoc]

theorem clo_inn {f : FuncId} {first cap xs : List SV} (hc : (SV.clo (.func f) first cap).inn [] = true) (hx : innL [] xs = true) : innL [] (first ++ xs ++ cap) = true := by
  simp only [SV.inn, Bool.and_eq_true] at hc
  rw [innL_append, innL_append, hc.1, hc.2, hx]
  rfl

theorem indexFuncS_Domain (l : List Domain) (p : Domain → Bool) (f : FuncId) (first cap : List SV) (hc : (SV.clo (.func f) first cap).inn [] = true) (hf : ∀ x ∈ l, FunS Tryz.prog f (first ++ [domainSV x] ++ cap) (boolSV (p x))) (hl : Short l) :
    Sy.Spec Tryz.prog 104 [.sl 6 domainSV l, .clo (.func f) first cap] [] (intSV (idxI p l)) [] := contract Γ hm 100 F104 Tryz.ntmps104 rfl fun F hF => by
  unfold Short at hl
  have hin : ∀ x : Domain, innL [] (first ++ [domainSV x] ++ cap) = true := fun x => clo_inn hc rfl
  ((conv=>whnf);repeat((first|refine aF ?_|refine aT ?_);(first|refine rG Γ hm ?_|refine rD Γ hm (by kernel_rfl) ?_);conv=>whnf))
  refine G_countP l.length (fun j => Upto (fun _ x => !(p x)) l j) (fun j => [(0, .sl 6 domainSV l), (1, .clo (.func f) first cap), (7, intSV l.length), (8, intSV j)]) (fun _ => []) [] (upto_zero _ _) ⟨⟨rfl, rfl, ren_id _, hc, rfl, rfl, rfl, rfl, trivial⟩, trivial, rfl, rfl⟩ ?_
  intro j hj hI
  ((first|refine rG Γ hm ?_|refine rD Γ hm (by kernel_rfl) ?_);(conv=>whnf);repeat((first|refine aF ?_|refine aT ?_);(first|refine rG Γ hm ?_|refine rD Γ hm (by kernel_rfl) ?_);conv=>whnf))
  refine ⟨fun h => ?_, fun h => ?_⟩
  · have h := of_decide_eq_true h
    have hj2 : j < l.length := by omega
    ((first|refine rG Γ hm ?_|refine rD Γ hm (by kernel_rfl) ?_);(conv=>whnf);repeat((first|refine aF ?_|refine aT ?_);(first|refine rG Γ hm ?_|refine rD Γ hm (by kernel_rfl) ?_);conv=>whnf))
    refine ⟨rfl, by omega, by omega, ?_⟩
    ((conv=>whnf);repeat((first|refine aF ?_|refine aT ?_);(first|refine rG Γ hm ?_|refine rD Γ hm (by kernel_rfl) ?_);conv=>whnf))
    refine callC (hf l[j] (List.getElem_mem hj2)) rfl rfl rfl (by simp only [hin]; rfl) rfl rfl ?_
    ((first|refine rG Γ hm ?_|refine rD Γ hm (by kernel_rfl) ?_);(conv=>whnf);repeat((first|refine aF ?_|refine aT ?_);(first|refine rG Γ hm ?_|refine rD Γ hm (by kernel_rfl) ?_);conv=>whnf))
    refine ⟨fun h2 => ?_, fun h2 => ?_⟩
    · ((first|refine rG Γ hm ?_|refine rD Γ hm (by kernel_rfl) ?_);(conv=>whnf);repeat((first|refine aF ?_|refine aT ?_);(first|refine rG Γ hm ?_|refine rD Γ hm (by kernel_rfl) ?_);conv=>whnf))
      refine done0 rfl (.cons .tmp .nil) (congrArg intSV ?_) rfl
      exact idxI_found hj2 (fun i hi hij => by simpa using hI i hi hij) h2
    · ((first|refine rG Γ hm ?_|refine rD Γ hm (by kernel_rfl) ?_);(conv=>whnf);repeat((first|refine aF ?_|refine aT ?_);(first|refine rG Γ hm ?_|refine rD Γ hm (by kernel_rfl) ?_);conv=>whnf))
      refine ⟨by unfold I64; omega, ?_⟩
      ((conv=>whnf);repeat((first|refine aF ?_|refine aT ?_);(first|refine rG Γ hm ?_|refine rD Γ hm (by kernel_rfl) ?_);conv=>whnf))
      exact G_nextP [] hI hj2 (upto_next hI hj2 (by simp [h2])) ⟨⟨rfl, rfl, ren_id _, hc, rfl, rfl, rfl, rfl, trivial⟩, trivial, rfl, rfl⟩
  · have h := of_decide_eq_false h
    ((first|refine rG Γ hm ?_|refine rD Γ hm (by kernel_rfl) ?_);(conv=>whnf);repeat((first|refine aF ?_|refine aT ?_);(first|refine rG Γ hm ?_|refine rD Γ hm (by kernel_rfl) ?_);conv=>whnf))
    refine done0 rfl (.cons .tmp .nil) (congrArg intSV ?_) rfl
    exact idxI_none (fun i hi => by simpa using hI i hi (by omega))

theorem indexFuncS_Port (l : List Port) (p : Port → Bool) (f : FuncId) (first cap : List SV) (hc : (SV.clo (.func f) first cap).inn [] = true) (hf : ∀ x ∈ l, FunS Tryz.prog f (first ++ [portSV x] ++ cap) (boolSV (p x))) (hl : Short l) :
    Sy.Spec Tryz.prog 67 [.sl 7 portSV l, .clo (.func f) first cap] [] (intSV (idxI p l)) [] := contract Γ hm 100 F67 Tryz.ntmps67 rfl fun F hF => by
  unfold Short at hl
  have hin : ∀ x : Port, innL [] (first ++ [portSV x] ++ cap) = true := fun x => clo_inn hc rfl
  ((conv=>whnf);repeat((first|refine aF ?_|refine aT ?_);(first|refine rG Γ hm ?_|refine rD Γ hm (by kernel_rfl) ?_);conv=>whnf))
  refine G_countP l.length (fun j => Upto (fun _ x => !(p x)) l j) (fun j => [(0, .sl 7 portSV l), (1, .clo (.func f) first cap), (7, intSV l.length), (8, intSV j)]) (fun _ => []) [] (upto_zero _ _) ⟨⟨rfl, rfl, ren_id _, hc, rfl, rfl, rfl, rfl, trivial⟩, trivial, rfl, rfl⟩ ?_
  intro j hj hI
  ((first|refine rG Γ hm ?_|refine rD Γ hm (by kernel_rfl) ?_);(conv=>whnf);repeat((first|refine aF ?_|refine aT ?_);(first|refine rG Γ hm ?_|refine rD Γ hm (by kernel_rfl) ?_);conv=>whnf))
  refine ⟨fun h => ?_, fun h => ?_⟩
  · have h := of_decide_eq_true h
    have hj2 : j < l.length := by omega
    ((first|refine rG Γ hm ?_|refine rD Γ hm (by kernel_rfl) ?_);(conv=>whnf);repeat((first|refine aF ?_|refine aT ?_);(first|refine rG Γ hm ?_|refine rD Γ hm (by kernel_rfl) ?_);conv=>whnf))
    refine ⟨rfl, by omega, by omega, ?_⟩
    ((conv=>whnf);repeat((first|refine aF ?_|refine aT ?_);(first|refine rG Γ hm ?_|refine rD Γ hm (by kernel_rfl) ?_);conv=>whnf))
    refine callC (hf l[j] (List.getElem_mem hj2)) rfl rfl rfl (by simp only [hin]; rfl) rfl rfl ?_
    ((first|refine rG Γ hm ?_|refine rD Γ hm (by kernel_rfl) ?_);(conv=>whnf);repeat((first|refine aF ?_|refine aT ?_);(first|refine rG Γ hm ?_|refine rD Γ hm (by kernel_rfl) ?_);conv=>whnf))
    refine ⟨fun h2 => ?_, fun h2 => ?_⟩
    · ((first|refine rG Γ hm ?_|refine rD Γ hm (by kernel_rfl) ?_);(conv=>whnf);repeat((first|refine aF ?_|refine aT ?_);(first|refine rG Γ hm ?_|refine rD Γ hm (by kernel_rfl) ?_);conv=>whnf))
      refine done0 rfl (.cons .tmp .nil) (congrArg intSV ?_) rfl
      exact idxI_found hj2 (fun i hi hij => by simpa using hI i hi hij) h2
    · ((first|refine rG Γ hm ?_|refine rD Γ hm (by kernel_rfl) ?_);(conv=>whnf);repeat((first|refine aF ?_|refine aT ?_);(first|refine rG Γ hm ?_|refine rD Γ hm (by kernel_rfl) ?_);conv=>whnf))
      refine ⟨by unfold I64; omega, ?_⟩
      ((conv=>whnf);repeat((first|refine aF ?_|refine aT ?_);(first|refine rG Γ hm ?_|refine rD Γ hm (by kernel_rfl) ?_);conv=>whnf))
      exact G_nextP [] hI hj2 (upto_next hI hj2 (by simp [h2])) ⟨⟨rfl, rfl, ren_id _, hc, rfl, rfl, rfl, rfl, trivial⟩, trivial, rfl, rfl⟩
  · have h := of_decide_eq_false h
    ((first|refine rG Γ hm ?_|refine rD Γ hm (by kernel_rfl) ?_);(conv=>whnf);repeat((first|refine aF ?_|refine aT ?_);(first|refine rG Γ hm ?_|refine rD Γ hm (by kernel_rfl) ?_);conv=>whnf))
    refine done0 rfl (.cons .tmp .nil) (congrArg intSV ?_) rfl
    exact idxI_none (fun i hi => by simpa using hI i hi (by omega))

theorem allS_Port (l : List Port) (p : Nat → Port → Bool) (f : FuncId) (first cap : List SV) (hc : (SV.clo (.func f) first cap).inn [] = true) (hf : ∀ i (h : i < l.length), FunS Tryz.prog f (first ++ [intSV i, portSV l[i]] ++ cap) (boolSV (p i l[i]))) (hl : Short l) :
    Sy.Spec Tryz.prog 42 [.sl 7 portSV l, .clo (.func f) first cap] [] (boolSV (allB p l)) [] := contract Γ hm 100 F42 Tryz.ntmps42 rfl fun F hF => by
  unfold Short at hl
  have hin : ∀ (i : Nat) (x : Port), innL [] (first ++ [intSV i, portSV x] ++ cap) = true := fun i x => clo_inn hc rfl
  ((conv=>whnf);repeat((first|refine aF ?_|refine aT ?_);(first|refine rG Γ hm ?_|refine rD Γ hm (by kernel_rfl) ?_);conv=>whnf))
  refine G_countP l.length (fun j => Upto p l j) (fun j => [(0, .sl 7 portSV l), (1, .clo (.func f) first cap), (7, .sl 7 portSV l), (8, intSV l.length), (9, intSV j)]) (fun _ => []) [] (upto_zero _ _) ⟨⟨rfl, rfl, ren_id _, hc, rfl, rfl, rfl, rfl, rfl, rfl, trivial⟩, trivial, rfl, rfl⟩ ?_
  intro j hj hI
  ((first|refine rG Γ hm ?_|refine rD Γ hm (by kernel_rfl) ?_);(conv=>whnf);repeat((first|refine aF ?_|refine aT ?_);(first|refine rG Γ hm ?_|refine rD Γ hm (by kernel_rfl) ?_);conv=>whnf))
  refine ⟨fun h => ?_, fun h => ?_⟩
  · have h := of_decide_eq_true h
    have hj2 : j < l.length := by omega
    ((first|refine rG Γ hm ?_|refine rD Γ hm (by kernel_rfl) ?_);(conv=>whnf);repeat((first|refine aF ?_|refine aT ?_);(first|refine rG Γ hm ?_|refine rD Γ hm (by kernel_rfl) ?_);conv=>whnf))
    refine ⟨rfl, by omega, by omega, ?_⟩
    ((conv=>whnf);repeat((first|refine aF ?_|refine aT ?_);(first|refine rG Γ hm ?_|refine rD Γ hm (by kernel_rfl) ?_);conv=>whnf))
    refine callC (hf j hj2) rfl rfl rfl (by simp only [hin]; rfl) rfl rfl ?_
    ((first|refine rG Γ hm ?_|refine rD Γ hm (by kernel_rfl) ?_);(conv=>whnf);repeat((first|refine aF ?_|refine aT ?_);(first|refine rG Γ hm ?_|refine rD Γ hm (by kernel_rfl) ?_);conv=>whnf))
    refine ⟨fun h2 => ?_, fun h2 => ?_⟩
    · ((first|refine rG Γ hm ?_|refine rD Γ hm (by kernel_rfl) ?_);(conv=>whnf);repeat((first|refine aF ?_|refine aT ?_);(first|refine rG Γ hm ?_|refine rD Γ hm (by kernel_rfl) ?_);conv=>whnf))
      refine done0 rfl (.cons .tmp .nil) (congrArg boolSV ?_) rfl
      exact allB_false hj2 (by simpa using h2)
    · ((first|refine rG Γ hm ?_|refine rD Γ hm (by kernel_rfl) ?_);(conv=>whnf);repeat((first|refine aF ?_|refine aT ?_);(first|refine rG Γ hm ?_|refine rD Γ hm (by kernel_rfl) ?_);conv=>whnf))
      refine ⟨by unfold I64; omega, ?_⟩
      ((conv=>whnf);repeat((first|refine aF ?_|refine aT ?_);(first|refine rG Γ hm ?_|refine rD Γ hm (by kernel_rfl) ?_);conv=>whnf))
      exact G_nextP [] hI hj2 (upto_next hI hj2 (by simpa using h2)) ⟨⟨rfl, rfl, ren_id _, hc, rfl, rfl, rfl, rfl, rfl, rfl, trivial⟩, trivial, rfl, rfl⟩
  · have h := of_decide_eq_false h
    ((first|refine rG Γ hm ?_|refine rD Γ hm (by kernel_rfl) ?_);(conv=>whnf);repeat((first|refine aF ?_|refine aT ?_);(first|refine rG Γ hm ?_|refine rD Γ hm (by kernel_rfl) ?_);conv=>whnf))
    refine done0 rfl (.cons .tmp .nil) (congrArg boolSV ?_) rfl
    exact upto_all hI (by omega)

theorem allS_Link (l : List Link) (p : Nat → Link → Bool) (f : FuncId) (first cap : List SV) (hc : (SV.clo (.func f) first cap).inn [] = true) (hf : ∀ i (h : i < l.length), FunS Tryz.prog f (first ++ [intSV i, linkSV l[i]] ++ cap) (boolSV (p i l[i]))) (hl : Short l) :
    Sy.Spec Tryz.prog 44 [.sl 3 linkSV l, .clo (.func f) first cap] [] (boolSV (allB p l)) [] := contract Γ hm 100 F44 Tryz.ntmps44 rfl fun F hF => by
  unfold Short at hl
  have hin : ∀ (i : Nat) (x : Link), innL [] (first ++ [intSV i, linkSV x] ++ cap) = true := fun i x => clo_inn hc rfl
  ((conv=>whnf);repeat((first|refine aF ?_|refine aT ?_);(first|refine rG Γ hm ?_|refine rD Γ hm (by kernel_rfl) ?_);conv=>whnf))
  refine G_countP l.length (fun j => Upto p l j) (fun j => [(0, .sl 3 linkSV l), (1, .clo (.func f) first cap), (7, .sl 3 linkSV l), (8, intSV l.length), (9, intSV j)]) (fun _ => []) [] (upto_zero _ _) ⟨⟨rfl, rfl, ren_id _, hc, rfl, rfl, rfl, rfl, rfl, rfl, trivial⟩, trivial, rfl, rfl⟩ ?_
  intro j hj hI
  ((first|refine rG Γ hm ?_|refine rD Γ hm (by kernel_rfl) ?_);(conv=>whnf);repeat((first|refine aF ?_|refine aT ?_);(first|refine rG Γ hm ?_|refine rD Γ hm (by kernel_rfl) ?_);conv=>whnf))
  refine ⟨fun h => ?_, fun h => ?_⟩
  · have h := of_decide_eq_true h
    have hj2 : j < l.length := by omega
    ((first|refine rG Γ hm ?_|refine rD Γ hm (by kernel_rfl) ?_);(conv=>whnf);repeat((first|refine aF ?_|refine aT ?_);(first|refine rG Γ hm ?_|refine rD Γ hm (by kernel_rfl) ?_);conv=>whnf))
    refine ⟨rfl, by omega, by omega, ?_⟩
    ((conv=>whnf);repeat((first|refine aF ?_|refine aT ?_);(first|refine rG Γ hm ?_|refine rD Γ hm (by kernel_rfl) ?_);conv=>whnf))
    refine callC (hf j hj2) rfl rfl rfl (by simp only [hin]; rfl) rfl rfl ?_
    ((first|refine rG Γ hm ?_|refine rD Γ hm (by kernel_rfl) ?_);(conv=>whnf);repeat((first|refine aF ?_|refine aT ?_);(first|refine rG Γ hm ?_|refine rD Γ hm (by kernel_rfl) ?_);conv=>whnf))
    refine ⟨fun h2 => ?_, fun h2 => ?_⟩
    · ((first|refine rG Γ hm ?_|refine rD Γ hm (by kernel_rfl) ?_);(conv=>whnf);repeat((first|refine aF ?_|refine aT ?_);(first|refine rG Γ hm ?_|refine rD Γ hm (by kernel_rfl) ?_);conv=>whnf))
      refine done0 rfl (.cons .tmp .nil) (congrArg boolSV ?_) rfl
      exact allB_false hj2 (by simpa using h2)
    · ((first|refine rG Γ hm ?_|refine rD Γ hm (by kernel_rfl) ?_);(conv=>whnf);repeat((first|refine aF ?_|refine aT ?_);(first|refine rG Γ hm ?_|refine rD Γ hm (by kernel_rfl) ?_);conv=>whnf))
      refine ⟨by unfold I64; omega, ?_⟩
      ((conv=>whnf);repeat((first|refine aF ?_|refine aT ?_);(first|refine rG Γ hm ?_|refine rD Γ hm (by kernel_rfl) ?_);conv=>whnf))
      exact G_nextP [] hI hj2 (upto_next hI hj2 (by simpa using h2)) ⟨⟨rfl, rfl, ren_id _, hc, rfl, rfl, rfl, rfl, rfl, rfl, trivial⟩, trivial, rfl, rfl⟩
  · have h := of_decide_eq_false h
    ((first|refine rG Γ hm ?_|refine rD Γ hm (by kernel_rfl) ?_);(conv=>whnf);repeat((first|refine aF ?_|refine aT ?_);(first|refine rG Γ hm ?_|refine rD Γ hm (by kernel_rfl) ?_);conv=>whnf))
    refine done0 rfl (.cons .tmp .nil) (congrArg boolSV ?_) rfl
    exact upto_all hI (by omega)

theorem allS_Domain (l : List Domain) (p : Nat → Domain → Bool) (f : FuncId) (first cap : List SV) (hc : (SV.clo (.func f) first cap).inn [] = true) (hf : ∀ i (h : i < l.length), FunS Tryz.prog f (first ++ [intSV i, domainSV l[i]] ++ cap) (boolSV (p i l[i]))) (hl : Short l) :
    Sy.Spec Tryz.prog 39 [.sl 6 domainSV l, .clo (.func f) first cap] [] (boolSV (allB p l)) [] := contract Γ hm 100 F39 Tryz.ntmps39 rfl fun F hF => by
  unfold Short at hl
  have hin : ∀ (i : Nat) (x : Domain), innL [] (first ++ [intSV i, domainSV x] ++ cap) = true := fun i x => clo_inn hc rfl
  ((conv=>whnf);repeat((first|refine aF ?_|refine aT ?_);(first|refine rG Γ hm ?_|refine rD Γ hm (by kernel_rfl) ?_);conv=>whnf))
  refine G_countP l.length (fun j => Upto p l j) (fun j => [(0, .sl 6 domainSV l), (1, .clo (.func f) first cap), (7, .sl 6 domainSV l), (8, intSV l.length), (9, intSV j)]) (fun _ => []) [] (upto_zero _ _) ⟨⟨rfl, rfl, ren_id _, hc, rfl, rfl, rfl, rfl, rfl, rfl, trivial⟩, trivial, rfl, rfl⟩ ?_
  intro j hj hI
  ((first|refine rG Γ hm ?_|refine rD Γ hm (by kernel_rfl) ?_);(conv=>whnf);repeat((first|refine aF ?_|refine aT ?_);(first|refine rG Γ hm ?_|refine rD Γ hm (by kernel_rfl) ?_);conv=>whnf))
  refine ⟨fun h => ?_, fun h => ?_⟩
  · have h := of_decide_eq_true h
    have hj2 : j < l.length := by omega
    ((first|refine rG Γ hm ?_|refine rD Γ hm (by kernel_rfl) ?_);(conv=>whnf);repeat((first|refine aF ?_|refine aT ?_);(first|refine rG Γ hm ?_|refine rD Γ hm (by kernel_rfl) ?_);conv=>whnf))
    refine ⟨rfl, by omega, by omega, ?_⟩
    ((conv=>whnf);repeat((first|refine aF ?_|refine aT ?_);(first|refine rG Γ hm ?_|refine rD Γ hm (by kernel_rfl) ?_);conv=>whnf))
    refine callC (hf j hj2) rfl rfl rfl (by simp only [hin]; rfl) rfl rfl ?_
    ((first|refine rG Γ hm ?_|refine rD Γ hm (by kernel_rfl) ?_);(conv=>whnf);repeat((first|refine aF ?_|refine aT ?_);(first|refine rG Γ hm ?_|refine rD Γ hm (by kernel_rfl) ?_);conv=>whnf))
    refine ⟨fun h2 => ?_, fun h2 => ?_⟩
    · ((first|refine rG Γ hm ?_|refine rD Γ hm (by kernel_rfl) ?_);(conv=>whnf);repeat((first|refine aF ?_|refine aT ?_);(first|refine rG Γ hm ?_|refine rD Γ hm (by kernel_rfl) ?_);conv=>whnf))
      refine done0 rfl (.cons .tmp .nil) (congrArg boolSV ?_) rfl
      exact allB_false hj2 (by simpa using h2)
    · ((first|refine rG Γ hm ?_|refine rD Γ hm (by kernel_rfl) ?_);(conv=>whnf);repeat((first|refine aF ?_|refine aT ?_);(first|refine rG Γ hm ?_|refine rD Γ hm (by kernel_rfl) ?_);conv=>whnf))
      refine ⟨by unfold I64; omega, ?_⟩
      ((conv=>whnf);repeat((first|refine aF ?_|refine aT ?_);(first|refine rG Γ hm ?_|refine rD Γ hm (by kernel_rfl) ?_);conv=>whnf))
      exact G_nextP [] hI hj2 (upto_next hI hj2 (by simpa using h2)) ⟨⟨rfl, rfl, ren_id _, hc, rfl, rfl, rfl, rfl, rfl, rfl, trivial⟩, trivial, rfl, rfl⟩
  · have h := of_decide_eq_false h
    ((first|refine rG Γ hm ?_|refine rD Γ hm (by kernel_rfl) ?_);(conv=>whnf);repeat((first|refine aF ?_|refine aT ?_);(first|refine rG Γ hm ?_|refine rD Γ hm (by kernel_rfl) ?_);conv=>whnf))
    refine done0 rfl (.cons .tmp .nil) (congrArg boolSV ?_) rfl
    exact upto_all hI (by omega)

theorem allS_Static (l : List Static) (p : Nat → Static → Bool) (f : FuncId) (first cap : List SV) (hc : (SV.clo (.func f) first cap).inn [] = true) (hf : ∀ i (h : i < l.length), FunS Tryz.prog f (first ++ [intSV i, staticSV l[i]] ++ cap) (boolSV (p i l[i]))) (hl : Short l) :
    Sy.Spec Tryz.prog 46 [.sl 4 staticSV l, .clo (.func f) first cap] [] (boolSV (allB p l)) [] := contract Γ hm 100 F46 Tryz.ntmps46 rfl fun F hF => by
  unfold Short at hl
  have hin : ∀ (i : Nat) (x : Static), innL [] (first ++ [intSV i, staticSV x] ++ cap) = true := fun i x => clo_inn hc rfl
  ((conv=>whnf);repeat((first|refine aF ?_|refine aT ?_);(first|refine rG Γ hm ?_|refine rD Γ hm (by kernel_rfl) ?_);conv=>whnf))
  refine G_countP l.length (fun j => Upto p l j) (fun j => [(0, .sl 4 staticSV l), (1, .clo (.func f) first cap), (7, .sl 4 staticSV l), (8, intSV l.length), (9, intSV j)]) (fun _ => []) [] (upto_zero _ _) ⟨⟨rfl, rfl, ren_id _, hc, rfl, rfl, rfl, rfl, rfl, rfl, trivial⟩, trivial, rfl, rfl⟩ ?_
  intro j hj hI
  ((first|refine rG Γ hm ?_|refine rD Γ hm (by kernel_rfl) ?_);(conv=>whnf);repeat((first|refine aF ?_|refine aT ?_);(first|refine rG Γ hm ?_|refine rD Γ hm (by kernel_rfl) ?_);conv=>whnf))
  refine ⟨fun h => ?_, fun h => ?_⟩
  · have h := of_decide_eq_true h
    have hj2 : j < l.length := by omega
    ((first|refine rG Γ hm ?_|refine rD Γ hm (by kernel_rfl) ?_);(conv=>whnf);repeat((first|refine aF ?_|refine aT ?_);(first|refine rG Γ hm ?_|refine rD Γ hm (by kernel_rfl) ?_);conv=>whnf))
    refine ⟨rfl, by omega, by omega, ?_⟩
    ((conv=>whnf);repeat((first|refine aF ?_|refine aT ?_);(first|refine rG Γ hm ?_|refine rD Γ hm (by kernel_rfl) ?_);conv=>whnf))
    refine callC (hf j hj2) rfl rfl rfl (by simp only [hin]; rfl) rfl rfl ?_
    ((first|refine rG Γ hm ?_|refine rD Γ hm (by kernel_rfl) ?_);(conv=>whnf);repeat((first|refine aF ?_|refine aT ?_);(first|refine rG Γ hm ?_|refine rD Γ hm (by kernel_rfl) ?_);conv=>whnf))
    refine ⟨fun h2 => ?_, fun h2 => ?_⟩
    · ((first|refine rG Γ hm ?_|refine rD Γ hm (by kernel_rfl) ?_);(conv=>whnf);repeat((first|refine aF ?_|refine aT ?_);(first|refine rG Γ hm ?_|refine rD Γ hm (by kernel_rfl) ?_);conv=>whnf))
      refine done0 rfl (.cons .tmp .nil) (congrArg boolSV ?_) rfl
      exact allB_false hj2 (by simpa using h2)
    · ((first|refine rG Γ hm ?_|refine rD Γ hm (by kernel_rfl) ?_);(conv=>whnf);repeat((first|refine aF ?_|refine aT ?_);(first|refine rG Γ hm ?_|refine rD Γ hm (by kernel_rfl) ?_);conv=>whnf))
      refine ⟨by unfold I64; omega, ?_⟩
      ((conv=>whnf);repeat((first|refine aF ?_|refine aT ?_);(first|refine rG Γ hm ?_|refine rD Γ hm (by kernel_rfl) ?_);conv=>whnf))
      exact G_nextP [] hI hj2 (upto_next hI hj2 (by simpa using h2)) ⟨⟨rfl, rfl, ren_id _, hc, rfl, rfl, rfl, rfl, rfl, rfl, trivial⟩, trivial, rfl, rfl⟩
  · have h := of_decide_eq_false h
    ((first|refine rG Γ hm ?_|refine rD Γ hm (by kernel_rfl) ?_);(conv=>whnf);repeat((first|refine aF ?_|refine aT ?_);(first|refine rG Γ hm ?_|refine rD Γ hm (by kernel_rfl) ?_);conv=>whnf))
    refine done0 rfl (.cons .tmp .nil) (congrArg boolSV ?_) rfl
    exact upto_all hI (by omega)

theorem allS_Flood (l : List Flood) (p : Nat → Flood → Bool) (f : FuncId) (first cap : List SV) (hc : (SV.clo (.func f) first cap).inn [] = true) (hf : ∀ i (h : i < l.length), FunS Tryz.prog f (first ++ [intSV i, floodSV l[i]] ++ cap) (boolSV (p i l[i]))) (hl : Short l) :
    Sy.Spec Tryz.prog 48 [.sl 4 floodSV l, .clo (.func f) first cap] [] (boolSV (allB p l)) [] := contract Γ hm 100 F48 Tryz.ntmps48 rfl fun F hF => by
  unfold Short at hl
  have hin : ∀ (i : Nat) (x : Flood), innL [] (first ++ [intSV i, floodSV x] ++ cap) = true := fun i x => clo_inn hc rfl
  ((conv=>whnf);repeat((first|refine aF ?_|refine aT ?_);(first|refine rG Γ hm ?_|refine rD Γ hm (by kernel_rfl) ?_);conv=>whnf))
  refine G_countP l.length (fun j => Upto p l j) (fun j => [(0, .sl 4 floodSV l), (1, .clo (.func f) first cap), (7, .sl 4 floodSV l), (8, intSV l.length), (9, intSV j)]) (fun _ => []) [] (upto_zero _ _) ⟨⟨rfl, rfl, ren_id _, hc, rfl, rfl, rfl, rfl, rfl, rfl, trivial⟩, trivial, rfl, rfl⟩ ?_
  intro j hj hI
  ((first|refine rG Γ hm ?_|refine rD Γ hm (by kernel_rfl) ?_);(conv=>whnf);repeat((first|refine aF ?_|refine aT ?_);(first|refine rG Γ hm ?_|refine rD Γ hm (by kernel_rfl) ?_);conv=>whnf))
  refine ⟨fun h => ?_, fun h => ?_⟩
  · have h := of_decide_eq_true h
    have hj2 : j < l.length := by omega
    ((first|refine rG Γ hm ?_|refine rD Γ hm (by kernel_rfl) ?_);(conv=>whnf);repeat((first|refine aF ?_|refine aT ?_);(first|refine rG Γ hm ?_|refine rD Γ hm (by kernel_rfl) ?_);conv=>whnf))
    refine ⟨rfl, by omega, by omega, ?_⟩
    ((conv=>whnf);repeat((first|refine aF ?_|refine aT ?_);(first|refine rG Γ hm ?_|refine rD Γ hm (by kernel_rfl) ?_);conv=>whnf))
    refine callC (hf j hj2) rfl rfl rfl (by simp only [hin]; rfl) rfl rfl ?_
    ((first|refine rG Γ hm ?_|refine rD Γ hm (by kernel_rfl) ?_);(conv=>whnf);repeat((first|refine aF ?_|refine aT ?_);(first|refine rG Γ hm ?_|refine rD Γ hm (by kernel_rfl) ?_);conv=>whnf))
    refine ⟨fun h2 => ?_, fun h2 => ?_⟩
    · ((first|refine rG Γ hm ?_|refine rD Γ hm (by kernel_rfl) ?_);(conv=>whnf);repeat((first|refine aF ?_|refine aT ?_);(first|refine rG Γ hm ?_|refine rD Γ hm (by kernel_rfl) ?_);conv=>whnf))
      refine done0 rfl (.cons .tmp .nil) (congrArg boolSV ?_) rfl
      exact allB_false hj2 (by simpa using h2)
    · ((first|refine rG Γ hm ?_|refine rD Γ hm (by kernel_rfl) ?_);(conv=>whnf);repeat((first|refine aF ?_|refine aT ?_);(first|refine rG Γ hm ?_|refine rD Γ hm (by kernel_rfl) ?_);conv=>whnf))
      refine ⟨by unfold I64; omega, ?_⟩
      ((conv=>whnf);repeat((first|refine aF ?_|refine aT ?_);(first|refine rG Γ hm ?_|refine rD Γ hm (by kernel_rfl) ?_);conv=>whnf))
      exact G_nextP [] hI hj2 (upto_next hI hj2 (by simpa using h2)) ⟨⟨rfl, rfl, ren_id _, hc, rfl, rfl, rfl, rfl, rfl, rfl, trivial⟩, trivial, rfl, rfl⟩
  · have h := of_decide_eq_false h
    ((first|refine rG Γ hm ?_|refine rD Γ hm (by kernel_rfl) ?_);(conv=>whnf);repeat((first|refine aF ?_|refine aT ?_);(first|refine rG Γ hm ?_|refine rD Γ hm (by kernel_rfl) ?_);conv=>whnf))
    refine done0 rfl (.cons .tmp .nil) (congrArg boolSV ?_) rfl
    exact upto_all hI (by omega)

theorem allS_Vrf (l : List Vrf) (p : Nat → Vrf → Bool) (f : FuncId) (first cap : List SV) (hc : (SV.clo (.func f) first cap).inn [] = true) (hf : ∀ i (h : i < l.length), FunS Tryz.prog f (first ++ [intSV i, vrfSV l[i]] ++ cap) (boolSV (p i l[i]))) (hl : Short l) :
    Sy.Spec Tryz.prog 51 [.sl 5 vrfSV l, .clo (.func f) first cap] [] (boolSV (allB p l)) [] := contract Γ hm 100 F51 Tryz.ntmps51 rfl fun F hF => by
  unfold Short at hl
  have hin : ∀ (i : Nat) (x : Vrf), innL [] (first ++ [intSV i, vrfSV x] ++ cap) = true := fun i x => clo_inn hc rfl
  ((conv=>whnf);repeat((first|refine aF ?_|refine aT ?_);(first|refine rG Γ hm ?_|refine rD Γ hm (by kernel_rfl) ?_);conv=>whnf))
  refine G_countP l.length (fun j => Upto p l j) (fun j => [(0, .sl 5 vrfSV l), (1, .clo (.func f) first cap), (7, .sl 5 vrfSV l), (8, intSV l.length), (9, intSV j)]) (fun _ => []) [] (upto_zero _ _) ⟨⟨rfl, rfl, ren_id _, hc, rfl, rfl, rfl, rfl, rfl, rfl, trivial⟩, trivial, rfl, rfl⟩ ?_
  intro j hj hI
  ((first|refine rG Γ hm ?_|refine rD Γ hm (by kernel_rfl) ?_);(conv=>whnf);repeat((first|refine aF ?_|refine aT ?_);(first|refine rG Γ hm ?_|refine rD Γ hm (by kernel_rfl) ?_);conv=>whnf))
  refine ⟨fun h => ?_, fun h => ?_⟩
  · have h := of_decide_eq_true h
    have hj2 : j < l.length := by omega
    ((first|refine rG Γ hm ?_|refine rD Γ hm (by kernel_rfl) ?_);(conv=>whnf);repeat((first|refine aF ?_|refine aT ?_);(first|refine rG Γ hm ?_|refine rD Γ hm (by kernel_rfl) ?_);conv=>whnf))
    refine ⟨rfl, by omega, by omega, ?_⟩
    ((conv=>whnf);repeat((first|refine aF ?_|refine aT ?_);(first|refine rG Γ hm ?_|refine rD Γ hm (by kernel_rfl) ?_);conv=>whnf))
    refine callC (hf j hj2) rfl rfl rfl (by simp only [hin]; rfl) rfl rfl ?_
    ((first|refine rG Γ hm ?_|refine rD Γ hm (by kernel_rfl) ?_);(conv=>whnf);repeat((first|refine aF ?_|refine aT ?_);(first|refine rG Γ hm ?_|refine rD Γ hm (by kernel_rfl) ?_);conv=>whnf))
    refine ⟨fun h2 => ?_, fun h2 => ?_⟩
    · ((first|refine rG Γ hm ?_|refine rD Γ hm (by kernel_rfl) ?_);(conv=>whnf);repeat((first|refine aF ?_|refine aT ?_);(first|refine rG Γ hm ?_|refine rD Γ hm (by kernel_rfl) ?_);conv=>whnf))
      refine done0 rfl (.cons .tmp .nil) (congrArg boolSV ?_) rfl
      exact allB_false hj2 (by simpa using h2)
    · ((first|refine rG Γ hm ?_|refine rD Γ hm (by kernel_rfl) ?_);(conv=>whnf);repeat((first|refine aF ?_|refine aT ?_);(first|refine rG Γ hm ?_|refine rD Γ hm (by kernel_rfl) ?_);conv=>whnf))
      refine ⟨by unfold I64; omega, ?_⟩
      ((conv=>whnf);repeat((first|refine aF ?_|refine aT ?_);(first|refine rG Γ hm ?_|refine rD Γ hm (by kernel_rfl) ?_);conv=>whnf))
      exact G_nextP [] hI hj2 (upto_next hI hj2 (by simpa using h2)) ⟨⟨rfl, rfl, ren_id _, hc, rfl, rfl, rfl, rfl, rfl, rfl, trivial⟩, trivial, rfl, rfl⟩
  · have h := of_decide_eq_false h
    ((first|refine rG Γ hm ?_|refine rD Γ hm (by kernel_rfl) ?_);(conv=>whnf);repeat((first|refine aF ?_|refine aT ?_);(first|refine rG Γ hm ?_|refine rD Γ hm (by kernel_rfl) ?_);conv=>whnf))
    refine done0 rfl (.cons .tmp .nil) (congrArg boolSV ?_) rfl
    exact upto_all hI (by omega)

theorem allS_Irb (l : List Irb) (p : Nat → Irb → Bool) (f : FuncId) (first cap : List SV) (hc : (SV.clo (.func f) first cap).inn [] = true) (hf : ∀ i (h : i < l.length), FunS Tryz.prog f (first ++ [intSV i, irbSV l[i]] ++ cap) (boolSV (p i l[i]))) (hl : Short l) :
    Sy.Spec Tryz.prog 54 [.sl 5 irbSV l, .clo (.func f) first cap] [] (boolSV (allB p l)) [] := contract Γ hm 100 F54 Tryz.ntmps54 rfl fun F hF => by
  unfold Short at hl
  have hin : ∀ (i : Nat) (x : Irb), innL [] (first ++ [intSV i, irbSV x] ++ cap) = true := fun i x => clo_inn hc rfl
  ((conv=>whnf);repeat((first|refine aF ?_|refine aT ?_);(first|refine rG Γ hm ?_|refine rD Γ hm (by kernel_rfl) ?_);conv=>whnf))
  refine G_countP l.length (fun j => Upto p l j) (fun j => [(0, .sl 5 irbSV l), (1, .clo (.func f) first cap), (7, .sl 5 irbSV l), (8, intSV l.length), (9, intSV j)]) (fun _ => []) [] (upto_zero _ _) ⟨⟨rfl, rfl, ren_id _, hc, rfl, rfl, rfl, rfl, rfl, rfl, trivial⟩, trivial, rfl, rfl⟩ ?_
  intro j hj hI
  ((first|refine rG Γ hm ?_|refine rD Γ hm (by kernel_rfl) ?_);(conv=>whnf);repeat((first|refine aF ?_|refine aT ?_);(first|refine rG Γ hm ?_|refine rD Γ hm (by kernel_rfl) ?_);conv=>whnf))
  refine ⟨fun h => ?_, fun h => ?_⟩
  · have h := of_decide_eq_true h
    have hj2 : j < l.length := by omega
    ((first|refine rG Γ hm ?_|refine rD Γ hm (by kernel_rfl) ?_);(conv=>whnf);repeat((first|refine aF ?_|refine aT ?_);(first|refine rG Γ hm ?_|refine rD Γ hm (by kernel_rfl) ?_);conv=>whnf))
    refine ⟨rfl, by omega, by omega, ?_⟩
    ((conv=>whnf);repeat((first|refine aF ?_|refine aT ?_);(first|refine rG Γ hm ?_|refine rD Γ hm (by kernel_rfl) ?_);conv=>whnf))
    refine callC (hf j hj2) rfl rfl rfl (by simp only [hin]; rfl) rfl rfl ?_
    ((first|refine rG Γ hm ?_|refine rD Γ hm (by kernel_rfl) ?_);(conv=>whnf);repeat((first|refine aF ?_|refine aT ?_);(first|refine rG Γ hm ?_|refine rD Γ hm (by kernel_rfl) ?_);conv=>whnf))
    refine ⟨fun h2 => ?_, fun h2 => ?_⟩
    · ((first|refine rG Γ hm ?_|refine rD Γ hm (by kernel_rfl) ?_);(conv=>whnf);repeat((first|refine aF ?_|refine aT ?_);(first|refine rG Γ hm ?_|refine rD Γ hm (by kernel_rfl) ?_);conv=>whnf))
      refine done0 rfl (.cons .tmp .nil) (congrArg boolSV ?_) rfl
      exact allB_false hj2 (by simpa using h2)
    · ((first|refine rG Γ hm ?_|refine rD Γ hm (by kernel_rfl) ?_);(conv=>whnf);repeat((first|refine aF ?_|refine aT ?_);(first|refine rG Γ hm ?_|refine rD Γ hm (by kernel_rfl) ?_);conv=>whnf))
      refine ⟨by unfold I64; omega, ?_⟩
      ((conv=>whnf);repeat((first|refine aF ?_|refine aT ?_);(first|refine rG Γ hm ?_|refine rD Γ hm (by kernel_rfl) ?_);conv=>whnf))
      exact G_nextP [] hI hj2 (upto_next hI hj2 (by simpa using h2)) ⟨⟨rfl, rfl, ren_id _, hc, rfl, rfl, rfl, rfl, rfl, rfl, trivial⟩, trivial, rfl, rfl⟩
  · have h := of_decide_eq_false h
    ((first|refine rG Γ hm ?_|refine rD Γ hm (by kernel_rfl) ?_);(conv=>whnf);repeat((first|refine aF ?_|refine aT ?_);(first|refine rG Γ hm ?_|refine rD Γ hm (by kernel_rfl) ?_);conv=>whnf))
    refine done0 rfl (.cons .tmp .nil) (congrArg boolSV ?_) rfl
    exact upto_all hI (by omega)

theorem allS_int (l : List Int) (p : Nat → Int → Bool) (f : FuncId) (first cap : List SV) (hc : (SV.clo (.func f) first cap).inn [] = true) (hf : ∀ i (h : i < l.length), FunS Tryz.prog f (first ++ [intSV i, intSV l[i]] ++ cap) (boolSV (p i l[i]))) (hl : Short l) :
    Sy.Spec Tryz.prog 79 [.sl 1 intSV l, .clo (.func f) first cap] [] (boolSV (allB p l)) [] := contract Γ hm 100 F79 Tryz.ntmps79 rfl fun F hF => by
  unfold Short at hl
  have hin : ∀ (i : Nat) (x : Int), innL [] (first ++ [intSV i, intSV x] ++ cap) = true := fun i x => clo_inn hc rfl
  ((conv=>whnf);repeat((first|refine aF ?_|refine aT ?_);(first|refine rG Γ hm ?_|refine rD Γ hm (by kernel_rfl) ?_);conv=>whnf))
  refine G_countP l.length (fun j => Upto p l j) (fun j => [(0, .sl 1 intSV l), (1, .clo (.func f) first cap), (7, .sl 1 intSV l), (8, intSV l.length), (9, intSV j)]) (fun _ => []) [] (upto_zero _ _) ⟨⟨rfl, rfl, ren_id _, hc, rfl, rfl, rfl, rfl, rfl, rfl, trivial⟩, trivial, rfl, rfl⟩ ?_
  intro j hj hI
  ((first|refine rG Γ hm ?_|refine rD Γ hm (by kernel_rfl) ?_);(conv=>whnf);repeat((first|refine aF ?_|refine aT ?_);(first|refine rG Γ hm ?_|refine rD Γ hm (by kernel_rfl) ?_);conv=>whnf))
  refine ⟨fun h => ?_, fun h => ?_⟩
  · have h := of_decide_eq_true h
    have hj2 : j < l.length := by omega
    ((first|refine rG Γ hm ?_|refine rD Γ hm (by kernel_rfl) ?_);(conv=>whnf);repeat((first|refine aF ?_|refine aT ?_);(first|refine rG Γ hm ?_|refine rD Γ hm (by kernel_rfl) ?_);conv=>whnf))
    refine ⟨rfl, by omega, by omega, ?_⟩
    ((conv=>whnf);repeat((first|refine aF ?_|refine aT ?_);(first|refine rG Γ hm ?_|refine rD Γ hm (by kernel_rfl) ?_);conv=>whnf))
    refine callC (hf j hj2) rfl rfl rfl (by simp only [hin]; rfl) rfl rfl ?_
    ((first|refine rG Γ hm ?_|refine rD Γ hm (by kernel_rfl) ?_);(conv=>whnf);repeat((first|refine aF ?_|refine aT ?_);(first|refine rG Γ hm ?_|refine rD Γ hm (by kernel_rfl) ?_);conv=>whnf))
    refine ⟨fun h2 => ?_, fun h2 => ?_⟩
    · ((first|refine rG Γ hm ?_|refine rD Γ hm (by kernel_rfl) ?_);(conv=>whnf);repeat((first|refine aF ?_|refine aT ?_);(first|refine rG Γ hm ?_|refine rD Γ hm (by kernel_rfl) ?_);conv=>whnf))
      refine done0 rfl (.cons .tmp .nil) (congrArg boolSV ?_) rfl
      exact allB_false hj2 (by simpa using h2)
    · ((first|refine rG Γ hm ?_|refine rD Γ hm (by kernel_rfl) ?_);(conv=>whnf);repeat((first|refine aF ?_|refine aT ?_);(first|refine rG Γ hm ?_|refine rD Γ hm (by kernel_rfl) ?_);conv=>whnf))
      refine ⟨by unfold I64; omega, ?_⟩
      ((conv=>whnf);repeat((first|refine aF ?_|refine aT ?_);(first|refine rG Γ hm ?_|refine rD Γ hm (by kernel_rfl) ?_);conv=>whnf))
      exact G_nextP [] hI hj2 (upto_next hI hj2 (by simpa using h2)) ⟨⟨rfl, rfl, ren_id _, hc, rfl, rfl, rfl, rfl, rfl, rfl, trivial⟩, trivial, rfl, rfl⟩
  · have h := of_decide_eq_false h
    ((first|refine rG Γ hm ?_|refine rD Γ hm (by kernel_rfl) ?_);(conv=>whnf);repeat((first|refine aF ?_|refine aT ?_);(first|refine rG Γ hm ?_|refine rD Γ hm (by kernel_rfl) ?_);conv=>whnf))
    refine done0 rfl (.cons .tmp .nil) (congrArg boolSV ?_) rfl
    exact upto_all hI (by omega)

end Go.Sy.YtjomehmhkcnadaaGreatDoor

namespace Go.Sy.YtjomehmhkcnadaaGreatDoor
open Go.Proofs
-- SIMP: placeB

attribute [local irreducible] Go.Sy.G Go.Sy.DR
set_option maxRecDepth 20000
set_option maxHeartbeats 4000000

/-- Lists that are not endless. -/
structure Net.Fin (n : Net) : Prop where
  devices : Short n.devices
  ports : Short n.ports
  links : Short n.links
  domains : Short n.domains
  statics : Short n.statics
  floods : Short n.floods
  vrfs : Short n.vrfs
  irbs : Short n.irbs
  tagged : ∀ p ∈ n.ports, Short p.tagged
  peers : ∀ d ∈ n.domains, Short d.peers
  addrs : ∀ f ∈ n.floods, Short f.addrs
  imports : ∀ v ∈ n.vrfs, Short v.imports
  exports : ∀ v ∈ n.vrfs, Short v.exports

def domI (n : Net) (dev vlan : Int) : Int := idxI (fun d => d.dev == dev && d.vlan == vlan) n.domains

theorem domainC (dev vlan : Int) (d : Domain) : Sy.Spec Tryz.prog 105 [domainSV d, .ref 1 (intSV dev) 0, .ref 1 (intSV vlan) 0] [] (boolSV (d.dev == dev && d.vlan == vlan)) [] := contract Γ hm 100 F105 Tryz.ntmps105 rfl fun F hF => by
  ((conv=>whnf);repeat((first|refine aF ?_|refine aT ?_);(first|refine rG Γ hm ?_|refine rD Γ hm (by kernel_rfl) ?_);conv=>whnf))
  (repeat' (first | (refine ⟨fun h => ?_, fun h => ?_⟩ <;> (repeat (first | (simp only [placeB] at h) | (simp only [decide_eq_true_eq] at h) | (simp only [decide_eq_false_iff_not] at h) | (simp only [beq_iff_eq] at h) | (simp only [beq_eq_false_iff_ne] at h) | (simp only [bne_iff_ne] at h) | (simp only [bne_eq_false_iff_eq] at h) | (simp only [Bool.and_eq_true] at h) | (simp only [Bool.or_eq_true] at h) | (simp only [Bool.and_eq_false_iff] at h) | (simp only [Bool.or_eq_false_iff] at h) | (simp only [Bool.not_eq_true'] at h) | (simp only [Bool.not_eq_false'] at h) | (simp only [Bool.not_eq_eq_eq_not] at h) | (simp only [Bool.not_true] at h) | (simp only [Bool.not_false] at h))) <;> ((first|refine rG Γ hm ?_|refine rD Γ hm (by kernel_rfl) ?_);(conv=>whnf);repeat((first|refine aF ?_|refine aT ?_);(first|refine rG Γ hm ?_|refine rD Γ hm (by kernel_rfl) ?_);conv=>whnf))) | (refine done0 rfl (.cons .tmp .nil) ?_ rfl) | (refine ⟨(by kernel_rfl), ?_⟩; ((conv=>whnf);repeat((first|refine aF ?_|refine aT ?_);(first|refine rG Γ hm ?_|refine rD Γ hm (by kernel_rfl) ?_);conv=>whnf))) | (refine ⟨by (first | (unfold I64; omega) | omega | (simp only [Int.toNat_natCast]; omega) | done), by (first | (unfold I64; omega) | omega | (simp only [Int.toNat_natCast]; omega) | done), ?_⟩; ((conv=>whnf);repeat((first|refine aF ?_|refine aT ?_);(first|refine rG Γ hm ?_|refine rD Γ hm (by kernel_rfl) ?_);conv=>whnf))) | (refine ⟨by (first | (unfold I64; omega) | omega | (simp only [Int.toNat_natCast]; omega) | done), ?_⟩; ((conv=>whnf);repeat((first|refine aF ?_|refine aT ?_);(first|refine rG Γ hm ?_|refine rD Γ hm (by kernel_rfl) ?_);conv=>whnf)))))
  all_goals (refine congrArg boolSV ?_)
  all_goals simp_all

theorem judgeDomainS (n : Net) (dev vlan : Int) (hl : Short n.domains) : Sy.Spec Tryz.prog 78 [netSV n, intSV dev, intSV vlan] [] (intSV (domI n dev vlan)) [] := contract Γ hm 100 F78 Tryz.ntmps78 rfl fun F hF => by
  ((conv=>whnf);repeat((first|refine aF ?_|refine aT ?_);(first|refine rG Γ hm ?_|refine rD Γ hm (by kernel_rfl) ?_);conv=>whnf))
  refine G_box 4 1 (intSV dev) rfl rfl rfl ?_
  refine G_box 5 1 (intSV vlan) rfl rfl rfl ?_
  refine call0 (indexFuncS_Domain n.domains (fun d => d.dev == dev && d.vlan == vlan) 105 [] [.ref 1 (intSV dev) 0, .ref 1 (intSV vlan) 0] rfl (fun d _ => ⟨⟨_, _, F105⟩, domainC dev vlan d⟩) hl) F104 rfl rfl rfl rfl rfl ?_
  ((first|refine rG Γ hm ?_|refine rD Γ hm (by kernel_rfl) ?_);(conv=>whnf);repeat((first|refine aF ?_|refine aT ?_);(first|refine rG Γ hm ?_|refine rD Γ hm (by kernel_rfl) ?_);conv=>whnf))
  exact done0 rfl (.cons .tmp .nil) rfl rfl

def fewB (n : Net) : Bool := decide (n.devices.length ≤ 8) && decide (n.ports.length ≤ 40) && decide (n.links.length ≤ 20) && decide (n.domains.length ≤ 48) && decide (n.statics.length ≤ 64) && decide (n.floods.length ≤ 48) && decide (n.vrfs.length ≤ 16) && decide (n.irbs.length ≤ 48)

theorem fewS (n : Net) : Sy.Spec Tryz.prog 38 [netSV n] [] (boolSV (fewB n)) [] := contract Γ hm 100 F38 Tryz.ntmps38 rfl fun F hF => by
  ((conv=>whnf);repeat((first|refine aF ?_|refine aT ?_);(first|refine rG Γ hm ?_|refine rD Γ hm (by kernel_rfl) ?_);conv=>whnf))
  (repeat' (first | (refine ⟨fun h => ?_, fun h => ?_⟩ <;> (repeat (first | (simp only [placeB] at h) | (simp only [decide_eq_true_eq] at h) | (simp only [decide_eq_false_iff_not] at h) | (simp only [beq_iff_eq] at h) | (simp only [beq_eq_false_iff_ne] at h) | (simp only [bne_iff_ne] at h) | (simp only [bne_eq_false_iff_eq] at h) | (simp only [Bool.and_eq_true] at h) | (simp only [Bool.or_eq_true] at h) | (simp only [Bool.and_eq_false_iff] at h) | (simp only [Bool.or_eq_false_iff] at h) | (simp only [Bool.not_eq_true'] at h) | (simp only [Bool.not_eq_false'] at h) | (simp only [Bool.not_eq_eq_eq_not] at h) | (simp only [Bool.not_true] at h) | (simp only [Bool.not_false] at h))) <;> ((first|refine rG Γ hm ?_|refine rD Γ hm (by kernel_rfl) ?_);(conv=>whnf);repeat((first|refine aF ?_|refine aT ?_);(first|refine rG Γ hm ?_|refine rD Γ hm (by kernel_rfl) ?_);conv=>whnf))) | (refine done0 rfl (.cons .tmp .nil) ?_ rfl) | (refine ⟨(by kernel_rfl), ?_⟩; ((conv=>whnf);repeat((first|refine aF ?_|refine aT ?_);(first|refine rG Γ hm ?_|refine rD Γ hm (by kernel_rfl) ?_);conv=>whnf))) | (refine ⟨by (first | (unfold I64; omega) | omega | (simp only [Int.toNat_natCast]; omega) | done), by (first | (unfold I64; omega) | omega | (simp only [Int.toNat_natCast]; omega) | done), ?_⟩; ((conv=>whnf);repeat((first|refine aF ?_|refine aT ?_);(first|refine rG Γ hm ?_|refine rD Γ hm (by kernel_rfl) ?_);conv=>whnf))) | (refine ⟨by (first | (unfold I64; omega) | omega | (simp only [Int.toNat_natCast]; omega) | done), ?_⟩; ((conv=>whnf);repeat((first|refine aF ?_|refine aT ?_);(first|refine rG Γ hm ?_|refine rD Γ hm (by kernel_rfl) ?_);conv=>whnf)))))
  all_goals (refine congrArg boolSV ?_)
  all_goals (unfold fewB; rw [Bool.eq_iff_iff]; simp; omega)

def bareB (n : Net) (i : Nat) (d : Domain) : Bool :=
  placeB d.dev n.devices.length && decide (1 ≤ d.vlan) && decide (d.vlan ≤ 4094) && decide (0 ≤ d.vni) && decide (d.vni ≤ 16777215) && (d.irb == -1 || placeB d.irb n.irbs.length && (nth n.irbs d.irb).domain == i) && domI n d.dev d.vlan == i

theorem bareS (n : Net) (i : Nat) (d : Domain) (hl : Short n.domains) : Sy.Spec Tryz.prog 40 [netSV n, intSV i, domainSV d] [] (boolSV (bareB n i d)) [] := contract Γ hm 100 F40 Tryz.ntmps40 rfl fun F hF => by
  ((conv=>whnf);repeat((first|refine aF ?_|refine aT ?_);(first|refine rG Γ hm ?_|refine rD Γ hm (by kernel_rfl) ?_);conv=>whnf))
  (repeat' (first | (refine ⟨fun h => ?_, fun h => ?_⟩ <;> (repeat (first | (simp only [placeB] at h) | (simp only [decide_eq_true_eq] at h) | (simp only [decide_eq_false_iff_not] at h) | (simp only [beq_iff_eq] at h) | (simp only [beq_eq_false_iff_ne] at h) | (simp only [bne_iff_ne] at h) | (simp only [bne_eq_false_iff_eq] at h) | (simp only [Bool.and_eq_true] at h) | (simp only [Bool.or_eq_true] at h) | (simp only [Bool.and_eq_false_iff] at h) | (simp only [Bool.or_eq_false_iff] at h) | (simp only [Bool.not_eq_true'] at h) | (simp only [Bool.not_eq_false'] at h) | (simp only [Bool.not_eq_eq_eq_not] at h) | (simp only [Bool.not_true] at h) | (simp only [Bool.not_false] at h))) <;> ((first|refine rG Γ hm ?_|refine rD Γ hm (by kernel_rfl) ?_);(conv=>whnf);repeat((first|refine aF ?_|refine aT ?_);(first|refine rG Γ hm ?_|refine rD Γ hm (by kernel_rfl) ?_);conv=>whnf))) | (refine done0 rfl (.cons .tmp .nil) ?_ rfl) | (refine ⟨(by kernel_rfl), ?_⟩; ((conv=>whnf);repeat((first|refine aF ?_|refine aT ?_);(first|refine rG Γ hm ?_|refine rD Γ hm (by kernel_rfl) ?_);conv=>whnf))) | (refine ⟨by (first | (unfold I64; omega) | omega | (simp only [Int.toNat_natCast]; omega) | done), by (first | (unfold I64; omega) | omega | (simp only [Int.toNat_natCast]; omega) | done), ?_⟩; ((conv=>whnf);repeat((first|refine aF ?_|refine aT ?_);(first|refine rG Γ hm ?_|refine rD Γ hm (by kernel_rfl) ?_);conv=>whnf))) | (refine ⟨by (first | (unfold I64; omega) | omega | (simp only [Int.toNat_natCast]; omega) | done), ?_⟩; ((conv=>whnf);repeat((first|refine aF ?_|refine aT ?_);(first|refine rG Γ hm ?_|refine rD Γ hm (by kernel_rfl) ?_);conv=>whnf))) | (refine call0 (placeS_Device 5 deviceSV n.devices d.dev) F50 rfl rfl rfl rfl rfl ?_; ((first|refine rG Γ hm ?_|refine rD Γ hm (by kernel_rfl) ?_);(conv=>whnf);repeat((first|refine aF ?_|refine aT ?_);(first|refine rG Γ hm ?_|refine rD Γ hm (by kernel_rfl) ?_);conv=>whnf))) | (refine callD0 (placeS_Device 5 deviceSV n.devices d.dev) F50 rfl rfl rfl (by kernel_rfl) rfl ?_; ((first|refine rG Γ hm ?_|refine rD Γ hm (by kernel_rfl) ?_);(conv=>whnf);repeat((first|refine aF ?_|refine aT ?_);(first|refine rG Γ hm ?_|refine rD Γ hm (by kernel_rfl) ?_);conv=>whnf))) | (refine call0 (placeS_Irb 5 irbSV n.irbs d.irb) F77 rfl rfl rfl rfl rfl ?_; ((first|refine rG Γ hm ?_|refine rD Γ hm (by kernel_rfl) ?_);(conv=>whnf);repeat((first|refine aF ?_|refine aT ?_);(first|refine rG Γ hm ?_|refine rD Γ hm (by kernel_rfl) ?_);conv=>whnf))) | (refine callD0 (placeS_Irb 5 irbSV n.irbs d.irb) F77 rfl rfl rfl (by kernel_rfl) rfl ?_; ((first|refine rG Γ hm ?_|refine rD Γ hm (by kernel_rfl) ?_);(conv=>whnf);repeat((first|refine aF ?_|refine aT ?_);(first|refine rG Γ hm ?_|refine rD Γ hm (by kernel_rfl) ?_);conv=>whnf))) | (refine call0 (judgeDomainS n d.dev d.vlan hl) F78 rfl rfl rfl rfl rfl ?_; ((first|refine rG Γ hm ?_|refine rD Γ hm (by kernel_rfl) ?_);(conv=>whnf);repeat((first|refine aF ?_|refine aT ?_);(first|refine rG Γ hm ?_|refine rD Γ hm (by kernel_rfl) ?_);conv=>whnf))) | (refine callD0 (judgeDomainS n d.dev d.vlan hl) F78 rfl rfl rfl (by kernel_rfl) rfl ?_; ((first|refine rG Γ hm ?_|refine rD Γ hm (by kernel_rfl) ?_);(conv=>whnf);repeat((first|refine aF ?_|refine aT ?_);(first|refine rG Γ hm ?_|refine rD Γ hm (by kernel_rfl) ?_);conv=>whnf)))))
  all_goals (refine congrArg boolSV ?_)
  all_goals (clear hF; grind [bareB, placeB, nth_eq])

def vtepB (n : Net) (d : Domain) : Bool := (nth n.devices d.dev).vtep != 0

theorem vtepS (n : Net) (d : Domain) (hd : placeB d.dev n.devices.length = true) : Sy.Spec Tryz.prog 106 [netSV n, domainSV d] [] (boolSV (vtepB n d)) [] := contract Γ hm 100 F106 Tryz.ntmps106 rfl fun F hF => by
  simp only [placeB, Bool.and_eq_true, decide_eq_true_eq] at hd
  ((conv=>whnf);repeat((first|refine aF ?_|refine aT ?_);(first|refine rG Γ hm ?_|refine rD Γ hm (by kernel_rfl) ?_);conv=>whnf))
  (repeat' (first | (refine ⟨fun h => ?_, fun h => ?_⟩ <;> (repeat (first | (simp only [placeB] at h) | (simp only [decide_eq_true_eq] at h) | (simp only [decide_eq_false_iff_not] at h) | (simp only [beq_iff_eq] at h) | (simp only [beq_eq_false_iff_ne] at h) | (simp only [bne_iff_ne] at h) | (simp only [bne_eq_false_iff_eq] at h) | (simp only [Bool.and_eq_true] at h) | (simp only [Bool.or_eq_true] at h) | (simp only [Bool.and_eq_false_iff] at h) | (simp only [Bool.or_eq_false_iff] at h) | (simp only [Bool.not_eq_true'] at h) | (simp only [Bool.not_eq_false'] at h) | (simp only [Bool.not_eq_eq_eq_not] at h) | (simp only [Bool.not_true] at h) | (simp only [Bool.not_false] at h))) <;> ((first|refine rG Γ hm ?_|refine rD Γ hm (by kernel_rfl) ?_);(conv=>whnf);repeat((first|refine aF ?_|refine aT ?_);(first|refine rG Γ hm ?_|refine rD Γ hm (by kernel_rfl) ?_);conv=>whnf))) | (refine done0 rfl (.cons .tmp .nil) ?_ rfl) | (refine ⟨(by kernel_rfl), ?_⟩; ((conv=>whnf);repeat((first|refine aF ?_|refine aT ?_);(first|refine rG Γ hm ?_|refine rD Γ hm (by kernel_rfl) ?_);conv=>whnf))) | (refine ⟨by (first | (unfold I64; omega) | omega | (simp only [Int.toNat_natCast]; omega) | done), by (first | (unfold I64; omega) | omega | (simp only [Int.toNat_natCast]; omega) | done), ?_⟩; ((conv=>whnf);repeat((first|refine aF ?_|refine aT ?_);(first|refine rG Γ hm ?_|refine rD Γ hm (by kernel_rfl) ?_);conv=>whnf))) | (refine ⟨by (first | (unfold I64; omega) | omega | (simp only [Int.toNat_natCast]; omega) | done), ?_⟩; ((conv=>whnf);repeat((first|refine aF ?_|refine aT ?_);(first|refine rG Γ hm ?_|refine rD Γ hm (by kernel_rfl) ?_);conv=>whnf)))))
  all_goals (refine congrArg boolSV ?_)
  all_goals (clear hF; grind [vtepB, nth_eq])

def peerB (n : Net) (i : Nat) (d : Domain) (k : Int) : Bool :=
  placeB k n.domains.length && k != i && placeB (nth n.domains k).dev n.devices.length && (nth n.domains k).dev != d.dev && (nth n.domains k).vni == d.vni && d.vni != 0 && vtepB n (nth n.domains k) && vtepB n d && inB (nth n.domains k).peers i

theorem peerS (n : Net) (i : Nat) (d : Domain) (k : Int) (hn : n.Fin) (hd : placeB d.dev n.devices.length = true) : Sy.Spec Tryz.prog 81 [netSV n, intSV i, domainSV d, intSV k] [] (boolSV (peerB n i d k)) [] := contract Γ hm 100 F81 Tryz.ntmps81 rfl fun F hF => by
  ((conv=>whnf);repeat((first|refine aF ?_|refine aT ?_);(first|refine rG Γ hm ?_|refine rD Γ hm (by kernel_rfl) ?_);conv=>whnf))
  (repeat' (first | (refine ⟨fun h => ?_, fun h => ?_⟩ <;> (repeat (first | (simp only [placeB] at h) | (simp only [decide_eq_true_eq] at h) | (simp only [decide_eq_false_iff_not] at h) | (simp only [beq_iff_eq] at h) | (simp only [beq_eq_false_iff_ne] at h) | (simp only [bne_iff_ne] at h) | (simp only [bne_eq_false_iff_eq] at h) | (simp only [Bool.and_eq_true] at h) | (simp only [Bool.or_eq_true] at h) | (simp only [Bool.and_eq_false_iff] at h) | (simp only [Bool.or_eq_false_iff] at h) | (simp only [Bool.not_eq_true'] at h) | (simp only [Bool.not_eq_false'] at h) | (simp only [Bool.not_eq_eq_eq_not] at h) | (simp only [Bool.not_true] at h) | (simp only [Bool.not_false] at h))) <;> ((first|refine rG Γ hm ?_|refine rD Γ hm (by kernel_rfl) ?_);(conv=>whnf);repeat((first|refine aF ?_|refine aT ?_);(first|refine rG Γ hm ?_|refine rD Γ hm (by kernel_rfl) ?_);conv=>whnf))) | (refine done0 rfl (.cons .tmp .nil) ?_ rfl) | (refine ⟨(by kernel_rfl), ?_⟩; ((conv=>whnf);repeat((first|refine aF ?_|refine aT ?_);(first|refine rG Γ hm ?_|refine rD Γ hm (by kernel_rfl) ?_);conv=>whnf))) | (refine ⟨by (first | (unfold I64; omega) | omega | (simp only [Int.toNat_natCast]; omega) | done), by (first | (unfold I64; omega) | omega | (simp only [Int.toNat_natCast]; omega) | done), ?_⟩; ((conv=>whnf);repeat((first|refine aF ?_|refine aT ?_);(first|refine rG Γ hm ?_|refine rD Γ hm (by kernel_rfl) ?_);conv=>whnf))) | (refine ⟨by (first | (unfold I64; omega) | omega | (simp only [Int.toNat_natCast]; omega) | done), ?_⟩; ((conv=>whnf);repeat((first|refine aF ?_|refine aT ?_);(first|refine rG Γ hm ?_|refine rD Γ hm (by kernel_rfl) ?_);conv=>whnf))) | (refine call0 (placeS_Domain 6 domainSV n.domains k) F86 rfl rfl rfl rfl rfl ?_; ((first|refine rG Γ hm ?_|refine rD Γ hm (by kernel_rfl) ?_);(conv=>whnf);repeat((first|refine aF ?_|refine aT ?_);(first|refine rG Γ hm ?_|refine rD Γ hm (by kernel_rfl) ?_);conv=>whnf))) | (refine callD0 (placeS_Domain 6 domainSV n.domains k) F86 rfl rfl rfl (by kernel_rfl) rfl ?_; ((first|refine rG Γ hm ?_|refine rD Γ hm (by kernel_rfl) ?_);(conv=>whnf);repeat((first|refine aF ?_|refine aT ?_);(first|refine rG Γ hm ?_|refine rD Γ hm (by kernel_rfl) ?_);conv=>whnf))) | (refine call0 (placeS_Device 5 deviceSV n.devices (n.domains[k.toNat]'(by omega)).dev) F50 rfl rfl rfl rfl rfl ?_; ((first|refine rG Γ hm ?_|refine rD Γ hm (by kernel_rfl) ?_);(conv=>whnf);repeat((first|refine aF ?_|refine aT ?_);(first|refine rG Γ hm ?_|refine rD Γ hm (by kernel_rfl) ?_);conv=>whnf))) | (refine callD0 (placeS_Device 5 deviceSV n.devices (n.domains[k.toNat]'(by omega)).dev) F50 rfl rfl rfl (by kernel_rfl) rfl ?_; ((first|refine rG Γ hm ?_|refine rD Γ hm (by kernel_rfl) ?_);(conv=>whnf);repeat((first|refine aF ?_|refine aT ?_);(first|refine rG Γ hm ?_|refine rD Γ hm (by kernel_rfl) ?_);conv=>whnf))) | (refine call0 (vtepS n (n.domains[k.toNat]'(by omega)) (by simp only [placeB, Bool.and_eq_true, decide_eq_true_eq]; omega)) F106 rfl rfl rfl rfl rfl ?_; ((first|refine rG Γ hm ?_|refine rD Γ hm (by kernel_rfl) ?_);(conv=>whnf);repeat((first|refine aF ?_|refine aT ?_);(first|refine rG Γ hm ?_|refine rD Γ hm (by kernel_rfl) ?_);conv=>whnf))) | (refine callD0 (vtepS n (n.domains[k.toNat]'(by omega)) (by simp only [placeB, Bool.and_eq_true, decide_eq_true_eq]; omega)) F106 rfl rfl rfl (by kernel_rfl) rfl ?_; ((first|refine rG Γ hm ?_|refine rD Γ hm (by kernel_rfl) ?_);(conv=>whnf);repeat((first|refine aF ?_|refine aT ?_);(first|refine rG Γ hm ?_|refine rD Γ hm (by kernel_rfl) ?_);conv=>whnf))) | (refine call0 (vtepS n d hd) F106 rfl rfl rfl rfl rfl ?_; ((first|refine rG Γ hm ?_|refine rD Γ hm (by kernel_rfl) ?_);(conv=>whnf);repeat((first|refine aF ?_|refine aT ?_);(first|refine rG Γ hm ?_|refine rD Γ hm (by kernel_rfl) ?_);conv=>whnf))) | (refine callD0 (vtepS n d hd) F106 rfl rfl rfl (by kernel_rfl) rfl ?_; ((first|refine rG Γ hm ?_|refine rD Γ hm (by kernel_rfl) ?_);(conv=>whnf);repeat((first|refine aF ?_|refine aT ?_);(first|refine rG Γ hm ?_|refine rD Γ hm (by kernel_rfl) ?_);conv=>whnf))) | (refine call0 (containsS (n.domains[k.toNat]'(by omega)).peers i (hn.peers _ (List.getElem_mem _))) F83 rfl rfl rfl rfl rfl ?_; ((first|refine rG Γ hm ?_|refine rD Γ hm (by kernel_rfl) ?_);(conv=>whnf);repeat((first|refine aF ?_|refine aT ?_);(first|refine rG Γ hm ?_|refine rD Γ hm (by kernel_rfl) ?_);conv=>whnf))) | (refine callD0 (containsS (n.domains[k.toNat]'(by omega)).peers i (hn.peers _ (List.getElem_mem _))) F83 rfl rfl rfl (by kernel_rfl) rfl ?_; ((first|refine rG Γ hm ?_|refine rD Γ hm (by kernel_rfl) ?_);(conv=>whnf);repeat((first|refine aF ?_|refine aT ?_);(first|refine rG Γ hm ?_|refine rD Γ hm (by kernel_rfl) ?_);conv=>whnf)))))
  all_goals (refine congrArg boolSV ?_; clear hF; grind [peerB, placeB, nth_eq])

def peersB (n : Net) (i : Nat) (d : Domain) : Bool := allB (fun at_ k => peerB n i d k && idxI (· == k) d.peers == at_) d.peers

theorem peers1 (n : Net) (i : Nat) (d : Domain) (at_ : Nat) (k : Int) (hn : n.Fin) (hp : Short d.peers) (hd : placeB d.dev n.devices.length = true) :
    Sy.Spec Tryz.prog 80 [intSV at_, intSV k, .ref 8 (netSV n) 0, .ref 1 (intSV i) 0, .ref 6 (domainSV d) 0] [] (boolSV (peerB n i d k && idxI (· == k) d.peers == at_)) [] := contract Γ hm 100 F80 Tryz.ntmps80 rfl fun F hF => by
  ((conv=>whnf);repeat((first|refine aF ?_|refine aT ?_);(first|refine rG Γ hm ?_|refine rD Γ hm (by kernel_rfl) ?_);conv=>whnf))
  (repeat' (first | (refine ⟨fun h => ?_, fun h => ?_⟩ <;> (repeat (first | (simp only [placeB] at h) | (simp only [decide_eq_true_eq] at h) | (simp only [decide_eq_false_iff_not] at h) | (simp only [beq_iff_eq] at h) | (simp only [beq_eq_false_iff_ne] at h) | (simp only [bne_iff_ne] at h) | (simp only [bne_eq_false_iff_eq] at h) | (simp only [Bool.and_eq_true] at h) | (simp only [Bool.or_eq_true] at h) | (simp only [Bool.and_eq_false_iff] at h) | (simp only [Bool.or_eq_false_iff] at h) | (simp only [Bool.not_eq_true'] at h) | (simp only [Bool.not_eq_false'] at h) | (simp only [Bool.not_eq_eq_eq_not] at h) | (simp only [Bool.not_true] at h) | (simp only [Bool.not_false] at h))) <;> ((first|refine rG Γ hm ?_|refine rD Γ hm (by kernel_rfl) ?_);(conv=>whnf);repeat((first|refine aF ?_|refine aT ?_);(first|refine rG Γ hm ?_|refine rD Γ hm (by kernel_rfl) ?_);conv=>whnf))) | (refine done0 rfl (.cons .tmp .nil) ?_ rfl) | (refine ⟨(by kernel_rfl), ?_⟩; ((conv=>whnf);repeat((first|refine aF ?_|refine aT ?_);(first|refine rG Γ hm ?_|refine rD Γ hm (by kernel_rfl) ?_);conv=>whnf))) | (refine ⟨by (first | (unfold I64; omega) | omega | (simp only [Int.toNat_natCast]; omega) | done), by (first | (unfold I64; omega) | omega | (simp only [Int.toNat_natCast]; omega) | done), ?_⟩; ((conv=>whnf);repeat((first|refine aF ?_|refine aT ?_);(first|refine rG Γ hm ?_|refine rD Γ hm (by kernel_rfl) ?_);conv=>whnf))) | (refine ⟨by (first | (unfold I64; omega) | omega | (simp only [Int.toNat_natCast]; omega) | done), ?_⟩; ((conv=>whnf);repeat((first|refine aF ?_|refine aT ?_);(first|refine rG Γ hm ?_|refine rD Γ hm (by kernel_rfl) ?_);conv=>whnf))) | (refine call0 (peerS n i d k hn hd) F81 rfl rfl rfl rfl rfl ?_; ((first|refine rG Γ hm ?_|refine rD Γ hm (by kernel_rfl) ?_);(conv=>whnf);repeat((first|refine aF ?_|refine aT ?_);(first|refine rG Γ hm ?_|refine rD Γ hm (by kernel_rfl) ?_);conv=>whnf))) | (refine callD0 (peerS n i d k hn hd) F81 rfl rfl rfl (by kernel_rfl) rfl ?_; ((first|refine rG Γ hm ?_|refine rD Γ hm (by kernel_rfl) ?_);(conv=>whnf);repeat((first|refine aF ?_|refine aT ?_);(first|refine rG Γ hm ?_|refine rD Γ hm (by kernel_rfl) ?_);conv=>whnf))) | (refine call0 (indexS d.peers k hp) F82 rfl rfl rfl rfl rfl ?_; ((first|refine rG Γ hm ?_|refine rD Γ hm (by kernel_rfl) ?_);(conv=>whnf);repeat((first|refine aF ?_|refine aT ?_);(first|refine rG Γ hm ?_|refine rD Γ hm (by kernel_rfl) ?_);conv=>whnf))) | (refine callD0 (indexS d.peers k hp) F82 rfl rfl rfl (by kernel_rfl) rfl ?_; ((first|refine rG Γ hm ?_|refine rD Γ hm (by kernel_rfl) ?_);(conv=>whnf);repeat((first|refine aF ?_|refine aT ?_);(first|refine rG Γ hm ?_|refine rD Γ hm (by kernel_rfl) ?_);conv=>whnf)))))
  all_goals (refine congrArg boolSV ?_; clear hF; grind)

theorem peersS (n : Net) (i : Nat) (d : Domain) (hn : n.Fin) (hp : Short d.peers) (hd : placeB d.dev n.devices.length = true) : Sy.Spec Tryz.prog 41 [netSV n, intSV i, domainSV d] [] (boolSV (peersB n i d)) [] := contract Γ hm 100 F41 Tryz.ntmps41 rfl fun F hF => by
  ((conv=>whnf);repeat((first|refine aF ?_|refine aT ?_);(first|refine rG Γ hm ?_|refine rD Γ hm (by kernel_rfl) ?_);conv=>whnf))
  refine G_box 3 8 (netSV n) rfl rfl rfl ?_
  refine G_box 4 1 (intSV i) rfl rfl rfl ?_
  refine G_box 5 6 (domainSV d) rfl rfl rfl ?_
  refine call0 (allS_int d.peers (fun at_ k => peerB n i d k && idxI (· == k) d.peers == at_) 80 [] [.ref 8 (netSV n) 0, .ref 1 (intSV i) 0, .ref 6 (domainSV d) 0] rfl (fun a ha => ⟨⟨_, _, F80⟩, peers1 n i d a d.peers[a] hn hp hd⟩) hp) F79 rfl rfl rfl rfl rfl ?_
  ((first|refine rG Γ hm ?_|refine rD Γ hm (by kernel_rfl) ?_);(conv=>whnf);repeat((first|refine aF ?_|refine aT ?_);(first|refine rG Γ hm ?_|refine rD Γ hm (by kernel_rfl) ?_);conv=>whnf))
  exact done0 rfl (.cons .tmp .nil) rfl rfl

end Go.Sy.YtjomehmhkcnadaaGreatDoor

namespace Go.Sy.YtjomehmhkcnadaaGreatDoor
open Go.Proofs

def cntT (c : UInt8) (s : ByteArray) : Nat := s.data.toList.count c

/-- The words so far, and nothing yet behind them. -/
def splitU (c : UInt8) (s : ByteArray) (j : Nat) : List ByteArray :=
  (List.range j).map (fun j => mkT (pieceL c s.data.toList j)) ++ List.replicate (cntT c s + 1 - j) ⟨#[]⟩

theorem splitU_length (c : UInt8) (s : ByteArray) (j : Nat) (h : j ≤ cntT c s) : (splitU c s j).length = cntT c s + 1 := by
  simp only [splitU, List.length_append, List.length_map, List.length_range, List.length_replicate]; omega

theorem splitU_zero (c : UInt8) (s : ByteArray) : splitU c s 0 = List.replicate (cntT c s + 1) ⟨#[]⟩ := by
  simp [splitU]

theorem splitU_succ (c : UInt8) (s : ByteArray) (j : Nat) (h : j < cntT c s) : splitU c s (j + 1) = (splitU c s j).set j (mkT (pieceL c s.data.toList j)) := by
  have e : cntT c s + 1 - j = (cntT c s + 1 - (j + 1)) + 1 := by omega
  have el : ((List.range j).map (fun j => mkT (pieceL c s.data.toList j))).length = j := by simp
  rw [splitU, splitU, List.set_append_right _ _ (by omega), el, Nat.sub_self, List.range_succ, List.map_append, e, List.replicate_succ, List.set_cons_zero]
  simp

theorem splitU_end (c : UInt8) (s : ByteArray) : (splitU c s (cntT c s)).set (cntT c s) (mkT (restL c s.data.toList (cntT c s))) = splitT c s := by
  have e : cntT c s + 1 - cntT c s = 0 + 1 := by omega
  have el : ((List.range (cntT c s)).map (fun j => mkT (pieceL c s.data.toList j))).length = cntT c s := by simp
  rw [splitU, List.set_append_right _ _ (by omega), el, Nat.sub_self, e, List.replicate_succ, List.set_cons_zero]
  rfl

theorem splitT_length (c : UInt8) (s : ByteArray) : (splitT c s).length = cntT c s + 1 := by simp only [splitT, List.length_append, List.length_map, List.length_range, List.length_singleton]; rfl

theorem restL_le (c : UInt8) (l : List UInt8) : ∀ j, (restL c l j).length ≤ l.length
  | 0 => Nat.le_refl _
  | j + 1 => by rw [restL, List.length_drop]; have := restL_le c l j; omega

theorem ext_list {a b : ByteArray} (h : a.data.toList = b.data.toList) : a = b := by
  cases a; cases b; simp only [ByteArray.mk.injEq]; exact Array.toList_inj.1 h

theorem mkT_size (l : List UInt8) : (mkT l).size = l.length := by simp [mkT, ByteArray.size]
theorem mkT_list (l : List UInt8) : (mkT l).data.toList = l := by simp [mkT]
theorem mkT_extract (l : List UInt8) (i j : Nat) : (mkT l).extract i j = mkT ((l.take j).drop i) := by
  apply ext_list
  simp [mkT, ByteArray.data_extract, List.extract_eq_take_drop, List.drop_take]

theorem mkT_self (s : ByteArray) : mkT s.data.toList = s := ext_list (by simp [mkT])

theorem piece_eq {c : UInt8} {s : ByteArray} {j m : Nat} (h : Lib.indexByte (restL c s.data.toList j) c = m) : pieceL c s.data.toList j = (restL c s.data.toList j).take m := by
  rw [pieceL, idxN, h, Int.toNat_natCast]
theorem rest_eq {c : UInt8} {s : ByteArray} {j m : Nat} (h : Lib.indexByte (restL c s.data.toList j) c = m) : restL c s.data.toList (j + 1) = (restL c s.data.toList j).drop (m + 1) := by
  rw [restL, idxN, h, Int.toNat_natCast]

set_option maxRecDepth 20000 in
theorem genSplitS (s : ByteArray) (c : UInt8) (hs : s.size < 100000) : Sy.Spec Tryz.prog 97 [strSV s, strSV ⟨#[c]⟩, intSV 0, intSV (-1)] [] (.sl 1 strSV (splitT c s)) [] := contract Γ hm 100 F97 Tryz.ntmps97 rfl fun F hF => by
  have hcl : cntT c s ≤ s.size := List.count_le_length
  have h0 := splitU_zero c s
  have hend := splitU_end c s
  have hlen := splitU_length c s
  have hsucc := splitU_succ c s
  have hthere : ∀ j, j < cntT c s → c ∈ restL c s.data.toList j := fun j hj => rest_there hj
  have hle := restL_le c s.data.toList
  have hsz : s.data.toList.length = s.size := rfl
  have hp := fun j m => piece_eq (c := c) (s := s) (j := j) (m := m)
  have hq := fun j m => rest_eq (c := c) (s := s) (j := j) (m := m)
  obtain ⟨n, hn⟩ : ∃ n, cntT c s = n := ⟨_, rfl⟩
  rw [hn] at hcl h0 hend hlen hsucc hthere
  ((conv=>whnf);repeat((first|refine aF ?_|refine aT ?_);(first|refine rG Γ hm ?_|refine rD Γ hm (by kernel_rfl) ?_);conv=>whnf))
  refine call0 (strCountS s c n hn) F110 rfl rfl rfl rfl rfl ?_
  ((first|refine rG Γ hm ?_|refine rD Γ hm (by kernel_rfl) ?_);(conv=>whnf);repeat((first|refine aF ?_|refine aT ?_);(first|refine rG Γ hm ?_|refine rD Γ hm (by kernel_rfl) ?_);conv=>whnf))
  refine ⟨by unfold I64; omega, ?_⟩
  ((conv=>whnf);repeat((first|refine aF ?_|refine aT ?_);(first|refine rG Γ hm ?_|refine rD Γ hm (by kernel_rfl) ?_);conv=>whnf))
  refine ⟨by unfold I64; omega, ?_⟩
  ((conv=>whnf);repeat((first|refine aF ?_|refine aT ?_);(first|refine rG Γ hm ?_|refine rD Γ hm (by kernel_rfl) ?_);conv=>whnf))
  refine stepOp (good_min_le rfl rfl rfl (by omega)) rfl rfl ?_
  ((first|refine rG Γ hm ?_|refine rD Γ hm (by kernel_rfl) ?_);(conv=>whnf);repeat((first|refine aF ?_|refine aT ?_);(first|refine rG Γ hm ?_|refine rD Γ hm (by kernel_rfl) ?_);conv=>whnf))
  refine stepOp (good_makeSlice Γ.toTy (d := 31) (n := n + 1) strSV ⟨#[]⟩ rfl rfl rfl rfl rfl rfl (congrArg (fun z => SV.val (.int .i64 z)) (Int.natCast_succ n).symm) (congrArg (fun z => SV.val (.int .i64 z)) (Int.natCast_succ n).symm) (by omega) (by omega) rfl rfl rfl) rfl rfl ?_
  rw [← h0]
  clear h0
  ((first|refine rG Γ hm ?_|refine rD Γ hm (by kernel_rfl) ?_);(conv=>whnf);repeat((first|refine aF ?_|refine aT ?_);(first|refine rG Γ hm ?_|refine rD Γ hm (by kernel_rfl) ?_);conv=>whnf))
  refine ⟨by unfold I64; omega, ?_⟩
  ((conv=>whnf);repeat((first|refine aF ?_|refine aT ?_);(first|refine rG Γ hm ?_|refine rD Γ hm (by kernel_rfl) ?_);conv=>whnf))
  generalize hR : restL c s.data.toList = rest at *
  generalize hU : splitU c s = u at *
  generalize hP : pieceL c s.data.toList = piece at *
  refine G_count n (fun j => [(0, strSV (mkT (rest j))), (1, strSV ⟨#[c]⟩), (2, intSV 0), (3, intSV n), (9, .osl 31), (10, intSV j)]) (fun j => [(31, .row 1 strSV (u j))]) []
    ⟨⟨congrArg strSV (by rw [← hR]; exact (mkT_self s).symm), rfl, rfl, rfl, rfl, rfl, congrArg (fun z => SV.val (.int .i64 z)) (by omega), rfl, rfl, rfl, rfl, rfl, trivial⟩, ⟨.inl rfl, rfl, trivial⟩, rfl, rfl⟩ ?_
  intro j hj
  have hlj := hlen j hj
  have hlr := hle j
  have hc1 : ((⟨#[c]⟩ : ByteArray).size : Int) = 1 := rfl
  ((first|refine rG Γ hm ?_|refine rD Γ hm (by kernel_rfl) ?_);(conv=>whnf);repeat((first|refine aF ?_|refine aT ?_);(first|refine rG Γ hm ?_|refine rD Γ hm (by kernel_rfl) ?_);conv=>whnf))
  refine ⟨fun h => ?_, fun h => ?_⟩
  · have hlt : j < n := by simpa using h
    have hi := index_there (hthere j hlt)
    have hpj := hp j
    have hqj := hq j
    have hsj := hsucc j hlt
    generalize hrj : rest j = r at *
    generalize u j = uj at *
    obtain ⟨m, hm'⟩ : ∃ m : Nat, Lib.indexByte r c = m := ⟨(Lib.indexByte r c).toNat, by omega⟩
    have hpm := hpj m hm'
    have hqm := hqj m hm'
    rw [hm', Int.toNat_natCast] at hi
    have hsm := mkT_size r
    ((first|refine rG Γ hm ?_|refine rD Γ hm (by kernel_rfl) ?_);(conv=>whnf);repeat((first|refine aF ?_|refine aT ?_);(first|refine rG Γ hm ?_|refine rD Γ hm (by kernel_rfl) ?_);conv=>whnf))
    refine call0 (strIndexS (mkT r) c m (by rw [mkT_list]; exact hm')) F111 rfl rfl rfl rfl rfl ?_
    ((first|refine rG Γ hm ?_|refine rD Γ hm (by kernel_rfl) ?_);(conv=>whnf);repeat((first|refine aF ?_|refine aT ?_);(first|refine rG Γ hm ?_|refine rD Γ hm (by kernel_rfl) ?_);conv=>whnf))
    refine ⟨by unfold I64; omega, ?_⟩
    ((conv=>whnf);repeat((first|refine aF ?_|refine aT ?_);(first|refine rG Γ hm ?_|refine rD Γ hm (by kernel_rfl) ?_);conv=>whnf))
    refine ⟨⟨by omega, by omega, by omega⟩, ?_⟩
    ((conv=>whnf);repeat((first|refine aF ?_|refine aT ?_);(first|refine rG Γ hm ?_|refine rD Γ hm (by kernel_rfl) ?_);conv=>whnf))
    refine ⟨by omega, by omega, ?_⟩
    ((conv=>whnf);repeat((first|refine aF ?_|refine aT ?_);(first|refine rG Γ hm ?_|refine rD Γ hm (by kernel_rfl) ?_);conv=>whnf))
    have hx : (mkT r).extract (Int.toNat 0) ((m : Int) + 0).toNat = mkT (r.take m) := by
      rw [mkT_extract]; simp
    have hy : (mkT r).extract ((m : Int) + ((⟨#[c]⟩ : ByteArray).size : Nat)).toNat (((mkT r).size : Nat) : Int).toNat = mkT (r.drop (m + 1)) := by
      rw [mkT_extract, hc1, mkT_size, Int.toNat_natCast, List.take_length]
      rfl
    refine ⟨rfl, by omega, mkT (r.take m), congrArg (fun z => [strSV z]) hx.symm, rfl, ?_⟩
    ((conv=>whnf);repeat((first|refine aF ?_|refine aT ?_);(first|refine rG Γ hm ?_|refine rD Γ hm (by kernel_rfl) ?_);conv=>whnf))
    refine ⟨by unfold I64; omega, ?_⟩
    ((conv=>whnf);repeat((first|refine aF ?_|refine aT ?_);(first|refine rG Γ hm ?_|refine rD Γ hm (by kernel_rfl) ?_);conv=>whnf))
    refine ⟨⟨by omega, by omega, by omega⟩, ?_⟩
    ((conv=>whnf);repeat((first|refine aF ?_|refine aT ?_);(first|refine rG Γ hm ?_|refine rD Γ hm (by kernel_rfl) ?_);conv=>whnf))
    refine ⟨by unfold I64; omega, ?_⟩
    ((conv=>whnf);repeat((first|refine aF ?_|refine aT ?_);(first|refine rG Γ hm ?_|refine rD Γ hm (by kernel_rfl) ?_);conv=>whnf))
    refine G_next [] (by omega) ⟨⟨congrArg strSV (by rw [hqm]; exact hy.symm), rfl, rfl, rfl, rfl, rfl, rfl, rfl, rfl, rfl, rfl, rfl, trivial⟩, ⟨.inl (congrArg (Ob.row 1 strSV) (by rw [hsj, hpm]; rfl)), rfl, trivial⟩, rfl, rfl⟩
  · have : j = n := by have := of_decide_eq_false h; omega
    subst this
    ((first|refine rG Γ hm ?_|refine rD Γ hm (by kernel_rfl) ?_);(conv=>whnf);repeat((first|refine aF ?_|refine aT ?_);(first|refine rG Γ hm ?_|refine rD Γ hm (by kernel_rfl) ?_);conv=>whnf))
    refine ⟨by omega, by omega, ?_⟩
    ((conv=>whnf);repeat((first|refine aF ?_|refine aT ?_);(first|refine rG Γ hm ?_|refine rD Γ hm (by kernel_rfl) ?_);conv=>whnf))
    refine ⟨rfl, by omega, mkT (rest j), rfl, rfl, ?_⟩
    ((conv=>whnf);repeat((first|refine aF ?_|refine aT ?_);(first|refine rG Γ hm ?_|refine rD Γ hm (by kernel_rfl) ?_);conv=>whnf))
    refine ⟨by unfold I64; omega, ?_⟩
    ((conv=>whnf);repeat((first|refine aF ?_|refine aT ?_);(first|refine rG Γ hm ?_|refine rD Γ hm (by kernel_rfl) ?_);conv=>whnf))
    refine stepOp (good_slice_osl Γ.toTy (d := 65) (hi := j + 1) rfl rfl rfl rfl rfl (by decide) rfl (.inl ⟨rfl, rfl⟩) (.inr ⟨_, _, rfl, congrArg (fun z => SV.val (.int .i64 z)) (Int.natCast_succ j).symm⟩) (by rw [List.length_set]; omega)) rfl rfl ?_
    have hE : ((u j).set ((j : Int).toNat) (mkT (rest j))).take (j + 1) = splitT c s := by
      rw [← hend, List.take_of_length_le (by rw [List.length_set]; omega)]
      rfl
    rw [hE]
    refine G_data 65 rfl ?_
    ((first|refine rG Γ hm ?_|refine rD Γ hm (by kernel_rfl) ?_);(conv=>whnf);repeat((first|refine aF ?_|refine aT ?_);(first|refine rG Γ hm ?_|refine rD Γ hm (by kernel_rfl) ?_);conv=>whnf))
    exact done0 rfl (.cons .tmp .nil) rfl rfl

/-- strings.Split. -/
theorem splitS (s : ByteArray) (c : UInt8) (hs : s.size < 100000) : Sy.Spec Tryz.prog 65 [strSV s, strSV ⟨#[c]⟩] [] (.sl 1 strSV (splitT c s)) [] := contract Γ hm 100 F65 Tryz.ntmps65 rfl fun F hF => by
  have q := genSplitS s c hs
  generalize splitT c s = l at *
  ((conv=>whnf);repeat((first|refine aF ?_|refine aT ?_);(first|refine rG Γ hm ?_|refine rD Γ hm (by kernel_rfl) ?_);conv=>whnf))
  refine call0 q F97 rfl rfl rfl rfl rfl ?_
  ((first|refine rG Γ hm ?_|refine rD Γ hm (by kernel_rfl) ?_);(conv=>whnf);repeat((first|refine aF ?_|refine aT ?_);(first|refine rG Γ hm ?_|refine rD Γ hm (by kernel_rfl) ?_);conv=>whnf))
  exact done0 rfl (.cons .tmp .nil) rfl rfl

end Go.Sy.YtjomehmhkcnadaaGreatDoor

namespace Go.Sy.YtjomehmhkcnadaaGreatDoor
open Go.Proofs

/-- A list, of which the first and the last j items have been swapped. -/
def revU {α : Type} (l : List α) (j : Nat) : List α := List.ofFn fun i : Fin l.length => if i.1 < j ∨ l.length - j ≤ i.1 then l[l.length - 1 - i.1] else l[i.1]

theorem revU_length {α : Type} (l : List α) (j : Nat) : (revU l j).length = l.length := by simp [revU]
theorem revU_get {α : Type} (l : List α) (j i : Nat) (h : i < l.length) : (revU l j)[i]'(by rw [revU_length]; exact h) = if i < j ∨ l.length - j ≤ i then l[l.length - 1 - i] else l[i] := by simp [revU]

theorem revU_zero {α : Type} (l : List α) : revU l 0 = l := by
  apply List.ext_getElem (revU_length l 0)
  intro i h1 h2
  rw [revU_get l 0 i h2, if_neg (by omega)]

theorem revU_end {α : Type} (l : List α) (j : Nat) (h : l.length ≤ 2 * j + 1) : revU l j = l.reverse := by
  apply List.ext_getElem (by rw [revU_length, List.length_reverse])
  intro i h1 h2
  have hi : i < l.length := by rw [revU_length] at h1; exact h1
  rw [revU_get l j i hi, List.getElem_reverse]
  split
  · rfl
  · congr 1; omega

theorem revU_succ {α : Type} (l : List α) (j : Nat) (h : 2 * j + 1 < l.length) :
    ((revU l j).set j ((revU l j)[l.length - 1 - j]'(by rw [revU_length]; omega))).set (l.length - 1 - j) ((revU l j)[j]'(by rw [revU_length]; omega)) = revU l (j + 1) := by
  apply List.ext_getElem (by simp only [List.length_set, revU_length])
  intro i h1 h2
  have hi : i < l.length := by rw [revU_length] at h2; exact h2
  rw [List.getElem_set, List.getElem_set, revU_get l (j + 1) i hi, revU_get l j i hi, revU_get l j _ (by omega), revU_get l j _ (by omega)]
  by_cases e1 : l.length - 1 - j = i
  · rw [if_pos e1, if_neg (by omega), if_pos (by omega)]
    congr 1; omega
  · rw [if_neg e1]
    by_cases e2 : j = i
    · rw [if_pos e2, if_neg (by omega), if_pos (by omega)]
      congr 1; omega
    · rw [if_neg e2]
      by_cases e3 : i < j ∨ l.length - j ≤ i
      · rw [if_pos e3, if_pos (by omega)]
      · rw [if_neg e3, if_neg (by omega)]

theorem revU_next {α : Type} {l u : List α} {j k : Nat} (hu : revU l j = u) (h : 2 * j + 1 < l.length) (hk : l.length - 1 - j = k) (h1 : k < u.length) (h2 : j < u.length) : (u.set j u[k]).set k u[j] = revU l (j + 1) := by
  subst hu hk
  exact revU_succ l j h

/-- A number's digits, the last one first. -/
def revDigs (u : Nat) : List UInt8 := if u < 10 then [UInt8.ofNat (48 + u)] else UInt8.ofNat (48 + u % 10) :: revDigs (u / 10)

theorem revDigs_pos (u : Nat) : 0 < (revDigs u).length := by
  rw [revDigs]; split <;> simp

theorem revDigs_len : ∀ (j u : Nat), j + 1 < (revDigs u).length ↔ 0 < u / 10 ^ (j + 1)
  | 0, u => by
    rw [revDigs]
    split
    · simp; omega
    · have := revDigs_pos (u / 10)
      simp only [List.length_cons]; omega
  | j + 1, u => by
    rw [revDigs]
    have e : u / 10 ^ (j + 1 + 1) = u / 10 / 10 ^ (j + 1) := by rw [Nat.div_div_eq_div_mul, Nat.pow_succ 10 (j + 1), Nat.mul_comm (10 ^ (j + 1))]
    rw [e]
    split
    · have : u / 10 = 0 := by omega
      rw [this]; simp
    · rw [List.length_cons, ← revDigs_len j (u / 10)]; omega

theorem revDigs_get : ∀ (j u : Nat) (h : j < (revDigs u).length), (revDigs u)[j] = UInt8.ofNat (48 + u / 10 ^ j % 10)
  | 0, u, h => by
    have e : (revDigs u)[0] = UInt8.ofNat (48 + u % 10) := by
      simp only [revDigs.eq_1 u]
      split
      · show UInt8.ofNat (48 + u) = UInt8.ofNat (48 + u % 10)
        rw [Nat.mod_eq_of_lt (by assumption)]
      · rfl
    rw [e]; simp
  | j + 1, u, h => by
    have hu : ¬ u < 10 := fun hu => by rw [revDigs, if_pos hu] at h; simp at h
    have e0 : revDigs u = UInt8.ofNat (48 + u % 10) :: revDigs (u / 10) := by rw [revDigs.eq_1 u, if_neg hu]
    have e : u / 10 ^ (j + 1) = u / 10 / 10 ^ j := by rw [Nat.div_div_eq_div_mul, Nat.pow_succ, Nat.mul_comm]
    have hl : j < (revDigs (u / 10)).length := by rw [e0] at h; simpa using h
    have := revDigs_get j (u / 10) hl
    rw [e, ← this]
    simp only [e0, List.getElem_cons_succ]

theorem revDigs_short : ∀ (k u : Nat), u < 10 ^ k → (revDigs u).length ≤ k + 1
  | 0, u, h => by rw [revDigs, if_pos (by simp at h; omega)]; simp
  | k + 1, u, h => by
    rw [revDigs]
    split
    · simp
    · have := revDigs_short k (u / 10) (by rw [Nat.pow_succ] at h; omega)
      simp only [List.length_cons]; omega

/-- A number as a text. -/
def numL (n : Int) : List UInt8 := (revDigs n.natAbs ++ (if n < 0 then [45] else [])).reverse
def numT (n : Int) : ByteArray := mkT (numL n)

theorem numL_nat (m : Nat) : numL m = (revDigs m).reverse := by
  rw [numL, Int.natAbs_natCast, if_neg (by omega), List.append_nil]

set_option maxRecDepth 20000 in
theorem numTextS (m : Nat) (hb : m < 9223372036854775808) : Sy.Spec Tryz.prog 29 [intSV m] [] (strSV (numT m)) [] := contract Γ hm 100 F29 Tryz.ntmps29 rfl fun F hF => by
  have hpos := revDigs_pos m
  have hlen := fun j => revDigs_len j m
  have hget := fun j => revDigs_get j m
  have hsh : (revDigs m).length ≤ 20 := revDigs_short 19 m (by omega)
  rw [numT, numL_nat]
  generalize revDigs m = D at *
  ((conv=>whnf);repeat((first|refine aF ?_|refine aT ?_);(first|refine rG Γ hm ?_|refine rD Γ hm (by kernel_rfl) ?_);conv=>whnf))
  refine G_adopt 3 1000 1 byteSV rfl rfl ?_
  refine G_count D.length (fun j => [(0, intSV m), (3, .osl 1000), (4, u64SV (m / 10 ^ j : Nat)), (5, boolSV (decide (j < D.length)))]) (fun j => [(1000, .row 1 byteSV (D.take j))]) []
    ⟨⟨rfl, rfl, rfl, rfl, congrArg (fun z => SV.val (.int .u64 z)) (by rw [IntKind.wrap_u64]; omega), rfl, congrArg boolSV (decide_eq_true hpos), rfl, trivial⟩, ⟨.inl rfl, rfl, trivial⟩, rfl, rfl⟩ ?_
  intro j hj
  ((first|refine rG Γ hm ?_|refine rD Γ hm (by kernel_rfl) ?_);(conv=>whnf);repeat((first|refine aF ?_|refine aT ?_);(first|refine rG Γ hm ?_|refine rD Γ hm (by kernel_rfl) ?_);conv=>whnf))
  refine ⟨fun h => ?_, fun h => ?_⟩
  · have hlt : j < D.length := of_decide_eq_true h
    have hgj := hget j hlt
    have hlj := hlen j
    have e : m / 10 ^ (j + 1) = m / 10 ^ j / 10 := by rw [Nat.div_div_eq_div_mul, Nat.pow_succ]
    have hq : m / 10 ^ j ≤ m := Nat.div_le_self _ _
    rw [e] at hlj
    ((first|refine rG Γ hm ?_|refine rD Γ hm (by kernel_rfl) ?_);(conv=>whnf);repeat((first|refine aF ?_|refine aT ?_);(first|refine rG Γ hm ?_|refine rD Γ hm (by kernel_rfl) ?_);conv=>whnf))
    refine ⟨by decide, ?_⟩
    ((conv=>whnf);repeat((first|refine aF ?_|refine aT ?_);(first|refine rG Γ hm ?_|refine rD Γ hm (by kernel_rfl) ?_);conv=>whnf))
    refine stepOp (good_appendT Γ.toTy 23 rfl rfl rfl rfl rfl (.row rfl) (.lit (l := [D[j]]) rfl ?_) (by simp) ?_ ?_) rfl rfl ?_
    · rw [hgj]
      simp only [List.map_cons, List.map_nil, byteSV]
      congr 3
      generalize m / 10 ^ j = q at *
      rw [Int.tmod_eq_emod_of_nonneg (Int.natCast_nonneg _), IntKind.wrap_u64, IntKind.wrap_u8]
      simp
    · simp; omega
    · simp; omega
    ((first|refine rG Γ hm ?_|refine rD Γ hm (by kernel_rfl) ?_);(conv=>whnf);repeat((first|refine aF ?_|refine aT ?_);(first|refine rG Γ hm ?_|refine rD Γ hm (by kernel_rfl) ?_);conv=>whnf))
    refine ⟨by decide, ?_⟩
    ((conv=>whnf);repeat((first|refine aF ?_|refine aT ?_);(first|refine rG Γ hm ?_|refine rD Γ hm (by kernel_rfl) ?_);conv=>whnf))
    refine G_next [(1000, 23)] hlt ⟨⟨rfl, rfl, rfl, rfl, congrArg (fun z => SV.val (.int .u64 z)) ?_, rfl, congrArg boolSV ?_, rfl, trivial⟩, ⟨.inl (congrArg (Ob.row 1 byteSV) (List.take_succ_eq_append_getElem hlt)), rfl, trivial⟩, rfl, rfl⟩
    · rw [e, Int.tdiv_eq_ediv_of_nonneg (Int.natCast_nonneg _), IntKind.wrap_u64]
      generalize m / 10 ^ j = q at *
      omega
    · rw [Int.tdiv_eq_ediv_of_nonneg (Int.natCast_nonneg _), IntKind.wrap_u64]
      generalize m / 10 ^ j = q at *
      refine decide_eq_decide.2 ?_
      omega
  · have : j = D.length := by have := of_decide_eq_false h; omega
    subst this
    rw [List.take_length]
    ((first|refine rG Γ hm ?_|refine rD Γ hm (by kernel_rfl) ?_);(conv=>whnf);repeat((first|refine aF ?_|refine aT ?_);(first|refine rG Γ hm ?_|refine rD Γ hm (by kernel_rfl) ?_);conv=>whnf))
    refine ⟨by unfold I64; omega, ?_⟩
    ((conv=>whnf);repeat((first|refine aF ?_|refine aT ?_);(first|refine rG Γ hm ?_|refine rD Γ hm (by kernel_rfl) ?_);conv=>whnf))
    refine G_count (D.length / 2) (fun j => [(3, .osl 1000), (6, intSV j), (7, intSV (D.length - 1 - j : Nat))]) (fun j => [(1000, .row 1 byteSV (revU D j))]) []
      ⟨⟨rfl, rfl, rfl, rfl, congrArg (fun z => SV.val (.int .i64 z)) (by omega), rfl, trivial⟩, ⟨.inl (congrArg (Ob.row 1 byteSV) (revU_zero D)), rfl, trivial⟩, rfl, rfl⟩ ?_
    intro i hi
    have hul := revU_length D i
    ((first|refine rG Γ hm ?_|refine rD Γ hm (by kernel_rfl) ?_);(conv=>whnf);repeat((first|refine aF ?_|refine aT ?_);(first|refine rG Γ hm ?_|refine rD Γ hm (by kernel_rfl) ?_);conv=>whnf))
    refine ⟨fun h2 => ?_, fun h2 => ?_⟩
    · have hlt : 2 * i + 1 < D.length := by have := of_decide_eq_true h2; omega
      obtain ⟨u, hu⟩ : ∃ u, revU D i = u := ⟨_, rfl⟩
      obtain ⟨k, hk⟩ : ∃ k, D.length - 1 - i = k := ⟨_, rfl⟩
      rw [hu] at hul
      have hs := revU_next hu hlt hk (by omega) (by omega)
      rw [hu, hk]
      ((first|refine rG Γ hm ?_|refine rD Γ hm (by kernel_rfl) ?_);(conv=>whnf);repeat((first|refine aF ?_|refine aT ?_);(first|refine rG Γ hm ?_|refine rD Γ hm (by kernel_rfl) ?_);conv=>whnf))
      refine ⟨by omega, by omega, ?_⟩
      ((conv=>whnf);repeat((first|refine aF ?_|refine aT ?_);(first|refine rG Γ hm ?_|refine rD Γ hm (by kernel_rfl) ?_);conv=>whnf))
      refine ⟨rfl, by omega, ?_⟩
      ((conv=>whnf);repeat((first|refine aF ?_|refine aT ?_);(first|refine rG Γ hm ?_|refine rD Γ hm (by kernel_rfl) ?_);conv=>whnf))
      refine ⟨by omega, by omega, ?_⟩
      ((conv=>whnf);repeat((first|refine aF ?_|refine aT ?_);(first|refine rG Γ hm ?_|refine rD Γ hm (by kernel_rfl) ?_);conv=>whnf))
      refine ⟨rfl, by omega, ?_⟩
      ((conv=>whnf);repeat((first|refine aF ?_|refine aT ?_);(first|refine rG Γ hm ?_|refine rD Γ hm (by kernel_rfl) ?_);conv=>whnf))
      refine ⟨by omega, by omega, ?_⟩
      ((conv=>whnf);repeat((first|refine aF ?_|refine aT ?_);(first|refine rG Γ hm ?_|refine rD Γ hm (by kernel_rfl) ?_);conv=>whnf))
      refine ⟨rfl, by omega, u[k], rfl, rfl, ?_⟩
      ((conv=>whnf);repeat((first|refine aF ?_|refine aT ?_);(first|refine rG Γ hm ?_|refine rD Γ hm (by kernel_rfl) ?_);conv=>whnf))
      refine ⟨by omega, by simp; omega, ?_⟩
      ((conv=>whnf);repeat((first|refine aF ?_|refine aT ?_);(first|refine rG Γ hm ?_|refine rD Γ hm (by kernel_rfl) ?_);conv=>whnf))
      refine ⟨rfl, by simp; omega, u[i], rfl, rfl, ?_⟩
      ((conv=>whnf);repeat((first|refine aF ?_|refine aT ?_);(first|refine rG Γ hm ?_|refine rD Γ hm (by kernel_rfl) ?_);conv=>whnf))
      refine ⟨(by kernel_rfl), ?_⟩
      ((conv=>whnf);repeat((first|refine aF ?_|refine aT ?_);(first|refine rG Γ hm ?_|refine rD Γ hm (by kernel_rfl) ?_);conv=>whnf))
      refine ⟨by unfold I64; omega, ?_⟩
      ((conv=>whnf);repeat((first|refine aF ?_|refine aT ?_);(first|refine rG Γ hm ?_|refine rD Γ hm (by kernel_rfl) ?_);conv=>whnf))
      refine ⟨by unfold I64; omega, ?_⟩
      ((conv=>whnf);repeat((first|refine aF ?_|refine aT ?_);(first|refine rG Γ hm ?_|refine rD Γ hm (by kernel_rfl) ?_);conv=>whnf))
      refine G_next [] (by omega) ⟨⟨rfl, rfl, rfl, rfl, congrArg (fun z => SV.val (.int .i64 z)) (by omega), rfl, trivial⟩, ⟨.inl (congrArg (Ob.row 1 byteSV) hs.symm), rfl, trivial⟩, rfl, rfl⟩
    · have h3 : D.length ≤ 2 * i + 1 := by have := of_decide_eq_false h2; omega
      rw [revU_end D i h3]
      ((first|refine rG Γ hm ?_|refine rD Γ hm (by kernel_rfl) ?_);(conv=>whnf);repeat((first|refine aF ?_|refine aT ?_);(first|refine rG Γ hm ?_|refine rD Γ hm (by kernel_rfl) ?_);conv=>whnf))
      refine stepOp (good_stringT Γ.toTy (bs := D.reverse) rfl rfl rfl rfl rfl rfl rfl (.row rfl)) rfl rfl ?_
      ((first|refine rG Γ hm ?_|refine rD Γ hm (by kernel_rfl) ?_);(conv=>whnf);repeat((first|refine aF ?_|refine aT ?_);(first|refine rG Γ hm ?_|refine rD Γ hm (by kernel_rfl) ?_);conv=>whnf))
      exact done0 rfl (.cons .tmp .nil) rfl rfl

end Go.Sy.YtjomehmhkcnadaaGreatDoor

namespace Go.Sy.YtjomehmhkcnadaaGreatDoor
open Go.Proofs
-- SIMP: placeB

attribute [local irreducible] Go.Sy.G Go.Sy.DR
set_option maxRecDepth 20000
set_option maxHeartbeats 4000000

def netDomain (n : Net) (dev vlan : Int) : Bool := decide (0 ≤ domI n dev vlan)

def portB (n : Net) (i : Nat) (p : Port) : Bool :=
  placeB p.dev n.devices.length && decide (0 ≤ p.native) && decide (p.native ≤ 4094) && (decide (p.tagged.length = 0) || risingB p.tagged 1 4094) && !inB p.tagged p.native && !(p.native == 0 && decide (p.tagged.length = 0)) &&
    allB (fun _ v => netDomain n p.dev v) p.tagged && !(decide (0 < p.native) && !netDomain n p.dev p.native) &&
    (p.link == -1 || placeB p.link n.links.length && ((nth n.links p.link).a == i || (nth n.links p.link).b == i))

theorem judgePortS (n : Net) (i : Nat) (p : Port) (hn : n.Fin) (hp : Short p.tagged) : Sy.Spec Tryz.prog 43 [netSV n, intSV i, portSV p] [] (boolSV (portB n i p)) [] := contract Γ hm 100 F43 Tryz.ntmps43 rfl fun F hF => by
  ((conv=>whnf);repeat((first|refine aF ?_|refine aT ?_);(first|refine rG Γ hm ?_|refine rD Γ hm (by kernel_rfl) ?_);conv=>whnf))
  (repeat' (first | (refine ⟨fun h => ?_, fun h => ?_⟩ <;> (repeat (first | (simp only [placeB] at h) | (simp only [decide_eq_true_eq] at h) | (simp only [decide_eq_false_iff_not] at h) | (simp only [beq_iff_eq] at h) | (simp only [beq_eq_false_iff_ne] at h) | (simp only [bne_iff_ne] at h) | (simp only [bne_eq_false_iff_eq] at h) | (simp only [Bool.and_eq_true] at h) | (simp only [Bool.or_eq_true] at h) | (simp only [Bool.and_eq_false_iff] at h) | (simp only [Bool.or_eq_false_iff] at h) | (simp only [Bool.not_eq_true'] at h) | (simp only [Bool.not_eq_false'] at h) | (simp only [Bool.not_eq_eq_eq_not] at h) | (simp only [Bool.not_true] at h) | (simp only [Bool.not_false] at h))) <;> ((first|refine rG Γ hm ?_|refine rD Γ hm (by kernel_rfl) ?_);(conv=>whnf);repeat((first|refine aF ?_|refine aT ?_);(first|refine rG Γ hm ?_|refine rD Γ hm (by kernel_rfl) ?_);conv=>whnf))) | (refine done0 rfl (.cons .tmp .nil) ?_ rfl) | (refine ⟨(by kernel_rfl), ?_⟩; ((conv=>whnf);repeat((first|refine aF ?_|refine aT ?_);(first|refine rG Γ hm ?_|refine rD Γ hm (by kernel_rfl) ?_);conv=>whnf))) | (refine ⟨by (first | (unfold I64; omega) | omega | (simp only [Int.toNat_natCast]; omega) | done), by (first | (unfold I64; omega) | omega | (simp only [Int.toNat_natCast]; omega) | done), ?_⟩; ((conv=>whnf);repeat((first|refine aF ?_|refine aT ?_);(first|refine rG Γ hm ?_|refine rD Γ hm (by kernel_rfl) ?_);conv=>whnf))) | (refine ⟨by (first | (unfold I64; omega) | omega | (simp only [Int.toNat_natCast]; omega) | done), ?_⟩; ((conv=>whnf);repeat((first|refine aF ?_|refine aT ?_);(first|refine rG Γ hm ?_|refine rD Γ hm (by kernel_rfl) ?_);conv=>whnf))) | (refine call0 (placeS_Device 5 deviceSV n.devices p.dev) F50 rfl rfl rfl rfl rfl ?_; ((first|refine rG Γ hm ?_|refine rD Γ hm (by kernel_rfl) ?_);(conv=>whnf);repeat((first|refine aF ?_|refine aT ?_);(first|refine rG Γ hm ?_|refine rD Γ hm (by kernel_rfl) ?_);conv=>whnf))) | (refine callD0 (placeS_Device 5 deviceSV n.devices p.dev) F50 rfl rfl rfl (by kernel_rfl) rfl ?_; ((first|refine rG Γ hm ?_|refine rD Γ hm (by kernel_rfl) ?_);(conv=>whnf);repeat((first|refine aF ?_|refine aT ?_);(first|refine rG Γ hm ?_|refine rD Γ hm (by kernel_rfl) ?_);conv=>whnf))) | (refine call0 (risingS p.tagged 4094 hp) F53 rfl rfl rfl rfl rfl ?_; ((first|refine rG Γ hm ?_|refine rD Γ hm (by kernel_rfl) ?_);(conv=>whnf);repeat((first|refine aF ?_|refine aT ?_);(first|refine rG Γ hm ?_|refine rD Γ hm (by kernel_rfl) ?_);conv=>whnf))) | (refine callD0 (risingS p.tagged 4094 hp) F53 rfl rfl rfl (by kernel_rfl) rfl ?_; ((first|refine rG Γ hm ?_|refine rD Γ hm (by kernel_rfl) ?_);(conv=>whnf);repeat((first|refine aF ?_|refine aT ?_);(first|refine rG Γ hm ?_|refine rD Γ hm (by kernel_rfl) ?_);conv=>whnf))) | (refine call0 (containsS p.tagged p.native hp) F83 rfl rfl rfl rfl rfl ?_; ((first|refine rG Γ hm ?_|refine rD Γ hm (by kernel_rfl) ?_);(conv=>whnf);repeat((first|refine aF ?_|refine aT ?_);(first|refine rG Γ hm ?_|refine rD Γ hm (by kernel_rfl) ?_);conv=>whnf))) | (refine callD0 (containsS p.tagged p.native hp) F83 rfl rfl rfl (by kernel_rfl) rfl ?_; ((first|refine rG Γ hm ?_|refine rD Γ hm (by kernel_rfl) ?_);(conv=>whnf);repeat((first|refine aF ?_|refine aT ?_);(first|refine rG Γ hm ?_|refine rD Γ hm (by kernel_rfl) ?_);conv=>whnf)))))
  all_goals first | (refine congrArg boolSV ?_; clear hF; grind [portB, placeB]) | skip
  all_goals (
    refine G_box 3 8 (netSV n) rfl rfl rfl ?_
    refine G_box 5 7 (portSV p) rfl rfl rfl ?_
    refine G_countP p.tagged.length (fun j => Upto (fun _ v => netDomain n p.dev v) p.tagged j) (fun j => [(1, intSV i), (3, .ref 8 (netSV n) 0), (5, .ref 7 (portSV p) 0), (51, .sl 1 intSV p.tagged), (52, intSV p.tagged.length), (53, intSV j)]) (fun _ => []) [] (upto_zero _ _) ⟨⟨rfl, rfl, rfl, rfl, rfl, rfl, rfl, rfl, rfl, rfl, rfl, rfl, trivial⟩, trivial, rfl, rfl⟩ ?_
    intro j hj hI
    have hsh := hp
    unfold Short at hsh
    ((first|refine rG Γ hm ?_|refine rD Γ hm (by kernel_rfl) ?_);(conv=>whnf);repeat((first|refine aF ?_|refine aT ?_);(first|refine rG Γ hm ?_|refine rD Γ hm (by kernel_rfl) ?_);conv=>whnf)))
  all_goals (
    (repeat' (first | (refine ⟨fun h => ?_, fun h => ?_⟩ <;> (repeat (first | (simp only [placeB] at h) | (simp only [decide_eq_true_eq] at h) | (simp only [decide_eq_false_iff_not] at h) | (simp only [beq_iff_eq] at h) | (simp only [beq_eq_false_iff_ne] at h) | (simp only [bne_iff_ne] at h) | (simp only [bne_eq_false_iff_eq] at h) | (simp only [Bool.and_eq_true] at h) | (simp only [Bool.or_eq_true] at h) | (simp only [Bool.and_eq_false_iff] at h) | (simp only [Bool.or_eq_false_iff] at h) | (simp only [Bool.not_eq_true'] at h) | (simp only [Bool.not_eq_false'] at h) | (simp only [Bool.not_eq_eq_eq_not] at h) | (simp only [Bool.not_true] at h) | (simp only [Bool.not_false] at h))) <;> ((first|refine rG Γ hm ?_|refine rD Γ hm (by kernel_rfl) ?_);(conv=>whnf);repeat((first|refine aF ?_|refine aT ?_);(first|refine rG Γ hm ?_|refine rD Γ hm (by kernel_rfl) ?_);conv=>whnf))) | (refine done0 rfl (.cons .tmp .nil) ?_ rfl) | (refine ⟨(by kernel_rfl), ?_⟩; ((conv=>whnf);repeat((first|refine aF ?_|refine aT ?_);(first|refine rG Γ hm ?_|refine rD Γ hm (by kernel_rfl) ?_);conv=>whnf))) | (refine ⟨by (first | (unfold I64; omega) | omega | (simp only [Int.toNat_natCast]; omega) | done), by (first | (unfold I64; omega) | omega | (simp only [Int.toNat_natCast]; omega) | done), ?_⟩; ((conv=>whnf);repeat((first|refine aF ?_|refine aT ?_);(first|refine rG Γ hm ?_|refine rD Γ hm (by kernel_rfl) ?_);conv=>whnf))) | (refine ⟨by (first | (unfold I64; omega) | omega | (simp only [Int.toNat_natCast]; omega) | done), ?_⟩; ((conv=>whnf);repeat((first|refine aF ?_|refine aT ?_);(first|refine rG Γ hm ?_|refine rD Γ hm (by kernel_rfl) ?_);conv=>whnf))) | (refine call0 (judgeDomainS n p.dev (p.tagged[j]'(by omega)) hn.domains) F78 rfl rfl rfl rfl rfl ?_; ((first|refine rG Γ hm ?_|refine rD Γ hm (by kernel_rfl) ?_);(conv=>whnf);repeat((first|refine aF ?_|refine aT ?_);(first|refine rG Γ hm ?_|refine rD Γ hm (by kernel_rfl) ?_);conv=>whnf))) | (refine callD0 (judgeDomainS n p.dev (p.tagged[j]'(by omega)) hn.domains) F78 rfl rfl rfl (by kernel_rfl) rfl ?_; ((first|refine rG Γ hm ?_|refine rD Γ hm (by kernel_rfl) ?_);(conv=>whnf);repeat((first|refine aF ?_|refine aT ?_);(first|refine rG Γ hm ?_|refine rD Γ hm (by kernel_rfl) ?_);conv=>whnf))) | (refine call0 (judgeDomainS n p.dev p.native hn.domains) F78 rfl rfl rfl rfl rfl ?_; ((first|refine rG Γ hm ?_|refine rD Γ hm (by kernel_rfl) ?_);(conv=>whnf);repeat((first|refine aF ?_|refine aT ?_);(first|refine rG Γ hm ?_|refine rD Γ hm (by kernel_rfl) ?_);conv=>whnf))) | (refine callD0 (judgeDomainS n p.dev p.native hn.domains) F78 rfl rfl rfl (by kernel_rfl) rfl ?_; ((first|refine rG Γ hm ?_|refine rD Γ hm (by kernel_rfl) ?_);(conv=>whnf);repeat((first|refine aF ?_|refine aT ?_);(first|refine rG Γ hm ?_|refine rD Γ hm (by kernel_rfl) ?_);conv=>whnf))) | (refine call0 (placeS_Link 3 linkSV n.links p.link) F84 rfl rfl rfl rfl rfl ?_; ((first|refine rG Γ hm ?_|refine rD Γ hm (by kernel_rfl) ?_);(conv=>whnf);repeat((first|refine aF ?_|refine aT ?_);(first|refine rG Γ hm ?_|refine rD Γ hm (by kernel_rfl) ?_);conv=>whnf))) | (refine callD0 (placeS_Link 3 linkSV n.links p.link) F84 rfl rfl rfl (by kernel_rfl) rfl ?_; ((first|refine rG Γ hm ?_|refine rD Γ hm (by kernel_rfl) ?_);(conv=>whnf);repeat((first|refine aF ?_|refine aT ?_);(first|refine rG Γ hm ?_|refine rD Γ hm (by kernel_rfl) ?_);conv=>whnf))) | (refine G_nextP [] hI (by omega) ?_ ⟨⟨rfl, rfl, rfl, rfl, rfl, rfl, rfl, rfl, rfl, rfl, rfl, rfl, trivial⟩, trivial, rfl, rfl⟩))))
  all_goals first
    | exact upto_next hI (by omega) (by simp only [netDomain, decide_eq_true_eq]; omega)
    | (refine congrArg boolSV ?_
       have h0 : allB (fun _ v => netDomain n p.dev v) p.tagged = false := allB_false (i := j) (by omega) (by simp only [netDomain, decide_eq_false_iff_not]; omega)
       clear hF hI; grind [portB])
    | (refine congrArg boolSV ?_
       have h0 : allB (fun _ v => netDomain n p.dev v) p.tagged = true := upto_all hI (by omega)
       clear hF hI; grind [portB, placeB, netDomain, nth_eq])

end Go.Sy.YtjomehmhkcnadaaGreatDoor

namespace Go.Sy.YtjomehmhkcnadaaGreatDoor
open Go.Proofs
-- SIMP: placeB

attribute [local irreducible] Go.Sy.G Go.Sy.DR
set_option maxRecDepth 20000
set_option maxHeartbeats 4000000

def linkB (n : Net) (i : Nat) (l : Link) : Bool :=
  placeB l.a n.ports.length && placeB l.b n.ports.length && (nth n.ports l.a).dev != (nth n.ports l.b).dev && (nth n.ports l.a).link == i && (nth n.ports l.b).link == i

theorem judgeLinkS (n : Net) (i : Nat) (l : Link) : Sy.Spec Tryz.prog 45 [netSV n, intSV i, linkSV l] [] (boolSV (linkB n i l)) [] := contract Γ hm 100 F45 Tryz.ntmps45 rfl fun F hF => by
  ((conv=>whnf);repeat((first|refine aF ?_|refine aT ?_);(first|refine rG Γ hm ?_|refine rD Γ hm (by kernel_rfl) ?_);conv=>whnf))
  (repeat' (first | (refine ⟨fun h => ?_, fun h => ?_⟩ <;> (repeat (first | (simp only [placeB] at h) | (simp only [decide_eq_true_eq] at h) | (simp only [decide_eq_false_iff_not] at h) | (simp only [beq_iff_eq] at h) | (simp only [beq_eq_false_iff_ne] at h) | (simp only [bne_iff_ne] at h) | (simp only [bne_eq_false_iff_eq] at h) | (simp only [Bool.and_eq_true] at h) | (simp only [Bool.or_eq_true] at h) | (simp only [Bool.and_eq_false_iff] at h) | (simp only [Bool.or_eq_false_iff] at h) | (simp only [Bool.not_eq_true'] at h) | (simp only [Bool.not_eq_false'] at h) | (simp only [Bool.not_eq_eq_eq_not] at h) | (simp only [Bool.not_true] at h) | (simp only [Bool.not_false] at h))) <;> ((first|refine rG Γ hm ?_|refine rD Γ hm (by kernel_rfl) ?_);(conv=>whnf);repeat((first|refine aF ?_|refine aT ?_);(first|refine rG Γ hm ?_|refine rD Γ hm (by kernel_rfl) ?_);conv=>whnf))) | (refine done0 rfl (.cons .tmp .nil) ?_ rfl) | (refine ⟨(by kernel_rfl), ?_⟩; ((conv=>whnf);repeat((first|refine aF ?_|refine aT ?_);(first|refine rG Γ hm ?_|refine rD Γ hm (by kernel_rfl) ?_);conv=>whnf))) | (refine ⟨by (first | (unfold I64; omega) | omega | (simp only [Int.toNat_natCast]; omega) | done), by (first | (unfold I64; omega) | omega | (simp only [Int.toNat_natCast]; omega) | done), ?_⟩; ((conv=>whnf);repeat((first|refine aF ?_|refine aT ?_);(first|refine rG Γ hm ?_|refine rD Γ hm (by kernel_rfl) ?_);conv=>whnf))) | (refine ⟨by (first | (unfold I64; omega) | omega | (simp only [Int.toNat_natCast]; omega) | done), ?_⟩; ((conv=>whnf);repeat((first|refine aF ?_|refine aT ?_);(first|refine rG Γ hm ?_|refine rD Γ hm (by kernel_rfl) ?_);conv=>whnf))) | (refine call0 (placeS_Port 7 portSV n.ports l.a) F85 rfl rfl rfl rfl rfl ?_; ((first|refine rG Γ hm ?_|refine rD Γ hm (by kernel_rfl) ?_);(conv=>whnf);repeat((first|refine aF ?_|refine aT ?_);(first|refine rG Γ hm ?_|refine rD Γ hm (by kernel_rfl) ?_);conv=>whnf))) | (refine callD0 (placeS_Port 7 portSV n.ports l.a) F85 rfl rfl rfl (by kernel_rfl) rfl ?_; ((first|refine rG Γ hm ?_|refine rD Γ hm (by kernel_rfl) ?_);(conv=>whnf);repeat((first|refine aF ?_|refine aT ?_);(first|refine rG Γ hm ?_|refine rD Γ hm (by kernel_rfl) ?_);conv=>whnf))) | (refine call0 (placeS_Port 7 portSV n.ports l.b) F85 rfl rfl rfl rfl rfl ?_; ((first|refine rG Γ hm ?_|refine rD Γ hm (by kernel_rfl) ?_);(conv=>whnf);repeat((first|refine aF ?_|refine aT ?_);(first|refine rG Γ hm ?_|refine rD Γ hm (by kernel_rfl) ?_);conv=>whnf))) | (refine callD0 (placeS_Port 7 portSV n.ports l.b) F85 rfl rfl rfl (by kernel_rfl) rfl ?_; ((first|refine rG Γ hm ?_|refine rD Γ hm (by kernel_rfl) ?_);(conv=>whnf);repeat((first|refine aF ?_|refine aT ?_);(first|refine rG Γ hm ?_|refine rD Γ hm (by kernel_rfl) ?_);conv=>whnf)))))
  all_goals (refine congrArg boolSV ?_; clear hF; grind [linkB, placeB, nth_eq])

def staticB (n : Net) (s : Static) : Bool :=
  placeB s.domain n.domains.length && placeB s.port n.ports.length && (nth n.ports s.port).dev == (nth n.domains s.domain).dev && memberB (nth n.ports s.port) (nth n.domains s.domain).vlan

theorem judgeStaticS (n : Net) (i : Nat) (s : Static) (hn : n.Fin) : Sy.Spec Tryz.prog 47 [netSV n, intSV i, staticSV s] [] (boolSV (staticB n s)) [] := contract Γ hm 100 F47 Tryz.ntmps47 rfl fun F hF => by
  ((conv=>whnf);repeat((first|refine aF ?_|refine aT ?_);(first|refine rG Γ hm ?_|refine rD Γ hm (by kernel_rfl) ?_);conv=>whnf))
  (repeat' (first | (refine ⟨fun h => ?_, fun h => ?_⟩ <;> (repeat (first | (simp only [placeB] at h) | (simp only [decide_eq_true_eq] at h) | (simp only [decide_eq_false_iff_not] at h) | (simp only [beq_iff_eq] at h) | (simp only [beq_eq_false_iff_ne] at h) | (simp only [bne_iff_ne] at h) | (simp only [bne_eq_false_iff_eq] at h) | (simp only [Bool.and_eq_true] at h) | (simp only [Bool.or_eq_true] at h) | (simp only [Bool.and_eq_false_iff] at h) | (simp only [Bool.or_eq_false_iff] at h) | (simp only [Bool.not_eq_true'] at h) | (simp only [Bool.not_eq_false'] at h) | (simp only [Bool.not_eq_eq_eq_not] at h) | (simp only [Bool.not_true] at h) | (simp only [Bool.not_false] at h))) <;> ((first|refine rG Γ hm ?_|refine rD Γ hm (by kernel_rfl) ?_);(conv=>whnf);repeat((first|refine aF ?_|refine aT ?_);(first|refine rG Γ hm ?_|refine rD Γ hm (by kernel_rfl) ?_);conv=>whnf))) | (refine done0 rfl (.cons .tmp .nil) ?_ rfl) | (refine ⟨(by kernel_rfl), ?_⟩; ((conv=>whnf);repeat((first|refine aF ?_|refine aT ?_);(first|refine rG Γ hm ?_|refine rD Γ hm (by kernel_rfl) ?_);conv=>whnf))) | (refine ⟨by (first | (unfold I64; omega) | omega | (simp only [Int.toNat_natCast]; omega) | done), by (first | (unfold I64; omega) | omega | (simp only [Int.toNat_natCast]; omega) | done), ?_⟩; ((conv=>whnf);repeat((first|refine aF ?_|refine aT ?_);(first|refine rG Γ hm ?_|refine rD Γ hm (by kernel_rfl) ?_);conv=>whnf))) | (refine ⟨by (first | (unfold I64; omega) | omega | (simp only [Int.toNat_natCast]; omega) | done), ?_⟩; ((conv=>whnf);repeat((first|refine aF ?_|refine aT ?_);(first|refine rG Γ hm ?_|refine rD Γ hm (by kernel_rfl) ?_);conv=>whnf))) | (refine call0 (placeS_Domain 6 domainSV n.domains s.domain) F86 rfl rfl rfl rfl rfl ?_; ((first|refine rG Γ hm ?_|refine rD Γ hm (by kernel_rfl) ?_);(conv=>whnf);repeat((first|refine aF ?_|refine aT ?_);(first|refine rG Γ hm ?_|refine rD Γ hm (by kernel_rfl) ?_);conv=>whnf))) | (refine callD0 (placeS_Domain 6 domainSV n.domains s.domain) F86 rfl rfl rfl (by kernel_rfl) rfl ?_; ((first|refine rG Γ hm ?_|refine rD Γ hm (by kernel_rfl) ?_);(conv=>whnf);repeat((first|refine aF ?_|refine aT ?_);(first|refine rG Γ hm ?_|refine rD Γ hm (by kernel_rfl) ?_);conv=>whnf))) | (refine call0 (placeS_Port 7 portSV n.ports s.port) F85 rfl rfl rfl rfl rfl ?_; ((first|refine rG Γ hm ?_|refine rD Γ hm (by kernel_rfl) ?_);(conv=>whnf);repeat((first|refine aF ?_|refine aT ?_);(first|refine rG Γ hm ?_|refine rD Γ hm (by kernel_rfl) ?_);conv=>whnf))) | (refine callD0 (placeS_Port 7 portSV n.ports s.port) F85 rfl rfl rfl (by kernel_rfl) rfl ?_; ((first|refine rG Γ hm ?_|refine rD Γ hm (by kernel_rfl) ?_);(conv=>whnf);repeat((first|refine aF ?_|refine aT ?_);(first|refine rG Γ hm ?_|refine rD Γ hm (by kernel_rfl) ?_);conv=>whnf))) | (refine call0 (memberS (n.ports[s.port.toNat]'(by omega)) (n.domains[s.domain.toNat]'(by omega)).vlan (hn.tagged _ (List.getElem_mem _))) F87 rfl rfl rfl rfl rfl ?_; ((first|refine rG Γ hm ?_|refine rD Γ hm (by kernel_rfl) ?_);(conv=>whnf);repeat((first|refine aF ?_|refine aT ?_);(first|refine rG Γ hm ?_|refine rD Γ hm (by kernel_rfl) ?_);conv=>whnf))) | (refine callD0 (memberS (n.ports[s.port.toNat]'(by omega)) (n.domains[s.domain.toNat]'(by omega)).vlan (hn.tagged _ (List.getElem_mem _))) F87 rfl rfl rfl (by kernel_rfl) rfl ?_; ((first|refine rG Γ hm ?_|refine rD Γ hm (by kernel_rfl) ?_);(conv=>whnf);repeat((first|refine aF ?_|refine aT ?_);(first|refine rG Γ hm ?_|refine rD Γ hm (by kernel_rfl) ?_);conv=>whnf)))))
  all_goals (refine congrArg boolSV ?_; clear hF; grind [staticB, placeB, nth_eq])

def irbB (n : Net) (i : Nat) (x : Irb) : Bool :=
  placeB x.domain n.domains.length && placeB x.vrf n.vrfs.length && (nth n.domains x.domain).dev == (nth n.vrfs x.vrf).dev && (nth n.domains x.domain).irb == i && decide (1 ≤ x.bits) && decide (x.bits ≤ 30)

theorem judgeIrbS (n : Net) (i : Nat) (x : Irb) : Sy.Spec Tryz.prog 55 [netSV n, intSV i, irbSV x] [] (boolSV (irbB n i x)) [] := contract Γ hm 100 F55 Tryz.ntmps55 rfl fun F hF => by
  ((conv=>whnf);repeat((first|refine aF ?_|refine aT ?_);(first|refine rG Γ hm ?_|refine rD Γ hm (by kernel_rfl) ?_);conv=>whnf))
  (repeat' (first | (refine ⟨fun h => ?_, fun h => ?_⟩ <;> (repeat (first | (simp only [placeB] at h) | (simp only [decide_eq_true_eq] at h) | (simp only [decide_eq_false_iff_not] at h) | (simp only [beq_iff_eq] at h) | (simp only [beq_eq_false_iff_ne] at h) | (simp only [bne_iff_ne] at h) | (simp only [bne_eq_false_iff_eq] at h) | (simp only [Bool.and_eq_true] at h) | (simp only [Bool.or_eq_true] at h) | (simp only [Bool.and_eq_false_iff] at h) | (simp only [Bool.or_eq_false_iff] at h) | (simp only [Bool.not_eq_true'] at h) | (simp only [Bool.not_eq_false'] at h) | (simp only [Bool.not_eq_eq_eq_not] at h) | (simp only [Bool.not_true] at h) | (simp only [Bool.not_false] at h))) <;> ((first|refine rG Γ hm ?_|refine rD Γ hm (by kernel_rfl) ?_);(conv=>whnf);repeat((first|refine aF ?_|refine aT ?_);(first|refine rG Γ hm ?_|refine rD Γ hm (by kernel_rfl) ?_);conv=>whnf))) | (refine done0 rfl (.cons .tmp .nil) ?_ rfl) | (refine ⟨(by kernel_rfl), ?_⟩; ((conv=>whnf);repeat((first|refine aF ?_|refine aT ?_);(first|refine rG Γ hm ?_|refine rD Γ hm (by kernel_rfl) ?_);conv=>whnf))) | (refine ⟨by (first | (unfold I64; omega) | omega | (simp only [Int.toNat_natCast]; omega) | done), by (first | (unfold I64; omega) | omega | (simp only [Int.toNat_natCast]; omega) | done), ?_⟩; ((conv=>whnf);repeat((first|refine aF ?_|refine aT ?_);(first|refine rG Γ hm ?_|refine rD Γ hm (by kernel_rfl) ?_);conv=>whnf))) | (refine ⟨by (first | (unfold I64; omega) | omega | (simp only [Int.toNat_natCast]; omega) | done), ?_⟩; ((conv=>whnf);repeat((first|refine aF ?_|refine aT ?_);(first|refine rG Γ hm ?_|refine rD Γ hm (by kernel_rfl) ?_);conv=>whnf))) | (refine call0 (placeS_Domain 6 domainSV n.domains x.domain) F86 rfl rfl rfl rfl rfl ?_; ((first|refine rG Γ hm ?_|refine rD Γ hm (by kernel_rfl) ?_);(conv=>whnf);repeat((first|refine aF ?_|refine aT ?_);(first|refine rG Γ hm ?_|refine rD Γ hm (by kernel_rfl) ?_);conv=>whnf))) | (refine callD0 (placeS_Domain 6 domainSV n.domains x.domain) F86 rfl rfl rfl (by kernel_rfl) rfl ?_; ((first|refine rG Γ hm ?_|refine rD Γ hm (by kernel_rfl) ?_);(conv=>whnf);repeat((first|refine aF ?_|refine aT ?_);(first|refine rG Γ hm ?_|refine rD Γ hm (by kernel_rfl) ?_);conv=>whnf))) | (refine call0 (placeS_Vrf 5 vrfSV n.vrfs x.vrf) F89 rfl rfl rfl rfl rfl ?_; ((first|refine rG Γ hm ?_|refine rD Γ hm (by kernel_rfl) ?_);(conv=>whnf);repeat((first|refine aF ?_|refine aT ?_);(first|refine rG Γ hm ?_|refine rD Γ hm (by kernel_rfl) ?_);conv=>whnf))) | (refine callD0 (placeS_Vrf 5 vrfSV n.vrfs x.vrf) F89 rfl rfl rfl (by kernel_rfl) rfl ?_; ((first|refine rG Γ hm ?_|refine rD Γ hm (by kernel_rfl) ?_);(conv=>whnf);repeat((first|refine aF ?_|refine aT ?_);(first|refine rG Γ hm ?_|refine rD Γ hm (by kernel_rfl) ?_);conv=>whnf)))))
  all_goals (refine congrArg boolSV ?_; clear hF; grind [irbB, placeB, nth_eq])

def floodB (n : Net) (f : Flood) : Bool := placeB f.dev n.devices.length && decide (f.addrs.length ≤ 16)
theorem right1 (n : Net) (i : Nat) (f : Flood) : Sy.Spec Tryz.prog 49 [intSV i, floodSV f, .ref 8 (netSV n) 0] [] (boolSV (floodB n f)) [] := contract Γ hm 100 F49 Tryz.ntmps49 rfl fun F hF => by
  ((conv=>whnf);repeat((first|refine aF ?_|refine aT ?_);(first|refine rG Γ hm ?_|refine rD Γ hm (by kernel_rfl) ?_);conv=>whnf))
  (repeat' (first | (refine ⟨fun h => ?_, fun h => ?_⟩ <;> (repeat (first | (simp only [placeB] at h) | (simp only [decide_eq_true_eq] at h) | (simp only [decide_eq_false_iff_not] at h) | (simp only [beq_iff_eq] at h) | (simp only [beq_eq_false_iff_ne] at h) | (simp only [bne_iff_ne] at h) | (simp only [bne_eq_false_iff_eq] at h) | (simp only [Bool.and_eq_true] at h) | (simp only [Bool.or_eq_true] at h) | (simp only [Bool.and_eq_false_iff] at h) | (simp only [Bool.or_eq_false_iff] at h) | (simp only [Bool.not_eq_true'] at h) | (simp only [Bool.not_eq_false'] at h) | (simp only [Bool.not_eq_eq_eq_not] at h) | (simp only [Bool.not_true] at h) | (simp only [Bool.not_false] at h))) <;> ((first|refine rG Γ hm ?_|refine rD Γ hm (by kernel_rfl) ?_);(conv=>whnf);repeat((first|refine aF ?_|refine aT ?_);(first|refine rG Γ hm ?_|refine rD Γ hm (by kernel_rfl) ?_);conv=>whnf))) | (refine done0 rfl (.cons .tmp .nil) ?_ rfl) | (refine ⟨(by kernel_rfl), ?_⟩; ((conv=>whnf);repeat((first|refine aF ?_|refine aT ?_);(first|refine rG Γ hm ?_|refine rD Γ hm (by kernel_rfl) ?_);conv=>whnf))) | (refine ⟨by (first | (unfold I64; omega) | omega | (simp only [Int.toNat_natCast]; omega) | done), by (first | (unfold I64; omega) | omega | (simp only [Int.toNat_natCast]; omega) | done), ?_⟩; ((conv=>whnf);repeat((first|refine aF ?_|refine aT ?_);(first|refine rG Γ hm ?_|refine rD Γ hm (by kernel_rfl) ?_);conv=>whnf))) | (refine ⟨by (first | (unfold I64; omega) | omega | (simp only [Int.toNat_natCast]; omega) | done), ?_⟩; ((conv=>whnf);repeat((first|refine aF ?_|refine aT ?_);(first|refine rG Γ hm ?_|refine rD Γ hm (by kernel_rfl) ?_);conv=>whnf))) | (refine call0 (placeS_Device 5 deviceSV n.devices f.dev) F50 rfl rfl rfl rfl rfl ?_; ((first|refine rG Γ hm ?_|refine rD Γ hm (by kernel_rfl) ?_);(conv=>whnf);repeat((first|refine aF ?_|refine aT ?_);(first|refine rG Γ hm ?_|refine rD Γ hm (by kernel_rfl) ?_);conv=>whnf))) | (refine callD0 (placeS_Device 5 deviceSV n.devices f.dev) F50 rfl rfl rfl (by kernel_rfl) rfl ?_; ((first|refine rG Γ hm ?_|refine rD Γ hm (by kernel_rfl) ?_);(conv=>whnf);repeat((first|refine aF ?_|refine aT ?_);(first|refine rG Γ hm ?_|refine rD Γ hm (by kernel_rfl) ?_);conv=>whnf)))))
  all_goals (refine congrArg boolSV ?_; clear hF; grind [floodB, placeB])

def riseB (l : List Int) (most : Int) : Bool := decide (l.length = 0) || risingB l 1 most
def vrfB (n : Net) (v : Vrf) : Bool := placeB v.dev n.devices.length && riseB v.imports 65535 && riseB v.exports 65535
theorem right2 (n : Net) (i : Nat) (v : Vrf) (h1 : Short v.imports) (h2 : Short v.exports) : Sy.Spec Tryz.prog 52 [intSV i, vrfSV v, .ref 8 (netSV n) 0] [] (boolSV (vrfB n v)) [] := contract Γ hm 100 F52 Tryz.ntmps52 rfl fun F hF => by
  ((conv=>whnf);repeat((first|refine aF ?_|refine aT ?_);(first|refine rG Γ hm ?_|refine rD Γ hm (by kernel_rfl) ?_);conv=>whnf))
  (repeat' (first | (refine ⟨fun h => ?_, fun h => ?_⟩ <;> (repeat (first | (simp only [placeB] at h) | (simp only [decide_eq_true_eq] at h) | (simp only [decide_eq_false_iff_not] at h) | (simp only [beq_iff_eq] at h) | (simp only [beq_eq_false_iff_ne] at h) | (simp only [bne_iff_ne] at h) | (simp only [bne_eq_false_iff_eq] at h) | (simp only [Bool.and_eq_true] at h) | (simp only [Bool.or_eq_true] at h) | (simp only [Bool.and_eq_false_iff] at h) | (simp only [Bool.or_eq_false_iff] at h) | (simp only [Bool.not_eq_true'] at h) | (simp only [Bool.not_eq_false'] at h) | (simp only [Bool.not_eq_eq_eq_not] at h) | (simp only [Bool.not_true] at h) | (simp only [Bool.not_false] at h))) <;> ((first|refine rG Γ hm ?_|refine rD Γ hm (by kernel_rfl) ?_);(conv=>whnf);repeat((first|refine aF ?_|refine aT ?_);(first|refine rG Γ hm ?_|refine rD Γ hm (by kernel_rfl) ?_);conv=>whnf))) | (refine done0 rfl (.cons .tmp .nil) ?_ rfl) | (refine ⟨(by kernel_rfl), ?_⟩; ((conv=>whnf);repeat((first|refine aF ?_|refine aT ?_);(first|refine rG Γ hm ?_|refine rD Γ hm (by kernel_rfl) ?_);conv=>whnf))) | (refine ⟨by (first | (unfold I64; omega) | omega | (simp only [Int.toNat_natCast]; omega) | done), by (first | (unfold I64; omega) | omega | (simp only [Int.toNat_natCast]; omega) | done), ?_⟩; ((conv=>whnf);repeat((first|refine aF ?_|refine aT ?_);(first|refine rG Γ hm ?_|refine rD Γ hm (by kernel_rfl) ?_);conv=>whnf))) | (refine ⟨by (first | (unfold I64; omega) | omega | (simp only [Int.toNat_natCast]; omega) | done), ?_⟩; ((conv=>whnf);repeat((first|refine aF ?_|refine aT ?_);(first|refine rG Γ hm ?_|refine rD Γ hm (by kernel_rfl) ?_);conv=>whnf))) | (refine call0 (placeS_Device 5 deviceSV n.devices v.dev) F50 rfl rfl rfl rfl rfl ?_; ((first|refine rG Γ hm ?_|refine rD Γ hm (by kernel_rfl) ?_);(conv=>whnf);repeat((first|refine aF ?_|refine aT ?_);(first|refine rG Γ hm ?_|refine rD Γ hm (by kernel_rfl) ?_);conv=>whnf))) | (refine callD0 (placeS_Device 5 deviceSV n.devices v.dev) F50 rfl rfl rfl (by kernel_rfl) rfl ?_; ((first|refine rG Γ hm ?_|refine rD Γ hm (by kernel_rfl) ?_);(conv=>whnf);repeat((first|refine aF ?_|refine aT ?_);(first|refine rG Γ hm ?_|refine rD Γ hm (by kernel_rfl) ?_);conv=>whnf))) | (refine call0 (risingS v.imports 65535 h1) F53 rfl rfl rfl rfl rfl ?_; ((first|refine rG Γ hm ?_|refine rD Γ hm (by kernel_rfl) ?_);(conv=>whnf);repeat((first|refine aF ?_|refine aT ?_);(first|refine rG Γ hm ?_|refine rD Γ hm (by kernel_rfl) ?_);conv=>whnf))) | (refine callD0 (risingS v.imports 65535 h1) F53 rfl rfl rfl (by kernel_rfl) rfl ?_; ((first|refine rG Γ hm ?_|refine rD Γ hm (by kernel_rfl) ?_);(conv=>whnf);repeat((first|refine aF ?_|refine aT ?_);(first|refine rG Γ hm ?_|refine rD Γ hm (by kernel_rfl) ?_);conv=>whnf))) | (refine call0 (risingS v.exports 65535 h2) F53 rfl rfl rfl rfl rfl ?_; ((first|refine rG Γ hm ?_|refine rD Γ hm (by kernel_rfl) ?_);(conv=>whnf);repeat((first|refine aF ?_|refine aT ?_);(first|refine rG Γ hm ?_|refine rD Γ hm (by kernel_rfl) ?_);conv=>whnf))) | (refine callD0 (risingS v.exports 65535 h2) F53 rfl rfl rfl (by kernel_rfl) rfl ?_; ((first|refine rG Γ hm ?_|refine rD Γ hm (by kernel_rfl) ?_);(conv=>whnf);repeat((first|refine aF ?_|refine aT ?_);(first|refine rG Γ hm ?_|refine rD Γ hm (by kernel_rfl) ?_);conv=>whnf)))))
  all_goals (refine congrArg boolSV ?_; clear hF; grind [vrfB, riseB, placeB])

end Go.Sy.YtjomehmhkcnadaaGreatDoor

namespace Go.Sy.YtjomehmhkcnadaaGreatDoor
open Go.Proofs

attribute [local irreducible] Go.Sy.G Go.Sy.DR
set_option maxRecDepth 20000
set_option maxHeartbeats 4000000

def netRightB (n : Net) : Bool :=
  fewB n && allB (bareB n) n.domains && allB (peersB n) n.domains && allB (portB n) n.ports && allB (linkB n) n.links && allB (fun _ => staticB n) n.statics && allB (fun _ => floodB n) n.floods && allB (fun _ => vrfB n) n.vrfs && allB (irbB n) n.irbs

theorem bare_dev {n : Net} (h : allB (bareB n) n.domains = true) {i : Nat} (hi : i < n.domains.length) : placeB n.domains[i].dev n.devices.length = true := by
  have := allB_iff.1 h i hi
  simp only [bareB, Bool.and_eq_true] at this
  exact this.1.1.1.1.1.1

theorem namesRightS (n : Net) (hn : n.Fin) : Sy.Spec Tryz.prog 18 [netSV n] [] (boolSV (netRightB n)) [] := contract Γ hm 100 F18 Tryz.ntmps18 rfl fun F hF => by
  ((conv=>whnf);repeat((first|refine aF ?_|refine aT ?_);(first|refine rG Γ hm ?_|refine rD Γ hm (by kernel_rfl) ?_);conv=>whnf))
  refine G_box 1 8 (netSV n) rfl rfl rfl ?_
  (repeat' (first | (refine ⟨fun h => ?_, fun h => ?_⟩ <;> (repeat (first | (simp only [decide_eq_true_eq] at h) | (simp only [decide_eq_false_iff_not] at h) | (simp only [beq_iff_eq] at h) | (simp only [beq_eq_false_iff_ne] at h) | (simp only [bne_iff_ne] at h) | (simp only [bne_eq_false_iff_eq] at h) | (simp only [Bool.and_eq_true] at h) | (simp only [Bool.or_eq_true] at h) | (simp only [Bool.and_eq_false_iff] at h) | (simp only [Bool.or_eq_false_iff] at h) | (simp only [Bool.not_eq_true'] at h) | (simp only [Bool.not_eq_false'] at h) | (simp only [Bool.not_eq_eq_eq_not] at h) | (simp only [Bool.not_true] at h) | (simp only [Bool.not_false] at h))) <;> ((first|refine rG Γ hm ?_|refine rD Γ hm (by kernel_rfl) ?_);(conv=>whnf);repeat((first|refine aF ?_|refine aT ?_);(first|refine rG Γ hm ?_|refine rD Γ hm (by kernel_rfl) ?_);conv=>whnf))) | (refine done0 rfl (.cons .tmp .nil) ?_ rfl) | (refine ⟨(by kernel_rfl), ?_⟩; ((conv=>whnf);repeat((first|refine aF ?_|refine aT ?_);(first|refine rG Γ hm ?_|refine rD Γ hm (by kernel_rfl) ?_);conv=>whnf))) | (refine ⟨by (first | (unfold I64; omega) | omega | (simp only [Int.toNat_natCast]; omega) | done), by (first | (unfold I64; omega) | omega | (simp only [Int.toNat_natCast]; omega) | done), ?_⟩; ((conv=>whnf);repeat((first|refine aF ?_|refine aT ?_);(first|refine rG Γ hm ?_|refine rD Γ hm (by kernel_rfl) ?_);conv=>whnf))) | (refine ⟨by (first | (unfold I64; omega) | omega | (simp only [Int.toNat_natCast]; omega) | done), ?_⟩; ((conv=>whnf);repeat((first|refine aF ?_|refine aT ?_);(first|refine rG Γ hm ?_|refine rD Γ hm (by kernel_rfl) ?_);conv=>whnf))) | (refine call0 (fewS n) F38 rfl rfl rfl rfl rfl ?_; ((first|refine rG Γ hm ?_|refine rD Γ hm (by kernel_rfl) ?_);(conv=>whnf);repeat((first|refine aF ?_|refine aT ?_);(first|refine rG Γ hm ?_|refine rD Γ hm (by kernel_rfl) ?_);conv=>whnf))) | (refine callD0 (fewS n) F38 rfl rfl rfl (by kernel_rfl) rfl ?_; ((first|refine rG Γ hm ?_|refine rD Γ hm (by kernel_rfl) ?_);(conv=>whnf);repeat((first|refine aF ?_|refine aT ?_);(first|refine rG Γ hm ?_|refine rD Γ hm (by kernel_rfl) ?_);conv=>whnf))) | (refine call0 (allS_Domain n.domains (bareB n) 40 [netSV n] [] rfl (fun i h => ⟨⟨_, _, F40⟩, bareS n i n.domains[i] hn.domains⟩) hn.domains) F39 rfl rfl rfl rfl rfl ?_; ((first|refine rG Γ hm ?_|refine rD Γ hm (by kernel_rfl) ?_);(conv=>whnf);repeat((first|refine aF ?_|refine aT ?_);(first|refine rG Γ hm ?_|refine rD Γ hm (by kernel_rfl) ?_);conv=>whnf))) | (refine callD0 (allS_Domain n.domains (bareB n) 40 [netSV n] [] rfl (fun i h => ⟨⟨_, _, F40⟩, bareS n i n.domains[i] hn.domains⟩) hn.domains) F39 rfl rfl rfl (by kernel_rfl) rfl ?_; ((first|refine rG Γ hm ?_|refine rD Γ hm (by kernel_rfl) ?_);(conv=>whnf);repeat((first|refine aF ?_|refine aT ?_);(first|refine rG Γ hm ?_|refine rD Γ hm (by kernel_rfl) ?_);conv=>whnf))) | (refine call0 (allS_Domain n.domains (peersB n) 41 [netSV n] [] rfl (fun i h => ⟨⟨_, _, F41⟩, peersS n i n.domains[i] hn (hn.peers _ (List.getElem_mem _)) (bare_dev ‹_› h)⟩) hn.domains) F39 rfl rfl rfl rfl rfl ?_; ((first|refine rG Γ hm ?_|refine rD Γ hm (by kernel_rfl) ?_);(conv=>whnf);repeat((first|refine aF ?_|refine aT ?_);(first|refine rG Γ hm ?_|refine rD Γ hm (by kernel_rfl) ?_);conv=>whnf))) | (refine callD0 (allS_Domain n.domains (peersB n) 41 [netSV n] [] rfl (fun i h => ⟨⟨_, _, F41⟩, peersS n i n.domains[i] hn (hn.peers _ (List.getElem_mem _)) (bare_dev ‹_› h)⟩) hn.domains) F39 rfl rfl rfl (by kernel_rfl) rfl ?_; ((first|refine rG Γ hm ?_|refine rD Γ hm (by kernel_rfl) ?_);(conv=>whnf);repeat((first|refine aF ?_|refine aT ?_);(first|refine rG Γ hm ?_|refine rD Γ hm (by kernel_rfl) ?_);conv=>whnf))) | (refine call0 (allS_Port n.ports (portB n) 43 [netSV n] [] rfl (fun i h => ⟨⟨_, _, F43⟩, judgePortS n i n.ports[i] hn (hn.tagged _ (List.getElem_mem _))⟩) hn.ports) F42 rfl rfl rfl rfl rfl ?_; ((first|refine rG Γ hm ?_|refine rD Γ hm (by kernel_rfl) ?_);(conv=>whnf);repeat((first|refine aF ?_|refine aT ?_);(first|refine rG Γ hm ?_|refine rD Γ hm (by kernel_rfl) ?_);conv=>whnf))) | (refine callD0 (allS_Port n.ports (portB n) 43 [netSV n] [] rfl (fun i h => ⟨⟨_, _, F43⟩, judgePortS n i n.ports[i] hn (hn.tagged _ (List.getElem_mem _))⟩) hn.ports) F42 rfl rfl rfl (by kernel_rfl) rfl ?_; ((first|refine rG Γ hm ?_|refine rD Γ hm (by kernel_rfl) ?_);(conv=>whnf);repeat((first|refine aF ?_|refine aT ?_);(first|refine rG Γ hm ?_|refine rD Γ hm (by kernel_rfl) ?_);conv=>whnf))) | (refine call0 (allS_Link n.links (linkB n) 45 [netSV n] [] rfl (fun i h => ⟨⟨_, _, F45⟩, judgeLinkS n i n.links[i]⟩) hn.links) F44 rfl rfl rfl rfl rfl ?_; ((first|refine rG Γ hm ?_|refine rD Γ hm (by kernel_rfl) ?_);(conv=>whnf);repeat((first|refine aF ?_|refine aT ?_);(first|refine rG Γ hm ?_|refine rD Γ hm (by kernel_rfl) ?_);conv=>whnf))) | (refine callD0 (allS_Link n.links (linkB n) 45 [netSV n] [] rfl (fun i h => ⟨⟨_, _, F45⟩, judgeLinkS n i n.links[i]⟩) hn.links) F44 rfl rfl rfl (by kernel_rfl) rfl ?_; ((first|refine rG Γ hm ?_|refine rD Γ hm (by kernel_rfl) ?_);(conv=>whnf);repeat((first|refine aF ?_|refine aT ?_);(first|refine rG Γ hm ?_|refine rD Γ hm (by kernel_rfl) ?_);conv=>whnf))) | (refine call0 (allS_Static n.statics (fun _ => staticB n) 47 [netSV n] [] rfl (fun i h => ⟨⟨_, _, F47⟩, judgeStaticS n i n.statics[i] hn⟩) hn.statics) F46 rfl rfl rfl rfl rfl ?_; ((first|refine rG Γ hm ?_|refine rD Γ hm (by kernel_rfl) ?_);(conv=>whnf);repeat((first|refine aF ?_|refine aT ?_);(first|refine rG Γ hm ?_|refine rD Γ hm (by kernel_rfl) ?_);conv=>whnf))) | (refine callD0 (allS_Static n.statics (fun _ => staticB n) 47 [netSV n] [] rfl (fun i h => ⟨⟨_, _, F47⟩, judgeStaticS n i n.statics[i] hn⟩) hn.statics) F46 rfl rfl rfl (by kernel_rfl) rfl ?_; ((first|refine rG Γ hm ?_|refine rD Γ hm (by kernel_rfl) ?_);(conv=>whnf);repeat((first|refine aF ?_|refine aT ?_);(first|refine rG Γ hm ?_|refine rD Γ hm (by kernel_rfl) ?_);conv=>whnf))) | (refine call0 (allS_Flood n.floods (fun _ => floodB n) 49 [] [.ref 8 (netSV n) 0] rfl (fun i h => ⟨⟨_, _, F49⟩, right1 n i n.floods[i]⟩) hn.floods) F48 rfl rfl rfl rfl rfl ?_; ((first|refine rG Γ hm ?_|refine rD Γ hm (by kernel_rfl) ?_);(conv=>whnf);repeat((first|refine aF ?_|refine aT ?_);(first|refine rG Γ hm ?_|refine rD Γ hm (by kernel_rfl) ?_);conv=>whnf))) | (refine callD0 (allS_Flood n.floods (fun _ => floodB n) 49 [] [.ref 8 (netSV n) 0] rfl (fun i h => ⟨⟨_, _, F49⟩, right1 n i n.floods[i]⟩) hn.floods) F48 rfl rfl rfl (by kernel_rfl) rfl ?_; ((first|refine rG Γ hm ?_|refine rD Γ hm (by kernel_rfl) ?_);(conv=>whnf);repeat((first|refine aF ?_|refine aT ?_);(first|refine rG Γ hm ?_|refine rD Γ hm (by kernel_rfl) ?_);conv=>whnf))) | (refine call0 (allS_Vrf n.vrfs (fun _ => vrfB n) 52 [] [.ref 8 (netSV n) 0] rfl (fun i h => ⟨⟨_, _, F52⟩, right2 n i n.vrfs[i] (hn.imports _ (List.getElem_mem _)) (hn.exports _ (List.getElem_mem _))⟩) hn.vrfs) F51 rfl rfl rfl rfl rfl ?_; ((first|refine rG Γ hm ?_|refine rD Γ hm (by kernel_rfl) ?_);(conv=>whnf);repeat((first|refine aF ?_|refine aT ?_);(first|refine rG Γ hm ?_|refine rD Γ hm (by kernel_rfl) ?_);conv=>whnf))) | (refine callD0 (allS_Vrf n.vrfs (fun _ => vrfB n) 52 [] [.ref 8 (netSV n) 0] rfl (fun i h => ⟨⟨_, _, F52⟩, right2 n i n.vrfs[i] (hn.imports _ (List.getElem_mem _)) (hn.exports _ (List.getElem_mem _))⟩) hn.vrfs) F51 rfl rfl rfl (by kernel_rfl) rfl ?_; ((first|refine rG Γ hm ?_|refine rD Γ hm (by kernel_rfl) ?_);(conv=>whnf);repeat((first|refine aF ?_|refine aT ?_);(first|refine rG Γ hm ?_|refine rD Γ hm (by kernel_rfl) ?_);conv=>whnf))) | (refine call0 (allS_Irb n.irbs (irbB n) 55 [netSV n] [] rfl (fun i h => ⟨⟨_, _, F55⟩, judgeIrbS n i n.irbs[i]⟩) hn.irbs) F54 rfl rfl rfl rfl rfl ?_; ((first|refine rG Γ hm ?_|refine rD Γ hm (by kernel_rfl) ?_);(conv=>whnf);repeat((first|refine aF ?_|refine aT ?_);(first|refine rG Γ hm ?_|refine rD Γ hm (by kernel_rfl) ?_);conv=>whnf))) | (refine callD0 (allS_Irb n.irbs (irbB n) 55 [netSV n] [] rfl (fun i h => ⟨⟨_, _, F55⟩, judgeIrbS n i n.irbs[i]⟩) hn.irbs) F54 rfl rfl rfl (by kernel_rfl) rfl ?_; ((first|refine rG Γ hm ?_|refine rD Γ hm (by kernel_rfl) ?_);(conv=>whnf);repeat((first|refine aF ?_|refine aT ?_);(first|refine rG Γ hm ?_|refine rD Γ hm (by kernel_rfl) ?_);conv=>whnf)))))
  all_goals (refine congrArg boolSV ?_)
  all_goals (clear hF; simp_all [netRightB])
end Go.Sy.YtjomehmhkcnadaaGreatDoor
