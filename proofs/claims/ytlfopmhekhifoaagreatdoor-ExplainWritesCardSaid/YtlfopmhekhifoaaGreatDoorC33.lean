/-
  palinglaw44.ExplainWrites. An argument's addresses are addresses.
-/
import Derived.Test.YtlfopmhekhifoaaGreatDoorC32
import Derived.Test.YtlfopmhekhifoaaGreatDoorC25
import Derived.Test.YtlfopmhekhifoaaGreatDoorC10

namespace Go.Sy.YtlfopmhekhifoaaGreatDoor
open Go.Proofs
-- SIMP: placeB

attribute [local irreducible] Go.Sy.G Go.Sy.DR
set_option maxRecDepth 20000
set_option maxHeartbeats 8000000

theorem explainWritesS (n : Net) (hu : Addrs n) (f t : Int) : Sy.Spec Tryz.prog 3 [netSV n, intSV f, intSV t] [] (boolSV true) [] := contract Γ hm 100 F3 Tryz.ntmps3 rfl fun F hF => by
  have hg := great44S n []
  ((conv=>whnf);repeat((first|refine aF ?_|refine aT ?_);(first|refine rG Γ hm ?_|refine rD Γ hm (by kernel_rfl) ?_);conv=>whnf))
  refine G_box 3 8 (netSV n) rfl rfl rfl ?_
  ((first|refine rG Γ hm ?_|refine rD Γ hm (by kernel_rfl) ?_);(conv=>whnf);repeat((first|refine aF ?_|refine aT ?_);(first|refine rG Γ hm ?_|refine rD Γ hm (by kernel_rfl) ?_);conv=>whnf))
  refine stepOp (good_callK [] rfl F5 hg (.cons (.refl _) (.cons .nil .nil)) rfl rfl) rfl rfl ?_
  cases hgb : great44B n []
  rotate_left
  · ((first|refine rG Γ hm ?_|refine rD Γ hm (by kernel_rfl) ?_);(conv=>whnf);repeat((first|refine aF ?_|refine aT ?_);(first|refine rG Γ hm ?_|refine rD Γ hm (by kernel_rfl) ?_);conv=>whnf))
    refine call0 works44S F6 rfl rfl rfl rfl rfl ?_
    ((first|refine rG Γ hm ?_|refine rD Γ hm (by kernel_rfl) ?_);(conv=>whnf);repeat((first|refine aF ?_|refine aT ?_);(first|refine rG Γ hm ?_|refine rD Γ hm (by kernel_rfl) ?_);conv=>whnf))
    exact done0 rfl (.cons .tmp .nil) rfl rfl
  obtain ⟨hn, hnm, _, _⟩ := great44_facts hgb
  have q1 := explainWayS n hn hu hnm f t
  have q2 := refExplainS n hn hu hnm f t
  have q3 := ref15RightS n hn
  have q5 := explainPortS n hn hnm f
  have q4 := fun hb => refPortTextS n hnm hb f
  have hbe := (ba_beq (portT n f) (portT n f)).2 rfl
  have hno : netRightB n = false → portT n f = ⟨#[]⟩ := fun h => by rw [portT, if_neg (by simp [h])]
  have hsh : Short (explainT n f t).1 := by
    unfold Short
    rw [explainT]
    split
    · simp
    · split
      · simp
      · rename_i hb h2
        have hfa := wayT_facts hu (by simpa using h2)
        have hD := (e_few hfa.2.2.2).2.2.2.1
        simp only [List.length_cons, List.length_append, List.length_map, List.length_drop, List.length_nil]
        omega
  have q6 := same44S (explainT n f t).1 (explainT n f t).1 hsh
  rw [decide_eq_true rfl] at q6
  generalize explainT n f t = r at *
  obtain ⟨l, e⟩ := r
  dsimp only at q1 q2 q6
  ((first|refine rG Γ hm ?_|refine rD Γ hm (by kernel_rfl) ?_);(conv=>whnf);repeat((first|refine aF ?_|refine aT ?_);(first|refine rG Γ hm ?_|refine rD Γ hm (by kernel_rfl) ?_);conv=>whnf))
  refine call0 q1 F7 rfl rfl rfl rfl rfl ?_
  ((first|refine rG Γ hm ?_|refine rD Γ hm (by kernel_rfl) ?_);(conv=>whnf);repeat((first|refine aF ?_|refine aT ?_);(first|refine rG Γ hm ?_|refine rD Γ hm (by kernel_rfl) ?_);conv=>whnf))
  refine call0 q2 F8 rfl rfl rfl rfl rfl ?_
  ((first|refine rG Γ hm ?_|refine rD Γ hm (by kernel_rfl) ?_);(conv=>whnf);repeat((first|refine aF ?_|refine aT ?_);(first|refine rG Γ hm ?_|refine rD Γ hm (by kernel_rfl) ?_);conv=>whnf))
  refine call0 q3 F9 rfl rfl rfl rfl rfl ?_
  cases hb : netRightB n
  · rw [hno hb] at q5
    ((first|refine rG Γ hm ?_|refine rD Γ hm (by kernel_rfl) ?_);(conv=>whnf);repeat((first|refine aF ?_|refine aT ?_);(first|refine rG Γ hm ?_|refine rD Γ hm (by kernel_rfl) ?_);conv=>whnf))
    refine call0 q6 F11 rfl rfl rfl rfl rfl ?_
    ((first|refine rG Γ hm ?_|refine rD Γ hm (by kernel_rfl) ?_);(conv=>whnf);repeat((first|refine aF ?_|refine aT ?_);(first|refine rG Γ hm ?_|refine rD Γ hm (by kernel_rfl) ?_);conv=>whnf))
    refine ⟨fun _ => ?_, fun h => absurd h (by simp)⟩
    ((first|refine rG Γ hm ?_|refine rD Γ hm (by kernel_rfl) ?_);(conv=>whnf);repeat((first|refine aF ?_|refine aT ?_);(first|refine rG Γ hm ?_|refine rD Γ hm (by kernel_rfl) ?_);conv=>whnf))
    refine call0 q5 F12 rfl rfl rfl rfl rfl ?_
    ((first|refine rG Γ hm ?_|refine rD Γ hm (by kernel_rfl) ?_);(conv=>whnf);repeat((first|refine aF ?_|refine aT ?_);(first|refine rG Γ hm ?_|refine rD Γ hm (by kernel_rfl) ?_);conv=>whnf))
    refine call0 works44S F6 rfl rfl rfl rfl rfl ?_
    ((first|refine rG Γ hm ?_|refine rD Γ hm (by kernel_rfl) ?_);(conv=>whnf);repeat((first|refine aF ?_|refine aT ?_);(first|refine rG Γ hm ?_|refine rD Γ hm (by kernel_rfl) ?_);conv=>whnf))
    exact done0 rfl (.cons .tmp .nil) rfl rfl
  · ((first|refine rG Γ hm ?_|refine rD Γ hm (by kernel_rfl) ?_);(conv=>whnf);repeat((first|refine aF ?_|refine aT ?_);(first|refine rG Γ hm ?_|refine rD Γ hm (by kernel_rfl) ?_);conv=>whnf))
    refine call0 (q4 hb) F10 rfl rfl rfl rfl rfl ?_
    ((first|refine rG Γ hm ?_|refine rD Γ hm (by kernel_rfl) ?_);(conv=>whnf);repeat((first|refine aF ?_|refine aT ?_);(first|refine rG Γ hm ?_|refine rD Γ hm (by kernel_rfl) ?_);conv=>whnf))
    refine call0 q6 F11 rfl rfl rfl rfl rfl ?_
    ((first|refine rG Γ hm ?_|refine rD Γ hm (by kernel_rfl) ?_);(conv=>whnf);repeat((first|refine aF ?_|refine aT ?_);(first|refine rG Γ hm ?_|refine rD Γ hm (by kernel_rfl) ?_);conv=>whnf))
    refine ⟨fun _ => ?_, fun h => absurd h (by simp)⟩
    ((first|refine rG Γ hm ?_|refine rD Γ hm (by kernel_rfl) ?_);(conv=>whnf);repeat((first|refine aF ?_|refine aT ?_);(first|refine rG Γ hm ?_|refine rD Γ hm (by kernel_rfl) ?_);conv=>whnf))
    refine call0 q5 F12 rfl rfl rfl rfl rfl ?_
    ((first|refine rG Γ hm ?_|refine rD Γ hm (by kernel_rfl) ?_);(conv=>whnf);repeat((first|refine aF ?_|refine aT ?_);(first|refine rG Γ hm ?_|refine rD Γ hm (by kernel_rfl) ?_);conv=>whnf))
    refine ⟨fun _ => ?_, fun h => absurd h (by rw [hbe]; simp)⟩
    ((first|refine rG Γ hm ?_|refine rD Γ hm (by kernel_rfl) ?_);(conv=>whnf);repeat((first|refine aF ?_|refine aT ?_);(first|refine rG Γ hm ?_|refine rD Γ hm (by kernel_rfl) ?_);conv=>whnf))
    refine call0 works44S F6 rfl rfl rfl rfl rfl ?_
    ((first|refine rG Γ hm ?_|refine rD Γ hm (by kernel_rfl) ?_);(conv=>whnf);repeat((first|refine aF ?_|refine aT ?_);(first|refine rG Γ hm ?_|refine rD Γ hm (by kernel_rfl) ?_);conv=>whnf))
    exact done0 rfl (.cons .tmp .nil) rfl rfl

end Go.Sy.YtlfopmhekhifoaaGreatDoor

namespace Go.Sy.YtlfopmhekhifoaaGreatDoor
open Go.Proofs

theorem addrs_of_in {n : Net} (h : n.In) : Addrs n := fun x hx => by
  have := (h.irbs.1 x hx).2.2.2.1
  simp only [wI, Lit.wf, decide_eq_true_eq, Bool.and_eq_true] at this
  exact ⟨this.1, Int.lt_of_le_of_lt this.2 (by decide)⟩

end Go.Sy.YtlfopmhekhifoaaGreatDoor
