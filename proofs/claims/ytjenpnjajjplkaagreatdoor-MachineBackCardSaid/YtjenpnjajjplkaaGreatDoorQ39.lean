/-
  palinglaw39.MachineBack is proved: it answers true at every input; with its tied card.
-/
import Derived.Test.YtjenpnjajjplkaaGreatDoorXP5
import Derived.Test.YtjenpnjajjplkaaGreatDoorXP6
import Derived.Test.YtjenpnjajjplkaaGreatDoorXP8
import Derived.Test.YtjenpnjajjplkaaGreatDoorRows
import Derived.Test.YtjenpnjajjplkaaGreatDoorCards
import Derived.Test.YtjenpnjajjplkaaGreatDoorTie
import Derived.ProofKit
import Derived.OpenShut
import Derived.LaidMore
import Derived.Lay
import Derived.SevenTiedAt
import Derived.Stop.Joined
import Derived.Test.YtjenpnjajjplkaaGreatDoorXP9
set_option linter.all false
set_option linter.unusedVariables false
set_option linter.unusedSimpArgs false
set_option linter.deprecated false
namespace Go.Proofs.YtjenpnjajjplkaaGreatDoor
open Go.ChangeShapes Go.WideShapes Go.ChangeAt Go.RowKit Go.Sy Go.Sy.YtjenpnjajjplkaaGreatDoor
theorem Tryz.own : ownKnob Tryz.prog.godebug = none := by kernel_rfl
theorem Tryz.laidOut : laidOutB Tryz.prog = true := by kernel_rfl
set_option maxRecDepth 100000 in
theorem machineBack_lifted (os : Os) (started : os.Started) (H : Type) (enc : TypeId × Value → H) :
    ReturnsInHanded {} Tryz.checked os 3 .any (fun w args => (Rows.machineBackSpec.pre enc Tryz.prog Tryz.f3 Rows.machineBackRow.domain false w args ∧ laidMetH Tryz.prog Rows.machineBackRow.laid w) ∧ sizedMet enc Tryz.prog Tryz.f3 (OpenSpec.ofChange Rows.machineBackSpec) false w args)
      (Rows.machineBackSpec.post enc Tryz.prog Tryz.f3 false true false false) := by
  refine returnsInHanded_of_change_and (C := Tryz.checked) (X := fun w _ => laidMetH Tryz.prog Rows.machineBackRow.laid w) (fun _ _ _ hh h => h.of_heap hh) Tryz.own started (by kernel_rfl) Tryz.func3
    (ChangeSpec.witness_shaped (enc := enc) (C := Tryz.checked) (os := os) (X := fun w _ => laidMetH Tryz.prog Rows.machineBackRow.laid w) false (World.laidAll Tryz.prog os Rows.machineBackRow.laid) #[.slice none 0 0, .slice none 0 0, .slice none 0 0] 8 (World.laidAll_os _ _ _)
      (World.shaped_of_ZipB (by kernel_rfl) (by kernel_rfl)) (by kernel_rfl) (by kernel_rfl) (by kernel_rfl)
      (by rw [MakeChecks.laidMetH_plain _ _ _ (by kernel_rfl)]; exact laidMet_laidAll _ (by kernel_rfl) (by kernel_rfl))) ?_
  intro W base args ds gs before hval0 hW hcnd _ hL _
  have hval : ∀ (j : Nat) t v, Tryz.f3.params[j]? = some t → args[j]? = some v → Value.okWide Tryz.prog W .any base t v := hval0
  have hW' := hW
  obtain ⟨p, q, hA0, hV, rfl, hfz, hnd⟩ := hW
  have hA : DataW.TrodAll enc Tryz.prog W 0 (fun _ => true) true Tryz.f3.params.toList args.toList ds p := hA0
  rw [Tryz.params3] at hA hval
  obtain ⟨v0, r0, d0, e0, p0, q0, a0, rfl, _, h0, hA⟩ := trodAll_cons hA
  obtain ⟨v1, r1, d1, e1, p1, q1, rfl, rfl, _, h1, hA⟩ := trodAll_cons hA
  obtain ⟨v2, r2, d2, e2, p2, q2, rfl, rfl, _, h2, hA⟩ := trodAll_cons hA
  obtain ⟨rfl, rfl, _⟩ := trodAll_nil hA
  have ha : args = #[v0, v1, v2] := by cases args; simp_all
  subst ha
  obtain ⟨x0, i0, w0⟩ := Su Tryz.underlying22 Af7 (hval 0 22 v0 rfl rfl) h0
  obtain ⟨x1, i1, w1⟩ := Su Tryz.underlying23 Af6 (hval 1 23 v1 rfl rfl) h1
  obtain ⟨x2, i2, w2⟩ := Su Tryz.underlying24 Yn (hval 2 24 v2 rfl rfl) h2
  exact Abn (Uk hL (by kernel_rfl) (.tail _ (.head _)) (.tail _ (.tail _ (.head _)))) (tb := 4) (A := [.sl 17 Ap x0, .sl 6 Bm x1, .sl 1 Ak x2]) rfl Tryz.laidOut hW' (by rw [Tryz.params3]; decide +kernel) rfl Tryz.underlying4 (fun gs hg => by subst hg; rfl)
    (by simp only [RdL]; exact ⟨_, _, rfl, w0, _, _, rfl, w1, _, _, rfl, w2, rfl⟩) (Ws x0 (fun z hz => Ain (i0.1 z hz)) x1 (fun x hx => Ah1 (i1.1 x hx).2.2.2.1) x2)
theorem machineBack_holds : Rows.MachineBackSaid :=
  OpenClaim.holds_of_wide 3 Tryz.f3 rfl rfl rfl rfl rfl rfl rfl ⟨rfl, rfl, rfl, rfl, rfl⟩ rfl rfl rfl rfl rfl (by kernel_rfl) Tryz.func3 M1
    (of_decide_eq_true (by kernel_rfl)) (by unfold Func.isWrapper; first | (rw [if_pos (by decide +kernel)]; kernel_rfl) | (rw [if_neg (by decide +kernel)]; exact ⟨rfl, rfl⟩))
    (fun os started H enc _ => machineBack_lifted os started H enc)
theorem machineBack_card_holds : Rows.MachineBackCardSaid :=
  Claim7.holds_tied_plain_at .later [] [.data, .data, .data, .pinned] true (true, "d049fd129f745915c24696369f423f1361de32988b6a3f23e86ce51f6889fe79") false machineBack_holds (fun _ h => by cases h) Td (fun _ h => by cases h) machineBack_row_tie rfl ⟨rfl, rfl⟩ O6 rfl
    (fun f fn hf hfn => by
      obtain rfl : f = 3 := Option.some.inj (machineBack_fnamed.symm.trans hf) |>.symm
      obtain rfl : fn = Tryz.f3 := (Option.some.inj (Tryz.func3.symm.trans hfn)).symm
      exact ⟨Mz, fun j t ht => by
        rw [Tryz.params3] at ht
        have hm : t ∈ [22, 23, 24] := by simpa using Array.mem_of_getElem? ht
        have hall : ([22, 23, 24].all fun u => !Tryz.prog.wantsStandIn u) = true := K9
        exact (show Tryz.prog.wantsStandIn t = false by simpa using List.all_eq_true.1 hall t hm)⟩)
    O8
end Go.Proofs.YtjenpnjajjplkaaGreatDoor
