/-
  palinglaw49.OrderNets is proved: it answers true at every input; with its tied card.
-/
import Derived.Test.YtdkfcckkkfghgaaGreatDoorXQ7
import Derived.Test.YtdkfcckkkfghgaaGreatDoorXQ10
import Derived.Test.YtdkfcckkkfghgaaGreatDoorRows
import Derived.Test.YtdkfcckkkfghgaaGreatDoorCards
import Derived.Test.YtdkfcckkkfghgaaGreatDoorTie
import Derived.ProofKit
import Derived.OpenShut
import Derived.LaidMore
import Derived.Lay
import Derived.SevenTiedAt
import Derived.Stop.Joined
import Derived.Test.YtdkfcckkkfghgaaGreatDoorXQ11
set_option linter.all false
set_option linter.unusedVariables false
set_option linter.unusedSimpArgs false
set_option linter.deprecated false
namespace Go.Proofs.YtdkfcckkkfghgaaGreatDoor
open Go.ChangeShapes Go.WideShapes Go.ChangeAt Go.RowKit Go.Sy Go.Sy.YtdkfcckkkfghgaaGreatDoor
theorem Tryz.own : ownKnob Tryz.prog.godebug = none := by kernel_rfl
theorem Tryz.laidOut : laidOutB Tryz.prog = true := by kernel_rfl
set_option maxRecDepth 100000 in
theorem orderNets_lifted (os : Os) (started : os.Started) (H : Type) (enc : TypeId × Value → H) :
    ReturnsInHanded {} Tryz.checked os 3 .any (fun w args => (Rows.orderNetsSpec.pre enc Tryz.prog Tryz.f3 Rows.orderNetsRow.domain false w args ∧ laidMetH Tryz.prog Rows.orderNetsRow.laid w) ∧ sizedMet enc Tryz.prog Tryz.f3 (OpenSpec.ofChange Rows.orderNetsSpec) false w args)
      (Rows.orderNetsSpec.post enc Tryz.prog Tryz.f3 false true false false) := by
  refine returnsInHanded_of_change_and (C := Tryz.checked) (X := fun w _ => laidMetH Tryz.prog Rows.orderNetsRow.laid w) (fun _ _ _ hh h => h.of_heap hh) Tryz.own started (by kernel_rfl) Tryz.func3
    (ChangeSpec.witness_shaped (enc := enc) (C := Tryz.checked) (os := os) (X := fun w _ => laidMetH Tryz.prog Rows.orderNetsRow.laid w) false (World.laidAll Tryz.prog os Rows.orderNetsRow.laid) #[.slice none 0 0] 4 (World.laidAll_os _ _ _)
      (World.shaped_of_ZipB (by kernel_rfl) (by kernel_rfl)) (by kernel_rfl) (by kernel_rfl) (by kernel_rfl)
      (by rw [MakeChecks.laidMetH_plain _ _ _ (by kernel_rfl)]; exact laidMet_laidAll _ (by kernel_rfl) (by kernel_rfl))) ?_
  intro W base args ds gs before hval0 hW hcnd _ hL _
  have hval : ∀ (j : Nat) t v, Tryz.f3.params[j]? = some t → args[j]? = some v → Value.okWide Tryz.prog W .any base t v := hval0
  have hW' := hW
  obtain ⟨p, q, hA0, hV, rfl, hfz, hnd⟩ := hW
  have hA : DataW.TrodAll enc Tryz.prog W 0 (fun _ => true) true Tryz.f3.params.toList args.toList ds p := hA0
  rw [Tryz.params3] at hA hval
  obtain ⟨v0, r0, d0, e0, p0, q0, a0, rfl, _, h0, hA⟩ := trodAll_cons hA
  obtain ⟨rfl, rfl, _⟩ := trodAll_nil hA
  have ha : args = #[v0] := by cases args; simp_all
  subst ha
  obtain ⟨x0, i0, w0⟩ := Anj Tryz.underlying22 Anw (hval 0 22 v0 rfl rfl) h0
  exact Al2 (tb := 4) (A := [.sl 17 Ad x0]) rfl Tryz.laidOut hW' (by rw [Tryz.params3]; decide +kernel) rfl Tryz.underlying4 (fun gs hg => by subst hg; rfl)
    (by simp only [RdL]; exact ⟨_, _, rfl, w0, rfl⟩) (Zt x0 (fun z hz => Aqo (i0.1 z hz)))
theorem orderNets_holds : Rows.OrderNetsSaid :=
  OpenClaim.holds_of_wide 3 Tryz.f3 rfl rfl rfl rfl rfl rfl rfl ⟨rfl, rfl, rfl, rfl, rfl⟩ rfl rfl rfl rfl rfl (by kernel_rfl) Tryz.func3 Wx
    (of_decide_eq_true (by kernel_rfl)) (by unfold Func.isWrapper; first | (rw [if_pos (by decide +kernel)]; kernel_rfl) | (rw [if_neg (by decide +kernel)]; exact ⟨rfl, rfl⟩))
    (fun os started H enc _ => orderNets_lifted os started H enc)
theorem orderNets_card_holds : Rows.OrderNetsCardSaid :=
  Claim7.holds_tied_plain_at .later [] [.data, .pinned] true (true, "6af7b04978dbfa4694bdbeeb43e14aa20afa3123859740cca6fb8e9dbd4809a7") false orderNets_holds (fun _ h => by cases h) Aca (fun _ h => by cases h) orderNets_row_tie rfl ⟨rfl, rfl⟩ X2 rfl
    (fun f fn hf hfn => by
      obtain rfl : f = 3 := Option.some.inj (orderNets_fnamed.symm.trans hf) |>.symm
      obtain rfl : fn = Tryz.f3 := (Option.some.inj (Tryz.func3.symm.trans hfn)).symm
      exact ⟨Wv, fun j t ht => by
        rw [Tryz.params3] at ht
        have hm : t ∈ [22] := by simpa using Array.mem_of_getElem? ht
        have hall : ([22].all fun u => !Tryz.prog.wantsStandIn u) = true := Tt
        exact (show Tryz.prog.wantsStandIn t = false by simpa using List.all_eq_true.1 hall t hm)⟩)
    X4
end Go.Proofs.YtdkfcckkkfghgaaGreatDoor
