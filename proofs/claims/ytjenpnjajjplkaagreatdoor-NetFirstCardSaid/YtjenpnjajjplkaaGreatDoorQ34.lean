/-
  palinglaw22.NetFirst is proved: it answers true at every input; with its tied card.
-/
import Derived.Test.YtjenpnjajjplkaaGreatDoorXK6
import Derived.Test.YtjenpnjajjplkaaGreatDoorXK7
import Derived.Test.YtjenpnjajjplkaaGreatDoorRows
import Derived.Test.YtjenpnjajjplkaaGreatDoorCards
import Derived.Test.YtjenpnjajjplkaaGreatDoorTie
import Derived.ProofKit
import Derived.OpenShut
import Derived.LaidMore
import Derived.Lay
import Derived.SevenTiedAt
import Derived.Stop.Joined
import Derived.Test.YtjenpnjajjplkaaGreatDoorXK8
set_option linter.all false
set_option linter.unusedVariables false
set_option linter.unusedSimpArgs false
set_option linter.deprecated false
namespace Go.Proofs.YtjenpnjajjplkaaGreatDoor
open Go.ChangeShapes Go.WideShapes Go.ChangeAt Go.RowKit Go.Sy Go.Sy.YtjenpnjajjplkaaGreatDoor
theorem Tryz.own : ownKnob Tryz.prog.godebug = none := by kernel_rfl
theorem Tryz.laidOut : laidOutB Tryz.prog = true := by kernel_rfl
set_option maxRecDepth 100000 in
theorem netFirst_lifted (os : Os) (started : os.Started) (H : Type) (enc : TypeId × Value → H) :
    ReturnsInHanded {} Tryz.checked os 6 .any (fun w args => (Rows.netFirstSpec.pre enc Tryz.prog Tryz.f6 Rows.netFirstRow.domain false w args ∧ laidMetH Tryz.prog Rows.netFirstRow.laid w) ∧ sizedMet enc Tryz.prog Tryz.f6 (OpenSpec.ofChange Rows.netFirstSpec) false w args)
      (Rows.netFirstSpec.post enc Tryz.prog Tryz.f6 false true false false) := by
  refine returnsInHanded_of_change_and (C := Tryz.checked) (X := fun w _ => laidMetH Tryz.prog Rows.netFirstRow.laid w) (fun _ _ _ hh h => h.of_heap hh) Tryz.own started (by kernel_rfl) Tryz.func6
    (ChangeSpec.witness_shaped (enc := enc) (C := Tryz.checked) (os := os) (X := fun w _ => laidMetH Tryz.prog Rows.netFirstRow.laid w) false (World.laidAll Tryz.prog os Rows.netFirstRow.laid) #[.slice none 0 0, .slice none 0 0] 8 (World.laidAll_os _ _ _)
      (World.shaped_of_ZipB (by kernel_rfl) (by kernel_rfl)) (by kernel_rfl) (by kernel_rfl) (by kernel_rfl)
      (by rw [MakeChecks.laidMetH_plain _ _ _ (by kernel_rfl)]; exact laidMet_laidAll _ (by kernel_rfl) (by kernel_rfl))) ?_
  intro W base args ds gs before hval0 hW hcnd _ hL _
  have hval : ∀ (j : Nat) t v, Tryz.f6.params[j]? = some t → args[j]? = some v → Value.okWide Tryz.prog W .any base t v := hval0
  have hW' := hW
  obtain ⟨p, q, hA0, hV, rfl, hfz, hnd⟩ := hW
  have hA : DataW.TrodAll enc Tryz.prog W 0 (fun _ => true) true Tryz.f6.params.toList args.toList ds p := hA0
  rw [Tryz.params6] at hA hval
  obtain ⟨v0, r0, d0, e0, p0, q0, a0, rfl, _, h0, hA⟩ := trodAll_cons hA
  obtain ⟨v1, r1, d1, e1, p1, q1, rfl, rfl, _, h1, hA⟩ := trodAll_cons hA
  obtain ⟨rfl, rfl, _⟩ := trodAll_nil hA
  have ha : args = #[v0, v1] := by cases args; simp_all
  subst ha
  obtain ⟨x0, i0, w0⟩ := V2 Tryz.underlying22 V7 (hval 0 22 v0 rfl rfl) h0
  obtain ⟨x1, i1, w1⟩ := V2 Tryz.underlying22 V7 (hval 1 22 v1 rfl rfl) h1
  exact Aa6 (tb := 4) (A := [.sl 17 Aj x0, .sl 17 Aj x1]) rfl Tryz.laidOut hW' (by rw [Tryz.params6]; decide +kernel) rfl Tryz.underlying4 (fun gs hg => by subst hg; rfl)
    (by simp only [RdL]; exact ⟨_, _, rfl, w0, _, _, rfl, w1, rfl⟩) (Uu x0 x1 (fun z hz => Zv (i0.1 z hz)) (fun z hz => Zv (i1.1 z hz)))
theorem netFirst_holds : Rows.NetFirstSaid :=
  OpenClaim.holds_of_wide 6 Tryz.f6 rfl rfl rfl rfl rfl rfl rfl ⟨rfl, rfl, rfl, rfl, rfl⟩ rfl rfl rfl rfl rfl (by kernel_rfl) Tryz.func6 Qu
    (of_decide_eq_true (by kernel_rfl)) (by unfold Func.isWrapper; first | (rw [if_pos (by decide +kernel)]; kernel_rfl) | (rw [if_neg (by decide +kernel)]; exact ⟨rfl, rfl⟩))
    (fun os started H enc _ => netFirst_lifted os started H enc)
theorem netFirst_card_holds : Rows.NetFirstCardSaid :=
  Claim7.holds_tied_plain_at .later [] [.data, .pinned] true (true, "d049fd129f745915c24696369f423f1361de32988b6a3f23e86ce51f6889fe79") false netFirst_holds (fun _ h => by cases h) Wf (fun _ h => by cases h) netFirst_row_tie rfl ⟨rfl, rfl⟩ S3 rfl
    (fun f fn hf hfn => by
      obtain rfl : f = 6 := Option.some.inj (netFirst_fnamed.symm.trans hf) |>.symm
      obtain rfl : fn = Tryz.f6 := (Option.some.inj (Tryz.func6.symm.trans hfn)).symm
      exact ⟨Qs, fun j t ht => by
        rw [Tryz.params6] at ht
        have hm : t ∈ [22, 22] := by simpa using Array.mem_of_getElem? ht
        have hall : ([22, 22].all fun u => !Tryz.prog.wantsStandIn u) = true := Mq
        exact (show Tryz.prog.wantsStandIn t = false by simpa using List.all_eq_true.1 hall t hm)⟩)
    S5
end Go.Proofs.YtjenpnjajjplkaaGreatDoor
