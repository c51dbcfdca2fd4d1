/-
  palinglaw44.ExplainProves is proved: it answers true at every input; with its tied card.
-/
import Derived.Test.YtjenpnjajjplkaaGreatDoorXM5
import Derived.Test.YtjenpnjajjplkaaGreatDoorXM8
import Derived.Test.YtjenpnjajjplkaaGreatDoorRows
import Derived.Test.YtjenpnjajjplkaaGreatDoorCards
import Derived.Test.YtjenpnjajjplkaaGreatDoorTie
import Derived.ProofKit
import Derived.OpenShut
import Derived.LaidMore
import Derived.Lay
import Derived.SevenTiedAt
import Derived.Stop.Joined
import Derived.Test.YtjenpnjajjplkaaGreatDoorXM9
set_option linter.all false
set_option linter.unusedVariables false
set_option linter.unusedSimpArgs false
set_option linter.deprecated false
namespace Go.Proofs.YtjenpnjajjplkaaGreatDoor
open Go.ChangeShapes Go.WideShapes Go.ChangeAt Go.RowKit Go.Sy Go.Sy.YtjenpnjajjplkaaGreatDoor
theorem Tryz.own : ownKnob Tryz.prog.godebug = none := by kernel_rfl
theorem Tryz.laidOut : laidOutB Tryz.prog = true := by kernel_rfl
set_option maxRecDepth 100000 in
theorem explainProves_lifted (os : Os) (started : os.Started) (H : Type) (enc : TypeId × Value → H) :
    ReturnsInHanded {} Tryz.checked os 8 .any (fun w args => (Rows.explainProvesSpec.pre enc Tryz.prog Tryz.f8 Rows.explainProvesRow.domain false w args ∧ laidMetH Tryz.prog Rows.explainProvesRow.laid w) ∧ sizedMet enc Tryz.prog Tryz.f8 (OpenSpec.ofChange Rows.explainProvesSpec) false w args)
      (Rows.explainProvesSpec.post enc Tryz.prog Tryz.f8 false true false false) := by
  refine returnsInHanded_of_change_and (C := Tryz.checked) (X := fun w _ => laidMetH Tryz.prog Rows.explainProvesRow.laid w) (fun _ _ _ hh h => h.of_heap hh) Tryz.own started (by kernel_rfl) Tryz.func8
    (ChangeSpec.witness_shaped (enc := enc) (C := Tryz.checked) (os := os) (X := fun w _ => laidMetH Tryz.prog Rows.explainProvesRow.laid w) false (World.laidAll Tryz.prog os Rows.explainProvesRow.laid) #[.slice none 0 0, .int .i64 0, .int .i64 0, .slice none 0 0] 8 (World.laidAll_os _ _ _)
      (World.shaped_of_ZipB (by kernel_rfl) (by kernel_rfl)) (by kernel_rfl) (by kernel_rfl) (by kernel_rfl)
      (by rw [MakeChecks.laidMetH_plain _ _ _ (by kernel_rfl)]; exact laidMet_laidAll _ (by kernel_rfl) (by kernel_rfl))) ?_
  intro W base args ds gs before hval0 hW hcnd _ hL _
  have hval : ∀ (j : Nat) t v, Tryz.f8.params[j]? = some t → args[j]? = some v → Value.okWide Tryz.prog W .any base t v := hval0
  have hW' := hW
  obtain ⟨p, q, hA0, hV, rfl, hfz, hnd⟩ := hW
  have hA : DataW.TrodAll enc Tryz.prog W 0 (fun _ => true) true Tryz.f8.params.toList args.toList ds p := hA0
  rw [Tryz.params8] at hA hval
  obtain ⟨v0, r0, d0, e0, p0, q0, a0, rfl, _, h0, hA⟩ := trodAll_cons hA
  obtain ⟨v1, r1, d1, e1, p1, q1, rfl, rfl, _, h1, hA⟩ := trodAll_cons hA
  obtain ⟨v2, r2, d2, e2, p2, q2, rfl, rfl, _, h2, hA⟩ := trodAll_cons hA
  obtain ⟨v3, r3, d3, e3, p3, q3, rfl, rfl, _, h3, hA⟩ := trodAll_cons hA
  obtain ⟨rfl, rfl, _⟩ := trodAll_nil hA
  have ha : args = #[v0, v1, v2, v3] := by cases args; simp_all
  subst ha
  obtain ⟨x0, i0, w0⟩ := Za Tryz.underlying22 Agf (hval 0 22 v0 rfl rfl) h0
  obtain ⟨x1, rfl, _, _, i1⟩ := open_int Tryz.underlying3 (hval 1 3 v1 rfl rfl) h1
  obtain ⟨x2, rfl, _, _, i2⟩ := open_int Tryz.underlying3 (hval 2 3 v2 rfl rfl) h2
  obtain ⟨x3, i3, w3⟩ := Za Tryz.underlying68 (Oj Tryz.underlying68 (by kernel_rfl : Tryz.prog.cellsOf 9 = 1) (by decide) (fun _ => rfl) (fun _ => rfl) (Ait Tryz.underlying9)) (hval 3 68 v3 rfl rfl) h3
  exact Ae0 (tb := 4) (A := [.sl 17 Au x0, Aa x1, Aa x2, .sl 1 Ak x3]) rfl Tryz.laidOut hW' (by rw [Tryz.params8]; decide +kernel) rfl Tryz.underlying4 (fun gs hg => by subst hg; rfl)
    (by simp only [RdL]; exact ⟨_, _, rfl, w0, _, _, rfl, (by simp [Rd, Aa]), _, _, rfl, (by simp [Rd, Aa]), _, _, rfl, w3, rfl⟩) (U5 x0 (fun z hz => Ai0 (i0.1 z hz)) x1 x2 x3)
theorem explainProves_holds : Rows.ExplainProvesSaid :=
  OpenClaim.holds_of_wide 8 Tryz.f8 rfl rfl rfl rfl rfl rfl rfl ⟨rfl, rfl, rfl, rfl, rfl⟩ rfl rfl rfl rfl rfl (by kernel_rfl) Tryz.func8 Lw
    (of_decide_eq_true (by kernel_rfl)) (by unfold Func.isWrapper; first | (rw [if_pos (by decide +kernel)]; kernel_rfl) | (rw [if_neg (by decide +kernel)]; exact ⟨rfl, rfl⟩))
    (fun os started H enc _ => explainProves_lifted os started H enc)
theorem explainProves_card_holds : Rows.ExplainProvesCardSaid :=
  Claim7.holds_tied_plain_at .later [] [.data, .pinned] true (true, "d049fd129f745915c24696369f423f1361de32988b6a3f23e86ce51f6889fe79") false explainProves_holds (fun _ h => by cases h) Q7 (fun _ h => by cases h) explainProves_row_tie rfl ⟨rfl, rfl⟩ Ms rfl
    (fun f fn hf hfn => by
      obtain rfl : f = 8 := Option.some.inj (explainProves_fnamed.symm.trans hf) |>.symm
      obtain rfl : fn = Tryz.f8 := (Option.some.inj (Tryz.func8.symm.trans hfn)).symm
      exact ⟨Lu, fun j t ht => by
        rw [Tryz.params8] at ht
        have hm : t ∈ [22, 3, 3, 68] := by simpa using Array.mem_of_getElem? ht
        have hall : ([22, 3, 3, 68].all fun u => !Tryz.prog.wantsStandIn u) = true := J6
        exact (show Tryz.prog.wantsStandIn t = false by simpa using List.all_eq_true.1 hall t hm)⟩)
    Mu
end Go.Proofs.YtjenpnjajjplkaaGreatDoor
