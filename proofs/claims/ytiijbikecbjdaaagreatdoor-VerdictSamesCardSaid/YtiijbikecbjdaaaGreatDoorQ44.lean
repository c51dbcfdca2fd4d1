/-
  palinglaw38.VerdictOne and palinglaw38.VerdictSames are proved: they answer true at every input; with their tied cards.
-/
import Derived.Test.YtiijbikecbjdaaaGreatDoorXU5
import Derived.Test.YtiijbikecbjdaaaGreatDoorXU20
import Derived.Test.YtiijbikecbjdaaaGreatDoorRows
import Derived.Test.YtiijbikecbjdaaaGreatDoorCards
import Derived.Test.YtiijbikecbjdaaaGreatDoorTie
import Derived.ProofKit
import Derived.OpenShut
import Derived.LaidMore
import Derived.Lay
import Derived.SevenTiedAt
import Derived.Stop.Joined
import Derived.Test.YtiijbikecbjdaaaGreatDoorXU18
import Derived.Test.YtiijbikecbjdaaaGreatDoorXU19
set_option linter.all false
set_option linter.unusedVariables false
set_option linter.unusedSimpArgs false
set_option linter.deprecated false
namespace Go.Proofs.YtiijbikecbjdaaaGreatDoor
open Go.ChangeShapes Go.WideShapes Go.ChangeAt Go.RowKit Go.Sy Go.Sy.YtiijbikecbjdaaaGreatDoor
theorem Tryz.own : ownKnob Tryz.prog.godebug = none := by kernel_rfl
theorem Tryz.laidOut : laidOutB Tryz.prog = true := by kernel_rfl
set_option maxRecDepth 100000 in
theorem verdictOne_lifted (os : Os) (started : os.Started) (H : Type) (enc : TypeId × Value → H) :
    ReturnsInHanded {} Tryz.checked os 4 .any (fun w args => (Rows.verdictOneSpec.pre enc Tryz.prog Tryz.f4 Rows.verdictOneRow.domain false w args ∧ laidMetH Tryz.prog Rows.verdictOneRow.laid w) ∧ sizedMet enc Tryz.prog Tryz.f4 (OpenSpec.ofChange Rows.verdictOneSpec) false w args)
      (Rows.verdictOneSpec.post enc Tryz.prog Tryz.f4 false true false false) := by
  refine returnsInHanded_of_change_and (C := Tryz.checked) (X := fun w _ => laidMetH Tryz.prog Rows.verdictOneRow.laid w) (fun _ _ _ hh h => h.of_heap hh) Tryz.own started (by kernel_rfl) Tryz.func4
    (ChangeSpec.witness_shaped (enc := enc) (C := Tryz.checked) (os := os) (X := fun w _ => laidMetH Tryz.prog Rows.verdictOneRow.laid w) false (World.laidAll Tryz.prog os Rows.verdictOneRow.laid) #[.slice none 0 0, .slice none 0 0] 8 (World.laidAll_os _ _ _)
      (World.shaped_of_ZipB (by kernel_rfl) (by kernel_rfl)) (by kernel_rfl) (by kernel_rfl) (by kernel_rfl)
      (by rw [MakeChecks.laidMetH_plain _ _ _ (by kernel_rfl)]; exact laidMet_laidAll _ (by kernel_rfl) (by kernel_rfl))) ?_
  intro W base args ds gs before hval0 hW hcnd _ hL _
  have hval : ∀ (j : Nat) t v, Tryz.f4.params[j]? = some t → args[j]? = some v → Value.okWide Tryz.prog W .any base t v := hval0
  have hW' := hW
  obtain ⟨p, q, hA0, hV, rfl, hfz, hnd⟩ := hW
  have hA : DataW.TrodAll enc Tryz.prog W 0 (fun _ => true) true Tryz.f4.params.toList args.toList ds p := hA0
  rw [Tryz.params4] at hA hval
  obtain ⟨v0, r0, d0, e0, p0, q0, a0, rfl, _, h0, hA⟩ := trodAll_cons hA
  obtain ⟨v1, r1, d1, e1, p1, q1, rfl, rfl, _, h1, hA⟩ := trodAll_cons hA
  obtain ⟨rfl, rfl, _⟩ := trodAll_nil hA
  have ha : args = #[v0, v1] := by cases args; simp_all
  subst ha
  obtain ⟨x0, i0, w0⟩ := Ak4 Tryz.underlying27 op_bytes (hval 0 27 v0 rfl rfl) h0
  obtain ⟨x1, i1, w1⟩ := Ak4 Tryz.underlying27 op_bytes (hval 1 27 v1 rfl rfl) h1
  exact Ag1 (tb := 4) (A := [.sl 1 Ah x0, .sl 1 Ah x1]) rfl Tryz.laidOut hW' (by rw [Tryz.params4]; decide +kernel) rfl Tryz.underlying4 (fun gs hg => by subst hg; rfl)
    (by simp only [RdL]; exact ⟨_, _, rfl, w0, _, _, rfl, w1, rfl⟩) (Aj5 x0 x1)
theorem verdictOne_holds : Rows.VerdictOneSaid :=
  OpenClaim.holds_of_wide 4 Tryz.f4 rfl rfl rfl rfl rfl rfl rfl ⟨rfl, rfl, rfl, rfl, rfl⟩ rfl rfl rfl rfl rfl (by kernel_rfl) Tryz.func4 Y3
    (of_decide_eq_true (by kernel_rfl)) (by unfold Func.isWrapper; first | (rw [if_pos (by decide +kernel)]; kernel_rfl) | (rw [if_neg (by decide +kernel)]; exact ⟨rfl, rfl⟩))
    (fun os started H enc _ => verdictOne_lifted os started H enc)
theorem verdictOne_card_holds : Rows.VerdictOneCardSaid :=
  Claim7.holds_tied_plain_at .later [] [.data, .pinned] true (true, "0fd6c5aec827901524d062485e5b7118e4e0ea20042b42c92f1a9ae92f6e3334") true verdictOne_holds (fun _ h => by cases h) Afg (fun _ h => by cases h) verdictOne_row_tie rfl ⟨rfl, rfl⟩ Abl rfl
    (fun f fn hf hfn => by
      obtain rfl : f = 4 := Option.some.inj (verdictOne_fnamed.symm.trans hf) |>.symm
      obtain rfl : fn = Tryz.f4 := (Option.some.inj (Tryz.func4.symm.trans hfn)).symm
      exact ⟨Y1, fun j t ht => by
        rw [Tryz.params4] at ht
        have hm : t ∈ [27, 27] := by simpa using Array.mem_of_getElem? ht
        have hall : ([27, 27].all fun u => !Tryz.prog.wantsStandIn u) = true := Vr
        exact (show Tryz.prog.wantsStandIn t = false by simpa using List.all_eq_true.1 hall t hm)⟩)
    Abn
set_option maxRecDepth 100000 in
theorem verdictSames_lifted (os : Os) (started : os.Started) (H : Type) (enc : TypeId × Value → H) :
    ReturnsInHanded {} Tryz.checked os 3 .any (fun w args => (Rows.verdictSamesSpec.pre enc Tryz.prog Tryz.f3 Rows.verdictSamesRow.domain false w args ∧ laidMetH Tryz.prog Rows.verdictSamesRow.laid w) ∧ sizedMet enc Tryz.prog Tryz.f3 (OpenSpec.ofChange Rows.verdictSamesSpec) false w args)
      (Rows.verdictSamesSpec.post enc Tryz.prog Tryz.f3 false true false false) := by
  refine returnsInHanded_of_change_and (C := Tryz.checked) (X := fun w _ => laidMetH Tryz.prog Rows.verdictSamesRow.laid w) (fun _ _ _ hh h => h.of_heap hh) Tryz.own started (by kernel_rfl) Tryz.func3
    (ChangeSpec.witness_shaped (enc := enc) (C := Tryz.checked) (os := os) (X := fun w _ => laidMetH Tryz.prog Rows.verdictSamesRow.laid w) false (World.laidAll Tryz.prog os Rows.verdictSamesRow.laid) #[.agg #[.int .i64 0, .int .i64 0, .int .i64 0, .int .i64 0, .int .i64 0, .int .i64 0, .slice none 0 0], .agg #[.int .i64 0, .int .i64 0, .int .i64 0, .int .i64 0, .int .i64 0, .int .i64 0, .slice none 0 0]] 8 (World.laidAll_os _ _ _)
      (World.shaped_of_ZipB (by kernel_rfl) (by kernel_rfl)) (by kernel_rfl) (by kernel_rfl) (by kernel_rfl)
      (by rw [MakeChecks.laidMetH_plain _ _ _ (by kernel_rfl)]; exact laidMet_laidAll _ (by kernel_rfl) (by kernel_rfl))) ?_
  intro W base args ds gs before hval0 hW hcnd _ hL _
  have hval : ∀ (j : Nat) t v, Tryz.f3.params[j]? = some t → args[j]? = some v → Value.okWide Tryz.prog W .any base t v := hval0
  have hW' := hW
  obtain ⟨p, q, hA0, hV, rfl, hfz, hnd⟩ := hW
  have hA : DataW.TrodAll enc Tryz.prog W 0 (fun _ => true) true Tryz.f3.params.toList args.toList ds p := hA0
  rw [Tryz.params3] at hA hval
  obtain ⟨v0, r0, d0, e0, p0, q0, a0, rfl, _, h0, hA⟩ := trodAll_cons hA
  obtain ⟨v1, r1, d1, e1, p1, q1, rfl, rfl, _, h1, hA⟩ := trodAll_cons hA
  obtain ⟨rfl, rfl, _⟩ := trodAll_nil hA
  have ha : args = #[v0, v1] := by cases args; simp_all
  subst ha
  obtain ⟨x0, i0, w0⟩ := Agp Tryz.underlying25 Aak (fun _ => rfl) (hval 0 25 v0 rfl rfl) h0
  obtain ⟨x1, i1, w1⟩ := Agp Tryz.underlying25 Aak (fun _ => rfl) (hval 1 25 v1 rfl rfl) h1
  exact Ag1 (tb := 4) (A := [Cj x0, Cj x1]) rfl Tryz.laidOut hW' (by rw [Tryz.params3]; decide +kernel) rfl Tryz.underlying4 (fun gs hg => by subst hg; rfl)
    (by simp only [RdL]; exact ⟨_, _, rfl, w0, _, _, rfl, w1, rfl⟩) (Aff x0 x1)
theorem verdictSames_holds : Rows.VerdictSamesSaid :=
  OpenClaim.holds_of_wide 3 Tryz.f3 rfl rfl rfl rfl rfl rfl rfl ⟨rfl, rfl, rfl, rfl, rfl⟩ rfl rfl rfl rfl rfl (by kernel_rfl) Tryz.func3 Vp
    (of_decide_eq_true (by kernel_rfl)) (by unfold Func.isWrapper; first | (rw [if_pos (by decide +kernel)]; kernel_rfl) | (rw [if_neg (by decide +kernel)]; exact ⟨rfl, rfl⟩))
    (fun os started H enc _ => verdictSames_lifted os started H enc)
theorem verdictSames_card_holds : Rows.VerdictSamesCardSaid :=
  Claim7.holds_tied_plain_at .later [] [.data, .pinned] true (true, "0fd6c5aec827901524d062485e5b7118e4e0ea20042b42c92f1a9ae92f6e3334") true verdictSames_holds (fun _ h => by cases h) Abk (fun _ h => by cases h) verdictSames_row_tie rfl ⟨rfl, rfl⟩ Wp rfl
    (fun f fn hf hfn => by
      obtain rfl : f = 3 := Option.some.inj (verdictSames_fnamed.symm.trans hf) |>.symm
      obtain rfl : fn = Tryz.f3 := (Option.some.inj (Tryz.func3.symm.trans hfn)).symm
      exact ⟨Vn, fun j t ht => by
        rw [Tryz.params3] at ht
        have hm : t ∈ [25, 25] := by simpa using Array.mem_of_getElem? ht
        have hall : ([25, 25].all fun u => !Tryz.prog.wantsStandIn u) = true := Sa
        exact (show Tryz.prog.wantsStandIn t = false by simpa using List.all_eq_true.1 hall t hm)⟩)
    Wr
end Go.Proofs.YtiijbikecbjdaaaGreatDoor
