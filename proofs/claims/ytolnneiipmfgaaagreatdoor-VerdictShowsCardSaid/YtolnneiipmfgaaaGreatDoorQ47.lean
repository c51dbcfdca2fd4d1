/-
  palinglaw38.VerdictShows is proved: it answers true at every input; with its tied card.
-/
import Derived.Test.YtolnneiipmfgaaaGreatDoorYC25
import Derived.Test.YtolnneiipmfgaaaGreatDoorTie
import Derived.LaidMore
import Derived.Lay
import Derived.Test.YtolnneiipmfgaaaGreatDoorYC24
set_option linter.all false
set_option linter.unusedVariables false
set_option linter.unusedSimpArgs false
set_option linter.deprecated false
namespace Go.Proofs.YtolnneiipmfgaaaGreatDoor
open Go.ChangeShapes Go.WideShapes Go.ChangeAt Go.RowKit Go.Sy Go.Sy.YtolnneiipmfgaaaGreatDoor
theorem Tryz.own : ownKnob Tryz.prog.godebug = none := by kernel_rfl
theorem Tryz.laidOut : laidOutB Tryz.prog = true := by kernel_rfl
set_option maxRecDepth 100000 in
theorem verdictShows_lifted(os : Os)(jk : os.Started)(H : Type)(enc : TypeId×Value → H):ReturnsInHanded {} Tryz.checked os 3 .any (fun w args=> (Rows.verdictShowsSpec.pre enc Tryz.prog Tryz.f3 Rows.verdictShowsRow.domain false w args ∧ laidMetH Tryz.prog Rows.verdictShowsRow.laid w) ∧ sizedMet enc Tryz.prog Tryz.f3 (OpenSpec.ofChange Rows.verdictShowsSpec) false w args)
      (Rows.verdictShowsSpec.post enc Tryz.prog Tryz.f3 false true false false) := by
  refine returnsInHanded_of_change_and (C := Tryz.checked) (X := fun w _=> laidMetH Tryz.prog Rows.verdictShowsRow.laid w) (fun _ _ _ hh h=> h.of_heap hh) Tryz.own jk (by kernel_rfl) Tryz.func3
    (ChangeSpec.witness_shaped (enc := enc) (C := Tryz.checked) (os := os) (X := fun w _ => laidMetH Tryz.prog Rows.verdictShowsRow.laid w) false (World.laidAll Tryz.prog os Rows.verdictShowsRow.laid) #[.slice none 0 0, .slice none 0 0] 8 (World.laidAll_os _ _ _)
      (World.shaped_of_ZipB (by kernel_rfl) (by kernel_rfl)) (by kernel_rfl) (by kernel_rfl) (by kernel_rfl)
      (by rw [MakeChecks.laidMetH_plain _ _ _ (by kernel_rfl)]; exact laidMet_laidAll _ (by kernel_rfl) (by kernel_rfl))) ?_
  intro W base args ds gs before xi hW hcnd _ hL _;have pj : ∀(j : Nat) t v, Tryz.f3.params[j]? = some t → args[j]? = some v → Value.okWide Tryz.prog W .any base t v := xi;have zr := hW;obtain ⟨p, q, hA0, hV, rfl, xj, wj⟩ := hW;have hA : DataW.TrodAll enc Tryz.prog W 0 (fun _=> true) true Tryz.f3.params.toList args.toList ds p := hA0;rw [Tryz.params3] at hA pj;obtain ⟨v0, r0, d0, e0, p0, q0, a0, rfl, _, h0, hA⟩ := trodAll_cons hA;obtain ⟨v1, r1, d1, e1, p1, q1, rfl, rfl, _, h1, hA⟩ := trodAll_cons hA;obtain ⟨rfl, rfl, _⟩ := trodAll_nil hA;have ha : args = #[v0, v1] := by cases args; simp_all
  subst ha;obtain ⟨x0, i0, w0⟩ := Ao0 Tryz.underlying22 op_bytes (pj 0 22 v0 rfl rfl) h0;obtain ⟨x1, i1, w1⟩ := Ao0 Tryz.underlying22 op_bytes (pj 1 22 v1 rfl rfl) h1;exact Az9 (tb := 4) (A := [.sl 1 Ak x0, .sl 1 Ak x1]) rfl Tryz.laidOut zr (by rw [Tryz.params3]; decide +kernel) rfl Tryz.underlying4 (fun gs hg=> by subst hg; rfl)
    (by simp only [RdL]; exact ⟨_, _, rfl, w0, _, _, rfl, w1, rfl⟩) (Aig x0 x1)
theorem verdictShows_holds : Rows.VerdictShowsSaid :=
  OpenClaim.holds_of_wide 3 Tryz.f3 rfl rfl rfl rfl rfl rfl rfl ⟨rfl, rfl, rfl, rfl, rfl⟩ rfl rfl rfl rfl rfl (by kernel_rfl) Tryz.func3 Yj
    (of_decide_eq_true (by kernel_rfl)) (by unfold Func.isWrapper; first|(rw [if_pos (by decide +kernel)]; kernel_rfl)|(rw [if_neg (by decide +kernel)]; exact ⟨rfl, rfl⟩))
    (fun os jk H enc _=> verdictShows_lifted os jk H enc)
theorem verdictShows_card_holds : Rows.VerdictShowsCardSaid :=
  Claim7.holds_tied_plain_at .later [] [.data, .pinned] true (true, "b589b5cbd34b74849e0e41ebe1ab278d513c32f68e704f476b83549048e53bb9") true verdictShows_holds (fun _ h=> by cases h) Aeg (fun _ h=> by cases h) verdictShows_row_tie rfl ⟨rfl, rfl⟩ Zh rfl
    (fun f fn hf uu => by
      obtain rfl : f = 3 := Option.some.inj (verdictShows_fnamed.symm.trans hf) |>.symm;obtain rfl : fn = Tryz.f3 := (Option.some.inj (Tryz.func3.symm.trans uu)).symm;exact ⟨Yh, fun j t ht => by
        rw [Tryz.params3] at ht;have hm : t ∈ [22, 22] := by simpa using Array.mem_of_getElem? ht
        have df : ([22, 22].all fun u => !Tryz.prog.wantsStandIn u) = true := Ut;exact (show Tryz.prog.wantsStandIn t = false by simpa using List.all_eq_true.1 df t hm)⟩)
    Zj
end Go.Proofs.YtolnneiipmfgaaaGreatDoor
