/-
  palinglaw39.MachineTells is proved: it answers true at every input; with its tied card.
-/
import Derived.Test.YtjomehmhkcnadaaGreatDoorB9
import Derived.Test.YtjomehmhkcnadaaGreatDoorB10
import Derived.Test.YtjomehmhkcnadaaGreatDoorRows
import Derived.Test.YtjomehmhkcnadaaGreatDoorCards
import Derived.Test.YtjomehmhkcnadaaGreatDoorTie
import Derived.ProofKit
import Derived.OpenShut
import Derived.LaidMore
import Derived.Lay
import Derived.SevenTiedAt
import Derived.Stop.Joined
namespace Go.Proofs.YtjomehmhkcnadaaGreatDoor
open Go.ChangeShapes Go.WideShapes Go.ChangeAt Go.RowKit Go.Sy Go.Sy.YtjomehmhkcnadaaGreatDoor

theorem Tryz.own : ownKnob Tryz.prog.godebug = none := by kernel_rfl
theorem Tryz.laidOut : laidOutB Tryz.prog = true := by kernel_rfl

set_option maxRecDepth 100000 in
theorem machineTells_lifted (os : Os) (started : os.Started) (H : Type) (enc : TypeId × Value → H) :
    ReturnsInHanded {} Tryz.checked os 4 .any (fun w args => (Rows.machineTellsSpec.pre enc Tryz.prog Tryz.f4 Rows.machineTellsRow.domain false w args ∧ laidMetH Tryz.prog Rows.machineTellsRow.laid w) ∧ sizedMet enc Tryz.prog Tryz.f4 (OpenSpec.ofChange Rows.machineTellsSpec) false w args)
      (Rows.machineTellsSpec.post enc Tryz.prog Tryz.f4 false true false false) := by
  refine returnsInHanded_of_change_and (C := Tryz.checked) (X := fun w _ => laidMetH Tryz.prog Rows.machineTellsRow.laid w) (fun _ _ _ hh h => h.of_heap hh) Tryz.own started (by kernel_rfl) Tryz.func4
    (ChangeSpec.witness_shaped (enc := enc) (C := Tryz.checked) (os := os) (X := fun w _ => laidMetH Tryz.prog Rows.machineTellsRow.laid w) false (World.laidAll Tryz.prog os Rows.machineTellsRow.laid) #[.agg #[.slice none 0 0, .slice none 0 0, .slice none 0 0, .slice none 0 0, .slice none 0 0, .slice none 0 0, .slice none 0 0, .slice none 0 0], .slice none 0 0, .agg #[.int .i64 0, .int .i64 0, .int .i64 0, .int .i64 0, .int .i64 0, .int .i64 0, .slice none 0 0]] 8 (World.laidAll_os _ _ _)
      (World.shaped_of_ZipB (by kernel_rfl) (by kernel_rfl)) (by kernel_rfl) (by kernel_rfl) (by kernel_rfl)
      (by rw [MakeChecks.laidMetH_plain _ _ _ (by kernel_rfl)]; exact laidMet_laidAll _ (by kernel_rfl) (by kernel_rfl))) ?_
  intro W base args ds gs before hval0 hW hcnd _ hL _
  have hval : ∀ (j : Nat) t v, Tryz.f4.params[j]? = some t → args[j]? = some v → Value.okWide Tryz.prog W .any base t v := hval0
  have hW' := hW
  obtain ⟨p, q, hA0, hV, rfl, hfz, hnd⟩ := hW
  have hA : DataW.TrodAll enc Tryz.prog W 0 (fun _ => true) true Tryz.f4.params.toList args.toList ds p := hA0
  rw [Tryz.params4] at hA hval
  obtain ⟨v0, r0, d0, e0, p0, q0, a0, rfl, _, h0, hA⟩ := trodAll_cons hA
  obtain ⟨v1, r1, d1, e1, p1, q1, rfl, rfl, _, h1, hA⟩ := trodAll_cons hA
  obtain ⟨v2, r2, d2, e2, p2, q2, rfl, rfl, _, h2, hA⟩ := trodAll_cons hA
  obtain ⟨rfl, rfl, _⟩ := trodAll_nil hA
  have ha : args = #[v0, v1, v2] := by cases args; simp_all
  subst ha
  obtain ⟨x0, i0, w0⟩ := rd_net (hval 0 31 v0 rfl rfl) h0
  obtain ⟨x1, i1, w1⟩ := rd_slice Tryz.underlying48 (op_slice Tryz.underlying48 (by kernel_rfl : Tryz.prog.cellsOf 52 = 3) (by decide) (fun _ => rfl) (fun _ => rfl) opN_SeenM) (hval 1 48 v1 rfl rfl) h1
  obtain ⟨x2, i2, w2⟩ := rd_struct Tryz.underlying50 opN_ReportM (fun _ => rfl) (hval 2 50 v2 rfl rfl) h2
  exact law_callsG (machine_globs hL (by kernel_rfl) (.tail _ (.head _)) (.tail _ (.tail _ (.head _)))) (tb := 4) (A := [netSV x0, .sl 3 seenSV x1, reportSV x2]) rfl Tryz.laidOut hW' (by rw [Tryz.params4]; decide +kernel) rfl Tryz.underlying4 (fun gs hg => by subst hg; rfl)
    (by simp only [RdL]; exact ⟨_, _, rfl, w0, _, _, rfl, w1, _, _, rfl, w2, rfl⟩) (machineTellsS x0 x1 x2 (fun x hx => wI_word (i2.2.2.2.2.2.2.1 x hx).2.2.2.1) (fun x hx => wI_word (i1.1 x hx).2.1) (wI_word i2.2.2.1) (wI_word i2.2.2.2.1))

theorem machineTells_holds : Rows.MachineTellsSaid :=
  OpenClaim.holds_of_wide 4 Tryz.f4 rfl rfl rfl rfl rfl rfl rfl ⟨rfl, rfl, rfl, rfl, rfl⟩ rfl rfl rfl rfl rfl (by kernel_rfl) Tryz.func4 (by kernel_rfl)
    (of_decide_eq_true (by kernel_rfl)) (by unfold Func.isWrapper; first | (rw [if_pos (by decide +kernel)]; kernel_rfl) | (rw [if_neg (by decide +kernel)]; exact ⟨rfl, rfl⟩))
    (fun os started H enc _ => machineTells_lifted os started H enc)

theorem machineTells_card_holds : Rows.MachineTellsCardSaid :=
  Claim7.holds_tied_plain_at .later [] [.data, .data, .data, .pinned] true (true, "3256ff341bdd916f41be6424f4a8b4e2ad832a71d90afec0065a9948d518493a") false machineTells_holds (fun _ h => by cases h) (by kernel_rfl) (fun _ h => by cases h) machineTells_row_tie rfl ⟨rfl, rfl⟩ (by kernel_rfl) rfl
    (fun f fn hf hfn => by
      obtain rfl : f = 4 := Option.some.inj ((show Tryz.prog.funcNamed "paling/palinglaw39.MachineTells" = some 4 by kernel_rfl).symm.trans hf) |>.symm
      obtain rfl : fn = Tryz.f4 := (Option.some.inj (Tryz.func4.symm.trans hfn)).symm
      exact ⟨by kernel_rfl, fun j t ht => by
        rw [Tryz.params4] at ht
        have hm : t ∈ [31, 48, 50] := by simpa using Array.mem_of_getElem? ht
        have hall : ([31, 48, 50].all fun u => !Tryz.prog.wantsStandIn u) = true := by kernel_rfl
        exact (show Tryz.prog.wantsStandIn t = false by simpa using List.all_eq_true.1 hall t hm)⟩)
    (by kernel_rfl)

end Go.Proofs.YtjomehmhkcnadaaGreatDoor
