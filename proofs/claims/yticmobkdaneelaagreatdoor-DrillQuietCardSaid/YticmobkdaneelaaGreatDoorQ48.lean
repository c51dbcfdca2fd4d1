/-
  palinglaw51.DrillQuiet is proved: it answers true at every input; with its tied card.
-/
import Derived.Test.YticmobkdaneelaaGreatDoorYE52
import Derived.Test.YticmobkdaneelaaGreatDoorTie
import Derived.LaidMore
import Derived.Lay
import Derived.Test.YticmobkdaneelaaGreatDoorYE8
set_option linter.all false
set_option linter.unusedVariables false
set_option linter.unusedSimpArgs false
set_option linter.deprecated false
namespace Go.Proofs.YticmobkdaneelaaGreatDoor
open Go.ChangeShapes Go.WideShapes Go.ChangeAt Go.RowKit Go.Sy Go.Sy.YticmobkdaneelaaGreatDoor
theorem Tryz.own : ownKnob Tryz.prog.godebug = none := by kernel_rfl
theorem Tryz.laidOut : laidOutB Tryz.prog = true := by kernel_rfl
set_option maxRecDepth 100000 in
theorem drillQuiet_lifted(os : Os)(jg : os.Started)(H : Type)(enc : TypeId×Value → H):ReturnsInHanded {} Tryz.checked os 3 .any (fun w args=> (Rows.drillQuietSpec.pre enc Tryz.prog Tryz.f3 Rows.drillQuietRow.domain false w args ∧ laidMetH Tryz.prog Rows.drillQuietRow.laid w) ∧ sizedMet enc Tryz.prog Tryz.f3 (OpenSpec.ofChange Rows.drillQuietSpec) false w args)
      (Rows.drillQuietSpec.post enc Tryz.prog Tryz.f3 false true false false) := by
  refine returnsInHanded_of_change_and (C := Tryz.checked) (X := fun w _=> laidMetH Tryz.prog Rows.drillQuietRow.laid w) (fun _ _ _ hh h=> h.of_heap hh) Tryz.own jg (by kernel_rfl) Tryz.func3
    (ChangeSpec.witness_shaped (enc := enc) (C := Tryz.checked) (os := os) (X := fun w _ => laidMetH Tryz.prog Rows.drillQuietRow.laid w) false (World.laidAll Tryz.prog os Rows.drillQuietRow.laid) #[.slice none 0 0, .slice none 0 0, .int .u64 0] 8 (World.laidAll_os _ _ _)
      (World.shaped_of_ZipB (by kernel_rfl) (by kernel_rfl)) (by kernel_rfl) (by kernel_rfl) (by kernel_rfl)
      (by rw [MakeChecks.laidMetH_plain _ _ _ (by kernel_rfl)]; exact laidMet_laidAll _ (by kernel_rfl) (by kernel_rfl))) ?_
  intro W base args ds gs before wb hW hcnd _ hL _;have mh : ∀(j : Nat) t v, Tryz.f3.params[j]? = some t → args[j]? = some v → Value.okWide Tryz.prog W .any base t v := wb;have yv := hW;obtain ⟨p, q, hA0, hV, rfl, wc, u9⟩ := hW;have hA : DataW.TrodAll enc Tryz.prog W 0 (fun _=> true) true Tryz.f3.params.toList args.toList ds p := hA0;rw [Tryz.params3] at hA mh;obtain ⟨v0, r0, d0, e0, p0, q0, a0, rfl, _, h0, hA⟩ := trodAll_cons hA;obtain ⟨v1, r1, d1, e1, p1, q1, rfl, rfl, _, h1, hA⟩ := trodAll_cons hA;obtain ⟨v2, r2, d2, e2, p2, q2, rfl, rfl, _, h2, hA⟩ := trodAll_cons hA;obtain ⟨rfl, rfl, _⟩ := trodAll_nil hA;have ha : args = #[v0, v1, v2] := by cases args; simp_all
  subst ha;obtain ⟨x0, i0, w0⟩ := Anj Tryz.underlying22 A1o (mh 0 22 v0 rfl rfl) h0;obtain ⟨x1, i1, w1⟩ := Anj Tryz.underlying23 A5g (mh 1 23 v1 rfl rfl) h1;obtain ⟨x2, rfl, _, _, i2⟩ := open_int Tryz.underlying24 (mh 2 24 v2 rfl rfl) h2;exact Ayl (tb := 4) (A := [.sl 1 Al x0, .sl 1 Aa x1, A2 x2]) rfl Tryz.laidOut yv (by rw [Tryz.params3]; decide +kernel) rfl Tryz.underlying4 (fun gs hg=> by subst hg; rfl)
    (by simp only [RdL]; exact ⟨_, _, rfl, w0, _, _, rfl, w1, _, _, rfl, (by simp [Rd, A2]), rfl⟩) (Apz x0 x1 x2)
theorem drillQuiet_holds : Rows.DrillQuietSaid :=
  OpenClaim.holds_of_wide 3 Tryz.f3 rfl rfl rfl rfl rfl rfl rfl ⟨rfl, rfl, rfl, rfl, rfl⟩ rfl rfl rfl rfl rfl (by kernel_rfl) Tryz.func3 Abj
    (of_decide_eq_true (by kernel_rfl)) (by unfold Func.isWrapper; first|(rw [if_pos (by decide +kernel)]; kernel_rfl)|(rw [if_neg (by decide +kernel)]; exact ⟨rfl, rfl⟩))
    (fun os jg H enc _=> drillQuiet_lifted os jg H enc)
theorem drillQuiet_card_holds : Rows.DrillQuietCardSaid :=
  Claim7.holds_tied_plain_at .later [] [.data, .pinned] true (true, "712a1ee596b3644c79ee6ade2881533e9cacbc7edbee33b2a9f374daa27fe21d") true drillQuiet_holds (fun _ h=> by cases h) Ah1 (fun _ h=> by cases h) drillQuiet_row_tie rfl ⟨rfl, rfl⟩ Adq rfl
    (fun f fn hf tv => by
      obtain rfl : f = 3 := Option.some.inj (drillQuiet_fnamed.symm.trans hf) |>.symm;obtain rfl : fn = Tryz.f3 := (Option.some.inj (Tryz.func3.symm.trans tv)).symm;exact ⟨Abh, fun j t ht => by
        rw [Tryz.params3] at ht;have hm : t ∈ [22, 23, 24] := by simpa using Array.mem_of_getElem? ht
        have dw : ([22, 23, 24].all fun u => !Tryz.prog.wantsStandIn u) = true := Yc;exact (show Tryz.prog.wantsStandIn t = false by simpa using List.all_eq_true.1 dw t hm)⟩)
    Ads
end Go.Proofs.YticmobkdaneelaaGreatDoor
