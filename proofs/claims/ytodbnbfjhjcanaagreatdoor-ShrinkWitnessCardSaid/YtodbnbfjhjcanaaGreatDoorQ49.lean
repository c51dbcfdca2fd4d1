/-
  palinglaw45.ShrinkWitness is proved: it answers true at every input; with its tied card.
-/
import Derived.Test.YtodbnbfjhjcanaaGreatDoorXB41
import Derived.Test.YtodbnbfjhjcanaaGreatDoorTie
import Derived.LaidMore
import Derived.Lay
import Derived.Test.YtodbnbfjhjcanaaGreatDoorXB6
set_option linter.all false
namespace Go.Proofs.YtodbnbfjhjcanaaGreatDoor
open Go.ChangeShapes Go.WideShapes Go.ChangeAt Go.RowKit Go.Sy Go.Sy.Zaa
theorem Tryz.own : ownKnob Tryz.prog.godebug = none := by kernel_rfl
theorem Tryz.laidOut : laidOutB Tryz.prog = true := by kernel_rfl
set_option maxRecDepth 100000 in
theorem shrinkWitness_lifted(os : Os)(jw : os.Started)(H : Type)(enc : TypeId×Value -> H):ReturnsInHanded {} Tryz.checked os 4 .any (fun w args=> (Rows.shrinkWitnessSpec.pre enc Tryz.prog Tryz.f4 Rows.shrinkWitnessRow.domain false w args /\ laidMetH Tryz.prog Rows.shrinkWitnessRow.laid w) /\ sizedMet enc Tryz.prog Tryz.f4 (OpenSpec.ofChange Rows.shrinkWitnessSpec) false w args)
      (Rows.shrinkWitnessSpec.post enc Tryz.prog Tryz.f4 false true false false) := by
  refine returnsInHanded_of_change_and (C := Tryz.checked) (X := fun w _=> laidMetH Tryz.prog Rows.shrinkWitnessRow.laid w) (fun _ _ _ hh h=> h.of_heap hh) Tryz.own jw (by kernel_rfl) Tryz.func4
    (ChangeSpec.witness_shaped (enc := enc) (C := Tryz.checked) (os := os) (X := fun w _ => laidMetH Tryz.prog Rows.shrinkWitnessRow.laid w) false (World.laidAll Tryz.prog os Rows.shrinkWitnessRow.laid) #[.slice none 0 0, .slice none 0 0, .slice none 0 0, .slice none 0 0] 8 (World.laidAll_os _ _ _)
      (World.shaped_of_ZipB (by kernel_rfl) (by kernel_rfl)) (by kernel_rfl) (by kernel_rfl) (by kernel_rfl)
      (by rw [MakeChecks.laidMetH_plain _ _ _ (by kernel_rfl)]; exact laidMet_laidAll _ (by kernel_rfl) (by kernel_rfl))) ?_
  intro W base args ds gs before yh hW hcnd _ hL _;have ma : ∀(j : Nat) t v, Tryz.f4.params[j]? = some t -> args[j]? = some v -> Value.okWide Tryz.prog W .any base t v := yh;have hW' := hW;obtain ⟨p, q, hA0, hV, rfl, yi, xo⟩ := hW;have hA : DataW.TrodAll enc Tryz.prog W 0 (fun _=> true) true Tryz.f4.params.toList args.toList ds p := hA0;rw [Tryz.params4] at hA ma;obtain ⟨v0, r0, d0, e0, p0, q0, a0, rfl, _, h0, hA⟩ := trodAll_cons hA;obtain ⟨v1, r1, d1, e1, p1, q1, rfl, rfl, _, h1, hA⟩ := trodAll_cons hA;obtain ⟨v2, r2, d2, e2, p2, q2, rfl, rfl, _, h2, hA⟩ := trodAll_cons hA;obtain ⟨v3, r3, d3, e3, p3, q3, rfl, rfl, _, h3, hA⟩ := trodAll_cons hA;obtain ⟨rfl, rfl, _⟩ := trodAll_nil hA;have ha : args = #[v0, v1, v2, v3] := by cases args; simp_all
  subst ha;obtain ⟨x0, i0, w0⟩ := bN Tryz.underlying22 Ab1 (ma 0 22 v0 rfl rfl) h0;obtain ⟨x1, i1, w1⟩ := bN Tryz.underlying22 Ab1 (ma 1 22 v1 rfl rfl) h1;obtain ⟨x2, i2, w2⟩ := bN Tryz.underlying23 Awb (ma 2 23 v2 rfl rfl) h2;obtain ⟨x3, i3, w3⟩ := bN Tryz.underlying24 A0j (ma 3 24 v3 rfl rfl) h3;exact Aw8 (tb := 4) (A := [.sl 1 Al x0, .sl 1 Al x1, .sl 1 Hp x2, .sl 6 Bp x3]) rfl Tryz.laidOut hW' (by rw [Tryz.params4]; decide +kernel) rfl Tryz.underlying4 (fun gs hg=> by subst hg; rfl)
    (by simp only [RdL]; exact ⟨_, _, rfl, w0, _, _, rfl, w1, _, _, rfl, w2, _, _, rfl, w3, rfl⟩) (Aa7 x0 x1 x2 i2.1 x3)
theorem shrinkWitness_holds : Rows.ShrinkWitnessSaid :=
  OpenClaim.holds_of_wide 4 Tryz.f4 rfl rfl rfl rfl rfl rfl rfl ⟨rfl, rfl, rfl, rfl, rfl⟩ rfl rfl rfl rfl rfl (by kernel_rfl) Tryz.func4 Yf
    (of_decide_eq_true (by kernel_rfl)) (by unfold Func.isWrapper; first|(rw [if_pos (by decide +kernel)]; kernel_rfl)|(rw [if_neg (by decide +kernel)]; exact ⟨rfl, rfl⟩))
    (fun os jw H enc _=> shrinkWitness_lifted os jw H enc)
theorem shrinkWitness_card_holds : Rows.ShrinkWitnessCardSaid :=
  Claim7.holds_tied_plain_at .later [] [.data, .pinned] true (true, "acfc063f5f2ba94aefcbaccc324fef5c0471003f7b8dc1c4b4f34d4b34297108") true shrinkWitness_holds (fun _ h=> by cases h) eW (fun _ h=> by cases h) shrinkWitness_row_tie rfl ⟨rfl, rfl⟩ Zr rfl
    (fun f fn hf vp => by
      obtain rfl : f = 4 := Option.some.inj (shrinkWitness_fnamed.symm.trans hf) |>.symm;obtain rfl : fn = Tryz.f4 := (Option.some.inj (Tryz.func4.symm.trans vp)).symm;exact ⟨Yd, fun j t ht => by
        rw [Tryz.params4] at ht;have hm : t ∈ [22, 22, 23, 24] := kS (Array.mem_of_getElem? ht);have dp : ([22, 22, 23, 24].all fun u => !Tryz.prog.wantsStandIn u) = true := Vd;exact (show Tryz.prog.wantsStandIn t = false by simpa using List.all_eq_true.1 dp t hm)⟩)
    Zt
end Go.Proofs.YtodbnbfjhjcanaaGreatDoor
