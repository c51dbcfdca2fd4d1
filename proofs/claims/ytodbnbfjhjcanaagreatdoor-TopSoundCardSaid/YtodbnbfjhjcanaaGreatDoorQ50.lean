/-
  palingtop.TopSound is proved: it answers true at every input; with its tied card.
-/
import Derived.Test.YtodbnbfjhjcanaaGreatDoorXA51
import Derived.Test.YtodbnbfjhjcanaaGreatDoorTie
import Derived.LaidMore
import Derived.Lay
import Derived.Test.YtodbnbfjhjcanaaGreatDoorXA7
set_option linter.all false
namespace Go.Proofs.YtodbnbfjhjcanaaGreatDoor
open Go.ChangeShapes Go.WideShapes Go.ChangeAt Go.RowKit Go.Sy Go.Sy.Zaa
theorem Tryz.own : ownKnob Tryz.prog.godebug = none := by kernel_rfl
theorem Tryz.laidOut : laidOutB Tryz.prog = true := by kernel_rfl
set_option maxRecDepth 100000 in
theorem topSound_lifted(os : Os)(jg : os.Started)(H : Type)(enc : TypeId×Value -> H):ReturnsInHanded {} Tryz.checked os 3 .any (fun w args=> (Rows.topSoundSpec.pre enc Tryz.prog Tryz.f3 Rows.topSoundRow.domain false w args /\ laidMetH Tryz.prog Rows.topSoundRow.laid w) /\ sizedMet enc Tryz.prog Tryz.f3 (OpenSpec.ofChange Rows.topSoundSpec) false w args)
      (Rows.topSoundSpec.post enc Tryz.prog Tryz.f3 false true false false) := by
  refine returnsInHanded_of_change_and (C := Tryz.checked) (X := fun w _=> laidMetH Tryz.prog Rows.topSoundRow.laid w) (fun _ _ _ hh h=> h.of_heap hh) Tryz.own jg (by kernel_rfl) Tryz.func3
    (ChangeSpec.witness_shaped (enc := enc) (C := Tryz.checked) (os := os) (X := fun w _ => laidMetH Tryz.prog Rows.topSoundRow.laid w) false (World.laidAll Tryz.prog os Rows.topSoundRow.laid) #[.slice none 0 0, .slice none 0 0, .slice none 0 0, .slice none 0 0, .int .i64 0] 8 (World.laidAll_os _ _ _)
      (World.shaped_of_ZipB (by kernel_rfl) (by kernel_rfl)) (by kernel_rfl) (by kernel_rfl) (by kernel_rfl)
      (by rw [MakeChecks.laidMetH_plain _ _ _ (by kernel_rfl)]; exact laidMet_laidAll _ (by kernel_rfl) (by kernel_rfl))) ?_
  intro W base args ds gs before xk hW hcnd _ hL _;have j8 : ∀(j : Nat) t v, Tryz.f3.params[j]? = some t -> args[j]? = some v -> Value.okWide Tryz.prog W .any base t v := xk;have hW' := hW;obtain ⟨p, q, hA0, hV, rfl, xl, wk⟩ := hW;have hA : DataW.TrodAll enc Tryz.prog W 0 (fun _=> true) true Tryz.f3.params.toList args.toList ds p := hA0;rw [Tryz.params3] at hA j8;obtain ⟨v0, r0, d0, e0, p0, q0, a0, rfl, _, h0, hA⟩ := trodAll_cons hA;obtain ⟨v1, r1, d1, e1, p1, q1, rfl, rfl, _, h1, hA⟩ := trodAll_cons hA;obtain ⟨v2, r2, d2, e2, p2, q2, rfl, rfl, _, h2, hA⟩ := trodAll_cons hA;obtain ⟨v3, r3, d3, e3, p3, q3, rfl, rfl, _, h3, hA⟩ := trodAll_cons hA;obtain ⟨v4, r4, d4, e4, p4, q4, rfl, rfl, _, h4, hA⟩ := trodAll_cons hA;obtain ⟨rfl, rfl, _⟩ := trodAll_nil hA;have ha : args = #[v0, v1, v2, v3, v4] := by cases args; simp_all
  subst ha;obtain ⟨x0, i0, w0⟩ := Zz Tryz.underlying22 oU (j8 0 22 v0 rfl rfl) h0;obtain ⟨x1, i1, w1⟩ := Zz Tryz.underlying22 oU (j8 1 22 v1 rfl rfl) h1;obtain ⟨x2, i2, w2⟩ := Zz Tryz.underlying23 Atf (j8 2 23 v2 rfl rfl) h2;obtain ⟨x3, i3, w3⟩ := Zz Tryz.underlying24 Axo (j8 3 24 v3 rfl rfl) h3;obtain ⟨x4, rfl, _, _, i4⟩ := open_int Tryz.underlying3 (j8 4 3 v4 rfl rfl) h4;exact Aud (tb := 4) (A := [.sl 1 Al x0, .sl 1 Al x1, .sl 1 Hk x2, .sl 6 Ca x3, Aa x4]) rfl Tryz.laidOut hW' (by rw [Tryz.params3]; decide +kernel) rfl Tryz.underlying4 (fun gs hg=> by subst hg; rfl)
    (by simp only [RdL]; exact ⟨_, _, rfl, w0, _, _, rfl, w1, _, _, rfl, w2, _, _, rfl, w3, _, _, rfl, (by simp [Rd, Aa]), rfl⟩) (Ar6 x0 x1 x2 i2.1 x3 x4)
theorem topSound_holds : Rows.TopSoundSaid :=
  OpenClaim.holds_of_wide 3 Tryz.f3 rfl rfl rfl rfl rfl rfl rfl ⟨rfl, rfl, rfl, rfl, rfl⟩ rfl rfl rfl rfl rfl (by kernel_rfl) Tryz.func3 nG
    (of_decide_eq_true (by kernel_rfl)) (by unfold Func.isWrapper; first|(rw [if_pos (by decide +kernel)]; kernel_rfl)|(rw [if_neg (by decide +kernel)]; exact ⟨rfl, rfl⟩))
    (fun os jg H enc _=> topSound_lifted os jg H enc)
theorem topSound_card_holds : Rows.TopSoundCardSaid :=
  Claim7.holds_tied_plain_at .later [] [.data, .pinned] true (true, "acfc063f5f2ba94aefcbaccc324fef5c0471003f7b8dc1c4b4f34d4b34297108") true topSound_holds (fun _ h=> by cases h) Ah8 (fun _ h=> by cases h) topSound_row_tie rfl ⟨rfl, rfl⟩ Ab6 rfl
    (fun f fn hf uo => by
      obtain rfl : f = 3 := Option.some.inj (topSound_fnamed.symm.trans hf) |>.symm;obtain rfl : fn = Tryz.f3 := (Option.some.inj (Tryz.func3.symm.trans uo)).symm;exact ⟨nE, fun j t ht => by
        rw [Tryz.params3] at ht;have hm : t ∈ [22, 22, 23, 24, 3] := kS (Array.mem_of_getElem? ht);have dp : ([22, 22, 23, 24, 3].all fun u => !Tryz.prog.wantsStandIn u) = true := cE;exact (show Tryz.prog.wantsStandIn t = false by simpa using List.all_eq_true.1 dp t hm)⟩)
    Ab8
end Go.Proofs.YtodbnbfjhjcanaaGreatDoor
