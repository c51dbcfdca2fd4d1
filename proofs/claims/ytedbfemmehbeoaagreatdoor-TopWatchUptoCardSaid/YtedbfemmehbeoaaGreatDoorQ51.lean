/-
  palingtop.TopWatch is proved where what it reads is of bulk at most 1048576: it answers true; with its second card.
-/
import Derived.Test.YtedbfemmehbeoaaGreatDoorXC35
import Derived.Test.YtedbfemmehbeoaaGreatDoorTie
import Derived.Deep.DeepHandedRow
import Derived.Test.YtedbfemmehbeoaaGreatDoorXC36
set_option linter.all false
namespace Go.Proofs.YtedbfemmehbeoaaGreatDoor
open Go.ChangeShapes Go.WideShapes Go.ChangeAt Go.RowKit Go.Sy Go.Sy.Zaa
theorem Tryz.bc : ownKnob Tryz.prog.godebug = none := by kernel_rfl
theorem Tryz.laidOut : laidOutB Tryz.prog = true := by kernel_rfl
set_option maxRecDepth 100000 in
theorem topWatchUpto_lifted(i : Os)(j0 : i.Started)(H : Type)(o : TypeId×Value -> H)(F : Stop.Interp):ReturnsInHanded {} Tryz.checked i 3 .any ((Rows.OpenSpec.upto Rows.topWatchSpec).preRow o Tryz.prog Tryz.f3 Rows.topWatchUptoRow.domain false Rows.topWatchUptoRow.laid) (((Rows.OpenSpec.upto Rows.topWatchSpec).at F).post o Tryz.prog Tryz.f3 false true false false) := by
  have hx : DataW.whole o Tryz.prog ((World.laidAll Tryz.prog i Rows.topWatchUptoRow.laid).forCall (fun _ _=> 0) ⟨#[], #[.slice none 0 0, .slice none 0 0, .slice none 0 0], []⟩).memory Tryz.f3.params.toList Rows.topWatchSpec.vars false #[Value.slice none 0 0, .slice none 0 0, .slice none 0 0].toList 8 = some ([.nil, .nil, .nil], [], []) := by kernel_rfl
  have R : Input.okWideB Tryz.prog ((World.laidAll Tryz.prog i Rows.topWatchUptoRow.laid).forCall (fun _ _=> 0) ⟨#[], #[.slice none 0 0, .slice none 0 0, .slice none 0 0], []⟩) 3 ⟨#[], #[.slice none 0 0, .slice none 0 0, .slice none 0 0], []⟩ = true := by kernel_rfl
  refine returnsInHanded_of_row (C := Tryz.checked) (s := Rows.OpenSpec.upto Rows.topWatchSpec) Tryz.bc j0 (by kernel_rfl) Tryz.func3
    ⟨World.laidAll Tryz.prog i Rows.topWatchUptoRow.laid, fun _ _ => 0, ⟨#[], #[.slice none 0 0, .slice none 0 0, .slice none 0 0], []⟩, World.laidAll_os _ _ _, World.shaped_of_ZipB (by kernel_rfl) (by kernel_rfl), (Input.okWide_of_okWideB (base := 0) R).1, (Input.okWide_of_okWideB R).2,
      OpenSpec.preRow_of_cond 8 hx (by kernel_rfl) (fun k hk=> by cases hk; kernel_rfl) (by kernel_rfl) (by rw [MakeChecks.laidMetH_plain _ _ _ (by kernel_rfl)]; exact laidMet_laidAll _ (by kernel_rfl) (by kernel_rfl)), by
        simp only [Assume.holds];exact ⟨by simp, by simp, fun _ => Modest.zero, by simp, by simp⟩⟩ ?_
  intro W base args ds gs r yw hW _ yx _ hL _ _;have l : ∀(j : Nat) t v, Tryz.f3.params[j]? = some t -> args[j]? = some v -> Value.okWide Tryz.prog W .any base t v := yw;have I := hW;obtain ⟨p, q, J, hV, rfl, yy, x8⟩ := hW;have g : DataW.TrodAll o Tryz.prog W 0 (fun _=> true) true Tryz.f3.params.toList args.toList ds p := J;rw [Tryz.params3] at g l;obtain ⟨v0, r0, d0, e0, p0, q0, a0, rfl, _, h0, g⟩ := trodAll_cons g;obtain ⟨v1, r1, d1, e1, p1, q1, rfl, rfl, _, h1, g⟩ := trodAll_cons g;obtain ⟨P, r2, d2, e2, p2, q2, rfl, rfl, _, h2, g⟩ := trodAll_cons g;obtain ⟨rfl, rfl, _⟩ := trodAll_nil g;have ha : args = #[v0, v1, P] := by cases args; simp_all
  subst ha;obtain ⟨x0, i0, w0⟩ := Aip Tryz.underlying22 op_bytes (l 0 22 v0 rfl rfl) h0;obtain ⟨x1, i1, w1⟩ := Aip Tryz.underlying22 op_bytes (l 1 22 v1 rfl rfl) h1;obtain ⟨x2, i2, w2⟩ := Aip Tryz.underlying22 op_bytes (l 2 22 P rfl rfl) h2;have hb := A1w (yx _ rfl);have hm : Rows.uptoBulk d2 <= Rows.uptoBulkAll ([d0, d1, d2] ++ gs) := Awq (by simp);have hl := Bem Tryz.underlying22 (l 2 22 P rfl rfl) h2 w2;exact A0k (s := Rows.topWatchSpec) (Al1 hL (by kernel_rfl) (.tail _ (.head _)) (.tail _ (.tail _ (.head _)))) (tb := 4) (A := [.sl 1 Ae x0, .sl 1 Ae x1, .sl 1 Ae x2]) rfl Tryz.laidOut I (by rw [Tryz.params3]; decide +kernel) rfl Tryz.underlying4 (fun gs hg=> by subst hg; rfl)
    (by simp only [B8]; exact ⟨_, _, rfl, w0, _, _, rfl, w1, _, _, rfl, w2, rfl⟩) (A4g x0 x1 x2 (by omega))
theorem topWatchUpto_holds : Rows.TopWatchUptoSaid :=
  OpenClaim.holds_of_cond 3 Tryz.f3 rfl rfl rfl rfl rfl rfl rfl ⟨rfl, rfl, rfl, rfl, rfl⟩ rfl rfl rfl rfl rfl (by kernel_rfl) Tryz.func3 oJ
    (of_decide_eq_true (by kernel_rfl)) (by unfold Func.isWrapper; first|(rw [if_pos (by decide +kernel)]; kernel_rfl)|(rw [if_neg (by decide +kernel)]; exact ⟨rfl, rfl⟩))
    (fun g i H j _ F=> by rw [OpenClaim.pre_eq_preRow]; exact topWatchUpto_lifted g i H j F)
theorem topWatchUpto_card_holds : Rows.TopWatchUptoCardSaid :=
  Claim7.holds_tied_plain_at .later [] [.data, .data, .data, .pinned] true (true, "5724b625e19d58b6ef6c0c63a693dcae1e2b05b237fd1e1fc2491972c3098e93") true topWatchUpto_holds (fun _ h=> by cases h) Ag2 (fun _ h=> by cases h) topWatchUpto_row_tie rfl ⟨rfl, rfl⟩ Abc rfl
    (fun f fn i l => by
      obtain rfl : f = 3 := Option.some.inj (lC.symm.trans i) |>.symm;obtain rfl : fn = Tryz.f3 := (Option.some.inj (Tryz.func3.symm.trans l)).symm;exact ⟨oH, fun j t g => by
        rw [Tryz.params3] at g;have hm : t ∈ [22] := kS (Array.mem_of_getElem? g);have o : ([22].all fun u => !Tryz.prog.wantsStandIn u) = true := bL;exact (show Tryz.prog.wantsStandIn t = false by simpa using List.all_eq_true.1 o t hm)⟩)
    Abe
end Go.Proofs.YtedbfemmehbeoaaGreatDoor
