/-
  palinglaw49.OrderSorts is proved: it answers true at every input; with its tied card.
-/
import Derived.Test.YtgblchnfjbkipaaGreatDoorXG6
import Derived.Test.YtgblchnfjbkipaaGreatDoorRows
import Derived.Test.YtgblchnfjbkipaaGreatDoorCards
import Derived.Test.YtgblchnfjbkipaaGreatDoorTie
import Derived.ProofKit
import Derived.OpenShut
import Derived.LaidMore
import Derived.Lay
import Derived.SevenTiedAt
import Derived.Stop.Joined
namespace Go.Proofs.YtgblchnfjbkipaaGreatDoor
open Go.ChangeShapes Go.WideShapes Go.ChangeAt Go.RowKit Go.Sy Go.Sy.YtgblchnfjbkipaaGreatDoor
theorem Tryz.own : ownKnob Tryz.prog.godebug = none := by kernel_rfl
theorem Tryz.laidOut : laidOutB Tryz.prog = true := by kernel_rfl
set_option maxRecDepth 100000 in
theorem orderSorts_lifted (os : Os) (started : os.Started) (H : Type) (enc : TypeId × Value → H) :
    ReturnsInHanded {} Tryz.checked os 3 .any (fun w args => (Rows.orderSortsSpec.pre enc Tryz.prog Tryz.f3 Rows.orderSortsRow.domain false w args ∧ laidMetH Tryz.prog Rows.orderSortsRow.laid w) ∧ sizedMet enc Tryz.prog Tryz.f3 (OpenSpec.ofChange Rows.orderSortsSpec) false w args)
      (Rows.orderSortsSpec.post enc Tryz.prog Tryz.f3 false true false false) := by
  refine returnsInHanded_of_change_and (C := Tryz.checked) (X := fun w _ => laidMetH Tryz.prog Rows.orderSortsRow.laid w) (fun _ _ _ hh h => h.of_heap hh) Tryz.own started (by kernel_rfl) Tryz.func3
    (ChangeSpec.witness_shaped (enc := enc) (C := Tryz.checked) (os := os) (X := fun w _ => laidMetH Tryz.prog Rows.orderSortsRow.laid w) false (World.laidAll Tryz.prog os Rows.orderSortsRow.laid) #[.slice none 0 0, .agg #[.int .i64 0, .int .i64 0, .string ⟨#[]⟩, .string ⟨#[]⟩, .string ⟨#[]⟩, .string ⟨#[]⟩, .string ⟨#[]⟩, .int .u64 0, .int .u32 0, .int .i64 0, .int .i64 0, .int .i64 0, .int .i64 0, .slice none 0 0, .slice none 0 0, .slice none 0 0, .slice none 0 0], .agg #[.int .i64 0, .int .i64 0, .string ⟨#[]⟩, .string ⟨#[]⟩, .string ⟨#[]⟩, .string ⟨#[]⟩, .string ⟨#[]⟩, .int .u64 0, .int .u32 0, .int .i64 0, .int .i64 0, .int .i64 0, .int .i64 0, .slice none 0 0, .slice none 0 0, .slice none 0 0, .slice none 0 0]] 8 (World.laidAll_os _ _ _)
      (World.shaped_of_ZipB (by kernel_rfl) (by kernel_rfl)) (by kernel_rfl) (by kernel_rfl) (by kernel_rfl)
      (by rw [MakeChecks.laidMetH_plain _ _ _ (by kernel_rfl)]; exact laidMet_laidAll _ (by kernel_rfl) (by kernel_rfl))) ?_
  intro W base args ds gs before hval0 hW hcnd _ hL _
  have hval : ∀ (j : Nat) t v, Tryz.f3.params[j]? = some t → args[j]? = some v → Value.okWide Tryz.prog W .any base t v := hval0
  have hW' := hW
  obtain ⟨p, q, hA0, hV, rfl, hfz, hnd⟩ := hW
  have hA : DataW.TrodAll enc Tryz.prog W 0 (fun _ => true) true Tryz.f3.params.toList args.toList ds p := hA0
  rw [Tryz.params3] at hA hval
  obtain ⟨v0, r0, d0, e0, p0, q0, a0, rfl, _, h0, hA⟩ := trodAll_cons hA
  obtain ⟨v1, r1, d1, e1, p1, q1, rfl, rfl, _, h1, hA⟩ := trodAll_cons hA
  obtain ⟨v2, r2, d2, e2, p2, q2, rfl, rfl, _, h2, hA⟩ := trodAll_cons hA
  obtain ⟨rfl, rfl, _⟩ := trodAll_nil hA
  have ha : args = #[v0, v1, v2] := by cases args; simp_all
  subst ha
  obtain ⟨x0, i0, w0⟩ := Aai Tryz.underlying22 Aaq (hval 0 22 v0 rfl rfl) h0
  obtain ⟨x1, i1, w1⟩ := Se Tryz.underlying28 Lp (fun _ => rfl) (hval 1 28 v1 rfl rfl) h1
  obtain ⟨x2, i2, w2⟩ := Se Tryz.underlying28 Lp (fun _ => rfl) (hval 2 28 v2 rfl rfl) h2
  exact Zi (tb := 4) (A := [.sl 17 Ab x0, Ab x1, Ab x2]) rfl Tryz.laidOut hW' (by rw [Tryz.params3]; decide +kernel) rfl Tryz.underlying4 (fun gs hg => by subst hg; rfl)
    (by simp only [RdL]; exact ⟨_, _, rfl, w0, _, _, rfl, w1, _, _, rfl, w2, rfl⟩) (Ou x0 x1 x2 (fun z hz => Tt (i0.1 z hz)) (Tt i1) (Tt i2))
theorem orderSorts_holds : Rows.OrderSortsSaid :=
  OpenClaim.holds_of_wide 3 Tryz.f3 rfl rfl rfl rfl rfl rfl rfl ⟨rfl, rfl, rfl, rfl, rfl⟩ rfl rfl rfl rfl rfl (by kernel_rfl) Tryz.func3 Ln
    (of_decide_eq_true (by kernel_rfl)) (by unfold Func.isWrapper; first | (rw [if_pos (by decide +kernel)]; kernel_rfl) | (rw [if_neg (by decide +kernel)]; exact ⟨rfl, rfl⟩))
    (fun os started H enc _ => orderSorts_lifted os started H enc)
theorem orderSorts_card_holds : Rows.OrderSortsCardSaid :=
  Claim7.holds_tied_plain_at .later [] [.data, .pinned] true (true, "3f6af94f8c32c5bce5a1ab8a14a0f655bb578ff8d5124cf5898aee3e9cdf08b6") false orderSorts_holds (fun _ h => by cases h) Qu (fun _ h => by cases h) orderSorts_row_tie rfl ⟨rfl, rfl⟩ Mz rfl
    (fun f fn hf hfn => by
      obtain rfl : f = 3 := Option.some.inj (orderSorts_fnamed.symm.trans hf) |>.symm
      obtain rfl : fn = Tryz.f3 := (Option.some.inj (Tryz.func3.symm.trans hfn)).symm
      exact ⟨Ll, fun j t ht => by
        rw [Tryz.params3] at ht
        have hm : t ∈ [22, 28, 28] := by simpa using Array.mem_of_getElem? ht
        have hall : ([22, 28, 28].all fun u => !Tryz.prog.wantsStandIn u) = true := Jy
        exact (show Tryz.prog.wantsStandIn t = false by simpa using List.all_eq_true.1 hall t hm)⟩)
    M1
end Go.Proofs.YtgblchnfjbkipaaGreatDoor
