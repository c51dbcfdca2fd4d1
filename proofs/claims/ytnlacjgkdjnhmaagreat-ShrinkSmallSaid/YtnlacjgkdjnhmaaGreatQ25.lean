/-
  palinglaw45.ShrinkSmall is proved: it answers true at every input.
-/
import Derived.Test.YtnlacjgkdjnhmaaGreatI11
import Derived.Test.YtnlacjgkdjnhmaaGreatI10
import Derived.Test.YtnlacjgkdjnhmaaGreatRows
namespace Go.Proofs.YtnlacjgkdjnhmaaGreat
open Go.ChangeShapes Go.WideShapes Go.ChangeAt Go.RowKit Go.Sy Go.Sy.YtnlacjgkdjnhmaaGreat
theorem Tryz.own : ownKnob Tryz.prog.godebug = none := by kernel_rfl
theorem Tryz.laidOut : laidOutB Tryz.prog = true := by kernel_rfl
set_option maxRecDepth 100000 in
theorem shrinkSmall_lifted (os : Os) (started : os.Started) (H : Type) (enc : TypeId × Value → H) :
    ReturnsInHanded {} Tryz.checked os 3 .any (Rows.shrinkSmallSpec.pre6 enc Tryz.prog Tryz.f3 Rows.shrinkSmallRow.domain false) (Rows.shrinkSmallSpec.post enc Tryz.prog Tryz.f3 false true false false) := by
  refine returnsInHanded_of_change (C := Tryz.checked) Tryz.own started (by kernel_rfl) Tryz.func3
    (ChangeSpec.witness6 (enc := enc) (C := Tryz.checked) false ⟨#[], #[.agg #[.slice none 0 0, .slice none 0 0, .slice none 0 0, .slice none 0 0, .slice none 0 0, .slice none 0 0, .slice none 0 0, .slice none 0 0], .slice none 0 0, .slice none 0 0, .slice none 0 0], []⟩ 8 (by kernel_rfl) (by kernel_rfl) (by kernel_rfl) (by kernel_rfl)) ?_
  intro W base args ds gs before hval0 hW hcnd _
  have hval : ∀ (j : Nat) t v, Tryz.f3.params[j]? = some t → args[j]? = some v → Value.okWide Tryz.prog W .any base t v := hval0
  have hW' := hW
  obtain ⟨p, q, hA0, hV, rfl, hfz, hnd⟩ := hW
  have hA : DataW.TrodAll enc Tryz.prog W 0 (fun _ => true) true Tryz.f3.params.toList args.toList ds p := hA0
  rw [Tryz.params3] at hA hval
  obtain ⟨v0, r0, d0, e0, p0, q0, a0, rfl, _, h0, hA⟩ := trodAll_cons hA
  obtain ⟨v1, r1, d1, e1, p1, q1, rfl, rfl, _, h1, hA⟩ := trodAll_cons hA
  obtain ⟨v2, r2, d2, e2, p2, q2, rfl, rfl, _, h2, hA⟩ := trodAll_cons hA
  obtain ⟨v3, r3, d3, e3, p3, q3, rfl, rfl, _, h3, hA⟩ := trodAll_cons hA
  obtain ⟨rfl, rfl, _⟩ := trodAll_nil hA
  have ha : args = #[v0, v1, v2, v3] := by cases args; simp_all
  subst ha
  obtain ⟨x0, i0, w0⟩ := rd_net (hval 0 31 v0 rfl rfl) h0
  obtain ⟨x1, i1, w1⟩ := U4 Tryz.underlying32 O9 (hval 1 32 v1 rfl rfl) h1
  obtain ⟨x2, i2, w2⟩ := U4 Tryz.underlying33 Agy (hval 2 33 v2 rfl rfl) h2
  obtain ⟨x3, i3, w3⟩ := U4 Tryz.underlying34 Ajg (hval 3 34 v3 rfl rfl) h3
  exact Ahd (tb := 4) (A := [Aq x0, .sl 1 Aa x1, .sl 1 D5 x2, .sl 6 Bg x3]) rfl Tryz.laidOut hW' (by rw [Tryz.params3]; decide +kernel) rfl Tryz.underlying4 (fun gs hg => by subst hg; rfl)
    (by simp only [RdL]; exact ⟨_, _, rfl, w0, _, _, rfl, w1, _, _, rfl, w2, _, _, rfl, w3, rfl⟩) (Ts x0 i0 x1 x2 i2.1 x3)
theorem shrinkSmall_holds : Rows.ShrinkSmallSaid :=
  OpenClaim.holds_of_wide 3 Tryz.f3 rfl rfl rfl rfl rfl rfl rfl ⟨rfl, rfl, rfl, rfl, rfl⟩ rfl rfl rfl rfl rfl (by kernel_rfl) Tryz.func3 Ov
    (of_decide_eq_true (by kernel_rfl)) (by unfold Func.isWrapper; first | (rw [if_pos (by decide +kernel)]; kernel_rfl) | (rw [if_neg (by decide +kernel)]; exact ⟨rfl, rfl⟩))
    (fun os started H enc _ => shrinkSmall_lifted os started H enc)
end Go.Proofs.YtnlacjgkdjnhmaaGreat
