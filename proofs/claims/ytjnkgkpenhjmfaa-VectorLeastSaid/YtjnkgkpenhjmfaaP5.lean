/-
  palinglaw24.VectorLeast is proved: it answers true at every input.
-/
import Derived.Test.YtjnkgkpenhjmfaaV8
import Derived.Test.YtjnkgkpenhjmfaaO2
import Derived.Test.YtjnkgkpenhjmfaaRows
namespace Go.Proofs.Ytjnkgkpenhjmfaa
open Go.ChangeShapes Go.WideShapes Go.ChangeAt Go.RowKit Go.Sy Go.Sy.Ytjnkgkpenhjmfaa

theorem Try.own : ownKnob Try.prog.godebug = none := by kernel_rfl
theorem Try.laidOut : laidOutB Try.prog = true := by kernel_rfl

set_option maxRecDepth 100000 in
theorem vectorLeast_lifted (os : Os) (started : os.Started) (H : Type) (enc : TypeId × Value → H) :
    ReturnsInHanded {} Try.checked os 7 .any (Rows.vectorLeastSpec.pre6 enc Try.prog Try.f7 Rows.vectorLeastRow.domain false) (Rows.vectorLeastSpec.post enc Try.prog Try.f7 false true false false) := by
  refine returnsInHanded_of_change (C := Try.checked) Try.own started (by kernel_rfl) Try.func7
    (ChangeSpec.witness6 (enc := enc) (C := Try.checked) false ⟨#[], #[.slice none 0 0], []⟩ 8 (by kernel_rfl) (by kernel_rfl) (by kernel_rfl) (by kernel_rfl)) ?_
  intro W base args ds gs before hval0 hW hcnd _
  have hval : ∀ (j : Nat) t v, Try.f7.params[j]? = some t → args[j]? = some v → Value.okWide Try.prog W .any base t v := hval0
  have hW' := hW
  obtain ⟨p, q, hA0, hV, rfl, hfz, hnd⟩ := hW
  have hA : DataW.TrodAll enc Try.prog W 0 (fun _ => true) true Try.f7.params.toList args.toList ds p := hA0
  rw [Try.params7] at hA hval
  obtain ⟨v0, r0, d0, e0, p0, q0, a0, rfl, _, h0, hA⟩ := trodAll_cons hA
  obtain ⟨rfl, rfl, _⟩ := trodAll_nil hA
  have ha : args = #[v0] := by cases args; simp_all
  subst ha
  obtain ⟨x0, i0, w0⟩ := rd_slice Try.underlying47 (op_slice Try.underlying47 (by kernel_rfl : Try.prog.cellsOf 38 = 5) (by decide) (fun _ => rfl) (fun _ => rfl) opN_Vec) (hval 0 47 v0 rfl rfl) h0
  exact law_calls (tb := 4) (A := [.sl 5 vecSV x0]) rfl Try.laidOut hW' (by rw [Try.params7]; decide +kernel) rfl Try.underlying4 (fun gs hg => by subst hg; rfl)
    (by simp only [RdL]; exact ⟨_, _, rfl, w0, rfl⟩) (vectorLeastS x0)

theorem vectorLeast_holds : Rows.VectorLeastSaid :=
  OpenClaim.holds_of_wide 7 Try.f7 rfl rfl rfl rfl rfl rfl rfl ⟨rfl, rfl, rfl, rfl, rfl⟩ rfl rfl rfl rfl rfl (by kernel_rfl) Try.func7 (by kernel_rfl)
    (of_decide_eq_true (by kernel_rfl)) (by unfold Func.isWrapper; first | (rw [if_pos (by decide +kernel)]; kernel_rfl) | (rw [if_neg (by decide +kernel)]; exact ⟨rfl, rfl⟩))
    (fun os started H enc _ => vectorLeast_lifted os started H enc)

end Go.Proofs.Ytjnkgkpenhjmfaa
