/-
  palinglaw25.TreeAlone is proved: it answers true at every input.
-/
import Derived.Test.YtgfgbdbklikckaaB14
import Derived.Test.YtgfgbdbklikckaaB9
import Derived.Test.YtgfgbdbklikckaaRows
namespace Go.Proofs.Ytgfgbdbklikckaa
open Go.ChangeShapes Go.WideShapes Go.ChangeAt Go.RowKit Go.Sy Go.Sy.Ytgfgbdbklikckaa

theorem Try.own : ownKnob Try.prog.godebug = none := by kernel_rfl
theorem Try.laidOut : laidOutB Try.prog = true := by kernel_rfl

set_option maxRecDepth 100000 in
theorem treeAlone_lifted (os : Os) (started : os.Started) (H : Type) (enc : TypeId × Value → H) :
    ReturnsInHanded {} Try.checked os 4 .any (Rows.treeAloneSpec.pre6 enc Try.prog Try.f4 Rows.treeAloneRow.domain false) (Rows.treeAloneSpec.post enc Try.prog Try.f4 false true false false) := by
  refine returnsInHanded_of_change (C := Try.checked) Try.own started (by kernel_rfl) Try.func4
    (ChangeSpec.witness6 (enc := enc) (C := Try.checked) false ⟨#[], #[.agg #[.slice none 0 0, .slice none 0 0, .slice none 0 0, .slice none 0 0, .slice none 0 0, .slice none 0 0, .slice none 0 0, .slice none 0 0], .int .u8 0], []⟩ 8 (by kernel_rfl) (by kernel_rfl) (by kernel_rfl) (by kernel_rfl)) ?_
  intro W base args ds gs before hval0 hW hcnd _
  have hval : ∀ (j : Nat) t v, Try.f4.params[j]? = some t → args[j]? = some v → Value.okWide Try.prog W .any base t v := hval0
  have hW' := hW
  obtain ⟨p, q, hA0, hV, rfl, hfz, hnd⟩ := hW
  have hA : DataW.TrodAll enc Try.prog W 0 (fun _ => true) true Try.f4.params.toList args.toList ds p := hA0
  rw [Try.params4] at hA hval
  obtain ⟨v0, r0, d0, e0, p0, q0, a0, rfl, _, h0, hA⟩ := trodAll_cons hA
  obtain ⟨v1, r1, d1, e1, p1, q1, rfl, rfl, _, h1, hA⟩ := trodAll_cons hA
  obtain ⟨rfl, rfl, _⟩ := trodAll_nil hA
  have ha : args = #[v0, v1] := by cases args; simp_all
  subst ha
  obtain ⟨x0, i0, w0⟩ := rd_net (hval 0 31 v0 rfl rfl) h0
  obtain ⟨x1, rfl, _, _, i1⟩ := open_int Try.underlying5 (hval 1 5 v1 rfl rfl) h1
  exact law_calls (tb := 4) (A := [netSV x0, .val (.int .u8 x1)]) rfl Try.laidOut hW' (by rw [Try.params4]; decide +kernel) rfl Try.underlying4 (fun gs hg => by subst hg; rfl)
    (by simp only [RdL]; exact ⟨_, _, rfl, w0, _, _, rfl, (by simp [Rd]), rfl⟩) (treeAloneS x0 x1 (by have := i1; simp only [Lit.wf, Bool.and_eq_true, decide_eq_true_eq] at this; have h1 : IntKind.u8.min = 0 := (by decide); have h2 : IntKind.u8.max = 255 := (by decide); omega))

theorem treeAlone_holds : Rows.TreeAloneSaid :=
  OpenClaim.holds_of_wide 4 Try.f4 rfl rfl rfl rfl rfl rfl rfl ⟨rfl, rfl, rfl, rfl, rfl⟩ rfl rfl rfl rfl rfl (by kernel_rfl) Try.func4 (by kernel_rfl)
    (of_decide_eq_true (by kernel_rfl)) (by unfold Func.isWrapper; first | (rw [if_pos (by decide +kernel)]; kernel_rfl) | (rw [if_neg (by decide +kernel)]; exact ⟨rfl, rfl⟩))
    (fun os started H enc _ => treeAlone_lifted os started H enc)

end Go.Proofs.Ytgfgbdbklikckaa
