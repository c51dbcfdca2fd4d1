/-
  palinglaw51.DrillBegins is proved: it answers true at every input.
-/
import Derived.Test.YtnccojbdjjnoiaaB14
import Derived.Test.YtnccojbdjjnoiaaB9
import Derived.Test.YtnccojbdjjnoiaaRows
namespace Go.Proofs.Ytnccojbdjjnoiaa
open Go.ChangeShapes Go.WideShapes Go.ChangeAt Go.RowKit Go.Sy Go.Sy.Ytnccojbdjjnoiaa

theorem Try.own : ownKnob Try.prog.godebug = none := by kernel_rfl
theorem Try.laidOut : laidOutB Try.prog = true := by kernel_rfl

set_option maxRecDepth 100000 in
theorem drillBegins_lifted (os : Os) (started : os.Started) (H : Type) (enc : TypeId × Value → H) :
    ReturnsInHanded {} Try.checked os 4 .any (Rows.drillBeginsSpec.pre6 enc Try.prog Try.f4 Rows.drillBeginsRow.domain false) (Rows.drillBeginsSpec.post enc Try.prog Try.f4 false true false false) := by
  refine returnsInHanded_of_change (C := Try.checked) Try.own started (by kernel_rfl) Try.func4
    (ChangeSpec.witness6 (enc := enc) (C := Try.checked) false ⟨#[], #[.agg #[.slice none 0 0, .slice none 0 0, .slice none 0 0, .slice none 0 0, .slice none 0 0, .slice none 0 0, .slice none 0 0, .slice none 0 0], .int .u64 0, .int .u8 0, .int .u8 0], []⟩ 8 (by kernel_rfl) (by kernel_rfl) (by kernel_rfl) (by kernel_rfl)) ?_
  intro W base args ds gs before hval0 hW hcnd _
  have hval : ∀ (j : Nat) t v, Try.f4.params[j]? = some t → args[j]? = some v → Value.okWide Try.prog W .any base t v := hval0
  have hW' := hW
  obtain ⟨p, q, hA0, hV, rfl, hfz, hnd⟩ := hW
  have hA : DataW.TrodAll enc Try.prog W 0 (fun _ => true) true Try.f4.params.toList args.toList ds p := hA0
  rw [Try.params4] at hA hval
  obtain ⟨v0, r0, d0, e0, p0, q0, a0, rfl, _, h0, hA⟩ := trodAll_cons hA
  obtain ⟨v1, r1, d1, e1, p1, q1, rfl, rfl, _, h1, hA⟩ := trodAll_cons hA
  obtain ⟨v2, r2, d2, e2, p2, q2, rfl, rfl, _, h2, hA⟩ := trodAll_cons hA
  obtain ⟨v3, r3, d3, e3, p3, q3, rfl, rfl, _, h3, hA⟩ := trodAll_cons hA
  obtain ⟨rfl, rfl, _⟩ := trodAll_nil hA
  have ha : args = #[v0, v1, v2, v3] := by cases args; simp_all
  subst ha
  obtain ⟨x0, i0, w0⟩ := rd_net (hval 0 31 v0 rfl rfl) h0
  obtain ⟨x1, rfl, _, _, i1⟩ := open_int Try.underlying32 (hval 1 32 v1 rfl rfl) h1
  obtain ⟨x2, rfl, _, _, i2⟩ := open_int Try.underlying5 (hval 2 5 v2 rfl rfl) h2
  obtain ⟨x3, rfl, _, _, i3⟩ := open_int Try.underlying5 (hval 3 5 v3 rfl rfl) h3
  exact law_calls (tb := 4) (A := [netSV x0, u64SV x1, .val (.int .u8 x2), .val (.int .u8 x3)]) rfl Try.laidOut hW' (by rw [Try.params4]; decide +kernel) rfl Try.underlying4 (fun gs hg => by subst hg; rfl)
    (by simp only [RdL]; exact ⟨_, _, rfl, w0, _, _, rfl, (by simp [Rd, u64SV]), _, _, rfl, (by simp [Rd]), _, _, rfl, (by simp [Rd]), rfl⟩) (drillBeginsS x0 x1 x2 x3 i0 i2 i3)

theorem drillBegins_holds : Rows.DrillBeginsSaid :=
  OpenClaim.holds_of_wide 4 Try.f4 rfl rfl rfl rfl rfl rfl rfl ⟨rfl, rfl, rfl, rfl, rfl⟩ rfl rfl rfl rfl rfl (by kernel_rfl) Try.func4 (by kernel_rfl)
    (of_decide_eq_true (by kernel_rfl)) (by unfold Func.isWrapper; first | (rw [if_pos (by decide +kernel)]; kernel_rfl) | (rw [if_neg (by decide +kernel)]; exact ⟨rfl, rfl⟩))
    (fun os started H enc _ => drillBegins_lifted os started H enc)

end Go.Proofs.Ytnccojbdjjnoiaa
