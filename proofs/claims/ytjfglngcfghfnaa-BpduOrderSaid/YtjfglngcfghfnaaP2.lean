/-
  palinglaw40.BpduOrder is proved: it answers true at every input.
-/
import Derived.Test.YtjfglngcfghfnaaC12
import Derived.Test.YtjfglngcfghfnaaP0
namespace Go.Proofs.Ytjfglngcfghfnaa
open Go.ChangeShapes Go.WideShapes Go.ChangeAt Go.RowKit Go.Sy Go.Sy.Ytjfglngcfghfnaa

set_option maxRecDepth 100000 in
theorem bpduOrder_lifted (os : Os) (started : os.Started) (H : Type) (enc : TypeId × Value → H) :
    ReturnsInHanded {} Try.checked os 6 .any (Rows.bpduOrderSpec.pre6 enc Try.prog Try.f6 Rows.bpduOrderRow.domain false) (Rows.bpduOrderSpec.post enc Try.prog Try.f6 false true false false) := by
  refine returnsInHanded_of_change (C := Try.checked) Try.own started (by kernel_rfl) Try.func6
    (ChangeSpec.witness6 (enc := enc) (C := Try.checked) false ⟨#[], #[.agg #[.bool false, .bool false, .int .u64 0, .int .u64 0, .int .i64 0, .int .i64 0, .int .i64 0, .int .i64 0, .int .i64 0, .int .i64 0], .agg #[.bool false, .bool false, .int .u64 0, .int .u64 0, .int .i64 0, .int .i64 0, .int .i64 0, .int .i64 0, .int .i64 0, .int .i64 0], .int .u16 0, .int .u16 0, .int .u64 0, .int .u64 0], []⟩ 8 (by kernel_rfl) (by kernel_rfl) (by kernel_rfl) (by kernel_rfl)) ?_
  intro W base args ds gs before hval0 hW hcnd _
  have hval : ∀ (j : Nat) t v, Try.f6.params[j]? = some t → args[j]? = some v → Value.okWide Try.prog W .any base t v := hval0
  have hW' := hW
  obtain ⟨p, q, hA0, hV, rfl, hfz, hnd⟩ := hW
  have hA : DataW.TrodAll enc Try.prog W 0 (fun _ => true) true Try.f6.params.toList args.toList ds p := hA0
  rw [Try.params6] at hA hval
  obtain ⟨v0, r0, d0, e0, p0, q0, a0, rfl, _, h0, hA⟩ := trodAll_cons hA
  obtain ⟨v1, r1, d1, e1, p1, q1, rfl, rfl, _, h1, hA⟩ := trodAll_cons hA
  obtain ⟨v2, r2, d2, e2, p2, q2, rfl, rfl, _, h2, hA⟩ := trodAll_cons hA
  obtain ⟨v3, r3, d3, e3, p3, q3, rfl, rfl, _, h3, hA⟩ := trodAll_cons hA
  obtain ⟨v4, r4, d4, e4, p4, q4, rfl, rfl, _, h4, hA⟩ := trodAll_cons hA
  obtain ⟨v5, r5, d5, e5, p5, q5, rfl, rfl, _, h5, hA⟩ := trodAll_cons hA
  obtain ⟨rfl, rfl, _⟩ := trodAll_nil hA
  have ha : args = #[v0, v1, v2, v3, v4, v5] := by cases args; simp_all
  subst ha
  obtain ⟨a, ra, wa⟩ := rd_msg (hval 0 26 v0 rfl rfl) h0
  obtain ⟨b, rb, wb⟩ := rd_msg (hval 1 26 v1 rfl rfl) h1
  obtain ⟨z2, rfl, _, _, w2⟩ := open_int Try.underlying46 (hval 2 46 v2 rfl rfl) h2
  obtain ⟨z3, rfl, _, _, w3⟩ := open_int Try.underlying46 (hval 3 46 v3 rfl rfl) h3
  obtain ⟨z4, rfl, _, _, w4⟩ := open_int Try.underlying24 (hval 4 24 v4 rfl rfl) h4
  obtain ⟨z5, rfl, _, _, w5⟩ := open_int Try.underlying24 (hval 5 24 v5 rfl rfl) h5
  obtain ⟨n2, rfl, l2⟩ := nat_u16 w2
  obtain ⟨n3, rfl, l3⟩ := nat_u16 w3
  obtain ⟨n4, rfl, l4⟩ := nat_u64 w4
  obtain ⟨n5, rfl, l5⟩ := nat_u64 w5
  exact law_calls (tb := 4) (A := [msgSV a, msgSV b, .val (.int .u16 n2), .val (.int .u16 n3), u64SV n4, u64SV n5]) rfl Try.laidOut hW' (by rw [Try.params6]; decide +kernel) rfl Try.underlying4 (fun gs hg => by subst hg; rfl)
    (by simp only [RdL]; exact ⟨_, _, rfl, wa, _, _, rfl, wb, _, _, rfl, by simp [Rd], _, _, rfl, by simp [Rd], _, _, rfl, by simp [Rd, u64SV], _, _, rfl, by simp [Rd, u64SV], rfl⟩) (orderS a b n2 n3 n4 n5 l2 l3 l4 l5)

theorem bpduOrder_holds : Rows.BpduOrderSaid :=
  OpenClaim.holds_of_wide 6 Try.f6 rfl rfl rfl rfl rfl rfl rfl ⟨rfl, rfl, rfl, rfl, rfl⟩ rfl rfl rfl rfl rfl (by kernel_rfl) Try.func6 (by kernel_rfl)
    (of_decide_eq_true (by kernel_rfl)) (by unfold Func.isWrapper; first | (rw [if_pos (by decide +kernel)]; kernel_rfl) | (rw [if_neg (by decide +kernel)]; exact ⟨rfl, rfl⟩))
    (fun os started H enc _ => bpduOrder_lifted os started H enc)

end Go.Proofs.Ytjfglngcfghfnaa
