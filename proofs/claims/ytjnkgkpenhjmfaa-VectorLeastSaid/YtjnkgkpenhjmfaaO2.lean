/-
  Vectors are opened.
-/
import Derived.Test.YtjnkgkpenhjmfaaO1
import Derived.Test.YtjnkgkpenhjmfaaV1
namespace Go.Sy.Ytjnkgkpenhjmfaa
open Go.Proofs Go.ChangeShapes Go.WideShapes Go.ChangeAt Go.RowKit

set_option maxRecDepth 100000
section
variable {H : Type} {enc : TypeId × Value → H} {W : World}

def Vec.In (x : Vec) : Prop := wI .i64 x.root ∧ wI .i64 x.cost ∧ wI .i64 x.bridge ∧ wI .i64 x.port ∧ wI .i64 x.own

theorem opN_Vec : OpN enc Try.prog W 38 vecSV Vec.In 5 := fun n cs y h => by
  obtain ⟨xs, m, _, _, hlen, hx, hg⟩ := DataW.trod_struct Try.underlying38 h
  have hlen : cs.length = 5 := hlen.trans (by kernel_rfl : Try.prog.cellsOf 38 = 5)
  have hx : xs.length = 5 := hx
  match cs, hlen with
  | [c0, c1, c2, c3, c4], _ =>
    have g0 : DataW.trod enc Try.prog W 0 (fun _ => true) true m 3 (([c0, c1, c2, c3, c4].drop 0).take (Try.prog.cellsOf 3)) = xs[0]? := hg 0 _ rfl
    rw [(by kernel_rfl : Try.prog.cellsOf 3 = 1), List.getElem?_eq_getElem (by omega)] at g0
    obtain ⟨z0, p0, r0, o0⟩ := op_int Try.underlying3 _ _ _ g0
    have g1 : DataW.trod enc Try.prog W 0 (fun _ => true) true m 3 (([c0, c1, c2, c3, c4].drop 1).take (Try.prog.cellsOf 3)) = xs[1]? := hg 1 _ rfl
    rw [(by kernel_rfl : Try.prog.cellsOf 3 = 1), List.getElem?_eq_getElem (by omega)] at g1
    obtain ⟨z1, p1, r1, o1⟩ := op_int Try.underlying3 _ _ _ g1
    have g2 : DataW.trod enc Try.prog W 0 (fun _ => true) true m 3 (([c0, c1, c2, c3, c4].drop 2).take (Try.prog.cellsOf 3)) = xs[2]? := hg 2 _ rfl
    rw [(by kernel_rfl : Try.prog.cellsOf 3 = 1), List.getElem?_eq_getElem (by omega)] at g2
    obtain ⟨z2, p2, r2, o2⟩ := op_int Try.underlying3 _ _ _ g2
    have g3 : DataW.trod enc Try.prog W 0 (fun _ => true) true m 3 (([c0, c1, c2, c3, c4].drop 3).take (Try.prog.cellsOf 3)) = xs[3]? := hg 3 _ rfl
    rw [(by kernel_rfl : Try.prog.cellsOf 3 = 1), List.getElem?_eq_getElem (by omega)] at g3
    obtain ⟨z3, p3, r3, o3⟩ := op_int Try.underlying3 _ _ _ g3
    have g4 : DataW.trod enc Try.prog W 0 (fun _ => true) true m 3 (([c0, c1, c2, c3, c4].drop 4).take (Try.prog.cellsOf 3)) = xs[4]? := hg 4 _ rfl
    rw [(by kernel_rfl : Try.prog.cellsOf 3 = 1), List.getElem?_eq_getElem (by omega)] at g4
    obtain ⟨z4, p4, r4, o4⟩ := op_int Try.underlying3 _ _ _ g4
    refine ⟨⟨z0, z1, z2, z3, z4⟩, ⟨p0, p1, p2, p3, p4⟩, rfl, fun c hc => ?_, ?_⟩
    · simp only [List.mem_cons, List.not_mem_nil, or_false] at hc
      rcases hc with rfl | rfl | rfl | rfl | rfl <;> assumption
    · simp only [vecSV, cellsOf, RdL]
      exact ⟨_, _, rfl, r0, _, _, rfl, r1, _, _, rfl, r2, _, _, rfl, r3, _, _, rfl, r4, rfl⟩

end
end Go.Sy.Ytjnkgkpenhjmfaa
