/-
  Nets are opened. The chapter's example (palinglaw33.works). What is seen first (SimBegins). Steps, what was seen, tables: opened. (Printed by mkO4.py.) The closed facts of palinglaw33.SimBegins's row, each by itself (the kernel's memory).
-/
import Derived.Test.YtmelpejjondedaaGreatB4
import Derived.Test.YtmelpejjondedaaGreatB10
import Derived.Test.YtmelpejjondedaaGreatB6
import Derived.Test.YtmelpejjondedaaGreatRows
import Derived.ProofKit

namespace Go.Sy.YtmelpejjondedaaGreat
open Go.Proofs Go.ChangeShapes Go.WideShapes Go.ChangeAt Go.RowKit
set_option maxRecDepth 100000
section
variable {H : Type} {enc : TypeId × Value → H} {W : World}
def wI (k : IntKind) (z : Int) : Prop := (Lit.int k z).wf = true
theorem op_ints : Op1 enc Tryz.prog W 65 (fun l : List Int => .sl 1 (fun z => .val (.int .i64 z)) l) (fun l => (∀ z ∈ l, wI .i64 z) ∧ l.length ≤ maxLen) :=
  op_slice Tryz.underlying65 (by kernel_rfl : Tryz.prog.cellsOf 3 = 1) (by decide) (fun _ => rfl) (fun _ => rfl) (opN_int Tryz.underlying3)
theorem op_u32s : Op1 enc Tryz.prog W 84 (fun l : List Int => .sl 1 (fun z => .val (.int .u32 z)) l) (fun l => (∀ z ∈ l, wI .u32 z) ∧ l.length ≤ maxLen) :=
  op_slice Tryz.underlying84 (by kernel_rfl : Tryz.prog.cellsOf 90 = 1) (by decide) (fun _ => rfl) (fun _ => rfl) (opN_int Tryz.underlying90)
def Device.In (x : Device) : Prop := wI .i64 x.row ∧ wI .i64 x.prio ∧ x.name.size ≤ maxLen ∧ wI .u64 x.mac ∧ wI .u32 x.vtep
theorem opN_Device : OpN enc Tryz.prog W 92 deviceSV Device.In 5 := fun n cs y h => by
  obtain ⟨xs, m, _, _, hlen, hx, hg⟩ := DataW.trod_struct Tryz.underlying92 h
  have hlen : cs.length = 5 := hlen.trans (by kernel_rfl : Tryz.prog.cellsOf 92 = 5)
  have hx : xs.length = 5 := hx
  match cs, hlen with
  | [c0, c1, c2, c3, c4], _ =>
    have g0 : DataW.trod enc Tryz.prog W 0 (fun _ => true) true m 3 (([c0, c1, c2, c3, c4].drop 0).take (Tryz.prog.cellsOf 3)) = xs[0]? := hg 0 _ rfl
    rw [(by kernel_rfl : Tryz.prog.cellsOf 3 = 1), List.getElem?_eq_getElem (by omega)] at g0
    obtain ⟨z0, p0, r0, o0⟩ := op_int Tryz.underlying3 _ _ _ g0
    have g1 : DataW.trod enc Tryz.prog W 0 (fun _ => true) true m 3 (([c0, c1, c2, c3, c4].drop 1).take (Tryz.prog.cellsOf 3)) = xs[1]? := hg 1 _ rfl
    rw [(by kernel_rfl : Tryz.prog.cellsOf 3 = 1), List.getElem?_eq_getElem (by omega)] at g1
    obtain ⟨z1, p1, r1, o1⟩ := op_int Tryz.underlying3 _ _ _ g1
    have g2 : DataW.trod enc Tryz.prog W 0 (fun _ => true) true m 9 (([c0, c1, c2, c3, c4].drop 2).take (Tryz.prog.cellsOf 9)) = xs[2]? := hg 2 _ rfl
    rw [(by kernel_rfl : Tryz.prog.cellsOf 9 = 1), List.getElem?_eq_getElem (by omega)] at g2
    obtain ⟨z2, p2, r2, o2⟩ := op_str Tryz.underlying9 _ _ _ g2
    have g3 : DataW.trod enc Tryz.prog W 0 (fun _ => true) true m 89 (([c0, c1, c2, c3, c4].drop 3).take (Tryz.prog.cellsOf 89)) = xs[3]? := hg 3 _ rfl
    rw [(by kernel_rfl : Tryz.prog.cellsOf 89 = 1), List.getElem?_eq_getElem (by omega)] at g3
    obtain ⟨z3, p3, r3, o3⟩ := op_int Tryz.underlying89 _ _ _ g3
    have g4 : DataW.trod enc Tryz.prog W 0 (fun _ => true) true m 90 (([c0, c1, c2, c3, c4].drop 4).take (Tryz.prog.cellsOf 90)) = xs[4]? := hg 4 _ rfl
    rw [(by kernel_rfl : Tryz.prog.cellsOf 90 = 1), List.getElem?_eq_getElem (by omega)] at g4
    obtain ⟨z4, p4, r4, o4⟩ := op_int Tryz.underlying90 _ _ _ g4
    refine ⟨⟨z0, z1, z2, z3, z4⟩, ⟨p0, p1, p2, p3, p4⟩, rfl, fun c hc => ?_, ?_⟩
    · simp only [List.mem_cons, List.not_mem_nil, or_false] at hc
      rcases hc with rfl | rfl | rfl | rfl | rfl <;> assumption
    · simp only [deviceSV, cellsOf, RdL]
      exact ⟨_, _, rfl, r0, _, _, rfl, r1, _, _, rfl, r2, _, _, rfl, r3, _, _, rfl, r4, rfl⟩
def Port.In (x : Port) : Prop := wI .i64 x.row ∧ wI .i64 x.dev ∧ wI .i64 x.native ∧ wI .i64 x.cost ∧ wI .i64 x.link ∧ x.name.size ≤ maxLen ∧ ((∀ z ∈ x.tagged, wI .i64 z) ∧ x.tagged.length ≤ maxLen)
theorem opN_Port : OpN enc Tryz.prog W 81 portSV Port.In 7 := fun n cs y h => by
  obtain ⟨xs, m, _, _, hlen, hx, hg⟩ := DataW.trod_struct Tryz.underlying81 h
  have hlen : cs.length = 7 := hlen.trans (by kernel_rfl : Tryz.prog.cellsOf 81 = 7)
  have hx : xs.length = 7 := hx
  match cs, hlen with
  | [c0, c1, c2, c3, c4, c5, c6], _ =>
    have g0 : DataW.trod enc Tryz.prog W 0 (fun _ => true) true m 3 (([c0, c1, c2, c3, c4, c5, c6].drop 0).take (Tryz.prog.cellsOf 3)) = xs[0]? := hg 0 _ rfl
    rw [(by kernel_rfl : Tryz.prog.cellsOf 3 = 1), List.getElem?_eq_getElem (by omega)] at g0
    obtain ⟨z0, p0, r0, o0⟩ := op_int Tryz.underlying3 _ _ _ g0
    have g1 : DataW.trod enc Tryz.prog W 0 (fun _ => true) true m 3 (([c0, c1, c2, c3, c4, c5, c6].drop 1).take (Tryz.prog.cellsOf 3)) = xs[1]? := hg 1 _ rfl
    rw [(by kernel_rfl : Tryz.prog.cellsOf 3 = 1), List.getElem?_eq_getElem (by omega)] at g1
    obtain ⟨z1, p1, r1, o1⟩ := op_int Tryz.underlying3 _ _ _ g1
    have g2 : DataW.trod enc Tryz.prog W 0 (fun _ => true) true m 3 (([c0, c1, c2, c3, c4, c5, c6].drop 2).take (Tryz.prog.cellsOf 3)) = xs[2]? := hg 2 _ rfl
    rw [(by kernel_rfl : Tryz.prog.cellsOf 3 = 1), List.getElem?_eq_getElem (by omega)] at g2
    obtain ⟨z2, p2, r2, o2⟩ := op_int Tryz.underlying3 _ _ _ g2
    have g3 : DataW.trod enc Tryz.prog W 0 (fun _ => true) true m 3 (([c0, c1, c2, c3, c4, c5, c6].drop 3).take (Tryz.prog.cellsOf 3)) = xs[3]? := hg 3 _ rfl
    rw [(by kernel_rfl : Tryz.prog.cellsOf 3 = 1), List.getElem?_eq_getElem (by omega)] at g3
    obtain ⟨z3, p3, r3, o3⟩ := op_int Tryz.underlying3 _ _ _ g3
    have g4 : DataW.trod enc Tryz.prog W 0 (fun _ => true) true m 3 (([c0, c1, c2, c3, c4, c5, c6].drop 4).take (Tryz.prog.cellsOf 3)) = xs[4]? := hg 4 _ rfl
    rw [(by kernel_rfl : Tryz.prog.cellsOf 3 = 1), List.getElem?_eq_getElem (by omega)] at g4
    obtain ⟨z4, p4, r4, o4⟩ := op_int Tryz.underlying3 _ _ _ g4
    have g5 : DataW.trod enc Tryz.prog W 0 (fun _ => true) true m 9 (([c0, c1, c2, c3, c4, c5, c6].drop 5).take (Tryz.prog.cellsOf 9)) = xs[5]? := hg 5 _ rfl
    rw [(by kernel_rfl : Tryz.prog.cellsOf 9 = 1), List.getElem?_eq_getElem (by omega)] at g5
    obtain ⟨z5, p5, r5, o5⟩ := op_str Tryz.underlying9 _ _ _ g5
    have g6 : DataW.trod enc Tryz.prog W 0 (fun _ => true) true m 65 (([c0, c1, c2, c3, c4, c5, c6].drop 6).take (Tryz.prog.cellsOf 65)) = xs[6]? := hg 6 _ rfl
    rw [(by kernel_rfl : Tryz.prog.cellsOf 65 = 1), List.getElem?_eq_getElem (by omega)] at g6
    obtain ⟨z6, p6, r6, o6⟩ := op_ints _ _ _ g6
    refine ⟨⟨z0, z1, z2, z3, z4, z5, z6⟩, ⟨p0, p1, p2, p3, p4, p5, p6⟩, rfl, fun c hc => ?_, ?_⟩
    · simp only [List.mem_cons, List.not_mem_nil, or_false] at hc
      rcases hc with rfl | rfl | rfl | rfl | rfl | rfl | rfl <;> assumption
    · simp only [portSV, cellsOf, RdL]
      exact ⟨_, _, rfl, r0, _, _, rfl, r1, _, _, rfl, r2, _, _, rfl, r3, _, _, rfl, r4, _, _, rfl, r5, _, _, rfl, r6, rfl⟩
def Link.In (x : Link) : Prop := wI .i64 x.row ∧ wI .i64 x.a ∧ wI .i64 x.b
theorem opN_Link : OpN enc Tryz.prog W 167 linkSV Link.In 3 := fun n cs y h => by
  obtain ⟨xs, m, _, _, hlen, hx, hg⟩ := DataW.trod_struct Tryz.underlying167 h
  have hlen : cs.length = 3 := hlen.trans (by kernel_rfl : Tryz.prog.cellsOf 167 = 3)
  have hx : xs.length = 3 := hx
  match cs, hlen with
  | [c0, c1, c2], _ =>
    have g0 : DataW.trod enc Tryz.prog W 0 (fun _ => true) true m 3 (([c0, c1, c2].drop 0).take (Tryz.prog.cellsOf 3)) = xs[0]? := hg 0 _ rfl
    rw [(by kernel_rfl : Tryz.prog.cellsOf 3 = 1), List.getElem?_eq_getElem (by omega)] at g0
    obtain ⟨z0, p0, r0, o0⟩ := op_int Tryz.underlying3 _ _ _ g0
    have g1 : DataW.trod enc Tryz.prog W 0 (fun _ => true) true m 3 (([c0, c1, c2].drop 1).take (Tryz.prog.cellsOf 3)) = xs[1]? := hg 1 _ rfl
    rw [(by kernel_rfl : Tryz.prog.cellsOf 3 = 1), List.getElem?_eq_getElem (by omega)] at g1
    obtain ⟨z1, p1, r1, o1⟩ := op_int Tryz.underlying3 _ _ _ g1
    have g2 : DataW.trod enc Tryz.prog W 0 (fun _ => true) true m 3 (([c0, c1, c2].drop 2).take (Tryz.prog.cellsOf 3)) = xs[2]? := hg 2 _ rfl
    rw [(by kernel_rfl : Tryz.prog.cellsOf 3 = 1), List.getElem?_eq_getElem (by omega)] at g2
    obtain ⟨z2, p2, r2, o2⟩ := op_int Tryz.underlying3 _ _ _ g2
    refine ⟨⟨z0, z1, z2⟩, ⟨p0, p1, p2⟩, rfl, fun c hc => ?_, ?_⟩
    · simp only [List.mem_cons, List.not_mem_nil, or_false] at hc
      rcases hc with rfl | rfl | rfl <;> assumption
    · simp only [linkSV, cellsOf, RdL]
      exact ⟨_, _, rfl, r0, _, _, rfl, r1, _, _, rfl, r2, rfl⟩
def Domain.In (x : Domain) : Prop := wI .i64 x.dev ∧ wI .i64 x.vlan ∧ wI .i64 x.vni ∧ wI .i64 x.irb ∧ wI .i64 x.row ∧ ((∀ z ∈ x.peers, wI .i64 z) ∧ x.peers.length ≤ maxLen)
theorem opN_Domain : OpN enc Tryz.prog W 83 domainSV Domain.In 6 := fun n cs y h => by
  obtain ⟨xs, m, _, _, hlen, hx, hg⟩ := DataW.trod_struct Tryz.underlying83 h
  have hlen : cs.length = 6 := hlen.trans (by kernel_rfl : Tryz.prog.cellsOf 83 = 6)
  have hx : xs.length = 6 := hx
  match cs, hlen with
  | [c0, c1, c2, c3, c4, c5], _ =>
    have g0 : DataW.trod enc Tryz.prog W 0 (fun _ => true) true m 3 (([c0, c1, c2, c3, c4, c5].drop 0).take (Tryz.prog.cellsOf 3)) = xs[0]? := hg 0 _ rfl
    rw [(by kernel_rfl : Tryz.prog.cellsOf 3 = 1), List.getElem?_eq_getElem (by omega)] at g0
    obtain ⟨z0, p0, r0, o0⟩ := op_int Tryz.underlying3 _ _ _ g0
    have g1 : DataW.trod enc Tryz.prog W 0 (fun _ => true) true m 3 (([c0, c1, c2, c3, c4, c5].drop 1).take (Tryz.prog.cellsOf 3)) = xs[1]? := hg 1 _ rfl
    rw [(by kernel_rfl : Tryz.prog.cellsOf 3 = 1), List.getElem?_eq_getElem (by omega)] at g1
    obtain ⟨z1, p1, r1, o1⟩ := op_int Tryz.underlying3 _ _ _ g1
    have g2 : DataW.trod enc Tryz.prog W 0 (fun _ => true) true m 3 (([c0, c1, c2, c3, c4, c5].drop 2).take (Tryz.prog.cellsOf 3)) = xs[2]? := hg 2 _ rfl
    rw [(by kernel_rfl : Tryz.prog.cellsOf 3 = 1), List.getElem?_eq_getElem (by omega)] at g2
    obtain ⟨z2, p2, r2, o2⟩ := op_int Tryz.underlying3 _ _ _ g2
    have g3 : DataW.trod enc Tryz.prog W 0 (fun _ => true) true m 3 (([c0, c1, c2, c3, c4, c5].drop 3).take (Tryz.prog.cellsOf 3)) = xs[3]? := hg 3 _ rfl
    rw [(by kernel_rfl : Tryz.prog.cellsOf 3 = 1), List.getElem?_eq_getElem (by omega)] at g3
    obtain ⟨z3, p3, r3, o3⟩ := op_int Tryz.underlying3 _ _ _ g3
    have g4 : DataW.trod enc Tryz.prog W 0 (fun _ => true) true m 3 (([c0, c1, c2, c3, c4, c5].drop 4).take (Tryz.prog.cellsOf 3)) = xs[4]? := hg 4 _ rfl
    rw [(by kernel_rfl : Tryz.prog.cellsOf 3 = 1), List.getElem?_eq_getElem (by omega)] at g4
    obtain ⟨z4, p4, r4, o4⟩ := op_int Tryz.underlying3 _ _ _ g4
    have g5 : DataW.trod enc Tryz.prog W 0 (fun _ => true) true m 65 (([c0, c1, c2, c3, c4, c5].drop 5).take (Tryz.prog.cellsOf 65)) = xs[5]? := hg 5 _ rfl
    rw [(by kernel_rfl : Tryz.prog.cellsOf 65 = 1), List.getElem?_eq_getElem (by omega)] at g5
    obtain ⟨z5, p5, r5, o5⟩ := op_ints _ _ _ g5
    refine ⟨⟨z0, z1, z2, z3, z4, z5⟩, ⟨p0, p1, p2, p3, p4, p5⟩, rfl, fun c hc => ?_, ?_⟩
    · simp only [List.mem_cons, List.not_mem_nil, or_false] at hc
      rcases hc with rfl | rfl | rfl | rfl | rfl | rfl <;> assumption
    · simp only [domainSV, cellsOf, RdL]
      exact ⟨_, _, rfl, r0, _, _, rfl, r1, _, _, rfl, r2, _, _, rfl, r3, _, _, rfl, r4, _, _, rfl, r5, rfl⟩
def Static.In (x : Static) : Prop := wI .i64 x.row ∧ wI .i64 x.domain ∧ wI .i64 x.port ∧ wI .u64 x.mac
theorem opN_Static : OpN enc Tryz.prog W 196 staticSV Static.In 4 := fun n cs y h => by
  obtain ⟨xs, m, _, _, hlen, hx, hg⟩ := DataW.trod_struct Tryz.underlying196 h
  have hlen : cs.length = 4 := hlen.trans (by kernel_rfl : Tryz.prog.cellsOf 196 = 4)
  have hx : xs.length = 4 := hx
  match cs, hlen with
  | [c0, c1, c2, c3], _ =>
    have g0 : DataW.trod enc Tryz.prog W 0 (fun _ => true) true m 3 (([c0, c1, c2, c3].drop 0).take (Tryz.prog.cellsOf 3)) = xs[0]? := hg 0 _ rfl
    rw [(by kernel_rfl : Tryz.prog.cellsOf 3 = 1), List.getElem?_eq_getElem (by omega)] at g0
    obtain ⟨z0, p0, r0, o0⟩ := op_int Tryz.underlying3 _ _ _ g0
    have g1 : DataW.trod enc Tryz.prog W 0 (fun _ => true) true m 3 (([c0, c1, c2, c3].drop 1).take (Tryz.prog.cellsOf 3)) = xs[1]? := hg 1 _ rfl
    rw [(by kernel_rfl : Tryz.prog.cellsOf 3 = 1), List.getElem?_eq_getElem (by omega)] at g1
    obtain ⟨z1, p1, r1, o1⟩ := op_int Tryz.underlying3 _ _ _ g1
    have g2 : DataW.trod enc Tryz.prog W 0 (fun _ => true) true m 3 (([c0, c1, c2, c3].drop 2).take (Tryz.prog.cellsOf 3)) = xs[2]? := hg 2 _ rfl
    rw [(by kernel_rfl : Tryz.prog.cellsOf 3 = 1), List.getElem?_eq_getElem (by omega)] at g2
    obtain ⟨z2, p2, r2, o2⟩ := op_int Tryz.underlying3 _ _ _ g2
    have g3 : DataW.trod enc Tryz.prog W 0 (fun _ => true) true m 89 (([c0, c1, c2, c3].drop 3).take (Tryz.prog.cellsOf 89)) = xs[3]? := hg 3 _ rfl
    rw [(by kernel_rfl : Tryz.prog.cellsOf 89 = 1), List.getElem?_eq_getElem (by omega)] at g3
    obtain ⟨z3, p3, r3, o3⟩ := op_int Tryz.underlying89 _ _ _ g3
    refine ⟨⟨z0, z1, z2, z3⟩, ⟨p0, p1, p2, p3⟩, rfl, fun c hc => ?_, ?_⟩
    · simp only [List.mem_cons, List.not_mem_nil, or_false] at hc
      rcases hc with rfl | rfl | rfl | rfl <;> assumption
    · simp only [staticSV, cellsOf, RdL]
      exact ⟨_, _, rfl, r0, _, _, rfl, r1, _, _, rfl, r2, _, _, rfl, r3, rfl⟩
def Flood.In (x : Flood) : Prop := wI .i64 x.row ∧ wI .i64 x.dev ∧ wI .i64 x.vni ∧ ((∀ z ∈ x.addrs, wI .u32 z) ∧ x.addrs.length ≤ maxLen)
theorem opN_Flood : OpN enc Tryz.prog W 86 floodSV Flood.In 4 := fun n cs y h => by
  obtain ⟨xs, m, _, _, hlen, hx, hg⟩ := DataW.trod_struct Tryz.underlying86 h
  have hlen : cs.length = 4 := hlen.trans (by kernel_rfl : Tryz.prog.cellsOf 86 = 4)
  have hx : xs.length = 4 := hx
  match cs, hlen with
  | [c0, c1, c2, c3], _ =>
    have g0 : DataW.trod enc Tryz.prog W 0 (fun _ => true) true m 3 (([c0, c1, c2, c3].drop 0).take (Tryz.prog.cellsOf 3)) = xs[0]? := hg 0 _ rfl
    rw [(by kernel_rfl : Tryz.prog.cellsOf 3 = 1), List.getElem?_eq_getElem (by omega)] at g0
    obtain ⟨z0, p0, r0, o0⟩ := op_int Tryz.underlying3 _ _ _ g0
    have g1 : DataW.trod enc Tryz.prog W 0 (fun _ => true) true m 3 (([c0, c1, c2, c3].drop 1).take (Tryz.prog.cellsOf 3)) = xs[1]? := hg 1 _ rfl
    rw [(by kernel_rfl : Tryz.prog.cellsOf 3 = 1), List.getElem?_eq_getElem (by omega)] at g1
    obtain ⟨z1, p1, r1, o1⟩ := op_int Tryz.underlying3 _ _ _ g1
    have g2 : DataW.trod enc Tryz.prog W 0 (fun _ => true) true m 3 (([c0, c1, c2, c3].drop 2).take (Tryz.prog.cellsOf 3)) = xs[2]? := hg 2 _ rfl
    rw [(by kernel_rfl : Tryz.prog.cellsOf 3 = 1), List.getElem?_eq_getElem (by omega)] at g2
    obtain ⟨z2, p2, r2, o2⟩ := op_int Tryz.underlying3 _ _ _ g2
    have g3 : DataW.trod enc Tryz.prog W 0 (fun _ => true) true m 84 (([c0, c1, c2, c3].drop 3).take (Tryz.prog.cellsOf 84)) = xs[3]? := hg 3 _ rfl
    rw [(by kernel_rfl : Tryz.prog.cellsOf 84 = 1), List.getElem?_eq_getElem (by omega)] at g3
    obtain ⟨z3, p3, r3, o3⟩ := op_u32s _ _ _ g3
    refine ⟨⟨z0, z1, z2, z3⟩, ⟨p0, p1, p2, p3⟩, rfl, fun c hc => ?_, ?_⟩
    · simp only [List.mem_cons, List.not_mem_nil, or_false] at hc
      rcases hc with rfl | rfl | rfl | rfl <;> assumption
    · simp only [floodSV, cellsOf, RdL]
      exact ⟨_, _, rfl, r0, _, _, rfl, r1, _, _, rfl, r2, _, _, rfl, r3, rfl⟩
def Vrf.In (x : Vrf) : Prop := wI .i64 x.row ∧ wI .i64 x.dev ∧ x.name.size ≤ maxLen ∧ ((∀ z ∈ x.imports, wI .i64 z) ∧ x.imports.length ≤ maxLen) ∧ ((∀ z ∈ x.exports, wI .i64 z) ∧ x.exports.length ≤ maxLen)
theorem opN_Vrf : OpN enc Tryz.prog W 88 vrfSV Vrf.In 5 := fun n cs y h => by
  obtain ⟨xs, m, _, _, hlen, hx, hg⟩ := DataW.trod_struct Tryz.underlying88 h
  have hlen : cs.length = 5 := hlen.trans (by kernel_rfl : Tryz.prog.cellsOf 88 = 5)
  have hx : xs.length = 5 := hx
  match cs, hlen with
  | [c0, c1, c2, c3, c4], _ =>
    have g0 : DataW.trod enc Tryz.prog W 0 (fun _ => true) true m 3 (([c0, c1, c2, c3, c4].drop 0).take (Tryz.prog.cellsOf 3)) = xs[0]? := hg 0 _ rfl
    rw [(by kernel_rfl : Tryz.prog.cellsOf 3 = 1), List.getElem?_eq_getElem (by omega)] at g0
    obtain ⟨z0, p0, r0, o0⟩ := op_int Tryz.underlying3 _ _ _ g0
    have g1 : DataW.trod enc Tryz.prog W 0 (fun _ => true) true m 3 (([c0, c1, c2, c3, c4].drop 1).take (Tryz.prog.cellsOf 3)) = xs[1]? := hg 1 _ rfl
    rw [(by kernel_rfl : Tryz.prog.cellsOf 3 = 1), List.getElem?_eq_getElem (by omega)] at g1
    obtain ⟨z1, p1, r1, o1⟩ := op_int Tryz.underlying3 _ _ _ g1
    have g2 : DataW.trod enc Tryz.prog W 0 (fun _ => true) true m 9 (([c0, c1, c2, c3, c4].drop 2).take (Tryz.prog.cellsOf 9)) = xs[2]? := hg 2 _ rfl
    rw [(by kernel_rfl : Tryz.prog.cellsOf 9 = 1), List.getElem?_eq_getElem (by omega)] at g2
    obtain ⟨z2, p2, r2, o2⟩ := op_str Tryz.underlying9 _ _ _ g2
    have g3 : DataW.trod enc Tryz.prog W 0 (fun _ => true) true m 65 (([c0, c1, c2, c3, c4].drop 3).take (Tryz.prog.cellsOf 65)) = xs[3]? := hg 3 _ rfl
    rw [(by kernel_rfl : Tryz.prog.cellsOf 65 = 1), List.getElem?_eq_getElem (by omega)] at g3
    obtain ⟨z3, p3, r3, o3⟩ := op_ints _ _ _ g3
    have g4 : DataW.trod enc Tryz.prog W 0 (fun _ => true) true m 65 (([c0, c1, c2, c3, c4].drop 4).take (Tryz.prog.cellsOf 65)) = xs[4]? := hg 4 _ rfl
    rw [(by kernel_rfl : Tryz.prog.cellsOf 65 = 1), List.getElem?_eq_getElem (by omega)] at g4
    obtain ⟨z4, p4, r4, o4⟩ := op_ints _ _ _ g4
    refine ⟨⟨z0, z1, z2, z3, z4⟩, ⟨p0, p1, p2, p3, p4⟩, rfl, fun c hc => ?_, ?_⟩
    · simp only [List.mem_cons, List.not_mem_nil, or_false] at hc
      rcases hc with rfl | rfl | rfl | rfl | rfl <;> assumption
    · simp only [vrfSV, cellsOf, RdL]
      exact ⟨_, _, rfl, r0, _, _, rfl, r1, _, _, rfl, r2, _, _, rfl, r3, _, _, rfl, r4, rfl⟩
def Irb.In (x : Irb) : Prop := wI .i64 x.row ∧ wI .i64 x.domain ∧ wI .i64 x.vrf ∧ wI .u32 x.addr ∧ wI .i64 x.bits
theorem opN_Irb : OpN enc Tryz.prog W 203 irbSV Irb.In 5 := fun n cs y h => by
  obtain ⟨xs, m, _, _, hlen, hx, hg⟩ := DataW.trod_struct Tryz.underlying203 h
  have hlen : cs.length = 5 := hlen.trans (by kernel_rfl : Tryz.prog.cellsOf 203 = 5)
  have hx : xs.length = 4 := hx
  match cs, hlen with
  | [c0, c1, c2, c3, c4], _ =>
    have g0 : DataW.trod enc Tryz.prog W 0 (fun _ => true) true m 3 (([c0, c1, c2, c3, c4].drop 0).take (Tryz.prog.cellsOf 3)) = xs[0]? := hg 0 _ rfl
    rw [(by kernel_rfl : Tryz.prog.cellsOf 3 = 1), List.getElem?_eq_getElem (by omega)] at g0
    obtain ⟨z0, p0, r0, o0⟩ := op_int Tryz.underlying3 _ _ _ g0
    have g1 : DataW.trod enc Tryz.prog W 0 (fun _ => true) true m 3 (([c0, c1, c2, c3, c4].drop 1).take (Tryz.prog.cellsOf 3)) = xs[1]? := hg 1 _ rfl
    rw [(by kernel_rfl : Tryz.prog.cellsOf 3 = 1), List.getElem?_eq_getElem (by omega)] at g1
    obtain ⟨z1, p1, r1, o1⟩ := op_int Tryz.underlying3 _ _ _ g1
    have g2 : DataW.trod enc Tryz.prog W 0 (fun _ => true) true m 3 (([c0, c1, c2, c3, c4].drop 2).take (Tryz.prog.cellsOf 3)) = xs[2]? := hg 2 _ rfl
    rw [(by kernel_rfl : Tryz.prog.cellsOf 3 = 1), List.getElem?_eq_getElem (by omega)] at g2
    obtain ⟨z2, p2, r2, o2⟩ := op_int Tryz.underlying3 _ _ _ g2
    have g3 : DataW.trod enc Tryz.prog W 0 (fun _ => true) true m 201 (([c0, c1, c2, c3, c4].drop 3).take (Tryz.prog.cellsOf 201)) = xs[3]? := hg 3 _ rfl
    rw [(by kernel_rfl : Tryz.prog.cellsOf 201 = 2), List.getElem?_eq_getElem (by omega)] at g3
    obtain ⟨ys, m', _, _, _, hy, hg'⟩ := DataW.trod_struct Tryz.underlying201 g3
    have hy : ys.length = 2 := hy
    have q0 : DataW.trod enc Tryz.prog W 0 (fun _ => true) true m' 90 (([c3, c4].drop 0).take (Tryz.prog.cellsOf 90)) = ys[0]? := hg' 0 _ rfl
    have q1 : DataW.trod enc Tryz.prog W 0 (fun _ => true) true m' 3 (([c3, c4].drop 1).take (Tryz.prog.cellsOf 3)) = ys[1]? := hg' 1 _ rfl
    rw [(by kernel_rfl : Tryz.prog.cellsOf 90 = 1), List.getElem?_eq_getElem (by omega)] at q0
    rw [(by kernel_rfl : Tryz.prog.cellsOf 3 = 1), List.getElem?_eq_getElem (by omega)] at q1
    obtain ⟨z3, p3, r3, o3⟩ := op_int Tryz.underlying90 _ _ _ q0
    obtain ⟨z4, p4, r4, o4⟩ := op_int Tryz.underlying3 _ _ _ q1
    refine ⟨⟨z0, z1, z2, z3, z4⟩, ⟨p0, p1, p2, p3, p4⟩, rfl, fun c hc => ?_, ?_⟩
    · simp only [List.mem_cons, List.not_mem_nil, or_false] at hc
      rcases hc with rfl | rfl | rfl | rfl | rfl <;> assumption
    · simp only [irbSV, cellsOf, RdL]
      exact ⟨_, _, rfl, r0, _, _, rfl, r1, _, _, rfl, r2, _, _, rfl, r3, _, _, rfl, r4, rfl⟩
structure Net.In (n : Net) : Prop where
  devices : (∀ x ∈ n.devices, Device.In x) ∧ n.devices.length ≤ maxLen
  ports : (∀ x ∈ n.ports, Port.In x) ∧ n.ports.length ≤ maxLen
  links : (∀ x ∈ n.links, Link.In x) ∧ n.links.length ≤ maxLen
  domains : (∀ x ∈ n.domains, Domain.In x) ∧ n.domains.length ≤ maxLen
  statics : (∀ x ∈ n.statics, Static.In x) ∧ n.statics.length ≤ maxLen
  floods : (∀ x ∈ n.floods, Flood.In x) ∧ n.floods.length ≤ maxLen
  vrfs : (∀ x ∈ n.vrfs, Vrf.In x) ∧ n.vrfs.length ≤ maxLen
  irbs : (∀ x ∈ n.irbs, Irb.In x) ∧ n.irbs.length ≤ maxLen
theorem opN_Net : OpN enc Tryz.prog W 31 netSV Net.In 8 := fun n cs y h => by
  obtain ⟨xs, m, _, _, hlen, hx, hg⟩ := DataW.trod_struct Tryz.underlying31 h
  have hlen : cs.length = 8 := hlen.trans (by kernel_rfl : Tryz.prog.cellsOf 31 = 8)
  have hx : xs.length = 8 := hx
  match cs, hlen with
  | [c0, c1, c2, c3, c4, c5, c6, c7], _ =>
    have g0 : DataW.trod enc Tryz.prog W 0 (fun _ => true) true m 22 (([c0, c1, c2, c3, c4, c5, c6, c7].drop 0).take (Tryz.prog.cellsOf 22)) = xs[0]? := hg 0 _ rfl
    rw [(by kernel_rfl : Tryz.prog.cellsOf 22 = 1), List.getElem?_eq_getElem (by omega)] at g0
    obtain ⟨z0, p0, r0, o0⟩ := op_slice Tryz.underlying22 (by kernel_rfl : Tryz.prog.cellsOf 92 = 5) (by decide) (fun _ => rfl) (fun _ => rfl) opN_Device _ _ _ g0
    have g1 : DataW.trod enc Tryz.prog W 0 (fun _ => true) true m 23 (([c0, c1, c2, c3, c4, c5, c6, c7].drop 1).take (Tryz.prog.cellsOf 23)) = xs[1]? := hg 1 _ rfl
    rw [(by kernel_rfl : Tryz.prog.cellsOf 23 = 1), List.getElem?_eq_getElem (by omega)] at g1
    obtain ⟨z1, p1, r1, o1⟩ := op_slice Tryz.underlying23 (by kernel_rfl : Tryz.prog.cellsOf 81 = 7) (by decide) (fun _ => rfl) (fun _ => rfl) opN_Port _ _ _ g1
    have g2 : DataW.trod enc Tryz.prog W 0 (fun _ => true) true m 24 (([c0, c1, c2, c3, c4, c5, c6, c7].drop 2).take (Tryz.prog.cellsOf 24)) = xs[2]? := hg 2 _ rfl
    rw [(by kernel_rfl : Tryz.prog.cellsOf 24 = 1), List.getElem?_eq_getElem (by omega)] at g2
    obtain ⟨z2, p2, r2, o2⟩ := op_slice Tryz.underlying24 (by kernel_rfl : Tryz.prog.cellsOf 167 = 3) (by decide) (fun _ => rfl) (fun _ => rfl) opN_Link _ _ _ g2
    have g3 : DataW.trod enc Tryz.prog W 0 (fun _ => true) true m 25 (([c0, c1, c2, c3, c4, c5, c6, c7].drop 3).take (Tryz.prog.cellsOf 25)) = xs[3]? := hg 3 _ rfl
    rw [(by kernel_rfl : Tryz.prog.cellsOf 25 = 1), List.getElem?_eq_getElem (by omega)] at g3
    obtain ⟨z3, p3, r3, o3⟩ := op_slice Tryz.underlying25 (by kernel_rfl : Tryz.prog.cellsOf 83 = 6) (by decide) (fun _ => rfl) (fun _ => rfl) opN_Domain _ _ _ g3
    have g4 : DataW.trod enc Tryz.prog W 0 (fun _ => true) true m 26 (([c0, c1, c2, c3, c4, c5, c6, c7].drop 4).take (Tryz.prog.cellsOf 26)) = xs[4]? := hg 4 _ rfl
    rw [(by kernel_rfl : Tryz.prog.cellsOf 26 = 1), List.getElem?_eq_getElem (by omega)] at g4
    obtain ⟨z4, p4, r4, o4⟩ := op_slice Tryz.underlying26 (by kernel_rfl : Tryz.prog.cellsOf 196 = 4) (by decide) (fun _ => rfl) (fun _ => rfl) opN_Static _ _ _ g4
    have g5 : DataW.trod enc Tryz.prog W 0 (fun _ => true) true m 27 (([c0, c1, c2, c3, c4, c5, c6, c7].drop 5).take (Tryz.prog.cellsOf 27)) = xs[5]? := hg 5 _ rfl
    rw [(by kernel_rfl : Tryz.prog.cellsOf 27 = 1), List.getElem?_eq_getElem (by omega)] at g5
    obtain ⟨z5, p5, r5, o5⟩ := op_slice Tryz.underlying27 (by kernel_rfl : Tryz.prog.cellsOf 86 = 4) (by decide) (fun _ => rfl) (fun _ => rfl) opN_Flood _ _ _ g5
    have g6 : DataW.trod enc Tryz.prog W 0 (fun _ => true) true m 28 (([c0, c1, c2, c3, c4, c5, c6, c7].drop 6).take (Tryz.prog.cellsOf 28)) = xs[6]? := hg 6 _ rfl
    rw [(by kernel_rfl : Tryz.prog.cellsOf 28 = 1), List.getElem?_eq_getElem (by omega)] at g6
    obtain ⟨z6, p6, r6, o6⟩ := op_slice Tryz.underlying28 (by kernel_rfl : Tryz.prog.cellsOf 88 = 5) (by decide) (fun _ => rfl) (fun _ => rfl) opN_Vrf _ _ _ g6
    have g7 : DataW.trod enc Tryz.prog W 0 (fun _ => true) true m 29 (([c0, c1, c2, c3, c4, c5, c6, c7].drop 7).take (Tryz.prog.cellsOf 29)) = xs[7]? := hg 7 _ rfl
    rw [(by kernel_rfl : Tryz.prog.cellsOf 29 = 1), List.getElem?_eq_getElem (by omega)] at g7
    obtain ⟨z7, p7, r7, o7⟩ := op_slice Tryz.underlying29 (by kernel_rfl : Tryz.prog.cellsOf 203 = 5) (by decide) (fun _ => rfl) (fun _ => rfl) opN_Irb _ _ _ g7
    refine ⟨⟨z0, z1, z2, z3, z4, z5, z6, z7⟩, ⟨p0, p1, p2, p3, p4, p5, p6, p7⟩, rfl, fun c hc => ?_, ?_⟩
    · simp only [List.mem_cons, List.not_mem_nil, or_false] at hc
      rcases hc with rfl | rfl | rfl | rfl | rfl | rfl | rfl | rfl <;> assumption
    · simp only [netSV, cellsOf, RdL]
      exact ⟨_, _, rfl, r0, _, _, rfl, r1, _, _, rfl, r2, _, _, rfl, r3, _, _, rfl, r4, _, _, rfl, r5, _, _, rfl, r6, _, _, rfl, r7, rfl⟩
theorem rd_struct {t : TypeId} {fs : Array Field} {α : Type} {e : α → SV} {p : α → Prop} {sz base : Nat} {v : Value} {d : DataW H} {ps : List MemPlace} (ht : Tryz.prog.underlying t = some (.struct fs)) (hO : OpN enc Tryz.prog W t e p sz) (he : ∀ x, e x = .agg (cellsOf (e x)))
    (hval : Value.okWide Tryz.prog W .any base t v) (h1 : DataW.Trod enc Tryz.prog W 0 (fun _ => true) true t v d ps) : ∃ x, p x ∧ Rd κ0 W (e x) v := by
  obtain ⟨cs, rfl, _⟩ := okWide_struct ht hval
  obtain ⟨fuel, hf⟩ := h1
  obtain ⟨x, h1, _, h2, h3⟩ := hO _ _ _ hf
  refine ⟨x, h1, ?_⟩
  rw [he x]
  simp only [Rd]
  exact ⟨cs.toList, by simp, by simpa [Value.cells] using h2, by simpa [Value.cells] using h3⟩
theorem rd_net {base : Nat} {v : Value} {d : DataW H} {ps : List MemPlace} (hval : Value.okWide Tryz.prog W .any base 31 v) (h1 : DataW.Trod enc Tryz.prog W 0 (fun _ => true) true 31 v d ps) : ∃ n : Net, n.In ∧ Rd κ0 W (netSV n) v :=
  rd_struct Tryz.underlying31 opN_Net (fun _ => rfl) hval h1
theorem rd_slice {t et : TypeId} {α : Type} {e : α → SV} {p : List α → Prop} {sz base : Nat} {v : Value} {d : DataW H} {ps : List MemPlace} (ht : Tryz.prog.underlying t = some (.slice et)) (hO : Op1 enc Tryz.prog W t (fun l : List α => .sl sz e l) p)
    (hval : Value.okWide Tryz.prog W .any base t v) (h1 : DataW.Trod enc Tryz.prog W 0 (fun _ => true) true t v d ps) : ∃ l, p l ∧ Rd κ0 W (.sl sz e l) v := by
  obtain ⟨a, len, cap, rfl⟩ := okWide_slice ht hval
  obtain ⟨fuel, hf⟩ := h1
  obtain ⟨x, h1, h2, _⟩ := hO _ _ _ hf
  exact ⟨x, h1, h2⟩
end
end Go.Sy.YtmelpejjondedaaGreat

namespace Go.Sy.YtmelpejjondedaaGreat
open Go.Proofs
attribute [local irreducible] Go.Sy.G Go.Sy.DR
set_option maxRecDepth 100000
set_option maxHeartbeats 4000000
theorem num_of_in {n : Net} (h : n.In) : n.Num := by
  refine ⟨fun x hx => ?_, fun x hx => ?_⟩
  · have := (h.devices.1 x hx).2.2.2.2
    simp only [wI, Lit.wf, decide_eq_true_eq, Bool.and_eq_true] at this
    exact ⟨this.1, Int.lt_of_le_of_lt this.2 (by decide)⟩
  · have := (h.irbs.1 x hx).2.2.2.1
    simp only [wI, Lit.wf, decide_eq_true_eq, Bool.and_eq_true] at this
    exact ⟨this.1, Int.lt_of_le_of_lt this.2 (by decide)⟩
def netW33 : Net := ⟨[⟨0, 0, ⟨#[97]⟩, 0, 0⟩], [⟨0, 0, 10, 1, -1, ⟨#[112]⟩, []⟩, ⟨0, 0, 10, 1, -1, ⟨#[113]⟩, []⟩], [], [⟨0, 10, 0, -1, 0, []⟩], [], [], [], []⟩
theorem finW33 : netW33.Fin := by
  constructor <;> first | (unfold Short; decide) | (intro x hx; unfold Short; simp only [netW33, List.mem_cons, List.not_mem_nil, or_false] at hx; first | (subst hx; decide) | (rcases hx with rfl | rfl <;> decide) | exact hx.elim)
theorem numW33 : netW33.Num := by
  refine ⟨fun x hx => ?_, fun x hx => ?_⟩
  · simp only [netW33, List.mem_cons, List.not_mem_nil, or_false] at hx
    subst hx
    decide
  · cases hx
def frameW33 : FrameM := ⟨281474976710655, 5, 0, []⟩
theorem frameW33_ok : FrameOK frameW33 := by constructor <;> decide
def bytesW33 : List UInt8 := putF frameW33
def stepsW33 : List StepM := [⟨1, 0, 0, 0, bytesW33, []⟩, ⟨2, 0, 0, 0, [], []⟩]
theorem runW33 : runT netW33 stepsW33 = ([⟨1, 1, bytesW33⟩], 0) := by kernel_rfl
theorem scriptW33 : ScriptOK stepsW33 := by
  refine ⟨by decide, fun x hx => ?_⟩
  simp only [stepsW33, List.mem_cons, List.not_mem_nil, or_false] at hx
  rcases hx with rfl | rfl
  · show bytesW33.length ≤ 2000
    decide +kernel
  · decide
theorem works33S : Sy.Spec Tryz.prog 12 [] [] (boolSV true) [] := contract Γ hm 100 F12 Tryz.ntmps12 rfl fun F hF => by
  have q1 := etherPutS frameW33 frameW33_ok
  rw [show putF frameW33 = bytesW33 from rfl] at q1
  have q2 := simRunS netW33 finW33 numW33 stepsW33 scriptW33
  rw [runW33] at q2
  have hst : stepsW33 = [⟨1, 0, 0, 0, bytesW33, []⟩, ⟨2, 0, 0, 0, [], []⟩] := rfl
  rw [hst] at q2
  clear hst
  generalize bytesW33 = bs at *
  have q3 := simDoNilS ⟨0, 0, 0, 0, [], []⟩
  (conv=>whnf)
  refine G_litR 9 deviceSV netW33.devices rfl rfl ?_
  refine G_data 9 rfl ?_
  refine G_litV 12 (netW33.ports.map portSV) rfl (.cons (.agg (.cons (.refl _) (.cons (.refl _) (.cons (.refl _) (.cons (.refl _) (.cons (.refl _) (.cons (.refl _) (.cons .nil .nil)))))))) (.cons (.agg (.cons (.refl _) (.cons (.refl _) (.cons (.refl _) (.cons (.refl _) (.cons (.refl _) (.cons (.refl _) (.cons .nil .nil)))))))) .nil)) rfl ?_
  refine G_litR 12 portSV netW33.ports rfl rfl ?_
  refine G_data 12 rfl ?_
  refine G_litV 14 (netW33.domains.map domainSV) rfl (.cons (.agg (.cons (.refl _) (.cons (.refl _) (.cons (.refl _) (.cons (.refl _) (.cons (.refl _) (.cons .nil .nil))))))) .nil) rfl ?_
  refine G_litR 14 domainSV netW33.domains rfl rfl ?_
  refine G_data 14 rfl ?_
  refine G_boxV 1 (netL netW33) rfl (.cons (.refl _) (.cons (.refl _) (.cons .nil (.cons (.refl _) (.cons .nil (.cons .nil (.cons .nil (.cons .nil .nil)))))))) ?_
  (refine rg ?_;(conv=>whnf))
  refine G_vw 17 (frameSV frameW33) (.agg (.cons (.refl _) (.cons (.refl _) (.cons (.refl _) (.cons .nil .nil))))) ?_
  refine stepOp (good_call [(0, 55)] rfl F33 q1 rfl trivial rfl ⟨.inr rfl, trivial⟩) rfl rfl ?_
  refine G_data 55 rfl ?_
  (refine rg ?_;(conv=>whnf))
  refine G_litV 26 [stepSV ⟨1, 0, 0, 0, bs, []⟩, stepSV ⟨2, 0, 0, 0, [], []⟩] rfl (.cons (.agg (.cons (.refl _) (.cons (.refl _) (.cons (.refl _) (.cons (.refl _) (.cons (.refl _) (.cons .nil .nil))))))) (.cons (.agg (.cons (.refl _) (.cons (.refl _) (.cons (.refl _) (.cons (.refl _) (.cons .nil (.cons .nil .nil))))))) .nil)) rfl ?_
  refine G_litR 26 stepSV [⟨1, 0, 0, 0, bs, []⟩, ⟨2, 0, 0, 0, [], []⟩] rfl rfl ?_
  refine G_data 26 rfl ?_
  refine call0 q2 F13 rfl rfl rfl rfl rfl ?_
  (refine rg ?_;(conv=>whnf))
  refine G_vw 31 (stepSV ⟨0, 0, 0, 0, [], []⟩) (.agg (.cons (.refl _) (.cons (.refl _) (.cons (.refl _) (.cons (.refl _) (.cons .nil (.cons .nil .nil))))))) ?_
  refine call0 q3 F21 rfl rfl rfl rfl rfl ?_
  (refine rg ?_;(conv=>whnf);refine aT ?_;refine rd (by kernel_rfl) ?_;(conv=>whnf);refine aT ?_;refine rd (by kernel_rfl) ?_;(conv=>whnf))
  refine ⟨rfl, by decide, Nat.zero_lt_one, ?_⟩
  ((conv=>whnf);refine aT ?_;refine rd (by kernel_rfl) ?_;(conv=>whnf))
  refine ⟨rfl, by decide, Nat.zero_lt_one, ?_⟩
  ((conv=>whnf);refine aT ?_;refine rd (by kernel_rfl) ?_;(conv=>whnf))
  refine ⟨rfl, by decide, Nat.zero_lt_one, ?_⟩
  (conv=>whnf)
  refine stepD (good_stringT Γ.toTy (bs := bs) rfl rfl rfl rfl rfl rfl rfl .sl) (by kernel_rfl) rfl ?_
  (refine rd (by kernel_rfl) ?_;(conv=>whnf))
  refine stepD (good_stringT Γ.toTy (bs := bs) rfl rfl rfl rfl rfl rfl rfl .sl) (by kernel_rfl) rfl ?_
  (refine rd (by kernel_rfl) ?_;(conv=>whnf))
  refine ⟨fun _ => ?_, fun h => False.elim (by simp [bytesB_refl] at h)⟩
  (refine rd (by kernel_rfl) ?_;(conv=>whnf))
  refine ⟨(by kernel_rfl), ?_⟩
  (conv=>whnf)
  exact done0 rfl (.cons .tmp .nil) rfl rfl
end Go.Sy.YtmelpejjondedaaGreat

namespace Go.Sy.YtmelpejjondedaaGreat
open Go.Proofs Go.ChangeAt
attribute [local irreducible] Go.Sy.G Go.Sy.DR
set_option maxRecDepth 100000
set_option maxHeartbeats 4000000
theorem runT_take {n : Net} {l : List StepM} (k : Nat) (hok : okB n (upsT n) = true) : ∃ r, (runT n l).1 = (runT n (l.take k)).1 ++ r := by
  unfold runT
  rw [if_pos hok, if_pos hok]
  dsimp only
  have h := runL_append n (l.take k) (l.drop k) (newT n)
  rw [List.take_append_drop] at h
  rw [h]
  exact ⟨_, rfl⟩
theorem u8_in {z : Int} (h : (Lit.int .u8 z).wf = true) : 0 ≤ z ∧ z ≤ 255 := by
  simp only [Lit.wf, Bool.and_eq_true, decide_eq_true_eq] at h
  have a := h.1
  have b := h.2
  simp only [IntKind.min, IntKind.max, IntKind.signed, IntKind.bits] at a b
  constructor <;> simp at a b <;> omega
theorem simBeginsS (n : Net) (hin : n.In) (l : List StepM) (at_ : Int) (ha : 0 ≤ at_ ∧ at_ ≤ 255) : Sy.Spec Tryz.prog 4 [netSV n, .sl 6 stepSV l, .val (.int .u8 at_)] [] (boolSV true) [] := contract Γ hm 100 F4 Tryz.ntmps4 rfl fun F hF => by
  have hm1 := num_of_in hin
  (conv=>whnf)
  refine call0 works33S F12 rfl rfl rfl rfl rfl ?_
  (refine rg ?_;(conv=>whnf);refine aF ?_;refine rg ?_;(conv=>whnf))
  (skip)
  refine call0 (greatS n) F10 rfl rfl rfl rfl rfl ?_
  (refine rg ?_;(conv=>whnf))
  refine ⟨fun hg => ?_, fun hg => ?_⟩
  · (refine rg ?_;(conv=>whnf);refine aT ?_;refine rg ?_;(conv=>whnf))
    (skip)
    exact done0 rfl (.cons .tmp .nil) rfl rfl
  have hn := fin_of_great hg
  (refine rg ?_;(conv=>whnf))
  refine call0 (great33S l) F11 rfl rfl rfl rfl rfl ?_
  (refine rg ?_;(conv=>whnf))
  refine ⟨fun hg => ?_, fun hg => ?_⟩
  · (refine rg ?_;(conv=>whnf))
    exact done0 rfl (.cons .tmp .nil) rfl rfl
  have hf := great33_facts hg
  (refine rg ?_;(conv=>whnf))
  have hwr : IntKind.i64.wrap at_ = at_ := by rw [IntKind.wrap_i64]; omega
  obtain ⟨k, hk⟩ : ∃ k : Nat, (if (l.length : Int) < at_ then (l.length : Int) else at_) = (k : Int) := by
    split
    · exact ⟨l.length, rfl⟩
    · exact ⟨at_.toNat, by omega⟩
  have hkl : k ≤ l.length := by split at hk <;> omega
  refine stepOp (good_minE hk rfl (congrArg (fun z => SV.val (.int .i64 z)) hwr) rfl) rfl rfl ?_
  (refine rg ?_;(conv=>whnf))
  have htk : (l.take l.length).take k = l.take k := by rw [List.take_length]
  refine stepD (good_slice_sl (lo := 0) (hi := k) Γ.toTy rfl rfl rfl rfl (.inl ⟨rfl, rfl⟩) (.inr ⟨_, _, rfl, rfl⟩) (by omega) (by omega)) (by kernel_rfl) rfl ?_
  (refine rd (by kernel_rfl) ?_;(conv=>whnf))
  have hsc : ScriptOK l := ⟨hf.1, fun x hx => (hf.2 x hx).1⟩
  have hsk : ScriptOK (l.take k) := ⟨by rw [List.length_take]; have := hf.1; omega, fun x hx => (hf.2 x (List.mem_of_mem_take hx)).1⟩
  have q1 := simRunS n hn hm1 (l.take k) hsk
  have q2 := simRunS n hn hm1 l hsc
  have r1 := runT.eq_1 n (l.take k)
  have r2 := runT.eq_1 n l
  have hap := runT_take (n := n) (l := l) k
  have hfw := runL_few hn l (newT n)
  have hll := hf.1
  generalize runT n (l.take k) = w1 at *
  generalize runT n l = w2 at *
  refine callD0 q1 F13 rfl rfl rfl (by kernel_rfl) rfl ?_
  (refine rd (by kernel_rfl) ?_;(conv=>whnf))
  refine ⟨(by kernel_rfl), ?_⟩
  (conv=>whnf)
  refine call0 q2 F13 rfl rfl rfl rfl rfl ?_
  cases hok : okB n (upsT n)
  · rw [if_neg (by rw [hok]; simp)] at r1 r2
    subst r1
    subst r2
    (refine rg ?_;(conv=>whnf);refine aF ?_;refine rg ?_;(conv=>whnf);refine aT ?_;refine rg ?_;(conv=>whnf);refine aT ?_;refine rg ?_;(conv=>whnf))
    (skip)
    refine ⟨(show I64 (0 + 0) by unfold I64; decide), ?_⟩
    (conv=>whnf)
    exact done0 rfl (.cons .tmp .nil) rfl rfl
  obtain ⟨r, hr⟩ := hap hok
  rw [if_pos hok] at r1 r2
  have e1 : w1.2 = 0 := by rw [r1]
  have e2 : w2.2 = 0 := by rw [r2]
  have hw2 : w2.1.length ≤ l.length * 4294967296 := by rw [r2]; exact hfw
  clear r1 r2 hfw hap
  obtain ⟨a, ea⟩ := w1
  obtain ⟨b, eb⟩ := w2
  dsimp only at hr e1 e2 hw2
  subst hr
  subst e1
  subst e2
  rw [List.length_append] at hw2
  have hta : ((a ++ r).take a.length).drop 0 = a := by rw [List.take_left', List.drop_zero]; rfl
  (refine rg ?_;(conv=>whnf);refine aF ?_;refine rg ?_;(conv=>whnf);refine aF ?_;refine rg ?_;(conv=>whnf))
  (refine ⟨fun _ => ?_, fun h => False.elim (by simp at h; omega)⟩;refine rg ?_;(conv=>whnf))
  refine stepOp (good_slice_sl (lo := 0) (hi := a.length) Γ.toTy rfl rfl rfl rfl (.inl ⟨rfl, rfl⟩) (.inr ⟨_, _, rfl, rfl⟩) (Nat.zero_le _) (by show a.length ≤ (a ++ r).length; rw [List.length_append]; omega)) rfl rfl ?_
  (refine rg ?_;(conv=>whnf))
  refine call0 (simSameS a (by omega)) F17 rfl (congrArg (fun z => [SV.sl 3 seenSV a, SV.sl 3 seenSV z]) hta.symm) rfl rfl rfl ?_
  (refine rg ?_;(conv=>whnf))
  exact done0 rfl (.cons .tmp .nil) rfl rfl
end Go.Sy.YtmelpejjondedaaGreat

namespace Go.Sy.YtmelpejjondedaaGreat
open Go.Proofs Go.ChangeShapes Go.WideShapes Go.ChangeAt Go.RowKit
set_option maxRecDepth 100000
section
variable {H : Type} {enc : TypeId × Value → H} {W : World}
theorem opN_byte {P : Program} {t : TypeId} (ht : P.underlying t = some (.int .u8)) : OpN enc P W t byteSV (fun _ => True) 1 := fun n cs y h => by
  obtain ⟨z, h1, h2, h3, h4⟩ := opN_int ht n cs y h
  have hz : 0 ≤ z ∧ z < 256 := by
    simp only [Lit.wf, Bool.and_eq_true, decide_eq_true_eq] at h1
    have a := h1.1
    have b := h1.2
    simp only [IntKind.min, IntKind.max, IntKind.signed, IntKind.bits] at a b
    constructor <;> simp at a b <;> omega
  refine ⟨UInt8.ofNat z.toNat, trivial, h2, h3, ?_⟩
  have e : byteSV (UInt8.ofNat z.toNat) = .val (.int .u8 z) := by
    rw [byteSV, UInt8.toNat_ofNat_of_lt' (by show _ < 256; omega), Int.toNat_of_nonneg hz.1]
  rw [e]; exact h4
theorem op_bytes : Op1 enc Tryz.prog W 44 (fun l : List UInt8 => .sl 1 byteSV l) (fun l => (∀ x ∈ l, True) ∧ l.length ≤ maxLen) :=
  op_slice Tryz.underlying44 (by kernel_rfl : Tryz.prog.cellsOf 5 = 1) (by decide) (fun _ => rfl) (fun _ => rfl) (opN_byte Tryz.underlying5)
theorem op_bools : Op1 enc Tryz.prog W 45 (fun l : List Bool => .sl 1 boolSV l) (fun l => (∀ x ∈ l, True) ∧ l.length ≤ maxLen) :=
  op_slice Tryz.underlying45 (by kernel_rfl : Tryz.prog.cellsOf 4 = 1) (by decide) (fun _ => rfl) (fun _ => rfl) (opN_bool Tryz.underlying4)
def StepM.In (x : StepM) : Prop := wI .i64 x.kind ∧ wI .i64 x.port ∧ wI .i64 x.domain ∧ wI .i64 x.at_ ∧ ((∀ y ∈ x.bytes, True) ∧ x.bytes.length ≤ maxLen) ∧ ((∀ y ∈ x.up, True) ∧ x.up.length ≤ maxLen)
theorem opN_StepM : OpN enc Tryz.prog W 47 stepSV StepM.In 6 := fun n cs y h => by
  obtain ⟨xs, m, _, _, hlen, hx, hg⟩ := DataW.trod_struct Tryz.underlying47 h
  have hlen : cs.length = 6 := hlen.trans (by kernel_rfl : Tryz.prog.cellsOf 47 = 6)
  have hx : xs.length = 6 := hx
  match cs, hlen with
  | [c0, c1, c2, c3, c4, c5], _ =>
    have g0 : DataW.trod enc Tryz.prog W 0 (fun _ => true) true m 3 (([c0, c1, c2, c3, c4, c5].drop 0).take (Tryz.prog.cellsOf 3)) = xs[0]? := hg 0 _ rfl
    rw [(by kernel_rfl : Tryz.prog.cellsOf 3 = 1), List.getElem?_eq_getElem (by omega)] at g0
    obtain ⟨z0, p0, r0, o0⟩ := op_int Tryz.underlying3 _ _ _ g0
    have g1 : DataW.trod enc Tryz.prog W 0 (fun _ => true) true m 3 (([c0, c1, c2, c3, c4, c5].drop 1).take (Tryz.prog.cellsOf 3)) = xs[1]? := hg 1 _ rfl
    rw [(by kernel_rfl : Tryz.prog.cellsOf 3 = 1), List.getElem?_eq_getElem (by omega)] at g1
    obtain ⟨z1, p1, r1, o1⟩ := op_int Tryz.underlying3 _ _ _ g1
    have g2 : DataW.trod enc Tryz.prog W 0 (fun _ => true) true m 3 (([c0, c1, c2, c3, c4, c5].drop 2).take (Tryz.prog.cellsOf 3)) = xs[2]? := hg 2 _ rfl
    rw [(by kernel_rfl : Tryz.prog.cellsOf 3 = 1), List.getElem?_eq_getElem (by omega)] at g2
    obtain ⟨z2, p2, r2, o2⟩ := op_int Tryz.underlying3 _ _ _ g2
    have g3 : DataW.trod enc Tryz.prog W 0 (fun _ => true) true m 3 (([c0, c1, c2, c3, c4, c5].drop 3).take (Tryz.prog.cellsOf 3)) = xs[3]? := hg 3 _ rfl
    rw [(by kernel_rfl : Tryz.prog.cellsOf 3 = 1), List.getElem?_eq_getElem (by omega)] at g3
    obtain ⟨z3, p3, r3, o3⟩ := op_int Tryz.underlying3 _ _ _ g3
    have g4 : DataW.trod enc Tryz.prog W 0 (fun _ => true) true m 44 (([c0, c1, c2, c3, c4, c5].drop 4).take (Tryz.prog.cellsOf 44)) = xs[4]? := hg 4 _ rfl
    rw [(by kernel_rfl : Tryz.prog.cellsOf 44 = 1), List.getElem?_eq_getElem (by omega)] at g4
    obtain ⟨z4, p4, r4, o4⟩ := op_bytes _ _ _ g4
    have g5 : DataW.trod enc Tryz.prog W 0 (fun _ => true) true m 45 (([c0, c1, c2, c3, c4, c5].drop 5).take (Tryz.prog.cellsOf 45)) = xs[5]? := hg 5 _ rfl
    rw [(by kernel_rfl : Tryz.prog.cellsOf 45 = 1), List.getElem?_eq_getElem (by omega)] at g5
    obtain ⟨z5, p5, r5, o5⟩ := op_bools _ _ _ g5
    refine ⟨⟨z0, z1, z2, z3, z4, z5⟩, ⟨p0, p1, p2, p3, p4, p5⟩, rfl, fun c hc => ?_, ?_⟩
    · simp only [List.mem_cons, List.not_mem_nil, or_false] at hc
      rcases hc with rfl | rfl | rfl | rfl | rfl | rfl <;> assumption
    · simp only [stepSV, cellsOf, RdL]
      exact ⟨_, _, rfl, r0, _, _, rfl, r1, _, _, rfl, r2, _, _, rfl, r3, _, _, rfl, r4, _, _, rfl, r5, rfl⟩
theorem op_steps : Op1 enc Tryz.prog W 32 (fun l : List StepM => .sl 6 stepSV l) (fun l => (∀ x ∈ l, StepM.In x) ∧ l.length ≤ maxLen) :=
  op_slice Tryz.underlying32 (by kernel_rfl : Tryz.prog.cellsOf 47 = 6) (by decide) (fun _ => rfl) (fun _ => rfl) opN_StepM
def SeenM.In (x : SeenM) : Prop := wI .i64 x.port ∧ wI .i64 x.origin ∧ ((∀ y ∈ x.bytes, True) ∧ x.bytes.length ≤ maxLen)
def EntryM.In (x : EntryM) : Prop := x.mac < 18446744073709551616 ∧ wI .i64 x.where_ ∧ wI .i64 x.seen
end
end Go.Sy.YtmelpejjondedaaGreat

namespace Go.Proofs.YtmelpejjondedaaGreat
open Go.ChangeShapes Go.WideShapes Go.ChangeAt Go.RowKit
set_option maxRecDepth 100000
theorem simBegins_inPlace : Tryz.checked.prog.inPlace 4 = Rows.simBeginsRow.inPlace := by kernel_rfl
theorem simBegins_unfollowed : Tryz.checked.prog.unfollowed 4 = Rows.simBeginsRow.unfollowed := by kernel_rfl
theorem simBegins_recurses : Tryz.checked.prog.recurses 4 = Rows.simBeginsRow.recurses := by kernel_rfl
theorem simBegins_named : Tryz.checked.prog.varsNamed 4 = Rows.simBeginsRow.named := by kernel_rfl
theorem simBegins_lift : Tryz.checked.prog.liftsFinal = Rows.simBeginsRow.lifted := by kernel_rfl
theorem simBegins_laidOut : laidOutB Tryz.checked.prog = true := by kernel_rfl
theorem simBegins_enter : Tryz.checked.prog.mayEnter = true := by kernel_rfl
theorem simBegins_heard : Tryz.checked.prog.stopsHeard = true := by kernel_rfl
theorem simBegins_facts : joinedFacts Tryz.checked.prog 4 Tryz.f4 Rows.simBeginsSpec Rows.simBeginsRow = true := by
  unfold joinedFacts
  rw [simBegins_inPlace, simBegins_unfollowed, simBegins_recurses, simBegins_named, simBegins_lift, simBegins_laidOut, simBegins_enter, simBegins_heard]
  kernel_rfl
end Go.Proofs.YtmelpejjondedaaGreat
