/-
  Nets are opened.
-/
import Derived.Test.YtlfopmhekhifoaaGreatDoorC5
import Derived.Test.YtlfopmhekhifoaaGreatDoorC4

namespace Go.Sy.YtlfopmhekhifoaaGreatDoor
open Go.Proofs Go.ChangeShapes Go.WideShapes Go.ChangeAt Go.RowKit

set_option maxRecDepth 100000

theorem list_n {α : Type} : ∀ (l : List α) (n : Nat), l.length = n → n = l.length := fun _ _ h => h.symm

section
variable {H : Type} {enc : TypeId × Value → H} {W : World}

def wI (k : IntKind) (z : Int) : Prop := (Lit.int k z).wf = true

theorem op_ints : Op1 enc Tryz.prog W 50 (fun l : List Int => .sl 1 (fun z => .val (.int .i64 z)) l) (fun l => (∀ z ∈ l, wI .i64 z) ∧ l.length ≤ maxLen) :=
  op_slice Tryz.underlying50 (by kernel_rfl : Tryz.prog.cellsOf 3 = 1) (by decide) (fun _ => rfl) (fun _ => rfl) (opN_int Tryz.underlying3)

theorem op_u32s : Op1 enc Tryz.prog W 75 (fun l : List Int => .sl 1 (fun z => .val (.int .u32 z)) l) (fun l => (∀ z ∈ l, wI .u32 z) ∧ l.length ≤ maxLen) :=
  op_slice Tryz.underlying75 (by kernel_rfl : Tryz.prog.cellsOf 47 = 1) (by decide) (fun _ => rfl) (fun _ => rfl) (opN_int Tryz.underlying47)

def Device.In (x : Device) : Prop := wI .i64 x.row ∧ wI .i64 x.prio ∧ x.name.size ≤ maxLen ∧ wI .u64 x.mac ∧ wI .u32 x.vtep

theorem opN_Device : OpN enc Tryz.prog W 49 deviceSV Device.In 5 := fun n cs y h => by
  obtain ⟨xs, m, _, _, hlen, hx, hg⟩ := DataW.trod_struct Tryz.underlying49 h
  have hlen : cs.length = 5 := hlen.trans (by kernel_rfl : Tryz.prog.cellsOf 49 = 5)
  have hx : xs.length = 5 := hx
  match cs, hlen with
  | [c0, c1, c2, c3, c4], _ =>
    have g0 : DataW.trod enc Tryz.prog W 0 (fun _ => true) true m 3 (([c0, c1, c2, c3, c4].drop 0).take (Tryz.prog.cellsOf 3)) = xs[0]? := hg 0 _ rfl
    rw [(by kernel_rfl : Tryz.prog.cellsOf 3 = 1), List.getElem?_eq_getElem (by omega)] at g0
    obtain ⟨z0, p0, r0, o0⟩ := op_int Tryz.underlying3 _ _ _ g0
    have g1 : DataW.trod enc Tryz.prog W 0 (fun _ => true) true m 3 (([c0, c1, c2, c3, c4].drop 1).take (Tryz.prog.cellsOf 3)) = xs[1]? := hg 1 _ rfl
    rw [(by kernel_rfl : Tryz.prog.cellsOf 3 = 1), List.getElem?_eq_getElem (by omega)] at g1
    obtain ⟨z1, p1, r1, o1⟩ := op_int Tryz.underlying3 _ _ _ g1
    have g2 : DataW.trod enc Tryz.prog W 0 (fun _ => true) true m 9 (([c0, c1, c2, c3, c4].drop 2).take (Tryz.prog.cellsOf 9)) = xs[2]? := hg 2 _ rfl
    rw [(by kernel_rfl : Tryz.prog.cellsOf 9 = 1), List.getElem?_eq_getElem (by omega)] at g2
    obtain ⟨z2, p2, r2, o2⟩ := op_str Tryz.underlying9 _ _ _ g2
    have g3 : DataW.trod enc Tryz.prog W 0 (fun _ => true) true m 46 (([c0, c1, c2, c3, c4].drop 3).take (Tryz.prog.cellsOf 46)) = xs[3]? := hg 3 _ rfl
    rw [(by kernel_rfl : Tryz.prog.cellsOf 46 = 1), List.getElem?_eq_getElem (by omega)] at g3
    obtain ⟨z3, p3, r3, o3⟩ := op_int Tryz.underlying46 _ _ _ g3
    have g4 : DataW.trod enc Tryz.prog W 0 (fun _ => true) true m 47 (([c0, c1, c2, c3, c4].drop 4).take (Tryz.prog.cellsOf 47)) = xs[4]? := hg 4 _ rfl
    rw [(by kernel_rfl : Tryz.prog.cellsOf 47 = 1), List.getElem?_eq_getElem (by omega)] at g4
    obtain ⟨z4, p4, r4, o4⟩ := op_int Tryz.underlying47 _ _ _ g4
    refine ⟨⟨z0, z1, z2, z3, z4⟩, ⟨p0, p1, p2, p3, p4⟩, rfl, fun c hc => ?_, ?_⟩
    · simp only [List.mem_cons, List.not_mem_nil, or_false] at hc
      rcases hc with rfl | rfl | rfl | rfl | rfl <;> assumption
    · simp only [deviceSV, cellsOf, RdL]
      exact ⟨_, _, rfl, r0, _, _, rfl, r1, _, _, rfl, r2, _, _, rfl, r3, _, _, rfl, r4, rfl⟩

def Port.In (x : Port) : Prop := wI .i64 x.row ∧ wI .i64 x.dev ∧ wI .i64 x.native ∧ wI .i64 x.cost ∧ wI .i64 x.link ∧ x.name.size ≤ maxLen ∧ ((∀ z ∈ x.tagged, wI .i64 z) ∧ x.tagged.length ≤ maxLen)

theorem opN_Port : OpN enc Tryz.prog W 52 portSV Port.In 7 := fun n cs y h => by
  obtain ⟨xs, m, _, _, hlen, hx, hg⟩ := DataW.trod_struct Tryz.underlying52 h
  have hlen : cs.length = 7 := hlen.trans (by kernel_rfl : Tryz.prog.cellsOf 52 = 7)
  have hx : xs.length = 7 := hx
  match cs, hlen with
  | [c0, c1, c2, c3, c4, c5, c6], _ =>
    have g0 : DataW.trod enc Tryz.prog W 0 (fun _ => true) true m 3 (([c0, c1, c2, c3, c4, c5, c6].drop 0).take (Tryz.prog.cellsOf 3)) = xs[0]? := hg 0 _ rfl
    rw [(by kernel_rfl : Tryz.prog.cellsOf 3 = 1), List.getElem?_eq_getElem (by omega)] at g0
    obtain ⟨z0, p0, r0, o0⟩ := op_int Tryz.underlying3 _ _ _ g0
    have g1 : DataW.trod enc Tryz.prog W 0 (fun _ => true) true m 3 (([c0, c1, c2, c3, c4, c5, c6].drop 1).take (Tryz.prog.cellsOf 3)) = xs[1]? := hg 1 _ rfl
    rw [(by kernel_rfl : Tryz.prog.cellsOf 3 = 1), List.getElem?_eq_getElem (by omega)] at g1
    obtain ⟨z1, p1, r1, o1⟩ := op_int Tryz.underlying3 _ _ _ g1
    have g2 : DataW.trod enc Tryz.prog W 0 (fun _ => true) true m 3 (([c0, c1, c2, c3, c4, c5, c6].drop 2).take (Tryz.prog.cellsOf 3)) = xs[2]? := hg 2 _ rfl
    rw [(by kernel_rfl : Tryz.prog.cellsOf 3 = 1), List.getElem?_eq_getElem (by omega)] at g2
    obtain ⟨z2, p2, r2, o2⟩ := op_int Tryz.underlying3 _ _ _ g2
    have g3 : DataW.trod enc Tryz.prog W 0 (fun _ => true) true m 3 (([c0, c1, c2, c3, c4, c5, c6].drop 3).take (Tryz.prog.cellsOf 3)) = xs[3]? := hg 3 _ rfl
    rw [(by kernel_rfl : Tryz.prog.cellsOf 3 = 1), List.getElem?_eq_getElem (by omega)] at g3
    obtain ⟨z3, p3, r3, o3⟩ := op_int Tryz.underlying3 _ _ _ g3
    have g4 : DataW.trod enc Tryz.prog W 0 (fun _ => true) true m 3 (([c0, c1, c2, c3, c4, c5, c6].drop 4).take (Tryz.prog.cellsOf 3)) = xs[4]? := hg 4 _ rfl
    rw [(by kernel_rfl : Tryz.prog.cellsOf 3 = 1), List.getElem?_eq_getElem (by omega)] at g4
    obtain ⟨z4, p4, r4, o4⟩ := op_int Tryz.underlying3 _ _ _ g4
    have g5 : DataW.trod enc Tryz.prog W 0 (fun _ => true) true m 9 (([c0, c1, c2, c3, c4, c5, c6].drop 5).take (Tryz.prog.cellsOf 9)) = xs[5]? := hg 5 _ rfl
    rw [(by kernel_rfl : Tryz.prog.cellsOf 9 = 1), List.getElem?_eq_getElem (by omega)] at g5
    obtain ⟨z5, p5, r5, o5⟩ := op_str Tryz.underlying9 _ _ _ g5
    have g6 : DataW.trod enc Tryz.prog W 0 (fun _ => true) true m 50 (([c0, c1, c2, c3, c4, c5, c6].drop 6).take (Tryz.prog.cellsOf 50)) = xs[6]? := hg 6 _ rfl
    rw [(by kernel_rfl : Tryz.prog.cellsOf 50 = 1), List.getElem?_eq_getElem (by omega)] at g6
    obtain ⟨z6, p6, r6, o6⟩ := op_ints _ _ _ g6
    refine ⟨⟨z0, z1, z2, z3, z4, z5, z6⟩, ⟨p0, p1, p2, p3, p4, p5, p6⟩, rfl, fun c hc => ?_, ?_⟩
    · simp only [List.mem_cons, List.not_mem_nil, or_false] at hc
      rcases hc with rfl | rfl | rfl | rfl | rfl | rfl | rfl <;> assumption
    · simp only [portSV, cellsOf, RdL]
      exact ⟨_, _, rfl, r0, _, _, rfl, r1, _, _, rfl, r2, _, _, rfl, r3, _, _, rfl, r4, _, _, rfl, r5, _, _, rfl, r6, rfl⟩

def Link.In (x : Link) : Prop := wI .i64 x.row ∧ wI .i64 x.a ∧ wI .i64 x.b

theorem opN_Link : OpN enc Tryz.prog W 88 linkSV Link.In 3 := fun n cs y h => by
  obtain ⟨xs, m, _, _, hlen, hx, hg⟩ := DataW.trod_struct Tryz.underlying88 h
  have hlen : cs.length = 3 := hlen.trans (by kernel_rfl : Tryz.prog.cellsOf 88 = 3)
  have hx : xs.length = 3 := hx
  match cs, hlen with
  | [c0, c1, c2], _ =>
    have g0 : DataW.trod enc Tryz.prog W 0 (fun _ => true) true m 3 (([c0, c1, c2].drop 0).take (Tryz.prog.cellsOf 3)) = xs[0]? := hg 0 _ rfl
    rw [(by kernel_rfl : Tryz.prog.cellsOf 3 = 1), List.getElem?_eq_getElem (by omega)] at g0
    obtain ⟨z0, p0, r0, o0⟩ := op_int Tryz.underlying3 _ _ _ g0
    have g1 : DataW.trod enc Tryz.prog W 0 (fun _ => true) true m 3 (([c0, c1, c2].drop 1).take (Tryz.prog.cellsOf 3)) = xs[1]? := hg 1 _ rfl
    rw [(by kernel_rfl : Tryz.prog.cellsOf 3 = 1), List.getElem?_eq_getElem (by omega)] at g1
    obtain ⟨z1, p1, r1, o1⟩ := op_int Tryz.underlying3 _ _ _ g1
    have g2 : DataW.trod enc Tryz.prog W 0 (fun _ => true) true m 3 (([c0, c1, c2].drop 2).take (Tryz.prog.cellsOf 3)) = xs[2]? := hg 2 _ rfl
    rw [(by kernel_rfl : Tryz.prog.cellsOf 3 = 1), List.getElem?_eq_getElem (by omega)] at g2
    obtain ⟨z2, p2, r2, o2⟩ := op_int Tryz.underlying3 _ _ _ g2
    refine ⟨⟨z0, z1, z2⟩, ⟨p0, p1, p2⟩, rfl, fun c hc => ?_, ?_⟩
    · simp only [List.mem_cons, List.not_mem_nil, or_false] at hc
      rcases hc with rfl | rfl | rfl <;> assumption
    · simp only [linkSV, cellsOf, RdL]
      exact ⟨_, _, rfl, r0, _, _, rfl, r1, _, _, rfl, r2, rfl⟩

def Domain.In (x : Domain) : Prop := wI .i64 x.dev ∧ wI .i64 x.vlan ∧ wI .i64 x.vni ∧ wI .i64 x.irb ∧ wI .i64 x.row ∧ ((∀ z ∈ x.peers, wI .i64 z) ∧ x.peers.length ≤ maxLen)

theorem opN_Domain : OpN enc Tryz.prog W 54 domainSV Domain.In 6 := fun n cs y h => by
  obtain ⟨xs, m, _, _, hlen, hx, hg⟩ := DataW.trod_struct Tryz.underlying54 h
  have hlen : cs.length = 6 := hlen.trans (by kernel_rfl : Tryz.prog.cellsOf 54 = 6)
  have hx : xs.length = 6 := hx
  match cs, hlen with
  | [c0, c1, c2, c3, c4, c5], _ =>
    have g0 : DataW.trod enc Tryz.prog W 0 (fun _ => true) true m 3 (([c0, c1, c2, c3, c4, c5].drop 0).take (Tryz.prog.cellsOf 3)) = xs[0]? := hg 0 _ rfl
    rw [(by kernel_rfl : Tryz.prog.cellsOf 3 = 1), List.getElem?_eq_getElem (by omega)] at g0
    obtain ⟨z0, p0, r0, o0⟩ := op_int Tryz.underlying3 _ _ _ g0
    have g1 : DataW.trod enc Tryz.prog W 0 (fun _ => true) true m 3 (([c0, c1, c2, c3, c4, c5].drop 1).take (Tryz.prog.cellsOf 3)) = xs[1]? := hg 1 _ rfl
    rw [(by kernel_rfl : Tryz.prog.cellsOf 3 = 1), List.getElem?_eq_getElem (by omega)] at g1
    obtain ⟨z1, p1, r1, o1⟩ := op_int Tryz.underlying3 _ _ _ g1
    have g2 : DataW.trod enc Tryz.prog W 0 (fun _ => true) true m 3 (([c0, c1, c2, c3, c4, c5].drop 2).take (Tryz.prog.cellsOf 3)) = xs[2]? := hg 2 _ rfl
    rw [(by kernel_rfl : Tryz.prog.cellsOf 3 = 1), List.getElem?_eq_getElem (by omega)] at g2
    obtain ⟨z2, p2, r2, o2⟩ := op_int Tryz.underlying3 _ _ _ g2
    have g3 : DataW.trod enc Tryz.prog W 0 (fun _ => true) true m 3 (([c0, c1, c2, c3, c4, c5].drop 3).take (Tryz.prog.cellsOf 3)) = xs[3]? := hg 3 _ rfl
    rw [(by kernel_rfl : Tryz.prog.cellsOf 3 = 1), List.getElem?_eq_getElem (by omega)] at g3
    obtain ⟨z3, p3, r3, o3⟩ := op_int Tryz.underlying3 _ _ _ g3
    have g4 : DataW.trod enc Tryz.prog W 0 (fun _ => true) true m 3 (([c0, c1, c2, c3, c4, c5].drop 4).take (Tryz.prog.cellsOf 3)) = xs[4]? := hg 4 _ rfl
    rw [(by kernel_rfl : Tryz.prog.cellsOf 3 = 1), List.getElem?_eq_getElem (by omega)] at g4
    obtain ⟨z4, p4, r4, o4⟩ := op_int Tryz.underlying3 _ _ _ g4
    have g5 : DataW.trod enc Tryz.prog W 0 (fun _ => true) true m 50 (([c0, c1, c2, c3, c4, c5].drop 5).take (Tryz.prog.cellsOf 50)) = xs[5]? := hg 5 _ rfl
    rw [(by kernel_rfl : Tryz.prog.cellsOf 50 = 1), List.getElem?_eq_getElem (by omega)] at g5
    obtain ⟨z5, p5, r5, o5⟩ := op_ints _ _ _ g5
    refine ⟨⟨z0, z1, z2, z3, z4, z5⟩, ⟨p0, p1, p2, p3, p4, p5⟩, rfl, fun c hc => ?_, ?_⟩
    · simp only [List.mem_cons, List.not_mem_nil, or_false] at hc
      rcases hc with rfl | rfl | rfl | rfl | rfl | rfl <;> assumption
    · simp only [domainSV, cellsOf, RdL]
      exact ⟨_, _, rfl, r0, _, _, rfl, r1, _, _, rfl, r2, _, _, rfl, r3, _, _, rfl, r4, _, _, rfl, r5, rfl⟩

def Static.In (x : Static) : Prop := wI .i64 x.row ∧ wI .i64 x.domain ∧ wI .i64 x.port ∧ wI .u64 x.mac

theorem opN_Static : OpN enc Tryz.prog W 92 staticSV Static.In 4 := fun n cs y h => by
  obtain ⟨xs, m, _, _, hlen, hx, hg⟩ := DataW.trod_struct Tryz.underlying92 h
  have hlen : cs.length = 4 := hlen.trans (by kernel_rfl : Tryz.prog.cellsOf 92 = 4)
  have hx : xs.length = 4 := hx
  match cs, hlen with
  | [c0, c1, c2, c3], _ =>
    have g0 : DataW.trod enc Tryz.prog W 0 (fun _ => true) true m 3 (([c0, c1, c2, c3].drop 0).take (Tryz.prog.cellsOf 3)) = xs[0]? := hg 0 _ rfl
    rw [(by kernel_rfl : Tryz.prog.cellsOf 3 = 1), List.getElem?_eq_getElem (by omega)] at g0
    obtain ⟨z0, p0, r0, o0⟩ := op_int Tryz.underlying3 _ _ _ g0
    have g1 : DataW.trod enc Tryz.prog W 0 (fun _ => true) true m 3 (([c0, c1, c2, c3].drop 1).take (Tryz.prog.cellsOf 3)) = xs[1]? := hg 1 _ rfl
    rw [(by kernel_rfl : Tryz.prog.cellsOf 3 = 1), List.getElem?_eq_getElem (by omega)] at g1
    obtain ⟨z1, p1, r1, o1⟩ := op_int Tryz.underlying3 _ _ _ g1
    have g2 : DataW.trod enc Tryz.prog W 0 (fun _ => true) true m 3 (([c0, c1, c2, c3].drop 2).take (Tryz.prog.cellsOf 3)) = xs[2]? := hg 2 _ rfl
    rw [(by kernel_rfl : Tryz.prog.cellsOf 3 = 1), List.getElem?_eq_getElem (by omega)] at g2
    obtain ⟨z2, p2, r2, o2⟩ := op_int Tryz.underlying3 _ _ _ g2
    have g3 : DataW.trod enc Tryz.prog W 0 (fun _ => true) true m 46 (([c0, c1, c2, c3].drop 3).take (Tryz.prog.cellsOf 46)) = xs[3]? := hg 3 _ rfl
    rw [(by kernel_rfl : Tryz.prog.cellsOf 46 = 1), List.getElem?_eq_getElem (by omega)] at g3
    obtain ⟨z3, p3, r3, o3⟩ := op_int Tryz.underlying46 _ _ _ g3
    refine ⟨⟨z0, z1, z2, z3⟩, ⟨p0, p1, p2, p3⟩, rfl, fun c hc => ?_, ?_⟩
    · simp only [List.mem_cons, List.not_mem_nil, or_false] at hc
      rcases hc with rfl | rfl | rfl | rfl <;> assumption
    · simp only [staticSV, cellsOf, RdL]
      exact ⟨_, _, rfl, r0, _, _, rfl, r1, _, _, rfl, r2, _, _, rfl, r3, rfl⟩

def Flood.In (x : Flood) : Prop := wI .i64 x.row ∧ wI .i64 x.dev ∧ wI .i64 x.vni ∧ ((∀ z ∈ x.addrs, wI .u32 z) ∧ x.addrs.length ≤ maxLen)

theorem opN_Flood : OpN enc Tryz.prog W 77 floodSV Flood.In 4 := fun n cs y h => by
  obtain ⟨xs, m, _, _, hlen, hx, hg⟩ := DataW.trod_struct Tryz.underlying77 h
  have hlen : cs.length = 4 := hlen.trans (by kernel_rfl : Tryz.prog.cellsOf 77 = 4)
  have hx : xs.length = 4 := hx
  match cs, hlen with
  | [c0, c1, c2, c3], _ =>
    have g0 : DataW.trod enc Tryz.prog W 0 (fun _ => true) true m 3 (([c0, c1, c2, c3].drop 0).take (Tryz.prog.cellsOf 3)) = xs[0]? := hg 0 _ rfl
    rw [(by kernel_rfl : Tryz.prog.cellsOf 3 = 1), List.getElem?_eq_getElem (by omega)] at g0
    obtain ⟨z0, p0, r0, o0⟩ := op_int Tryz.underlying3 _ _ _ g0
    have g1 : DataW.trod enc Tryz.prog W 0 (fun _ => true) true m 3 (([c0, c1, c2, c3].drop 1).take (Tryz.prog.cellsOf 3)) = xs[1]? := hg 1 _ rfl
    rw [(by kernel_rfl : Tryz.prog.cellsOf 3 = 1), List.getElem?_eq_getElem (by omega)] at g1
    obtain ⟨z1, p1, r1, o1⟩ := op_int Tryz.underlying3 _ _ _ g1
    have g2 : DataW.trod enc Tryz.prog W 0 (fun _ => true) true m 3 (([c0, c1, c2, c3].drop 2).take (Tryz.prog.cellsOf 3)) = xs[2]? := hg 2 _ rfl
    rw [(by kernel_rfl : Tryz.prog.cellsOf 3 = 1), List.getElem?_eq_getElem (by omega)] at g2
    obtain ⟨z2, p2, r2, o2⟩ := op_int Tryz.underlying3 _ _ _ g2
    have g3 : DataW.trod enc Tryz.prog W 0 (fun _ => true) true m 75 (([c0, c1, c2, c3].drop 3).take (Tryz.prog.cellsOf 75)) = xs[3]? := hg 3 _ rfl
    rw [(by kernel_rfl : Tryz.prog.cellsOf 75 = 1), List.getElem?_eq_getElem (by omega)] at g3
    obtain ⟨z3, p3, r3, o3⟩ := op_u32s _ _ _ g3
    refine ⟨⟨z0, z1, z2, z3⟩, ⟨p0, p1, p2, p3⟩, rfl, fun c hc => ?_, ?_⟩
    · simp only [List.mem_cons, List.not_mem_nil, or_false] at hc
      rcases hc with rfl | rfl | rfl | rfl <;> assumption
    · simp only [floodSV, cellsOf, RdL]
      exact ⟨_, _, rfl, r0, _, _, rfl, r1, _, _, rfl, r2, _, _, rfl, r3, rfl⟩

def Vrf.In (x : Vrf) : Prop := wI .i64 x.row ∧ wI .i64 x.dev ∧ x.name.size ≤ maxLen ∧ ((∀ z ∈ x.imports, wI .i64 z) ∧ x.imports.length ≤ maxLen) ∧ ((∀ z ∈ x.exports, wI .i64 z) ∧ x.exports.length ≤ maxLen)

theorem opN_Vrf : OpN enc Tryz.prog W 79 vrfSV Vrf.In 5 := fun n cs y h => by
  obtain ⟨xs, m, _, _, hlen, hx, hg⟩ := DataW.trod_struct Tryz.underlying79 h
  have hlen : cs.length = 5 := hlen.trans (by kernel_rfl : Tryz.prog.cellsOf 79 = 5)
  have hx : xs.length = 5 := hx
  match cs, hlen with
  | [c0, c1, c2, c3, c4], _ =>
    have g0 : DataW.trod enc Tryz.prog W 0 (fun _ => true) true m 3 (([c0, c1, c2, c3, c4].drop 0).take (Tryz.prog.cellsOf 3)) = xs[0]? := hg 0 _ rfl
    rw [(by kernel_rfl : Tryz.prog.cellsOf 3 = 1), List.getElem?_eq_getElem (by omega)] at g0
    obtain ⟨z0, p0, r0, o0⟩ := op_int Tryz.underlying3 _ _ _ g0
    have g1 : DataW.trod enc Tryz.prog W 0 (fun _ => true) true m 3 (([c0, c1, c2, c3, c4].drop 1).take (Tryz.prog.cellsOf 3)) = xs[1]? := hg 1 _ rfl
    rw [(by kernel_rfl : Tryz.prog.cellsOf 3 = 1), List.getElem?_eq_getElem (by omega)] at g1
    obtain ⟨z1, p1, r1, o1⟩ := op_int Tryz.underlying3 _ _ _ g1
    have g2 : DataW.trod enc Tryz.prog W 0 (fun _ => true) true m 9 (([c0, c1, c2, c3, c4].drop 2).take (Tryz.prog.cellsOf 9)) = xs[2]? := hg 2 _ rfl
    rw [(by kernel_rfl : Tryz.prog.cellsOf 9 = 1), List.getElem?_eq_getElem (by omega)] at g2
    obtain ⟨z2, p2, r2, o2⟩ := op_str Tryz.underlying9 _ _ _ g2
    have g3 : DataW.trod enc Tryz.prog W 0 (fun _ => true) true m 50 (([c0, c1, c2, c3, c4].drop 3).take (Tryz.prog.cellsOf 50)) = xs[3]? := hg 3 _ rfl
    rw [(by kernel_rfl : Tryz.prog.cellsOf 50 = 1), List.getElem?_eq_getElem (by omega)] at g3
    obtain ⟨z3, p3, r3, o3⟩ := op_ints _ _ _ g3
    have g4 : DataW.trod enc Tryz.prog W 0 (fun _ => true) true m 50 (([c0, c1, c2, c3, c4].drop 4).take (Tryz.prog.cellsOf 50)) = xs[4]? := hg 4 _ rfl
    rw [(by kernel_rfl : Tryz.prog.cellsOf 50 = 1), List.getElem?_eq_getElem (by omega)] at g4
    obtain ⟨z4, p4, r4, o4⟩ := op_ints _ _ _ g4
    refine ⟨⟨z0, z1, z2, z3, z4⟩, ⟨p0, p1, p2, p3, p4⟩, rfl, fun c hc => ?_, ?_⟩
    · simp only [List.mem_cons, List.not_mem_nil, or_false] at hc
      rcases hc with rfl | rfl | rfl | rfl | rfl <;> assumption
    · simp only [vrfSV, cellsOf, RdL]
      exact ⟨_, _, rfl, r0, _, _, rfl, r1, _, _, rfl, r2, _, _, rfl, r3, _, _, rfl, r4, rfl⟩

def Irb.In (x : Irb) : Prop := wI .i64 x.row ∧ wI .i64 x.domain ∧ wI .i64 x.vrf ∧ wI .u32 x.addr ∧ wI .i64 x.bits

theorem opN_Irb : OpN enc Tryz.prog W 104 irbSV Irb.In 5 := fun n cs y h => by
  obtain ⟨xs, m, _, _, hlen, hx, hg⟩ := DataW.trod_struct Tryz.underlying104 h
  have hlen : cs.length = 5 := hlen.trans (by kernel_rfl : Tryz.prog.cellsOf 104 = 5)
  have hx : xs.length = 4 := hx
  match cs, hlen with
  | [c0, c1, c2, c3, c4], _ =>
    have g0 : DataW.trod enc Tryz.prog W 0 (fun _ => true) true m 3 (([c0, c1, c2, c3, c4].drop 0).take (Tryz.prog.cellsOf 3)) = xs[0]? := hg 0 _ rfl
    rw [(by kernel_rfl : Tryz.prog.cellsOf 3 = 1), List.getElem?_eq_getElem (by omega)] at g0
    obtain ⟨z0, p0, r0, o0⟩ := op_int Tryz.underlying3 _ _ _ g0
    have g1 : DataW.trod enc Tryz.prog W 0 (fun _ => true) true m 3 (([c0, c1, c2, c3, c4].drop 1).take (Tryz.prog.cellsOf 3)) = xs[1]? := hg 1 _ rfl
    rw [(by kernel_rfl : Tryz.prog.cellsOf 3 = 1), List.getElem?_eq_getElem (by omega)] at g1
    obtain ⟨z1, p1, r1, o1⟩ := op_int Tryz.underlying3 _ _ _ g1
    have g2 : DataW.trod enc Tryz.prog W 0 (fun _ => true) true m 3 (([c0, c1, c2, c3, c4].drop 2).take (Tryz.prog.cellsOf 3)) = xs[2]? := hg 2 _ rfl
    rw [(by kernel_rfl : Tryz.prog.cellsOf 3 = 1), List.getElem?_eq_getElem (by omega)] at g2
    obtain ⟨z2, p2, r2, o2⟩ := op_int Tryz.underlying3 _ _ _ g2
    have g3 : DataW.trod enc Tryz.prog W 0 (fun _ => true) true m 102 (([c0, c1, c2, c3, c4].drop 3).take (Tryz.prog.cellsOf 102)) = xs[3]? := hg 3 _ rfl
    rw [(by kernel_rfl : Tryz.prog.cellsOf 102 = 2), List.getElem?_eq_getElem (by omega)] at g3
    obtain ⟨ys, m', _, _, _, hy, hg'⟩ := DataW.trod_struct Tryz.underlying102 g3
    have hy : ys.length = 2 := hy
    have q0 : DataW.trod enc Tryz.prog W 0 (fun _ => true) true m' 47 (([c3, c4].drop 0).take (Tryz.prog.cellsOf 47)) = ys[0]? := hg' 0 _ rfl
    have q1 : DataW.trod enc Tryz.prog W 0 (fun _ => true) true m' 3 (([c3, c4].drop 1).take (Tryz.prog.cellsOf 3)) = ys[1]? := hg' 1 _ rfl
    rw [(by kernel_rfl : Tryz.prog.cellsOf 47 = 1), List.getElem?_eq_getElem (by omega)] at q0
    rw [(by kernel_rfl : Tryz.prog.cellsOf 3 = 1), List.getElem?_eq_getElem (by omega)] at q1
    obtain ⟨z3, p3, r3, o3⟩ := op_int Tryz.underlying47 _ _ _ q0
    obtain ⟨z4, p4, r4, o4⟩ := op_int Tryz.underlying3 _ _ _ q1
    refine ⟨⟨z0, z1, z2, z3, z4⟩, ⟨p0, p1, p2, p3, p4⟩, rfl, fun c hc => ?_, ?_⟩
    · simp only [List.mem_cons, List.not_mem_nil, or_false] at hc
      rcases hc with rfl | rfl | rfl | rfl | rfl <;> assumption
    · simp only [irbSV, cellsOf, RdL]
      exact ⟨_, _, rfl, r0, _, _, rfl, r1, _, _, rfl, r2, _, _, rfl, r3, _, _, rfl, r4, rfl⟩

structure Net.In (n : Net) : Prop where
  devices : (∀ x ∈ n.devices, Device.In x) ∧ n.devices.length ≤ maxLen
  ports : (∀ x ∈ n.ports, Port.In x) ∧ n.ports.length ≤ maxLen
  links : (∀ x ∈ n.links, Link.In x) ∧ n.links.length ≤ maxLen
  domains : (∀ x ∈ n.domains, Domain.In x) ∧ n.domains.length ≤ maxLen
  statics : (∀ x ∈ n.statics, Static.In x) ∧ n.statics.length ≤ maxLen
  floods : (∀ x ∈ n.floods, Flood.In x) ∧ n.floods.length ≤ maxLen
  vrfs : (∀ x ∈ n.vrfs, Vrf.In x) ∧ n.vrfs.length ≤ maxLen
  irbs : (∀ x ∈ n.irbs, Irb.In x) ∧ n.irbs.length ≤ maxLen

theorem opN_Net : OpN enc Tryz.prog W 31 netSV Net.In 8 := fun n cs y h => by
  obtain ⟨xs, m, _, _, hlen, hx, hg⟩ := DataW.trod_struct Tryz.underlying31 h
  have hlen : cs.length = 8 := hlen.trans (by kernel_rfl : Tryz.prog.cellsOf 31 = 8)
  have hx : xs.length = 8 := hx
  match cs, hlen with
  | [c0, c1, c2, c3, c4, c5, c6, c7], _ =>
    have g0 : DataW.trod enc Tryz.prog W 0 (fun _ => true) true m 22 (([c0, c1, c2, c3, c4, c5, c6, c7].drop 0).take (Tryz.prog.cellsOf 22)) = xs[0]? := hg 0 _ rfl
    rw [(by kernel_rfl : Tryz.prog.cellsOf 22 = 1), List.getElem?_eq_getElem (by omega)] at g0
    obtain ⟨z0, p0, r0, o0⟩ := op_slice Tryz.underlying22 (by kernel_rfl : Tryz.prog.cellsOf 49 = 5) (by decide) (fun _ => rfl) (fun _ => rfl) opN_Device _ _ _ g0
    have g1 : DataW.trod enc Tryz.prog W 0 (fun _ => true) true m 23 (([c0, c1, c2, c3, c4, c5, c6, c7].drop 1).take (Tryz.prog.cellsOf 23)) = xs[1]? := hg 1 _ rfl
    rw [(by kernel_rfl : Tryz.prog.cellsOf 23 = 1), List.getElem?_eq_getElem (by omega)] at g1
    obtain ⟨z1, p1, r1, o1⟩ := op_slice Tryz.underlying23 (by kernel_rfl : Tryz.prog.cellsOf 52 = 7) (by decide) (fun _ => rfl) (fun _ => rfl) opN_Port _ _ _ g1
    have g2 : DataW.trod enc Tryz.prog W 0 (fun _ => true) true m 24 (([c0, c1, c2, c3, c4, c5, c6, c7].drop 2).take (Tryz.prog.cellsOf 24)) = xs[2]? := hg 2 _ rfl
    rw [(by kernel_rfl : Tryz.prog.cellsOf 24 = 1), List.getElem?_eq_getElem (by omega)] at g2
    obtain ⟨z2, p2, r2, o2⟩ := op_slice Tryz.underlying24 (by kernel_rfl : Tryz.prog.cellsOf 88 = 3) (by decide) (fun _ => rfl) (fun _ => rfl) opN_Link _ _ _ g2
    have g3 : DataW.trod enc Tryz.prog W 0 (fun _ => true) true m 25 (([c0, c1, c2, c3, c4, c5, c6, c7].drop 3).take (Tryz.prog.cellsOf 25)) = xs[3]? := hg 3 _ rfl
    rw [(by kernel_rfl : Tryz.prog.cellsOf 25 = 1), List.getElem?_eq_getElem (by omega)] at g3
    obtain ⟨z3, p3, r3, o3⟩ := op_slice Tryz.underlying25 (by kernel_rfl : Tryz.prog.cellsOf 54 = 6) (by decide) (fun _ => rfl) (fun _ => rfl) opN_Domain _ _ _ g3
    have g4 : DataW.trod enc Tryz.prog W 0 (fun _ => true) true m 26 (([c0, c1, c2, c3, c4, c5, c6, c7].drop 4).take (Tryz.prog.cellsOf 26)) = xs[4]? := hg 4 _ rfl
    rw [(by kernel_rfl : Tryz.prog.cellsOf 26 = 1), List.getElem?_eq_getElem (by omega)] at g4
    obtain ⟨z4, p4, r4, o4⟩ := op_slice Tryz.underlying26 (by kernel_rfl : Tryz.prog.cellsOf 92 = 4) (by decide) (fun _ => rfl) (fun _ => rfl) opN_Static _ _ _ g4
    have g5 : DataW.trod enc Tryz.prog W 0 (fun _ => true) true m 27 (([c0, c1, c2, c3, c4, c5, c6, c7].drop 5).take (Tryz.prog.cellsOf 27)) = xs[5]? := hg 5 _ rfl
    rw [(by kernel_rfl : Tryz.prog.cellsOf 27 = 1), List.getElem?_eq_getElem (by omega)] at g5
    obtain ⟨z5, p5, r5, o5⟩ := op_slice Tryz.underlying27 (by kernel_rfl : Tryz.prog.cellsOf 77 = 4) (by decide) (fun _ => rfl) (fun _ => rfl) opN_Flood _ _ _ g5
    have g6 : DataW.trod enc Tryz.prog W 0 (fun _ => true) true m 28 (([c0, c1, c2, c3, c4, c5, c6, c7].drop 6).take (Tryz.prog.cellsOf 28)) = xs[6]? := hg 6 _ rfl
    rw [(by kernel_rfl : Tryz.prog.cellsOf 28 = 1), List.getElem?_eq_getElem (by omega)] at g6
    obtain ⟨z6, p6, r6, o6⟩ := op_slice Tryz.underlying28 (by kernel_rfl : Tryz.prog.cellsOf 79 = 5) (by decide) (fun _ => rfl) (fun _ => rfl) opN_Vrf _ _ _ g6
    have g7 : DataW.trod enc Tryz.prog W 0 (fun _ => true) true m 29 (([c0, c1, c2, c3, c4, c5, c6, c7].drop 7).take (Tryz.prog.cellsOf 29)) = xs[7]? := hg 7 _ rfl
    rw [(by kernel_rfl : Tryz.prog.cellsOf 29 = 1), List.getElem?_eq_getElem (by omega)] at g7
    obtain ⟨z7, p7, r7, o7⟩ := op_slice Tryz.underlying29 (by kernel_rfl : Tryz.prog.cellsOf 104 = 5) (by decide) (fun _ => rfl) (fun _ => rfl) opN_Irb _ _ _ g7
    refine ⟨⟨z0, z1, z2, z3, z4, z5, z6, z7⟩, ⟨p0, p1, p2, p3, p4, p5, p6, p7⟩, rfl, fun c hc => ?_, ?_⟩
    · simp only [List.mem_cons, List.not_mem_nil, or_false] at hc
      rcases hc with rfl | rfl | rfl | rfl | rfl | rfl | rfl | rfl <;> assumption
    · simp only [netSV, cellsOf, RdL]
      exact ⟨_, _, rfl, r0, _, _, rfl, r1, _, _, rfl, r2, _, _, rfl, r3, _, _, rfl, r4, _, _, rfl, r5, _, _, rfl, r6, _, _, rfl, r7, rfl⟩

/-- An argument that is a struct. -/
theorem rd_struct {t : TypeId} {fs : Array Field} {α : Type} {e : α → SV} {p : α → Prop} {sz base : Nat} {v : Value} {d : DataW H} {ps : List MemPlace} (ht : Tryz.prog.underlying t = some (.struct fs)) (hO : OpN enc Tryz.prog W t e p sz) (he : ∀ x, e x = .agg (cellsOf (e x)))
    (hval : Value.okWide Tryz.prog W .any base t v) (h1 : DataW.Trod enc Tryz.prog W 0 (fun _ => true) true t v d ps) : ∃ x, p x ∧ Rd κ0 W (e x) v := by
  obtain ⟨cs, rfl, _⟩ := okWide_struct ht hval
  obtain ⟨fuel, hf⟩ := h1
  obtain ⟨x, h1, _, h2, h3⟩ := hO _ _ _ hf
  refine ⟨x, h1, ?_⟩
  rw [he x]
  simp only [Rd]
  exact ⟨cs.toList, by simp, by simpa [Value.cells] using h2, by simpa [Value.cells] using h3⟩

theorem rd_net {base : Nat} {v : Value} {d : DataW H} {ps : List MemPlace} (hval : Value.okWide Tryz.prog W .any base 31 v) (h1 : DataW.Trod enc Tryz.prog W 0 (fun _ => true) true 31 v d ps) : ∃ n : Net, n.In ∧ Rd κ0 W (netSV n) v :=
  rd_struct Tryz.underlying31 opN_Net (fun _ => rfl) hval h1

/-- An argument that is a slice. -/
theorem rd_slice {t et : TypeId} {α : Type} {e : α → SV} {p : List α → Prop} {sz base : Nat} {v : Value} {d : DataW H} {ps : List MemPlace} (ht : Tryz.prog.underlying t = some (.slice et)) (hO : Op1 enc Tryz.prog W t (fun l : List α => .sl sz e l) p)
    (hval : Value.okWide Tryz.prog W .any base t v) (h1 : DataW.Trod enc Tryz.prog W 0 (fun _ => true) true t v d ps) : ∃ l, p l ∧ Rd κ0 W (.sl sz e l) v := by
  obtain ⟨a, len, cap, rfl⟩ := okWide_slice ht hval
  obtain ⟨fuel, hf⟩ := h1
  obtain ⟨x, h1, h2, _⟩ := hO _ _ _ hf
  exact ⟨x, h1, h2⟩
end
end Go.Sy.YtlfopmhekhifoaaGreatDoor
