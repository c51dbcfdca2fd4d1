/-
  Nets are opened. Steps, what was seen, reports: opened.
-/
import Derived.Test.YtjomehmhkcnadaaGreatDoorB3
import Derived.Test.YtjomehmhkcnadaaGreatDoorB9
import Derived.Test.YtjomehmhkcnadaaGreatDoorB8

namespace Go.Sy.YtjomehmhkcnadaaGreatDoor
open Go.Proofs Go.ChangeShapes Go.WideShapes Go.ChangeAt Go.RowKit

set_option maxRecDepth 100000

theorem list_n {α : Type} : ∀ (l : List α) (n : Nat), l.length = n → n = l.length := fun _ _ h => h.symm

section
variable {H : Type} {enc : TypeId × Value → H} {W : World}

def wI (k : IntKind) (z : Int) : Prop := (Lit.int k z).wf = true

theorem op_ints : Op1 enc Tryz.prog W 60 (fun l : List Int => .sl 1 (fun z => .val (.int .i64 z)) l) (fun l => (∀ z ∈ l, wI .i64 z) ∧ l.length ≤ maxLen) :=
  op_slice Tryz.underlying60 (by kernel_rfl : Tryz.prog.cellsOf 3 = 1) (by decide) (fun _ => rfl) (fun _ => rfl) (opN_int Tryz.underlying3)

theorem op_u32s : Op1 enc Tryz.prog W 65 (fun l : List Int => .sl 1 (fun z => .val (.int .u32 z)) l) (fun l => (∀ z ∈ l, wI .u32 z) ∧ l.length ≤ maxLen) :=
  op_slice Tryz.underlying65 (by kernel_rfl : Tryz.prog.cellsOf 71 = 1) (by decide) (fun _ => rfl) (fun _ => rfl) (opN_int Tryz.underlying71)

def Device.In (x : Device) : Prop := wI .i64 x.row ∧ wI .i64 x.prio ∧ x.name.size ≤ maxLen ∧ wI .u64 x.mac ∧ wI .u32 x.vtep

theorem opN_Device : OpN enc Tryz.prog W 73 deviceSV Device.In 5 := fun n cs y h => by
  obtain ⟨xs, m, _, _, hlen, hx, hg⟩ := DataW.trod_struct Tryz.underlying73 h
  have hlen : cs.length = 5 := hlen.trans (by kernel_rfl : Tryz.prog.cellsOf 73 = 5)
  have hx : xs.length = 5 := hx
  match cs, hlen with
  | [c0, c1, c2, c3, c4], _ =>
    have g0 : DataW.trod enc Tryz.prog W 0 (fun _ => true) true m 3 (([c0, c1, c2, c3, c4].drop 0).take (Tryz.prog.cellsOf 3)) = xs[0]? := hg 0 _ rfl
    rw [(by kernel_rfl : Tryz.prog.cellsOf 3 = 1), List.getElem?_eq_getElem (by omega)] at g0
    obtain ⟨z0, p0, r0, o0⟩ := op_int Tryz.underlying3 _ _ _ g0
    have g1 : DataW.trod enc Tryz.prog W 0 (fun _ => true) true m 3 (([c0, c1, c2, c3, c4].drop 1).take (Tryz.prog.cellsOf 3)) = xs[1]? := hg 1 _ rfl
    rw [(by kernel_rfl : Tryz.prog.cellsOf 3 = 1), List.getElem?_eq_getElem (by omega)] at g1
    obtain ⟨z1, p1, r1, o1⟩ := op_int Tryz.underlying3 _ _ _ g1
    have g2 : DataW.trod enc Tryz.prog W 0 (fun _ => true) true m 9 (([c0, c1, c2, c3, c4].drop 2).take (Tryz.prog.cellsOf 9)) = xs[2]? := hg 2 _ rfl
    rw [(by kernel_rfl : Tryz.prog.cellsOf 9 = 1), List.getElem?_eq_getElem (by omega)] at g2
    obtain ⟨z2, p2, r2, o2⟩ := op_str Tryz.underlying9 _ _ _ g2
    have g3 : DataW.trod enc Tryz.prog W 0 (fun _ => true) true m 70 (([c0, c1, c2, c3, c4].drop 3).take (Tryz.prog.cellsOf 70)) = xs[3]? := hg 3 _ rfl
    rw [(by kernel_rfl : Tryz.prog.cellsOf 70 = 1), List.getElem?_eq_getElem (by omega)] at g3
    obtain ⟨z3, p3, r3, o3⟩ := op_int Tryz.underlying70 _ _ _ g3
    have g4 : DataW.trod enc Tryz.prog W 0 (fun _ => true) true m 71 (([c0, c1, c2, c3, c4].drop 4).take (Tryz.prog.cellsOf 71)) = xs[4]? := hg 4 _ rfl
    rw [(by kernel_rfl : Tryz.prog.cellsOf 71 = 1), List.getElem?_eq_getElem (by omega)] at g4
    obtain ⟨z4, p4, r4, o4⟩ := op_int Tryz.underlying71 _ _ _ g4
    refine ⟨⟨z0, z1, z2, z3, z4⟩, ⟨p0, p1, p2, p3, p4⟩, rfl, fun c hc => ?_, ?_⟩
    · simp only [List.mem_cons, List.not_mem_nil, or_false] at hc
      rcases hc with rfl | rfl | rfl | rfl | rfl <;> assumption
    · simp only [deviceSV, cellsOf, RdL]
      exact ⟨_, _, rfl, r0, _, _, rfl, r1, _, _, rfl, r2, _, _, rfl, r3, _, _, rfl, r4, rfl⟩

def Port.In (x : Port) : Prop := wI .i64 x.row ∧ wI .i64 x.dev ∧ wI .i64 x.native ∧ wI .i64 x.cost ∧ wI .i64 x.link ∧ x.name.size ≤ maxLen ∧ ((∀ z ∈ x.tagged, wI .i64 z) ∧ x.tagged.length ≤ maxLen)

theorem opN_Port : OpN enc Tryz.prog W 62 portSV Port.In 7 := fun n cs y h => by
  obtain ⟨xs, m, _, _, hlen, hx, hg⟩ := DataW.trod_struct Tryz.underlying62 h
  have hlen : cs.length = 7 := hlen.trans (by kernel_rfl : Tryz.prog.cellsOf 62 = 7)
  have hx : xs.length = 7 := hx
  match cs, hlen with
  | [c0, c1, c2, c3, c4, c5, c6], _ =>
    have g0 : DataW.trod enc Tryz.prog W 0 (fun _ => true) true m 3 (([c0, c1, c2, c3, c4, c5, c6].drop 0).take (Tryz.prog.cellsOf 3)) = xs[0]? := hg 0 _ rfl
    rw [(by kernel_rfl : Tryz.prog.cellsOf 3 = 1), List.getElem?_eq_getElem (by omega)] at g0
    obtain ⟨z0, p0, r0, o0⟩ := op_int Tryz.underlying3 _ _ _ g0
    have g1 : DataW.trod enc Tryz.prog W 0 (fun _ => true) true m 3 (([c0, c1, c2, c3, c4, c5, c6].drop 1).take (Tryz.prog.cellsOf 3)) = xs[1]? := hg 1 _ rfl
    rw [(by kernel_rfl : Tryz.prog.cellsOf 3 = 1), List.getElem?_eq_getElem (by omega)] at g1
    obtain ⟨z1, p1, r1, o1⟩ := op_int Tryz.underlying3 _ _ _ g1
    have g2 : DataW.trod enc Tryz.prog W 0 (fun _ => true) true m 3 (([c0, c1, c2, c3, c4, c5, c6].drop 2).take (Tryz.prog.cellsOf 3)) = xs[2]? := hg 2 _ rfl
    rw [(by kernel_rfl : Tryz.prog.cellsOf 3 = 1), List.getElem?_eq_getElem (by omega)] at g2
    obtain ⟨z2, p2, r2, o2⟩ := op_int Tryz.underlying3 _ _ _ g2
    have g3 : DataW.trod enc Tryz.prog W 0 (fun _ => true) true m 3 (([c0, c1, c2, c3, c4, c5, c6].drop 3).take (Tryz.prog.cellsOf 3)) = xs[3]? := hg 3 _ rfl
    rw [(by kernel_rfl : Tryz.prog.cellsOf 3 = 1), List.getElem?_eq_getElem (by omega)] at g3
    obtain ⟨z3, p3, r3, o3⟩ := op_int Tryz.underlying3 _ _ _ g3
    have g4 : DataW.trod enc Tryz.prog W 0 (fun _ => true) true m 3 (([c0, c1, c2, c3, c4, c5, c6].drop 4).take (Tryz.prog.cellsOf 3)) = xs[4]? := hg 4 _ rfl
    rw [(by kernel_rfl : Tryz.prog.cellsOf 3 = 1), List.getElem?_eq_getElem (by omega)] at g4
    obtain ⟨z4, p4, r4, o4⟩ := op_int Tryz.underlying3 _ _ _ g4
    have g5 : DataW.trod enc Tryz.prog W 0 (fun _ => true) true m 9 (([c0, c1, c2, c3, c4, c5, c6].drop 5).take (Tryz.prog.cellsOf 9)) = xs[5]? := hg 5 _ rfl
    rw [(by kernel_rfl : Tryz.prog.cellsOf 9 = 1), List.getElem?_eq_getElem (by omega)] at g5
    obtain ⟨z5, p5, r5, o5⟩ := op_str Tryz.underlying9 _ _ _ g5
    have g6 : DataW.trod enc Tryz.prog W 0 (fun _ => true) true m 60 (([c0, c1, c2, c3, c4, c5, c6].drop 6).take (Tryz.prog.cellsOf 60)) = xs[6]? := hg 6 _ rfl
    rw [(by kernel_rfl : Tryz.prog.cellsOf 60 = 1), List.getElem?_eq_getElem (by omega)] at g6
    obtain ⟨z6, p6, r6, o6⟩ := op_ints _ _ _ g6
    refine ⟨⟨z0, z1, z2, z3, z4, z5, z6⟩, ⟨p0, p1, p2, p3, p4, p5, p6⟩, rfl, fun c hc => ?_, ?_⟩
    · simp only [List.mem_cons, List.not_mem_nil, or_false] at hc
      rcases hc with rfl | rfl | rfl | rfl | rfl | rfl | rfl <;> assumption
    · simp only [portSV, cellsOf, RdL]
      exact ⟨_, _, rfl, r0, _, _, rfl, r1, _, _, rfl, r2, _, _, rfl, r3, _, _, rfl, r4, _, _, rfl, r5, _, _, rfl, r6, rfl⟩

def Link.In (x : Link) : Prop := wI .i64 x.row ∧ wI .i64 x.a ∧ wI .i64 x.b

theorem opN_Link : OpN enc Tryz.prog W 105 linkSV Link.In 3 := fun n cs y h => by
  obtain ⟨xs, m, _, _, hlen, hx, hg⟩ := DataW.trod_struct Tryz.underlying105 h
  have hlen : cs.length = 3 := hlen.trans (by kernel_rfl : Tryz.prog.cellsOf 105 = 3)
  have hx : xs.length = 3 := hx
  match cs, hlen with
  | [c0, c1, c2], _ =>
    have g0 : DataW.trod enc Tryz.prog W 0 (fun _ => true) true m 3 (([c0, c1, c2].drop 0).take (Tryz.prog.cellsOf 3)) = xs[0]? := hg 0 _ rfl
    rw [(by kernel_rfl : Tryz.prog.cellsOf 3 = 1), List.getElem?_eq_getElem (by omega)] at g0
    obtain ⟨z0, p0, r0, o0⟩ := op_int Tryz.underlying3 _ _ _ g0
    have g1 : DataW.trod enc Tryz.prog W 0 (fun _ => true) true m 3 (([c0, c1, c2].drop 1).take (Tryz.prog.cellsOf 3)) = xs[1]? := hg 1 _ rfl
    rw [(by kernel_rfl : Tryz.prog.cellsOf 3 = 1), List.getElem?_eq_getElem (by omega)] at g1
    obtain ⟨z1, p1, r1, o1⟩ := op_int Tryz.underlying3 _ _ _ g1
    have g2 : DataW.trod enc Tryz.prog W 0 (fun _ => true) true m 3 (([c0, c1, c2].drop 2).take (Tryz.prog.cellsOf 3)) = xs[2]? := hg 2 _ rfl
    rw [(by kernel_rfl : Tryz.prog.cellsOf 3 = 1), List.getElem?_eq_getElem (by omega)] at g2
    obtain ⟨z2, p2, r2, o2⟩ := op_int Tryz.underlying3 _ _ _ g2
    refine ⟨⟨z0, z1, z2⟩, ⟨p0, p1, p2⟩, rfl, fun c hc => ?_, ?_⟩
    · simp only [List.mem_cons, List.not_mem_nil, or_false] at hc
      rcases hc with rfl | rfl | rfl <;> assumption
    · simp only [linkSV, cellsOf, RdL]
      exact ⟨_, _, rfl, r0, _, _, rfl, r1, _, _, rfl, r2, rfl⟩

def Domain.In (x : Domain) : Prop := wI .i64 x.dev ∧ wI .i64 x.vlan ∧ wI .i64 x.vni ∧ wI .i64 x.irb ∧ wI .i64 x.row ∧ ((∀ z ∈ x.peers, wI .i64 z) ∧ x.peers.length ≤ maxLen)

theorem opN_Domain : OpN enc Tryz.prog W 64 domainSV Domain.In 6 := fun n cs y h => by
  obtain ⟨xs, m, _, _, hlen, hx, hg⟩ := DataW.trod_struct Tryz.underlying64 h
  have hlen : cs.length = 6 := hlen.trans (by kernel_rfl : Tryz.prog.cellsOf 64 = 6)
  have hx : xs.length = 6 := hx
  match cs, hlen with
  | [c0, c1, c2, c3, c4, c5], _ =>
    have g0 : DataW.trod enc Tryz.prog W 0 (fun _ => true) true m 3 (([c0, c1, c2, c3, c4, c5].drop 0).take (Tryz.prog.cellsOf 3)) = xs[0]? := hg 0 _ rfl
    rw [(by kernel_rfl : Tryz.prog.cellsOf 3 = 1), List.getElem?_eq_getElem (by omega)] at g0
    obtain ⟨z0, p0, r0, o0⟩ := op_int Tryz.underlying3 _ _ _ g0
    have g1 : DataW.trod enc Tryz.prog W 0 (fun _ => true) true m 3 (([c0, c1, c2, c3, c4, c5].drop 1).take (Tryz.prog.cellsOf 3)) = xs[1]? := hg 1 _ rfl
    rw [(by kernel_rfl : Tryz.prog.cellsOf 3 = 1), List.getElem?_eq_getElem (by omega)] at g1
    obtain ⟨z1, p1, r1, o1⟩ := op_int Tryz.underlying3 _ _ _ g1
    have g2 : DataW.trod enc Tryz.prog W 0 (fun _ => true) true m 3 (([c0, c1, c2, c3, c4, c5].drop 2).take (Tryz.prog.cellsOf 3)) = xs[2]? := hg 2 _ rfl
    rw [(by kernel_rfl : Tryz.prog.cellsOf 3 = 1), List.getElem?_eq_getElem (by omega)] at g2
    obtain ⟨z2, p2, r2, o2⟩ := op_int Tryz.underlying3 _ _ _ g2
    have g3 : DataW.trod enc Tryz.prog W 0 (fun _ => true) true m 3 (([c0, c1, c2, c3, c4, c5].drop 3).take (Tryz.prog.cellsOf 3)) = xs[3]? := hg 3 _ rfl
    rw [(by kernel_rfl : Tryz.prog.cellsOf 3 = 1), List.getElem?_eq_getElem (by omega)] at g3
    obtain ⟨z3, p3, r3, o3⟩ := op_int Tryz.underlying3 _ _ _ g3
    have g4 : DataW.trod enc Tryz.prog W 0 (fun _ => true) true m 3 (([c0, c1, c2, c3, c4, c5].drop 4).take (Tryz.prog.cellsOf 3)) = xs[4]? := hg 4 _ rfl
    rw [(by kernel_rfl : Tryz.prog.cellsOf 3 = 1), List.getElem?_eq_getElem (by omega)] at g4
    obtain ⟨z4, p4, r4, o4⟩ := op_int Tryz.underlying3 _ _ _ g4
    have g5 : DataW.trod enc Tryz.prog W 0 (fun _ => true) true m 60 (([c0, c1, c2, c3, c4, c5].drop 5).take (Tryz.prog.cellsOf 60)) = xs[5]? := hg 5 _ rfl
    rw [(by kernel_rfl : Tryz.prog.cellsOf 60 = 1), List.getElem?_eq_getElem (by omega)] at g5
    obtain ⟨z5, p5, r5, o5⟩ := op_ints _ _ _ g5
    refine ⟨⟨z0, z1, z2, z3, z4, z5⟩, ⟨p0, p1, p2, p3, p4, p5⟩, rfl, fun c hc => ?_, ?_⟩
    · simp only [List.mem_cons, List.not_mem_nil, or_false] at hc
      rcases hc with rfl | rfl | rfl | rfl | rfl | rfl <;> assumption
    · simp only [domainSV, cellsOf, RdL]
      exact ⟨_, _, rfl, r0, _, _, rfl, r1, _, _, rfl, r2, _, _, rfl, r3, _, _, rfl, r4, _, _, rfl, r5, rfl⟩

def Static.In (x : Static) : Prop := wI .i64 x.row ∧ wI .i64 x.domain ∧ wI .i64 x.port ∧ wI .u64 x.mac

theorem opN_Static : OpN enc Tryz.prog W 109 staticSV Static.In 4 := fun n cs y h => by
  obtain ⟨xs, m, _, _, hlen, hx, hg⟩ := DataW.trod_struct Tryz.underlying109 h
  have hlen : cs.length = 4 := hlen.trans (by kernel_rfl : Tryz.prog.cellsOf 109 = 4)
  have hx : xs.length = 4 := hx
  match cs, hlen with
  | [c0, c1, c2, c3], _ =>
    have g0 : DataW.trod enc Tryz.prog W 0 (fun _ => true) true m 3 (([c0, c1, c2, c3].drop 0).take (Tryz.prog.cellsOf 3)) = xs[0]? := hg 0 _ rfl
    rw [(by kernel_rfl : Tryz.prog.cellsOf 3 = 1), List.getElem?_eq_getElem (by omega)] at g0
    obtain ⟨z0, p0, r0, o0⟩ := op_int Tryz.underlying3 _ _ _ g0
    have g1 : DataW.trod enc Tryz.prog W 0 (fun _ => true) true m 3 (([c0, c1, c2, c3].drop 1).take (Tryz.prog.cellsOf 3)) = xs[1]? := hg 1 _ rfl
    rw [(by kernel_rfl : Tryz.prog.cellsOf 3 = 1), List.getElem?_eq_getElem (by omega)] at g1
    obtain ⟨z1, p1, r1, o1⟩ := op_int Tryz.underlying3 _ _ _ g1
    have g2 : DataW.trod enc Tryz.prog W 0 (fun _ => true) true m 3 (([c0, c1, c2, c3].drop 2).take (Tryz.prog.cellsOf 3)) = xs[2]? := hg 2 _ rfl
    rw [(by kernel_rfl : Tryz.prog.cellsOf 3 = 1), List.getElem?_eq_getElem (by omega)] at g2
    obtain ⟨z2, p2, r2, o2⟩ := op_int Tryz.underlying3 _ _ _ g2
    have g3 : DataW.trod enc Tryz.prog W 0 (fun _ => true) true m 70 (([c0, c1, c2, c3].drop 3).take (Tryz.prog.cellsOf 70)) = xs[3]? := hg 3 _ rfl
    rw [(by kernel_rfl : Tryz.prog.cellsOf 70 = 1), List.getElem?_eq_getElem (by omega)] at g3
    obtain ⟨z3, p3, r3, o3⟩ := op_int Tryz.underlying70 _ _ _ g3
    refine ⟨⟨z0, z1, z2, z3⟩, ⟨p0, p1, p2, p3⟩, rfl, fun c hc => ?_, ?_⟩
    · simp only [List.mem_cons, List.not_mem_nil, or_false] at hc
      rcases hc with rfl | rfl | rfl | rfl <;> assumption
    · simp only [staticSV, cellsOf, RdL]
      exact ⟨_, _, rfl, r0, _, _, rfl, r1, _, _, rfl, r2, _, _, rfl, r3, rfl⟩

def Flood.In (x : Flood) : Prop := wI .i64 x.row ∧ wI .i64 x.dev ∧ wI .i64 x.vni ∧ ((∀ z ∈ x.addrs, wI .u32 z) ∧ x.addrs.length ≤ maxLen)

theorem opN_Flood : OpN enc Tryz.prog W 67 floodSV Flood.In 4 := fun n cs y h => by
  obtain ⟨xs, m, _, _, hlen, hx, hg⟩ := DataW.trod_struct Tryz.underlying67 h
  have hlen : cs.length = 4 := hlen.trans (by kernel_rfl : Tryz.prog.cellsOf 67 = 4)
  have hx : xs.length = 4 := hx
  match cs, hlen with
  | [c0, c1, c2, c3], _ =>
    have g0 : DataW.trod enc Tryz.prog W 0 (fun _ => true) true m 3 (([c0, c1, c2, c3].drop 0).take (Tryz.prog.cellsOf 3)) = xs[0]? := hg 0 _ rfl
    rw [(by kernel_rfl : Tryz.prog.cellsOf 3 = 1), List.getElem?_eq_getElem (by omega)] at g0
    obtain ⟨z0, p0, r0, o0⟩ := op_int Tryz.underlying3 _ _ _ g0
    have g1 : DataW.trod enc Tryz.prog W 0 (fun _ => true) true m 3 (([c0, c1, c2, c3].drop 1).take (Tryz.prog.cellsOf 3)) = xs[1]? := hg 1 _ rfl
    rw [(by kernel_rfl : Tryz.prog.cellsOf 3 = 1), List.getElem?_eq_getElem (by omega)] at g1
    obtain ⟨z1, p1, r1, o1⟩ := op_int Tryz.underlying3 _ _ _ g1
    have g2 : DataW.trod enc Tryz.prog W 0 (fun _ => true) true m 3 (([c0, c1, c2, c3].drop 2).take (Tryz.prog.cellsOf 3)) = xs[2]? := hg 2 _ rfl
    rw [(by kernel_rfl : Tryz.prog.cellsOf 3 = 1), List.getElem?_eq_getElem (by omega)] at g2
    obtain ⟨z2, p2, r2, o2⟩ := op_int Tryz.underlying3 _ _ _ g2
    have g3 : DataW.trod enc Tryz.prog W 0 (fun _ => true) true m 65 (([c0, c1, c2, c3].drop 3).take (Tryz.prog.cellsOf 65)) = xs[3]? := hg 3 _ rfl
    rw [(by kernel_rfl : Tryz.prog.cellsOf 65 = 1), List.getElem?_eq_getElem (by omega)] at g3
    obtain ⟨z3, p3, r3, o3⟩ := op_u32s _ _ _ g3
    refine ⟨⟨z0, z1, z2, z3⟩, ⟨p0, p1, p2, p3⟩, rfl, fun c hc => ?_, ?_⟩
    · simp only [List.mem_cons, List.not_mem_nil, or_false] at hc
      rcases hc with rfl | rfl | rfl | rfl <;> assumption
    · simp only [floodSV, cellsOf, RdL]
      exact ⟨_, _, rfl, r0, _, _, rfl, r1, _, _, rfl, r2, _, _, rfl, r3, rfl⟩

def Vrf.In (x : Vrf) : Prop := wI .i64 x.row ∧ wI .i64 x.dev ∧ x.name.size ≤ maxLen ∧ ((∀ z ∈ x.imports, wI .i64 z) ∧ x.imports.length ≤ maxLen) ∧ ((∀ z ∈ x.exports, wI .i64 z) ∧ x.exports.length ≤ maxLen)

theorem opN_Vrf : OpN enc Tryz.prog W 69 vrfSV Vrf.In 5 := fun n cs y h => by
  obtain ⟨xs, m, _, _, hlen, hx, hg⟩ := DataW.trod_struct Tryz.underlying69 h
  have hlen : cs.length = 5 := hlen.trans (by kernel_rfl : Tryz.prog.cellsOf 69 = 5)
  have hx : xs.length = 5 := hx
  match cs, hlen with
  | [c0, c1, c2, c3, c4], _ =>
    have g0 : DataW.trod enc Tryz.prog W 0 (fun _ => true) true m 3 (([c0, c1, c2, c3, c4].drop 0).take (Tryz.prog.cellsOf 3)) = xs[0]? := hg 0 _ rfl
    rw [(by kernel_rfl : Tryz.prog.cellsOf 3 = 1), List.getElem?_eq_getElem (by omega)] at g0
    obtain ⟨z0, p0, r0, o0⟩ := op_int Tryz.underlying3 _ _ _ g0
    have g1 : DataW.trod enc Tryz.prog W 0 (fun _ => true) true m 3 (([c0, c1, c2, c3, c4].drop 1).take (Tryz.prog.cellsOf 3)) = xs[1]? := hg 1 _ rfl
    rw [(by kernel_rfl : Tryz.prog.cellsOf 3 = 1), List.getElem?_eq_getElem (by omega)] at g1
    obtain ⟨z1, p1, r1, o1⟩ := op_int Tryz.underlying3 _ _ _ g1
    have g2 : DataW.trod enc Tryz.prog W 0 (fun _ => true) true m 9 (([c0, c1, c2, c3, c4].drop 2).take (Tryz.prog.cellsOf 9)) = xs[2]? := hg 2 _ rfl
    rw [(by kernel_rfl : Tryz.prog.cellsOf 9 = 1), List.getElem?_eq_getElem (by omega)] at g2
    obtain ⟨z2, p2, r2, o2⟩ := op_str Tryz.underlying9 _ _ _ g2
    have g3 : DataW.trod enc Tryz.prog W 0 (fun _ => true) true m 60 (([c0, c1, c2, c3, c4].drop 3).take (Tryz.prog.cellsOf 60)) = xs[3]? := hg 3 _ rfl
    rw [(by kernel_rfl : Tryz.prog.cellsOf 60 = 1), List.getElem?_eq_getElem (by omega)] at g3
    obtain ⟨z3, p3, r3, o3⟩ := op_ints _ _ _ g3
    have g4 : DataW.trod enc Tryz.prog W 0 (fun _ => true) true m 60 (([c0, c1, c2, c3, c4].drop 4).take (Tryz.prog.cellsOf 60)) = xs[4]? := hg 4 _ rfl
    rw [(by kernel_rfl : Tryz.prog.cellsOf 60 = 1), List.getElem?_eq_getElem (by omega)] at g4
    obtain ⟨z4, p4, r4, o4⟩ := op_ints _ _ _ g4
    refine ⟨⟨z0, z1, z2, z3, z4⟩, ⟨p0, p1, p2, p3, p4⟩, rfl, fun c hc => ?_, ?_⟩
    · simp only [List.mem_cons, List.not_mem_nil, or_false] at hc
      rcases hc with rfl | rfl | rfl | rfl | rfl <;> assumption
    · simp only [vrfSV, cellsOf, RdL]
      exact ⟨_, _, rfl, r0, _, _, rfl, r1, _, _, rfl, r2, _, _, rfl, r3, _, _, rfl, r4, rfl⟩

def Irb.In (x : Irb) : Prop := wI .i64 x.row ∧ wI .i64 x.domain ∧ wI .i64 x.vrf ∧ wI .u32 x.addr ∧ wI .i64 x.bits

theorem opN_Irb : OpN enc Tryz.prog W 121 irbSV Irb.In 5 := fun n cs y h => by
  obtain ⟨xs, m, _, _, hlen, hx, hg⟩ := DataW.trod_struct Tryz.underlying121 h
  have hlen : cs.length = 5 := hlen.trans (by kernel_rfl : Tryz.prog.cellsOf 121 = 5)
  have hx : xs.length = 4 := hx
  match cs, hlen with
  | [c0, c1, c2, c3, c4], _ =>
    have g0 : DataW.trod enc Tryz.prog W 0 (fun _ => true) true m 3 (([c0, c1, c2, c3, c4].drop 0).take (Tryz.prog.cellsOf 3)) = xs[0]? := hg 0 _ rfl
    rw [(by kernel_rfl : Tryz.prog.cellsOf 3 = 1), List.getElem?_eq_getElem (by omega)] at g0
    obtain ⟨z0, p0, r0, o0⟩ := op_int Tryz.underlying3 _ _ _ g0
    have g1 : DataW.trod enc Tryz.prog W 0 (fun _ => true) true m 3 (([c0, c1, c2, c3, c4].drop 1).take (Tryz.prog.cellsOf 3)) = xs[1]? := hg 1 _ rfl
    rw [(by kernel_rfl : Tryz.prog.cellsOf 3 = 1), List.getElem?_eq_getElem (by omega)] at g1
    obtain ⟨z1, p1, r1, o1⟩ := op_int Tryz.underlying3 _ _ _ g1
    have g2 : DataW.trod enc Tryz.prog W 0 (fun _ => true) true m 3 (([c0, c1, c2, c3, c4].drop 2).take (Tryz.prog.cellsOf 3)) = xs[2]? := hg 2 _ rfl
    rw [(by kernel_rfl : Tryz.prog.cellsOf 3 = 1), List.getElem?_eq_getElem (by omega)] at g2
    obtain ⟨z2, p2, r2, o2⟩ := op_int Tryz.underlying3 _ _ _ g2
    have g3 : DataW.trod enc Tryz.prog W 0 (fun _ => true) true m 119 (([c0, c1, c2, c3, c4].drop 3).take (Tryz.prog.cellsOf 119)) = xs[3]? := hg 3 _ rfl
    rw [(by kernel_rfl : Tryz.prog.cellsOf 119 = 2), List.getElem?_eq_getElem (by omega)] at g3
    obtain ⟨ys, m', _, _, _, hy, hg'⟩ := DataW.trod_struct Tryz.underlying119 g3
    have hy : ys.length = 2 := hy
    have q0 : DataW.trod enc Tryz.prog W 0 (fun _ => true) true m' 71 (([c3, c4].drop 0).take (Tryz.prog.cellsOf 71)) = ys[0]? := hg' 0 _ rfl
    have q1 : DataW.trod enc Tryz.prog W 0 (fun _ => true) true m' 3 (([c3, c4].drop 1).take (Tryz.prog.cellsOf 3)) = ys[1]? := hg' 1 _ rfl
    rw [(by kernel_rfl : Tryz.prog.cellsOf 71 = 1), List.getElem?_eq_getElem (by omega)] at q0
    rw [(by kernel_rfl : Tryz.prog.cellsOf 3 = 1), List.getElem?_eq_getElem (by omega)] at q1
    obtain ⟨z3, p3, r3, o3⟩ := op_int Tryz.underlying71 _ _ _ q0
    obtain ⟨z4, p4, r4, o4⟩ := op_int Tryz.underlying3 _ _ _ q1
    refine ⟨⟨z0, z1, z2, z3, z4⟩, ⟨p0, p1, p2, p3, p4⟩, rfl, fun c hc => ?_, ?_⟩
    · simp only [List.mem_cons, List.not_mem_nil, or_false] at hc
      rcases hc with rfl | rfl | rfl | rfl | rfl <;> assumption
    · simp only [irbSV, cellsOf, RdL]
      exact ⟨_, _, rfl, r0, _, _, rfl, r1, _, _, rfl, r2, _, _, rfl, r3, _, _, rfl, r4, rfl⟩

structure Net.In (n : Net) : Prop where
  devices : (∀ x ∈ n.devices, Device.In x) ∧ n.devices.length ≤ maxLen
  ports : (∀ x ∈ n.ports, Port.In x) ∧ n.ports.length ≤ maxLen
  links : (∀ x ∈ n.links, Link.In x) ∧ n.links.length ≤ maxLen
  domains : (∀ x ∈ n.domains, Domain.In x) ∧ n.domains.length ≤ maxLen
  statics : (∀ x ∈ n.statics, Static.In x) ∧ n.statics.length ≤ maxLen
  floods : (∀ x ∈ n.floods, Flood.In x) ∧ n.floods.length ≤ maxLen
  vrfs : (∀ x ∈ n.vrfs, Vrf.In x) ∧ n.vrfs.length ≤ maxLen
  irbs : (∀ x ∈ n.irbs, Irb.In x) ∧ n.irbs.length ≤ maxLen

theorem opN_Net : OpN enc Tryz.prog W 31 netSV Net.In 8 := fun n cs y h => by
  obtain ⟨xs, m, _, _, hlen, hx, hg⟩ := DataW.trod_struct Tryz.underlying31 h
  have hlen : cs.length = 8 := hlen.trans (by kernel_rfl : Tryz.prog.cellsOf 31 = 8)
  have hx : xs.length = 8 := hx
  match cs, hlen with
  | [c0, c1, c2, c3, c4, c5, c6, c7], _ =>
    have g0 : DataW.trod enc Tryz.prog W 0 (fun _ => true) true m 22 (([c0, c1, c2, c3, c4, c5, c6, c7].drop 0).take (Tryz.prog.cellsOf 22)) = xs[0]? := hg 0 _ rfl
    rw [(by kernel_rfl : Tryz.prog.cellsOf 22 = 1), List.getElem?_eq_getElem (by omega)] at g0
    obtain ⟨z0, p0, r0, o0⟩ := op_slice Tryz.underlying22 (by kernel_rfl : Tryz.prog.cellsOf 73 = 5) (by decide) (fun _ => rfl) (fun _ => rfl) opN_Device _ _ _ g0
    have g1 : DataW.trod enc Tryz.prog W 0 (fun _ => true) true m 23 (([c0, c1, c2, c3, c4, c5, c6, c7].drop 1).take (Tryz.prog.cellsOf 23)) = xs[1]? := hg 1 _ rfl
    rw [(by kernel_rfl : Tryz.prog.cellsOf 23 = 1), List.getElem?_eq_getElem (by omega)] at g1
    obtain ⟨z1, p1, r1, o1⟩ := op_slice Tryz.underlying23 (by kernel_rfl : Tryz.prog.cellsOf 62 = 7) (by decide) (fun _ => rfl) (fun _ => rfl) opN_Port _ _ _ g1
    have g2 : DataW.trod enc Tryz.prog W 0 (fun _ => true) true m 24 (([c0, c1, c2, c3, c4, c5, c6, c7].drop 2).take (Tryz.prog.cellsOf 24)) = xs[2]? := hg 2 _ rfl
    rw [(by kernel_rfl : Tryz.prog.cellsOf 24 = 1), List.getElem?_eq_getElem (by omega)] at g2
    obtain ⟨z2, p2, r2, o2⟩ := op_slice Tryz.underlying24 (by kernel_rfl : Tryz.prog.cellsOf 105 = 3) (by decide) (fun _ => rfl) (fun _ => rfl) opN_Link _ _ _ g2
    have g3 : DataW.trod enc Tryz.prog W 0 (fun _ => true) true m 25 (([c0, c1, c2, c3, c4, c5, c6, c7].drop 3).take (Tryz.prog.cellsOf 25)) = xs[3]? := hg 3 _ rfl
    rw [(by kernel_rfl : Tryz.prog.cellsOf 25 = 1), List.getElem?_eq_getElem (by omega)] at g3
    obtain ⟨z3, p3, r3, o3⟩ := op_slice Tryz.underlying25 (by kernel_rfl : Tryz.prog.cellsOf 64 = 6) (by decide) (fun _ => rfl) (fun _ => rfl) opN_Domain _ _ _ g3
    have g4 : DataW.trod enc Tryz.prog W 0 (fun _ => true) true m 26 (([c0, c1, c2, c3, c4, c5, c6, c7].drop 4).take (Tryz.prog.cellsOf 26)) = xs[4]? := hg 4 _ rfl
    rw [(by kernel_rfl : Tryz.prog.cellsOf 26 = 1), List.getElem?_eq_getElem (by omega)] at g4
    obtain ⟨z4, p4, r4, o4⟩ := op_slice Tryz.underlying26 (by kernel_rfl : Tryz.prog.cellsOf 109 = 4) (by decide) (fun _ => rfl) (fun _ => rfl) opN_Static _ _ _ g4
    have g5 : DataW.trod enc Tryz.prog W 0 (fun _ => true) true m 27 (([c0, c1, c2, c3, c4, c5, c6, c7].drop 5).take (Tryz.prog.cellsOf 27)) = xs[5]? := hg 5 _ rfl
    rw [(by kernel_rfl : Tryz.prog.cellsOf 27 = 1), List.getElem?_eq_getElem (by omega)] at g5
    obtain ⟨z5, p5, r5, o5⟩ := op_slice Tryz.underlying27 (by kernel_rfl : Tryz.prog.cellsOf 67 = 4) (by decide) (fun _ => rfl) (fun _ => rfl) opN_Flood _ _ _ g5
    have g6 : DataW.trod enc Tryz.prog W 0 (fun _ => true) true m 28 (([c0, c1, c2, c3, c4, c5, c6, c7].drop 6).take (Tryz.prog.cellsOf 28)) = xs[6]? := hg 6 _ rfl
    rw [(by kernel_rfl : Tryz.prog.cellsOf 28 = 1), List.getElem?_eq_getElem (by omega)] at g6
    obtain ⟨z6, p6, r6, o6⟩ := op_slice Tryz.underlying28 (by kernel_rfl : Tryz.prog.cellsOf 69 = 5) (by decide) (fun _ => rfl) (fun _ => rfl) opN_Vrf _ _ _ g6
    have g7 : DataW.trod enc Tryz.prog W 0 (fun _ => true) true m 29 (([c0, c1, c2, c3, c4, c5, c6, c7].drop 7).take (Tryz.prog.cellsOf 29)) = xs[7]? := hg 7 _ rfl
    rw [(by kernel_rfl : Tryz.prog.cellsOf 29 = 1), List.getElem?_eq_getElem (by omega)] at g7
    obtain ⟨z7, p7, r7, o7⟩ := op_slice Tryz.underlying29 (by kernel_rfl : Tryz.prog.cellsOf 121 = 5) (by decide) (fun _ => rfl) (fun _ => rfl) opN_Irb _ _ _ g7
    refine ⟨⟨z0, z1, z2, z3, z4, z5, z6, z7⟩, ⟨p0, p1, p2, p3, p4, p5, p6, p7⟩, rfl, fun c hc => ?_, ?_⟩
    · simp only [List.mem_cons, List.not_mem_nil, or_false] at hc
      rcases hc with rfl | rfl | rfl | rfl | rfl | rfl | rfl | rfl <;> assumption
    · simp only [netSV, cellsOf, RdL]
      exact ⟨_, _, rfl, r0, _, _, rfl, r1, _, _, rfl, r2, _, _, rfl, r3, _, _, rfl, r4, _, _, rfl, r5, _, _, rfl, r6, _, _, rfl, r7, rfl⟩

/-- An argument that is a struct. -/
theorem rd_struct {t : TypeId} {fs : Array Field} {α : Type} {e : α → SV} {p : α → Prop} {sz base : Nat} {v : Value} {d : DataW H} {ps : List MemPlace} (ht : Tryz.prog.underlying t = some (.struct fs)) (hO : OpN enc Tryz.prog W t e p sz) (he : ∀ x, e x = .agg (cellsOf (e x)))
    (hval : Value.okWide Tryz.prog W .any base t v) (h1 : DataW.Trod enc Tryz.prog W 0 (fun _ => true) true t v d ps) : ∃ x, p x ∧ Rd κ0 W (e x) v := by
  obtain ⟨cs, rfl, _⟩ := okWide_struct ht hval
  obtain ⟨fuel, hf⟩ := h1
  obtain ⟨x, h1, _, h2, h3⟩ := hO _ _ _ hf
  refine ⟨x, h1, ?_⟩
  rw [he x]
  simp only [Rd]
  exact ⟨cs.toList, by simp, by simpa [Value.cells] using h2, by simpa [Value.cells] using h3⟩

theorem rd_net {base : Nat} {v : Value} {d : DataW H} {ps : List MemPlace} (hval : Value.okWide Tryz.prog W .any base 31 v) (h1 : DataW.Trod enc Tryz.prog W 0 (fun _ => true) true 31 v d ps) : ∃ n : Net, n.In ∧ Rd κ0 W (netSV n) v :=
  rd_struct Tryz.underlying31 opN_Net (fun _ => rfl) hval h1

/-- An argument that is a slice. -/
theorem rd_slice {t et : TypeId} {α : Type} {e : α → SV} {p : List α → Prop} {sz base : Nat} {v : Value} {d : DataW H} {ps : List MemPlace} (ht : Tryz.prog.underlying t = some (.slice et)) (hO : Op1 enc Tryz.prog W t (fun l : List α => .sl sz e l) p)
    (hval : Value.okWide Tryz.prog W .any base t v) (h1 : DataW.Trod enc Tryz.prog W 0 (fun _ => true) true t v d ps) : ∃ l, p l ∧ Rd κ0 W (.sl sz e l) v := by
  obtain ⟨a, len, cap, rfl⟩ := okWide_slice ht hval
  obtain ⟨fuel, hf⟩ := h1
  obtain ⟨x, h1, h2, _⟩ := hO _ _ _ hf
  exact ⟨x, h1, h2⟩
end
end Go.Sy.YtjomehmhkcnadaaGreatDoor

namespace Go.Sy.YtjomehmhkcnadaaGreatDoor
open Go.Proofs Go.ChangeShapes Go.WideShapes Go.ChangeAt Go.RowKit

set_option maxRecDepth 100000
section
variable {H : Type} {enc : TypeId × Value → H} {W : World}

theorem opN_byte {P : Program} {t : TypeId} (ht : P.underlying t = some (.int .u8)) : OpN enc P W t byteSV (fun _ => True) 1 := fun n cs y h => by
  obtain ⟨z, h1, h2, h3, h4⟩ := opN_int ht n cs y h
  have hz : 0 ≤ z ∧ z < 256 := by
    simp only [Lit.wf, Bool.and_eq_true, decide_eq_true_eq] at h1
    have a := h1.1
    have b := h1.2
    simp only [IntKind.min, IntKind.max, IntKind.signed, IntKind.bits] at a b
    constructor <;> simp at a b <;> omega
  refine ⟨UInt8.ofNat z.toNat, trivial, h2, h3, ?_⟩
  have e : byteSV (UInt8.ofNat z.toNat) = .val (.int .u8 z) := by
    rw [byteSV, UInt8.toNat_ofNat_of_lt' (by show _ < 256; omega), Int.toNat_of_nonneg hz.1]
  rw [e]; exact h4

theorem op_bytes : Op1 enc Tryz.prog W 33 (fun l : List UInt8 => .sl 1 byteSV l) (fun l => (∀ x ∈ l, True) ∧ l.length ≤ maxLen) :=
  op_slice Tryz.underlying33 (by kernel_rfl : Tryz.prog.cellsOf 5 = 1) (by decide) (fun _ => rfl) (fun _ => rfl) (opN_byte Tryz.underlying5)

theorem op_bools : Op1 enc Tryz.prog W 74 (fun l : List Bool => .sl 1 boolSV l) (fun l => (∀ x ∈ l, True) ∧ l.length ≤ maxLen) :=
  op_slice Tryz.underlying74 (by kernel_rfl : Tryz.prog.cellsOf 4 = 1) (by decide) (fun _ => rfl) (fun _ => rfl) (opN_bool Tryz.underlying4)

def StepM.In (x : StepM) : Prop := wI .i64 x.kind ∧ wI .i64 x.port ∧ wI .i64 x.domain ∧ wI .i64 x.at_ ∧ ((∀ y ∈ x.bytes, True) ∧ x.bytes.length ≤ maxLen) ∧ ((∀ y ∈ x.up, True) ∧ x.up.length ≤ maxLen)

theorem opN_StepM : OpN enc Tryz.prog W 76 stepSV StepM.In 6 := fun n cs y h => by
  obtain ⟨xs, m, _, _, hlen, hx, hg⟩ := DataW.trod_struct Tryz.underlying76 h
  have hlen : cs.length = 6 := hlen.trans (by kernel_rfl : Tryz.prog.cellsOf 76 = 6)
  have hx : xs.length = 6 := hx
  match cs, hlen with
  | [c0, c1, c2, c3, c4, c5], _ =>
    have g0 : DataW.trod enc Tryz.prog W 0 (fun _ => true) true m 3 (([c0, c1, c2, c3, c4, c5].drop 0).take (Tryz.prog.cellsOf 3)) = xs[0]? := hg 0 _ rfl
    rw [(by kernel_rfl : Tryz.prog.cellsOf 3 = 1), List.getElem?_eq_getElem (by omega)] at g0
    obtain ⟨z0, p0, r0, o0⟩ := op_int Tryz.underlying3 _ _ _ g0
    have g1 : DataW.trod enc Tryz.prog W 0 (fun _ => true) true m 3 (([c0, c1, c2, c3, c4, c5].drop 1).take (Tryz.prog.cellsOf 3)) = xs[1]? := hg 1 _ rfl
    rw [(by kernel_rfl : Tryz.prog.cellsOf 3 = 1), List.getElem?_eq_getElem (by omega)] at g1
    obtain ⟨z1, p1, r1, o1⟩ := op_int Tryz.underlying3 _ _ _ g1
    have g2 : DataW.trod enc Tryz.prog W 0 (fun _ => true) true m 3 (([c0, c1, c2, c3, c4, c5].drop 2).take (Tryz.prog.cellsOf 3)) = xs[2]? := hg 2 _ rfl
    rw [(by kernel_rfl : Tryz.prog.cellsOf 3 = 1), List.getElem?_eq_getElem (by omega)] at g2
    obtain ⟨z2, p2, r2, o2⟩ := op_int Tryz.underlying3 _ _ _ g2
    have g3 : DataW.trod enc Tryz.prog W 0 (fun _ => true) true m 3 (([c0, c1, c2, c3, c4, c5].drop 3).take (Tryz.prog.cellsOf 3)) = xs[3]? := hg 3 _ rfl
    rw [(by kernel_rfl : Tryz.prog.cellsOf 3 = 1), List.getElem?_eq_getElem (by omega)] at g3
    obtain ⟨z3, p3, r3, o3⟩ := op_int Tryz.underlying3 _ _ _ g3
    have g4 : DataW.trod enc Tryz.prog W 0 (fun _ => true) true m 33 (([c0, c1, c2, c3, c4, c5].drop 4).take (Tryz.prog.cellsOf 33)) = xs[4]? := hg 4 _ rfl
    rw [(by kernel_rfl : Tryz.prog.cellsOf 33 = 1), List.getElem?_eq_getElem (by omega)] at g4
    obtain ⟨z4, p4, r4, o4⟩ := op_bytes _ _ _ g4
    have g5 : DataW.trod enc Tryz.prog W 0 (fun _ => true) true m 74 (([c0, c1, c2, c3, c4, c5].drop 5).take (Tryz.prog.cellsOf 74)) = xs[5]? := hg 5 _ rfl
    rw [(by kernel_rfl : Tryz.prog.cellsOf 74 = 1), List.getElem?_eq_getElem (by omega)] at g5
    obtain ⟨z5, p5, r5, o5⟩ := op_bools _ _ _ g5
    refine ⟨⟨z0, z1, z2, z3, z4, z5⟩, ⟨p0, p1, p2, p3, p4, p5⟩, rfl, fun c hc => ?_, ?_⟩
    · simp only [List.mem_cons, List.not_mem_nil, or_false] at hc
      rcases hc with rfl | rfl | rfl | rfl | rfl | rfl <;> assumption
    · simp only [stepSV, cellsOf, RdL]
      exact ⟨_, _, rfl, r0, _, _, rfl, r1, _, _, rfl, r2, _, _, rfl, r3, _, _, rfl, r4, _, _, rfl, r5, rfl⟩

theorem op_steps : Op1 enc Tryz.prog W 32 (fun l : List StepM => .sl 6 stepSV l) (fun l => (∀ x ∈ l, StepM.In x) ∧ l.length ≤ maxLen) :=
  op_slice Tryz.underlying32 (by kernel_rfl : Tryz.prog.cellsOf 76 = 6) (by decide) (fun _ => rfl) (fun _ => rfl) opN_StepM

def SeenM.In (x : SeenM) : Prop := wI .i64 x.port ∧ wI .i64 x.origin ∧ ((∀ y ∈ x.bytes, True) ∧ x.bytes.length ≤ maxLen)

theorem opN_SeenM : OpN enc Tryz.prog W 52 seenSV SeenM.In 3 := fun n cs y h => by
  obtain ⟨xs, m, _, _, hlen, hx, hg⟩ := DataW.trod_struct Tryz.underlying52 h
  have hlen : cs.length = 3 := hlen.trans (by kernel_rfl : Tryz.prog.cellsOf 52 = 3)
  have hx : xs.length = 3 := hx
  match cs, hlen with
  | [c0, c1, c2], _ =>
    have g0 : DataW.trod enc Tryz.prog W 0 (fun _ => true) true m 3 (([c0, c1, c2].drop 0).take (Tryz.prog.cellsOf 3)) = xs[0]? := hg 0 _ rfl
    rw [(by kernel_rfl : Tryz.prog.cellsOf 3 = 1), List.getElem?_eq_getElem (by omega)] at g0
    obtain ⟨z0, p0, r0, o0⟩ := op_int Tryz.underlying3 _ _ _ g0
    have g1 : DataW.trod enc Tryz.prog W 0 (fun _ => true) true m 3 (([c0, c1, c2].drop 1).take (Tryz.prog.cellsOf 3)) = xs[1]? := hg 1 _ rfl
    rw [(by kernel_rfl : Tryz.prog.cellsOf 3 = 1), List.getElem?_eq_getElem (by omega)] at g1
    obtain ⟨z1, p1, r1, o1⟩ := op_int Tryz.underlying3 _ _ _ g1
    have g2 : DataW.trod enc Tryz.prog W 0 (fun _ => true) true m 33 (([c0, c1, c2].drop 2).take (Tryz.prog.cellsOf 33)) = xs[2]? := hg 2 _ rfl
    rw [(by kernel_rfl : Tryz.prog.cellsOf 33 = 1), List.getElem?_eq_getElem (by omega)] at g2
    obtain ⟨z2, p2, r2, o2⟩ := op_bytes _ _ _ g2
    refine ⟨⟨z0, z1, z2⟩, ⟨p0, p1, p2⟩, rfl, fun c hc => ?_, ?_⟩
    · simp only [List.mem_cons, List.not_mem_nil, or_false] at hc
      rcases hc with rfl | rfl | rfl <;> assumption
    · simp only [seenSV, cellsOf, RdL]
      exact ⟨_, _, rfl, r0, _, _, rfl, r1, _, _, rfl, r2, rfl⟩

def ReportM.In (x : ReportM) : Prop := wI .i64 x.kind ∧ wI .i64 x.where_ ∧ wI .i64 x.row ∧ wI .i64 x.error ∧ wI .i64 x.from_ ∧ wI .i64 x.to ∧ ((∀ y ∈ x.script, StepM.In y) ∧ x.script.length ≤ maxLen)

theorem opN_ReportM : OpN enc Tryz.prog W 50 reportSV ReportM.In 7 := fun n cs y h => by
  obtain ⟨xs, m, _, _, hlen, hx, hg⟩ := DataW.trod_struct Tryz.underlying50 h
  have hlen : cs.length = 7 := hlen.trans (by kernel_rfl : Tryz.prog.cellsOf 50 = 7)
  have hx : xs.length = 7 := hx
  match cs, hlen with
  | [c0, c1, c2, c3, c4, c5, c6], _ =>
    have g0 : DataW.trod enc Tryz.prog W 0 (fun _ => true) true m 3 (([c0, c1, c2, c3, c4, c5, c6].drop 0).take (Tryz.prog.cellsOf 3)) = xs[0]? := hg 0 _ rfl
    rw [(by kernel_rfl : Tryz.prog.cellsOf 3 = 1), List.getElem?_eq_getElem (by omega)] at g0
    obtain ⟨z0, p0, r0, o0⟩ := op_int Tryz.underlying3 _ _ _ g0
    have g1 : DataW.trod enc Tryz.prog W 0 (fun _ => true) true m 3 (([c0, c1, c2, c3, c4, c5, c6].drop 1).take (Tryz.prog.cellsOf 3)) = xs[1]? := hg 1 _ rfl
    rw [(by kernel_rfl : Tryz.prog.cellsOf 3 = 1), List.getElem?_eq_getElem (by omega)] at g1
    obtain ⟨z1, p1, r1, o1⟩ := op_int Tryz.underlying3 _ _ _ g1
    have g2 : DataW.trod enc Tryz.prog W 0 (fun _ => true) true m 3 (([c0, c1, c2, c3, c4, c5, c6].drop 2).take (Tryz.prog.cellsOf 3)) = xs[2]? := hg 2 _ rfl
    rw [(by kernel_rfl : Tryz.prog.cellsOf 3 = 1), List.getElem?_eq_getElem (by omega)] at g2
    obtain ⟨z2, p2, r2, o2⟩ := op_int Tryz.underlying3 _ _ _ g2
    have g3 : DataW.trod enc Tryz.prog W 0 (fun _ => true) true m 37 (([c0, c1, c2, c3, c4, c5, c6].drop 3).take (Tryz.prog.cellsOf 37)) = xs[3]? := hg 3 _ rfl
    rw [(by kernel_rfl : Tryz.prog.cellsOf 37 = 1), List.getElem?_eq_getElem (by omega)] at g3
    obtain ⟨z3, p3, r3, o3⟩ := op_int Tryz.underlying37 _ _ _ g3
    have g4 : DataW.trod enc Tryz.prog W 0 (fun _ => true) true m 3 (([c0, c1, c2, c3, c4, c5, c6].drop 4).take (Tryz.prog.cellsOf 3)) = xs[4]? := hg 4 _ rfl
    rw [(by kernel_rfl : Tryz.prog.cellsOf 3 = 1), List.getElem?_eq_getElem (by omega)] at g4
    obtain ⟨z4, p4, r4, o4⟩ := op_int Tryz.underlying3 _ _ _ g4
    have g5 : DataW.trod enc Tryz.prog W 0 (fun _ => true) true m 3 (([c0, c1, c2, c3, c4, c5, c6].drop 5).take (Tryz.prog.cellsOf 3)) = xs[5]? := hg 5 _ rfl
    rw [(by kernel_rfl : Tryz.prog.cellsOf 3 = 1), List.getElem?_eq_getElem (by omega)] at g5
    obtain ⟨z5, p5, r5, o5⟩ := op_int Tryz.underlying3 _ _ _ g5
    have g6 : DataW.trod enc Tryz.prog W 0 (fun _ => true) true m 32 (([c0, c1, c2, c3, c4, c5, c6].drop 6).take (Tryz.prog.cellsOf 32)) = xs[6]? := hg 6 _ rfl
    rw [(by kernel_rfl : Tryz.prog.cellsOf 32 = 1), List.getElem?_eq_getElem (by omega)] at g6
    obtain ⟨z6, p6, r6, o6⟩ := op_steps _ _ _ g6
    refine ⟨⟨z0, z1, z2, z3, z4, z5, z6⟩, ⟨p0, p1, p2, p3, p4, p5, p6⟩, rfl, fun c hc => ?_, ?_⟩
    · simp only [List.mem_cons, List.not_mem_nil, or_false] at hc
      rcases hc with rfl | rfl | rfl | rfl | rfl | rfl | rfl <;> assumption
    · simp only [reportSV, cellsOf, RdL]
      exact ⟨_, _, rfl, r0, _, _, rfl, r1, _, _, rfl, r2, _, _, rfl, r3, _, _, rfl, r4, _, _, rfl, r5, _, _, rfl, r6, rfl⟩

end
theorem wI_word {z : Int} (h : wI .i64 z) : Word64 z := by
  simp only [wI, Lit.wf, Bool.and_eq_true, decide_eq_true_eq, IntKind.max_i64] at h
  have e : IntKind.min .i64 = -9223372036854775808 := by decide
  rw [e] at h
  unfold Word64
  omega
end Go.Sy.YtjomehmhkcnadaaGreatDoor
