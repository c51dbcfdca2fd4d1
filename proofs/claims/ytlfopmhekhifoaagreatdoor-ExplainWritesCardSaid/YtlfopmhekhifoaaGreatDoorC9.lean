/-
  Contracts: vectors, 4: costs, great nets, lists of numbers, the least vector. Contracts: vectors, 5: great nets, the least vector, the example. Contracts: the laws of vectors, 1. Contracts: the laws of vectors, 2. What nets that may be are; a link's other end; rows that are made with nil in them.
-/
import Derived.Test.YtlfopmhekhifoaaGreatDoorC8
import Derived.Test.YtlfopmhekhifoaaGreatDoorC4
import Derived.Test.YtlfopmhekhifoaaGreatDoorC7

namespace Go.Sy.YtlfopmhekhifoaaGreatDoor
open Go.Proofs
-- SIMP: placeB

attribute [local irreducible] Go.Sy.G Go.Sy.DR
set_option maxRecDepth 20000
set_option maxHeartbeats 4000000

def badCost (p : Port) : Bool := decide (p.cost < 1) || decide (p.cost > 65535)

def costsB (n : Net) : Bool := !(n.ports.any badCost)

def greatB (n : Net) : Bool :=
  decide (200 < n.devices.length) || decide (200 < n.ports.length) || decide (200 < n.links.length) || decide (200 < n.domains.length) || decide (200 < n.statics.length) || decide (200 < n.floods.length) || decide (200 < n.vrfs.length) || decide (200 < n.irbs.length) ||
    n.ports.any (fun p => decide (100 < p.tagged.length)) || n.domains.any (fun d => decide (100 < d.peers.length)) || n.floods.any (fun f => decide (100 < f.addrs.length)) || n.vrfs.any (fun v => decide (100 < v.imports.length) || decide (100 < v.exports.length))

theorem fin_of_great {n : Net} (h : greatB n = false) : n.Fin := by
  simp only [greatB, Bool.or_eq_false_iff, decide_eq_false_iff_not, List.any_eq_false, decide_eq_true_eq, Bool.or_eq_true, not_or] at h
  obtain ⟨⟨⟨⟨⟨⟨⟨⟨⟨⟨⟨h1, h2⟩, h3⟩, h4⟩, h5⟩, h6⟩, h7⟩, h8⟩, h9⟩, h10⟩, h11⟩, h12⟩ := h
  exact ⟨by unfold Short; omega, by unfold Short; omega, by unfold Short; omega, by unfold Short; omega, by unfold Short; omega, by unfold Short; omega, by unfold Short; omega, by unfold Short; omega,
    fun p hp => by have := h9 p hp; unfold Short; omega, fun p hp => by have := h10 p hp; unfold Short; omega, fun p hp => by have := h11 p hp; unfold Short; omega, fun p hp => by have := h12 p hp; unfold Short; omega, fun p hp => by have := h12 p hp; unfold Short; omega⟩
end Go.Sy.YtlfopmhekhifoaaGreatDoor

namespace Go.Sy.YtlfopmhekhifoaaGreatDoor
open Go.Proofs
-- SIMP: placeB
-- OM: decide

attribute [local irreducible] Go.Sy.G Go.Sy.DR
set_option maxRecDepth 20000
set_option maxHeartbeats 4000000

theorem great1 {n : Net} (h : n.ports.any (fun p => decide (100 < p.tagged.length)) = true) : greatB n = true := by simp only [greatB, h, Bool.or_true, Bool.true_or]
theorem great2 {n : Net} (h : n.domains.any (fun p => decide (100 < p.peers.length)) = true) : greatB n = true := by simp only [greatB, h, Bool.or_true, Bool.true_or]
theorem great3 {n : Net} (h : n.floods.any (fun p => decide (100 < p.addrs.length)) = true) : greatB n = true := by simp only [greatB, h, Bool.or_true, Bool.true_or]
theorem great4 {n : Net} (h : n.vrfs.any (fun v => decide (100 < v.imports.length) || decide (100 < v.exports.length)) = true) : greatB n = true := by simp only [greatB, h, Bool.or_true]

theorem greatS (n : Net) : Sy.Spec Tryz.prog 14 [netSV n] [] (boolSV (greatB n)) [] := contract Γ hm 100 F14 Tryz.ntmps14 rfl fun F hF => by
  ((conv=>whnf);repeat((first|refine aF ?_|refine aT ?_);(first|refine rG Γ hm ?_|refine rD Γ hm (by kernel_rfl) ?_);conv=>whnf))
  (repeat' (first | (refine ⟨fun h => ?_, fun h => ?_⟩ <;> (repeat (first | (simp only [placeB] at h) | (simp only [decide_eq_true_eq] at h) | (simp only [decide_eq_false_iff_not] at h) | (simp only [beq_iff_eq] at h) | (simp only [beq_eq_false_iff_ne] at h) | (simp only [bne_iff_ne] at h) | (simp only [bne_eq_false_iff_eq] at h) | (simp only [Bool.and_eq_true] at h) | (simp only [Bool.or_eq_true] at h) | (simp only [Bool.and_eq_false_iff] at h) | (simp only [Bool.or_eq_false_iff] at h) | (simp only [Bool.not_eq_true'] at h) | (simp only [Bool.not_eq_false'] at h) | (simp only [Bool.not_eq_eq_eq_not] at h) | (simp only [Bool.not_true] at h) | (simp only [Bool.not_false] at h))) <;> ((first|refine rG Γ hm ?_|refine rD Γ hm (by kernel_rfl) ?_);(conv=>whnf);repeat((first|refine aF ?_|refine aT ?_);(first|refine rG Γ hm ?_|refine rD Γ hm (by kernel_rfl) ?_);conv=>whnf))) | (refine done0 rfl (.cons .tmp .nil) ?_ rfl) | (refine ⟨(by kernel_rfl), ?_⟩; ((conv=>whnf);repeat((first|refine aF ?_|refine aT ?_);(first|refine rG Γ hm ?_|refine rD Γ hm (by kernel_rfl) ?_);conv=>whnf))) | (refine ⟨by (first | (unfold I64; omega) | omega | (simp only [Int.toNat_natCast]; omega) | decide), by (first | (unfold I64; omega) | omega | (simp only [Int.toNat_natCast]; omega) | decide), ?_⟩; ((conv=>whnf);repeat((first|refine aF ?_|refine aT ?_);(first|refine rG Γ hm ?_|refine rD Γ hm (by kernel_rfl) ?_);conv=>whnf))) | (refine ⟨by (first | (unfold I64; omega) | omega | (simp only [Int.toNat_natCast]; omega) | decide), ?_⟩; ((conv=>whnf);repeat((first|refine aF ?_|refine aT ?_);(first|refine rG Γ hm ?_|refine rD Γ hm (by kernel_rfl) ?_);conv=>whnf)))))
  all_goals first
    | (refine congrArg boolSV ?_; clear hF; grind [greatB])
    | skip
  have l1 : n.ports.length ≤ 200 := by omega
  have l2 : n.domains.length ≤ 200 := by omega
  have l3 : n.floods.length ≤ 200 := by omega
  have l4 : n.vrfs.length ≤ 200 := by omega
  refine G_box 1 8 (netSV n) rfl rfl rfl ?_
  refine G_countP n.ports.length (fun j => Upto (fun _ p => !(decide (100 < p.tagged.length))) n.ports j) (fun j => [(1, .ref 8 (netSV n) 0), (3, intSV j)]) (fun _ => []) [] (upto_zero _ _) ⟨⟨rfl, rfl, rfl, rfl, trivial⟩, trivial, rfl, rfl⟩ ?_
  intro j hj hI
  ((first|refine rG Γ hm ?_|refine rD Γ hm (by kernel_rfl) ?_);(conv=>whnf);repeat((first|refine aF ?_|refine aT ?_);(first|refine rG Γ hm ?_|refine rD Γ hm (by kernel_rfl) ?_);conv=>whnf))
  refine ⟨fun h => ?_, fun h => ?_⟩
  · have hjl : j < n.ports.length := by simpa using h
    ((first|refine rG Γ hm ?_|refine rD Γ hm (by kernel_rfl) ?_);(conv=>whnf);repeat((first|refine aF ?_|refine aT ?_);(first|refine rG Γ hm ?_|refine rD Γ hm (by kernel_rfl) ?_);conv=>whnf))
    (repeat' (first | (refine ⟨fun h => ?_, fun h => ?_⟩ <;> (repeat (first | (simp only [placeB] at h) | (simp only [decide_eq_true_eq] at h) | (simp only [decide_eq_false_iff_not] at h) | (simp only [beq_iff_eq] at h) | (simp only [beq_eq_false_iff_ne] at h) | (simp only [bne_iff_ne] at h) | (simp only [bne_eq_false_iff_eq] at h) | (simp only [Bool.and_eq_true] at h) | (simp only [Bool.or_eq_true] at h) | (simp only [Bool.and_eq_false_iff] at h) | (simp only [Bool.or_eq_false_iff] at h) | (simp only [Bool.not_eq_true'] at h) | (simp only [Bool.not_eq_false'] at h) | (simp only [Bool.not_eq_eq_eq_not] at h) | (simp only [Bool.not_true] at h) | (simp only [Bool.not_false] at h))) <;> ((first|refine rG Γ hm ?_|refine rD Γ hm (by kernel_rfl) ?_);(conv=>whnf);repeat((first|refine aF ?_|refine aT ?_);(first|refine rG Γ hm ?_|refine rD Γ hm (by kernel_rfl) ?_);conv=>whnf))) | (refine done0 rfl (.cons .tmp .nil) ?_ rfl) | (refine ⟨(by kernel_rfl), ?_⟩; ((conv=>whnf);repeat((first|refine aF ?_|refine aT ?_);(first|refine rG Γ hm ?_|refine rD Γ hm (by kernel_rfl) ?_);conv=>whnf))) | (refine ⟨by (first | (unfold I64; omega) | omega | (simp only [Int.toNat_natCast]; omega) | decide), by (first | (unfold I64; omega) | omega | (simp only [Int.toNat_natCast]; omega) | decide), ?_⟩; ((conv=>whnf);repeat((first|refine aF ?_|refine aT ?_);(first|refine rG Γ hm ?_|refine rD Γ hm (by kernel_rfl) ?_);conv=>whnf))) | (refine ⟨by (first | (unfold I64; omega) | omega | (simp only [Int.toNat_natCast]; omega) | decide), ?_⟩; ((conv=>whnf);repeat((first|refine aF ?_|refine aT ?_);(first|refine rG Γ hm ?_|refine rD Γ hm (by kernel_rfl) ?_);conv=>whnf))) | (refine G_nextP [] hI hjl ?_ ⟨⟨rfl, rfl, rfl, rfl, trivial⟩, trivial, rfl, rfl⟩)))
    all_goals (simp only [Int.toNat_natCast] at *)
    · refine congrArg boolSV ?_
      exact great1 (any_true hjl (by simp; omega))
    · exact upto_next hI hjl (by simp; omega)
  have a1 : n.ports.any (fun p => decide (100 < p.tagged.length)) = false := any_false hI (by simpa using h)
  clear hI hj h
  ((first|refine rG Γ hm ?_|refine rD Γ hm (by kernel_rfl) ?_);(conv=>whnf);repeat((first|refine aF ?_|refine aT ?_);(first|refine rG Γ hm ?_|refine rD Γ hm (by kernel_rfl) ?_);conv=>whnf))
  refine G_countP n.domains.length (fun j => Upto (fun _ p => !(decide (100 < p.peers.length))) n.domains j) (fun j => [(1, .ref 8 (netSV n) 0), (4, intSV j)]) (fun _ => []) [] (upto_zero _ _) ⟨⟨rfl, rfl, rfl, rfl, trivial⟩, trivial, rfl, rfl⟩ ?_
  intro j hj hI
  ((first|refine rG Γ hm ?_|refine rD Γ hm (by kernel_rfl) ?_);(conv=>whnf);repeat((first|refine aF ?_|refine aT ?_);(first|refine rG Γ hm ?_|refine rD Γ hm (by kernel_rfl) ?_);conv=>whnf))
  refine ⟨fun h => ?_, fun h => ?_⟩
  · have hjl : j < n.domains.length := by simpa using h
    ((first|refine rG Γ hm ?_|refine rD Γ hm (by kernel_rfl) ?_);(conv=>whnf);repeat((first|refine aF ?_|refine aT ?_);(first|refine rG Γ hm ?_|refine rD Γ hm (by kernel_rfl) ?_);conv=>whnf))
    (repeat' (first | (refine ⟨fun h => ?_, fun h => ?_⟩ <;> (repeat (first | (simp only [placeB] at h) | (simp only [decide_eq_true_eq] at h) | (simp only [decide_eq_false_iff_not] at h) | (simp only [beq_iff_eq] at h) | (simp only [beq_eq_false_iff_ne] at h) | (simp only [bne_iff_ne] at h) | (simp only [bne_eq_false_iff_eq] at h) | (simp only [Bool.and_eq_true] at h) | (simp only [Bool.or_eq_true] at h) | (simp only [Bool.and_eq_false_iff] at h) | (simp only [Bool.or_eq_false_iff] at h) | (simp only [Bool.not_eq_true'] at h) | (simp only [Bool.not_eq_false'] at h) | (simp only [Bool.not_eq_eq_eq_not] at h) | (simp only [Bool.not_true] at h) | (simp only [Bool.not_false] at h))) <;> ((first|refine rG Γ hm ?_|refine rD Γ hm (by kernel_rfl) ?_);(conv=>whnf);repeat((first|refine aF ?_|refine aT ?_);(first|refine rG Γ hm ?_|refine rD Γ hm (by kernel_rfl) ?_);conv=>whnf))) | (refine done0 rfl (.cons .tmp .nil) ?_ rfl) | (refine ⟨(by kernel_rfl), ?_⟩; ((conv=>whnf);repeat((first|refine aF ?_|refine aT ?_);(first|refine rG Γ hm ?_|refine rD Γ hm (by kernel_rfl) ?_);conv=>whnf))) | (refine ⟨by (first | (unfold I64; omega) | omega | (simp only [Int.toNat_natCast]; omega) | decide), by (first | (unfold I64; omega) | omega | (simp only [Int.toNat_natCast]; omega) | decide), ?_⟩; ((conv=>whnf);repeat((first|refine aF ?_|refine aT ?_);(first|refine rG Γ hm ?_|refine rD Γ hm (by kernel_rfl) ?_);conv=>whnf))) | (refine ⟨by (first | (unfold I64; omega) | omega | (simp only [Int.toNat_natCast]; omega) | decide), ?_⟩; ((conv=>whnf);repeat((first|refine aF ?_|refine aT ?_);(first|refine rG Γ hm ?_|refine rD Γ hm (by kernel_rfl) ?_);conv=>whnf))) | (refine G_nextP [] hI hjl ?_ ⟨⟨rfl, rfl, rfl, rfl, trivial⟩, trivial, rfl, rfl⟩)))
    all_goals (simp only [Int.toNat_natCast] at *)
    · refine congrArg boolSV ?_
      exact great2 (any_true hjl (by simp; omega))
    · exact upto_next hI hjl (by simp; omega)
  have a2 : n.domains.any (fun p => decide (100 < p.peers.length)) = false := any_false hI (by simpa using h)
  clear hI hj h
  ((first|refine rG Γ hm ?_|refine rD Γ hm (by kernel_rfl) ?_);(conv=>whnf);repeat((first|refine aF ?_|refine aT ?_);(first|refine rG Γ hm ?_|refine rD Γ hm (by kernel_rfl) ?_);conv=>whnf))
  refine G_countP n.floods.length (fun j => Upto (fun _ p => !(decide (100 < p.addrs.length))) n.floods j) (fun j => [(1, .ref 8 (netSV n) 0), (5, intSV j)]) (fun _ => []) [] (upto_zero _ _) ⟨⟨rfl, rfl, rfl, rfl, trivial⟩, trivial, rfl, rfl⟩ ?_
  intro j hj hI
  ((first|refine rG Γ hm ?_|refine rD Γ hm (by kernel_rfl) ?_);(conv=>whnf);repeat((first|refine aF ?_|refine aT ?_);(first|refine rG Γ hm ?_|refine rD Γ hm (by kernel_rfl) ?_);conv=>whnf))
  refine ⟨fun h => ?_, fun h => ?_⟩
  · have hjl : j < n.floods.length := by simpa using h
    ((first|refine rG Γ hm ?_|refine rD Γ hm (by kernel_rfl) ?_);(conv=>whnf);repeat((first|refine aF ?_|refine aT ?_);(first|refine rG Γ hm ?_|refine rD Γ hm (by kernel_rfl) ?_);conv=>whnf))
    (repeat' (first | (refine ⟨fun h => ?_, fun h => ?_⟩ <;> (repeat (first | (simp only [placeB] at h) | (simp only [decide_eq_true_eq] at h) | (simp only [decide_eq_false_iff_not] at h) | (simp only [beq_iff_eq] at h) | (simp only [beq_eq_false_iff_ne] at h) | (simp only [bne_iff_ne] at h) | (simp only [bne_eq_false_iff_eq] at h) | (simp only [Bool.and_eq_true] at h) | (simp only [Bool.or_eq_true] at h) | (simp only [Bool.and_eq_false_iff] at h) | (simp only [Bool.or_eq_false_iff] at h) | (simp only [Bool.not_eq_true'] at h) | (simp only [Bool.not_eq_false'] at h) | (simp only [Bool.not_eq_eq_eq_not] at h) | (simp only [Bool.not_true] at h) | (simp only [Bool.not_false] at h))) <;> ((first|refine rG Γ hm ?_|refine rD Γ hm (by kernel_rfl) ?_);(conv=>whnf);repeat((first|refine aF ?_|refine aT ?_);(first|refine rG Γ hm ?_|refine rD Γ hm (by kernel_rfl) ?_);conv=>whnf))) | (refine done0 rfl (.cons .tmp .nil) ?_ rfl) | (refine ⟨(by kernel_rfl), ?_⟩; ((conv=>whnf);repeat((first|refine aF ?_|refine aT ?_);(first|refine rG Γ hm ?_|refine rD Γ hm (by kernel_rfl) ?_);conv=>whnf))) | (refine ⟨by (first | (unfold I64; omega) | omega | (simp only [Int.toNat_natCast]; omega) | decide), by (first | (unfold I64; omega) | omega | (simp only [Int.toNat_natCast]; omega) | decide), ?_⟩; ((conv=>whnf);repeat((first|refine aF ?_|refine aT ?_);(first|refine rG Γ hm ?_|refine rD Γ hm (by kernel_rfl) ?_);conv=>whnf))) | (refine ⟨by (first | (unfold I64; omega) | omega | (simp only [Int.toNat_natCast]; omega) | decide), ?_⟩; ((conv=>whnf);repeat((first|refine aF ?_|refine aT ?_);(first|refine rG Γ hm ?_|refine rD Γ hm (by kernel_rfl) ?_);conv=>whnf))) | (refine G_nextP [] hI hjl ?_ ⟨⟨rfl, rfl, rfl, rfl, trivial⟩, trivial, rfl, rfl⟩)))
    all_goals (simp only [Int.toNat_natCast] at *)
    · refine congrArg boolSV ?_
      exact great3 (any_true hjl (by simp; omega))
    · exact upto_next hI hjl (by simp; omega)
  have a3 : n.floods.any (fun p => decide (100 < p.addrs.length)) = false := any_false hI (by simpa using h)
  clear hI hj h
  ((first|refine rG Γ hm ?_|refine rD Γ hm (by kernel_rfl) ?_);(conv=>whnf);repeat((first|refine aF ?_|refine aT ?_);(first|refine rG Γ hm ?_|refine rD Γ hm (by kernel_rfl) ?_);conv=>whnf))
  refine G_countP n.vrfs.length (fun j => Upto (fun _ v => !(decide (100 < v.imports.length) || decide (100 < v.exports.length))) n.vrfs j) (fun j => [(1, .ref 8 (netSV n) 0), (6, intSV j)]) (fun _ => []) [] (upto_zero _ _) ⟨⟨rfl, rfl, rfl, rfl, trivial⟩, trivial, rfl, rfl⟩ ?_
  intro j hj hI
  ((first|refine rG Γ hm ?_|refine rD Γ hm (by kernel_rfl) ?_);(conv=>whnf);repeat((first|refine aF ?_|refine aT ?_);(first|refine rG Γ hm ?_|refine rD Γ hm (by kernel_rfl) ?_);conv=>whnf))
  refine ⟨fun h => ?_, fun h => ?_⟩
  · have hjl : j < n.vrfs.length := by simpa using h
    ((first|refine rG Γ hm ?_|refine rD Γ hm (by kernel_rfl) ?_);(conv=>whnf);repeat((first|refine aF ?_|refine aT ?_);(first|refine rG Γ hm ?_|refine rD Γ hm (by kernel_rfl) ?_);conv=>whnf))
    (repeat' (first | (refine ⟨fun h => ?_, fun h => ?_⟩ <;> (repeat (first | (simp only [placeB] at h) | (simp only [decide_eq_true_eq] at h) | (simp only [decide_eq_false_iff_not] at h) | (simp only [beq_iff_eq] at h) | (simp only [beq_eq_false_iff_ne] at h) | (simp only [bne_iff_ne] at h) | (simp only [bne_eq_false_iff_eq] at h) | (simp only [Bool.and_eq_true] at h) | (simp only [Bool.or_eq_true] at h) | (simp only [Bool.and_eq_false_iff] at h) | (simp only [Bool.or_eq_false_iff] at h) | (simp only [Bool.not_eq_true'] at h) | (simp only [Bool.not_eq_false'] at h) | (simp only [Bool.not_eq_eq_eq_not] at h) | (simp only [Bool.not_true] at h) | (simp only [Bool.not_false] at h))) <;> ((first|refine rG Γ hm ?_|refine rD Γ hm (by kernel_rfl) ?_);(conv=>whnf);repeat((first|refine aF ?_|refine aT ?_);(first|refine rG Γ hm ?_|refine rD Γ hm (by kernel_rfl) ?_);conv=>whnf))) | (refine done0 rfl (.cons .tmp .nil) ?_ rfl) | (refine ⟨(by kernel_rfl), ?_⟩; ((conv=>whnf);repeat((first|refine aF ?_|refine aT ?_);(first|refine rG Γ hm ?_|refine rD Γ hm (by kernel_rfl) ?_);conv=>whnf))) | (refine ⟨by (first | (unfold I64; omega) | omega | (simp only [Int.toNat_natCast]; omega) | decide), by (first | (unfold I64; omega) | omega | (simp only [Int.toNat_natCast]; omega) | decide), ?_⟩; ((conv=>whnf);repeat((first|refine aF ?_|refine aT ?_);(first|refine rG Γ hm ?_|refine rD Γ hm (by kernel_rfl) ?_);conv=>whnf))) | (refine ⟨by (first | (unfold I64; omega) | omega | (simp only [Int.toNat_natCast]; omega) | decide), ?_⟩; ((conv=>whnf);repeat((first|refine aF ?_|refine aT ?_);(first|refine rG Γ hm ?_|refine rD Γ hm (by kernel_rfl) ?_);conv=>whnf))) | (refine G_nextP [] hI hjl ?_ ⟨⟨rfl, rfl, rfl, rfl, trivial⟩, trivial, rfl, rfl⟩)))
    all_goals (simp only [Int.toNat_natCast] at *)
    all_goals first
      | exact upto_next hI hjl (by simp; omega)
      | (refine congrArg boolSV ?_; exact great4 (any_true hjl (by simp; omega)))
  have a4 : n.vrfs.any (fun v => decide (100 < v.imports.length) || decide (100 < v.exports.length)) = false := any_false hI (by simpa using h)
  clear hI hj h
  ((first|refine rG Γ hm ?_|refine rD Γ hm (by kernel_rfl) ?_);(conv=>whnf);repeat((first|refine aF ?_|refine aT ?_);(first|refine rG Γ hm ?_|refine rD Γ hm (by kernel_rfl) ?_);conv=>whnf))
  refine done0 rfl (.cons .tmp .nil) (congrArg boolSV ?_) rfl
  rw [greatB, a1, a2, a3, a4]
  simp
  omega

def noNet : Net := ⟨[], [], [], [], [], [], [], []⟩
def dev1 (p : Int) : Device := ⟨0, p, .empty, 0, 0⟩
def exNet : Net := ⟨[dev1 32768, dev1 4096], [], [], [], [], [], [], []⟩

theorem fin_small (n : Net) (h : greatB n = false) : n.Fin := fin_of_great h
theorem exNet_fin : exNet.Fin := fin_of_great (by decide +kernel)
theorem noNet_fin : noNet.Fin := fin_of_great (by decide +kernel)

def leastV : Vec → List Vec → Vec
  | v, [] => v
  | v, x :: l => leastV (if lessV x v then x else v) l

def zeroV : Vec := ⟨0, 0, 0, 0, 0⟩
def leastR : List Vec → Vec × Bool
  | [] => (zeroV, false)
  | v :: l => (leastV v (v :: l), true)
end Go.Sy.YtlfopmhekhifoaaGreatDoor

namespace Go.Sy.YtlfopmhekhifoaaGreatDoor
open Go.Proofs
-- SIMP: placeB

attribute [local irreducible] Go.Sy.G Go.Sy.DR
set_option maxRecDepth 20000
set_option maxHeartbeats 4000000

theorem ranks_short (n : Net) (hn : n.Fin) : Short (if netRightB n then ranksL n else []) := by
  have := hn.devices
  unfold Short at *
  split
  · have e := (sortedL_perm n).length_eq
    rw [ordL_length] at e
    rw [ranksL, rankFill_length]
    omega
  · simp

/-! ### Vectors' order -/
theorem less_irrefl (a : Vec) : lessV a a = false := by simp [lessV]
theorem less_asymm {a b : Vec} (h : lessV a b = true) : lessV b a = false := by
  unfold lessV at *
  grind
theorem less_total {a b : Vec} (h : a ≠ b) : lessV a b = true ∨ lessV b a = true := by
  obtain ⟨a1, a2, a3, a4, a5⟩ := a
  obtain ⟨b1, b2, b3, b4, b5⟩ := b
  simp only [ne_eq, Vec.mk.injEq] at h
  simp only [lessV]
  grind
theorem less_trans {a b c : Vec} (h1 : lessV a b = true) (h2 : lessV b c = true) : lessV a c = true := by
  obtain ⟨a1, a2, a3, a4, a5⟩ := a
  obtain ⟨b1, b2, b3, b4, b5⟩ := b
  obtain ⟨c1, c2, c3, c4, c5⟩ := c
  simp only [lessV] at *
  grind

def vecEq (a b : Vec) : Bool := a.root == b.root && (a.cost == b.cost && (a.bridge == b.bridge && (a.port == b.port && (a.own == b.own && true))))
theorem vecEq_iff {a b : Vec} : vecEq a b = true ↔ a = b := by
  obtain ⟨a1, a2, a3, a4, a5⟩ := a
  obtain ⟨b1, b2, b3, b4, b5⟩ := b
  simp [vecEq]
end Go.Sy.YtlfopmhekhifoaaGreatDoor

namespace Go.Sy.YtlfopmhekhifoaaGreatDoor
open Go.Proofs
-- SIMP: placeB

attribute [local irreducible] Go.Sy.G Go.Sy.DR
set_option maxRecDepth 20000
set_option maxHeartbeats 4000000

theorem leastV_mem : ∀ (v : Vec) (l : List Vec), leastV v l = v ∨ leastV v l ∈ l
  | v, [] => .inl rfl
  | v, x :: l => by
    rw [leastV]
    rcases leastV_mem (if lessV x v then x else v) l with h | h
    · rw [h]
      split
      · exact .inr (by simp)
      · exact .inl rfl
    · exact .inr (by simp [h])
theorem leastV_le : ∀ (v : Vec) (l : List Vec), lessV v (leastV v l) = false ∧ ∀ x ∈ l, lessV x (leastV v l) = false
  | v, [] => ⟨less_irrefl v, by simp⟩
  | v, x :: l => by
    rw [leastV]
    obtain ⟨h1, h2⟩ := leastV_le (if lessV x v then x else v) l
    have key : lessV v (leastV (if lessV x v then x else v) l) = false ∧ lessV x (leastV (if lessV x v then x else v) l) = false := by
      generalize leastV (if lessV x v then x else v) l = m at *
      cases hx : lessV x v with
      | true =>
        rw [hx] at h1
        simp only [if_true] at h1
        refine ⟨?_, h1⟩
        cases hv : lessV v m with
        | false => rfl
        | true => rw [less_trans hx hv] at h1; cases h1
      | false =>
        rw [hx] at h1
        simp only [Bool.false_eq_true, if_false] at h1
        refine ⟨h1, ?_⟩
        cases hv : lessV x m with
        | false => rfl
        | true =>
          by_cases hxv : x = v
          · subst hxv; rw [hv] at h1; cases h1
          · rcases less_total hxv with h3 | h3
            · rw [hx] at h3; cases h3
            · rw [less_trans h3 hv] at h1; cases h1
    refine ⟨key.1, fun y hy => ?_⟩
    rcases List.mem_cons.1 hy with rfl | hy
    · exact key.2
    · exact h2 y hy

theorem leastV_drop (v : Vec) (l : List Vec) (j : Nat) (h : j < l.length) : leastV v (l.take (j + 1)) = (if lessV l[j] (leastV v (l.take j)) then l[j] else leastV v (l.take j)) := by
  have key : ∀ (a b : List Vec) (v : Vec), leastV v (a ++ b) = leastV (leastV v a) b := by
    intro a
    induction a with
    | nil => intro b v; rfl
    | cons x a ih => intro b v; rw [List.cons_append, leastV, leastV, ih]
  rw [List.take_succ_eq_append_getElem h, key]
  rfl

theorem leastR_none {l : List Vec} (h : (leastR l).2 = false) : l = [] ∧ (leastR l).1 = zeroV := by
  cases l with
  | nil => exact ⟨rfl, rfl⟩
  | cons v t => cases h
theorem leastR_le (l : List Vec) : ∀ x ∈ l, lessV x (leastR l).1 = false := by
  cases l with
  | nil => simp
  | cons v t => exact (leastV_le v (v :: t)).2
theorem leastR_mem {l : List Vec} (h : (leastR l).2 = true) : (leastR l).1 ∈ l := by
  cases l with
  | nil => cases h
  | cons v t =>
    rcases leastV_mem v (v :: t) with h | h
    · show leastV v (v :: t) ∈ v :: t
      rw [h]; simp
    · exact h

/-! ### Ranks are unlike -/
theorem ranks_range (n : Net) : ∀ x ∈ ranksL n, 0 ≤ x ∧ x < n.devices.length := fun x hx => by
  rw [ranks_eq, refRanksL] at hx
  obtain ⟨i, hi, rfl⟩ := List.mem_map.1 hx
  have hi := List.mem_range.1 hi
  have h1 := List.countP_le_length (p := fun k => aheadB n (k : Nat) i) (l := List.range n.devices.length)
  rw [List.length_range] at h1
  have h2 : (List.range n.devices.length).countP (fun k => aheadB n (k : Nat) i) ≠ n.devices.length := fun e => by
    have := List.countP_eq_length.1 (e.trans List.length_range.symm) i (List.mem_range.2 hi)
    rw [ahead_irrefl] at this
    cases this
  omega

theorem ahead_total (n : Net) {a b : Int} (h : a ≠ b) : aheadB n a b = true ∨ aheadB n b a = true := by
  unfold aheadB
  generalize nth n.devices a = x
  generalize nth n.devices b = y
  grind

theorem rank_lt (n : Net) {i k : Nat} (hi : i < n.devices.length) (_hk : k < n.devices.length) (h : aheadB n i k = true) : (List.range n.devices.length).countP (fun q => aheadB n (q : Nat) i) < (List.range n.devices.length).countP (fun q => aheadB n (q : Nat) k) := by
  have h1 : (List.range n.devices.length).countP (fun q => aheadB n (q : Nat) i) + ((List.range n.devices.length).filter (fun q => aheadB n (q : Nat) k && !aheadB n (q : Nat) i)).length = (List.range n.devices.length).countP (fun q => aheadB n (q : Nat) k) := by
    generalize List.range n.devices.length = l
    induction l with
    | nil => rfl
    | cons q l ih =>
      rw [List.countP_cons, List.countP_cons, List.filter_cons]
      cases h1 : aheadB n q i with
      | true =>
        have h2 : aheadB n q k = true := ahead_trans n h1 h
        simp only [h2, if_true, Bool.not_true, Bool.and_false, Bool.false_eq_true, if_false]
        omega
      | false =>
        cases h2 : aheadB n q k with
        | true => simp only [if_true, Bool.not_false, Bool.and_true, Bool.false_eq_true, if_false, List.length_cons]; omega
        | false => simp only [Bool.false_eq_true, if_false, Bool.false_and]; omega
  have h2 : 0 < ((List.range n.devices.length).filter (fun q => aheadB n (q : Nat) k && !aheadB n (q : Nat) i)).length := by
    refine List.length_pos_of_mem (a := i) ?_
    rw [List.mem_filter]
    exact ⟨List.mem_range.2 hi, by simp [h, ahead_irrefl]⟩
  omega

theorem ranksL_length (n : Net) : (ranksL n).length = n.devices.length := by rw [ranks_eq, refRanksL]; simp
theorem ranksL_get (n : Net) (i : Nat) (hi : i < (ranksL n).length) : (ranksL n)[i] = (((List.range n.devices.length).countP fun k => aheadB n (k : Nat) i : Nat) : Int) := by
  have e := ranks_eq n
  have : (ranksL n)[i] = (refRanksL n)[i]'(by rw [← e]; exact hi) := by congr 1
  rw [this]
  simp [refRanksL]

theorem ranks_unlike (n : Net) {i k : Nat} (hi : i < (ranksL n).length) (hk : k < (ranksL n).length) (h : i ≠ k) : (ranksL n)[i] ≠ (ranksL n)[k] := by
  have e := ranksL_length n
  rw [ranksL_get, ranksL_get]
  rcases ahead_total n (a := (i : Int)) (b := (k : Int)) (by omega) with h1 | h1
  · have := rank_lt n (i := i) (k := k) (by omega) (by omega) h1
    omega
  · have := rank_lt n (i := k) (k := i) (by omega) (by omega) h1
    omega

theorem ranks_prio (n : Net) {i k : Nat} (hi : i < (ranksL n).length) (hk : k < (ranksL n).length) (h : (n.devices[i]'(by rw [← ranksL_length]; exact hi)).prio < (n.devices[k]'(by rw [← ranksL_length]; exact hk)).prio) : (ranksL n)[i] < (ranksL n)[k] := by
  have e := ranksL_length n
  rw [ranksL_get, ranksL_get]
  have h1 : aheadB n i k = true := by
    unfold aheadB
    rw [nth_eq (i := (i : Int)) (by simp; omega), nth_eq (i := (k : Int)) (by simp; omega)]
    simp only [Int.toNat_natCast]
    rw [if_pos (by omega)]
    exact decide_eq_true h
  have := rank_lt n (i := i) (k := k) (by omega) (by omega) h1
  omega
end Go.Sy.YtlfopmhekhifoaaGreatDoor

namespace Go.Sy.YtlfopmhekhifoaaGreatDoor
open Go.Proofs

attribute [local irreducible] Go.Sy.G Go.Sy.DR
set_option maxRecDepth 100000
set_option maxHeartbeats 4000000

theorem getD_at {α : Type} {l : List α} {i : Nat} {d : α} (h : i < l.length) : l.getD i d = l[i] := by simp [List.getD, h]

theorem right_port {n : Net} (h : netRightB n = true) {i : Nat} (hi : i < n.ports.length) : portB n i n.ports[i] = true := by
  simp only [netRightB, Bool.and_eq_true] at h
  exact allB_iff.1 h.1.1.1.1.1.2 i hi
theorem right_link {n : Net} (h : netRightB n = true) {i : Nat} (hi : i < n.links.length) : linkB n i n.links[i] = true := by
  simp only [netRightB, Bool.and_eq_true] at h
  exact allB_iff.1 h.1.1.1.1.2 i hi
theorem right_few {n : Net} (h : netRightB n = true) : n.devices.length ≤ 8 ∧ n.ports.length ≤ 40 ∧ n.links.length ≤ 20 := by
  simp only [netRightB, fewB, Bool.and_eq_true, decide_eq_true_eq] at h
  omega

theorem port_link {n : Net} (h : netRightB n = true) {i : Nat} (hi : i < n.ports.length) : n.ports[i].link = -1 ∨ (0 ≤ n.ports[i].link ∧ n.ports[i].link < n.links.length) := by
  have := right_port h hi
  simp only [portB, placeB, Bool.and_eq_true, Bool.or_eq_true, beq_iff_eq, decide_eq_true_eq] at this
  rcases this.2 with h1 | h1
  · exact .inl h1
  · exact .inr h1.1
theorem port_dev {n : Net} (h : netRightB n = true) {i : Nat} (hi : i < n.ports.length) : 0 ≤ n.ports[i].dev ∧ n.ports[i].dev < n.devices.length := by
  have := right_port h hi
  simp only [portB, placeB, Bool.and_eq_true, decide_eq_true_eq] at this
  exact this.1.1.1.1.1.1.1.1
theorem link_ends {n : Net} (h : netRightB n = true) {i : Nat} (hi : i < n.links.length) : (0 ≤ n.links[i].a ∧ n.links[i].a < n.ports.length) ∧ 0 ≤ n.links[i].b ∧ n.links[i].b < n.ports.length := by
  have := right_link h hi
  simp only [linkB, placeB, Bool.and_eq_true, decide_eq_true_eq] at this
  exact ⟨this.1.1.1.1, this.1.1.1.2⟩

def pdev (n : Net) (i : Nat) : Int := (nth n.ports i).dev
def pcost (n : Net) (i : Nat) : Int := (nth n.ports i).cost

theorem pcost_le {n : Net} (hcost : costsB n = true) {i : Nat} (hi : i < n.ports.length) : 1 ≤ pcost n i ∧ pcost n i ≤ 65535 := by
  rw [pcost, nth_eq (l := n.ports) (i := (i : Int)) (by simpa using hi)]
  simp only [costsB, Bool.not_eq_true', List.any_eq_false] at hcost
  have := hcost _ (List.getElem_mem hi)
  simp only [badCost, Bool.or_eq_true, decide_eq_true_eq, not_or] at this
  simp only [Int.toNat_natCast]
  omega

/-- The other end of the first link that has this one. -/
def otherI (ls : List Link) (i : Int) : Int := match ls.find? (fun l => l.a == i || l.b == i) with | some l => if l.a = i then l.b else l.a | none => -1

theorem otherS (n : Net) (i : Int) (hl : Short n.links) : Sy.Spec Tryz.prog 73 [netSV n, intSV i] [] (intSV (otherI n.links i)) [] := contract Γ hm 100 F73 Tryz.ntmps73 rfl fun F hF => by
  unfold Short at hl
  ((conv=>whnf);repeat((first|refine aF ?_|refine aT ?_);(first|refine rG Γ hm ?_|refine rD Γ hm (by kernel_rfl) ?_);conv=>whnf))
  refine G_box 2 8 (netSV n) rfl rfl rfl ?_
  refine G_countP n.links.length (fun j => ∀ q (hq : q < n.links.length), q < j → n.links[q].a ≠ i ∧ n.links[q].b ≠ i) (fun j => [(1, intSV i), (2, .ref 8 (netSV n) 0), (5, intSV j)]) (fun _ => []) [] (fun q _ h => absurd h (by omega)) ⟨⟨rfl, rfl, rfl, rfl, rfl, rfl, trivial⟩, trivial, rfl, rfl⟩ ?_
  intro j hj hI
  ((first|refine rG Γ hm ?_|refine rD Γ hm (by kernel_rfl) ?_);(conv=>whnf);repeat((first|refine aF ?_|refine aT ?_);(first|refine rG Γ hm ?_|refine rD Γ hm (by kernel_rfl) ?_);conv=>whnf))
  refine ⟨fun h => ?_, fun h => ?_⟩
  · have hlt : j < n.links.length := by simpa using h
    have e1 : n.links[(j : Int).toNat]'(by omega) = n.links[j] := rfl
    have hfind : (n.links[j].a = i ∨ n.links[j].b = i) → n.links.find? (fun l => l.a == i || l.b == i) = some n.links[j] := fun h => by
      rw [List.find?_eq_some_iff_getElem]
      refine ⟨by simpa using h, j, hlt, rfl, fun q hq => ?_⟩
      have := hI q (by omega) hq
      simp [this.1, this.2]
    obtain ⟨l, hlk⟩ : ∃ l, n.links[j] = l := ⟨_, rfl⟩
    rw [hlk] at e1 hfind
    ((first|refine rG Γ hm ?_|refine rD Γ hm (by kernel_rfl) ?_);(conv=>whnf);repeat((first|refine aF ?_|refine aT ?_);(first|refine rG Γ hm ?_|refine rD Γ hm (by kernel_rfl) ?_);conv=>whnf))
    refine ⟨rfl, by omega, by omega, ?_⟩
    rw [e1]
    ((conv=>whnf);repeat((first|refine aF ?_|refine aT ?_);(first|refine rG Γ hm ?_|refine rD Γ hm (by kernel_rfl) ?_);conv=>whnf))
    refine ⟨fun h1 => ?_, fun h1 => ?_⟩
    · have ha : l.a = i := by simpa using h1
      have hres : otherI n.links i = l.b := by rw [otherI, hfind (.inl ha)]; simp [ha]
      rw [hres]
      ((first|refine rG Γ hm ?_|refine rD Γ hm (by kernel_rfl) ?_);(conv=>whnf);repeat((first|refine aF ?_|refine aT ?_);(first|refine rG Γ hm ?_|refine rD Γ hm (by kernel_rfl) ?_);conv=>whnf))
      refine ⟨rfl, by omega, by omega, ?_⟩
      rw [e1]
      ((conv=>whnf);repeat((first|refine aF ?_|refine aT ?_);(first|refine rG Γ hm ?_|refine rD Γ hm (by kernel_rfl) ?_);conv=>whnf))
      exact done0 rfl (.cons .tmp .nil) rfl rfl
    have ha : ¬ l.a = i := by simpa using h1
    ((first|refine rG Γ hm ?_|refine rD Γ hm (by kernel_rfl) ?_);(conv=>whnf);repeat((first|refine aF ?_|refine aT ?_);(first|refine rG Γ hm ?_|refine rD Γ hm (by kernel_rfl) ?_);conv=>whnf))
    refine ⟨rfl, by omega, by omega, ?_⟩
    rw [e1]
    ((conv=>whnf);repeat((first|refine aF ?_|refine aT ?_);(first|refine rG Γ hm ?_|refine rD Γ hm (by kernel_rfl) ?_);conv=>whnf))
    refine ⟨fun h2 => ?_, fun h2 => ?_⟩
    · have hb : l.b = i := by simpa using h2
      have hres : otherI n.links i = l.a := by rw [otherI, hfind (.inr hb)]; simp [ha]
      rw [hres]
      ((first|refine rG Γ hm ?_|refine rD Γ hm (by kernel_rfl) ?_);(conv=>whnf);repeat((first|refine aF ?_|refine aT ?_);(first|refine rG Γ hm ?_|refine rD Γ hm (by kernel_rfl) ?_);conv=>whnf))
      refine ⟨rfl, by omega, by omega, ?_⟩
      rw [e1]
      ((conv=>whnf);repeat((first|refine aF ?_|refine aT ?_);(first|refine rG Γ hm ?_|refine rD Γ hm (by kernel_rfl) ?_);conv=>whnf))
      exact done0 rfl (.cons .tmp .nil) rfl rfl
    have hb : ¬ l.b = i := by simpa using h2
    ((first|refine rG Γ hm ?_|refine rD Γ hm (by kernel_rfl) ?_);(conv=>whnf);repeat((first|refine aF ?_|refine aT ?_);(first|refine rG Γ hm ?_|refine rD Γ hm (by kernel_rfl) ?_);conv=>whnf))
    refine ⟨by unfold I64; omega, ?_⟩
    ((conv=>whnf);repeat((first|refine aF ?_|refine aT ?_);(first|refine rG Γ hm ?_|refine rD Γ hm (by kernel_rfl) ?_);conv=>whnf))
    refine G_nextP [] hI hlt (fun q hq hqj => ?_) ⟨⟨rfl, rfl, rfl, rfl, rfl, rfl, trivial⟩, trivial, rfl, rfl⟩
    by_cases hqe : q = j
    · subst hqe; rw [hlk]; exact ⟨ha, hb⟩
    · exact hI q hq (by omega)
  · have hres : otherI n.links i = -1 := by
      have : ¬ j < n.links.length := by simpa using h
      rw [otherI, List.find?_eq_none.2]
      intro x hx
      obtain ⟨q, hq, rfl⟩ := List.getElem_of_mem hx
      have := hI q hq (by omega)
      simp [this.1, this.2]
    rw [hres]
    ((first|refine rG Γ hm ?_|refine rD Γ hm (by kernel_rfl) ?_);(conv=>whnf);repeat((first|refine aF ?_|refine aT ?_);(first|refine rG Γ hm ?_|refine rD Γ hm (by kernel_rfl) ?_);conv=>whnf))
    exact done0 rfl (.cons .tmp .nil) rfl rfl

/-- As they are made: with nothing tagged, and no peers. -/
def portNil (p : Port) : SV := .agg [intSV p.row, intSV p.dev, intSV p.native, intSV p.cost, intSV p.link, strSV p.name, .val (.slice none 0 0)]
def domNil (d : Domain) : SV := .agg [intSV d.dev, intSV d.vlan, intSV d.vni, intSV d.irb, intSV d.row, .val (.slice none 0 0)]
def nilV : SV := .val (.slice none 0 0)

theorem portNil_rd {M : Nat → Prop} {w : World} (p : Port) (hp : p.tagged = []) {v : Value} (h : RdD M w (portNil p) v) : RdD M w (portSV p) v := by
  simp only [portNil, portSV, RdD, RdDL, hp] at h ⊢
  obtain ⟨cs, h1, h2, v0, r0, h3, h4, v1, r1, h5, h6, v2, r2, h7, h8, v3, r3, h9, h10, v4, r4, h11, h12, v5, r5, h13, h14, v6, r6, h15, h16, h17⟩ := h
  exact ⟨cs, h1, h2, v0, r0, h3, h4, v1, r1, h5, h6, v2, r2, h7, h8, v3, r3, h9, h10, v4, r4, h11, h12, v5, r5, h13, h14, v6, r6, h15, .inl ⟨trivial, none, 0, h16⟩, h17⟩
theorem domNil_rd {M : Nat → Prop} {w : World} (p : Domain) (hp : p.peers = []) {v : Value} (h : RdD M w (domNil p) v) : RdD M w (domainSV p) v := by
  simp only [domNil, domainSV, RdD, RdDL, hp] at h ⊢
  obtain ⟨cs, h1, h2, v0, r0, h3, h4, v1, r1, h5, h6, v2, r2, h7, h8, v3, r3, h9, h10, v4, r4, h11, h12, v5, r5, h13, h14, h15⟩ := h
  exact ⟨cs, h1, h2, v0, r0, h3, h4, v1, r1, h5, h6, v2, r2, h7, h8, v3, r3, h9, h10, v4, r4, h11, h12, v5, r5, h13, .inl ⟨trivial, none, 0, h14⟩, h15⟩

end Go.Sy.YtlfopmhekhifoaaGreatDoor
