/-
  Contracts: spans (package tree), 1. Contracts: spans (package tree), 2. Contracts: spans (package tree), 3. Contracts: spans (package tree), 4: roles.
-/
import Derived.Test.YthbgklhegccckaaGreatC10
import Derived.Test.YthbgklhegccckaaGreatC8

namespace Go.Sy.YthbgklhegccckaaGreat
open Go.Proofs
-- SIMP: placeB
-- OM: (have hq := hle (by omega); unfold I64; omega)

attribute [local irreducible] Go.Sy.G Go.Sy.DR
set_option maxRecDepth 100000
set_option maxHeartbeats 4000000

def spanL (n : Net) (up : List Bool) (ranks : List Int) (x y : SV) : List SV := [.sl 5 deviceSV n.devices, .sl 7 portSV n.ports, .sl 3 linkSV n.links, .sl 6 domainSV n.domains, .sl 4 staticSV n.statics, .sl 4 floodSV n.floods, .sl 5 vrfSV n.vrfs, .sl 5 irbSV n.irbs, .sl 1 boolSV up, .sl 1 intSV ranks, x, y]

/-- The port on the other side, if the link is up; -1. -/
def farI (n : Net) (up : List Bool) (i : Nat) : Int :=
  let p := n.ports.getD i default
  if p.link < 0 || !(up.getD p.link.toNat false) then -1 else (nth n.links p.link).a + (nth n.links p.link).b - i

theorem farS (n : Net) (up : List Bool) (ranks : List Int) (x y : SV) (_hx : (x.boxed && x.data && y.boxed && y.data && Nat.beq (cellsOf x).length 1 && Nat.beq (cellsOf y).length 1) = true) (i : Nat) (hr : netRightB n = true) (hu : up.length = n.links.length) (hi : i < n.ports.length) :
    Sy.Spec Tryz.prog 63 [.ref 12 (.agg (spanL n up ranks x y)) 0, intSV i] [] (intSV (farI n up i)) [] := contract Γ hm 100 F63 Tryz.ntmps63 rfl fun F hF => by
  have hpl := port_link hr hi
  have hf := right_few hr
  have e1 : n.ports[(i : Int).toNat]'(by omega) = n.ports[i] := rfl
  have hfar : farI n up i = if n.ports[i].link < 0 || !(up.getD n.ports[i].link.toNat false) then -1 else (nth n.links n.ports[i].link).a + (nth n.links n.ports[i].link).b - i := by
    rw [farI, getD_at hi]
  generalize hp : n.ports[i] = p at *
  have hle := fun h => link_ends hr (i := p.link.toNat) h
  ((conv => whnf); repeat ((first | refine aF ?_ | refine aT ?_); (first | refine run Γ hm 400 ?_ | refine runD Γ hm 400 (by kernel_rfl) ?_); conv => whnf))
  refine ⟨rfl, by omega, by omega, ?_⟩
  rw [e1]
  ((conv => whnf); repeat ((first | refine aF ?_ | refine aT ?_); (first | refine run Γ hm 400 ?_ | refine runD Γ hm 400 (by kernel_rfl) ?_); conv => whnf))
  (repeat' (first | (refine ⟨fun h => ?_, fun h => ?_⟩ <;> (repeat (first | (simp only [placeB] at h) | (simp only [decide_eq_true_eq] at h) | (simp only [decide_eq_false_iff_not] at h) | (simp only [beq_iff_eq] at h) | (simp only [beq_eq_false_iff_ne] at h) | (simp only [bne_iff_ne] at h) | (simp only [bne_eq_false_iff_eq] at h) | (simp only [Bool.and_eq_true] at h) | (simp only [Bool.or_eq_true] at h) | (simp only [Bool.and_eq_false_iff] at h) | (simp only [Bool.or_eq_false_iff] at h) | (simp only [Bool.not_eq_true'] at h) | (simp only [Bool.not_eq_false'] at h) | (simp only [Bool.not_eq_eq_eq_not] at h) | (simp only [Bool.not_true] at h) | (simp only [Bool.not_false] at h))) <;> ((first | refine run Γ hm 400 ?_ | refine runD Γ hm 400 (by kernel_rfl) ?_); (conv => whnf); repeat ((first | refine aF ?_ | refine aT ?_); (first | refine run Γ hm 400 ?_ | refine runD Γ hm 400 (by kernel_rfl) ?_); conv => whnf))) | (refine done0 rfl (.cons .tmp .nil) ?_ rfl) | (refine ⟨(by kernel_rfl), ?_⟩; ((conv => whnf); repeat ((first | refine aF ?_ | refine aT ?_); (first | refine run Γ hm 400 ?_ | refine runD Γ hm 400 (by kernel_rfl) ?_); conv => whnf))) | (refine ⟨by (first | (unfold I64; omega) | omega | (simp only [Int.toNat_natCast]; omega) | (have hq := hle (by omega); unfold I64; omega)), by (first | (unfold I64; omega) | omega | (simp only [Int.toNat_natCast]; omega) | (have hq := hle (by omega); unfold I64; omega)), ?_⟩; ((conv => whnf); repeat ((first | refine aF ?_ | refine aT ?_); (first | refine run Γ hm 400 ?_ | refine runD Γ hm 400 (by kernel_rfl) ?_); conv => whnf))) | (refine ⟨by (first | (unfold I64; omega) | omega | (simp only [Int.toNat_natCast]; omega) | (have hq := hle (by omega); unfold I64; omega)), ?_⟩; ((conv => whnf); repeat ((first | refine aF ?_ | refine aT ?_); (first | refine run Γ hm 400 ?_ | refine runD Γ hm 400 (by kernel_rfl) ?_); conv => whnf)))))
  all_goals (refine congrArg intSV ?_; rw [hfar])
  · simp_all
  · have h1 : up.getD p.link.toNat false = false := by rw [getD_at (by omega)]; assumption
    rw [h1]; simp
  · have h1 : up.getD p.link.toNat false = true := by rw [getD_at (by omega)]; assumption
    rw [h1, nth_eq (by omega)]
    simp_all
end Go.Sy.YthbgklhegccckaaGreat

namespace Go.Sy.YthbgklhegccckaaGreat
open Go.Proofs
-- SIMP: placeB
-- OM: first | (simp only [e1]; omega) | (simp only [e2]; omega)

attribute [local irreducible] Go.Sy.G Go.Sy.DR
set_option maxRecDepth 100000
set_option maxHeartbeats 4000000

def spanSV (n : Net) (up : List Bool) (ranks roots costs : List Int) : SV := .ref 12 (.agg (spanL n up ranks (.sl 1 intSV roots) (.sl 1 intSV costs))) 0

def spanAhead (n : Net) (ranks costs : List Int) (i k : Nat) : Bool :=
  let a := (n.ports.getD i default).dev
  let b := (n.ports.getD k default).dev
  decide (nth costs a < nth costs b) || (nth costs a == nth costs b && decide (nth ranks a < nth ranks b))

theorem spanAheadS (n : Net) (up : List Bool) (ranks roots costs : List Int) (i k : Nat) (hr : netRightB n = true) (hrk : ranks.length = n.devices.length) (hc : costs.length = n.devices.length) (hi : i < n.ports.length) (hk : k < n.ports.length) :
    Sy.Spec Tryz.prog 64 [spanSV n up ranks roots costs, intSV i, intSV k] [] (boolSV (spanAhead n ranks costs i k)) [] := contract Γ hm 100 F64 Tryz.ntmps64 rfl fun F hF => by
  have hd1 := port_dev hr hi
  have hd2 := port_dev hr hk
  have e1 : n.ports[(i : Int).toNat]'(by omega) = n.ports[i] := rfl
  have e2 : n.ports[(k : Int).toNat]'(by omega) = n.ports[k] := rfl
  have hres : spanAhead n ranks costs i k = (decide (nth costs n.ports[i].dev < nth costs n.ports[k].dev) || (nth costs n.ports[i].dev == nth costs n.ports[k].dev && decide (nth ranks n.ports[i].dev < nth ranks n.ports[k].dev))) := by
    rw [spanAhead, getD_at hi, getD_at hk]
  rw [nth_eq (by omega), nth_eq (by omega), nth_eq (by omega), nth_eq (by omega)] at hres
  ((conv => whnf); repeat ((first | refine aF ?_ | refine aT ?_); (first | refine run Γ hm 400 ?_ | refine runD Γ hm 400 (by kernel_rfl) ?_); conv => whnf))
  (repeat' (first | (refine ⟨fun h => ?_, fun h => ?_⟩ <;> (repeat (first | (simp only [placeB] at h) | (simp only [decide_eq_true_eq] at h) | (simp only [decide_eq_false_iff_not] at h) | (simp only [beq_iff_eq] at h) | (simp only [beq_eq_false_iff_ne] at h) | (simp only [bne_iff_ne] at h) | (simp only [bne_eq_false_iff_eq] at h) | (simp only [Bool.and_eq_true] at h) | (simp only [Bool.or_eq_true] at h) | (simp only [Bool.and_eq_false_iff] at h) | (simp only [Bool.or_eq_false_iff] at h) | (simp only [Bool.not_eq_true'] at h) | (simp only [Bool.not_eq_false'] at h) | (simp only [Bool.not_eq_eq_eq_not] at h) | (simp only [Bool.not_true] at h) | (simp only [Bool.not_false] at h))) <;> ((first | refine run Γ hm 400 ?_ | refine runD Γ hm 400 (by kernel_rfl) ?_); (conv => whnf); repeat ((first | refine aF ?_ | refine aT ?_); (first | refine run Γ hm 400 ?_ | refine runD Γ hm 400 (by kernel_rfl) ?_); conv => whnf))) | (refine done0 rfl (.cons .tmp .nil) ?_ rfl) | (refine ⟨(by kernel_rfl), ?_⟩; ((conv => whnf); repeat ((first | refine aF ?_ | refine aT ?_); (first | refine run Γ hm 400 ?_ | refine runD Γ hm 400 (by kernel_rfl) ?_); conv => whnf))) | (refine ⟨by (first | (unfold I64; omega) | omega | (simp only [Int.toNat_natCast]; omega) | first | (simp only [e1]; omega) | (simp only [e2]; omega)), by (first | (unfold I64; omega) | omega | (simp only [Int.toNat_natCast]; omega) | first | (simp only [e1]; omega) | (simp only [e2]; omega)), ?_⟩; ((conv => whnf); repeat ((first | refine aF ?_ | refine aT ?_); (first | refine run Γ hm 400 ?_ | refine runD Γ hm 400 (by kernel_rfl) ?_); conv => whnf))) | (refine ⟨by (first | (unfold I64; omega) | omega | (simp only [Int.toNat_natCast]; omega) | first | (simp only [e1]; omega) | (simp only [e2]; omega)), ?_⟩; ((conv => whnf); repeat ((first | refine aF ?_ | refine aT ?_); (first | refine run Γ hm 400 ?_ | refine runD Γ hm 400 (by kernel_rfl) ?_); conv => whnf)))))
  all_goals (refine congrArg boolSV ?_; rw [hres]; clear hF hres hr; simp only [Int.toNat_natCast] at *; grind)
end Go.Sy.YthbgklhegccckaaGreat

namespace Go.Sy.YthbgklhegccckaaGreat
open Go.Proofs
-- SIMP: placeB

attribute [local irreducible] Go.Sy.G Go.Sy.DR
set_option maxRecDepth 100000
set_option maxHeartbeats 4000000

theorem far_lt {n : Net} {up : List Bool} (h : netRightB n = true) {i : Nat} (hi : i < n.ports.length) (hf : 0 ≤ farI n up i) : farI n up i < n.ports.length := by
  have hp := right_port h hi
  have hpl := port_link h hi
  simp only [portB, Bool.and_eq_true, Bool.or_eq_true, beq_iff_eq] at hp
  have hp := hp.2
  unfold farI at *
  rw [getD_at hi] at *
  simp only at *
  split at hf
  · omega
  · rename_i hc
    rw [if_neg hc]
    simp only [Bool.or_eq_true, decide_eq_true_eq, not_or] at hc
    rcases hp with hp | hp
    · omega
    · have hl : n.ports[i].link.toNat < n.links.length := by omega
      have he := link_ends h hl
      rw [nth_eq hl] at *
      omega

/-- What a port's other side tells. -/
def candV (n : Net) (up : List Bool) (ranks roots costs : List Int) (dev : Int) (i : Nat) : Option Vec :=
  let p := n.ports.getD i default
  let far := farI n up i
  let there := (nth n.ports far).dev
  if p.dev == dev && decide (0 ≤ far) then some ⟨nth roots there, nth costs there + p.cost, nth ranks there, far, i⟩ else none

def bestL (n : Net) (up : List Bool) (ranks roots costs : List Int) (dev : Int) (j : Nat) : List Vec := (List.range j).filterMap (candV n up ranks roots costs dev)
theorem bestL_succ (n : Net) (up : List Bool) (ranks roots costs : List Int) (dev : Int) (j : Nat) : bestL n up ranks roots costs dev (j + 1) = bestL n up ranks roots costs dev j ++ (candV n up ranks roots costs dev j).toList := by
  rw [bestL, List.range_succ, List.filterMap_append]
  cases h : candV n up ranks roots costs dev j <;> simp [bestL, h]
theorem bestL_length (n : Net) (up : List Bool) (ranks roots costs : List Int) (dev : Int) (j : Nat) : (bestL n up ranks roots costs dev j).length ≤ j := by
  have := List.length_filterMap_le (candV n up ranks roots costs dev) (List.range j)
  simpa [bestL] using this

def bestI (n : Net) (up : List Bool) (ranks roots costs : List Int) (dev : Int) : Int :=
  let r := leastR (bestL n up ranks roots costs dev n.ports.length)
  if !r.2 || nth roots dev == nth ranks dev then -1 else r.1.own

theorem bestS (n : Net) (up : List Bool) (ranks roots costs : List Int) (dev : Int) (hr : netRightB n = true) (hu : up.length = n.links.length) (hcost : costsB n = true) (hrk : ranks.length = n.devices.length) (hro : roots.length = n.devices.length) (hc : costs.length = n.devices.length)
    (hb : ∀ c ∈ costs, 0 ≤ c ∧ c < 1000000000) (hd : 0 ≤ dev ∧ dev < n.devices.length) :
    Sy.Spec Tryz.prog 65 [spanSV n up ranks roots costs, intSV dev] [] (intSV (bestI n up ranks roots costs dev)) [] := contract Γ hm 100 F65 Tryz.ntmps65 rfl fun F hF => by
  have hf := right_few hr
  ((conv => whnf); repeat ((first | refine aF ?_ | refine aT ?_); (first | refine run Γ hm 400 ?_ | refine runD Γ hm 400 (by kernel_rfl) ?_); conv => whnf))
  refine G_adopt 5 1000 5 vecSV rfl rfl ?_
  refine G_count n.ports.length (fun j => [(0, spanSV n up ranks roots costs), (1, intSV dev), (5, .osl 1000), (16, .sl 7 portSV n.ports), (17, intSV n.ports.length), (18, intSV j)]) (fun j => [(1000, .row 5 vecSV (bestL n up ranks roots costs dev j))]) []
    ⟨⟨rfl, rfl, rfl, rfl, rfl, rfl, rfl, rfl, rfl, rfl, rfl, rfl, trivial⟩, ⟨.inl rfl, rfl, trivial⟩, rfl, rfl⟩ ?_
  intro j hj
  ((first | refine run Γ hm 400 ?_ | refine runD Γ hm 400 (by kernel_rfl) ?_); (conv => whnf); repeat ((first | refine aF ?_ | refine aT ?_); (first | refine run Γ hm 400 ?_ | refine runD Γ hm 400 (by kernel_rfl) ?_); conv => whnf))
  refine ⟨fun h => ?_, fun h => ?_⟩
  · have hlt : j < n.ports.length := by simpa using h
    have e1 : n.ports[(j : Int).toNat]'(by omega) = n.ports[j] := rfl
    have hfar := farS n up ranks (.sl 1 intSV roots) (.sl 1 intSV costs) rfl j hr hu hlt
    have hfl := far_lt (up := up) hr hlt
    have hsucc := bestL_succ n up ranks roots costs dev j
    have hbl := bestL_length n up ranks roots costs dev j
    have hcand : candV n up ranks roots costs dev j = if n.ports[j].dev == dev && decide (0 ≤ farI n up j) then some ⟨nth roots (nth n.ports (farI n up j)).dev, nth costs (nth n.ports (farI n up j)).dev + n.ports[j].cost, nth ranks (nth n.ports (farI n up j)).dev, farI n up j, j⟩ else none := by
      rw [candV, getD_at hlt]
    generalize farI n up j = k at *
    have hpc : 1 ≤ n.ports[j].cost ∧ n.ports[j].cost ≤ 65535 := by
      simp only [costsB, Bool.not_eq_true', List.any_eq_false] at hcost
      have := hcost _ (List.getElem_mem hlt)
      simp only [badCost, Bool.or_eq_true, decide_eq_true_eq, not_or] at this
      omega
    obtain ⟨p, hp⟩ : ∃ p, n.ports[j] = p := ⟨_, rfl⟩
    rw [hp] at e1 hcand hpc
    ((first | refine run Γ hm 400 ?_ | refine runD Γ hm 400 (by kernel_rfl) ?_); (conv => whnf); repeat ((first | refine aF ?_ | refine aT ?_); (first | refine run Γ hm 400 ?_ | refine runD Γ hm 400 (by kernel_rfl) ?_); conv => whnf))
    refine ⟨rfl, by omega, by omega, ?_⟩
    rw [e1]
    ((conv => whnf); repeat ((first | refine aF ?_ | refine aT ?_); (first | refine run Γ hm 400 ?_ | refine runD Γ hm 400 (by kernel_rfl) ?_); conv => whnf))
    refine call0 hfar F63 rfl rfl rfl rfl rfl ?_
    ((first | refine run Γ hm 400 ?_ | refine runD Γ hm 400 (by kernel_rfl) ?_); (conv => whnf); repeat ((first | refine aF ?_ | refine aT ?_); (first | refine run Γ hm 400 ?_ | refine runD Γ hm 400 (by kernel_rfl) ?_); conv => whnf))
    refine ⟨fun h => ?_, fun h => ?_⟩
    · ((first | refine run Γ hm 400 ?_ | refine runD Γ hm 400 (by kernel_rfl) ?_); (conv => whnf); repeat ((first | refine aF ?_ | refine aT ?_); (first | refine run Γ hm 400 ?_ | refine runD Γ hm 400 (by kernel_rfl) ?_); conv => whnf))
      refine ⟨fun h2 => ?_, fun h2 => ?_⟩
      · have hk0 : 0 ≤ k := of_decide_eq_true h2
        have hk1 := hfl hk0
        rw [if_pos (by simp only [Bool.and_eq_true, decide_eq_true_eq]; exact ⟨h, hk0⟩), nth_eq (l := n.ports) (i := k) (by omega)] at hcand
        have hpd := port_dev hr (i := k.toNat) (by omega)
        obtain ⟨q, hq⟩ : ∃ q, n.ports[k.toNat]'(by omega) = q := ⟨_, rfl⟩
        rw [hq] at hcand hpd
        have hcb := hb (costs[q.dev.toNat]'(by omega)) (List.getElem_mem _)
        rw [nth_eq (l := roots) (i := q.dev) (by omega), nth_eq (l := costs) (i := q.dev) (by omega), nth_eq (l := ranks) (i := q.dev) (by omega)] at hcand
        ((first | refine run Γ hm 400 ?_ | refine runD Γ hm 400 (by kernel_rfl) ?_); (conv => whnf); repeat ((first | refine aF ?_ | refine aT ?_); (first | refine run Γ hm 400 ?_ | refine runD Γ hm 400 (by kernel_rfl) ?_); conv => whnf))
        refine ⟨rfl, hk0, by omega, ?_⟩
        rw [hq]
        ((conv => whnf); repeat ((first | refine aF ?_ | refine aT ?_); (first | refine run Γ hm 400 ?_ | refine runD Γ hm 400 (by kernel_rfl) ?_); conv => whnf))
        refine ⟨(by kernel_rfl), ?_⟩
        refine ⟨by omega, by omega, ?_⟩
        ((conv => whnf); repeat ((first | refine aF ?_ | refine aT ?_); (first | refine run Γ hm 400 ?_ | refine runD Γ hm 400 (by kernel_rfl) ?_); conv => whnf))
        refine ⟨(by kernel_rfl), ?_⟩
        refine ⟨by omega, by omega, ?_⟩
        ((conv => whnf); repeat ((first | refine aF ?_ | refine aT ?_); (first | refine run Γ hm 400 ?_ | refine runD Γ hm 400 (by kernel_rfl) ?_); conv => whnf))
        refine ⟨by unfold I64; omega, ?_⟩
        ((conv => whnf); repeat ((first | refine aF ?_ | refine aT ?_); (first | refine run Γ hm 400 ?_ | refine runD Γ hm 400 (by kernel_rfl) ?_); conv => whnf))
        refine ⟨(by kernel_rfl), ?_⟩
        refine ⟨by omega, by omega, ?_⟩
        ((conv => whnf); repeat ((first | refine aF ?_ | refine aT ?_); (first | refine run Γ hm 400 ?_ | refine runD Γ hm 400 (by kernel_rfl) ?_); conv => whnf))
        refine stepD (good_appendT Γ.toTy 72 rfl rfl rfl rfl rfl (.row rfl) (.lit (l := [(⟨roots[q.dev.toNat]'(by omega), costs[q.dev.toNat]'(by omega) + p.cost, ranks[q.dev.toNat]'(by omega), k, j⟩ : Vec)]) rfl rfl) (by simp) (by simp; omega) (by simp; omega)) (by kernel_rfl) rfl ?_
        ((first | refine run Γ hm 400 ?_ | refine runD Γ hm 400 (by kernel_rfl) ?_); (conv => whnf); repeat ((first | refine aF ?_ | refine aT ?_); (first | refine run Γ hm 400 ?_ | refine runD Γ hm 400 (by kernel_rfl) ?_); conv => whnf))
        refine ⟨(by kernel_rfl), ?_⟩
        ((conv => whnf); repeat ((first | refine aF ?_ | refine aT ?_); (first | refine run Γ hm 400 ?_ | refine runD Γ hm 400 (by kernel_rfl) ?_); conv => whnf))
        refine ⟨by unfold I64; omega, ?_⟩
        ((conv => whnf); repeat ((first | refine aF ?_ | refine aT ?_); (first | refine run Γ hm 400 ?_ | refine runD Γ hm 400 (by kernel_rfl) ?_); conv => whnf))
        refine G_next [(1000, 72)] hlt ⟨⟨rfl, rfl, rfl, rfl, rfl, rfl, rfl, rfl, rfl, rfl, rfl, rfl, trivial⟩, ⟨.inl (congrArg (Ob.row 5 vecSV) ?_), rfl, trivial⟩, rfl, rfl⟩
        rw [hsucc, hcand]
        rfl
      · have hk0 : ¬ 0 ≤ k := of_decide_eq_false h2
        rw [if_neg (by simp only [Bool.and_eq_true, decide_eq_true_eq]; exact fun hh => hk0 hh.2)] at hcand
        ((first | refine run Γ hm 400 ?_ | refine runD Γ hm 400 (by kernel_rfl) ?_); (conv => whnf); repeat ((first | refine aF ?_ | refine aT ?_); (first | refine run Γ hm 400 ?_ | refine runD Γ hm 400 (by kernel_rfl) ?_); conv => whnf))
        refine ⟨by unfold I64; omega, ?_⟩
        ((conv => whnf); repeat ((first | refine aF ?_ | refine aT ?_); (first | refine run Γ hm 400 ?_ | refine runD Γ hm 400 (by kernel_rfl) ?_); conv => whnf))
        refine G_next [] hlt ⟨⟨rfl, rfl, rfl, rfl, rfl, rfl, rfl, rfl, rfl, rfl, rfl, rfl, trivial⟩, ⟨.inl (congrArg (Ob.row 5 vecSV) ?_), rfl, trivial⟩, rfl, rfl⟩
        rw [hsucc, hcand]
        simp
    · rw [if_neg (by rw [h]; simp)] at hcand
      ((first | refine run Γ hm 400 ?_ | refine runD Γ hm 400 (by kernel_rfl) ?_); (conv => whnf); repeat ((first | refine aF ?_ | refine aT ?_); (first | refine run Γ hm 400 ?_ | refine runD Γ hm 400 (by kernel_rfl) ?_); conv => whnf))
      refine ⟨by unfold I64; omega, ?_⟩
      ((conv => whnf); repeat ((first | refine aF ?_ | refine aT ?_); (first | refine run Γ hm 400 ?_ | refine runD Γ hm 400 (by kernel_rfl) ?_); conv => whnf))
      refine G_next [] hlt ⟨⟨rfl, rfl, rfl, rfl, rfl, rfl, rfl, rfl, rfl, rfl, rfl, rfl, trivial⟩, ⟨.inl (congrArg (Ob.row 5 vecSV) ?_), rfl, trivial⟩, rfl, rfl⟩
      rw [hsucc, hcand]
      simp
  · have hjl : j = n.ports.length := by
      have : ¬ j < n.ports.length := by simpa using h
      omega
    subst hjl
    have hbl := bestL_length n up ranks roots costs dev n.ports.length
    have hbi : bestI n up ranks roots costs dev = if !(leastR (bestL n up ranks roots costs dev n.ports.length)).2 || nth roots dev == nth ranks dev then -1 else (leastR (bestL n up ranks roots costs dev n.ports.length)).1.own := rfl
    rw [nth_eq (by omega), nth_eq (by omega)] at hbi
    have hls := leastS (bestL n up ranks roots costs dev n.ports.length) (by unfold Short; omega)
    generalize leastR (bestL n up ranks roots costs dev n.ports.length) = r at hls hbi
    obtain ⟨v, ok⟩ := r
    simp only at hls hbi
    rw [hbi]
    ((first | refine run Γ hm 400 ?_ | refine runD Γ hm 400 (by kernel_rfl) ?_); (conv => whnf); repeat ((first | refine aF ?_ | refine aT ?_); (first | refine run Γ hm 400 ?_ | refine runD Γ hm 400 (by kernel_rfl) ?_); conv => whnf))
    refine G_data 1000 rfl ?_
    refine call0 hls F113 rfl rfl rfl rfl rfl ?_
    ((first | refine run Γ hm 400 ?_ | refine runD Γ hm 400 (by kernel_rfl) ?_); (conv => whnf); repeat ((first | refine aF ?_ | refine aT ?_); (first | refine run Γ hm 400 ?_ | refine runD Γ hm 400 (by kernel_rfl) ?_); conv => whnf))
    (repeat' (first | (refine ⟨fun h => ?_, fun h => ?_⟩ <;> (repeat (first | (simp only [placeB] at h) | (simp only [decide_eq_true_eq] at h) | (simp only [decide_eq_false_iff_not] at h) | (simp only [beq_iff_eq] at h) | (simp only [beq_eq_false_iff_ne] at h) | (simp only [bne_iff_ne] at h) | (simp only [bne_eq_false_iff_eq] at h) | (simp only [Bool.and_eq_true] at h) | (simp only [Bool.or_eq_true] at h) | (simp only [Bool.and_eq_false_iff] at h) | (simp only [Bool.or_eq_false_iff] at h) | (simp only [Bool.not_eq_true'] at h) | (simp only [Bool.not_eq_false'] at h) | (simp only [Bool.not_eq_eq_eq_not] at h) | (simp only [Bool.not_true] at h) | (simp only [Bool.not_false] at h))) <;> ((first | refine run Γ hm 400 ?_ | refine runD Γ hm 400 (by kernel_rfl) ?_); (conv => whnf); repeat ((first | refine aF ?_ | refine aT ?_); (first | refine run Γ hm 400 ?_ | refine runD Γ hm 400 (by kernel_rfl) ?_); conv => whnf))) | (refine done0 rfl (.cons .tmp .nil) ?_ rfl) | (refine ⟨(by kernel_rfl), ?_⟩; ((conv => whnf); repeat ((first | refine aF ?_ | refine aT ?_); (first | refine run Γ hm 400 ?_ | refine runD Γ hm 400 (by kernel_rfl) ?_); conv => whnf))) | (refine ⟨by (first | (unfold I64; omega) | omega | (simp only [Int.toNat_natCast]; omega) | done), by (first | (unfold I64; omega) | omega | (simp only [Int.toNat_natCast]; omega) | done), ?_⟩; ((conv => whnf); repeat ((first | refine aF ?_ | refine aT ?_); (first | refine run Γ hm 400 ?_ | refine runD Γ hm 400 (by kernel_rfl) ?_); conv => whnf))) | (refine ⟨by (first | (unfold I64; omega) | omega | (simp only [Int.toNat_natCast]; omega) | done), ?_⟩; ((conv => whnf); repeat ((first | refine aF ?_ | refine aT ?_); (first | refine run Γ hm 400 ?_ | refine runD Γ hm 400 (by kernel_rfl) ?_); conv => whnf)))))
    all_goals (refine congrArg intSV ?_; clear hF hls hbi; grind)
end Go.Sy.YthbgklhegccckaaGreat

namespace Go.Sy.YthbgklhegccckaaGreat
open Go.Proofs
-- SIMP: placeB

attribute [local irreducible] Go.Sy.G Go.Sy.DR
set_option maxRecDepth 100000
set_option maxHeartbeats 4000000

theorem best_lt {n : Net} {up : List Bool} {ranks roots costs : List Int} {dev : Int} (h : 0 ≤ bestI n up ranks roots costs dev) : bestI n up ranks roots costs dev < n.ports.length := by
  have hmem := @leastR_mem (bestL n up ranks roots costs dev n.ports.length)
  unfold bestI at *
  simp only at *
  split at h
  · omega
  · rename_i hc
    rw [if_neg hc]
    simp only [Bool.or_eq_true, Bool.not_eq_true', not_or] at hc
    have h2 := hmem (by simpa using hc.1)
    obtain ⟨i, hi, he⟩ := List.mem_filterMap.1 h2
    have hi := List.mem_range.1 hi
    unfold candV at he
    simp only at he
    split at he
    · have e := congrArg Vec.own (Option.some.inj he)
      simp only at e
      omega
    · cases he

def role1 (n : Net) (up : List Bool) (ranks costs : List Int) (i : Nat) : Int :=
  if farI n up i < 0 then 0 else if spanAhead n ranks costs i (farI n up i).toNat then 2 else 3
def rolesA (n : Net) (up : List Bool) (ranks costs : List Int) (j : Nat) : List Int := (List.range n.ports.length).map fun i => if i < j then role1 n up ranks costs i else 0
theorem rolesA_length (n : Net) (up : List Bool) (ranks costs : List Int) (j : Nat) : (rolesA n up ranks costs j).length = n.ports.length := by simp [rolesA]
theorem rolesA_zero (n : Net) (up : List Bool) (ranks costs : List Int) : rolesA n up ranks costs 0 = List.replicate n.ports.length 0 := by
  rw [rolesA]
  exact List.ext_getElem (by simp) (by simp)
theorem rolesA_succ (n : Net) (up : List Bool) (ranks costs : List Int) (j : Nat) (hj : j < n.ports.length) : rolesA n up ranks costs (j + 1) = (rolesA n up ranks costs j).set j (role1 n up ranks costs j) := by
  refine List.ext_getElem (by simp [rolesA]) (fun i h1 h2 => ?_)
  rw [List.getElem_set]
  simp only [rolesA, List.getElem_map, List.getElem_range]
  rcases Nat.lt_trichotomy i j with h | h | h
  · rw [if_pos (by omega), if_neg (by omega), if_pos h]
  · subst h; rw [if_pos (by omega), if_pos rfl]
  · rw [if_neg (by omega), if_neg (by omega), if_neg (by omega)]
theorem rolesA_same (n : Net) (up : List Bool) (ranks costs : List Int) (j : Nat) (h : role1 n up ranks costs j = 0) : rolesA n up ranks costs (j + 1) = rolesA n up ranks costs j := by
  simp only [rolesA]
  refine List.map_congr_left (fun i _ => ?_)
  by_cases hij : i < j
  · rw [if_pos (by omega), if_pos hij]
  · by_cases he : i = j
    · subst he; rw [if_pos (by omega), if_neg hij, h]
    · rw [if_neg (by omega), if_neg hij]

def rolesB (n : Net) (up : List Bool) (ranks roots costs : List Int) : Nat → List Int
  | 0 => rolesA n up ranks costs n.ports.length
  | d + 1 => if 0 ≤ bestI n up ranks roots costs d then (rolesB n up ranks roots costs d).set (bestI n up ranks roots costs d).toNat 1 else rolesB n up ranks roots costs d
theorem rolesB_length (n : Net) (up : List Bool) (ranks roots costs : List Int) : ∀ d, (rolesB n up ranks roots costs d).length = n.ports.length
  | 0 => rolesA_length n up ranks costs _
  | d + 1 => by
    rw [rolesB]
    split
    · rw [List.length_set, rolesB_length]
    · rw [rolesB_length]

theorem rolesS (n : Net) (up : List Bool) (ranks roots costs : List Int) (hr : netRightB n = true) (hu : up.length = n.links.length) (hcost : costsB n = true) (hrk : ranks.length = n.devices.length) (hro : roots.length = n.devices.length) (hc : costs.length = n.devices.length)
    (hb : ∀ c ∈ costs, 0 ≤ c ∧ c < 1000000000) :
    Sy.Spec Tryz.prog 24 [spanSV n up ranks roots costs] [] (.sl 1 intSV (rolesB n up ranks roots costs n.devices.length)) [] := contract Γ hm 100 F24 Tryz.ntmps24 rfl fun F hF => by
  have hf := right_few hr
  ((conv => whnf); repeat ((first | refine aF ?_ | refine aT ?_); (first | refine run Γ hm 400 ?_ | refine runD Γ hm 400 (by kernel_rfl) ?_); conv => whnf))
  refine stepOp (good_makeSlice Γ.toTy (d := 14) (n := n.ports.length) intSV 0 rfl rfl rfl rfl rfl rfl rfl rfl (by omega) (by omega) rfl rfl rfl) rfl rfl ?_
  rw [← rolesA_zero n up ranks costs]
  ((first | refine run Γ hm 400 ?_ | refine runD Γ hm 400 (by kernel_rfl) ?_); (conv => whnf); repeat ((first | refine aF ?_ | refine aT ?_); (first | refine run Γ hm 400 ?_ | refine runD Γ hm 400 (by kernel_rfl) ?_); conv => whnf))
  refine G_count n.ports.length (fun j => [(0, spanSV n up ranks roots costs), (3, .osl 14), (20, intSV n.ports.length), (21, intSV j)]) (fun j => [(14, .row 1 intSV (rolesA n up ranks costs j))]) []
    ⟨⟨rfl, rfl, rfl, rfl, rfl, rfl, rfl, rfl, trivial⟩, ⟨.inl rfl, rfl, trivial⟩, rfl, rfl⟩ ?_
  intro j hj
  ((first | refine run Γ hm 400 ?_ | refine runD Γ hm 400 (by kernel_rfl) ?_); (conv => whnf); repeat ((first | refine aF ?_ | refine aT ?_); (first | refine run Γ hm 400 ?_ | refine runD Γ hm 400 (by kernel_rfl) ?_); conv => whnf))
  refine ⟨fun h => ?_, fun h => ?_⟩
  · have hlt : j < n.ports.length := by simpa using h
    have hfar := farS n up ranks (.sl 1 intSV roots) (.sl 1 intSV costs) rfl j hr hu hlt
    have hfl := far_lt (up := up) hr hlt
    have hlen := rolesA_length n up ranks costs j
    have hrole : role1 n up ranks costs j = if farI n up j < 0 then 0 else if spanAhead n ranks costs j (farI n up j).toNat then 2 else 3 := rfl
    have hsucc := rolesA_succ n up ranks costs j hlt
    have hsame := rolesA_same n up ranks costs j
    generalize farI n up j = k at *
    ((first | refine run Γ hm 400 ?_ | refine runD Γ hm 400 (by kernel_rfl) ?_); (conv => whnf); repeat ((first | refine aF ?_ | refine aT ?_); (first | refine run Γ hm 400 ?_ | refine runD Γ hm 400 (by kernel_rfl) ?_); conv => whnf))
    refine call0 hfar F63 rfl rfl rfl rfl rfl ?_
    ((first | refine run Γ hm 400 ?_ | refine runD Γ hm 400 (by kernel_rfl) ?_); (conv => whnf); repeat ((first | refine aF ?_ | refine aT ?_); (first | refine run Γ hm 400 ?_ | refine runD Γ hm 400 (by kernel_rfl) ?_); conv => whnf))
    refine ⟨fun h => ?_, fun h => ?_⟩
    · have hk : k < 0 := of_decide_eq_true h
      rw [if_pos hk] at hrole
      ((first | refine run Γ hm 400 ?_ | refine runD Γ hm 400 (by kernel_rfl) ?_); (conv => whnf); repeat ((first | refine aF ?_ | refine aT ?_); (first | refine run Γ hm 400 ?_ | refine runD Γ hm 400 (by kernel_rfl) ?_); conv => whnf))
      refine ⟨by unfold I64; omega, ?_⟩
      ((conv => whnf); repeat ((first | refine aF ?_ | refine aT ?_); (first | refine run Γ hm 400 ?_ | refine runD Γ hm 400 (by kernel_rfl) ?_); conv => whnf))
      exact G_next [] hlt ⟨⟨rfl, rfl, rfl, rfl, rfl, rfl, rfl, rfl, trivial⟩, ⟨.inl (congrArg (Ob.row 1 intSV) (hsame hrole)), rfl, trivial⟩, rfl, rfl⟩
    have hk : ¬ k < 0 := of_decide_eq_false h
    rw [if_neg hk] at hrole
    obtain ⟨m, rfl⟩ : ∃ m : Nat, k = m := ⟨k.toNat, by omega⟩
    have hah := spanAheadS n up ranks roots costs j m hr hrk hc hlt (by omega)
    rw [Int.toNat_natCast] at hrole
    ((first | refine run Γ hm 400 ?_ | refine runD Γ hm 400 (by kernel_rfl) ?_); (conv => whnf); repeat ((first | refine aF ?_ | refine aT ?_); (first | refine run Γ hm 400 ?_ | refine runD Γ hm 400 (by kernel_rfl) ?_); conv => whnf))
    refine call0 hah F64 rfl rfl rfl rfl rfl ?_
    ((first | refine run Γ hm 400 ?_ | refine runD Γ hm 400 (by kernel_rfl) ?_); (conv => whnf); repeat ((first | refine aF ?_ | refine aT ?_); (first | refine run Γ hm 400 ?_ | refine runD Γ hm 400 (by kernel_rfl) ?_); conv => whnf))
    refine ⟨fun h => ?_, fun h => ?_⟩
    · rw [h, if_pos rfl] at hrole
      rw [hrole] at hsucc
      ((first | refine run Γ hm 400 ?_ | refine runD Γ hm 400 (by kernel_rfl) ?_); (conv => whnf); repeat ((first | refine aF ?_ | refine aT ?_); (first | refine run Γ hm 400 ?_ | refine runD Γ hm 400 (by kernel_rfl) ?_); conv => whnf))
      refine ⟨by omega, by omega, ?_⟩
      ((conv => whnf); repeat ((first | refine aF ?_ | refine aT ?_); (first | refine run Γ hm 400 ?_ | refine runD Γ hm 400 (by kernel_rfl) ?_); conv => whnf))
      refine ⟨rfl, by omega, 2, rfl, rfl, ?_⟩
      ((conv => whnf); repeat ((first | refine aF ?_ | refine aT ?_); (first | refine run Γ hm 400 ?_ | refine runD Γ hm 400 (by kernel_rfl) ?_); conv => whnf))
      refine ⟨by unfold I64; omega, ?_⟩
      ((conv => whnf); repeat ((first | refine aF ?_ | refine aT ?_); (first | refine run Γ hm 400 ?_ | refine runD Γ hm 400 (by kernel_rfl) ?_); conv => whnf))
      exact G_next [] hlt ⟨⟨rfl, rfl, rfl, rfl, rfl, rfl, rfl, rfl, trivial⟩, ⟨.inl (congrArg (Ob.row 1 intSV) hsucc), rfl, trivial⟩, rfl, rfl⟩
    · rw [h] at hrole
      simp only [Bool.false_eq_true, if_false] at hrole
      rw [hrole] at hsucc
      ((first | refine run Γ hm 400 ?_ | refine runD Γ hm 400 (by kernel_rfl) ?_); (conv => whnf); repeat ((first | refine aF ?_ | refine aT ?_); (first | refine run Γ hm 400 ?_ | refine runD Γ hm 400 (by kernel_rfl) ?_); conv => whnf))
      refine ⟨by omega, by omega, ?_⟩
      ((conv => whnf); repeat ((first | refine aF ?_ | refine aT ?_); (first | refine run Γ hm 400 ?_ | refine runD Γ hm 400 (by kernel_rfl) ?_); conv => whnf))
      refine ⟨rfl, by omega, 3, rfl, rfl, ?_⟩
      ((conv => whnf); repeat ((first | refine aF ?_ | refine aT ?_); (first | refine run Γ hm 400 ?_ | refine runD Γ hm 400 (by kernel_rfl) ?_); conv => whnf))
      refine ⟨by unfold I64; omega, ?_⟩
      ((conv => whnf); repeat ((first | refine aF ?_ | refine aT ?_); (first | refine run Γ hm 400 ?_ | refine runD Γ hm 400 (by kernel_rfl) ?_); conv => whnf))
      exact G_next [] hlt ⟨⟨rfl, rfl, rfl, rfl, rfl, rfl, rfl, rfl, trivial⟩, ⟨.inl (congrArg (Ob.row 1 intSV) hsucc), rfl, trivial⟩, rfl, rfl⟩
  have hjl : j = n.ports.length := by
    have : ¬ j < n.ports.length := by simpa using h
    omega
  subst hjl
  ((first | refine run Γ hm 400 ?_ | refine runD Γ hm 400 (by kernel_rfl) ?_); (conv => whnf); repeat ((first | refine aF ?_ | refine aT ?_); (first | refine run Γ hm 400 ?_ | refine runD Γ hm 400 (by kernel_rfl) ?_); conv => whnf))
  refine G_count n.devices.length (fun d => [(0, spanSV n up ranks roots costs), (3, .osl 14), (47, intSV n.devices.length), (48, intSV d)]) (fun d => [(14, .row 1 intSV (rolesB n up ranks roots costs d))]) []
    ⟨⟨rfl, rfl, rfl, rfl, rfl, rfl, rfl, rfl, trivial⟩, ⟨.inl rfl, rfl, trivial⟩, rfl, rfl⟩ ?_
  clear hj h
  intro d hdle
  ((first | refine run Γ hm 400 ?_ | refine runD Γ hm 400 (by kernel_rfl) ?_); (conv => whnf); repeat ((first | refine aF ?_ | refine aT ?_); (first | refine run Γ hm 400 ?_ | refine runD Γ hm 400 (by kernel_rfl) ?_); conv => whnf))
  refine ⟨fun h => ?_, fun h => ?_⟩
  · have hlt : d < n.devices.length := by simpa using h
    have hbs := bestS n up ranks roots costs d hr hu hcost hrk hro hc hb (by omega)
    have hbl := @best_lt n up ranks roots costs d
    have hlen := rolesB_length n up ranks roots costs d
    have hsucc : rolesB n up ranks roots costs (d + 1) = if 0 ≤ bestI n up ranks roots costs d then (rolesB n up ranks roots costs d).set (bestI n up ranks roots costs d).toNat 1 else rolesB n up ranks roots costs d := rfl
    generalize bestI n up ranks roots costs d = k at *
    ((first | refine run Γ hm 400 ?_ | refine runD Γ hm 400 (by kernel_rfl) ?_); (conv => whnf); repeat ((first | refine aF ?_ | refine aT ?_); (first | refine run Γ hm 400 ?_ | refine runD Γ hm 400 (by kernel_rfl) ?_); conv => whnf))
    refine call0 hbs F65 rfl rfl rfl rfl rfl ?_
    ((first | refine run Γ hm 400 ?_ | refine runD Γ hm 400 (by kernel_rfl) ?_); (conv => whnf); repeat ((first | refine aF ?_ | refine aT ?_); (first | refine run Γ hm 400 ?_ | refine runD Γ hm 400 (by kernel_rfl) ?_); conv => whnf))
    refine ⟨fun h => ?_, fun h => ?_⟩
    · have hk : 0 ≤ k := of_decide_eq_true h
      rw [if_pos hk] at hsucc
      ((first | refine run Γ hm 400 ?_ | refine runD Γ hm 400 (by kernel_rfl) ?_); (conv => whnf); repeat ((first | refine aF ?_ | refine aT ?_); (first | refine run Γ hm 400 ?_ | refine runD Γ hm 400 (by kernel_rfl) ?_); conv => whnf))
      refine ⟨hk, by omega, ?_⟩
      ((conv => whnf); repeat ((first | refine aF ?_ | refine aT ?_); (first | refine run Γ hm 400 ?_ | refine runD Γ hm 400 (by kernel_rfl) ?_); conv => whnf))
      refine ⟨rfl, by omega, 1, rfl, rfl, ?_⟩
      ((conv => whnf); repeat ((first | refine aF ?_ | refine aT ?_); (first | refine run Γ hm 400 ?_ | refine runD Γ hm 400 (by kernel_rfl) ?_); conv => whnf))
      refine ⟨by unfold I64; omega, ?_⟩
      ((conv => whnf); repeat ((first | refine aF ?_ | refine aT ?_); (first | refine run Γ hm 400 ?_ | refine runD Γ hm 400 (by kernel_rfl) ?_); conv => whnf))
      exact G_next [] hlt ⟨⟨rfl, rfl, rfl, rfl, rfl, rfl, rfl, rfl, trivial⟩, ⟨.inl (congrArg (Ob.row 1 intSV) hsucc), rfl, trivial⟩, rfl, rfl⟩
    · have hk : ¬ 0 ≤ k := of_decide_eq_false h
      rw [if_neg hk] at hsucc
      ((first | refine run Γ hm 400 ?_ | refine runD Γ hm 400 (by kernel_rfl) ?_); (conv => whnf); repeat ((first | refine aF ?_ | refine aT ?_); (first | refine run Γ hm 400 ?_ | refine runD Γ hm 400 (by kernel_rfl) ?_); conv => whnf))
      refine ⟨by unfold I64; omega, ?_⟩
      ((conv => whnf); repeat ((first | refine aF ?_ | refine aT ?_); (first | refine run Γ hm 400 ?_ | refine runD Γ hm 400 (by kernel_rfl) ?_); conv => whnf))
      exact G_next [] hlt ⟨⟨rfl, rfl, rfl, rfl, rfl, rfl, rfl, rfl, trivial⟩, ⟨.inl (congrArg (Ob.row 1 intSV) hsucc), rfl, trivial⟩, rfl, rfl⟩
  have hdl : d = n.devices.length := by
    have : ¬ d < n.devices.length := by simpa using h
    omega
  subst hdl
  ((first | refine run Γ hm 400 ?_ | refine runD Γ hm 400 (by kernel_rfl) ?_); (conv => whnf); repeat ((first | refine aF ?_ | refine aT ?_); (first | refine run Γ hm 400 ?_ | refine runD Γ hm 400 (by kernel_rfl) ?_); conv => whnf))
  refine G_data 14 rfl ?_
  exact done0 rfl (.cons .tmp .nil) rfl rfl
end Go.Sy.YthbgklhegccckaaGreat
