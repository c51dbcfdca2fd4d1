/-
  Contracts: unlike ids; talks that begin. Contracts: a talk's ports that live, what devices choose, what ports would tell. Contracts: what ports would tell, their roles, what they tell.
-/
import Derived.Test.YthbgklhegccckaaGreatC18

namespace Go.Sy.YthbgklhegccckaaGreat
open Go.Proofs

attribute [local irreducible] Go.Sy.G Go.Sy.DR
set_option maxRecDepth 100000
set_option maxHeartbeats 4000000

theorem unlike_not_ok {n : Net} (h : n.devices.all idOK = false) : unlikeB n = false := by simp only [unlikeB, h, Bool.and_false, Bool.false_and]
theorem unlike_bad {n : Net} {i : Nat} (hi : i < n.devices.length) (h : idOK n.devices[i] = false) : unlikeB n = false := by
  refine unlike_not_ok ?_
  cases hb : n.devices.all idOK
  · rfl
  · have := List.all_eq_true.1 hb _ (List.getElem_mem hi)
    rw [h] at this
    cases this
theorem unlike_same {n : Net} {i k : Nat} (hki : k < i) (hi : i < n.devices.length) (h : idD n.devices[k] = idD n.devices[i]) : unlikeB n = false := by
  have : ¬ (idsL n).Nodup := fun hn => by
    rw [List.Nodup, List.pairwise_iff_getElem] at hn
    have := hn k i (by rw [idsL_length]; omega) (by rw [idsL_length]; omega) hki
    rw [idsL_get (by omega), idsL_get hi] at this
    exact this h
  simp only [unlikeB, decide_eq_false this, Bool.and_false]
theorem unlike_yes {n : Net} (hr : netRightB n = true) (hc : costsB n = true) (h : ∀ i (hi : i < n.devices.length), idOK n.devices[i] = true) (h2 : ∀ i k (hi : i < n.devices.length) (hk : k < i), idD n.devices[k] ≠ idD n.devices[i]) : unlikeB n = true := by
  have h1 : n.devices.all idOK = true := List.all_eq_true.2 fun d hd => by
    obtain ⟨i, hi, rfl⟩ := List.getElem_of_mem hd
    exact h i hi
  have h3 : (idsL n).Nodup := by
    rw [List.Nodup, List.pairwise_iff_getElem]
    intro k i hk hi hki
    rw [idsL_length] at hk hi
    rw [idsL_get hk, idsL_get hi]
    exact h2 i k hi hki
  simp only [unlikeB, hr, hc, h1, decide_eq_true h3, Bool.and_true]
theorem unlike_facts {n : Net} (h : unlikeB n = true) : netRightB n = true ∧ costsB n = true ∧ n.devices.all idOK = true ∧ (idsL n).Nodup := by
  simp only [unlikeB, Bool.and_eq_true, decide_eq_true_eq] at h
  exact ⟨h.1.1.1, h.1.1.2, h.1.2, h.2⟩

theorem unlikeS (n : Net) (hn : n.Fin) (hm1 : MacsIn n) : Sy.Spec Tryz.prog 10 [netSV n] [] (boolSV (unlikeB n)) [] := by
  cases hr : netRightB n with
  | false =>
    have e : unlikeB n = false := by simp only [unlikeB, hr, Bool.false_and]
    have q := namesRightS n hn
    rw [hr] at q
    rw [e]
    refine contract Γ hm 100 F10 Tryz.ntmps10 rfl fun F hF => by
      ((conv => whnf); repeat ((first | refine aF ?_ | refine aT ?_); (first | refine run Γ hm 400 ?_ | refine runD Γ hm 400 (by kernel_rfl) ?_); conv => whnf))
      refine call0 q F19 rfl rfl rfl rfl rfl ?_
      ((first | refine run Γ hm 400 ?_ | refine runD Γ hm 400 (by kernel_rfl) ?_); (conv => whnf); repeat ((first | refine aF ?_ | refine aT ?_); (first | refine run Γ hm 400 ?_ | refine runD Γ hm 400 (by kernel_rfl) ?_); conv => whnf))
      exact done0 rfl (.cons .tmp .nil) rfl rfl
  | true =>
  have q := namesRightS n hn
  rw [hr] at q
  have hf := right_few hr
  cases hc : costsB n with
  | false =>
    have e : unlikeB n = false := by simp only [unlikeB, hc, Bool.and_false, Bool.false_and]
    have q2 := costsS n hn.ports
    rw [hc] at q2
    rw [e]
    refine contract Γ hm 100 F10 Tryz.ntmps10 rfl fun F hF => by
      ((conv => whnf); repeat ((first | refine aF ?_ | refine aT ?_); (first | refine run Γ hm 400 ?_ | refine runD Γ hm 400 (by kernel_rfl) ?_); conv => whnf))
      refine call0 q F19 rfl rfl rfl rfl rfl ?_
      ((first | refine run Γ hm 400 ?_ | refine runD Γ hm 400 (by kernel_rfl) ?_); (conv => whnf); repeat ((first | refine aF ?_ | refine aT ?_); (first | refine run Γ hm 400 ?_ | refine runD Γ hm 400 (by kernel_rfl) ?_); conv => whnf))
      refine call0 q2 F20 rfl rfl rfl rfl rfl ?_
      ((first | refine run Γ hm 400 ?_ | refine runD Γ hm 400 (by kernel_rfl) ?_); (conv => whnf); repeat ((first | refine aF ?_ | refine aT ?_); (first | refine run Γ hm 400 ?_ | refine runD Γ hm 400 (by kernel_rfl) ?_); conv => whnf))
      exact done0 rfl (.cons .tmp .nil) rfl rfl
  | true =>
  have q2 := costsS n hn.ports
  rw [hc] at q2
  cases ha : n.devices.all idOK with
  | false =>
    rw [unlike_not_ok ha]
    have q3 := idsBadS n hm1 (by omega) ha
    refine contract Γ hm 100 F10 Tryz.ntmps10 rfl fun F hF => by
      ((conv => whnf); repeat ((first | refine aF ?_ | refine aT ?_); (first | refine run Γ hm 400 ?_ | refine runD Γ hm 400 (by kernel_rfl) ?_); conv => whnf))
      refine call0 q F19 rfl rfl rfl rfl rfl ?_
      ((first | refine run Γ hm 400 ?_ | refine runD Γ hm 400 (by kernel_rfl) ?_); (conv => whnf); repeat ((first | refine aF ?_ | refine aT ?_); (first | refine run Γ hm 400 ?_ | refine runD Γ hm 400 (by kernel_rfl) ?_); conv => whnf))
      refine call0 q2 F20 rfl rfl rfl rfl rfl ?_
      ((first | refine run Γ hm 400 ?_ | refine runD Γ hm 400 (by kernel_rfl) ?_); (conv => whnf); repeat ((first | refine aF ?_ | refine aT ?_); (first | refine run Γ hm 400 ?_ | refine runD Γ hm 400 (by kernel_rfl) ?_); conv => whnf))
      refine call0 q3 F21 rfl rfl rfl rfl rfl ?_
      ((first | refine run Γ hm 400 ?_ | refine runD Γ hm 400 (by kernel_rfl) ?_); (conv => whnf); repeat ((first | refine aF ?_ | refine aT ?_); (first | refine run Γ hm 400 ?_ | refine runD Γ hm 400 (by kernel_rfl) ?_); conv => whnf))
      refine G_count 0 (fun j => [(3, .sl 1 natU []), (4, boolSV false), (20, .sl 1 natU []), (21, intSV 0), (22, intSV j)]) (fun _ => []) [] ⟨⟨rfl, rfl, rfl, rfl, rfl, rfl, rfl, rfl, rfl, rfl, trivial⟩, trivial, rfl, rfl⟩ ?_
      intro j hj
      ((first | refine run Γ hm 400 ?_ | refine runD Γ hm 400 (by kernel_rfl) ?_); (conv => whnf); repeat ((first | refine aF ?_ | refine aT ?_); (first | refine run Γ hm 400 ?_ | refine runD Γ hm 400 (by kernel_rfl) ?_); conv => whnf))
      exact done0 rfl (.cons .tmp .nil) rfl rfl
  | true =>
  have q3 := idsOKS n hm1 (by omega) ha
  have hlen := idsL_length n
  have e : unlikeB n = decide (idsL n).Nodup := by simp only [unlikeB, hr, hc, ha, Bool.true_and]
  rw [e]
  generalize idsL n = l at *
  refine contract Γ hm 100 F10 Tryz.ntmps10 rfl fun F hF => by
    ((conv => whnf); repeat ((first | refine aF ?_ | refine aT ?_); (first | refine run Γ hm 400 ?_ | refine runD Γ hm 400 (by kernel_rfl) ?_); conv => whnf))
    refine call0 q F19 rfl rfl rfl rfl rfl ?_
    ((first | refine run Γ hm 400 ?_ | refine runD Γ hm 400 (by kernel_rfl) ?_); (conv => whnf); repeat ((first | refine aF ?_ | refine aT ?_); (first | refine run Γ hm 400 ?_ | refine runD Γ hm 400 (by kernel_rfl) ?_); conv => whnf))
    refine call0 q2 F20 rfl rfl rfl rfl rfl ?_
    ((first | refine run Γ hm 400 ?_ | refine runD Γ hm 400 (by kernel_rfl) ?_); (conv => whnf); repeat ((first | refine aF ?_ | refine aT ?_); (first | refine run Γ hm 400 ?_ | refine runD Γ hm 400 (by kernel_rfl) ?_); conv => whnf))
    refine call0 q3 F21 rfl rfl rfl rfl rfl ?_
    ((first | refine run Γ hm 400 ?_ | refine runD Γ hm 400 (by kernel_rfl) ?_); (conv => whnf); repeat ((first | refine aF ?_ | refine aT ?_); (first | refine run Γ hm 400 ?_ | refine runD Γ hm 400 (by kernel_rfl) ?_); conv => whnf))
    refine G_countP l.length (fun j => ∀ i (h : i < l.length), i < j → idxI (· == l[i]) l = i) (fun j => [(3, .sl 1 natU l), (4, boolSV true), (20, .sl 1 natU l), (21, intSV l.length), (22, intSV j)]) (fun _ => []) [] (fun i h hj => absurd hj (by omega)) ⟨⟨rfl, rfl, rfl, rfl, rfl, rfl, rfl, rfl, rfl, rfl, trivial⟩, trivial, rfl, rfl⟩ ?_
    intro j hj hI
    ((first | refine run Γ hm 400 ?_ | refine runD Γ hm 400 (by kernel_rfl) ?_); (conv => whnf); repeat ((first | refine aF ?_ | refine aT ?_); (first | refine run Γ hm 400 ?_ | refine runD Γ hm 400 (by kernel_rfl) ?_); conv => whnf))
    refine ⟨fun h => ?_, fun h => ?_⟩
    · have hlt : j < l.length := by simpa using h
      obtain ⟨x, hx⟩ : ∃ x, l[(j : Int).toNat]'(by omega) = x := ⟨_, rfl⟩
      have q4 := indexUS l x (by unfold Short; omega)
      have hx' : l[j] = x := hx
      ((first | refine run Γ hm 400 ?_ | refine runD Γ hm 400 (by kernel_rfl) ?_); (conv => whnf); repeat ((first | refine aF ?_ | refine aT ?_); (first | refine run Γ hm 400 ?_ | refine runD Γ hm 400 (by kernel_rfl) ?_); conv => whnf))
      refine ⟨rfl, by omega, by omega, ?_⟩
      rw [hx]
      ((conv => whnf); repeat ((first | refine aF ?_ | refine aT ?_); (first | refine run Γ hm 400 ?_ | refine runD Γ hm 400 (by kernel_rfl) ?_); conv => whnf))
      refine call0 q4 F22 rfl rfl rfl rfl rfl ?_
      ((first | refine run Γ hm 400 ?_ | refine runD Γ hm 400 (by kernel_rfl) ?_); (conv => whnf); repeat ((first | refine aF ?_ | refine aT ?_); (first | refine run Γ hm 400 ?_ | refine runD Γ hm 400 (by kernel_rfl) ?_); conv => whnf))
      refine ⟨fun h => ?_, fun h => ?_⟩
      · have h2 : ¬ l.Nodup := fun hn2 => by
          have := (nodup_idx l).1 hn2 j hlt
          rw [hx'] at this
          simp [this] at h
        ((first | refine run Γ hm 400 ?_ | refine runD Γ hm 400 (by kernel_rfl) ?_); (conv => whnf); repeat ((first | refine aF ?_ | refine aT ?_); (first | refine run Γ hm 400 ?_ | refine runD Γ hm 400 (by kernel_rfl) ?_); conv => whnf))
        exact done0 rfl (.cons .tmp .nil) (congrArg boolSV (decide_eq_false h2)) rfl
      · have h2 : idxI (· == l[j]) l = j := by rw [hx']; simpa using h
        ((first | refine run Γ hm 400 ?_ | refine runD Γ hm 400 (by kernel_rfl) ?_); (conv => whnf); repeat ((first | refine aF ?_ | refine aT ?_); (first | refine run Γ hm 400 ?_ | refine runD Γ hm 400 (by kernel_rfl) ?_); conv => whnf))
        refine ⟨by unfold I64; omega, ?_⟩
        ((conv => whnf); repeat ((first | refine aF ?_ | refine aT ?_); (first | refine run Γ hm 400 ?_ | refine runD Γ hm 400 (by kernel_rfl) ?_); conv => whnf))
        refine G_nextP [] hI hlt (fun i hi hij => ?_) ⟨⟨rfl, rfl, rfl, rfl, rfl, rfl, rfl, rfl, rfl, rfl, trivial⟩, trivial, rfl, rfl⟩
        rcases Nat.lt_or_ge i j with h3 | h3
        · exact hI i hi h3
        · have : i = j := by omega
          subst this
          exact h2
    · have hjl : j = l.length := by
        have : ¬ j < l.length := by simpa using h
        omega
      have h2 : l.Nodup := (nodup_idx l).2 fun i hi => hI i hi (by omega)
      ((first | refine run Γ hm 400 ?_ | refine runD Γ hm 400 (by kernel_rfl) ?_); (conv => whnf); repeat ((first | refine aF ?_ | refine aT ?_); (first | refine run Γ hm 400 ?_ | refine runD Γ hm 400 (by kernel_rfl) ?_); conv => whnf))
      exact done0 rfl (.cons .tmp .nil) (congrArg boolSV (decide_eq_true h2)) rfl

def idI (d : Device) : Nat := if idOK d then idD d else 0
end Go.Sy.YthbgklhegccckaaGreat

namespace Go.Sy.YthbgklhegccckaaGreat
open Go.Proofs

attribute [local irreducible] Go.Sy.G Go.Sy.DR
set_option maxRecDepth 100000
set_option maxHeartbeats 4000000

structure Talk (n : Net) (up : List Bool) (hs : List Heard) : Prop where
  unlike : unlikeB n = true
  ups : up.length = n.links.length
  len : hs.length = n.ports.length
  ok : AllOK hs
  macs : MacsIn n

def talkL (n : Net) (up : List Bool) (k : Nat) : List SV := [.sl 5 deviceSV n.devices, .sl 7 portSV n.ports, .sl 3 linkSV n.links, .sl 6 domainSV n.domains, .sl 4 staticSV n.statics, .sl 4 floodSV n.floods, .sl 5 vrfSV n.vrfs, .sl 5 irbSV n.irbs, .sl 1 boolSV up, .sl 1 natU (idsL n), .osl k]
def talkO (n : Net) (up : List Bool) (hs : List Heard) : Obs := [(0, .box (talkL n up 1)), (1, .row 11 heardSV hs)]

section
variable {n : Net} {up : List Bool} {hs : List Heard}
theorem Talk.right (T : Talk n up hs) : netRightB n = true := (unlike_facts T.unlike).1
theorem Talk.costs (T : Talk n up hs) : costsB n = true := (unlike_facts T.unlike).2.1
theorem Talk.few (T : Talk n up hs) : n.devices.length ≤ 8 ∧ n.ports.length ≤ 40 ∧ n.links.length ≤ 20 := right_few T.right
theorem Talk.id (T : Talk n up hs) {d : Device} (h : d ∈ n.devices) : 0 ≤ d.prio ∧ d.prio < 65536 ∧ 0 ≤ d.mac ∧ d.mac < 281474976710656 := by
  have := List.all_eq_true.1 (unlike_facts T.unlike).2.2.1 d h
  simp only [idOK, Bool.and_eq_true, decide_eq_true_eq] at this
  omega
theorem idD_lt {d : Device} (h : 0 ≤ d.prio ∧ d.prio < 65536 ∧ 0 ≤ d.mac ∧ d.mac < 281474976710656) : idD d < 18446744073709551616 := by
  unfold idD idN
  omega
theorem Talk.port (T : Talk n up hs) {i : Nat} (hi : i < n.ports.length) : 0 ≤ n.ports[i].dev ∧ n.ports[i].dev < n.devices.length ∧ 1 ≤ n.ports[i].cost ∧ n.ports[i].cost ≤ 65535 ∧ (n.ports[i].link = -1 ∨ (0 ≤ n.ports[i].link ∧ n.ports[i].link < up.length)) := by
  have h1 := port_dev T.right hi
  have h2 := port_link T.right hi
  have h3 := pcost_le T.costs hi
  have e : nth n.ports (i : Int) = n.ports[i] := nth_eq (l := n.ports) (i := (i : Int)) (by simpa using hi)
  rw [pcost, e] at h3
  have := T.ups
  omega

theorem live_no {i : Int} (h : ¬ (0 ≤ i ∧ i < n.ports.length)) : liveB n up i = false := by
  unfold liveB
  rcases Classical.not_and_iff_not_or_not.1 h with h | h <;> simp [h]
theorem live_eq {i : Int} (h : 0 ≤ i ∧ i < n.ports.length) : liveB n up i = (decide (0 ≤ (n.ports[i.toNat]'(by omega)).link) && up.getD (n.ports[i.toNat]'(by omega)).link.toNat false) := by
  unfold liveB
  rw [nth_eq (by omega), decide_eq_true h.1, decide_eq_true h.2]
  rfl
theorem live_range {i : Int} (h : liveB n up i = true) : 0 ≤ i ∧ i < n.ports.length := by
  simp only [liveB, Bool.and_eq_true, decide_eq_true_eq] at h
  exact h.1.1

theorem livesS (T : Talk n up hs) (i : Int) : Sy.Spec Tryz.prog 25 [.ptr 0 0, intSV i] (talkO n up hs) (boolSV (liveB n up i)) (talkO n up hs) := by
  by_cases hi : 0 ≤ i ∧ i < n.ports.length
  · obtain ⟨p, hp⟩ : ∃ p, n.ports[i.toNat]'(by omega) = p := ⟨_, rfl⟩
    have hpp := T.port (i := i.toNat) (by omega)
    have hl := live_eq (up := up) hi
    rw [hp] at hpp hl
    rw [hl]
    by_cases hk : 0 ≤ p.link
    · have hk2 : p.link.toNat < up.length := by omega
      have hv : (decide (0 ≤ p.link) && up.getD p.link.toNat false) = up[p.link.toNat] := by
        rw [decide_eq_true hk, Bool.true_and, getD_at hk2]
      rw [hv]
      refine contract Γ hm 100 F25 Tryz.ntmps25 rfl fun F hF => by
        ((conv => whnf); repeat ((first | refine aF ?_ | refine aT ?_); (first | refine run Γ hm 400 ?_ | refine runD Γ hm 400 (by kernel_rfl) ?_); conv => whnf))
        refine ⟨fun h => absurd (of_decide_eq_true h) (by omega), fun _ => ?_⟩
        ((first | refine run Γ hm 400 ?_ | refine runD Γ hm 400 (by kernel_rfl) ?_); (conv => whnf); repeat ((first | refine aF ?_ | refine aT ?_); (first | refine run Γ hm 400 ?_ | refine runD Γ hm 400 (by kernel_rfl) ?_); conv => whnf))
        refine ⟨fun h => absurd (of_decide_eq_true h) (by omega), fun _ => ?_⟩
        ((first | refine run Γ hm 400 ?_ | refine runD Γ hm 400 (by kernel_rfl) ?_); (conv => whnf); repeat ((first | refine aF ?_ | refine aT ?_); (first | refine run Γ hm 400 ?_ | refine runD Γ hm 400 (by kernel_rfl) ?_); conv => whnf))
        refine ⟨rfl, by omega, by omega, ?_⟩
        rw [hp]
        ((conv => whnf); repeat ((first | refine aF ?_ | refine aT ?_); (first | refine run Γ hm 400 ?_ | refine runD Γ hm 400 (by kernel_rfl) ?_); conv => whnf))
        refine ⟨fun _ => ?_, fun h => absurd (of_decide_eq_false h) (by omega)⟩
        ((first | refine run Γ hm 400 ?_ | refine runD Γ hm 400 (by kernel_rfl) ?_); (conv => whnf); repeat ((first | refine aF ?_ | refine aT ?_); (first | refine run Γ hm 400 ?_ | refine runD Γ hm 400 (by kernel_rfl) ?_); conv => whnf))
        refine ⟨rfl, hk, hk2, ?_⟩
        ((conv => whnf); repeat ((first | refine aF ?_ | refine aT ?_); (first | refine run Γ hm 400 ?_ | refine runD Γ hm 400 (by kernel_rfl) ?_); conv => whnf))
        exact done rfl (.cons .tmp .nil) [] (talkO n up hs) (fun _ h => h) rfl rfl ⟨trivial, ⟨.inl rfl, rfl, .inl rfl, rfl, trivial⟩, rfl, rfl⟩
    · rw [decide_eq_false hk, Bool.false_and]
      refine contract Γ hm 100 F25 Tryz.ntmps25 rfl fun F hF => by
        ((conv => whnf); repeat ((first | refine aF ?_ | refine aT ?_); (first | refine run Γ hm 400 ?_ | refine runD Γ hm 400 (by kernel_rfl) ?_); conv => whnf))
        refine ⟨fun h => absurd (of_decide_eq_true h) (by omega), fun _ => ?_⟩
        ((first | refine run Γ hm 400 ?_ | refine runD Γ hm 400 (by kernel_rfl) ?_); (conv => whnf); repeat ((first | refine aF ?_ | refine aT ?_); (first | refine run Γ hm 400 ?_ | refine runD Γ hm 400 (by kernel_rfl) ?_); conv => whnf))
        refine ⟨fun h => absurd (of_decide_eq_true h) (by omega), fun _ => ?_⟩
        ((first | refine run Γ hm 400 ?_ | refine runD Γ hm 400 (by kernel_rfl) ?_); (conv => whnf); repeat ((first | refine aF ?_ | refine aT ?_); (first | refine run Γ hm 400 ?_ | refine runD Γ hm 400 (by kernel_rfl) ?_); conv => whnf))
        refine ⟨rfl, by omega, by omega, ?_⟩
        rw [hp]
        ((conv => whnf); repeat ((first | refine aF ?_ | refine aT ?_); (first | refine run Γ hm 400 ?_ | refine runD Γ hm 400 (by kernel_rfl) ?_); conv => whnf))
        refine ⟨fun h => absurd (of_decide_eq_true h) (by omega), fun _ => ?_⟩
        ((first | refine run Γ hm 400 ?_ | refine runD Γ hm 400 (by kernel_rfl) ?_); (conv => whnf); repeat ((first | refine aF ?_ | refine aT ?_); (first | refine run Γ hm 400 ?_ | refine runD Γ hm 400 (by kernel_rfl) ?_); conv => whnf))
        exact done rfl (.cons .tmp .nil) [] (talkO n up hs) (fun _ h => h) rfl rfl ⟨trivial, ⟨.inl rfl, rfl, .inl rfl, rfl, trivial⟩, rfl, rfl⟩
  · rw [live_no hi]
    refine contract Γ hm 100 F25 Tryz.ntmps25 rfl fun F hF => by
      ((conv => whnf); repeat ((first | refine aF ?_ | refine aT ?_); (first | refine run Γ hm 400 ?_ | refine runD Γ hm 400 (by kernel_rfl) ?_); conv => whnf))
      (repeat' (first | (refine ⟨fun h => ?_, fun h => ?_⟩ <;> (repeat (first | (simp only [decide_eq_true_eq] at h) | (simp only [decide_eq_false_iff_not] at h) | (simp only [beq_iff_eq] at h) | (simp only [beq_eq_false_iff_ne] at h) | (simp only [bne_iff_ne] at h) | (simp only [bne_eq_false_iff_eq] at h) | (simp only [Bool.and_eq_true] at h) | (simp only [Bool.or_eq_true] at h) | (simp only [Bool.and_eq_false_iff] at h) | (simp only [Bool.or_eq_false_iff] at h) | (simp only [Bool.not_eq_true'] at h) | (simp only [Bool.not_eq_false'] at h) | (simp only [Bool.not_eq_eq_eq_not] at h) | (simp only [Bool.not_true] at h) | (simp only [Bool.not_false] at h))) <;> ((first | refine run Γ hm 400 ?_ | refine runD Γ hm 400 (by kernel_rfl) ?_); (conv => whnf); repeat ((first | refine aF ?_ | refine aT ?_); (first | refine run Γ hm 400 ?_ | refine runD Γ hm 400 (by kernel_rfl) ?_); conv => whnf))) | (refine done0 rfl (.cons .tmp .nil) ?_ rfl) | (refine ⟨(by kernel_rfl), ?_⟩; ((conv => whnf); repeat ((first | refine aF ?_ | refine aT ?_); (first | refine run Γ hm 400 ?_ | refine runD Γ hm 400 (by kernel_rfl) ?_); conv => whnf))) | (refine ⟨by (first | (unfold I64; omega) | omega | (simp only [Int.toNat_natCast]; omega) | done), by (first | (unfold I64; omega) | omega | (simp only [Int.toNat_natCast]; omega) | done), ?_⟩; ((conv => whnf); repeat ((first | refine aF ?_ | refine aT ?_); (first | refine run Γ hm 400 ?_ | refine runD Γ hm 400 (by kernel_rfl) ?_); conv => whnf))) | (refine ⟨by (first | (unfold I64; omega) | omega | (simp only [Int.toNat_natCast]; omega) | done), ?_⟩; ((conv => whnf); repeat ((first | refine aF ?_ | refine aT ?_); (first | refine run Γ hm 400 ?_ | refine runD Γ hm 400 (by kernel_rfl) ?_); conv => whnf))) | (refine done rfl (.cons .tmp .nil) [] (talkO n up hs) (fun _ h => h) rfl rfl ⟨trivial, ⟨.inl rfl, rfl, .inl rfl, rfl, trivial⟩, rfl, rfl⟩)))
      all_goals (exfalso; omega)

theorem T_heard (T : Talk n up hs) {j : Nat} (hj : j < n.ports.length) : MsgOK (hs[j]'(by rw [T.len]; exact hj)).msg := T.ok _ (List.getElem_mem _)

theorem talkBestS (T : Talk n up hs) (dev : Int) (h0 : 0 ≤ dev) (h1 : dev < n.devices.length) : Sy.Spec Tryz.prog 73 [.ptr 0 0, intSV dev] (talkO n up hs) (choiceSV (bestOf n up hs dev)) (talkO n up hs) := contract Γ hm 100 F73 Tryz.ntmps73 rfl fun F hF => by
  have hf := T.few
  have hlh := T.len
  have hid : (idsL n)[dev.toNat]'(by rw [idsL_length]; omega) = idD (nth n.devices dev) := by rw [idsL_get (by omega), nth_eq (by omega)]
  have hil := idsL_length n
  ((conv => whnf); repeat ((first | refine aF ?_ | refine aT ?_); (first | refine run Γ hm 400 ?_ | refine runD Γ hm 400 (by kernel_rfl) ?_); conv => whnf))
  refine ⟨rfl, h0, by omega, ?_⟩
  rw [hid]
  ((conv => whnf); repeat ((first | refine aF ?_ | refine aT ?_); (first | refine run Γ hm 400 ?_ | refine runD Γ hm 400 (by kernel_rfl) ?_); conv => whnf))
  refine G_retype 17 (e := choiceSV) (l := [ownC n dev]) rfl rfl ?_
  refine G_count n.ports.length (fun j => [(0, .ptr 0 0), (1, intSV dev), (4, .ptr 4 0), (5, .osl 17), (22, .sl 7 portSV n.ports), (23, intSV n.ports.length), (24, intSV j)]) (fun j => [(0, .box (talkL n up 1)), (1, .row 11 heardSV hs), (4, .box [u64SV 0, intSV 0, u64SV 0, intSV 0, intSV 0]), (17, .row 5 choiceSV (ownC n dev :: candsL n up hs dev j))]) []
    ⟨⟨rfl, rfl, rfl, rfl, rfl, rfl, rfl, rfl, rfl, rfl, rfl, rfl, rfl, rfl, trivial⟩, ⟨.inl rfl, rfl, .inl rfl, rfl, .inl rfl, rfl, .inl rfl, rfl, trivial⟩, rfl, rfl⟩ ?_
  intro j hj
  have hcl := candsL_length n up hs dev j
  have hcs := candsL_succ n up hs dev j
  ((first | refine run Γ hm 400 ?_ | refine runD Γ hm 400 (by kernel_rfl) ?_); (conv => whnf); repeat ((first | refine aF ?_ | refine aT ?_); (first | refine run Γ hm 400 ?_ | refine runD Γ hm 400 (by kernel_rfl) ?_); conv => whnf))
  refine ⟨fun h => ?_, fun h => ?_⟩
  · have hlt : j < n.ports.length := by simpa using h
    have hcand : candC n up hs dev j = if (n.ports[j]).dev = dev ∧ (hs[j]'(by omega)).is = true ∧ liveB n up j = true then some ⟨(hs[j]'(by omega)).msg.root, (hs[j]'(by omega)).msg.cost + (n.ports[j]).cost, (hs[j]'(by omega)).msg.bridge, (hs[j]'(by omega)).msg.port, j⟩ else none := by
      unfold candC
      rw [nth_eq (l := n.ports) (i := (j : Int)) (by simpa using hlt), nth_eq (l := hs) (i := (j : Int)) (by simp; omega)]
      rfl
    have hpp := T.port hlt
    have hmk := T_heard T hlt
    obtain ⟨p, hp⟩ : ∃ p, n.ports[j] = p := ⟨_, rfl⟩
    obtain ⟨hh, hhh⟩ : ∃ x, hs[j]'(by omega) = x := ⟨_, rfl⟩
    have e1 : n.ports[(j : Int).toNat]'(by omega) = p := hp
    have e2 : hs[(j : Int).toNat]'(by simp; omega) = hh := hhh
    have ql := livesS T (j : Int)
    rw [hp, hhh] at hcand
    rw [hp] at hpp
    rw [hhh] at hmk
    have hmc := hmk.cost
    generalize candsL n up hs dev j = cl at *
    rw [hcand] at hcs
    generalize liveB n up (j : Int) = lv at *
    ((first | refine run Γ hm 400 ?_ | refine runD Γ hm 400 (by kernel_rfl) ?_); (conv => whnf); repeat ((first | refine aF ?_ | refine aT ?_); (first | refine run Γ hm 400 ?_ | refine runD Γ hm 400 (by kernel_rfl) ?_); conv => whnf))
    refine ⟨rfl, by omega, by omega, ?_⟩
    rw [e1]
    ((conv => whnf); repeat ((first | refine aF ?_ | refine aT ?_); (first | refine run Γ hm 400 ?_ | refine runD Γ hm 400 (by kernel_rfl) ?_); conv => whnf))
    refine ⟨by omega, by simp; omega, ?_⟩
    ((conv => whnf); repeat ((first | refine aF ?_ | refine aT ?_); (first | refine run Γ hm 400 ?_ | refine runD Γ hm 400 (by kernel_rfl) ?_); conv => whnf))
    refine ⟨rfl, by simp; omega, ?_⟩
    rw [e2]
    ((conv => whnf); repeat ((first | refine aF ?_ | refine aT ?_); (first | refine run Γ hm 400 ?_ | refine runD Γ hm 400 (by kernel_rfl) ?_); conv => whnf))
    refine ⟨fun h => ?_, fun h => ?_⟩
    · have hd : p.dev = dev := by simpa using h
      ((first | refine run Γ hm 400 ?_ | refine runD Γ hm 400 (by kernel_rfl) ?_); (conv => whnf); repeat ((first | refine aF ?_ | refine aT ?_); (first | refine run Γ hm 400 ?_ | refine runD Γ hm 400 (by kernel_rfl) ?_); conv => whnf))
      refine ⟨fun h => ?_, fun h => ?_⟩
      · ((first | refine run Γ hm 400 ?_ | refine runD Γ hm 400 (by kernel_rfl) ?_); (conv => whnf); repeat ((first | refine aF ?_ | refine aT ?_); (first | refine run Γ hm 400 ?_ | refine runD Γ hm 400 (by kernel_rfl) ?_); conv => whnf))
        refine stepOp (good_call [] rfl F25 ql rfl ⟨rfl, rfl, trivial⟩ rfl ⟨.inl rfl, .inl rfl, trivial⟩) rfl rfl ?_
        ((first | refine run Γ hm 400 ?_ | refine runD Γ hm 400 (by kernel_rfl) ?_); (conv => whnf); repeat ((first | refine aF ?_ | refine aT ?_); (first | refine run Γ hm 400 ?_ | refine runD Γ hm 400 (by kernel_rfl) ?_); conv => whnf))
        refine ⟨fun h3 => ?_, fun h3 => ?_⟩
        · rw [if_pos ⟨hd, h, h3⟩] at hcs
          ((first | refine run Γ hm 400 ?_ | refine runD Γ hm 400 (by kernel_rfl) ?_); (conv => whnf); repeat ((first | refine aF ?_ | refine aT ?_); (first | refine run Γ hm 400 ?_ | refine runD Γ hm 400 (by kernel_rfl) ?_); conv => whnf))
          refine ⟨by unfold I64; omega, ?_⟩
          ((conv => whnf); repeat ((first | refine aF ?_ | refine aT ?_); (first | refine run Γ hm 400 ?_ | refine runD Γ hm 400 (by kernel_rfl) ?_); conv => whnf))
          refine stepOp (good_appendT Γ.toTy 68 rfl rfl rfl rfl rfl (.row rfl) (.lit (e := choiceSV) (l := [⟨hh.msg.root, hh.msg.cost + p.cost, hh.msg.bridge, hh.msg.port, j⟩]) rfl rfl) (by simp) (by simp; omega) (by simp; omega)) rfl rfl ?_
          ((first | refine run Γ hm 400 ?_ | refine runD Γ hm 400 (by kernel_rfl) ?_); (conv => whnf); repeat ((first | refine aF ?_ | refine aT ?_); (first | refine run Γ hm 400 ?_ | refine runD Γ hm 400 (by kernel_rfl) ?_); conv => whnf))
          refine ⟨by unfold I64; omega, ?_⟩
          ((conv => whnf); repeat ((first | refine aF ?_ | refine aT ?_); (first | refine run Γ hm 400 ?_ | refine runD Γ hm 400 (by kernel_rfl) ?_); conv => whnf))
          refine G_next [(17, 68)] hlt ⟨⟨rfl, rfl, rfl, rfl, rfl, rfl, rfl, rfl, rfl, rfl, rfl, rfl, rfl, rfl, trivial⟩, ⟨.inl rfl, rfl, .inl rfl, rfl, .inl rfl, rfl, .inl ?_, rfl, trivial⟩, rfl, rfl⟩
          rw [hcs]; rfl
        · rw [if_neg (fun e => by rw [e.2.2] at h3; cases h3)] at hcs
          simp only [Option.toList, List.append_nil] at hcs
          ((first | refine run Γ hm 400 ?_ | refine runD Γ hm 400 (by kernel_rfl) ?_); (conv => whnf); repeat ((first | refine aF ?_ | refine aT ?_); (first | refine run Γ hm 400 ?_ | refine runD Γ hm 400 (by kernel_rfl) ?_); conv => whnf))
          refine ⟨by unfold I64; omega, ?_⟩
          ((conv => whnf); repeat ((first | refine aF ?_ | refine aT ?_); (first | refine run Γ hm 400 ?_ | refine runD Γ hm 400 (by kernel_rfl) ?_); conv => whnf))
          refine G_next [] hlt ⟨⟨rfl, rfl, rfl, rfl, rfl, rfl, rfl, rfl, rfl, rfl, rfl, rfl, rfl, rfl, trivial⟩, ⟨.inl rfl, rfl, .inl rfl, rfl, .inl rfl, rfl, .inl ?_, rfl, trivial⟩, rfl, rfl⟩
          rw [hcs]; rfl
      · rw [if_neg (fun e => by rw [e.2.1] at h; cases h)] at hcs
        simp only [Option.toList, List.append_nil] at hcs
        ((first | refine run Γ hm 400 ?_ | refine runD Γ hm 400 (by kernel_rfl) ?_); (conv => whnf); repeat ((first | refine aF ?_ | refine aT ?_); (first | refine run Γ hm 400 ?_ | refine runD Γ hm 400 (by kernel_rfl) ?_); conv => whnf))
        refine ⟨by unfold I64; omega, ?_⟩
        ((conv => whnf); repeat ((first | refine aF ?_ | refine aT ?_); (first | refine run Γ hm 400 ?_ | refine runD Γ hm 400 (by kernel_rfl) ?_); conv => whnf))
        refine G_next [] hlt ⟨⟨rfl, rfl, rfl, rfl, rfl, rfl, rfl, rfl, rfl, rfl, rfl, rfl, rfl, rfl, trivial⟩, ⟨.inl rfl, rfl, .inl rfl, rfl, .inl rfl, rfl, .inl ?_, rfl, trivial⟩, rfl, rfl⟩
        rw [hcs]; rfl
    · have hd : ¬ p.dev = dev := by simpa using h
      rw [if_neg (fun e => hd e.1)] at hcs
      simp only [Option.toList, List.append_nil] at hcs
      ((first | refine run Γ hm 400 ?_ | refine runD Γ hm 400 (by kernel_rfl) ?_); (conv => whnf); repeat ((first | refine aF ?_ | refine aT ?_); (first | refine run Γ hm 400 ?_ | refine runD Γ hm 400 (by kernel_rfl) ?_); conv => whnf))
      refine ⟨by unfold I64; omega, ?_⟩
      ((conv => whnf); repeat ((first | refine aF ?_ | refine aT ?_); (first | refine run Γ hm 400 ?_ | refine runD Γ hm 400 (by kernel_rfl) ?_); conv => whnf))
      refine G_next [] hlt ⟨⟨rfl, rfl, rfl, rfl, rfl, rfl, rfl, rfl, rfl, rfl, rfl, rfl, rfl, rfl, trivial⟩, ⟨.inl rfl, rfl, .inl rfl, rfl, .inl rfl, rfl, .inl ?_, rfl, trivial⟩, rfl, rfl⟩
      rw [hcs]; rfl
  · have hjl : j = n.ports.length := by
      have : ¬ j < n.ports.length := by simpa using h
      omega
    subst hjl
    ((first | refine run Γ hm 400 ?_ | refine runD Γ hm 400 (by kernel_rfl) ?_); (conv => whnf); repeat ((first | refine aF ?_ | refine aT ?_); (first | refine run Γ hm 400 ?_ | refine runD Γ hm 400 (by kernel_rfl) ?_); conv => whnf))
    refine callK [17] (minS (ownC n dev) (candsL n up hs dev n.ports.length) (by omega)) F123 rfl (.cons (.row rfl rfl) (.cons (.refl _) .nil)) rfl rfl rfl ?_
    ((first | refine run Γ hm 400 ?_ | refine runD Γ hm 400 (by kernel_rfl) ?_); (conv => whnf); repeat ((first | refine aF ?_ | refine aT ?_); (first | refine run Γ hm 400 ?_ | refine runD Γ hm 400 (by kernel_rfl) ?_); conv => whnf))
    exact done rfl (.cons (.cell rfl rfl rfl rfl) .nil) [] (talkO n up hs) (fun _ h => h) rfl rfl ⟨trivial, ⟨.inl rfl, rfl, .inl rfl, rfl, trivial⟩, rfl, rfl⟩
end
end Go.Sy.YthbgklhegccckaaGreat

namespace Go.Sy.YthbgklhegccckaaGreat
open Go.Proofs

attribute [local irreducible] Go.Sy.G Go.Sy.DR
set_option maxRecDepth 100000
set_option maxHeartbeats 4000000

section
variable {n : Net} {up : List Bool} {hs : List Heard}

/-- What any choice is. -/
def ChoiceOK (c : Choice) : Prop := c.root < 18446744073709551616 ∧ 0 ≤ c.cost ∧ c.cost < 8589934592
theorem foldl_ok : ∀ (l : List Choice) (c : Choice), ChoiceOK c → (∀ x ∈ l, ChoiceOK x) → ChoiceOK (l.foldl stepC c)
  | [], c, h, _ => h
  | x :: l, c, h, hl => by
    refine foldl_ok l _ ?_ fun y hy => hl y (by simp [hy])
    unfold stepC
    split
    · exact hl x (by simp)
    · exact h

theorem cand_ok (T : Talk n up hs) (dev : Int) : ∀ x ∈ candsL n up hs dev n.ports.length, ChoiceOK x := fun x hx => by
  rw [candsL, List.mem_filterMap] at hx
  obtain ⟨i, hi, he⟩ := hx
  have hi := List.mem_range.1 hi
  have hlh := T.len
  unfold candC at he
  rw [nth_eq (l := n.ports) (i := (i : Int)) (by simpa using hi), nth_eq (l := hs) (i := (i : Int)) (by simp; omega)] at he
  simp only [Int.toNat_natCast] at he
  split at he
  · have hp := T.port hi
    have hm1 := T_heard T hi
    have h1 := hm1.root
    have h2 := hm1.cost
    cases he
    exact ⟨h1, by dsimp only; omega, by dsimp only; omega⟩
  · cases he
theorem best_ok (T : Talk n up hs) {dev : Int} (h0 : 0 ≤ dev) (h1 : dev < n.devices.length) : ChoiceOK (bestOf n up hs dev) := by
  refine foldl_ok _ _ ⟨?_, by simp [ownC], by simp [ownC]⟩ (cand_ok T dev)
  rw [ownC, nth_eq (by omega)]
  exact idD_lt (T.id (List.getElem_mem _))

theorem wouldS (T : Talk n up hs) (i : Nat) (hi : i < n.ports.length) : Sy.Spec Tryz.prog 72 [.ptr 0 0, intSV i] (talkO n up hs) (msgSV (wouldM n up hs i)) (talkO n up hs) := contract Γ hm 100 F72 Tryz.ntmps72 rfl fun F hF => by
  have hp0 : nth n.ports (i : Int) = n.ports[i] := nth_eq (l := n.ports) (i := (i : Int)) (by simpa using hi)
  have hw : wouldM n up hs i = ⟨false, false, (bestOf n up hs (n.ports[i]).dev).root, idD (nth n.devices (n.ports[i]).dev), (bestOf n up hs (n.ports[i]).dev).cost, i, 0, 5120, 512, 3840⟩ := by
    unfold wouldM pdevI
    rw [hp0]
  have hpp := T.port hi
  obtain ⟨p, hp⟩ : ∃ p, n.ports[i] = p := ⟨_, rfl⟩
  have e1 : n.ports[(i : Int).toNat]'(by omega) = p := hp
  rw [hp] at hpp hw
  have qb := talkBestS T p.dev hpp.1 hpp.2.1
  have hil := idsL_length n
  have hid : (idsL n)[p.dev.toNat]'(by rw [idsL_length]; omega) = idD (nth n.devices p.dev) := by rw [idsL_get (by omega), nth_eq (by omega)]
  rw [hw]
  generalize bestOf n up hs p.dev = b at *
  ((conv => whnf); repeat ((first | refine aF ?_ | refine aT ?_); (first | refine run Γ hm 400 ?_ | refine runD Γ hm 400 (by kernel_rfl) ?_); conv => whnf))
  refine ⟨rfl, by omega, by omega, ?_⟩
  rw [e1]
  ((conv => whnf); repeat ((first | refine aF ?_ | refine aT ?_); (first | refine run Γ hm 400 ?_ | refine runD Γ hm 400 (by kernel_rfl) ?_); conv => whnf))
  refine stepOp (good_call [] rfl F73 qb rfl ⟨rfl, rfl, trivial⟩ rfl ⟨.inl rfl, .inl rfl, trivial⟩) rfl rfl ?_
  ((first | refine run Γ hm 400 ?_ | refine runD Γ hm 400 (by kernel_rfl) ?_); (conv => whnf); repeat ((first | refine aF ?_ | refine aT ?_); (first | refine run Γ hm 400 ?_ | refine runD Γ hm 400 (by kernel_rfl) ?_); conv => whnf))
  refine ⟨rfl, by omega, by omega, ?_⟩
  rw [hid]
  ((conv => whnf); repeat ((first | refine aF ?_ | refine aT ?_); (first | refine run Γ hm 400 ?_ | refine runD Γ hm 400 (by kernel_rfl) ?_); conv => whnf))
  refine ⟨(by kernel_rfl), ?_⟩
  ((conv => whnf); repeat ((first | refine aF ?_ | refine aT ?_); (first | refine run Γ hm 400 ?_ | refine runD Γ hm 400 (by kernel_rfl) ?_); conv => whnf))
  exact done rfl (.cons (.cell rfl rfl rfl rfl) .nil) [] (talkO n up hs) (fun _ h => h) rfl rfl ⟨trivial, ⟨.inl rfl, rfl, .inl rfl, rfl, trivial⟩, rfl, rfl⟩

theorem roleS (T : Talk n up hs) (i : Nat) (hi : i < n.ports.length) : Sy.Spec Tryz.prog 32 [.ptr 0 0, intSV i] (talkO n up hs) (intSV (roleI n up hs i)) (talkO n up hs) := contract Γ hm 100 F32 Tryz.ntmps32 rfl fun F hF => by
  have hp0 : nth n.ports (i : Int) = n.ports[i] := nth_eq (l := n.ports) (i := (i : Int)) (by simpa using hi)
  have hlh := T.len
  have hh0 : nth hs (i : Int) = hs[i]'(by omega) := nth_eq (l := hs) (i := (i : Int)) (by simp; omega)
  have hw : roleI n up hs i = if liveB n up i = false then 0 else if (bestOf n up hs (n.ports[i]).dev).port = i then 1
      else if (hs[i]'(by omega)).is = false ∨ betterB (hs[i]'(by omega)).msg (wouldM n up hs i) = false then 2 else 3 := by
    unfold roleI pdevI
    rw [hp0, hh0]
  have hpp := T.port hi
  have ql := livesS T (i : Int)
  have qw := wouldS T i hi
  obtain ⟨p, hp⟩ : ∃ p, n.ports[i] = p := ⟨_, rfl⟩
  obtain ⟨hh, hhh⟩ : ∃ x, hs[i]'(by omega) = x := ⟨_, rfl⟩
  have e1 : n.ports[(i : Int).toNat]'(by omega) = p := hp
  have e2 : hs[(i : Int).toNat]'(by simp; omega) = hh := hhh
  rw [hp, hhh] at hw
  rw [hp] at hpp
  have qb := talkBestS T p.dev hpp.1 hpp.2.1
  generalize bestOf n up hs p.dev = b at *
  generalize liveB n up (i : Int) = lv at *
  generalize wouldM n up hs i = wm at *
  have qc := betterS hh.msg wm
  rw [hw]
  ((conv => whnf); repeat ((first | refine aF ?_ | refine aT ?_); (first | refine run Γ hm 400 ?_ | refine runD Γ hm 400 (by kernel_rfl) ?_); conv => whnf))
  refine ⟨by omega, by simp; omega, ?_⟩
  ((conv => whnf); repeat ((first | refine aF ?_ | refine aT ?_); (first | refine run Γ hm 400 ?_ | refine runD Γ hm 400 (by kernel_rfl) ?_); conv => whnf))
  refine ⟨rfl, by simp; omega, ?_⟩
  rw [e2]
  ((conv => whnf); repeat ((first | refine aF ?_ | refine aT ?_); (first | refine run Γ hm 400 ?_ | refine runD Γ hm 400 (by kernel_rfl) ?_); conv => whnf))
  refine stepOp (good_call [] rfl F25 ql rfl ⟨rfl, rfl, trivial⟩ rfl ⟨.inl rfl, .inl rfl, trivial⟩) rfl rfl ?_
  ((first | refine run Γ hm 400 ?_ | refine runD Γ hm 400 (by kernel_rfl) ?_); (conv => whnf); repeat ((first | refine aF ?_ | refine aT ?_); (first | refine run Γ hm 400 ?_ | refine runD Γ hm 400 (by kernel_rfl) ?_); conv => whnf))
  refine ⟨fun h => ?_, fun h => ?_⟩
  · have hv : lv = false := by simpa using h
    rw [if_pos hv]
    ((first | refine run Γ hm 400 ?_ | refine runD Γ hm 400 (by kernel_rfl) ?_); (conv => whnf); repeat ((first | refine aF ?_ | refine aT ?_); (first | refine run Γ hm 400 ?_ | refine runD Γ hm 400 (by kernel_rfl) ?_); conv => whnf))
    exact done rfl (.cons .tmp .nil) [] (talkO n up hs) (fun _ h => h) rfl rfl ⟨trivial, ⟨.inl rfl, rfl, .inl rfl, rfl, trivial⟩, rfl, rfl⟩
  have hv : ¬ lv = false := by simpa using h
  rw [if_neg hv]
  ((first | refine run Γ hm 400 ?_ | refine runD Γ hm 400 (by kernel_rfl) ?_); (conv => whnf); repeat ((first | refine aF ?_ | refine aT ?_); (first | refine run Γ hm 400 ?_ | refine runD Γ hm 400 (by kernel_rfl) ?_); conv => whnf))
  refine ⟨rfl, by omega, by omega, ?_⟩
  rw [e1]
  ((conv => whnf); repeat ((first | refine aF ?_ | refine aT ?_); (first | refine run Γ hm 400 ?_ | refine runD Γ hm 400 (by kernel_rfl) ?_); conv => whnf))
  refine stepOp (good_call [] rfl F73 qb rfl ⟨rfl, rfl, trivial⟩ rfl ⟨.inl rfl, .inl rfl, trivial⟩) rfl rfl ?_
  ((first | refine run Γ hm 400 ?_ | refine runD Γ hm 400 (by kernel_rfl) ?_); (conv => whnf); repeat ((first | refine aF ?_ | refine aT ?_); (first | refine run Γ hm 400 ?_ | refine runD Γ hm 400 (by kernel_rfl) ?_); conv => whnf))
  refine stepOp (good_field (Γ.eqok 146 _ rfl) rfl rfl (by decide) rfl) rfl rfl ?_
  ((first | refine run Γ hm 400 ?_ | refine runD Γ hm 400 (by kernel_rfl) ?_); (conv => whnf); repeat ((first | refine aF ?_ | refine aT ?_); (first | refine run Γ hm 400 ?_ | refine runD Γ hm 400 (by kernel_rfl) ?_); conv => whnf))
  refine ⟨fun h => ?_, fun h => ?_⟩
  · have hv : b.port = i := by simpa using h
    rw [if_pos hv]
    ((first | refine run Γ hm 400 ?_ | refine runD Γ hm 400 (by kernel_rfl) ?_); (conv => whnf); repeat ((first | refine aF ?_ | refine aT ?_); (first | refine run Γ hm 400 ?_ | refine runD Γ hm 400 (by kernel_rfl) ?_); conv => whnf))
    exact done rfl (.cons .tmp .nil) [] (talkO n up hs) (fun _ h => h) rfl rfl ⟨trivial, ⟨.inl rfl, rfl, .inl rfl, rfl, trivial⟩, rfl, rfl⟩
  have hv : ¬ b.port = i := by simpa using h
  rw [if_neg hv]
  ((first | refine run Γ hm 400 ?_ | refine runD Γ hm 400 (by kernel_rfl) ?_); (conv => whnf); repeat ((first | refine aF ?_ | refine aT ?_); (first | refine run Γ hm 400 ?_ | refine runD Γ hm 400 (by kernel_rfl) ?_); conv => whnf))
  refine ⟨fun h => ?_, fun h => ?_⟩
  · have hv : hh.is = false := by simpa using h
    rw [if_pos (.inl hv)]
    ((first | refine run Γ hm 400 ?_ | refine runD Γ hm 400 (by kernel_rfl) ?_); (conv => whnf); repeat ((first | refine aF ?_ | refine aT ?_); (first | refine run Γ hm 400 ?_ | refine runD Γ hm 400 (by kernel_rfl) ?_); conv => whnf))
    refine ⟨(by kernel_rfl), ?_⟩
    ((conv => whnf); repeat ((first | refine aF ?_ | refine aT ?_); (first | refine run Γ hm 400 ?_ | refine runD Γ hm 400 (by kernel_rfl) ?_); conv => whnf))
    exact done rfl (.cons .tmp .nil) [] (talkO n up hs) (fun _ h => h) rfl rfl ⟨trivial, ⟨.inl rfl, rfl, .inl rfl, rfl, trivial⟩, rfl, rfl⟩
  · have hv : hh.is = true := by simpa using h
    ((first | refine run Γ hm 400 ?_ | refine runD Γ hm 400 (by kernel_rfl) ?_); (conv => whnf); repeat ((first | refine aF ?_ | refine aT ?_); (first | refine run Γ hm 400 ?_ | refine runD Γ hm 400 (by kernel_rfl) ?_); conv => whnf))
    refine stepD2 (good_call [] rfl F72 qw rfl ⟨rfl, rfl, trivial⟩ rfl ⟨.inl rfl, .inl rfl, trivial⟩) ⟨rfl, rfl, trivial⟩ (by kernel_rfl) rfl ?_
    ((first | refine run Γ hm 400 ?_ | refine runD Γ hm 400 (by kernel_rfl) ?_); (conv => whnf); repeat ((first | refine aF ?_ | refine aT ?_); (first | refine run Γ hm 400 ?_ | refine runD Γ hm 400 (by kernel_rfl) ?_); conv => whnf))
    refine callD0 qc F27 rfl rfl rfl (by kernel_rfl) rfl ?_
    ((first | refine run Γ hm 400 ?_ | refine runD Γ hm 400 (by kernel_rfl) ?_); (conv => whnf); repeat ((first | refine aF ?_ | refine aT ?_); (first | refine run Γ hm 400 ?_ | refine runD Γ hm 400 (by kernel_rfl) ?_); conv => whnf))
    refine ⟨(by kernel_rfl), ?_⟩
    ((conv => whnf); repeat ((first | refine aF ?_ | refine aT ?_); (first | refine run Γ hm 400 ?_ | refine runD Γ hm 400 (by kernel_rfl) ?_); conv => whnf))
    refine ⟨fun h => ?_, fun h => ?_⟩
    · have h2 : betterB hh.msg wm = false := by simpa using h
      rw [if_pos (.inr h2)]
      ((first | refine run Γ hm 400 ?_ | refine runD Γ hm 400 (by kernel_rfl) ?_); (conv => whnf); repeat ((first | refine aF ?_ | refine aT ?_); (first | refine run Γ hm 400 ?_ | refine runD Γ hm 400 (by kernel_rfl) ?_); conv => whnf))
      exact done rfl (.cons .tmp .nil) [] (talkO n up hs) (fun _ h => h) rfl rfl ⟨trivial, ⟨.inl rfl, rfl, .inl rfl, rfl, trivial⟩, rfl, rfl⟩
    · have h2 : betterB hh.msg wm = true := by simpa using h
      rw [if_neg (by rw [hv, h2]; simp)]
      ((first | refine run Γ hm 400 ?_ | refine runD Γ hm 400 (by kernel_rfl) ?_); (conv => whnf); repeat ((first | refine aF ?_ | refine aT ?_); (first | refine run Γ hm 400 ?_ | refine runD Γ hm 400 (by kernel_rfl) ?_); conv => whnf))
      exact done rfl (.cons .tmp .nil) [] (talkO n up hs) (fun _ h => h) rfl rfl ⟨trivial, ⟨.inl rfl, rfl, .inl rfl, rfl, trivial⟩, rfl, rfl⟩

/-- From whom a port tells. -/
def macN (n : Net) (i : Int) : Nat := (nth n.devices (pdevI n i)).mac.toNat
def outM (n : Net) (i : Int) (m : Msg) : List UInt8 := outL (macN n i) m
def tellSV (n : Net) (i : Int) : Option Msg → SV
  | some m => .tup [.sl 1 byteSV (outM n i m), boolSV true]
  | none => .tup [.val (.slice none 0 0), boolSV false]

theorem would_right (T : Talk n up hs) {i : Nat} (hi : i < n.ports.length) (h : (wouldM n up hs i).cost < 4294967296) : rightB (wouldM n up hs i) = true := by
  have hp0 : nth n.ports (i : Int) = n.ports[i] := nth_eq (l := n.ports) (i := (i : Int)) (by simpa using hi)
  have hp := T.port hi
  have hf := T.few
  have hb := best_ok T hp.1 hp.2.1
  unfold wouldM pdevI at h ⊢
  rw [hp0] at h ⊢
  unfold ChoiceOK at hb
  generalize bestOf n up hs (n.ports[i]).dev = b at *
  rw [rightB_small _ rfl]
  simp only [List.all_cons, List.all_nil, smallB, Bool.and_eq_true, decide_eq_true_eq, Bool.and_true] at h ⊢
  omega
theorem would_wrong {i : Nat} (h : ¬ (wouldM n up hs i).cost < 4294967296) : rightB (wouldM n up hs i) = false := by
  rw [rightB_small _ rfl, decide_eq_false h, Bool.and_false]
  rfl

theorem tellS (T : Talk n up hs) (i : Nat) (hi : i < n.ports.length) : Sy.Spec Tryz.prog 28 [.ptr 0 0, intSV i] (talkO n up hs) (tellSV n i (tellO n up hs i)) (talkO n up hs) := by
  have hp0 : nth n.ports (i : Int) = n.ports[i] := nth_eq (l := n.ports) (i := (i : Int)) (by simpa using hi)
  have hpp := T.port hi
  have hlt : n.ports[i].dev.toNat < n.devices.length := by omega
  have ql := livesS T (i : Int)
  have qr := roleS T i hi
  have qw := wouldS T i hi
  have hdd := T.id (List.getElem_mem hlt)
  have hmac : macN n i = (n.devices[n.ports[i].dev.toNat]'hlt).mac.toNat := by
    unfold macN pdevI
    rw [hp0, nth_eq (by omega)]
  have hput := put_ok (macN n i) (wouldM n up hs i)
  have hnot := put_no (macN n i) (wouldM n up hs i)
  have hR := would_right T hi
  have hW := would_wrong (n := n) (up := up) (hs := hs) (i := i)
  have ht : tellO n up hs i = if liveB n up i = true ∧ roleI n up hs i = 2 ∧ (wouldM n up hs i).cost < 4294967296 then some (wouldM n up hs i) else none := rfl
  obtain ⟨p, hp⟩ : ∃ p, n.ports[i] = p := ⟨_, rfl⟩
  have e1 : n.ports[(i : Int).toNat]'(by omega) = p := hp
  simp only [hp] at hpp hmac hlt hdd
  obtain ⟨d, hd⟩ : ∃ d, n.devices[p.dev.toNat]'hlt = d := ⟨_, rfl⟩
  rw [hd] at hmac hdd
  have hm64 : (macN n i : Int) = d.mac := by rw [hmac]; omega
  have hm48 : macN n i < 281474976710656 := by rw [hmac]; omega
  rw [hm64] at hput hnot
  rw [ht]
  generalize liveB n up (i : Int) = lv at *
  generalize roleI n up hs i = ro at *
  generalize wouldM n up hs i = wm at *
  by_cases hl : lv = true
  · subst hl
    by_cases hro : ro = 2
    · subst hro
      by_cases hc : wm.cost < 4294967296
      · rw [if_pos ⟨rfl, rfl, hc⟩]
        have hput := hput (hR hc) hm48
        refine contract Γ hm 100 F28 Tryz.ntmps28 rfl fun F hF => by
          ((conv => whnf); repeat ((first | refine aF ?_ | refine aT ?_); (first | refine run Γ hm 400 ?_ | refine runD Γ hm 400 (by kernel_rfl) ?_); conv => whnf))
          refine stepOp (good_call [] rfl F25 ql rfl ⟨rfl, rfl, trivial⟩ rfl ⟨.inl rfl, .inl rfl, trivial⟩) rfl rfl ?_
          ((first | refine run Γ hm 400 ?_ | refine runD Γ hm 400 (by kernel_rfl) ?_); (conv => whnf); repeat ((first | refine aF ?_ | refine aT ?_); (first | refine run Γ hm 400 ?_ | refine runD Γ hm 400 (by kernel_rfl) ?_); conv => whnf))
          refine stepOp (good_call [] rfl F32 qr rfl ⟨rfl, rfl, trivial⟩ rfl ⟨.inl rfl, .inl rfl, trivial⟩) rfl rfl ?_
          ((first | refine run Γ hm 400 ?_ | refine runD Γ hm 400 (by kernel_rfl) ?_); (conv => whnf); repeat ((first | refine aF ?_ | refine aT ?_); (first | refine run Γ hm 400 ?_ | refine runD Γ hm 400 (by kernel_rfl) ?_); conv => whnf))
          refine ⟨rfl, by omega, by omega, ?_⟩
          rw [e1]
          ((conv => whnf); repeat ((first | refine aF ?_ | refine aT ?_); (first | refine run Γ hm 400 ?_ | refine runD Γ hm 400 (by kernel_rfl) ?_); conv => whnf))
          refine ⟨rfl, by omega, by omega, ?_⟩
          rw [hd]
          ((conv => whnf); repeat ((first | refine aF ?_ | refine aT ?_); (first | refine run Γ hm 400 ?_ | refine runD Γ hm 400 (by kernel_rfl) ?_); conv => whnf))
          refine stepD2 (good_call [] rfl F72 qw rfl ⟨rfl, rfl, trivial⟩ rfl ⟨.inl rfl, .inl rfl, trivial⟩) ⟨rfl, rfl, trivial⟩ (by kernel_rfl) rfl ?_
          ((first | refine run Γ hm 400 ?_ | refine runD Γ hm 400 (by kernel_rfl) ?_); (conv => whnf); repeat ((first | refine aF ?_ | refine aT ?_); (first | refine run Γ hm 400 ?_ | refine runD Γ hm 400 (by kernel_rfl) ?_); conv => whnf))
          refine stepD (good_call [(0, 43)] rfl F71 hput rfl trivial rfl ⟨.inr rfl, trivial⟩) (by kernel_rfl) rfl ?_
          ((first | refine run Γ hm 400 ?_ | refine runD Γ hm 400 (by kernel_rfl) ?_); (conv => whnf); repeat ((first | refine aF ?_ | refine aT ?_); (first | refine run Γ hm 400 ?_ | refine runD Γ hm 400 (by kernel_rfl) ?_); conv => whnf))
          refine ⟨(by kernel_rfl), ?_⟩
          ((conv => whnf); repeat ((first | refine aF ?_ | refine aT ?_); (first | refine run Γ hm 400 ?_ | refine runD Γ hm 400 (by kernel_rfl) ?_); conv => whnf))
          refine G_data 43 rfl ?_
          ((first | refine run Γ hm 400 ?_ | refine runD Γ hm 400 (by kernel_rfl) ?_); (conv => whnf); repeat ((first | refine aF ?_ | refine aT ?_); (first | refine run Γ hm 400 ?_ | refine runD Γ hm 400 (by kernel_rfl) ?_); conv => whnf))
          exact done rfl (.cons .tmp (.cons .tmp .nil)) [] (talkO n up hs) (fun _ h => h) rfl rfl ⟨trivial, ⟨.inl rfl, rfl, .inl rfl, rfl, trivial⟩, rfl, rfl⟩
      · rw [if_neg (fun e => hc e.2.2)]
        have hnot := hnot (hW hc)
        refine contract Γ hm 100 F28 Tryz.ntmps28 rfl fun F hF => by
          ((conv => whnf); repeat ((first | refine aF ?_ | refine aT ?_); (first | refine run Γ hm 400 ?_ | refine runD Γ hm 400 (by kernel_rfl) ?_); conv => whnf))
          refine stepOp (good_call [] rfl F25 ql rfl ⟨rfl, rfl, trivial⟩ rfl ⟨.inl rfl, .inl rfl, trivial⟩) rfl rfl ?_
          ((first | refine run Γ hm 400 ?_ | refine runD Γ hm 400 (by kernel_rfl) ?_); (conv => whnf); repeat ((first | refine aF ?_ | refine aT ?_); (first | refine run Γ hm 400 ?_ | refine runD Γ hm 400 (by kernel_rfl) ?_); conv => whnf))
          refine stepOp (good_call [] rfl F32 qr rfl ⟨rfl, rfl, trivial⟩ rfl ⟨.inl rfl, .inl rfl, trivial⟩) rfl rfl ?_
          ((first | refine run Γ hm 400 ?_ | refine runD Γ hm 400 (by kernel_rfl) ?_); (conv => whnf); repeat ((first | refine aF ?_ | refine aT ?_); (first | refine run Γ hm 400 ?_ | refine runD Γ hm 400 (by kernel_rfl) ?_); conv => whnf))
          refine ⟨rfl, by omega, by omega, ?_⟩
          rw [e1]
          ((conv => whnf); repeat ((first | refine aF ?_ | refine aT ?_); (first | refine run Γ hm 400 ?_ | refine runD Γ hm 400 (by kernel_rfl) ?_); conv => whnf))
          refine ⟨rfl, by omega, by omega, ?_⟩
          rw [hd]
          ((conv => whnf); repeat ((first | refine aF ?_ | refine aT ?_); (first | refine run Γ hm 400 ?_ | refine runD Γ hm 400 (by kernel_rfl) ?_); conv => whnf))
          refine stepD2 (good_call [] rfl F72 qw rfl ⟨rfl, rfl, trivial⟩ rfl ⟨.inl rfl, .inl rfl, trivial⟩) ⟨rfl, rfl, trivial⟩ (by kernel_rfl) rfl ?_
          ((first | refine run Γ hm 400 ?_ | refine runD Γ hm 400 (by kernel_rfl) ?_); (conv => whnf); repeat ((first | refine aF ?_ | refine aT ?_); (first | refine run Γ hm 400 ?_ | refine runD Γ hm 400 (by kernel_rfl) ?_); conv => whnf))
          refine callD0 hnot F71 rfl rfl rfl (by kernel_rfl) rfl ?_
          ((first | refine run Γ hm 400 ?_ | refine runD Γ hm 400 (by kernel_rfl) ?_); (conv => whnf); repeat ((first | refine aF ?_ | refine aT ?_); (first | refine run Γ hm 400 ?_ | refine runD Γ hm 400 (by kernel_rfl) ?_); conv => whnf))
          refine ⟨(by kernel_rfl), ?_⟩
          ((conv => whnf); repeat ((first | refine aF ?_ | refine aT ?_); (first | refine run Γ hm 400 ?_ | refine runD Γ hm 400 (by kernel_rfl) ?_); conv => whnf))
          exact done rfl (.cons .tmp (.cons .tmp .nil)) [] (talkO n up hs) (fun _ h => h) rfl rfl ⟨trivial, ⟨.inl rfl, rfl, .inl rfl, rfl, trivial⟩, rfl, rfl⟩
    · rw [if_neg (fun e => hro e.2.1)]
      refine contract Γ hm 100 F28 Tryz.ntmps28 rfl fun F hF => by
        ((conv => whnf); repeat ((first | refine aF ?_ | refine aT ?_); (first | refine run Γ hm 400 ?_ | refine runD Γ hm 400 (by kernel_rfl) ?_); conv => whnf))
        refine stepOp (good_call [] rfl F25 ql rfl ⟨rfl, rfl, trivial⟩ rfl ⟨.inl rfl, .inl rfl, trivial⟩) rfl rfl ?_
        ((first | refine run Γ hm 400 ?_ | refine runD Γ hm 400 (by kernel_rfl) ?_); (conv => whnf); repeat ((first | refine aF ?_ | refine aT ?_); (first | refine run Γ hm 400 ?_ | refine runD Γ hm 400 (by kernel_rfl) ?_); conv => whnf))
        refine stepOp (good_call [] rfl F32 qr rfl ⟨rfl, rfl, trivial⟩ rfl ⟨.inl rfl, .inl rfl, trivial⟩) rfl rfl ?_
        ((first | refine run Γ hm 400 ?_ | refine runD Γ hm 400 (by kernel_rfl) ?_); (conv => whnf); repeat ((first | refine aF ?_ | refine aT ?_); (first | refine run Γ hm 400 ?_ | refine runD Γ hm 400 (by kernel_rfl) ?_); conv => whnf))
        refine ⟨fun _ => ?_, fun h => absurd (show ro = 2 by simpa using h) hro⟩
        ((first | refine run Γ hm 400 ?_ | refine runD Γ hm 400 (by kernel_rfl) ?_); (conv => whnf); repeat ((first | refine aF ?_ | refine aT ?_); (first | refine run Γ hm 400 ?_ | refine runD Γ hm 400 (by kernel_rfl) ?_); conv => whnf))
        exact done rfl (.cons .tmp (.cons .tmp .nil)) [] (talkO n up hs) (fun _ h => h) rfl rfl ⟨trivial, ⟨.inl rfl, rfl, .inl rfl, rfl, trivial⟩, rfl, rfl⟩
  · have hl : lv = false := by simpa using hl
    subst hl
    rw [if_neg (fun e => by cases e.1)]
    refine contract Γ hm 100 F28 Tryz.ntmps28 rfl fun F hF => by
      ((conv => whnf); repeat ((first | refine aF ?_ | refine aT ?_); (first | refine run Γ hm 400 ?_ | refine runD Γ hm 400 (by kernel_rfl) ?_); conv => whnf))
      refine stepOp (good_call [] rfl F25 ql rfl ⟨rfl, rfl, trivial⟩ rfl ⟨.inl rfl, .inl rfl, trivial⟩) rfl rfl ?_
      ((first | refine run Γ hm 400 ?_ | refine runD Γ hm 400 (by kernel_rfl) ?_); (conv => whnf); repeat ((first | refine aF ?_ | refine aT ?_); (first | refine run Γ hm 400 ?_ | refine runD Γ hm 400 (by kernel_rfl) ?_); conv => whnf))
      exact done rfl (.cons .tmp (.cons .tmp .nil)) [] (talkO n up hs) (fun _ h => h) rfl rfl ⟨trivial, ⟨.inl rfl, rfl, .inl rfl, rfl, trivial⟩, rfl, rfl⟩
end
end Go.Sy.YthbgklhegccckaaGreat
