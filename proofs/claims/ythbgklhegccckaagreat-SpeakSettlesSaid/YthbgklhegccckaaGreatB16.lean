/-
  Contracts: the document's talk (palingref41), 1. Contracts: the document's talk (palingref41), 2.
-/
import Derived.Test.YthbgklhegccckaaGreatB15

namespace Go.Sy.YthbgklhegccckaaGreat
open Go.Proofs

attribute [local irreducible] Go.Sy.G Go.Sy.DR
set_option maxRecDepth 100000
set_option maxHeartbeats 4000000

def refL (n : Net) (up : List Bool) : List SV := [.sl 5 deviceSV n.devices, .sl 7 portSV n.ports, .sl 3 linkSV n.links, .sl 6 domainSV n.domains, .sl 4 staticSV n.statics, .sl 4 floodSV n.floods, .sl 5 vrfSV n.vrfs, .sl 5 irbSV n.irbs, .sl 1 boolSV up, .osl 1, .osl 2]
def refO (n : Net) (up : List Bool) (hs : List Heard) : Obs := [(0, .box (refL n up)), (1, .row 1 boolSV (hs.map Heard.is)), (2, .row 10 msgSV (hs.map Heard.msg))]

section
variable {n : Net} {up : List Bool} {hs : List Heard}

theorem refLivesS (T : Talk n up hs) (i : Int) : Sy.Spec Tryz.prog 88 [.ptr 0 0, intSV i] (refO n up hs) (boolSV (liveB n up i)) (refO n up hs) := by
  have qp := ref15PlaceS i n.ports.length
  by_cases hi : 0 ≤ i ∧ i < n.ports.length
  · have hpl : placeB i n.ports.length = true := by simp [placeB, hi]
    rw [hpl] at qp
    have hpp := T.port (i := i.toNat) (by omega)
    have hl := live_eq (up := up) hi
    by_cases hk : 0 ≤ (n.ports[i.toNat]'(by omega)).link
    · have hk2 : (n.ports[i.toNat]'(by omega)).link.toNat < up.length := by omega
      have hv : liveB n up i = up[(n.ports[i.toNat]'(by omega)).link.toNat] := by
        rw [hl, decide_eq_true hk, Bool.true_and, getD_at hk2]
      rw [hv]
      refine contract Γ hm 100 F88 Tryz.ntmps88 rfl fun F hF => by
        ((conv => whnf); repeat ((first | refine aF ?_ | refine aT ?_); (first | refine run Γ hm 400 ?_ | refine runD Γ hm 400 (by kernel_rfl) ?_); conv => whnf))
        refine callD0 qp F130 rfl rfl rfl (by kernel_rfl) rfl ?_
        ((first | refine run Γ hm 400 ?_ | refine runD Γ hm 400 (by kernel_rfl) ?_); (conv => whnf); repeat ((first | refine aF ?_ | refine aT ?_); (first | refine run Γ hm 400 ?_ | refine runD Γ hm 400 (by kernel_rfl) ?_); conv => whnf))
        refine ⟨rfl, by omega, by omega, ?_⟩
        ((conv => whnf); repeat ((first | refine aF ?_ | refine aT ?_); (first | refine run Γ hm 400 ?_ | refine runD Γ hm 400 (by kernel_rfl) ?_); conv => whnf))
        refine ⟨fun _ => ?_, fun h => absurd (show (n.ports[i.toNat]'(by omega)).link = -1 by simpa using h) (by omega)⟩
        ((first | refine run Γ hm 400 ?_ | refine runD Γ hm 400 (by kernel_rfl) ?_); (conv => whnf); repeat ((first | refine aF ?_ | refine aT ?_); (first | refine run Γ hm 400 ?_ | refine runD Γ hm 400 (by kernel_rfl) ?_); conv => whnf))
        refine ⟨rfl, by omega, by omega, ?_⟩
        ((conv => whnf); repeat ((first | refine aF ?_ | refine aT ?_); (first | refine run Γ hm 400 ?_ | refine runD Γ hm 400 (by kernel_rfl) ?_); conv => whnf))
        refine ⟨rfl, hk, hk2, ?_⟩
        ((conv => whnf); repeat ((first | refine aF ?_ | refine aT ?_); (first | refine run Γ hm 400 ?_ | refine runD Γ hm 400 (by kernel_rfl) ?_); conv => whnf))
        refine ⟨(by kernel_rfl), ?_⟩
        ((conv => whnf); repeat ((first | refine aF ?_ | refine aT ?_); (first | refine run Γ hm 400 ?_ | refine runD Γ hm 400 (by kernel_rfl) ?_); conv => whnf))
        exact done rfl (.cons .tmp .nil) [] (refO n up hs) (fun _ h => h) rfl rfl ⟨trivial, ⟨.inl rfl, rfl, .inl rfl, rfl, .inl rfl, rfl, trivial⟩, rfl, rfl⟩
    · rw [hl, decide_eq_false hk, Bool.false_and]
      refine contract Γ hm 100 F88 Tryz.ntmps88 rfl fun F hF => by
        ((conv => whnf); repeat ((first | refine aF ?_ | refine aT ?_); (first | refine run Γ hm 400 ?_ | refine runD Γ hm 400 (by kernel_rfl) ?_); conv => whnf))
        refine callD0 qp F130 rfl rfl rfl (by kernel_rfl) rfl ?_
        ((first | refine run Γ hm 400 ?_ | refine runD Γ hm 400 (by kernel_rfl) ?_); (conv => whnf); repeat ((first | refine aF ?_ | refine aT ?_); (first | refine run Γ hm 400 ?_ | refine runD Γ hm 400 (by kernel_rfl) ?_); conv => whnf))
        refine ⟨rfl, by omega, by omega, ?_⟩
        ((conv => whnf); repeat ((first | refine aF ?_ | refine aT ?_); (first | refine run Γ hm 400 ?_ | refine runD Γ hm 400 (by kernel_rfl) ?_); conv => whnf))
        refine ⟨fun h => absurd (show ¬ (n.ports[i.toNat]'(by omega)).link = -1 by simpa using h) (fun e => e (by omega)), fun _ => ?_⟩
        ((first | refine run Γ hm 400 ?_ | refine runD Γ hm 400 (by kernel_rfl) ?_); (conv => whnf); repeat ((first | refine aF ?_ | refine aT ?_); (first | refine run Γ hm 400 ?_ | refine runD Γ hm 400 (by kernel_rfl) ?_); conv => whnf))
        refine ⟨(by kernel_rfl), ?_⟩
        ((conv => whnf); repeat ((first | refine aF ?_ | refine aT ?_); (first | refine run Γ hm 400 ?_ | refine runD Γ hm 400 (by kernel_rfl) ?_); conv => whnf))
        exact done rfl (.cons .tmp .nil) [] (refO n up hs) (fun _ h => h) rfl rfl ⟨trivial, ⟨.inl rfl, rfl, .inl rfl, rfl, .inl rfl, rfl, trivial⟩, rfl, rfl⟩
  · have hpl : placeB i n.ports.length = false := by
      simp only [placeB, Bool.and_eq_false_iff, decide_eq_false_iff_not]
      omega
    rw [hpl] at qp
    rw [live_no hi]
    refine contract Γ hm 100 F88 Tryz.ntmps88 rfl fun F hF => by
      ((conv => whnf); repeat ((first | refine aF ?_ | refine aT ?_); (first | refine run Γ hm 400 ?_ | refine runD Γ hm 400 (by kernel_rfl) ?_); conv => whnf))
      refine callD0 qp F130 rfl rfl rfl (by kernel_rfl) rfl ?_
      ((first | refine run Γ hm 400 ?_ | refine runD Γ hm 400 (by kernel_rfl) ?_); (conv => whnf); repeat ((first | refine aF ?_ | refine aT ?_); (first | refine run Γ hm 400 ?_ | refine runD Γ hm 400 (by kernel_rfl) ?_); conv => whnf))
      refine ⟨(by kernel_rfl), ?_⟩
      ((conv => whnf); repeat ((first | refine aF ?_ | refine aT ?_); (first | refine run Γ hm 400 ?_ | refine runD Γ hm 400 (by kernel_rfl) ?_); conv => whnf))
      exact done rfl (.cons .tmp .nil) [] (refO n up hs) (fun _ h => h) rfl rfl ⟨trivial, ⟨.inl rfl, rfl, .inl rfl, rfl, .inl rfl, rfl, trivial⟩, rfl, rfl⟩

theorem Talk.refid (T : Talk n up hs) {dev : Int} (h0 : 0 ≤ dev) (h1 : dev < n.devices.length) : Sy.Spec Tryz.prog 87 [netSV n, intSV dev] [] (u64SV (idD (nth n.devices dev))) [] := by
  have q := refidS n T.macs dev.toNat (by omega)
  have hok : idOK (n.devices[dev.toNat]'(by omega)) = true := List.all_eq_true.1 (unlike_facts T.unlike).2.2.1 _ (List.getElem_mem _)
  rw [idI, if_pos hok, Int.toNat_of_nonneg h0] at q
  rw [nth_eq (by omega)]
  exact q

theorem ltC_iff (x c : Choice) (hx : 0 ≤ x.port) : ltC x c = true ↔ x.root < c.root ∨ (x.root = c.root ∧ (x.cost < c.cost ∨ (x.cost = c.cost ∧ 0 ≤ c.port ∧ (x.bridge < c.bridge ∨ (x.bridge = c.bridge ∧ (x.src < c.src ∨ (x.src = c.src ∧ x.port < c.port))))))) := by
  rw [ltC_eq]
  have h1 : ownI x = 1 := by rw [ownI, if_neg (by omega)]
  by_cases hc : c.port < 0
  · have h2 : ownI c = 0 := by rw [ownI, if_pos hc]
    rw [h1, h2]
    repeat' split
    all_goals (simp only [decide_eq_true_eq]; omega)
  · have h2 : ownI c = 1 := by rw [ownI, if_neg hc]
    rw [h1, h2]
    repeat' split
    all_goals (simp only [decide_eq_true_eq]; omega)

/-- Whose word a choice is. -/
def RefB (hs : List Heard) (j : Nat) (c : Choice) : Prop := c.port = -1 ∨ ∃ k : Nat, k < j ∧ c.port = k ∧ c.bridge = (nth hs k).msg.bridge ∧ c.src = (nth hs k).msg.port
theorem refB_inv (dev : Int) : ∀ j, RefB hs j (bestC n up hs dev j)
  | 0 => .inl rfl
  | j + 1 => by
    have ih := refB_inv dev j
    have up1 : RefB hs (j + 1) (bestC n up hs dev j) := ih.imp id fun ⟨k, h1, h2⟩ => ⟨k, by omega, h2⟩
    rw [bestC_succ]
    cases hc : candC n up hs dev j with
    | none => exact up1
    | some x =>
      show RefB hs (j + 1) (stepC _ x)
      unfold stepC
      split
      · unfold candC at hc
        simp only at hc
        split at hc
        · cases hc
          exact .inr ⟨j, by omega, rfl, rfl, rfl⟩
        · cases hc
      · exact up1

theorem refBestS (T : Talk n up hs) (dev : Int) (h0 : 0 ≤ dev) (h1 : dev < n.devices.length) : Sy.Spec Tryz.prog 93 [.ptr 0 0, intSV dev] (refO n up hs) (.tup [u64SV (bestOf n up hs dev).root, intSV (bestOf n up hs dev).cost, intSV (bestOf n up hs dev).port]) (refO n up hs) := by
 have hf := T.few
 have hlh := T.len
 have qid := T.refid h0 h1
 have hI : (hs.map Heard.is).length = n.ports.length := by rw [List.length_map]; exact hlh
 have hM : (hs.map Heard.msg).length = n.ports.length := by rw [List.length_map]; exact hlh
 obtain ⟨B, hB⟩ : ∃ B, bestOf n up hs dev = B := ⟨_, rfl⟩
 rw [hB]
 refine contract Γ hm 100 F93 Tryz.ntmps93 rfl fun F hF => by
  ((conv => whnf); repeat ((first | refine aF ?_ | refine aT ?_); (first | refine run Γ hm 400 ?_ | refine runD Γ hm 400 (by kernel_rfl) ?_); conv => whnf))
  refine call0 qid F87 rfl rfl rfl rfl rfl ?_
  ((first | refine run Γ hm 400 ?_ | refine runD Γ hm 400 (by kernel_rfl) ?_); (conv => whnf); repeat ((first | refine aF ?_ | refine aT ?_); (first | refine run Γ hm 400 ?_ | refine runD Γ hm 400 (by kernel_rfl) ?_); conv => whnf))
  refine G_count n.ports.length (fun j => [(0, .ptr 0 0), (1, intSV dev), (7, u64SV (bestC n up hs dev j).root), (8, intSV (bestC n up hs dev j).cost), (9, intSV (bestC n up hs dev j).port), (10, intSV j)]) (fun _ => refO n up hs) []
    ⟨⟨rfl, rfl, rfl, rfl, rfl, rfl, rfl, rfl, rfl, rfl, rfl, rfl, trivial⟩, ⟨.inl rfl, rfl, .inl rfl, rfl, .inl rfl, rfl, trivial⟩, rfl, rfl⟩ ?_
  intro j hj
  have hR := refB_inv (n := n) (up := up) (hs := hs) dev j
  have hsucc := bestC_succ n up hs dev j
  obtain ⟨c, hc⟩ : ∃ c, bestC n up hs dev j = c := ⟨_, rfl⟩
  rw [hc] at hR hsucc ⊢
  ((first | refine run Γ hm 400 ?_ | refine runD Γ hm 400 (by kernel_rfl) ?_); (conv => whnf); repeat ((first | refine aF ?_ | refine aT ?_); (first | refine run Γ hm 400 ?_ | refine runD Γ hm 400 (by kernel_rfl) ?_); conv => whnf))
  refine ⟨fun h => ?_, fun h => ?_⟩
  · have hlt : j < n.ports.length := by simpa using h
    have hcand : candC n up hs dev j = if (n.ports[j]).dev = dev ∧ (hs[j]'(by omega)).is = true ∧ liveB n up j = true then some ⟨(hs[j]'(by omega)).msg.root, (hs[j]'(by omega)).msg.cost + (n.ports[j]).cost, (hs[j]'(by omega)).msg.bridge, (hs[j]'(by omega)).msg.port, j⟩ else none := by
      unfold candC
      rw [nth_eq (l := n.ports) (i := (j : Int)) (by simpa using hlt), nth_eq (l := hs) (i := (j : Int)) (by simp; omega)]
      rfl
    have hpp := T.port hlt
    have hmk := T_heard T hlt
    obtain ⟨p, hp⟩ : ∃ p, n.ports[j] = p := ⟨_, rfl⟩
    obtain ⟨hh, hhh⟩ : ∃ x, hs[j]'(by omega) = x := ⟨_, rfl⟩
    have e1 : n.ports[(j : Int).toNat]'(by omega) = p := hp
    have e2 : (hs.map Heard.is)[(j : Int).toNat]'(by simp; omega) = hh.is := by rw [List.getElem_map]; exact congrArg Heard.is hhh
    have e3 : (hs.map Heard.msg)[(j : Int).toNat]'(by simp; omega) = hh.msg := by rw [List.getElem_map]; exact congrArg Heard.msg hhh
    have ql := refLivesS T (j : Int)
    rw [hp, hhh] at hcand
    rw [hp] at hpp
    rw [hhh] at hmk
    have hmc := hmk.cost
    rw [hcand] at hsucc
    generalize liveB n up (j : Int) = lv at *
    ((first | refine run Γ hm 400 ?_ | refine runD Γ hm 400 (by kernel_rfl) ?_); (conv => whnf); repeat ((first | refine aF ?_ | refine aT ?_); (first | refine run Γ hm 400 ?_ | refine runD Γ hm 400 (by kernel_rfl) ?_); conv => whnf))
    refine ⟨rfl, by omega, by omega, ?_⟩
    rw [e1]
    ((conv => whnf); repeat ((first | refine aF ?_ | refine aT ?_); (first | refine run Γ hm 400 ?_ | refine runD Γ hm 400 (by kernel_rfl) ?_); conv => whnf))
    refine ⟨fun h => ?_, fun h => ?_⟩
    · have hd : ¬ p.dev = dev := by simpa using h
      rw [if_neg (fun e => hd e.1)] at hsucc
      simp only at hsucc
      ((first | refine run Γ hm 400 ?_ | refine runD Γ hm 400 (by kernel_rfl) ?_); (conv => whnf); repeat ((first | refine aF ?_ | refine aT ?_); (first | refine run Γ hm 400 ?_ | refine runD Γ hm 400 (by kernel_rfl) ?_); conv => whnf))
      refine ⟨by unfold I64; omega, ?_⟩
      ((conv => whnf); repeat ((first | refine aF ?_ | refine aT ?_); (first | refine run Γ hm 400 ?_ | refine runD Γ hm 400 (by kernel_rfl) ?_); conv => whnf))
      refine G_next [] hlt ⟨⟨rfl, rfl, rfl, rfl, congrArg (fun z : Nat => u64SV z) ?_, rfl, congrArg intSV ?_, rfl, congrArg intSV ?_, rfl, rfl, rfl, trivial⟩, ⟨.inl rfl, rfl, .inl rfl, rfl, .inl rfl, rfl, trivial⟩, rfl, rfl⟩
      all_goals rw [hsucc]
    have hd : p.dev = dev := by simpa using h
    ((first | refine run Γ hm 400 ?_ | refine runD Γ hm 400 (by kernel_rfl) ?_); (conv => whnf); repeat ((first | refine aF ?_ | refine aT ?_); (first | refine run Γ hm 400 ?_ | refine runD Γ hm 400 (by kernel_rfl) ?_); conv => whnf))
    refine stepOp (good_call [] rfl F88 ql rfl ⟨rfl, rfl, rfl, trivial⟩ rfl ⟨.inl rfl, .inl rfl, .inl rfl, trivial⟩) rfl rfl ?_
    ((first | refine run Γ hm 400 ?_ | refine runD Γ hm 400 (by kernel_rfl) ?_); (conv => whnf); repeat ((first | refine aF ?_ | refine aT ?_); (first | refine run Γ hm 400 ?_ | refine runD Γ hm 400 (by kernel_rfl) ?_); conv => whnf))
    refine ⟨fun h3 => ?_, fun h3 => ?_⟩
    · have hlv : lv = false := by simpa using h3
      rw [if_neg (fun e => by rw [e.2.2] at hlv; cases hlv)] at hsucc
      simp only at hsucc
      ((first | refine run Γ hm 400 ?_ | refine runD Γ hm 400 (by kernel_rfl) ?_); (conv => whnf); repeat ((first | refine aF ?_ | refine aT ?_); (first | refine run Γ hm 400 ?_ | refine runD Γ hm 400 (by kernel_rfl) ?_); conv => whnf))
      refine ⟨by unfold I64; omega, ?_⟩
      ((conv => whnf); repeat ((first | refine aF ?_ | refine aT ?_); (first | refine run Γ hm 400 ?_ | refine runD Γ hm 400 (by kernel_rfl) ?_); conv => whnf))
      refine G_next [] hlt ⟨⟨rfl, rfl, rfl, rfl, congrArg (fun z : Nat => u64SV z) ?_, rfl, congrArg intSV ?_, rfl, congrArg intSV ?_, rfl, rfl, rfl, trivial⟩, ⟨.inl rfl, rfl, .inl rfl, rfl, .inl rfl, rfl, trivial⟩, rfl, rfl⟩
      all_goals rw [hsucc]
    have hlv : lv = true := by simpa using h3
    ((first | refine run Γ hm 400 ?_ | refine runD Γ hm 400 (by kernel_rfl) ?_); (conv => whnf); repeat ((first | refine aF ?_ | refine aT ?_); (first | refine run Γ hm 400 ?_ | refine runD Γ hm 400 (by kernel_rfl) ?_); conv => whnf))
    refine ⟨by omega, by show _ < (hs.map Heard.is).length; omega, ?_⟩
    ((conv => whnf); repeat ((first | refine aF ?_ | refine aT ?_); (first | refine run Γ hm 400 ?_ | refine runD Γ hm 400 (by kernel_rfl) ?_); conv => whnf))
    refine ⟨rfl, by show _ < (hs.map Heard.is).length; omega, ?_⟩
    rw [e2]
    ((conv => whnf); repeat ((first | refine aF ?_ | refine aT ?_); (first | refine run Γ hm 400 ?_ | refine runD Γ hm 400 (by kernel_rfl) ?_); conv => whnf))
    refine ⟨fun h => ?_, fun h => ?_⟩
    · have his : hh.is = false := by simpa using h
      rw [if_neg (fun e => by rw [e.2.1] at his; cases his)] at hsucc
      simp only at hsucc
      ((first | refine run Γ hm 400 ?_ | refine runD Γ hm 400 (by kernel_rfl) ?_); (conv => whnf); repeat ((first | refine aF ?_ | refine aT ?_); (first | refine run Γ hm 400 ?_ | refine runD Γ hm 400 (by kernel_rfl) ?_); conv => whnf))
      refine ⟨by unfold I64; omega, ?_⟩
      ((conv => whnf); repeat ((first | refine aF ?_ | refine aT ?_); (first | refine run Γ hm 400 ?_ | refine runD Γ hm 400 (by kernel_rfl) ?_); conv => whnf))
      refine G_next [] hlt ⟨⟨rfl, rfl, rfl, rfl, congrArg (fun z : Nat => u64SV z) ?_, rfl, congrArg intSV ?_, rfl, congrArg intSV ?_, rfl, rfl, rfl, trivial⟩, ⟨.inl rfl, rfl, .inl rfl, rfl, .inl rfl, rfl, trivial⟩, rfl, rfl⟩
      all_goals rw [hsucc]
    have his : hh.is = true := by simpa using h
    rw [if_pos ⟨hd, his, hlv⟩] at hsucc
    have hcase : ((hh.msg.root < c.root ∨ (hh.msg.root = c.root ∧ (hh.msg.cost + p.cost < c.cost ∨ (hh.msg.cost + p.cost = c.cost ∧ 0 ≤ c.port ∧ (hh.msg.bridge < c.bridge ∨ (hh.msg.bridge = c.bridge ∧ hh.msg.port < c.src)))))) ∧ bestC n up hs dev (j + 1) = ⟨hh.msg.root, hh.msg.cost + p.cost, hh.msg.bridge, hh.msg.port, j⟩) ∨
        (¬ (hh.msg.root < c.root ∨ (hh.msg.root = c.root ∧ (hh.msg.cost + p.cost < c.cost ∨ (hh.msg.cost + p.cost = c.cost ∧ 0 ≤ c.port ∧ (hh.msg.bridge < c.bridge ∨ (hh.msg.bridge = c.bridge ∧ hh.msg.port < c.src)))))) ∧ bestC n up hs dev (j + 1) = c) := by
      have hcj : c.port < j := by
        rcases hR with h | ⟨k, h, h', _⟩ <;> omega
      have key := ltC_iff ⟨hh.msg.root, hh.msg.cost + p.cost, hh.msg.bridge, hh.msg.port, j⟩ c (by simp)
      simp only at key
      rw [hsucc]
      simp only [stepC]
      split
      · rename_i hlt2
        have := key.1 hlt2
        refine .inl ⟨by omega, rfl⟩
      · rename_i hlt2
        refine .inr ⟨fun h => hlt2 (key.2 (by omega)), rfl⟩
    have hw : 0 ≤ c.port → ∃ y : Msg, (∀ h : c.port.toNat < (hs.map Heard.msg).length, (hs.map Heard.msg)[c.port.toNat]'h = y) ∧ c.port.toNat < (hs.map Heard.msg).length ∧ y.bridge = c.bridge ∧ y.port = c.src := fun hp0 => by
      rcases hR with h | ⟨k, hk, h2, h3, h4⟩
      · omega
      · have hk2 : c.port.toNat = k := by omega
        have hkl : k < hs.length := by omega
        rw [nth_eq (l := hs) (i := (k : Int)) (by simpa using hkl)] at h3 h4
        refine ⟨(hs[k]'hkl).msg, fun h => ?_, by omega, h3.symm, h4.symm⟩
        rw [List.getElem_map]
        congr 1
        simp only [hk2]
    clear hsucc
    ((first | refine run Γ hm 400 ?_ | refine runD Γ hm 400 (by kernel_rfl) ?_); (conv => whnf); repeat ((first | refine aF ?_ | refine aT ?_); (first | refine run Γ hm 400 ?_ | refine runD Γ hm 400 (by kernel_rfl) ?_); conv => whnf))
    refine ⟨by omega, by show _ < (hs.map Heard.msg).length; omega, ?_⟩
    ((conv => whnf); repeat ((first | refine aF ?_ | refine aT ?_); (first | refine run Γ hm 400 ?_ | refine runD Γ hm 400 (by kernel_rfl) ?_); conv => whnf))
    refine ⟨rfl, by show _ < (hs.map Heard.msg).length; omega, ?_⟩
    rw [e3]
    ((conv => whnf); repeat ((first | refine aF ?_ | refine aT ?_); (first | refine run Γ hm 400 ?_ | refine runD Γ hm 400 (by kernel_rfl) ?_); conv => whnf))
    refine ⟨rfl, by omega, by omega, ?_⟩
    rw [e1]
    ((conv => whnf); repeat ((first | refine aF ?_ | refine aT ?_); (first | refine run Γ hm 400 ?_ | refine runD Γ hm 400 (by kernel_rfl) ?_); conv => whnf))
    refine ⟨by unfold I64; omega, ?_⟩
    ((conv => whnf); repeat ((first | refine aF ?_ | refine aT ?_); (first | refine run Γ hm 400 ?_ | refine runD Γ hm 400 (by kernel_rfl) ?_); conv => whnf))
    refine ⟨(by kernel_rfl), ?_⟩
    ((conv => whnf); repeat ((first | refine aF ?_ | refine aT ?_); (first | refine run Γ hm 400 ?_ | refine runD Γ hm 400 (by kernel_rfl) ?_); conv => whnf))
    refine ⟨fun h => ?_, fun h => ?_⟩
    · have h1 : hh.msg.root < c.root := by simp at h; omega
      ((first | refine run Γ hm 400 ?_ | refine runD Γ hm 400 (by kernel_rfl) ?_); (conv => whnf); repeat ((first | refine aF ?_ | refine aT ?_); (first | refine run Γ hm 400 ?_ | refine runD Γ hm 400 (by kernel_rfl) ?_); conv => whnf))
      refine ⟨fun h => ?_, fun h => ?_⟩
      · have h4 : hh.msg.root = c.root := by simp at h; omega
        ((first | refine run Γ hm 400 ?_ | refine runD Γ hm 400 (by kernel_rfl) ?_); (conv => whnf); repeat ((first | refine aF ?_ | refine aT ?_); (first | refine run Γ hm 400 ?_ | refine runD Γ hm 400 (by kernel_rfl) ?_); conv => whnf))
        refine ⟨fun h => ?_, fun h => ?_⟩
        · have h5 : hh.msg.cost + p.cost = c.cost := by simp at h; omega
          ((first | refine run Γ hm 400 ?_ | refine runD Γ hm 400 (by kernel_rfl) ?_); (conv => whnf); repeat ((first | refine aF ?_ | refine aT ?_); (first | refine run Γ hm 400 ?_ | refine runD Γ hm 400 (by kernel_rfl) ?_); conv => whnf))
          refine ⟨fun h => ?_, fun h => ?_⟩
          · have h6 : 0 ≤ c.port := by simp at h; omega
            obtain ⟨y, hy1, hy2, hy3, hy4⟩ := hw h6
            ((first | refine run Γ hm 400 ?_ | refine runD Γ hm 400 (by kernel_rfl) ?_); (conv => whnf); repeat ((first | refine aF ?_ | refine aT ?_); (first | refine run Γ hm 400 ?_ | refine runD Γ hm 400 (by kernel_rfl) ?_); conv => whnf))
            refine ⟨by omega, hy2, ?_⟩
            ((conv => whnf); repeat ((first | refine aF ?_ | refine aT ?_); (first | refine run Γ hm 400 ?_ | refine runD Γ hm 400 (by kernel_rfl) ?_); conv => whnf))
            refine ⟨rfl, hy2, ?_⟩
            rw [hy1 hy2]
            ((conv => whnf); repeat ((first | refine aF ?_ | refine aT ?_); (first | refine run Γ hm 400 ?_ | refine runD Γ hm 400 (by kernel_rfl) ?_); conv => whnf))
            refine ⟨fun h => ?_, fun h => ?_⟩
            · have h7 : hh.msg.bridge < y.bridge := by simp at h; omega
              ((first | refine run Γ hm 400 ?_ | refine runD Γ hm 400 (by kernel_rfl) ?_); (conv => whnf); repeat ((first | refine aF ?_ | refine aT ?_); (first | refine run Γ hm 400 ?_ | refine runD Γ hm 400 (by kernel_rfl) ?_); conv => whnf))
              refine ⟨by unfold I64; omega, ?_⟩
              ((conv => whnf); repeat ((first | refine aF ?_ | refine aT ?_); (first | refine run Γ hm 400 ?_ | refine runD Γ hm 400 (by kernel_rfl) ?_); conv => whnf))
              refine G_next [] hlt ⟨⟨rfl, rfl, rfl, rfl, congrArg (fun z : Nat => u64SV z) ?_, rfl, congrArg intSV ?_, rfl, congrArg intSV ?_, rfl, rfl, rfl, trivial⟩, ⟨.inl rfl, rfl, .inl rfl, rfl, .inl rfl, rfl, trivial⟩, rfl, rfl⟩
              all_goals (rcases hcase with ⟨g1, g2⟩ | ⟨g1, g2⟩ <;> rw [g2] <;> first | rfl | (exfalso; omega))
            have h7 : ¬ hh.msg.bridge < y.bridge := by simp at h; omega
            ((first | refine run Γ hm 400 ?_ | refine runD Γ hm 400 (by kernel_rfl) ?_); (conv => whnf); repeat ((first | refine aF ?_ | refine aT ?_); (first | refine run Γ hm 400 ?_ | refine runD Γ hm 400 (by kernel_rfl) ?_); conv => whnf))
            refine ⟨fun h => ?_, fun h => ?_⟩
            · have h8 : hh.msg.bridge = y.bridge := by simp at h; omega
              ((first | refine run Γ hm 400 ?_ | refine runD Γ hm 400 (by kernel_rfl) ?_); (conv => whnf); repeat ((first | refine aF ?_ | refine aT ?_); (first | refine run Γ hm 400 ?_ | refine runD Γ hm 400 (by kernel_rfl) ?_); conv => whnf))
              refine ⟨fun h => ?_, fun h => ?_⟩
              · have h9 : hh.msg.port < y.port := by simp at h; omega
                ((first | refine run Γ hm 400 ?_ | refine runD Γ hm 400 (by kernel_rfl) ?_); (conv => whnf); repeat ((first | refine aF ?_ | refine aT ?_); (first | refine run Γ hm 400 ?_ | refine runD Γ hm 400 (by kernel_rfl) ?_); conv => whnf))
                refine ⟨by unfold I64; omega, ?_⟩
                ((conv => whnf); repeat ((first | refine aF ?_ | refine aT ?_); (first | refine run Γ hm 400 ?_ | refine runD Γ hm 400 (by kernel_rfl) ?_); conv => whnf))
                refine G_next [] hlt ⟨⟨rfl, rfl, rfl, rfl, congrArg (fun z : Nat => u64SV z) ?_, rfl, congrArg intSV ?_, rfl, congrArg intSV ?_, rfl, rfl, rfl, trivial⟩, ⟨.inl rfl, rfl, .inl rfl, rfl, .inl rfl, rfl, trivial⟩, rfl, rfl⟩
                all_goals (rcases hcase with ⟨g1, g2⟩ | ⟨g1, g2⟩ <;> rw [g2] <;> first | rfl | (exfalso; omega))
              · have h9 : ¬ hh.msg.port < y.port := by simp at h; omega
                ((first | refine run Γ hm 400 ?_ | refine runD Γ hm 400 (by kernel_rfl) ?_); (conv => whnf); repeat ((first | refine aF ?_ | refine aT ?_); (first | refine run Γ hm 400 ?_ | refine runD Γ hm 400 (by kernel_rfl) ?_); conv => whnf))
                refine ⟨by unfold I64; omega, ?_⟩
                ((conv => whnf); repeat ((first | refine aF ?_ | refine aT ?_); (first | refine run Γ hm 400 ?_ | refine runD Γ hm 400 (by kernel_rfl) ?_); conv => whnf))
                refine G_next [] hlt ⟨⟨rfl, rfl, rfl, rfl, congrArg (fun z : Nat => u64SV z) ?_, rfl, congrArg intSV ?_, rfl, congrArg intSV ?_, rfl, rfl, rfl, trivial⟩, ⟨.inl rfl, rfl, .inl rfl, rfl, .inl rfl, rfl, trivial⟩, rfl, rfl⟩
                all_goals (rcases hcase with ⟨g1, g2⟩ | ⟨g1, g2⟩ <;> rw [g2] <;> first | rfl | (exfalso; omega))
            · have h8 : ¬ hh.msg.bridge = y.bridge := by simp at h; omega
              ((first | refine run Γ hm 400 ?_ | refine runD Γ hm 400 (by kernel_rfl) ?_); (conv => whnf); repeat ((first | refine aF ?_ | refine aT ?_); (first | refine run Γ hm 400 ?_ | refine runD Γ hm 400 (by kernel_rfl) ?_); conv => whnf))
              refine ⟨by unfold I64; omega, ?_⟩
              ((conv => whnf); repeat ((first | refine aF ?_ | refine aT ?_); (first | refine run Γ hm 400 ?_ | refine runD Γ hm 400 (by kernel_rfl) ?_); conv => whnf))
              refine G_next [] hlt ⟨⟨rfl, rfl, rfl, rfl, congrArg (fun z : Nat => u64SV z) ?_, rfl, congrArg intSV ?_, rfl, congrArg intSV ?_, rfl, rfl, rfl, trivial⟩, ⟨.inl rfl, rfl, .inl rfl, rfl, .inl rfl, rfl, trivial⟩, rfl, rfl⟩
              all_goals (rcases hcase with ⟨g1, g2⟩ | ⟨g1, g2⟩ <;> rw [g2] <;> first | rfl | (exfalso; omega))
          · have h6 : ¬ 0 ≤ c.port := by simp at h; omega
            ((first | refine run Γ hm 400 ?_ | refine runD Γ hm 400 (by kernel_rfl) ?_); (conv => whnf); repeat ((first | refine aF ?_ | refine aT ?_); (first | refine run Γ hm 400 ?_ | refine runD Γ hm 400 (by kernel_rfl) ?_); conv => whnf))
            refine ⟨by unfold I64; omega, ?_⟩
            ((conv => whnf); repeat ((first | refine aF ?_ | refine aT ?_); (first | refine run Γ hm 400 ?_ | refine runD Γ hm 400 (by kernel_rfl) ?_); conv => whnf))
            refine G_next [] hlt ⟨⟨rfl, rfl, rfl, rfl, congrArg (fun z : Nat => u64SV z) ?_, rfl, congrArg intSV ?_, rfl, congrArg intSV ?_, rfl, rfl, rfl, trivial⟩, ⟨.inl rfl, rfl, .inl rfl, rfl, .inl rfl, rfl, trivial⟩, rfl, rfl⟩
            all_goals (rcases hcase with ⟨g1, g2⟩ | ⟨g1, g2⟩ <;> rw [g2] <;> first | rfl | (exfalso; omega))
        · have h5 : ¬ hh.msg.cost + p.cost = c.cost := by simp at h; omega
          ((first | refine run Γ hm 400 ?_ | refine runD Γ hm 400 (by kernel_rfl) ?_); (conv => whnf); repeat ((first | refine aF ?_ | refine aT ?_); (first | refine run Γ hm 400 ?_ | refine runD Γ hm 400 (by kernel_rfl) ?_); conv => whnf))
          refine ⟨by unfold I64; omega, ?_⟩
          ((conv => whnf); repeat ((first | refine aF ?_ | refine aT ?_); (first | refine run Γ hm 400 ?_ | refine runD Γ hm 400 (by kernel_rfl) ?_); conv => whnf))
          refine G_next [] hlt ⟨⟨rfl, rfl, rfl, rfl, congrArg (fun z : Nat => u64SV z) ?_, rfl, congrArg intSV ?_, rfl, congrArg intSV ?_, rfl, rfl, rfl, trivial⟩, ⟨.inl rfl, rfl, .inl rfl, rfl, .inl rfl, rfl, trivial⟩, rfl, rfl⟩
          all_goals (rcases hcase with ⟨g1, g2⟩ | ⟨g1, g2⟩ <;> rw [g2] <;> first | rfl | (exfalso; omega))
      · have h4 : ¬ hh.msg.root = c.root := by simp at h; omega
        ((first | refine run Γ hm 400 ?_ | refine runD Γ hm 400 (by kernel_rfl) ?_); (conv => whnf); repeat ((first | refine aF ?_ | refine aT ?_); (first | refine run Γ hm 400 ?_ | refine runD Γ hm 400 (by kernel_rfl) ?_); conv => whnf))
        refine ⟨by unfold I64; omega, ?_⟩
        ((conv => whnf); repeat ((first | refine aF ?_ | refine aT ?_); (first | refine run Γ hm 400 ?_ | refine runD Γ hm 400 (by kernel_rfl) ?_); conv => whnf))
        refine G_next [] hlt ⟨⟨rfl, rfl, rfl, rfl, congrArg (fun z : Nat => u64SV z) ?_, rfl, congrArg intSV ?_, rfl, congrArg intSV ?_, rfl, rfl, rfl, trivial⟩, ⟨.inl rfl, rfl, .inl rfl, rfl, .inl rfl, rfl, trivial⟩, rfl, rfl⟩
        all_goals (rcases hcase with ⟨g1, g2⟩ | ⟨g1, g2⟩ <;> rw [g2] <;> first | rfl | (exfalso; omega))
    have h1 : ¬ hh.msg.root < c.root := by simp at h; omega
    ((first | refine run Γ hm 400 ?_ | refine runD Γ hm 400 (by kernel_rfl) ?_); (conv => whnf); repeat ((first | refine aF ?_ | refine aT ?_); (first | refine run Γ hm 400 ?_ | refine runD Γ hm 400 (by kernel_rfl) ?_); conv => whnf))
    refine ⟨fun h => ?_, fun h => ?_⟩
    · have h2 : hh.msg.root = c.root := by simp at h; omega
      ((first | refine run Γ hm 400 ?_ | refine runD Γ hm 400 (by kernel_rfl) ?_); (conv => whnf); repeat ((first | refine aF ?_ | refine aT ?_); (first | refine run Γ hm 400 ?_ | refine runD Γ hm 400 (by kernel_rfl) ?_); conv => whnf))
      refine ⟨fun h => ?_, fun h => ?_⟩
      · have h4 : hh.msg.root = c.root := by simp at h; omega
        ((first | refine run Γ hm 400 ?_ | refine runD Γ hm 400 (by kernel_rfl) ?_); (conv => whnf); repeat ((first | refine aF ?_ | refine aT ?_); (first | refine run Γ hm 400 ?_ | refine runD Γ hm 400 (by kernel_rfl) ?_); conv => whnf))
        refine ⟨fun h => ?_, fun h => ?_⟩
        · have h5 : hh.msg.cost + p.cost = c.cost := by simp at h; omega
          ((first | refine run Γ hm 400 ?_ | refine runD Γ hm 400 (by kernel_rfl) ?_); (conv => whnf); repeat ((first | refine aF ?_ | refine aT ?_); (first | refine run Γ hm 400 ?_ | refine runD Γ hm 400 (by kernel_rfl) ?_); conv => whnf))
          refine ⟨fun h => ?_, fun h => ?_⟩
          · have h6 : 0 ≤ c.port := by simp at h; omega
            obtain ⟨y, hy1, hy2, hy3, hy4⟩ := hw h6
            ((first | refine run Γ hm 400 ?_ | refine runD Γ hm 400 (by kernel_rfl) ?_); (conv => whnf); repeat ((first | refine aF ?_ | refine aT ?_); (first | refine run Γ hm 400 ?_ | refine runD Γ hm 400 (by kernel_rfl) ?_); conv => whnf))
            refine ⟨by omega, hy2, ?_⟩
            ((conv => whnf); repeat ((first | refine aF ?_ | refine aT ?_); (first | refine run Γ hm 400 ?_ | refine runD Γ hm 400 (by kernel_rfl) ?_); conv => whnf))
            refine ⟨rfl, hy2, ?_⟩
            rw [hy1 hy2]
            ((conv => whnf); repeat ((first | refine aF ?_ | refine aT ?_); (first | refine run Γ hm 400 ?_ | refine runD Γ hm 400 (by kernel_rfl) ?_); conv => whnf))
            refine ⟨fun h => ?_, fun h => ?_⟩
            · have h7 : hh.msg.bridge < y.bridge := by simp at h; omega
              ((first | refine run Γ hm 400 ?_ | refine runD Γ hm 400 (by kernel_rfl) ?_); (conv => whnf); repeat ((first | refine aF ?_ | refine aT ?_); (first | refine run Γ hm 400 ?_ | refine runD Γ hm 400 (by kernel_rfl) ?_); conv => whnf))
              refine ⟨by unfold I64; omega, ?_⟩
              ((conv => whnf); repeat ((first | refine aF ?_ | refine aT ?_); (first | refine run Γ hm 400 ?_ | refine runD Γ hm 400 (by kernel_rfl) ?_); conv => whnf))
              refine G_next [] hlt ⟨⟨rfl, rfl, rfl, rfl, congrArg (fun z : Nat => u64SV z) ?_, rfl, congrArg intSV ?_, rfl, congrArg intSV ?_, rfl, rfl, rfl, trivial⟩, ⟨.inl rfl, rfl, .inl rfl, rfl, .inl rfl, rfl, trivial⟩, rfl, rfl⟩
              all_goals (rcases hcase with ⟨g1, g2⟩ | ⟨g1, g2⟩ <;> rw [g2] <;> first | rfl | (exfalso; omega))
            have h7 : ¬ hh.msg.bridge < y.bridge := by simp at h; omega
            ((first | refine run Γ hm 400 ?_ | refine runD Γ hm 400 (by kernel_rfl) ?_); (conv => whnf); repeat ((first | refine aF ?_ | refine aT ?_); (first | refine run Γ hm 400 ?_ | refine runD Γ hm 400 (by kernel_rfl) ?_); conv => whnf))
            refine ⟨fun h => ?_, fun h => ?_⟩
            · have h8 : hh.msg.bridge = y.bridge := by simp at h; omega
              ((first | refine run Γ hm 400 ?_ | refine runD Γ hm 400 (by kernel_rfl) ?_); (conv => whnf); repeat ((first | refine aF ?_ | refine aT ?_); (first | refine run Γ hm 400 ?_ | refine runD Γ hm 400 (by kernel_rfl) ?_); conv => whnf))
              refine ⟨fun h => ?_, fun h => ?_⟩
              · have h9 : hh.msg.port < y.port := by simp at h; omega
                ((first | refine run Γ hm 400 ?_ | refine runD Γ hm 400 (by kernel_rfl) ?_); (conv => whnf); repeat ((first | refine aF ?_ | refine aT ?_); (first | refine run Γ hm 400 ?_ | refine runD Γ hm 400 (by kernel_rfl) ?_); conv => whnf))
                refine ⟨by unfold I64; omega, ?_⟩
                ((conv => whnf); repeat ((first | refine aF ?_ | refine aT ?_); (first | refine run Γ hm 400 ?_ | refine runD Γ hm 400 (by kernel_rfl) ?_); conv => whnf))
                refine G_next [] hlt ⟨⟨rfl, rfl, rfl, rfl, congrArg (fun z : Nat => u64SV z) ?_, rfl, congrArg intSV ?_, rfl, congrArg intSV ?_, rfl, rfl, rfl, trivial⟩, ⟨.inl rfl, rfl, .inl rfl, rfl, .inl rfl, rfl, trivial⟩, rfl, rfl⟩
                all_goals (rcases hcase with ⟨g1, g2⟩ | ⟨g1, g2⟩ <;> rw [g2] <;> first | rfl | (exfalso; omega))
              · have h9 : ¬ hh.msg.port < y.port := by simp at h; omega
                ((first | refine run Γ hm 400 ?_ | refine runD Γ hm 400 (by kernel_rfl) ?_); (conv => whnf); repeat ((first | refine aF ?_ | refine aT ?_); (first | refine run Γ hm 400 ?_ | refine runD Γ hm 400 (by kernel_rfl) ?_); conv => whnf))
                refine ⟨by unfold I64; omega, ?_⟩
                ((conv => whnf); repeat ((first | refine aF ?_ | refine aT ?_); (first | refine run Γ hm 400 ?_ | refine runD Γ hm 400 (by kernel_rfl) ?_); conv => whnf))
                refine G_next [] hlt ⟨⟨rfl, rfl, rfl, rfl, congrArg (fun z : Nat => u64SV z) ?_, rfl, congrArg intSV ?_, rfl, congrArg intSV ?_, rfl, rfl, rfl, trivial⟩, ⟨.inl rfl, rfl, .inl rfl, rfl, .inl rfl, rfl, trivial⟩, rfl, rfl⟩
                all_goals (rcases hcase with ⟨g1, g2⟩ | ⟨g1, g2⟩ <;> rw [g2] <;> first | rfl | (exfalso; omega))
            · have h8 : ¬ hh.msg.bridge = y.bridge := by simp at h; omega
              ((first | refine run Γ hm 400 ?_ | refine runD Γ hm 400 (by kernel_rfl) ?_); (conv => whnf); repeat ((first | refine aF ?_ | refine aT ?_); (first | refine run Γ hm 400 ?_ | refine runD Γ hm 400 (by kernel_rfl) ?_); conv => whnf))
              refine ⟨by unfold I64; omega, ?_⟩
              ((conv => whnf); repeat ((first | refine aF ?_ | refine aT ?_); (first | refine run Γ hm 400 ?_ | refine runD Γ hm 400 (by kernel_rfl) ?_); conv => whnf))
              refine G_next [] hlt ⟨⟨rfl, rfl, rfl, rfl, congrArg (fun z : Nat => u64SV z) ?_, rfl, congrArg intSV ?_, rfl, congrArg intSV ?_, rfl, rfl, rfl, trivial⟩, ⟨.inl rfl, rfl, .inl rfl, rfl, .inl rfl, rfl, trivial⟩, rfl, rfl⟩
              all_goals (rcases hcase with ⟨g1, g2⟩ | ⟨g1, g2⟩ <;> rw [g2] <;> first | rfl | (exfalso; omega))
          · have h6 : ¬ 0 ≤ c.port := by simp at h; omega
            ((first | refine run Γ hm 400 ?_ | refine runD Γ hm 400 (by kernel_rfl) ?_); (conv => whnf); repeat ((first | refine aF ?_ | refine aT ?_); (first | refine run Γ hm 400 ?_ | refine runD Γ hm 400 (by kernel_rfl) ?_); conv => whnf))
            refine ⟨fun h => ?_, fun h => ?_⟩
            · have h3 : hh.msg.cost + p.cost < c.cost := by simp at h; omega
              ((first | refine run Γ hm 400 ?_ | refine runD Γ hm 400 (by kernel_rfl) ?_); (conv => whnf); repeat ((first | refine aF ?_ | refine aT ?_); (first | refine run Γ hm 400 ?_ | refine runD Γ hm 400 (by kernel_rfl) ?_); conv => whnf))
              refine ⟨by unfold I64; omega, ?_⟩
              ((conv => whnf); repeat ((first | refine aF ?_ | refine aT ?_); (first | refine run Γ hm 400 ?_ | refine runD Γ hm 400 (by kernel_rfl) ?_); conv => whnf))
              refine G_next [] hlt ⟨⟨rfl, rfl, rfl, rfl, congrArg (fun z : Nat => u64SV z) ?_, rfl, congrArg intSV ?_, rfl, congrArg intSV ?_, rfl, rfl, rfl, trivial⟩, ⟨.inl rfl, rfl, .inl rfl, rfl, .inl rfl, rfl, trivial⟩, rfl, rfl⟩
              all_goals (rcases hcase with ⟨g1, g2⟩ | ⟨g1, g2⟩ <;> rw [g2] <;> first | rfl | (exfalso; omega))
            · have h3 : ¬ hh.msg.cost + p.cost < c.cost := by simp at h; omega
              ((first | refine run Γ hm 400 ?_ | refine runD Γ hm 400 (by kernel_rfl) ?_); (conv => whnf); repeat ((first | refine aF ?_ | refine aT ?_); (first | refine run Γ hm 400 ?_ | refine runD Γ hm 400 (by kernel_rfl) ?_); conv => whnf))
              refine ⟨by unfold I64; omega, ?_⟩
              ((conv => whnf); repeat ((first | refine aF ?_ | refine aT ?_); (first | refine run Γ hm 400 ?_ | refine runD Γ hm 400 (by kernel_rfl) ?_); conv => whnf))
              refine G_next [] hlt ⟨⟨rfl, rfl, rfl, rfl, congrArg (fun z : Nat => u64SV z) ?_, rfl, congrArg intSV ?_, rfl, congrArg intSV ?_, rfl, rfl, rfl, trivial⟩, ⟨.inl rfl, rfl, .inl rfl, rfl, .inl rfl, rfl, trivial⟩, rfl, rfl⟩
              all_goals (rcases hcase with ⟨g1, g2⟩ | ⟨g1, g2⟩ <;> rw [g2] <;> first | rfl | (exfalso; omega))
        · have h5 : ¬ hh.msg.cost + p.cost = c.cost := by simp at h; omega
          ((first | refine run Γ hm 400 ?_ | refine runD Γ hm 400 (by kernel_rfl) ?_); (conv => whnf); repeat ((first | refine aF ?_ | refine aT ?_); (first | refine run Γ hm 400 ?_ | refine runD Γ hm 400 (by kernel_rfl) ?_); conv => whnf))
          refine ⟨fun h => ?_, fun h => ?_⟩
          · have h3 : hh.msg.cost + p.cost < c.cost := by simp at h; omega
            ((first | refine run Γ hm 400 ?_ | refine runD Γ hm 400 (by kernel_rfl) ?_); (conv => whnf); repeat ((first | refine aF ?_ | refine aT ?_); (first | refine run Γ hm 400 ?_ | refine runD Γ hm 400 (by kernel_rfl) ?_); conv => whnf))
            refine ⟨by unfold I64; omega, ?_⟩
            ((conv => whnf); repeat ((first | refine aF ?_ | refine aT ?_); (first | refine run Γ hm 400 ?_ | refine runD Γ hm 400 (by kernel_rfl) ?_); conv => whnf))
            refine G_next [] hlt ⟨⟨rfl, rfl, rfl, rfl, congrArg (fun z : Nat => u64SV z) ?_, rfl, congrArg intSV ?_, rfl, congrArg intSV ?_, rfl, rfl, rfl, trivial⟩, ⟨.inl rfl, rfl, .inl rfl, rfl, .inl rfl, rfl, trivial⟩, rfl, rfl⟩
            all_goals (rcases hcase with ⟨g1, g2⟩ | ⟨g1, g2⟩ <;> rw [g2] <;> first | rfl | (exfalso; omega))
          · have h3 : ¬ hh.msg.cost + p.cost < c.cost := by simp at h; omega
            ((first | refine run Γ hm 400 ?_ | refine runD Γ hm 400 (by kernel_rfl) ?_); (conv => whnf); repeat ((first | refine aF ?_ | refine aT ?_); (first | refine run Γ hm 400 ?_ | refine runD Γ hm 400 (by kernel_rfl) ?_); conv => whnf))
            refine ⟨by unfold I64; omega, ?_⟩
            ((conv => whnf); repeat ((first | refine aF ?_ | refine aT ?_); (first | refine run Γ hm 400 ?_ | refine runD Γ hm 400 (by kernel_rfl) ?_); conv => whnf))
            refine G_next [] hlt ⟨⟨rfl, rfl, rfl, rfl, congrArg (fun z : Nat => u64SV z) ?_, rfl, congrArg intSV ?_, rfl, congrArg intSV ?_, rfl, rfl, rfl, trivial⟩, ⟨.inl rfl, rfl, .inl rfl, rfl, .inl rfl, rfl, trivial⟩, rfl, rfl⟩
            all_goals (rcases hcase with ⟨g1, g2⟩ | ⟨g1, g2⟩ <;> rw [g2] <;> first | rfl | (exfalso; omega))
      · have h4 : ¬ hh.msg.root = c.root := by simp at h; omega
        ((first | refine run Γ hm 400 ?_ | refine runD Γ hm 400 (by kernel_rfl) ?_); (conv => whnf); repeat ((first | refine aF ?_ | refine aT ?_); (first | refine run Γ hm 400 ?_ | refine runD Γ hm 400 (by kernel_rfl) ?_); conv => whnf))
        refine ⟨fun h => ?_, fun h => ?_⟩
        · have h3 : hh.msg.cost + p.cost < c.cost := by simp at h; omega
          ((first | refine run Γ hm 400 ?_ | refine runD Γ hm 400 (by kernel_rfl) ?_); (conv => whnf); repeat ((first | refine aF ?_ | refine aT ?_); (first | refine run Γ hm 400 ?_ | refine runD Γ hm 400 (by kernel_rfl) ?_); conv => whnf))
          refine ⟨by unfold I64; omega, ?_⟩
          ((conv => whnf); repeat ((first | refine aF ?_ | refine aT ?_); (first | refine run Γ hm 400 ?_ | refine runD Γ hm 400 (by kernel_rfl) ?_); conv => whnf))
          refine G_next [] hlt ⟨⟨rfl, rfl, rfl, rfl, congrArg (fun z : Nat => u64SV z) ?_, rfl, congrArg intSV ?_, rfl, congrArg intSV ?_, rfl, rfl, rfl, trivial⟩, ⟨.inl rfl, rfl, .inl rfl, rfl, .inl rfl, rfl, trivial⟩, rfl, rfl⟩
          all_goals (rcases hcase with ⟨g1, g2⟩ | ⟨g1, g2⟩ <;> rw [g2] <;> first | rfl | (exfalso; omega))
        · have h3 : ¬ hh.msg.cost + p.cost < c.cost := by simp at h; omega
          ((first | refine run Γ hm 400 ?_ | refine runD Γ hm 400 (by kernel_rfl) ?_); (conv => whnf); repeat ((first | refine aF ?_ | refine aT ?_); (first | refine run Γ hm 400 ?_ | refine runD Γ hm 400 (by kernel_rfl) ?_); conv => whnf))
          refine ⟨by unfold I64; omega, ?_⟩
          ((conv => whnf); repeat ((first | refine aF ?_ | refine aT ?_); (first | refine run Γ hm 400 ?_ | refine runD Γ hm 400 (by kernel_rfl) ?_); conv => whnf))
          refine G_next [] hlt ⟨⟨rfl, rfl, rfl, rfl, congrArg (fun z : Nat => u64SV z) ?_, rfl, congrArg intSV ?_, rfl, congrArg intSV ?_, rfl, rfl, rfl, trivial⟩, ⟨.inl rfl, rfl, .inl rfl, rfl, .inl rfl, rfl, trivial⟩, rfl, rfl⟩
          all_goals (rcases hcase with ⟨g1, g2⟩ | ⟨g1, g2⟩ <;> rw [g2] <;> first | rfl | (exfalso; omega))
    · have h2 : ¬ hh.msg.root = c.root := by simp at h; omega
      ((first | refine run Γ hm 400 ?_ | refine runD Γ hm 400 (by kernel_rfl) ?_); (conv => whnf); repeat ((first | refine aF ?_ | refine aT ?_); (first | refine run Γ hm 400 ?_ | refine runD Γ hm 400 (by kernel_rfl) ?_); conv => whnf))
      refine ⟨fun h => ?_, fun h => ?_⟩
      · have h4 : hh.msg.root = c.root := by simp at h; omega
        ((first | refine run Γ hm 400 ?_ | refine runD Γ hm 400 (by kernel_rfl) ?_); (conv => whnf); repeat ((first | refine aF ?_ | refine aT ?_); (first | refine run Γ hm 400 ?_ | refine runD Γ hm 400 (by kernel_rfl) ?_); conv => whnf))
        refine ⟨fun h => ?_, fun h => ?_⟩
        · have h5 : hh.msg.cost + p.cost = c.cost := by simp at h; omega
          ((first | refine run Γ hm 400 ?_ | refine runD Γ hm 400 (by kernel_rfl) ?_); (conv => whnf); repeat ((first | refine aF ?_ | refine aT ?_); (first | refine run Γ hm 400 ?_ | refine runD Γ hm 400 (by kernel_rfl) ?_); conv => whnf))
          refine ⟨fun h => ?_, fun h => ?_⟩
          · have h6 : 0 ≤ c.port := by simp at h; omega
            obtain ⟨y, hy1, hy2, hy3, hy4⟩ := hw h6
            ((first | refine run Γ hm 400 ?_ | refine runD Γ hm 400 (by kernel_rfl) ?_); (conv => whnf); repeat ((first | refine aF ?_ | refine aT ?_); (first | refine run Γ hm 400 ?_ | refine runD Γ hm 400 (by kernel_rfl) ?_); conv => whnf))
            refine ⟨by omega, hy2, ?_⟩
            ((conv => whnf); repeat ((first | refine aF ?_ | refine aT ?_); (first | refine run Γ hm 400 ?_ | refine runD Γ hm 400 (by kernel_rfl) ?_); conv => whnf))
            refine ⟨rfl, hy2, ?_⟩
            rw [hy1 hy2]
            ((conv => whnf); repeat ((first | refine aF ?_ | refine aT ?_); (first | refine run Γ hm 400 ?_ | refine runD Γ hm 400 (by kernel_rfl) ?_); conv => whnf))
            refine ⟨fun h => ?_, fun h => ?_⟩
            · have h7 : hh.msg.bridge < y.bridge := by simp at h; omega
              ((first | refine run Γ hm 400 ?_ | refine runD Γ hm 400 (by kernel_rfl) ?_); (conv => whnf); repeat ((first | refine aF ?_ | refine aT ?_); (first | refine run Γ hm 400 ?_ | refine runD Γ hm 400 (by kernel_rfl) ?_); conv => whnf))
              refine ⟨by unfold I64; omega, ?_⟩
              ((conv => whnf); repeat ((first | refine aF ?_ | refine aT ?_); (first | refine run Γ hm 400 ?_ | refine runD Γ hm 400 (by kernel_rfl) ?_); conv => whnf))
              refine G_next [] hlt ⟨⟨rfl, rfl, rfl, rfl, congrArg (fun z : Nat => u64SV z) ?_, rfl, congrArg intSV ?_, rfl, congrArg intSV ?_, rfl, rfl, rfl, trivial⟩, ⟨.inl rfl, rfl, .inl rfl, rfl, .inl rfl, rfl, trivial⟩, rfl, rfl⟩
              all_goals (rcases hcase with ⟨g1, g2⟩ | ⟨g1, g2⟩ <;> rw [g2] <;> first | rfl | (exfalso; omega))
            have h7 : ¬ hh.msg.bridge < y.bridge := by simp at h; omega
            ((first | refine run Γ hm 400 ?_ | refine runD Γ hm 400 (by kernel_rfl) ?_); (conv => whnf); repeat ((first | refine aF ?_ | refine aT ?_); (first | refine run Γ hm 400 ?_ | refine runD Γ hm 400 (by kernel_rfl) ?_); conv => whnf))
            refine ⟨fun h => ?_, fun h => ?_⟩
            · have h8 : hh.msg.bridge = y.bridge := by simp at h; omega
              ((first | refine run Γ hm 400 ?_ | refine runD Γ hm 400 (by kernel_rfl) ?_); (conv => whnf); repeat ((first | refine aF ?_ | refine aT ?_); (first | refine run Γ hm 400 ?_ | refine runD Γ hm 400 (by kernel_rfl) ?_); conv => whnf))
              refine ⟨fun h => ?_, fun h => ?_⟩
              · have h9 : hh.msg.port < y.port := by simp at h; omega
                ((first | refine run Γ hm 400 ?_ | refine runD Γ hm 400 (by kernel_rfl) ?_); (conv => whnf); repeat ((first | refine aF ?_ | refine aT ?_); (first | refine run Γ hm 400 ?_ | refine runD Γ hm 400 (by kernel_rfl) ?_); conv => whnf))
                refine ⟨by unfold I64; omega, ?_⟩
                ((conv => whnf); repeat ((first | refine aF ?_ | refine aT ?_); (first | refine run Γ hm 400 ?_ | refine runD Γ hm 400 (by kernel_rfl) ?_); conv => whnf))
                refine G_next [] hlt ⟨⟨rfl, rfl, rfl, rfl, congrArg (fun z : Nat => u64SV z) ?_, rfl, congrArg intSV ?_, rfl, congrArg intSV ?_, rfl, rfl, rfl, trivial⟩, ⟨.inl rfl, rfl, .inl rfl, rfl, .inl rfl, rfl, trivial⟩, rfl, rfl⟩
                all_goals (rcases hcase with ⟨g1, g2⟩ | ⟨g1, g2⟩ <;> rw [g2] <;> first | rfl | (exfalso; omega))
              · have h9 : ¬ hh.msg.port < y.port := by simp at h; omega
                ((first | refine run Γ hm 400 ?_ | refine runD Γ hm 400 (by kernel_rfl) ?_); (conv => whnf); repeat ((first | refine aF ?_ | refine aT ?_); (first | refine run Γ hm 400 ?_ | refine runD Γ hm 400 (by kernel_rfl) ?_); conv => whnf))
                refine ⟨by unfold I64; omega, ?_⟩
                ((conv => whnf); repeat ((first | refine aF ?_ | refine aT ?_); (first | refine run Γ hm 400 ?_ | refine runD Γ hm 400 (by kernel_rfl) ?_); conv => whnf))
                refine G_next [] hlt ⟨⟨rfl, rfl, rfl, rfl, congrArg (fun z : Nat => u64SV z) ?_, rfl, congrArg intSV ?_, rfl, congrArg intSV ?_, rfl, rfl, rfl, trivial⟩, ⟨.inl rfl, rfl, .inl rfl, rfl, .inl rfl, rfl, trivial⟩, rfl, rfl⟩
                all_goals (rcases hcase with ⟨g1, g2⟩ | ⟨g1, g2⟩ <;> rw [g2] <;> first | rfl | (exfalso; omega))
            · have h8 : ¬ hh.msg.bridge = y.bridge := by simp at h; omega
              ((first | refine run Γ hm 400 ?_ | refine runD Γ hm 400 (by kernel_rfl) ?_); (conv => whnf); repeat ((first | refine aF ?_ | refine aT ?_); (first | refine run Γ hm 400 ?_ | refine runD Γ hm 400 (by kernel_rfl) ?_); conv => whnf))
              refine ⟨by unfold I64; omega, ?_⟩
              ((conv => whnf); repeat ((first | refine aF ?_ | refine aT ?_); (first | refine run Γ hm 400 ?_ | refine runD Γ hm 400 (by kernel_rfl) ?_); conv => whnf))
              refine G_next [] hlt ⟨⟨rfl, rfl, rfl, rfl, congrArg (fun z : Nat => u64SV z) ?_, rfl, congrArg intSV ?_, rfl, congrArg intSV ?_, rfl, rfl, rfl, trivial⟩, ⟨.inl rfl, rfl, .inl rfl, rfl, .inl rfl, rfl, trivial⟩, rfl, rfl⟩
              all_goals (rcases hcase with ⟨g1, g2⟩ | ⟨g1, g2⟩ <;> rw [g2] <;> first | rfl | (exfalso; omega))
          · have h6 : ¬ 0 ≤ c.port := by simp at h; omega
            ((first | refine run Γ hm 400 ?_ | refine runD Γ hm 400 (by kernel_rfl) ?_); (conv => whnf); repeat ((first | refine aF ?_ | refine aT ?_); (first | refine run Γ hm 400 ?_ | refine runD Γ hm 400 (by kernel_rfl) ?_); conv => whnf))
            refine ⟨by unfold I64; omega, ?_⟩
            ((conv => whnf); repeat ((first | refine aF ?_ | refine aT ?_); (first | refine run Γ hm 400 ?_ | refine runD Γ hm 400 (by kernel_rfl) ?_); conv => whnf))
            refine G_next [] hlt ⟨⟨rfl, rfl, rfl, rfl, congrArg (fun z : Nat => u64SV z) ?_, rfl, congrArg intSV ?_, rfl, congrArg intSV ?_, rfl, rfl, rfl, trivial⟩, ⟨.inl rfl, rfl, .inl rfl, rfl, .inl rfl, rfl, trivial⟩, rfl, rfl⟩
            all_goals (rcases hcase with ⟨g1, g2⟩ | ⟨g1, g2⟩ <;> rw [g2] <;> first | rfl | (exfalso; omega))
        · have h5 : ¬ hh.msg.cost + p.cost = c.cost := by simp at h; omega
          ((first | refine run Γ hm 400 ?_ | refine runD Γ hm 400 (by kernel_rfl) ?_); (conv => whnf); repeat ((first | refine aF ?_ | refine aT ?_); (first | refine run Γ hm 400 ?_ | refine runD Γ hm 400 (by kernel_rfl) ?_); conv => whnf))
          refine ⟨by unfold I64; omega, ?_⟩
          ((conv => whnf); repeat ((first | refine aF ?_ | refine aT ?_); (first | refine run Γ hm 400 ?_ | refine runD Γ hm 400 (by kernel_rfl) ?_); conv => whnf))
          refine G_next [] hlt ⟨⟨rfl, rfl, rfl, rfl, congrArg (fun z : Nat => u64SV z) ?_, rfl, congrArg intSV ?_, rfl, congrArg intSV ?_, rfl, rfl, rfl, trivial⟩, ⟨.inl rfl, rfl, .inl rfl, rfl, .inl rfl, rfl, trivial⟩, rfl, rfl⟩
          all_goals (rcases hcase with ⟨g1, g2⟩ | ⟨g1, g2⟩ <;> rw [g2] <;> first | rfl | (exfalso; omega))
      · have h4 : ¬ hh.msg.root = c.root := by simp at h; omega
        ((first | refine run Γ hm 400 ?_ | refine runD Γ hm 400 (by kernel_rfl) ?_); (conv => whnf); repeat ((first | refine aF ?_ | refine aT ?_); (first | refine run Γ hm 400 ?_ | refine runD Γ hm 400 (by kernel_rfl) ?_); conv => whnf))
        refine ⟨by unfold I64; omega, ?_⟩
        ((conv => whnf); repeat ((first | refine aF ?_ | refine aT ?_); (first | refine run Γ hm 400 ?_ | refine runD Γ hm 400 (by kernel_rfl) ?_); conv => whnf))
        refine G_next [] hlt ⟨⟨rfl, rfl, rfl, rfl, congrArg (fun z : Nat => u64SV z) ?_, rfl, congrArg intSV ?_, rfl, congrArg intSV ?_, rfl, rfl, rfl, trivial⟩, ⟨.inl rfl, rfl, .inl rfl, rfl, .inl rfl, rfl, trivial⟩, rfl, rfl⟩
        all_goals (rcases hcase with ⟨g1, g2⟩ | ⟨g1, g2⟩ <;> rw [g2] <;> first | rfl | (exfalso; omega))
  · have hjl : j = n.ports.length := by
      have : ¬ j < n.ports.length := by simpa using h
      omega
    subst hjl
    have hcB : c = B := hc.symm.trans hB
    rw [hcB]
    ((first | refine run Γ hm 400 ?_ | refine runD Γ hm 400 (by kernel_rfl) ?_); (conv => whnf); repeat ((first | refine aF ?_ | refine aT ?_); (first | refine run Γ hm 400 ?_ | refine runD Γ hm 400 (by kernel_rfl) ?_); conv => whnf))
    exact done rfl (.cons .tmp (.cons .tmp (.cons .tmp .nil))) [] (refO n up hs) (fun _ h => h) rfl rfl ⟨trivial, ⟨.inl rfl, rfl, .inl rfl, rfl, .inl rfl, rfl, trivial⟩, rfl, rfl⟩
end
end Go.Sy.YthbgklhegccckaaGreat

namespace Go.Sy.YthbgklhegccckaaGreat
open Go.Proofs

attribute [local irreducible] Go.Sy.G Go.Sy.DR
set_option maxRecDepth 100000
set_option maxHeartbeats 4000000

section
variable {n : Net} {up : List Bool} {hs : List Heard}

theorem refWouldS (T : Talk n up hs) (i : Nat) (hi : i < n.ports.length) : Sy.Spec Tryz.prog 90 [.ptr 0 0, intSV i] (refO n up hs) (msgSV (wouldM n up hs i)) (refO n up hs) := contract Γ hm 100 F90 Tryz.ntmps90 rfl fun F hF => by
  have hp0 : nth n.ports (i : Int) = n.ports[i] := nth_eq (l := n.ports) (i := (i : Int)) (by simpa using hi)
  have hw : wouldM n up hs i = ⟨false, false, (bestOf n up hs (n.ports[i]).dev).root, idD (nth n.devices (n.ports[i]).dev), (bestOf n up hs (n.ports[i]).dev).cost, i, 0, 5120, 512, 3840⟩ := by
    unfold wouldM pdevI
    rw [hp0]
  have hpp := T.port hi
  obtain ⟨p, hp⟩ : ∃ p, n.ports[i] = p := ⟨_, rfl⟩
  have e1 : n.ports[(i : Int).toNat]'(by omega) = p := hp
  rw [hp] at hpp hw
  have qb := refBestS T p.dev hpp.1 hpp.2.1
  have qi := T.refid hpp.1 hpp.2.1
  rw [hw]
  generalize bestOf n up hs p.dev = b at *
  ((conv => whnf); repeat ((first | refine aF ?_ | refine aT ?_); (first | refine run Γ hm 400 ?_ | refine runD Γ hm 400 (by kernel_rfl) ?_); conv => whnf))
  refine ⟨rfl, by omega, by omega, ?_⟩
  rw [e1]
  ((conv => whnf); repeat ((first | refine aF ?_ | refine aT ?_); (first | refine run Γ hm 400 ?_ | refine runD Γ hm 400 (by kernel_rfl) ?_); conv => whnf))
  refine stepOp (good_call [] rfl F93 qb rfl ⟨rfl, rfl, rfl, trivial⟩ rfl ⟨.inl rfl, .inl rfl, .inl rfl, trivial⟩) rfl rfl ?_
  ((first | refine run Γ hm 400 ?_ | refine runD Γ hm 400 (by kernel_rfl) ?_); (conv => whnf); repeat ((first | refine aF ?_ | refine aT ?_); (first | refine run Γ hm 400 ?_ | refine runD Γ hm 400 (by kernel_rfl) ?_); conv => whnf))
  refine call0 qi F87 rfl rfl rfl rfl rfl ?_
  ((first | refine run Γ hm 400 ?_ | refine runD Γ hm 400 (by kernel_rfl) ?_); (conv => whnf); repeat ((first | refine aF ?_ | refine aT ?_); (first | refine run Γ hm 400 ?_ | refine runD Γ hm 400 (by kernel_rfl) ?_); conv => whnf))
  exact done rfl (.cons (.cell rfl rfl rfl rfl) .nil) [] (refO n up hs) (fun _ h => h) rfl rfl ⟨trivial, ⟨.inl rfl, rfl, .inl rfl, rfl, .inl rfl, rfl, trivial⟩, rfl, rfl⟩

theorem refRoleS (T : Talk n up hs) (i : Nat) (hi : i < n.ports.length) : Sy.Spec Tryz.prog 39 [.ptr 0 0, intSV i] (refO n up hs) (intSV (roleI n up hs i)) (refO n up hs) := contract Γ hm 100 F39 Tryz.ntmps39 rfl fun F hF => by
  have hp0 : nth n.ports (i : Int) = n.ports[i] := nth_eq (l := n.ports) (i := (i : Int)) (by simpa using hi)
  have hlh := T.len
  have hI : (hs.map Heard.is).length = n.ports.length := by rw [List.length_map]; exact hlh
  have hM : (hs.map Heard.msg).length = n.ports.length := by rw [List.length_map]; exact hlh
  have hh0 : nth hs (i : Int) = hs[i]'(by omega) := nth_eq (l := hs) (i := (i : Int)) (by simp; omega)
  have hw : roleI n up hs i = if liveB n up i = false then 0 else if (bestOf n up hs (n.ports[i]).dev).port = i then 1
      else if (hs[i]'(by omega)).is = false ∨ betterB (hs[i]'(by omega)).msg (wouldM n up hs i) = false then 2 else 3 := by
    unfold roleI pdevI
    rw [hp0, hh0]
  have hpp := T.port hi
  have ql := refLivesS T (i : Int)
  have qw := refWouldS T i hi
  obtain ⟨p, hp⟩ : ∃ p, n.ports[i] = p := ⟨_, rfl⟩
  obtain ⟨hh, hhh⟩ : ∃ x, hs[i]'(by omega) = x := ⟨_, rfl⟩
  have e1 : n.ports[(i : Int).toNat]'(by omega) = p := hp
  have e2 : (hs.map Heard.is)[(i : Int).toNat]'(by simp; omega) = hh.is := by rw [List.getElem_map]; exact congrArg Heard.is hhh
  have e3 : (hs.map Heard.msg)[(i : Int).toNat]'(by simp; omega) = hh.msg := by rw [List.getElem_map]; exact congrArg Heard.msg hhh
  rw [hp, hhh] at hw
  rw [hp] at hpp
  have qb := refBestS T p.dev hpp.1 hpp.2.1
  generalize bestOf n up hs p.dev = b at *
  generalize liveB n up (i : Int) = lv at *
  generalize wouldM n up hs i = wm at *
  have qc := refBetterS ((hs.map Heard.msg)[(i : Int).toNat]'(by simp; omega)) wm
  rw [hw]
  ((conv => whnf); repeat ((first | refine aF ?_ | refine aT ?_); (first | refine run Γ hm 400 ?_ | refine runD Γ hm 400 (by kernel_rfl) ?_); conv => whnf))
  refine stepOp (good_call [] rfl F88 ql rfl ⟨rfl, rfl, rfl, trivial⟩ rfl ⟨.inl rfl, .inl rfl, .inl rfl, trivial⟩) rfl rfl ?_
  ((first | refine run Γ hm 400 ?_ | refine runD Γ hm 400 (by kernel_rfl) ?_); (conv => whnf); repeat ((first | refine aF ?_ | refine aT ?_); (first | refine run Γ hm 400 ?_ | refine runD Γ hm 400 (by kernel_rfl) ?_); conv => whnf))
  refine ⟨fun h => ?_, fun h => ?_⟩
  · have hv : lv = false := by simpa using h
    rw [if_pos hv]
    ((first | refine run Γ hm 400 ?_ | refine runD Γ hm 400 (by kernel_rfl) ?_); (conv => whnf); repeat ((first | refine aF ?_ | refine aT ?_); (first | refine run Γ hm 400 ?_ | refine runD Γ hm 400 (by kernel_rfl) ?_); conv => whnf))
    exact done rfl (.cons .tmp .nil) [] (refO n up hs) (fun _ h => h) rfl rfl ⟨trivial, ⟨.inl rfl, rfl, .inl rfl, rfl, .inl rfl, rfl, trivial⟩, rfl, rfl⟩
  have hv : ¬ lv = false := by simpa using h
  rw [if_neg hv]
  ((first | refine run Γ hm 400 ?_ | refine runD Γ hm 400 (by kernel_rfl) ?_); (conv => whnf); repeat ((first | refine aF ?_ | refine aT ?_); (first | refine run Γ hm 400 ?_ | refine runD Γ hm 400 (by kernel_rfl) ?_); conv => whnf))
  refine ⟨rfl, by omega, by omega, ?_⟩
  rw [e1]
  ((conv => whnf); repeat ((first | refine aF ?_ | refine aT ?_); (first | refine run Γ hm 400 ?_ | refine runD Γ hm 400 (by kernel_rfl) ?_); conv => whnf))
  refine stepOp (good_call [] rfl F93 qb rfl ⟨rfl, rfl, rfl, trivial⟩ rfl ⟨.inl rfl, .inl rfl, .inl rfl, trivial⟩) rfl rfl ?_
  ((first | refine run Γ hm 400 ?_ | refine runD Γ hm 400 (by kernel_rfl) ?_); (conv => whnf); repeat ((first | refine aF ?_ | refine aT ?_); (first | refine run Γ hm 400 ?_ | refine runD Γ hm 400 (by kernel_rfl) ?_); conv => whnf))
  refine ⟨fun h => ?_, fun h => ?_⟩
  · have hv : b.port = i := by simpa using h
    rw [if_pos hv]
    ((first | refine run Γ hm 400 ?_ | refine runD Γ hm 400 (by kernel_rfl) ?_); (conv => whnf); repeat ((first | refine aF ?_ | refine aT ?_); (first | refine run Γ hm 400 ?_ | refine runD Γ hm 400 (by kernel_rfl) ?_); conv => whnf))
    exact done rfl (.cons .tmp .nil) [] (refO n up hs) (fun _ h => h) rfl rfl ⟨trivial, ⟨.inl rfl, rfl, .inl rfl, rfl, .inl rfl, rfl, trivial⟩, rfl, rfl⟩
  have hv : ¬ b.port = i := by simpa using h
  rw [if_neg hv]
  ((first | refine run Γ hm 400 ?_ | refine runD Γ hm 400 (by kernel_rfl) ?_); (conv => whnf); repeat ((first | refine aF ?_ | refine aT ?_); (first | refine run Γ hm 400 ?_ | refine runD Γ hm 400 (by kernel_rfl) ?_); conv => whnf))
  refine ⟨by omega, by show _ < (hs.map Heard.is).length; omega, ?_⟩
  ((conv => whnf); repeat ((first | refine aF ?_ | refine aT ?_); (first | refine run Γ hm 400 ?_ | refine runD Γ hm 400 (by kernel_rfl) ?_); conv => whnf))
  refine ⟨rfl, by show _ < (hs.map Heard.is).length; omega, ?_⟩
  rw [e2]
  ((conv => whnf); repeat ((first | refine aF ?_ | refine aT ?_); (first | refine run Γ hm 400 ?_ | refine runD Γ hm 400 (by kernel_rfl) ?_); conv => whnf))
  refine ⟨fun h => ?_, fun h => ?_⟩
  · have hv : hh.is = false := by simpa using h
    rw [if_pos (.inl hv)]
    ((first | refine run Γ hm 400 ?_ | refine runD Γ hm 400 (by kernel_rfl) ?_); (conv => whnf); repeat ((first | refine aF ?_ | refine aT ?_); (first | refine run Γ hm 400 ?_ | refine runD Γ hm 400 (by kernel_rfl) ?_); conv => whnf))
    refine ⟨(by kernel_rfl), ?_⟩
    ((conv => whnf); repeat ((first | refine aF ?_ | refine aT ?_); (first | refine run Γ hm 400 ?_ | refine runD Γ hm 400 (by kernel_rfl) ?_); conv => whnf))
    exact done rfl (.cons .tmp .nil) [] (refO n up hs) (fun _ h => h) rfl rfl ⟨trivial, ⟨.inl rfl, rfl, .inl rfl, rfl, .inl rfl, rfl, trivial⟩, rfl, rfl⟩
  · have hv : hh.is = true := by simpa using h
    ((first | refine run Γ hm 400 ?_ | refine runD Γ hm 400 (by kernel_rfl) ?_); (conv => whnf); repeat ((first | refine aF ?_ | refine aT ?_); (first | refine run Γ hm 400 ?_ | refine runD Γ hm 400 (by kernel_rfl) ?_); conv => whnf))
    refine ⟨by omega, by show _ < (hs.map Heard.msg).length; omega, ?_⟩
    ((conv => whnf); repeat ((first | refine aF ?_ | refine aT ?_); (first | refine run Γ hm 400 ?_ | refine runD Γ hm 400 (by kernel_rfl) ?_); conv => whnf))
    refine ⟨rfl, by show _ < (hs.map Heard.msg).length; omega, ?_⟩
    ((conv => whnf); repeat ((first | refine aF ?_ | refine aT ?_); (first | refine run Γ hm 400 ?_ | refine runD Γ hm 400 (by kernel_rfl) ?_); conv => whnf))
    refine stepD2 (good_call [] rfl F90 qw rfl ⟨rfl, rfl, rfl, trivial⟩ rfl ⟨.inl rfl, .inl rfl, .inl rfl, trivial⟩) ⟨rfl, rfl, rfl, trivial⟩ (by kernel_rfl) rfl ?_
    ((first | refine run Γ hm 400 ?_ | refine runD Γ hm 400 (by kernel_rfl) ?_); (conv => whnf); repeat ((first | refine aF ?_ | refine aT ?_); (first | refine run Γ hm 400 ?_ | refine runD Γ hm 400 (by kernel_rfl) ?_); conv => whnf))
    refine callD0 qc F92 rfl rfl rfl (by kernel_rfl) rfl ?_
    ((first | refine run Γ hm 400 ?_ | refine runD Γ hm 400 (by kernel_rfl) ?_); (conv => whnf); repeat ((first | refine aF ?_ | refine aT ?_); (first | refine run Γ hm 400 ?_ | refine runD Γ hm 400 (by kernel_rfl) ?_); conv => whnf))
    refine ⟨(by kernel_rfl), ?_⟩
    ((conv => whnf); repeat ((first | refine aF ?_ | refine aT ?_); (first | refine run Γ hm 400 ?_ | refine runD Γ hm 400 (by kernel_rfl) ?_); conv => whnf))
    refine ⟨fun h => ?_, fun h => ?_⟩
    · have h2 : betterB hh.msg wm = false := by rw [e3] at h; simpa using h
      rw [if_pos (.inr h2)]
      ((first | refine run Γ hm 400 ?_ | refine runD Γ hm 400 (by kernel_rfl) ?_); (conv => whnf); repeat ((first | refine aF ?_ | refine aT ?_); (first | refine run Γ hm 400 ?_ | refine runD Γ hm 400 (by kernel_rfl) ?_); conv => whnf))
      exact done rfl (.cons .tmp .nil) [] (refO n up hs) (fun _ h => h) rfl rfl ⟨trivial, ⟨.inl rfl, rfl, .inl rfl, rfl, .inl rfl, rfl, trivial⟩, rfl, rfl⟩
    · have h2 : betterB hh.msg wm = true := by rw [e3] at h; simpa using h
      rw [if_neg (by rw [hv, h2]; simp)]
      ((first | refine run Γ hm 400 ?_ | refine runD Γ hm 400 (by kernel_rfl) ?_); (conv => whnf); repeat ((first | refine aF ?_ | refine aT ?_); (first | refine run Γ hm 400 ?_ | refine runD Γ hm 400 (by kernel_rfl) ?_); conv => whnf))
      exact done rfl (.cons .tmp .nil) [] (refO n up hs) (fun _ h => h) rfl rfl ⟨trivial, ⟨.inl rfl, rfl, .inl rfl, rfl, .inl rfl, rfl, trivial⟩, rfl, rfl⟩

theorem refTellS (T : Talk n up hs) (i : Nat) (hi : i < n.ports.length) : Sy.Spec Tryz.prog 36 [.ptr 0 0, intSV i] (refO n up hs) (tellSV n i (tellO n up hs i)) (refO n up hs) := by
  have hp0 : nth n.ports (i : Int) = n.ports[i] := nth_eq (l := n.ports) (i := (i : Int)) (by simpa using hi)
  have hpp := T.port hi
  have hlt : n.ports[i].dev.toNat < n.devices.length := by omega
  have ql := refLivesS T (i : Int)
  have qr := refRoleS T i hi
  have qw := refWouldS T i hi
  have hdd := T.id (List.getElem_mem hlt)
  have hmac : macN n i = (n.devices[n.ports[i].dev.toNat]'hlt).mac.toNat := by
    unfold macN pdevI
    rw [hp0, nth_eq (by omega)]
  have hput := refPutM_ok (macN n i) (wouldM n up hs i)
  have hnot := refPut_no (macN n i) (wouldM n up hs i)
  have hR := would_right T hi
  have hIn := would_in T hi
  have hW := would_wrong (n := n) (up := up) (hs := hs) (i := i)
  have ht : tellO n up hs i = if liveB n up i = true ∧ roleI n up hs i = 2 ∧ (wouldM n up hs i).cost < 4294967296 then some (wouldM n up hs i) else none := rfl
  obtain ⟨p, hp⟩ : ∃ p, n.ports[i] = p := ⟨_, rfl⟩
  have e1 : n.ports[(i : Int).toNat]'(by omega) = p := hp
  simp only [hp] at hpp hmac hlt hdd
  obtain ⟨d, hd⟩ : ∃ d, n.devices[p.dev.toNat]'hlt = d := ⟨_, rfl⟩
  rw [hd] at hmac hdd
  have hm64 : (macN n i : Int) = d.mac := by rw [hmac]; omega
  have hm48 : macN n i < 281474976710656 := by rw [hmac]; omega
  rw [hm64] at hput hnot
  rw [ht]
  generalize liveB n up (i : Int) = lv at *
  generalize roleI n up hs i = ro at *
  generalize wouldM n up hs i = wm at *
  by_cases hl : lv = true
  · subst hl
    by_cases hro : ro = 2
    · subst hro
      by_cases hc : wm.cost < 4294967296
      · rw [if_pos ⟨rfl, rfl, hc⟩]
        have hput := hput (hIn hc).2.1 (hR hc) hm48
        refine contract Γ hm 100 F36 Tryz.ntmps36 rfl fun F hF => by
          ((conv => whnf); repeat ((first | refine aF ?_ | refine aT ?_); (first | refine run Γ hm 400 ?_ | refine runD Γ hm 400 (by kernel_rfl) ?_); conv => whnf))
          refine stepOp (good_call [] rfl F88 ql rfl ⟨rfl, rfl, rfl, trivial⟩ rfl ⟨.inl rfl, .inl rfl, .inl rfl, trivial⟩) rfl rfl ?_
          ((first | refine run Γ hm 400 ?_ | refine runD Γ hm 400 (by kernel_rfl) ?_); (conv => whnf); repeat ((first | refine aF ?_ | refine aT ?_); (first | refine run Γ hm 400 ?_ | refine runD Γ hm 400 (by kernel_rfl) ?_); conv => whnf))
          refine stepOp (good_call [] rfl F39 qr rfl ⟨rfl, rfl, rfl, trivial⟩ rfl ⟨.inl rfl, .inl rfl, .inl rfl, trivial⟩) rfl rfl ?_
          ((first | refine run Γ hm 400 ?_ | refine runD Γ hm 400 (by kernel_rfl) ?_); (conv => whnf); repeat ((first | refine aF ?_ | refine aT ?_); (first | refine run Γ hm 400 ?_ | refine runD Γ hm 400 (by kernel_rfl) ?_); conv => whnf))
          refine ⟨rfl, by omega, by omega, ?_⟩
          rw [e1]
          ((conv => whnf); repeat ((first | refine aF ?_ | refine aT ?_); (first | refine run Γ hm 400 ?_ | refine runD Γ hm 400 (by kernel_rfl) ?_); conv => whnf))
          refine ⟨rfl, by omega, by omega, ?_⟩
          rw [hd]
          ((conv => whnf); repeat ((first | refine aF ?_ | refine aT ?_); (first | refine run Γ hm 400 ?_ | refine runD Γ hm 400 (by kernel_rfl) ?_); conv => whnf))
          refine stepD2 (good_call [] rfl F90 qw rfl ⟨rfl, rfl, rfl, trivial⟩ rfl ⟨.inl rfl, .inl rfl, .inl rfl, trivial⟩) ⟨rfl, rfl, rfl, trivial⟩ (by kernel_rfl) rfl ?_
          ((first | refine run Γ hm 400 ?_ | refine runD Γ hm 400 (by kernel_rfl) ?_); (conv => whnf); repeat ((first | refine aF ?_ | refine aT ?_); (first | refine run Γ hm 400 ?_ | refine runD Γ hm 400 (by kernel_rfl) ?_); conv => whnf))
          refine stepD (good_call [(0, 39)] rfl F89 hput rfl trivial rfl ⟨.inr rfl, trivial⟩) (by kernel_rfl) rfl ?_
          ((first | refine run Γ hm 400 ?_ | refine runD Γ hm 400 (by kernel_rfl) ?_); (conv => whnf); repeat ((first | refine aF ?_ | refine aT ?_); (first | refine run Γ hm 400 ?_ | refine runD Γ hm 400 (by kernel_rfl) ?_); conv => whnf))
          refine ⟨(by kernel_rfl), ?_⟩
          ((conv => whnf); repeat ((first | refine aF ?_ | refine aT ?_); (first | refine run Γ hm 400 ?_ | refine runD Γ hm 400 (by kernel_rfl) ?_); conv => whnf))
          refine G_data 39 rfl ?_
          ((first | refine run Γ hm 400 ?_ | refine runD Γ hm 400 (by kernel_rfl) ?_); (conv => whnf); repeat ((first | refine aF ?_ | refine aT ?_); (first | refine run Γ hm 400 ?_ | refine runD Γ hm 400 (by kernel_rfl) ?_); conv => whnf))
          exact done rfl (.cons .tmp (.cons .tmp .nil)) [] (refO n up hs) (fun _ h => h) rfl rfl ⟨trivial, ⟨.inl rfl, rfl, .inl rfl, rfl, .inl rfl, rfl, trivial⟩, rfl, rfl⟩
      · rw [if_neg (fun e => hc e.2.2)]
        have hnot := hnot (hW hc)
        refine contract Γ hm 100 F36 Tryz.ntmps36 rfl fun F hF => by
          ((conv => whnf); repeat ((first | refine aF ?_ | refine aT ?_); (first | refine run Γ hm 400 ?_ | refine runD Γ hm 400 (by kernel_rfl) ?_); conv => whnf))
          refine stepOp (good_call [] rfl F88 ql rfl ⟨rfl, rfl, rfl, trivial⟩ rfl ⟨.inl rfl, .inl rfl, .inl rfl, trivial⟩) rfl rfl ?_
          ((first | refine run Γ hm 400 ?_ | refine runD Γ hm 400 (by kernel_rfl) ?_); (conv => whnf); repeat ((first | refine aF ?_ | refine aT ?_); (first | refine run Γ hm 400 ?_ | refine runD Γ hm 400 (by kernel_rfl) ?_); conv => whnf))
          refine stepOp (good_call [] rfl F39 qr rfl ⟨rfl, rfl, rfl, trivial⟩ rfl ⟨.inl rfl, .inl rfl, .inl rfl, trivial⟩) rfl rfl ?_
          ((first | refine run Γ hm 400 ?_ | refine runD Γ hm 400 (by kernel_rfl) ?_); (conv => whnf); repeat ((first | refine aF ?_ | refine aT ?_); (first | refine run Γ hm 400 ?_ | refine runD Γ hm 400 (by kernel_rfl) ?_); conv => whnf))
          refine ⟨rfl, by omega, by omega, ?_⟩
          rw [e1]
          ((conv => whnf); repeat ((first | refine aF ?_ | refine aT ?_); (first | refine run Γ hm 400 ?_ | refine runD Γ hm 400 (by kernel_rfl) ?_); conv => whnf))
          refine ⟨rfl, by omega, by omega, ?_⟩
          rw [hd]
          ((conv => whnf); repeat ((first | refine aF ?_ | refine aT ?_); (first | refine run Γ hm 400 ?_ | refine runD Γ hm 400 (by kernel_rfl) ?_); conv => whnf))
          refine stepD2 (good_call [] rfl F90 qw rfl ⟨rfl, rfl, rfl, trivial⟩ rfl ⟨.inl rfl, .inl rfl, .inl rfl, trivial⟩) ⟨rfl, rfl, rfl, trivial⟩ (by kernel_rfl) rfl ?_
          ((first | refine run Γ hm 400 ?_ | refine runD Γ hm 400 (by kernel_rfl) ?_); (conv => whnf); repeat ((first | refine aF ?_ | refine aT ?_); (first | refine run Γ hm 400 ?_ | refine runD Γ hm 400 (by kernel_rfl) ?_); conv => whnf))
          refine callD0 hnot F89 rfl rfl rfl (by kernel_rfl) rfl ?_
          ((first | refine run Γ hm 400 ?_ | refine runD Γ hm 400 (by kernel_rfl) ?_); (conv => whnf); repeat ((first | refine aF ?_ | refine aT ?_); (first | refine run Γ hm 400 ?_ | refine runD Γ hm 400 (by kernel_rfl) ?_); conv => whnf))
          refine ⟨(by kernel_rfl), ?_⟩
          ((conv => whnf); repeat ((first | refine aF ?_ | refine aT ?_); (first | refine run Γ hm 400 ?_ | refine runD Γ hm 400 (by kernel_rfl) ?_); conv => whnf))
          exact done rfl (.cons .tmp (.cons .tmp .nil)) [] (refO n up hs) (fun _ h => h) rfl rfl ⟨trivial, ⟨.inl rfl, rfl, .inl rfl, rfl, .inl rfl, rfl, trivial⟩, rfl, rfl⟩
    · rw [if_neg (fun e => hro e.2.1)]
      refine contract Γ hm 100 F36 Tryz.ntmps36 rfl fun F hF => by
        ((conv => whnf); repeat ((first | refine aF ?_ | refine aT ?_); (first | refine run Γ hm 400 ?_ | refine runD Γ hm 400 (by kernel_rfl) ?_); conv => whnf))
        refine stepOp (good_call [] rfl F88 ql rfl ⟨rfl, rfl, rfl, trivial⟩ rfl ⟨.inl rfl, .inl rfl, .inl rfl, trivial⟩) rfl rfl ?_
        ((first | refine run Γ hm 400 ?_ | refine runD Γ hm 400 (by kernel_rfl) ?_); (conv => whnf); repeat ((first | refine aF ?_ | refine aT ?_); (first | refine run Γ hm 400 ?_ | refine runD Γ hm 400 (by kernel_rfl) ?_); conv => whnf))
        refine stepOp (good_call [] rfl F39 qr rfl ⟨rfl, rfl, rfl, trivial⟩ rfl ⟨.inl rfl, .inl rfl, .inl rfl, trivial⟩) rfl rfl ?_
        ((first | refine run Γ hm 400 ?_ | refine runD Γ hm 400 (by kernel_rfl) ?_); (conv => whnf); repeat ((first | refine aF ?_ | refine aT ?_); (first | refine run Γ hm 400 ?_ | refine runD Γ hm 400 (by kernel_rfl) ?_); conv => whnf))
        refine ⟨fun _ => ?_, fun h => absurd (show ro = 2 by simpa using h) hro⟩
        ((first | refine run Γ hm 400 ?_ | refine runD Γ hm 400 (by kernel_rfl) ?_); (conv => whnf); repeat ((first | refine aF ?_ | refine aT ?_); (first | refine run Γ hm 400 ?_ | refine runD Γ hm 400 (by kernel_rfl) ?_); conv => whnf))
        exact done rfl (.cons .tmp (.cons .tmp .nil)) [] (refO n up hs) (fun _ h => h) rfl rfl ⟨trivial, ⟨.inl rfl, rfl, .inl rfl, rfl, .inl rfl, rfl, trivial⟩, rfl, rfl⟩
  · have hl : lv = false := by simpa using hl
    subst hl
    rw [if_neg (fun e => by cases e.1)]
    refine contract Γ hm 100 F36 Tryz.ntmps36 rfl fun F hF => by
      ((conv => whnf); repeat ((first | refine aF ?_ | refine aT ?_); (first | refine run Γ hm 400 ?_ | refine runD Γ hm 400 (by kernel_rfl) ?_); conv => whnf))
      refine stepOp (good_call [] rfl F88 ql rfl ⟨rfl, rfl, rfl, trivial⟩ rfl ⟨.inl rfl, .inl rfl, .inl rfl, trivial⟩) rfl rfl ?_
      ((first | refine run Γ hm 400 ?_ | refine runD Γ hm 400 (by kernel_rfl) ?_); (conv => whnf); repeat ((first | refine aF ?_ | refine aT ?_); (first | refine run Γ hm 400 ?_ | refine runD Γ hm 400 (by kernel_rfl) ?_); conv => whnf))
      exact done rfl (.cons .tmp (.cons .tmp .nil)) [] (refO n up hs) (fun _ h => h) rfl rfl ⟨trivial, ⟨.inl rfl, rfl, .inl rfl, rfl, .inl rfl, rfl, trivial⟩, rfl, rfl⟩
end
end Go.Sy.YthbgklhegccckaaGreat
