/-
  Contracts: explain.Check (what addr.Read answers being given).
-/
import Derived.Test.YtlfopmhekhifoaaGreatDoorC14

namespace Go.Sy.YtlfopmhekhifoaaGreatDoor
open Go.Proofs
-- SIMP: placeB

attribute [local irreducible] Go.Sy.G Go.Sy.DR
set_option maxRecDepth 20000
set_option maxHeartbeats 4000000

theorem e_port_lt {n : Net} {s : ByteArray} : portI n s < n.ports.length ∧ -1 ≤ portI n s := ⟨idxI_lt _ _, idxI_ge _ _⟩

theorem splitT_short (c : UInt8) {s : ByteArray} (h : s.size < 100000) : Short (splitT c s) := by
  unfold Short
  rw [splitT_length]
  have : cntT c s ≤ s.size := List.count_le_length
  omega

theorem splitT_mem_size {c : UInt8} {s x : ByteArray} (hx : x ∈ splitT c s) : x.size ≤ s.size := by
  have hl : s.data.toList.length = s.size := rfl
  rw [splitT, List.mem_append] at hx
  rcases hx with hx | hx
  · obtain ⟨j, _, rfl⟩ := List.mem_map.1 hx
    rw [mkT_size, pieceL, List.length_take]
    have := restL_le c s.data.toList j
    omega
  · rw [List.mem_singleton] at hx
    subst hx
    rw [mkT_size]
    have := restL_le c s.data.toList (s.data.toList.count c)
    omega

theorem goR_stop (n : Net) (rd : ByteArray → Int × Bool) (l : List ByteArray) (s : Bool × Int × Bool) (h : s.1 = false) : goR n rd l s = s := by
  cases l with
  | nil => rfl
  | cons x l => rw [goR, if_neg (by simp [h])]

theorem goR_app (n : Net) (rd : ByteArray → Int × Bool) : ∀ (l m : List ByteArray) (s : Bool × Int × Bool), goR n rd (l ++ m) s = goR n rd m (goR n rd l s)
  | [], m, s => rfl
  | x :: l, m, s => by
    by_cases hs : s.1 = true
    · rw [List.cons_append, goR, if_pos hs, goR, if_pos hs, goR_app n rd l m]
    · have hs' : s.1 = false := by simpa using hs
      rw [goR_stop _ _ _ _ hs', goR_stop _ _ (x :: l) _ hs', goR_stop _ _ _ _ hs']

theorem goR_fail {n : Net} {rd : ByteArray → Int × Bool} {l : List ByteArray} {j : Nat} {s : Bool × Int × Bool} (h : (goR n rd (l.take j) s).1 = false) : (goR n rd l s).1 = false := by
  have e : l = l.take j ++ l.drop j := (List.take_append_drop j l).symm
  rw [e, goR_app, goR_stop _ _ _ _ h]
  exact h

theorem checkS (n : Net) (hn : n.Fin) (hnm : Named n) (rows : List ByteArray) (hr : Short rows) (hsz : ∀ x ∈ rows, x.size < 100000) (rd : ByteArray → Int × Bool)
    (hrd : ∀ s : ByteArray, s.size < 100000 → Sy.Spec Tryz.prog 114 [strSV s] [] (.tup [u32SV (rd s).1, boolSV (rd s).2]) []) :
    Sy.Spec Tryz.prog 13 [netSV n, .sl 1 strSV rows] [] (.tup [intSV (checkR n rd rows).1, intSV (checkR n rd rows).2.1, boolSV (checkR n rd rows).2.2]) [] := contract Γ hm 100 F13 Tryz.ntmps13 rfl fun F hF => by
  have hlk := checkR.eq_1 n rd rows
  generalize checkR n rd rows = res at *
  have hrt := namesRightS n hn
  unfold Short at hr
  ((conv=>whnf);repeat((first|refine aF ?_|refine aT ?_);(first|refine rG Γ hm ?_|refine rD Γ hm (by kernel_rfl) ?_);conv=>whnf))
  refine ⟨fun h => ?_, fun h => ?_⟩
  · have h1 : ¬ 2 ≤ rows.length := by have := of_decide_eq_true h; omega
    rw [if_neg (fun e => h1 e.1)] at hlk
    subst hlk
    ((first|refine rG Γ hm ?_|refine rD Γ hm (by kernel_rfl) ?_);(conv=>whnf);repeat((first|refine aF ?_|refine aT ?_);(first|refine rG Γ hm ?_|refine rD Γ hm (by kernel_rfl) ?_);conv=>whnf))
    exact done0 rfl (.cons .tmp (.cons .tmp (.cons .tmp .nil))) rfl rfl
  have h1 : 2 ≤ rows.length := by have := of_decide_eq_false h; omega
  refine G_box 2 8 (netSV n) rfl rfl rfl ?_
  ((first|refine rG Γ hm ?_|refine rD Γ hm (by kernel_rfl) ?_);(conv=>whnf);repeat((first|refine aF ?_|refine aT ?_);(first|refine rG Γ hm ?_|refine rD Γ hm (by kernel_rfl) ?_);conv=>whnf))
  refine call0 hrt F15 rfl rfl rfl rfl rfl ?_
  cases hb : netRightB n
  · rw [if_neg (fun e => by rw [hb] at e; cases e.2.1)] at hlk
    subst hlk
    ((first|refine rG Γ hm ?_|refine rD Γ hm (by kernel_rfl) ?_);(conv=>whnf);repeat((first|refine aF ?_|refine aT ?_);(first|refine rG Γ hm ?_|refine rD Γ hm (by kernel_rfl) ?_);conv=>whnf))
    exact done0 rfl (.cons .tmp (.cons .tmp (.cons .tmp .nil))) rfl rfl
  obtain ⟨k, hk⟩ : ∃ k : Nat, rows.length = k + 2 := ⟨rows.length - 2, by omega⟩
  have hk0 : (0 : Int).toNat < rows.length := by simp; omega
  have hkl : ((rows.length : Int) - 1).toNat < rows.length := by omega
  have el : nth rows ((rows.length - 1 : Nat) : Int) = rows[((rows.length : Int) - 1).toNat]'hkl := by
    have e : ((rows.length - 1 : Nat) : Int) = (rows.length : Int) - 1 := by omega
    rw [e, nth_eq hkl]
  rw [nth_eq hk0, el] at hlk
  have hs0 := hsz _ (List.getElem_mem hk0)
  have hsl := hsz _ (List.getElem_mem hkl)
  have q0 := splitS _ 32 hs0
  have ql := splitS _ 32 hsl
  have hf0 := splitT_length 32 (rows[(0 : Int).toNat]'hk0)
  have hfl := splitT_length 32 (rows[((rows.length : Int) - 1).toNat]'hkl)
  have hw0 := splitT_short 32 hs0
  have hwl := splitT_short 32 hsl
  obtain ⟨r0, hr0⟩ : ∃ x, rows[(0 : Int).toNat]'hk0 = x := ⟨_, rfl⟩
  obtain ⟨rl, hrl⟩ : ∃ x, rows[((rows.length : Int) - 1).toNat]'hkl = x := ⟨_, rfl⟩
  rw [hr0] at hlk hs0 q0 hf0 hw0
  rw [hrl] at hlk hsl ql hfl hwl
  generalize splitT 32 r0 = f at *
  generalize splitT 32 rl = l at *
  generalize hmid : (rows.take (rows.length - 1)).drop 1 = mid at *
  ((first|refine rG Γ hm ?_|refine rD Γ hm (by kernel_rfl) ?_);(conv=>whnf);repeat((first|refine aF ?_|refine aT ?_);(first|refine rG Γ hm ?_|refine rD Γ hm (by kernel_rfl) ?_);conv=>whnf))
  refine ⟨rfl, by decide, hk0, ?_⟩
  ((conv=>whnf);repeat((first|refine aF ?_|refine aT ?_);(first|refine rG Γ hm ?_|refine rD Γ hm (by kernel_rfl) ?_);conv=>whnf))
  refine callD0 (hr0 ▸ q0) F29 rfl rfl rfl (by kernel_rfl) rfl ?_
  ((first|refine rG Γ hm ?_|refine rD Γ hm (by kernel_rfl) ?_);(conv=>whnf);repeat((first|refine aF ?_|refine aT ?_);(first|refine rG Γ hm ?_|refine rD Γ hm (by kernel_rfl) ?_);conv=>whnf))
  refine ⟨by unfold I64; omega, ?_⟩
  ((conv=>whnf);repeat((first|refine aF ?_|refine aT ?_);(first|refine rG Γ hm ?_|refine rD Γ hm (by kernel_rfl) ?_);conv=>whnf))
  refine ⟨rfl, by omega, hkl, ?_⟩
  ((conv=>whnf);repeat((first|refine aF ?_|refine aT ?_);(first|refine rG Γ hm ?_|refine rD Γ hm (by kernel_rfl) ?_);conv=>whnf))
  refine callD0 (hrl ▸ ql) F29 rfl rfl rfl (by kernel_rfl) rfl ?_
  ((first|refine rG Γ hm ?_|refine rD Γ hm (by kernel_rfl) ?_);(conv=>whnf);repeat((first|refine aF ?_|refine aT ?_);(first|refine rG Γ hm ?_|refine rD Γ hm (by kernel_rfl) ?_);conv=>whnf))
  refine ⟨(by kernel_rfl), ?_⟩
  ((conv=>whnf);repeat((first|refine aF ?_|refine aT ?_);(first|refine rG Γ hm ?_|refine rD Γ hm (by kernel_rfl) ?_);conv=>whnf))
  refine ⟨fun h => ?_, fun h => ?_⟩
  · have h2 : f.length ≠ 3 := by
      intro e
      rw [e] at h
      exact absurd h (by decide)
    rw [if_neg (fun e => by have := e.2.2.1; simp [beginB, h2] at this)] at hlk
    subst hlk
    ((first|refine rG Γ hm ?_|refine rD Γ hm (by kernel_rfl) ?_);(conv=>whnf);repeat((first|refine aF ?_|refine aT ?_);(first|refine rG Γ hm ?_|refine rD Γ hm (by kernel_rfl) ?_);conv=>whnf))
    exact done0 rfl (.cons .tmp (.cons .tmp (.cons .tmp .nil))) rfl rfl
  have h2 : f.length = 3 := by
    have := h
    simp at this
    omega
  obtain ⟨f0, f1, f2, rfl⟩ : ∃ f0 f1 f2, f = [f0, f1, f2] := by
    match f, h2 with
    | [a, b, c], _ => exact ⟨a, b, c, rfl⟩
  have e0 : nth [f0, f1, f2] 0 = f0 := rfl
  have e1 : nth [f0, f1, f2] 1 = f1 := rfl
  have e2 : nth [f0, f1, f2] 2 = f2 := rfl
  rw [e1, e2] at hlk
  ((first|refine rG Γ hm ?_|refine rD Γ hm (by kernel_rfl) ?_);(conv=>whnf);repeat((first|refine aF ?_|refine aT ?_);(first|refine rG Γ hm ?_|refine rD Γ hm (by kernel_rfl) ?_);conv=>whnf))
  refine ⟨rfl, by decide, by simp, ?_⟩
  ((conv=>whnf);repeat((first|refine aF ?_|refine aT ?_);(first|refine rG Γ hm ?_|refine rD Γ hm (by kernel_rfl) ?_);conv=>whnf))
  refine ⟨fun h => ?_, fun h => ?_⟩
  · have h3 : (f0 == tFrom) = false := by simpa using h
    rw [if_neg (fun e => by have := e.2.2.1; simp [beginB, e0, h3] at this)] at hlk
    subst hlk
    ((first|refine rG Γ hm ?_|refine rD Γ hm (by kernel_rfl) ?_);(conv=>whnf);repeat((first|refine aF ?_|refine aT ?_);(first|refine rG Γ hm ?_|refine rD Γ hm (by kernel_rfl) ?_);conv=>whnf))
    exact done0 rfl (.cons .tmp (.cons .tmp (.cons .tmp .nil))) rfl rfl
  have h3 : (f0 == tFrom) = true := by simpa using h
  ((first|refine rG Γ hm ?_|refine rD Γ hm (by kernel_rfl) ?_);(conv=>whnf);repeat((first|refine aF ?_|refine aT ?_);(first|refine rG Γ hm ?_|refine rD Γ hm (by kernel_rfl) ?_);conv=>whnf))
  refine ⟨fun h => ?_, fun h => ?_⟩
  · have h4 : l.length ≠ 2 := by
      intro e
      rw [e] at h
      exact absurd h (by decide)
    rw [if_neg (fun e => by have := e.2.2.1; simp [beginB, h4] at this)] at hlk
    subst hlk
    ((first|refine rG Γ hm ?_|refine rD Γ hm (by kernel_rfl) ?_);(conv=>whnf);repeat((first|refine aF ?_|refine aT ?_);(first|refine rG Γ hm ?_|refine rD Γ hm (by kernel_rfl) ?_);conv=>whnf))
    exact done0 rfl (.cons .tmp (.cons .tmp (.cons .tmp .nil))) rfl rfl
  have h4 : l.length = 2 := by
    have := h
    simp at this
    omega
  obtain ⟨l0, l1, rfl⟩ : ∃ l0 l1, l = [l0, l1] := by
    match l, h4 with
    | [a, b], _ => exact ⟨a, b, rfl⟩
  have g0 : nth [l0, l1] 0 = l0 := rfl
  have g1 : nth [l0, l1] 1 = l1 := rfl
  rw [g1] at hlk
  ((first|refine rG Γ hm ?_|refine rD Γ hm (by kernel_rfl) ?_);(conv=>whnf);repeat((first|refine aF ?_|refine aT ?_);(first|refine rG Γ hm ?_|refine rD Γ hm (by kernel_rfl) ?_);conv=>whnf))
  refine ⟨rfl, by decide, by simp, ?_⟩
  ((conv=>whnf);repeat((first|refine aF ?_|refine aT ?_);(first|refine rG Γ hm ?_|refine rD Γ hm (by kernel_rfl) ?_);conv=>whnf))
  refine ⟨fun h => ?_, fun h => ?_⟩
  · have h5 : (l0 == tTo) = false := by simpa using h
    rw [if_neg (fun e => by have := e.2.2.1; simp [beginB, g0, h5] at this)] at hlk
    subst hlk
    ((first|refine rG Γ hm ?_|refine rD Γ hm (by kernel_rfl) ?_);(conv=>whnf);repeat((first|refine aF ?_|refine aT ?_);(first|refine rG Γ hm ?_|refine rD Γ hm (by kernel_rfl) ?_);conv=>whnf))
    exact done0 rfl (.cons .tmp (.cons .tmp (.cons .tmp .nil))) rfl rfl
  have h5 : (l0 == tTo) = true := by simpa using h
  have hbg : beginB n [f0, f1, f2] [l0, l1] = (hostB n (portI n f1) && hostB n (portI n l1) && decide (0 ≤ domTextI n f2) && !(portI n f1 == portI n l1) && inB (membersT n (domTextI n f2)) (portI n f1)) := by
    rw [beginB, e0, e1, e2, g0, g1, h3, h5]
    simp
  rw [hbg] at hlk
  clear hbg
  have p1 := checkerPortS n hn hnm hb 0 false f1
  have p2 := checkerPortS n hn hnm hb 0 false l1
  have p3 := checkerDomainS n hn hnm 0 false f2
  have hp1 := e_port_lt (n := n) (s := f1)
  have hp2 := e_port_lt (n := n) (s := l1)
  have hin0 : ¬ domTextI n f2 < 0 → InDoms n (domTextI n f2) := fun h => domTextI_in h
  generalize portI n f1 = from_ at *
  generalize portI n l1 = to at *
  generalize domTextI n f2 = at0 at *
  have p4 := checkerHostS n at0 false from_ (by omega)
  have p5 := checkerHostS n at0 false to (by omega)
  have p6 := checkerMemberS n hn at0 false from_ at0
  ((first|refine rG Γ hm ?_|refine rD Γ hm (by kernel_rfl) ?_);(conv=>whnf);repeat((first|refine aF ?_|refine aT ?_);(first|refine rG Γ hm ?_|refine rD Γ hm (by kernel_rfl) ?_);conv=>whnf))
  refine ⟨rfl, by decide, by simp, ?_⟩
  ((conv=>whnf);repeat((first|refine aF ?_|refine aT ?_);(first|refine rG Γ hm ?_|refine rD Γ hm (by kernel_rfl) ?_);conv=>whnf))
  refine callDK [22] p1 F30 rfl (.cons (.box rfl rfl rfl rfl) (.cons (.refl _) .nil)) rfl (by kernel_rfl) rfl ?_
  ((first|refine rG Γ hm ?_|refine rD Γ hm (by kernel_rfl) ?_);(conv=>whnf);repeat((first|refine aF ?_|refine aT ?_);(first|refine rG Γ hm ?_|refine rD Γ hm (by kernel_rfl) ?_);conv=>whnf))
  refine ⟨rfl, by decide, by simp, ?_⟩
  ((conv=>whnf);repeat((first|refine aF ?_|refine aT ?_);(first|refine rG Γ hm ?_|refine rD Γ hm (by kernel_rfl) ?_);conv=>whnf))
  refine callDK [22] p2 F30 rfl (.cons (.box rfl rfl rfl rfl) (.cons (.refl _) .nil)) rfl (by kernel_rfl) rfl ?_
  ((first|refine rG Γ hm ?_|refine rD Γ hm (by kernel_rfl) ?_);(conv=>whnf);repeat((first|refine aF ?_|refine aT ?_);(first|refine rG Γ hm ?_|refine rD Γ hm (by kernel_rfl) ?_);conv=>whnf))
  refine ⟨rfl, by decide, by simp, ?_⟩
  ((conv=>whnf);repeat((first|refine aF ?_|refine aT ?_);(first|refine rG Γ hm ?_|refine rD Γ hm (by kernel_rfl) ?_);conv=>whnf))
  refine callDK [22] p3 F31 rfl (.cons (.box rfl rfl rfl rfl) (.cons (.refl _) .nil)) rfl (by kernel_rfl) rfl ?_
  ((first|refine rG Γ hm ?_|refine rD Γ hm (by kernel_rfl) ?_);(conv=>whnf);repeat((first|refine aF ?_|refine aT ?_);(first|refine rG Γ hm ?_|refine rD Γ hm (by kernel_rfl) ?_);conv=>whnf))
  refine ⟨(by kernel_rfl), ?_⟩
  ((conv=>whnf);repeat((first|refine aF ?_|refine aT ?_);(first|refine rG Γ hm ?_|refine rD Γ hm (by kernel_rfl) ?_);conv=>whnf))
  refine callK [22] p4 F32 rfl (.cons (.box rfl rfl rfl rfl) (.cons (.refl _) .nil)) rfl rfl rfl ?_
  generalize hostB n from_ = b1 at *
  cases b1
  · skip
    rw [if_neg (fun e => by have := e.2.2.1; simp [] at this)] at hlk
    subst hlk
    ((first|refine rG Γ hm ?_|refine rD Γ hm (by kernel_rfl) ?_);(conv=>whnf);repeat((first|refine aF ?_|refine aT ?_);(first|refine rG Γ hm ?_|refine rD Γ hm (by kernel_rfl) ?_);conv=>whnf))
    exact done0 rfl (.cons .tmp (.cons .tmp (.cons .tmp .nil))) rfl rfl
  ((first|refine rG Γ hm ?_|refine rD Γ hm (by kernel_rfl) ?_);(conv=>whnf);repeat((first|refine aF ?_|refine aT ?_);(first|refine rG Γ hm ?_|refine rD Γ hm (by kernel_rfl) ?_);conv=>whnf))
  refine callK [22] p5 F32 rfl (.cons (.box rfl rfl rfl rfl) (.cons (.refl _) .nil)) rfl rfl rfl ?_
  generalize hostB n to = b2 at *
  cases b2
  · skip
    rw [if_neg (fun e => by have := e.2.2.1; simp [] at this)] at hlk
    subst hlk
    ((first|refine rG Γ hm ?_|refine rD Γ hm (by kernel_rfl) ?_);(conv=>whnf);repeat((first|refine aF ?_|refine aT ?_);(first|refine rG Γ hm ?_|refine rD Γ hm (by kernel_rfl) ?_);conv=>whnf))
    exact done0 rfl (.cons .tmp (.cons .tmp (.cons .tmp .nil))) rfl rfl
  ((first|refine rG Γ hm ?_|refine rD Γ hm (by kernel_rfl) ?_);(conv=>whnf);repeat((first|refine aF ?_|refine aT ?_);(first|refine rG Γ hm ?_|refine rD Γ hm (by kernel_rfl) ?_);conv=>whnf))
  refine ⟨fun h => ?_, fun h => ?_⟩
  · have h6 : ¬ 0 ≤ at0 := by have := of_decide_eq_true h; omega
    rw [if_neg (fun e => by have := e.2.2.1; simp [h6] at this)] at hlk
    subst hlk
    ((first|refine rG Γ hm ?_|refine rD Γ hm (by kernel_rfl) ?_);(conv=>whnf);repeat((first|refine aF ?_|refine aT ?_);(first|refine rG Γ hm ?_|refine rD Γ hm (by kernel_rfl) ?_);conv=>whnf))
    exact done0 rfl (.cons .tmp (.cons .tmp (.cons .tmp .nil))) rfl rfl
  have h6 : ¬ at0 < 0 := of_decide_eq_false h
  have hin := hin0 h6
  ((first|refine rG Γ hm ?_|refine rD Γ hm (by kernel_rfl) ?_);(conv=>whnf);repeat((first|refine aF ?_|refine aT ?_);(first|refine rG Γ hm ?_|refine rD Γ hm (by kernel_rfl) ?_);conv=>whnf))
  refine ⟨fun h => ?_, fun h => ?_⟩
  · have h7 : (from_ == to) = true := h
    rw [if_neg (fun e => by have := e.2.2.1; simp [h7] at this)] at hlk
    subst hlk
    ((first|refine rG Γ hm ?_|refine rD Γ hm (by kernel_rfl) ?_);(conv=>whnf);repeat((first|refine aF ?_|refine aT ?_);(first|refine rG Γ hm ?_|refine rD Γ hm (by kernel_rfl) ?_);conv=>whnf))
    exact done0 rfl (.cons .tmp (.cons .tmp (.cons .tmp .nil))) rfl rfl
  have h7 : (from_ == to) = false := h
  ((first|refine rG Γ hm ?_|refine rD Γ hm (by kernel_rfl) ?_);(conv=>whnf);repeat((first|refine aF ?_|refine aT ?_);(first|refine rG Γ hm ?_|refine rD Γ hm (by kernel_rfl) ?_);conv=>whnf))
  refine callK [22] p6 F33 rfl (.cons (.box rfl rfl rfl rfl) (.cons (.refl _) (.cons (.refl _) .nil))) rfl rfl rfl ?_
  generalize inB (membersT n at0) from_ = b3 at *
  cases b3
  · skip
    rw [if_neg (fun e => by have := e.2.2.1; simp [] at this)] at hlk
    subst hlk
    ((first|refine rG Γ hm ?_|refine rD Γ hm (by kernel_rfl) ?_);(conv=>whnf);repeat((first|refine aF ?_|refine aT ?_);(first|refine rG Γ hm ?_|refine rD Γ hm (by kernel_rfl) ?_);conv=>whnf))
    exact done0 rfl (.cons .tmp (.cons .tmp (.cons .tmp .nil))) rfl rfl
  have hbg : (true && true && decide (0 ≤ at0) && !(from_ == to) && true) = true := by rw [h7]; simp; omega
  simp only [hbg, hb, true_and, h1] at hlk
  ((first|refine rG Γ hm ?_|refine rD Γ hm (by kernel_rfl) ?_);(conv=>whnf);repeat((first|refine aF ?_|refine aT ?_);(first|refine rG Γ hm ?_|refine rD Γ hm (by kernel_rfl) ?_);conv=>whnf))
  refine ⟨by unfold I64; omega, ?_⟩
  ((conv=>whnf);repeat((first|refine aF ?_|refine aT ?_);(first|refine rG Γ hm ?_|refine rD Γ hm (by kernel_rfl) ?_);conv=>whnf))
  refine stepOp (good_slice_sl (lo := 1) (hi := rows.length - 1) Γ.toTy rfl rfl rfl rfl (.inr ⟨_, _, rfl, rfl⟩) (.inr ⟨_, _, rfl, congrArg (fun z => SV.val (.int .i64 z)) (by omega)⟩) (by omega) (by omega)) rfl rfl ?_
  rw [hmid]
  ((first|refine rG Γ hm ?_|refine rD Γ hm (by kernel_rfl) ?_);(conv=>whnf);repeat((first|refine aF ?_|refine aT ?_);(first|refine rG Γ hm ?_|refine rD Γ hm (by kernel_rfl) ?_);conv=>whnf))
  have hS0 : goR n rd (mid.take 0) (true, at0, false) = (true, at0, false) := rfl
  have hsc : ∀ (j : Nat) (hj : j < mid.length), (goR n rd (mid.take j) (true, at0, false)).1 = true →
      goR n rd (mid.take (j + 1)) (true, at0, false) = stepR n (goR n rd (mid.take j) (true, at0, false)).2.1 (goR n rd (mid.take j) (true, at0, false)).2.2 rd (splitT 32 (mid[j]'hj)) := fun j hj h => by
    rw [List.take_add_one, List.getElem?_eq_getElem hj]
    exact goR_snoc n rd _ _ _ h
  have hS1 : ∀ j, InDoms n (goR n rd (mid.take j) (true, at0, false)).2.1 := fun j => goR_in n rd _ _ hin
  have hSe : goR n rd (mid.take mid.length) (true, at0, false) = goR n rd mid (true, at0, false) := by rw [List.take_length]
  have hSf : ∀ j, (goR n rd (mid.take j) (true, at0, false)).1 = false → (goR n rd mid (true, at0, false)).1 = false := fun j h => goR_fail h
  have hml : mid.length ≤ rows.length := by rw [← hmid]; simp; omega
  have hmem : ∀ x ∈ mid, x ∈ rows := fun x hx => by
    rw [← hmid] at hx
    exact List.mem_of_mem_take (List.mem_of_mem_drop hx)
  have hmsz : ∀ (j : Nat) (hj : j < mid.length), (mid[j]'hj).size < 100000 := fun j hj => by
    refine hsz _ (hmem _ (List.getElem_mem hj))
  generalize goR n rd mid (true, at0, false) = Z at *
  generalize (fun j => goR n rd (mid.take j) (true, at0, false)) = S at *
  refine G_countP mid.length (fun j => (goR n rd (mid.take j) (true, at0, false)).1 = true) (fun j => [(4, intSV from_), (5, intSV to), (7, .ptr 22 0), (108, .sl 1 strSV mid), (109, intSV mid.length), (110, intSV j)]) (fun j => [(22, .box (chkL n (goR n rd (mid.take j) (true, at0, false)).2.1 (goR n rd (mid.take j) (true, at0, false)).2.2))]) [] rfl
    ⟨⟨rfl, rfl, rfl, rfl, rfl, rfl, rfl, rfl, rfl, rfl, rfl, rfl, trivial⟩, ⟨.inl rfl, rfl, trivial⟩, rfl, rfl⟩ ?_
  intro j hj hI
  have hsj := hsc j
  have hij := hS1 j
  have hfj := hSf (j + 1)
  generalize hSj : goR n rd (mid.take j) (true, at0, false) = Sj at *
  generalize hSk : goR n rd (mid.take (j + 1)) (true, at0, false) = Sk at *
  obtain ⟨_, aj, bj⟩ := Sj
  dsimp only at hI hij hsj ⊢
  subst hI
  ((first|refine rG Γ hm ?_|refine rD Γ hm (by kernel_rfl) ?_);(conv=>whnf);repeat((first|refine aF ?_|refine aT ?_);(first|refine rG Γ hm ?_|refine rD Γ hm (by kernel_rfl) ?_);conv=>whnf))
  refine ⟨fun h => ?_, fun h => ?_⟩
  · have hlt : j < mid.length := by simpa using h
    have hsk := hsj hlt rfl
    have hm0 : ((j : Nat) : Int).toNat < mid.length := by simpa using hlt
    have q := checkerStepS n hn hnm hb aj bj (mid[j]'hlt) rd (hmsz j hlt) hij (fun s hs => hrd s (Nat.lt_of_le_of_lt (splitT_mem_size hs) (hmsz j hlt)))
    rw [← hsk] at q
    ((first|refine rG Γ hm ?_|refine rD Γ hm (by kernel_rfl) ?_);(conv=>whnf);repeat((first|refine aF ?_|refine aT ?_);(first|refine rG Γ hm ?_|refine rD Γ hm (by kernel_rfl) ?_);conv=>whnf))
    refine ⟨rfl, by omega, hm0, ?_⟩
    ((conv=>whnf);repeat((first|refine aF ?_|refine aT ?_);(first|refine rG Γ hm ?_|refine rD Γ hm (by kernel_rfl) ?_);conv=>whnf))
    refine stepOp (good_call [(0, 22)] rfl F34 q rfl ⟨rfl, trivial⟩ rfl ⟨.inl rfl, trivial⟩) rfl rfl ?_
    obtain ⟨bk, ak, ck⟩ := Sk
    cases bk
    · have := hfj rfl
      rw [if_neg (fun e => by rw [this] at e; cases e.1)] at hlk
      subst hlk
      ((first|refine rG Γ hm ?_|refine rD Γ hm (by kernel_rfl) ?_);(conv=>whnf);repeat((first|refine aF ?_|refine aT ?_);(first|refine rG Γ hm ?_|refine rD Γ hm (by kernel_rfl) ?_);conv=>whnf))
      exact done0 rfl (.cons .tmp (.cons .tmp (.cons .tmp .nil))) rfl rfl
    ((first|refine rG Γ hm ?_|refine rD Γ hm (by kernel_rfl) ?_);(conv=>whnf);repeat((first|refine aF ?_|refine aT ?_);(first|refine rG Γ hm ?_|refine rD Γ hm (by kernel_rfl) ?_);conv=>whnf))
    refine ⟨by unfold I64; omega, ?_⟩
    ((conv=>whnf);repeat((first|refine aF ?_|refine aT ?_);(first|refine rG Γ hm ?_|refine rD Γ hm (by kernel_rfl) ?_);conv=>whnf))
    refine G_nextP [] (by rw [hSj]) hlt (by rw [hSk]) ⟨⟨rfl, rfl, rfl, rfl, rfl, rfl, rfl, rfl, rfl, rfl, rfl, rfl, trivial⟩, ⟨.inl (by rw [hSk]; rfl), rfl, trivial⟩, rfl, rfl⟩
  · have : j = mid.length := by have := of_decide_eq_false h; omega
    subst this
    have hz := hSe.symm.trans hSj
    subst hz
    have p7 := checkerMemberS n hn aj bj to aj
    generalize inB (membersT n aj) to = b4 at *
    ((first|refine rG Γ hm ?_|refine rD Γ hm (by kernel_rfl) ?_);(conv=>whnf);repeat((first|refine aF ?_|refine aT ?_);(first|refine rG Γ hm ?_|refine rD Γ hm (by kernel_rfl) ?_);conv=>whnf))
    refine callK [22] p7 F33 rfl (.cons (.box rfl rfl rfl rfl) (.cons (.refl _) (.cons (.refl _) .nil))) rfl rfl rfl ?_
    cases b4
    · rw [if_neg (fun e => by cases e.2)] at hlk
      subst hlk
      ((first|refine rG Γ hm ?_|refine rD Γ hm (by kernel_rfl) ?_);(conv=>whnf);repeat((first|refine aF ?_|refine aT ?_);(first|refine rG Γ hm ?_|refine rD Γ hm (by kernel_rfl) ?_);conv=>whnf))
      exact done0 rfl (.cons .tmp (.cons .tmp (.cons .tmp .nil))) rfl rfl
    · rw [if_pos ⟨rfl, rfl⟩] at hlk
      subst hlk
      ((first|refine rG Γ hm ?_|refine rD Γ hm (by kernel_rfl) ?_);(conv=>whnf);repeat((first|refine aF ?_|refine aT ?_);(first|refine rG Γ hm ?_|refine rD Γ hm (by kernel_rfl) ?_);conv=>whnf))
      exact done0 rfl (.cons .tmp (.cons .tmp (.cons .tmp .nil))) rfl rfl

end Go.Sy.YtlfopmhekhifoaaGreatDoor
