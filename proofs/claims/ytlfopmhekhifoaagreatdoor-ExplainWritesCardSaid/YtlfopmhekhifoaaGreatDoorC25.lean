/-
  The law: ExplainRefuses.
-/
import Derived.Test.YtlfopmhekhifoaaGreatDoorC24
import Derived.Test.YtlfopmhekhifoaaGreatDoorC9

namespace Go.Sy.YtlfopmhekhifoaaGreatDoor
open Go.Proofs
-- SIMP: placeB

attribute [local irreducible] Go.Sy.G Go.Sy.DR
set_option maxRecDepth 20000
set_option maxHeartbeats 8000000

def longDev (d : Device) : Bool := decide (300 < d.name.size)
def longPort (p : Port) : Bool := decide (300 < p.name.size)
def longRow (x : ByteArray) : Bool := decide (1500 < x.size)

def great44B (n : Net) (rows : List ByteArray) : Bool :=
  greatB n || decide (100 < rows.length) || n.devices.any longDev || n.ports.any longPort || rows.any longRow

theorem any_upto {α : Type} {p : α → Bool} {l : List α} {j : Nat} (hI : Upto (fun _ x => !(p x)) l j) (hj : l.length ≤ j) : l.any p = false := by
  rw [List.any_eq_false]
  intro x hx
  obtain ⟨i, hi, rfl⟩ := List.mem_iff_getElem.1 hx
  have := hI i hi (by omega)
  simpa using this
theorem any_at {α : Type} {p : α → Bool} {l : List α} {j : Nat} (hj : j < l.length) (h : p l[j] = true) : l.any p = true := List.any_eq_true.2 ⟨_, List.getElem_mem hj, h⟩

theorem great44S (n : Net) (rows : List ByteArray) : Sy.Spec Tryz.prog 5 [netSV n, .sl 1 strSV rows] [] (boolSV (great44B n rows)) [] := contract Γ hm 100 F5 Tryz.ntmps5 rfl fun F hF => by
  have hg := greatS n
  have hlk := great44B.eq_1 n rows
  generalize great44B n rows = res at *
  ((conv=>whnf);repeat((first|refine aF ?_|refine aT ?_);(first|refine rG Γ hm ?_|refine rD Γ hm (by kernel_rfl) ?_);conv=>whnf))
  refine G_box 2 8 (netSV n) rfl rfl rfl ?_
  ((first|refine rG Γ hm ?_|refine rD Γ hm (by kernel_rfl) ?_);(conv=>whnf);repeat((first|refine aF ?_|refine aT ?_);(first|refine rG Γ hm ?_|refine rD Γ hm (by kernel_rfl) ?_);conv=>whnf))
  refine call0 hg F14 rfl rfl rfl rfl rfl ?_
  cases hgb : greatB n
  rotate_left
  · rw [hgb, Bool.true_or, Bool.true_or, Bool.true_or, Bool.true_or] at hlk
    subst hlk
    ((first|refine rG Γ hm ?_|refine rD Γ hm (by kernel_rfl) ?_);(conv=>whnf);repeat((first|refine aF ?_|refine aT ?_);(first|refine rG Γ hm ?_|refine rD Γ hm (by kernel_rfl) ?_);conv=>whnf))
    exact done0 rfl (.cons .tmp .nil) rfl rfl
  have hfin := fin_of_great hgb
  rw [hgb, Bool.false_or] at hlk
  ((first|refine rG Γ hm ?_|refine rD Γ hm (by kernel_rfl) ?_);(conv=>whnf);repeat((first|refine aF ?_|refine aT ?_);(first|refine rG Γ hm ?_|refine rD Γ hm (by kernel_rfl) ?_);conv=>whnf))
  refine ⟨fun h => ?_, fun h => ?_⟩
  · rw [decide_eq_true (show 100 < rows.length by have := of_decide_eq_true h; omega), Bool.true_or, Bool.true_or, Bool.true_or] at hlk
    subst hlk
    ((first|refine rG Γ hm ?_|refine rD Γ hm (by kernel_rfl) ?_);(conv=>whnf);repeat((first|refine aF ?_|refine aT ?_);(first|refine rG Γ hm ?_|refine rD Γ hm (by kernel_rfl) ?_);conv=>whnf))
    exact done0 rfl (.cons .tmp .nil) rfl rfl
  have hrl : rows.length ≤ 100 := by have := of_decide_eq_false h; omega
  rw [decide_eq_false (show ¬ 100 < rows.length by omega), Bool.false_or] at hlk
  have h1 := hfin.devices
  have h2 := hfin.ports
  unfold Short at h1 h2
  ((first|refine rG Γ hm ?_|refine rD Γ hm (by kernel_rfl) ?_);(conv=>whnf);repeat((first|refine aF ?_|refine aT ?_);(first|refine rG Γ hm ?_|refine rD Γ hm (by kernel_rfl) ?_);conv=>whnf))
  refine G_countP n.devices.length (fun j => Upto (fun _ d => !(longDev d)) n.devices j) (fun j => [(1, .sl 1 strSV rows), (2, .ref 8 (netSV n) 0), (5, intSV j)]) (fun _ => []) [] (upto_zero _ _) ⟨⟨rfl, rfl, rfl, rfl, rfl, rfl, trivial⟩, trivial, rfl, rfl⟩ ?_
  intro j hj hI
  ((first|refine rG Γ hm ?_|refine rD Γ hm (by kernel_rfl) ?_);(conv=>whnf);repeat((first|refine aF ?_|refine aT ?_);(first|refine rG Γ hm ?_|refine rD Γ hm (by kernel_rfl) ?_);conv=>whnf))
  refine ⟨fun h => ?_, fun h => ?_⟩
  · have hlt : j < n.devices.length := by simpa using h
    have hj0 : ((j : Nat) : Int).toNat < n.devices.length := by simpa using hlt
    have hld : longDev n.devices[j] = decide (300 < (n.devices[((j : Nat) : Int).toNat]'hj0).name.size) := rfl
    ((first|refine rG Γ hm ?_|refine rD Γ hm (by kernel_rfl) ?_);(conv=>whnf);repeat((first|refine aF ?_|refine aT ?_);(first|refine rG Γ hm ?_|refine rD Γ hm (by kernel_rfl) ?_);conv=>whnf))
    refine ⟨rfl, by omega, hj0, ?_⟩
    ((conv=>whnf);repeat((first|refine aF ?_|refine aT ?_);(first|refine rG Γ hm ?_|refine rD Γ hm (by kernel_rfl) ?_);conv=>whnf))
    refine ⟨fun h => ?_, fun h => ?_⟩
    · rw [any_at hlt (hld.trans (decide_eq_true (by have := of_decide_eq_true h; omega))), Bool.true_or, Bool.true_or] at hlk
      subst hlk
      ((first|refine rG Γ hm ?_|refine rD Γ hm (by kernel_rfl) ?_);(conv=>whnf);repeat((first|refine aF ?_|refine aT ?_);(first|refine rG Γ hm ?_|refine rD Γ hm (by kernel_rfl) ?_);conv=>whnf))
      exact done0 rfl (.cons .tmp .nil) rfl rfl
    · have hno : (!(longDev n.devices[j])) = true := by rw [hld, decide_eq_false (by have := of_decide_eq_false h; omega)]; rfl
      ((first|refine rG Γ hm ?_|refine rD Γ hm (by kernel_rfl) ?_);(conv=>whnf);repeat((first|refine aF ?_|refine aT ?_);(first|refine rG Γ hm ?_|refine rD Γ hm (by kernel_rfl) ?_);conv=>whnf))
      refine ⟨by unfold I64; omega, ?_⟩
      ((conv=>whnf);repeat((first|refine aF ?_|refine aT ?_);(first|refine rG Γ hm ?_|refine rD Γ hm (by kernel_rfl) ?_);conv=>whnf))
      exact G_nextP [] hI hlt (upto_next hI hlt hno) ⟨⟨rfl, rfl, rfl, rfl, rfl, rfl, trivial⟩, trivial, rfl, rfl⟩
  have : j = n.devices.length := by have := of_decide_eq_false h; omega
  subst this
  rw [any_upto hI (Nat.le_refl _), Bool.false_or] at hlk
  clear hI
  ((first|refine rG Γ hm ?_|refine rD Γ hm (by kernel_rfl) ?_);(conv=>whnf);repeat((first|refine aF ?_|refine aT ?_);(first|refine rG Γ hm ?_|refine rD Γ hm (by kernel_rfl) ?_);conv=>whnf))
  refine G_countP n.ports.length (fun j => Upto (fun _ d => !(longPort d)) n.ports j) (fun j => [(1, .sl 1 strSV rows), (2, .ref 8 (netSV n) 0), (6, intSV j)]) (fun _ => []) [] (upto_zero _ _) ⟨⟨rfl, rfl, rfl, rfl, rfl, rfl, trivial⟩, trivial, rfl, rfl⟩ ?_
  intro j hj hI
  ((first|refine rG Γ hm ?_|refine rD Γ hm (by kernel_rfl) ?_);(conv=>whnf);repeat((first|refine aF ?_|refine aT ?_);(first|refine rG Γ hm ?_|refine rD Γ hm (by kernel_rfl) ?_);conv=>whnf))
  refine ⟨fun h => ?_, fun h => ?_⟩
  · have hlt : j < n.ports.length := by simpa using h
    have hj0 : ((j : Nat) : Int).toNat < n.ports.length := by simpa using hlt
    have hld : longPort n.ports[j] = decide (300 < (n.ports[((j : Nat) : Int).toNat]'hj0).name.size) := rfl
    ((first|refine rG Γ hm ?_|refine rD Γ hm (by kernel_rfl) ?_);(conv=>whnf);repeat((first|refine aF ?_|refine aT ?_);(first|refine rG Γ hm ?_|refine rD Γ hm (by kernel_rfl) ?_);conv=>whnf))
    refine ⟨rfl, by omega, hj0, ?_⟩
    ((conv=>whnf);repeat((first|refine aF ?_|refine aT ?_);(first|refine rG Γ hm ?_|refine rD Γ hm (by kernel_rfl) ?_);conv=>whnf))
    refine ⟨fun h => ?_, fun h => ?_⟩
    · rw [any_at hlt (hld.trans (decide_eq_true (by have := of_decide_eq_true h; omega))), Bool.true_or] at hlk
      subst hlk
      ((first|refine rG Γ hm ?_|refine rD Γ hm (by kernel_rfl) ?_);(conv=>whnf);repeat((first|refine aF ?_|refine aT ?_);(first|refine rG Γ hm ?_|refine rD Γ hm (by kernel_rfl) ?_);conv=>whnf))
      exact done0 rfl (.cons .tmp .nil) rfl rfl
    · have hno : (!(longPort n.ports[j])) = true := by rw [hld, decide_eq_false (by have := of_decide_eq_false h; omega)]; rfl
      ((first|refine rG Γ hm ?_|refine rD Γ hm (by kernel_rfl) ?_);(conv=>whnf);repeat((first|refine aF ?_|refine aT ?_);(first|refine rG Γ hm ?_|refine rD Γ hm (by kernel_rfl) ?_);conv=>whnf))
      refine ⟨by unfold I64; omega, ?_⟩
      ((conv=>whnf);repeat((first|refine aF ?_|refine aT ?_);(first|refine rG Γ hm ?_|refine rD Γ hm (by kernel_rfl) ?_);conv=>whnf))
      exact G_nextP [] hI hlt (upto_next hI hlt hno) ⟨⟨rfl, rfl, rfl, rfl, rfl, rfl, trivial⟩, trivial, rfl, rfl⟩
  have : j = n.ports.length := by have := of_decide_eq_false h; omega
  subst this
  rw [any_upto hI (Nat.le_refl _), Bool.false_or] at hlk
  clear hI
  ((first|refine rG Γ hm ?_|refine rD Γ hm (by kernel_rfl) ?_);(conv=>whnf);repeat((first|refine aF ?_|refine aT ?_);(first|refine rG Γ hm ?_|refine rD Γ hm (by kernel_rfl) ?_);conv=>whnf))
  refine G_countP rows.length (fun j => Upto (fun _ d => !(longRow d)) rows j) (fun j => [(1, .sl 1 strSV rows), (7, intSV j)]) (fun _ => []) [] (upto_zero _ _) ⟨⟨rfl, rfl, rfl, rfl, trivial⟩, trivial, rfl, rfl⟩ ?_
  intro j hj hI
  ((first|refine rG Γ hm ?_|refine rD Γ hm (by kernel_rfl) ?_);(conv=>whnf);repeat((first|refine aF ?_|refine aT ?_);(first|refine rG Γ hm ?_|refine rD Γ hm (by kernel_rfl) ?_);conv=>whnf))
  refine ⟨fun h => ?_, fun h => ?_⟩
  · have hlt : j < rows.length := by simpa using h
    have hj0 : ((j : Nat) : Int).toNat < rows.length := by simpa using hlt
    have hld : longRow rows[j] = decide (1500 < (rows[((j : Nat) : Int).toNat]'hj0).size) := rfl
    ((first|refine rG Γ hm ?_|refine rD Γ hm (by kernel_rfl) ?_);(conv=>whnf);repeat((first|refine aF ?_|refine aT ?_);(first|refine rG Γ hm ?_|refine rD Γ hm (by kernel_rfl) ?_);conv=>whnf))
    refine ⟨rfl, by omega, hj0, ?_⟩
    ((conv=>whnf);repeat((first|refine aF ?_|refine aT ?_);(first|refine rG Γ hm ?_|refine rD Γ hm (by kernel_rfl) ?_);conv=>whnf))
    refine ⟨fun h => ?_, fun h => ?_⟩
    · rw [any_at hlt (hld.trans (decide_eq_true (by have := of_decide_eq_true h; omega)))] at hlk
      subst hlk
      ((first|refine rG Γ hm ?_|refine rD Γ hm (by kernel_rfl) ?_);(conv=>whnf);repeat((first|refine aF ?_|refine aT ?_);(first|refine rG Γ hm ?_|refine rD Γ hm (by kernel_rfl) ?_);conv=>whnf))
      exact done0 rfl (.cons .tmp .nil) rfl rfl
    · have hno : (!(longRow rows[j])) = true := by rw [hld, decide_eq_false (by have := of_decide_eq_false h; omega)]; rfl
      ((first|refine rG Γ hm ?_|refine rD Γ hm (by kernel_rfl) ?_);(conv=>whnf);repeat((first|refine aF ?_|refine aT ?_);(first|refine rG Γ hm ?_|refine rD Γ hm (by kernel_rfl) ?_);conv=>whnf))
      refine ⟨by unfold I64; omega, ?_⟩
      ((conv=>whnf);repeat((first|refine aF ?_|refine aT ?_);(first|refine rG Γ hm ?_|refine rD Γ hm (by kernel_rfl) ?_);conv=>whnf))
      exact G_nextP [] hI hlt (upto_next hI hlt hno) ⟨⟨rfl, rfl, rfl, rfl, trivial⟩, trivial, rfl, rfl⟩
  have : j = rows.length := by have := of_decide_eq_false h; omega
  subst this
  rw [any_upto hI (Nat.le_refl _)] at hlk
  subst hlk
  ((first|refine rG Γ hm ?_|refine rD Γ hm (by kernel_rfl) ?_);(conv=>whnf);repeat((first|refine aF ?_|refine aT ?_);(first|refine rG Γ hm ?_|refine rD Γ hm (by kernel_rfl) ?_);conv=>whnf))
  exact done0 rfl (.cons .tmp .nil) rfl rfl

theorem finW : netW.Fin := by
  constructor <;> first | (unfold Short; decide) | (intro x hx; unfold Short; simp only [netW, List.mem_cons, List.not_mem_nil, or_false] at hx; first | (rcases hx with rfl | rfl <;> decide) | (subst hx; decide) | exact hx.elim)
theorem addrsW : Addrs netW := fun x hx => by simp [netW] at hx
theorem namedW : Named netW := by
  refine ⟨fun d hd => ?_, fun p hp => ?_⟩
  · simp only [netW, List.mem_cons, List.not_mem_nil, or_false] at hd
    subst hd
    decide
  · simp only [netW, List.mem_cons, List.not_mem_nil, or_false] at hp
    rcases hp with rfl | rfl <;> decide

theorem works44S : Sy.Spec Tryz.prog 6 [] [] (boolSV true) [] := contract Γ hm 100 F6 Tryz.ntmps6 rfl fun F hF => by
  have q1 := explainWayS netW finW addrsW namedW 0 1
  have q2 := checkS netW finW namedW [rowW1, rowW2] (by unfold Short; decide) (by intro x hx; simp only [List.mem_cons, List.not_mem_nil, or_false] at hx; rcases hx with rfl | rfl <;> decide) readT (fun s hs => addrReadS s hs)
  have q3 := checkS netW finW namedW [] (by unfold Short; decide) (fun x hx => by cases hx) readT (fun s hs => addrReadS s hs)
  rw [explain_W] at q1
  rw [check_W] at q2
  rw [check_W0] at q3
  ((conv=>whnf);repeat((first|refine aF ?_|refine aT ?_);(first|refine rG Γ hm ?_|refine rD Γ hm (by kernel_rfl) ?_);conv=>whnf))
  refine G_retype 11 (e := deviceSV) (l := netW.devices) rfl rfl ?_
  refine G_data 11 rfl ?_
  refine G_retype 14 (e := portNil) (l := netW.ports) rfl rfl ?_
  refine G_recode 14 (e' := portSV) (l' := netW.ports) rfl rfl (fun M w i h1 h2 v hv => ?_) ?_
  · show RdD M w (portSV netW.ports[i]) v
    have hv : RdD M w (portNil netW.ports[i]) v := hv
    refine portNil_rd (netW.ports[i]) ?_ hv
    exact (by decide : ∀ p ∈ netW.ports, p.tagged = []) _ (List.getElem_mem _)
  refine G_data 14 rfl ?_
  refine G_retype 16 (e := domNil) (l := netW.domains) rfl rfl ?_
  refine G_recode 16 (e' := domainSV) (l' := netW.domains) rfl rfl (fun M w i h1 h2 v hv => ?_) ?_
  · show RdD M w (domainSV netW.domains[i]) v
    have hv : RdD M w (domNil netW.domains[i]) v := hv
    refine domNil_rd (netW.domains[i]) ?_ hv
    exact (by decide : ∀ p ∈ netW.domains, p.peers = []) _ (List.getElem_mem _)
  refine G_data 16 rfl ?_
  refine G_vw 19 (netSV netW) (.agg (.cons (.refl _) (.cons (.refl _) (.cons .nil (.cons (.refl _) (.cons .nil (.cons .nil (.cons .nil (.cons .nil .nil))))))))) ?_
  refine call0 q1 F7 rfl rfl rfl rfl rfl ?_
  ((first|refine rG Γ hm ?_|refine rD Γ hm (by kernel_rfl) ?_);(conv=>whnf);repeat((first|refine aF ?_|refine aT ?_);(first|refine rG Γ hm ?_|refine rD Γ hm (by kernel_rfl) ?_);conv=>whnf))
  refine G_vw 24 (netSV netW) (.agg (.cons (.refl _) (.cons (.refl _) (.cons .nil (.cons (.refl _) (.cons .nil (.cons .nil (.cons .nil (.cons .nil .nil))))))))) ?_
  refine call0 q2 F13 rfl rfl rfl rfl rfl ?_
  ((first|refine rG Γ hm ?_|refine rD Γ hm (by kernel_rfl) ?_);(conv=>whnf);repeat((first|refine aF ?_|refine aT ?_);(first|refine rG Γ hm ?_|refine rD Γ hm (by kernel_rfl) ?_);conv=>whnf))
  refine G_vw 31 (netSV netW) (.agg (.cons (.refl _) (.cons (.refl _) (.cons .nil (.cons (.refl _) (.cons .nil (.cons .nil (.cons .nil (.cons .nil .nil))))))))) ?_
  refine stepOp (good_callK [] rfl F13 q3 (.cons (.refl _) (.cons .nil .nil)) rfl rfl) rfl rfl ?_
  ((first|refine rG Γ hm ?_|refine rD Γ hm (by kernel_rfl) ?_);(conv=>whnf);repeat((first|refine aF ?_|refine aT ?_);(first|refine rG Γ hm ?_|refine rD Γ hm (by kernel_rfl) ?_);conv=>whnf))
  repeat (first | (refine ⟨rfl, by decide, by decide, ?_⟩; ((conv=>whnf);repeat((first|refine aF ?_|refine aT ?_);(first|refine rG Γ hm ?_|refine rD Γ hm (by kernel_rfl) ?_);conv=>whnf))) | (refine ⟨fun _ => ?_, fun h => absurd h (by decide)⟩; ((first|refine rG Γ hm ?_|refine rD Γ hm (by kernel_rfl) ?_);(conv=>whnf);repeat((first|refine aF ?_|refine aT ?_);(first|refine rG Γ hm ?_|refine rD Γ hm (by kernel_rfl) ?_);conv=>whnf))) | (refine ⟨fun h => absurd h (by decide), fun _ => ?_⟩; ((first|refine rG Γ hm ?_|refine rD Γ hm (by kernel_rfl) ?_);(conv=>whnf);repeat((first|refine aF ?_|refine aT ?_);(first|refine rG Γ hm ?_|refine rD Γ hm (by kernel_rfl) ?_);conv=>whnf))))
  exact done0 rfl (.cons .tmp .nil) rfl rfl

theorem great44_facts {n : Net} {rows : List ByteArray} (h : great44B n rows = false) : n.Fin ∧ Named n ∧ rows.length ≤ 100 ∧ ∀ x ∈ rows, x.size < 100000 := by
  simp only [great44B, Bool.or_eq_false_iff, decide_eq_false_iff_not] at h
  obtain ⟨⟨⟨⟨h1, h2⟩, h3⟩, h4⟩, h5⟩ := h
  refine ⟨fin_of_great h1, ⟨fun d hd => ?_, fun p hp => ?_⟩, by omega, fun x hx => ?_⟩
  · have := List.any_eq_false.1 h3 d hd
    simp [longDev] at this
    omega
  · have := List.any_eq_false.1 h4 p hp
    simp [longPort] at this
    omega
  · have := List.any_eq_false.1 h5 x hx
    simp [longRow] at this
    omega

theorem explainRefusesS (n : Net) (rows : List ByteArray) : Sy.Spec Tryz.prog 4 [netSV n, .sl 1 strSV rows] [] (boolSV true) [] := contract Γ hm 100 F4 Tryz.ntmps4 rfl fun F hF => by
  have hg := great44S n rows
  ((conv=>whnf);repeat((first|refine aF ?_|refine aT ?_);(first|refine rG Γ hm ?_|refine rD Γ hm (by kernel_rfl) ?_);conv=>whnf))
  refine call0 works44S F6 rfl rfl rfl rfl rfl ?_
  refine G_box 2 8 (netSV n) rfl rfl rfl ?_
  ((first|refine rG Γ hm ?_|refine rD Γ hm (by kernel_rfl) ?_);(conv=>whnf);repeat((first|refine aF ?_|refine aT ?_);(first|refine rG Γ hm ?_|refine rD Γ hm (by kernel_rfl) ?_);conv=>whnf))
  refine call0 hg F5 rfl rfl rfl rfl rfl ?_
  cases hgb : great44B n rows
  rotate_left
  · ((first|refine rG Γ hm ?_|refine rD Γ hm (by kernel_rfl) ?_);(conv=>whnf);repeat((first|refine aF ?_|refine aT ?_);(first|refine rG Γ hm ?_|refine rD Γ hm (by kernel_rfl) ?_);conv=>whnf))
    exact done0 rfl (.cons .tmp .nil) rfl rfl
  obtain ⟨hn, hnm, hrl, hsz⟩ := great44_facts hgb
  have q := fun l hl hs => checkS n hn hnm l hl hs readT (fun s hs => addrReadS s hs)
  have q0 := q rows (by unfold Short; omega) hsz
  have f1 := refuse_first (n := n) (rd := readT) (rows := rows)
  have f2 := refuse_last (n := n) (rd := readT) (rows := rows)
  have f3 := refuse_twice (n := n) (rd := readT) (rows := rows)
  have f4 := refuse_own (n := n) (rd := readT) (rows := rows)
  have f5 := check_facts (n := n) (rd := readT) (rows := rows)
  generalize hc : checkR n readT rows = c at *
  obtain ⟨a, b, ok⟩ := c
  dsimp only at q0 f1 f2 f3 f4 f5
  ((first|refine rG Γ hm ?_|refine rD Γ hm (by kernel_rfl) ?_);(conv=>whnf);repeat((first|refine aF ?_|refine aT ?_);(first|refine rG Γ hm ?_|refine rD Γ hm (by kernel_rfl) ?_);conv=>whnf))
  refine call0 q0 F13 rfl rfl rfl rfl rfl ?_
  cases ok
  · ((first|refine rG Γ hm ?_|refine rD Γ hm (by kernel_rfl) ?_);(conv=>whnf);repeat((first|refine aF ?_|refine aT ?_);(first|refine rG Γ hm ?_|refine rD Γ hm (by kernel_rfl) ?_);conv=>whnf))
    exact done0 rfl (.cons .tmp .nil) rfl rfl
  have f1 := f1 rfl
  have f2 := f2 rfl
  have f3 := f3 rfl
  have f4 := f4 rfl
  have h2 := (f5 rfl).1
  ((first|refine rG Γ hm ?_|refine rD Γ hm (by kernel_rfl) ?_);(conv=>whnf);repeat((first|refine aF ?_|refine aT ?_);(first|refine rG Γ hm ?_|refine rD Γ hm (by kernel_rfl) ?_);conv=>whnf))
  refine ⟨fun h => absurd h (by simp; omega), fun h => ?_⟩
  have q1 := q (rows.drop 1) (by unfold Short; rw [List.length_drop]; omega) (fun x hx => hsz x (List.mem_of_mem_drop hx))
  have q2 := q (rows.take (rows.length - 1)) (by unfold Short; rw [List.length_take]; omega) (fun x hx => hsz x (List.mem_of_mem_take hx))
  have hr0 : (0 : Int).toNat < rows.length := by simp; omega
  have hm0 : nth rows 0 ∈ rows := by rw [nth_eq hr0]; exact List.getElem_mem _
  have q3 := q (nth rows 0 :: rows) (by unfold Short; simp; omega) (fun x hx => by rcases List.mem_cons.1 hx with rfl | hx; exact hsz _ hm0; exact hsz x hx)
  have hps := portT_size hnm a
  have hts : (toBytes (portT n a)).size ≤ 703 := by
    rw [toBytes, ByteArray.size_append]
    show 3 + _ ≤ 703
    omega
  have q4 := q (rows.take (rows.length - 1) ++ [toBytes (portT n a)]) (by unfold Short; simp; omega) (fun x hx => by
    rcases List.mem_append.1 hx with hx | hx
    · exact hsz x (List.mem_of_mem_take hx)
    · rw [List.mem_singleton] at hx
      subst hx
      omega)
  have q5 := explainPortS n hn hnm a
  rw [nth_eq hr0] at q3 f3
  clear q q0
  generalize checkR n readT (rows.drop 1) = c1 at *
  generalize checkR n readT (rows.take (rows.length - 1)) = c2 at *
  generalize checkR n readT (rows.take (rows.length - 1) ++ [toBytes (portT n a)]) = c4 at *
  obtain ⟨r0, hr⟩ : ∃ r0, rows[(0 : Int).toNat]'hr0 = r0 := ⟨_, rfl⟩
  rw [hr] at q3 f3
  generalize checkR n readT (r0 :: rows) = c3 at *
  obtain ⟨_, _, _⟩ := c1
  obtain ⟨_, _, _⟩ := c2
  obtain ⟨_, _, _⟩ := c3
  obtain ⟨_, _, _⟩ := c4
  dsimp only at f1 f2 f3 f4 q1 q2 q3 q4
  subst f1 f2 f3 f4
  ((first|refine rG Γ hm ?_|refine rD Γ hm (by kernel_rfl) ?_);(conv=>whnf);repeat((first|refine aF ?_|refine aT ?_);(first|refine rG Γ hm ?_|refine rD Γ hm (by kernel_rfl) ?_);conv=>whnf))
  refine stepD (good_slice_sl (lo := 1) (hi := rows.length) Γ.toTy rfl rfl rfl rfl (.inr ⟨_, _, rfl, rfl⟩) (.inl ⟨rfl, rfl⟩) (by omega) (Nat.le_refl _)) (by kernel_rfl) rfl ?_
  rw [show rows.drop 1 = (rows.take rows.length).drop 1 by rw [List.take_length]] at q1
  have hi2 : ((rows.length : Int) - 1) = ((rows.length - 1 : Nat) : Int) := by omega
  ((first|refine rG Γ hm ?_|refine rD Γ hm (by kernel_rfl) ?_);(conv=>whnf);repeat((first|refine aF ?_|refine aT ?_);(first|refine rG Γ hm ?_|refine rD Γ hm (by kernel_rfl) ?_);conv=>whnf))
  refine callD0 q1 F13 rfl rfl rfl (by kernel_rfl) rfl ?_
  ((first|refine rG Γ hm ?_|refine rD Γ hm (by kernel_rfl) ?_);(conv=>whnf);repeat((first|refine aF ?_|refine aT ?_);(first|refine rG Γ hm ?_|refine rD Γ hm (by kernel_rfl) ?_);conv=>whnf))
  refine ⟨(by kernel_rfl), ?_⟩
  ((conv=>whnf);repeat((first|refine aF ?_|refine aT ?_);(first|refine rG Γ hm ?_|refine rD Γ hm (by kernel_rfl) ?_);conv=>whnf))
  refine ⟨by unfold I64; omega, ?_⟩
  ((conv=>whnf);repeat((first|refine aF ?_|refine aT ?_);(first|refine rG Γ hm ?_|refine rD Γ hm (by kernel_rfl) ?_);conv=>whnf))
  refine stepD (good_slice_sl (lo := 0) (hi := rows.length - 1) Γ.toTy rfl rfl rfl rfl (.inl ⟨rfl, rfl⟩) (.inr ⟨_, _, rfl, congrArg (fun z => SV.val (.int .i64 z)) hi2⟩) (by omega) (by omega)) (by kernel_rfl) rfl ?_
  ((first|refine rG Γ hm ?_|refine rD Γ hm (by kernel_rfl) ?_);(conv=>whnf);repeat((first|refine aF ?_|refine aT ?_);(first|refine rG Γ hm ?_|refine rD Γ hm (by kernel_rfl) ?_);conv=>whnf))
  refine callD0 q2 F13 rfl rfl rfl (by kernel_rfl) rfl ?_
  ((first|refine rG Γ hm ?_|refine rD Γ hm (by kernel_rfl) ?_);(conv=>whnf);repeat((first|refine aF ?_|refine aT ?_);(first|refine rG Γ hm ?_|refine rD Γ hm (by kernel_rfl) ?_);conv=>whnf))
  refine ⟨(by kernel_rfl), ?_⟩
  ((conv=>whnf);repeat((first|refine aF ?_|refine aT ?_);(first|refine rG Γ hm ?_|refine rD Γ hm (by kernel_rfl) ?_);conv=>whnf))
  refine ⟨rfl, by decide, hr0, ?_⟩
  rw [hr]
  ((conv=>whnf);repeat((first|refine aF ?_|refine aT ?_);(first|refine rG Γ hm ?_|refine rD Γ hm (by kernel_rfl) ?_);conv=>whnf))
  refine stepD (good_appendT Γ.toTy 68 rfl rfl rfl rfl rfl (.lit (e := strSV) (l := [r0]) rfl rfl) .sl (by simp) (by simp; omega) (by simp; omega)) (by kernel_rfl) rfl ?_
  ((first|refine rG Γ hm ?_|refine rD Γ hm (by kernel_rfl) ?_);(conv=>whnf);repeat((first|refine aF ?_|refine aT ?_);(first|refine rG Γ hm ?_|refine rD Γ hm (by kernel_rfl) ?_);conv=>whnf))
  refine callDK [68] q3 F13 rfl (.cons (.refl _) (.cons (.row rfl rfl) .nil)) rfl (by kernel_rfl) rfl ?_
  ((first|refine rG Γ hm ?_|refine rD Γ hm (by kernel_rfl) ?_);(conv=>whnf);repeat((first|refine aF ?_|refine aT ?_);(first|refine rG Γ hm ?_|refine rD Γ hm (by kernel_rfl) ?_);conv=>whnf))
  refine ⟨(by kernel_rfl), ?_⟩
  ((conv=>whnf);repeat((first|refine aF ?_|refine aT ?_);(first|refine rG Γ hm ?_|refine rD Γ hm (by kernel_rfl) ?_);conv=>whnf))
  refine ⟨by unfold I64; omega, ?_⟩
  ((conv=>whnf);repeat((first|refine aF ?_|refine aT ?_);(first|refine rG Γ hm ?_|refine rD Γ hm (by kernel_rfl) ?_);conv=>whnf))
  refine stepD (good_slice_sl (lo := 0) (hi := rows.length - 1) Γ.toTy rfl rfl rfl rfl (.inl ⟨rfl, rfl⟩) (.inr ⟨_, _, rfl, congrArg (fun z => SV.val (.int .i64 z)) hi2⟩) (by omega) (by omega)) (by kernel_rfl) rfl ?_
  ((first|refine rG Γ hm ?_|refine rD Γ hm (by kernel_rfl) ?_);(conv=>whnf);repeat((first|refine aF ?_|refine aT ?_);(first|refine rG Γ hm ?_|refine rD Γ hm (by kernel_rfl) ?_);conv=>whnf))
  refine stepD (good_appendT Γ.toTy 79 rfl rfl rfl rfl rfl (.lit (e := strSV) (l := []) rfl rfl) .sl (by simp) (by simp; omega) (by simp; omega)) (by kernel_rfl) rfl ?_
  ((first|refine rG Γ hm ?_|refine rD Γ hm (by kernel_rfl) ?_);(conv=>whnf);repeat((first|refine aF ?_|refine aT ?_);(first|refine rG Γ hm ?_|refine rD Γ hm (by kernel_rfl) ?_);conv=>whnf))
  refine callD0 q5 F12 rfl rfl rfl (by kernel_rfl) rfl ?_
  ((first|refine rG Γ hm ?_|refine rD Γ hm (by kernel_rfl) ?_);(conv=>whnf);repeat((first|refine aF ?_|refine aT ?_);(first|refine rG Γ hm ?_|refine rD Γ hm (by kernel_rfl) ?_);conv=>whnf))
  refine ⟨by show 3 + _ ≤ _; omega, ?_⟩
  ((conv=>whnf);repeat((first|refine aF ?_|refine aT ?_);(first|refine rG Γ hm ?_|refine rD Γ hm (by kernel_rfl) ?_);conv=>whnf))
  refine stepD (good_appendT Γ.toTy 85 rfl rfl rfl rfl rfl (.row rfl) (.lit (e := strSV) (l := [toBytes (portT n a)]) rfl rfl) (by simp) (by simp; omega) (by simp; omega)) (by kernel_rfl) rfl ?_
  ((first|refine rG Γ hm ?_|refine rD Γ hm (by kernel_rfl) ?_);(conv=>whnf);repeat((first|refine aF ?_|refine aT ?_);(first|refine rG Γ hm ?_|refine rD Γ hm (by kernel_rfl) ?_);conv=>whnf))
  refine ⟨(by kernel_rfl), ?_⟩
  ((conv=>whnf);repeat((first|refine aF ?_|refine aT ?_);(first|refine rG Γ hm ?_|refine rD Γ hm (by kernel_rfl) ?_);conv=>whnf))
  refine callK [85] q4 F13 rfl (.cons (.refl _) (.cons (.row rfl rfl) .nil)) rfl rfl rfl ?_
  ((first|refine rG Γ hm ?_|refine rD Γ hm (by kernel_rfl) ?_);(conv=>whnf);repeat((first|refine aF ?_|refine aT ?_);(first|refine rG Γ hm ?_|refine rD Γ hm (by kernel_rfl) ?_);conv=>whnf))
  exact done0 rfl (.cons .tmp .nil) rfl rfl

end Go.Sy.YtlfopmhekhifoaaGreatDoor
