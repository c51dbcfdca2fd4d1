/-
  Contracts: ports and domains as texts. Contracts: a domain's members; a device's domain of a VLAN. Contracts: a device's domain of a VLAN; the other side of a link. Contracts: what a VLAN is on a link's other side. Contracts: the checker of ways finds ports and domains.
-/
import Derived.Test.YtlfopmhekhifoaaGreatDoorC11
import Derived.Test.YtlfopmhekhifoaaGreatDoorC6

namespace Go.Sy.YtlfopmhekhifoaaGreatDoor
open Go.Proofs
-- SIMP: placeB

attribute [local irreducible] Go.Sy.G Go.Sy.DR
set_option maxRecDepth 20000
set_option maxHeartbeats 4000000

/-- Names that are not endless. -/
def Named (n : Net) : Prop := (∀ d ∈ n.devices, d.name.size ≤ 300) ∧ ∀ p ∈ n.ports, p.name.size ≤ 300

theorem e_port {n : Net} (h : netRightB n = true) {i : Nat} (hi : i < n.ports.length) : portB n i n.ports[i] = true := by
  simp only [netRightB, Bool.and_eq_true] at h
  exact allB_iff.1 h.1.1.1.1.1.2 i hi
theorem e_dom {n : Net} (h : netRightB n = true) {i : Nat} (hi : i < n.domains.length) : bareB n i n.domains[i] = true := by
  simp only [netRightB, Bool.and_eq_true] at h
  exact allB_iff.1 h.1.1.1.1.1.1.1.2 i hi
theorem e_few {n : Net} (h : netRightB n = true) : n.devices.length ≤ 8 ∧ n.ports.length ≤ 40 ∧ n.links.length ≤ 20 ∧ n.domains.length ≤ 48 ∧ n.irbs.length ≤ 48 := by
  simp only [netRightB, fewB, Bool.and_eq_true, decide_eq_true_eq] at h
  omega
theorem e_port_dev {n : Net} (h : netRightB n = true) {i : Nat} (hi : i < n.ports.length) : 0 ≤ n.ports[i].dev ∧ n.ports[i].dev.toNat < n.devices.length := by
  have := e_port h hi
  simp only [portB, placeB, Bool.and_eq_true, decide_eq_true_eq] at this
  omega
theorem e_dom_facts {n : Net} (h : netRightB n = true) {i : Nat} (hi : i < n.domains.length) :
    (0 ≤ n.domains[i].dev ∧ n.domains[i].dev.toNat < n.devices.length) ∧ (1 ≤ n.domains[i].vlan ∧ n.domains[i].vlan ≤ 4094) ∧ (0 ≤ n.domains[i].vni ∧ n.domains[i].vni ≤ 16777215) ∧ (n.domains[i].irb = -1 ∨ 0 ≤ n.domains[i].irb ∧ n.domains[i].irb.toNat < n.irbs.length) := by
  have := e_dom h hi
  simp only [bareB, placeB, Bool.and_eq_true, Bool.or_eq_true, decide_eq_true_eq, beq_iff_eq] at this
  omega

theorem wordsS (l : List ByteArray) (h0 : l.length ≤ 1000000) (h1 : sizes l ≤ 1000000000) : Sy.Spec Tryz.prog 17 [.sl 1 strSV l] [] (strSV (joinT l ⟨#[32]⟩)) [] := contract Γ hm 100 F17 Tryz.ntmps17 rfl fun F hF => by
  have q := strJoinS l ⟨#[32]⟩ (by omega) (by omega) (by show 1 * l.length ≤ _; omega)
  generalize joinT l ⟨#[32]⟩ = r at *
  ((conv=>whnf);repeat((first|refine aF ?_|refine aT ?_);(first|refine rG Γ hm ?_|refine rD Γ hm (by kernel_rfl) ?_);conv=>whnf))
  refine call0 q F59 rfl rfl rfl rfl rfl ?_
  ((first|refine rG Γ hm ?_|refine rD Γ hm (by kernel_rfl) ?_);(conv=>whnf);repeat((first|refine aF ?_|refine aT ?_);(first|refine rG Γ hm ?_|refine rD Γ hm (by kernel_rfl) ?_);conv=>whnf))
  exact done0 rfl (.cons .tmp .nil) rfl rfl

theorem joinedS (l : List ByteArray) (h0 : l.length ≤ 1000000) (h1 : sizes l ≤ 1000000000) : Sy.Spec Tryz.prog 60 [.sl 1 strSV l] [] (strSV (joinT l ⟨#[]⟩)) [] := contract Γ hm 100 F60 Tryz.ntmps60 rfl fun F hF => by
  have q := strJoinS l ⟨#[]⟩ (by omega) (by omega) (by show 0 * l.length ≤ _; omega)
  generalize joinT l ⟨#[]⟩ = r at *
  ((conv=>whnf);repeat((first|refine aF ?_|refine aT ?_);(first|refine rG Γ hm ?_|refine rD Γ hm (by kernel_rfl) ?_);conv=>whnf))
  refine call0 q F59 rfl rfl rfl rfl rfl ?_
  ((first|refine rG Γ hm ?_|refine rD Γ hm (by kernel_rfl) ?_);(conv=>whnf);repeat((first|refine aF ?_|refine aT ?_);(first|refine rG Γ hm ?_|refine rD Γ hm (by kernel_rfl) ?_);conv=>whnf))
  exact done0 rfl (.cons .tmp .nil) rfl rfl

/-- A domain as a text, in a net that may be. -/
def domText (n : Net) (i : Int) : ByteArray := joinT [(nth n.devices (nth n.domains i).dev).name, ⟨#[47]⟩, numT (nth n.domains i).vlan] ⟨#[]⟩
def domT (n : Net) (i : Int) : ByteArray := if (0 ≤ i ∧ i < n.domains.length) ∧ netRightB n = true then domText n i else ⟨#[]⟩

theorem numL_short (m : Nat) (h : m < 10 ^ 18) : (numL m).length ≤ 19 := by
  rw [numL_nat, List.length_reverse]; exact revDigs_short 18 m h

theorem domTextS (n : Net) (hn : n.Fin) (hnm : Named n) (i : Int) : Sy.Spec Tryz.prog 18 [netSV n, intSV i] [] (strSV (domT n i)) [] := contract Γ hm 100 F18 Tryz.ntmps18 rfl fun F hF => by
  have hr := namesRightS n hn
  ((conv=>whnf);repeat((first|refine aF ?_|refine aT ?_);(first|refine rG Γ hm ?_|refine rD Γ hm (by kernel_rfl) ?_);conv=>whnf))
  refine ⟨fun h => ?_, fun h => ?_⟩
  · have h1 : i < 0 := of_decide_eq_true h
    rw [domT, if_neg (by omega)]
    ((first|refine rG Γ hm ?_|refine rD Γ hm (by kernel_rfl) ?_);(conv=>whnf);repeat((first|refine aF ?_|refine aT ?_);(first|refine rG Γ hm ?_|refine rD Γ hm (by kernel_rfl) ?_);conv=>whnf))
    exact done0 rfl (.cons .tmp .nil) rfl rfl
  have h1 : 0 ≤ i := by have := of_decide_eq_false h; omega
  refine G_box 2 8 (netSV n) rfl rfl rfl ?_
  ((first|refine rG Γ hm ?_|refine rD Γ hm (by kernel_rfl) ?_);(conv=>whnf);repeat((first|refine aF ?_|refine aT ?_);(first|refine rG Γ hm ?_|refine rD Γ hm (by kernel_rfl) ?_);conv=>whnf))
  refine ⟨fun h => ?_, fun h => ?_⟩
  · have h2 : n.domains.length ≤ i := of_decide_eq_true h
    rw [domT, if_neg (by omega)]
    ((first|refine rG Γ hm ?_|refine rD Γ hm (by kernel_rfl) ?_);(conv=>whnf);repeat((first|refine aF ?_|refine aT ?_);(first|refine rG Γ hm ?_|refine rD Γ hm (by kernel_rfl) ?_);conv=>whnf))
    exact done0 rfl (.cons .tmp .nil) rfl rfl
  have h2 : i < n.domains.length := by have := of_decide_eq_false h; omega
  ((first|refine rG Γ hm ?_|refine rD Γ hm (by kernel_rfl) ?_);(conv=>whnf);repeat((first|refine aF ?_|refine aT ?_);(first|refine rG Γ hm ?_|refine rD Γ hm (by kernel_rfl) ?_);conv=>whnf))
  refine call0 hr F15 rfl rfl rfl rfl rfl ?_
  cases hb : netRightB n
  · rw [domT, if_neg (by simp [hb])]
    ((first|refine rG Γ hm ?_|refine rD Γ hm (by kernel_rfl) ?_);(conv=>whnf);repeat((first|refine aF ?_|refine aT ?_);(first|refine rG Γ hm ?_|refine rD Γ hm (by kernel_rfl) ?_);conv=>whnf))
    exact done0 rfl (.cons .tmp .nil) rfl rfl
  rw [domT, if_pos ⟨⟨h1, h2⟩, hb⟩]
  have hk : i.toNat < n.domains.length := by omega
  have hf := e_dom_facts hb hk
  have e1 : nth n.domains i = n.domains[i.toNat] := nth_eq hk
  rw [domText, e1]
  obtain ⟨d, hd⟩ : ∃ d, n.domains[i.toNat] = d := ⟨_, rfl⟩
  rw [hd] at hf ⊢
  have e2 : nth n.devices d.dev = n.devices[d.dev.toNat] := nth_eq hf.1.2
  rw [e2]
  have hdn := hnm.1 _ (List.getElem_mem hf.1.2)
  obtain ⟨x, hx⟩ : ∃ x, n.devices[d.dev.toNat]'hf.1.2 = x := ⟨_, rfl⟩
  rw [hx] at hdn ⊢
  obtain ⟨v, hv⟩ : ∃ v : Nat, d.vlan = v := ⟨d.vlan.toNat, by omega⟩
  have q := numTextS v (by omega)
  have hs := numL_short v (by omega)
  have hsz : (numT v).size = (numL v).length := mkT_size _
  have q2 := joinedS [x.name, ⟨#[47]⟩, numT v] (by simp) (by
    show x.name.size + (1 + ((numT v).size + 0)) ≤ _
    omega)
  rw [← hv] at q q2
  generalize numT d.vlan = nv at *
  generalize joinT [x.name, ⟨#[47]⟩, nv] ⟨#[]⟩ = r at *
  ((first|refine rG Γ hm ?_|refine rD Γ hm (by kernel_rfl) ?_);(conv=>whnf);repeat((first|refine aF ?_|refine aT ?_);(first|refine rG Γ hm ?_|refine rD Γ hm (by kernel_rfl) ?_);conv=>whnf))
  refine ⟨rfl, h1, hk, ?_⟩
  rw [hd]
  ((conv=>whnf);repeat((first|refine aF ?_|refine aT ?_);(first|refine rG Γ hm ?_|refine rD Γ hm (by kernel_rfl) ?_);conv=>whnf))
  refine ⟨rfl, hf.1.1, hf.1.2, ?_⟩
  rw [hx]
  ((conv=>whnf);repeat((first|refine aF ?_|refine aT ?_);(first|refine rG Γ hm ?_|refine rD Γ hm (by kernel_rfl) ?_);conv=>whnf))
  refine callD0 q F61 rfl rfl rfl (by kernel_rfl) rfl ?_
  ((first|refine rG Γ hm ?_|refine rD Γ hm (by kernel_rfl) ?_);(conv=>whnf);repeat((first|refine aF ?_|refine aT ?_);(first|refine rG Γ hm ?_|refine rD Γ hm (by kernel_rfl) ?_);conv=>whnf))
  refine callDK [35] q2 F60 rfl (.cons (.lit rfl rfl rfl) .nil) rfl (by kernel_rfl) rfl ?_
  ((first|refine rG Γ hm ?_|refine rD Γ hm (by kernel_rfl) ?_);(conv=>whnf);repeat((first|refine aF ?_|refine aT ?_);(first|refine rG Γ hm ?_|refine rD Γ hm (by kernel_rfl) ?_);conv=>whnf))
  refine ⟨(by kernel_rfl), ?_⟩
  ((conv=>whnf);repeat((first|refine aF ?_|refine aT ?_);(first|refine rG Γ hm ?_|refine rD Γ hm (by kernel_rfl) ?_);conv=>whnf))
  exact done0 rfl (.cons .tmp .nil) rfl rfl

/-- A port as a text, in a net that may be. -/
def portText (n : Net) (i : Int) : ByteArray := (nth n.devices (nth n.ports i).dev).name ++ ⟨#[46]⟩ ++ (nth n.ports i).name
def portT (n : Net) (i : Int) : ByteArray := if (0 ≤ i ∧ i < n.ports.length) ∧ netRightB n = true then portText n i else ⟨#[]⟩

theorem size_app (a b : ByteArray) : (a ++ b).size = a.size + b.size := by simp

theorem explainPortS (n : Net) (hn : n.Fin) (hnm : Named n) (i : Int) : Sy.Spec Tryz.prog 12 [netSV n, intSV i] [] (strSV (portT n i)) [] := contract Γ hm 100 F12 Tryz.ntmps12 rfl fun F hF => by
  have hr := namesRightS n hn
  ((conv=>whnf);repeat((first|refine aF ?_|refine aT ?_);(first|refine rG Γ hm ?_|refine rD Γ hm (by kernel_rfl) ?_);conv=>whnf))
  refine ⟨fun h => ?_, fun h => ?_⟩
  · have h1 : i < 0 := of_decide_eq_true h
    rw [portT, if_neg (by omega)]
    ((first|refine rG Γ hm ?_|refine rD Γ hm (by kernel_rfl) ?_);(conv=>whnf);repeat((first|refine aF ?_|refine aT ?_);(first|refine rG Γ hm ?_|refine rD Γ hm (by kernel_rfl) ?_);conv=>whnf))
    exact done0 rfl (.cons .tmp .nil) rfl rfl
  have h1 : 0 ≤ i := by have := of_decide_eq_false h; omega
  refine G_box 2 8 (netSV n) rfl rfl rfl ?_
  ((first|refine rG Γ hm ?_|refine rD Γ hm (by kernel_rfl) ?_);(conv=>whnf);repeat((first|refine aF ?_|refine aT ?_);(first|refine rG Γ hm ?_|refine rD Γ hm (by kernel_rfl) ?_);conv=>whnf))
  refine ⟨fun h => ?_, fun h => ?_⟩
  · have h2 : n.ports.length ≤ i := of_decide_eq_true h
    rw [portT, if_neg (by omega)]
    ((first|refine rG Γ hm ?_|refine rD Γ hm (by kernel_rfl) ?_);(conv=>whnf);repeat((first|refine aF ?_|refine aT ?_);(first|refine rG Γ hm ?_|refine rD Γ hm (by kernel_rfl) ?_);conv=>whnf))
    exact done0 rfl (.cons .tmp .nil) rfl rfl
  have h2 : i < n.ports.length := by have := of_decide_eq_false h; omega
  ((first|refine rG Γ hm ?_|refine rD Γ hm (by kernel_rfl) ?_);(conv=>whnf);repeat((first|refine aF ?_|refine aT ?_);(first|refine rG Γ hm ?_|refine rD Γ hm (by kernel_rfl) ?_);conv=>whnf))
  refine call0 hr F15 rfl rfl rfl rfl rfl ?_
  cases hb : netRightB n
  · rw [portT, if_neg (by simp [hb])]
    ((first|refine rG Γ hm ?_|refine rD Γ hm (by kernel_rfl) ?_);(conv=>whnf);repeat((first|refine aF ?_|refine aT ?_);(first|refine rG Γ hm ?_|refine rD Γ hm (by kernel_rfl) ?_);conv=>whnf))
    exact done0 rfl (.cons .tmp .nil) rfl rfl
  rw [portT, if_pos ⟨⟨h1, h2⟩, hb⟩]
  have hk : i.toNat < n.ports.length := by omega
  have hf := e_port_dev hb hk
  have e1 : nth n.ports i = n.ports[i.toNat] := nth_eq hk
  have hpn := hnm.2 _ (List.getElem_mem hk)
  rw [portText, e1]
  obtain ⟨p, hp⟩ : ∃ p, n.ports[i.toNat] = p := ⟨_, rfl⟩
  rw [hp] at hf hpn ⊢
  have e2 : nth n.devices p.dev = n.devices[p.dev.toNat] := nth_eq hf.2
  rw [e2]
  have hdn := hnm.1 _ (List.getElem_mem hf.2)
  obtain ⟨x, hx⟩ : ∃ x, n.devices[p.dev.toNat]'hf.2 = x := ⟨_, rfl⟩
  rw [hx] at hdn ⊢
  have hs1 : (⟨#[46]⟩ : ByteArray).size = 1 := rfl
  have hs2 := size_app x.name ⟨#[46]⟩
  ((first|refine rG Γ hm ?_|refine rD Γ hm (by kernel_rfl) ?_);(conv=>whnf);repeat((first|refine aF ?_|refine aT ?_);(first|refine rG Γ hm ?_|refine rD Γ hm (by kernel_rfl) ?_);conv=>whnf))
  refine ⟨rfl, h1, hk, ?_⟩
  rw [hp]
  ((conv=>whnf);repeat((first|refine aF ?_|refine aT ?_);(first|refine rG Γ hm ?_|refine rD Γ hm (by kernel_rfl) ?_);conv=>whnf))
  refine ⟨rfl, hf.1, hf.2, ?_⟩
  rw [hx]
  ((conv=>whnf);repeat((first|refine aF ?_|refine aT ?_);(first|refine rG Γ hm ?_|refine rD Γ hm (by kernel_rfl) ?_);conv=>whnf))
  refine ⟨by omega, ?_⟩
  ((conv=>whnf);repeat((first|refine aF ?_|refine aT ?_);(first|refine rG Γ hm ?_|refine rD Γ hm (by kernel_rfl) ?_);conv=>whnf))
  refine ⟨by omega, ?_⟩
  ((conv=>whnf);repeat((first|refine aF ?_|refine aT ?_);(first|refine rG Γ hm ?_|refine rD Γ hm (by kernel_rfl) ?_);conv=>whnf))
  refine ⟨(by kernel_rfl), ?_⟩
  ((conv=>whnf);repeat((first|refine aF ?_|refine aT ?_);(first|refine rG Γ hm ?_|refine rD Γ hm (by kernel_rfl) ?_);conv=>whnf))
  exact done0 rfl (.cons .tmp .nil) rfl rfl

end Go.Sy.YtlfopmhekhifoaaGreatDoor

namespace Go.Sy.YtlfopmhekhifoaaGreatDoor
open Go.Proofs
-- SIMP: placeB

attribute [local irreducible] Go.Sy.G Go.Sy.DR
set_option maxRecDepth 20000
set_option maxHeartbeats 4000000

/-- The places below j that p is true of. -/
def filtI (p : Nat → Bool) (j : Nat) : List Int := ((List.range j).filter p).map Int.ofNat

theorem filtI_succ (p : Nat → Bool) (j : Nat) : filtI p (j + 1) = if p j = true then filtI p j ++ [(j : Int)] else filtI p j := by
  rw [filtI, List.range_succ, List.filter_append, List.map_append]
  split
  · rename_i h
    rw [List.filter_cons_of_pos (by exact h), List.filter_nil]; rfl
  · rename_i h
    rw [List.filter_cons_of_neg (by exact h), List.filter_nil, List.map_nil, List.append_nil]; rfl
theorem filtI_length (p : Nat → Bool) (j : Nat) : (filtI p j).length ≤ j := by
  have := List.length_filter_le p (List.range j)
  simpa [filtI] using this
theorem filtI_mem {p : Nat → Bool} {j : Nat} {x : Int} : x ∈ filtI p j ↔ 0 ≤ x ∧ x < j ∧ p x.toNat = true := by
  simp only [filtI, List.mem_map, List.mem_filter, List.mem_range]
  constructor
  · rintro ⟨i, h1, rfl⟩
    exact ⟨Int.natCast_nonneg i, by simp; omega, h1.2⟩
  · rintro ⟨h1, h2, h3⟩
    exact ⟨x.toNat, ⟨by omega, h3⟩, Int.toNat_of_nonneg h1⟩

/-- Is a port one of a domain's? -/
def inDom (n : Net) (d : Domain) (i : Nat) : Bool := (nth n.ports i).dev == d.dev && memberB (nth n.ports i) d.vlan
def membersL (n : Net) (i : Int) : List Int := filtI (inDom n (nth n.domains i)) n.ports.length
def membersT (n : Net) (i : Int) : List Int := if (0 ≤ i ∧ i < n.domains.length) ∧ netRightB n = true then membersL n i else []

theorem membersT_short (n : Net) (hn : n.Fin) (i : Int) : Short (membersT n i) := by
  have := hn.ports
  unfold Short at this ⊢
  unfold membersT
  split
  · have := filtI_length (inDom n (nth n.domains i)) n.ports.length
    unfold membersL
    omega
  · simp

theorem namesMembersS (n : Net) (hn : n.Fin) (i : Int) : Sy.Spec Tryz.prog 56 [netSV n, intSV i] [] (.sl 1 intSV (membersT n i)) [] := contract Γ hm 100 F56 Tryz.ntmps56 rfl fun F hF => by
  have hr := namesRightS n hn
  have hpl := placeS_Domain 6 domainSV n.domains i
  have hsp := hn.ports
  unfold Short at hsp
  ((conv=>whnf);repeat((first|refine aF ?_|refine aT ?_);(first|refine rG Γ hm ?_|refine rD Γ hm (by kernel_rfl) ?_);conv=>whnf))
  refine call0 hr F15 rfl rfl rfl rfl rfl ?_
  cases hb : netRightB n
  · rw [membersT, if_neg (by simp [hb])]
    ((first|refine rG Γ hm ?_|refine rD Γ hm (by kernel_rfl) ?_);(conv=>whnf);repeat((first|refine aF ?_|refine aT ?_);(first|refine rG Γ hm ?_|refine rD Γ hm (by kernel_rfl) ?_);conv=>whnf))
    refine G_nilsl 4 1 intSV rfl ?_
    ((first|refine rG Γ hm ?_|refine rD Γ hm (by kernel_rfl) ?_);(conv=>whnf);repeat((first|refine aF ?_|refine aT ?_);(first|refine rG Γ hm ?_|refine rD Γ hm (by kernel_rfl) ?_);conv=>whnf))
    exact done0 rfl (.cons .tmp .nil) rfl rfl
  ((first|refine rG Γ hm ?_|refine rD Γ hm (by kernel_rfl) ?_);(conv=>whnf);repeat((first|refine aF ?_|refine aT ?_);(first|refine rG Γ hm ?_|refine rD Γ hm (by kernel_rfl) ?_);conv=>whnf))
  refine call0 hpl F92 rfl rfl rfl rfl rfl ?_
  by_cases hi : 0 ≤ i ∧ i < n.domains.length
  rotate_left
  · have h0 : placeB i n.domains.length = false := by simp only [placeB, Bool.and_eq_false_iff, decide_eq_false_iff_not]; omega
    rw [membersT, if_neg (by simp [hb, hi]), h0]
    ((first|refine rG Γ hm ?_|refine rD Γ hm (by kernel_rfl) ?_);(conv=>whnf);repeat((first|refine aF ?_|refine aT ?_);(first|refine rG Γ hm ?_|refine rD Γ hm (by kernel_rfl) ?_);conv=>whnf))
    refine G_nilsl 4 1 intSV rfl ?_
    ((first|refine rG Γ hm ?_|refine rD Γ hm (by kernel_rfl) ?_);(conv=>whnf);repeat((first|refine aF ?_|refine aT ?_);(first|refine rG Γ hm ?_|refine rD Γ hm (by kernel_rfl) ?_);conv=>whnf))
    exact done0 rfl (.cons .tmp .nil) rfl rfl
  have h0 : placeB i n.domains.length = true := by simp only [placeB, Bool.and_eq_true, decide_eq_true_eq]; exact hi
  rw [membersT, if_pos ⟨hi, hb⟩, h0]
  have hk : i.toNat < n.domains.length := by omega
  have hf := e_dom_facts hb hk
  have e1 : nth n.domains i = n.domains[i.toNat] := nth_eq hk
  rw [membersL, e1]
  obtain ⟨d, hd⟩ : ∃ d, n.domains[i.toNat] = d := ⟨_, rfl⟩
  rw [hd] at hf ⊢
  refine G_box 2 8 (netSV n) rfl rfl rfl ?_
  ((first|refine rG Γ hm ?_|refine rD Γ hm (by kernel_rfl) ?_);(conv=>whnf);repeat((first|refine aF ?_|refine aT ?_);(first|refine rG Γ hm ?_|refine rD Γ hm (by kernel_rfl) ?_);conv=>whnf))
  refine G_adopt 5 1000 1 intSV rfl rfl ?_
  refine G_count n.ports.length (fun j => [(1, intSV i), (2, .ref 8 (netSV n) 0), (5, .osl 1000), (19, .sl 7 portSV n.ports), (20, intSV n.ports.length), (21, intSV j)]) (fun j => [(1000, .row 1 intSV (filtI (inDom n d) j))]) []
    ⟨⟨rfl, rfl, rfl, rfl, rfl, rfl, rfl, rfl, rfl, rfl, rfl, rfl, trivial⟩, ⟨.inl rfl, rfl, trivial⟩, rfl, rfl⟩ ?_
  intro j hj
  ((first|refine rG Γ hm ?_|refine rD Γ hm (by kernel_rfl) ?_);(conv=>whnf);repeat((first|refine aF ?_|refine aT ?_);(first|refine rG Γ hm ?_|refine rD Γ hm (by kernel_rfl) ?_);conv=>whnf))
  refine ⟨fun h => ?_, fun h => ?_⟩
  · have hlt : j < n.ports.length := by simpa using h
    have hsucc := filtI_succ (inDom n d) j
    have hfl := filtI_length (inDom n d) j
    have hin : inDom n d j = ((n.ports[j]).dev == d.dev && memberB n.ports[j] d.vlan) := by
      rw [inDom, nth_eq (l := n.ports) (i := (j : Int)) (by simpa using hlt)]; rfl
    rw [hin] at hsucc
    have e1 : n.ports[(j : Int).toNat]'(by omega) = n.ports[j] := rfl
    have hms := memberS n.ports[j] d.vlan (hn.tagged _ (List.getElem_mem _))
    obtain ⟨p, hp⟩ : ∃ p, n.ports[j] = p := ⟨_, rfl⟩
    rw [hp] at e1 hsucc hms
    obtain ⟨u, hu⟩ : ∃ u, filtI (inDom n d) j = u := ⟨_, rfl⟩
    rw [hu] at hsucc hfl ⊢
    ((first|refine rG Γ hm ?_|refine rD Γ hm (by kernel_rfl) ?_);(conv=>whnf);repeat((first|refine aF ?_|refine aT ?_);(first|refine rG Γ hm ?_|refine rD Γ hm (by kernel_rfl) ?_);conv=>whnf))
    refine ⟨rfl, by omega, by omega, ?_⟩
    rw [e1]
    ((conv=>whnf);repeat((first|refine aF ?_|refine aT ?_);(first|refine rG Γ hm ?_|refine rD Γ hm (by kernel_rfl) ?_);conv=>whnf))
    refine ⟨rfl, hi.1, hk, ?_⟩
    rw [hd]
    ((conv=>whnf);repeat((first|refine aF ?_|refine aT ?_);(first|refine rG Γ hm ?_|refine rD Γ hm (by kernel_rfl) ?_);conv=>whnf))
    refine ⟨fun h2 => ?_, fun h2 => ?_⟩
    · have h3 : ∃ k : Nat, (k : Int) = i := ⟨i.toNat, by omega⟩
      rw [h2, Bool.true_and] at hsucc
      ((first|refine rG Γ hm ?_|refine rD Γ hm (by kernel_rfl) ?_);(conv=>whnf);repeat((first|refine aF ?_|refine aT ?_);(first|refine rG Γ hm ?_|refine rD Γ hm (by kernel_rfl) ?_);conv=>whnf))
      refine ⟨rfl, hi.1, hk, ?_⟩
      rw [hd]
      ((conv=>whnf);repeat((first|refine aF ?_|refine aT ?_);(first|refine rG Γ hm ?_|refine rD Γ hm (by kernel_rfl) ?_);conv=>whnf))
      refine callD0 hms F93 rfl rfl rfl (by kernel_rfl) rfl ?_
      ((first|refine rG Γ hm ?_|refine rD Γ hm (by kernel_rfl) ?_);(conv=>whnf);repeat((first|refine aF ?_|refine aT ?_);(first|refine rG Γ hm ?_|refine rD Γ hm (by kernel_rfl) ?_);conv=>whnf))
      refine ⟨(by kernel_rfl), ?_⟩
      ((conv=>whnf);repeat((first|refine aF ?_|refine aT ?_);(first|refine rG Γ hm ?_|refine rD Γ hm (by kernel_rfl) ?_);conv=>whnf))
      refine ⟨fun h4 => ?_, fun h4 => ?_⟩
      · rw [if_pos h4] at hsucc
        ((first|refine rG Γ hm ?_|refine rD Γ hm (by kernel_rfl) ?_);(conv=>whnf);repeat((first|refine aF ?_|refine aT ?_);(first|refine rG Γ hm ?_|refine rD Γ hm (by kernel_rfl) ?_);conv=>whnf))
        refine stepOp (good_appendT Γ.toTy 48 rfl rfl rfl rfl rfl (.row rfl) (.lit (e := intSV) (l := [(j : Int)]) rfl rfl) (by simp) (by simp; omega) (by simp; omega)) rfl rfl ?_
        ((first|refine rG Γ hm ?_|refine rD Γ hm (by kernel_rfl) ?_);(conv=>whnf);repeat((first|refine aF ?_|refine aT ?_);(first|refine rG Γ hm ?_|refine rD Γ hm (by kernel_rfl) ?_);conv=>whnf))
        refine ⟨by unfold I64; omega, ?_⟩
        ((conv=>whnf);repeat((first|refine aF ?_|refine aT ?_);(first|refine rG Γ hm ?_|refine rD Γ hm (by kernel_rfl) ?_);conv=>whnf))
        exact G_next [(1000, 48)] hlt ⟨⟨rfl, rfl, rfl, rfl, rfl, rfl, rfl, rfl, rfl, rfl, rfl, rfl, trivial⟩, ⟨.inl (congrArg (Ob.row 1 intSV) hsucc), rfl, trivial⟩, rfl, rfl⟩
      · rw [if_neg (by simp [h4])] at hsucc
        ((first|refine rG Γ hm ?_|refine rD Γ hm (by kernel_rfl) ?_);(conv=>whnf);repeat((first|refine aF ?_|refine aT ?_);(first|refine rG Γ hm ?_|refine rD Γ hm (by kernel_rfl) ?_);conv=>whnf))
        refine ⟨by unfold I64; omega, ?_⟩
        ((conv=>whnf);repeat((first|refine aF ?_|refine aT ?_);(first|refine rG Γ hm ?_|refine rD Γ hm (by kernel_rfl) ?_);conv=>whnf))
        exact G_next [] hlt ⟨⟨rfl, rfl, rfl, rfl, rfl, rfl, rfl, rfl, rfl, rfl, rfl, rfl, trivial⟩, ⟨.inl (congrArg (Ob.row 1 intSV) hsucc), rfl, trivial⟩, rfl, rfl⟩
    · rw [if_neg (by simp [h2])] at hsucc
      ((first|refine rG Γ hm ?_|refine rD Γ hm (by kernel_rfl) ?_);(conv=>whnf);repeat((first|refine aF ?_|refine aT ?_);(first|refine rG Γ hm ?_|refine rD Γ hm (by kernel_rfl) ?_);conv=>whnf))
      refine ⟨(by kernel_rfl), ?_⟩
      ((conv=>whnf);repeat((first|refine aF ?_|refine aT ?_);(first|refine rG Γ hm ?_|refine rD Γ hm (by kernel_rfl) ?_);conv=>whnf))
      refine ⟨by unfold I64; omega, ?_⟩
      ((conv=>whnf);repeat((first|refine aF ?_|refine aT ?_);(first|refine rG Γ hm ?_|refine rD Γ hm (by kernel_rfl) ?_);conv=>whnf))
      exact G_next [] hlt ⟨⟨rfl, rfl, rfl, rfl, rfl, rfl, rfl, rfl, rfl, rfl, rfl, rfl, trivial⟩, ⟨.inl (congrArg (Ob.row 1 intSV) hsucc), rfl, trivial⟩, rfl, rfl⟩
  · have : j = n.ports.length := by have := of_decide_eq_false h; omega
    subst this
    refine G_data 1000 rfl ?_
    ((first|refine rG Γ hm ?_|refine rD Γ hm (by kernel_rfl) ?_);(conv=>whnf);repeat((first|refine aF ?_|refine aT ?_);(first|refine rG Γ hm ?_|refine rD Γ hm (by kernel_rfl) ?_);conv=>whnf))
    exact done0 rfl (.cons .tmp .nil) rfl rfl

end Go.Sy.YtlfopmhekhifoaaGreatDoor

namespace Go.Sy.YtlfopmhekhifoaaGreatDoor
open Go.Proofs
-- SIMP: placeB

attribute [local irreducible] Go.Sy.G Go.Sy.DR
set_option maxRecDepth 20000
set_option maxHeartbeats 4000000

theorem findS_Domain (n : Net) (hn : n.Fin) (l : List Domain) (p : Domain → Bool) (f : FuncId) (first cap : List SV) (hc : (SV.clo (.func f) first cap).inn [] = true) (hf : ∀ x ∈ l, FunS Tryz.prog f (first ++ [domainSV x] ++ cap) (boolSV (p x))) (hl : Short l) :
    Sy.Spec Tryz.prog 122 [netSV n, .sl 6 domainSV l, .clo (.func f) first cap] [] (intSV (if netRightB n = true then idxI p l else -1)) [] := contract Γ hm 100 F122 Tryz.ntmps122 rfl fun F hF => by
  have hr := namesRightS n hn
  have q := indexFuncS_Domain l p f first cap hc hf hl
  ((conv=>whnf);repeat((first|refine aF ?_|refine aT ?_);(first|refine rG Γ hm ?_|refine rD Γ hm (by kernel_rfl) ?_);conv=>whnf))
  refine call0 hr F15 rfl rfl rfl rfl rfl ?_
  cases hb : netRightB n
  · rw [if_neg (by simp)]
    ((first|refine rG Γ hm ?_|refine rD Γ hm (by kernel_rfl) ?_);(conv=>whnf);repeat((first|refine aF ?_|refine aT ?_);(first|refine rG Γ hm ?_|refine rD Γ hm (by kernel_rfl) ?_);conv=>whnf))
    exact done0 rfl (.cons .tmp .nil) rfl rfl
  rw [if_pos rfl]
  ((first|refine rG Γ hm ?_|refine rD Γ hm (by kernel_rfl) ?_);(conv=>whnf);repeat((first|refine aF ?_|refine aT ?_);(first|refine rG Γ hm ?_|refine rD Γ hm (by kernel_rfl) ?_);conv=>whnf))
  refine call0 q F119 rfl rfl (by simp only [innL, hc, Bool.and_true]; rfl) rfl rfl ?_
  ((first|refine rG Γ hm ?_|refine rD Γ hm (by kernel_rfl) ?_);(conv=>whnf);repeat((first|refine aF ?_|refine aT ?_);(first|refine rG Γ hm ?_|refine rD Γ hm (by kernel_rfl) ?_);conv=>whnf))
  exact done0 rfl (.cons .tmp .nil) rfl rfl

theorem namesDomainC (dev vlan : Int) (d : Domain) : Sy.Spec Tryz.prog 123 [domainSV d, .ref 1 (intSV dev) 0, .ref 1 (intSV vlan) 0] [] (boolSV (d.dev == dev && d.vlan == vlan)) [] := contract Γ hm 100 F123 Tryz.ntmps123 rfl fun F hF => by
  ((conv=>whnf);repeat((first|refine aF ?_|refine aT ?_);(first|refine rG Γ hm ?_|refine rD Γ hm (by kernel_rfl) ?_);conv=>whnf))
  (repeat' (first | (refine ⟨fun h => ?_, fun h => ?_⟩ <;> (repeat (first | (simp only [placeB] at h) | (simp only [decide_eq_true_eq] at h) | (simp only [decide_eq_false_iff_not] at h) | (simp only [beq_iff_eq] at h) | (simp only [beq_eq_false_iff_ne] at h) | (simp only [bne_iff_ne] at h) | (simp only [bne_eq_false_iff_eq] at h) | (simp only [Bool.and_eq_true] at h) | (simp only [Bool.or_eq_true] at h) | (simp only [Bool.and_eq_false_iff] at h) | (simp only [Bool.or_eq_false_iff] at h) | (simp only [Bool.not_eq_true'] at h) | (simp only [Bool.not_eq_false'] at h) | (simp only [Bool.not_eq_eq_eq_not] at h) | (simp only [Bool.not_true] at h) | (simp only [Bool.not_false] at h))) <;> ((first|refine rG Γ hm ?_|refine rD Γ hm (by kernel_rfl) ?_);(conv=>whnf);repeat((first|refine aF ?_|refine aT ?_);(first|refine rG Γ hm ?_|refine rD Γ hm (by kernel_rfl) ?_);conv=>whnf))) | (refine done0 rfl (.cons .tmp .nil) ?_ rfl) | (refine ⟨(by kernel_rfl), ?_⟩; ((conv=>whnf);repeat((first|refine aF ?_|refine aT ?_);(first|refine rG Γ hm ?_|refine rD Γ hm (by kernel_rfl) ?_);conv=>whnf))) | (refine ⟨by (first | (unfold I64; omega) | omega | (simp only [Int.toNat_natCast]; omega) | done), by (first | (unfold I64; omega) | omega | (simp only [Int.toNat_natCast]; omega) | done), ?_⟩; ((conv=>whnf);repeat((first|refine aF ?_|refine aT ?_);(first|refine rG Γ hm ?_|refine rD Γ hm (by kernel_rfl) ?_);conv=>whnf))) | (refine ⟨by (first | (unfold I64; omega) | omega | (simp only [Int.toNat_natCast]; omega) | done), ?_⟩; ((conv=>whnf);repeat((first|refine aF ?_|refine aT ?_);(first|refine rG Γ hm ?_|refine rD Γ hm (by kernel_rfl) ?_);conv=>whnf)))))
  all_goals (refine congrArg boolSV ?_)
  all_goals simp_all

def domainT (n : Net) (dev vlan : Int) : Int := if netRightB n = true then domI n dev vlan else -1

theorem namesDomainS (n : Net) (hn : n.Fin) (dev vlan : Int) : Sy.Spec Tryz.prog 96 [netSV n, intSV dev, intSV vlan] [] (intSV (domainT n dev vlan)) [] := contract Γ hm 100 F96 Tryz.ntmps96 rfl fun F hF => by
  have q := findS_Domain n hn n.domains (fun d => d.dev == dev && d.vlan == vlan) 123 [] [.ref 1 (intSV dev) 0, .ref 1 (intSV vlan) 0] rfl (fun d _ => ⟨⟨_, _, F123⟩, namesDomainC dev vlan d⟩) hn.domains
  ((conv=>whnf);repeat((first|refine aF ?_|refine aT ?_);(first|refine rG Γ hm ?_|refine rD Γ hm (by kernel_rfl) ?_);conv=>whnf))
  refine G_box 4 1 (intSV dev) rfl rfl rfl ?_
  refine G_box 5 1 (intSV vlan) rfl rfl rfl ?_
  refine call0 q F122 rfl rfl rfl rfl rfl ?_
  ((first|refine rG Γ hm ?_|refine rD Γ hm (by kernel_rfl) ?_);(conv=>whnf);repeat((first|refine aF ?_|refine aT ?_);(first|refine rG Γ hm ?_|refine rD Γ hm (by kernel_rfl) ?_);conv=>whnf))
  exact done0 rfl (.cons .tmp .nil) rfl rfl

/-- The other side of a port's link; -1. -/
def otherT (n : Net) (i : Int) : Int :=
  if (0 ≤ i ∧ i < n.ports.length) ∧ 0 ≤ (nth n.ports i).link ∧ netRightB n = true then
    (if (nth n.links (nth n.ports i).link).a = i then (nth n.links (nth n.ports i).link).b else (nth n.links (nth n.ports i).link).a) else -1

theorem e_port_link {n : Net} (h : netRightB n = true) {i : Nat} (hi : i < n.ports.length) (hl : 0 ≤ n.ports[i].link) :
    n.ports[i].link.toNat < n.links.length ∧ ((nth n.links n.ports[i].link).a = i ∨ (nth n.links n.ports[i].link).b = i) := by
  have := e_port h hi
  simp only [portB, placeB, Bool.and_eq_true, Bool.or_eq_true, decide_eq_true_eq, beq_iff_eq] at this
  rcases this.2 with h1 | h1
  · omega
  · exact ⟨by omega, h1.2⟩

theorem linksOtherS2 (n : Net) (hn : n.Fin) (i : Int) : Sy.Spec Tryz.prog 62 [netSV n, intSV i] [] (intSV (otherT n i)) [] := contract Γ hm 100 F62 Tryz.ntmps62 rfl fun F hF => by
  have hr := namesRightS n hn
  ((conv=>whnf);repeat((first|refine aF ?_|refine aT ?_);(first|refine rG Γ hm ?_|refine rD Γ hm (by kernel_rfl) ?_);conv=>whnf))
  refine ⟨fun h => ?_, fun h => ?_⟩
  · have h1 : i < 0 := of_decide_eq_true h
    rw [otherT, if_neg (by omega)]
    ((first|refine rG Γ hm ?_|refine rD Γ hm (by kernel_rfl) ?_);(conv=>whnf);repeat((first|refine aF ?_|refine aT ?_);(first|refine rG Γ hm ?_|refine rD Γ hm (by kernel_rfl) ?_);conv=>whnf))
    exact done0 rfl (.cons .tmp .nil) rfl rfl
  have h1 : 0 ≤ i := by have := of_decide_eq_false h; omega
  ((first|refine rG Γ hm ?_|refine rD Γ hm (by kernel_rfl) ?_);(conv=>whnf);repeat((first|refine aF ?_|refine aT ?_);(first|refine rG Γ hm ?_|refine rD Γ hm (by kernel_rfl) ?_);conv=>whnf))
  refine ⟨fun h => ?_, fun h => ?_⟩
  · have h2 : n.ports.length ≤ i := of_decide_eq_true h
    rw [otherT, if_neg (by omega)]
    ((first|refine rG Γ hm ?_|refine rD Γ hm (by kernel_rfl) ?_);(conv=>whnf);repeat((first|refine aF ?_|refine aT ?_);(first|refine rG Γ hm ?_|refine rD Γ hm (by kernel_rfl) ?_);conv=>whnf))
    exact done0 rfl (.cons .tmp .nil) rfl rfl
  have h2 : i < n.ports.length := by have := of_decide_eq_false h; omega
  have hk : i.toNat < n.ports.length := by omega
  have e1 : nth n.ports i = n.ports[i.toNat] := nth_eq hk
  have hlk := fun (hb : netRightB n = true) => e_port_link hb hk
  rw [otherT, e1]
  obtain ⟨p, hp⟩ : ∃ p, n.ports[i.toNat] = p := ⟨_, rfl⟩
  rw [hp] at hlk ⊢
  ((first|refine rG Γ hm ?_|refine rD Γ hm (by kernel_rfl) ?_);(conv=>whnf);repeat((first|refine aF ?_|refine aT ?_);(first|refine rG Γ hm ?_|refine rD Γ hm (by kernel_rfl) ?_);conv=>whnf))
  refine ⟨rfl, h1, hk, ?_⟩
  rw [hp]
  ((conv=>whnf);repeat((first|refine aF ?_|refine aT ?_);(first|refine rG Γ hm ?_|refine rD Γ hm (by kernel_rfl) ?_);conv=>whnf))
  refine ⟨fun h => ?_, fun h => ?_⟩
  · have h3 : p.link < 0 := of_decide_eq_true h
    rw [if_neg (by omega)]
    ((first|refine rG Γ hm ?_|refine rD Γ hm (by kernel_rfl) ?_);(conv=>whnf);repeat((first|refine aF ?_|refine aT ?_);(first|refine rG Γ hm ?_|refine rD Γ hm (by kernel_rfl) ?_);conv=>whnf))
    exact done0 rfl (.cons .tmp .nil) rfl rfl
  have h3 : 0 ≤ p.link := by have := of_decide_eq_false h; omega
  ((first|refine rG Γ hm ?_|refine rD Γ hm (by kernel_rfl) ?_);(conv=>whnf);repeat((first|refine aF ?_|refine aT ?_);(first|refine rG Γ hm ?_|refine rD Γ hm (by kernel_rfl) ?_);conv=>whnf))
  refine call0 hr F15 rfl rfl rfl rfl rfl ?_
  cases hb : netRightB n
  · rw [if_neg (by simp)]
    ((first|refine rG Γ hm ?_|refine rD Γ hm (by kernel_rfl) ?_);(conv=>whnf);repeat((first|refine aF ?_|refine aT ?_);(first|refine rG Γ hm ?_|refine rD Γ hm (by kernel_rfl) ?_);conv=>whnf))
    exact done0 rfl (.cons .tmp .nil) rfl rfl
  rw [if_pos ⟨⟨h1, h2⟩, h3, rfl⟩]
  have hq := hlk hb h3
  have e2 : nth n.links p.link = n.links[p.link.toNat] := nth_eq hq.1
  rw [e2]
  obtain ⟨l, hl⟩ : ∃ l, n.links[p.link.toNat]'hq.1 = l := ⟨_, rfl⟩
  rw [hl]
  ((first|refine rG Γ hm ?_|refine rD Γ hm (by kernel_rfl) ?_);(conv=>whnf);repeat((first|refine aF ?_|refine aT ?_);(first|refine rG Γ hm ?_|refine rD Γ hm (by kernel_rfl) ?_);conv=>whnf))
  refine ⟨rfl, h1, hk, ?_⟩
  rw [hp]
  ((conv=>whnf);repeat((first|refine aF ?_|refine aT ?_);(first|refine rG Γ hm ?_|refine rD Γ hm (by kernel_rfl) ?_);conv=>whnf))
  refine ⟨rfl, h3, hq.1, ?_⟩
  rw [hl]
  ((conv=>whnf);repeat((first|refine aF ?_|refine aT ?_);(first|refine rG Γ hm ?_|refine rD Γ hm (by kernel_rfl) ?_);conv=>whnf))
  refine ⟨(by kernel_rfl), ?_⟩
  ((conv=>whnf);repeat((first|refine aF ?_|refine aT ?_);(first|refine rG Γ hm ?_|refine rD Γ hm (by kernel_rfl) ?_);conv=>whnf))
  refine ⟨fun h => ?_, fun h => ?_⟩
  · have h4 : l.a = i := by simpa using h
    rw [if_pos h4]
    ((first|refine rG Γ hm ?_|refine rD Γ hm (by kernel_rfl) ?_);(conv=>whnf);repeat((first|refine aF ?_|refine aT ?_);(first|refine rG Γ hm ?_|refine rD Γ hm (by kernel_rfl) ?_);conv=>whnf))
    exact done0 rfl (.cons .tmp .nil) rfl rfl
  · have h4 : ¬ l.a = i := by simpa using h
    rw [if_neg h4]
    ((first|refine rG Γ hm ?_|refine rD Γ hm (by kernel_rfl) ?_);(conv=>whnf);repeat((first|refine aF ?_|refine aT ?_);(first|refine rG Γ hm ?_|refine rD Γ hm (by kernel_rfl) ?_);conv=>whnf))
    exact done0 rfl (.cons .tmp .nil) rfl rfl

end Go.Sy.YtlfopmhekhifoaaGreatDoor

namespace Go.Sy.YtlfopmhekhifoaaGreatDoor
open Go.Proofs
-- SIMP: placeB

attribute [local irreducible] Go.Sy.G Go.Sy.DR
set_option maxRecDepth 20000
set_option maxHeartbeats 4000000

theorem e_link {n : Net} (h : netRightB n = true) {i : Nat} (hi : i < n.links.length) : (0 ≤ n.links[i].a ∧ n.links[i].a.toNat < n.ports.length) ∧ (0 ≤ n.links[i].b ∧ n.links[i].b.toNat < n.ports.length) := by
  simp only [netRightB, Bool.and_eq_true] at h
  have := allB_iff.1 h.1.1.1.1.2 i hi
  simp only [linkB, placeB, Bool.and_eq_true, decide_eq_true_eq] at this
  omega

theorem otherT_there {n : Net} {i : Int} (h : 0 ≤ otherT n i) : (0 ≤ i ∧ i.toNat < n.ports.length) ∧ netRightB n = true ∧ (otherT n i).toNat < n.ports.length := by
  unfold otherT at h ⊢
  split at h
  · rename_i hc
    rw [if_pos hc]
    have hk : i.toNat < n.ports.length := by omega
    have e1 : nth n.ports i = n.ports[i.toNat] := nth_eq hk
    rw [e1] at hc h ⊢
    have hq := e_port_link hc.2.2 hk hc.2.1
    have e2 : nth n.links n.ports[i.toNat].link = n.links[n.ports[i.toNat].link.toNat] := nth_eq hq.1
    have hl := e_link hc.2.2 hq.1
    rw [e2] at h ⊢
    refine ⟨by omega, hc.2.2, ?_⟩
    split
    · exact hl.2.2
    · exact hl.1.2
  · omega

def crossTo (n : Net) (i v : Int) : Int := if v = (nth n.ports i).native then (nth n.ports (otherT n i)).native else if inB (nth n.ports (otherT n i)).tagged v = true then v else 0
def crossT (n : Net) (i v : Int) : Int × Int × Bool :=
  if 0 ≤ otherT n i ∧ memberB (nth n.ports i) v = true ∧ crossTo n i v ≠ 0 then (otherT n i, crossTo n i v, true) else (0, 0, false)

theorem linksCrossS (n : Net) (hn : n.Fin) (i v : Int) : Sy.Spec Tryz.prog 140 [netSV n, intSV i, intSV v] [] (.tup [intSV (crossT n i v).1, intSV (crossT n i v).2.1, boolSV (crossT n i v).2.2]) [] := contract Γ hm 100 F140 Tryz.ntmps140 rfl fun F hF => by
  have q := linksOtherS2 n hn i
  have hth := otherT_there (n := n) (i := i)
  have hc := crossT.eq_1 n i v
  unfold crossTo at hc
  generalize crossT n i v = r at *
  obtain ⟨far, hfar⟩ : ∃ far, otherT n i = far := ⟨_, rfl⟩
  rw [hfar] at q hth hc
  ((conv=>whnf);repeat((first|refine aF ?_|refine aT ?_);(first|refine rG Γ hm ?_|refine rD Γ hm (by kernel_rfl) ?_);conv=>whnf))
  refine call0 q F62 rfl rfl rfl rfl rfl ?_
  ((first|refine rG Γ hm ?_|refine rD Γ hm (by kernel_rfl) ?_);(conv=>whnf);repeat((first|refine aF ?_|refine aT ?_);(first|refine rG Γ hm ?_|refine rD Γ hm (by kernel_rfl) ?_);conv=>whnf))
  refine ⟨fun h => ?_, fun h => ?_⟩
  · have h1 : far < 0 := of_decide_eq_true h
    rw [if_neg (by omega)] at hc
    subst hc
    ((first|refine rG Γ hm ?_|refine rD Γ hm (by kernel_rfl) ?_);(conv=>whnf);repeat((first|refine aF ?_|refine aT ?_);(first|refine rG Γ hm ?_|refine rD Γ hm (by kernel_rfl) ?_);conv=>whnf))
    exact done0 rfl (.cons .tmp (.cons .tmp (.cons .tmp .nil))) rfl rfl
  have h1 : 0 ≤ far := by have := of_decide_eq_false h; omega
  obtain ⟨⟨hi0, hk⟩, hb, hfk⟩ := hth h1
  have e1 : nth n.ports i = n.ports[i.toNat] := nth_eq hk
  have e2 : nth n.ports far = n.ports[far.toNat] := nth_eq hfk
  rw [e1, e2] at hc
  have ht1 := hn.tagged _ (List.getElem_mem hk)
  have ht2 := hn.tagged _ (List.getElem_mem hfk)
  obtain ⟨p, hp⟩ : ∃ p, n.ports[i.toNat] = p := ⟨_, rfl⟩
  obtain ⟨o, ho⟩ : ∃ o, n.ports[far.toNat] = o := ⟨_, rfl⟩
  rw [hp] at hc ht1
  rw [ho] at hc ht2
  have hms := memberS p v ht1
  have hcs := containsS o.tagged v ht2
  refine G_box 3 8 (netSV n) rfl rfl rfl ?_
  ((first|refine rG Γ hm ?_|refine rD Γ hm (by kernel_rfl) ?_);(conv=>whnf);repeat((first|refine aF ?_|refine aT ?_);(first|refine rG Γ hm ?_|refine rD Γ hm (by kernel_rfl) ?_);conv=>whnf))
  refine ⟨rfl, hi0, hk, ?_⟩
  rw [hp]
  ((conv=>whnf);repeat((first|refine aF ?_|refine aT ?_);(first|refine rG Γ hm ?_|refine rD Γ hm (by kernel_rfl) ?_);conv=>whnf))
  refine call0 hms F93 rfl rfl rfl rfl rfl ?_
  cases hm2 : memberB p v
  · rw [if_neg (by simp [hm2])] at hc
    subst hc
    ((first|refine rG Γ hm ?_|refine rD Γ hm (by kernel_rfl) ?_);(conv=>whnf);repeat((first|refine aF ?_|refine aT ?_);(first|refine rG Γ hm ?_|refine rD Γ hm (by kernel_rfl) ?_);conv=>whnf))
    exact done0 rfl (.cons .tmp (.cons .tmp (.cons .tmp .nil))) rfl rfl
  ((first|refine rG Γ hm ?_|refine rD Γ hm (by kernel_rfl) ?_);(conv=>whnf);repeat((first|refine aF ?_|refine aT ?_);(first|refine rG Γ hm ?_|refine rD Γ hm (by kernel_rfl) ?_);conv=>whnf))
  refine ⟨rfl, h1, hfk, ?_⟩
  rw [ho]
  ((conv=>whnf);repeat((first|refine aF ?_|refine aT ?_);(first|refine rG Γ hm ?_|refine rD Γ hm (by kernel_rfl) ?_);conv=>whnf))
  refine ⟨rfl, hi0, hk, ?_⟩
  rw [hp]
  ((conv=>whnf);repeat((first|refine aF ?_|refine aT ?_);(first|refine rG Γ hm ?_|refine rD Γ hm (by kernel_rfl) ?_);conv=>whnf))
  refine ⟨fun h => ?_, fun h => ?_⟩
  · have h2 : v = p.native := by simpa using h
    rw [if_pos h2] at hc
    ((first|refine rG Γ hm ?_|refine rD Γ hm (by kernel_rfl) ?_);(conv=>whnf);repeat((first|refine aF ?_|refine aT ?_);(first|refine rG Γ hm ?_|refine rD Γ hm (by kernel_rfl) ?_);conv=>whnf))
    refine ⟨fun h => ?_, fun h => ?_⟩
    · have h3 : o.native = 0 := by simpa using h
      rw [if_neg (fun hh => hh.2.2 h3)] at hc
      subst hc
      ((first|refine rG Γ hm ?_|refine rD Γ hm (by kernel_rfl) ?_);(conv=>whnf);repeat((first|refine aF ?_|refine aT ?_);(first|refine rG Γ hm ?_|refine rD Γ hm (by kernel_rfl) ?_);conv=>whnf))
      exact done0 rfl (.cons .tmp (.cons .tmp (.cons .tmp .nil))) rfl rfl
    · have h3 : o.native ≠ 0 := by simpa using h
      rw [if_pos ⟨h1, hm2, h3⟩] at hc
      subst hc
      ((first|refine rG Γ hm ?_|refine rD Γ hm (by kernel_rfl) ?_);(conv=>whnf);repeat((first|refine aF ?_|refine aT ?_);(first|refine rG Γ hm ?_|refine rD Γ hm (by kernel_rfl) ?_);conv=>whnf))
      exact done0 rfl (.cons .tmp (.cons .tmp (.cons .tmp .nil))) rfl rfl
  have h2 : ¬ v = p.native := by simpa using h
  rw [if_neg h2] at hc
  ((first|refine rG Γ hm ?_|refine rD Γ hm (by kernel_rfl) ?_);(conv=>whnf);repeat((first|refine aF ?_|refine aT ?_);(first|refine rG Γ hm ?_|refine rD Γ hm (by kernel_rfl) ?_);conv=>whnf))
  refine call0 hcs F55 rfl rfl rfl rfl rfl ?_
  cases hin : inB o.tagged v
  · rw [hin, if_neg (by simp)] at hc
    subst hc
    ((first|refine rG Γ hm ?_|refine rD Γ hm (by kernel_rfl) ?_);(conv=>whnf);repeat((first|refine aF ?_|refine aT ?_);(first|refine rG Γ hm ?_|refine rD Γ hm (by kernel_rfl) ?_);conv=>whnf))
    exact done0 rfl (.cons .tmp (.cons .tmp (.cons .tmp .nil))) rfl rfl
  rw [hin, if_pos rfl] at hc
  ((first|refine rG Γ hm ?_|refine rD Γ hm (by kernel_rfl) ?_);(conv=>whnf);repeat((first|refine aF ?_|refine aT ?_);(first|refine rG Γ hm ?_|refine rD Γ hm (by kernel_rfl) ?_);conv=>whnf))
  refine ⟨fun h => ?_, fun h => ?_⟩
  · have h3 : v = 0 := by simpa using h
    rw [if_neg (fun hh => hh.2.2 h3)] at hc
    subst hc
    ((first|refine rG Γ hm ?_|refine rD Γ hm (by kernel_rfl) ?_);(conv=>whnf);repeat((first|refine aF ?_|refine aT ?_);(first|refine rG Γ hm ?_|refine rD Γ hm (by kernel_rfl) ?_);conv=>whnf))
    exact done0 rfl (.cons .tmp (.cons .tmp (.cons .tmp .nil))) rfl rfl
  · have h3 : v ≠ 0 := by simpa using h
    rw [if_pos ⟨h1, hm2, h3⟩] at hc
    subst hc
    ((first|refine rG Γ hm ?_|refine rD Γ hm (by kernel_rfl) ?_);(conv=>whnf);repeat((first|refine aF ?_|refine aT ?_);(first|refine rG Γ hm ?_|refine rD Γ hm (by kernel_rfl) ?_);conv=>whnf))
    exact done0 rfl (.cons .tmp (.cons .tmp (.cons .tmp .nil))) rfl rfl

def linkDomT (n : Net) (i v : Int) : Int × Bool := if (crossT n i v).2.2 = true then (domainT n (nth n.ports (crossT n i v).1).dev (crossT n i v).2.1, true) else (0, false)

theorem crossT_there {n : Net} {i v : Int} (h : (crossT n i v).2.2 = true) : 0 ≤ (crossT n i v).1 ∧ (crossT n i v).1.toNat < n.ports.length := by
  unfold crossT at h ⊢
  split at h
  · rename_i hc
    rw [if_pos hc]
    exact ⟨hc.1, (otherT_there hc.1).2.2⟩
  · cases h

theorem linksDomainS (n : Net) (hn : n.Fin) (i v : Int) : Sy.Spec Tryz.prog 118 [netSV n, intSV i, intSV v] [] (.tup [intSV (linkDomT n i v).1, boolSV (linkDomT n i v).2]) [] := contract Γ hm 100 F118 Tryz.ntmps118 rfl fun F hF => by
  have q := linksCrossS n hn i v
  have hth := crossT_there (n := n) (i := i) (v := v)
  have hc := linkDomT.eq_1 n i v
  generalize linkDomT n i v = r at *
  generalize crossT n i v = x at *
  obtain ⟨far, to, ok⟩ := x
  ((conv=>whnf);repeat((first|refine aF ?_|refine aT ?_);(first|refine rG Γ hm ?_|refine rD Γ hm (by kernel_rfl) ?_);conv=>whnf))
  refine call0 q F140 rfl rfl rfl rfl rfl ?_
  cases ok
  · rw [if_neg (by simp)] at hc
    subst hc
    ((first|refine rG Γ hm ?_|refine rD Γ hm (by kernel_rfl) ?_);(conv=>whnf);repeat((first|refine aF ?_|refine aT ?_);(first|refine rG Γ hm ?_|refine rD Γ hm (by kernel_rfl) ?_);conv=>whnf))
    exact done0 rfl (.cons .tmp (.cons .tmp .nil)) rfl rfl
  rw [if_pos rfl] at hc
  have hf := hth rfl
  dsimp only at hf hc
  have e2 : nth n.ports far = n.ports[far.toNat] := nth_eq hf.2
  rw [e2] at hc
  obtain ⟨o, ho⟩ : ∃ o, n.ports[far.toNat]'hf.2 = o := ⟨_, rfl⟩
  rw [ho] at hc
  have q2 := namesDomainS n hn o.dev to
  subst hc
  refine G_box 3 8 (netSV n) rfl rfl rfl ?_
  ((first|refine rG Γ hm ?_|refine rD Γ hm (by kernel_rfl) ?_);(conv=>whnf);repeat((first|refine aF ?_|refine aT ?_);(first|refine rG Γ hm ?_|refine rD Γ hm (by kernel_rfl) ?_);conv=>whnf))
  refine ⟨rfl, hf.1, hf.2, ?_⟩
  rw [ho]
  ((conv=>whnf);repeat((first|refine aF ?_|refine aT ?_);(first|refine rG Γ hm ?_|refine rD Γ hm (by kernel_rfl) ?_);conv=>whnf))
  refine callD0 q2 F96 rfl rfl rfl (by kernel_rfl) rfl ?_
  ((first|refine rG Γ hm ?_|refine rD Γ hm (by kernel_rfl) ?_);(conv=>whnf);repeat((first|refine aF ?_|refine aT ?_);(first|refine rG Γ hm ?_|refine rD Γ hm (by kernel_rfl) ?_);conv=>whnf))
  refine ⟨(by kernel_rfl), ?_⟩
  ((conv=>whnf);repeat((first|refine aF ?_|refine aT ?_);(first|refine rG Γ hm ?_|refine rD Γ hm (by kernel_rfl) ?_);conv=>whnf))
  exact done0 rfl (.cons .tmp (.cons .tmp .nil)) rfl rfl

end Go.Sy.YtlfopmhekhifoaaGreatDoor

namespace Go.Sy.YtlfopmhekhifoaaGreatDoor
open Go.Proofs
-- SIMP: placeB

attribute [local irreducible] Go.Sy.G Go.Sy.DR
set_option maxRecDepth 20000
set_option maxHeartbeats 4000000

/-- The checker: a net, where it is, whether a route was there. -/
abbrev chkSV (n : Net) (a : Int) (r : Bool) : SV := .agg [.sl 5 deviceSV n.devices, .sl 7 portSV n.ports, .sl 3 linkSV n.links, .sl 6 domainSV n.domains, .sl 4 staticSV n.statics, .sl 4 floodSV n.floods, .sl 5 vrfSV n.vrfs, .sl 5 irbSV n.irbs, intSV a, boolSV r]

def isPort (n : Net) (s : ByteArray) (p : Port) : Bool := (nth n.devices p.dev).name ++ ⟨#[46]⟩ ++ p.name == s
def portI (n : Net) (s : ByteArray) : Int := idxI (isPort n s) n.ports

theorem isPortC (n : Net) (hnm : Named n) (a : Int) (r : Bool) (s : ByteArray) (p : Port) (hp : p ∈ n.ports) (hd : 0 ≤ p.dev ∧ p.dev.toNat < n.devices.length) :
    Sy.Spec Tryz.prog 80 [portSV p, .ref 1 (.ref 10 (chkSV n a r) 0) 0, .ref 1 (strSV s) 0] [] (boolSV (isPort n s p)) [] := contract Γ hm 100 F80 Tryz.ntmps80 rfl fun F hF => by
  have e2 : nth n.devices p.dev = n.devices[p.dev.toNat] := nth_eq hd.2
  have hdn := hnm.1 _ (List.getElem_mem hd.2)
  have hpn := hnm.2 _ hp
  rw [isPort, e2]
  obtain ⟨x, hx⟩ : ∃ x, n.devices[p.dev.toNat]'hd.2 = x := ⟨_, rfl⟩
  rw [hx] at hdn ⊢
  have hs1 : (⟨#[46]⟩ : ByteArray).size = 1 := rfl
  have hs2 := size_app x.name ⟨#[46]⟩
  ((conv=>whnf);repeat((first|refine aF ?_|refine aT ?_);(first|refine rG Γ hm ?_|refine rD Γ hm (by kernel_rfl) ?_);conv=>whnf))
  refine ⟨rfl, hd.1, hd.2, ?_⟩
  rw [hx]
  ((conv=>whnf);repeat((first|refine aF ?_|refine aT ?_);(first|refine rG Γ hm ?_|refine rD Γ hm (by kernel_rfl) ?_);conv=>whnf))
  refine ⟨by omega, ?_⟩
  ((conv=>whnf);repeat((first|refine aF ?_|refine aT ?_);(first|refine rG Γ hm ?_|refine rD Γ hm (by kernel_rfl) ?_);conv=>whnf))
  refine ⟨by omega, ?_⟩
  ((conv=>whnf);repeat((first|refine aF ?_|refine aT ?_);(first|refine rG Γ hm ?_|refine rD Γ hm (by kernel_rfl) ?_);conv=>whnf))
  refine ⟨(by kernel_rfl), ?_⟩
  ((conv=>whnf);repeat((first|refine aF ?_|refine aT ?_);(first|refine rG Γ hm ?_|refine rD Γ hm (by kernel_rfl) ?_);conv=>whnf))
  exact done0 rfl (.cons .tmp .nil) rfl rfl

theorem checkerPortS (n : Net) (hn : n.Fin) (hnm : Named n) (hb : netRightB n = true) (a : Int) (r : Bool) (s : ByteArray) :
    Sy.Spec Tryz.prog 30 [.ref 10 (chkSV n a r) 0, strSV s] [] (intSV (portI n s)) [] := contract Γ hm 100 F30 Tryz.ntmps30 rfl fun F hF => by
  have hq : ∀ p ∈ n.ports, 0 ≤ p.dev ∧ p.dev.toNat < n.devices.length := fun p hp => by
    obtain ⟨i, hi, he⟩ := List.mem_iff_getElem.1 hp
    have := e_port_dev hb hi
    rwa [he] at this
  have q := indexFuncS_Port n.ports (isPort n s) 80 [] [.ref 1 (.ref 10 (chkSV n a r) 0) 0, .ref 1 (strSV s) 0] rfl (fun p hp => ⟨⟨_, _, F80⟩, isPortC n hnm a r s p hp (hq p hp)⟩) hn.ports
  ((conv=>whnf);repeat((first|refine aF ?_|refine aT ?_);(first|refine rG Γ hm ?_|refine rD Γ hm (by kernel_rfl) ?_);conv=>whnf))
  refine G_box 2 1 (.ref 10 (chkSV n a r) 0) rfl rfl rfl ?_
  refine G_box 3 1 (strSV s) rfl rfl rfl ?_
  refine call0 q F79 rfl rfl rfl rfl rfl ?_
  ((first|refine rG Γ hm ?_|refine rD Γ hm (by kernel_rfl) ?_);(conv=>whnf);repeat((first|refine aF ?_|refine aT ?_);(first|refine rG Γ hm ?_|refine rD Γ hm (by kernel_rfl) ?_);conv=>whnf))
  exact done0 rfl (.cons .tmp .nil) rfl rfl

/-- The first domain with a text; -1. -/
def isDomT (n : Net) (s : ByteArray) (i : Nat) : Bool := domT n i == s
def domTextI (n : Net) (s : ByteArray) : Int := match (List.range n.domains.length).find? (isDomT n s) with | some i => i | none => -1

theorem domTextI_found {n : Net} {s : ByteArray} {j : Nat} (h : ∀ i, i < j → isDomT n s i = false) (hj : j < n.domains.length) (hjt : isDomT n s j = true) : domTextI n s = j := by
  have : (List.range n.domains.length).find? (isDomT n s) = some j := by
    rw [List.find?_range_eq_some]
    exact ⟨hjt, by simpa using hj, fun i hi => by simp [h i hi]⟩
  rw [domTextI, this]
theorem domTextI_none {n : Net} {s : ByteArray} (h : ∀ i, i < n.domains.length → isDomT n s i = false) : domTextI n s = -1 := by
  have : (List.range n.domains.length).find? (isDomT n s) = none := by
    rw [List.find?_eq_none]
    intro x hx
    simp [h x (by simpa using hx)]
  rw [domTextI, this]

theorem checkerDomainS (n : Net) (hn : n.Fin) (hnm : Named n) (a : Int) (r : Bool) (s : ByteArray) :
    Sy.Spec Tryz.prog 31 [.ref 10 (chkSV n a r) 0, strSV s] [] (intSV (domTextI n s)) [] := contract Γ hm 100 F31 Tryz.ntmps31 rfl fun F hF => by
  have hsd := hn.domains
  unfold Short at hsd
  ((conv=>whnf);repeat((first|refine aF ?_|refine aT ?_);(first|refine rG Γ hm ?_|refine rD Γ hm (by kernel_rfl) ?_);conv=>whnf))
  refine G_countP n.domains.length (fun j => ∀ i, i < j → isDomT n s i = false) (fun j => [(0, .ref 10 (chkSV n a r) 0), (1, strSV s), (11, intSV n.domains.length), (12, intSV j)]) (fun _ => []) [] (fun i hi => absurd hi (by omega))
    ⟨⟨rfl, rfl, rfl, rfl, rfl, rfl, rfl, rfl, trivial⟩, trivial, rfl, rfl⟩ ?_
  intro j hj hI
  have q := domTextS n hn hnm j
  have hjt : isDomT n s j = (domT n j == s) := rfl
  ((first|refine rG Γ hm ?_|refine rD Γ hm (by kernel_rfl) ?_);(conv=>whnf);repeat((first|refine aF ?_|refine aT ?_);(first|refine rG Γ hm ?_|refine rD Γ hm (by kernel_rfl) ?_);conv=>whnf))
  refine ⟨fun h => ?_, fun h => ?_⟩
  · have hlt : j < n.domains.length := by simpa using h
    ((first|refine rG Γ hm ?_|refine rD Γ hm (by kernel_rfl) ?_);(conv=>whnf);repeat((first|refine aF ?_|refine aT ?_);(first|refine rG Γ hm ?_|refine rD Γ hm (by kernel_rfl) ?_);conv=>whnf))
    refine call0 q F18 rfl rfl rfl rfl rfl ?_
    ((first|refine rG Γ hm ?_|refine rD Γ hm (by kernel_rfl) ?_);(conv=>whnf);repeat((first|refine aF ?_|refine aT ?_);(first|refine rG Γ hm ?_|refine rD Γ hm (by kernel_rfl) ?_);conv=>whnf))
    refine ⟨fun h2 => ?_, fun h2 => ?_⟩
    · rw [domTextI_found hI hlt (hjt.trans h2)]
      ((first|refine rG Γ hm ?_|refine rD Γ hm (by kernel_rfl) ?_);(conv=>whnf);repeat((first|refine aF ?_|refine aT ?_);(first|refine rG Γ hm ?_|refine rD Γ hm (by kernel_rfl) ?_);conv=>whnf))
      exact done0 rfl (.cons .tmp .nil) rfl rfl
    · ((first|refine rG Γ hm ?_|refine rD Γ hm (by kernel_rfl) ?_);(conv=>whnf);repeat((first|refine aF ?_|refine aT ?_);(first|refine rG Γ hm ?_|refine rD Γ hm (by kernel_rfl) ?_);conv=>whnf))
      refine ⟨by unfold I64; omega, ?_⟩
      ((conv=>whnf);repeat((first|refine aF ?_|refine aT ?_);(first|refine rG Γ hm ?_|refine rD Γ hm (by kernel_rfl) ?_);conv=>whnf))
      refine G_nextP [] hI (by omega) (fun i hi => ?_) ⟨⟨rfl, rfl, rfl, rfl, rfl, rfl, rfl, rfl, trivial⟩, trivial, rfl, rfl⟩
      by_cases hij : i = j
      · subst hij; exact hjt.trans h2
      · exact hI i (by omega)
  · have : j = n.domains.length := by have := of_decide_eq_false h; omega
    subst this
    rw [domTextI_none hI]
    ((first|refine rG Γ hm ?_|refine rD Γ hm (by kernel_rfl) ?_);(conv=>whnf);repeat((first|refine aF ?_|refine aT ?_);(first|refine rG Γ hm ?_|refine rD Γ hm (by kernel_rfl) ?_);conv=>whnf))
    exact done0 rfl (.cons .tmp .nil) rfl rfl

/-- Is a port one for hosts? -/
def hostB (n : Net) (i : Int) : Bool := decide (0 ≤ i) && decide ((nth n.ports i).link < 0)

theorem checkerHostS (n : Net) (a : Int) (r : Bool) (i : Int) (hi : i < n.ports.length) :
    Sy.Spec Tryz.prog 32 [.ref 10 (chkSV n a r) 0, intSV i] [] (boolSV (hostB n i)) [] := contract Γ hm 100 F32 Tryz.ntmps32 rfl fun F hF => by
  ((conv=>whnf);repeat((first|refine aF ?_|refine aT ?_);(first|refine rG Γ hm ?_|refine rD Γ hm (by kernel_rfl) ?_);conv=>whnf))
  refine ⟨fun h => ?_, fun h => ?_⟩
  · have h0 : 0 ≤ i := of_decide_eq_true h
    have hk : i.toNat < n.ports.length := by omega
    rw [hostB, nth_eq hk, decide_eq_true h0, Bool.true_and]
    obtain ⟨p, hp⟩ : ∃ p, n.ports[i.toNat]'hk = p := ⟨_, rfl⟩
    rw [hp]
    ((first|refine rG Γ hm ?_|refine rD Γ hm (by kernel_rfl) ?_);(conv=>whnf);repeat((first|refine aF ?_|refine aT ?_);(first|refine rG Γ hm ?_|refine rD Γ hm (by kernel_rfl) ?_);conv=>whnf))
    refine ⟨rfl, h0, hk, ?_⟩
    rw [hp]
    ((conv=>whnf);repeat((first|refine aF ?_|refine aT ?_);(first|refine rG Γ hm ?_|refine rD Γ hm (by kernel_rfl) ?_);conv=>whnf))
    exact done0 rfl (.cons .tmp .nil) rfl rfl
  · have h0 : ¬ 0 ≤ i := of_decide_eq_false h
    rw [hostB, decide_eq_false h0, Bool.false_and]
    ((first|refine rG Γ hm ?_|refine rD Γ hm (by kernel_rfl) ?_);(conv=>whnf);repeat((first|refine aF ?_|refine aT ?_);(first|refine rG Γ hm ?_|refine rD Γ hm (by kernel_rfl) ?_);conv=>whnf))
    exact done0 rfl (.cons .tmp .nil) rfl rfl

theorem checkerMemberS (n : Net) (hn : n.Fin) (a : Int) (r : Bool) (port d : Int) :
    Sy.Spec Tryz.prog 33 [.ref 10 (chkSV n a r) 0, intSV port, intSV d] [] (boolSV (inB (membersT n d) port)) [] := contract Γ hm 100 F33 Tryz.ntmps33 rfl fun F hF => by
  have q := namesMembersS n hn d
  have q2 := containsS (membersT n d) port (membersT_short n hn d)
  generalize membersT n d = l at *
  ((conv=>whnf);repeat((first|refine aF ?_|refine aT ?_);(first|refine rG Γ hm ?_|refine rD Γ hm (by kernel_rfl) ?_);conv=>whnf))
  refine call0 q F56 rfl rfl rfl rfl rfl ?_
  ((first|refine rG Γ hm ?_|refine rD Γ hm (by kernel_rfl) ?_);(conv=>whnf);repeat((first|refine aF ?_|refine aT ?_);(first|refine rG Γ hm ?_|refine rD Γ hm (by kernel_rfl) ?_);conv=>whnf))
  refine call0 q2 F55 rfl rfl rfl rfl rfl ?_
  ((first|refine rG Γ hm ?_|refine rD Γ hm (by kernel_rfl) ?_);(conv=>whnf);repeat((first|refine aF ?_|refine aT ?_);(first|refine rG Γ hm ?_|refine rD Γ hm (by kernel_rfl) ?_);conv=>whnf))
  exact done0 rfl (.cons .tmp .nil) rfl rfl

end Go.Sy.YtlfopmhekhifoaaGreatDoor
