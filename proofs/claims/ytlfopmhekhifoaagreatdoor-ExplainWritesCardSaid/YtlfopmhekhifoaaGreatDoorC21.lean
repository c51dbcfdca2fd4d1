/-
  Contracts: the search for a way (witness): states met. Contracts: the search for a way: what a state's hops lead to. Contracts: the search for a way: a state extended.
-/
import Derived.Test.YtlfopmhekhifoaaGreatDoorC20
import Derived.Test.YtlfopmhekhifoaaGreatDoorC4

namespace Go.Sy.YtlfopmhekhifoaaGreatDoor
open Go.Proofs
-- SIMP: placeB

attribute [local irreducible] Go.Sy.G Go.Sy.DR
set_option maxRecDepth 20000
set_option maxHeartbeats 4000000

/-- Is a number the place of a port for hosts? -/
def hostP (n : Net) (i : Int) : Bool := decide (0 ≤ i) && decide (i < n.ports.length) && decide ((nth n.ports i).link < 0)

theorem witHostS (n : Net) (i : Int) : Sy.Spec Tryz.prog 53 [netSV n, intSV i] [] (boolSV (hostP n i)) [] := contract Γ hm 100 F53 Tryz.ntmps53 rfl fun F hF => by
  ((conv=>whnf);repeat((first|refine aF ?_|refine aT ?_);(first|refine rG Γ hm ?_|refine rD Γ hm (by kernel_rfl) ?_);conv=>whnf))
  refine ⟨fun h => ?_, fun h => ?_⟩
  · have h1 : 0 ≤ i := of_decide_eq_true h
    refine G_box 2 8 (netSV n) rfl rfl rfl ?_
    ((first|refine rG Γ hm ?_|refine rD Γ hm (by kernel_rfl) ?_);(conv=>whnf);repeat((first|refine aF ?_|refine aT ?_);(first|refine rG Γ hm ?_|refine rD Γ hm (by kernel_rfl) ?_);conv=>whnf))
    refine ⟨fun h => ?_, fun h => ?_⟩
    · have h2 : i < n.ports.length := of_decide_eq_true h
      have hk : i.toNat < n.ports.length := by omega
      rw [hostP, nth_eq hk, decide_eq_true h1, decide_eq_true h2, Bool.true_and, Bool.true_and]
      obtain ⟨p, hp⟩ : ∃ p, n.ports[i.toNat]'hk = p := ⟨_, rfl⟩
      rw [hp]
      ((first|refine rG Γ hm ?_|refine rD Γ hm (by kernel_rfl) ?_);(conv=>whnf);repeat((first|refine aF ?_|refine aT ?_);(first|refine rG Γ hm ?_|refine rD Γ hm (by kernel_rfl) ?_);conv=>whnf))
      refine ⟨rfl, h1, hk, ?_⟩
      rw [hp]
      ((conv=>whnf);repeat((first|refine aF ?_|refine aT ?_);(first|refine rG Γ hm ?_|refine rD Γ hm (by kernel_rfl) ?_);conv=>whnf))
      exact done0 rfl (.cons .tmp .nil) rfl rfl
    · have h2 : ¬ i < n.ports.length := of_decide_eq_false h
      rw [hostP, decide_eq_false h2, Bool.and_false, Bool.false_and]
      ((first|refine rG Γ hm ?_|refine rD Γ hm (by kernel_rfl) ?_);(conv=>whnf);repeat((first|refine aF ?_|refine aT ?_);(first|refine rG Γ hm ?_|refine rD Γ hm (by kernel_rfl) ?_);conv=>whnf))
      exact done0 rfl (.cons .tmp .nil) rfl rfl
  · have h1 : ¬ 0 ≤ i := of_decide_eq_false h
    rw [hostP, decide_eq_false h1, Bool.false_and, Bool.false_and]
    ((first|refine rG Γ hm ?_|refine rD Γ hm (by kernel_rfl) ?_);(conv=>whnf);repeat((first|refine aF ?_|refine aT ?_);(first|refine rG Γ hm ?_|refine rD Γ hm (by kernel_rfl) ?_);conv=>whnf))
    exact done0 rfl (.cons .tmp .nil) rfl rfl

/-- A state that was found. -/
structure Fnd where
  (domain kind : Int) (hop : Hop) (ahead : Int)
abbrev fndSV (f : Fnd) : SV := .agg [intSV f.domain, intSV f.kind, intSV f.hop.kind, intSV f.hop.port, intSV f.hop.domain, u32SV f.hop.addr, intSV f.ahead]
instance : Inhabited Fnd := ⟨⟨0, 0, default, 0⟩⟩

/-- What was met, and found. -/
structure Srch where
  (m0 m1 : List Bool) (list : List Fnd)

abbrev stSV (d k : Int) : SV := .agg [intSV d, intSV k]
abbrev srchO (n : Net) (S : Srch) : Obs := [(0, .box [.sl 5 deviceSV n.devices, .sl 7 portSV n.ports, .sl 3 linkSV n.links, .sl 6 domainSV n.domains, .sl 4 staticSV n.statics, .sl 4 floodSV n.floods, .sl 5 vrfSV n.vrfs, .sl 5 irbSV n.irbs, .osl 1, .osl 2, .osl 3]),
  (1, .row 1 boolSV S.m0), (2, .row 1 boolSV S.m1), (3, .row 7 fndSV S.list)]

/-- The same, with the list under another name. -/
abbrev srchN (n : Net) (S : Srch) : Obs := [(0, .box [.sl 5 deviceSV n.devices, .sl 7 portSV n.ports, .sl 3 linkSV n.links, .sl 6 domainSV n.domains, .sl 4 staticSV n.statics, .sl 4 floodSV n.floods, .sl 5 vrfSV n.vrfs, .sl 5 irbSV n.irbs, .osl 1, .osl 2, .osl 4]),
  (1, .row 1 boolSV S.m0), (2, .row 1 boolSV S.m1), (3, .non), (4, .row 7 fndSV S.list)]

def metB (S : Srch) (d k : Int) : Bool := if k = 0 then nth S.m0 d else nth S.m1 d
def meetN (S : Srch) (d k : Int) (h : Hop) (ahead : Int) : Srch :=
  if k = 0 then ⟨S.m0.set d.toNat true, S.m1, S.list ++ [⟨d, k, h, ahead⟩]⟩ else ⟨S.m0, S.m1.set d.toNat true, S.list ++ [⟨d, k, h, ahead⟩]⟩
def meetT (S : Srch) (d k : Int) (h : Hop) (ahead : Int) : Srch := if metB S d k = true then S else meetN S d k h ahead

theorem meet0S (n : Net) (S : Srch) (d : Int) (h : Hop) (ahead : Int) (hd : 0 ≤ d ∧ d.toNat < S.m0.length) (hl : Short S.list) :
    Sy.Spec Tryz.prog 97 [.ptr 0 0, stSV d 0, hopSV h, intSV ahead] (srchO n S) (.tup []) (srchN n (meetT S d 0 h ahead)) := contract Γ hm 100 F97 Tryz.ntmps97 rfl fun F hF => by
  unfold Short at hl
  have hlk := meetT.eq_1 S d 0 h ahead
  rw [metB, if_pos rfl, nth_eq hd.2, show meetN S d 0 h ahead = ⟨S.m0.set d.toNat true, S.m1, S.list ++ [⟨d, 0, h, ahead⟩]⟩ from if_pos rfl] at hlk
  generalize meetT S d 0 h ahead = res at *
  ((conv=>whnf);repeat((first|refine aF ?_|refine aT ?_);(first|refine rG Γ hm ?_|refine rD Γ hm (by kernel_rfl) ?_);conv=>whnf))
  refine ⟨by decide, by decide, ?_⟩
  ((conv=>whnf);repeat((first|refine aF ?_|refine aT ?_);(first|refine rG Γ hm ?_|refine rD Γ hm (by kernel_rfl) ?_);conv=>whnf))
  refine ⟨hd.1, hd.2, ?_⟩
  ((conv=>whnf);repeat((first|refine aF ?_|refine aT ?_);(first|refine rG Γ hm ?_|refine rD Γ hm (by kernel_rfl) ?_);conv=>whnf))
  refine ⟨rfl, hd.2, ?_⟩
  ((conv=>whnf);repeat((first|refine aF ?_|refine aT ?_);(first|refine rG Γ hm ?_|refine rD Γ hm (by kernel_rfl) ?_);conv=>whnf))
  refine ⟨(by kernel_rfl), ?_⟩
  ((conv=>whnf);repeat((first|refine aF ?_|refine aT ?_);(first|refine rG Γ hm ?_|refine rD Γ hm (by kernel_rfl) ?_);conv=>whnf))
  refine ⟨fun h1 => ?_, fun h1 => ?_⟩
  rotate_left
  · rw [if_pos (by simpa using h1)] at hlk
    subst hlk
    refine G_rename 3 1000 rfl rfl (by decide) ?_
    ((first|refine rG Γ hm ?_|refine rD Γ hm (by kernel_rfl) ?_);(conv=>whnf);repeat((first|refine aF ?_|refine aT ?_);(first|refine rG Γ hm ?_|refine rD Γ hm (by kernel_rfl) ?_);conv=>whnf))
    exact done_end rfl .nil [(4, 1000)] (srchN n res) (fun _ h => h) rfl rfl ⟨trivial, ⟨.inl rfl, rfl, .inl rfl, rfl, .inl rfl, rfl, .inl rfl, rfl, .inl rfl, rfl, trivial⟩, rfl, rfl⟩
  rw [if_neg (by simpa using h1)] at hlk
  subst hlk
  ((first|refine rG Γ hm ?_|refine rD Γ hm (by kernel_rfl) ?_);(conv=>whnf);repeat((first|refine aF ?_|refine aT ?_);(first|refine rG Γ hm ?_|refine rD Γ hm (by kernel_rfl) ?_);conv=>whnf))
  refine ⟨by decide, by decide, ?_⟩
  ((conv=>whnf);repeat((first|refine aF ?_|refine aT ?_);(first|refine rG Γ hm ?_|refine rD Γ hm (by kernel_rfl) ?_);conv=>whnf))
  refine ⟨hd.1, hd.2, ?_⟩
  ((conv=>whnf);repeat((first|refine aF ?_|refine aT ?_);(first|refine rG Γ hm ?_|refine rD Γ hm (by kernel_rfl) ?_);conv=>whnf))
  refine ⟨rfl, hd.2, true, rfl, rfl, ?_⟩
  ((conv=>whnf);repeat((first|refine aF ?_|refine aT ?_);(first|refine rG Γ hm ?_|refine rD Γ hm (by kernel_rfl) ?_);conv=>whnf))
  refine ⟨(by kernel_rfl), ?_⟩
  ((conv=>whnf);repeat((first|refine aF ?_|refine aT ?_);(first|refine rG Γ hm ?_|refine rD Γ hm (by kernel_rfl) ?_);conv=>whnf))
  refine stepD (good_appendT Γ.toTy 40 rfl rfl rfl rfl rfl (.row rfl) (.lit (e := fndSV) (l := [⟨d, 0, h, ahead⟩]) rfl rfl) (by simp) (by simp; omega) (by simp; omega)) (by kernel_rfl) rfl ?_
  ((first|refine rG Γ hm ?_|refine rD Γ hm (by kernel_rfl) ?_);(conv=>whnf);repeat((first|refine aF ?_|refine aT ?_);(first|refine rG Γ hm ?_|refine rD Γ hm (by kernel_rfl) ?_);conv=>whnf))
  refine ⟨(by kernel_rfl), ?_⟩
  ((conv=>whnf);repeat((first|refine aF ?_|refine aT ?_);(first|refine rG Γ hm ?_|refine rD Γ hm (by kernel_rfl) ?_);conv=>whnf))
  exact done_end rfl .nil [(4, 40)] (srchN n ⟨S.m0.set d.toNat true, S.m1, S.list ++ [⟨d, 0, h, ahead⟩]⟩) (fun _ h => h) rfl rfl ⟨trivial, ⟨.inl rfl, rfl, .inl rfl, rfl, .inl rfl, rfl, .inl rfl, rfl, .inl rfl, rfl, trivial⟩, rfl, rfl⟩

theorem meet1S (n : Net) (S : Srch) (d : Int) (h : Hop) (ahead : Int) (hd : 0 ≤ d ∧ d.toNat < S.m1.length) (hl : Short S.list) :
    Sy.Spec Tryz.prog 97 [.ptr 0 0, stSV d 1, hopSV h, intSV ahead] (srchO n S) (.tup []) (srchN n (meetT S d 1 h ahead)) := contract Γ hm 100 F97 Tryz.ntmps97 rfl fun F hF => by
  unfold Short at hl
  have hlk := meetT.eq_1 S d 1 h ahead
  rw [show metB S d 1 = nth S.m1 d from if_neg (by decide), nth_eq hd.2, show meetN S d 1 h ahead = ⟨S.m0, S.m1.set d.toNat true, S.list ++ [⟨d, 1, h, ahead⟩]⟩ from if_neg (by decide)] at hlk
  generalize meetT S d 1 h ahead = res at *
  ((conv=>whnf);repeat((first|refine aF ?_|refine aT ?_);(first|refine rG Γ hm ?_|refine rD Γ hm (by kernel_rfl) ?_);conv=>whnf))
  refine ⟨by decide, by decide, ?_⟩
  ((conv=>whnf);repeat((first|refine aF ?_|refine aT ?_);(first|refine rG Γ hm ?_|refine rD Γ hm (by kernel_rfl) ?_);conv=>whnf))
  refine ⟨hd.1, hd.2, ?_⟩
  ((conv=>whnf);repeat((first|refine aF ?_|refine aT ?_);(first|refine rG Γ hm ?_|refine rD Γ hm (by kernel_rfl) ?_);conv=>whnf))
  refine ⟨rfl, hd.2, ?_⟩
  ((conv=>whnf);repeat((first|refine aF ?_|refine aT ?_);(first|refine rG Γ hm ?_|refine rD Γ hm (by kernel_rfl) ?_);conv=>whnf))
  refine ⟨(by kernel_rfl), ?_⟩
  ((conv=>whnf);repeat((first|refine aF ?_|refine aT ?_);(first|refine rG Γ hm ?_|refine rD Γ hm (by kernel_rfl) ?_);conv=>whnf))
  refine ⟨fun h1 => ?_, fun h1 => ?_⟩
  rotate_left
  · rw [if_pos (by simpa using h1)] at hlk
    subst hlk
    refine G_rename 3 1000 rfl rfl (by decide) ?_
    ((first|refine rG Γ hm ?_|refine rD Γ hm (by kernel_rfl) ?_);(conv=>whnf);repeat((first|refine aF ?_|refine aT ?_);(first|refine rG Γ hm ?_|refine rD Γ hm (by kernel_rfl) ?_);conv=>whnf))
    exact done_end rfl .nil [(4, 1000)] (srchN n res) (fun _ h => h) rfl rfl ⟨trivial, ⟨.inl rfl, rfl, .inl rfl, rfl, .inl rfl, rfl, .inl rfl, rfl, .inl rfl, rfl, trivial⟩, rfl, rfl⟩
  rw [if_neg (by simpa using h1)] at hlk
  subst hlk
  ((first|refine rG Γ hm ?_|refine rD Γ hm (by kernel_rfl) ?_);(conv=>whnf);repeat((first|refine aF ?_|refine aT ?_);(first|refine rG Γ hm ?_|refine rD Γ hm (by kernel_rfl) ?_);conv=>whnf))
  refine ⟨by decide, by decide, ?_⟩
  ((conv=>whnf);repeat((first|refine aF ?_|refine aT ?_);(first|refine rG Γ hm ?_|refine rD Γ hm (by kernel_rfl) ?_);conv=>whnf))
  refine ⟨hd.1, hd.2, ?_⟩
  ((conv=>whnf);repeat((first|refine aF ?_|refine aT ?_);(first|refine rG Γ hm ?_|refine rD Γ hm (by kernel_rfl) ?_);conv=>whnf))
  refine ⟨rfl, hd.2, true, rfl, rfl, ?_⟩
  ((conv=>whnf);repeat((first|refine aF ?_|refine aT ?_);(first|refine rG Γ hm ?_|refine rD Γ hm (by kernel_rfl) ?_);conv=>whnf))
  refine ⟨(by kernel_rfl), ?_⟩
  ((conv=>whnf);repeat((first|refine aF ?_|refine aT ?_);(first|refine rG Γ hm ?_|refine rD Γ hm (by kernel_rfl) ?_);conv=>whnf))
  refine stepD (good_appendT Γ.toTy 40 rfl rfl rfl rfl rfl (.row rfl) (.lit (e := fndSV) (l := [⟨d, 1, h, ahead⟩]) rfl rfl) (by simp) (by simp; omega) (by simp; omega)) (by kernel_rfl) rfl ?_
  ((first|refine rG Γ hm ?_|refine rD Γ hm (by kernel_rfl) ?_);(conv=>whnf);repeat((first|refine aF ?_|refine aT ?_);(first|refine rG Γ hm ?_|refine rD Γ hm (by kernel_rfl) ?_);conv=>whnf))
  refine ⟨(by kernel_rfl), ?_⟩
  ((conv=>whnf);repeat((first|refine aF ?_|refine aT ?_);(first|refine rG Γ hm ?_|refine rD Γ hm (by kernel_rfl) ?_);conv=>whnf))
  exact done_end rfl .nil [(4, 40)] (srchN n ⟨S.m0, S.m1.set d.toNat true, S.list ++ [⟨d, 1, h, ahead⟩]⟩) (fun _ h => h) rfl rfl ⟨trivial, ⟨.inl rfl, rfl, .inl rfl, rfl, .inl rfl, rfl, .inl rfl, rfl, .inl rfl, rfl, trivial⟩, rfl, rfl⟩

/-- What a search is like, always. -/
structure Srch.OK (n : Net) (S : Srch) : Prop where
  l0 : S.m0.length = n.domains.length
  l1 : S.m1.length = n.domains.length
  at_ : ∀ f ∈ S.list, (0 ≤ f.domain ∧ f.domain.toNat < n.domains.length) ∧ (f.kind = 0 ∨ f.kind = 1)
  len : S.list.length ≤ S.m0.count true + S.m1.count true

theorem Srch.OK.le {n : Net} {S : Srch} (h : S.OK n) : S.list.length ≤ 2 * n.domains.length := by
  have h1 : S.m0.count true ≤ S.m0.length := List.count_le_length
  have h2 : S.m1.count true ≤ S.m1.length := List.count_le_length
  have := h.len
  rw [h.l0] at h1
  rw [h.l1] at h2
  omega

theorem count_set {l : List Bool} {i : Nat} (h : i < l.length) (hi : l[i] = false) : (l.set i true).count true = l.count true + 1 := by
  rw [List.count_set h, hi]
  simp

theorem Srch.OK.meet {n : Net} {S : Srch} (h : S.OK n) {d k : Int} (hd : 0 ≤ d ∧ d.toNat < n.domains.length) (hk : k = 0 ∨ k = 1) (hp : Hop) (a : Int) : (meetT S d k hp a).OK n := by
  rw [meetT]
  split
  · exact h
  rename_i hmt
  have h0 : d.toNat < S.m0.length := by rw [h.l0]; exact hd.2
  have h1 : d.toNat < S.m1.length := by rw [h.l1]; exact hd.2
  rcases hk with rfl | rfl
  · rw [metB, if_pos rfl, nth_eq h0] at hmt
    rw [meetN, if_pos rfl]
    refine ⟨by simp [h.l0], h.l1, fun f hf => ?_, ?_⟩
    · rcases List.mem_append.1 hf with hf | hf
      · exact h.at_ f hf
      · rw [List.mem_singleton] at hf
        subst hf
        exact ⟨hd, .inl rfl⟩
    · rw [count_set h0 (by simpa using hmt), List.length_append, List.length_singleton]
      have := h.len
      show _ ≤ _ + S.m1.count true
      omega
  · rw [metB, if_neg (by decide), nth_eq h1] at hmt
    rw [meetN, if_neg (by decide)]
    refine ⟨h.l0, by simp [h.l1], fun f hf => ?_, ?_⟩
    · rcases List.mem_append.1 hf with hf | hf
      · exact h.at_ f hf
      · rw [List.mem_singleton] at hf
        subst hf
        exact ⟨hd, .inr rfl⟩
    · rw [count_set h1 (by simpa using hmt), List.length_append, List.length_singleton]
      have := h.len
      show _ ≤ S.m0.count true + _
      omega

end Go.Sy.YtlfopmhekhifoaaGreatDoor

namespace Go.Sy.YtlfopmhekhifoaaGreatDoor
open Go.Proofs
-- SIMP: placeB

attribute [local irreducible] Go.Sy.G Go.Sy.DR
set_option maxRecDepth 20000
set_option maxHeartbeats 4000000

theorem e_member {n : Net} (h : netRightB n = true) {i : Nat} (hi : i < n.ports.length) {v : Int} (hv : memberB n.ports[i] v = true) : 0 ≤ domI n n.ports[i].dev v ∧ (domI n n.ports[i].dev v).toNat < n.domains.length := by
  have hp := e_port h hi
  simp only [portB, Bool.and_eq_true, Bool.not_eq_true'] at hp
  simp only [memberB, Bool.and_eq_true, bne_iff_ne, Bool.or_eq_true, beq_iff_eq] at hv
  have h0 : 0 ≤ domI n n.ports[i].dev v := by
    rcases hv.2 with h1 | h1
    · have h2 := hp.1.2
      have h3 := hp.1.1.1.1.1.1.1.2
      rw [h1] at hv ⊢
      have h4 : decide (0 < n.ports[i].native) = true := by
        simp only [decide_eq_true_eq] at h3 ⊢
        omega
      rw [h4] at h2
      simpa [netDomain] using h2
    · have h2 := hp.1.1.2
      obtain ⟨x, hx, e⟩ := List.any_eq_true.1 h1
      obtain ⟨j, hj, rfl⟩ := List.mem_iff_getElem.1 hx
      have h3 := allB_iff.1 h2 j hj
      simp only [beq_iff_eq] at e
      rw [e] at h3
      simpa [netDomain] using h3
  refine ⟨h0, ?_⟩
  have := idxI_lt (fun d : Domain => d.dev == n.ports[i].dev && d.vlan == v) n.domains
  have e : domI n n.ports[i].dev v = idxI (fun d : Domain => d.dev == n.ports[i].dev && d.vlan == v) n.domains := rfl
  omega

theorem linkDomT_in {n : Net} {i v : Int} (h : (linkDomT n i v).2 = true) : 0 ≤ (linkDomT n i v).1 ∧ (linkDomT n i v).1.toNat < n.domains.length := by
  unfold linkDomT at h ⊢
  split at h
  · rename_i hc
    rw [if_pos hc]
    have hth := crossT_there hc
    unfold crossT at hc hth ⊢
    split at hc
    · rename_i h1
      rw [if_pos h1] at hth ⊢
      have hb := (otherT_there h1.1).2.1
      have h2 := h1.2.2
      rw [crossTo] at h2 ⊢
      rw [domainT, if_pos hb]
      dsimp only at hth ⊢
      rw [nth_eq hth.2] at h2 ⊢
      refine e_member hb hth.2 ?_
      simp only [memberB, Bool.and_eq_true, bne_iff_ne, Bool.or_eq_true, beq_iff_eq]
      refine ⟨h2, ?_⟩
      split
      · exact .inl rfl
      · rename_i h3
        rw [if_neg h3] at h2
        split
        · rename_i h4
          exact .inr h4
        · rename_i h4
          rw [if_neg h4] at h2
          exact absurd rfl h2
    · cases hc
  · cases h

theorem e_peer {n : Net} (h : netRightB n = true) {i : Nat} (hi : i < n.domains.length) {p : Int} (hp : p ∈ n.domains[i].peers) : 0 ≤ p ∧ p.toNat < n.domains.length := by
  simp only [netRightB, Bool.and_eq_true] at h
  have h1 := allB_iff.1 h.1.1.1.1.1.1.2 i hi
  obtain ⟨j, hj, rfl⟩ := List.mem_iff_getElem.1 hp
  have h2 := allB_iff.1 h1 j hj
  simp only [peerB, placeB, Bool.and_eq_true, decide_eq_true_eq] at h2
  omega

theorem hopsT_in {n : Net} {d : Int} {h : Hop} (hh : h ∈ hopsT n d) : 0 ≤ h.domain ∧ h.domain.toNat < n.domains.length := by
  rw [hopsT] at hh
  split at hh
  · rename_i hd
    have hk : d.toNat < n.domains.length := by have := hd.1; omega
    rw [hopsL, nth_eq hk] at hh
    rcases List.mem_append.1 hh with hh | hh
    · obtain ⟨p, _, hp⟩ := List.mem_filterMap.1 hh
      rw [linkHop] at hp
      split at hp
      · rename_i hl
        simp only [Option.some.injEq] at hp
        subst hp
        exact linkDomT_in hl
      · cases hp
    · obtain ⟨p, hp, rfl⟩ := List.mem_map.1 hh
      exact e_peer hd.2 hk hp
  · cases hh

theorem routesT_in {n : Net} {d : Int} {q : Lead} (hq : q ∈ routesT n d) : 0 ≤ q.domain ∧ q.domain.toNat < n.domains.length := by
  rw [routesT] at hq
  split at hq
  · rename_i hc
    obtain ⟨i, hi, hp⟩ := List.mem_filterMap.1 hq
    rw [leadF] at hp
    split at hp
    · simp only [Option.some.injEq] at hp
      subst hp
      have hi' : ((i : Nat) : Int).toNat < n.irbs.length := by simpa using hi
      show 0 ≤ (nth n.irbs i).domain ∧ _
      rw [nth_eq hi']
      exact (e_irb_facts hc.2.2 hi').1
    · cases hp
  · cases hq

end Go.Sy.YtlfopmhekhifoaaGreatDoor

namespace Go.Sy.YtlfopmhekhifoaaGreatDoor
open Go.Proofs
-- SIMP: placeB

attribute [local irreducible] Go.Sy.G Go.Sy.DR
set_option maxRecDepth 20000
set_option maxHeartbeats 8000000

def ext1 (S : Srch) (k i : Int) (l : List Hop) : Srch := l.foldl (fun S h => meetT S h.domain k h i) S
def ext2 (S : Srch) (i : Int) (l : List Lead) : Srch := l.foldl (fun S q => meetT S q.domain 1 ⟨3, 0, q.domain, q.addr⟩ i) S

def extT (n : Net) (S : Srch) (i : Int) : Srch :=
  if (nth S.list i).kind = 0 then ext2 (ext1 S 0 i (hopsT n (nth S.list i).domain)) i (routesT n (nth S.list i).domain) else ext1 S 1 i (hopsT n (nth S.list i).domain)

theorem ext1_succ (S : Srch) (k i : Int) {l : List Hop} {j : Nat} {h : Hop} (hj : j < l.length) (hh : l[j] = h) : ext1 S k i (l.take (j + 1)) = meetT (ext1 S k i (l.take j)) h.domain k h i := by
  subst hh
  rw [ext1, List.take_add_one, List.getElem?_eq_getElem hj, List.foldl_append]
  rfl
theorem ext2_succ (S : Srch) (i : Int) {l : List Lead} {j : Nat} {q : Lead} (hj : j < l.length) (hh : l[j] = q) : ext2 S i (l.take (j + 1)) = meetT (ext2 S i (l.take j)) q.domain 1 ⟨3, 0, q.domain, q.addr⟩ i := by
  subst hh
  rw [ext2, List.take_add_one, List.getElem?_eq_getElem hj, List.foldl_append]
  rfl

theorem Srch.OK.ext1 {n : Net} {k i : Int} (hk : k = 0 ∨ k = 1) : ∀ {l : List Hop} {S : Srch}, S.OK n → (∀ h ∈ l, 0 ≤ h.domain ∧ h.domain.toNat < n.domains.length) → (ext1 S k i l).OK n
  | [], S, h, _ => h
  | x :: l, S, h, hl => Srch.OK.ext1 hk (l := l) (h.meet (hl x (by simp)) hk x i) (fun y hy => hl y (by simp [hy]))
theorem Srch.OK.ext2 {n : Net} {i : Int} : ∀ {l : List Lead} {S : Srch}, S.OK n → (∀ h ∈ l, 0 ≤ h.domain ∧ h.domain.toNat < n.domains.length) → (ext2 S i l).OK n
  | [], S, h, _ => h
  | x :: l, S, h, hl => Srch.OK.ext2 (l := l) (h.meet (hl x (by simp)) (.inr rfl) _ i) (fun y hy => hl y (by simp [hy]))

theorem Srch.OK.ext {n : Net} {S : Srch} (h : S.OK n) (i : Int) : (extT n S i).OK n := by
  rw [extT]
  split
  · exact (h.ext1 (.inl rfl) (fun x hx => hopsT_in hx)).ext2 (fun x hx => routesT_in hx)
  · exact h.ext1 (.inr rfl) (fun x hx => hopsT_in hx)

theorem hopsT_short {n : Net} (hn : n.Fin) (d : Int) : (hopsT n d).length < 4294967296 := by
  have h1 := membersT_short n hn d
  unfold Short at h1
  rw [hopsT]
  split
  · rename_i hd
    have hk : d.toNat < n.domains.length := by have := hd.1; omega
    have h2 := hn.peers _ (List.getElem_mem hk)
    unfold Short at h2
    have h3 := List.length_filterMap_le (linkHop n d) (membersT n d)
    rw [hopsL, nth_eq hk, List.length_append, List.length_map]
    omega
  · decide
theorem routesT_short {n : Net} (hn : n.Fin) (d : Int) : (routesT n d).length < 4294967296 := by
  have h1 := hn.irbs
  unfold Short at h1
  rw [routesT]
  split
  · have := leadsL_length n (nth n.domains d).irb n.irbs.length
    omega
  · decide

/-- .. with a state at hand, and the list under another name. -/
abbrev srchX (n : Net) (S : Srch) (d k : Int) : Obs := [(0, .box [.sl 5 deviceSV n.devices, .sl 7 portSV n.ports, .sl 3 linkSV n.links, .sl 6 domainSV n.domains, .sl 4 staticSV n.statics, .sl 4 floodSV n.floods, .sl 5 vrfSV n.vrfs, .sl 5 irbSV n.irbs, .osl 1, .osl 2, .osl 1000]),
  (1, .row 1 boolSV S.m0), (2, .row 1 boolSV S.m1), (3, .non), (1000, .row 7 fndSV S.list), (4, .box [intSV d, intSV k])]

theorem extendS (n : Net) (hn : n.Fin) (hu : Addrs n) (hD : n.domains.length < 1000000) (S : Srch) (hS : S.OK n) (i : Int) (hi : 0 ≤ i ∧ i.toNat < S.list.length) :
    Sy.Spec Tryz.prog 58 [.ptr 0 0, intSV i] (srchO n S) (.tup []) (srchN n (extT n S i)) := contract Γ hm 100 F58 Tryz.ntmps58 rfl fun F hF => by
  have hlk := extT.eq_1 n S i
  rw [nth_eq hi.2] at hlk
  generalize extT n S i = res at *
  have hfk := (hS.at_ _ (List.getElem_mem hi.2)).2
  obtain ⟨f, hf⟩ : ∃ f, S.list[i.toNat]'hi.2 = f := ⟨_, rfl⟩
  rw [hf] at hlk hfk
  obtain ⟨d, k, hp, ah⟩ := f
  dsimp only at hlk hfk
  have q1 := reachHopsS n hn d
  have q2 := chooseRoutesS n hn hu d
  have hin1 := fun h => hopsT_in (n := n) (d := d) (h := h)
  have hin2 := fun h => routesT_in (n := n) (d := d) (q := h)
  have hs1 := hopsT_short hn d
  have hs2 := routesT_short hn d
  generalize hopsT n d = hops at *
  generalize routesT n d = leads at *
  have ok1 : ∀ k, k = 0 ∨ k = 1 → ∀ j, (ext1 S k i (hops.take j)).OK n := fun k hk j => hS.ext1 hk (fun x hx => hin1 x (List.mem_of_mem_take hx))
  have ok2 : ∀ j, (ext2 (ext1 S 0 i hops) i (leads.take j)).OK n := fun j => Srch.OK.ext2 (hS.ext1 (.inl rfl) (fun x hx => hin1 x hx)) (fun x hx => hin2 x (List.mem_of_mem_take hx))
  have hsucc := fun k j h hj hh => ext1_succ S k i (l := hops) (j := j) (h := h) hj hh
  have hsucc2 := fun j h hj hh => ext2_succ (ext1 S 0 i hops) i (l := leads) (j := j) (q := h) hj hh
  ((conv=>whnf);repeat((first|refine aF ?_|refine aT ?_);(first|refine rG Γ hm ?_|refine rD Γ hm (by kernel_rfl) ?_);conv=>whnf))
  refine ⟨hi.1, hi.2, ?_⟩
  ((conv=>whnf);repeat((first|refine aF ?_|refine aT ?_);(first|refine rG Γ hm ?_|refine rD Γ hm (by kernel_rfl) ?_);conv=>whnf))
  refine ⟨by intro e; rw [e] at hi; simp at hi, ?_⟩
  ((conv=>whnf);repeat((first|refine aF ?_|refine aT ?_);(first|refine rG Γ hm ?_|refine rD Γ hm (by kernel_rfl) ?_);conv=>whnf))
  refine ⟨rfl, hi.2, ?_⟩
  rw [hf]
  ((conv=>whnf);repeat((first|refine aF ?_|refine aT ?_);(first|refine rG Γ hm ?_|refine rD Γ hm (by kernel_rfl) ?_);conv=>whnf))
  rcases hfk with rfl | rfl
  · rw [if_pos rfl] at hlk
    have ok1 := ok1 0 (by decide)
    have hsucc := hsucc 0
    ((first|refine rG Γ hm ?_|refine rD Γ hm (by kernel_rfl) ?_);(conv=>whnf);repeat((first|refine aF ?_|refine aT ?_);(first|refine rG Γ hm ?_|refine rD Γ hm (by kernel_rfl) ?_);conv=>whnf))
    refine callD0 q1 F99 rfl rfl rfl (by kernel_rfl) rfl ?_
    ((first|refine rG Γ hm ?_|refine rD Γ hm (by kernel_rfl) ?_);(conv=>whnf);repeat((first|refine aF ?_|refine aT ?_);(first|refine rG Γ hm ?_|refine rD Γ hm (by kernel_rfl) ?_);conv=>whnf))
    refine ⟨(by kernel_rfl), ?_⟩
    ((conv=>whnf);repeat((first|refine aF ?_|refine aT ?_);(first|refine rG Γ hm ?_|refine rD Γ hm (by kernel_rfl) ?_);conv=>whnf))
    refine G_rename 3 1000 rfl rfl (by decide) ?_
    refine G_count hops.length (fun j => [(0, .ptr 0 0), (1, intSV i), (4, .ptr 4 0), (23, .sl 4 hopSV hops), (24, intSV hops.length), (25, intSV j)]) (fun j => srchX n (ext1 S 0 i (hops.take j)) d 0) []
      ⟨⟨rfl, rfl, rfl, rfl, rfl, rfl, rfl, rfl, rfl, rfl, rfl, rfl, trivial⟩, ⟨.inl rfl, rfl, .inl rfl, rfl, .inl rfl, rfl, .inl rfl, rfl, .inl rfl, rfl, .inl rfl, rfl, trivial⟩, rfl, rfl⟩ ?_
    intro j hj
    have okj := ok1 j
    have lej := okj.le
    have l0 := okj.l0
    have scj := hsucc j
    generalize hSj : ext1 S 0 i (hops.take j) = Sj at *
    ((first|refine rG Γ hm ?_|refine rD Γ hm (by kernel_rfl) ?_);(conv=>whnf);repeat((first|refine aF ?_|refine aT ?_);(first|refine rG Γ hm ?_|refine rD Γ hm (by kernel_rfl) ?_);conv=>whnf))
    refine ⟨fun h => ?_, fun h => ?_⟩
    · have hlt : j < hops.length := by simpa using h
      have hj0 : ((j : Nat) : Int).toNat < hops.length := by simpa using hlt
      obtain ⟨hp, hhp⟩ : ∃ hp, hops[((j : Nat) : Int).toNat]'hj0 = hp := ⟨_, rfl⟩
      have hdi := hin1 hp (by rw [← hhp]; exact List.getElem_mem _)
      have sc := scj hp hlt hhp
      have q3 := meet0S n Sj hp.domain hp i (by rw [l0]; exact hdi) (by unfold Short; omega)
      rw [← sc] at q3
      ((first|refine rG Γ hm ?_|refine rD Γ hm (by kernel_rfl) ?_);(conv=>whnf);repeat((first|refine aF ?_|refine aT ?_);(first|refine rG Γ hm ?_|refine rD Γ hm (by kernel_rfl) ?_);conv=>whnf))
      refine ⟨rfl, by omega, hj0, ?_⟩
      rw [hhp]
      ((conv=>whnf);repeat((first|refine aF ?_|refine aT ?_);(first|refine rG Γ hm ?_|refine rD Γ hm (by kernel_rfl) ?_);conv=>whnf))
      refine stepOp (good_call [(0, 0), (1, 1), (2, 2), (3, 1000), (4, 1001)] rfl F97 q3 rfl ⟨rfl, rfl, rfl, rfl, trivial⟩ rfl ⟨.inl rfl, .inl rfl, .inl rfl, .inl rfl, .inr rfl, trivial⟩) rfl rfl ?_
      ((first|refine rG Γ hm ?_|refine rD Γ hm (by kernel_rfl) ?_);(conv=>whnf);repeat((first|refine aF ?_|refine aT ?_);(first|refine rG Γ hm ?_|refine rD Γ hm (by kernel_rfl) ?_);conv=>whnf))
      refine ⟨by unfold I64; omega, ?_⟩
      ((conv=>whnf);repeat((first|refine aF ?_|refine aT ?_);(first|refine rG Γ hm ?_|refine rD Γ hm (by kernel_rfl) ?_);conv=>whnf))
      exact G_next [(1000, 1001)] hlt ⟨⟨rfl, rfl, rfl, rfl, rfl, rfl, rfl, rfl, rfl, rfl, rfl, rfl, trivial⟩, ⟨.inl rfl, rfl, .inl rfl, rfl, .inl rfl, rfl, .inl rfl, rfl, .inl rfl, rfl, .inl rfl, rfl, trivial⟩, rfl, rfl⟩
    · have : j = hops.length := by have := of_decide_eq_false h; omega
      subst this
      rw [List.take_length] at hSj
      simp only [hSj] at hlk ok2 hsucc2
      ((first|refine rG Γ hm ?_|refine rD Γ hm (by kernel_rfl) ?_);(conv=>whnf);repeat((first|refine aF ?_|refine aT ?_);(first|refine rG Γ hm ?_|refine rD Γ hm (by kernel_rfl) ?_);conv=>whnf))
      refine callD0 q2 F100 rfl rfl rfl (by kernel_rfl) rfl ?_
      ((first|refine rG Γ hm ?_|refine rD Γ hm (by kernel_rfl) ?_);(conv=>whnf);repeat((first|refine aF ?_|refine aT ?_);(first|refine rG Γ hm ?_|refine rD Γ hm (by kernel_rfl) ?_);conv=>whnf))
      refine ⟨(by kernel_rfl), ?_⟩
      ((conv=>whnf);repeat((first|refine aF ?_|refine aT ?_);(first|refine rG Γ hm ?_|refine rD Γ hm (by kernel_rfl) ?_);conv=>whnf))
      refine G_count leads.length (fun j => [(0, .ptr 0 0), (1, intSV i), (4, .ptr 4 0), (48, .sl 3 leadSV leads), (49, intSV leads.length), (50, intSV j)]) (fun j => srchX n (ext2 Sj i (leads.take j)) d 0) []
        ⟨⟨rfl, rfl, rfl, rfl, rfl, rfl, rfl, rfl, rfl, rfl, rfl, rfl, trivial⟩, ⟨.inl rfl, rfl, .inl rfl, rfl, .inl rfl, rfl, .inl rfl, rfl, .inl rfl, rfl, .inl rfl, rfl, trivial⟩, rfl, rfl⟩ ?_
      intro j hj
      have okj := ok2 j
      have lej := okj.le
      have l0 := okj.l1
      have scj := hsucc2 j
      generalize hSk : ext2 Sj i (leads.take j) = Sk at *
      ((first|refine rG Γ hm ?_|refine rD Γ hm (by kernel_rfl) ?_);(conv=>whnf);repeat((first|refine aF ?_|refine aT ?_);(first|refine rG Γ hm ?_|refine rD Γ hm (by kernel_rfl) ?_);conv=>whnf))
      refine ⟨fun h => ?_, fun h => ?_⟩
      · have hlt : j < leads.length := by simpa using h
        have hj0 : ((j : Nat) : Int).toNat < leads.length := by simpa using hlt
        obtain ⟨hp, hhp⟩ : ∃ hp, leads[((j : Nat) : Int).toNat]'hj0 = hp := ⟨_, rfl⟩
        have hdi := hin2 hp (by rw [← hhp]; exact List.getElem_mem _)
        have sc := scj hp hlt hhp
        have q3 := meet1S n Sk hp.domain ⟨3, 0, hp.domain, hp.addr⟩ i (by rw [l0]; exact hdi) (by unfold Short; omega)
        rw [← sc] at q3
        ((first|refine rG Γ hm ?_|refine rD Γ hm (by kernel_rfl) ?_);(conv=>whnf);repeat((first|refine aF ?_|refine aT ?_);(first|refine rG Γ hm ?_|refine rD Γ hm (by kernel_rfl) ?_);conv=>whnf))
        refine ⟨rfl, by omega, hj0, ?_⟩
        rw [hhp]
        ((conv=>whnf);repeat((first|refine aF ?_|refine aT ?_);(first|refine rG Γ hm ?_|refine rD Γ hm (by kernel_rfl) ?_);conv=>whnf))
        refine stepOp (good_call [(0, 0), (1, 1), (2, 2), (3, 1000), (4, 1001)] rfl F97 q3 rfl ⟨rfl, rfl, rfl, rfl, trivial⟩ rfl ⟨.inl rfl, .inl rfl, .inl rfl, .inl rfl, .inr rfl, trivial⟩) rfl rfl ?_
        ((first|refine rG Γ hm ?_|refine rD Γ hm (by kernel_rfl) ?_);(conv=>whnf);repeat((first|refine aF ?_|refine aT ?_);(first|refine rG Γ hm ?_|refine rD Γ hm (by kernel_rfl) ?_);conv=>whnf))
        refine ⟨by unfold I64; omega, ?_⟩
        ((conv=>whnf);repeat((first|refine aF ?_|refine aT ?_);(first|refine rG Γ hm ?_|refine rD Γ hm (by kernel_rfl) ?_);conv=>whnf))
        exact G_next [(1000, 1001)] hlt ⟨⟨rfl, rfl, rfl, rfl, rfl, rfl, rfl, rfl, rfl, rfl, rfl, rfl, trivial⟩, ⟨.inl rfl, rfl, .inl rfl, rfl, .inl rfl, rfl, .inl rfl, rfl, .inl rfl, rfl, .inl rfl, rfl, trivial⟩, rfl, rfl⟩
      · have : j = leads.length := by have := of_decide_eq_false h; omega
        subst this
        rw [List.take_length] at hSk
        rw [hSk] at hlk
        subst hlk
        ((first|refine rG Γ hm ?_|refine rD Γ hm (by kernel_rfl) ?_);(conv=>whnf);repeat((first|refine aF ?_|refine aT ?_);(first|refine rG Γ hm ?_|refine rD Γ hm (by kernel_rfl) ?_);conv=>whnf))
        exact done_end rfl .nil [(4, 1000)] (srchN n _) (fun _ h => h) rfl rfl ⟨trivial, ⟨.inl rfl, rfl, .inl rfl, rfl, .inl rfl, rfl, .inl rfl, rfl, .inl rfl, rfl, trivial⟩, rfl, rfl⟩
  · rw [if_neg (by decide)] at hlk
    clear ok2 hsucc2 q2 hs2 hin2
    have ok1 := ok1 1 (by decide)
    have hsucc := hsucc 1
    ((first|refine rG Γ hm ?_|refine rD Γ hm (by kernel_rfl) ?_);(conv=>whnf);repeat((first|refine aF ?_|refine aT ?_);(first|refine rG Γ hm ?_|refine rD Γ hm (by kernel_rfl) ?_);conv=>whnf))
    refine callD0 q1 F99 rfl rfl rfl (by kernel_rfl) rfl ?_
    ((first|refine rG Γ hm ?_|refine rD Γ hm (by kernel_rfl) ?_);(conv=>whnf);repeat((first|refine aF ?_|refine aT ?_);(first|refine rG Γ hm ?_|refine rD Γ hm (by kernel_rfl) ?_);conv=>whnf))
    refine ⟨(by kernel_rfl), ?_⟩
    ((conv=>whnf);repeat((first|refine aF ?_|refine aT ?_);(first|refine rG Γ hm ?_|refine rD Γ hm (by kernel_rfl) ?_);conv=>whnf))
    refine G_rename 3 1000 rfl rfl (by decide) ?_
    refine G_count hops.length (fun j => [(0, .ptr 0 0), (1, intSV i), (4, .ptr 4 0), (23, .sl 4 hopSV hops), (24, intSV hops.length), (25, intSV j)]) (fun j => srchX n (ext1 S 1 i (hops.take j)) d 1) []
      ⟨⟨rfl, rfl, rfl, rfl, rfl, rfl, rfl, rfl, rfl, rfl, rfl, rfl, trivial⟩, ⟨.inl rfl, rfl, .inl rfl, rfl, .inl rfl, rfl, .inl rfl, rfl, .inl rfl, rfl, .inl rfl, rfl, trivial⟩, rfl, rfl⟩ ?_
    intro j hj
    have okj := ok1 j
    have lej := okj.le
    have l0 := okj.l1
    have scj := hsucc j
    generalize hSj : ext1 S 1 i (hops.take j) = Sj at *
    ((first|refine rG Γ hm ?_|refine rD Γ hm (by kernel_rfl) ?_);(conv=>whnf);repeat((first|refine aF ?_|refine aT ?_);(first|refine rG Γ hm ?_|refine rD Γ hm (by kernel_rfl) ?_);conv=>whnf))
    refine ⟨fun h => ?_, fun h => ?_⟩
    · have hlt : j < hops.length := by simpa using h
      have hj0 : ((j : Nat) : Int).toNat < hops.length := by simpa using hlt
      obtain ⟨hp, hhp⟩ : ∃ hp, hops[((j : Nat) : Int).toNat]'hj0 = hp := ⟨_, rfl⟩
      have hdi := hin1 hp (by rw [← hhp]; exact List.getElem_mem _)
      have sc := scj hp hlt hhp
      have q3 := meet1S n Sj hp.domain hp i (by rw [l0]; exact hdi) (by unfold Short; omega)
      rw [← sc] at q3
      ((first|refine rG Γ hm ?_|refine rD Γ hm (by kernel_rfl) ?_);(conv=>whnf);repeat((first|refine aF ?_|refine aT ?_);(first|refine rG Γ hm ?_|refine rD Γ hm (by kernel_rfl) ?_);conv=>whnf))
      refine ⟨rfl, by omega, hj0, ?_⟩
      rw [hhp]
      ((conv=>whnf);repeat((first|refine aF ?_|refine aT ?_);(first|refine rG Γ hm ?_|refine rD Γ hm (by kernel_rfl) ?_);conv=>whnf))
      refine stepOp (good_call [(0, 0), (1, 1), (2, 2), (3, 1000), (4, 1001)] rfl F97 q3 rfl ⟨rfl, rfl, rfl, rfl, trivial⟩ rfl ⟨.inl rfl, .inl rfl, .inl rfl, .inl rfl, .inr rfl, trivial⟩) rfl rfl ?_
      ((first|refine rG Γ hm ?_|refine rD Γ hm (by kernel_rfl) ?_);(conv=>whnf);repeat((first|refine aF ?_|refine aT ?_);(first|refine rG Γ hm ?_|refine rD Γ hm (by kernel_rfl) ?_);conv=>whnf))
      refine ⟨by unfold I64; omega, ?_⟩
      ((conv=>whnf);repeat((first|refine aF ?_|refine aT ?_);(first|refine rG Γ hm ?_|refine rD Γ hm (by kernel_rfl) ?_);conv=>whnf))
      exact G_next [(1000, 1001)] hlt ⟨⟨rfl, rfl, rfl, rfl, rfl, rfl, rfl, rfl, rfl, rfl, rfl, rfl, trivial⟩, ⟨.inl rfl, rfl, .inl rfl, rfl, .inl rfl, rfl, .inl rfl, rfl, .inl rfl, rfl, .inl rfl, rfl, trivial⟩, rfl, rfl⟩
    · have : j = hops.length := by have := of_decide_eq_false h; omega
      subst this
      rw [List.take_length] at hSj
      rw [hSj] at hlk
      subst hlk
      ((first|refine rG Γ hm ?_|refine rD Γ hm (by kernel_rfl) ?_);(conv=>whnf);repeat((first|refine aF ?_|refine aT ?_);(first|refine rG Γ hm ?_|refine rD Γ hm (by kernel_rfl) ?_);conv=>whnf))
      exact done_end rfl .nil [(4, 1000)] (srchN n _) (fun _ h => h) rfl rfl ⟨trivial, ⟨.inl rfl, rfl, .inl rfl, rfl, .inl rfl, rfl, .inl rfl, rfl, .inl rfl, rfl, trivial⟩, rfl, rfl⟩

end Go.Sy.YtlfopmhekhifoaaGreatDoor
