/-
  The document's members, crossings, hops. The document's prefixes and leaks.
-/
import Derived.Test.YtlfopmhekhifoaaGreatDoorC26
import Derived.Test.YtlfopmhekhifoaaGreatDoorC15

namespace Go.Sy.YtlfopmhekhifoaaGreatDoor
open Go.Proofs
-- SIMP: placeB

attribute [local irreducible] Go.Sy.G Go.Sy.DR
set_option maxRecDepth 20000
set_option maxHeartbeats 8000000

theorem placeB_true {i : Int} {n : Nat} (h : 0 ≤ i ∧ i < n) : placeB i n = true := by simp only [placeB, Bool.and_eq_true, decide_eq_true_eq]; exact h
theorem placeB_false {i : Int} {n : Nat} (h : ¬ (0 ≤ i ∧ i < n)) : placeB i n = false := by simp only [placeB, Bool.and_eq_false_iff, decide_eq_false_iff_not]; omega

theorem refMembersS (n : Net) (hn : n.Fin) (hb : netRightB n = true) (i : Int) : Sy.Spec Tryz.prog 68 [netSV n, intSV i] [] (.sl 1 intSV (membersT n i)) [] := contract Γ hm 100 F68 Tryz.ntmps68 rfl fun F hF => by
  have hpl := ref15PlaceS i n.domains.length
  have hsp := hn.ports
  unfold Short at hsp
  ((conv=>whnf);repeat((first|refine aF ?_|refine aT ?_);(first|refine rG Γ hm ?_|refine rD Γ hm (by kernel_rfl) ?_);conv=>whnf))
  refine G_box 2 8 (netSV n) rfl rfl rfl ?_
  ((first|refine rG Γ hm ?_|refine rD Γ hm (by kernel_rfl) ?_);(conv=>whnf);repeat((first|refine aF ?_|refine aT ?_);(first|refine rG Γ hm ?_|refine rD Γ hm (by kernel_rfl) ?_);conv=>whnf))
  refine call0 hpl F27 rfl rfl rfl rfl rfl ?_
  by_cases hi : 0 ≤ i ∧ i < n.domains.length
  rotate_left
  · rw [membersT, if_neg (fun h => hi h.1), placeB_false hi]
    ((first|refine rG Γ hm ?_|refine rD Γ hm (by kernel_rfl) ?_);(conv=>whnf);repeat((first|refine aF ?_|refine aT ?_);(first|refine rG Γ hm ?_|refine rD Γ hm (by kernel_rfl) ?_);conv=>whnf))
    refine G_nilsl 4 1 intSV rfl ?_
    ((first|refine rG Γ hm ?_|refine rD Γ hm (by kernel_rfl) ?_);(conv=>whnf);repeat((first|refine aF ?_|refine aT ?_);(first|refine rG Γ hm ?_|refine rD Γ hm (by kernel_rfl) ?_);conv=>whnf))
    exact done0 rfl (.cons .tmp .nil) rfl rfl
  rw [membersT, if_pos ⟨hi, hb⟩, placeB_true hi]
  have hk : i.toNat < n.domains.length := by omega
  have e1 : nth n.domains i = n.domains[i.toNat] := nth_eq hk
  rw [membersL, e1]
  obtain ⟨d, hd⟩ : ∃ d, n.domains[i.toNat] = d := ⟨_, rfl⟩
  rw [hd]
  ((first|refine rG Γ hm ?_|refine rD Γ hm (by kernel_rfl) ?_);(conv=>whnf);repeat((first|refine aF ?_|refine aT ?_);(first|refine rG Γ hm ?_|refine rD Γ hm (by kernel_rfl) ?_);conv=>whnf))
  refine ⟨rfl, hi.1, hk, ?_⟩
  rw [hd]
  ((conv=>whnf);repeat((first|refine aF ?_|refine aT ?_);(first|refine rG Γ hm ?_|refine rD Γ hm (by kernel_rfl) ?_);conv=>whnf))
  refine G_box 6 6 (domainSV d) rfl rfl rfl ?_
  refine G_adopt 5 1000 1 intSV rfl rfl ?_
  refine G_count n.ports.length (fun j => [(2, .ref 8 (netSV n) 0), (5, .osl 1000), (6, .ref 6 (domainSV d) 0), (7, intSV j)]) (fun j => [(1000, .row 1 intSV (filtI (inDom n d) j))]) []
    ⟨⟨rfl, rfl, rfl, rfl, rfl, rfl, rfl, rfl, trivial⟩, ⟨.inl rfl, rfl, trivial⟩, rfl, rfl⟩ ?_
  intro j hj
  ((first|refine rG Γ hm ?_|refine rD Γ hm (by kernel_rfl) ?_);(conv=>whnf);repeat((first|refine aF ?_|refine aT ?_);(first|refine rG Γ hm ?_|refine rD Γ hm (by kernel_rfl) ?_);conv=>whnf))
  refine ⟨fun h => ?_, fun h => ?_⟩
  · have hlt : j < n.ports.length := by simpa using h
    have hsucc := filtI_succ (inDom n d) j
    have hfl := filtI_length (inDom n d) j
    have hin : inDom n d j = ((n.ports[j]).dev == d.dev && memberB n.ports[j] d.vlan) := by
      rw [inDom, nth_eq (l := n.ports) (i := (j : Int)) (by simpa using hlt)]; rfl
    rw [hin] at hsucc
    have e1 : n.ports[(j : Int).toNat]'(by omega) = n.ports[j] := rfl
    have hms := ref15MemberS n.ports[j] d.vlan (hn.tagged _ (List.getElem_mem _))
    obtain ⟨p, hp⟩ : ∃ p, n.ports[j] = p := ⟨_, rfl⟩
    rw [hp] at e1 hsucc hms
    obtain ⟨u, hu⟩ : ∃ u, filtI (inDom n d) j = u := ⟨_, rfl⟩
    rw [hu] at hsucc hfl ⊢
    ((first|refine rG Γ hm ?_|refine rD Γ hm (by kernel_rfl) ?_);(conv=>whnf);repeat((first|refine aF ?_|refine aT ?_);(first|refine rG Γ hm ?_|refine rD Γ hm (by kernel_rfl) ?_);conv=>whnf))
    refine ⟨rfl, by omega, by omega, ?_⟩
    rw [e1]
    ((conv=>whnf);repeat((first|refine aF ?_|refine aT ?_);(first|refine rG Γ hm ?_|refine rD Γ hm (by kernel_rfl) ?_);conv=>whnf))
    refine ⟨fun h2 => ?_, fun h2 => ?_⟩
    · rw [h2, Bool.true_and] at hsucc
      ((first|refine rG Γ hm ?_|refine rD Γ hm (by kernel_rfl) ?_);(conv=>whnf);repeat((first|refine aF ?_|refine aT ?_);(first|refine rG Γ hm ?_|refine rD Γ hm (by kernel_rfl) ?_);conv=>whnf))
      refine ⟨rfl, by omega, by omega, ?_⟩
      rw [e1]
      ((conv=>whnf);repeat((first|refine aF ?_|refine aT ?_);(first|refine rG Γ hm ?_|refine rD Γ hm (by kernel_rfl) ?_);conv=>whnf))
      refine callD0 hms F77 rfl rfl rfl (by kernel_rfl) rfl ?_
      ((first|refine rG Γ hm ?_|refine rD Γ hm (by kernel_rfl) ?_);(conv=>whnf);repeat((first|refine aF ?_|refine aT ?_);(first|refine rG Γ hm ?_|refine rD Γ hm (by kernel_rfl) ?_);conv=>whnf))
      refine ⟨(by kernel_rfl), ?_⟩
      ((conv=>whnf);repeat((first|refine aF ?_|refine aT ?_);(first|refine rG Γ hm ?_|refine rD Γ hm (by kernel_rfl) ?_);conv=>whnf))
      refine ⟨fun h4 => ?_, fun h4 => ?_⟩
      · rw [if_pos h4] at hsucc
        ((first|refine rG Γ hm ?_|refine rD Γ hm (by kernel_rfl) ?_);(conv=>whnf);repeat((first|refine aF ?_|refine aT ?_);(first|refine rG Γ hm ?_|refine rD Γ hm (by kernel_rfl) ?_);conv=>whnf))
        refine stepOp (good_appendT Γ.toTy 48 rfl rfl rfl rfl rfl (.row rfl) (.lit (e := intSV) (l := [(j : Int)]) rfl rfl) (by simp) (by simp; omega) (by simp; omega)) rfl rfl ?_
        ((first|refine rG Γ hm ?_|refine rD Γ hm (by kernel_rfl) ?_);(conv=>whnf);repeat((first|refine aF ?_|refine aT ?_);(first|refine rG Γ hm ?_|refine rD Γ hm (by kernel_rfl) ?_);conv=>whnf))
        refine ⟨by unfold I64; omega, ?_⟩
        ((conv=>whnf);repeat((first|refine aF ?_|refine aT ?_);(first|refine rG Γ hm ?_|refine rD Γ hm (by kernel_rfl) ?_);conv=>whnf))
        exact G_next [(1000, 48)] hlt ⟨⟨rfl, rfl, rfl, rfl, rfl, rfl, rfl, rfl, trivial⟩, ⟨.inl (congrArg (Ob.row 1 intSV) hsucc), rfl, trivial⟩, rfl, rfl⟩
      · rw [if_neg (by simp [h4])] at hsucc
        ((first|refine rG Γ hm ?_|refine rD Γ hm (by kernel_rfl) ?_);(conv=>whnf);repeat((first|refine aF ?_|refine aT ?_);(first|refine rG Γ hm ?_|refine rD Γ hm (by kernel_rfl) ?_);conv=>whnf))
        refine ⟨by unfold I64; omega, ?_⟩
        ((conv=>whnf);repeat((first|refine aF ?_|refine aT ?_);(first|refine rG Γ hm ?_|refine rD Γ hm (by kernel_rfl) ?_);conv=>whnf))
        exact G_next [] hlt ⟨⟨rfl, rfl, rfl, rfl, rfl, rfl, rfl, rfl, trivial⟩, ⟨.inl (congrArg (Ob.row 1 intSV) hsucc), rfl, trivial⟩, rfl, rfl⟩
    · rw [h2, Bool.false_and, if_neg (by simp)] at hsucc
      ((first|refine rG Γ hm ?_|refine rD Γ hm (by kernel_rfl) ?_);(conv=>whnf);repeat((first|refine aF ?_|refine aT ?_);(first|refine rG Γ hm ?_|refine rD Γ hm (by kernel_rfl) ?_);conv=>whnf))
      refine ⟨(by kernel_rfl), ?_⟩
      ((conv=>whnf);repeat((first|refine aF ?_|refine aT ?_);(first|refine rG Γ hm ?_|refine rD Γ hm (by kernel_rfl) ?_);conv=>whnf))
      refine ⟨by unfold I64; omega, ?_⟩
      ((conv=>whnf);repeat((first|refine aF ?_|refine aT ?_);(first|refine rG Γ hm ?_|refine rD Γ hm (by kernel_rfl) ?_);conv=>whnf))
      exact G_next [] hlt ⟨⟨rfl, rfl, rfl, rfl, rfl, rfl, rfl, rfl, trivial⟩, ⟨.inl (congrArg (Ob.row 1 intSV) hsucc), rfl, trivial⟩, rfl, rfl⟩
  · have : j = n.ports.length := by have := of_decide_eq_false h; omega
    subst this
    refine G_data 1000 rfl ?_
    ((first|refine rG Γ hm ?_|refine rD Γ hm (by kernel_rfl) ?_);(conv=>whnf);repeat((first|refine aF ?_|refine aT ?_);(first|refine rG Γ hm ?_|refine rD Γ hm (by kernel_rfl) ?_);conv=>whnf))
    exact done0 rfl (.cons .tmp .nil) rfl rfl

theorem e_port_nat {n : Net} (h : netRightB n = true) {i : Nat} (hi : i < n.ports.length) : 0 ≤ n.ports[i].native ∧ inB n.ports[i].tagged n.ports[i].native = false := by
  have := e_port h hi
  simp only [portB, Bool.and_eq_true, decide_eq_true_eq, Bool.not_eq_true'] at this
  exact ⟨this.1.1.1.1.1.1.1.2, this.1.1.1.1.2⟩

theorem refCrossS (n : Net) (hn : n.Fin) (hb : netRightB n = true) (i v : Int) : Sy.Spec Tryz.prog 128 [netSV n, intSV i, intSV v] [] (.tup [intSV (crossT n i v).1, intSV (crossT n i v).2.1, boolSV (crossT n i v).2.2]) [] := contract Γ hm 100 F128 Tryz.ntmps128 rfl fun F hF => by
  have q := refOtherS n hn hb i
  have hth := otherT_there (n := n) (i := i)
  have hc := crossT.eq_1 n i v
  unfold crossTo at hc
  generalize crossT n i v = r at *
  obtain ⟨far, hfar⟩ : ∃ far, otherT n i = far := ⟨_, rfl⟩
  rw [hfar] at q hth hc
  ((conv=>whnf);repeat((first|refine aF ?_|refine aT ?_);(first|refine rG Γ hm ?_|refine rD Γ hm (by kernel_rfl) ?_);conv=>whnf))
  refine G_box 3 8 (netSV n) rfl rfl rfl ?_
  ((first|refine rG Γ hm ?_|refine rD Γ hm (by kernel_rfl) ?_);(conv=>whnf);repeat((first|refine aF ?_|refine aT ?_);(first|refine rG Γ hm ?_|refine rD Γ hm (by kernel_rfl) ?_);conv=>whnf))
  refine call0 q F73 rfl rfl rfl rfl rfl ?_
  ((first|refine rG Γ hm ?_|refine rD Γ hm (by kernel_rfl) ?_);(conv=>whnf);repeat((first|refine aF ?_|refine aT ?_);(first|refine rG Γ hm ?_|refine rD Γ hm (by kernel_rfl) ?_);conv=>whnf))
  refine ⟨fun h => ?_, fun h => ?_⟩
  · have h1 : far < 0 := of_decide_eq_true h
    rw [if_neg (by omega)] at hc
    subst hc
    ((first|refine rG Γ hm ?_|refine rD Γ hm (by kernel_rfl) ?_);(conv=>whnf);repeat((first|refine aF ?_|refine aT ?_);(first|refine rG Γ hm ?_|refine rD Γ hm (by kernel_rfl) ?_);conv=>whnf))
    exact done0 rfl (.cons .tmp (.cons .tmp (.cons .tmp .nil))) rfl rfl
  have h1 : 0 ≤ far := by have := of_decide_eq_false h; omega
  ((first|refine rG Γ hm ?_|refine rD Γ hm (by kernel_rfl) ?_);(conv=>whnf);repeat((first|refine aF ?_|refine aT ?_);(first|refine rG Γ hm ?_|refine rD Γ hm (by kernel_rfl) ?_);conv=>whnf))
  refine ⟨fun h => ?_, fun h => ?_⟩
  · have h2 : v = 0 := by simpa using h
    rw [if_neg (fun hh => by have := hh.2.1; simp [memberB, h2] at this)] at hc
    subst hc
    ((first|refine rG Γ hm ?_|refine rD Γ hm (by kernel_rfl) ?_);(conv=>whnf);repeat((first|refine aF ?_|refine aT ?_);(first|refine rG Γ hm ?_|refine rD Γ hm (by kernel_rfl) ?_);conv=>whnf))
    exact done0 rfl (.cons .tmp (.cons .tmp (.cons .tmp .nil))) rfl rfl
  have hv0 : v ≠ 0 := by simpa using h
  obtain ⟨⟨hi0, hk⟩, _, hfk⟩ := hth h1
  have e1 : nth n.ports i = n.ports[i.toNat] := nth_eq hk
  have e2 : nth n.ports far = n.ports[far.toNat] := nth_eq hfk
  rw [e1, e2] at hc
  have ht1 := hn.tagged _ (List.getElem_mem hk)
  have ht2 := hn.tagged _ (List.getElem_mem hfk)
  have hn1 := e_port_nat hb hk
  have hn2 := e_port_nat hb hfk
  obtain ⟨p, hp⟩ : ∃ p, n.ports[i.toNat] = p := ⟨_, rfl⟩
  obtain ⟨o, ho⟩ : ∃ o, n.ports[far.toNat] = o := ⟨_, rfl⟩
  rw [hp] at hc ht1 hn1
  rw [ho] at hc ht2 hn2
  have hi1 := ref15InS p.tagged v ht1
  have hi2 := ref15InS o.tagged v ht2
  ((first|refine rG Γ hm ?_|refine rD Γ hm (by kernel_rfl) ?_);(conv=>whnf);repeat((first|refine aF ?_|refine aT ?_);(first|refine rG Γ hm ?_|refine rD Γ hm (by kernel_rfl) ?_);conv=>whnf))
  refine ⟨rfl, hi0, hk, ?_⟩
  rw [hp]
  ((conv=>whnf);repeat((first|refine aF ?_|refine aT ?_);(first|refine rG Γ hm ?_|refine rD Γ hm (by kernel_rfl) ?_);conv=>whnf))
  refine ⟨rfl, h1, hfk, ?_⟩
  rw [ho]
  ((conv=>whnf);repeat((first|refine aF ?_|refine aT ?_);(first|refine rG Γ hm ?_|refine rD Γ hm (by kernel_rfl) ?_);conv=>whnf))
  refine ⟨(by kernel_rfl), ?_⟩
  ((conv=>whnf);repeat((first|refine aF ?_|refine aT ?_);(first|refine rG Γ hm ?_|refine rD Γ hm (by kernel_rfl) ?_);conv=>whnf))
  refine ⟨fun h => ?_, fun h => ?_⟩
  · have h2 : p.native = v := by simpa using h
    rw [if_pos h2.symm] at hc
    ((first|refine rG Γ hm ?_|refine rD Γ hm (by kernel_rfl) ?_);(conv=>whnf);repeat((first|refine aF ?_|refine aT ?_);(first|refine rG Γ hm ?_|refine rD Γ hm (by kernel_rfl) ?_);conv=>whnf))
    refine ⟨fun h => ?_, fun h => ?_⟩
    · have h3 : 0 < o.native := of_decide_eq_true h
      rw [if_pos ⟨h1, by simp [memberB, h2, hv0], by omega⟩] at hc
      subst hc
      ((first|refine rG Γ hm ?_|refine rD Γ hm (by kernel_rfl) ?_);(conv=>whnf);repeat((first|refine aF ?_|refine aT ?_);(first|refine rG Γ hm ?_|refine rD Γ hm (by kernel_rfl) ?_);conv=>whnf))
      refine ⟨(by kernel_rfl), ?_⟩
      ((conv=>whnf);repeat((first|refine aF ?_|refine aT ?_);(first|refine rG Γ hm ?_|refine rD Γ hm (by kernel_rfl) ?_);conv=>whnf))
      exact done0 rfl (.cons .tmp (.cons .tmp (.cons .tmp .nil))) rfl rfl
    · have h3 : ¬ 0 < o.native := of_decide_eq_false h
      rw [if_neg (fun hh => hh.2.2 (by omega))] at hc
      subst hc
      rw [h2] at hn1
      ((first|refine rG Γ hm ?_|refine rD Γ hm (by kernel_rfl) ?_);(conv=>whnf);repeat((first|refine aF ?_|refine aT ?_);(first|refine rG Γ hm ?_|refine rD Γ hm (by kernel_rfl) ?_);conv=>whnf))
      refine call0 hi1 F67 rfl rfl rfl rfl rfl ?_
      rw [hn1.2]
      ((first|refine rG Γ hm ?_|refine rD Γ hm (by kernel_rfl) ?_);(conv=>whnf);repeat((first|refine aF ?_|refine aT ?_);(first|refine rG Γ hm ?_|refine rD Γ hm (by kernel_rfl) ?_);conv=>whnf))
      exact done0 rfl (.cons .tmp (.cons .tmp (.cons .tmp .nil))) rfl rfl
  have h2 : ¬ v = p.native := fun e => by simp [e] at h
  rw [if_neg h2] at hc
  ((first|refine rG Γ hm ?_|refine rD Γ hm (by kernel_rfl) ?_);(conv=>whnf);repeat((first|refine aF ?_|refine aT ?_);(first|refine rG Γ hm ?_|refine rD Γ hm (by kernel_rfl) ?_);conv=>whnf))
  refine call0 hi1 F67 rfl rfl rfl rfl rfl ?_
  cases hin : inB p.tagged v
  · rw [if_neg (fun hh => by have := hh.2.1; simp [memberB, h2, hin] at this)] at hc
    subst hc
    ((first|refine rG Γ hm ?_|refine rD Γ hm (by kernel_rfl) ?_);(conv=>whnf);repeat((first|refine aF ?_|refine aT ?_);(first|refine rG Γ hm ?_|refine rD Γ hm (by kernel_rfl) ?_);conv=>whnf))
    exact done0 rfl (.cons .tmp (.cons .tmp (.cons .tmp .nil))) rfl rfl
  ((first|refine rG Γ hm ?_|refine rD Γ hm (by kernel_rfl) ?_);(conv=>whnf);repeat((first|refine aF ?_|refine aT ?_);(first|refine rG Γ hm ?_|refine rD Γ hm (by kernel_rfl) ?_);conv=>whnf))
  refine call0 hi2 F67 rfl rfl rfl rfl rfl ?_
  cases hin2 : inB o.tagged v
  · rw [hin2, if_neg (by simp)] at hc
    subst hc
    ((first|refine rG Γ hm ?_|refine rD Γ hm (by kernel_rfl) ?_);(conv=>whnf);repeat((first|refine aF ?_|refine aT ?_);(first|refine rG Γ hm ?_|refine rD Γ hm (by kernel_rfl) ?_);conv=>whnf))
    exact done0 rfl (.cons .tmp (.cons .tmp (.cons .tmp .nil))) rfl rfl
  rw [hin2, if_pos rfl, if_pos ⟨h1, by simp [memberB, hv0, hin], hv0⟩] at hc
  subst hc
  ((first|refine rG Γ hm ?_|refine rD Γ hm (by kernel_rfl) ?_);(conv=>whnf);repeat((first|refine aF ?_|refine aT ?_);(first|refine rG Γ hm ?_|refine rD Γ hm (by kernel_rfl) ?_);conv=>whnf))
  exact done0 rfl (.cons .tmp (.cons .tmp (.cons .tmp .nil))) rfl rfl

theorem refLinkDomainS (n : Net) (hn : n.Fin) (hb : netRightB n = true) (i v : Int) : Sy.Spec Tryz.prog 106 [netSV n, intSV i, intSV v] [] (.tup [intSV (linkDomT n i v).1, boolSV (linkDomT n i v).2]) [] := contract Γ hm 100 F106 Tryz.ntmps106 rfl fun F hF => by
  have q := refCrossS n hn hb i v
  have hth := crossT_there (n := n) (i := i) (v := v)
  have hc := linkDomT.eq_1 n i v
  generalize linkDomT n i v = r at *
  generalize crossT n i v = x at *
  obtain ⟨far, to, ok⟩ := x
  ((conv=>whnf);repeat((first|refine aF ?_|refine aT ?_);(first|refine rG Γ hm ?_|refine rD Γ hm (by kernel_rfl) ?_);conv=>whnf))
  refine G_box 3 8 (netSV n) rfl rfl rfl ?_
  ((first|refine rG Γ hm ?_|refine rD Γ hm (by kernel_rfl) ?_);(conv=>whnf);repeat((first|refine aF ?_|refine aT ?_);(first|refine rG Γ hm ?_|refine rD Γ hm (by kernel_rfl) ?_);conv=>whnf))
  refine call0 q F128 rfl rfl rfl rfl rfl ?_
  cases ok
  · rw [if_neg (by simp)] at hc
    subst hc
    ((first|refine rG Γ hm ?_|refine rD Γ hm (by kernel_rfl) ?_);(conv=>whnf);repeat((first|refine aF ?_|refine aT ?_);(first|refine rG Γ hm ?_|refine rD Γ hm (by kernel_rfl) ?_);conv=>whnf))
    exact done0 rfl (.cons .tmp (.cons .tmp .nil)) rfl rfl
  rw [if_pos rfl] at hc
  have hf := hth rfl
  dsimp only at hf hc
  have e2 : nth n.ports far = n.ports[far.toNat] := nth_eq hf.2
  rw [e2] at hc
  obtain ⟨o, ho⟩ : ∃ o, n.ports[far.toNat]'hf.2 = o := ⟨_, rfl⟩
  rw [ho, domainT, if_pos hb] at hc
  have q2 := ref15AtS n o.dev to hn.domains
  subst hc
  ((first|refine rG Γ hm ?_|refine rD Γ hm (by kernel_rfl) ?_);(conv=>whnf);repeat((first|refine aF ?_|refine aT ?_);(first|refine rG Γ hm ?_|refine rD Γ hm (by kernel_rfl) ?_);conv=>whnf))
  refine ⟨rfl, hf.1, hf.2, ?_⟩
  rw [ho]
  ((conv=>whnf);repeat((first|refine aF ?_|refine aT ?_);(first|refine rG Γ hm ?_|refine rD Γ hm (by kernel_rfl) ?_);conv=>whnf))
  refine callD0 q2 F66 rfl rfl rfl (by kernel_rfl) rfl ?_
  ((first|refine rG Γ hm ?_|refine rD Γ hm (by kernel_rfl) ?_);(conv=>whnf);repeat((first|refine aF ?_|refine aT ?_);(first|refine rG Γ hm ?_|refine rD Γ hm (by kernel_rfl) ?_);conv=>whnf))
  refine ⟨(by kernel_rfl), ?_⟩
  ((conv=>whnf);repeat((first|refine aF ?_|refine aT ?_);(first|refine rG Γ hm ?_|refine rD Γ hm (by kernel_rfl) ?_);conv=>whnf))
  exact done0 rfl (.cons .tmp (.cons .tmp .nil)) rfl rfl

theorem refHopsS (n : Net) (hn : n.Fin) (d : Int) (hd : domOK n d) : Sy.Spec Tryz.prog 70 [netSV n, intSV d] [] (.sl 4 hopSV (hopsL n d)) [] := contract Γ hm 100 F70 Tryz.ntmps70 rfl fun F hF => by
  have hb := hd.2
  have hm2 := refMembersS n hn hb d
  have hms := membersT_short n hn d
  unfold Short at hms
  have hk : d.toNat < n.domains.length := by have := hd.1; omega
  have h0 : 0 ≤ d := hd.1.1
  have hpe := hn.peers _ (List.getElem_mem hk)
  unfold Short at hpe
  have hh := hopsL.eq_1 n d
  have hlh := linkHop.eq_1 n d
  have hsn := fun j p h hp => linkHop_snoc (n := n) (d := d) (l := membersT n d) (j := j) (p := p) h hp
  have hfl : ∀ j, ((membersT n d).take j |>.filterMap (linkHop n d)).length ≤ (membersT n d).length := fun j => by
    refine Nat.le_trans (List.length_filterMap_le _ _) ?_
    rw [List.length_take]; omega
  have hall : (membersT n d).take (membersT n d).length = membersT n d := List.take_length
  rw [nth_eq hk] at hh hlh
  obtain ⟨x, hx⟩ : ∃ x, n.domains[d.toNat]'hk = x := ⟨_, rfl⟩
  rw [hx] at hh hlh hpe
  generalize hopsL n d = res at *
  generalize membersT n d = mem at *
  ((conv=>whnf);repeat((first|refine aF ?_|refine aT ?_);(first|refine rG Γ hm ?_|refine rD Γ hm (by kernel_rfl) ?_);conv=>whnf))
  refine G_box 2 8 (netSV n) rfl rfl rfl ?_
  ((first|refine rG Γ hm ?_|refine rD Γ hm (by kernel_rfl) ?_);(conv=>whnf);repeat((first|refine aF ?_|refine aT ?_);(first|refine rG Γ hm ?_|refine rD Γ hm (by kernel_rfl) ?_);conv=>whnf))
  refine call0 hm2 F68 rfl rfl rfl rfl rfl ?_
  ((first|refine rG Γ hm ?_|refine rD Γ hm (by kernel_rfl) ?_);(conv=>whnf);repeat((first|refine aF ?_|refine aT ?_);(first|refine rG Γ hm ?_|refine rD Γ hm (by kernel_rfl) ?_);conv=>whnf))
  refine G_adopt 5 1000 4 hopSV rfl rfl ?_
  refine G_count mem.length (fun j => [(1, intSV d), (2, .ref 8 (netSV n) 0), (5, .osl 1000), (6, .sl 1 intSV mem), (7, intSV j)]) (fun j => [(1000, .row 4 hopSV ((mem.take j).filterMap (linkHop n d)))]) []
    ⟨⟨rfl, rfl, rfl, rfl, rfl, rfl, rfl, rfl, rfl, rfl, trivial⟩, ⟨.inl rfl, rfl, trivial⟩, rfl, rfl⟩ ?_
  intro j hj
  have hflj := hfl j
  ((first|refine rG Γ hm ?_|refine rD Γ hm (by kernel_rfl) ?_);(conv=>whnf);repeat((first|refine aF ?_|refine aT ?_);(first|refine rG Γ hm ?_|refine rD Γ hm (by kernel_rfl) ?_);conv=>whnf))
  refine ⟨fun h => ?_, fun h => ?_⟩
  · have hlt : j < mem.length := by simpa using h
    have hj0 : ((j : Nat) : Int).toNat < mem.length := by simpa using hlt
    obtain ⟨p, hp'⟩ : ∃ p, mem[((j : Nat) : Int).toNat]'hj0 = p := ⟨_, rfl⟩
    have hs := hsn j p hlt hp'
    have q := refLinkDomainS n hn hb p x.vlan
    rw [hlh p] at hs
    generalize linkDomT n p x.vlan = ld at *
    obtain ⟨to, ok⟩ := ld
    ((first|refine rG Γ hm ?_|refine rD Γ hm (by kernel_rfl) ?_);(conv=>whnf);repeat((first|refine aF ?_|refine aT ?_);(first|refine rG Γ hm ?_|refine rD Γ hm (by kernel_rfl) ?_);conv=>whnf))
    refine ⟨rfl, by omega, hj0, ?_⟩
    rw [hp']
    ((conv=>whnf);repeat((first|refine aF ?_|refine aT ?_);(first|refine rG Γ hm ?_|refine rD Γ hm (by kernel_rfl) ?_);conv=>whnf))
    refine ⟨rfl, h0, hk, ?_⟩
    rw [hx]
    ((conv=>whnf);repeat((first|refine aF ?_|refine aT ?_);(first|refine rG Γ hm ?_|refine rD Γ hm (by kernel_rfl) ?_);conv=>whnf))
    refine callD0 q F106 rfl rfl rfl (by kernel_rfl) rfl ?_
    ((first|refine rG Γ hm ?_|refine rD Γ hm (by kernel_rfl) ?_);(conv=>whnf);repeat((first|refine aF ?_|refine aT ?_);(first|refine rG Γ hm ?_|refine rD Γ hm (by kernel_rfl) ?_);conv=>whnf))
    refine ⟨(by kernel_rfl), ?_⟩
    ((conv=>whnf);repeat((first|refine aF ?_|refine aT ?_);(first|refine rG Γ hm ?_|refine rD Γ hm (by kernel_rfl) ?_);conv=>whnf))
    dsimp only at hs
    refine ⟨fun h => ?_, fun h => ?_⟩ <;> (have h : ok = _ := h; subst h)
    · ((first|refine rG Γ hm ?_|refine rD Γ hm (by kernel_rfl) ?_);(conv=>whnf);repeat((first|refine aF ?_|refine aT ?_);(first|refine rG Γ hm ?_|refine rD Γ hm (by kernel_rfl) ?_);conv=>whnf))
      refine ⟨rfl, by omega, hj0, ?_⟩
      rw [hp']
      ((conv=>whnf);repeat((first|refine aF ?_|refine aT ?_);(first|refine rG Γ hm ?_|refine rD Γ hm (by kernel_rfl) ?_);conv=>whnf))
      refine stepOp (good_appendT Γ.toTy 44 rfl rfl rfl rfl rfl (.row rfl) (.lit (e := hopSV) (l := [⟨1, p, to, 0⟩]) rfl rfl) (by simp) (by simp; omega) (by simp; omega)) rfl rfl ?_
      ((first|refine rG Γ hm ?_|refine rD Γ hm (by kernel_rfl) ?_);(conv=>whnf);repeat((first|refine aF ?_|refine aT ?_);(first|refine rG Γ hm ?_|refine rD Γ hm (by kernel_rfl) ?_);conv=>whnf))
      refine ⟨by unfold I64; omega, ?_⟩
      ((conv=>whnf);repeat((first|refine aF ?_|refine aT ?_);(first|refine rG Γ hm ?_|refine rD Γ hm (by kernel_rfl) ?_);conv=>whnf))
      exact G_next [(1000, 44)] hlt ⟨⟨rfl, rfl, rfl, rfl, rfl, rfl, rfl, rfl, rfl, rfl, trivial⟩, ⟨.inl (congrArg (Ob.row 4 hopSV) hs), rfl, trivial⟩, rfl, rfl⟩
    · ((first|refine rG Γ hm ?_|refine rD Γ hm (by kernel_rfl) ?_);(conv=>whnf);repeat((first|refine aF ?_|refine aT ?_);(first|refine rG Γ hm ?_|refine rD Γ hm (by kernel_rfl) ?_);conv=>whnf))
      refine ⟨by unfold I64; omega, ?_⟩
      ((conv=>whnf);repeat((first|refine aF ?_|refine aT ?_);(first|refine rG Γ hm ?_|refine rD Γ hm (by kernel_rfl) ?_);conv=>whnf))
      exact G_next [] hlt ⟨⟨rfl, rfl, rfl, rfl, rfl, rfl, rfl, rfl, rfl, rfl, trivial⟩, ⟨.inl (congrArg (Ob.row 4 hopSV) (hs.trans (List.append_nil _))), rfl, trivial⟩, rfl, rfl⟩
  · have : j = mem.length := by have := of_decide_eq_false h; omega
    subst this
    rw [hall] at hflj ⊢
    generalize mem.filterMap (linkHop n d) = first at *
    ((first|refine rG Γ hm ?_|refine rD Γ hm (by kernel_rfl) ?_);(conv=>whnf);repeat((first|refine aF ?_|refine aT ?_);(first|refine rG Γ hm ?_|refine rD Γ hm (by kernel_rfl) ?_);conv=>whnf))
    refine G_count x.peers.length (fun j => [(1, intSV d), (2, .ref 8 (netSV n) 0), (5, .osl 1000), (10, intSV j)]) (fun j => [(1000, .row 4 hopSV (first ++ (x.peers.take j).map meshHop))]) []
      ⟨⟨rfl, rfl, rfl, rfl, rfl, rfl, rfl, rfl, trivial⟩, ⟨.inl (congrArg (Ob.row 4 hopSV) (List.append_nil _)), rfl, trivial⟩, rfl, rfl⟩ ?_
    intro j hj
    ((first|refine rG Γ hm ?_|refine rD Γ hm (by kernel_rfl) ?_);(conv=>whnf);repeat((first|refine aF ?_|refine aT ?_);(first|refine rG Γ hm ?_|refine rD Γ hm (by kernel_rfl) ?_);conv=>whnf))
    refine ⟨rfl, h0, hk, ?_⟩
    rw [hx]
    ((conv=>whnf);repeat((first|refine aF ?_|refine aT ?_);(first|refine rG Γ hm ?_|refine rD Γ hm (by kernel_rfl) ?_);conv=>whnf))
    refine ⟨fun h => ?_, fun h => ?_⟩
    · have hlt : j < x.peers.length := by simpa using h
      have hj0 : ((j : Nat) : Int).toNat < x.peers.length := by simpa using hlt
      obtain ⟨p, hp'⟩ : ∃ p, x.peers[((j : Nat) : Int).toNat]'hj0 = p := ⟨_, rfl⟩
      have hs : (first ++ (x.peers.take j).map meshHop) ++ [⟨2, 0, p, 0⟩] = first ++ (x.peers.take (j + 1)).map meshHop := by
        rw [List.take_add_one, List.getElem?_eq_getElem hlt, List.map_append, List.append_assoc]
        congr 2
        simp only [Option.toList, List.map_cons, List.map_nil, meshHop]
        congr 2
        exact hp'.symm
      ((first|refine rG Γ hm ?_|refine rD Γ hm (by kernel_rfl) ?_);(conv=>whnf);repeat((first|refine aF ?_|refine aT ?_);(first|refine rG Γ hm ?_|refine rD Γ hm (by kernel_rfl) ?_);conv=>whnf))
      refine ⟨rfl, h0, hk, ?_⟩
      rw [hx]
      ((conv=>whnf);repeat((first|refine aF ?_|refine aT ?_);(first|refine rG Γ hm ?_|refine rD Γ hm (by kernel_rfl) ?_);conv=>whnf))
      refine ⟨rfl, by omega, hj0, ?_⟩
      rw [hp']
      ((conv=>whnf);repeat((first|refine aF ?_|refine aT ?_);(first|refine rG Γ hm ?_|refine rD Γ hm (by kernel_rfl) ?_);conv=>whnf))
      refine stepOp (good_appendT Γ.toTy 68 rfl rfl rfl rfl rfl (.row rfl) (.lit (e := hopSV) (l := [⟨2, 0, p, 0⟩]) rfl rfl) (by simp) (by simp; omega) (by simp; omega)) rfl rfl ?_
      ((first|refine rG Γ hm ?_|refine rD Γ hm (by kernel_rfl) ?_);(conv=>whnf);repeat((first|refine aF ?_|refine aT ?_);(first|refine rG Γ hm ?_|refine rD Γ hm (by kernel_rfl) ?_);conv=>whnf))
      refine ⟨by unfold I64; omega, ?_⟩
      ((conv=>whnf);repeat((first|refine aF ?_|refine aT ?_);(first|refine rG Γ hm ?_|refine rD Γ hm (by kernel_rfl) ?_);conv=>whnf))
      exact G_next [(1000, 68)] hlt ⟨⟨rfl, rfl, rfl, rfl, rfl, rfl, rfl, rfl, trivial⟩, ⟨.inl (congrArg (Ob.row 4 hopSV) hs.symm), rfl, trivial⟩, rfl, rfl⟩
    · have : j = x.peers.length := by have := of_decide_eq_false h; omega
      subst this
      ((first|refine rG Γ hm ?_|refine rD Γ hm (by kernel_rfl) ?_);(conv=>whnf);repeat((first|refine aF ?_|refine aT ?_);(first|refine rG Γ hm ?_|refine rD Γ hm (by kernel_rfl) ?_);conv=>whnf))
      refine G_data 1000 rfl ?_
      ((first|refine rG Γ hm ?_|refine rD Γ hm (by kernel_rfl) ?_);(conv=>whnf);repeat((first|refine aF ?_|refine aT ?_);(first|refine rG Γ hm ?_|refine rD Γ hm (by kernel_rfl) ?_);conv=>whnf))
      refine done0 rfl (.cons .tmp .nil) ?_ rfl
      rw [hh, List.take_length]
      rfl

end Go.Sy.YtlfopmhekhifoaaGreatDoor

namespace Go.Sy.YtlfopmhekhifoaaGreatDoor
open Go.Proofs
-- SIMP: placeB

attribute [local irreducible] Go.Sy.G Go.Sy.DR
set_option maxRecDepth 20000
set_option maxHeartbeats 8000000

theorem refLastS (a : Nat) (bits : Int) (ha : a < 4294967296) : Sy.Spec Tryz.prog 130 [prefixSV a bits] [] (u32SV (lastI a bits)) [] := contract Γ hm 100 F130 Tryz.ntmps130 rfl fun F hF => by
  have hr := refAddrRightS a bits
  have hl := lastI.eq_1 a bits
  by_cases hb : 0 ≤ bits ∧ bits ≤ 32
  · have hf := refFirstS a bits ha
    have hs := refSizeS a bits hb
    have hle := firstI_le a bits ⟨by omega, by omega⟩
    have hll := lastI_le a bits ⟨by omega, by omega⟩
    rw [decide_eq_true hb] at hr
    rw [if_pos hb] at hl
    obtain ⟨k, hk, hk2⟩ : ∃ k : Nat, (32 - bits).toNat = k ∧ k ≤ 32 := ⟨_, rfl, by omega⟩
    have h1 := Nat.one_le_two_pow (n := k)
    have hp : 2 ^ k ≤ 2 ^ 32 := Nat.pow_le_pow_right (by decide) hk2
    have e32 : (2 : Nat) ^ 32 = 4294967296 := rfl
    rw [e32] at hp
    rw [hk] at hs hl
    rw [show (2 : Int) ^ k = ((2 ^ k : Nat) : Int) by rw [Int.natCast_pow]; rfl] at hl
    generalize 2 ^ k = q at *
    generalize firstI a bits = f at *
    generalize lastI a bits = l at *
    ((conv=>whnf);repeat((first|refine aF ?_|refine aT ?_);(first|refine rG Γ hm ?_|refine rD Γ hm (by kernel_rfl) ?_);conv=>whnf))
    refine G_box 1 2 (prefixSV a bits) rfl rfl rfl ?_
    ((first|refine rG Γ hm ?_|refine rD Γ hm (by kernel_rfl) ?_);(conv=>whnf);repeat((first|refine aF ?_|refine aT ?_);(first|refine rG Γ hm ?_|refine rD Γ hm (by kernel_rfl) ?_);conv=>whnf))
    refine call0 hr F147 rfl rfl rfl rfl rfl ?_
    ((first|refine rG Γ hm ?_|refine rD Γ hm (by kernel_rfl) ?_);(conv=>whnf);repeat((first|refine aF ?_|refine aT ?_);(first|refine rG Γ hm ?_|refine rD Γ hm (by kernel_rfl) ?_);conv=>whnf))
    refine callD0 hf F129 rfl rfl rfl (by kernel_rfl) rfl ?_
    ((first|refine rG Γ hm ?_|refine rD Γ hm (by kernel_rfl) ?_);(conv=>whnf);repeat((first|refine aF ?_|refine aT ?_);(first|refine rG Γ hm ?_|refine rD Γ hm (by kernel_rfl) ?_);conv=>whnf))
    refine callD0 hs F148 rfl rfl rfl (by kernel_rfl) rfl ?_
    ((first|refine rG Γ hm ?_|refine rD Γ hm (by kernel_rfl) ?_);(conv=>whnf);repeat((first|refine aF ?_|refine aT ?_);(first|refine rG Γ hm ?_|refine rD Γ hm (by kernel_rfl) ?_);conv=>whnf))
    rw [i64_small hle.1 (by omega)]
    refine ⟨by unfold I64; omega, ?_⟩
    ((conv=>whnf);repeat((first|refine aF ?_|refine aT ?_);(first|refine rG Γ hm ?_|refine rD Γ hm (by kernel_rfl) ?_);conv=>whnf))
    refine ⟨by unfold I64; omega, ?_⟩
    ((conv=>whnf);repeat((first|refine aF ?_|refine aT ?_);(first|refine rG Γ hm ?_|refine rD Γ hm (by kernel_rfl) ?_);conv=>whnf))
    refine ⟨(by kernel_rfl), ?_⟩
    ((conv=>whnf);repeat((first|refine aF ?_|refine aT ?_);(first|refine rG Γ hm ?_|refine rD Γ hm (by kernel_rfl) ?_);conv=>whnf))
    refine done0 rfl (.cons .tmp .nil) (congrArg (fun z => SV.val (.int .u32 z)) ?_) rfl
    rw [IntKind.wrap_u32]
    omega
  · rw [if_neg hb] at hl
    rw [hl]
    rw [decide_eq_false hb] at hr
    ((conv=>whnf);repeat((first|refine aF ?_|refine aT ?_);(first|refine rG Γ hm ?_|refine rD Γ hm (by kernel_rfl) ?_);conv=>whnf))
    refine G_box 1 2 (prefixSV a bits) rfl rfl rfl ?_
    ((first|refine rG Γ hm ?_|refine rD Γ hm (by kernel_rfl) ?_);(conv=>whnf);repeat((first|refine aF ?_|refine aT ?_);(first|refine rG Γ hm ?_|refine rD Γ hm (by kernel_rfl) ?_);conv=>whnf))
    refine call0 hr F147 rfl rfl rfl rfl rfl ?_
    ((first|refine rG Γ hm ?_|refine rD Γ hm (by kernel_rfl) ?_);(conv=>whnf);repeat((first|refine aF ?_|refine aT ?_);(first|refine rG Γ hm ?_|refine rD Γ hm (by kernel_rfl) ?_);conv=>whnf))
    exact done0 rfl (.cons .tmp .nil) rfl rfl

theorem refHasS (a b x : Int) (hb : 0 ≤ b ∧ b ≤ 32) (ha : 0 ≤ a ∧ a < 4294967296) (hx : 0 ≤ x ∧ x < 4294967296) : Sy.Spec Tryz.prog 167 [pfxSV a b, u32SV x] [] (boolSV (hasB a b x)) [] := contract Γ hm 100 F167 Tryz.ntmps167 rfl fun F hF => by
  have hi := hasB_iff a b x hb ha hx
  generalize hasB a b x = r at *
  obtain ⟨y, hy⟩ := Int.eq_ofNat_of_zero_le ha.1
  have hr := refAddrRightS a b
  have hf := refFirstS y b (by omega)
  have hl := refLastS y b (by omega)
  rw [decide_eq_true hb] at hr
  rw [← hy] at hf hl
  generalize firstI a b = f at *
  generalize lastI a b = l at *
  ((conv=>whnf);repeat((first|refine aF ?_|refine aT ?_);(first|refine rG Γ hm ?_|refine rD Γ hm (by kernel_rfl) ?_);conv=>whnf))
  refine G_box 2 2 (pfxSV a b) rfl rfl rfl ?_
  ((first|refine rG Γ hm ?_|refine rD Γ hm (by kernel_rfl) ?_);(conv=>whnf);repeat((first|refine aF ?_|refine aT ?_);(first|refine rG Γ hm ?_|refine rD Γ hm (by kernel_rfl) ?_);conv=>whnf))
  refine call0 hr F147 rfl rfl rfl rfl rfl ?_
  ((first|refine rG Γ hm ?_|refine rD Γ hm (by kernel_rfl) ?_);(conv=>whnf);repeat((first|refine aF ?_|refine aT ?_);(first|refine rG Γ hm ?_|refine rD Γ hm (by kernel_rfl) ?_);conv=>whnf))
  refine call0 hf F129 rfl rfl rfl rfl rfl ?_
  ((first|refine rG Γ hm ?_|refine rD Γ hm (by kernel_rfl) ?_);(conv=>whnf);repeat((first|refine aF ?_|refine aT ?_);(first|refine rG Γ hm ?_|refine rD Γ hm (by kernel_rfl) ?_);conv=>whnf))
  refine ⟨fun h => ?_, fun h => ?_⟩
  · have h1 : f ≤ x := of_decide_eq_true h
    ((first|refine rG Γ hm ?_|refine rD Γ hm (by kernel_rfl) ?_);(conv=>whnf);repeat((first|refine aF ?_|refine aT ?_);(first|refine rG Γ hm ?_|refine rD Γ hm (by kernel_rfl) ?_);conv=>whnf))
    refine call0 hl F130 rfl rfl rfl rfl rfl ?_
    ((first|refine rG Γ hm ?_|refine rD Γ hm (by kernel_rfl) ?_);(conv=>whnf);repeat((first|refine aF ?_|refine aT ?_);(first|refine rG Γ hm ?_|refine rD Γ hm (by kernel_rfl) ?_);conv=>whnf))
    refine done0 rfl (.cons .tmp .nil) (congrArg boolSV ?_) rfl
    cases r
    · refine (decide_eq_false (fun h2 => ?_)).symm
      simpa using hi.2 ⟨h1, h2⟩
    · exact (decide_eq_true (hi.1 rfl).2).symm
  · have h1 : ¬ f ≤ x := of_decide_eq_false h
    ((first|refine rG Γ hm ?_|refine rD Γ hm (by kernel_rfl) ?_);(conv=>whnf);repeat((first|refine aF ?_|refine aT ?_);(first|refine rG Γ hm ?_|refine rD Γ hm (by kernel_rfl) ?_);conv=>whnf))
    refine done0 rfl (.cons .tmp .nil) (congrArg boolSV ?_) rfl
    cases r
    · rfl
    · exact absurd (hi.1 rfl).1 h1

theorem refLeaksS (n : Net) (hn : n.Fin) (i k : Int) (hi : 0 ≤ i ∧ i.toNat < n.vrfs.length) (hk : 0 ≤ k ∧ k.toNat < n.vrfs.length) :
    Sy.Spec Tryz.prog 168 [netSV n, intSV i, intSV k] [] (boolSV (leaksB n i k)) [] := contract Γ hm 100 F168 Tryz.ntmps168 rfl fun F hF => by
  have hp1 := ref15PlaceS i n.vrfs.length
  have hp2 := ref15PlaceS k n.vrfs.length
  rw [placeB_true ⟨hi.1, by omega⟩] at hp1
  rw [placeB_true ⟨hk.1, by omega⟩] at hp2
  have him := hn.imports _ (List.getElem_mem hk.2)
  have hex := hn.exports _ (List.getElem_mem hi.2)
  unfold Short at hex
  have hlk := leaksB.eq_1 n i k
  rw [nth_eq hi.2, nth_eq hk.2, idxI_any] at hlk
  generalize leaksB n i k = res at *
  ((conv=>whnf);repeat((first|refine aF ?_|refine aT ?_);(first|refine rG Γ hm ?_|refine rD Γ hm (by kernel_rfl) ?_);conv=>whnf))
  refine G_box 3 8 (netSV n) rfl rfl rfl ?_
  ((first|refine rG Γ hm ?_|refine rD Γ hm (by kernel_rfl) ?_);(conv=>whnf);repeat((first|refine aF ?_|refine aT ?_);(first|refine rG Γ hm ?_|refine rD Γ hm (by kernel_rfl) ?_);conv=>whnf))
  refine call0 hp1 F27 rfl rfl rfl rfl rfl ?_
  ((first|refine rG Γ hm ?_|refine rD Γ hm (by kernel_rfl) ?_);(conv=>whnf);repeat((first|refine aF ?_|refine aT ?_);(first|refine rG Γ hm ?_|refine rD Γ hm (by kernel_rfl) ?_);conv=>whnf))
  refine call0 hp2 F27 rfl rfl rfl rfl rfl ?_
  ((first|refine rG Γ hm ?_|refine rD Γ hm (by kernel_rfl) ?_);(conv=>whnf);repeat((first|refine aF ?_|refine aT ?_);(first|refine rG Γ hm ?_|refine rD Γ hm (by kernel_rfl) ?_);conv=>whnf))
  refine ⟨fun h => ?_, fun h => ?_⟩
  · rw [h, Bool.true_or] at hlk
    subst hlk
    ((first|refine rG Γ hm ?_|refine rD Γ hm (by kernel_rfl) ?_);(conv=>whnf);repeat((first|refine aF ?_|refine aT ?_);(first|refine rG Γ hm ?_|refine rD Γ hm (by kernel_rfl) ?_);conv=>whnf))
    exact done0 rfl (.cons .tmp .nil) rfl rfl
  rw [h, Bool.false_or] at hlk
  ((first|refine rG Γ hm ?_|refine rD Γ hm (by kernel_rfl) ?_);(conv=>whnf);repeat((first|refine aF ?_|refine aT ?_);(first|refine rG Γ hm ?_|refine rD Γ hm (by kernel_rfl) ?_);conv=>whnf))
  refine G_countP (n.vrfs[i.toNat]'hi.2).exports.length (fun j => ∀ q (hq : q < (n.vrfs[i.toNat]'hi.2).exports.length), q < j → ((n.vrfs[i.toNat]'hi.2).dev == (n.vrfs[k.toNat]'hk.2).dev && inB (n.vrfs[k.toNat]'hk.2).imports (n.vrfs[i.toNat]'hi.2).exports[q]) = false) (fun j => [(1, intSV i), (2, intSV k), (3, .ref 8 (netSV n) 0), (7, intSV j)]) (fun _ => []) [] (fun q _ h => absurd h (by omega)) ⟨⟨rfl, rfl, rfl, rfl, rfl, rfl, rfl, rfl, trivial⟩, trivial, rfl, rfl⟩ ?_
  intro j hj hI
  ((first|refine rG Γ hm ?_|refine rD Γ hm (by kernel_rfl) ?_);(conv=>whnf);repeat((first|refine aF ?_|refine aT ?_);(first|refine rG Γ hm ?_|refine rD Γ hm (by kernel_rfl) ?_);conv=>whnf))
  refine ⟨rfl, hi.1, hi.2, ?_⟩
  ((conv=>whnf);repeat((first|refine aF ?_|refine aT ?_);(first|refine rG Γ hm ?_|refine rD Γ hm (by kernel_rfl) ?_);conv=>whnf))
  refine ⟨fun h => ?_, fun h => ?_⟩
  · have hlt : j < (n.vrfs[i.toNat]'hi.2).exports.length := by simpa using h
    have hj0 : ((j : Nat) : Int).toNat < (n.vrfs[i.toNat]'hi.2).exports.length := by simpa using hlt
    have hin := ref15InS (n.vrfs[k.toNat]'hk.2).imports ((n.vrfs[i.toNat]'hi.2).exports[((j : Nat) : Int).toNat]'hj0) him
    have hnx : ((n.vrfs[i.toNat]'hi.2).dev == (n.vrfs[k.toNat]'hk.2).dev && inB (n.vrfs[k.toNat]'hk.2).imports ((n.vrfs[i.toNat]'hi.2).exports[((j : Nat) : Int).toNat]'hj0)) = false → ∀ q (hq : q < (n.vrfs[i.toNat]'hi.2).exports.length), q < j + 1 → ((n.vrfs[i.toNat]'hi.2).dev == (n.vrfs[k.toNat]'hk.2).dev && inB (n.vrfs[k.toNat]'hk.2).imports (n.vrfs[i.toNat]'hi.2).exports[q]) = false := fun hz q hq hqj => by
      rcases Nat.lt_or_ge q j with h1 | h1
      · exact hI q hq h1
      · have : q = j := by omega
        subst this; exact hz
    ((first|refine rG Γ hm ?_|refine rD Γ hm (by kernel_rfl) ?_);(conv=>whnf);repeat((first|refine aF ?_|refine aT ?_);(first|refine rG Γ hm ?_|refine rD Γ hm (by kernel_rfl) ?_);conv=>whnf))
    refine ⟨rfl, hi.1, hi.2, ?_⟩
    ((conv=>whnf);repeat((first|refine aF ?_|refine aT ?_);(first|refine rG Γ hm ?_|refine rD Γ hm (by kernel_rfl) ?_);conv=>whnf))
    refine ⟨rfl, hk.1, hk.2, ?_⟩
    ((conv=>whnf);repeat((first|refine aF ?_|refine aT ?_);(first|refine rG Γ hm ?_|refine rD Γ hm (by kernel_rfl) ?_);conv=>whnf))
    refine ⟨fun h => ?_, fun h => ?_⟩
    · have hdv := h
      rw [h, Bool.true_and] at hlk
      ((first|refine rG Γ hm ?_|refine rD Γ hm (by kernel_rfl) ?_);(conv=>whnf);repeat((first|refine aF ?_|refine aT ?_);(first|refine rG Γ hm ?_|refine rD Γ hm (by kernel_rfl) ?_);conv=>whnf))
      refine ⟨rfl, hk.1, hk.2, ?_⟩
      ((conv=>whnf);repeat((first|refine aF ?_|refine aT ?_);(first|refine rG Γ hm ?_|refine rD Γ hm (by kernel_rfl) ?_);conv=>whnf))
      refine ⟨rfl, hi.1, hi.2, ?_⟩
      ((conv=>whnf);repeat((first|refine aF ?_|refine aT ?_);(first|refine rG Γ hm ?_|refine rD Γ hm (by kernel_rfl) ?_);conv=>whnf))
      refine ⟨rfl, by omega, hj0, ?_⟩
      ((conv=>whnf);repeat((first|refine aF ?_|refine aT ?_);(first|refine rG Γ hm ?_|refine rD Γ hm (by kernel_rfl) ?_);conv=>whnf))
      refine callD0 hin F67 rfl rfl rfl (by kernel_rfl) rfl ?_
      ((first|refine rG Γ hm ?_|refine rD Γ hm (by kernel_rfl) ?_);(conv=>whnf);repeat((first|refine aF ?_|refine aT ?_);(first|refine rG Γ hm ?_|refine rD Γ hm (by kernel_rfl) ?_);conv=>whnf))
      refine ⟨(by kernel_rfl), ?_⟩
      ((conv=>whnf);repeat((first|refine aF ?_|refine aT ?_);(first|refine rG Γ hm ?_|refine rD Γ hm (by kernel_rfl) ?_);conv=>whnf))
      refine ⟨fun h => ?_, fun h => ?_⟩
      · have e : (n.vrfs[i.toNat]'hi.2).exports.any (inB (n.vrfs[k.toNat]'hk.2).imports) = true := List.any_eq_true.2 ⟨_, List.getElem_mem hlt, h⟩
        rw [e] at hlk
        subst hlk
        ((first|refine rG Γ hm ?_|refine rD Γ hm (by kernel_rfl) ?_);(conv=>whnf);repeat((first|refine aF ?_|refine aT ?_);(first|refine rG Γ hm ?_|refine rD Γ hm (by kernel_rfl) ?_);conv=>whnf))
        exact done0 rfl (.cons .tmp .nil) rfl rfl
      · ((first|refine rG Γ hm ?_|refine rD Γ hm (by kernel_rfl) ?_);(conv=>whnf);repeat((first|refine aF ?_|refine aT ?_);(first|refine rG Γ hm ?_|refine rD Γ hm (by kernel_rfl) ?_);conv=>whnf))
        refine ⟨by unfold I64; omega, ?_⟩
        ((conv=>whnf);repeat((first|refine aF ?_|refine aT ?_);(first|refine rG Γ hm ?_|refine rD Γ hm (by kernel_rfl) ?_);conv=>whnf))
        exact G_nextP [] hI (by omega) (hnx (by rw [hdv, h]; rfl)) ⟨⟨rfl, rfl, rfl, rfl, rfl, rfl, rfl, rfl, trivial⟩, trivial, rfl, rfl⟩
    · have hdv := h
      rw [h, Bool.false_and] at hlk
      ((first|refine rG Γ hm ?_|refine rD Γ hm (by kernel_rfl) ?_);(conv=>whnf);repeat((first|refine aF ?_|refine aT ?_);(first|refine rG Γ hm ?_|refine rD Γ hm (by kernel_rfl) ?_);conv=>whnf))
      refine ⟨(by kernel_rfl), ?_⟩
      ((conv=>whnf);repeat((first|refine aF ?_|refine aT ?_);(first|refine rG Γ hm ?_|refine rD Γ hm (by kernel_rfl) ?_);conv=>whnf))
      refine ⟨by unfold I64; omega, ?_⟩
      ((conv=>whnf);repeat((first|refine aF ?_|refine aT ?_);(first|refine rG Γ hm ?_|refine rD Γ hm (by kernel_rfl) ?_);conv=>whnf))
      exact G_nextP [] hI (by omega) (hnx (by rw [hdv]; rfl)) ⟨⟨rfl, rfl, rfl, rfl, rfl, rfl, rfl, rfl, trivial⟩, trivial, rfl, rfl⟩
  · have : j = (n.vrfs[i.toNat]'hi.2).exports.length := by have := of_decide_eq_false h; omega
    subst this
    have e : ((n.vrfs[i.toNat]'hi.2).dev == (n.vrfs[k.toNat]'hk.2).dev && (n.vrfs[i.toNat]'hi.2).exports.any (inB (n.vrfs[k.toNat]'hk.2).imports)) = false := by
      cases hd : (n.vrfs[i.toNat]'hi.2).dev == (n.vrfs[k.toNat]'hk.2).dev
      · rfl
      · rw [Bool.true_and, List.any_eq_false]
        intro x hx
        obtain ⟨q, hq, rfl⟩ := List.getElem_of_mem hx
        have := hI q hq hq
        rw [hd, Bool.true_and] at this
        simp [this]
    rw [e] at hlk
    subst hlk
    ((first|refine rG Γ hm ?_|refine rD Γ hm (by kernel_rfl) ?_);(conv=>whnf);repeat((first|refine aF ?_|refine aT ?_);(first|refine rG Γ hm ?_|refine rD Γ hm (by kernel_rfl) ?_);conv=>whnf))
    exact done0 rfl (.cons .tmp .nil) rfl rfl

theorem refDeviceS (n : Net) (hb : netRightB n = true) (i : Int) (hi : InIrbs n i) : Sy.Spec Tryz.prog 166 [netSV n, intSV i] [] (intSV (irbDev n i)) [] := contract Γ hm 100 F166 Tryz.ntmps166 rfl fun F hF => by
  have hf := (e_irb_facts hb hi.2).1
  rw [irbDev, nth_eq hi.2, nth_eq hf.2]
  obtain ⟨x, hx⟩ : ∃ x, n.irbs[i.toNat]'hi.2 = x := ⟨_, rfl⟩
  have hf2 : (0 ≤ x.domain ∧ x.domain.toNat < n.domains.length) := by rw [← hx]; exact hf
  have e : n.domains[(n.irbs[i.toNat]'hi.2).domain.toNat]'hf.2 = n.domains[x.domain.toNat]'hf2.2 := by simp only [hx]
  rw [e]
  obtain ⟨d, hd⟩ : ∃ d, n.domains[x.domain.toNat]'hf2.2 = d := ⟨_, rfl⟩
  rw [hd]
  ((conv=>whnf);repeat((first|refine aF ?_|refine aT ?_);(first|refine rG Γ hm ?_|refine rD Γ hm (by kernel_rfl) ?_);conv=>whnf))
  refine ⟨rfl, hi.1, hi.2, ?_⟩
  rw [hx]
  ((conv=>whnf);repeat((first|refine aF ?_|refine aT ?_);(first|refine rG Γ hm ?_|refine rD Γ hm (by kernel_rfl) ?_);conv=>whnf))
  refine ⟨rfl, hf2.1, hf2.2, ?_⟩
  rw [hd]
  ((conv=>whnf);repeat((first|refine aF ?_|refine aT ?_);(first|refine rG Γ hm ?_|refine rD Γ hm (by kernel_rfl) ?_);conv=>whnf))
  refine ⟨(by kernel_rfl), ?_⟩
  ((conv=>whnf);repeat((first|refine aF ?_|refine aT ?_);(first|refine rG Γ hm ?_|refine rD Γ hm (by kernel_rfl) ?_);conv=>whnf))
  exact done0 rfl (.cons .tmp .nil) rfl rfl

end Go.Sy.YtlfopmhekhifoaaGreatDoor
