/-
  Contracts: the checker of ways: a link's row. Contracts: the checker of ways: a mesh's row. Contracts: the checker of ways: a route's row (what addr.Read answers being given). Contracts: the checker of ways: a row between the first and the last one. The checker of ways stays in the net; rows one by one. Contracts: explain.Check (what addr.Read answers being given).
-/
import Derived.Test.YtlfopmhekhifoaaGreatDoorC13

namespace Go.Sy.YtlfopmhekhifoaaGreatDoor
open Go.Proofs
-- SIMP: placeB

attribute [local irreducible] Go.Sy.G Go.Sy.DR
set_option maxRecDepth 20000
set_option maxHeartbeats 4000000

abbrev chkL (n : Net) (a : Int) (r : Bool) : List SV := [.sl 5 deviceSV n.devices, .sl 7 portSV n.ports, .sl 3 linkSV n.links, .sl 6 domainSV n.domains, .sl 4 staticSV n.statics, .sl 4 floodSV n.floods, .sl 5 vrfSV n.vrfs, .sl 5 irbSV n.irbs, intSV a, boolSV r]

def linkR (n : Net) (a : Int) (w : List ByteArray) : Bool × Int :=
  if w.length ≠ 4 then (false, a)
  else if portI n (nth w 1) < 0 ∨ portI n (nth w 2) < 0 ∨ domTextI n (nth w 3) < 0 ∨ inB (membersT n a) (portI n (nth w 1)) = false ∨ otherT n (portI n (nth w 1)) ≠ portI n (nth w 2) then (false, a)
  else ((linkDomT n (portI n (nth w 1)) (nth n.domains a).vlan).2 && (linkDomT n (portI n (nth w 1)) (nth n.domains a).vlan).1 == domTextI n (nth w 3), domTextI n (nth w 3))

theorem checkerLinkS (n : Net) (hn : n.Fin) (hnm : Named n) (hb : netRightB n = true) (a : Int) (r : Bool) (w : List ByteArray) (hw : Short w) (ha : 0 ≤ a ∧ a.toNat < n.domains.length) :
    Sy.Spec Tryz.prog 82 [.ptr 0 0, .sl 1 strSV w] [(0, .box (chkL n a r))] (boolSV (linkR n a w).1) [(0, .box (chkL n (linkR n a w).2 r))] := contract Γ hm 100 F82 Tryz.ntmps82 rfl fun F hF => by
  have hlk := linkR.eq_1 n a w
  generalize linkR n a w = res at *
  unfold Short at hw
  ((conv=>whnf);repeat((first|refine aF ?_|refine aT ?_);(first|refine rG Γ hm ?_|refine rD Γ hm (by kernel_rfl) ?_);conv=>whnf))
  refine ⟨fun h => ?_, fun h => ?_⟩
  · have h1 : w.length ≠ 4 := by
      intro e
      rw [e] at h
      exact absurd h (by decide)
    rw [if_pos h1] at hlk
    subst hlk
    ((first|refine rG Γ hm ?_|refine rD Γ hm (by kernel_rfl) ?_);(conv=>whnf);repeat((first|refine aF ?_|refine aT ?_);(first|refine rG Γ hm ?_|refine rD Γ hm (by kernel_rfl) ?_);conv=>whnf))
    exact done rfl (.cons .tmp .nil) [] [(0, .box (chkL n a r))] (fun _ h => h) rfl rfl ⟨trivial, ⟨.inl rfl, rfl, trivial⟩, rfl, rfl⟩
  have h1 : w.length = 4 := by
    have := h
    simp at this
    omega
  rw [if_neg (by simp [h1])] at hlk
  obtain ⟨w0, w1, w2, w3, rfl⟩ : ∃ w0 w1 w2 w3, w = [w0, w1, w2, w3] := by
    match w, h1 with
    | [a, b, c, d], _ => exact ⟨a, b, c, d, rfl⟩
  have e1 : nth [w0, w1, w2, w3] 1 = w1 := rfl
  have e2 : nth [w0, w1, w2, w3] 2 = w2 := rfl
  have e3 : nth [w0, w1, w2, w3] 3 = w3 := rfl
  rw [e1, e2, e3] at hlk
  have q1 := checkerPortS n hn hnm hb a r w1
  have q2 := checkerPortS n hn hnm hb a r w2
  have q3 := checkerDomainS n hn hnm a r w3
  generalize portI n w1 = pt at *
  generalize portI n w2 = fr at *
  generalize domTextI n w3 = nx at *
  have q4 := checkerMemberS n hn a r pt a
  have q5 := linksOtherS2 n hn pt
  generalize inB (membersT n a) pt = mem at *
  generalize otherT n pt = ot at *
  rw [nth_eq ha.2] at hlk
  obtain ⟨d, hd⟩ : ∃ d, n.domains[a.toNat]'ha.2 = d := ⟨_, rfl⟩
  rw [hd] at hlk
  have q6 := linksDomainS n hn pt d.vlan
  generalize linkDomT n pt d.vlan = ld at *
  ((first|refine rG Γ hm ?_|refine rD Γ hm (by kernel_rfl) ?_);(conv=>whnf);repeat((first|refine aF ?_|refine aT ?_);(first|refine rG Γ hm ?_|refine rD Γ hm (by kernel_rfl) ?_);conv=>whnf))
  refine ⟨rfl, by decide, by simp, ?_⟩
  ((conv=>whnf);repeat((first|refine aF ?_|refine aT ?_);(first|refine rG Γ hm ?_|refine rD Γ hm (by kernel_rfl) ?_);conv=>whnf))
  refine callDK [0] q1 F30 rfl (.cons (.box rfl rfl rfl rfl) (.cons (.refl _) .nil)) rfl (by kernel_rfl) rfl ?_
  ((first|refine rG Γ hm ?_|refine rD Γ hm (by kernel_rfl) ?_);(conv=>whnf);repeat((first|refine aF ?_|refine aT ?_);(first|refine rG Γ hm ?_|refine rD Γ hm (by kernel_rfl) ?_);conv=>whnf))
  refine ⟨rfl, by decide, by simp, ?_⟩
  ((conv=>whnf);repeat((first|refine aF ?_|refine aT ?_);(first|refine rG Γ hm ?_|refine rD Γ hm (by kernel_rfl) ?_);conv=>whnf))
  refine callDK [0] q2 F30 rfl (.cons (.box rfl rfl rfl rfl) (.cons (.refl _) .nil)) rfl (by kernel_rfl) rfl ?_
  ((first|refine rG Γ hm ?_|refine rD Γ hm (by kernel_rfl) ?_);(conv=>whnf);repeat((first|refine aF ?_|refine aT ?_);(first|refine rG Γ hm ?_|refine rD Γ hm (by kernel_rfl) ?_);conv=>whnf))
  refine ⟨rfl, by decide, by simp, ?_⟩
  ((conv=>whnf);repeat((first|refine aF ?_|refine aT ?_);(first|refine rG Γ hm ?_|refine rD Γ hm (by kernel_rfl) ?_);conv=>whnf))
  refine callDK [0] q3 F31 rfl (.cons (.box rfl rfl rfl rfl) (.cons (.refl _) .nil)) rfl (by kernel_rfl) rfl ?_
  ((first|refine rG Γ hm ?_|refine rD Γ hm (by kernel_rfl) ?_);(conv=>whnf);repeat((first|refine aF ?_|refine aT ?_);(first|refine rG Γ hm ?_|refine rD Γ hm (by kernel_rfl) ?_);conv=>whnf))
  refine ⟨(by kernel_rfl), ?_⟩
  ((conv=>whnf);repeat((first|refine aF ?_|refine aT ?_);(first|refine rG Γ hm ?_|refine rD Γ hm (by kernel_rfl) ?_);conv=>whnf))
  refine ⟨fun h => ?_, fun h => ?_⟩
  · rw [if_pos (.inl (of_decide_eq_true h))] at hlk
    subst hlk
    ((first|refine rG Γ hm ?_|refine rD Γ hm (by kernel_rfl) ?_);(conv=>whnf);repeat((first|refine aF ?_|refine aT ?_);(first|refine rG Γ hm ?_|refine rD Γ hm (by kernel_rfl) ?_);conv=>whnf))
    exact done rfl (.cons .tmp .nil) [] [(0, .box (chkL n a r))] (fun _ h => h) rfl rfl ⟨trivial, ⟨.inl rfl, rfl, trivial⟩, rfl, rfl⟩
  have p1 := of_decide_eq_false h
  ((first|refine rG Γ hm ?_|refine rD Γ hm (by kernel_rfl) ?_);(conv=>whnf);repeat((first|refine aF ?_|refine aT ?_);(first|refine rG Γ hm ?_|refine rD Γ hm (by kernel_rfl) ?_);conv=>whnf))
  refine ⟨fun h => ?_, fun h => ?_⟩
  · rw [if_pos (.inr (.inl (of_decide_eq_true h)))] at hlk
    subst hlk
    ((first|refine rG Γ hm ?_|refine rD Γ hm (by kernel_rfl) ?_);(conv=>whnf);repeat((first|refine aF ?_|refine aT ?_);(first|refine rG Γ hm ?_|refine rD Γ hm (by kernel_rfl) ?_);conv=>whnf))
    exact done rfl (.cons .tmp .nil) [] [(0, .box (chkL n a r))] (fun _ h => h) rfl rfl ⟨trivial, ⟨.inl rfl, rfl, trivial⟩, rfl, rfl⟩
  have p2 := of_decide_eq_false h
  ((first|refine rG Γ hm ?_|refine rD Γ hm (by kernel_rfl) ?_);(conv=>whnf);repeat((first|refine aF ?_|refine aT ?_);(first|refine rG Γ hm ?_|refine rD Γ hm (by kernel_rfl) ?_);conv=>whnf))
  refine ⟨fun h => ?_, fun h => ?_⟩
  · rw [if_pos (.inr (.inr (.inl (of_decide_eq_true h))))] at hlk
    subst hlk
    ((first|refine rG Γ hm ?_|refine rD Γ hm (by kernel_rfl) ?_);(conv=>whnf);repeat((first|refine aF ?_|refine aT ?_);(first|refine rG Γ hm ?_|refine rD Γ hm (by kernel_rfl) ?_);conv=>whnf))
    exact done rfl (.cons .tmp .nil) [] [(0, .box (chkL n a r))] (fun _ h => h) rfl rfl ⟨trivial, ⟨.inl rfl, rfl, trivial⟩, rfl, rfl⟩
  have p3 := of_decide_eq_false h
  ((first|refine rG Γ hm ?_|refine rD Γ hm (by kernel_rfl) ?_);(conv=>whnf);repeat((first|refine aF ?_|refine aT ?_);(first|refine rG Γ hm ?_|refine rD Γ hm (by kernel_rfl) ?_);conv=>whnf))
  refine callK [0] q4 F33 rfl (.cons (.box rfl rfl rfl rfl) (.cons (.refl _) (.cons (.refl _) .nil))) rfl rfl rfl ?_
  cases mem
  · rw [if_pos (.inr (.inr (.inr (.inl rfl))))] at hlk
    subst hlk
    ((first|refine rG Γ hm ?_|refine rD Γ hm (by kernel_rfl) ?_);(conv=>whnf);repeat((first|refine aF ?_|refine aT ?_);(first|refine rG Γ hm ?_|refine rD Γ hm (by kernel_rfl) ?_);conv=>whnf))
    exact done rfl (.cons .tmp .nil) [] [(0, .box (chkL n a r))] (fun _ h => h) rfl rfl ⟨trivial, ⟨.inl rfl, rfl, trivial⟩, rfl, rfl⟩
  ((first|refine rG Γ hm ?_|refine rD Γ hm (by kernel_rfl) ?_);(conv=>whnf);repeat((first|refine aF ?_|refine aT ?_);(first|refine rG Γ hm ?_|refine rD Γ hm (by kernel_rfl) ?_);conv=>whnf))
  refine call0 q5 F62 rfl rfl rfl rfl rfl ?_
  ((first|refine rG Γ hm ?_|refine rD Γ hm (by kernel_rfl) ?_);(conv=>whnf);repeat((first|refine aF ?_|refine aT ?_);(first|refine rG Γ hm ?_|refine rD Γ hm (by kernel_rfl) ?_);conv=>whnf))
  refine ⟨fun h => ?_, fun h => ?_⟩
  · rw [if_pos (.inr (.inr (.inr (.inr (by simpa using h)))))] at hlk
    subst hlk
    ((first|refine rG Γ hm ?_|refine rD Γ hm (by kernel_rfl) ?_);(conv=>whnf);repeat((first|refine aF ?_|refine aT ?_);(first|refine rG Γ hm ?_|refine rD Γ hm (by kernel_rfl) ?_);conv=>whnf))
    exact done rfl (.cons .tmp .nil) [] [(0, .box (chkL n a r))] (fun _ h => h) rfl rfl ⟨trivial, ⟨.inl rfl, rfl, trivial⟩, rfl, rfl⟩
  have p5 : ot = fr := by simpa using h
  rw [if_neg (by simp [p1, p2, p3, p5])] at hlk
  ((first|refine rG Γ hm ?_|refine rD Γ hm (by kernel_rfl) ?_);(conv=>whnf);repeat((first|refine aF ?_|refine aT ?_);(first|refine rG Γ hm ?_|refine rD Γ hm (by kernel_rfl) ?_);conv=>whnf))
  refine ⟨rfl, ha.1, ha.2, ?_⟩
  rw [hd]
  ((conv=>whnf);repeat((first|refine aF ?_|refine aT ?_);(first|refine rG Γ hm ?_|refine rD Γ hm (by kernel_rfl) ?_);conv=>whnf))
  refine callD0 q6 F118 rfl rfl rfl (by kernel_rfl) rfl ?_
  ((first|refine rG Γ hm ?_|refine rD Γ hm (by kernel_rfl) ?_);(conv=>whnf);repeat((first|refine aF ?_|refine aT ?_);(first|refine rG Γ hm ?_|refine rD Γ hm (by kernel_rfl) ?_);conv=>whnf))
  refine ⟨(by kernel_rfl), ?_⟩
  ((conv=>whnf);repeat((first|refine aF ?_|refine aT ?_);(first|refine rG Γ hm ?_|refine rD Γ hm (by kernel_rfl) ?_);conv=>whnf))
  obtain ⟨to, ok⟩ := ld
  subst hlk
  refine ⟨fun h => ?_, fun h => ?_⟩ <;> (have h : ok = _ := h; subst h)
  · ((first|refine rG Γ hm ?_|refine rD Γ hm (by kernel_rfl) ?_);(conv=>whnf);repeat((first|refine aF ?_|refine aT ?_);(first|refine rG Γ hm ?_|refine rD Γ hm (by kernel_rfl) ?_);conv=>whnf))
    exact done rfl (.cons .tmp .nil) [] [(0, .box (chkL n nx r))] (fun _ h => h) rfl rfl ⟨trivial, ⟨.inl rfl, rfl, trivial⟩, rfl, rfl⟩
  · ((first|refine rG Γ hm ?_|refine rD Γ hm (by kernel_rfl) ?_);(conv=>whnf);repeat((first|refine aF ?_|refine aT ?_);(first|refine rG Γ hm ?_|refine rD Γ hm (by kernel_rfl) ?_);conv=>whnf))
    exact done rfl (.cons .tmp .nil) [] [(0, .box (chkL n nx r))] (fun _ h => h) rfl rfl ⟨trivial, ⟨.inl rfl, rfl, trivial⟩, rfl, rfl⟩

end Go.Sy.YtlfopmhekhifoaaGreatDoor

namespace Go.Sy.YtlfopmhekhifoaaGreatDoor
open Go.Proofs
-- SIMP: placeB

attribute [local irreducible] Go.Sy.G Go.Sy.DR
set_option maxRecDepth 20000
set_option maxHeartbeats 4000000

theorem domTextI_lt (n : Net) (s : ByteArray) : domTextI n s < n.domains.length ∧ -1 ≤ domTextI n s := by
  unfold domTextI
  split
  · rename_i i hi
    have := List.mem_of_find?_eq_some hi
    simp only [List.mem_range] at this
    omega
  · omega

def meshR (n : Net) (a : Int) (w : List ByteArray) : Bool × Int :=
  if w.length ≠ 3 then (false, a)
  else if domTextI n (nth w 2) < 0 ∨ inB (nth n.domains a).peers (domTextI n (nth w 2)) = false ∨ (numT (nth n.domains (domTextI n (nth w 2))).vni == nth w 1) = false then (false, a)
  else (true, domTextI n (nth w 2))

theorem checkerMeshS (n : Net) (hn : n.Fin) (hnm : Named n) (hb : netRightB n = true) (a : Int) (r : Bool) (w : List ByteArray) (hw : Short w) (ha : 0 ≤ a ∧ a.toNat < n.domains.length) :
    Sy.Spec Tryz.prog 83 [.ptr 0 0, .sl 1 strSV w] [(0, .box (chkL n a r))] (boolSV (meshR n a w).1) [(0, .box (chkL n (meshR n a w).2 r))] := contract Γ hm 100 F83 Tryz.ntmps83 rfl fun F hF => by
  have hlk := meshR.eq_1 n a w
  generalize meshR n a w = res at *
  unfold Short at hw
  ((conv=>whnf);repeat((first|refine aF ?_|refine aT ?_);(first|refine rG Γ hm ?_|refine rD Γ hm (by kernel_rfl) ?_);conv=>whnf))
  refine ⟨fun h => ?_, fun h => ?_⟩
  · have h1 : w.length ≠ 3 := by
      intro e
      rw [e] at h
      exact absurd h (by decide)
    rw [if_pos h1] at hlk
    subst hlk
    ((first|refine rG Γ hm ?_|refine rD Γ hm (by kernel_rfl) ?_);(conv=>whnf);repeat((first|refine aF ?_|refine aT ?_);(first|refine rG Γ hm ?_|refine rD Γ hm (by kernel_rfl) ?_);conv=>whnf))
    exact done rfl (.cons .tmp .nil) [] [(0, .box (chkL n a r))] (fun _ h => h) rfl rfl ⟨trivial, ⟨.inl rfl, rfl, trivial⟩, rfl, rfl⟩
  have h1 : w.length = 3 := by
    have := h
    simp at this
    omega
  rw [if_neg (by simp [h1])] at hlk
  obtain ⟨w0, w1, w2, rfl⟩ : ∃ w0 w1 w2, w = [w0, w1, w2] := by
    match w, h1 with
    | [a, b, c], _ => exact ⟨a, b, c, rfl⟩
  have e1 : nth [w0, w1, w2] 1 = w1 := rfl
  have e2 : nth [w0, w1, w2] 2 = w2 := rfl
  rw [e1, e2] at hlk
  have q3 := checkerDomainS n hn hnm a r w2
  have hnx := domTextI_lt n w2
  generalize domTextI n w2 = nx at *
  rw [nth_eq ha.2] at hlk
  have hpe := hn.peers _ (List.getElem_mem ha.2)
  have q4 := containsS (n.domains[a.toNat]'ha.2).peers nx hpe
  ((first|refine rG Γ hm ?_|refine rD Γ hm (by kernel_rfl) ?_);(conv=>whnf);repeat((first|refine aF ?_|refine aT ?_);(first|refine rG Γ hm ?_|refine rD Γ hm (by kernel_rfl) ?_);conv=>whnf))
  refine ⟨rfl, by decide, by simp, ?_⟩
  ((conv=>whnf);repeat((first|refine aF ?_|refine aT ?_);(first|refine rG Γ hm ?_|refine rD Γ hm (by kernel_rfl) ?_);conv=>whnf))
  refine callK [0] q3 F31 rfl (.cons (.box rfl rfl rfl rfl) (.cons (.refl _) .nil)) rfl rfl rfl ?_
  ((first|refine rG Γ hm ?_|refine rD Γ hm (by kernel_rfl) ?_);(conv=>whnf);repeat((first|refine aF ?_|refine aT ?_);(first|refine rG Γ hm ?_|refine rD Γ hm (by kernel_rfl) ?_);conv=>whnf))
  refine ⟨fun h => ?_, fun h => ?_⟩
  · rw [if_pos (.inl (of_decide_eq_true h))] at hlk
    subst hlk
    ((first|refine rG Γ hm ?_|refine rD Γ hm (by kernel_rfl) ?_);(conv=>whnf);repeat((first|refine aF ?_|refine aT ?_);(first|refine rG Γ hm ?_|refine rD Γ hm (by kernel_rfl) ?_);conv=>whnf))
    refine ⟨(by kernel_rfl), ?_⟩
    ((conv=>whnf);repeat((first|refine aF ?_|refine aT ?_);(first|refine rG Γ hm ?_|refine rD Γ hm (by kernel_rfl) ?_);conv=>whnf))
    exact done rfl (.cons .tmp .nil) [] [(0, .box (chkL n a r))] (fun _ h => h) rfl rfl ⟨trivial, ⟨.inl rfl, rfl, trivial⟩, rfl, rfl⟩
  have p1 : ¬ nx < 0 := of_decide_eq_false h
  have hk : nx.toNat < n.domains.length := by omega
  rw [nth_eq hk] at hlk
  have hf := (e_dom_facts hb hk).2.2.1
  obtain ⟨v, hv⟩ : ∃ v : Nat, (n.domains[nx.toNat]'hk).vni = v := ⟨(n.domains[nx.toNat]'hk).vni.toNat, by omega⟩
  have q5 := numTextS v (by omega)
  rw [← hv] at q5
  generalize hnv : numT (n.domains[nx.toNat]'hk).vni = nv at *
  ((first|refine rG Γ hm ?_|refine rD Γ hm (by kernel_rfl) ?_);(conv=>whnf);repeat((first|refine aF ?_|refine aT ?_);(first|refine rG Γ hm ?_|refine rD Γ hm (by kernel_rfl) ?_);conv=>whnf))
  refine ⟨rfl, ha.1, ha.2, ?_⟩
  ((conv=>whnf);repeat((first|refine aF ?_|refine aT ?_);(first|refine rG Γ hm ?_|refine rD Γ hm (by kernel_rfl) ?_);conv=>whnf))
  refine callD0 q4 F55 rfl rfl rfl (by kernel_rfl) rfl ?_
  cases hin : inB (n.domains[a.toNat]'ha.2).peers nx
  · rw [if_pos (.inr (.inl hin))] at hlk
    subst hlk
    ((first|refine rG Γ hm ?_|refine rD Γ hm (by kernel_rfl) ?_);(conv=>whnf);repeat((first|refine aF ?_|refine aT ?_);(first|refine rG Γ hm ?_|refine rD Γ hm (by kernel_rfl) ?_);conv=>whnf))
    refine ⟨(by kernel_rfl), ?_⟩
    ((conv=>whnf);repeat((first|refine aF ?_|refine aT ?_);(first|refine rG Γ hm ?_|refine rD Γ hm (by kernel_rfl) ?_);conv=>whnf))
    exact done rfl (.cons .tmp .nil) [] [(0, .box (chkL n a r))] (fun _ h => h) rfl rfl ⟨trivial, ⟨.inl rfl, rfl, trivial⟩, rfl, rfl⟩
  ((first|refine rG Γ hm ?_|refine rD Γ hm (by kernel_rfl) ?_);(conv=>whnf);repeat((first|refine aF ?_|refine aT ?_);(first|refine rG Γ hm ?_|refine rD Γ hm (by kernel_rfl) ?_);conv=>whnf))
  refine ⟨rfl, by omega, hk, ?_⟩
  ((conv=>whnf);repeat((first|refine aF ?_|refine aT ?_);(first|refine rG Γ hm ?_|refine rD Γ hm (by kernel_rfl) ?_);conv=>whnf))
  refine callD0 q5 F61 rfl rfl rfl (by kernel_rfl) rfl ?_
  ((first|refine rG Γ hm ?_|refine rD Γ hm (by kernel_rfl) ?_);(conv=>whnf);repeat((first|refine aF ?_|refine aT ?_);(first|refine rG Γ hm ?_|refine rD Γ hm (by kernel_rfl) ?_);conv=>whnf))
  refine ⟨rfl, by decide, by simp, ?_⟩
  ((conv=>whnf);repeat((first|refine aF ?_|refine aT ?_);(first|refine rG Γ hm ?_|refine rD Γ hm (by kernel_rfl) ?_);conv=>whnf))
  refine ⟨(by kernel_rfl), ?_⟩
  ((conv=>whnf);repeat((first|refine aF ?_|refine aT ?_);(first|refine rG Γ hm ?_|refine rD Γ hm (by kernel_rfl) ?_);conv=>whnf))
  refine ⟨fun h => ?_, fun h => ?_⟩
  · rw [if_pos (.inr (.inr (by simpa using h)))] at hlk
    subst hlk
    ((first|refine rG Γ hm ?_|refine rD Γ hm (by kernel_rfl) ?_);(conv=>whnf);repeat((first|refine aF ?_|refine aT ?_);(first|refine rG Γ hm ?_|refine rD Γ hm (by kernel_rfl) ?_);conv=>whnf))
    exact done rfl (.cons .tmp .nil) [] [(0, .box (chkL n a r))] (fun _ h => h) rfl rfl ⟨trivial, ⟨.inl rfl, rfl, trivial⟩, rfl, rfl⟩
  · have h5 : (nv == w1) = true := by simpa using h
    rw [if_neg (by simp only [hin, h5, p1]; simp)] at hlk
    subst hlk
    ((first|refine rG Γ hm ?_|refine rD Γ hm (by kernel_rfl) ?_);(conv=>whnf);repeat((first|refine aF ?_|refine aT ?_);(first|refine rG Γ hm ?_|refine rD Γ hm (by kernel_rfl) ?_);conv=>whnf))
    exact done rfl (.cons .tmp .nil) [] [(0, .box (chkL n nx r))] (fun _ h => h) rfl rfl ⟨trivial, ⟨.inl rfl, rfl, trivial⟩, rfl, rfl⟩

end Go.Sy.YtlfopmhekhifoaaGreatDoor

namespace Go.Sy.YtlfopmhekhifoaaGreatDoor
open Go.Proofs
-- SIMP: placeB

attribute [local irreducible] Go.Sy.G Go.Sy.DR
set_option maxRecDepth 20000
set_option maxHeartbeats 4000000

theorem lookT_there {n : Net} {irb dst : Int} (h : (lookT n irb dst).2 = true) : InIrbs n (lookT n irb dst).1 := by
  unfold lookT at h ⊢
  split at h
  · cases h
  rename_i h1
  rw [if_neg h1]
  split at h
  · cases h
  rename_i h2
  rw [if_neg h2]
  have hm := maxI_mem (cmpR n irb) (waysL n irb dst) (List.length_pos_iff.2 h2) ((waysL n irb dst).length - 1) (by have := List.length_pos_iff.2 h2; omega)
  have := (filtI_mem (p := wayB n irb dst) (j := n.irbs.length)).1 hm
  exact ⟨this.1, by omega⟩

theorem sameAddrC (x : Int) (i : Irb) : Sy.Spec Tryz.prog 117 [irbSV i, .ref 1 (u32SV x) 0] [] (boolSV (i.addr == x)) [] := contract Γ hm 100 F117 Tryz.ntmps117 rfl fun F hF => by
  ((conv=>whnf);repeat((first|refine aF ?_|refine aT ?_);(first|refine rG Γ hm ?_|refine rD Γ hm (by kernel_rfl) ?_);conv=>whnf))
  exact done0 rfl (.cons .tmp .nil) rfl rfl

def routeR (n : Net) (a : Int) (r : Bool) (w : List ByteArray) (rd : ByteArray → Int × Bool) : Bool × Int × Bool :=
  if w.length ≠ 3 ∨ r = true ∨ (nth n.domains a).irb < 0 then (false, a, r)
  else if (rd (nth w 1)).2 = false ∨ domTextI n (nth w 2) < 0 ∨ (lookT n (nth n.domains a).irb (rd (nth w 1)).1).2 = false ∨ 0 ≤ idxI (fun i : Irb => i.addr == (rd (nth w 1)).1) n.irbs ∨
      (nth n.irbs (lookT n (nth n.domains a).irb (rd (nth w 1)).1).1).domain ≠ domTextI n (nth w 2) then (false, a, r)
  else (true, domTextI n (nth w 2), true)

theorem checkerRouteS (n : Net) (hn : n.Fin) (hnm : Named n) (hb : netRightB n = true) (a : Int) (r : Bool) (w : List ByteArray) (rd : ByteArray → Int × Bool) (hw : Short w) (ha : 0 ≤ a ∧ a.toNat < n.domains.length)
    (hrd : ∀ s ∈ w, Sy.Spec Tryz.prog 114 [strSV s] [] (.tup [u32SV (rd s).1, boolSV (rd s).2]) []) :
    Sy.Spec Tryz.prog 81 [.ptr 0 0, .sl 1 strSV w] [(0, .box (chkL n a r))] (boolSV (routeR n a r w rd).1) [(0, .box (chkL n (routeR n a r w rd).2.1 (routeR n a r w rd).2.2))] := contract Γ hm 100 F81 Tryz.ntmps81 rfl fun F hF => by
  have hlk := routeR.eq_1 n a r w rd
  generalize routeR n a r w rd = res at *
  unfold Short at hw
  ((conv=>whnf);repeat((first|refine aF ?_|refine aT ?_);(first|refine rG Γ hm ?_|refine rD Γ hm (by kernel_rfl) ?_);conv=>whnf))
  refine ⟨fun h => ?_, fun h => ?_⟩
  · have h1 : w.length ≠ 3 := by
      intro e
      rw [e] at h
      exact absurd h (by decide)
    rw [if_pos (.inl h1)] at hlk
    subst hlk
    ((first|refine rG Γ hm ?_|refine rD Γ hm (by kernel_rfl) ?_);(conv=>whnf);repeat((first|refine aF ?_|refine aT ?_);(first|refine rG Γ hm ?_|refine rD Γ hm (by kernel_rfl) ?_);conv=>whnf))
    refine ⟨(by kernel_rfl), ?_⟩
    ((conv=>whnf);repeat((first|refine aF ?_|refine aT ?_);(first|refine rG Γ hm ?_|refine rD Γ hm (by kernel_rfl) ?_);conv=>whnf))
    exact done rfl (.cons .tmp .nil) [] [(0, .box (chkL n a r))] (fun _ h => h) rfl rfl ⟨trivial, ⟨.inl rfl, rfl, trivial⟩, rfl, rfl⟩
  have h1 : w.length = 3 := by
    have := h
    simp at this
    omega
  obtain ⟨w0, w1, w2, rfl⟩ : ∃ w0 w1 w2, w = [w0, w1, w2] := by
    match w, h1 with
    | [a, b, c], _ => exact ⟨a, b, c, rfl⟩
  have e1 : nth [w0, w1, w2] 1 = w1 := rfl
  have e2 : nth [w0, w1, w2] 2 = w2 := rfl
  rw [e1, e2, nth_eq ha.2] at hlk
  have q1 := hrd w1 (by simp)
  generalize rd w1 = x at *
  obtain ⟨x, ok⟩ := x
  dsimp only at q1 hlk
  ((first|refine rG Γ hm ?_|refine rD Γ hm (by kernel_rfl) ?_);(conv=>whnf);repeat((first|refine aF ?_|refine aT ?_);(first|refine rG Γ hm ?_|refine rD Γ hm (by kernel_rfl) ?_);conv=>whnf))
  refine ⟨fun h => ?_, fun h => ?_⟩
  · rw [if_pos (.inr (.inl h))] at hlk
    subst hlk
    ((first|refine rG Γ hm ?_|refine rD Γ hm (by kernel_rfl) ?_);(conv=>whnf);repeat((first|refine aF ?_|refine aT ?_);(first|refine rG Γ hm ?_|refine rD Γ hm (by kernel_rfl) ?_);conv=>whnf))
    refine ⟨(by kernel_rfl), ?_⟩
    ((conv=>whnf);repeat((first|refine aF ?_|refine aT ?_);(first|refine rG Γ hm ?_|refine rD Γ hm (by kernel_rfl) ?_);conv=>whnf))
    exact done rfl (.cons .tmp .nil) [] [(0, .box (chkL n a r))] (fun _ h => h) rfl rfl ⟨trivial, ⟨.inl rfl, rfl, trivial⟩, rfl, rfl⟩
  have h2 : r = false := h
  subst h2
  ((first|refine rG Γ hm ?_|refine rD Γ hm (by kernel_rfl) ?_);(conv=>whnf);repeat((first|refine aF ?_|refine aT ?_);(first|refine rG Γ hm ?_|refine rD Γ hm (by kernel_rfl) ?_);conv=>whnf))
  refine ⟨rfl, ha.1, ha.2, ?_⟩
  ((conv=>whnf);repeat((first|refine aF ?_|refine aT ?_);(first|refine rG Γ hm ?_|refine rD Γ hm (by kernel_rfl) ?_);conv=>whnf))
  refine ⟨(by kernel_rfl), ?_⟩
  ((conv=>whnf);repeat((first|refine aF ?_|refine aT ?_);(first|refine rG Γ hm ?_|refine rD Γ hm (by kernel_rfl) ?_);conv=>whnf))
  refine ⟨fun h => ?_, fun h => ?_⟩
  · rw [if_pos (.inr (.inr (of_decide_eq_true h)))] at hlk
    subst hlk
    ((first|refine rG Γ hm ?_|refine rD Γ hm (by kernel_rfl) ?_);(conv=>whnf);repeat((first|refine aF ?_|refine aT ?_);(first|refine rG Γ hm ?_|refine rD Γ hm (by kernel_rfl) ?_);conv=>whnf))
    exact done rfl (.cons .tmp .nil) [] [(0, .box (chkL n a false))] (fun _ h => h) rfl rfl ⟨trivial, ⟨.inl rfl, rfl, trivial⟩, rfl, rfl⟩
  have h3 : ¬ (n.domains[a.toNat]'ha.2).irb < 0 := of_decide_eq_false h
  have hirb : InIrbs n (n.domains[a.toNat]'ha.2).irb := by
    have := (e_dom_facts hb ha.2).2.2.2
    exact ⟨by omega, by omega⟩
  rw [if_neg (by simp [h3])] at hlk
  have q3 := checkerDomainS n hn hnm a false w2
  generalize domTextI n w2 = nx at *
  have q6 := routeLookupS n hn hb _ x hirb
  have hth := lookT_there (n := n) (irb := (n.domains[a.toNat]'ha.2).irb) (dst := x)
  generalize lookT n (n.domains[a.toNat]'ha.2).irb x = ld at *
  obtain ⟨to, is⟩ := ld
  dsimp only at q6 hlk hth
  have q7 := containsFuncS_Irb n.irbs (fun i : Irb => i.addr == x) 117 [] [.ref 1 (u32SV x) 0] rfl (fun i _ => ⟨⟨_, _, F117⟩, sameAddrC x i⟩) hn.irbs
  generalize hid : idxI (fun i : Irb => i.addr == x) n.irbs = id at *
  ((first|refine rG Γ hm ?_|refine rD Γ hm (by kernel_rfl) ?_);(conv=>whnf);repeat((first|refine aF ?_|refine aT ?_);(first|refine rG Γ hm ?_|refine rD Γ hm (by kernel_rfl) ?_);conv=>whnf))
  refine ⟨rfl, by decide, by simp, ?_⟩
  ((conv=>whnf);repeat((first|refine aF ?_|refine aT ?_);(first|refine rG Γ hm ?_|refine rD Γ hm (by kernel_rfl) ?_);conv=>whnf))
  refine call0 q1 F114 rfl rfl rfl rfl rfl ?_
  ((first|refine rG Γ hm ?_|refine rD Γ hm (by kernel_rfl) ?_);(conv=>whnf);repeat((first|refine aF ?_|refine aT ?_);(first|refine rG Γ hm ?_|refine rD Γ hm (by kernel_rfl) ?_);conv=>whnf))
  refine ⟨rfl, by decide, by simp, ?_⟩
  ((conv=>whnf);repeat((first|refine aF ?_|refine aT ?_);(first|refine rG Γ hm ?_|refine rD Γ hm (by kernel_rfl) ?_);conv=>whnf))
  refine callK [0] q3 F31 rfl (.cons (.box rfl rfl rfl rfl) (.cons (.refl _) .nil)) rfl rfl rfl ?_
  ((first|refine rG Γ hm ?_|refine rD Γ hm (by kernel_rfl) ?_);(conv=>whnf);repeat((first|refine aF ?_|refine aT ?_);(first|refine rG Γ hm ?_|refine rD Γ hm (by kernel_rfl) ?_);conv=>whnf))
  refine ⟨rfl, ha.1, ha.2, ?_⟩
  ((conv=>whnf);repeat((first|refine aF ?_|refine aT ?_);(first|refine rG Γ hm ?_|refine rD Γ hm (by kernel_rfl) ?_);conv=>whnf))
  refine callD0 q6 F115 rfl rfl rfl (by kernel_rfl) rfl ?_
  ((first|refine rG Γ hm ?_|refine rD Γ hm (by kernel_rfl) ?_);(conv=>whnf);repeat((first|refine aF ?_|refine aT ?_);(first|refine rG Γ hm ?_|refine rD Γ hm (by kernel_rfl) ?_);conv=>whnf))
  refine ⟨(by kernel_rfl), ?_⟩
  ((conv=>whnf);repeat((first|refine aF ?_|refine aT ?_);(first|refine rG Γ hm ?_|refine rD Γ hm (by kernel_rfl) ?_);conv=>whnf))
  refine G_box 5 1 (u32SV x) rfl rfl rfl ?_
  ((first|refine rG Γ hm ?_|refine rD Γ hm (by kernel_rfl) ?_);(conv=>whnf);repeat((first|refine aF ?_|refine aT ?_);(first|refine rG Γ hm ?_|refine rD Γ hm (by kernel_rfl) ?_);conv=>whnf))
  refine call0 q7 F116 rfl rfl rfl rfl rfl ?_
  ((first|refine rG Γ hm ?_|refine rD Γ hm (by kernel_rfl) ?_);(conv=>whnf);repeat((first|refine aF ?_|refine aT ?_);(first|refine rG Γ hm ?_|refine rD Γ hm (by kernel_rfl) ?_);conv=>whnf))
  refine ⟨fun h => ?_, fun h => ?_⟩
  · rw [if_pos (.inl (by simpa using h))] at hlk
    subst hlk
    ((first|refine rG Γ hm ?_|refine rD Γ hm (by kernel_rfl) ?_);(conv=>whnf);repeat((first|refine aF ?_|refine aT ?_);(first|refine rG Γ hm ?_|refine rD Γ hm (by kernel_rfl) ?_);conv=>whnf))
    exact done rfl (.cons .tmp .nil) [] [(0, .box (chkL n a false))] (fun _ h => h) rfl rfl ⟨trivial, ⟨.inl rfl, rfl, trivial⟩, rfl, rfl⟩
  have p0 : ok = true := by simpa using h
  ((first|refine rG Γ hm ?_|refine rD Γ hm (by kernel_rfl) ?_);(conv=>whnf);repeat((first|refine aF ?_|refine aT ?_);(first|refine rG Γ hm ?_|refine rD Γ hm (by kernel_rfl) ?_);conv=>whnf))
  refine ⟨fun h => ?_, fun h => ?_⟩
  · rw [if_pos (.inr (.inl (of_decide_eq_true h)))] at hlk
    subst hlk
    ((first|refine rG Γ hm ?_|refine rD Γ hm (by kernel_rfl) ?_);(conv=>whnf);repeat((first|refine aF ?_|refine aT ?_);(first|refine rG Γ hm ?_|refine rD Γ hm (by kernel_rfl) ?_);conv=>whnf))
    exact done rfl (.cons .tmp .nil) [] [(0, .box (chkL n a false))] (fun _ h => h) rfl rfl ⟨trivial, ⟨.inl rfl, rfl, trivial⟩, rfl, rfl⟩
  have p1 : ¬ nx < 0 := of_decide_eq_false h
  ((first|refine rG Γ hm ?_|refine rD Γ hm (by kernel_rfl) ?_);(conv=>whnf);repeat((first|refine aF ?_|refine aT ?_);(first|refine rG Γ hm ?_|refine rD Γ hm (by kernel_rfl) ?_);conv=>whnf))
  refine ⟨fun h => ?_, fun h => ?_⟩
  · rw [if_pos (.inr (.inr (.inl (by simpa using h))))] at hlk
    subst hlk
    ((first|refine rG Γ hm ?_|refine rD Γ hm (by kernel_rfl) ?_);(conv=>whnf);repeat((first|refine aF ?_|refine aT ?_);(first|refine rG Γ hm ?_|refine rD Γ hm (by kernel_rfl) ?_);conv=>whnf))
    exact done rfl (.cons .tmp .nil) [] [(0, .box (chkL n a false))] (fun _ h => h) rfl rfl ⟨trivial, ⟨.inl rfl, rfl, trivial⟩, rfl, rfl⟩
  have p2 : is = true := by simpa using h
  have hto := hth p2
  rw [nth_eq hto.2] at hlk
  ((first|refine rG Γ hm ?_|refine rD Γ hm (by kernel_rfl) ?_);(conv=>whnf);repeat((first|refine aF ?_|refine aT ?_);(first|refine rG Γ hm ?_|refine rD Γ hm (by kernel_rfl) ?_);conv=>whnf))
  refine ⟨fun h => ?_, fun h => ?_⟩
  · rw [if_pos (.inr (.inr (.inr (.inl (of_decide_eq_true h)))))] at hlk
    subst hlk
    ((first|refine rG Γ hm ?_|refine rD Γ hm (by kernel_rfl) ?_);(conv=>whnf);repeat((first|refine aF ?_|refine aT ?_);(first|refine rG Γ hm ?_|refine rD Γ hm (by kernel_rfl) ?_);conv=>whnf))
    exact done rfl (.cons .tmp .nil) [] [(0, .box (chkL n a false))] (fun _ h => h) rfl rfl ⟨trivial, ⟨.inl rfl, rfl, trivial⟩, rfl, rfl⟩
  have p3 : ¬ 0 ≤ id := of_decide_eq_false h
  ((first|refine rG Γ hm ?_|refine rD Γ hm (by kernel_rfl) ?_);(conv=>whnf);repeat((first|refine aF ?_|refine aT ?_);(first|refine rG Γ hm ?_|refine rD Γ hm (by kernel_rfl) ?_);conv=>whnf))
  refine ⟨rfl, hto.1, hto.2, ?_⟩
  ((conv=>whnf);repeat((first|refine aF ?_|refine aT ?_);(first|refine rG Γ hm ?_|refine rD Γ hm (by kernel_rfl) ?_);conv=>whnf))
  refine ⟨fun h => ?_, fun h => ?_⟩
  · rw [if_pos (.inr (.inr (.inr (.inr (by simpa using h)))))] at hlk
    subst hlk
    ((first|refine rG Γ hm ?_|refine rD Γ hm (by kernel_rfl) ?_);(conv=>whnf);repeat((first|refine aF ?_|refine aT ?_);(first|refine rG Γ hm ?_|refine rD Γ hm (by kernel_rfl) ?_);conv=>whnf))
    exact done rfl (.cons .tmp .nil) [] [(0, .box (chkL n a false))] (fun _ h => h) rfl rfl ⟨trivial, ⟨.inl rfl, rfl, trivial⟩, rfl, rfl⟩
  have p4 : (n.irbs[to.toNat]'hto.2).domain = nx := by simpa using h
  rw [if_neg (by simp only [p0, p1, p2, p3, p4]; simp)] at hlk
  subst hlk
  ((first|refine rG Γ hm ?_|refine rD Γ hm (by kernel_rfl) ?_);(conv=>whnf);repeat((first|refine aF ?_|refine aT ?_);(first|refine rG Γ hm ?_|refine rD Γ hm (by kernel_rfl) ?_);conv=>whnf))
  first | (refine ⟨(by kernel_rfl), ?_⟩; ((conv=>whnf);repeat((first|refine aF ?_|refine aT ?_);(first|refine rG Γ hm ?_|refine rD Γ hm (by kernel_rfl) ?_);conv=>whnf))) | skip
  exact done rfl (.cons .tmp .nil) [] [(0, .box (chkL n nx true))] (fun _ h => h) rfl rfl ⟨trivial, ⟨.inl rfl, rfl, trivial⟩, rfl, rfl⟩

end Go.Sy.YtlfopmhekhifoaaGreatDoor

namespace Go.Sy.YtlfopmhekhifoaaGreatDoor
open Go.Proofs
-- SIMP: placeB

attribute [local irreducible] Go.Sy.G Go.Sy.DR
set_option maxRecDepth 20000
set_option maxHeartbeats 4000000

abbrev tLink : ByteArray := ⟨#[108, 105, 110, 107]⟩
abbrev tMesh : ByteArray := ⟨#[109, 101, 115, 104]⟩
abbrev tRoute : ByteArray := ⟨#[114, 111, 117, 116, 101]⟩

def stepR (n : Net) (a : Int) (r : Bool) (rd : ByteArray → Int × Bool) (w : List ByteArray) : Bool × Int × Bool :=
  if (nth w 0 == tLink) = true then ((linkR n a w).1, (linkR n a w).2, r)
  else if (nth w 0 == tMesh) = true then ((meshR n a w).1, (meshR n a w).2, r)
  else if (nth w 0 == tRoute) = true then routeR n a r w rd
  else (false, a, r)

theorem checkerStepS (n : Net) (hn : n.Fin) (hnm : Named n) (hb : netRightB n = true) (a : Int) (r : Bool) (row : ByteArray) (rd : ByteArray → Int × Bool) (hrow : row.size < 100000) (ha : 0 ≤ a ∧ a.toNat < n.domains.length)
    (hrd : ∀ s ∈ splitT 32 row, Sy.Spec Tryz.prog 114 [strSV s] [] (.tup [u32SV (rd s).1, boolSV (rd s).2]) []) :
    Sy.Spec Tryz.prog 34 [.ptr 0 0, strSV row] [(0, .box (chkL n a r))] (boolSV (stepR n a r rd (splitT 32 row)).1) [(0, .box (chkL n (stepR n a r rd (splitT 32 row)).2.1 (stepR n a r rd (splitT 32 row)).2.2))] := contract Γ hm 100 F34 Tryz.ntmps34 rfl fun F hF => by
  have q := splitS row 32 hrow
  have hlen := splitT_length 32 row
  have hcl : cntT 32 row ≤ row.size := List.count_le_length
  generalize splitT 32 row = w at *
  have hw : Short w := by unfold Short; omega
  have q1 := checkerLinkS n hn hnm hb a r w hw ha
  have q2 := checkerMeshS n hn hnm hb a r w hw ha
  have q3 := checkerRouteS n hn hnm hb a r w rd hw ha hrd
  have hlk := stepR.eq_1 n a r rd w
  generalize stepR n a r rd w = res at *
  generalize linkR n a w = r1 at *
  generalize meshR n a w = r2 at *
  generalize routeR n a r w rd = r3 at *
  have hl0 : (0 : Int).toNat < w.length := by simp; omega
  rw [nth_eq hl0] at hlk
  obtain ⟨w0, hw0⟩ : ∃ w0, w[(0 : Int).toNat]'hl0 = w0 := ⟨_, rfl⟩
  rw [hw0] at hlk
  ((conv=>whnf);repeat((first|refine aF ?_|refine aT ?_);(first|refine rG Γ hm ?_|refine rD Γ hm (by kernel_rfl) ?_);conv=>whnf))
  refine call0 q F29 rfl rfl rfl rfl rfl ?_
  ((first|refine rG Γ hm ?_|refine rD Γ hm (by kernel_rfl) ?_);(conv=>whnf);repeat((first|refine aF ?_|refine aT ?_);(first|refine rG Γ hm ?_|refine rD Γ hm (by kernel_rfl) ?_);conv=>whnf))
  refine ⟨rfl, by decide, hl0, ?_⟩
  rw [hw0]
  ((conv=>whnf);repeat((first|refine aF ?_|refine aT ?_);(first|refine rG Γ hm ?_|refine rD Γ hm (by kernel_rfl) ?_);conv=>whnf))
  refine ⟨fun h => ?_, fun h => ?_⟩
  · rw [if_pos h] at hlk
    subst hlk
    ((first|refine rG Γ hm ?_|refine rD Γ hm (by kernel_rfl) ?_);(conv=>whnf);repeat((first|refine aF ?_|refine aT ?_);(first|refine rG Γ hm ?_|refine rD Γ hm (by kernel_rfl) ?_);conv=>whnf))
    refine stepOp (good_callE [] (enters_clo rfl rfl F82) q1 rfl ⟨rfl, trivial⟩ rfl ⟨.inl rfl, trivial⟩) rfl rfl ?_
    ((first|refine rG Γ hm ?_|refine rD Γ hm (by kernel_rfl) ?_);(conv=>whnf);repeat((first|refine aF ?_|refine aT ?_);(first|refine rG Γ hm ?_|refine rD Γ hm (by kernel_rfl) ?_);conv=>whnf))
    exact done rfl (.cons .tmp .nil) [] [(0, .box (chkL n r1.2 r))] (fun _ h => h) rfl rfl ⟨trivial, ⟨.inl rfl, rfl, trivial⟩, rfl, rfl⟩
  have n0 : ¬ (w0 == tLink) = true := by rw [h]; simp
  rw [if_neg n0] at hlk
  ((first|refine rG Γ hm ?_|refine rD Γ hm (by kernel_rfl) ?_);(conv=>whnf);repeat((first|refine aF ?_|refine aT ?_);(first|refine rG Γ hm ?_|refine rD Γ hm (by kernel_rfl) ?_);conv=>whnf))
  refine ⟨fun h => ?_, fun h => ?_⟩
  · rw [if_pos h] at hlk
    subst hlk
    ((first|refine rG Γ hm ?_|refine rD Γ hm (by kernel_rfl) ?_);(conv=>whnf);repeat((first|refine aF ?_|refine aT ?_);(first|refine rG Γ hm ?_|refine rD Γ hm (by kernel_rfl) ?_);conv=>whnf))
    refine stepOp (good_callE [] (enters_clo rfl rfl F83) q2 rfl ⟨rfl, trivial⟩ rfl ⟨.inl rfl, trivial⟩) rfl rfl ?_
    ((first|refine rG Γ hm ?_|refine rD Γ hm (by kernel_rfl) ?_);(conv=>whnf);repeat((first|refine aF ?_|refine aT ?_);(first|refine rG Γ hm ?_|refine rD Γ hm (by kernel_rfl) ?_);conv=>whnf))
    exact done rfl (.cons .tmp .nil) [] [(0, .box (chkL n r2.2 r))] (fun _ h => h) rfl rfl ⟨trivial, ⟨.inl rfl, rfl, trivial⟩, rfl, rfl⟩
  have n1 : ¬ (w0 == tMesh) = true := by rw [h]; simp
  rw [if_neg n1] at hlk
  ((first|refine rG Γ hm ?_|refine rD Γ hm (by kernel_rfl) ?_);(conv=>whnf);repeat((first|refine aF ?_|refine aT ?_);(first|refine rG Γ hm ?_|refine rD Γ hm (by kernel_rfl) ?_);conv=>whnf))
  refine ⟨fun h => ?_, fun h => ?_⟩
  · rw [if_pos h] at hlk
    subst hlk
    ((first|refine rG Γ hm ?_|refine rD Γ hm (by kernel_rfl) ?_);(conv=>whnf);repeat((first|refine aF ?_|refine aT ?_);(first|refine rG Γ hm ?_|refine rD Γ hm (by kernel_rfl) ?_);conv=>whnf))
    refine stepOp (good_callE [] (enters_clo rfl rfl F81) q3 rfl ⟨rfl, trivial⟩ rfl ⟨.inl rfl, trivial⟩) rfl rfl ?_
    ((first|refine rG Γ hm ?_|refine rD Γ hm (by kernel_rfl) ?_);(conv=>whnf);repeat((first|refine aF ?_|refine aT ?_);(first|refine rG Γ hm ?_|refine rD Γ hm (by kernel_rfl) ?_);conv=>whnf))
    exact done rfl (.cons .tmp .nil) [] [(0, .box (chkL n res.2.1 res.2.2))] (fun _ h => h) rfl rfl ⟨trivial, ⟨.inl rfl, rfl, trivial⟩, rfl, rfl⟩
  have n2 : ¬ (w0 == tRoute) = true := by rw [h]; simp
  rw [if_neg n2] at hlk
  subst hlk
  ((first|refine rG Γ hm ?_|refine rD Γ hm (by kernel_rfl) ?_);(conv=>whnf);repeat((first|refine aF ?_|refine aT ?_);(first|refine rG Γ hm ?_|refine rD Γ hm (by kernel_rfl) ?_);conv=>whnf))
  exact done rfl (.cons .tmp .nil) [] [(0, .box (chkL n a r))] (fun _ h => h) rfl rfl ⟨trivial, ⟨.inl rfl, rfl, trivial⟩, rfl, rfl⟩

end Go.Sy.YtlfopmhekhifoaaGreatDoor

namespace Go.Sy.YtlfopmhekhifoaaGreatDoor
open Go.Proofs

abbrev InDoms (n : Net) (a : Int) : Prop := 0 ≤ a ∧ a.toNat < n.domains.length

theorem domTextI_in {n : Net} {s : ByteArray} (h : ¬ domTextI n s < 0) : InDoms n (domTextI n s) := by
  have := domTextI_lt n s
  exact ⟨by omega, by omega⟩

theorem linkR_in {n : Net} {a : Int} {w : List ByteArray} (ha : InDoms n a) : InDoms n (linkR n a w).2 := by
  unfold linkR
  split
  · exact ha
  split
  · exact ha
  · rename_i h
    exact domTextI_in (fun e => h (.inr (.inr (.inl e))))

theorem meshR_in {n : Net} {a : Int} {w : List ByteArray} (ha : InDoms n a) : InDoms n (meshR n a w).2 := by
  unfold meshR
  split
  · exact ha
  split
  · exact ha
  · rename_i h
    exact domTextI_in (fun e => h (.inl e))

theorem routeR_in {n : Net} {a : Int} {r : Bool} {w : List ByteArray} {rd : ByteArray → Int × Bool} (ha : InDoms n a) : InDoms n (routeR n a r w rd).2.1 := by
  unfold routeR
  split
  · exact ha
  split
  · exact ha
  · rename_i h
    exact domTextI_in (fun e => h (.inr (.inl e)))

theorem stepR_in {n : Net} {a : Int} {r : Bool} {rd : ByteArray → Int × Bool} {w : List ByteArray} (ha : InDoms n a) : InDoms n (stepR n a r rd w).2.1 := by
  unfold stepR
  split
  · exact linkR_in ha
  split
  · exact meshR_in ha
  split
  · exact routeR_in ha
  · exact ha

/-- A row that is right begins with a hop's word. -/
theorem stepR_word {n : Net} {a : Int} {r : Bool} {rd : ByteArray → Int × Bool} {w : List ByteArray} (h : (stepR n a r rd w).1 = true) : (nth w 0 == tLink) = true ∨ (nth w 0 == tMesh) = true ∨ (nth w 0 == tRoute) = true := by
  unfold stepR at h
  split at h
  · rename_i e; exact .inl (e)
  split at h
  · rename_i e; exact .inr (.inl (e))
  split at h
  · rename_i e; exact .inr (.inr (e))
  · cases h

/-- The rows, one by one: are all right so far, and where is the checker then? -/
def goR (n : Net) (rd : ByteArray → Int × Bool) : List ByteArray → Bool × Int × Bool → Bool × Int × Bool
  | [], s => s
  | x :: l, s => if s.1 = true then goR n rd l (stepR n s.2.1 s.2.2 rd (splitT 32 x)) else s

theorem goR_snoc (n : Net) (rd : ByteArray → Int × Bool) : ∀ (l : List ByteArray) (x : ByteArray) (s : Bool × Int × Bool), (goR n rd l s).1 = true → goR n rd (l ++ [x]) s = stepR n (goR n rd l s).2.1 (goR n rd l s).2.2 rd (splitT 32 x)
  | [], x, s, h => by
    have h' : s.1 = true := h
    simp only [List.nil_append, goR, if_pos h']
  | y :: l, x, s, h => by
    by_cases hs : s.1 = true
    · simp only [List.cons_append, goR, if_pos hs] at h ⊢
      exact goR_snoc n rd l x _ h
    · simp only [goR, if_neg hs] at h
      exact absurd h hs

theorem goR_in (n : Net) (rd : ByteArray → Int × Bool) : ∀ (l : List ByteArray) (s : Bool × Int × Bool), InDoms n s.2.1 → InDoms n (goR n rd l s).2.1
  | [], _, h => h
  | x :: l, s, h => by
    rw [goR]
    split
    · exact goR_in n rd l _ (stepR_in h)
    · exact h

/-- Where rows are right, each one is, behind those ahead of it. -/
theorem goR_words (n : Net) (rd : ByteArray → Int × Bool) : ∀ (l : List ByteArray) (s : Bool × Int × Bool), (goR n rd l s).1 = true → ∀ x ∈ l, (nth (splitT 32 x) 0 == tLink) = true ∨ (nth (splitT 32 x) 0 == tMesh) = true ∨ (nth (splitT 32 x) 0 == tRoute) = true
  | [], _, _, x, hx => by cases hx
  | y :: l, s, h, x, hx => by
    rw [goR] at h
    split at h
    · rcases List.mem_cons.1 hx with rfl | hx
      · cases l with
        | nil => exact stepR_word h
        | cons z l =>
          rw [goR] at h
          split at h
          · rename_i h2; exact stepR_word h2
          · rename_i h2; exact absurd h h2
      · exact goR_words n rd l _ h x hx
    · rename_i h2; exact absurd h h2

end Go.Sy.YtlfopmhekhifoaaGreatDoor

namespace Go.Sy.YtlfopmhekhifoaaGreatDoor
open Go.Proofs
-- SIMP: placeB

attribute [local irreducible] Go.Sy.G Go.Sy.DR
set_option maxRecDepth 20000
set_option maxHeartbeats 4000000

abbrev tFrom : ByteArray := ⟨#[102, 114, 111, 109]⟩
abbrev tTo : ByteArray := ⟨#[116, 111]⟩

/-- Are the first and the last row such ones, and where do they begin? -/
def beginB (n : Net) (f l : List ByteArray) : Bool :=
  decide (f.length = 3) && (nth f 0 == tFrom) && decide (l.length = 2) && (nth l 0 == tTo) &&
    hostB n (portI n (nth f 1)) && hostB n (portI n (nth l 1)) && decide (0 ≤ domTextI n (nth f 2)) && !(portI n (nth f 1) == portI n (nth l 1)) && inB (membersT n (domTextI n (nth f 2))) (portI n (nth f 1))

def checkR (n : Net) (rd : ByteArray → Int × Bool) (rows : List ByteArray) : Int × Int × Bool :=
  if 2 ≤ rows.length ∧ netRightB n = true ∧ beginB n (splitT 32 (nth rows 0)) (splitT 32 (nth rows (rows.length - 1 : Nat))) = true ∧
      (goR n rd ((rows.take (rows.length - 1)).drop 1) (true, domTextI n (nth (splitT 32 (nth rows 0)) 2), false)).1 = true ∧
      inB (membersT n (goR n rd ((rows.take (rows.length - 1)).drop 1) (true, domTextI n (nth (splitT 32 (nth rows 0)) 2), false)).2.1) (portI n (nth (splitT 32 (nth rows (rows.length - 1 : Nat))) 1)) = true
  then (portI n (nth (splitT 32 (nth rows 0)) 1), portI n (nth (splitT 32 (nth rows (rows.length - 1 : Nat))) 1), true) else (0, 0, false)

end Go.Sy.YtlfopmhekhifoaaGreatDoor
