/-
  Contracts: what ports hear; the other side of a link; a round. Contracts: rows of what was heard; a round. Contracts: talks that begin, their roles, what they settle to; the chapter's example. Contracts: the chapter's example of bridges that tell one another; a talk that is nil.
-/
import Derived.Test.YthbgklhegccckaaGreatC19

namespace Go.Sy.YthbgklhegccckaaGreat
open Go.Proofs

attribute [local irreducible] Go.Sy.G Go.Sy.DR
set_option maxRecDepth 100000
set_option maxHeartbeats 4000000

section
variable {n : Net} {up : List Bool} {hs : List Heard}

/-- The other side of a port's link. -/
def farO (n : Net) (p : Port) (i : Int) : Int := if (nth n.links p.link).a = i then (nth n.links p.link).b else (nth n.links p.link).a

theorem linksOtherS (n : Net) (hn : n.Fin) (hr : netRightB n = true) (i : Nat) (hi : i < n.ports.length) (hl : 0 ≤ (n.ports[i]).link) : Sy.Spec Tryz.prog 30 [netSV n, intSV i] [] (intSV (farO n n.ports[i] i)) [] := contract Γ hm 100 F30 Tryz.ntmps30 rfl fun F hF => by
  have hrt := namesRightS n hn
  rw [hr] at hrt
  have hpl := port_link hr hi
  obtain ⟨p, hp⟩ : ∃ p, n.ports[i] = p := ⟨_, rfl⟩
  have e1 : n.ports[(i : Int).toNat]'(by omega) = p := hp
  rw [hp] at hpl hl ⊢
  have hlk : p.link.toNat < n.links.length := by omega
  obtain ⟨l, hl'⟩ : ∃ l, n.links[p.link.toNat]'hlk = l := ⟨_, rfl⟩
  have hfo : farO n p i = if l.a = (i : Int) then l.b else l.a := by
    unfold farO
    rw [nth_eq (by omega), hl']
  rw [hfo]
  ((conv => whnf); repeat ((first | refine aF ?_ | refine aT ?_); (first | refine run Γ hm 400 ?_ | refine runD Γ hm 400 (by kernel_rfl) ?_); conv => whnf))
  refine ⟨fun h => absurd (of_decide_eq_true h) (by omega), fun _ => ?_⟩
  ((first | refine run Γ hm 400 ?_ | refine runD Γ hm 400 (by kernel_rfl) ?_); (conv => whnf); repeat ((first | refine aF ?_ | refine aT ?_); (first | refine run Γ hm 400 ?_ | refine runD Γ hm 400 (by kernel_rfl) ?_); conv => whnf))
  refine ⟨rfl, by omega, by omega, ?_⟩
  rw [e1]
  ((conv => whnf); repeat ((first | refine aF ?_ | refine aT ?_); (first | refine run Γ hm 400 ?_ | refine runD Γ hm 400 (by kernel_rfl) ?_); conv => whnf))
  refine ⟨fun h => absurd (of_decide_eq_true h) (by omega), fun _ => ?_⟩
  ((first | refine run Γ hm 400 ?_ | refine runD Γ hm 400 (by kernel_rfl) ?_); (conv => whnf); repeat ((first | refine aF ?_ | refine aT ?_); (first | refine run Γ hm 400 ?_ | refine runD Γ hm 400 (by kernel_rfl) ?_); conv => whnf))
  refine call0 hrt F19 rfl rfl rfl rfl rfl ?_
  ((first | refine run Γ hm 400 ?_ | refine runD Γ hm 400 (by kernel_rfl) ?_); (conv => whnf); repeat ((first | refine aF ?_ | refine aT ?_); (first | refine run Γ hm 400 ?_ | refine runD Γ hm 400 (by kernel_rfl) ?_); conv => whnf))
  refine ⟨rfl, by omega, by omega, ?_⟩
  rw [e1]
  ((conv => whnf); repeat ((first | refine aF ?_ | refine aT ?_); (first | refine run Γ hm 400 ?_ | refine runD Γ hm 400 (by kernel_rfl) ?_); conv => whnf))
  refine ⟨rfl, hl, hlk, ?_⟩
  rw [hl']
  ((conv => whnf); repeat ((first | refine aF ?_ | refine aT ?_); (first | refine run Γ hm 400 ?_ | refine runD Γ hm 400 (by kernel_rfl) ?_); conv => whnf))
  refine ⟨(by kernel_rfl), ?_⟩
  ((conv => whnf); repeat ((first | refine aF ?_ | refine aT ?_); (first | refine run Γ hm 400 ?_ | refine runD Γ hm 400 (by kernel_rfl) ?_); conv => whnf))
  refine ⟨fun h => ?_, fun h => ?_⟩
  · have h2 : l.a = i := by simpa using h
    rw [if_pos h2]
    ((first | refine run Γ hm 400 ?_ | refine runD Γ hm 400 (by kernel_rfl) ?_); (conv => whnf); repeat ((first | refine aF ?_ | refine aT ?_); (first | refine run Γ hm 400 ?_ | refine runD Γ hm 400 (by kernel_rfl) ?_); conv => whnf))
    exact done0 rfl (.cons .tmp .nil) rfl rfl
  · have h2 : ¬ l.a = i := by simpa using h
    rw [if_neg h2]
    ((first | refine run Γ hm 400 ?_ | refine runD Γ hm 400 (by kernel_rfl) ?_); (conv => whnf); repeat ((first | refine aF ?_ | refine aT ?_); (first | refine run Γ hm 400 ?_ | refine runD Γ hm 400 (by kernel_rfl) ?_); conv => whnf))
    exact done0 rfl (.cons .tmp .nil) rfl rfl

/-- The first link that has a port is its own. -/
theorem other_eq (hr : netRightB n = true) {i : Nat} (hi : i < n.ports.length) (hl : 0 ≤ (n.ports[i]).link) : otherI n.links i = farO n n.ports[i] i := by
  have hpl := port_link hr hi
  have hlk : n.ports[i].link.toNat < n.links.length := by omega
  have hp := right_port hr hi
  simp only [portB, Bool.and_eq_true, Bool.or_eq_true, beq_iff_eq] at hp
  have hp2 := hp.2
  have hp3 : (nth n.links n.ports[i].link).a = i ∨ (nth n.links n.ports[i].link).b = i := by
    rcases hp2 with h | h
    · omega
    · exact h.2
  have e0 : nth n.ports (i : Int) = n.ports[i] := nth_eq (l := n.ports) (i := (i : Int)) (by simpa using hi)
  have huniq : ∀ q (hq : q < n.links.length), (n.links[q].a = i ∨ n.links[q].b = i) → (q : Int) = n.ports[i].link := fun q hq h => by
    have hlq := right_link hr hq
    simp only [linkB, Bool.and_eq_true, beq_iff_eq, bne_iff_ne] at hlq
    rcases h with h | h
    · have := hlq.1.2
      rw [h, e0] at this
      exact this.symm
    · have := hlq.2
      rw [h, e0] at this
      exact this.symm
  have hfind : n.links.find? (fun l => l.a == (i : Int) || l.b == (i : Int)) = some (n.links[n.ports[i].link.toNat]'hlk) := by
    rw [List.find?_eq_some_iff_getElem]
    refine ⟨?_, n.ports[i].link.toNat, hlk, rfl, fun q hq => ?_⟩
    · rw [nth_eq (by omega)] at hp3
      simpa using hp3
    · have h1 := huniq q (by omega)
      have h2 : ¬ (n.links[q].a = i ∨ n.links[q].b = i) := fun h => by have := h1 h; omega
      rcases not_or.1 h2 with ⟨h3, h4⟩
      simp [h3, h4]
  rw [otherI, hfind, farO, nth_eq (by omega)]

theorem hear_ok {i : Int} {m : Msg} (h : AllOK hs) (hm1 : MsgOK m) : AllOK (hearL n up hs i m) := by
  unfold hearL
  split
  · intro x hx
    rcases List.mem_or_eq_of_mem_set hx with hx | rfl
    · exact h x hx
    · exact hm1
  · exact h
theorem Talk.hear (T : Talk n up hs) {i : Int} {m : Msg} (hm1 : MsgOK m) : Talk n up (hearL n up hs i m) :=
  ⟨T.unlike, T.ups, by rw [hearL_length]; exact T.len, hear_ok T.ok hm1, T.macs⟩

/-- A message that is told by somebody. -/
def TellsOK (b : List UInt8) (m : Msg) : Prop := ∃ s, takeM b = (s, m, 0) ∧ MsgOK m

theorem hearS (T : Talk n up hs) (i : Int) (b : List UInt8) (m : Msg) (hb : TellsOK b m) : Sy.Spec Tryz.prog 12 [.ptr 0 0, intSV i, .sl 1 byteSV b] (talkO n up hs) (intSV (if liveB n up i then 0 else 2)) (talkO n up (hearL n up hs i m)) := by
  obtain ⟨src, hb1, hm1⟩ := hb
  have ql := livesS T i
  have qt := takeS b
  rw [hb1] at qt
  cases hlv : liveB n up i with
  | false =>
    have e : hearL n up hs i m = hs := by unfold hearL; rw [if_neg (by rw [hlv]; simp)]
    rw [hlv] at ql
    rw [e]
    refine contract Γ hm 100 F12 Tryz.ntmps12 rfl fun F hF => by
      ((conv => whnf); repeat ((first | refine aF ?_ | refine aT ?_); (first | refine run Γ hm 400 ?_ | refine runD Γ hm 400 (by kernel_rfl) ?_); conv => whnf))
      refine stepOp (good_call [] rfl F25 ql rfl ⟨rfl, rfl, trivial⟩ rfl ⟨.inl rfl, .inl rfl, trivial⟩) rfl rfl ?_
      ((first | refine run Γ hm 400 ?_ | refine runD Γ hm 400 (by kernel_rfl) ?_); (conv => whnf); repeat ((first | refine aF ?_ | refine aT ?_); (first | refine run Γ hm 400 ?_ | refine runD Γ hm 400 (by kernel_rfl) ?_); conv => whnf))
      exact done rfl (.cons .tmp .nil) [] (talkO n up hs) (fun _ h => h) rfl rfl ⟨trivial, ⟨.inl rfl, rfl, .inl rfl, rfl, trivial⟩, rfl, rfl⟩
  | true =>
    have hir := live_range hlv
    have hlh := T.len
    have hh0 : nth hs i = hs[i.toNat]'(by omega) := nth_eq (by omega)
    have e : hearL n up hs i m = if takesB (hs[i.toNat]'(by omega)) m = true then hs.set i.toNat ⟨true, m⟩ else hs := by
      unfold hearL
      rw [hlv, hh0]
      simp only [true_and]
    rw [hlv] at ql
    obtain ⟨hh, hhh⟩ : ∃ x, hs[i.toNat]'(by omega) = x := ⟨_, rfl⟩
    rw [hhh] at e
    rw [e]
    have qb := betterS m hh.msg
    have hch := hm1.ch
    have hset : cellsOf (heardSV ⟨true, m⟩) = setAt (cellsOf (heardSV hh)) 0 (cellsOf (heardSV ⟨true, m⟩)) := rfl
    refine contract Γ hm 100 F12 Tryz.ntmps12 rfl fun F hF => by
      ((conv => whnf); repeat ((first | refine aF ?_ | refine aT ?_); (first | refine run Γ hm 400 ?_ | refine runD Γ hm 400 (by kernel_rfl) ?_); conv => whnf))
      refine stepOp (good_call [] rfl F25 ql rfl ⟨rfl, rfl, trivial⟩ rfl ⟨.inl rfl, .inl rfl, trivial⟩) rfl rfl ?_
      ((first | refine run Γ hm 400 ?_ | refine runD Γ hm 400 (by kernel_rfl) ?_); (conv => whnf); repeat ((first | refine aF ?_ | refine aT ?_); (first | refine run Γ hm 400 ?_ | refine runD Γ hm 400 (by kernel_rfl) ?_); conv => whnf))
      refine call0 qt F26 rfl rfl rfl rfl rfl ?_
      ((first | refine run Γ hm 400 ?_ | refine runD Γ hm 400 (by kernel_rfl) ?_); (conv => whnf); repeat ((first | refine aF ?_ | refine aT ?_); (first | refine run Γ hm 400 ?_ | refine runD Γ hm 400 (by kernel_rfl) ?_); conv => whnf))
      refine ⟨fun h => absurd (h.symm.trans hch) (by decide), fun _ => ?_⟩
      ((first | refine run Γ hm 400 ?_ | refine runD Γ hm 400 (by kernel_rfl) ?_); (conv => whnf); repeat ((first | refine aF ?_ | refine aT ?_); (first | refine run Γ hm 400 ?_ | refine runD Γ hm 400 (by kernel_rfl) ?_); conv => whnf))
      refine ⟨hir.1, (by show _ < hs.length; omega), ?_⟩
      ((conv => whnf); repeat ((first | refine aF ?_ | refine aT ?_); (first | refine run Γ hm 400 ?_ | refine runD Γ hm 400 (by kernel_rfl) ?_); conv => whnf))
      refine ⟨rfl, (by show _ < hs.length; omega), ?_⟩
      rw [hhh]
      ((conv => whnf); repeat ((first | refine aF ?_ | refine aT ?_); (first | refine run Γ hm 400 ?_ | refine runD Γ hm 400 (by kernel_rfl) ?_); conv => whnf))
      refine ⟨fun h => ?_, fun h => ?_⟩
      · have h1 : hh.is = false := by simpa using h
        have h2 : takesB hh m = true := by simp only [takesB, h1, Bool.not_false, Bool.true_or]
        rw [if_pos h2]
        ((first | refine run Γ hm 400 ?_ | refine runD Γ hm 400 (by kernel_rfl) ?_); (conv => whnf); repeat ((first | refine aF ?_ | refine aT ?_); (first | refine run Γ hm 400 ?_ | refine runD Γ hm 400 (by kernel_rfl) ?_); conv => whnf))
        refine ⟨hir.1, (by show _ < hs.length; omega), ?_⟩
        ((conv => whnf); repeat ((first | refine aF ?_ | refine aT ?_); (first | refine run Γ hm 400 ?_ | refine runD Γ hm 400 (by kernel_rfl) ?_); conv => whnf))
        refine ⟨rfl, (by show _ < hs.length; omega), ⟨true, m⟩, (by rw [hhh]; rfl), (by rw [hhh]; rfl), ?_⟩
        ((conv => whnf); repeat ((first | refine aF ?_ | refine aT ?_); (first | refine run Γ hm 400 ?_ | refine runD Γ hm 400 (by kernel_rfl) ?_); conv => whnf))
        refine ⟨(by kernel_rfl), ?_⟩
        ((conv => whnf); repeat ((first | refine aF ?_ | refine aT ?_); (first | refine run Γ hm 400 ?_ | refine runD Γ hm 400 (by kernel_rfl) ?_); conv => whnf))
        exact done rfl (.cons .tmp .nil) [] (talkO n up (hs.set i.toNat ⟨true, m⟩)) (fun _ h => h) rfl rfl ⟨trivial, ⟨.inl rfl, rfl, .inl rfl, rfl, trivial⟩, rfl, rfl⟩
      have h1 : hh.is = true := by simpa using h
      ((first | refine run Γ hm 400 ?_ | refine runD Γ hm 400 (by kernel_rfl) ?_); (conv => whnf); repeat ((first | refine aF ?_ | refine aT ?_); (first | refine run Γ hm 400 ?_ | refine runD Γ hm 400 (by kernel_rfl) ?_); conv => whnf))
      refine call0 qb F27 rfl rfl rfl rfl rfl ?_
      ((first | refine run Γ hm 400 ?_ | refine runD Γ hm 400 (by kernel_rfl) ?_); (conv => whnf); repeat ((first | refine aF ?_ | refine aT ?_); (first | refine run Γ hm 400 ?_ | refine runD Γ hm 400 (by kernel_rfl) ?_); conv => whnf))
      refine ⟨fun h => ?_, fun h => ?_⟩
      · have h2 : takesB hh m = true := by simp only [takesB, h, Bool.or_true, Bool.true_or]
        rw [if_pos h2]
        ((first | refine run Γ hm 400 ?_ | refine runD Γ hm 400 (by kernel_rfl) ?_); (conv => whnf); repeat ((first | refine aF ?_ | refine aT ?_); (first | refine run Γ hm 400 ?_ | refine runD Γ hm 400 (by kernel_rfl) ?_); conv => whnf))
        refine ⟨hir.1, (by show _ < hs.length; omega), ?_⟩
        ((conv => whnf); repeat ((first | refine aF ?_ | refine aT ?_); (first | refine run Γ hm 400 ?_ | refine runD Γ hm 400 (by kernel_rfl) ?_); conv => whnf))
        refine ⟨rfl, (by show _ < hs.length; omega), ⟨true, m⟩, (by rw [hhh]; rfl), (by rw [hhh]; rfl), ?_⟩
        ((conv => whnf); repeat ((first | refine aF ?_ | refine aT ?_); (first | refine run Γ hm 400 ?_ | refine runD Γ hm 400 (by kernel_rfl) ?_); conv => whnf))
        refine ⟨(by kernel_rfl), ?_⟩
        ((conv => whnf); repeat ((first | refine aF ?_ | refine aT ?_); (first | refine run Γ hm 400 ?_ | refine runD Γ hm 400 (by kernel_rfl) ?_); conv => whnf))
        exact done rfl (.cons .tmp .nil) [] (talkO n up (hs.set i.toNat ⟨true, m⟩)) (fun _ h => h) rfl rfl ⟨trivial, ⟨.inl rfl, rfl, .inl rfl, rfl, trivial⟩, rfl, rfl⟩
      have h2 : betterB m hh.msg = false := h
      ((first | refine run Γ hm 400 ?_ | refine runD Γ hm 400 (by kernel_rfl) ?_); (conv => whnf); repeat ((first | refine aF ?_ | refine aT ?_); (first | refine run Γ hm 400 ?_ | refine runD Γ hm 400 (by kernel_rfl) ?_); conv => whnf))
      refine ⟨fun h => ?_, fun h => ?_⟩
      · have h3 : m.bridge = hh.msg.bridge := by simp only [beq_iff_eq] at h; omega
        ((first | refine run Γ hm 400 ?_ | refine runD Γ hm 400 (by kernel_rfl) ?_); (conv => whnf); repeat ((first | refine aF ?_ | refine aT ?_); (first | refine run Γ hm 400 ?_ | refine runD Γ hm 400 (by kernel_rfl) ?_); conv => whnf))
        refine ⟨fun h => ?_, fun h => ?_⟩
        · have h4 : m.port = hh.msg.port := by simpa using h
          have h5 : takesB hh m = true := by simp [takesB, h3, h4]
          rw [if_pos h5]
          ((first | refine run Γ hm 400 ?_ | refine runD Γ hm 400 (by kernel_rfl) ?_); (conv => whnf); repeat ((first | refine aF ?_ | refine aT ?_); (first | refine run Γ hm 400 ?_ | refine runD Γ hm 400 (by kernel_rfl) ?_); conv => whnf))
          refine ⟨hir.1, (by show _ < hs.length; omega), ?_⟩
          ((conv => whnf); repeat ((first | refine aF ?_ | refine aT ?_); (first | refine run Γ hm 400 ?_ | refine runD Γ hm 400 (by kernel_rfl) ?_); conv => whnf))
          refine ⟨rfl, (by show _ < hs.length; omega), ⟨true, m⟩, (by rw [hhh]; rfl), (by rw [hhh]; rfl), ?_⟩
          ((conv => whnf); repeat ((first | refine aF ?_ | refine aT ?_); (first | refine run Γ hm 400 ?_ | refine runD Γ hm 400 (by kernel_rfl) ?_); conv => whnf))
          refine ⟨(by kernel_rfl), ?_⟩
          ((conv => whnf); repeat ((first | refine aF ?_ | refine aT ?_); (first | refine run Γ hm 400 ?_ | refine runD Γ hm 400 (by kernel_rfl) ?_); conv => whnf))
          exact done rfl (.cons .tmp .nil) [] (talkO n up (hs.set i.toNat ⟨true, m⟩)) (fun _ h => h) rfl rfl ⟨trivial, ⟨.inl rfl, rfl, .inl rfl, rfl, trivial⟩, rfl, rfl⟩
        · have h4 : ¬ m.port = hh.msg.port := by simpa using h
          have h5 : ¬ takesB hh m = true := by simp [takesB, h1, h2, h4]
          rw [if_neg h5]
          ((first | refine run Γ hm 400 ?_ | refine runD Γ hm 400 (by kernel_rfl) ?_); (conv => whnf); repeat ((first | refine aF ?_ | refine aT ?_); (first | refine run Γ hm 400 ?_ | refine runD Γ hm 400 (by kernel_rfl) ?_); conv => whnf))
          exact done rfl (.cons .tmp .nil) [] (talkO n up hs) (fun _ h => h) rfl rfl ⟨trivial, ⟨.inl rfl, rfl, .inl rfl, rfl, trivial⟩, rfl, rfl⟩
      · have h3 : ¬ m.bridge = hh.msg.bridge := fun e => by rw [e] at h; simp at h
        have h5 : ¬ takesB hh m = true := by simp [takesB, h1, h2, h3]
        rw [if_neg h5]
        ((first | refine run Γ hm 400 ?_ | refine runD Γ hm 400 (by kernel_rfl) ?_); (conv => whnf); repeat ((first | refine aF ?_ | refine aT ?_); (first | refine run Γ hm 400 ?_ | refine runD Γ hm 400 (by kernel_rfl) ?_); conv => whnf))
        exact done rfl (.cons .tmp .nil) [] (talkO n up hs) (fun _ h => h) rfl rfl ⟨trivial, ⟨.inl rfl, rfl, .inl rfl, rfl, trivial⟩, rfl, rfl⟩
end
end Go.Sy.YthbgklhegccckaaGreat

namespace Go.Sy.YthbgklhegccckaaGreat
open Go.Proofs

attribute [local irreducible] Go.Sy.G Go.Sy.DR
set_option maxRecDepth 100000
set_option maxHeartbeats 4000000

theorem cloneHeardS (l : List Heard) (hl : l.length < 1000000) : Sy.Spec Tryz.prog 29 [.osl 0] [(0, .row 11 heardSV l)] (.osl 1) [(0, .row 11 heardSV l), (1, .row 11 heardSV l)] := contract Γ hm 100 F29 Tryz.ntmps29 rfl fun F hF => by
  ((conv => whnf); repeat ((first | refine aF ?_ | refine aT ?_); (first | refine run Γ hm 400 ?_ | refine runD Γ hm 400 (by kernel_rfl) ?_); conv => whnf))
  refine stepNil rfl (.inl rfl) rfl rfl rfl (.row rfl) rfl rfl ?_
  intro b hb
  cases b
  · ((first | refine run Γ hm 400 ?_ | refine runD Γ hm 400 (by kernel_rfl) ?_); (conv => whnf); repeat ((first | refine aF ?_ | refine aT ?_); (first | refine run Γ hm 400 ?_ | refine runD Γ hm 400 (by kernel_rfl) ?_); conv => whnf))
    refine stepOp (good_appendT Γ.toTy 7 rfl rfl rfl rfl rfl (.lit (e := heardSV) (l := []) rfl rfl) (.row rfl) (by simp) (by simp; omega) (by simp; omega)) rfl rfl ?_
    ((first | refine run Γ hm 400 ?_ | refine runD Γ hm 400 (by kernel_rfl) ?_); (conv => whnf); repeat ((first | refine aF ?_ | refine aT ?_); (first | refine run Γ hm 400 ?_ | refine runD Γ hm 400 (by kernel_rfl) ?_); conv => whnf))
    exact done rfl (.cons .tmp .nil) [(0, 0), (1, 7)] [(0, .row 11 heardSV l), (1, .row 11 heardSV l)] (fun _ h => h) rfl rfl ⟨trivial, ⟨.inl rfl, rfl, .inl rfl, rfl, trivial⟩, rfl, rfl⟩
  · have h0 : l = [] := List.eq_nil_of_length_eq_zero (hb rfl)
    subst h0
    ((first | refine run Γ hm 400 ?_ | refine runD Γ hm 400 (by kernel_rfl) ?_); (conv => whnf); repeat ((first | refine aF ?_ | refine aT ?_); (first | refine run Γ hm 400 ?_ | refine runD Γ hm 400 (by kernel_rfl) ?_); conv => whnf))
    refine G_adopt 2 1000 11 heardSV rfl rfl ?_
    exact done rfl (.cons .tmp .nil) [(0, 0), (1, 1000)] [(0, .row 11 heardSV []), (1, .row 11 heardSV [])] (fun _ h => h) rfl rfl ⟨trivial, ⟨.inl rfl, rfl, .inl rfl, rfl, trivial⟩, rfl, rfl⟩

def msgKs : List EK := [.bool, .bool, .int .u64, .int .u64, .int .i64, .int .i64, .int .i64, .int .i64, .int .i64, .int .i64]
theorem heardT : ((Program.fieldsOf Tryz.prog 82)[1]!).type = 78 := by kernel_rfl
theorem heardInfo : ∃ i, Tryz.prog.info? ((Program.fieldsOf Tryz.prog 82)[1]!).type = some i := by
  rw [heardT]
  exact Go.info_of_underlying (d := .struct (Program.fieldsOf Tryz.prog 78)) (by kernel_rfl)
theorem heardEqN : EqN Tryz.prog 82 msgKs 10 :=
  ⟨⟨(Program.fieldsOf Tryz.prog 82)[0]!, (Program.fieldsOf Tryz.prog 82)[1]!, heardInfo.choose, by kernel_rfl, of_decide_eq_true (by kernel_rfl), by kernel_rfl, by kernel_rfl, of_decide_eq_true (by kernel_rfl), by kernel_rfl, by rw [heardT]; exact Γ.eqok 78 _ rfl, heardInfo.choose_spec, by kernel_rfl⟩, by kernel_rfl, by kernel_rfl⟩

def msgTail (m : Msg) : List SV := [boolSV m.ch, boolSV m.ak, u64SV m.root, u64SV m.bridge, intSV m.cost, intSV m.port, intSV m.age, intSV m.mx, intSV m.hello, intSV m.wait]
def msgEq (a b : Msg) : Bool := (a.ch == b.ch && ((a.ak == b.ak) && (((a.root : Int) == b.root) && (((a.bridge : Int) == b.bridge) && ((a.cost == b.cost) && ((a.port == b.port) && ((a.age == b.age) && ((a.mx == b.mx) && ((a.hello == b.hello) && ((a.wait == b.wait) && true))))))))))
theorem msgEq_eqS (a b : Msg) : eqS msgKs (msgTail a) (msgTail b) = some (msgEq a b) := rfl
theorem heardEq (a b : Heard) : (a.is == b.is && msgEq a.msg b.msg) = decide (a = b) := by
  obtain ⟨ai, a⟩ := a
  obtain ⟨bi, b⟩ := b
  obtain ⟨a1, a2, a3, a4, a5, a6, a7, a8, a9, a10⟩ := a
  obtain ⟨b1, b2, b3, b4, b5, b6, b7, b8, b9, b10⟩ := b
  rw [Bool.eq_iff_iff]
  simp only [msgEq, Bool.and_eq_true, beq_iff_eq, decide_eq_true_eq, Heard.mk.injEq, Msg.mk.injEq, Int.ofNat_inj, and_true]

theorem equalHeardS (a b : List Heard) (hl : a.length = b.length) (h6 : a.length < 1000000) : Sy.Spec Tryz.prog 31 [.sl 11 heardSV a, .sl 11 heardSV b] [] (boolSV (decide (a = b))) [] := contract Γ hm 100 F31 Tryz.ntmps31 rfl fun F hF => by
  ((conv => whnf); repeat ((first | refine aF ?_ | refine aT ?_); (first | refine run Γ hm 400 ?_ | refine runD Γ hm 400 (by kernel_rfl) ?_); conv => whnf))
  refine ⟨fun h => False.elim (by simp [hl] at h), fun _ => ?_⟩
  ((first | refine run Γ hm 400 ?_ | refine runD Γ hm 400 (by kernel_rfl) ?_); (conv => whnf); repeat ((first | refine aF ?_ | refine aT ?_); (first | refine run Γ hm 400 ?_ | refine runD Γ hm 400 (by kernel_rfl) ?_); conv => whnf))
  refine G_countP a.length (fun j => ∀ i (h : i < a.length), i < j → a[i] = b[i]'(by omega)) (fun j => [(0, .sl 11 heardSV a), (1, .sl 11 heardSV b), (12, intSV a.length), (13, intSV j)]) (fun _ => []) [] (fun i h hj => absurd hj (by omega)) ⟨⟨rfl, rfl, rfl, rfl, rfl, rfl, rfl, rfl, trivial⟩, trivial, rfl, rfl⟩ ?_
  intro j hj hI
  ((first | refine run Γ hm 400 ?_ | refine runD Γ hm 400 (by kernel_rfl) ?_); (conv => whnf); repeat ((first | refine aF ?_ | refine aT ?_); (first | refine run Γ hm 400 ?_ | refine runD Γ hm 400 (by kernel_rfl) ?_); conv => whnf))
  refine ⟨fun h => ?_, fun h => ?_⟩
  · have hlt : j < a.length := by simpa using h
    obtain ⟨x, hx⟩ : ∃ x, a[(j : Int).toNat]'(by omega) = x := ⟨_, rfl⟩
    obtain ⟨y, hy⟩ : ∃ y, b[(j : Int).toNat]'(by omega) = y := ⟨_, rfl⟩
    have hx' : a[j] = x := hx
    have hy' : b[j]'(by omega) = y := hy
    ((first | refine run Γ hm 400 ?_ | refine runD Γ hm 400 (by kernel_rfl) ?_); (conv => whnf); repeat ((first | refine aF ?_ | refine aT ?_); (first | refine run Γ hm 400 ?_ | refine runD Γ hm 400 (by kernel_rfl) ?_); conv => whnf))
    refine ⟨rfl, by omega, by omega, ?_⟩
    rw [hx]
    ((conv => whnf); repeat ((first | refine aF ?_ | refine aT ?_); (first | refine run Γ hm 400 ?_ | refine runD Γ hm 400 (by kernel_rfl) ?_); conv => whnf))
    refine ⟨rfl, by omega, by omega, ?_⟩
    rw [hy]
    ((conv => whnf); repeat ((first | refine aF ?_ | refine aT ?_); (first | refine run Γ hm 400 ?_ | refine runD Γ hm 400 (by kernel_rfl) ?_); conv => whnf))
    refine stepD (good_eq_nest (l := msgTail x.msg) (m := msgTail y.msg) (p := x.is) (q := y.is) rfl (.inr rfl) heardEqN rfl rfl rfl rfl (msgEq_eqS x.msg y.msg)) (by kernel_rfl) rfl ?_
    rw [heardEq]
    ((first | refine run Γ hm 400 ?_ | refine runD Γ hm 400 (by kernel_rfl) ?_); (conv => whnf); repeat ((first | refine aF ?_ | refine aT ?_); (first | refine run Γ hm 400 ?_ | refine runD Γ hm 400 (by kernel_rfl) ?_); conv => whnf))
    refine ⟨(by kernel_rfl), ?_⟩
    ((conv => whnf); repeat ((first | refine aF ?_ | refine aT ?_); (first | refine run Γ hm 400 ?_ | refine runD Γ hm 400 (by kernel_rfl) ?_); conv => whnf))
    refine ⟨fun h => ?_, fun h => ?_⟩
    · have hne : ¬ x = y := by simpa using h
      have h2 : ¬ a = b := fun e => hne (by subst e; rw [← hx', ← hy'])
      ((first | refine run Γ hm 400 ?_ | refine runD Γ hm 400 (by kernel_rfl) ?_); (conv => whnf); repeat ((first | refine aF ?_ | refine aT ?_); (first | refine run Γ hm 400 ?_ | refine runD Γ hm 400 (by kernel_rfl) ?_); conv => whnf))
      exact done0 rfl (.cons .tmp .nil) (congrArg boolSV (decide_eq_false h2)) rfl
    · have he : x = y := by simpa using h
      ((first | refine run Γ hm 400 ?_ | refine runD Γ hm 400 (by kernel_rfl) ?_); (conv => whnf); repeat ((first | refine aF ?_ | refine aT ?_); (first | refine run Γ hm 400 ?_ | refine runD Γ hm 400 (by kernel_rfl) ?_); conv => whnf))
      refine ⟨by unfold I64; omega, ?_⟩
      ((conv => whnf); repeat ((first | refine aF ?_ | refine aT ?_); (first | refine run Γ hm 400 ?_ | refine runD Γ hm 400 (by kernel_rfl) ?_); conv => whnf))
      refine G_nextP [] hI hlt (fun i hi hij => ?_) ⟨⟨rfl, rfl, rfl, rfl, rfl, rfl, rfl, rfl, trivial⟩, trivial, rfl, rfl⟩
      rcases Nat.lt_or_ge i j with h3 | h3
      · exact hI i hi h3
      · have : i = j := by omega
        subst this
        rw [hx', hy', he]
  · have hjl : j = a.length := by
      have : ¬ j < a.length := by simpa using h
      omega
    have h2 : a = b := List.ext_getElem hl fun i h1 _ => hI i h1 (by omega)
    ((first | refine run Γ hm 400 ?_ | refine runD Γ hm 400 (by kernel_rfl) ?_); (conv => whnf); repeat ((first | refine aF ?_ | refine aT ?_); (first | refine run Γ hm 400 ?_ | refine runD Γ hm 400 (by kernel_rfl) ?_); conv => whnf))
    exact done0 rfl (.cons .tmp .nil) (congrArg boolSV (decide_eq_true h2)) rfl

def optSV : Option (List UInt8) → SV
  | none => .val (.slice none 0 0)
  | some b => .sl 1 byteSV b

section
variable {n : Net} {up : List Bool} {hs : List Heard}
def toldB (n : Net) (up : List Bool) (hs : List Heard) : List (Option (List UInt8)) := (List.range n.ports.length).map fun i : Nat => (tellO n up hs i).map (outM n i)
theorem toldB_length : (toldB n up hs).length = n.ports.length := by simp [toldB]
theorem toldB_get {j : Nat} (hj : j < n.ports.length) : (toldB n up hs)[j]'(by rw [toldB_length]; exact hj) = (tellO n up hs j).map (outM n j) := by simp [toldB]
def toldU (n : Net) (up : List Bool) (hs : List Heard) (j : Nat) : List (Option (List UInt8)) := (toldB n up hs).take j ++ List.replicate (n.ports.length - j) none
theorem toldU_zero : toldU n up hs 0 = List.replicate n.ports.length none := by simp [toldU]
theorem toldU_all : toldU n up hs n.ports.length = toldB n up hs := by
  rw [toldU, Nat.sub_self, List.replicate_zero, List.append_nil, ← toldB_length (n := n) (up := up) (hs := hs), List.take_length]
theorem toldU_length {j : Nat} (hj : j ≤ n.ports.length) : (toldU n up hs j).length = n.ports.length := by simp [toldU, toldB_length]; omega
theorem toldU_get {j : Nat} (hj : j < n.ports.length) : (toldU n up hs j)[j]'(by rw [toldU_length (by omega)]; exact hj) = none := by
  simp only [toldU]
  rw [List.getElem_append_right (by simp [toldB_length]; omega)]
  simp
theorem toldU_succ {j : Nat} (hj : j < n.ports.length) : toldU n up hs (j + 1) = (toldU n up hs j).set j ((tellO n up hs j).map (outM n j)) := by
  apply List.ext_getElem
  · rw [List.length_set, toldU_length (by omega), toldU_length (by omega)]
  intro i h1 h2
  rw [toldU_length (by omega)] at h1
  rw [List.getElem_set]
  have hlen := toldB_length (n := n) (up := up) (hs := hs)
  split
  · rename_i h
    subst h
    simp only [toldU]
    rw [List.getElem_append_left (by simp [hlen]; omega), List.getElem_take, toldB_get hj]
  · rename_i h
    simp only [toldU]
    rcases Nat.lt_or_ge i j with h3 | h3
    · rw [List.getElem_append_left (by simp [hlen]; omega), List.getElem_append_left (by simp [hlen]; omega), List.getElem_take, List.getElem_take]
    · rw [List.getElem_append_right (by simp [hlen]; omega), List.getElem_append_right (by simp [hlen]; omega)]
      simp

theorem told_get {j : Nat} (hj : j < n.ports.length) : (toldL n up hs).getD j none = tellO n up hs j := by simp [toldL, hj]

theorem out_ne (i : Int) (m : Msg) : outM n i m ≠ [] := by
  intro h
  have := congrArg List.length h
  simp [outM, outL, frame, be_length] at this

theorem would_in (T : Talk n up hs) {i : Nat} (hi : i < n.ports.length) (h : (wouldM n up hs i).cost < 4294967296) : MsgOK (wouldM n up hs i) ∧ (wouldM n up hs i).InRange ∧ macN n i < 281474976710656 := by
  have hp0 : nth n.ports (i : Int) = n.ports[i] := nth_eq (l := n.ports) (i := (i : Int)) (by simpa using hi)
  have hp := T.port hi
  have hf := T.few
  have hb := best_ok T hp.1 hp.2.1
  have hlt : n.ports[i].dev.toNat < n.devices.length := by omega
  have hdd := T.id (List.getElem_mem hlt)
  have hidl := idD_lt hdd
  have hmac : macN n i = (n.devices[n.ports[i].dev.toNat]'hlt).mac.toNat := by
    unfold macN pdevI
    rw [hp0, nth_eq (by omega)]
  unfold wouldM pdevI at h ⊢
  rw [hp0] at h ⊢
  rw [nth_eq (l := n.devices) (i := n.ports[i].dev) hlt] at h ⊢
  unfold ChoiceOK at hb
  generalize bestOf n up hs (n.ports[i]).dev = b at *
  dsimp only at h
  exact ⟨⟨rfl, hb.1, hidl, ⟨hb.2.1, h⟩, by dsimp only; omega⟩, ⟨hb.1, hidl⟩, by rw [hmac]; omega⟩

theorem tells_ok (T : Talk n up hs) {i : Nat} (hi : i < n.ports.length) {m : Msg} (h : tellO n up hs i = some m) : TellsOK (outM n i m) m ∧ MsgOK m := by
  unfold tellO at h
  split at h
  · rename_i hc
    cases h
    have h1 := would_in T hi hc.2.2
    have h2 := would_right T hi hc.2.2
    have h3 := put_take (macN n i) (wouldM n up hs i) [] h1.2.1 h2 h1.2.2 (by simp)
    rw [List.append_nil] at h3
    exact ⟨⟨_, h3, h1.1⟩, h1.1⟩
  · cases h

theorem tell_live {i : Nat} {m : Msg} (h : tellO n up hs i = some m) : liveB n up i = true := by
  unfold tellO at h
  split at h
  · rename_i hc; exact hc.1
  · cases h

theorem hearN_ok (T : Talk n up hs) : ∀ j, j ≤ n.ports.length → Talk n up (hearN n up (toldL n up hs) hs j)
  | 0, _ => T
  | j + 1, hj => by
    have ih := hearN_ok T j (by omega)
    rw [hearN_succ]
    unfold hearO
    rw [told_get (by omega)]
    cases h : tellO n up hs j with
    | none => exact ih
    | some m => exact ih.hear (tells_ok T (by omega) h).2
theorem Talk.round (T : Talk n up hs) : Talk n up (roundL n up hs) := hearN_ok T _ (Nat.le_refl _)

theorem roundS (T : Talk n up hs) (hn : n.Fin) : Sy.Spec Tryz.prog 13 [.ptr 0 0] (talkO n up hs) (boolSV (!(decide (hs = roundL n up hs)))) (talkO n up (roundL n up hs)) := by
 have hf := T.few
 have hlh := T.len
 have hrl : (roundL n up hs).length = hs.length := hearN_length ..
 obtain ⟨r, hr⟩ : ∃ r, roundL n up hs = r := ⟨_, rfl⟩
 rw [hr] at hrl ⊢
 refine contract Γ hm 100 F13 Tryz.ntmps13 rfl fun F hF => by
  ((conv => whnf); repeat ((first | refine aF ?_ | refine aT ?_); (first | refine run Γ hm 400 ?_ | refine runD Γ hm 400 (by kernel_rfl) ?_); conv => whnf))
  refine stepOp (good_makeSlice Γ.toTy (d := 16) (n := n.ports.length) optSV none rfl rfl rfl rfl rfl rfl rfl rfl (by omega) (by omega) rfl rfl rfl) rfl rfl ?_
  ((first | refine run Γ hm 400 ?_ | refine runD Γ hm 400 (by kernel_rfl) ?_); (conv => whnf); repeat ((first | refine aF ?_ | refine aT ?_); (first | refine run Γ hm 400 ?_ | refine runD Γ hm 400 (by kernel_rfl) ?_); conv => whnf))
  refine G_count n.ports.length (fun j => [(0, .ptr 0 0), (3, .osl 16), (18, intSV (List.replicate n.ports.length (none : Option (List UInt8))).length), (19, intSV j)]) (fun j => [(0, .box (talkL n up 1)), (1, .row 11 heardSV hs), (16, .row 1 optSV (toldU n up hs j))]) []
    ⟨⟨rfl, rfl, rfl, rfl, rfl, rfl, rfl, rfl, trivial⟩, ⟨.inl rfl, rfl, .inl rfl, rfl, .inl (congrArg (Ob.row 1 optSV) toldU_zero), rfl, trivial⟩, rfl, rfl⟩ ?_
  intro j hj
  have hul := toldU_length (up := up) (hs := hs) hj
  ((first | refine run Γ hm 400 ?_ | refine runD Γ hm 400 (by kernel_rfl) ?_); (conv => whnf); repeat ((first | refine aF ?_ | refine aT ?_); (first | refine run Γ hm 400 ?_ | refine runD Γ hm 400 (by kernel_rfl) ?_); conv => whnf))
  refine ⟨fun h => ?_, fun h => ?_⟩
  · have hlt : j < n.ports.length := by simpa using h
    obtain ⟨u, hu, hul, hget', hsucc⟩ : ∃ u, toldU n up hs j = u ∧ u.length = n.ports.length ∧ (∀ h : (j : Int).toNat < u.length, u[(j : Int).toNat]'h = none) ∧ toldU n up hs (j + 1) = u.set j ((tellO n up hs j).map (outM n j)) := ⟨_, rfl, hul, fun _ => toldU_get hlt, toldU_succ hlt⟩
    rw [hu]
    have qt := tellS T j hlt
    cases ht : tellO n up hs j with
    | none =>
      rw [ht] at qt hsucc
      ((first | refine run Γ hm 400 ?_ | refine runD Γ hm 400 (by kernel_rfl) ?_); (conv => whnf); repeat ((first | refine aF ?_ | refine aT ?_); (first | refine run Γ hm 400 ?_ | refine runD Γ hm 400 (by kernel_rfl) ?_); conv => whnf))
      refine stepOp (good_call [] rfl F28 qt rfl ⟨rfl, rfl, trivial⟩ rfl ⟨.inl rfl, .inl rfl, trivial⟩) rfl rfl ?_
      ((first | refine run Γ hm 400 ?_ | refine runD Γ hm 400 (by kernel_rfl) ?_); (conv => whnf); repeat ((first | refine aF ?_ | refine aT ?_); (first | refine run Γ hm 400 ?_ | refine runD Γ hm 400 (by kernel_rfl) ?_); conv => whnf))
      refine ⟨by omega, by show _ < u.length; omega, ?_⟩
      ((conv => whnf); repeat ((first | refine aF ?_ | refine aT ?_); (first | refine run Γ hm 400 ?_ | refine runD Γ hm 400 (by kernel_rfl) ?_); conv => whnf))
      refine ⟨rfl, by show _ < u.length; omega, none, (by rw [hget']; rfl), (by rw [hget']; rfl), ?_⟩
      ((conv => whnf); repeat ((first | refine aF ?_ | refine aT ?_); (first | refine run Γ hm 400 ?_ | refine runD Γ hm 400 (by kernel_rfl) ?_); conv => whnf))
      refine ⟨by unfold I64; omega, ?_⟩
      ((conv => whnf); repeat ((first | refine aF ?_ | refine aT ?_); (first | refine run Γ hm 400 ?_ | refine runD Γ hm 400 (by kernel_rfl) ?_); conv => whnf))
      exact G_next [] hlt ⟨⟨rfl, rfl, rfl, rfl, rfl, rfl, rfl, rfl, trivial⟩, ⟨.inl rfl, rfl, .inl rfl, rfl, .inl (congrArg (Ob.row 1 optSV) hsucc), rfl, trivial⟩, rfl, rfl⟩
    | some m =>
      rw [ht] at qt hsucc
      ((first | refine run Γ hm 400 ?_ | refine runD Γ hm 400 (by kernel_rfl) ?_); (conv => whnf); repeat ((first | refine aF ?_ | refine aT ?_); (first | refine run Γ hm 400 ?_ | refine runD Γ hm 400 (by kernel_rfl) ?_); conv => whnf))
      refine stepOp (good_call [] rfl F28 qt rfl ⟨rfl, rfl, trivial⟩ rfl ⟨.inl rfl, .inl rfl, trivial⟩) rfl rfl ?_
      ((first | refine run Γ hm 400 ?_ | refine runD Γ hm 400 (by kernel_rfl) ?_); (conv => whnf); repeat ((first | refine aF ?_ | refine aT ?_); (first | refine run Γ hm 400 ?_ | refine runD Γ hm 400 (by kernel_rfl) ?_); conv => whnf))
      refine ⟨by omega, by show _ < u.length; omega, ?_⟩
      ((conv => whnf); repeat ((first | refine aF ?_ | refine aT ?_); (first | refine run Γ hm 400 ?_ | refine runD Γ hm 400 (by kernel_rfl) ?_); conv => whnf))
      refine ⟨rfl, by show _ < u.length; omega, some (outM n j m), (by rw [hget']; rfl), (by rw [hget']; rfl), ?_⟩
      ((conv => whnf); repeat ((first | refine aF ?_ | refine aT ?_); (first | refine run Γ hm 400 ?_ | refine runD Γ hm 400 (by kernel_rfl) ?_); conv => whnf))
      refine ⟨by unfold I64; omega, ?_⟩
      ((conv => whnf); repeat ((first | refine aF ?_ | refine aT ?_); (first | refine run Γ hm 400 ?_ | refine runD Γ hm 400 (by kernel_rfl) ?_); conv => whnf))
      exact G_next [] hlt ⟨⟨rfl, rfl, rfl, rfl, rfl, rfl, rfl, rfl, trivial⟩, ⟨.inl rfl, rfl, .inl rfl, rfl, .inl (congrArg (Ob.row 1 optSV) hsucc), rfl, trivial⟩, rfl, rfl⟩
  have hjl : j = n.ports.length := by
    have : ¬ j < n.ports.length := by simpa using h
    omega
  subst hjl
  rw [toldU_all]
  clear hul hj h
  ((first | refine run Γ hm 400 ?_ | refine runD Γ hm 400 (by kernel_rfl) ?_); (conv => whnf); repeat ((first | refine aF ?_ | refine aT ?_); (first | refine run Γ hm 400 ?_ | refine runD Γ hm 400 (by kernel_rfl) ?_); conv => whnf))
  refine stepOp (good_call [(0, 1), (1, 36)] rfl F29 (cloneHeardS hs (by omega)) rfl ⟨rfl, trivial⟩ rfl ⟨.inl rfl, .inr rfl, trivial⟩) rfl rfl ?_
  ((first | refine run Γ hm 400 ?_ | refine runD Γ hm 400 (by kernel_rfl) ?_); (conv => whnf); repeat ((first | refine aF ?_ | refine aT ?_); (first | refine run Γ hm 400 ?_ | refine runD Γ hm 400 (by kernel_rfl) ?_); conv => whnf))
  have htl := toldB_length (n := n) (up := up) (hs := hs)
  refine G_count n.ports.length (fun j => [(0, .ptr 0 0), (5, .osl 36), (37, .osl 16), (38, intSV (toldB n up hs).length), (39, intSV j)]) (fun j => [(0, .box (talkL n up 1)), (1, .row 11 heardSV (hearN n up (toldL n up hs) hs j)), (16, .row 1 optSV (toldB n up hs)), (36, .row 11 heardSV hs)]) []
    ⟨⟨rfl, rfl, rfl, rfl, rfl, rfl, rfl, rfl, rfl, rfl, trivial⟩, ⟨.inl rfl, rfl, .inl rfl, rfl, .inl rfl, rfl, .inl rfl, rfl, trivial⟩, rfl, rfl⟩ ?_
  intro j hj
  have hnl := hearN_length n up (toldL n up hs) hs j
  have Tj := hearN_ok T j hj
  ((first | refine run Γ hm 400 ?_ | refine runD Γ hm 400 (by kernel_rfl) ?_); (conv => whnf); repeat ((first | refine aF ?_ | refine aT ?_); (first | refine run Γ hm 400 ?_ | refine runD Γ hm 400 (by kernel_rfl) ?_); conv => whnf))
  refine ⟨fun h => ?_, fun h => ?_⟩
  · have hlt : j < n.ports.length := by have := of_decide_eq_true h; omega
    obtain ⟨u, hu, hnl, Tj, hsucc⟩ : ∃ u, hearN n up (toldL n up hs) hs j = u ∧ u.length = hs.length ∧ Talk n up u ∧ hearN n up (toldL n up hs) hs (j + 1) = hearO n up (toldL n up hs) u j := ⟨_, rfl, hnl, Tj, hearN_succ n up (toldL n up hs) hs j⟩
    rw [hu]
    have hget := toldB_get (up := up) (hs := hs) hlt
    have hget' : (toldB n up hs)[(j : Int).toNat]'(by simp; omega) = (tellO n up hs j).map (outM n j) := hget
    unfold hearO at hsucc
    rw [told_get hlt] at hsucc
    cases ht : tellO n up hs j with
    | none =>
      rw [ht] at hsucc hget'
      ((first | refine run Γ hm 400 ?_ | refine runD Γ hm 400 (by kernel_rfl) ?_); (conv => whnf); repeat ((first | refine aF ?_ | refine aT ?_); (first | refine run Γ hm 400 ?_ | refine runD Γ hm 400 (by kernel_rfl) ?_); conv => whnf))
      refine ⟨by omega, by simp; omega, ?_⟩
      ((conv => whnf); repeat ((first | refine aF ?_ | refine aT ?_); (first | refine run Γ hm 400 ?_ | refine runD Γ hm 400 (by kernel_rfl) ?_); conv => whnf))
      refine ⟨rfl, by simp; omega, ?_⟩
      rw [hget']
      ((conv => whnf); repeat ((first | refine aF ?_ | refine aT ?_); (first | refine run Γ hm 400 ?_ | refine runD Γ hm 400 (by kernel_rfl) ?_); conv => whnf))
      refine stepOp (good_nil_val Γ.toTy rfl (.inr rfl) rfl rfl rfl rfl) rfl rfl ?_
      ((first | refine run Γ hm 400 ?_ | refine runD Γ hm 400 (by kernel_rfl) ?_); (conv => whnf); repeat ((first | refine aF ?_ | refine aT ?_); (first | refine run Γ hm 400 ?_ | refine runD Γ hm 400 (by kernel_rfl) ?_); conv => whnf))
      refine ⟨by unfold I64; omega, ?_⟩
      ((conv => whnf); repeat ((first | refine aF ?_ | refine aT ?_); (first | refine run Γ hm 400 ?_ | refine runD Γ hm 400 (by kernel_rfl) ?_); conv => whnf))
      exact G_next [] hlt ⟨⟨rfl, rfl, rfl, rfl, rfl, rfl, rfl, rfl, rfl, rfl, trivial⟩, ⟨.inl rfl, rfl, .inl (congrArg (Ob.row 11 heardSV) hsucc), rfl, .inl rfl, rfl, .inl rfl, rfl, trivial⟩, rfl, rfl⟩
    | some m =>
      rw [ht] at hsucc hget'
      simp only [Option.map_some] at hget'
      have hlv := tell_live ht
      have hok := tells_ok T hlt ht
      have hlr := live_eq (n := n) (up := up) (i := (j : Int)) (by omega)
      have hlk : 0 ≤ n.ports[j].link := by
        rw [hlv] at hlr
        have := hlr.symm
        simp only [Bool.and_eq_true, decide_eq_true_eq] at this
        exact this.1
      have qo := linksOtherS n hn T.right j hlt hlk
      have qh := hearS Tj (farO n n.ports[j] j) (outM n j m) m hok.1
      rw [← other_eq T.right hlt hlk] at qo qh
      have hne := out_ne (n := n) (j : Int) m
      generalize outM n (j : Int) m = b at *
      ((first | refine run Γ hm 400 ?_ | refine runD Γ hm 400 (by kernel_rfl) ?_); (conv => whnf); repeat ((first | refine aF ?_ | refine aT ?_); (first | refine run Γ hm 400 ?_ | refine runD Γ hm 400 (by kernel_rfl) ?_); conv => whnf))
      refine ⟨by omega, by simp; omega, ?_⟩
      ((conv => whnf); repeat ((first | refine aF ?_ | refine aT ?_); (first | refine run Γ hm 400 ?_ | refine runD Γ hm 400 (by kernel_rfl) ?_); conv => whnf))
      refine ⟨rfl, by simp; omega, ?_⟩
      rw [hget']
      ((conv => whnf); repeat ((first | refine aF ?_ | refine aT ?_); (first | refine run Γ hm 400 ?_ | refine runD Γ hm 400 (by kernel_rfl) ?_); conv => whnf))
      refine stepOp (good_nil_sl Γ.toTy rfl (.inr rfl) rfl rfl rfl rfl hne) rfl rfl ?_
      ((first | refine run Γ hm 400 ?_ | refine runD Γ hm 400 (by kernel_rfl) ?_); (conv => whnf); repeat ((first | refine aF ?_ | refine aT ?_); (first | refine run Γ hm 400 ?_ | refine runD Γ hm 400 (by kernel_rfl) ?_); conv => whnf))
      refine call0 qo F30 rfl rfl rfl rfl rfl ?_
      ((first | refine run Γ hm 400 ?_ | refine runD Γ hm 400 (by kernel_rfl) ?_); (conv => whnf); repeat ((first | refine aF ?_ | refine aT ?_); (first | refine run Γ hm 400 ?_ | refine runD Γ hm 400 (by kernel_rfl) ?_); conv => whnf))
      refine stepOp (good_call [] rfl F12 qh rfl ⟨rfl, rfl, trivial⟩ rfl ⟨.inl rfl, .inl rfl, trivial⟩) rfl rfl ?_
      ((first | refine run Γ hm 400 ?_ | refine runD Γ hm 400 (by kernel_rfl) ?_); (conv => whnf); repeat ((first | refine aF ?_ | refine aT ?_); (first | refine run Γ hm 400 ?_ | refine runD Γ hm 400 (by kernel_rfl) ?_); conv => whnf))
      refine ⟨by unfold I64; omega, ?_⟩
      ((conv => whnf); repeat ((first | refine aF ?_ | refine aT ?_); (first | refine run Γ hm 400 ?_ | refine runD Γ hm 400 (by kernel_rfl) ?_); conv => whnf))
      exact G_next [] hlt ⟨⟨rfl, rfl, rfl, rfl, rfl, rfl, rfl, rfl, rfl, rfl, trivial⟩, ⟨.inl rfl, rfl, .inl (congrArg (Ob.row 11 heardSV) hsucc), rfl, .inl rfl, rfl, .inl rfl, rfl, trivial⟩, rfl, rfl⟩
  have hjl : j = n.ports.length := by
    have : ¬ j < n.ports.length := by have := of_decide_eq_false h; omega
    omega
  subst hjl
  have e : hearN n up (toldL n up hs) hs n.ports.length = r := hr
  rw [e]
  ((first | refine run Γ hm 400 ?_ | refine runD Γ hm 400 (by kernel_rfl) ?_); (conv => whnf); repeat ((first | refine aF ?_ | refine aT ?_); (first | refine run Γ hm 400 ?_ | refine runD Γ hm 400 (by kernel_rfl) ?_); conv => whnf))
  refine callK [36, 1] (equalHeardS hs r (by omega) (by omega)) F31 rfl (.cons (.row rfl rfl) (.cons (.row rfl rfl) .nil)) rfl rfl rfl ?_
  ((first | refine run Γ hm 400 ?_ | refine runD Γ hm 400 (by kernel_rfl) ?_); (conv => whnf); repeat ((first | refine aF ?_ | refine aT ?_); (first | refine run Γ hm 400 ?_ | refine runD Γ hm 400 (by kernel_rfl) ?_); conv => whnf))
  exact done rfl (.cons .tmp .nil) [] (talkO n up r) (fun _ h => h) rfl rfl ⟨trivial, ⟨.inl rfl, rfl, .inl rfl, rfl, trivial⟩, rfl, rfl⟩
end
end Go.Sy.YthbgklhegccckaaGreat

namespace Go.Sy.YthbgklhegccckaaGreat
open Go.Proofs

attribute [local irreducible] Go.Sy.G Go.Sy.DR
set_option maxRecDepth 100000
set_option maxHeartbeats 4000000

/-- May a talk begin? -/
def speakB (n : Net) (up : List Bool) : Bool := unlikeB n && decide (up.length = n.links.length)

theorem start_ok (n : Net) : AllOK (start n) := fun h hh => by
  rw [List.eq_of_mem_replicate hh]
  exact ⟨rfl, by decide, by decide, by decide, by decide⟩
theorem Talk.start {n : Net} {up : List Bool} (h : speakB n up = true) (hm1 : MacsIn n) : Talk n up (start n) := by
  simp only [speakB, Bool.and_eq_true, decide_eq_true_eq] at h
  exact ⟨h.1, h.2, by simp [Sy.YthbgklhegccckaaGreat.start], start_ok n, hm1⟩

theorem newBadS (n : Net) (up : List Bool) (hn : n.Fin) (hm1 : MacsIn n) (h : speakB n up = false) : Sy.Spec Tryz.prog 15 [netSV n, .sl 1 boolSV up] [] (.tup [.val (.pointer none), intSV 2]) [] := by
  have qu := unlikeS n hn hm1
  cases hu : unlikeB n with
  | false =>
    rw [hu] at qu
    refine contract Γ hm 100 F15 Tryz.ntmps15 rfl fun F hF => by
      ((conv => whnf); repeat ((first | refine aF ?_ | refine aT ?_); (first | refine run Γ hm 400 ?_ | refine runD Γ hm 400 (by kernel_rfl) ?_); conv => whnf))
      refine call0 qu F10 rfl rfl rfl rfl rfl ?_
      ((first | refine run Γ hm 400 ?_ | refine runD Γ hm 400 (by kernel_rfl) ?_); (conv => whnf); repeat ((first | refine aF ?_ | refine aT ?_); (first | refine run Γ hm 400 ?_ | refine runD Γ hm 400 (by kernel_rfl) ?_); conv => whnf))
      exact done0 rfl (.cons .tmp (.cons .tmp .nil)) rfl rfl
  | true =>
    rw [hu] at qu
    have hl : ¬ up.length = n.links.length := fun e => by simp [speakB, hu, e] at h
    refine contract Γ hm 100 F15 Tryz.ntmps15 rfl fun F hF => by
      ((conv => whnf); repeat ((first | refine aF ?_ | refine aT ?_); (first | refine run Γ hm 400 ?_ | refine runD Γ hm 400 (by kernel_rfl) ?_); conv => whnf))
      refine call0 qu F10 rfl rfl rfl rfl rfl ?_
      ((first | refine run Γ hm 400 ?_ | refine runD Γ hm 400 (by kernel_rfl) ?_); (conv => whnf); repeat ((first | refine aF ?_ | refine aT ?_); (first | refine run Γ hm 400 ?_ | refine runD Γ hm 400 (by kernel_rfl) ?_); conv => whnf))
      refine ⟨fun _ => ?_, fun h => absurd (show up.length = n.links.length by simp at h; omega) hl⟩
      ((first | refine run Γ hm 400 ?_ | refine runD Γ hm 400 (by kernel_rfl) ?_); (conv => whnf); repeat ((first | refine aF ?_ | refine aT ?_); (first | refine run Γ hm 400 ?_ | refine runD Γ hm 400 (by kernel_rfl) ?_); conv => whnf))
      exact done0 rfl (.cons .tmp (.cons .tmp .nil)) rfl rfl

theorem newOKS (n : Net) (up : List Bool) (hn : n.Fin) (hm1 : MacsIn n) (h : speakB n up = true) : Sy.Spec Tryz.prog 15 [netSV n, .sl 1 boolSV up] [] (.tup [.ptr 0 0, intSV 0]) (talkO n up (start n)) := contract Γ hm 100 F15 Tryz.ntmps15 rfl fun F hF => by
  have T := Talk.start h hm1
  have qu := unlikeS n hn hm1
  rw [T.unlike] at qu
  have hf := T.few
  have hc := (unlike_facts T.unlike).2.2.1
  have hups := T.ups
  have qi := idsOKS n hm1 (by omega) hc
  have qc := copyS n hn
  have qb := cloneBoolS up (by omega)
  ((conv => whnf); repeat ((first | refine aF ?_ | refine aT ?_); (first | refine run Γ hm 400 ?_ | refine runD Γ hm 400 (by kernel_rfl) ?_); conv => whnf))
  refine call0 qu F10 rfl rfl rfl rfl rfl ?_
  ((first | refine run Γ hm 400 ?_ | refine runD Γ hm 400 (by kernel_rfl) ?_); (conv => whnf); repeat ((first | refine aF ?_ | refine aT ?_); (first | refine run Γ hm 400 ?_ | refine runD Γ hm 400 (by kernel_rfl) ?_); conv => whnf))
  refine ⟨fun h => False.elim (by simp [hups] at h), fun _ => ?_⟩
  ((first | refine run Γ hm 400 ?_ | refine runD Γ hm 400 (by kernel_rfl) ?_); (conv => whnf); repeat ((first | refine aF ?_ | refine aT ?_); (first | refine run Γ hm 400 ?_ | refine runD Γ hm 400 (by kernel_rfl) ?_); conv => whnf))
  refine call0 qi F21 rfl rfl rfl rfl rfl ?_
  ((first | refine run Γ hm 400 ?_ | refine runD Γ hm 400 (by kernel_rfl) ?_); (conv => whnf); repeat ((first | refine aF ?_ | refine aT ?_); (first | refine run Γ hm 400 ?_ | refine runD Γ hm 400 (by kernel_rfl) ?_); conv => whnf))
  refine callD0 qc F33 rfl rfl rfl (by kernel_rfl) rfl ?_
  ((first | refine run Γ hm 400 ?_ | refine runD Γ hm 400 (by kernel_rfl) ?_); (conv => whnf); repeat ((first | refine aF ?_ | refine aT ?_); (first | refine run Γ hm 400 ?_ | refine runD Γ hm 400 (by kernel_rfl) ?_); conv => whnf))
  refine callD0 qb F34 rfl rfl rfl (by kernel_rfl) rfl ?_
  ((first | refine run Γ hm 400 ?_ | refine runD Γ hm 400 (by kernel_rfl) ?_); (conv => whnf); repeat ((first | refine aF ?_ | refine aT ?_); (first | refine run Γ hm 400 ?_ | refine runD Γ hm 400 (by kernel_rfl) ?_); conv => whnf))
  refine stepD (good_makeSlice Γ.toTy (d := 32) (n := n.ports.length) heardSV ⟨false, zeroMsg⟩ rfl rfl rfl rfl rfl rfl rfl rfl (by omega) (by omega) rfl rfl rfl) (by kernel_rfl) rfl ?_
  ((first | refine run Γ hm 400 ?_ | refine runD Γ hm 400 (by kernel_rfl) ?_); (conv => whnf); repeat ((first | refine aF ?_ | refine aT ?_); (first | refine run Γ hm 400 ?_ | refine runD Γ hm 400 (by kernel_rfl) ?_); conv => whnf))
  refine ⟨(by kernel_rfl), ?_⟩
  ((conv => whnf); repeat ((first | refine aF ?_ | refine aT ?_); (first | refine run Γ hm 400 ?_ | refine runD Γ hm 400 (by kernel_rfl) ?_); conv => whnf))
  exact done rfl (.cons .tmp (.cons .tmp .nil)) [(0, 34), (1, 32)] (talkO n up (start n)) (fun _ h => h) rfl rfl ⟨trivial, ⟨.inl rfl, rfl, .inl rfl, rfl, trivial⟩, rfl, rfl⟩

section
variable {n : Net} {up : List Bool} {hs : List Heard}
theorem rolesH_length (j : Nat) : ((List.range j).map fun i : Nat => roleI n up hs i).length = j := by simp
theorem rolesTS (T : Talk n up hs) : Sy.Spec Tryz.prog 14 [.ptr 0 0] (talkO n up hs) (.sl 1 intSV (rolesH n up hs)) (talkO n up hs) := contract Γ hm 100 F14 Tryz.ntmps14 rfl fun F hF => by
  have hf := T.few
  ((conv => whnf); repeat ((first | refine aF ?_ | refine aT ?_); (first | refine run Γ hm 400 ?_ | refine runD Γ hm 400 (by kernel_rfl) ?_); conv => whnf))
  refine G_adopt 3 1000 1 intSV rfl rfl ?_
  refine G_count n.ports.length (fun j => [(0, .ptr 0 0), (3, .osl 1000), (12, intSV n.ports.length), (13, intSV j)]) (fun j => [(0, .box (talkL n up 1)), (1, .row 11 heardSV hs), (1000, .row 1 intSV ((List.range j).map fun i : Nat => roleI n up hs i))]) []
    ⟨⟨rfl, rfl, rfl, rfl, rfl, rfl, rfl, rfl, trivial⟩, ⟨.inl rfl, rfl, .inl rfl, rfl, .inl rfl, rfl, trivial⟩, rfl, rfl⟩ ?_
  intro j hj
  ((first | refine run Γ hm 400 ?_ | refine runD Γ hm 400 (by kernel_rfl) ?_); (conv => whnf); repeat ((first | refine aF ?_ | refine aT ?_); (first | refine run Γ hm 400 ?_ | refine runD Γ hm 400 (by kernel_rfl) ?_); conv => whnf))
  refine ⟨fun h => ?_, fun h => ?_⟩
  · have hlt : j < n.ports.length := by simpa using h
    obtain ⟨u, hu, hul, hsucc⟩ : ∃ u, ((List.range j).map fun i : Nat => roleI n up hs i) = u ∧ u.length = j ∧ ((List.range (j + 1)).map fun i : Nat => roleI n up hs i) = u ++ [roleI n up hs j] := ⟨_, rfl, by simp, by rw [List.range_succ, List.map_append]; rfl⟩
    rw [hu]
    have qr := roleS T j hlt
    generalize roleI n up hs (j : Int) = r at *
    ((first | refine run Γ hm 400 ?_ | refine runD Γ hm 400 (by kernel_rfl) ?_); (conv => whnf); repeat ((first | refine aF ?_ | refine aT ?_); (first | refine run Γ hm 400 ?_ | refine runD Γ hm 400 (by kernel_rfl) ?_); conv => whnf))
    refine stepOp (good_call [] rfl F32 qr rfl ⟨rfl, rfl, trivial⟩ rfl ⟨.inl rfl, .inl rfl, trivial⟩) rfl rfl ?_
    ((first | refine run Γ hm 400 ?_ | refine runD Γ hm 400 (by kernel_rfl) ?_); (conv => whnf); repeat ((first | refine aF ?_ | refine aT ?_); (first | refine run Γ hm 400 ?_ | refine runD Γ hm 400 (by kernel_rfl) ?_); conv => whnf))
    refine stepOp (good_appendT Γ.toTy 21 rfl rfl rfl rfl rfl (.row rfl) (.lit (e := intSV) (l := [r]) rfl rfl) (by simp) (by simp; omega) (by simp; omega)) rfl rfl ?_
    ((first | refine run Γ hm 400 ?_ | refine runD Γ hm 400 (by kernel_rfl) ?_); (conv => whnf); repeat ((first | refine aF ?_ | refine aT ?_); (first | refine run Γ hm 400 ?_ | refine runD Γ hm 400 (by kernel_rfl) ?_); conv => whnf))
    refine ⟨by unfold I64; omega, ?_⟩
    ((conv => whnf); repeat ((first | refine aF ?_ | refine aT ?_); (first | refine run Γ hm 400 ?_ | refine runD Γ hm 400 (by kernel_rfl) ?_); conv => whnf))
    exact G_next [(1000, 21)] hlt ⟨⟨rfl, rfl, rfl, rfl, rfl, rfl, rfl, rfl, trivial⟩, ⟨.inl rfl, rfl, .inl rfl, rfl, .inl (congrArg (Ob.row 1 intSV) hsucc), rfl, trivial⟩, rfl, rfl⟩
  · have hjl : j = n.ports.length := by
      have : ¬ j < n.ports.length := by simpa using h
      omega
    subst hjl
    ((first | refine run Γ hm 400 ?_ | refine runD Γ hm 400 (by kernel_rfl) ?_); (conv => whnf); repeat ((first | refine aF ?_ | refine aT ?_); (first | refine run Γ hm 400 ?_ | refine runD Γ hm 400 (by kernel_rfl) ?_); conv => whnf))
    refine G_data 1000 rfl ?_
    exact done rfl (.cons .tmp .nil) [] (talkO n up hs) (fun _ h => h) rfl rfl ⟨trivial, ⟨.inl rfl, rfl, .inl rfl, rfl, trivial⟩, rfl, rfl⟩
end

/-- A talk behind so many rounds. -/
def roundN (n : Net) (up : List Bool) : Nat → List Heard
  | 0 => start n
  | j + 1 => roundL n up (roundN n up j)
theorem Talk.roundN {n : Net} {up : List Bool} (h : speakB n up = true) (hm1 : MacsIn n) : ∀ j, Talk n up (roundN n up j)
  | 0 => Talk.start h hm1
  | j + 1 => (Talk.roundN h hm1 j).round

/-- In how many rounds it settles. -/
def settleJ (n : Net) (up : List Bool) : Nat := (List.range 100).findIdx fun j => decide (roundN n up j = roundN n up (j + 1))
theorem settle_at {n : Net} {up : List Bool} {j : Nat} (hj : j < 100) (h1 : ∀ i, i < j → ¬ roundN n up i = roundN n up (i + 1)) (h2 : roundN n up j = roundN n up (j + 1)) : settleJ n up = j := by
  unfold settleJ
  rw [List.findIdx_eq (by simpa using hj)]
  refine ⟨by simpa using h2, fun i hi => ?_⟩
  simpa using h1 i hi
theorem settle_end {n : Net} {up : List Bool} (h1 : ∀ i, i < 100 → ¬ roundN n up i = roundN n up (i + 1)) : settleJ n up = 100 := by
  unfold settleJ
  have : (List.range 100).findIdx (fun j => decide (roundN n up j = roundN n up (j + 1))) = (List.range 100).length := by
    rw [List.findIdx_eq_length]
    intro x hx
    simpa using h1 x (by simpa using hx)
  simpa using this
def settledR (n : Net) (up : List Bool) : List Int := rolesH n up (roundN n up (settleJ n up))

theorem settleBadS (n : Net) (up : List Bool) (hn : n.Fin) (hm1 : MacsIn n) (h : speakB n up = false) : Sy.Spec Tryz.prog 7 [netSV n, .sl 1 boolSV up] [] (.tup [.sl 1 intSV [], intSV 0, intSV 2]) [] := contract Γ hm 100 F7 Tryz.ntmps7 rfl fun F hF => by
  ((conv => whnf); repeat ((first | refine aF ?_ | refine aT ?_); (first | refine run Γ hm 400 ?_ | refine runD Γ hm 400 (by kernel_rfl) ?_); conv => whnf))
  refine call0 (newBadS n up hn hm1 h) F15 rfl rfl rfl rfl rfl ?_
  ((first | refine run Γ hm 400 ?_ | refine runD Γ hm 400 (by kernel_rfl) ?_); (conv => whnf); repeat ((first | refine aF ?_ | refine aT ?_); (first | refine run Γ hm 400 ?_ | refine runD Γ hm 400 (by kernel_rfl) ?_); conv => whnf))
  refine G_nilsl 4 1 intSV rfl ?_
  exact done0 rfl (.cons .tmp (.cons .tmp (.cons .tmp .nil))) rfl rfl

theorem settleOKS (n : Net) (up : List Bool) (hn : n.Fin) (hm1 : MacsIn n) (h : speakB n up = true) : Sy.Spec Tryz.prog 7 [netSV n, .sl 1 boolSV up] [] (.tup [.sl 1 intSV (settledR n up), intSV (settleJ n up), intSV 0]) [] := by
 obtain ⟨R, hR⟩ : ∃ R, settledR n up = R := ⟨_, rfl⟩
 obtain ⟨J, hJ⟩ : ∃ J, settleJ n up = J := ⟨_, rfl⟩
 rw [hR, hJ]
 refine contract Γ hm 100 F7 Tryz.ntmps7 rfl fun F hF => by
  ((conv => whnf); repeat ((first | refine aF ?_ | refine aT ?_); (first | refine run Γ hm 400 ?_ | refine runD Γ hm 400 (by kernel_rfl) ?_); conv => whnf))
  refine stepOp (good_call [(0, 11), (1, 12)] rfl F15 (newOKS n up hn hm1 h) rfl trivial rfl ⟨.inr rfl, .inr rfl, trivial⟩) rfl rfl ?_
  ((first | refine run Γ hm 400 ?_ | refine runD Γ hm 400 (by kernel_rfl) ?_); (conv => whnf); repeat ((first | refine aF ?_ | refine aT ?_); (first | refine run Γ hm 400 ?_ | refine runD Γ hm 400 (by kernel_rfl) ?_); conv => whnf))
  refine G_countP 100 (fun j => ∀ i, i < j → ¬ roundN n up i = roundN n up (i + 1)) (fun j => [(5, intSV j), (7, .ptr 0 0)]) (fun j => talkO n up (roundN n up j)) [(0, 11), (1, 12)] (fun i h => absurd h (by omega))
    ⟨⟨rfl, rfl, rfl, rfl, trivial⟩, ⟨.inl rfl, rfl, .inl rfl, rfl, trivial⟩, rfl, rfl⟩ ?_
  intro j hj hI
  have T := Talk.roundN h hm1 j
  have T2 := Talk.roundN h hm1 (j + 1)
  have qr := roundS T hn
  have ql2 := rolesTS T2
  have ql := rolesTS T
  have e : roundL n up (roundN n up j) = roundN n up (j + 1) := rfl
  rw [e] at qr
  ((first | refine run Γ hm 400 ?_ | refine runD Γ hm 400 (by kernel_rfl) ?_); (conv => whnf); repeat ((first | refine aF ?_ | refine aT ?_); (first | refine run Γ hm 400 ?_ | refine runD Γ hm 400 (by kernel_rfl) ?_); conv => whnf))
  refine ⟨fun h => ?_, fun h => ?_⟩
  · have hlt : j < 100 := by have := of_decide_eq_true h; omega
    ((first | refine run Γ hm 400 ?_ | refine runD Γ hm 400 (by kernel_rfl) ?_); (conv => whnf); repeat ((first | refine aF ?_ | refine aT ?_); (first | refine run Γ hm 400 ?_ | refine runD Γ hm 400 (by kernel_rfl) ?_); conv => whnf))
    refine stepOp (good_call [] rfl F13 qr rfl ⟨rfl, rfl, trivial⟩ rfl ⟨.inl rfl, .inl rfl, trivial⟩) rfl rfl ?_
    ((first | refine run Γ hm 400 ?_ | refine runD Γ hm 400 (by kernel_rfl) ?_); (conv => whnf); repeat ((first | refine aF ?_ | refine aT ?_); (first | refine run Γ hm 400 ?_ | refine runD Γ hm 400 (by kernel_rfl) ?_); conv => whnf))
    refine ⟨fun h => ?_, fun h => ?_⟩
    · have hne : ¬ roundN n up j = roundN n up (j + 1) := by simpa using h
      ((first | refine run Γ hm 400 ?_ | refine runD Γ hm 400 (by kernel_rfl) ?_); (conv => whnf); repeat ((first | refine aF ?_ | refine aT ?_); (first | refine run Γ hm 400 ?_ | refine runD Γ hm 400 (by kernel_rfl) ?_); conv => whnf))
      refine ⟨by unfold I64; omega, ?_⟩
      ((conv => whnf); repeat ((first | refine aF ?_ | refine aT ?_); (first | refine run Γ hm 400 ?_ | refine runD Γ hm 400 (by kernel_rfl) ?_); conv => whnf))
      refine G_nextP [] hI hlt (fun i hi => ?_) ⟨⟨rfl, rfl, rfl, rfl, trivial⟩, ⟨.inl rfl, rfl, .inl rfl, rfl, trivial⟩, rfl, rfl⟩
      rcases Nat.lt_or_ge i j with h3 | h3
      · exact hI i h3
      · have : i = j := by omega
        subst this
        exact hne
    · have he : roundN n up j = roundN n up (j + 1) := by simpa using h
      have hJ2 : J = j := by rw [← hJ]; exact settle_at hlt hI he
      have hR2 : R = rolesH n up (roundN n up (j + 1)) := by rw [← hR, settledR, hJ, hJ2, ← he]
      rw [hJ2, hR2]
      ((first | refine run Γ hm 400 ?_ | refine runD Γ hm 400 (by kernel_rfl) ?_); (conv => whnf); repeat ((first | refine aF ?_ | refine aT ?_); (first | refine run Γ hm 400 ?_ | refine runD Γ hm 400 (by kernel_rfl) ?_); conv => whnf))
      refine stepOp (good_call [] rfl F14 ql2 rfl ⟨rfl, rfl, trivial⟩ rfl ⟨.inl rfl, .inl rfl, trivial⟩) rfl rfl ?_
      ((first | refine run Γ hm 400 ?_ | refine runD Γ hm 400 (by kernel_rfl) ?_); (conv => whnf); repeat ((first | refine aF ?_ | refine aT ?_); (first | refine run Γ hm 400 ?_ | refine runD Γ hm 400 (by kernel_rfl) ?_); conv => whnf))
      exact done0 rfl (.cons .tmp (.cons .tmp (.cons .tmp .nil))) rfl rfl
  · have hj1 : j = 100 := by have := of_decide_eq_false h; omega
    subst hj1
    have hJ2 : J = 100 := by rw [← hJ]; exact settle_end hI
    have hR2 : R = rolesH n up (roundN n up 100) := by rw [← hR, settledR, hJ, hJ2]
    rw [hJ2, hR2]
    ((first | refine run Γ hm 400 ?_ | refine runD Γ hm 400 (by kernel_rfl) ?_); (conv => whnf); repeat ((first | refine aF ?_ | refine aT ?_); (first | refine run Γ hm 400 ?_ | refine runD Γ hm 400 (by kernel_rfl) ?_); conv => whnf))
    refine stepOp (good_call [] rfl F14 ql rfl ⟨rfl, rfl, trivial⟩ rfl ⟨.inl rfl, .inl rfl, trivial⟩) rfl rfl ?_
    ((first | refine run Γ hm 400 ?_ | refine runD Γ hm 400 (by kernel_rfl) ?_); (conv => whnf); repeat ((first | refine aF ?_ | refine aT ?_); (first | refine run Γ hm 400 ?_ | refine runD Γ hm 400 (by kernel_rfl) ?_); conv => whnf))
    exact done0 rfl (.cons .tmp (.cons .tmp (.cons .tmp .nil))) rfl rfl
end Go.Sy.YthbgklhegccckaaGreat

namespace Go.Sy.YthbgklhegccckaaGreat
open Go.Proofs
-- OM: decide

attribute [local irreducible] Go.Sy.G Go.Sy.DR
set_option maxRecDepth 100000
set_option maxHeartbeats 4000000

theorem hearNilS : Sy.Spec Tryz.prog 12 [.val (.pointer none), intSV 0, .val (.slice none 0 0)] [] (intSV 1) [] := contract Γ hm 100 F12 Tryz.ntmps12 rfl fun F hF => by
  ((conv => whnf); repeat ((first | refine aF ?_ | refine aT ?_); (first | refine run Γ hm 400 ?_ | refine runD Γ hm 400 (by kernel_rfl) ?_); conv => whnf))
  refine stepOp (good_eq_nil Γ.toTy rfl (.inl rfl) rfl rfl rfl (.inr ⟨rfl, rfl, rfl⟩)) rfl rfl ?_
  ((first | refine run Γ hm 400 ?_ | refine runD Γ hm 400 (by kernel_rfl) ?_); (conv => whnf); repeat ((first | refine aF ?_ | refine aT ?_); (first | refine run Γ hm 400 ?_ | refine runD Γ hm 400 (by kernel_rfl) ?_); conv => whnf))
  exact done0 rfl (.cons .tmp .nil) rfl rfl
theorem roundNilS : Sy.Spec Tryz.prog 13 [.val (.pointer none)] [] (boolSV false) [] := contract Γ hm 100 F13 Tryz.ntmps13 rfl fun F hF => by
  ((conv => whnf); repeat ((first | refine aF ?_ | refine aT ?_); (first | refine run Γ hm 400 ?_ | refine runD Γ hm 400 (by kernel_rfl) ?_); conv => whnf))
  refine stepOp (good_eq_nil Γ.toTy rfl (.inl rfl) rfl rfl rfl (.inr ⟨rfl, rfl, rfl⟩)) rfl rfl ?_
  ((first | refine run Γ hm 400 ?_ | refine runD Γ hm 400 (by kernel_rfl) ?_); (conv => whnf); repeat ((first | refine aF ?_ | refine aT ?_); (first | refine run Γ hm 400 ?_ | refine runD Γ hm 400 (by kernel_rfl) ?_); conv => whnf))
  exact done0 rfl (.cons .tmp .nil) rfl rfl
theorem rolesNilS : Sy.Spec Tryz.prog 14 [.val (.pointer none)] [] (.val (.slice none 0 0)) [] := contract Γ hm 100 F14 Tryz.ntmps14 rfl fun F hF => by
  ((conv => whnf); repeat ((first | refine aF ?_ | refine aT ?_); (first | refine run Γ hm 400 ?_ | refine runD Γ hm 400 (by kernel_rfl) ?_); conv => whnf))
  refine stepOp (good_eq_nil Γ.toTy rfl (.inl rfl) rfl rfl rfl (.inr ⟨rfl, rfl, rfl⟩)) rfl rfl ?_
  ((first | refine run Γ hm 400 ?_ | refine runD Γ hm 400 (by kernel_rfl) ?_); (conv => whnf); repeat ((first | refine aF ?_ | refine aT ?_); (first | refine run Γ hm 400 ?_ | refine runD Γ hm 400 (by kernel_rfl) ?_); conv => whnf))
  exact done0 rfl (.cons .tmp .nil) rfl rfl

def exPort (i : Int) : Port := ⟨0, i, 10, 4, 0, .empty, []⟩
def exDom (i : Int) : Domain := ⟨i, 10, 0, -1, 0, []⟩
def exPorts : List Port := [exPort 0, exPort 1]
def exDoms : List Domain := [exDom 0, exDom 1]
def exS : Net := ⟨[⟨0, 2, .empty, 0, 0⟩, ⟨0, 1, .empty, 0, 0⟩], exPorts, [⟨0, 0, 1⟩], exDoms, [], [], [], []⟩
theorem exS_fin : exS.Fin := fin_of_great (by decide +kernel)
theorem exS_macs : MacsIn exS := fun d hd => by
  simp only [exS, List.mem_cons, List.not_mem_nil, or_false] at hd
  rcases hd with rfl | rfl <;> decide
theorem exS_speak : speakB exS [true] = true := by decide +kernel
theorem exS_rounds : settleJ exS [true] = 1 := settle_at (by decide) (fun i hi => by
  have : i = 0 := by omega
  subst this
  decide +kernel) (by decide +kernel)
theorem exS_roles : settledR exS [true] = [1, 2] := by
  rw [settledR, exS_rounds]
  decide +kernel

theorem speakWorksS : Sy.Spec Tryz.prog 6 [] [] (boolSV true) [] := contract Γ hm 100 F6 Tryz.ntmps6 rfl fun F hF => by
  have q := settleOKS exS [true] exS_fin exS_macs exS_speak
  rw [exS_rounds, exS_roles] at q
  ((conv => whnf); repeat ((first | refine aF ?_ | refine aT ?_); (first | refine run Γ hm 400 ?_ | refine runD Γ hm 400 (by kernel_rfl) ?_); conv => whnf))
  refine G_retype 8 (e := deviceSV) (l := exS.devices) rfl rfl ?_
  refine G_data 8 rfl ?_
  refine G_retype 11 (e := portNil) (l := exPorts) rfl rfl ?_
  refine G_recode 11 (e' := portSV) (l' := exPorts) rfl rfl (fun M w i h1 h2 v hv => ?_) ?_
  · show RdD M w (portSV exPorts[i]) v
    have hv : RdD M w (portNil exPorts[i]) v := hv
    refine portNil_rd (exPorts[i]) ?_ hv
    exact (by decide : ∀ p ∈ exPorts, p.tagged = []) _ (List.getElem_mem _)
  refine G_data 11 rfl ?_
  refine G_retype 13 (e := linkSV) (l := exS.links) rfl rfl ?_
  refine G_data 13 rfl ?_
  refine G_retype 16 (e := domNil) (l := exDoms) rfl rfl ?_
  refine G_recode 16 (e' := domainSV) (l' := exDoms) rfl rfl (fun M w i h1 h2 v hv => ?_) ?_
  · show RdD M w (domainSV exDoms[i]) v
    have hv : RdD M w (domNil exDoms[i]) v := hv
    refine domNil_rd (exDoms[i]) ?_ hv
    exact (by decide : ∀ p ∈ exDoms, p.peers = []) _ (List.getElem_mem _)
  refine G_data 16 rfl ?_
  refine G_retype 20 (e := boolSV) (l := [true]) rfl rfl ?_
  refine G_data 20 rfl ?_
  refine G_vw 19 (netSV exS) (.agg (.cons (.refl _) (.cons (.refl _) (.cons (.refl _) (.cons (.refl _) (.cons .nil (.cons .nil (.cons .nil (.cons .nil .nil))))))))) ?_
  refine call0 q F7 rfl rfl rfl rfl rfl ?_
  ((first | refine run Γ hm 400 ?_ | refine runD Γ hm 400 (by kernel_rfl) ?_); (conv => whnf); repeat ((first | refine aF ?_ | refine aT ?_); (first | refine run Γ hm 400 ?_ | refine runD Γ hm 400 (by kernel_rfl) ?_); conv => whnf))
  (repeat' (first | (refine ⟨fun h => ?_, fun h => ?_⟩ <;> (repeat (first | (simp only [decide_eq_true_eq] at h) | (simp only [decide_eq_false_iff_not] at h) | (simp only [beq_iff_eq] at h) | (simp only [beq_eq_false_iff_ne] at h) | (simp only [bne_iff_ne] at h) | (simp only [bne_eq_false_iff_eq] at h) | (simp only [Bool.and_eq_true] at h) | (simp only [Bool.or_eq_true] at h) | (simp only [Bool.and_eq_false_iff] at h) | (simp only [Bool.or_eq_false_iff] at h) | (simp only [Bool.not_eq_true'] at h) | (simp only [Bool.not_eq_false'] at h) | (simp only [Bool.not_eq_eq_eq_not] at h) | (simp only [Bool.not_true] at h) | (simp only [Bool.not_false] at h))) <;> ((first | refine run Γ hm 400 ?_ | refine runD Γ hm 400 (by kernel_rfl) ?_); (conv => whnf); repeat ((first | refine aF ?_ | refine aT ?_); (first | refine run Γ hm 400 ?_ | refine runD Γ hm 400 (by kernel_rfl) ?_); conv => whnf))) | (refine done0 rfl (.cons .tmp .nil) ?_ rfl) | (refine ⟨(by kernel_rfl), ?_⟩; ((conv => whnf); repeat ((first | refine aF ?_ | refine aT ?_); (first | refine run Γ hm 400 ?_ | refine runD Γ hm 400 (by kernel_rfl) ?_); conv => whnf))) | (refine ⟨by (first | (unfold I64; omega) | omega | (simp only [Int.toNat_natCast]; omega) | decide), by (first | (unfold I64; omega) | omega | (simp only [Int.toNat_natCast]; omega) | decide), ?_⟩; ((conv => whnf); repeat ((first | refine aF ?_ | refine aT ?_); (first | refine run Γ hm 400 ?_ | refine runD Γ hm 400 (by kernel_rfl) ?_); conv => whnf))) | (refine ⟨by (first | (unfold I64; omega) | omega | (simp only [Int.toNat_natCast]; omega) | decide), ?_⟩; ((conv => whnf); repeat ((first | refine aF ?_ | refine aT ?_); (first | refine run Γ hm 400 ?_ | refine runD Γ hm 400 (by kernel_rfl) ?_); conv => whnf))) | (refine call0 (hearNilS) F12 rfl rfl rfl rfl rfl ?_; ((first | refine run Γ hm 400 ?_ | refine runD Γ hm 400 (by kernel_rfl) ?_); (conv => whnf); repeat ((first | refine aF ?_ | refine aT ?_); (first | refine run Γ hm 400 ?_ | refine runD Γ hm 400 (by kernel_rfl) ?_); conv => whnf))) | (refine callD0 (hearNilS) F12 rfl rfl rfl (by kernel_rfl) rfl ?_; ((first | refine run Γ hm 400 ?_ | refine runD Γ hm 400 (by kernel_rfl) ?_); (conv => whnf); repeat ((first | refine aF ?_ | refine aT ?_); (first | refine run Γ hm 400 ?_ | refine runD Γ hm 400 (by kernel_rfl) ?_); conv => whnf))) | (refine call0 (roundNilS) F13 rfl rfl rfl rfl rfl ?_; ((first | refine run Γ hm 400 ?_ | refine runD Γ hm 400 (by kernel_rfl) ?_); (conv => whnf); repeat ((first | refine aF ?_ | refine aT ?_); (first | refine run Γ hm 400 ?_ | refine runD Γ hm 400 (by kernel_rfl) ?_); conv => whnf))) | (refine callD0 (roundNilS) F13 rfl rfl rfl (by kernel_rfl) rfl ?_; ((first | refine run Γ hm 400 ?_ | refine runD Γ hm 400 (by kernel_rfl) ?_); (conv => whnf); repeat ((first | refine aF ?_ | refine aT ?_); (first | refine run Γ hm 400 ?_ | refine runD Γ hm 400 (by kernel_rfl) ?_); conv => whnf))) | (refine call0 (rolesNilS) F14 rfl rfl rfl rfl rfl ?_; ((first | refine run Γ hm 400 ?_ | refine runD Γ hm 400 (by kernel_rfl) ?_); (conv => whnf); repeat ((first | refine aF ?_ | refine aT ?_); (first | refine run Γ hm 400 ?_ | refine runD Γ hm 400 (by kernel_rfl) ?_); conv => whnf))) | (refine callD0 (rolesNilS) F14 rfl rfl rfl (by kernel_rfl) rfl ?_; ((first | refine run Γ hm 400 ?_ | refine runD Γ hm 400 (by kernel_rfl) ?_); (conv => whnf); repeat ((first | refine aF ?_ | refine aT ?_); (first | refine run Γ hm 400 ?_ | refine runD Γ hm 400 (by kernel_rfl) ?_); conv => whnf)))))
  all_goals rfl
end Go.Sy.YthbgklhegccckaaGreat
