/-
  Contracts: the search for a way: its beginning. Contracts: the search for a way: the way back; hops reversed. Contracts: witness.Way.
-/
import Derived.Test.YtlfopmhekhifoaaGreatDoorC21
import Derived.Test.YtlfopmhekhifoaaGreatDoorC4
import Derived.Test.YtlfopmhekhifoaaGreatDoorC11

namespace Go.Sy.YtlfopmhekhifoaaGreatDoor
open Go.Proofs
-- SIMP: placeB

attribute [local irreducible] Go.Sy.G Go.Sy.DR
set_option maxRecDepth 20000
set_option maxHeartbeats 8000000

def begin1 (n : Net) (dev : Int) (S : Srch) (v : Int) : Srch := if v = 0 then S else meetT S (domainT n dev v) 0 ⟨0, 0, domainT n dev v, 0⟩ (-1)
def srch0 (n : Net) : Srch := ⟨List.replicate n.domains.length false, List.replicate n.domains.length false, []⟩
def beginL (n : Net) (dev : Int) (l : List Int) : Srch := l.foldl (begin1 n dev) (srch0 n)
def beginT (n : Net) (port : Int) : Srch := beginL n (nth n.ports port).dev ((nth n.ports port).native :: (nth n.ports port).tagged)

theorem beginL_succ (n : Net) (dev : Int) {l : List Int} {j : Nat} {v : Int} (hj : j < l.length) (hh : l[j] = v) : beginL n dev (l.take (j + 1)) = begin1 n dev (beginL n dev (l.take j)) v := by
  subst hh
  rw [beginL, List.take_add_one, List.getElem?_eq_getElem hj, List.foldl_append]
  rfl

theorem srch0_ok (n : Net) : (srch0 n).OK n := ⟨by simp [srch0], by simp [srch0], fun f hf => by simp [srch0] at hf, by simp [srch0]⟩

theorem beginL_ok {n : Net} {dev : Int} {l : List Int} (h : ∀ v ∈ l, v ≠ 0 → 0 ≤ domainT n dev v ∧ (domainT n dev v).toNat < n.domains.length) : (beginL n dev l).OK n := by
  suffices hs : ∀ (l : List Int) (S : Srch), S.OK n → (∀ v ∈ l, v ≠ 0 → 0 ≤ domainT n dev v ∧ (domainT n dev v).toNat < n.domains.length) → (l.foldl (begin1 n dev) S).OK n from hs l _ (srch0_ok n) h
  intro l
  induction l with
  | nil => exact fun S h _ => h
  | cons x l ih =>
    intro S hS hl
    refine ih _ ?_ (fun v hv => hl v (by simp [hv]))
    rw [begin1]
    split
    · exact hS
    · rename_i hx
      exact hS.meet (hl x (by simp) hx) (.inl rfl) _ _

theorem e_port_vlan {n : Net} (hb : netRightB n = true) {i : Nat} (hi : i < n.ports.length) {v : Int} (hv : v ∈ n.ports[i].native :: n.ports[i].tagged) (h0 : v ≠ 0) :
    0 ≤ domainT n n.ports[i].dev v ∧ (domainT n n.ports[i].dev v).toNat < n.domains.length := by
  rw [domainT, if_pos hb]
  refine e_member hb hi ?_
  simp only [memberB, Bool.and_eq_true, bne_iff_ne, Bool.or_eq_true, beq_iff_eq]
  refine ⟨h0, ?_⟩
  rcases List.mem_cons.1 hv with h | h
  · exact .inl h
  · exact .inr (List.any_eq_true.2 ⟨v, h, by simp⟩)

/-- A search's box, its tables not made yet. -/
abbrev srchI (n : Net) (a b c : SV) : Ob := .box [.sl 5 deviceSV n.devices, .sl 7 portSV n.ports, .sl 3 linkSV n.links, .sl 6 domainSV n.domains, .sl 4 staticSV n.statics, .sl 4 floodSV n.floods, .sl 5 vrfSV n.vrfs, .sl 5 irbSV n.irbs, a, b, c]
abbrev nilSV : SV := .val (.slice none 0 0)

def madeO (n : Net) : Nat → Obs
  | 0 => [(0, srchI n nilSV nilSV nilSV)]
  | 1 => [(0, srchI n (.osl 1001) nilSV nilSV), (1001, .row 1 boolSV (List.replicate n.domains.length false))]
  | _ => [(0, srchI n (.osl 1001) (.osl 1002) nilSV), (1001, .row 1 boolSV (List.replicate n.domains.length false)), (1002, .row 1 boolSV (List.replicate n.domains.length false))]

abbrev srchB (n : Net) (S : Srch) (vs : List Int) : Obs := [(0, srchI n (.osl 1001) (.osl 1002) (.osl 1003)), (1001, .row 1 boolSV S.m0), (1002, .row 1 boolSV S.m1), (1003, .row 7 fndSV S.list), (38, .row 1 intSV vs)]

theorem beginS (n : Net) (hn : n.Fin) (hb : netRightB n = true) (hD : n.domains.length < 1000000) (port : Int) (hp : 0 ≤ port ∧ port.toNat < n.ports.length) :
    Sy.Spec Tryz.prog 54 [.ptr 0 0, intSV port] [(0, srchI n nilSV nilSV nilSV)] (.tup []) (srchO n (beginT n port)) := contract Γ hm 100 F54 Tryz.ntmps54 rfl fun F hF => by
  have hlk := beginT.eq_1 n port
  rw [nth_eq hp.2] at hlk
  generalize beginT n port = res at *
  have hin := fun v hv h0 => e_port_vlan hb hp.2 (v := v) hv h0
  have hts := hn.tagged _ (List.getElem_mem hp.2)
  unfold Short at hts
  obtain ⟨p, hpp⟩ : ∃ p, n.ports[port.toNat]'hp.2 = p := ⟨_, rfl⟩
  rw [hpp] at hlk hin hts
  have hok : ∀ j, (beginL n p.dev ((p.native :: p.tagged).take j)).OK n := fun j => beginL_ok fun v hv h0 => hin v (List.mem_of_mem_take hv) h0
  have hsc := fun j v hj hh => beginL_succ n p.dev (l := p.native :: p.tagged) (j := j) (v := v) hj hh
  have hd := fun v => namesDomainS n hn p.dev v
  ((conv=>whnf);repeat((first|refine aF ?_|refine aT ?_);(first|refine rG Γ hm ?_|refine rD Γ hm (by kernel_rfl) ?_);conv=>whnf))
  refine ⟨rfl, hp.1, hp.2, ?_⟩
  rw [hpp]
  ((conv=>whnf);repeat((first|refine aF ?_|refine aT ?_);(first|refine rG Γ hm ?_|refine rD Γ hm (by kernel_rfl) ?_);conv=>whnf))
  refine G_box 4 7 (portSV p) rfl rfl rfl ?_
  refine G_countP 2 (fun _ => True) (fun j => [(0, .ptr 0 0), (4, .ref 7 (portSV p) 0), (17, intSV j)]) (fun j => madeO n j) [] trivial ⟨⟨rfl, rfl, rfl, rfl, rfl, rfl, trivial⟩, ⟨.inl rfl, rfl, trivial⟩, rfl, rfl⟩ ?_
  intro j hj _
  ((first|refine rG Γ hm ?_|refine rD Γ hm (by kernel_rfl) ?_);(conv=>whnf);repeat((first|refine aF ?_|refine aT ?_);(first|refine rG Γ hm ?_|refine rD Γ hm (by kernel_rfl) ?_);conv=>whnf))
  refine ⟨fun h => ?_, fun h => ?_⟩
  · have hlt : j < 2 := by have := of_decide_eq_true h; omega
    have hj01 : j = 0 ∨ j = 1 := by omega
    rcases hj01 with rfl | rfl
    · ((first|refine rG Γ hm ?_|refine rD Γ hm (by kernel_rfl) ?_);(conv=>whnf);repeat((first|refine aF ?_|refine aT ?_);(first|refine rG Γ hm ?_|refine rD Γ hm (by kernel_rfl) ?_);conv=>whnf))
      refine stepD (good_makeSlice Γ.toTy (d := 28) (n := n.domains.length) boolSV false rfl rfl rfl rfl rfl rfl rfl rfl (by omega) (by omega) rfl rfl rfl) (by kernel_rfl) rfl ?_
      ((first|refine rG Γ hm ?_|refine rD Γ hm (by kernel_rfl) ?_);(conv=>whnf);repeat((first|refine aF ?_|refine aT ?_);(first|refine rG Γ hm ?_|refine rD Γ hm (by kernel_rfl) ?_);conv=>whnf))
      refine ⟨by decide, by decide, ?_⟩
      ((conv=>whnf);repeat((first|refine aF ?_|refine aT ?_);(first|refine rG Γ hm ?_|refine rD Γ hm (by kernel_rfl) ?_);conv=>whnf))
      refine ⟨(by kernel_rfl), ?_⟩
      ((conv=>whnf);repeat((first|refine aF ?_|refine aT ?_);(first|refine rG Γ hm ?_|refine rD Γ hm (by kernel_rfl) ?_);conv=>whnf))
      refine ⟨by unfold I64; decide, ?_⟩
      ((conv=>whnf);repeat((first|refine aF ?_|refine aT ?_);(first|refine rG Γ hm ?_|refine rD Γ hm (by kernel_rfl) ?_);conv=>whnf))
      exact G_nextP [(1001, 28)] trivial (by decide) trivial ⟨⟨rfl, rfl, rfl, rfl, rfl, rfl, trivial⟩, ⟨.inl rfl, rfl, .inl rfl, rfl, trivial⟩, rfl, rfl⟩
    · ((first|refine rG Γ hm ?_|refine rD Γ hm (by kernel_rfl) ?_);(conv=>whnf);repeat((first|refine aF ?_|refine aT ?_);(first|refine rG Γ hm ?_|refine rD Γ hm (by kernel_rfl) ?_);conv=>whnf))
      refine stepD (good_makeSlice Γ.toTy (d := 28) (n := n.domains.length) boolSV false rfl rfl rfl rfl rfl rfl rfl rfl (by omega) (by omega) rfl rfl rfl) (by kernel_rfl) rfl ?_
      ((first|refine rG Γ hm ?_|refine rD Γ hm (by kernel_rfl) ?_);(conv=>whnf);repeat((first|refine aF ?_|refine aT ?_);(first|refine rG Γ hm ?_|refine rD Γ hm (by kernel_rfl) ?_);conv=>whnf))
      refine ⟨by decide, by decide, ?_⟩
      ((conv=>whnf);repeat((first|refine aF ?_|refine aT ?_);(first|refine rG Γ hm ?_|refine rD Γ hm (by kernel_rfl) ?_);conv=>whnf))
      refine ⟨(by kernel_rfl), ?_⟩
      ((conv=>whnf);repeat((first|refine aF ?_|refine aT ?_);(first|refine rG Γ hm ?_|refine rD Γ hm (by kernel_rfl) ?_);conv=>whnf))
      refine ⟨by unfold I64; decide, ?_⟩
      ((conv=>whnf);repeat((first|refine aF ?_|refine aT ?_);(first|refine rG Γ hm ?_|refine rD Γ hm (by kernel_rfl) ?_);conv=>whnf))
      exact G_nextP [(1002, 28)] trivial (by decide) trivial ⟨⟨rfl, rfl, rfl, rfl, rfl, rfl, trivial⟩, ⟨.inl rfl, rfl, .inl rfl, rfl, .inl rfl, rfl, trivial⟩, rfl, rfl⟩
  · have : j = 2 := by have := of_decide_eq_false h; omega
    subst this
    ((first|refine rG Γ hm ?_|refine rD Γ hm (by kernel_rfl) ?_);(conv=>whnf);repeat((first|refine aF ?_|refine aT ?_);(first|refine rG Γ hm ?_|refine rD Γ hm (by kernel_rfl) ?_);conv=>whnf))
    refine stepOp (good_appendT Γ.toTy 38 rfl rfl rfl rfl rfl (.lit (e := intSV) (l := [p.native]) rfl rfl) .sl (by decide) (by simp; omega) (by simp; omega)) rfl rfl ?_
    refine G_adoptB 0 10 1003 7 fndSV rfl rfl rfl rfl ?_
    ((first|refine rG Γ hm ?_|refine rD Γ hm (by kernel_rfl) ?_);(conv=>whnf);repeat((first|refine aF ?_|refine aT ?_);(first|refine rG Γ hm ?_|refine rD Γ hm (by kernel_rfl) ?_);conv=>whnf))
    generalize hvs : p.native :: p.tagged = vs at *
    have hvl : vs.length = p.tagged.length + 1 := by rw [← hvs]; rfl
    refine G_count vs.length (fun j => [(0, .ptr 0 0), (4, .ref 7 (portSV p) 0), (38, .osl 38), (39, intSV vs.length), (40, intSV j)]) (fun j => srchB n (beginL n p.dev (vs.take j)) vs) []
      ⟨⟨rfl, rfl, rfl, rfl, rfl, rfl, congrArg intSV (by rw [hvl]; rfl), rfl, rfl, rfl, trivial⟩, ⟨.inl rfl, rfl, .inl rfl, rfl, .inl rfl, rfl, .inl rfl, rfl, .inl (congrArg (Ob.row 1 intSV) hvs.symm), rfl, trivial⟩, rfl, rfl⟩ ?_
    intro j hj
    have okj := hok j
    have lej := okj.le
    have l0 := okj.l0
    have scj := hsc j
    generalize hSj : beginL n p.dev (vs.take j) = Sj at *
    ((first|refine rG Γ hm ?_|refine rD Γ hm (by kernel_rfl) ?_);(conv=>whnf);repeat((first|refine aF ?_|refine aT ?_);(first|refine rG Γ hm ?_|refine rD Γ hm (by kernel_rfl) ?_);conv=>whnf))
    refine ⟨fun h => ?_, fun h => ?_⟩
    · have hlt : j < vs.length := by simpa using h
      have hj0 : ((j : Nat) : Int).toNat < vs.length := by simpa using hlt
      obtain ⟨v, hv⟩ : ∃ v, vs[((j : Nat) : Int).toNat]'hj0 = v := ⟨_, rfl⟩
      have hmem : v ∈ vs := by rw [← hv]; exact List.getElem_mem _
      have sc := scj v hlt hv
      rw [begin1] at sc
      have hdv := hd v
      have hiv := hin v hmem
      generalize domainT n p.dev v = dm at *
      ((first|refine rG Γ hm ?_|refine rD Γ hm (by kernel_rfl) ?_);(conv=>whnf);repeat((first|refine aF ?_|refine aT ?_);(first|refine rG Γ hm ?_|refine rD Γ hm (by kernel_rfl) ?_);conv=>whnf))
      refine ⟨by omega, hj0, ?_⟩
      ((conv=>whnf);repeat((first|refine aF ?_|refine aT ?_);(first|refine rG Γ hm ?_|refine rD Γ hm (by kernel_rfl) ?_);conv=>whnf))
      refine ⟨rfl, hj0, ?_⟩
      rw [hv]
      ((conv=>whnf);repeat((first|refine aF ?_|refine aT ?_);(first|refine rG Γ hm ?_|refine rD Γ hm (by kernel_rfl) ?_);conv=>whnf))
      refine ⟨fun h => ?_, fun h => ?_⟩
      · have h0 : v ≠ 0 := by simpa using h
        rw [if_neg h0] at sc
        have q3 := meet0S n Sj dm ⟨0, 0, dm, 0⟩ (-1) (by rw [l0]; exact hiv h0) (by unfold Short; omega)
        rw [← sc] at q3
        ((first|refine rG Γ hm ?_|refine rD Γ hm (by kernel_rfl) ?_);(conv=>whnf);repeat((first|refine aF ?_|refine aT ?_);(first|refine rG Γ hm ?_|refine rD Γ hm (by kernel_rfl) ?_);conv=>whnf))
        refine callD0 hdv F96 rfl rfl rfl (by kernel_rfl) rfl ?_
        ((first|refine rG Γ hm ?_|refine rD Γ hm (by kernel_rfl) ?_);(conv=>whnf);repeat((first|refine aF ?_|refine aT ?_);(first|refine rG Γ hm ?_|refine rD Γ hm (by kernel_rfl) ?_);conv=>whnf))
        refine ⟨(by kernel_rfl), ?_⟩
        ((conv=>whnf);repeat((first|refine aF ?_|refine aT ?_);(first|refine rG Γ hm ?_|refine rD Γ hm (by kernel_rfl) ?_);conv=>whnf))
        refine stepOp (good_call [(0, 0), (1, 1001), (2, 1002), (3, 1003), (4, 1004)] rfl F97 q3 rfl ⟨rfl, rfl, rfl, rfl, trivial⟩ rfl ⟨.inl rfl, .inl rfl, .inl rfl, .inl rfl, .inr rfl, trivial⟩) rfl rfl ?_
        ((first|refine rG Γ hm ?_|refine rD Γ hm (by kernel_rfl) ?_);(conv=>whnf);repeat((first|refine aF ?_|refine aT ?_);(first|refine rG Γ hm ?_|refine rD Γ hm (by kernel_rfl) ?_);conv=>whnf))
        refine ⟨by unfold I64; omega, ?_⟩
        ((conv=>whnf);repeat((first|refine aF ?_|refine aT ?_);(first|refine rG Γ hm ?_|refine rD Γ hm (by kernel_rfl) ?_);conv=>whnf))
        exact G_next [(1003, 1004)] hlt ⟨⟨rfl, rfl, rfl, rfl, rfl, rfl, rfl, rfl, rfl, rfl, trivial⟩, ⟨.inl rfl, rfl, .inl rfl, rfl, .inl rfl, rfl, .inl rfl, rfl, .inl rfl, rfl, trivial⟩, rfl, rfl⟩
      · have h0 : v = 0 := by simpa using h
        rw [if_pos h0] at sc
        ((first|refine rG Γ hm ?_|refine rD Γ hm (by kernel_rfl) ?_);(conv=>whnf);repeat((first|refine aF ?_|refine aT ?_);(first|refine rG Γ hm ?_|refine rD Γ hm (by kernel_rfl) ?_);conv=>whnf))
        refine ⟨by unfold I64; omega, ?_⟩
        ((conv=>whnf);repeat((first|refine aF ?_|refine aT ?_);(first|refine rG Γ hm ?_|refine rD Γ hm (by kernel_rfl) ?_);conv=>whnf))
        exact G_next [] hlt ⟨⟨rfl, rfl, rfl, rfl, rfl, rfl, rfl, rfl, rfl, rfl, trivial⟩, ⟨.inl rfl, rfl, .inl (congrArg (fun S => Ob.row 1 boolSV (Srch.m0 S)) sc), rfl, .inl (congrArg (fun S => Ob.row 1 boolSV (Srch.m1 S)) sc), rfl, .inl (congrArg (fun S => Ob.row 7 fndSV (Srch.list S)) sc), rfl, .inl rfl, rfl, trivial⟩, rfl, rfl⟩
    · have : j = vs.length := by have := of_decide_eq_false h; omega
      subst this
      rw [List.take_length] at hSj
      rw [hSj] at hlk
      subst hlk
      ((first|refine rG Γ hm ?_|refine rD Γ hm (by kernel_rfl) ?_);(conv=>whnf);repeat((first|refine aF ?_|refine aT ?_);(first|refine rG Γ hm ?_|refine rD Γ hm (by kernel_rfl) ?_);conv=>whnf))
      exact done_end rfl .nil [(1, 1001), (2, 1002), (3, 1003)] (srchO n _) (fun _ h => h) rfl rfl ⟨trivial, ⟨.inl rfl, rfl, .inl rfl, rfl, .inl rfl, rfl, .inl rfl, rfl, trivial⟩, rfl, rfl⟩

end Go.Sy.YtlfopmhekhifoaaGreatDoor

namespace Go.Sy.YtlfopmhekhifoaaGreatDoor
open Go.Proofs
-- SIMP: placeB

attribute [local irreducible] Go.Sy.G Go.Sy.DR
set_option maxRecDepth 20000
set_option maxHeartbeats 8000000

theorem reverseHopS (D : List Hop) (hl : D.length < 4294967296) : Sy.Spec Tryz.prog 98 [.osl 0] [(0, .row 4 hopSV D)] (.tup []) [(0, .row 4 hopSV D.reverse)] := contract Γ hm 100 F98 Tryz.ntmps98 rfl fun F hF => by
  ((conv=>whnf);repeat((first|refine aF ?_|refine aT ?_);(first|refine rG Γ hm ?_|refine rD Γ hm (by kernel_rfl) ?_);conv=>whnf))
  refine ⟨by unfold I64; omega, ?_⟩
  ((conv=>whnf);repeat((first|refine aF ?_|refine aT ?_);(first|refine rG Γ hm ?_|refine rD Γ hm (by kernel_rfl) ?_);conv=>whnf))
  refine G_count (D.length / 2) (fun j => [(0, .osl 0), (2, intSV j), (3, intSV ((D.length : Int) - 1 - j))]) (fun j => [(0, .row 4 hopSV (revU D j))]) []
    ⟨⟨rfl, rfl, rfl, rfl, congrArg (fun z => SV.val (.int .i64 z)) (by omega), rfl, trivial⟩, ⟨.inl (congrArg (Ob.row 4 hopSV) (revU_zero D)), rfl, trivial⟩, rfl, rfl⟩ ?_
  intro i hi
  have hul := revU_length D i
  ((first|refine rG Γ hm ?_|refine rD Γ hm (by kernel_rfl) ?_);(conv=>whnf);repeat((first|refine aF ?_|refine aT ?_);(first|refine rG Γ hm ?_|refine rD Γ hm (by kernel_rfl) ?_);conv=>whnf))
  refine ⟨fun h2 => ?_, fun h2 => ?_⟩
  · have hlt : 2 * i + 1 < D.length := by have := of_decide_eq_true h2; omega
    obtain ⟨u, hu⟩ : ∃ u, revU D i = u := ⟨_, rfl⟩
    obtain ⟨k, hk⟩ : ∃ k, D.length - 1 - i = k := ⟨_, rfl⟩
    have hk2 : (D.length : Int) - 1 - i = (k : Nat) := by omega
    rw [hu] at hul
    have hs := revU_next hu hlt hk (by omega) (by omega)
    rw [hu, hk2]
    ((first|refine rG Γ hm ?_|refine rD Γ hm (by kernel_rfl) ?_);(conv=>whnf);repeat((first|refine aF ?_|refine aT ?_);(first|refine rG Γ hm ?_|refine rD Γ hm (by kernel_rfl) ?_);conv=>whnf))
    refine ⟨by omega, by omega, ?_⟩
    ((conv=>whnf);repeat((first|refine aF ?_|refine aT ?_);(first|refine rG Γ hm ?_|refine rD Γ hm (by kernel_rfl) ?_);conv=>whnf))
    refine ⟨rfl, by omega, ?_⟩
    ((conv=>whnf);repeat((first|refine aF ?_|refine aT ?_);(first|refine rG Γ hm ?_|refine rD Γ hm (by kernel_rfl) ?_);conv=>whnf))
    refine ⟨by omega, by omega, ?_⟩
    ((conv=>whnf);repeat((first|refine aF ?_|refine aT ?_);(first|refine rG Γ hm ?_|refine rD Γ hm (by kernel_rfl) ?_);conv=>whnf))
    refine ⟨rfl, by omega, ?_⟩
    ((conv=>whnf);repeat((first|refine aF ?_|refine aT ?_);(first|refine rG Γ hm ?_|refine rD Γ hm (by kernel_rfl) ?_);conv=>whnf))
    refine ⟨by omega, by omega, ?_⟩
    ((conv=>whnf);repeat((first|refine aF ?_|refine aT ?_);(first|refine rG Γ hm ?_|refine rD Γ hm (by kernel_rfl) ?_);conv=>whnf))
    refine ⟨rfl, by omega, u[k], rfl, rfl, ?_⟩
    ((conv=>whnf);repeat((first|refine aF ?_|refine aT ?_);(first|refine rG Γ hm ?_|refine rD Γ hm (by kernel_rfl) ?_);conv=>whnf))
    refine ⟨by omega, by simp; omega, ?_⟩
    ((conv=>whnf);repeat((first|refine aF ?_|refine aT ?_);(first|refine rG Γ hm ?_|refine rD Γ hm (by kernel_rfl) ?_);conv=>whnf))
    refine ⟨rfl, by simp; omega, u[i], rfl, rfl, ?_⟩
    ((conv=>whnf);repeat((first|refine aF ?_|refine aT ?_);(first|refine rG Γ hm ?_|refine rD Γ hm (by kernel_rfl) ?_);conv=>whnf))
    refine ⟨(by kernel_rfl), ?_⟩
    ((conv=>whnf);repeat((first|refine aF ?_|refine aT ?_);(first|refine rG Γ hm ?_|refine rD Γ hm (by kernel_rfl) ?_);conv=>whnf))
    refine ⟨by unfold I64; omega, ?_⟩
    ((conv=>whnf);repeat((first|refine aF ?_|refine aT ?_);(first|refine rG Γ hm ?_|refine rD Γ hm (by kernel_rfl) ?_);conv=>whnf))
    refine ⟨by unfold I64; omega, ?_⟩
    ((conv=>whnf);repeat((first|refine aF ?_|refine aT ?_);(first|refine rG Γ hm ?_|refine rD Γ hm (by kernel_rfl) ?_);conv=>whnf))
    refine G_next [] (by omega) ⟨⟨rfl, rfl, rfl, rfl, congrArg (fun z => SV.val (.int .i64 z)) (by omega), rfl, trivial⟩, ⟨.inl (congrArg (Ob.row 4 hopSV) hs.symm), rfl, trivial⟩, rfl, rfl⟩
  · have h3 : D.length ≤ 2 * i + 1 := by have := of_decide_eq_false h2; omega
    rw [revU_end D i h3]
    ((first|refine rG Γ hm ?_|refine rD Γ hm (by kernel_rfl) ?_);(conv=>whnf);repeat((first|refine aF ?_|refine aT ?_);(first|refine rG Γ hm ?_|refine rD Γ hm (by kernel_rfl) ?_);conv=>whnf))
    exact done_end rfl .nil [] [(0, .row 4 hopSV D.reverse)] (fun _ h => h) rfl rfl ⟨trivial, ⟨.inl rfl, rfl, trivial⟩, rfl, rfl⟩

/-- The hops that led to what was found, the last one first. -/
def backC (l : List Fnd) (i : Int) : List Hop :=
  if h : 0 ≤ i ∧ (nth l i).ahead < i then (nth l i).hop :: backC l (nth l i).ahead else []
  termination_by (i + 1).toNat
  decreasing_by omega

def backT (l : List Fnd) (i : Int) : List Hop := (backC l i).reverse

/-- Each is found from one that was found ahead of it, or is a first one. -/
def Backs (l : List Fnd) : Prop := ∀ i (h : i < l.length), -1 ≤ l[i].ahead ∧ l[i].ahead < i

theorem Backs.snoc {l : List Fnd} (h : Backs l) {f : Fnd} (hf : -1 ≤ f.ahead ∧ f.ahead < l.length) : Backs (l ++ [f]) := fun i hi => by
  by_cases hl : i < l.length
  · rw [List.getElem_append_left hl]
    exact h i hl
  · have : i = l.length := by simp at hi; omega
    subst this
    simpa using hf

theorem Backs.meet {S : Srch} (h : Backs S.list) (d k : Int) (hp : Hop) {a : Int} (ha : -1 ≤ a ∧ a < S.list.length) : Backs (meetT S d k hp a).list ∧ S.list.length ≤ (meetT S d k hp a).list.length := by
  rw [meetT]
  split
  · exact ⟨h, Nat.le_refl _⟩
  · rw [meetN]
    split
    · exact ⟨h.snoc ha, by simp⟩
    · exact ⟨h.snoc ha, by simp⟩

theorem Backs.ext1 {k i : Int} : ∀ {l : List Hop} {S : Srch}, Backs S.list → (-1 ≤ i ∧ i < S.list.length) → Backs (ext1 S k i l).list ∧ S.list.length ≤ (ext1 S k i l).list.length
  | [], S, h, _ => ⟨h, Nat.le_refl _⟩
  | x :: l, S, h, hi => by
    obtain ⟨h1, h2⟩ := h.meet x.domain k x hi
    obtain ⟨h3, h4⟩ := Backs.ext1 (k := k) (i := i) (l := l) h1 ⟨hi.1, by omega⟩
    exact ⟨h3, Nat.le_trans h2 h4⟩
theorem Backs.ext2 {i : Int} : ∀ {l : List Lead} {S : Srch}, Backs S.list → (-1 ≤ i ∧ i < S.list.length) → Backs (ext2 S i l).list ∧ S.list.length ≤ (ext2 S i l).list.length
  | [], S, h, _ => ⟨h, Nat.le_refl _⟩
  | x :: l, S, h, hi => by
    obtain ⟨h1, h2⟩ := h.meet x.domain 1 ⟨3, 0, x.domain, x.addr⟩ hi
    obtain ⟨h3, h4⟩ := Backs.ext2 (i := i) (l := l) h1 ⟨hi.1, by omega⟩
    exact ⟨h3, Nat.le_trans h2 h4⟩

theorem Backs.ext {n : Net} {S : Srch} (h : Backs S.list) {i : Int} (hi : 0 ≤ i ∧ i < S.list.length) : Backs (extT n S i).list ∧ S.list.length ≤ (extT n S i).list.length := by
  rw [extT]
  split
  · obtain ⟨h1, h2⟩ := h.ext1 (k := 0) (i := i) (l := hopsT n (nth S.list i).domain) ⟨by omega, hi.2⟩
    obtain ⟨h3, h4⟩ := h1.ext2 (i := i) (l := routesT n (nth S.list i).domain) ⟨by omega, by omega⟩
    exact ⟨h3, Nat.le_trans h2 h4⟩
  · exact h.ext1 ⟨by omega, hi.2⟩

theorem beginL_backs (n : Net) (dev : Int) (l : List Int) : Backs (beginL n dev l).list := by
  suffices hs : ∀ (l : List Int) (S : Srch), Backs S.list → Backs (l.foldl (begin1 n dev) S).list from hs l _ (fun i h => by simp [srch0] at h)
  intro l
  induction l with
  | nil => exact fun S h => h
  | cons x l ih =>
    intro S hS
    refine ih _ ?_
    rw [begin1]
    split
    · exact hS
    · exact (hS.meet _ _ _ ⟨by omega, by omega⟩).1

/-- A search, and a row of hops. -/
abbrev srchA (n : Net) (S : Srch) (l : List Hop) : Obs := [(0, srchI n (.osl 1) (.osl 2) (.osl 3)), (1, .row 1 boolSV S.m0), (2, .row 1 boolSV S.m1), (3, .row 7 fndSV S.list), (1000, .row 4 hopSV l)]

theorem backS (n : Net) (S : Srch) (hB : Backs S.list) (hl : S.list.length < 4000000) (i : Int) (hi : -1 ≤ i ∧ i < S.list.length) :
    Sy.Spec Tryz.prog 57 [.ptr 0 0, intSV i] (srchO n S) (.sl 4 hopSV (backT S.list i)) (srchO n S) := contract Γ hm 100 F57 Tryz.ntmps57 rfl fun F hF => by
  have hlk := backT.eq_1 S.list i
  generalize backT S.list i = res at *
  ((conv=>whnf);repeat((first|refine aF ?_|refine aT ?_);(first|refine rG Γ hm ?_|refine rD Γ hm (by kernel_rfl) ?_);conv=>whnf))
  refine G_adopt 5 1000 4 hopSV rfl rfl ?_
  refine G_while (fun x : Int × List Hop => (-1 ≤ x.1 ∧ x.1 < S.list.length) ∧ x.2.length + (x.1 + 1).toNat ≤ S.list.length ∧ x.2 ++ backC S.list x.1 = backC S.list i)
    (fun x => [(0, .ptr 0 0), (1, intSV x.1), (5, .osl 1000)]) (fun x => srchA n S x.2) (fun x => (x.1 + 1).toNat) (i, []) [] ⟨hi, by simp; omega, rfl⟩
    ⟨⟨rfl, rfl, rfl, rfl, rfl, rfl, trivial⟩, ⟨.inl rfl, rfl, .inl rfl, rfl, .inl rfl, rfl, .inl rfl, rfl, .inl rfl, rfl, trivial⟩, rfl, rfl⟩ ?_
  rintro ⟨z, acc⟩ ⟨hz, hal, hacc⟩
  dsimp only at hz hal hacc
  ((first|refine rG Γ hm ?_|refine rD Γ hm (by kernel_rfl) ?_);(conv=>whnf);repeat((first|refine aF ?_|refine aT ?_);(first|refine rG Γ hm ?_|refine rD Γ hm (by kernel_rfl) ?_);conv=>whnf))
  refine ⟨fun h => ?_, fun h => ?_⟩
  · have h0 : 0 ≤ z := of_decide_eq_true h
    have hk : z.toNat < S.list.length := by omega
    have hb := hB z.toNat hk
    rw [backC, nth_eq hk] at hacc
    obtain ⟨f, hf⟩ : ∃ f, S.list[z.toNat]'hk = f := ⟨_, rfl⟩
    rw [hf] at hacc hb
    rw [dif_pos ⟨h0, by omega⟩] at hacc
    ((first|refine rG Γ hm ?_|refine rD Γ hm (by kernel_rfl) ?_);(conv=>whnf);repeat((first|refine aF ?_|refine aT ?_);(first|refine rG Γ hm ?_|refine rD Γ hm (by kernel_rfl) ?_);conv=>whnf))
    refine ⟨h0, hk, ?_⟩
    ((conv=>whnf);repeat((first|refine aF ?_|refine aT ?_);(first|refine rG Γ hm ?_|refine rD Γ hm (by kernel_rfl) ?_);conv=>whnf))
    refine ⟨by intro e; rw [e] at hk; simp at hk, ?_⟩
    ((conv=>whnf);repeat((first|refine aF ?_|refine aT ?_);(first|refine rG Γ hm ?_|refine rD Γ hm (by kernel_rfl) ?_);conv=>whnf))
    refine ⟨rfl, hk, ?_⟩
    rw [hf]
    ((conv=>whnf);repeat((first|refine aF ?_|refine aT ?_);(first|refine rG Γ hm ?_|refine rD Γ hm (by kernel_rfl) ?_);conv=>whnf))
    refine stepOp (good_appendT Γ.toTy 26 rfl rfl rfl rfl rfl (.row rfl) (.lit (e := hopSV) (l := [f.hop]) rfl rfl) (by simp) (by simp; omega) (by simp; omega)) rfl rfl ?_
    ((first|refine rG Γ hm ?_|refine rD Γ hm (by kernel_rfl) ?_);(conv=>whnf);repeat((first|refine aF ?_|refine aT ?_);(first|refine rG Γ hm ?_|refine rD Γ hm (by kernel_rfl) ?_);conv=>whnf))
    refine ⟨h0, hk, ?_⟩
    ((conv=>whnf);repeat((first|refine aF ?_|refine aT ?_);(first|refine rG Γ hm ?_|refine rD Γ hm (by kernel_rfl) ?_);conv=>whnf))
    refine ⟨by intro e; rw [e] at hk; simp at hk, ?_⟩
    ((conv=>whnf);repeat((first|refine aF ?_|refine aT ?_);(first|refine rG Γ hm ?_|refine rD Γ hm (by kernel_rfl) ?_);conv=>whnf))
    refine ⟨rfl, hk, ?_⟩
    rw [hf]
    ((conv=>whnf);repeat((first|refine aF ?_|refine aT ?_);(first|refine rG Γ hm ?_|refine rD Γ hm (by kernel_rfl) ?_);conv=>whnf))
    exact G_whileN (f.ahead, acc ++ [f.hop]) [(1000, 26)] ⟨⟨hb.1, by omega⟩, by simp; omega, by rw [List.append_assoc]; exact hacc⟩ (by simp only; omega)
      ⟨⟨rfl, rfl, rfl, rfl, rfl, rfl, trivial⟩, ⟨.inl rfl, rfl, .inl rfl, rfl, .inl rfl, rfl, .inl rfl, rfl, .inl rfl, rfl, trivial⟩, rfl, rfl⟩
  · have h0 : ¬ 0 ≤ z := of_decide_eq_false h
    rw [backC, dif_neg (fun e => h0 e.1), List.append_nil] at hacc
    have q := reverseHopS acc (by omega)
    rw [← hacc] at hlk
    ((first|refine rG Γ hm ?_|refine rD Γ hm (by kernel_rfl) ?_);(conv=>whnf);repeat((first|refine aF ?_|refine aT ?_);(first|refine rG Γ hm ?_|refine rD Γ hm (by kernel_rfl) ?_);conv=>whnf))
    refine stepOp (good_call [(0, 1000)] rfl F98 q rfl ⟨rfl, trivial⟩ rfl ⟨.inl rfl, trivial⟩) rfl rfl ?_
    refine G_data 1000 rfl ?_
    rw [← hlk]
    ((first|refine rG Γ hm ?_|refine rD Γ hm (by kernel_rfl) ?_);(conv=>whnf);repeat((first|refine aF ?_|refine aT ?_);(first|refine rG Γ hm ?_|refine rD Γ hm (by kernel_rfl) ?_);conv=>whnf))
    exact done rfl (.cons .tmp .nil) [] (srchO n S) (fun _ h => h) rfl rfl ⟨trivial, ⟨.inl rfl, rfl, .inl rfl, rfl, .inl rfl, rfl, .inl rfl, rfl, trivial⟩, rfl, rfl⟩

end Go.Sy.YtlfopmhekhifoaaGreatDoor

namespace Go.Sy.YtlfopmhekhifoaaGreatDoor
open Go.Proofs
-- SIMP: placeB

attribute [local irreducible] Go.Sy.G Go.Sy.DR
set_option maxRecDepth 20000
set_option maxHeartbeats 8000000

def searchT (n : Net) (to : Int) : Nat → Srch → Nat → List Hop × Bool
  | 0, _, _ => ([], false)
  | k + 1, S, i => if i < S.list.length then (if inB (membersT n (nth S.list i).domain) to = true then (backT S.list i, true) else searchT n to k (extT n S i) (i + 1)) else ([], false)

def wayT (n : Net) (from_ to : Int) : List Hop × Bool :=
  if hostP n from_ = true ∧ hostP n to = true ∧ from_ ≠ to ∧ netRightB n = true then searchT n to (2 * n.domains.length + 1) (beginT n from_) 0 else ([], false)

abbrev srchW (n : Net) (S : Srch) : Obs := [(32, srchI n (.osl 1001) (.osl 1002) (.osl 1003)), (1001, .row 1 boolSV S.m0), (1002, .row 1 boolSV S.m1), (1003, .row 7 fndSV S.list)]

theorem hostP_in {n : Net} {i : Int} (h : hostP n i = true) : 0 ≤ i ∧ i.toNat < n.ports.length := by
  simp only [hostP, Bool.and_eq_true, decide_eq_true_eq] at h
  omega

theorem wayS (n : Net) (hn : n.Fin) (hu : Addrs n) (from_ to : Int) : Sy.Spec Tryz.prog 16 [netSV n, intSV from_, intSV to] [] (.tup [.sl 4 hopSV (wayT n from_ to).1, boolSV (wayT n from_ to).2]) [] := contract Γ hm 100 F16 Tryz.ntmps16 rfl fun F hF => by
  have hlk := wayT.eq_1 n from_ to
  generalize wayT n from_ to = res at *
  have hr := namesRightS n hn
  have h1 := witHostS n from_
  have h2 := witHostS n to
  ((conv=>whnf);repeat((first|refine aF ?_|refine aT ?_);(first|refine rG Γ hm ?_|refine rD Γ hm (by kernel_rfl) ?_);conv=>whnf))
  refine G_box 3 8 (netSV n) rfl rfl rfl ?_
  ((first|refine rG Γ hm ?_|refine rD Γ hm (by kernel_rfl) ?_);(conv=>whnf);repeat((first|refine aF ?_|refine aT ?_);(first|refine rG Γ hm ?_|refine rD Γ hm (by kernel_rfl) ?_);conv=>whnf))
  refine call0 h1 F53 rfl rfl rfl rfl rfl ?_
  cases hf : hostP n from_
  · rw [if_neg (by simp [hf])] at hlk
    subst hlk
    ((first|refine rG Γ hm ?_|refine rD Γ hm (by kernel_rfl) ?_);(conv=>whnf);repeat((first|refine aF ?_|refine aT ?_);(first|refine rG Γ hm ?_|refine rD Γ hm (by kernel_rfl) ?_);conv=>whnf))
    refine G_nilsl 6 4 hopSV rfl ?_
    ((first|refine rG Γ hm ?_|refine rD Γ hm (by kernel_rfl) ?_);(conv=>whnf);repeat((first|refine aF ?_|refine aT ?_);(first|refine rG Γ hm ?_|refine rD Γ hm (by kernel_rfl) ?_);conv=>whnf))
    exact done0 rfl (.cons .tmp (.cons .tmp .nil)) rfl rfl
  ((first|refine rG Γ hm ?_|refine rD Γ hm (by kernel_rfl) ?_);(conv=>whnf);repeat((first|refine aF ?_|refine aT ?_);(first|refine rG Γ hm ?_|refine rD Γ hm (by kernel_rfl) ?_);conv=>whnf))
  refine call0 h2 F53 rfl rfl rfl rfl rfl ?_
  cases ht : hostP n to
  · rw [if_neg (by simp [ht])] at hlk
    subst hlk
    ((first|refine rG Γ hm ?_|refine rD Γ hm (by kernel_rfl) ?_);(conv=>whnf);repeat((first|refine aF ?_|refine aT ?_);(first|refine rG Γ hm ?_|refine rD Γ hm (by kernel_rfl) ?_);conv=>whnf))
    refine G_nilsl 6 4 hopSV rfl ?_
    ((first|refine rG Γ hm ?_|refine rD Γ hm (by kernel_rfl) ?_);(conv=>whnf);repeat((first|refine aF ?_|refine aT ?_);(first|refine rG Γ hm ?_|refine rD Γ hm (by kernel_rfl) ?_);conv=>whnf))
    exact done0 rfl (.cons .tmp (.cons .tmp .nil)) rfl rfl
  ((first|refine rG Γ hm ?_|refine rD Γ hm (by kernel_rfl) ?_);(conv=>whnf);repeat((first|refine aF ?_|refine aT ?_);(first|refine rG Γ hm ?_|refine rD Γ hm (by kernel_rfl) ?_);conv=>whnf))
  refine ⟨fun h => ?_, fun h => ?_⟩
  · rw [if_neg (by have : from_ = to := by simpa using h
                   simp [this])] at hlk
    subst hlk
    ((first|refine rG Γ hm ?_|refine rD Γ hm (by kernel_rfl) ?_);(conv=>whnf);repeat((first|refine aF ?_|refine aT ?_);(first|refine rG Γ hm ?_|refine rD Γ hm (by kernel_rfl) ?_);conv=>whnf))
    refine G_nilsl 6 4 hopSV rfl ?_
    ((first|refine rG Γ hm ?_|refine rD Γ hm (by kernel_rfl) ?_);(conv=>whnf);repeat((first|refine aF ?_|refine aT ?_);(first|refine rG Γ hm ?_|refine rD Γ hm (by kernel_rfl) ?_);conv=>whnf))
    exact done0 rfl (.cons .tmp (.cons .tmp .nil)) rfl rfl
  have hne : from_ ≠ to := by simpa using h
  ((first|refine rG Γ hm ?_|refine rD Γ hm (by kernel_rfl) ?_);(conv=>whnf);repeat((first|refine aF ?_|refine aT ?_);(first|refine rG Γ hm ?_|refine rD Γ hm (by kernel_rfl) ?_);conv=>whnf))
  refine call0 hr F15 rfl rfl rfl rfl rfl ?_
  cases hb : netRightB n
  · rw [if_neg (by simp [hb])] at hlk
    subst hlk
    ((first|refine rG Γ hm ?_|refine rD Γ hm (by kernel_rfl) ?_);(conv=>whnf);repeat((first|refine aF ?_|refine aT ?_);(first|refine rG Γ hm ?_|refine rD Γ hm (by kernel_rfl) ?_);conv=>whnf))
    refine G_nilsl 6 4 hopSV rfl ?_
    ((first|refine rG Γ hm ?_|refine rD Γ hm (by kernel_rfl) ?_);(conv=>whnf);repeat((first|refine aF ?_|refine aT ?_);(first|refine rG Γ hm ?_|refine rD Γ hm (by kernel_rfl) ?_);conv=>whnf))
    exact done0 rfl (.cons .tmp (.cons .tmp .nil)) rfl rfl
  rw [if_pos ⟨hf, ht, hne, hb⟩] at hlk
  have hD : n.domains.length < 1000000 := by have := (e_few hb).2.2.2.1; omega
  have hp := hostP_in hf
  have q0 := beginS n hn hb hD from_ hp
  have ok0 : (beginT n from_).OK n := by
    rw [beginT, nth_eq hp.2]
    exact beginL_ok fun v hv h0 => e_port_vlan hb hp.2 hv h0
  have bk0 : Backs (beginT n from_).list := by rw [beginT]; exact beginL_backs _ _ _
  generalize beginT n from_ = S0 at *
  ((first|refine rG Γ hm ?_|refine rD Γ hm (by kernel_rfl) ?_);(conv=>whnf);repeat((first|refine aF ?_|refine aT ?_);(first|refine rG Γ hm ?_|refine rD Γ hm (by kernel_rfl) ?_);conv=>whnf))
  refine stepOp (good_call [(0, 32), (1, 1001), (2, 1002), (3, 1003)] rfl F54 q0 rfl ⟨rfl, trivial⟩ rfl ⟨.inl rfl, .inr rfl, .inr rfl, .inr rfl, trivial⟩) rfl rfl ?_
  ((first|refine rG Γ hm ?_|refine rD Γ hm (by kernel_rfl) ?_);(conv=>whnf);repeat((first|refine aF ?_|refine aT ?_);(first|refine rG Γ hm ?_|refine rD Γ hm (by kernel_rfl) ?_);conv=>whnf))
  refine G_while (fun x : Srch × Nat => x.1.OK n ∧ Backs x.1.list ∧ x.2 ≤ x.1.list.length ∧ res = searchT n to (2 * n.domains.length + 1 - x.2) x.1 x.2)
    (fun x => [(2, intSV to), (3, .ref 8 (netSV n) 0), (8, .ptr 32 0), (9, intSV x.2)]) (fun x => srchW n x.1) (fun x => 2 * n.domains.length + 1 - x.2) (S0, 0) [] ⟨ok0, bk0, Nat.zero_le _, hlk⟩
    ⟨⟨rfl, rfl, rfl, rfl, rfl, rfl, rfl, rfl, trivial⟩, ⟨.inl rfl, rfl, .inl rfl, rfl, .inl rfl, rfl, .inl rfl, rfl, trivial⟩, rfl, rfl⟩ ?_
  clear hlk ok0 bk0 q0
  rintro ⟨S, i⟩ ⟨ok, bk, hi, hlk⟩
  dsimp only at ok bk hi hlk ⊢
  have hle := ok.le
  obtain ⟨fuel, hfu⟩ : ∃ k, 2 * n.domains.length + 1 - i = k + 1 := ⟨2 * n.domains.length - i, by omega⟩
  rw [hfu, searchT] at hlk
  ((first|refine rG Γ hm ?_|refine rD Γ hm (by kernel_rfl) ?_);(conv=>whnf);repeat((first|refine aF ?_|refine aT ?_);(first|refine rG Γ hm ?_|refine rD Γ hm (by kernel_rfl) ?_);conv=>whnf))
  refine ⟨fun h => ?_, fun h => ?_⟩
  · have hlt : i < S.list.length := by have := of_decide_eq_true h; omega
    have hi0 : ((i : Nat) : Int).toNat < S.list.length := by simpa using hlt
    rw [if_pos hlt, nth_eq hi0] at hlk
    obtain ⟨f, hf2⟩ : ∃ f, S.list[((i : Nat) : Int).toNat]'hi0 = f := ⟨_, rfl⟩
    rw [hf2] at hlk
    have q1 := namesMembersS n hn f.domain
    have q2 := containsS (membersT n f.domain) to (membersT_short n hn f.domain)
    generalize membersT n f.domain = mem at *
    ((first|refine rG Γ hm ?_|refine rD Γ hm (by kernel_rfl) ?_);(conv=>whnf);repeat((first|refine aF ?_|refine aT ?_);(first|refine rG Γ hm ?_|refine rD Γ hm (by kernel_rfl) ?_);conv=>whnf))
    refine ⟨by omega, hi0, ?_⟩
    ((conv=>whnf);repeat((first|refine aF ?_|refine aT ?_);(first|refine rG Γ hm ?_|refine rD Γ hm (by kernel_rfl) ?_);conv=>whnf))
    refine ⟨by intro e; rw [e] at hlt; simp at hlt, ?_⟩
    ((conv=>whnf);repeat((first|refine aF ?_|refine aT ?_);(first|refine rG Γ hm ?_|refine rD Γ hm (by kernel_rfl) ?_);conv=>whnf))
    refine ⟨by intro e; rw [e] at hlt; simp at hlt, ?_⟩
    ((conv=>whnf);repeat((first|refine aF ?_|refine aT ?_);(first|refine rG Γ hm ?_|refine rD Γ hm (by kernel_rfl) ?_);conv=>whnf))
    refine ⟨rfl, hi0, ?_⟩
    rw [hf2]
    ((conv=>whnf);repeat((first|refine aF ?_|refine aT ?_);(first|refine rG Γ hm ?_|refine rD Γ hm (by kernel_rfl) ?_);conv=>whnf))
    refine callD0 q1 F56 rfl rfl rfl (by kernel_rfl) rfl ?_
    ((first|refine rG Γ hm ?_|refine rD Γ hm (by kernel_rfl) ?_);(conv=>whnf);repeat((first|refine aF ?_|refine aT ?_);(first|refine rG Γ hm ?_|refine rD Γ hm (by kernel_rfl) ?_);conv=>whnf))
    refine callD0 q2 F55 rfl rfl rfl (by kernel_rfl) rfl ?_
    ((first|refine rG Γ hm ?_|refine rD Γ hm (by kernel_rfl) ?_);(conv=>whnf);repeat((first|refine aF ?_|refine aT ?_);(first|refine rG Γ hm ?_|refine rD Γ hm (by kernel_rfl) ?_);conv=>whnf))
    refine ⟨(by kernel_rfl), ?_⟩
    ((conv=>whnf);repeat((first|refine aF ?_|refine aT ?_);(first|refine rG Γ hm ?_|refine rD Γ hm (by kernel_rfl) ?_);conv=>whnf))
    generalize inB mem to = bm at *
    cases bm
    · refine aF ?_
      rw [if_neg (by simp)] at hlk
      have q3 := extendS n hn hu hD S ok i ⟨by omega, hi0⟩
      have ok' := ok.ext i
      have bk' := bk.ext (n := n) (i := i) ⟨by omega, by omega⟩
      generalize extT n S i = S' at *
      ((first|refine rG Γ hm ?_|refine rD Γ hm (by kernel_rfl) ?_);(conv=>whnf);repeat((first|refine aF ?_|refine aT ?_);(first|refine rG Γ hm ?_|refine rD Γ hm (by kernel_rfl) ?_);conv=>whnf))
      refine stepOp (good_call [(0, 32), (1, 1001), (2, 1002), (3, 1003), (4, 1004)] rfl F58 q3 rfl ⟨rfl, rfl, rfl, rfl, trivial⟩ rfl ⟨.inl rfl, .inl rfl, .inl rfl, .inl rfl, .inr rfl, trivial⟩) rfl rfl ?_
      ((first|refine rG Γ hm ?_|refine rD Γ hm (by kernel_rfl) ?_);(conv=>whnf);repeat((first|refine aF ?_|refine aT ?_);(first|refine rG Γ hm ?_|refine rD Γ hm (by kernel_rfl) ?_);conv=>whnf))
      refine ⟨by unfold I64; omega, ?_⟩
      ((conv=>whnf);repeat((first|refine aF ?_|refine aT ?_);(first|refine rG Γ hm ?_|refine rD Γ hm (by kernel_rfl) ?_);conv=>whnf))
      exact G_whileN (S', i + 1) [(1003, 1004)] ⟨ok', bk'.1, by simp only; omega, by simp only; rw [show 2 * n.domains.length + 1 - (i + 1) = fuel by omega]; exact hlk⟩ (by simp only; omega)
        ⟨⟨rfl, rfl, rfl, rfl, rfl, rfl, rfl, rfl, trivial⟩, ⟨.inl rfl, rfl, .inl rfl, rfl, .inl rfl, rfl, .inl rfl, rfl, trivial⟩, rfl, rfl⟩
    · refine aT ?_
      rw [if_pos rfl] at hlk
      subst hlk
      have q4 := backS n S bk (by omega) i ⟨by omega, by omega⟩
      generalize backT S.list i = w at *
      ((first|refine rG Γ hm ?_|refine rD Γ hm (by kernel_rfl) ?_);(conv=>whnf);repeat((first|refine aF ?_|refine aT ?_);(first|refine rG Γ hm ?_|refine rD Γ hm (by kernel_rfl) ?_);conv=>whnf))
      refine stepOp (good_call [(0, 32), (1, 1001), (2, 1002), (3, 1003)] rfl F57 q4 rfl ⟨rfl, rfl, rfl, rfl, trivial⟩ rfl ⟨.inl rfl, .inl rfl, .inl rfl, .inl rfl, trivial⟩) rfl rfl ?_
      ((first|refine rG Γ hm ?_|refine rD Γ hm (by kernel_rfl) ?_);(conv=>whnf);repeat((first|refine aF ?_|refine aT ?_);(first|refine rG Γ hm ?_|refine rD Γ hm (by kernel_rfl) ?_);conv=>whnf))
      exact done0 rfl (.cons .tmp (.cons .tmp .nil)) rfl rfl
  · have hlt : ¬ i < S.list.length := by have := of_decide_eq_false h; omega
    rw [if_neg hlt] at hlk
    subst hlk
    ((first|refine rG Γ hm ?_|refine rD Γ hm (by kernel_rfl) ?_);(conv=>whnf);repeat((first|refine aF ?_|refine aT ?_);(first|refine rG Γ hm ?_|refine rD Γ hm (by kernel_rfl) ?_);conv=>whnf))
    refine G_nilsl 6 4 hopSV rfl ?_
    ((first|refine rG Γ hm ?_|refine rD Γ hm (by kernel_rfl) ?_);(conv=>whnf);repeat((first|refine aF ?_|refine aT ?_);(first|refine rG Γ hm ?_|refine rD Γ hm (by kernel_rfl) ?_);conv=>whnf))
    exact done0 rfl (.cons .tmp (.cons .tmp .nil)) rfl rfl

end Go.Sy.YtlfopmhekhifoaaGreatDoor
