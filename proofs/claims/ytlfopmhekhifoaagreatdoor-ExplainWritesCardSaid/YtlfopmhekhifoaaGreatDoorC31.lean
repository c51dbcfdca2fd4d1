/-
  The document's way, walked.
-/
import Derived.Test.YtlfopmhekhifoaaGreatDoorC30
import Derived.Test.YtlfopmhekhifoaaGreatDoorC8

namespace Go.Sy.YtlfopmhekhifoaaGreatDoor
open Go.Proofs
-- SIMP: placeB

attribute [local irreducible] Go.Sy.G Go.Sy.DR
set_option maxRecDepth 20000
set_option maxHeartbeats 16000000

theorem more_begin {n : Net} {S : Srch} (hS : Met n S) (hD : n.domains.length < 100000) (hb : netRightB n = true) {dev v : Int} (hv : v ≠ 0) (hd : 0 ≤ domainT n dev v ∧ (domainT n dev v).toNat < n.domains.length) :
    Sy.Spec Tryz.prog 65 [.osl 0, waySV ⟨[], false⟩, hopSV ⟨0, 0, domI n dev v, 0⟩, boolSV false] [(0, .row 2 waySV (waysOf S.list))] (.osl 1) [(0, .non), (1, .row 2 waySV (waysOf (begin1 n dev S v).list))] := by
  have ho := waysOf_ok hS hD
  have e : domainT n dev v = domI n dev v := by rw [domainT, if_pos hb]
  rw [e] at hd
  have q := moreS (waysOf S.list) ⟨[], false⟩ ⟨0, 0, domI n dev v, 0⟩ false ho.1 ho.2.1 (by simp)
  rw [more_is hS (w := ⟨[], false⟩) (h := ⟨0, 0, domI n dev v, 0⟩) (r := false) (a := -1) hd ⟨by omega, by omega⟩ (backT_none _).symm] at q
  rw [begin1, if_neg hv, e]
  exact q

theorem more_ext {n : Net} {S : Srch} (hS : Met n S) (hD : n.domains.length < 100000) {l : List Fnd} {m : List Fnd} (hl : S.list = l ++ m) (hB : Backs l) {i : Nat} (hi : i < l.length) (h : Hop) (r : Bool) (rt : Bool) (hd : 0 ≤ h.domain ∧ h.domain.toNat < n.domains.length) :
    Sy.Spec Tryz.prog 65 [.osl 0, waySV ⟨backT l i, rt⟩, hopSV h, boolSV r] [(0, .row 2 waySV (waysOf S.list))] (.osl 1) [(0, .non), (1, .row 2 waySV (waysOf (meetT S h.domain (if r then 1 else 0) h i).list))] := by
  have ho := waysOf_ok hS hD
  have hlen : l.length ≤ S.list.length := by rw [hl, List.length_append]; omega
  have hbk : backT S.list i = backT l i := by rw [hl]; exact backT_append hB (by omega)
  have hb2 := ho.2.2 i (by omega)
  rw [hbk] at hb2
  have q := moreS (waysOf S.list) ⟨backT l i, rt⟩ h r ho.1 ho.2.1 hb2
  rw [more_is hS (w := ⟨backT l i, rt⟩) (h := h) (r := r) (a := i) hd ⟨by omega, by omega⟩ hbk.symm] at q
  exact q

theorem refWayS (n : Net) (hn : n.Fin) (hu : Addrs n) (hb : netRightB n = true) (from_ to : Int) : Sy.Spec Tryz.prog 20 [netSV n, intSV from_, intSV to] [] (.tup [.sl 4 hopSV (wayT n from_ to).1, boolSV (wayT n from_ to).2]) [] := contract Γ hm 100 F20 Tryz.ntmps20 rfl fun F hF => by
  have hlk := wayT.eq_1 n from_ to
  generalize wayT n from_ to = res at *
  have h1 := refHostPS n hb from_
  have h2 := refHostPS n hb to
  have hD : n.domains.length < 100000 := by have := (e_few hb).2.2.2.1; omega
  ((conv=>whnf);repeat((first|refine aF ?_|refine aT ?_);(first|refine rG Γ hm ?_|refine rD Γ hm (by kernel_rfl) ?_);conv=>whnf))
  refine G_box 3 8 (netSV n) rfl rfl rfl ?_
  ((first|refine rG Γ hm ?_|refine rD Γ hm (by kernel_rfl) ?_);(conv=>whnf);repeat((first|refine aF ?_|refine aT ?_);(first|refine rG Γ hm ?_|refine rD Γ hm (by kernel_rfl) ?_);conv=>whnf))
  refine call0 h1 F64 rfl rfl rfl rfl rfl ?_
  cases hf : hostP n from_
  · rw [if_neg (by simp [hf])] at hlk
    subst hlk
    ((first|refine rG Γ hm ?_|refine rD Γ hm (by kernel_rfl) ?_);(conv=>whnf);repeat((first|refine aF ?_|refine aT ?_);(first|refine rG Γ hm ?_|refine rD Γ hm (by kernel_rfl) ?_);conv=>whnf))
    refine G_nilsl 6 4 hopSV rfl ?_
    ((first|refine rG Γ hm ?_|refine rD Γ hm (by kernel_rfl) ?_);(conv=>whnf);repeat((first|refine aF ?_|refine aT ?_);(first|refine rG Γ hm ?_|refine rD Γ hm (by kernel_rfl) ?_);conv=>whnf))
    exact done0 rfl (.cons .tmp (.cons .tmp .nil)) rfl rfl
  ((first|refine rG Γ hm ?_|refine rD Γ hm (by kernel_rfl) ?_);(conv=>whnf);repeat((first|refine aF ?_|refine aT ?_);(first|refine rG Γ hm ?_|refine rD Γ hm (by kernel_rfl) ?_);conv=>whnf))
  refine call0 h2 F64 rfl rfl rfl rfl rfl ?_
  cases ht : hostP n to
  · rw [if_neg (by simp [ht])] at hlk
    subst hlk
    ((first|refine rG Γ hm ?_|refine rD Γ hm (by kernel_rfl) ?_);(conv=>whnf);repeat((first|refine aF ?_|refine aT ?_);(first|refine rG Γ hm ?_|refine rD Γ hm (by kernel_rfl) ?_);conv=>whnf))
    refine G_nilsl 6 4 hopSV rfl ?_
    ((first|refine rG Γ hm ?_|refine rD Γ hm (by kernel_rfl) ?_);(conv=>whnf);repeat((first|refine aF ?_|refine aT ?_);(first|refine rG Γ hm ?_|refine rD Γ hm (by kernel_rfl) ?_);conv=>whnf))
    exact done0 rfl (.cons .tmp (.cons .tmp .nil)) rfl rfl
  ((first|refine rG Γ hm ?_|refine rD Γ hm (by kernel_rfl) ?_);(conv=>whnf);repeat((first|refine aF ?_|refine aT ?_);(first|refine rG Γ hm ?_|refine rD Γ hm (by kernel_rfl) ?_);conv=>whnf))
  refine ⟨fun h => ?_, fun h => ?_⟩
  · rw [if_neg (by have : from_ = to := by simpa using h
                   simp [this])] at hlk
    subst hlk
    ((first|refine rG Γ hm ?_|refine rD Γ hm (by kernel_rfl) ?_);(conv=>whnf);repeat((first|refine aF ?_|refine aT ?_);(first|refine rG Γ hm ?_|refine rD Γ hm (by kernel_rfl) ?_);conv=>whnf))
    refine G_nilsl 6 4 hopSV rfl ?_
    ((first|refine rG Γ hm ?_|refine rD Γ hm (by kernel_rfl) ?_);(conv=>whnf);repeat((first|refine aF ?_|refine aT ?_);(first|refine rG Γ hm ?_|refine rD Γ hm (by kernel_rfl) ?_);conv=>whnf))
    exact done0 rfl (.cons .tmp (.cons .tmp .nil)) rfl rfl
  have hne : from_ ≠ to := by simpa using h
  rw [if_pos ⟨hf, ht, hne, hb⟩] at hlk
  have hp := hostP_in hf
  have hvl : ∀ v ∈ (n.ports[from_.toNat]'hp.2).native :: (n.ports[from_.toNat]'hp.2).tagged, v ≠ 0 → _ := fun v hv h0 => e_port_vlan hb hp.2 hv h0
  have hnat := (e_port_nat hb hp.2).1
  have htp : ∀ v ∈ (n.ports[from_.toNat]'hp.2).tagged, v ≠ 0 := fun v hv => e_tagged_pos hb hp.2 hv
  have hts := hn.tagged _ (List.getElem_mem hp.2)
  unfold Short at hts
  rw [beginT, nth_eq hp.2] at hlk
  obtain ⟨p, hpp⟩ : ∃ p, n.ports[from_.toNat]'hp.2 = p := ⟨_, rfl⟩
  rw [hpp] at hvl hnat htp hts hlk
  have hmt := fun j => met_begin (n := n) (dev := p.dev) (l := (p.native :: p.tagged).take j) (fun v hv h0 => hvl v (List.mem_of_mem_take hv) h0)
  ((first|refine rG Γ hm ?_|refine rD Γ hm (by kernel_rfl) ?_);(conv=>whnf);repeat((first|refine aF ?_|refine aT ?_);(first|refine rG Γ hm ?_|refine rD Γ hm (by kernel_rfl) ?_);conv=>whnf))
  refine ⟨rfl, hp.1, hp.2, ?_⟩
  rw [hpp]
  ((conv=>whnf);repeat((first|refine aF ?_|refine aT ?_);(first|refine rG Γ hm ?_|refine rD Γ hm (by kernel_rfl) ?_);conv=>whnf))
  refine ⟨fun h => ?_, fun h => ?_⟩
  · have h0 : 0 < p.native := of_decide_eq_true h
    have q := more_begin (hmt 0) hD hb (dev := p.dev) (v := p.native) (by omega) (hvl p.native (by simp) (by omega))
    have qa := ref15AtS n p.dev p.native hn.domains
    refine G_box 8 7 (portSV p) rfl rfl rfl ?_
    refine G_adopt 9 1000 2 waySV rfl rfl ?_
    ((first|refine rG Γ hm ?_|refine rD Γ hm (by kernel_rfl) ?_);(conv=>whnf);repeat((first|refine aF ?_|refine aT ?_);(first|refine rG Γ hm ?_|refine rD Γ hm (by kernel_rfl) ?_);conv=>whnf))
    refine call0 qa F66 rfl rfl rfl rfl rfl ?_
    ((first|refine rG Γ hm ?_|refine rD Γ hm (by kernel_rfl) ?_);(conv=>whnf);repeat((first|refine aF ?_|refine aT ?_);(first|refine rG Γ hm ?_|refine rD Γ hm (by kernel_rfl) ?_);conv=>whnf))
    refine stepOp (good_callV [(0, 1000), (1, 1001)] [] rfl F65 q (.cons (.refl _) (.cons (.agg (.cons .nil (.cons (.refl _) .nil))) (.cons (.refl _) (.cons (.refl _) .nil)))) ⟨rfl, trivial⟩ rfl ⟨.inl rfl, .inr rfl, trivial⟩ rfl) rfl rfl ?_
    ((first|refine rG Γ hm ?_|refine rD Γ hm (by kernel_rfl) ?_);(conv=>whnf);repeat((first|refine aF ?_|refine aT ?_);(first|refine rG Γ hm ?_|refine rD Γ hm (by kernel_rfl) ?_);conv=>whnf))
    refine G_count p.tagged.length (fun j => [(2, intSV to), (3, .ref 8 (netSV n) 0), (8, .ref 7 (portSV p) 0), (9, .osl 1000), (10, intSV j)]) (fun j => [(1000, .row 2 waySV (waysOf (beginL n p.dev ((p.native :: p.tagged).take (j + 1))).list))]) [(1000, 1001)]
      ⟨⟨rfl, rfl, rfl, rfl, rfl, rfl, rfl, rfl, rfl, rfl, trivial⟩, ⟨.inl rfl, rfl, trivial⟩, rfl, rfl⟩ ?_
    intro j hj
    ((first|refine rG Γ hm ?_|refine rD Γ hm (by kernel_rfl) ?_);(conv=>whnf);repeat((first|refine aF ?_|refine aT ?_);(first|refine rG Γ hm ?_|refine rD Γ hm (by kernel_rfl) ?_);conv=>whnf))
    refine ⟨fun h => ?_, fun h => ?_⟩
    · have hlt : j < p.tagged.length := by simpa using h
      have hj0 : ((j : Nat) : Int).toNat < p.tagged.length := by simpa using hlt
      have hv : p.tagged[((j : Nat) : Int).toNat]'hj0 ∈ p.tagged := List.getElem_mem hj0
      have q := more_begin (hmt (j + 1)) hD hb (dev := p.dev) (htp _ hv) (hvl _ (List.mem_cons_of_mem _ hv) (htp _ hv))
      have qa := ref15AtS n p.dev (p.tagged[((j : Nat) : Int).toNat]'hj0) hn.domains
      have hs := beginL_succ n p.dev (l := p.native :: p.tagged) (j := j + 1) (v := p.tagged[((j : Nat) : Int).toNat]'hj0) (by simp; omega) rfl
      rw [← hs] at q
      ((first|refine rG Γ hm ?_|refine rD Γ hm (by kernel_rfl) ?_);(conv=>whnf);repeat((first|refine aF ?_|refine aT ?_);(first|refine rG Γ hm ?_|refine rD Γ hm (by kernel_rfl) ?_);conv=>whnf))
      refine ⟨rfl, by omega, hj0, ?_⟩
      ((conv=>whnf);repeat((first|refine aF ?_|refine aT ?_);(first|refine rG Γ hm ?_|refine rD Γ hm (by kernel_rfl) ?_);conv=>whnf))
      refine callD0 qa F66 rfl rfl rfl (by kernel_rfl) rfl ?_
      ((first|refine rG Γ hm ?_|refine rD Γ hm (by kernel_rfl) ?_);(conv=>whnf);repeat((first|refine aF ?_|refine aT ?_);(first|refine rG Γ hm ?_|refine rD Γ hm (by kernel_rfl) ?_);conv=>whnf))
      refine stepD (good_callV [(0, 1000), (1, 1001)] [] rfl F65 q (.cons (.refl _) (.cons (.agg (.cons .nil (.cons (.refl _) .nil))) (.cons (.refl _) (.cons (.refl _) .nil)))) ⟨rfl, trivial⟩ rfl ⟨.inl rfl, .inr rfl, trivial⟩ rfl) (by kernel_rfl) rfl ?_
      ((first|refine rG Γ hm ?_|refine rD Γ hm (by kernel_rfl) ?_);(conv=>whnf);repeat((first|refine aF ?_|refine aT ?_);(first|refine rG Γ hm ?_|refine rD Γ hm (by kernel_rfl) ?_);conv=>whnf))
      refine ⟨(by kernel_rfl), ?_⟩
      ((conv=>whnf);repeat((first|refine aF ?_|refine aT ?_);(first|refine rG Γ hm ?_|refine rD Γ hm (by kernel_rfl) ?_);conv=>whnf))
      refine ⟨by unfold I64; omega, ?_⟩
      ((conv=>whnf);repeat((first|refine aF ?_|refine aT ?_);(first|refine rG Γ hm ?_|refine rD Γ hm (by kernel_rfl) ?_);conv=>whnf))
      exact G_next [(1000, 1001)] hlt ⟨⟨rfl, rfl, rfl, rfl, rfl, rfl, rfl, rfl, rfl, rfl, trivial⟩, ⟨.inl rfl, rfl, trivial⟩, rfl, rfl⟩
    have hje : j = p.tagged.length := by have := of_decide_eq_false h; omega
    subst hje
    have hm0 := hmt (p.tagged.length + 1)
    have e0 : (p.native :: p.tagged).take (p.tagged.length + 1) = p.native :: p.tagged := List.take_of_length_le (by simp)
    rw [e0] at hm0 ⊢
    generalize beginL n p.dev (p.native :: p.tagged) = S0 at *
    ((first|refine rG Γ hm ?_|refine rD Γ hm (by kernel_rfl) ?_);(conv=>whnf);repeat((first|refine aF ?_|refine aT ?_);(first|refine rG Γ hm ?_|refine rD Γ hm (by kernel_rfl) ?_);conv=>whnf))
    refine G_while (fun x : Srch × Nat => Met n x.1 ∧ x.2 ≤ x.1.list.length ∧ res = searchT n to (2 * n.domains.length + 1 - x.2) x.1 x.2)
      (fun x => [(2, intSV to), (3, .ref 8 (netSV n) 0), (9, .osl 1000), (11, intSV x.2)]) (fun x => [(1000, .row 2 waySV (waysOf x.1.list))]) (fun x => 2 * n.domains.length + 1 - x.2) (S0, 0) [] ⟨hm0, Nat.zero_le _, hlk⟩
      ⟨⟨rfl, rfl, rfl, rfl, rfl, rfl, rfl, rfl, trivial⟩, ⟨.inl rfl, rfl, trivial⟩, rfl, rfl⟩ ?_
    clear hlk hm0 hmt
    rintro ⟨S, i⟩ ⟨mt, hi, hlk⟩
    dsimp only at mt hi hlk ⊢
    have hle := mt.ok.le
    obtain ⟨fuel, hfu⟩ : ∃ k, 2 * n.domains.length + 1 - i = k + 1 := ⟨2 * n.domains.length - i, by omega⟩
    rw [hfu, searchT] at hlk
    have hwlen := waysOf_length S.list
    ((first|refine rG Γ hm ?_|refine rD Γ hm (by kernel_rfl) ?_);(conv=>whnf);repeat((first|refine aF ?_|refine aT ?_);(first|refine rG Γ hm ?_|refine rD Γ hm (by kernel_rfl) ?_);conv=>whnf))
    refine ⟨fun h => ?_, fun h => ?_⟩
    rotate_left
    · have hlt : ¬ i < S.list.length := by have := of_decide_eq_false h; omega
      rw [if_neg hlt] at hlk
      subst hlk
      ((first|refine rG Γ hm ?_|refine rD Γ hm (by kernel_rfl) ?_);(conv=>whnf);repeat((first|refine aF ?_|refine aT ?_);(first|refine rG Γ hm ?_|refine rD Γ hm (by kernel_rfl) ?_);conv=>whnf))
      refine G_nilsl 6 4 hopSV rfl ?_
      ((first|refine rG Γ hm ?_|refine rD Γ hm (by kernel_rfl) ?_);(conv=>whnf);repeat((first|refine aF ?_|refine aT ?_);(first|refine rG Γ hm ?_|refine rD Γ hm (by kernel_rfl) ?_);conv=>whnf))
      exact done0 rfl (.cons .tmp (.cons .tmp .nil)) rfl rfl
    have hlt : i < S.list.length := by have := of_decide_eq_true h; omega
    have hi0 : ((i : Nat) : Int).toNat < (waysOf S.list).length := by rw [hwlen]; simpa using hlt
    have hk : ((i : Nat) : Int).toNat < S.list.length := by simpa using hlt
    have hwi : (waysOf S.list)[((i : Nat) : Int).toNat]'hi0 = ⟨backT S.list i, decide ((nth S.list i).kind = 1)⟩ := by rw [waysOf_get]; rfl
    have hok := waysOf_ok mt hD
    have hbl := hok.2.2 i hlt
    have hbn := (backT_facts mt.bk (P := fun _ => True) (fun _ _ => trivial) hlt).2.2
    have qe := wayEndS ⟨backT S.list i, decide ((nth S.list i).kind = 1)⟩ hbn (by show (backT S.list i).length < _; omega)
    rw [show (⟨backT S.list i, decide ((nth S.list i).kind = 1)⟩ : WayD).end_ = (nth S.list i).domain from end_of mt.bk mt.dom hlt] at qe
    have hat := mt.ok.at_ _ (List.getElem_mem hk)
    have hext := extT.eq_1 n S i
    rw [if_pos hlt] at hlk
    rw [nth_eq hk] at hlk qe hwi hext
    obtain ⟨f, hf2⟩ : ∃ f, S.list[((i : Nat) : Int).toNat]'hk = f := ⟨_, rfl⟩
    rw [hf2] at hlk qe hwi hat hext
    obtain ⟨fd, kd, fh, fa⟩ := f
    dsimp only at hlk qe hwi hat hext
    have hdo : domOK n fd := ⟨⟨hat.1.1, by omega⟩, hb⟩
    have hhe : hopsT n fd = hopsL n fd := by rw [hopsT, if_pos hdo]
    have q1 := refMembersS n hn hb fd
    have q2 := ref15InS (membersT n fd) to (membersT_short n hn fd)
    have q3 := refHopsS n hn fd hdo
    have q4 := refRoutesS n hn hb hu fd ⟨hat.1.1, by omega⟩
    have hsh := hopsT_short hn fd
    have hsr := routesT_short hn fd
    have hinh := fun h hh => @hopsT_in n fd h hh
    have hinr := fun q hq => @routesT_in n fd q hq
    rw [hhe] at hsh hinh hext
    generalize membersT n fd = mem at *
    generalize hopsL n fd = hops at *
    generalize routesT n fd = leads at *
    ((first|refine rG Γ hm ?_|refine rD Γ hm (by kernel_rfl) ?_);(conv=>whnf);repeat((first|refine aF ?_|refine aT ?_);(first|refine rG Γ hm ?_|refine rD Γ hm (by kernel_rfl) ?_);conv=>whnf))
    refine ⟨by omega, hi0, ?_⟩
    ((conv=>whnf);repeat((first|refine aF ?_|refine aT ?_);(first|refine rG Γ hm ?_|refine rD Γ hm (by kernel_rfl) ?_);conv=>whnf))
    refine ⟨rfl, hi0, ?_⟩
    rw [hwi]
    ((conv=>whnf);repeat((first|refine aF ?_|refine aT ?_);(first|refine rG Γ hm ?_|refine rD Γ hm (by kernel_rfl) ?_);conv=>whnf))
    refine callD0 qe F69 rfl rfl rfl (by kernel_rfl) rfl ?_
    ((first|refine rG Γ hm ?_|refine rD Γ hm (by kernel_rfl) ?_);(conv=>whnf);repeat((first|refine aF ?_|refine aT ?_);(first|refine rG Γ hm ?_|refine rD Γ hm (by kernel_rfl) ?_);conv=>whnf))
    refine callD0 q1 F68 rfl rfl rfl (by kernel_rfl) rfl ?_
    ((first|refine rG Γ hm ?_|refine rD Γ hm (by kernel_rfl) ?_);(conv=>whnf);repeat((first|refine aF ?_|refine aT ?_);(first|refine rG Γ hm ?_|refine rD Γ hm (by kernel_rfl) ?_);conv=>whnf))
    refine callD0 q2 F67 rfl rfl rfl (by kernel_rfl) rfl ?_
    ((first|refine rG Γ hm ?_|refine rD Γ hm (by kernel_rfl) ?_);(conv=>whnf);repeat((first|refine aF ?_|refine aT ?_);(first|refine rG Γ hm ?_|refine rD Γ hm (by kernel_rfl) ?_);conv=>whnf))
    refine ⟨(by kernel_rfl), ?_⟩
    ((conv=>whnf);repeat((first|refine aF ?_|refine aT ?_);(first|refine rG Γ hm ?_|refine rD Γ hm (by kernel_rfl) ?_);conv=>whnf))
    generalize inB mem to = bm at *
    cases bm
    rotate_left
    · refine aT ?_
      rw [if_pos rfl] at hlk
      subst hlk
      ((first|refine rG Γ hm ?_|refine rD Γ hm (by kernel_rfl) ?_);(conv=>whnf);repeat((first|refine aF ?_|refine aT ?_);(first|refine rG Γ hm ?_|refine rD Γ hm (by kernel_rfl) ?_);conv=>whnf))
      exact done0 rfl (.cons .tmp (.cons .tmp .nil)) rfl rfl
    refine aF ?_
    rw [if_neg (by simp)] at hlk
    refine G_box 12 2 (waySV ⟨backT S.list i, decide (kd = 1)⟩) rfl rfl rfl ?_
    ((first|refine rG Γ hm ?_|refine rD Γ hm (by kernel_rfl) ?_);(conv=>whnf);repeat((first|refine aF ?_|refine aT ?_);(first|refine rG Γ hm ?_|refine rD Γ hm (by kernel_rfl) ?_);conv=>whnf))
    refine callD0 qe F69 rfl rfl rfl (by kernel_rfl) rfl ?_
    ((first|refine rG Γ hm ?_|refine rD Γ hm (by kernel_rfl) ?_);(conv=>whnf);repeat((first|refine aF ?_|refine aT ?_);(first|refine rG Γ hm ?_|refine rD Γ hm (by kernel_rfl) ?_);conv=>whnf))
    refine callD0 q3 F70 rfl rfl rfl (by kernel_rfl) rfl ?_
    ((first|refine rG Γ hm ?_|refine rD Γ hm (by kernel_rfl) ?_);(conv=>whnf);repeat((first|refine aF ?_|refine aT ?_);(first|refine rG Γ hm ?_|refine rD Γ hm (by kernel_rfl) ?_);conv=>whnf))
    refine ⟨(by kernel_rfl), ?_⟩
    ((conv=>whnf);repeat((first|refine aF ?_|refine aT ?_);(first|refine rG Γ hm ?_|refine rD Γ hm (by kernel_rfl) ?_);conv=>whnf))
    have hm1 := fun j => Met.ext1 (k := kd) (i := i) hat.2 (l := hops.take j) mt ⟨by omega, by omega⟩ (fun h hh => hinh h (List.mem_of_mem_take hh))
    have rk : (if decide (kd = 1) = true then (1 : Int) else 0) = kd := by rcases hat.2 with h | h <;> rw [h] <;> rfl
    refine G_count hops.length (fun j => [(2, intSV to), (3, .ref 8 (netSV n) 0), (9, .osl 1000), (11, intSV i), (12, .ref 2 (waySV ⟨backT S.list i, decide (kd = 1)⟩) 0), (13, .sl 4 hopSV hops), (14, intSV j)]) (fun j => [(1000, .row 2 waySV (waysOf (ext1 S kd i (hops.take j)).list))]) []
      ⟨⟨rfl, rfl, rfl, rfl, rfl, rfl, rfl, rfl, rfl, rfl, rfl, rfl, rfl, rfl, trivial⟩, ⟨.inl rfl, rfl, trivial⟩, rfl, rfl⟩ ?_
    intro j hj
    ((first|refine rG Γ hm ?_|refine rD Γ hm (by kernel_rfl) ?_);(conv=>whnf);repeat((first|refine aF ?_|refine aT ?_);(first|refine rG Γ hm ?_|refine rD Γ hm (by kernel_rfl) ?_);conv=>whnf))
    refine ⟨fun h => ?_, fun h => ?_⟩
    · have hltj : j < hops.length := by simpa using h
      have hj0 : ((j : Nat) : Int).toNat < hops.length := by simpa using hltj
      obtain ⟨m, hml⟩ := (hm1 j).2
      have q5 := more_ext (hm1 j).1 hD hml mt.bk hlt (hops[((j : Nat) : Int).toNat]'hj0) (decide (kd = 1)) (decide (kd = 1)) (hinh _ (List.getElem_mem hj0))
      rw [rk, ← ext1_succ S kd i (h := hops[((j : Nat) : Int).toNat]'hj0) hltj rfl] at q5
      ((first|refine rG Γ hm ?_|refine rD Γ hm (by kernel_rfl) ?_);(conv=>whnf);repeat((first|refine aF ?_|refine aT ?_);(first|refine rG Γ hm ?_|refine rD Γ hm (by kernel_rfl) ?_);conv=>whnf))
      refine ⟨rfl, by omega, hj0, ?_⟩
      ((conv=>whnf);repeat((first|refine aF ?_|refine aT ?_);(first|refine rG Γ hm ?_|refine rD Γ hm (by kernel_rfl) ?_);conv=>whnf))
      refine stepD (good_call [(0, 1000), (1, 1001)] rfl F65 q5 rfl ⟨rfl, trivial⟩ rfl ⟨.inl rfl, .inr rfl, trivial⟩) (by kernel_rfl) rfl ?_
      ((first|refine rG Γ hm ?_|refine rD Γ hm (by kernel_rfl) ?_);(conv=>whnf);repeat((first|refine aF ?_|refine aT ?_);(first|refine rG Γ hm ?_|refine rD Γ hm (by kernel_rfl) ?_);conv=>whnf))
      refine ⟨(by kernel_rfl), ?_⟩
      ((conv=>whnf);repeat((first|refine aF ?_|refine aT ?_);(first|refine rG Γ hm ?_|refine rD Γ hm (by kernel_rfl) ?_);conv=>whnf))
      refine ⟨by unfold I64; omega, ?_⟩
      ((conv=>whnf);repeat((first|refine aF ?_|refine aT ?_);(first|refine rG Γ hm ?_|refine rD Γ hm (by kernel_rfl) ?_);conv=>whnf))
      exact G_next [(1000, 1001)] hltj ⟨⟨rfl, rfl, rfl, rfl, rfl, rfl, rfl, rfl, rfl, rfl, rfl, rfl, rfl, rfl, trivial⟩, ⟨.inl rfl, rfl, trivial⟩, rfl, rfl⟩
    have hje : j = hops.length := by have := of_decide_eq_false h; omega
    subst hje
    obtain ⟨hmA, mA, hmlA⟩ := hm1 hops.length
    rw [List.take_length] at hmA hmlA ⊢
    clear hm1
    ((first|refine rG Γ hm ?_|refine rD Γ hm (by kernel_rfl) ?_);(conv=>whnf);repeat((first|refine aF ?_|refine aT ?_);(first|refine rG Γ hm ?_|refine rD Γ hm (by kernel_rfl) ?_);conv=>whnf))
    refine callD0 qe F69 rfl rfl rfl (by kernel_rfl) rfl ?_
    ((first|refine rG Γ hm ?_|refine rD Γ hm (by kernel_rfl) ?_);(conv=>whnf);repeat((first|refine aF ?_|refine aT ?_);(first|refine rG Γ hm ?_|refine rD Γ hm (by kernel_rfl) ?_);conv=>whnf))
    refine callD0 q4 F71 rfl rfl rfl (by kernel_rfl) rfl ?_
    ((first|refine rG Γ hm ?_|refine rD Γ hm (by kernel_rfl) ?_);(conv=>whnf);repeat((first|refine aF ?_|refine aT ?_);(first|refine rG Γ hm ?_|refine rD Γ hm (by kernel_rfl) ?_);conv=>whnf))
    refine ⟨(by kernel_rfl), ?_⟩
    ((conv=>whnf);repeat((first|refine aF ?_|refine aT ?_);(first|refine rG Γ hm ?_|refine rD Γ hm (by kernel_rfl) ?_);conv=>whnf))
    have hleA : S.list.length ≤ (ext1 S kd i hops).list.length := by rw [hmlA, List.length_append]; omega
    rcases hat.2 with hkd | hkd
    · subst hkd
      rw [if_pos rfl] at hext
      rw [hext] at hlk
      clear hext
      generalize ext1 S 0 i hops = S1 at *
      have hm2 := fun j => Met.ext2 (i := i) (l := leads.take j) hmA ⟨by omega, by omega⟩ (fun h hh => hinr h (List.mem_of_mem_take hh))
      refine G_count leads.length (fun j => [(2, intSV to), (3, .ref 8 (netSV n) 0), (9, .osl 1000), (11, intSV i), (12, .ref 2 (waySV ⟨backT S.list i, false⟩) 0), (15, .sl 3 leadSV leads), (16, intSV j)]) (fun j => [(1000, .row 2 waySV (waysOf (ext2 S1 i (leads.take j)).list))]) []
        ⟨⟨rfl, rfl, rfl, rfl, rfl, rfl, rfl, rfl, rfl, rfl, rfl, rfl, rfl, rfl, trivial⟩, ⟨.inl rfl, rfl, trivial⟩, rfl, rfl⟩ ?_
      intro j hj
      ((first|refine rG Γ hm ?_|refine rD Γ hm (by kernel_rfl) ?_);(conv=>whnf);repeat((first|refine aF ?_|refine aT ?_);(first|refine rG Γ hm ?_|refine rD Γ hm (by kernel_rfl) ?_);conv=>whnf))
      refine ⟨fun h => ?_, fun h => ?_⟩
      · have hltj : j < leads.length := by simpa using h
        have hj0 : ((j : Nat) : Int).toNat < leads.length := by simpa using hltj
        obtain ⟨m, hml⟩ := (hm2 j).2
        have q5 := more_ext (hm2 j).1 hD (l := S.list) (m := mA ++ m) (by rw [hml, hmlA, List.append_assoc]) mt.bk hlt ⟨3, 0, (leads[((j : Nat) : Int).toNat]'hj0).domain, (leads[((j : Nat) : Int).toNat]'hj0).addr⟩ true false (hinr _ (List.getElem_mem hj0))
        rw [show (if true = true then (1 : Int) else 0) = 1 from rfl, ← ext2_succ S1 i (q := leads[((j : Nat) : Int).toNat]'hj0) hltj rfl] at q5
        ((first|refine rG Γ hm ?_|refine rD Γ hm (by kernel_rfl) ?_);(conv=>whnf);repeat((first|refine aF ?_|refine aT ?_);(first|refine rG Γ hm ?_|refine rD Γ hm (by kernel_rfl) ?_);conv=>whnf))
        refine ⟨rfl, by omega, hj0, ?_⟩
        ((conv=>whnf);repeat((first|refine aF ?_|refine aT ?_);(first|refine rG Γ hm ?_|refine rD Γ hm (by kernel_rfl) ?_);conv=>whnf))
        refine ⟨rfl, by omega, hj0, ?_⟩
        ((conv=>whnf);repeat((first|refine aF ?_|refine aT ?_);(first|refine rG Γ hm ?_|refine rD Γ hm (by kernel_rfl) ?_);conv=>whnf))
        refine stepD (good_call [(0, 1000), (1, 1001)] rfl F65 q5 rfl ⟨rfl, trivial⟩ rfl ⟨.inl rfl, .inr rfl, trivial⟩) (by kernel_rfl) rfl ?_
        ((first|refine rG Γ hm ?_|refine rD Γ hm (by kernel_rfl) ?_);(conv=>whnf);repeat((first|refine aF ?_|refine aT ?_);(first|refine rG Γ hm ?_|refine rD Γ hm (by kernel_rfl) ?_);conv=>whnf))
        refine ⟨(by kernel_rfl), ?_⟩
        ((conv=>whnf);repeat((first|refine aF ?_|refine aT ?_);(first|refine rG Γ hm ?_|refine rD Γ hm (by kernel_rfl) ?_);conv=>whnf))
        refine ⟨by unfold I64; omega, ?_⟩
        ((conv=>whnf);repeat((first|refine aF ?_|refine aT ?_);(first|refine rG Γ hm ?_|refine rD Γ hm (by kernel_rfl) ?_);conv=>whnf))
        exact G_next [(1000, 1001)] hltj ⟨⟨rfl, rfl, rfl, rfl, rfl, rfl, rfl, rfl, rfl, rfl, rfl, rfl, rfl, rfl, trivial⟩, ⟨.inl rfl, rfl, trivial⟩, rfl, rfl⟩
      · have hje : j = leads.length := by have := of_decide_eq_false h; omega
        subst hje
        obtain ⟨hmB, mB, hmlB⟩ := hm2 leads.length
        rw [List.take_length] at hmB hmlB ⊢
        have hleB : S1.list.length ≤ (ext2 S1 i leads).list.length := by rw [hmlB, List.length_append]; omega
        ((first|refine rG Γ hm ?_|refine rD Γ hm (by kernel_rfl) ?_);(conv=>whnf);repeat((first|refine aF ?_|refine aT ?_);(first|refine rG Γ hm ?_|refine rD Γ hm (by kernel_rfl) ?_);conv=>whnf))
        refine ⟨by unfold I64; omega, ?_⟩
        ((conv=>whnf);repeat((first|refine aF ?_|refine aT ?_);(first|refine rG Γ hm ?_|refine rD Γ hm (by kernel_rfl) ?_);conv=>whnf))
        exact G_whileN (ext2 S1 i leads, i + 1) [] ⟨hmB, by simp only; omega, by simp only; rw [show 2 * n.domains.length + 1 - (i + 1) = fuel by omega]; exact hlk⟩ (by simp only; omega) ⟨⟨rfl, rfl, rfl, rfl, rfl, rfl, rfl, rfl, trivial⟩, ⟨.inl rfl, rfl, trivial⟩, rfl, rfl⟩
    · subst hkd
      rw [if_neg (by decide)] at hext
      rw [hext] at hlk
      clear hext
      generalize ext1 S 1 i hops = S1 at *
      refine G_count 0 (fun j => [(2, intSV to), (3, .ref 8 (netSV n) 0), (9, .osl 1000), (11, intSV i), (12, .ref 2 (waySV ⟨backT S.list i, true⟩) 0), (15, .sl 3 leadSV leads), (16, intSV j)]) (fun j => [(1000, .row 2 waySV (waysOf S1.list))]) []
        ⟨⟨rfl, rfl, rfl, rfl, rfl, rfl, rfl, rfl, rfl, rfl, rfl, rfl, rfl, rfl, trivial⟩, ⟨.inl rfl, rfl, trivial⟩, rfl, rfl⟩ ?_
      intro j hj
      ((first|refine rG Γ hm ?_|refine rD Γ hm (by kernel_rfl) ?_);(conv=>whnf);repeat((first|refine aF ?_|refine aT ?_);(first|refine rG Γ hm ?_|refine rD Γ hm (by kernel_rfl) ?_);conv=>whnf))
      refine ⟨fun h => ?_, fun h => ?_⟩
      · ((first|refine rG Γ hm ?_|refine rD Γ hm (by kernel_rfl) ?_);(conv=>whnf);repeat((first|refine aF ?_|refine aT ?_);(first|refine rG Γ hm ?_|refine rD Γ hm (by kernel_rfl) ?_);conv=>whnf))
        refine ⟨by unfold I64; omega, ?_⟩
        ((conv=>whnf);repeat((first|refine aF ?_|refine aT ?_);(first|refine rG Γ hm ?_|refine rD Γ hm (by kernel_rfl) ?_);conv=>whnf))
        exact G_whileN (S1, i + 1) [] ⟨hmA, by simp only; omega, by simp only; rw [show 2 * n.domains.length + 1 - (i + 1) = fuel by omega]; exact hlk⟩ (by simp only; omega) ⟨⟨rfl, rfl, rfl, rfl, rfl, rfl, rfl, rfl, trivial⟩, ⟨.inl rfl, rfl, trivial⟩, rfl, rfl⟩
      · ((first|refine rG Γ hm ?_|refine rD Γ hm (by kernel_rfl) ?_);(conv=>whnf);repeat((first|refine aF ?_|refine aT ?_);(first|refine rG Γ hm ?_|refine rD Γ hm (by kernel_rfl) ?_);conv=>whnf))
        refine ⟨by unfold I64; omega, ?_⟩
        ((conv=>whnf);repeat((first|refine aF ?_|refine aT ?_);(first|refine rG Γ hm ?_|refine rD Γ hm (by kernel_rfl) ?_);conv=>whnf))
        exact G_whileN (S1, i + 1) [] ⟨hmA, by simp only; omega, by simp only; rw [show 2 * n.domains.length + 1 - (i + 1) = fuel by omega]; exact hlk⟩ (by simp only; omega) ⟨⟨rfl, rfl, rfl, rfl, rfl, rfl, rfl, rfl, trivial⟩, ⟨.inl rfl, rfl, trivial⟩, rfl, rfl⟩
  · have h0 : p.native = 0 := by have := of_decide_eq_false h; omega
    have hz : beginL n p.dev ((p.native :: p.tagged).take (0 + 1)) = srch0 n := by rw [h0]; rfl
    refine G_box 8 7 (portSV p) rfl rfl rfl ?_
    refine G_adopt 9 1000 2 waySV rfl rfl ?_
    ((first|refine rG Γ hm ?_|refine rD Γ hm (by kernel_rfl) ?_);(conv=>whnf);repeat((first|refine aF ?_|refine aT ?_);(first|refine rG Γ hm ?_|refine rD Γ hm (by kernel_rfl) ?_);conv=>whnf))
    refine G_count p.tagged.length (fun j => [(2, intSV to), (3, .ref 8 (netSV n) 0), (8, .ref 7 (portSV p) 0), (9, .osl 1000), (10, intSV j)]) (fun j => [(1000, .row 2 waySV (waysOf (beginL n p.dev ((p.native :: p.tagged).take (j + 1))).list))]) []
      ⟨⟨rfl, rfl, rfl, rfl, rfl, rfl, rfl, rfl, rfl, rfl, trivial⟩, ⟨.inl (congrArg (fun z : Srch => Ob.row 2 waySV (waysOf z.list)) hz), rfl, trivial⟩, rfl, rfl⟩ ?_
    intro j hj
    ((first|refine rG Γ hm ?_|refine rD Γ hm (by kernel_rfl) ?_);(conv=>whnf);repeat((first|refine aF ?_|refine aT ?_);(first|refine rG Γ hm ?_|refine rD Γ hm (by kernel_rfl) ?_);conv=>whnf))
    refine ⟨fun h => ?_, fun h => ?_⟩
    · have hlt : j < p.tagged.length := by simpa using h
      have hj0 : ((j : Nat) : Int).toNat < p.tagged.length := by simpa using hlt
      have hv : p.tagged[((j : Nat) : Int).toNat]'hj0 ∈ p.tagged := List.getElem_mem hj0
      have q := more_begin (hmt (j + 1)) hD hb (dev := p.dev) (htp _ hv) (hvl _ (List.mem_cons_of_mem _ hv) (htp _ hv))
      have qa := ref15AtS n p.dev (p.tagged[((j : Nat) : Int).toNat]'hj0) hn.domains
      have hs := beginL_succ n p.dev (l := p.native :: p.tagged) (j := j + 1) (v := p.tagged[((j : Nat) : Int).toNat]'hj0) (by simp; omega) rfl
      rw [← hs] at q
      ((first|refine rG Γ hm ?_|refine rD Γ hm (by kernel_rfl) ?_);(conv=>whnf);repeat((first|refine aF ?_|refine aT ?_);(first|refine rG Γ hm ?_|refine rD Γ hm (by kernel_rfl) ?_);conv=>whnf))
      refine ⟨rfl, by omega, hj0, ?_⟩
      ((conv=>whnf);repeat((first|refine aF ?_|refine aT ?_);(first|refine rG Γ hm ?_|refine rD Γ hm (by kernel_rfl) ?_);conv=>whnf))
      refine callD0 qa F66 rfl rfl rfl (by kernel_rfl) rfl ?_
      ((first|refine rG Γ hm ?_|refine rD Γ hm (by kernel_rfl) ?_);(conv=>whnf);repeat((first|refine aF ?_|refine aT ?_);(first|refine rG Γ hm ?_|refine rD Γ hm (by kernel_rfl) ?_);conv=>whnf))
      refine stepD (good_callV [(0, 1000), (1, 1001)] [] rfl F65 q (.cons (.refl _) (.cons (.agg (.cons .nil (.cons (.refl _) .nil))) (.cons (.refl _) (.cons (.refl _) .nil)))) ⟨rfl, trivial⟩ rfl ⟨.inl rfl, .inr rfl, trivial⟩ rfl) (by kernel_rfl) rfl ?_
      ((first|refine rG Γ hm ?_|refine rD Γ hm (by kernel_rfl) ?_);(conv=>whnf);repeat((first|refine aF ?_|refine aT ?_);(first|refine rG Γ hm ?_|refine rD Γ hm (by kernel_rfl) ?_);conv=>whnf))
      refine ⟨(by kernel_rfl), ?_⟩
      ((conv=>whnf);repeat((first|refine aF ?_|refine aT ?_);(first|refine rG Γ hm ?_|refine rD Γ hm (by kernel_rfl) ?_);conv=>whnf))
      refine ⟨by unfold I64; omega, ?_⟩
      ((conv=>whnf);repeat((first|refine aF ?_|refine aT ?_);(first|refine rG Γ hm ?_|refine rD Γ hm (by kernel_rfl) ?_);conv=>whnf))
      exact G_next [(1000, 1001)] hlt ⟨⟨rfl, rfl, rfl, rfl, rfl, rfl, rfl, rfl, rfl, rfl, trivial⟩, ⟨.inl rfl, rfl, trivial⟩, rfl, rfl⟩
    have hje : j = p.tagged.length := by have := of_decide_eq_false h; omega
    subst hje
    have hm0 := hmt (p.tagged.length + 1)
    have e0 : (p.native :: p.tagged).take (p.tagged.length + 1) = p.native :: p.tagged := List.take_of_length_le (by simp)
    rw [e0] at hm0 ⊢
    generalize beginL n p.dev (p.native :: p.tagged) = S0 at *
    ((first|refine rG Γ hm ?_|refine rD Γ hm (by kernel_rfl) ?_);(conv=>whnf);repeat((first|refine aF ?_|refine aT ?_);(first|refine rG Γ hm ?_|refine rD Γ hm (by kernel_rfl) ?_);conv=>whnf))
    refine G_while (fun x : Srch × Nat => Met n x.1 ∧ x.2 ≤ x.1.list.length ∧ res = searchT n to (2 * n.domains.length + 1 - x.2) x.1 x.2)
      (fun x => [(2, intSV to), (3, .ref 8 (netSV n) 0), (9, .osl 1000), (11, intSV x.2)]) (fun x => [(1000, .row 2 waySV (waysOf x.1.list))]) (fun x => 2 * n.domains.length + 1 - x.2) (S0, 0) [] ⟨hm0, Nat.zero_le _, hlk⟩
      ⟨⟨rfl, rfl, rfl, rfl, rfl, rfl, rfl, rfl, trivial⟩, ⟨.inl rfl, rfl, trivial⟩, rfl, rfl⟩ ?_
    clear hlk hm0 hmt
    rintro ⟨S, i⟩ ⟨mt, hi, hlk⟩
    dsimp only at mt hi hlk ⊢
    have hle := mt.ok.le
    obtain ⟨fuel, hfu⟩ : ∃ k, 2 * n.domains.length + 1 - i = k + 1 := ⟨2 * n.domains.length - i, by omega⟩
    rw [hfu, searchT] at hlk
    have hwlen := waysOf_length S.list
    ((first|refine rG Γ hm ?_|refine rD Γ hm (by kernel_rfl) ?_);(conv=>whnf);repeat((first|refine aF ?_|refine aT ?_);(first|refine rG Γ hm ?_|refine rD Γ hm (by kernel_rfl) ?_);conv=>whnf))
    refine ⟨fun h => ?_, fun h => ?_⟩
    rotate_left
    · have hlt : ¬ i < S.list.length := by have := of_decide_eq_false h; omega
      rw [if_neg hlt] at hlk
      subst hlk
      ((first|refine rG Γ hm ?_|refine rD Γ hm (by kernel_rfl) ?_);(conv=>whnf);repeat((first|refine aF ?_|refine aT ?_);(first|refine rG Γ hm ?_|refine rD Γ hm (by kernel_rfl) ?_);conv=>whnf))
      refine G_nilsl 6 4 hopSV rfl ?_
      ((first|refine rG Γ hm ?_|refine rD Γ hm (by kernel_rfl) ?_);(conv=>whnf);repeat((first|refine aF ?_|refine aT ?_);(first|refine rG Γ hm ?_|refine rD Γ hm (by kernel_rfl) ?_);conv=>whnf))
      exact done0 rfl (.cons .tmp (.cons .tmp .nil)) rfl rfl
    have hlt : i < S.list.length := by have := of_decide_eq_true h; omega
    have hi0 : ((i : Nat) : Int).toNat < (waysOf S.list).length := by rw [hwlen]; simpa using hlt
    have hk : ((i : Nat) : Int).toNat < S.list.length := by simpa using hlt
    have hwi : (waysOf S.list)[((i : Nat) : Int).toNat]'hi0 = ⟨backT S.list i, decide ((nth S.list i).kind = 1)⟩ := by rw [waysOf_get]; rfl
    have hok := waysOf_ok mt hD
    have hbl := hok.2.2 i hlt
    have hbn := (backT_facts mt.bk (P := fun _ => True) (fun _ _ => trivial) hlt).2.2
    have qe := wayEndS ⟨backT S.list i, decide ((nth S.list i).kind = 1)⟩ hbn (by show (backT S.list i).length < _; omega)
    rw [show (⟨backT S.list i, decide ((nth S.list i).kind = 1)⟩ : WayD).end_ = (nth S.list i).domain from end_of mt.bk mt.dom hlt] at qe
    have hat := mt.ok.at_ _ (List.getElem_mem hk)
    have hext := extT.eq_1 n S i
    rw [if_pos hlt] at hlk
    rw [nth_eq hk] at hlk qe hwi hext
    obtain ⟨f, hf2⟩ : ∃ f, S.list[((i : Nat) : Int).toNat]'hk = f := ⟨_, rfl⟩
    rw [hf2] at hlk qe hwi hat hext
    obtain ⟨fd, kd, fh, fa⟩ := f
    dsimp only at hlk qe hwi hat hext
    have hdo : domOK n fd := ⟨⟨hat.1.1, by omega⟩, hb⟩
    have hhe : hopsT n fd = hopsL n fd := by rw [hopsT, if_pos hdo]
    have q1 := refMembersS n hn hb fd
    have q2 := ref15InS (membersT n fd) to (membersT_short n hn fd)
    have q3 := refHopsS n hn fd hdo
    have q4 := refRoutesS n hn hb hu fd ⟨hat.1.1, by omega⟩
    have hsh := hopsT_short hn fd
    have hsr := routesT_short hn fd
    have hinh := fun h hh => @hopsT_in n fd h hh
    have hinr := fun q hq => @routesT_in n fd q hq
    rw [hhe] at hsh hinh hext
    generalize membersT n fd = mem at *
    generalize hopsL n fd = hops at *
    generalize routesT n fd = leads at *
    ((first|refine rG Γ hm ?_|refine rD Γ hm (by kernel_rfl) ?_);(conv=>whnf);repeat((first|refine aF ?_|refine aT ?_);(first|refine rG Γ hm ?_|refine rD Γ hm (by kernel_rfl) ?_);conv=>whnf))
    refine ⟨by omega, hi0, ?_⟩
    ((conv=>whnf);repeat((first|refine aF ?_|refine aT ?_);(first|refine rG Γ hm ?_|refine rD Γ hm (by kernel_rfl) ?_);conv=>whnf))
    refine ⟨rfl, hi0, ?_⟩
    rw [hwi]
    ((conv=>whnf);repeat((first|refine aF ?_|refine aT ?_);(first|refine rG Γ hm ?_|refine rD Γ hm (by kernel_rfl) ?_);conv=>whnf))
    refine callD0 qe F69 rfl rfl rfl (by kernel_rfl) rfl ?_
    ((first|refine rG Γ hm ?_|refine rD Γ hm (by kernel_rfl) ?_);(conv=>whnf);repeat((first|refine aF ?_|refine aT ?_);(first|refine rG Γ hm ?_|refine rD Γ hm (by kernel_rfl) ?_);conv=>whnf))
    refine callD0 q1 F68 rfl rfl rfl (by kernel_rfl) rfl ?_
    ((first|refine rG Γ hm ?_|refine rD Γ hm (by kernel_rfl) ?_);(conv=>whnf);repeat((first|refine aF ?_|refine aT ?_);(first|refine rG Γ hm ?_|refine rD Γ hm (by kernel_rfl) ?_);conv=>whnf))
    refine callD0 q2 F67 rfl rfl rfl (by kernel_rfl) rfl ?_
    ((first|refine rG Γ hm ?_|refine rD Γ hm (by kernel_rfl) ?_);(conv=>whnf);repeat((first|refine aF ?_|refine aT ?_);(first|refine rG Γ hm ?_|refine rD Γ hm (by kernel_rfl) ?_);conv=>whnf))
    refine ⟨(by kernel_rfl), ?_⟩
    ((conv=>whnf);repeat((first|refine aF ?_|refine aT ?_);(first|refine rG Γ hm ?_|refine rD Γ hm (by kernel_rfl) ?_);conv=>whnf))
    generalize inB mem to = bm at *
    cases bm
    rotate_left
    · refine aT ?_
      rw [if_pos rfl] at hlk
      subst hlk
      ((first|refine rG Γ hm ?_|refine rD Γ hm (by kernel_rfl) ?_);(conv=>whnf);repeat((first|refine aF ?_|refine aT ?_);(first|refine rG Γ hm ?_|refine rD Γ hm (by kernel_rfl) ?_);conv=>whnf))
      exact done0 rfl (.cons .tmp (.cons .tmp .nil)) rfl rfl
    refine aF ?_
    rw [if_neg (by simp)] at hlk
    refine G_box 12 2 (waySV ⟨backT S.list i, decide (kd = 1)⟩) rfl rfl rfl ?_
    ((first|refine rG Γ hm ?_|refine rD Γ hm (by kernel_rfl) ?_);(conv=>whnf);repeat((first|refine aF ?_|refine aT ?_);(first|refine rG Γ hm ?_|refine rD Γ hm (by kernel_rfl) ?_);conv=>whnf))
    refine callD0 qe F69 rfl rfl rfl (by kernel_rfl) rfl ?_
    ((first|refine rG Γ hm ?_|refine rD Γ hm (by kernel_rfl) ?_);(conv=>whnf);repeat((first|refine aF ?_|refine aT ?_);(first|refine rG Γ hm ?_|refine rD Γ hm (by kernel_rfl) ?_);conv=>whnf))
    refine callD0 q3 F70 rfl rfl rfl (by kernel_rfl) rfl ?_
    ((first|refine rG Γ hm ?_|refine rD Γ hm (by kernel_rfl) ?_);(conv=>whnf);repeat((first|refine aF ?_|refine aT ?_);(first|refine rG Γ hm ?_|refine rD Γ hm (by kernel_rfl) ?_);conv=>whnf))
    refine ⟨(by kernel_rfl), ?_⟩
    ((conv=>whnf);repeat((first|refine aF ?_|refine aT ?_);(first|refine rG Γ hm ?_|refine rD Γ hm (by kernel_rfl) ?_);conv=>whnf))
    have hm1 := fun j => Met.ext1 (k := kd) (i := i) hat.2 (l := hops.take j) mt ⟨by omega, by omega⟩ (fun h hh => hinh h (List.mem_of_mem_take hh))
    have rk : (if decide (kd = 1) = true then (1 : Int) else 0) = kd := by rcases hat.2 with h | h <;> rw [h] <;> rfl
    refine G_count hops.length (fun j => [(2, intSV to), (3, .ref 8 (netSV n) 0), (9, .osl 1000), (11, intSV i), (12, .ref 2 (waySV ⟨backT S.list i, decide (kd = 1)⟩) 0), (13, .sl 4 hopSV hops), (14, intSV j)]) (fun j => [(1000, .row 2 waySV (waysOf (ext1 S kd i (hops.take j)).list))]) []
      ⟨⟨rfl, rfl, rfl, rfl, rfl, rfl, rfl, rfl, rfl, rfl, rfl, rfl, rfl, rfl, trivial⟩, ⟨.inl rfl, rfl, trivial⟩, rfl, rfl⟩ ?_
    intro j hj
    ((first|refine rG Γ hm ?_|refine rD Γ hm (by kernel_rfl) ?_);(conv=>whnf);repeat((first|refine aF ?_|refine aT ?_);(first|refine rG Γ hm ?_|refine rD Γ hm (by kernel_rfl) ?_);conv=>whnf))
    refine ⟨fun h => ?_, fun h => ?_⟩
    · have hltj : j < hops.length := by simpa using h
      have hj0 : ((j : Nat) : Int).toNat < hops.length := by simpa using hltj
      obtain ⟨m, hml⟩ := (hm1 j).2
      have q5 := more_ext (hm1 j).1 hD hml mt.bk hlt (hops[((j : Nat) : Int).toNat]'hj0) (decide (kd = 1)) (decide (kd = 1)) (hinh _ (List.getElem_mem hj0))
      rw [rk, ← ext1_succ S kd i (h := hops[((j : Nat) : Int).toNat]'hj0) hltj rfl] at q5
      ((first|refine rG Γ hm ?_|refine rD Γ hm (by kernel_rfl) ?_);(conv=>whnf);repeat((first|refine aF ?_|refine aT ?_);(first|refine rG Γ hm ?_|refine rD Γ hm (by kernel_rfl) ?_);conv=>whnf))
      refine ⟨rfl, by omega, hj0, ?_⟩
      ((conv=>whnf);repeat((first|refine aF ?_|refine aT ?_);(first|refine rG Γ hm ?_|refine rD Γ hm (by kernel_rfl) ?_);conv=>whnf))
      refine stepD (good_call [(0, 1000), (1, 1001)] rfl F65 q5 rfl ⟨rfl, trivial⟩ rfl ⟨.inl rfl, .inr rfl, trivial⟩) (by kernel_rfl) rfl ?_
      ((first|refine rG Γ hm ?_|refine rD Γ hm (by kernel_rfl) ?_);(conv=>whnf);repeat((first|refine aF ?_|refine aT ?_);(first|refine rG Γ hm ?_|refine rD Γ hm (by kernel_rfl) ?_);conv=>whnf))
      refine ⟨(by kernel_rfl), ?_⟩
      ((conv=>whnf);repeat((first|refine aF ?_|refine aT ?_);(first|refine rG Γ hm ?_|refine rD Γ hm (by kernel_rfl) ?_);conv=>whnf))
      refine ⟨by unfold I64; omega, ?_⟩
      ((conv=>whnf);repeat((first|refine aF ?_|refine aT ?_);(first|refine rG Γ hm ?_|refine rD Γ hm (by kernel_rfl) ?_);conv=>whnf))
      exact G_next [(1000, 1001)] hltj ⟨⟨rfl, rfl, rfl, rfl, rfl, rfl, rfl, rfl, rfl, rfl, rfl, rfl, rfl, rfl, trivial⟩, ⟨.inl rfl, rfl, trivial⟩, rfl, rfl⟩
    have hje : j = hops.length := by have := of_decide_eq_false h; omega
    subst hje
    obtain ⟨hmA, mA, hmlA⟩ := hm1 hops.length
    rw [List.take_length] at hmA hmlA ⊢
    clear hm1
    ((first|refine rG Γ hm ?_|refine rD Γ hm (by kernel_rfl) ?_);(conv=>whnf);repeat((first|refine aF ?_|refine aT ?_);(first|refine rG Γ hm ?_|refine rD Γ hm (by kernel_rfl) ?_);conv=>whnf))
    refine callD0 qe F69 rfl rfl rfl (by kernel_rfl) rfl ?_
    ((first|refine rG Γ hm ?_|refine rD Γ hm (by kernel_rfl) ?_);(conv=>whnf);repeat((first|refine aF ?_|refine aT ?_);(first|refine rG Γ hm ?_|refine rD Γ hm (by kernel_rfl) ?_);conv=>whnf))
    refine callD0 q4 F71 rfl rfl rfl (by kernel_rfl) rfl ?_
    ((first|refine rG Γ hm ?_|refine rD Γ hm (by kernel_rfl) ?_);(conv=>whnf);repeat((first|refine aF ?_|refine aT ?_);(first|refine rG Γ hm ?_|refine rD Γ hm (by kernel_rfl) ?_);conv=>whnf))
    refine ⟨(by kernel_rfl), ?_⟩
    ((conv=>whnf);repeat((first|refine aF ?_|refine aT ?_);(first|refine rG Γ hm ?_|refine rD Γ hm (by kernel_rfl) ?_);conv=>whnf))
    have hleA : S.list.length ≤ (ext1 S kd i hops).list.length := by rw [hmlA, List.length_append]; omega
    rcases hat.2 with hkd | hkd
    · subst hkd
      rw [if_pos rfl] at hext
      rw [hext] at hlk
      clear hext
      generalize ext1 S 0 i hops = S1 at *
      have hm2 := fun j => Met.ext2 (i := i) (l := leads.take j) hmA ⟨by omega, by omega⟩ (fun h hh => hinr h (List.mem_of_mem_take hh))
      refine G_count leads.length (fun j => [(2, intSV to), (3, .ref 8 (netSV n) 0), (9, .osl 1000), (11, intSV i), (12, .ref 2 (waySV ⟨backT S.list i, false⟩) 0), (15, .sl 3 leadSV leads), (16, intSV j)]) (fun j => [(1000, .row 2 waySV (waysOf (ext2 S1 i (leads.take j)).list))]) []
        ⟨⟨rfl, rfl, rfl, rfl, rfl, rfl, rfl, rfl, rfl, rfl, rfl, rfl, rfl, rfl, trivial⟩, ⟨.inl rfl, rfl, trivial⟩, rfl, rfl⟩ ?_
      intro j hj
      ((first|refine rG Γ hm ?_|refine rD Γ hm (by kernel_rfl) ?_);(conv=>whnf);repeat((first|refine aF ?_|refine aT ?_);(first|refine rG Γ hm ?_|refine rD Γ hm (by kernel_rfl) ?_);conv=>whnf))
      refine ⟨fun h => ?_, fun h => ?_⟩
      · have hltj : j < leads.length := by simpa using h
        have hj0 : ((j : Nat) : Int).toNat < leads.length := by simpa using hltj
        obtain ⟨m, hml⟩ := (hm2 j).2
        have q5 := more_ext (hm2 j).1 hD (l := S.list) (m := mA ++ m) (by rw [hml, hmlA, List.append_assoc]) mt.bk hlt ⟨3, 0, (leads[((j : Nat) : Int).toNat]'hj0).domain, (leads[((j : Nat) : Int).toNat]'hj0).addr⟩ true false (hinr _ (List.getElem_mem hj0))
        rw [show (if true = true then (1 : Int) else 0) = 1 from rfl, ← ext2_succ S1 i (q := leads[((j : Nat) : Int).toNat]'hj0) hltj rfl] at q5
        ((first|refine rG Γ hm ?_|refine rD Γ hm (by kernel_rfl) ?_);(conv=>whnf);repeat((first|refine aF ?_|refine aT ?_);(first|refine rG Γ hm ?_|refine rD Γ hm (by kernel_rfl) ?_);conv=>whnf))
        refine ⟨rfl, by omega, hj0, ?_⟩
        ((conv=>whnf);repeat((first|refine aF ?_|refine aT ?_);(first|refine rG Γ hm ?_|refine rD Γ hm (by kernel_rfl) ?_);conv=>whnf))
        refine ⟨rfl, by omega, hj0, ?_⟩
        ((conv=>whnf);repeat((first|refine aF ?_|refine aT ?_);(first|refine rG Γ hm ?_|refine rD Γ hm (by kernel_rfl) ?_);conv=>whnf))
        refine stepD (good_call [(0, 1000), (1, 1001)] rfl F65 q5 rfl ⟨rfl, trivial⟩ rfl ⟨.inl rfl, .inr rfl, trivial⟩) (by kernel_rfl) rfl ?_
        ((first|refine rG Γ hm ?_|refine rD Γ hm (by kernel_rfl) ?_);(conv=>whnf);repeat((first|refine aF ?_|refine aT ?_);(first|refine rG Γ hm ?_|refine rD Γ hm (by kernel_rfl) ?_);conv=>whnf))
        refine ⟨(by kernel_rfl), ?_⟩
        ((conv=>whnf);repeat((first|refine aF ?_|refine aT ?_);(first|refine rG Γ hm ?_|refine rD Γ hm (by kernel_rfl) ?_);conv=>whnf))
        refine ⟨by unfold I64; omega, ?_⟩
        ((conv=>whnf);repeat((first|refine aF ?_|refine aT ?_);(first|refine rG Γ hm ?_|refine rD Γ hm (by kernel_rfl) ?_);conv=>whnf))
        exact G_next [(1000, 1001)] hltj ⟨⟨rfl, rfl, rfl, rfl, rfl, rfl, rfl, rfl, rfl, rfl, rfl, rfl, rfl, rfl, trivial⟩, ⟨.inl rfl, rfl, trivial⟩, rfl, rfl⟩
      · have hje : j = leads.length := by have := of_decide_eq_false h; omega
        subst hje
        obtain ⟨hmB, mB, hmlB⟩ := hm2 leads.length
        rw [List.take_length] at hmB hmlB ⊢
        have hleB : S1.list.length ≤ (ext2 S1 i leads).list.length := by rw [hmlB, List.length_append]; omega
        ((first|refine rG Γ hm ?_|refine rD Γ hm (by kernel_rfl) ?_);(conv=>whnf);repeat((first|refine aF ?_|refine aT ?_);(first|refine rG Γ hm ?_|refine rD Γ hm (by kernel_rfl) ?_);conv=>whnf))
        refine ⟨by unfold I64; omega, ?_⟩
        ((conv=>whnf);repeat((first|refine aF ?_|refine aT ?_);(first|refine rG Γ hm ?_|refine rD Γ hm (by kernel_rfl) ?_);conv=>whnf))
        exact G_whileN (ext2 S1 i leads, i + 1) [] ⟨hmB, by simp only; omega, by simp only; rw [show 2 * n.domains.length + 1 - (i + 1) = fuel by omega]; exact hlk⟩ (by simp only; omega) ⟨⟨rfl, rfl, rfl, rfl, rfl, rfl, rfl, rfl, trivial⟩, ⟨.inl rfl, rfl, trivial⟩, rfl, rfl⟩
    · subst hkd
      rw [if_neg (by decide)] at hext
      rw [hext] at hlk
      clear hext
      generalize ext1 S 1 i hops = S1 at *
      refine G_count 0 (fun j => [(2, intSV to), (3, .ref 8 (netSV n) 0), (9, .osl 1000), (11, intSV i), (12, .ref 2 (waySV ⟨backT S.list i, true⟩) 0), (15, .sl 3 leadSV leads), (16, intSV j)]) (fun j => [(1000, .row 2 waySV (waysOf S1.list))]) []
        ⟨⟨rfl, rfl, rfl, rfl, rfl, rfl, rfl, rfl, rfl, rfl, rfl, rfl, rfl, rfl, trivial⟩, ⟨.inl rfl, rfl, trivial⟩, rfl, rfl⟩ ?_
      intro j hj
      ((first|refine rG Γ hm ?_|refine rD Γ hm (by kernel_rfl) ?_);(conv=>whnf);repeat((first|refine aF ?_|refine aT ?_);(first|refine rG Γ hm ?_|refine rD Γ hm (by kernel_rfl) ?_);conv=>whnf))
      refine ⟨fun h => ?_, fun h => ?_⟩
      · ((first|refine rG Γ hm ?_|refine rD Γ hm (by kernel_rfl) ?_);(conv=>whnf);repeat((first|refine aF ?_|refine aT ?_);(first|refine rG Γ hm ?_|refine rD Γ hm (by kernel_rfl) ?_);conv=>whnf))
        refine ⟨by unfold I64; omega, ?_⟩
        ((conv=>whnf);repeat((first|refine aF ?_|refine aT ?_);(first|refine rG Γ hm ?_|refine rD Γ hm (by kernel_rfl) ?_);conv=>whnf))
        exact G_whileN (S1, i + 1) [] ⟨hmA, by simp only; omega, by simp only; rw [show 2 * n.domains.length + 1 - (i + 1) = fuel by omega]; exact hlk⟩ (by simp only; omega) ⟨⟨rfl, rfl, rfl, rfl, rfl, rfl, rfl, rfl, trivial⟩, ⟨.inl rfl, rfl, trivial⟩, rfl, rfl⟩
      · ((first|refine rG Γ hm ?_|refine rD Γ hm (by kernel_rfl) ?_);(conv=>whnf);repeat((first|refine aF ?_|refine aT ?_);(first|refine rG Γ hm ?_|refine rD Γ hm (by kernel_rfl) ?_);conv=>whnf))
        refine ⟨by unfold I64; omega, ?_⟩
        ((conv=>whnf);repeat((first|refine aF ?_|refine aT ?_);(first|refine rG Γ hm ?_|refine rD Γ hm (by kernel_rfl) ?_);conv=>whnf))
        exact G_whileN (S1, i + 1) [] ⟨hmA, by simp only; omega, by simp only; rw [show 2 * n.domains.length + 1 - (i + 1) = fuel by omega]; exact hlk⟩ (by simp only; omega) ⟨⟨rfl, rfl, rfl, rfl, rfl, rfl, rfl, rfl, trivial⟩, ⟨.inl rfl, rfl, trivial⟩, rfl, rfl⟩

end Go.Sy.YtlfopmhekhifoaaGreatDoor
