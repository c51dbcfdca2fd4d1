/-
  Contracts: ports and domains as texts. The symbolic layer, 29: loops with a state and a measure. Texts of numbers, domains, ports: how long. The document's numbers and addresses as texts. Numbers below 0 as texts. The document's numbers as texts, all of them. Contracts: a domain's members; a device's domain of a VLAN. Contracts: a device's domain of a VLAN; the other side of a link. Texts: cut, a byte's place, a prefix off; numbers read. The document's numbers read. Contracts: the document's answer of layer 15 (palingref15), 1. Contracts: the document's answer of layer 15 (palingref15), 2.
-/
import Derived.Test.YtjomehmhkcnadaaGreatDoorB4
import Derived.Test.YtjomehmhkcnadaaGreatDoorB3

namespace Go.Sy.YtjomehmhkcnadaaGreatDoor
open Go.Proofs
-- SIMP: placeB

attribute [local irreducible] Go.Sy.G Go.Sy.DR
set_option maxRecDepth 20000
set_option maxHeartbeats 4000000

/-- Names that are not endless. -/
def Named (n : Net) : Prop := (∀ d ∈ n.devices, d.name.size ≤ 300) ∧ ∀ p ∈ n.ports, p.name.size ≤ 300

theorem e_port {n : Net} (h : netRightB n = true) {i : Nat} (hi : i < n.ports.length) : portB n i n.ports[i] = true := by
  simp only [netRightB, Bool.and_eq_true] at h
  exact allB_iff.1 h.1.1.1.1.1.2 i hi
theorem e_dom {n : Net} (h : netRightB n = true) {i : Nat} (hi : i < n.domains.length) : bareB n i n.domains[i] = true := by
  simp only [netRightB, Bool.and_eq_true] at h
  exact allB_iff.1 h.1.1.1.1.1.1.1.2 i hi
theorem e_few {n : Net} (h : netRightB n = true) : n.devices.length ≤ 8 ∧ n.ports.length ≤ 40 ∧ n.links.length ≤ 20 ∧ n.domains.length ≤ 48 ∧ n.irbs.length ≤ 48 := by
  simp only [netRightB, fewB, Bool.and_eq_true, decide_eq_true_eq] at h
  omega
theorem e_port_dev {n : Net} (h : netRightB n = true) {i : Nat} (hi : i < n.ports.length) : 0 ≤ n.ports[i].dev ∧ n.ports[i].dev.toNat < n.devices.length := by
  have := e_port h hi
  simp only [portB, placeB, Bool.and_eq_true, decide_eq_true_eq] at this
  omega
theorem e_dom_facts {n : Net} (h : netRightB n = true) {i : Nat} (hi : i < n.domains.length) :
    (0 ≤ n.domains[i].dev ∧ n.domains[i].dev.toNat < n.devices.length) ∧ (1 ≤ n.domains[i].vlan ∧ n.domains[i].vlan ≤ 4094) ∧ (0 ≤ n.domains[i].vni ∧ n.domains[i].vni ≤ 16777215) ∧ (n.domains[i].irb = -1 ∨ 0 ≤ n.domains[i].irb ∧ n.domains[i].irb.toNat < n.irbs.length) := by
  have := e_dom h hi
  simp only [bareB, placeB, Bool.and_eq_true, Bool.or_eq_true, decide_eq_true_eq, beq_iff_eq] at this
  omega

theorem joinedS (l : List ByteArray) (h0 : l.length ≤ 1000000) (h1 : sizes l ≤ 1000000000) : Sy.Spec Tryz.prog 90 [.sl 1 strSV l] [] (strSV (joinT l ⟨#[]⟩)) [] := contract Γ hm 100 F90 Tryz.ntmps90 rfl fun F hF => by
  have q := strJoinS l ⟨#[]⟩ (by omega) (by omega) (by show 0 * l.length ≤ _; omega)
  generalize joinT l ⟨#[]⟩ = r at *
  ((conv=>whnf);repeat((first|refine aF ?_|refine aT ?_);(first|refine rG Γ hm ?_|refine rD Γ hm (by kernel_rfl) ?_);conv=>whnf))
  refine call0 q F75 rfl rfl rfl rfl rfl ?_
  ((first|refine rG Γ hm ?_|refine rD Γ hm (by kernel_rfl) ?_);(conv=>whnf);repeat((first|refine aF ?_|refine aT ?_);(first|refine rG Γ hm ?_|refine rD Γ hm (by kernel_rfl) ?_);conv=>whnf))
  exact done0 rfl (.cons .tmp .nil) rfl rfl

/-- A domain as a text, in a net that may be. -/
def domText (n : Net) (i : Int) : ByteArray := joinT [(nth n.devices (nth n.domains i).dev).name, ⟨#[47]⟩, numT (nth n.domains i).vlan] ⟨#[]⟩
def domT (n : Net) (i : Int) : ByteArray := if (0 ≤ i ∧ i < n.domains.length) ∧ netRightB n = true then domText n i else ⟨#[]⟩

theorem numL_short (m : Nat) (h : m < 10 ^ 18) : (numL m).length ≤ 19 := by
  rw [numL_nat, List.length_reverse]; exact revDigs_short 18 m h

theorem domTextS (n : Net) (hn : n.Fin) (hnm : Named n) (i : Int) : Sy.Spec Tryz.prog 56 [netSV n, intSV i] [] (strSV (domT n i)) [] := contract Γ hm 100 F56 Tryz.ntmps56 rfl fun F hF => by
  have hr := namesRightS n hn
  ((conv=>whnf);repeat((first|refine aF ?_|refine aT ?_);(first|refine rG Γ hm ?_|refine rD Γ hm (by kernel_rfl) ?_);conv=>whnf))
  refine ⟨fun h => ?_, fun h => ?_⟩
  · have h1 : i < 0 := of_decide_eq_true h
    rw [domT, if_neg (by omega)]
    ((first|refine rG Γ hm ?_|refine rD Γ hm (by kernel_rfl) ?_);(conv=>whnf);repeat((first|refine aF ?_|refine aT ?_);(first|refine rG Γ hm ?_|refine rD Γ hm (by kernel_rfl) ?_);conv=>whnf))
    exact done0 rfl (.cons .tmp .nil) rfl rfl
  have h1 : 0 ≤ i := by have := of_decide_eq_false h; omega
  refine G_box 2 8 (netSV n) rfl rfl rfl ?_
  ((first|refine rG Γ hm ?_|refine rD Γ hm (by kernel_rfl) ?_);(conv=>whnf);repeat((first|refine aF ?_|refine aT ?_);(first|refine rG Γ hm ?_|refine rD Γ hm (by kernel_rfl) ?_);conv=>whnf))
  refine ⟨fun h => ?_, fun h => ?_⟩
  · have h2 : n.domains.length ≤ i := of_decide_eq_true h
    rw [domT, if_neg (by omega)]
    ((first|refine rG Γ hm ?_|refine rD Γ hm (by kernel_rfl) ?_);(conv=>whnf);repeat((first|refine aF ?_|refine aT ?_);(first|refine rG Γ hm ?_|refine rD Γ hm (by kernel_rfl) ?_);conv=>whnf))
    exact done0 rfl (.cons .tmp .nil) rfl rfl
  have h2 : i < n.domains.length := by have := of_decide_eq_false h; omega
  ((first|refine rG Γ hm ?_|refine rD Γ hm (by kernel_rfl) ?_);(conv=>whnf);repeat((first|refine aF ?_|refine aT ?_);(first|refine rG Γ hm ?_|refine rD Γ hm (by kernel_rfl) ?_);conv=>whnf))
  refine call0 hr F18 rfl rfl rfl rfl rfl ?_
  cases hb : netRightB n
  · rw [domT, if_neg (by simp [hb])]
    ((first|refine rG Γ hm ?_|refine rD Γ hm (by kernel_rfl) ?_);(conv=>whnf);repeat((first|refine aF ?_|refine aT ?_);(first|refine rG Γ hm ?_|refine rD Γ hm (by kernel_rfl) ?_);conv=>whnf))
    exact done0 rfl (.cons .tmp .nil) rfl rfl
  rw [domT, if_pos ⟨⟨h1, h2⟩, hb⟩]
  have hk : i.toNat < n.domains.length := by omega
  have hf := e_dom_facts hb hk
  have e1 : nth n.domains i = n.domains[i.toNat] := nth_eq hk
  rw [domText, e1]
  obtain ⟨d, hd⟩ : ∃ d, n.domains[i.toNat] = d := ⟨_, rfl⟩
  rw [hd] at hf ⊢
  have e2 : nth n.devices d.dev = n.devices[d.dev.toNat] := nth_eq hf.1.2
  rw [e2]
  have hdn := hnm.1 _ (List.getElem_mem hf.1.2)
  obtain ⟨x, hx⟩ : ∃ x, n.devices[d.dev.toNat]'hf.1.2 = x := ⟨_, rfl⟩
  rw [hx] at hdn ⊢
  obtain ⟨v, hv⟩ : ∃ v : Nat, d.vlan = v := ⟨d.vlan.toNat, by omega⟩
  have q := numTextS v (by omega)
  have hs := numL_short v (by omega)
  have hsz : (numT v).size = (numL v).length := mkT_size _
  have q2 := joinedS [x.name, ⟨#[47]⟩, numT v] (by simp) (by
    show x.name.size + (1 + ((numT v).size + 0)) ≤ _
    omega)
  rw [← hv] at q q2
  generalize numT d.vlan = nv at *
  generalize joinT [x.name, ⟨#[47]⟩, nv] ⟨#[]⟩ = r at *
  ((first|refine rG Γ hm ?_|refine rD Γ hm (by kernel_rfl) ?_);(conv=>whnf);repeat((first|refine aF ?_|refine aT ?_);(first|refine rG Γ hm ?_|refine rD Γ hm (by kernel_rfl) ?_);conv=>whnf))
  refine ⟨rfl, h1, hk, ?_⟩
  rw [hd]
  ((conv=>whnf);repeat((first|refine aF ?_|refine aT ?_);(first|refine rG Γ hm ?_|refine rD Γ hm (by kernel_rfl) ?_);conv=>whnf))
  refine ⟨rfl, hf.1.1, hf.1.2, ?_⟩
  rw [hx]
  ((conv=>whnf);repeat((first|refine aF ?_|refine aT ?_);(first|refine rG Γ hm ?_|refine rD Γ hm (by kernel_rfl) ?_);conv=>whnf))
  refine callD0 q F29 rfl rfl rfl (by kernel_rfl) rfl ?_
  ((first|refine rG Γ hm ?_|refine rD Γ hm (by kernel_rfl) ?_);(conv=>whnf);repeat((first|refine aF ?_|refine aT ?_);(first|refine rG Γ hm ?_|refine rD Γ hm (by kernel_rfl) ?_);conv=>whnf))
  refine callDK [35] q2 F90 rfl (.cons (.lit rfl rfl rfl) .nil) rfl (by kernel_rfl) rfl ?_
  ((first|refine rG Γ hm ?_|refine rD Γ hm (by kernel_rfl) ?_);(conv=>whnf);repeat((first|refine aF ?_|refine aT ?_);(first|refine rG Γ hm ?_|refine rD Γ hm (by kernel_rfl) ?_);conv=>whnf))
  refine ⟨(by kernel_rfl), ?_⟩
  ((conv=>whnf);repeat((first|refine aF ?_|refine aT ?_);(first|refine rG Γ hm ?_|refine rD Γ hm (by kernel_rfl) ?_);conv=>whnf))
  exact done0 rfl (.cons .tmp .nil) rfl rfl

/-- A port as a text, in a net that may be. -/
def portText (n : Net) (i : Int) : ByteArray := (nth n.devices (nth n.ports i).dev).name ++ ⟨#[46]⟩ ++ (nth n.ports i).name
def portT (n : Net) (i : Int) : ByteArray := if (0 ≤ i ∧ i < n.ports.length) ∧ netRightB n = true then portText n i else ⟨#[]⟩

theorem size_app (a b : ByteArray) : (a ++ b).size = a.size + b.size := by simp

end Go.Sy.YtjomehmhkcnadaaGreatDoor

namespace Go.Sy

def WhileInv (C : Cx) {β : Type} (I : β → Prop) (L : β → List (Nat × SV)) (O : β → Obs) (μ : β → Nat) (x : β) (a : Act) (w : World) : Prop :=
  ∃ x' : {y : β // I y}, ∃ κ, μ x'.1 < μ x ∧ St C.F C.n (mkS (L x'.1) (O x'.1)) κ a w

theorem G_while {C : Cx} {k : List KI} {s : SS} {body : Code} {β : Type} (I : β → Prop) (L : β → List (Nat × SV)) (O : β → Obs) (μ : β → Nat) (x₀ : β) (ρ : List (Nat × Nat)) (h0 : I x₀) (hsub : Sub C s ρ (L x₀) (O x₀))
    (h : ∀ x, I x → G C (.code body :: .inv (WhileInv C I L O μ x) :: k) (mkS (L x) (O x))) : G C (.code (.loop body) :: k) s :=
  G_loop (α := {y : β // I y}) (fun x => L x.1) (fun x => O x.1) (fun x => μ x.1) ⟨x₀, h0⟩ ρ hsub (fun x => h x.1 x.2)

theorem G_whileN {C : Cx} {k : List KI} {s : SS} {β : Type} {I : β → Prop} {L : β → List (Nat × SV)} {O : β → Obs} {μ : β → Nat} {x : β} (x' : β) (ρ : List (Nat × Nat)) (h' : I x') (hμ : μ x' < μ x) (hsub : Sub C s ρ (L x') (O x')) :
    G C (.inv (WhileInv C I L O μ x) :: k) s := fun _ _ _ hs => ⟨⟨x', h'⟩, _, hμ, hsub.st hs⟩

/-- A row goes over to another name, wherever it is held; the old name is given up. -/
theorem G_rename {C : Cx} {kk : List KI} {s : SS} (k d : Nat) {sz : Nat} {α : Type} {e : α → SV} {l : List α} (h : s.h k = .row sz e l) (hd : s.h d = .fresh) (hkd : k ≠ d)
    (hg : G C kk ⟨fun i => frz k (.osl d) (s.σ i), upd (fun j => bif Nat.beq j k then .non else frzO k (.osl d) (s.h j)) d (.row sz e l)⟩) : G C kk s := fun κ a w hs => by
  have hob := hs.obj k
  rw [h] at hob
  have hnew : κ d = .new := by have := hs.obj d; rwa [hd] at this
  have fin : ∀ κ' : Ka, (∀ j, j ≠ k → j ≠ d → κ' j = κ j) → Step (fun j => j = k ∨ j = d) κ w κ' w → Inv κ' w → (∀ v, Rd κ w (.osl k) v → Rd κ' w (.osl d) v) → ObOK κ' w d (.row sz e l) → den C.P C.B kk .normal a w := by
    intro κ' hne st inv hv ho
    refine hg κ' a w ⟨hs.defers, hs.size, inv, hs.ctx.step inv st, fun j => frz_ok st hv _ _ (hs.slot j), fun j => ?_⟩
    show ObOK κ' w j (upd (fun j => bif Nat.beq j k then .non else frzO k (.osl d) (s.h j)) d (.row sz e l) j)
    by_cases hj : j = d
    · subst hj; rw [upd_self]; exact ho
    · rw [upd_ne _ _ hj]
      by_cases hj2 : j = k
      · subst hj2; rw [show Nat.beq j j = true from Nat.beq_refl j]; trivial
      · rw [show Nat.beq j k = false from by cases hb : Nat.beq j k with | false => rfl | true => exact absurd (Nat.eq_of_beq_eq_true hb) hj2]
        have hb := ObOK.step st (fun e => e.elim hj2 hj) _ (hs.obj j)
        have h0 := hs.obj j
        show ObOK κ' w j (frzO k (.osl d) (s.h j))
        cases hh : s.h j with
        | box m =>
          rw [hh] at h0 hb
          obtain ⟨b, cs, T, fr, e1, e2, e3, e4, e5⟩ := h0
          exact ⟨b, cs, T, fr, (hne j hj2 hj).trans e1, e2, e3, e4, frzL_ok st hv m cs e5⟩
        | fresh => rw [hh] at hb; exact hb
        | non => rw [hh] at hb; exact hb
        | row sz' e' l' => rw [hh] at hb; exact hb
        | lit sz' svs => rw [hh] at hb; exact hb
        | glob sz' x' g' => rw [hh] at hb; exact hb
  rcases hob with ⟨h1, rfl⟩ | ⟨b, cap, cs, T, fr, e1, e2, e3, e4, e5, e6⟩
  · have st := step_new (inv_kill hs.inv (some k)) (by show setK κ k .dead d = .new; rw [setK_ne _ _ (Ne.symm hkd)]; exact hnew) (e := .nil) (Grew.refl w) (fun b hb => by cases hb)
    refine fin _ (fun j h1 h2 => by rw [setK_ne _ _ h2]; exact setK_ne _ _ h1) (((step_kill (some k)).weaken (fun j hj => .inl (Option.some.inj hj).symm)).trans (st.1.weaken (fun j hj => .inr hj))) st.2 (fun v hv => ?_) (.inl ⟨setK_self _ _ _, rfl⟩)
    simp only [Rd, h1] at hv
    simp [Rd, setK_self, hv]
  · obtain ⟨st, inv⟩ := step_over (n' := l.length) (w' := w) hs.inv e1 hnew rfl rfl rfl rfl (fun _ _ => rfl)
    refine fin _ (fun j h1 h2 => by rw [setK_ne _ _ h2]; exact setK_ne _ _ h1) st inv (fun v hv => ?_) (.inr ⟨b, cap, cs, T, fr, setK_self _ _ _, e2, e3, e4, e5, fun i x hx => ?_⟩)
    · simp only [Rd, e1] at hv
      simp [Rd, setK_self, hv]
    · obtain ⟨q1, u, q2, q3⟩ := e6 i x hx
      exact ⟨q1, u, RdD.keep st.keeps _ _ q2, q3⟩

/-- A literal's row seen by its items. -/
theorem G_litR {C : Cx} {k : List KI} {s : SS} (d : Nat) {sz : Nat} {α : Type} (e : α → SV) (l : List α) {svs : List SV} (h : s.h d = .lit sz svs) (hl : l.map e = svs) (hg : G C k ⟨s.σ, upd s.h d (.row sz e l)⟩) : G C k s := fun κ a w hs => by
  refine hg κ a w ⟨hs.defers, hs.size, hs.inv, hs.ctx, hs.slot, fun j => ?_⟩
  show ObOK κ w j (upd s.h d (.row sz e l) j)
  by_cases hj : j = d
  · subst hj
    rw [upd_self]
    have hob := hs.obj j
    rw [h] at hob
    have hlen : l.length = svs.length := by rw [← hl, List.length_map]
    obtain ⟨b, cap, cs, T, fr, e1, e2, e3, e4, e5, e6⟩ := hob
    exact .inr ⟨b, cap, cs, T, fr, by rw [hlen]; exact e1, e2, e3, e4, by omega, fun i x hx => by rw [hlen]; exact e6 i x (rowF_lit hl i x hx)⟩
  · rw [upd_ne _ _ hj]; exact hs.obj j

end Go.Sy

namespace Go.Sy.YtjomehmhkcnadaaGreatDoor
open Go.Proofs

theorem tdiv10 (n : Nat) (h : n < 1000000000000000000) : IntKind.i64.wrap ((n : Int).tdiv 10) = ((n / 10 : Nat) : Int) := by
  rw [Int.tdiv_eq_ediv_of_nonneg (by omega), IntKind.wrap_i64]; omega
theorem tmod10 (n : Nat) : (n : Int).tmod 10 = ((n % 10 : Nat) : Int) := by
  rw [Int.tmod_eq_emod_of_nonneg (by omega)]; omega
theorem dig8 (n : Nat) : IntKind.u8.wrap (48 + ((n % 10 : Nat) : Int)) = ((UInt8.ofNat (48 + n % 10)).toNat : Int) := by
  rw [IntKind.wrap_u8]
  simp

theorem revDigs_rev (n : Nat) : (revDigs n).reverse = (if n < 10 then [] else (revDigs (n / 10)).reverse) ++ [UInt8.ofNat (48 + n % 10)] := by
  rw [revDigs.eq_1 n]
  split
  · rw [Nat.mod_eq_of_lt (by assumption)]; rfl
  · rw [List.reverse_cons]

theorem joinT_size (l : List ByteArray) (sep : ByteArray) : (joinT l sep).size ≤ sizes l + sep.size * l.length := by
  have := join_le (l.map (·.data.toList)) sep.data.toList
  have e : (l.map (·.data.toList)).map (·.length) = l.map (·.size) := by
    rw [List.map_map]
    apply List.map_congr_left
    intro a _
    rfl
  rw [e, List.length_map] at this
  have e2 : (joinT l sep).size = (Lib.join (l.map (·.data.toList)) sep.data.toList).length := by simp [joinT, ByteArray.size]
  rw [e2]
  exact this

theorem numT_size {n : Int} (h : 0 ≤ n ∧ n < 1000000000000000000) : (numT n).size ≤ 19 := by
  obtain ⟨m, rfl⟩ := Int.eq_ofNat_of_zero_le h.1
  rw [numT, mkT_size]
  exact numL_short m (by omega)

theorem domT_size {n : Net} (hnm : Named n) (i : Int) : (domT n i).size ≤ 400 := by
  rw [domT]
  split
  · rename_i hc
    have hk : i.toNat < n.domains.length := by omega
    have hf := e_dom_facts hc.2 hk
    rw [domText, nth_eq hk, nth_eq hf.1.2]
    have h1 := hnm.1 _ (List.getElem_mem hf.1.2)
    have h2 := numT_size (n := (n.domains[i.toNat]'hk).vlan) (by omega)
    refine Nat.le_trans (joinT_size _ _) ?_
    have e : sizes [(n.devices[(n.domains[i.toNat]'hk).dev.toNat]'hf.1.2).name, ⟨#[47]⟩, numT (n.domains[i.toNat]'hk).vlan] = (n.devices[(n.domains[i.toNat]'hk).dev.toNat]'hf.1.2).name.size + (1 + ((numT (n.domains[i.toNat]'hk).vlan).size + 0)) := rfl
    have e2 : (⟨#[]⟩ : ByteArray).size = 0 := rfl
    rw [e, e2]
    omega
  · exact Nat.zero_le _

theorem portT_size {n : Net} (hnm : Named n) (i : Int) : (portT n i).size ≤ 700 := by
  rw [portT]
  split
  · rename_i hc
    have hk : i.toNat < n.ports.length := by omega
    have hd := e_port_dev hc.2 hk
    rw [portText, nth_eq hk, nth_eq hd.2]
    have h1 := hnm.1 _ (List.getElem_mem hd.2)
    have h2 := hnm.2 _ (List.getElem_mem hk)
    rw [ByteArray.size_append, ByteArray.size_append]
    show _ + 1 + _ ≤ 700
    omega
  · exact Nat.zero_le _

end Go.Sy.YtjomehmhkcnadaaGreatDoor

namespace Go.Sy.YtjomehmhkcnadaaGreatDoor
open Go.Proofs

attribute [local irreducible] Go.Sy.G Go.Sy.DR
set_option maxRecDepth 20000
set_option maxHeartbeats 4000000

theorem mkT_append (a b : List UInt8) : mkT a ++ mkT b = mkT (a ++ b) := by
  apply ext_list
  simp [mkT]

theorem numT_nat (m : Nat) : numT m = mkT (revDigs m).reverse := by rw [numT, numL_nat]

theorem u64div10 (n : Nat) (h : n < 1000000000000000000) : IntKind.u64.wrap ((n : Int).tdiv 10) = ((n / 10 : Nat) : Int) := by
  rw [Int.tdiv_eq_ediv_of_nonneg (by omega), IntKind.wrap_u64]; omega

theorem refDigitsS (m : Nat) (hmm : m < 1000000000000000000) : Sy.Spec Tryz.prog 76 [u64SV m] [] (strSV (numT m)) [] := contract Γ hm 100 F76 Tryz.ntmps76 rfl fun F hF => by
  have hlen : (revDigs m).length ≤ 19 := revDigs_short 18 m (by omega)
  rw [numT_nat]
  obtain ⟨D, hD⟩ : ∃ D, (revDigs m).reverse = D := ⟨_, rfl⟩
  have hDl : D.length ≤ 19 := by rw [← hD, List.length_reverse]; exact hlen
  rw [hD]
  ((conv=>whnf);repeat((first|refine aF ?_|refine aT ?_);(first|refine rG Γ hm ?_|refine rD Γ hm (by kernel_rfl) ?_);conv=>whnf))
  refine G_while (fun x : Nat × List UInt8 => D = (revDigs x.1).reverse ++ x.2 ∧ x.1 ≤ m) (fun x => [(0, u64SV x.1), (3, strSV (mkT x.2))]) (fun _ => []) (fun x => x.1) (m, []) [] ⟨by rw [List.append_nil]; exact hD.symm, Nat.le_refl _⟩ ⟨⟨rfl, rfl, rfl, rfl, trivial⟩, trivial, rfl, rfl⟩ ?_
  clear hD
  rintro ⟨u, t⟩ ⟨hD, hu⟩
  dsimp only at hD hu ⊢
  have htl : t.length ≤ 19 := by rw [hD, List.length_append] at hDl; omega
  have hts : (mkT t).size ≤ 19 := by rw [mkT_size]; exact htl
  have hr := revDigs_rev u
  ((first|refine rG Γ hm ?_|refine rD Γ hm (by kernel_rfl) ?_);(conv=>whnf);repeat((first|refine aF ?_|refine aT ?_);(first|refine rG Γ hm ?_|refine rD Γ hm (by kernel_rfl) ?_);conv=>whnf))
  refine ⟨fun h => ?_, fun h => ?_⟩
  · have h1 : ¬ u < 10 := by have := of_decide_eq_true h; omega
    rw [if_neg h1] at hr
    ((first|refine rG Γ hm ?_|refine rD Γ hm (by kernel_rfl) ?_);(conv=>whnf);repeat((first|refine aF ?_|refine aT ?_);(first|refine rG Γ hm ?_|refine rD Γ hm (by kernel_rfl) ?_);conv=>whnf))
    refine ⟨by decide, ?_⟩
    ((conv=>whnf);repeat((first|refine aF ?_|refine aT ?_);(first|refine rG Γ hm ?_|refine rD Γ hm (by kernel_rfl) ?_);conv=>whnf))
    rw [tmod10 u]
    have hd : IntKind.u8.wrap (IntKind.u64.wrap (48 + ((u % 10 : Nat) : Int))) = ((UInt8.ofNat (48 + u % 10)).toNat : Int) := by
      rw [show IntKind.u64.wrap (48 + ((u % 10 : Nat) : Int)) = 48 + ((u % 10 : Nat) : Int) by rw [IntKind.wrap_u64]; omega]
      exact dig8 u
    rw [hd]
    refine stepOp (good_stringT Γ.toTy (bs := [UInt8.ofNat (48 + u % 10)]) rfl rfl rfl rfl rfl rfl rfl (.lit (e := byteSV) (l := [UInt8.ofNat (48 + u % 10)]) rfl rfl)) rfl rfl ?_
    ((first|refine rG Γ hm ?_|refine rD Γ hm (by kernel_rfl) ?_);(conv=>whnf);repeat((first|refine aF ?_|refine aT ?_);(first|refine rG Γ hm ?_|refine rD Γ hm (by kernel_rfl) ?_);conv=>whnf))
    refine ⟨by show 1 + (mkT t).size ≤ _; omega, ?_⟩
    ((conv=>whnf);repeat((first|refine aF ?_|refine aT ?_);(first|refine rG Γ hm ?_|refine rD Γ hm (by kernel_rfl) ?_);conv=>whnf))
    refine ⟨by decide, ?_⟩
    ((conv=>whnf);repeat((first|refine aF ?_|refine aT ?_);(first|refine rG Γ hm ?_|refine rD Γ hm (by kernel_rfl) ?_);conv=>whnf))
    rw [u64div10 u (by omega)]
    refine G_whileN (u / 10, UInt8.ofNat (48 + u % 10) :: t) [] ⟨by rw [hD, hr]; simp, by dsimp only; omega⟩ (by dsimp only; omega) ⟨⟨rfl, rfl, congrArg strSV ?_, rfl, trivial⟩, trivial, rfl, rfl⟩
    exact mkT_append [_] t
  · have h1 : u < 10 := by have := of_decide_eq_false h; omega
    rw [if_pos h1, List.nil_append] at hr
    have hd : IntKind.u8.wrap (IntKind.u64.wrap (48 + ((u % 10 : Nat) : Int))) = ((UInt8.ofNat (48 + u % 10)).toNat : Int) := by
      rw [show IntKind.u64.wrap (48 + ((u % 10 : Nat) : Int)) = 48 + ((u % 10 : Nat) : Int) by rw [IntKind.wrap_u64]; omega]
      exact dig8 u
    rw [Nat.mod_eq_of_lt h1] at hr hd
    ((first|refine rG Γ hm ?_|refine rD Γ hm (by kernel_rfl) ?_);(conv=>whnf);repeat((first|refine aF ?_|refine aT ?_);(first|refine rG Γ hm ?_|refine rD Γ hm (by kernel_rfl) ?_);conv=>whnf))
    rw [hd]
    refine stepOp (good_stringT Γ.toTy (bs := [UInt8.ofNat (48 + u)]) rfl rfl rfl rfl rfl rfl rfl (.lit (e := byteSV) (l := [UInt8.ofNat (48 + u)]) rfl rfl)) rfl rfl ?_
    ((first|refine rG Γ hm ?_|refine rD Γ hm (by kernel_rfl) ?_);(conv=>whnf);repeat((first|refine aF ?_|refine aT ?_);(first|refine rG Γ hm ?_|refine rD Γ hm (by kernel_rfl) ?_);conv=>whnf))
    refine ⟨by show 1 + (mkT t).size ≤ _; omega, ?_⟩
    ((conv=>whnf);repeat((first|refine aF ?_|refine aT ?_);(first|refine rG Γ hm ?_|refine rD Γ hm (by kernel_rfl) ?_);conv=>whnf))
    refine done0 rfl (.cons .tmp .nil) (congrArg strSV ?_) rfl
    rw [hD, hr]
    exact (mkT_append [_] t).symm

theorem refNumTextS (m : Nat) (hmm : m < 1000000000000000000) : Sy.Spec Tryz.prog 33 [intSV m] [] (strSV (numT m)) [] := contract Γ hm 100 F33 Tryz.ntmps33 rfl fun F hF => by
  have q := refDigitsS m hmm
  ((conv=>whnf);repeat((first|refine aF ?_|refine aT ?_);(first|refine rG Γ hm ?_|refine rD Γ hm (by kernel_rfl) ?_);conv=>whnf))
  rw [show IntKind.u64.wrap (m : Int) = m by rw [IntKind.wrap_u64]; omega]
  refine call0 q F76 rfl rfl rfl rfl rfl ?_
  ((first|refine rG Γ hm ?_|refine rD Γ hm (by kernel_rfl) ?_);(conv=>whnf);repeat((first|refine aF ?_|refine aT ?_);(first|refine rG Γ hm ?_|refine rD Γ hm (by kernel_rfl) ?_);conv=>whnf))
  exact done0 rfl (.cons .tmp .nil) rfl rfl

end Go.Sy.YtjomehmhkcnadaaGreatDoor

namespace Go.Sy.YtjomehmhkcnadaaGreatDoor
open Go.Proofs

theorem numL_neg (m : Nat) (h : 0 < m) : numL (-(m : Int)) = (revDigs m ++ [45]).reverse := by
  rw [numL, if_pos (by omega)]
  have : (-(m : Int)).natAbs = m := by omega
  rw [this]

set_option maxRecDepth 20000 in
theorem numTextNegS (m : Nat) (h0 : 0 < m) (hb : m ≤ 9223372036854775808) : Sy.Spec Tryz.prog 29 [intSV (-(m : Int))] [] (strSV (numT (-(m : Int)))) [] := contract Γ hm 100 F29 Tryz.ntmps29 rfl fun F hF => by
  have hpos := revDigs_pos m
  have hlen := fun j => revDigs_len j m
  have hget := fun j => revDigs_get j m
  have hsh : (revDigs m).length ≤ 20 := revDigs_short 19 m (by omega)
  have w1 : IntKind.u64.wrap (0 - IntKind.u64.wrap (-(m : Int))) = m := by rw [IntKind.wrap_u64, IntKind.wrap_u64]; omega
  rw [numT, numL_neg m h0]
  generalize revDigs m = D at *
  ((conv=>whnf);repeat((first|refine aF ?_|refine aT ?_);(first|refine rG Γ hm ?_|refine rD Γ hm (by kernel_rfl) ?_);conv=>whnf))
  refine ⟨fun _ => ?_, fun h => absurd (of_decide_eq_false h) (by omega)⟩
  refine G_adopt 3 1000 1 byteSV rfl rfl ?_
  ((first|refine rG Γ hm ?_|refine rD Γ hm (by kernel_rfl) ?_);(conv=>whnf);repeat((first|refine aF ?_|refine aT ?_);(first|refine rG Γ hm ?_|refine rD Γ hm (by kernel_rfl) ?_);conv=>whnf))
  refine G_count D.length (fun j => [(0, intSV (-(m : Int))), (3, .osl 1000), (4, u64SV (m / 10 ^ j : Nat)), (5, boolSV (decide (j < D.length)))]) (fun j => [(1000, .row 1 byteSV (D.take j))]) []
    ⟨⟨rfl, rfl, rfl, rfl, congrArg (fun z => SV.val (.int .u64 z)) (by simpa using w1.symm), rfl, congrArg boolSV (decide_eq_true hpos), rfl, trivial⟩, ⟨.inl rfl, rfl, trivial⟩, rfl, rfl⟩ ?_
  intro j hj
  ((first|refine rG Γ hm ?_|refine rD Γ hm (by kernel_rfl) ?_);(conv=>whnf);repeat((first|refine aF ?_|refine aT ?_);(first|refine rG Γ hm ?_|refine rD Γ hm (by kernel_rfl) ?_);conv=>whnf))
  refine ⟨fun h => ?_, fun h => ?_⟩
  · have hlt : j < D.length := of_decide_eq_true h
    have hgj := hget j hlt
    have hlj := hlen j
    have e : m / 10 ^ (j + 1) = m / 10 ^ j / 10 := by rw [Nat.div_div_eq_div_mul, Nat.pow_succ]
    have hq : m / 10 ^ j ≤ m := Nat.div_le_self _ _
    rw [e] at hlj
    ((first|refine rG Γ hm ?_|refine rD Γ hm (by kernel_rfl) ?_);(conv=>whnf);repeat((first|refine aF ?_|refine aT ?_);(first|refine rG Γ hm ?_|refine rD Γ hm (by kernel_rfl) ?_);conv=>whnf))
    refine ⟨by decide, ?_⟩
    ((conv=>whnf);repeat((first|refine aF ?_|refine aT ?_);(first|refine rG Γ hm ?_|refine rD Γ hm (by kernel_rfl) ?_);conv=>whnf))
    refine stepOp (good_appendT Γ.toTy 23 rfl rfl rfl rfl rfl (.row rfl) (.lit (l := [D[j]]) rfl ?_) (by simp) ?_ ?_) rfl rfl ?_
    · rw [hgj]
      simp only [List.map_cons, List.map_nil, byteSV]
      congr 3
      generalize m / 10 ^ j = q at *
      rw [Int.tmod_eq_emod_of_nonneg (Int.natCast_nonneg _), IntKind.wrap_u64, IntKind.wrap_u8]
      simp
    · simp; omega
    · simp; omega
    ((first|refine rG Γ hm ?_|refine rD Γ hm (by kernel_rfl) ?_);(conv=>whnf);repeat((first|refine aF ?_|refine aT ?_);(first|refine rG Γ hm ?_|refine rD Γ hm (by kernel_rfl) ?_);conv=>whnf))
    refine ⟨by decide, ?_⟩
    ((conv=>whnf);repeat((first|refine aF ?_|refine aT ?_);(first|refine rG Γ hm ?_|refine rD Γ hm (by kernel_rfl) ?_);conv=>whnf))
    refine G_next [(1000, 23)] hlt ⟨⟨rfl, rfl, rfl, rfl, congrArg (fun z => SV.val (.int .u64 z)) ?_, rfl, congrArg boolSV ?_, rfl, trivial⟩, ⟨.inl (congrArg (Ob.row 1 byteSV) (List.take_succ_eq_append_getElem hlt)), rfl, trivial⟩, rfl, rfl⟩
    · rw [e, Int.tdiv_eq_ediv_of_nonneg (Int.natCast_nonneg _), IntKind.wrap_u64]
      generalize m / 10 ^ j = q at *
      omega
    · rw [Int.tdiv_eq_ediv_of_nonneg (Int.natCast_nonneg _), IntKind.wrap_u64]
      generalize m / 10 ^ j = q at *
      refine decide_eq_decide.2 ?_
      omega
  · have : j = D.length := by have := of_decide_eq_false h; omega
    subst this
    rw [List.take_length]
    ((first|refine rG Γ hm ?_|refine rD Γ hm (by kernel_rfl) ?_);(conv=>whnf);repeat((first|refine aF ?_|refine aT ?_);(first|refine rG Γ hm ?_|refine rD Γ hm (by kernel_rfl) ?_);conv=>whnf))
    refine ⟨fun _ => ?_, fun h => absurd (of_decide_eq_false h) (by omega)⟩
    ((first|refine rG Γ hm ?_|refine rD Γ hm (by kernel_rfl) ?_);(conv=>whnf);repeat((first|refine aF ?_|refine aT ?_);(first|refine rG Γ hm ?_|refine rD Γ hm (by kernel_rfl) ?_);conv=>whnf))
    refine stepOp (good_appendT Γ.toTy 30 rfl rfl rfl rfl rfl (.row rfl) (.lit (e := byteSV) (l := [45]) rfl rfl) (by simp) (by simp; omega) (by simp; omega)) rfl rfl ?_
    have hDl : (D ++ [45]).length = D.length + 1 := by simp
    generalize D ++ [45] = D at *
    ((first|refine rG Γ hm ?_|refine rD Γ hm (by kernel_rfl) ?_);(conv=>whnf);repeat((first|refine aF ?_|refine aT ?_);(first|refine rG Γ hm ?_|refine rD Γ hm (by kernel_rfl) ?_);conv=>whnf))
    refine ⟨by unfold I64; omega, ?_⟩
    ((conv=>whnf);repeat((first|refine aF ?_|refine aT ?_);(first|refine rG Γ hm ?_|refine rD Γ hm (by kernel_rfl) ?_);conv=>whnf))
    refine G_count (D.length / 2) (fun j => [(3, .osl 1000), (6, intSV j), (7, intSV (D.length - 1 - j : Nat))]) (fun j => [(1000, .row 1 byteSV (revU D j))]) [(1000, 30)]
      ⟨⟨rfl, rfl, rfl, rfl, congrArg (fun z => SV.val (.int .i64 z)) (by omega), rfl, trivial⟩, ⟨.inl (congrArg (Ob.row 1 byteSV) (revU_zero D)), rfl, trivial⟩, rfl, rfl⟩ ?_
    intro i hi
    have hul := revU_length D i
    ((first|refine rG Γ hm ?_|refine rD Γ hm (by kernel_rfl) ?_);(conv=>whnf);repeat((first|refine aF ?_|refine aT ?_);(first|refine rG Γ hm ?_|refine rD Γ hm (by kernel_rfl) ?_);conv=>whnf))
    refine ⟨fun h2 => ?_, fun h2 => ?_⟩
    · have hlt : 2 * i + 1 < D.length := by have := of_decide_eq_true h2; omega
      obtain ⟨u, hu⟩ : ∃ u, revU D i = u := ⟨_, rfl⟩
      obtain ⟨k, hk⟩ : ∃ k, D.length - 1 - i = k := ⟨_, rfl⟩
      rw [hu] at hul
      have hs := revU_next hu hlt hk (by omega) (by omega)
      rw [hu, hk]
      ((first|refine rG Γ hm ?_|refine rD Γ hm (by kernel_rfl) ?_);(conv=>whnf);repeat((first|refine aF ?_|refine aT ?_);(first|refine rG Γ hm ?_|refine rD Γ hm (by kernel_rfl) ?_);conv=>whnf))
      refine ⟨by omega, by omega, ?_⟩
      ((conv=>whnf);repeat((first|refine aF ?_|refine aT ?_);(first|refine rG Γ hm ?_|refine rD Γ hm (by kernel_rfl) ?_);conv=>whnf))
      refine ⟨rfl, by omega, ?_⟩
      ((conv=>whnf);repeat((first|refine aF ?_|refine aT ?_);(first|refine rG Γ hm ?_|refine rD Γ hm (by kernel_rfl) ?_);conv=>whnf))
      refine ⟨by omega, by omega, ?_⟩
      ((conv=>whnf);repeat((first|refine aF ?_|refine aT ?_);(first|refine rG Γ hm ?_|refine rD Γ hm (by kernel_rfl) ?_);conv=>whnf))
      refine ⟨rfl, by omega, ?_⟩
      ((conv=>whnf);repeat((first|refine aF ?_|refine aT ?_);(first|refine rG Γ hm ?_|refine rD Γ hm (by kernel_rfl) ?_);conv=>whnf))
      refine ⟨by omega, by omega, ?_⟩
      ((conv=>whnf);repeat((first|refine aF ?_|refine aT ?_);(first|refine rG Γ hm ?_|refine rD Γ hm (by kernel_rfl) ?_);conv=>whnf))
      refine ⟨rfl, by omega, u[k], rfl, rfl, ?_⟩
      ((conv=>whnf);repeat((first|refine aF ?_|refine aT ?_);(first|refine rG Γ hm ?_|refine rD Γ hm (by kernel_rfl) ?_);conv=>whnf))
      refine ⟨by omega, by simp; omega, ?_⟩
      ((conv=>whnf);repeat((first|refine aF ?_|refine aT ?_);(first|refine rG Γ hm ?_|refine rD Γ hm (by kernel_rfl) ?_);conv=>whnf))
      refine ⟨rfl, by simp; omega, u[i], rfl, rfl, ?_⟩
      ((conv=>whnf);repeat((first|refine aF ?_|refine aT ?_);(first|refine rG Γ hm ?_|refine rD Γ hm (by kernel_rfl) ?_);conv=>whnf))
      refine ⟨(by kernel_rfl), ?_⟩
      ((conv=>whnf);repeat((first|refine aF ?_|refine aT ?_);(first|refine rG Γ hm ?_|refine rD Γ hm (by kernel_rfl) ?_);conv=>whnf))
      refine ⟨by unfold I64; omega, ?_⟩
      ((conv=>whnf);repeat((first|refine aF ?_|refine aT ?_);(first|refine rG Γ hm ?_|refine rD Γ hm (by kernel_rfl) ?_);conv=>whnf))
      refine ⟨by unfold I64; omega, ?_⟩
      ((conv=>whnf);repeat((first|refine aF ?_|refine aT ?_);(first|refine rG Γ hm ?_|refine rD Γ hm (by kernel_rfl) ?_);conv=>whnf))
      refine G_next [] (by omega) ⟨⟨rfl, rfl, rfl, rfl, congrArg (fun z => SV.val (.int .i64 z)) (by omega), rfl, trivial⟩, ⟨.inl (congrArg (Ob.row 1 byteSV) hs.symm), rfl, trivial⟩, rfl, rfl⟩
    · have h3 : D.length ≤ 2 * i + 1 := by have := of_decide_eq_false h2; omega
      rw [revU_end D i h3]
      ((first|refine rG Γ hm ?_|refine rD Γ hm (by kernel_rfl) ?_);(conv=>whnf);repeat((first|refine aF ?_|refine aT ?_);(first|refine rG Γ hm ?_|refine rD Γ hm (by kernel_rfl) ?_);conv=>whnf))
      refine stepOp (good_stringT Γ.toTy (bs := D.reverse) rfl rfl rfl rfl rfl rfl rfl (.row rfl)) rfl rfl ?_
      ((first|refine rG Γ hm ?_|refine rD Γ hm (by kernel_rfl) ?_);(conv=>whnf);repeat((first|refine aF ?_|refine aT ?_);(first|refine rG Γ hm ?_|refine rD Γ hm (by kernel_rfl) ?_);conv=>whnf))
      exact done0 rfl (.cons .tmp .nil) rfl rfl

end Go.Sy.YtjomehmhkcnadaaGreatDoor

namespace Go.Sy.YtjomehmhkcnadaaGreatDoor
open Go.Proofs

attribute [local irreducible] Go.Sy.G Go.Sy.DR
set_option maxRecDepth 20000
set_option maxHeartbeats 4000000

theorem u64div10b (n : Nat) (h : n < 18446744073709551616) : IntKind.u64.wrap ((n : Int).tdiv 10) = ((n / 10 : Nat) : Int) := by
  rw [Int.tdiv_eq_ediv_of_nonneg (by omega), IntKind.wrap_u64]; omega

theorem refDigits2S (m : Nat) (hmm : m < 18446744073709551616) : Sy.Spec Tryz.prog 76 [u64SV m] [] (strSV (numT m)) [] := contract Γ hm 100 F76 Tryz.ntmps76 rfl fun F hF => by
  have hlen : (revDigs m).length ≤ 21 := revDigs_short 20 m (by omega)
  rw [numT_nat]
  obtain ⟨D, hD⟩ : ∃ D, (revDigs m).reverse = D := ⟨_, rfl⟩
  have hDl : D.length ≤ 21 := by rw [← hD, List.length_reverse]; exact hlen
  rw [hD]
  ((conv=>whnf);repeat((first|refine aF ?_|refine aT ?_);(first|refine rG Γ hm ?_|refine rD Γ hm (by kernel_rfl) ?_);conv=>whnf))
  refine G_while (fun x : Nat × List UInt8 => D = (revDigs x.1).reverse ++ x.2 ∧ x.1 ≤ m) (fun x => [(0, u64SV x.1), (3, strSV (mkT x.2))]) (fun _ => []) (fun x => x.1) (m, []) [] ⟨by rw [List.append_nil]; exact hD.symm, Nat.le_refl _⟩ ⟨⟨rfl, rfl, rfl, rfl, trivial⟩, trivial, rfl, rfl⟩ ?_
  clear hD
  rintro ⟨u, t⟩ ⟨hD, hu⟩
  dsimp only at hD hu ⊢
  have htl : t.length ≤ 21 := by rw [hD, List.length_append] at hDl; omega
  have hts : (mkT t).size ≤ 21 := by rw [mkT_size]; exact htl
  have hr := revDigs_rev u
  ((first|refine rG Γ hm ?_|refine rD Γ hm (by kernel_rfl) ?_);(conv=>whnf);repeat((first|refine aF ?_|refine aT ?_);(first|refine rG Γ hm ?_|refine rD Γ hm (by kernel_rfl) ?_);conv=>whnf))
  refine ⟨fun h => ?_, fun h => ?_⟩
  · have h1 : ¬ u < 10 := by have := of_decide_eq_true h; omega
    rw [if_neg h1] at hr
    ((first|refine rG Γ hm ?_|refine rD Γ hm (by kernel_rfl) ?_);(conv=>whnf);repeat((first|refine aF ?_|refine aT ?_);(first|refine rG Γ hm ?_|refine rD Γ hm (by kernel_rfl) ?_);conv=>whnf))
    refine ⟨by decide, ?_⟩
    ((conv=>whnf);repeat((first|refine aF ?_|refine aT ?_);(first|refine rG Γ hm ?_|refine rD Γ hm (by kernel_rfl) ?_);conv=>whnf))
    rw [tmod10 u]
    have hd : IntKind.u8.wrap (IntKind.u64.wrap (48 + ((u % 10 : Nat) : Int))) = ((UInt8.ofNat (48 + u % 10)).toNat : Int) := by
      rw [show IntKind.u64.wrap (48 + ((u % 10 : Nat) : Int)) = 48 + ((u % 10 : Nat) : Int) by rw [IntKind.wrap_u64]; omega]
      exact dig8 u
    rw [hd]
    refine stepOp (good_stringT Γ.toTy (bs := [UInt8.ofNat (48 + u % 10)]) rfl rfl rfl rfl rfl rfl rfl (.lit (e := byteSV) (l := [UInt8.ofNat (48 + u % 10)]) rfl rfl)) rfl rfl ?_
    ((first|refine rG Γ hm ?_|refine rD Γ hm (by kernel_rfl) ?_);(conv=>whnf);repeat((first|refine aF ?_|refine aT ?_);(first|refine rG Γ hm ?_|refine rD Γ hm (by kernel_rfl) ?_);conv=>whnf))
    refine ⟨by show 1 + (mkT t).size ≤ _; omega, ?_⟩
    ((conv=>whnf);repeat((first|refine aF ?_|refine aT ?_);(first|refine rG Γ hm ?_|refine rD Γ hm (by kernel_rfl) ?_);conv=>whnf))
    refine ⟨by decide, ?_⟩
    ((conv=>whnf);repeat((first|refine aF ?_|refine aT ?_);(first|refine rG Γ hm ?_|refine rD Γ hm (by kernel_rfl) ?_);conv=>whnf))
    rw [u64div10b u (by omega)]
    refine G_whileN (u / 10, UInt8.ofNat (48 + u % 10) :: t) [] ⟨by rw [hD, hr]; simp, by dsimp only; omega⟩ (by dsimp only; omega) ⟨⟨rfl, rfl, congrArg strSV ?_, rfl, trivial⟩, trivial, rfl, rfl⟩
    exact mkT_append [_] t
  · have h1 : u < 10 := by have := of_decide_eq_false h; omega
    rw [if_pos h1, List.nil_append] at hr
    have hd : IntKind.u8.wrap (IntKind.u64.wrap (48 + ((u % 10 : Nat) : Int))) = ((UInt8.ofNat (48 + u % 10)).toNat : Int) := by
      rw [show IntKind.u64.wrap (48 + ((u % 10 : Nat) : Int)) = 48 + ((u % 10 : Nat) : Int) by rw [IntKind.wrap_u64]; omega]
      exact dig8 u
    rw [Nat.mod_eq_of_lt h1] at hr hd
    ((first|refine rG Γ hm ?_|refine rD Γ hm (by kernel_rfl) ?_);(conv=>whnf);repeat((first|refine aF ?_|refine aT ?_);(first|refine rG Γ hm ?_|refine rD Γ hm (by kernel_rfl) ?_);conv=>whnf))
    rw [hd]
    refine stepOp (good_stringT Γ.toTy (bs := [UInt8.ofNat (48 + u)]) rfl rfl rfl rfl rfl rfl rfl (.lit (e := byteSV) (l := [UInt8.ofNat (48 + u)]) rfl rfl)) rfl rfl ?_
    ((first|refine rG Γ hm ?_|refine rD Γ hm (by kernel_rfl) ?_);(conv=>whnf);repeat((first|refine aF ?_|refine aT ?_);(first|refine rG Γ hm ?_|refine rD Γ hm (by kernel_rfl) ?_);conv=>whnf))
    refine ⟨by show 1 + (mkT t).size ≤ _; omega, ?_⟩
    ((conv=>whnf);repeat((first|refine aF ?_|refine aT ?_);(first|refine rG Γ hm ?_|refine rD Γ hm (by kernel_rfl) ?_);conv=>whnf))
    refine done0 rfl (.cons .tmp .nil) (congrArg strSV ?_) rfl
    rw [hD, hr]
    exact (mkT_append [_] t).symm

/-- Numbers that a word holds. -/
def Word64 (n : Int) : Prop := -9223372036854775808 ≤ n ∧ n < 9223372036854775808

theorem numT_neg (m : Nat) (h : 0 < m) : numT (-(m : Int)) = ⟨#[45]⟩ ++ numT (m : Int) := by
  rw [numT, numL_neg m h, numT_nat, List.reverse_append]
  exact (mkT_append [45] _).symm

theorem numT_size21 {n : Int} (h : Word64 n) : (numT n).size ≤ 22 := by
  have hs : ∀ m : Nat, m < 10 ^ 20 → (numT (m : Int)).size ≤ 21 := fun m hm2 => by
    rw [numT_nat, mkT_size, List.length_reverse]; exact revDigs_short 20 m hm2
  unfold Word64 at h
  by_cases h0 : 0 ≤ n
  · obtain ⟨m, rfl⟩ := Int.eq_ofNat_of_zero_le h0
    have := hs m (by omega)
    omega
  · obtain ⟨m, hmn⟩ : ∃ m : Nat, n = -(m : Int) := ⟨n.natAbs, by omega⟩
    subst hmn
    have := hs m (by omega)
    rw [numT_neg m (by omega), ByteArray.size_append]
    show 1 + _ ≤ 22
    omega

theorem numText2S (n : Int) (h : Word64 n) : Sy.Spec Tryz.prog 29 [intSV n] [] (strSV (numT n)) [] := by
  unfold Word64 at h
  by_cases h0 : 0 ≤ n
  · obtain ⟨m, rfl⟩ := Int.eq_ofNat_of_zero_le h0
    exact numTextS m (by omega)
  · obtain ⟨m, hmn⟩ : ∃ m : Nat, n = -(m : Int) := ⟨n.natAbs, by omega⟩
    subst hmn
    exact numTextNegS m (by omega) (by omega)

theorem refNumText2S (n : Int) (h : Word64 n) : Sy.Spec Tryz.prog 33 [intSV n] [] (strSV (numT n)) [] := by
  unfold Word64 at h
  by_cases h0 : 0 ≤ n
  · obtain ⟨m, rfl⟩ := Int.eq_ofNat_of_zero_le h0
    have q := refDigits2S m (by omega)
    refine contract Γ hm 100 F33 Tryz.ntmps33 rfl fun F hF => by
      ((conv=>whnf);repeat((first|refine aF ?_|refine aT ?_);(first|refine rG Γ hm ?_|refine rD Γ hm (by kernel_rfl) ?_);conv=>whnf))
      rw [show IntKind.u64.wrap (m : Int) = m by rw [IntKind.wrap_u64]; omega]
      refine call0 q F76 rfl rfl rfl rfl rfl ?_
      ((first|refine rG Γ hm ?_|refine rD Γ hm (by kernel_rfl) ?_);(conv=>whnf);repeat((first|refine aF ?_|refine aT ?_);(first|refine rG Γ hm ?_|refine rD Γ hm (by kernel_rfl) ?_);conv=>whnf))
      exact done0 rfl (.cons .tmp .nil) rfl rfl
  · obtain ⟨m, hmn⟩ : ∃ m : Nat, n = -(m : Int) := ⟨n.natAbs, by omega⟩
    subst hmn
    have q := refDigits2S m (by omega)
    have hsz := numT_size21 (n := (m : Int))
    have hn := numT_neg m (by omega)
    have hs2 : (numT (m : Int)).size ≤ 21 := by
      rw [numT_nat, mkT_size, List.length_reverse]; exact revDigs_short 20 m (by omega)
    rw [hn]
    refine contract Γ hm 100 F33 Tryz.ntmps33 rfl fun F hF => by
      ((conv=>whnf);repeat((first|refine aF ?_|refine aT ?_);(first|refine rG Γ hm ?_|refine rD Γ hm (by kernel_rfl) ?_);conv=>whnf))
      refine ⟨fun _ => ?_, fun h => absurd (of_decide_eq_false h) (by omega)⟩
      ((first|refine rG Γ hm ?_|refine rD Γ hm (by kernel_rfl) ?_);(conv=>whnf);repeat((first|refine aF ?_|refine aT ?_);(first|refine rG Γ hm ?_|refine rD Γ hm (by kernel_rfl) ?_);conv=>whnf))
      refine ⟨by unfold I64; omega, ?_⟩
      ((conv=>whnf);repeat((first|refine aF ?_|refine aT ?_);(first|refine rG Γ hm ?_|refine rD Γ hm (by kernel_rfl) ?_);conv=>whnf))
      rw [show IntKind.u64.wrap (IntKind.u64.wrap (IntKind.i64.wrap (0 - (-(m : Int) + 1))) + 1) = m by rw [IntKind.wrap_i64, IntKind.wrap_u64, IntKind.wrap_u64]; omega]
      refine call0 q F76 rfl rfl rfl rfl rfl ?_
      ((first|refine rG Γ hm ?_|refine rD Γ hm (by kernel_rfl) ?_);(conv=>whnf);repeat((first|refine aF ?_|refine aT ?_);(first|refine rG Γ hm ?_|refine rD Γ hm (by kernel_rfl) ?_);conv=>whnf))
      refine ⟨by show 1 + _ ≤ _; omega, ?_⟩
      ((conv=>whnf);repeat((first|refine aF ?_|refine aT ?_);(first|refine rG Γ hm ?_|refine rD Γ hm (by kernel_rfl) ?_);conv=>whnf))
      exact done0 rfl (.cons .tmp .nil) rfl rfl

end Go.Sy.YtjomehmhkcnadaaGreatDoor

namespace Go.Sy.YtjomehmhkcnadaaGreatDoor
open Go.Proofs
-- SIMP: placeB

attribute [local irreducible] Go.Sy.G Go.Sy.DR
set_option maxRecDepth 20000
set_option maxHeartbeats 4000000

/-- The places below j that p is true of. -/
def filtI (p : Nat → Bool) (j : Nat) : List Int := ((List.range j).filter p).map Int.ofNat

theorem filtI_succ (p : Nat → Bool) (j : Nat) : filtI p (j + 1) = if p j = true then filtI p j ++ [(j : Int)] else filtI p j := by
  rw [filtI, List.range_succ, List.filter_append, List.map_append]
  split
  · rename_i h
    rw [List.filter_cons_of_pos (by exact h), List.filter_nil]; rfl
  · rename_i h
    rw [List.filter_cons_of_neg (by exact h), List.filter_nil, List.map_nil, List.append_nil]; rfl
theorem filtI_length (p : Nat → Bool) (j : Nat) : (filtI p j).length ≤ j := by
  have := List.length_filter_le p (List.range j)
  simpa [filtI] using this
theorem filtI_mem {p : Nat → Bool} {j : Nat} {x : Int} : x ∈ filtI p j ↔ 0 ≤ x ∧ x < j ∧ p x.toNat = true := by
  simp only [filtI, List.mem_map, List.mem_filter, List.mem_range]
  constructor
  · rintro ⟨i, h1, rfl⟩
    exact ⟨Int.natCast_nonneg i, by simp; omega, h1.2⟩
  · rintro ⟨h1, h2, h3⟩
    exact ⟨x.toNat, ⟨by omega, h3⟩, Int.toNat_of_nonneg h1⟩

/-- Is a port one of a domain's? -/
def inDom (n : Net) (d : Domain) (i : Nat) : Bool := (nth n.ports i).dev == d.dev && memberB (nth n.ports i) d.vlan
def membersL (n : Net) (i : Int) : List Int := filtI (inDom n (nth n.domains i)) n.ports.length
def membersT (n : Net) (i : Int) : List Int := if (0 ≤ i ∧ i < n.domains.length) ∧ netRightB n = true then membersL n i else []

theorem membersT_short (n : Net) (hn : n.Fin) (i : Int) : Short (membersT n i) := by
  have := hn.ports
  unfold Short at this ⊢
  unfold membersT
  split
  · have := filtI_length (inDom n (nth n.domains i)) n.ports.length
    unfold membersL
    omega
  · simp

end Go.Sy.YtjomehmhkcnadaaGreatDoor

namespace Go.Sy.YtjomehmhkcnadaaGreatDoor
open Go.Proofs
-- SIMP: placeB

attribute [local irreducible] Go.Sy.G Go.Sy.DR
set_option maxRecDepth 20000
set_option maxHeartbeats 4000000

def domainT (n : Net) (dev vlan : Int) : Int := if netRightB n = true then domI n dev vlan else -1

/-- The other side of a port's link; -1. -/
def otherT (n : Net) (i : Int) : Int :=
  if (0 ≤ i ∧ i < n.ports.length) ∧ 0 ≤ (nth n.ports i).link ∧ netRightB n = true then
    (if (nth n.links (nth n.ports i).link).a = i then (nth n.links (nth n.ports i).link).b else (nth n.links (nth n.ports i).link).a) else -1

theorem e_port_link {n : Net} (h : netRightB n = true) {i : Nat} (hi : i < n.ports.length) (hl : 0 ≤ n.ports[i].link) :
    n.ports[i].link.toNat < n.links.length ∧ ((nth n.links n.ports[i].link).a = i ∨ (nth n.links n.ports[i].link).b = i) := by
  have := e_port h hi
  simp only [portB, placeB, Bool.and_eq_true, Bool.or_eq_true, decide_eq_true_eq, beq_iff_eq] at this
  rcases this.2 with h1 | h1
  · omega
  · exact ⟨by omega, h1.2⟩

end Go.Sy.YtjomehmhkcnadaaGreatDoor

namespace Go.Sy.YtjomehmhkcnadaaGreatDoor
open Go.Proofs

attribute [local irreducible] Go.Sy.G Go.Sy.DR
set_option maxRecDepth 100000
set_option maxHeartbeats 4000000

theorem F96 : Fun Tryz.prog 96 Tryz.f96 (bodyOf Tryz.f96) := ⟨Tryz.func96, rfl, by kernel_rfl⟩

theorem F108 : Fun Tryz.prog 108 Tryz.f108 (bodyOf Tryz.f108) := ⟨Tryz.func108, rfl, by kernel_rfl⟩

theorem strIndexByteS (s : ByteArray) (c : UInt8) (m : Int) (hm : Lib.indexByte s.data.toList c = m) : Sy.Spec Tryz.prog 98 [strSV s, byteSV c] [] (intSV m) [] :=
  Spec.of_calls fun κ w vs hi hr _ => by
    subst hm
    simp only [RdL] at hr
    obtain ⟨v, r, rfl, h3, u, r', rfl, h4, rfl⟩ := hr
    have h3' : v = .string s := by simpa only [strSV, Rd] using h3
    have h4' : u = .int .u8 c.toNat := by simpa only [byteSV, Rd] using h4
    subst h3' h4'
    have e : (Int.toNat (c.toNat : Int)).toUInt8 = c := by simp
    have h5 := Tryz.strings_IndexByte s c.toNat w
    rw [e] at h5
    exact h5.mono fun e w' ⟨he, hw⟩ => ⟨he, hw ▸ RowKit.Below.refl _ _⟩

theorem strTrimPrefixS (s p : ByteArray) : Sy.Spec Tryz.prog 99 [strSV s, strSV p] [] (strSV (mkT (Lib.trimPrefix s.data.toList p.data.toList))) [] :=
  Spec.of_calls fun κ w vs hi hr _ => by
    simp only [RdL] at hr
    obtain ⟨v, r, rfl, h3, u, r', rfl, h4, rfl⟩ := hr
    have h3' : v = .string s := by simpa only [strSV, Rd] using h3
    have h4' : u = .string p := by simpa only [strSV, Rd] using h4
    subst h3' h4'
    exact (Tryz.strings_TrimPrefix s p w).mono fun e w' ⟨he, hw⟩ => ⟨he, hw ▸ RowKit.Below.refl _ _⟩

theorem liteIndexS (s : ByteArray) (c : UInt8) (m : Int) (hm : Lib.indexByte s.data.toList c = m) : Sy.Spec Tryz.prog 108 [strSV s, strSV ⟨#[c]⟩] [] (intSV m) [] :=
  Spec.of_calls fun κ w vs hi hr _ => by
    subst hm
    simp only [RdL] at hr
    obtain ⟨v, r, rfl, h3, u, r', rfl, h4, rfl⟩ := hr
    have h3' : v = .string s := by simpa only [strSV, Rd] using h3
    have h4' : u = .string ⟨#[c]⟩ := by simpa only [strSV, Rd] using h4
    subst h3' h4'
    exact (Tryz.stringslite_Index_one s c w).mono fun e w' ⟨he, hw⟩ => ⟨he, hw ▸ RowKit.Below.refl _ _⟩

/-- Texts ahead of the first byte c and behind it, and whether there is one. -/
def cutT (c : UInt8) (s : ByteArray) : ByteArray × ByteArray × Bool :=
  if 0 ≤ Lib.indexByte s.data.toList c then (s.extract 0 (idxN c s.data.toList), s.extract (idxN c s.data.toList + 1) s.size, true) else (s, ⟨#[]⟩, false)

theorem indexByte_lt (l : List UInt8) (c : UInt8) : Lib.indexByte l c < l.length := by
  induction l with
  | nil => simp [Lib.indexByte]
  | cons b l ih =>
    unfold Lib.indexByte
    rw [List.length_cons]
    split
    · omega
    split
    · omega
    · omega

theorem liteCutS (s : ByteArray) (c : UInt8) (hs : s.size ≤ 1000000000) : Sy.Spec Tryz.prog 96 [strSV s, strSV ⟨#[c]⟩] [] (.tup [strSV (cutT c s).1, strSV (cutT c s).2.1, boolSV (cutT c s).2.2]) [] := contract Γ hm 100 F96 Tryz.ntmps96 rfl fun F hF => by
  have hres := cutT.eq_1 c s
  generalize cutT c s = res at *
  have hlt := indexByte_lt s.data.toList c
  have hsz : s.data.toList.length = s.size := rfl
  have hid : idxN c s.data.toList = (Lib.indexByte s.data.toList c).toNat := rfl
  obtain ⟨m, hmm⟩ : ∃ m, Lib.indexByte s.data.toList c = m := ⟨_, rfl⟩
  have q := liteIndexS s c m hmm
  rw [hmm] at hres hlt hid
  ((conv=>whnf);repeat((first|refine aF ?_|refine aT ?_);(first|refine rG Γ hm ?_|refine rD Γ hm (by kernel_rfl) ?_);conv=>whnf))
  refine call0 q F108 rfl rfl rfl rfl rfl ?_
  ((first|refine rG Γ hm ?_|refine rD Γ hm (by kernel_rfl) ?_);(conv=>whnf);repeat((first|refine aF ?_|refine aT ?_);(first|refine rG Γ hm ?_|refine rD Γ hm (by kernel_rfl) ?_);conv=>whnf))
  refine ⟨fun h => ?_, fun h => ?_⟩
  · have h0 : 0 ≤ m := of_decide_eq_true h
    rw [if_pos h0, hid] at hres
    have e1 : (m + 1).toNat = m.toNat + 1 := by omega
    have hc1 : (⟨#[c]⟩ : ByteArray).size = 1 := rfl
    subst hres
    ((first|refine rG Γ hm ?_|refine rD Γ hm (by kernel_rfl) ?_);(conv=>whnf);repeat((first|refine aF ?_|refine aT ?_);(first|refine rG Γ hm ?_|refine rD Γ hm (by kernel_rfl) ?_);conv=>whnf))
    refine ⟨⟨by omega, by omega, by omega⟩, ?_⟩
    ((conv=>whnf);repeat((first|refine aF ?_|refine aT ?_);(first|refine rG Γ hm ?_|refine rD Γ hm (by kernel_rfl) ?_);conv=>whnf))
    refine ⟨by show I64 (m + 1); unfold I64; omega, ?_⟩
    ((conv=>whnf);repeat((first|refine aF ?_|refine aT ?_);(first|refine rG Γ hm ?_|refine rD Γ hm (by kernel_rfl) ?_);conv=>whnf))
    refine ⟨⟨by omega, by omega, by omega⟩, ?_⟩
    ((conv=>whnf);repeat((first|refine aF ?_|refine aT ?_);(first|refine rG Γ hm ?_|refine rD Γ hm (by kernel_rfl) ?_);conv=>whnf))
    refine ⟨(by kernel_rfl), ?_⟩
    ((conv=>whnf);repeat((first|refine aF ?_|refine aT ?_);(first|refine rG Γ hm ?_|refine rD Γ hm (by kernel_rfl) ?_);conv=>whnf))
    refine done0 rfl (.cons .tmp (.cons .tmp (.cons .tmp .nil))) ?_ rfl
    show SV.tup [strSV _, strSV (s.extract (m.toNat + 1) s.size), _] = SV.tup [strSV _, strSV (s.extract (m + 1).toNat _), _]
    rw [e1]
    rfl
  · have h0 : ¬ 0 ≤ m := of_decide_eq_false h
    rw [if_neg h0] at hres
    subst hres
    ((first|refine rG Γ hm ?_|refine rD Γ hm (by kernel_rfl) ?_);(conv=>whnf);repeat((first|refine aF ?_|refine aT ?_);(first|refine rG Γ hm ?_|refine rD Γ hm (by kernel_rfl) ?_);conv=>whnf))
    exact done0 rfl (.cons .tmp (.cons .tmp (.cons .tmp .nil))) rfl rfl

theorem strCutS (s : ByteArray) (c : UInt8) (hs : s.size ≤ 1000000000) : Sy.Spec Tryz.prog 64 [strSV s, strSV ⟨#[c]⟩] [] (.tup [strSV (cutT c s).1, strSV (cutT c s).2.1, boolSV (cutT c s).2.2]) [] := contract Γ hm 100 F64 Tryz.ntmps64 rfl fun F hF => by
  have q := liteCutS s c hs
  generalize cutT c s = res at *
  ((conv=>whnf);repeat((first|refine aF ?_|refine aT ?_);(first|refine rG Γ hm ?_|refine rD Γ hm (by kernel_rfl) ?_);conv=>whnf))
  refine call0 q F96 rfl rfl rfl rfl rfl ?_
  ((first|refine rG Γ hm ?_|refine rD Γ hm (by kernel_rfl) ?_);(conv=>whnf);repeat((first|refine aF ?_|refine aT ?_);(first|refine rG Γ hm ?_|refine rD Γ hm (by kernel_rfl) ?_);conv=>whnf))
  exact done0 rfl (.cons .tmp (.cons .tmp (.cons .tmp .nil))) rfl rfl

/-! ### Numbers read -/
def digB (c : UInt8) : Bool := decide (48 ≤ c.toNat) && decide (c.toNat ≤ 57)
def digV (l : List UInt8) : Int := l.foldl (fun n c => 10 * n + ((c.toNat : Int) - 48)) 0
def negB (s : ByteArray) : Bool := s.data.toList.head? == some 45
def digsL (s : ByteArray) : List UInt8 := if negB s = true then s.data.toList.drop 1 else s.data.toList
def numV (s : ByteArray) : Int := if negB s = true then 0 - digV (digsL s) else digV (digsL s)
def numR (s : ByteArray) (lo hi : Int) : Int × Bool :=
  if (digsL s).length < 1 ∨ 10 < (digsL s).length then (0, false) else if (digsL s).all digB = false then (0, false)
  else if numV s < lo ∨ hi < numV s then (0, false) else if (numT (numV s) == s) = true then (numV s, true) else (0, false)

theorem digV_succ (l : List UInt8) (c : UInt8) : digV (l ++ [c]) = 10 * digV l + ((c.toNat : Int) - 48) := by
  rw [digV, List.foldl_append]; rfl

theorem digV_le : ∀ (k : Nat) (l : List UInt8), l.length = k → (∀ c ∈ l, digB c = true) → 0 ≤ digV l ∧ digV l < 10 ^ k
  | 0, l, hl, _ => by
    rw [List.length_eq_zero_iff.1 hl]
    exact ⟨Int.le_refl _, by decide⟩
  | k + 1, l, hl, h => by
    have hne : l ≠ [] := fun e => by rw [e] at hl; cases hl
    have e := List.dropLast_concat_getLast hne
    have h1 := digV_le k l.dropLast (by rw [List.length_dropLast]; omega) fun c hc => h c (List.dropLast_subset l hc)
    have h2 := h _ (List.getLast_mem hne)
    simp only [digB, Bool.and_eq_true, decide_eq_true_eq] at h2
    rw [← e, digV_succ, Int.pow_succ]
    omega

theorem digV_10 {l : List UInt8} (hl : l.length ≤ 10) (h : ∀ c ∈ l, digB c = true) : 0 ≤ digV l ∧ digV l < 10000000000 := by
  have h1 := digV_le _ l rfl h
  refine ⟨h1.1, Int.lt_of_lt_of_le h1.2 ?_⟩
  have h2 : (10 : Nat) ^ l.length ≤ 10 ^ 10 := Nat.pow_le_pow_right (by decide) hl
  have h3 : ((10 : Nat) ^ l.length : Int) ≤ ((10 ^ 10 : Nat) : Int) := by exact_mod_cast h2
  simpa using h3

theorem trim_dig (s : ByteArray) : Lib.trimPrefix s.data.toList [45] = digsL s := by
  unfold Lib.trimPrefix digsL negB
  cases s.data.toList with
  | nil => simp [Lib.hasPrefix]
  | cons c l =>
    by_cases hc : c = 45
    · subst hc; simp [Lib.hasPrefix]
    · simp [Lib.hasPrefix, hc, Ne.symm hc]

theorem bget_eq {s : ByteArray} {i : Nat} (h : i < s.data.toList.length) : bget s i = s.data.toList[i] := by
  rw [bget, List.getD_eq_getElem?_getD, List.getElem?_eq_getElem h]; rfl

theorem upto_mem {α : Type} {p : α → Bool} {l : List α} {j : Nat} (hI : Upto (fun _ x => p x) l j) : ∀ c ∈ l.take j, p c = true := by
  intro c hc
  obtain ⟨i, hi, rfl⟩ := List.mem_iff_getElem.1 hc
  rw [List.length_take] at hi
  rw [List.getElem_take]
  exact hI i (by omega) (by omega)

theorem all_upto' {α : Type} {p : α → Bool} {l : List α} {j : Nat} (hI : Upto (fun _ x => p x) l j) (hj : l.length ≤ j) : l.all p = true := by
  rw [List.all_eq_true]
  intro x hx
  obtain ⟨i, hi, rfl⟩ := List.mem_iff_getElem.1 hx
  exact hI i hi (by omega)
theorem all_at' {α : Type} {p : α → Bool} {l : List α} {j : Nat} (hj : j < l.length) (h : p l[j] = false) : l.all p = false := by
  cases ha : l.all p
  · rfl
  · rw [List.all_eq_true] at ha
    rw [ha _ (List.getElem_mem hj)] at h; cases h

theorem u8_sub {c : UInt8} (h : digB c = true) : IntKind.i64.wrap (IntKind.u8.wrap ((c.toNat : Int) - 48)) = (c.toNat : Int) - 48 := by
  simp only [digB, Bool.and_eq_true, decide_eq_true_eq] at h
  rw [IntKind.wrap_u8, IntKind.wrap_i64]; omega

theorem neg_digs {s : ByteArray} (h : negB s = true) : (digsL s).length + 1 = s.size ∧ ∀ j, j < (digsL s).length → bget s (1 + j) = (digsL s).getD j 0 := by
  have hsz : s.data.toList.length = s.size := rfl
  rw [digsL, if_pos h]
  rw [negB] at h
  cases hd : s.data.toList with
  | nil => rw [hd] at h; cases h
  | cons c l =>
    rw [hd] at hsz
    refine ⟨by simp at hsz ⊢; omega, fun j hj => ?_⟩
    rw [bget, hd, Nat.add_comm]
    rfl
theorem pos_digs {s : ByteArray} (h : negB s = false) : (digsL s).length = s.size ∧ ∀ j, j < (digsL s).length → bget s j = (digsL s).getD j 0 := by
  rw [digsL, if_neg (by simp [h])]
  exact ⟨rfl, fun j hj => rfl⟩

theorem numReadS (s : ByteArray) (lo hi : Int) : Sy.Spec Tryz.prog 70 [strSV s, intSV lo, intSV hi] [] (.tup [intSV (numR s lo hi).1, boolSV (numR s lo hi).2]) [] := contract Γ hm 100 F70 Tryz.ntmps70 rfl fun F hF => by
  have hres := numR.eq_1 s lo hi
  generalize numR s lo hi = res at *
  have q := strTrimPrefixS s ⟨#[45]⟩
  rw [show (⟨#[45]⟩ : ByteArray).data.toList = [45] from rfl, trim_dig] at q
  have hnv := numV.eq_1 s
  have hng := @neg_digs s
  have hps := @pos_digs s
  generalize numV s = nv at *
  generalize hD : digsL s = D at *
  have hDs : (mkT D).size = D.length := mkT_size D
  ((conv=>whnf);repeat((first|refine aF ?_|refine aT ?_);(first|refine rG Γ hm ?_|refine rD Γ hm (by kernel_rfl) ?_);conv=>whnf))
  refine call0 q F99 rfl rfl rfl rfl rfl ?_
  by_cases h1 : D.length < 1 ∨ 10 < D.length
  · rw [if_pos h1] at hres
    subst hres
    ((first|refine rG Γ hm ?_|refine rD Γ hm (by kernel_rfl) ?_);(conv=>whnf);repeat((first|refine aF ?_|refine aT ?_);(first|refine rG Γ hm ?_|refine rD Γ hm (by kernel_rfl) ?_);conv=>whnf))
    refine ⟨fun h => ?_, fun h => ?_⟩
    · ((first|refine rG Γ hm ?_|refine rD Γ hm (by kernel_rfl) ?_);(conv=>whnf);repeat((first|refine aF ?_|refine aT ?_);(first|refine rG Γ hm ?_|refine rD Γ hm (by kernel_rfl) ?_);conv=>whnf))
      exact done0 rfl (.cons .tmp (.cons .tmp .nil)) rfl rfl
    · have h2 : 1 ≤ D.length := by
        cases D with
        | nil => exact absurd (show (mkT [] == (⟨#[]⟩ : ByteArray)) = true from rfl) (by rw [show (mkT [] == (⟨#[]⟩ : ByteArray)) = false from h]; simp)
        | cons => simp
      ((first|refine rG Γ hm ?_|refine rD Γ hm (by kernel_rfl) ?_);(conv=>whnf);repeat((first|refine aF ?_|refine aT ?_);(first|refine rG Γ hm ?_|refine rD Γ hm (by kernel_rfl) ?_);conv=>whnf))
      refine ⟨fun h => ?_, fun h => ?_⟩
      · ((first|refine rG Γ hm ?_|refine rD Γ hm (by kernel_rfl) ?_);(conv=>whnf);repeat((first|refine aF ?_|refine aT ?_);(first|refine rG Γ hm ?_|refine rD Γ hm (by kernel_rfl) ?_);conv=>whnf))
        exact done0 rfl (.cons .tmp (.cons .tmp .nil)) rfl rfl
      · exact absurd (of_decide_eq_false h) (by omega)
  rw [if_neg h1] at hres
  have hne : (mkT D == (⟨#[]⟩ : ByteArray)) = false := by
    cases he : (mkT D == (⟨#[]⟩ : ByteArray))
    · rfl
    · have e : (mkT D).data = (⟨#[]⟩ : ByteArray).data := by simpa using (show ((mkT D).data == (⟨#[]⟩ : ByteArray).data) = true from he)
      have := congrArg Array.size e
      have e2 : (mkT D).data.size = D.length := hDs
      rw [e2] at this
      have e3 : (⟨#[]⟩ : ByteArray).data.size = 0 := rfl
      omega
  ((first|refine rG Γ hm ?_|refine rD Γ hm (by kernel_rfl) ?_);(conv=>whnf);repeat((first|refine aF ?_|refine aT ?_);(first|refine rG Γ hm ?_|refine rD Γ hm (by kernel_rfl) ?_);conv=>whnf))
  refine ⟨fun h => absurd h (by rw [hne]; simp), fun _ => ?_⟩
  ((first|refine rG Γ hm ?_|refine rD Γ hm (by kernel_rfl) ?_);(conv=>whnf);repeat((first|refine aF ?_|refine aT ?_);(first|refine rG Γ hm ?_|refine rD Γ hm (by kernel_rfl) ?_);conv=>whnf))
  refine ⟨fun h => absurd (of_decide_eq_true h) (by omega), fun _ => ?_⟩
  ((first|refine rG Γ hm ?_|refine rD Γ hm (by kernel_rfl) ?_);(conv=>whnf);repeat((first|refine aF ?_|refine aT ?_);(first|refine rG Γ hm ?_|refine rD Γ hm (by kernel_rfl) ?_);conv=>whnf))
  refine G_countP D.length (fun j => Upto (fun _ c => digB c) D j) (fun j => [(0, strSV s), (1, intSV lo), (2, intSV hi), (8, strSV (mkT D)), (9, intSV (digV (D.take j))), (21, intSV D.length), (22, intSV j)]) (fun _ => []) [] (upto_zero _ _)
    ⟨⟨rfl, rfl, rfl, rfl, rfl, rfl, rfl, rfl, rfl, rfl, congrArg (fun z : Nat => SV.val (.int .i64 z)) hDs.symm, rfl, rfl, rfl, trivial⟩, trivial, rfl, rfl⟩ ?_
  intro j hj hI
  have hv := digV_10 (l := D.take j) (by rw [List.length_take]; omega) (upto_mem hI)
  ((first|refine rG Γ hm ?_|refine rD Γ hm (by kernel_rfl) ?_);(conv=>whnf);repeat((first|refine aF ?_|refine aT ?_);(first|refine rG Γ hm ?_|refine rD Γ hm (by kernel_rfl) ?_);conv=>whnf))
  refine ⟨fun h => ?_, fun h => ?_⟩
  · have hlt : j < D.length := by have := of_decide_eq_true h; omega
    have hb : bget (mkT D) ((j : Nat) : Int).toNat = D[j] := by
      have : j < (mkT D).data.toList.length := by rw [mkT_list]; exact hlt
      rw [Int.toNat_natCast, bget_eq this]; simp [mkT]
    have hno := fun h => @all_at' _ digB D j hlt h
    have hnx := fun h => upto_next (p := fun _ c => digB c) hI hlt h
    have hsucc : digV (D.take (j + 1)) = 10 * digV (D.take j) + ((D[j].toNat : Int) - 48) := by rw [List.take_succ_eq_append_getElem hlt, digV_succ]
    have hu := @u8_sub D[j]
    generalize D[j] = c at *
    generalize digV (D.take j) = v at *
    have hc2 := c.toNat_lt
    ((first|refine rG Γ hm ?_|refine rD Γ hm (by kernel_rfl) ?_);(conv=>whnf);repeat((first|refine aF ?_|refine aT ?_);(first|refine rG Γ hm ?_|refine rD Γ hm (by kernel_rfl) ?_);conv=>whnf))
    refine ⟨by omega, by omega, ?_⟩
    rw [hb]
    ((conv=>whnf);repeat((first|refine aF ?_|refine aT ?_);(first|refine rG Γ hm ?_|refine rD Γ hm (by kernel_rfl) ?_);conv=>whnf))
    refine ⟨fun h2 => ?_, fun h2 => ?_⟩
    · have h3 : c.toNat < 48 := by have := of_decide_eq_true h2; omega
      rw [if_pos (hno (by rw [digB, decide_eq_false (by omega)]; rfl))] at hres
      subst hres
      ((first|refine rG Γ hm ?_|refine rD Γ hm (by kernel_rfl) ?_);(conv=>whnf);repeat((first|refine aF ?_|refine aT ?_);(first|refine rG Γ hm ?_|refine rD Γ hm (by kernel_rfl) ?_);conv=>whnf))
      exact done0 rfl (.cons .tmp (.cons .tmp .nil)) rfl rfl
    have h2 := of_decide_eq_false h2
    ((first|refine rG Γ hm ?_|refine rD Γ hm (by kernel_rfl) ?_);(conv=>whnf);repeat((first|refine aF ?_|refine aT ?_);(first|refine rG Γ hm ?_|refine rD Γ hm (by kernel_rfl) ?_);conv=>whnf))
    refine ⟨by omega, by omega, ?_⟩
    rw [hb]
    ((conv=>whnf);repeat((first|refine aF ?_|refine aT ?_);(first|refine rG Γ hm ?_|refine rD Γ hm (by kernel_rfl) ?_);conv=>whnf))
    refine ⟨fun h3 => ?_, fun h3 => ?_⟩
    · have h3 : 57 < c.toNat := by have := of_decide_eq_true h3; omega
      rw [if_pos (hno (by rw [digB, decide_eq_false (by omega : ¬ c.toNat ≤ 57), Bool.and_false]))] at hres
      subst hres
      ((first|refine rG Γ hm ?_|refine rD Γ hm (by kernel_rfl) ?_);(conv=>whnf);repeat((first|refine aF ?_|refine aT ?_);(first|refine rG Γ hm ?_|refine rD Γ hm (by kernel_rfl) ?_);conv=>whnf))
      exact done0 rfl (.cons .tmp (.cons .tmp .nil)) rfl rfl
    have h3 := of_decide_eq_false h3
    have hdg : digB c = true := by rw [digB, decide_eq_true (by omega), decide_eq_true (by omega)]; rfl
    have hu := hu hdg
    ((first|refine rG Γ hm ?_|refine rD Γ hm (by kernel_rfl) ?_);(conv=>whnf);repeat((first|refine aF ?_|refine aT ?_);(first|refine rG Γ hm ?_|refine rD Γ hm (by kernel_rfl) ?_);conv=>whnf))
    refine ⟨by show I64 (10 * v); unfold I64; omega, ?_⟩
    ((conv=>whnf);repeat((first|refine aF ?_|refine aT ?_);(first|refine rG Γ hm ?_|refine rD Γ hm (by kernel_rfl) ?_);conv=>whnf))
    refine ⟨by omega, by omega, ?_⟩
    rw [hb]
    ((conv=>whnf);repeat((first|refine aF ?_|refine aT ?_);(first|refine rG Γ hm ?_|refine rD Γ hm (by kernel_rfl) ?_);conv=>whnf))
    rw [hu]
    refine ⟨by show I64 (10 * v + ((c.toNat : Int) - 48)); unfold I64; omega, ?_⟩
    ((conv=>whnf);repeat((first|refine aF ?_|refine aT ?_);(first|refine rG Γ hm ?_|refine rD Γ hm (by kernel_rfl) ?_);conv=>whnf))
    refine ⟨by unfold I64; omega, ?_⟩
    ((conv=>whnf);repeat((first|refine aF ?_|refine aT ?_);(first|refine rG Γ hm ?_|refine rD Γ hm (by kernel_rfl) ?_);conv=>whnf))
    exact G_nextP [] hI (by omega) (hnx hdg) ⟨⟨rfl, rfl, rfl, rfl, rfl, rfl, rfl, rfl, congrArg intSV hsucc, rfl, rfl, rfl, rfl, rfl, trivial⟩, trivial, rfl, rfl⟩
  · have hje : j = D.length := by have := of_decide_eq_false h; omega
    subst hje
    rw [if_neg (by rw [all_upto' hI (Nat.le_refl _)]; simp)] at hres
    rw [List.take_length] at hv ⊢
    have fin : ∀ nv : Int, nv = (if negB s = true then 0 - digV D else digV D) → (-10000000000 < nv ∧ nv < 10000000000) ∧ Word64 nv := fun nv h => by
      unfold Word64
      split at h <;> omega
    have fn := fin nv hnv
    have q2 := numText2S nv fn.2
    have hs2 : ((mkT D).size : Int) = D.length := by rw [hDs]
    cases hn : negB s
    · rw [hn, if_neg (by simp)] at hnv
      have h4 := (hps hn).1
      rw [← hnv]
      ((first|refine rG Γ hm ?_|refine rD Γ hm (by kernel_rfl) ?_);(conv=>whnf);repeat((first|refine aF ?_|refine aT ?_);(first|refine rG Γ hm ?_|refine rD Γ hm (by kernel_rfl) ?_);conv=>whnf))
      refine ⟨fun h => absurd (of_decide_eq_true h) (by omega), fun _ => ?_⟩
      ((first|refine rG Γ hm ?_|refine rD Γ hm (by kernel_rfl) ?_);(conv=>whnf);repeat((first|refine aF ?_|refine aT ?_);(first|refine rG Γ hm ?_|refine rD Γ hm (by kernel_rfl) ?_);conv=>whnf))
      refine ⟨fun h => ?_, fun h => ?_⟩
      · rw [if_pos (.inl (of_decide_eq_true h))] at hres
        subst hres
        ((first|refine rG Γ hm ?_|refine rD Γ hm (by kernel_rfl) ?_);(conv=>whnf);repeat((first|refine aF ?_|refine aT ?_);(first|refine rG Γ hm ?_|refine rD Γ hm (by kernel_rfl) ?_);conv=>whnf))
        exact done0 rfl (.cons .tmp (.cons .tmp .nil)) rfl rfl
      have h5 := of_decide_eq_false h
      ((first|refine rG Γ hm ?_|refine rD Γ hm (by kernel_rfl) ?_);(conv=>whnf);repeat((first|refine aF ?_|refine aT ?_);(first|refine rG Γ hm ?_|refine rD Γ hm (by kernel_rfl) ?_);conv=>whnf))
      refine ⟨fun h => ?_, fun h => ?_⟩
      · rw [if_pos (.inr (of_decide_eq_true h))] at hres
        subst hres
        ((first|refine rG Γ hm ?_|refine rD Γ hm (by kernel_rfl) ?_);(conv=>whnf);repeat((first|refine aF ?_|refine aT ?_);(first|refine rG Γ hm ?_|refine rD Γ hm (by kernel_rfl) ?_);conv=>whnf))
        exact done0 rfl (.cons .tmp (.cons .tmp .nil)) rfl rfl
      have h6 := of_decide_eq_false h
      rw [if_neg (by omega)] at hres
      ((first|refine rG Γ hm ?_|refine rD Γ hm (by kernel_rfl) ?_);(conv=>whnf);repeat((first|refine aF ?_|refine aT ?_);(first|refine rG Γ hm ?_|refine rD Γ hm (by kernel_rfl) ?_);conv=>whnf))
      refine call0 q2 F29 rfl rfl rfl rfl rfl ?_
      cases he : (numT nv == s)
      · rw [he, if_neg (by simp)] at hres
        subst hres
        ((first|refine rG Γ hm ?_|refine rD Γ hm (by kernel_rfl) ?_);(conv=>whnf);repeat((first|refine aF ?_|refine aT ?_);(first|refine rG Γ hm ?_|refine rD Γ hm (by kernel_rfl) ?_);conv=>whnf))
        refine ⟨fun _ => ?_, fun h => absurd h (by rw [he]; simp)⟩
        ((first|refine rG Γ hm ?_|refine rD Γ hm (by kernel_rfl) ?_);(conv=>whnf);repeat((first|refine aF ?_|refine aT ?_);(first|refine rG Γ hm ?_|refine rD Γ hm (by kernel_rfl) ?_);conv=>whnf))
        exact done0 rfl (.cons .tmp (.cons .tmp .nil)) rfl rfl
      · rw [he, if_pos rfl] at hres
        subst hres
        ((first|refine rG Γ hm ?_|refine rD Γ hm (by kernel_rfl) ?_);(conv=>whnf);repeat((first|refine aF ?_|refine aT ?_);(first|refine rG Γ hm ?_|refine rD Γ hm (by kernel_rfl) ?_);conv=>whnf))
        refine ⟨fun h => absurd h (by rw [he]; simp), fun _ => ?_⟩
        ((first|refine rG Γ hm ?_|refine rD Γ hm (by kernel_rfl) ?_);(conv=>whnf);repeat((first|refine aF ?_|refine aT ?_);(first|refine rG Γ hm ?_|refine rD Γ hm (by kernel_rfl) ?_);conv=>whnf))
        exact done0 rfl (.cons .tmp (.cons .tmp .nil)) rfl rfl
    · rw [hn, if_pos rfl] at hnv
      have h4 := (hng hn).1
      have hw : IntKind.i64.wrap (0 - digV D) = nv := by rw [IntKind.wrap_i64]; omega
      ((first|refine rG Γ hm ?_|refine rD Γ hm (by kernel_rfl) ?_);(conv=>whnf);repeat((first|refine aF ?_|refine aT ?_);(first|refine rG Γ hm ?_|refine rD Γ hm (by kernel_rfl) ?_);conv=>whnf))
      refine ⟨fun _ => ?_, fun h => absurd (of_decide_eq_false h) (by omega)⟩
      ((first|refine rG Γ hm ?_|refine rD Γ hm (by kernel_rfl) ?_);(conv=>whnf);repeat((first|refine aF ?_|refine aT ?_);(first|refine rG Γ hm ?_|refine rD Γ hm (by kernel_rfl) ?_);conv=>whnf))
      rw [hw]
      refine ⟨fun h => ?_, fun h => ?_⟩
      · rw [if_pos (.inl (of_decide_eq_true h))] at hres
        subst hres
        ((first|refine rG Γ hm ?_|refine rD Γ hm (by kernel_rfl) ?_);(conv=>whnf);repeat((first|refine aF ?_|refine aT ?_);(first|refine rG Γ hm ?_|refine rD Γ hm (by kernel_rfl) ?_);conv=>whnf))
        exact done0 rfl (.cons .tmp (.cons .tmp .nil)) rfl rfl
      have h5 := of_decide_eq_false h
      ((first|refine rG Γ hm ?_|refine rD Γ hm (by kernel_rfl) ?_);(conv=>whnf);repeat((first|refine aF ?_|refine aT ?_);(first|refine rG Γ hm ?_|refine rD Γ hm (by kernel_rfl) ?_);conv=>whnf))
      refine ⟨fun h => ?_, fun h => ?_⟩
      · rw [if_pos (.inr (of_decide_eq_true h))] at hres
        subst hres
        ((first|refine rG Γ hm ?_|refine rD Γ hm (by kernel_rfl) ?_);(conv=>whnf);repeat((first|refine aF ?_|refine aT ?_);(first|refine rG Γ hm ?_|refine rD Γ hm (by kernel_rfl) ?_);conv=>whnf))
        exact done0 rfl (.cons .tmp (.cons .tmp .nil)) rfl rfl
      have h6 := of_decide_eq_false h
      rw [if_neg (by omega)] at hres
      ((first|refine rG Γ hm ?_|refine rD Γ hm (by kernel_rfl) ?_);(conv=>whnf);repeat((first|refine aF ?_|refine aT ?_);(first|refine rG Γ hm ?_|refine rD Γ hm (by kernel_rfl) ?_);conv=>whnf))
      refine call0 q2 F29 rfl rfl rfl rfl rfl ?_
      cases he : (numT nv == s)
      · rw [he, if_neg (by simp)] at hres
        subst hres
        ((first|refine rG Γ hm ?_|refine rD Γ hm (by kernel_rfl) ?_);(conv=>whnf);repeat((first|refine aF ?_|refine aT ?_);(first|refine rG Γ hm ?_|refine rD Γ hm (by kernel_rfl) ?_);conv=>whnf))
        refine ⟨fun _ => ?_, fun h => absurd h (by rw [he]; simp)⟩
        ((first|refine rG Γ hm ?_|refine rD Γ hm (by kernel_rfl) ?_);(conv=>whnf);repeat((first|refine aF ?_|refine aT ?_);(first|refine rG Γ hm ?_|refine rD Γ hm (by kernel_rfl) ?_);conv=>whnf))
        exact done0 rfl (.cons .tmp (.cons .tmp .nil)) rfl rfl
      · rw [he, if_pos rfl] at hres
        subst hres
        ((first|refine rG Γ hm ?_|refine rD Γ hm (by kernel_rfl) ?_);(conv=>whnf);repeat((first|refine aF ?_|refine aT ?_);(first|refine rG Γ hm ?_|refine rD Γ hm (by kernel_rfl) ?_);conv=>whnf))
        refine ⟨fun h => absurd h (by rw [he]; simp), fun _ => ?_⟩
        ((first|refine rG Γ hm ?_|refine rD Γ hm (by kernel_rfl) ?_);(conv=>whnf);repeat((first|refine aF ?_|refine aT ?_);(first|refine rG Γ hm ?_|refine rD Γ hm (by kernel_rfl) ?_);conv=>whnf))
        exact done0 rfl (.cons .tmp (.cons .tmp .nil)) rfl rfl

end Go.Sy.YtjomehmhkcnadaaGreatDoor

namespace Go.Sy.YtjomehmhkcnadaaGreatDoor
open Go.Proofs

attribute [local irreducible] Go.Sy.G Go.Sy.DR
set_option maxRecDepth 100000
set_option maxHeartbeats 4000000

theorem negB_eq {s : ByteArray} (h : 0 < s.size) : negB s = decide ((bget s 0).toNat = 45) := by
  have hsz : s.data.toList.length = s.size := rfl
  rw [negB, bget]
  cases hd : s.data.toList with
  | nil => rw [hd] at hsz; simp at hsz; omega
  | cons c l =>
    show (some c == some (45 : UInt8)) = decide (c.toNat = 45)
    by_cases hc : c = 45
    · subst hc; rfl
    · rw [decide_eq_false (fun e : c.toNat = 45 => hc (UInt8.toNat_inj.1 e))]
      simpa using hc

theorem ref03ReadS (s : ByteArray) (lo hi : Int) (hs : s.size ≤ 1000000000) : Sy.Spec Tryz.prog 74 [strSV s, intSV lo, intSV hi] [] (.tup [intSV (numR s lo hi).1, boolSV (numR s lo hi).2]) [] := contract Γ hm 100 F74 Tryz.ntmps74 rfl fun F hF => by
  have hres := numR.eq_1 s lo hi
  generalize numR s lo hi = res at *
  have hnv := numV.eq_1 s
  have hng := @neg_digs s
  have hps := @pos_digs s
  have hsz : s.data.toList.length = s.size := rfl
  have hnb := @negB_eq s
  generalize numV s = nv at *
  generalize hD : digsL s = D at *
  ((conv=>whnf);repeat((first|refine aF ?_|refine aT ?_);(first|refine rG Γ hm ?_|refine rD Γ hm (by kernel_rfl) ?_);conv=>whnf))
  refine ⟨fun h => ?_, fun h => ?_⟩
  · have h0 : 0 < s.size := by have := of_decide_eq_true h; omega
    have hnb := hnb h0
    ((first|refine rG Γ hm ?_|refine rD Γ hm (by kernel_rfl) ?_);(conv=>whnf);repeat((first|refine aF ?_|refine aT ?_);(first|refine rG Γ hm ?_|refine rD Γ hm (by kernel_rfl) ?_);conv=>whnf))
    refine ⟨by decide, by show 0 < _; omega, ?_⟩
    ((conv=>whnf);repeat((first|refine aF ?_|refine aT ?_);(first|refine rG Γ hm ?_|refine rD Γ hm (by kernel_rfl) ?_);conv=>whnf))
    refine ⟨fun h => ?_, fun h => ?_⟩
    · have hn : negB s = true := by
        rw [hnb]
        refine decide_eq_true ?_
        have h8 : ((bget s 0).toNat : Int) = 45 := by simpa using h
        omega
      ((first|refine rG Γ hm ?_|refine rD Γ hm (by kernel_rfl) ?_);(conv=>whnf);repeat((first|refine aF ?_|refine aT ?_);(first|refine rG Γ hm ?_|refine rD Γ hm (by kernel_rfl) ?_);conv=>whnf))
      have h4 := hng hn
      have hif : (if negB s = true then 0 - digV D else digV D) = 0 - digV D := by rw [hn]; rfl
      rw [hif] at hnv
      have hlen : ((s.size : Nat) : Int) = D.length + 1 := by omega
      by_cases h1 : D.length < 1 ∨ 10 < D.length
      · rw [if_pos h1] at hres
        subst hres
        refine ⟨by unfold I64; omega, ?_⟩
        ((conv=>whnf);repeat((first|refine aF ?_|refine aT ?_);(first|refine rG Γ hm ?_|refine rD Γ hm (by kernel_rfl) ?_);conv=>whnf))
        refine ⟨fun h => ?_, fun h => ?_⟩
        · ((first|refine rG Γ hm ?_|refine rD Γ hm (by kernel_rfl) ?_);(conv=>whnf);repeat((first|refine aF ?_|refine aT ?_);(first|refine rG Γ hm ?_|refine rD Γ hm (by kernel_rfl) ?_);conv=>whnf))
          exact done0 rfl (.cons .tmp (.cons .tmp .nil)) rfl rfl
        have h2 := of_decide_eq_false h
        ((first|refine rG Γ hm ?_|refine rD Γ hm (by kernel_rfl) ?_);(conv=>whnf);repeat((first|refine aF ?_|refine aT ?_);(first|refine rG Γ hm ?_|refine rD Γ hm (by kernel_rfl) ?_);conv=>whnf))
        refine ⟨by unfold I64; omega, ?_⟩
        ((conv=>whnf);repeat((first|refine aF ?_|refine aT ?_);(first|refine rG Γ hm ?_|refine rD Γ hm (by kernel_rfl) ?_);conv=>whnf))
        refine ⟨fun h => ?_, fun h => ?_⟩
        · ((first|refine rG Γ hm ?_|refine rD Γ hm (by kernel_rfl) ?_);(conv=>whnf);repeat((first|refine aF ?_|refine aT ?_);(first|refine rG Γ hm ?_|refine rD Γ hm (by kernel_rfl) ?_);conv=>whnf))
          exact done0 rfl (.cons .tmp (.cons .tmp .nil)) rfl rfl
        exact absurd (of_decide_eq_false h) (by omega)
      rw [if_neg h1] at hres
      refine ⟨by unfold I64; omega, ?_⟩
      ((conv=>whnf);repeat((first|refine aF ?_|refine aT ?_);(first|refine rG Γ hm ?_|refine rD Γ hm (by kernel_rfl) ?_);conv=>whnf))
      refine ⟨fun h => absurd (of_decide_eq_true h) (by omega), fun _ => ?_⟩
      ((first|refine rG Γ hm ?_|refine rD Γ hm (by kernel_rfl) ?_);(conv=>whnf);repeat((first|refine aF ?_|refine aT ?_);(first|refine rG Γ hm ?_|refine rD Γ hm (by kernel_rfl) ?_);conv=>whnf))
      refine ⟨by unfold I64; omega, ?_⟩
      ((conv=>whnf);repeat((first|refine aF ?_|refine aT ?_);(first|refine rG Γ hm ?_|refine rD Γ hm (by kernel_rfl) ?_);conv=>whnf))
      refine ⟨fun h => absurd (of_decide_eq_true h) (by omega), fun _ => ?_⟩
      ((first|refine rG Γ hm ?_|refine rD Γ hm (by kernel_rfl) ?_);(conv=>whnf);repeat((first|refine aF ?_|refine aT ?_);(first|refine rG Γ hm ?_|refine rD Γ hm (by kernel_rfl) ?_);conv=>whnf))
      refine G_countP D.length (fun j => Upto (fun _ c => digB c) D j) (fun j => [(0, strSV s), (1, intSV lo), (2, intSV hi), (8, intSV 1), (9, intSV (digV (D.take j))), (10, intSV ((j : Int) + 1))]) (fun _ => []) [] (upto_zero _ _)
        ⟨⟨rfl, rfl, rfl, rfl, rfl, rfl, rfl, rfl, rfl, rfl, rfl, rfl, trivial⟩, trivial, rfl, rfl⟩ ?_
      intro j hj hI
      have hv := digV_10 (l := D.take j) (by rw [List.length_take]; omega) (upto_mem hI)
      ((first|refine rG Γ hm ?_|refine rD Γ hm (by kernel_rfl) ?_);(conv=>whnf);repeat((first|refine aF ?_|refine aT ?_);(first|refine rG Γ hm ?_|refine rD Γ hm (by kernel_rfl) ?_);conv=>whnf))
      refine ⟨fun h => ?_, fun h => ?_⟩
      · have hlt : j < D.length := by have := of_decide_eq_true h; omega
        have hjn : ((j : Nat) : Int) + 1 = ((j + 1 : Nat) : Int) := by omega
        have hb : bget s (((j : Nat) : Int) + 1).toNat = D[j] := by
          have := h4.2 j hlt
          rw [List.getD_eq_getElem?_getD, List.getElem?_eq_getElem hlt] at this
          rw [hjn, Int.toNat_natCast, Nat.add_comm]; exact this
        have hno := fun h => @all_at' _ digB D j hlt h
        have hnx := fun h => upto_next (p := fun _ c => digB c) hI hlt h
        have hsucc : digV (D.take (j + 1)) = 10 * digV (D.take j) + ((D[j].toNat : Int) - 48) := by rw [List.take_succ_eq_append_getElem hlt, digV_succ]
        generalize D[j] = c at *
        generalize digV (D.take j) = v at *
        have hc2 := c.toNat_lt
        ((first|refine rG Γ hm ?_|refine rD Γ hm (by kernel_rfl) ?_);(conv=>whnf);repeat((first|refine aF ?_|refine aT ?_);(first|refine rG Γ hm ?_|refine rD Γ hm (by kernel_rfl) ?_);conv=>whnf))
        refine ⟨by omega, by omega, ?_⟩
        rw [hb]
        ((conv=>whnf);repeat((first|refine aF ?_|refine aT ?_);(first|refine rG Γ hm ?_|refine rD Γ hm (by kernel_rfl) ?_);conv=>whnf))
        refine ⟨fun h2 => ?_, fun h2 => ?_⟩
        · have h3 : c.toNat < 48 := by have := of_decide_eq_true h2; omega
          rw [if_pos (hno (by rw [digB, decide_eq_false (by omega)]; rfl))] at hres
          subst hres
          ((first|refine rG Γ hm ?_|refine rD Γ hm (by kernel_rfl) ?_);(conv=>whnf);repeat((first|refine aF ?_|refine aT ?_);(first|refine rG Γ hm ?_|refine rD Γ hm (by kernel_rfl) ?_);conv=>whnf))
          exact done0 rfl (.cons .tmp (.cons .tmp .nil)) rfl rfl
        have h2 := of_decide_eq_false h2
        ((first|refine rG Γ hm ?_|refine rD Γ hm (by kernel_rfl) ?_);(conv=>whnf);repeat((first|refine aF ?_|refine aT ?_);(first|refine rG Γ hm ?_|refine rD Γ hm (by kernel_rfl) ?_);conv=>whnf))
        refine ⟨by omega, by omega, ?_⟩
        rw [hb]
        ((conv=>whnf);repeat((first|refine aF ?_|refine aT ?_);(first|refine rG Γ hm ?_|refine rD Γ hm (by kernel_rfl) ?_);conv=>whnf))
        refine ⟨fun h3 => ?_, fun h3 => ?_⟩
        · have h3 : 57 < c.toNat := by have := of_decide_eq_true h3; omega
          rw [if_pos (hno (by rw [digB, decide_eq_false (by omega : ¬ c.toNat ≤ 57), Bool.and_false]))] at hres
          subst hres
          ((first|refine rG Γ hm ?_|refine rD Γ hm (by kernel_rfl) ?_);(conv=>whnf);repeat((first|refine aF ?_|refine aT ?_);(first|refine rG Γ hm ?_|refine rD Γ hm (by kernel_rfl) ?_);conv=>whnf))
          exact done0 rfl (.cons .tmp (.cons .tmp .nil)) rfl rfl
        have h3 := of_decide_eq_false h3
        have hdg : digB c = true := by rw [digB, decide_eq_true (by omega), decide_eq_true (by omega)]; rfl
        have hu : IntKind.i64.wrap (c.toNat : Int) = c.toNat := by rw [IntKind.wrap_i64]; omega
        ((first|refine rG Γ hm ?_|refine rD Γ hm (by kernel_rfl) ?_);(conv=>whnf);repeat((first|refine aF ?_|refine aT ?_);(first|refine rG Γ hm ?_|refine rD Γ hm (by kernel_rfl) ?_);conv=>whnf))
        refine ⟨by show I64 (v * 10); unfold I64; omega, ?_⟩
        ((conv=>whnf);repeat((first|refine aF ?_|refine aT ?_);(first|refine rG Γ hm ?_|refine rD Γ hm (by kernel_rfl) ?_);conv=>whnf))
        refine ⟨by omega, by omega, ?_⟩
        rw [hb]
        ((conv=>whnf);repeat((first|refine aF ?_|refine aT ?_);(first|refine rG Γ hm ?_|refine rD Γ hm (by kernel_rfl) ?_);conv=>whnf))
        rw [hu]
        refine ⟨by show I64 (v * 10 + (c.toNat : Int)); unfold I64; omega, ?_⟩
        ((conv=>whnf);repeat((first|refine aF ?_|refine aT ?_);(first|refine rG Γ hm ?_|refine rD Γ hm (by kernel_rfl) ?_);conv=>whnf))
        refine ⟨by show I64 (v * 10 + (c.toNat : Int) - 48); unfold I64; omega, ?_⟩
        ((conv=>whnf);repeat((first|refine aF ?_|refine aT ?_);(first|refine rG Γ hm ?_|refine rD Γ hm (by kernel_rfl) ?_);conv=>whnf))
        refine ⟨by unfold I64; omega, ?_⟩
        ((conv=>whnf);repeat((first|refine aF ?_|refine aT ?_);(first|refine rG Γ hm ?_|refine rD Γ hm (by kernel_rfl) ?_);conv=>whnf))
        exact G_nextP [] hI (by omega) (hnx hdg) ⟨⟨rfl, rfl, rfl, rfl, rfl, rfl, rfl, rfl, congrArg intSV (hsucc.trans (by omega)), rfl, congrArg intSV (by omega), rfl, trivial⟩, trivial, rfl, rfl⟩
      · have hje : j = D.length := by have := of_decide_eq_false h; omega
        subst hje
        rw [if_neg (by rw [all_upto' hI (Nat.le_refl _)]; simp)] at hres
        rw [List.take_length] at hv ⊢
        have q2 := refNumText2S nv (by unfold Word64; omega)
        ((first|refine rG Γ hm ?_|refine rD Γ hm (by kernel_rfl) ?_);(conv=>whnf);repeat((first|refine aF ?_|refine aT ?_);(first|refine rG Γ hm ?_|refine rD Γ hm (by kernel_rfl) ?_);conv=>whnf))
        refine ⟨by show I64 (0 - digV D); unfold I64; omega, ?_⟩
        ((conv=>whnf);repeat((first|refine aF ?_|refine aT ?_);(first|refine rG Γ hm ?_|refine rD Γ hm (by kernel_rfl) ?_);conv=>whnf))
        rw [← hnv]
        refine ⟨fun h => ?_, fun h => ?_⟩
        · rw [if_pos (.inl (of_decide_eq_true h))] at hres
          subst hres
          ((first|refine rG Γ hm ?_|refine rD Γ hm (by kernel_rfl) ?_);(conv=>whnf);repeat((first|refine aF ?_|refine aT ?_);(first|refine rG Γ hm ?_|refine rD Γ hm (by kernel_rfl) ?_);conv=>whnf))
          exact done0 rfl (.cons .tmp (.cons .tmp .nil)) rfl rfl
        have h5 := of_decide_eq_false h
        ((first|refine rG Γ hm ?_|refine rD Γ hm (by kernel_rfl) ?_);(conv=>whnf);repeat((first|refine aF ?_|refine aT ?_);(first|refine rG Γ hm ?_|refine rD Γ hm (by kernel_rfl) ?_);conv=>whnf))
        refine ⟨fun h => ?_, fun h => ?_⟩
        · rw [if_pos (.inr (of_decide_eq_true h))] at hres
          subst hres
          ((first|refine rG Γ hm ?_|refine rD Γ hm (by kernel_rfl) ?_);(conv=>whnf);repeat((first|refine aF ?_|refine aT ?_);(first|refine rG Γ hm ?_|refine rD Γ hm (by kernel_rfl) ?_);conv=>whnf))
          exact done0 rfl (.cons .tmp (.cons .tmp .nil)) rfl rfl
        have h6 := of_decide_eq_false h
        rw [if_neg (by omega)] at hres
        ((first|refine rG Γ hm ?_|refine rD Γ hm (by kernel_rfl) ?_);(conv=>whnf);repeat((first|refine aF ?_|refine aT ?_);(first|refine rG Γ hm ?_|refine rD Γ hm (by kernel_rfl) ?_);conv=>whnf))
        refine call0 q2 F33 rfl rfl rfl rfl rfl ?_
        cases he : (numT nv == s)
        · rw [he, if_neg (by simp)] at hres
          subst hres
          ((first|refine rG Γ hm ?_|refine rD Γ hm (by kernel_rfl) ?_);(conv=>whnf);repeat((first|refine aF ?_|refine aT ?_);(first|refine rG Γ hm ?_|refine rD Γ hm (by kernel_rfl) ?_);conv=>whnf))
          refine ⟨fun _ => ?_, fun h => absurd h (by rw [he]; simp)⟩
          ((first|refine rG Γ hm ?_|refine rD Γ hm (by kernel_rfl) ?_);(conv=>whnf);repeat((first|refine aF ?_|refine aT ?_);(first|refine rG Γ hm ?_|refine rD Γ hm (by kernel_rfl) ?_);conv=>whnf))
          exact done0 rfl (.cons .tmp (.cons .tmp .nil)) rfl rfl
        · rw [he, if_pos rfl] at hres
          subst hres
          ((first|refine rG Γ hm ?_|refine rD Γ hm (by kernel_rfl) ?_);(conv=>whnf);repeat((first|refine aF ?_|refine aT ?_);(first|refine rG Γ hm ?_|refine rD Γ hm (by kernel_rfl) ?_);conv=>whnf))
          refine ⟨fun h => absurd h (by rw [he]; simp), fun _ => ?_⟩
          ((first|refine rG Γ hm ?_|refine rD Γ hm (by kernel_rfl) ?_);(conv=>whnf);repeat((first|refine aF ?_|refine aT ?_);(first|refine rG Γ hm ?_|refine rD Γ hm (by kernel_rfl) ?_);conv=>whnf))
          exact done0 rfl (.cons .tmp (.cons .tmp .nil)) rfl rfl
    · have hn : negB s = false := by
        rw [hnb]
        refine decide_eq_false fun h8 => ?_
        rw [show (bget s (0 : Int).toNat).toNat = 45 from h8] at h
        simp at h
      ((first|refine rG Γ hm ?_|refine rD Γ hm (by kernel_rfl) ?_);(conv=>whnf);repeat((first|refine aF ?_|refine aT ?_);(first|refine rG Γ hm ?_|refine rD Γ hm (by kernel_rfl) ?_);conv=>whnf))
      have h4 := hps hn
      have hif : (if negB s = true then 0 - digV D else digV D) = digV D := by rw [hn]; rfl
      rw [hif] at hnv
      have hlen : ((s.size : Nat) : Int) = D.length + 0 := by omega
      by_cases h1 : D.length < 1 ∨ 10 < D.length
      · rw [if_pos h1] at hres
        subst hres
        refine ⟨by unfold I64; omega, ?_⟩
        ((conv=>whnf);repeat((first|refine aF ?_|refine aT ?_);(first|refine rG Γ hm ?_|refine rD Γ hm (by kernel_rfl) ?_);conv=>whnf))
        refine ⟨fun h => ?_, fun h => ?_⟩
        · ((first|refine rG Γ hm ?_|refine rD Γ hm (by kernel_rfl) ?_);(conv=>whnf);repeat((first|refine aF ?_|refine aT ?_);(first|refine rG Γ hm ?_|refine rD Γ hm (by kernel_rfl) ?_);conv=>whnf))
          exact done0 rfl (.cons .tmp (.cons .tmp .nil)) rfl rfl
        have h2 := of_decide_eq_false h
        ((first|refine rG Γ hm ?_|refine rD Γ hm (by kernel_rfl) ?_);(conv=>whnf);repeat((first|refine aF ?_|refine aT ?_);(first|refine rG Γ hm ?_|refine rD Γ hm (by kernel_rfl) ?_);conv=>whnf))
        refine ⟨by unfold I64; omega, ?_⟩
        ((conv=>whnf);repeat((first|refine aF ?_|refine aT ?_);(first|refine rG Γ hm ?_|refine rD Γ hm (by kernel_rfl) ?_);conv=>whnf))
        refine ⟨fun h => ?_, fun h => ?_⟩
        · ((first|refine rG Γ hm ?_|refine rD Γ hm (by kernel_rfl) ?_);(conv=>whnf);repeat((first|refine aF ?_|refine aT ?_);(first|refine rG Γ hm ?_|refine rD Γ hm (by kernel_rfl) ?_);conv=>whnf))
          exact done0 rfl (.cons .tmp (.cons .tmp .nil)) rfl rfl
        exact absurd (of_decide_eq_false h) (by omega)
      rw [if_neg h1] at hres
      refine ⟨by unfold I64; omega, ?_⟩
      ((conv=>whnf);repeat((first|refine aF ?_|refine aT ?_);(first|refine rG Γ hm ?_|refine rD Γ hm (by kernel_rfl) ?_);conv=>whnf))
      refine ⟨fun h => absurd (of_decide_eq_true h) (by omega), fun _ => ?_⟩
      ((first|refine rG Γ hm ?_|refine rD Γ hm (by kernel_rfl) ?_);(conv=>whnf);repeat((first|refine aF ?_|refine aT ?_);(first|refine rG Γ hm ?_|refine rD Γ hm (by kernel_rfl) ?_);conv=>whnf))
      refine ⟨by unfold I64; omega, ?_⟩
      ((conv=>whnf);repeat((first|refine aF ?_|refine aT ?_);(first|refine rG Γ hm ?_|refine rD Γ hm (by kernel_rfl) ?_);conv=>whnf))
      refine ⟨fun h => absurd (of_decide_eq_true h) (by omega), fun _ => ?_⟩
      ((first|refine rG Γ hm ?_|refine rD Γ hm (by kernel_rfl) ?_);(conv=>whnf);repeat((first|refine aF ?_|refine aT ?_);(first|refine rG Γ hm ?_|refine rD Γ hm (by kernel_rfl) ?_);conv=>whnf))
      refine G_countP D.length (fun j => Upto (fun _ c => digB c) D j) (fun j => [(0, strSV s), (1, intSV lo), (2, intSV hi), (8, intSV 0), (9, intSV (digV (D.take j))), (10, intSV ((j : Int) + 0))]) (fun _ => []) [] (upto_zero _ _)
        ⟨⟨rfl, rfl, rfl, rfl, rfl, rfl, rfl, rfl, rfl, rfl, rfl, rfl, trivial⟩, trivial, rfl, rfl⟩ ?_
      intro j hj hI
      have hv := digV_10 (l := D.take j) (by rw [List.length_take]; omega) (upto_mem hI)
      ((first|refine rG Γ hm ?_|refine rD Γ hm (by kernel_rfl) ?_);(conv=>whnf);repeat((first|refine aF ?_|refine aT ?_);(first|refine rG Γ hm ?_|refine rD Γ hm (by kernel_rfl) ?_);conv=>whnf))
      refine ⟨fun h => ?_, fun h => ?_⟩
      · have hlt : j < D.length := by have := of_decide_eq_true h; omega
        have hjn : ((j : Nat) : Int) + 0 = ((j + 0 : Nat) : Int) := by omega
        have hb : bget s (((j : Nat) : Int) + 0).toNat = D[j] := by
          have := h4.2 j hlt
          rw [List.getD_eq_getElem?_getD, List.getElem?_eq_getElem hlt] at this
          rw [hjn, Int.toNat_natCast]; exact this
        have hno := fun h => @all_at' _ digB D j hlt h
        have hnx := fun h => upto_next (p := fun _ c => digB c) hI hlt h
        have hsucc : digV (D.take (j + 1)) = 10 * digV (D.take j) + ((D[j].toNat : Int) - 48) := by rw [List.take_succ_eq_append_getElem hlt, digV_succ]
        generalize D[j] = c at *
        generalize digV (D.take j) = v at *
        have hc2 := c.toNat_lt
        ((first|refine rG Γ hm ?_|refine rD Γ hm (by kernel_rfl) ?_);(conv=>whnf);repeat((first|refine aF ?_|refine aT ?_);(first|refine rG Γ hm ?_|refine rD Γ hm (by kernel_rfl) ?_);conv=>whnf))
        refine ⟨by omega, by omega, ?_⟩
        rw [hb]
        ((conv=>whnf);repeat((first|refine aF ?_|refine aT ?_);(first|refine rG Γ hm ?_|refine rD Γ hm (by kernel_rfl) ?_);conv=>whnf))
        refine ⟨fun h2 => ?_, fun h2 => ?_⟩
        · have h3 : c.toNat < 48 := by have := of_decide_eq_true h2; omega
          rw [if_pos (hno (by rw [digB, decide_eq_false (by omega)]; rfl))] at hres
          subst hres
          ((first|refine rG Γ hm ?_|refine rD Γ hm (by kernel_rfl) ?_);(conv=>whnf);repeat((first|refine aF ?_|refine aT ?_);(first|refine rG Γ hm ?_|refine rD Γ hm (by kernel_rfl) ?_);conv=>whnf))
          exact done0 rfl (.cons .tmp (.cons .tmp .nil)) rfl rfl
        have h2 := of_decide_eq_false h2
        ((first|refine rG Γ hm ?_|refine rD Γ hm (by kernel_rfl) ?_);(conv=>whnf);repeat((first|refine aF ?_|refine aT ?_);(first|refine rG Γ hm ?_|refine rD Γ hm (by kernel_rfl) ?_);conv=>whnf))
        refine ⟨by omega, by omega, ?_⟩
        rw [hb]
        ((conv=>whnf);repeat((first|refine aF ?_|refine aT ?_);(first|refine rG Γ hm ?_|refine rD Γ hm (by kernel_rfl) ?_);conv=>whnf))
        refine ⟨fun h3 => ?_, fun h3 => ?_⟩
        · have h3 : 57 < c.toNat := by have := of_decide_eq_true h3; omega
          rw [if_pos (hno (by rw [digB, decide_eq_false (by omega : ¬ c.toNat ≤ 57), Bool.and_false]))] at hres
          subst hres
          ((first|refine rG Γ hm ?_|refine rD Γ hm (by kernel_rfl) ?_);(conv=>whnf);repeat((first|refine aF ?_|refine aT ?_);(first|refine rG Γ hm ?_|refine rD Γ hm (by kernel_rfl) ?_);conv=>whnf))
          exact done0 rfl (.cons .tmp (.cons .tmp .nil)) rfl rfl
        have h3 := of_decide_eq_false h3
        have hdg : digB c = true := by rw [digB, decide_eq_true (by omega), decide_eq_true (by omega)]; rfl
        have hu : IntKind.i64.wrap (c.toNat : Int) = c.toNat := by rw [IntKind.wrap_i64]; omega
        ((first|refine rG Γ hm ?_|refine rD Γ hm (by kernel_rfl) ?_);(conv=>whnf);repeat((first|refine aF ?_|refine aT ?_);(first|refine rG Γ hm ?_|refine rD Γ hm (by kernel_rfl) ?_);conv=>whnf))
        refine ⟨by show I64 (v * 10); unfold I64; omega, ?_⟩
        ((conv=>whnf);repeat((first|refine aF ?_|refine aT ?_);(first|refine rG Γ hm ?_|refine rD Γ hm (by kernel_rfl) ?_);conv=>whnf))
        refine ⟨by omega, by omega, ?_⟩
        rw [hb]
        ((conv=>whnf);repeat((first|refine aF ?_|refine aT ?_);(first|refine rG Γ hm ?_|refine rD Γ hm (by kernel_rfl) ?_);conv=>whnf))
        rw [hu]
        refine ⟨by show I64 (v * 10 + (c.toNat : Int)); unfold I64; omega, ?_⟩
        ((conv=>whnf);repeat((first|refine aF ?_|refine aT ?_);(first|refine rG Γ hm ?_|refine rD Γ hm (by kernel_rfl) ?_);conv=>whnf))
        refine ⟨by show I64 (v * 10 + (c.toNat : Int) - 48); unfold I64; omega, ?_⟩
        ((conv=>whnf);repeat((first|refine aF ?_|refine aT ?_);(first|refine rG Γ hm ?_|refine rD Γ hm (by kernel_rfl) ?_);conv=>whnf))
        refine ⟨by unfold I64; omega, ?_⟩
        ((conv=>whnf);repeat((first|refine aF ?_|refine aT ?_);(first|refine rG Γ hm ?_|refine rD Γ hm (by kernel_rfl) ?_);conv=>whnf))
        exact G_nextP [] hI (by omega) (hnx hdg) ⟨⟨rfl, rfl, rfl, rfl, rfl, rfl, rfl, rfl, congrArg intSV (hsucc.trans (by omega)), rfl, congrArg intSV (by omega), rfl, trivial⟩, trivial, rfl, rfl⟩
      · have hje : j = D.length := by have := of_decide_eq_false h; omega
        subst hje
        rw [if_neg (by rw [all_upto' hI (Nat.le_refl _)]; simp)] at hres
        rw [List.take_length] at hv ⊢
        have q2 := refNumText2S nv (by unfold Word64; omega)
        rw [← hnv]
        ((first|refine rG Γ hm ?_|refine rD Γ hm (by kernel_rfl) ?_);(conv=>whnf);repeat((first|refine aF ?_|refine aT ?_);(first|refine rG Γ hm ?_|refine rD Γ hm (by kernel_rfl) ?_);conv=>whnf))
        refine ⟨fun h => ?_, fun h => ?_⟩
        · rw [if_pos (.inl (of_decide_eq_true h))] at hres
          subst hres
          ((first|refine rG Γ hm ?_|refine rD Γ hm (by kernel_rfl) ?_);(conv=>whnf);repeat((first|refine aF ?_|refine aT ?_);(first|refine rG Γ hm ?_|refine rD Γ hm (by kernel_rfl) ?_);conv=>whnf))
          exact done0 rfl (.cons .tmp (.cons .tmp .nil)) rfl rfl
        have h5 := of_decide_eq_false h
        ((first|refine rG Γ hm ?_|refine rD Γ hm (by kernel_rfl) ?_);(conv=>whnf);repeat((first|refine aF ?_|refine aT ?_);(first|refine rG Γ hm ?_|refine rD Γ hm (by kernel_rfl) ?_);conv=>whnf))
        refine ⟨fun h => ?_, fun h => ?_⟩
        · rw [if_pos (.inr (of_decide_eq_true h))] at hres
          subst hres
          ((first|refine rG Γ hm ?_|refine rD Γ hm (by kernel_rfl) ?_);(conv=>whnf);repeat((first|refine aF ?_|refine aT ?_);(first|refine rG Γ hm ?_|refine rD Γ hm (by kernel_rfl) ?_);conv=>whnf))
          exact done0 rfl (.cons .tmp (.cons .tmp .nil)) rfl rfl
        have h6 := of_decide_eq_false h
        rw [if_neg (by omega)] at hres
        ((first|refine rG Γ hm ?_|refine rD Γ hm (by kernel_rfl) ?_);(conv=>whnf);repeat((first|refine aF ?_|refine aT ?_);(first|refine rG Γ hm ?_|refine rD Γ hm (by kernel_rfl) ?_);conv=>whnf))
        refine call0 q2 F33 rfl rfl rfl rfl rfl ?_
        cases he : (numT nv == s)
        · rw [he, if_neg (by simp)] at hres
          subst hres
          ((first|refine rG Γ hm ?_|refine rD Γ hm (by kernel_rfl) ?_);(conv=>whnf);repeat((first|refine aF ?_|refine aT ?_);(first|refine rG Γ hm ?_|refine rD Γ hm (by kernel_rfl) ?_);conv=>whnf))
          refine ⟨fun _ => ?_, fun h => absurd h (by rw [he]; simp)⟩
          ((first|refine rG Γ hm ?_|refine rD Γ hm (by kernel_rfl) ?_);(conv=>whnf);repeat((first|refine aF ?_|refine aT ?_);(first|refine rG Γ hm ?_|refine rD Γ hm (by kernel_rfl) ?_);conv=>whnf))
          exact done0 rfl (.cons .tmp (.cons .tmp .nil)) rfl rfl
        · rw [he, if_pos rfl] at hres
          subst hres
          ((first|refine rG Γ hm ?_|refine rD Γ hm (by kernel_rfl) ?_);(conv=>whnf);repeat((first|refine aF ?_|refine aT ?_);(first|refine rG Γ hm ?_|refine rD Γ hm (by kernel_rfl) ?_);conv=>whnf))
          refine ⟨fun h => absurd h (by rw [he]; simp), fun _ => ?_⟩
          ((first|refine rG Γ hm ?_|refine rD Γ hm (by kernel_rfl) ?_);(conv=>whnf);repeat((first|refine aF ?_|refine aT ?_);(first|refine rG Γ hm ?_|refine rD Γ hm (by kernel_rfl) ?_);conv=>whnf))
          exact done0 rfl (.cons .tmp (.cons .tmp .nil)) rfl rfl
  · have h0 : s.size = 0 := by have := of_decide_eq_false h; omega
    have hn : negB s = false := by
      rw [negB]
      cases hd : s.data.toList with
      | nil => rfl
      | cons c l => rw [hd] at hsz; simp at hsz; omega
    have h4 := hps hn
    rw [if_pos (.inl (by omega))] at hres
    subst hres
    ((first|refine rG Γ hm ?_|refine rD Γ hm (by kernel_rfl) ?_);(conv=>whnf);repeat((first|refine aF ?_|refine aT ?_);(first|refine rG Γ hm ?_|refine rD Γ hm (by kernel_rfl) ?_);conv=>whnf))
    refine ⟨by unfold I64; omega, ?_⟩
    ((conv=>whnf);repeat((first|refine aF ?_|refine aT ?_);(first|refine rG Γ hm ?_|refine rD Γ hm (by kernel_rfl) ?_);conv=>whnf))
    refine ⟨fun h => ?_, fun h => absurd (of_decide_eq_false h) (by omega)⟩
    ((first|refine rG Γ hm ?_|refine rD Γ hm (by kernel_rfl) ?_);(conv=>whnf);repeat((first|refine aF ?_|refine aT ?_);(first|refine rG Γ hm ?_|refine rD Γ hm (by kernel_rfl) ?_);conv=>whnf))
    exact done0 rfl (.cons .tmp (.cons .tmp .nil)) rfl rfl

end Go.Sy.YtjomehmhkcnadaaGreatDoor

namespace Go.Sy.YtjomehmhkcnadaaGreatDoor
open Go.Proofs
-- SIMP: placeB

attribute [local irreducible] Go.Sy.G Go.Sy.DR
set_option maxRecDepth 20000
set_option maxHeartbeats 4000000

/-- palingref03.Rising. -/
theorem refRisingS (l : List Int) (least most : Int) (hl : Short l) : Sy.Spec Tryz.prog 107 [.sl 1 intSV l, intSV least, intSV most] [] (boolSV (risingB l least most)) [] := contract Γ hm 100 F107 Tryz.ntmps107 rfl fun F hF => by
  unfold Short at hl
  ((conv=>whnf);repeat((first|refine aF ?_|refine aT ?_);(first|refine rG Γ hm ?_|refine rD Γ hm (by kernel_rfl) ?_);conv=>whnf))
  (repeat' (first | (refine ⟨fun h => ?_, fun h => ?_⟩ <;> (repeat (first | (simp only [placeB] at h) | (simp only [decide_eq_true_eq] at h) | (simp only [decide_eq_false_iff_not] at h) | (simp only [beq_iff_eq] at h) | (simp only [beq_eq_false_iff_ne] at h) | (simp only [bne_iff_ne] at h) | (simp only [bne_eq_false_iff_eq] at h) | (simp only [Bool.and_eq_true] at h) | (simp only [Bool.or_eq_true] at h) | (simp only [Bool.and_eq_false_iff] at h) | (simp only [Bool.or_eq_false_iff] at h) | (simp only [Bool.not_eq_true'] at h) | (simp only [Bool.not_eq_false'] at h) | (simp only [Bool.not_eq_eq_eq_not] at h) | (simp only [Bool.not_true] at h) | (simp only [Bool.not_false] at h))) <;> ((first|refine rG Γ hm ?_|refine rD Γ hm (by kernel_rfl) ?_);(conv=>whnf);repeat((first|refine aF ?_|refine aT ?_);(first|refine rG Γ hm ?_|refine rD Γ hm (by kernel_rfl) ?_);conv=>whnf))) | (refine done0 rfl (.cons .tmp .nil) ?_ rfl) | (refine ⟨(by kernel_rfl), ?_⟩; ((conv=>whnf);repeat((first|refine aF ?_|refine aT ?_);(first|refine rG Γ hm ?_|refine rD Γ hm (by kernel_rfl) ?_);conv=>whnf))) | (refine ⟨by (first | (unfold I64; omega) | omega | (simp only [Int.toNat_natCast]; omega) | done), by (first | (unfold I64; omega) | omega | (simp only [Int.toNat_natCast]; omega) | done), ?_⟩; ((conv=>whnf);repeat((first|refine aF ?_|refine aT ?_);(first|refine rG Γ hm ?_|refine rD Γ hm (by kernel_rfl) ?_);conv=>whnf))) | (refine ⟨by (first | (unfold I64; omega) | omega | (simp only [Int.toNat_natCast]; omega) | done), ?_⟩; ((conv=>whnf);repeat((first|refine aF ?_|refine aT ?_);(first|refine rG Γ hm ?_|refine rD Γ hm (by kernel_rfl) ?_);conv=>whnf)))))
  all_goals try (refine congrArg boolSV ?_)
  · rw [risingB]; simp; omega
  · rw [risingB]; simp; omega
  refine G_countP l.length (fun j => Upto (riseP l least most) l j) (fun j => [(0, .sl 1 intSV l), (1, intSV least), (2, intSV most), (7, intSV j)]) (fun _ => []) [] (upto_zero _ _) ⟨⟨rfl, rfl, rfl, rfl, rfl, rfl, rfl, rfl, trivial⟩, trivial, rfl, rfl⟩ ?_
  intro j hj hI
  ((first|refine rG Γ hm ?_|refine rD Γ hm (by kernel_rfl) ?_);(conv=>whnf);repeat((first|refine aF ?_|refine aT ?_);(first|refine rG Γ hm ?_|refine rD Γ hm (by kernel_rfl) ?_);conv=>whnf))
  (repeat' (first | (refine ⟨fun h => ?_, fun h => ?_⟩ <;> (repeat (first | (simp only [placeB] at h) | (simp only [decide_eq_true_eq] at h) | (simp only [decide_eq_false_iff_not] at h) | (simp only [beq_iff_eq] at h) | (simp only [beq_eq_false_iff_ne] at h) | (simp only [bne_iff_ne] at h) | (simp only [bne_eq_false_iff_eq] at h) | (simp only [Bool.and_eq_true] at h) | (simp only [Bool.or_eq_true] at h) | (simp only [Bool.and_eq_false_iff] at h) | (simp only [Bool.or_eq_false_iff] at h) | (simp only [Bool.not_eq_true'] at h) | (simp only [Bool.not_eq_false'] at h) | (simp only [Bool.not_eq_eq_eq_not] at h) | (simp only [Bool.not_true] at h) | (simp only [Bool.not_false] at h))) <;> ((first|refine rG Γ hm ?_|refine rD Γ hm (by kernel_rfl) ?_);(conv=>whnf);repeat((first|refine aF ?_|refine aT ?_);(first|refine rG Γ hm ?_|refine rD Γ hm (by kernel_rfl) ?_);conv=>whnf))) | (refine done0 rfl (.cons .tmp .nil) ?_ rfl) | (refine ⟨(by kernel_rfl), ?_⟩; ((conv=>whnf);repeat((first|refine aF ?_|refine aT ?_);(first|refine rG Γ hm ?_|refine rD Γ hm (by kernel_rfl) ?_);conv=>whnf))) | (refine ⟨by (first | (unfold I64; omega) | omega | (simp only [Int.toNat_natCast]; omega) | done), by (first | (unfold I64; omega) | omega | (simp only [Int.toNat_natCast]; omega) | done), ?_⟩; ((conv=>whnf);repeat((first|refine aF ?_|refine aT ?_);(first|refine rG Γ hm ?_|refine rD Γ hm (by kernel_rfl) ?_);conv=>whnf))) | (refine ⟨by (first | (unfold I64; omega) | omega | (simp only [Int.toNat_natCast]; omega) | done), ?_⟩; ((conv=>whnf);repeat((first|refine aF ?_|refine aT ?_);(first|refine rG Γ hm ?_|refine rD Γ hm (by kernel_rfl) ?_);conv=>whnf))) | (refine G_nextP [] hI (by omega) ?_ ⟨⟨rfl, rfl, rfl, rfl, rfl, rfl, rfl, rfl, trivial⟩, trivial, rfl, rfl⟩)))
  all_goals try (refine congrArg boolSV ?_)
  all_goals try simp only [Int.toNat_natCast, Int.pred_toNat] at *
  · rw [risingB, allB_false (i := j) (by omega) (by simp [riseP]; omega)]; simp
  · rw [risingB, allB_false (i := j) (by omega) (by simp [riseP]; omega)]; simp
  · rw [risingB, allB_false (i := j) (by omega) (by simp only [riseP, nth_eq (show ((j : Int) - 1).toNat < l.length by omega), Int.pred_toNat, Int.toNat_natCast]; simp; omega)]; simp
  · exact upto_next hI (by omega) (by simp only [riseP, nth_eq (show ((j : Int) - 1).toNat < l.length by omega), Int.pred_toNat, Int.toNat_natCast]; simp; omega)
  · exact upto_next hI (by omega) (by simp [riseP]; omega)
  · rw [risingB, upto_all hI (by omega), Bool.eq_iff_iff]; simp; omega

theorem ref15RisingS (l : List Int) (most : Int) (hl : Short l) : Sy.Spec Tryz.prog 94 [.sl 1 intSV l, intSV most] [] (boolSV (decide (l.length = 0) || risingB l 1 most)) [] := contract Γ hm 100 F94 Tryz.ntmps94 rfl fun F hF => by
  ((conv=>whnf);repeat((first|refine aF ?_|refine aT ?_);(first|refine rG Γ hm ?_|refine rD Γ hm (by kernel_rfl) ?_);conv=>whnf))
  (repeat' (first | (refine ⟨fun h => ?_, fun h => ?_⟩ <;> (repeat (first | (simp only [placeB] at h) | (simp only [decide_eq_true_eq] at h) | (simp only [decide_eq_false_iff_not] at h) | (simp only [beq_iff_eq] at h) | (simp only [beq_eq_false_iff_ne] at h) | (simp only [bne_iff_ne] at h) | (simp only [bne_eq_false_iff_eq] at h) | (simp only [Bool.and_eq_true] at h) | (simp only [Bool.or_eq_true] at h) | (simp only [Bool.and_eq_false_iff] at h) | (simp only [Bool.or_eq_false_iff] at h) | (simp only [Bool.not_eq_true'] at h) | (simp only [Bool.not_eq_false'] at h) | (simp only [Bool.not_eq_eq_eq_not] at h) | (simp only [Bool.not_true] at h) | (simp only [Bool.not_false] at h))) <;> ((first|refine rG Γ hm ?_|refine rD Γ hm (by kernel_rfl) ?_);(conv=>whnf);repeat((first|refine aF ?_|refine aT ?_);(first|refine rG Γ hm ?_|refine rD Γ hm (by kernel_rfl) ?_);conv=>whnf))) | (refine done0 rfl (.cons .tmp .nil) ?_ rfl) | (refine ⟨(by kernel_rfl), ?_⟩; ((conv=>whnf);repeat((first|refine aF ?_|refine aT ?_);(first|refine rG Γ hm ?_|refine rD Γ hm (by kernel_rfl) ?_);conv=>whnf))) | (refine ⟨by (first | (unfold I64; omega) | omega | (simp only [Int.toNat_natCast]; omega) | done), by (first | (unfold I64; omega) | omega | (simp only [Int.toNat_natCast]; omega) | done), ?_⟩; ((conv=>whnf);repeat((first|refine aF ?_|refine aT ?_);(first|refine rG Γ hm ?_|refine rD Γ hm (by kernel_rfl) ?_);conv=>whnf))) | (refine ⟨by (first | (unfold I64; omega) | omega | (simp only [Int.toNat_natCast]; omega) | done), ?_⟩; ((conv=>whnf);repeat((first|refine aF ?_|refine aT ?_);(first|refine rG Γ hm ?_|refine rD Γ hm (by kernel_rfl) ?_);conv=>whnf))) | (refine call0 (refRisingS l 1 most hl) F107 rfl rfl rfl rfl rfl ?_; ((first|refine rG Γ hm ?_|refine rD Γ hm (by kernel_rfl) ?_);(conv=>whnf);repeat((first|refine aF ?_|refine aT ?_);(first|refine rG Γ hm ?_|refine rD Γ hm (by kernel_rfl) ?_);conv=>whnf))) | (refine callD0 (refRisingS l 1 most hl) F107 rfl rfl rfl (by kernel_rfl) rfl ?_; ((first|refine rG Γ hm ?_|refine rD Γ hm (by kernel_rfl) ?_);(conv=>whnf);repeat((first|refine aF ?_|refine aT ?_);(first|refine rG Γ hm ?_|refine rD Γ hm (by kernel_rfl) ?_);conv=>whnf)))))
  all_goals (refine congrArg boolSV ?_)
  all_goals grind

theorem ref15PlaceS (i : Int) (n : Nat) : Sy.Spec Tryz.prog 31 [intSV i, intSV n] [] (boolSV (placeB i n)) [] := contract Γ hm 100 F31 Tryz.ntmps31 rfl fun F hF => by
  ((conv=>whnf);repeat((first|refine aF ?_|refine aT ?_);(first|refine rG Γ hm ?_|refine rD Γ hm (by kernel_rfl) ?_);conv=>whnf))
  (repeat' (first | (refine ⟨fun h => ?_, fun h => ?_⟩ <;> (repeat (first | (simp only [placeB] at h) | (simp only [decide_eq_true_eq] at h) | (simp only [decide_eq_false_iff_not] at h) | (simp only [beq_iff_eq] at h) | (simp only [beq_eq_false_iff_ne] at h) | (simp only [bne_iff_ne] at h) | (simp only [bne_eq_false_iff_eq] at h) | (simp only [Bool.and_eq_true] at h) | (simp only [Bool.or_eq_true] at h) | (simp only [Bool.and_eq_false_iff] at h) | (simp only [Bool.or_eq_false_iff] at h) | (simp only [Bool.not_eq_true'] at h) | (simp only [Bool.not_eq_false'] at h) | (simp only [Bool.not_eq_eq_eq_not] at h) | (simp only [Bool.not_true] at h) | (simp only [Bool.not_false] at h))) <;> ((first|refine rG Γ hm ?_|refine rD Γ hm (by kernel_rfl) ?_);(conv=>whnf);repeat((first|refine aF ?_|refine aT ?_);(first|refine rG Γ hm ?_|refine rD Γ hm (by kernel_rfl) ?_);conv=>whnf))) | (refine done0 rfl (.cons .tmp .nil) ?_ rfl) | (refine ⟨(by kernel_rfl), ?_⟩; ((conv=>whnf);repeat((first|refine aF ?_|refine aT ?_);(first|refine rG Γ hm ?_|refine rD Γ hm (by kernel_rfl) ?_);conv=>whnf))) | (refine ⟨by (first | (unfold I64; omega) | omega | (simp only [Int.toNat_natCast]; omega) | done), by (first | (unfold I64; omega) | omega | (simp only [Int.toNat_natCast]; omega) | done), ?_⟩; ((conv=>whnf);repeat((first|refine aF ?_|refine aT ?_);(first|refine rG Γ hm ?_|refine rD Γ hm (by kernel_rfl) ?_);conv=>whnf))) | (refine ⟨by (first | (unfold I64; omega) | omega | (simp only [Int.toNat_natCast]; omega) | done), ?_⟩; ((conv=>whnf);repeat((first|refine aF ?_|refine aT ?_);(first|refine rG Γ hm ?_|refine rD Γ hm (by kernel_rfl) ?_);conv=>whnf)))))
  all_goals (refine congrArg boolSV ?_)
  all_goals grind [placeB]

theorem any_false {α : Type} {p : α → Bool} {l : List α} {j : Nat} (hI : Upto (fun _ x => !(p x)) l j) (hj : l.length ≤ j) : l.any p = false := by
  rw [List.any_eq_false]
  intro x hx
  obtain ⟨i, hi, rfl⟩ := List.mem_iff_getElem.1 hx
  simpa using hI i hi (by omega)
theorem any_true {α : Type} {p : α → Bool} {l : List α} {j : Nat} (hj : j < l.length) (h : p l[j] = true) : l.any p = true := List.any_eq_true.2 ⟨_, List.getElem_mem hj, h⟩

theorem ref15InS (l : List Int) (x : Int) (hl : Short l) : Sy.Spec Tryz.prog 93 [.sl 1 intSV l, intSV x] [] (boolSV (inB l x)) [] := contract Γ hm 100 F93 Tryz.ntmps93 rfl fun F hF => by
  unfold Short at hl
  ((conv=>whnf);repeat((first|refine aF ?_|refine aT ?_);(first|refine rG Γ hm ?_|refine rD Γ hm (by kernel_rfl) ?_);conv=>whnf))
  refine G_countP l.length (fun j => Upto (fun _ y => !(y == x)) l j) (fun j => [(0, .sl 1 intSV l), (1, intSV x), (5, intSV j)]) (fun _ => []) [] (upto_zero _ _) ⟨⟨rfl, rfl, rfl, rfl, rfl, rfl, trivial⟩, trivial, rfl, rfl⟩ ?_
  intro j hj hI
  ((first|refine rG Γ hm ?_|refine rD Γ hm (by kernel_rfl) ?_);(conv=>whnf);repeat((first|refine aF ?_|refine aT ?_);(first|refine rG Γ hm ?_|refine rD Γ hm (by kernel_rfl) ?_);conv=>whnf))
  (repeat' (first | (refine ⟨fun h => ?_, fun h => ?_⟩ <;> (repeat (first | (simp only [placeB] at h) | (simp only [decide_eq_true_eq] at h) | (simp only [decide_eq_false_iff_not] at h) | (simp only [beq_iff_eq] at h) | (simp only [beq_eq_false_iff_ne] at h) | (simp only [bne_iff_ne] at h) | (simp only [bne_eq_false_iff_eq] at h) | (simp only [Bool.and_eq_true] at h) | (simp only [Bool.or_eq_true] at h) | (simp only [Bool.and_eq_false_iff] at h) | (simp only [Bool.or_eq_false_iff] at h) | (simp only [Bool.not_eq_true'] at h) | (simp only [Bool.not_eq_false'] at h) | (simp only [Bool.not_eq_eq_eq_not] at h) | (simp only [Bool.not_true] at h) | (simp only [Bool.not_false] at h))) <;> ((first|refine rG Γ hm ?_|refine rD Γ hm (by kernel_rfl) ?_);(conv=>whnf);repeat((first|refine aF ?_|refine aT ?_);(first|refine rG Γ hm ?_|refine rD Γ hm (by kernel_rfl) ?_);conv=>whnf))) | (refine done0 rfl (.cons .tmp .nil) ?_ rfl) | (refine ⟨(by kernel_rfl), ?_⟩; ((conv=>whnf);repeat((first|refine aF ?_|refine aT ?_);(first|refine rG Γ hm ?_|refine rD Γ hm (by kernel_rfl) ?_);conv=>whnf))) | (refine ⟨by (first | (unfold I64; omega) | omega | (simp only [Int.toNat_natCast]; omega) | done), by (first | (unfold I64; omega) | omega | (simp only [Int.toNat_natCast]; omega) | done), ?_⟩; ((conv=>whnf);repeat((first|refine aF ?_|refine aT ?_);(first|refine rG Γ hm ?_|refine rD Γ hm (by kernel_rfl) ?_);conv=>whnf))) | (refine ⟨by (first | (unfold I64; omega) | omega | (simp only [Int.toNat_natCast]; omega) | done), ?_⟩; ((conv=>whnf);repeat((first|refine aF ?_|refine aT ?_);(first|refine rG Γ hm ?_|refine rD Γ hm (by kernel_rfl) ?_);conv=>whnf))) | (refine G_nextP [] hI (by omega) ?_ ⟨⟨rfl, rfl, rfl, rfl, rfl, rfl, trivial⟩, trivial, rfl, rfl⟩)))
  all_goals try (refine congrArg boolSV ?_)
  · exact any_true (j := j) (by omega) (by simpa using h)
  · exact upto_next hI (by omega) (by simpa using h)
  · exact any_false hI (by omega)

theorem ref15MemberS (p : Port) (v : Int) (hl : Short p.tagged) : Sy.Spec Tryz.prog 95 [portSV p, intSV v] [] (boolSV (memberB p v)) [] := contract Γ hm 100 F95 Tryz.ntmps95 rfl fun F hF => by
  ((conv=>whnf);repeat((first|refine aF ?_|refine aT ?_);(first|refine rG Γ hm ?_|refine rD Γ hm (by kernel_rfl) ?_);conv=>whnf))
  (repeat' (first | (refine ⟨fun h => ?_, fun h => ?_⟩ <;> (repeat (first | (simp only [placeB] at h) | (simp only [decide_eq_true_eq] at h) | (simp only [decide_eq_false_iff_not] at h) | (simp only [beq_iff_eq] at h) | (simp only [beq_eq_false_iff_ne] at h) | (simp only [bne_iff_ne] at h) | (simp only [bne_eq_false_iff_eq] at h) | (simp only [Bool.and_eq_true] at h) | (simp only [Bool.or_eq_true] at h) | (simp only [Bool.and_eq_false_iff] at h) | (simp only [Bool.or_eq_false_iff] at h) | (simp only [Bool.not_eq_true'] at h) | (simp only [Bool.not_eq_false'] at h) | (simp only [Bool.not_eq_eq_eq_not] at h) | (simp only [Bool.not_true] at h) | (simp only [Bool.not_false] at h))) <;> ((first|refine rG Γ hm ?_|refine rD Γ hm (by kernel_rfl) ?_);(conv=>whnf);repeat((first|refine aF ?_|refine aT ?_);(first|refine rG Γ hm ?_|refine rD Γ hm (by kernel_rfl) ?_);conv=>whnf))) | (refine done0 rfl (.cons .tmp .nil) ?_ rfl) | (refine ⟨(by kernel_rfl), ?_⟩; ((conv=>whnf);repeat((first|refine aF ?_|refine aT ?_);(first|refine rG Γ hm ?_|refine rD Γ hm (by kernel_rfl) ?_);conv=>whnf))) | (refine ⟨by (first | (unfold I64; omega) | omega | (simp only [Int.toNat_natCast]; omega) | done), by (first | (unfold I64; omega) | omega | (simp only [Int.toNat_natCast]; omega) | done), ?_⟩; ((conv=>whnf);repeat((first|refine aF ?_|refine aT ?_);(first|refine rG Γ hm ?_|refine rD Γ hm (by kernel_rfl) ?_);conv=>whnf))) | (refine ⟨by (first | (unfold I64; omega) | omega | (simp only [Int.toNat_natCast]; omega) | done), ?_⟩; ((conv=>whnf);repeat((first|refine aF ?_|refine aT ?_);(first|refine rG Γ hm ?_|refine rD Γ hm (by kernel_rfl) ?_);conv=>whnf))) | (refine call0 (ref15InS p.tagged v hl) F93 rfl rfl rfl rfl rfl ?_; ((first|refine rG Γ hm ?_|refine rD Γ hm (by kernel_rfl) ?_);(conv=>whnf);repeat((first|refine aF ?_|refine aT ?_);(first|refine rG Γ hm ?_|refine rD Γ hm (by kernel_rfl) ?_);conv=>whnf))) | (refine callD0 (ref15InS p.tagged v hl) F93 rfl rfl rfl (by kernel_rfl) rfl ?_; ((first|refine rG Γ hm ?_|refine rD Γ hm (by kernel_rfl) ?_);(conv=>whnf);repeat((first|refine aF ?_|refine aT ?_);(first|refine rG Γ hm ?_|refine rD Γ hm (by kernel_rfl) ?_);conv=>whnf)))))
  all_goals (refine congrArg boolSV ?_)
  all_goals grind [memberB]
end Go.Sy.YtjomehmhkcnadaaGreatDoor

namespace Go.Sy.YtjomehmhkcnadaaGreatDoor
open Go.Proofs
-- SIMP: placeB

attribute [local irreducible] Go.Sy.G Go.Sy.DR
set_option maxRecDepth 20000
set_option maxHeartbeats 4000000

theorem ref15AtS (n : Net) (dev vlan : Int) (hl : Short n.domains) : Sy.Spec Tryz.prog 91 [netSV n, intSV dev, intSV vlan] [] (intSV (domI n dev vlan)) [] := contract Γ hm 100 F91 Tryz.ntmps91 rfl fun F hF => by
  unfold Short at hl
  ((conv=>whnf);repeat((first|refine aF ?_|refine aT ?_);(first|refine rG Γ hm ?_|refine rD Γ hm (by kernel_rfl) ?_);conv=>whnf))
  refine G_box 3 8 (netSV n) rfl rfl rfl ?_
  refine G_countP n.domains.length (fun j => Upto (fun _ d => !(d.dev == dev && d.vlan == vlan)) n.domains j) (fun j => [(1, intSV dev), (2, intSV vlan), (3, .ref 8 (netSV n) 0), (7, intSV j)]) (fun _ => []) [] (upto_zero _ _) ⟨⟨rfl, rfl, rfl, rfl, rfl, rfl, rfl, rfl, trivial⟩, trivial, rfl, rfl⟩ ?_
  intro j hj hI
  ((first|refine rG Γ hm ?_|refine rD Γ hm (by kernel_rfl) ?_);(conv=>whnf);repeat((first|refine aF ?_|refine aT ?_);(first|refine rG Γ hm ?_|refine rD Γ hm (by kernel_rfl) ?_);conv=>whnf))
  (repeat' (first | (refine ⟨fun h => ?_, fun h => ?_⟩ <;> (repeat (first | (simp only [placeB] at h) | (simp only [decide_eq_true_eq] at h) | (simp only [decide_eq_false_iff_not] at h) | (simp only [beq_iff_eq] at h) | (simp only [beq_eq_false_iff_ne] at h) | (simp only [bne_iff_ne] at h) | (simp only [bne_eq_false_iff_eq] at h) | (simp only [Bool.and_eq_true] at h) | (simp only [Bool.or_eq_true] at h) | (simp only [Bool.and_eq_false_iff] at h) | (simp only [Bool.or_eq_false_iff] at h) | (simp only [Bool.not_eq_true'] at h) | (simp only [Bool.not_eq_false'] at h) | (simp only [Bool.not_eq_eq_eq_not] at h) | (simp only [Bool.not_true] at h) | (simp only [Bool.not_false] at h))) <;> ((first|refine rG Γ hm ?_|refine rD Γ hm (by kernel_rfl) ?_);(conv=>whnf);repeat((first|refine aF ?_|refine aT ?_);(first|refine rG Γ hm ?_|refine rD Γ hm (by kernel_rfl) ?_);conv=>whnf))) | (refine done0 rfl (.cons .tmp .nil) ?_ rfl) | (refine ⟨(by kernel_rfl), ?_⟩; ((conv=>whnf);repeat((first|refine aF ?_|refine aT ?_);(first|refine rG Γ hm ?_|refine rD Γ hm (by kernel_rfl) ?_);conv=>whnf))) | (refine ⟨by (first | (unfold I64; omega) | omega | (simp only [Int.toNat_natCast]; omega) | done), by (first | (unfold I64; omega) | omega | (simp only [Int.toNat_natCast]; omega) | done), ?_⟩; ((conv=>whnf);repeat((first|refine aF ?_|refine aT ?_);(first|refine rG Γ hm ?_|refine rD Γ hm (by kernel_rfl) ?_);conv=>whnf))) | (refine ⟨by (first | (unfold I64; omega) | omega | (simp only [Int.toNat_natCast]; omega) | done), ?_⟩; ((conv=>whnf);repeat((first|refine aF ?_|refine aT ?_);(first|refine rG Γ hm ?_|refine rD Γ hm (by kernel_rfl) ?_);conv=>whnf))) | (refine G_nextP [] hI (by omega) ?_ ⟨⟨rfl, rfl, rfl, rfl, rfl, rfl, rfl, rfl, trivial⟩, trivial, rfl, rfl⟩)))
  all_goals try (refine congrArg intSV ?_)
  · exact idxI_found (by omega) (fun i hi hij => by have := hI i hi hij; grind) (by simp_all)
  · exact upto_next hI (by omega) (by simp_all)
  · exact upto_next hI (by omega) (by simp_all)
  · exact idxI_none (fun i hi => by have := hI i hi (by omega); grind)

theorem ref15LinksS (n : Net) (hn : n.Fin) : Sy.Spec Tryz.prog 60 [netSV n] [] (boolSV (allB (linkB n) n.links)) [] := contract Γ hm 100 F60 Tryz.ntmps60 rfl fun F hF => by
  have hl := hn.links
  unfold Short at hl
  ((conv=>whnf);repeat((first|refine aF ?_|refine aT ?_);(first|refine rG Γ hm ?_|refine rD Γ hm (by kernel_rfl) ?_);conv=>whnf))
  refine G_box 1 8 (netSV n) rfl rfl rfl ?_
  refine G_countP n.links.length (fun j => Upto (linkB n) n.links j) (fun j => [(1, .ref 8 (netSV n) 0), (3, intSV j)]) (fun _ => []) [] (upto_zero _ _) ⟨⟨rfl, rfl, rfl, rfl, trivial⟩, trivial, rfl, rfl⟩ ?_
  intro j hj hI
  ((first|refine rG Γ hm ?_|refine rD Γ hm (by kernel_rfl) ?_);(conv=>whnf);repeat((first|refine aF ?_|refine aT ?_);(first|refine rG Γ hm ?_|refine rD Γ hm (by kernel_rfl) ?_);conv=>whnf))
  (repeat' (first | (refine ⟨fun h => ?_, fun h => ?_⟩ <;> (repeat (first | (simp only [placeB] at h) | (simp only [decide_eq_true_eq] at h) | (simp only [decide_eq_false_iff_not] at h) | (simp only [beq_iff_eq] at h) | (simp only [beq_eq_false_iff_ne] at h) | (simp only [bne_iff_ne] at h) | (simp only [bne_eq_false_iff_eq] at h) | (simp only [Bool.and_eq_true] at h) | (simp only [Bool.or_eq_true] at h) | (simp only [Bool.and_eq_false_iff] at h) | (simp only [Bool.or_eq_false_iff] at h) | (simp only [Bool.not_eq_true'] at h) | (simp only [Bool.not_eq_false'] at h) | (simp only [Bool.not_eq_eq_eq_not] at h) | (simp only [Bool.not_true] at h) | (simp only [Bool.not_false] at h))) <;> ((first|refine rG Γ hm ?_|refine rD Γ hm (by kernel_rfl) ?_);(conv=>whnf);repeat((first|refine aF ?_|refine aT ?_);(first|refine rG Γ hm ?_|refine rD Γ hm (by kernel_rfl) ?_);conv=>whnf))) | (refine done0 rfl (.cons .tmp .nil) ?_ rfl) | (refine ⟨(by kernel_rfl), ?_⟩; ((conv=>whnf);repeat((first|refine aF ?_|refine aT ?_);(first|refine rG Γ hm ?_|refine rD Γ hm (by kernel_rfl) ?_);conv=>whnf))) | (refine ⟨by (first | (unfold I64; omega) | omega | (simp only [Int.toNat_natCast]; omega) | done), by (first | (unfold I64; omega) | omega | (simp only [Int.toNat_natCast]; omega) | done), ?_⟩; ((conv=>whnf);repeat((first|refine aF ?_|refine aT ?_);(first|refine rG Γ hm ?_|refine rD Γ hm (by kernel_rfl) ?_);conv=>whnf))) | (refine ⟨by (first | (unfold I64; omega) | omega | (simp only [Int.toNat_natCast]; omega) | done), ?_⟩; ((conv=>whnf);repeat((first|refine aF ?_|refine aT ?_);(first|refine rG Γ hm ?_|refine rD Γ hm (by kernel_rfl) ?_);conv=>whnf))) | (refine call0 (ref15PlaceS (n.links[j]'(by omega)).a n.ports.length) F31 rfl rfl rfl rfl rfl ?_; ((first|refine rG Γ hm ?_|refine rD Γ hm (by kernel_rfl) ?_);(conv=>whnf);repeat((first|refine aF ?_|refine aT ?_);(first|refine rG Γ hm ?_|refine rD Γ hm (by kernel_rfl) ?_);conv=>whnf))) | (refine callD0 (ref15PlaceS (n.links[j]'(by omega)).a n.ports.length) F31 rfl rfl rfl (by kernel_rfl) rfl ?_; ((first|refine rG Γ hm ?_|refine rD Γ hm (by kernel_rfl) ?_);(conv=>whnf);repeat((first|refine aF ?_|refine aT ?_);(first|refine rG Γ hm ?_|refine rD Γ hm (by kernel_rfl) ?_);conv=>whnf))) | (refine call0 (ref15PlaceS (n.links[j]'(by omega)).b n.ports.length) F31 rfl rfl rfl rfl rfl ?_; ((first|refine rG Γ hm ?_|refine rD Γ hm (by kernel_rfl) ?_);(conv=>whnf);repeat((first|refine aF ?_|refine aT ?_);(first|refine rG Γ hm ?_|refine rD Γ hm (by kernel_rfl) ?_);conv=>whnf))) | (refine callD0 (ref15PlaceS (n.links[j]'(by omega)).b n.ports.length) F31 rfl rfl rfl (by kernel_rfl) rfl ?_; ((first|refine rG Γ hm ?_|refine rD Γ hm (by kernel_rfl) ?_);(conv=>whnf);repeat((first|refine aF ?_|refine aT ?_);(first|refine rG Γ hm ?_|refine rD Γ hm (by kernel_rfl) ?_);conv=>whnf))) | (refine G_nextP [] hI (by omega) ?_ ⟨⟨rfl, rfl, rfl, rfl, trivial⟩, trivial, rfl, rfl⟩)))
  all_goals (simp only [Int.toNat_natCast] at *)
  all_goals first
    | exact upto_next hI (by omega) (by clear hI hF; grind [linkB, placeB, nth_eq])
    | (refine congrArg boolSV ?_; exact allB_false (i := j) (by omega) (by clear hI hF; grind [linkB, placeB, nth_eq]))
    | (refine congrArg boolSV ?_; exact upto_all hI (by omega))

theorem ref15PortsS (n : Net) (hn : n.Fin) : Sy.Spec Tryz.prog 59 [netSV n] [] (boolSV (allB (portB n) n.ports)) [] := contract Γ hm 100 F59 Tryz.ntmps59 rfl fun F hF => by
  have hl := hn.ports
  unfold Short at hl
  ((conv=>whnf);repeat((first|refine aF ?_|refine aT ?_);(first|refine rG Γ hm ?_|refine rD Γ hm (by kernel_rfl) ?_);conv=>whnf))
  refine G_box 1 8 (netSV n) rfl rfl rfl ?_
  refine G_countP n.ports.length (fun j => Upto (portB n) n.ports j) (fun j => [(1, .ref 8 (netSV n) 0), (3, intSV j)]) (fun _ => []) [] (upto_zero _ _) ⟨⟨rfl, rfl, rfl, rfl, trivial⟩, trivial, rfl, rfl⟩ ?_
  intro j hj hI
  ((first|refine rG Γ hm ?_|refine rD Γ hm (by kernel_rfl) ?_);(conv=>whnf);repeat((first|refine aF ?_|refine aT ?_);(first|refine rG Γ hm ?_|refine rD Γ hm (by kernel_rfl) ?_);conv=>whnf))
  refine ⟨fun h => ?_, fun h => ?_⟩
  · have hjl : j < n.ports.length := by simpa using h
    have ht := hn.tagged _ (List.getElem_mem hjl)
    generalize hp : n.ports[j] = p at ht
    have hp' : n.ports[(j : Int).toNat]'(by omega) = p := hp
    ((first|refine rG Γ hm ?_|refine rD Γ hm (by kernel_rfl) ?_);(conv=>whnf);repeat((first|refine aF ?_|refine aT ?_);(first|refine rG Γ hm ?_|refine rD Γ hm (by kernel_rfl) ?_);conv=>whnf))
    refine ⟨rfl, by omega, by omega, ?_⟩
    rw [hp']
    ((conv=>whnf);repeat((first|refine aF ?_|refine aT ?_);(first|refine rG Γ hm ?_|refine rD Γ hm (by kernel_rfl) ?_);conv=>whnf))
    (repeat' (first | (refine ⟨fun h => ?_, fun h => ?_⟩ <;> (repeat (first | (simp only [placeB] at h) | (simp only [decide_eq_true_eq] at h) | (simp only [decide_eq_false_iff_not] at h) | (simp only [beq_iff_eq] at h) | (simp only [beq_eq_false_iff_ne] at h) | (simp only [bne_iff_ne] at h) | (simp only [bne_eq_false_iff_eq] at h) | (simp only [Bool.and_eq_true] at h) | (simp only [Bool.or_eq_true] at h) | (simp only [Bool.and_eq_false_iff] at h) | (simp only [Bool.or_eq_false_iff] at h) | (simp only [Bool.not_eq_true'] at h) | (simp only [Bool.not_eq_false'] at h) | (simp only [Bool.not_eq_eq_eq_not] at h) | (simp only [Bool.not_true] at h) | (simp only [Bool.not_false] at h))) <;> ((first|refine rG Γ hm ?_|refine rD Γ hm (by kernel_rfl) ?_);(conv=>whnf);repeat((first|refine aF ?_|refine aT ?_);(first|refine rG Γ hm ?_|refine rD Γ hm (by kernel_rfl) ?_);conv=>whnf))) | (refine done0 rfl (.cons .tmp .nil) ?_ rfl) | (refine ⟨(by kernel_rfl), ?_⟩; ((conv=>whnf);repeat((first|refine aF ?_|refine aT ?_);(first|refine rG Γ hm ?_|refine rD Γ hm (by kernel_rfl) ?_);conv=>whnf))) | (refine ⟨by (first | (unfold I64; omega) | omega | (simp only [Int.toNat_natCast]; omega) | done), by (first | (unfold I64; omega) | omega | (simp only [Int.toNat_natCast]; omega) | done), ?_⟩; ((conv=>whnf);repeat((first|refine aF ?_|refine aT ?_);(first|refine rG Γ hm ?_|refine rD Γ hm (by kernel_rfl) ?_);conv=>whnf))) | (refine ⟨by (first | (unfold I64; omega) | omega | (simp only [Int.toNat_natCast]; omega) | done), ?_⟩; ((conv=>whnf);repeat((first|refine aF ?_|refine aT ?_);(first|refine rG Γ hm ?_|refine rD Γ hm (by kernel_rfl) ?_);conv=>whnf))) | (refine call0 (ref15PlaceS p.dev n.devices.length) F31 rfl rfl rfl rfl rfl ?_; ((first|refine rG Γ hm ?_|refine rD Γ hm (by kernel_rfl) ?_);(conv=>whnf);repeat((first|refine aF ?_|refine aT ?_);(first|refine rG Γ hm ?_|refine rD Γ hm (by kernel_rfl) ?_);conv=>whnf))) | (refine callD0 (ref15PlaceS p.dev n.devices.length) F31 rfl rfl rfl (by kernel_rfl) rfl ?_; ((first|refine rG Γ hm ?_|refine rD Γ hm (by kernel_rfl) ?_);(conv=>whnf);repeat((first|refine aF ?_|refine aT ?_);(first|refine rG Γ hm ?_|refine rD Γ hm (by kernel_rfl) ?_);conv=>whnf))) | (refine call0 (ref15RisingS p.tagged 4094 ht) F94 rfl rfl rfl rfl rfl ?_; ((first|refine rG Γ hm ?_|refine rD Γ hm (by kernel_rfl) ?_);(conv=>whnf);repeat((first|refine aF ?_|refine aT ?_);(first|refine rG Γ hm ?_|refine rD Γ hm (by kernel_rfl) ?_);conv=>whnf))) | (refine callD0 (ref15RisingS p.tagged 4094 ht) F94 rfl rfl rfl (by kernel_rfl) rfl ?_; ((first|refine rG Γ hm ?_|refine rD Γ hm (by kernel_rfl) ?_);(conv=>whnf);repeat((first|refine aF ?_|refine aT ?_);(first|refine rG Γ hm ?_|refine rD Γ hm (by kernel_rfl) ?_);conv=>whnf))) | (refine call0 (ref15InS p.tagged p.native ht) F93 rfl rfl rfl rfl rfl ?_; ((first|refine rG Γ hm ?_|refine rD Γ hm (by kernel_rfl) ?_);(conv=>whnf);repeat((first|refine aF ?_|refine aT ?_);(first|refine rG Γ hm ?_|refine rD Γ hm (by kernel_rfl) ?_);conv=>whnf))) | (refine callD0 (ref15InS p.tagged p.native ht) F93 rfl rfl rfl (by kernel_rfl) rfl ?_; ((first|refine rG Γ hm ?_|refine rD Γ hm (by kernel_rfl) ?_);(conv=>whnf);repeat((first|refine aF ?_|refine aT ?_);(first|refine rG Γ hm ?_|refine rD Γ hm (by kernel_rfl) ?_);conv=>whnf))) | (refine call0 (ref15AtS n p.dev p.native hn.domains) F91 rfl rfl rfl rfl rfl ?_; ((first|refine rG Γ hm ?_|refine rD Γ hm (by kernel_rfl) ?_);(conv=>whnf);repeat((first|refine aF ?_|refine aT ?_);(first|refine rG Γ hm ?_|refine rD Γ hm (by kernel_rfl) ?_);conv=>whnf))) | (refine callD0 (ref15AtS n p.dev p.native hn.domains) F91 rfl rfl rfl (by kernel_rfl) rfl ?_; ((first|refine rG Γ hm ?_|refine rD Γ hm (by kernel_rfl) ?_);(conv=>whnf);repeat((first|refine aF ?_|refine aT ?_);(first|refine rG Γ hm ?_|refine rD Γ hm (by kernel_rfl) ?_);conv=>whnf)))))
    all_goals first
      | (refine congrArg boolSV ?_; exact allB_false hjl (by rw [hp]; clear hI hF hp'; grind [portB, placeB, netDomain]))
      | skip
    all_goals (
      refine G_box 4 7 (portSV p) rfl rfl rfl ?_
      refine G_countP p.tagged.length (fun k => Upto (fun _ v => netDomain n p.dev v) p.tagged k) (fun k => [(1, .ref 8 (netSV n) 0), (3, intSV j), (4, .ref 7 (portSV p) 0), (5, intSV k)]) (fun _ => []) [] (upto_zero _ _) ⟨⟨rfl, rfl, rfl, rfl, rfl, rfl, rfl, rfl, trivial⟩, trivial, rfl, rfl⟩ ?_
      intro k hk hI2
      have hsh := ht
      unfold Short at hsh
      ((first|refine rG Γ hm ?_|refine rD Γ hm (by kernel_rfl) ?_);(conv=>whnf);repeat((first|refine aF ?_|refine aT ?_);(first|refine rG Γ hm ?_|refine rD Γ hm (by kernel_rfl) ?_);conv=>whnf)))
    all_goals (
      (repeat' (first | (refine ⟨fun h => ?_, fun h => ?_⟩ <;> (repeat (first | (simp only [placeB] at h) | (simp only [decide_eq_true_eq] at h) | (simp only [decide_eq_false_iff_not] at h) | (simp only [beq_iff_eq] at h) | (simp only [beq_eq_false_iff_ne] at h) | (simp only [bne_iff_ne] at h) | (simp only [bne_eq_false_iff_eq] at h) | (simp only [Bool.and_eq_true] at h) | (simp only [Bool.or_eq_true] at h) | (simp only [Bool.and_eq_false_iff] at h) | (simp only [Bool.or_eq_false_iff] at h) | (simp only [Bool.not_eq_true'] at h) | (simp only [Bool.not_eq_false'] at h) | (simp only [Bool.not_eq_eq_eq_not] at h) | (simp only [Bool.not_true] at h) | (simp only [Bool.not_false] at h))) <;> ((first|refine rG Γ hm ?_|refine rD Γ hm (by kernel_rfl) ?_);(conv=>whnf);repeat((first|refine aF ?_|refine aT ?_);(first|refine rG Γ hm ?_|refine rD Γ hm (by kernel_rfl) ?_);conv=>whnf))) | (refine done0 rfl (.cons .tmp .nil) ?_ rfl) | (refine ⟨(by kernel_rfl), ?_⟩; ((conv=>whnf);repeat((first|refine aF ?_|refine aT ?_);(first|refine rG Γ hm ?_|refine rD Γ hm (by kernel_rfl) ?_);conv=>whnf))) | (refine ⟨by (first | (unfold I64; omega) | omega | (simp only [Int.toNat_natCast]; omega) | done), by (first | (unfold I64; omega) | omega | (simp only [Int.toNat_natCast]; omega) | done), ?_⟩; ((conv=>whnf);repeat((first|refine aF ?_|refine aT ?_);(first|refine rG Γ hm ?_|refine rD Γ hm (by kernel_rfl) ?_);conv=>whnf))) | (refine ⟨by (first | (unfold I64; omega) | omega | (simp only [Int.toNat_natCast]; omega) | done), ?_⟩; ((conv=>whnf);repeat((first|refine aF ?_|refine aT ?_);(first|refine rG Γ hm ?_|refine rD Γ hm (by kernel_rfl) ?_);conv=>whnf))) | (refine call0 (ref15AtS n p.dev (p.tagged[k]'(by omega)) hn.domains) F91 rfl rfl rfl rfl rfl ?_; ((first|refine rG Γ hm ?_|refine rD Γ hm (by kernel_rfl) ?_);(conv=>whnf);repeat((first|refine aF ?_|refine aT ?_);(first|refine rG Γ hm ?_|refine rD Γ hm (by kernel_rfl) ?_);conv=>whnf))) | (refine callD0 (ref15AtS n p.dev (p.tagged[k]'(by omega)) hn.domains) F91 rfl rfl rfl (by kernel_rfl) rfl ?_; ((first|refine rG Γ hm ?_|refine rD Γ hm (by kernel_rfl) ?_);(conv=>whnf);repeat((first|refine aF ?_|refine aT ?_);(first|refine rG Γ hm ?_|refine rD Γ hm (by kernel_rfl) ?_);conv=>whnf))) | (refine call0 (ref15PlaceS p.link n.links.length) F31 rfl rfl rfl rfl rfl ?_; ((first|refine rG Γ hm ?_|refine rD Γ hm (by kernel_rfl) ?_);(conv=>whnf);repeat((first|refine aF ?_|refine aT ?_);(first|refine rG Γ hm ?_|refine rD Γ hm (by kernel_rfl) ?_);conv=>whnf))) | (refine callD0 (ref15PlaceS p.link n.links.length) F31 rfl rfl rfl (by kernel_rfl) rfl ?_; ((first|refine rG Γ hm ?_|refine rD Γ hm (by kernel_rfl) ?_);(conv=>whnf);repeat((first|refine aF ?_|refine aT ?_);(first|refine rG Γ hm ?_|refine rD Γ hm (by kernel_rfl) ?_);conv=>whnf))) | (refine G_nextP [] hI2 (by omega) ?_ ⟨⟨rfl, rfl, rfl, rfl, rfl, rfl, rfl, rfl, trivial⟩, trivial, rfl, rfl⟩) | (refine G_nextP [] hI (by omega) ?_ ⟨⟨rfl, rfl, rfl, rfl, trivial⟩, trivial, rfl, rfl⟩))))
    all_goals first
      | exact upto_next hI2 (by omega) (by simp only [netDomain, decide_eq_true_eq]; omega)
      | (refine congrArg boolSV ?_
         have h0 : allB (fun _ v => netDomain n p.dev v) p.tagged = false := allB_false (i := k) (by omega) (by simp only [netDomain, decide_eq_false_iff_not]; omega)
         exact allB_false hjl (by rw [hp]; clear hI hI2 hF hp'; grind [portB]))
      | skip
    all_goals have h0 : allB (fun _ v => netDomain n p.dev v) p.tagged = true := upto_all hI2 (by omega)
    all_goals first
      | exact upto_next hI hjl (by rw [hp]; clear hI hI2 hF hp'; grind [portB, placeB, netDomain, nth_eq])
      | (refine congrArg boolSV ?_
         exact allB_false hjl (by rw [hp]; clear hI hI2 hF hp'; grind [portB, placeB, netDomain, nth_eq]))
  · ((first|refine rG Γ hm ?_|refine rD Γ hm (by kernel_rfl) ?_);(conv=>whnf);repeat((first|refine aF ?_|refine aT ?_);(first|refine rG Γ hm ?_|refine rD Γ hm (by kernel_rfl) ?_);conv=>whnf))
    exact done0 rfl (.cons .tmp .nil) (congrArg boolSV (upto_all hI (by simpa using h))) rfl
end Go.Sy.YtjomehmhkcnadaaGreatDoor
