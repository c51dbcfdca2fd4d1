/-
  The symbolic layer, 22: a box that nobody writes any more becomes data.
-/
import Derived.Test.YtjnkgkpenhjmfaaSy19
namespace Go.Sy

mutual
/-- The name d is given up for data. -/
def frb (d sz : Nat) (x : SV) : SV → SV
  | .ptr k o => bif Nat.beq k d then .ref sz x o else .ptr k o
  | .agg l => .agg (frbL d sz x l)
  | .tup l => .tup (frbL d sz x l)
  | .ifc t y => .ifc t (frb d sz x y)
  | .clo f g l => .clo f (frbL d sz x g) (frbL d sz x l)
  | y => y
def frbL (d sz : Nat) (x : SV) : List SV → List SV
  | [] => []
  | y :: l => frb d sz x y :: frbL d sz x l
end

mutual
theorem frb_ok {κ κ' : Ka} {w : World} {K : Nat → Prop} {d sz : Nat} {x : SV} (st : Step K κ w κ' w) (hx : ∀ o v, Rd κ w (.ptr d o) v → Rd κ' w (.ref sz x o) v) : ∀ (y : SV) (v : Value), Rd κ w y v → Rd κ' w (frb d sz x y) v
  | .ptr k o, v, h => by
    unfold frb
    by_cases hk : k = d
    · subst hk; rw [show Nat.beq k k = true from Nat.beq_refl k]; exact hx o v h
    · rw [show Nat.beq k d = false from by cases hb : Nat.beq k d with | false => rfl | true => exact absurd (Nat.eq_of_beq_eq_true hb) hk]; exact Rd.step st _ _ h
  | .agg l, v, h => by
    simp only [Rd] at h
    unfold frb
    simp only [Rd]
    obtain ⟨cs, h1, h2, h3⟩ := h
    exact ⟨cs, h1, h2, frbL_ok st hx l cs h3⟩
  | .tup l, v, h => by
    simp only [Rd] at h
    unfold frb
    simp only [Rd]
    obtain ⟨cs, h1, h3⟩ := h
    exact ⟨cs, h1, frbL_ok st hx l cs h3⟩
  | .ifc t y, v, h => by
    simp only [Rd] at h
    unfold frb
    simp only [Rd]
    obtain ⟨u, h1, h3⟩ := h
    exact ⟨u, h1, frb_ok st hx y u h3⟩
  | .clo f g l, v, h => by
    simp only [Rd] at h
    unfold frb
    simp only [Rd]
    obtain ⟨fs, cs, h1, h2, h3⟩ := h
    exact ⟨fs, cs, h1, frbL_ok st hx g fs h2, frbL_ok st hx l cs h3⟩
  | .top, v, h => by unfold frb; exact Rd.step st _ _ h
  | .val u, v, h => by unfold frb; exact Rd.step st _ _ h
  | .sl sz e l, v, h => by unfold frb; exact Rd.step st _ _ h
  | .ref sz z o, v, h => by unfold frb; exact Rd.step st _ _ h
  | .rpt k sz i o, v, h => by unfold frb; exact Rd.step st _ _ h
  | .osl k, v, h => by unfold frb; exact Rd.step st _ _ h
theorem frbL_ok {κ κ' : Ka} {w : World} {K : Nat → Prop} {d sz : Nat} {x : SV} (st : Step K κ w κ' w) (hx : ∀ o v, Rd κ w (.ptr d o) v → Rd κ' w (.ref sz x o) v) : ∀ (l : List SV) (vs : List Value), RdL κ w l vs → RdL κ' w (frbL d sz x l) vs
  | [], vs, h => by
    unfold frbL
    simpa [RdL] using h
  | y :: l, vs, h => by
    simp only [RdL] at h
    unfold frbL
    simp only [RdL]
    obtain ⟨v, r, h1, h2, h3⟩ := h
    exact ⟨v, r, h1, frb_ok st hx y v h2, frbL_ok st hx l r h3⟩
end


def frbO (d sz : Nat) (x : SV) : Ob → Ob
  | .box l => .box (frbL d sz x l)
  | o => o

theorem box_freeze {κ κ' : Ka} {w : World} {d sz : Nat} {l : List SV} {x : SV} (h : ObOK κ w d (.box l)) (hl : cellsOf x = l) (hb : x.boxed = true) (hd : dataL l = true) (hsz : l.length = sz) (ho : ∀ b, b < w.heap.size → ¬ Own κ b → ¬ Own κ' b)
    (hdead : ∀ b, (κ d).block? = some b → b < w.heap.size ∧ ¬ Own κ' b) (hxd : x.data = true) (o : Nat) (v : Value) (hv : Rd κ w (.ptr d o) v) : Rd κ' w (.ref sz x o) v := by
  obtain ⟨b, cs, T, fr, e1, e2, e3, e4, e5⟩ := h
  simp only [Rd, e1] at hv
  obtain ⟨h1, h2⟩ := hdead b (by rw [e1]; rfl)
  rw [← hl] at e5
  obtain ⟨u, f1, f2⟩ := Rd.of_cells hb e4 e5
  simp only [Rd, RdD]
  refine ⟨b, 0, u, by rw [Nat.zero_add]; exact hv, h2, h1, RdD.keep ⟨Nat.le_refl _, fun _ _ _ => rfl, ho⟩ _ _ (Rd.data _ _ hxd f1), ?_, by rw [f2]; exact e4, fun j hj => ?_⟩
  · have := e5.length
    rw [← hsz, ← hl, ← this, ← f2]
    simp
  · rw [Nat.zero_add, cell_of_row w b _ cs.toArray T fr e2, ← f2]

/-- The box d, which holds data alone, is data from now on, wherever its address is held. -/
theorem G_box {C : Cx} {k : List KI} {s : SS} (d sz : Nat) (x : SV) {l : List SV} (h : s.h d = .box l) (hl : cellsOf x = l) (hc : (x.boxed && x.data && dataL l && Nat.beq l.length sz) = true)
    (hg : G C k ⟨fun i => frb d sz x (s.σ i), fun j => bif Nat.beq j d then .non else frbO d sz x (s.h j)⟩) : G C k s := fun κ a w hs => by
  simp only [Bool.and_eq_true] at hc
  obtain ⟨⟨⟨hb, hxd⟩, hd⟩, hsz⟩ := hc
  have hsz := Nat.eq_of_beq_eq_true hsz
  have hob := hs.obj d
  rw [h] at hob
  have st := step_kill (κ := κ) (w := w) (some d)
  have inv := inv_kill hs.inv (some d)
  have hx : ∀ o v, Rd κ w (.ptr d o) v → Rd (setK κ d .dead) w (.ref sz x o) v := fun o v hv =>
    box_freeze hob hl hb hd hsz st.keeps.out (fun b hb => ⟨hs.inv.bnd d b hb, by
      rintro (⟨q, hq⟩ | hq)
      · by_cases hqd : q = d
        · subst hqd; change (setK κ q .dead q).block? = some b at hq; rw [setK_self] at hq; cases hq
        · change (setK κ d .dead q).block? = some b at hq
          rw [setK_ne _ _ hqd] at hq
          exact hqd (hs.inv.inj q d b hq hb)
      · exact hs.inv.apart d b hb hq⟩) hxd o v hv
  refine hg (setK κ d .dead) a w ⟨hs.defers, hs.size, inv, hs.ctx.step inv st, fun j => frb_ok st hx _ _ (hs.slot j), fun j => ?_⟩
  show ObOK _ w j (bif Nat.beq j d then .non else frbO d sz x (s.h j))
  by_cases hj : j = d
  · subst hj; rw [show Nat.beq j j = true from Nat.beq_refl j]; trivial
  · rw [show Nat.beq j d = false from by cases hb : Nat.beq j d with | false => rfl | true => exact absurd (Nat.eq_of_beq_eq_true hb) hj]
    have hb := ObOK.step st (fun e => hj (Option.some.inj e).symm) _ (hs.obj j)
    have h0 := hs.obj j
    show ObOK _ w j (frbO d sz x (s.h j))
    cases hh : s.h j with
    | box m =>
      rw [hh] at h0 hb
      obtain ⟨b, cs, T, fr, e1, e2, e3, e4, e5⟩ := h0
      exact ⟨b, cs, T, fr, by show setK κ d .dead j = _; rw [setK_ne _ _ hj]; exact e1, e2, e3, e4, frbL_ok st hx m cs e5⟩
    | fresh => rw [hh] at hb; exact hb
    | non => rw [hh] at hb; exact hb
    | row sz' e' l' => rw [hh] at hb; exact hb
    | lit sz' svs => rw [hh] at hb; exact hb

/-- A nil slice seen as data. -/
theorem G_nilsl {C : Cx} {k : List KI} {s : SS} (d sz : Nat) {α : Type} (e : α → SV) (h : s.σ d = .val (.slice none 0 0)) (hg : G C k ⟨upd s.σ d (.sl sz e []), s.h⟩) : G C k s :=
  G_set d (fun κ w v hv => by
    rw [h] at hv
    simp only [Rd] at hv
    simp only [Rd, RdD]
    exact .inl ⟨trivial, none, 0, hv⟩) hg

end Go.Sy
