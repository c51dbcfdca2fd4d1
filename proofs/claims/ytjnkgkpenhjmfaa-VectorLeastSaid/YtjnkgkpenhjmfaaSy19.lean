/-
  The symbolic layer, 19: rows with their elements' form, in short.
-/
import Derived.Test.YtjnkgkpenhjmfaaSy18
namespace Go.Sy

inductive SrcT {α : Type} (s : SS) (sz : Nat) (e : α → SV) : SV → List Nat → List α → Prop
  | sl {l : List α} : SrcT s sz e (.sl sz e l) [] l
  | row {k : Nat} {l : List α} (h : s.h k = .row sz e l) : SrcT s sz e (.osl k) [k] l
  | lit {k : Nat} {l : List α} {svs : List SV} (h : s.h k = .lit sz svs) (hl : l.map e = svs) : SrcT s sz e (.osl k) [k] l
  | nil : SrcT s sz e (.val (.slice none 0 0)) [] []

inductive BaseT {α : Type} (s : SS) (sz : Nat) (e : α → SV) : SV → Option Nat → List α → Prop
  | nil : BaseT s sz e (.val (.slice none 0 0)) none []
  | row {k : Nat} {l : List α} (h : s.h k = .row sz e l) : BaseT s sz e (.osl k) (some k) l
  | lit {k : Nat} {l : List α} {svs : List SV} (h : s.h k = .lit sz svs) (hl : l.map e = svs) : BaseT s sz e (.osl k) (some k) l

theorem SrcT.src {α : Type} {s : SS} {sz : Nat} {e : α → SV} {x : SV} {ks : List Nat} {m : List α} (h : SrcT s sz e x ks m) : ∃ g, AppSrc s sz x ks m.length g ∧ ∀ i x, rowF e m i x → g i x := by
  cases h with
  | sl => exact ⟨_, .sl, fun _ _ h => h⟩
  | row h => exact ⟨_, .row h, fun _ _ h => h⟩
  | @lit k _ svs h hl => exact ⟨litF svs, by have := AppSrc.lit (sz := sz) h; rwa [← hl, List.length_map, hl] at this, fun i x hx => rowF_lit hl i x hx⟩
  | nil => exact ⟨_, .nil, fun i x hx => by obtain ⟨h, _⟩ := hx; simp at h⟩

theorem BaseT.base {α : Type} {s : SS} {sz : Nat} {e : α → SV} {x : SV} {k : Option Nat} {m : List α} (h : BaseT s sz e x k m) : ∃ g, AppBase s sz x k m.length g ∧ ∀ i x, rowF e m i x → g i x := by
  cases h with
  | row h => exact ⟨_, .row h, fun _ _ h => h⟩
  | @lit k _ svs h hl => exact ⟨litF svs, by have := AppBase.lit (sz := sz) h; rwa [← hl, List.length_map, hl] at this, fun i x hx => rowF_lit hl i x hx⟩
  | nil => exact ⟨_, .nil, fun i x hx => by obtain ⟨h, _⟩ := hx; simp at h⟩

theorem good_appendT {P : Program} (Γ : Ty P) {o : Oper} {s : SS} (d : Nat) {α : Type} {e : α → SV} {l m : List α} {t : TypeId} {ti : TI} {et : TypeId} {sz eb : Nat} {ez : List Value} {x y : Operand} {k : Option Nat} {ks : List Nat}
    (h : o.op = .call ⟨.builtin .append, #[x, y], #[t, t]⟩) (hd : s.h d = .fresh) (ht : Γ.get t = some ti) (hk : ti.k = .slice et sz eb ez) (hez : ez.length = sz)
    (hb : BaseT s sz e (ev s x) k l) (hs : SrcT s sz e (ev s y) ks m) (hkk : ∀ j, k = some j → j ≠ d) (hbytes : (l.length + m.length) * eb ≤ 140737488355328) (h63 : l.length + m.length ≤ 9223372036854775807) :
    Good P o s ⟨.osl d, ks, appObjs k d (.row sz e (l ++ m))⟩ := by
  obtain ⟨f, hb, hf⟩ := hb.base
  obtain ⟨g, hs, hg⟩ := hs.src
  exact good_append Γ h hd ht hk hez hb hs hkk hbytes h63 fun κ w hr => appF_row hr (by simp) (rowF_app hf hg)

theorem AppSrc.of_row {α : Type} {s : SS} {sz : Nat} {e : α → SV} {x : SV} {ks : List Nat} {m : List α} (h : SrcT s sz e x ks m) (hlit : ∀ k svs, x = .osl k → s.h k ≠ .lit sz svs) : AppSrc s sz x ks m.length (rowF e m) ∨ (x = .val (.slice none 0 0) ∧ m = []) := by
  cases h with
  | sl => exact .inl .sl
  | row h => exact .inl (.row h)
  | lit h hl => exact absurd h (hlit _ _ rfl)
  | nil => exact .inr ⟨rfl, rfl⟩

theorem good_stringT {P : Program} (Γ : Ty P) {o : Oper} {s : SS} {src dst : TypeId} {si di ei : TI} {x : Operand} {et : TypeId} {eb : Nat} {ez : List Value} {ks : List Nat} {bs : List UInt8} (h : o.op = .convert src dst x)
    (hs : Γ.get src = some si) (hsk : si.k = .slice et 1 eb ez) (he : Γ.get et = some ei) (hek : ei.k = .int .u8) (hd : Γ.get dst = some di) (hdk : di.k = .string) (hx : SrcT s 1 byteSV (ev s x) ks bs) :
    Good P o s ⟨strSV ⟨bs.toArray⟩, ks, []⟩ := by
  obtain ⟨g, hx, hg⟩ := hx.src
  exact good_bytes_string Γ bs h hs hsk he hek hd hdk hx rfl (fun i hi => hg i _ ⟨hi, rfl⟩)

/-- A row goes over to another name; the old name is given up. -/
theorem G_move {C : Cx} {kk : List KI} {s : SS} (k d : Nat) (r : List Nat) {sz : Nat} {α : Type} {e : α → SV} {l : List α} (h : s.h k = .row sz e l) (hd : s.h d = .fresh) (hkd : k ≠ d) (hr : ∀ i ∈ r, s.σ i = .osl k)
    (hg : G C kk ⟨freezeσ s.σ (.osl d) r, upd (upd s.h k .non) d (.row sz e l)⟩) : G C kk s := fun κ a w hs => by
  have hob := hs.obj k
  rw [h] at hob
  have hnew : κ d = .new := by have := hs.obj d; rwa [hd] at this
  have fin : ∀ κ' : Ka, Step (fun j => j = k ∨ j = d) κ w κ' w → Inv κ' w → (∀ v, Rd κ w (.osl k) v → Rd κ' w (.osl d) v) → ObOK κ' w d (.row sz e l) → den C.P C.B kk .normal a w := by
    intro κ' st inv hv ho
    refine hg κ' a w ⟨hs.defers, hs.size, inv, hs.ctx.step inv st, fun j => ?_, fun j => ?_⟩
    · refine freezeσ_ok r _ j (Rd.step st _ _ (hs.slot j)) (fun hj => hv _ ?_)
      have := hs.slot j
      rwa [hr j hj] at this
    · show ObOK _ w j (upd (upd s.h k .non) d (.row sz e l) j)
      by_cases hj : j = d
      · subst hj; rw [upd_self]; exact ho
      · rw [upd_ne _ _ hj]
        by_cases hj2 : j = k
        · subst hj2; rw [upd_self]; trivial
        · rw [upd_ne _ _ hj2]; exact ObOK.step st (fun e => e.elim hj2 hj) _ (hs.obj j)
  rcases hob with ⟨h1, rfl⟩ | ⟨b, cap, cs, T, fr, e1, e2, e3, e4, e5, e6⟩
  · have st := step_new (inv_kill hs.inv (some k)) (by show setK κ k .dead d = .new; rw [setK_ne _ _ (Ne.symm hkd)]; exact hnew) (e := .nil) (Grew.refl w) (fun b hb => by cases hb)
    refine fin _ (((step_kill (some k)).weaken (fun j hj => .inl (Option.some.inj hj).symm)).trans (st.1.weaken (fun j hj => .inr hj))) st.2 (fun v hv => ?_) (.inl ⟨setK_self _ _ _, rfl⟩)
    simp only [Rd, h1] at hv
    simp [Rd, setK_self, hv]
  · obtain ⟨st, inv⟩ := step_over (n' := l.length) (w' := w) hs.inv e1 hnew rfl rfl rfl rfl (fun _ _ => rfl)
    refine fin _ st inv (fun v hv => ?_) (.inr ⟨b, cap, cs, T, fr, setK_self _ _ _, e2, e3, e4, e5, fun i x hx => ?_⟩)
    · simp only [Rd, e1] at hv
      simp [Rd, setK_self, hv]
    · obtain ⟨q1, u, q2, q3⟩ := e6 i x hx
      exact ⟨q1, u, RdD.keep st.keeps _ _ q2, q3⟩

mutual
/-- The name d is given up for data. -/
def frz (d : Nat) (x : SV) : SV → SV
  | .osl k => bif Nat.beq k d then x else .osl k
  | .agg l => .agg (frzL d x l)
  | .tup l => .tup (frzL d x l)
  | .ifc t y => .ifc t (frz d x y)
  | .clo f g l => .clo f (frzL d x g) (frzL d x l)
  | y => y
def frzL (d : Nat) (x : SV) : List SV → List SV
  | [] => []
  | y :: l => frz d x y :: frzL d x l
end

mutual
theorem frz_ok {κ κ' : Ka} {w : World} {K : Nat → Prop} {d : Nat} {x : SV} (st : Step K κ w κ' w) (hx : ∀ v, Rd κ w (.osl d) v → Rd κ' w x v) : ∀ (y : SV) (v : Value), Rd κ w y v → Rd κ' w (frz d x y) v
  | .osl k, v, h => by
    unfold frz
    by_cases hk : k = d
    · subst hk; rw [show Nat.beq k k = true from Nat.beq_refl k]; exact hx v h
    · rw [show Nat.beq k d = false from by cases hb : Nat.beq k d with | false => rfl | true => exact absurd (Nat.eq_of_beq_eq_true hb) hk]; exact Rd.step st _ _ h
  | .agg l, v, h => by
    simp only [Rd] at h
    unfold frz
    simp only [Rd]
    obtain ⟨cs, h1, h2, h3⟩ := h
    exact ⟨cs, h1, h2, frzL_ok st hx l cs h3⟩
  | .tup l, v, h => by
    simp only [Rd] at h
    unfold frz
    simp only [Rd]
    obtain ⟨cs, h1, h3⟩ := h
    exact ⟨cs, h1, frzL_ok st hx l cs h3⟩
  | .ifc t y, v, h => by
    simp only [Rd] at h
    unfold frz
    simp only [Rd]
    obtain ⟨u, h1, h3⟩ := h
    exact ⟨u, h1, frz_ok st hx y u h3⟩
  | .clo f g l, v, h => by
    simp only [Rd] at h
    unfold frz
    simp only [Rd]
    obtain ⟨fs, cs, h1, h2, h3⟩ := h
    exact ⟨fs, cs, h1, frzL_ok st hx g fs h2, frzL_ok st hx l cs h3⟩
  | .top, v, h => by unfold frz; exact Rd.step st _ _ h
  | .val u, v, h => by unfold frz; exact Rd.step st _ _ h
  | .sl sz e l, v, h => by unfold frz; exact Rd.step st _ _ h
  | .ref sz z o, v, h => by unfold frz; exact Rd.step st _ _ h
  | .ptr k o, v, h => by unfold frz; exact Rd.step st _ _ h
  | .rpt k sz i o, v, h => by unfold frz; exact Rd.step st _ _ h
theorem frzL_ok {κ κ' : Ka} {w : World} {K : Nat → Prop} {d : Nat} {x : SV} (st : Step K κ w κ' w) (hx : ∀ v, Rd κ w (.osl d) v → Rd κ' w x v) : ∀ (l : List SV) (vs : List Value), RdL κ w l vs → RdL κ' w (frzL d x l) vs
  | [], vs, h => by
    unfold frzL
    simpa [RdL] using h
  | y :: l, vs, h => by
    simp only [RdL] at h
    unfold frzL
    simp only [RdL]
    obtain ⟨v, r, h1, h2, h3⟩ := h
    exact ⟨v, r, h1, frz_ok st hx y v h2, frzL_ok st hx l r h3⟩
end

def frzO (d : Nat) (x : SV) : Ob → Ob
  | .box l => .box (frzL d x l)
  | o => o

/-- An owned row becomes data, wherever it is held. -/
theorem G_data {C : Cx} {k : List KI} {s : SS} (d : Nat) {sz : Nat} {α : Type} {e : α → SV} {l : List α} (h : s.h d = .row sz e l) (hg : G C k ⟨fun i => frz d (.sl sz e l) (s.σ i), fun j => bif Nat.beq j d then .non else frzO d (.sl sz e l) (s.h j)⟩) : G C k s := fun κ a w hs => by
  have hob := hs.obj d
  rw [h] at hob
  have st := step_kill (κ := κ) (w := w) (some d)
  have inv := inv_kill hs.inv (some d)
  have hx : ∀ v, Rd κ w (.osl d) v → Rd (setK κ d .dead) w (.sl sz e l) v := fun v hv => by
    rcases hob with ⟨h1, rfl⟩ | h1
    · simp only [Rd, h1] at hv
      simp only [Rd, RdD]
      exact .inl ⟨by simp, none, 0, hv⟩
    · refine h1.freeze hv st.keeps.out (fun b hb => ⟨hs.inv.bnd d b hb, ?_⟩)
      rintro (⟨q, hq⟩ | hq)
      · by_cases hqd : q = d
        · subst hqd; rw [setK_self] at hq; cases hq
        · rw [setK_ne _ _ hqd] at hq
          exact hqd (hs.inv.inj q d b hq hb)
      · exact hs.inv.apart d b hb hq
  refine hg (setK κ d .dead) a w ⟨hs.defers, hs.size, inv, hs.ctx.step inv st, fun j => frz_ok st hx _ _ (hs.slot j), fun j => ?_⟩
  show ObOK _ w j (bif Nat.beq j d then .non else frzO d (.sl sz e l) (s.h j))
  by_cases hj : j = d
  · subst hj; rw [show Nat.beq j j = true from Nat.beq_refl j]; trivial
  · rw [show Nat.beq j d = false from by cases hb : Nat.beq j d with | false => rfl | true => exact absurd (Nat.eq_of_beq_eq_true hb) hj]
    have hb := ObOK.step st (fun e => hj (Option.some.inj e).symm) _ (hs.obj j)
    have h0 := hs.obj j
    show ObOK _ w j (frzO d (.sl sz e l) (s.h j))
    cases hh : s.h j with
    | box m =>
      rw [hh] at h0 hb
      obtain ⟨b, cs, T, fr, e1, e2, e3, e4, e5⟩ := h0
      exact ⟨b, cs, T, fr, by show setK κ d .dead j = _; rw [setK_ne _ _ hj]; exact e1, e2, e3, e4, frzL_ok st hx m cs e5⟩
    | fresh => rw [hh] at hb; exact hb
    | non => rw [hh] at hb; exact hb
    | row sz' e' l' => rw [hh] at hb; exact hb
    | lit sz' svs => rw [hh] at hb; exact hb

/-! ### Loops that count, and hold a fact -/
def CountInvP (C : Cx) (n : Nat) (I : Nat → Prop) (L : Nat → List (Nat × SV)) (O : Nat → Obs) (i : Nat) (a : Act) (w : World) : Prop :=
  ∃ x' : {j : Nat // j ≤ n ∧ I j}, ∃ κ, n - x'.1 < n - i ∧ St C.F C.n (mkS (L x'.1) (O x'.1)) κ a w

theorem G_countP {C : Cx} {k : List KI} {s : SS} {body : Code} (n : Nat) (I : Nat → Prop) (L : Nat → List (Nat × SV)) (O : Nat → Obs) (ρ : List (Nat × Nat)) (h0 : I 0) (hsub : Sub C s ρ (L 0) (O 0))
    (h : ∀ i, i ≤ n → I i → G C (.code body :: .inv (CountInvP C n I L O i) :: k) (mkS (L i) (O i))) : G C (.code (.loop body) :: k) s :=
  G_loop (α := {j : Nat // j ≤ n ∧ I j}) (fun x => L x.1) (fun x => O x.1) (fun x => n - x.1) ⟨0, Nat.zero_le _, h0⟩ ρ hsub (fun x => h x.1 x.2.1 x.2.2)

theorem G_nextP {C : Cx} {k : List KI} {s : SS} {n : Nat} {I : Nat → Prop} {L : Nat → List (Nat × SV)} {O : Nat → Obs} {i : Nat} (ρ : List (Nat × Nat)) (h0 : I i) (hi : i + 1 ≤ n) (h1 : I (i + 1)) (hsub : Sub C s ρ (L (i + 1)) (O (i + 1))) : G C (.inv (CountInvP C n I L O i) :: k) s :=
  G_inv (α := {j : Nat // j ≤ n ∧ I j}) (L := fun x => L x.1) (O := fun x => O x.1) (μ := fun x => n - x.1) (x := ⟨i, by omega, h0⟩) ⟨i + 1, hi, h1⟩ ρ (by simp only; omega) hsub

end Go.Sy
