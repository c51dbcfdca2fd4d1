/-
  The symbolic layer, 9: results, contracts proved and used, what is changed in thought alone.
-/
import Derived.Test.YtjnkgkpenhjmfaaSy8
namespace Go.Sy
variable {C : Cx} {k : List KI} {s : SS}

/-! ### Results -/
inductive ResV (Γ : TypeId → Option TI) (s : SS) : ResultVar → SV → Prop
  | tmp {t : Nat} : ResV Γ s (.tmp t) (s.σ t)
  | cell {a : Nat} {t : TypeId} {k off : Nat} {l : List SV} {i : TI} {x : SV} (h1 : s.σ a = .ptr k off) (h2 : s.h k = .box l) (h3 : Γ t = some i) (h4 : loadSV i l off = some x) : ResV Γ s (.cell a t) x

inductive ResVs (Γ : TypeId → Option TI) (s : SS) : List ResultVar → List SV → Prop
  | nil : ResVs Γ s [] []
  | cons {r : ResultVar} {rs : List ResultVar} {x : SV} {xs : List SV} (h : ResV Γ s r x) (hs : ResVs Γ s rs xs) : ResVs Γ s (r :: rs) (x :: xs)

def comb : List SV → SV
  | [x] => x
  | xs => .tup xs

theorem resV_run {F : Fr} {n : Nat} {κ : Ka} {a : Act} {w : World} {P : Program} {Γ : Ty P} (hs : St F n s κ a w) {r : ResultVar} {x : SV} (h : ResV Γ.get s r x) :
    ∃ v, (match r with | .tmp t => (pure (a.tmps.getD t undef) : Sem Value) | .cell b t => do loadVar t (← asAddr (a.tmps.getD b undef))).run P w = .ok v w ∧ Rd κ w x v := by
  cases h with
  | @tmp t => exact ⟨_, rfl, hs.slot t⟩
  | @cell b t k off l i x h1 h2 h3 h4 =>
    have hp := hs.slot b
    have ho := hs.obj k
    rw [h2] at ho
    obtain ⟨bb, e1, e2⟩ := ho.cellsAt
    rw [h1] at hp
    simp only [Rd, e1] at hp
    obtain ⟨v, e3, e4⟩ := run_loadSV (P := P) Γ h3 e2 h4
    rw [Nat.zero_add] at e3
    refine ⟨v, ?_, e4⟩
    simp only [hp, Sem.run_bind, asAddr, Sem.run_pure, Result.andThen_ok, e3]

theorem results_run {F : Fr} {n : Nat} {κ : Ka} {a : Act} {w : World} {P : Program} {Γ : Ty P} (hs : St F n s κ a w) {fn : Func} {rs : List ResultVar} (hf : fn.results = rs.toArray) {xs : List SV} (h : ResVs Γ.get s rs xs) :
    ∃ v, (results fn a.tmps).run P w = .ok v w ∧ Rd κ w (comb xs) v := by
  have key : ∀ (rs : List ResultVar) (xs : List SV), ResVs Γ.get s rs xs → ∃ vs : List Value, (rs.mapM (fun (r : ResultVar) => match r with | .tmp t => (pure (a.tmps.getD t undef) : Sem Value) | .cell b t => do loadVar t (← asAddr (a.tmps.getD b undef)))).run P w = .ok vs w ∧ RdL κ w xs vs := by
    intro rs xs h
    induction h with
    | nil => exact ⟨[], by simp, by simp [RdL]⟩
    | @cons r rs x xs h hs' ih =>
      obtain ⟨v, h1, h2⟩ := resV_run (P := P) (Γ := Γ) hs h
      obtain ⟨vs, h3, h4⟩ := ih
      refine ⟨v :: vs, ?_, by simp only [RdL]; exact ⟨v, vs, rfl, h2, h4⟩⟩
      simp only [List.mapM_cons, Sem.run_bind, h1, Result.andThen_ok, h3, Sem.run_pure]
  obtain ⟨vs, h1, h2⟩ := key rs xs h
  have hrun : (fn.results.mapM (fun (r : ResultVar) => match r with | .tmp t => (pure (a.tmps.getD t undef) : Sem Value) | .cell b t => do loadVar t (← asAddr (a.tmps.getD b undef)))).run P w = .ok vs.toArray w := by
    rw [hf, Array.mapM_eq_mapM_toList]
    simp only [Sem.run_map, h1, Result.andThen_ok]
  refine ⟨if h : vs.toArray.size = 1 then vs.toArray[0] else .tuple vs.toArray, ?_, ?_⟩
  · unfold results
    rw [Sem.run_bind]
    change ((Sem.run P (fn.results.mapM (fun (r : ResultVar) => match r with | .tmp t => (pure (a.tmps.getD t undef) : Sem Value) | .cell b t => do loadVar t (← asAddr (a.tmps.getD b undef)))) w).andThen fun q w' => Sem.run P (pure (if h : q.size = 1 then q[0] else Value.tuple q)) w') = _
    rw [hrun]
    rfl
  · have hlen := h2.length
    match xs, hlen, h2 with
    | [], hlen, h2 =>
      simp only [RdL] at h2
      subst h2
      simp [comb, Rd, RdL]
    | [x], hlen, h2 =>
      simp only [RdL] at h2
      obtain ⟨v, r, rfl, h3, rfl⟩ := h2
      simpa [comb] using h3
    | x :: y :: xs, hlen, h2 =>
      have hne : vs.toArray.size ≠ 1 := by simp at hlen ⊢; omega
      rw [dif_neg hne]
      simp only [comb, Rd]
      exact ⟨vs, rfl, h2⟩

/-! ### A contract is proved -/
def argσ (A : List SV) : Nat → SV := fun i => match getI A i with | some x => x | none => .val undef

theorem RdL.getD {κ : Ka} {w : World} : ∀ {A : List SV} {vs : List Value} (m i : Nat), RdL κ w A vs → Rd κ w (argσ A i) ((vs ++ List.replicate m undef).getD i undef)
  | [], vs, m, i, h => by
    simp only [RdL] at h
    subst h
    have : argσ [] i = .val undef := by cases i <;> rfl
    rw [this]
    simp only [Rd, List.nil_append, List.getD_eq_getElem?_getD, List.getElem?_replicate]
    split <;> rfl
  | x :: A, vs, m, 0, h => by
    simp only [RdL] at h
    obtain ⟨v, r, rfl, h1, h2⟩ := h
    simpa [argσ, getI] using h1
  | x :: A, vs, m, i + 1, h => by
    simp only [RdL] at h
    obtain ⟨v, r, rfl, h1, h2⟩ := h
    have := RdL.getD (i := i) m h2
    simpa [argσ, getI] using this

/-- What is to hold at the end. -/
def Post (P : Program) (fn : Func) (F : Fr) (R : SV) (H' : Obs) : Exit → Act → World → Prop :=
  bodyPost P fn fun e w' => ∃ v κ', e = .returned v ∧ Ctx F κ' w' ∧ Inv κ' w' ∧ Rd κ' w' R v ∧ H'.ok κ' w'

theorem mkh_ok {κ : Ka} {w : World} : ∀ {O : Obs} {i : Nat}, (∀ p ∈ O, ObOK κ w p.1 p.2) → (i ∉ O.map (·.1) → κ i = .new) → ObOK κ w i (mkh O i)
  | [], i, _, h => h (by simp)
  | (j, x) :: r, i, h1, h2 => by
    simp only [mkh, Bool.cond_eq_ite]
    split
    · rename_i hb
      have := Nat.eq_of_beq_eq_true hb
      subst this
      exact h1 (j, x) (by simp)
    · rename_i hb
      exact mkh_ok (fun p hp => h1 p (by simp [hp])) (fun hi => h2 (by
        simp only [List.map_cons, List.mem_cons, not_or]
        exact ⟨fun e => hb (by subst e; simp), hi⟩))

theorem spec_of_G {P : Program} (Γ : Ty P) {f : FuncId} {fn : Func} {c : Code} {A : List SV} {H : Obs} {R : SV} {H' : Obs} (hf : P.funcs[f]? = some fn) (hb : fn.body = some c) {n : Nat} (hn' : fn.ntmps = n) (hn : A.length ≤ n)
    (h : ∀ (F : Fr) (hF : ∀ k, F.k0 k ≠ .new → k ∈ H.keys), G ⟨P, Γ, F, n, Post P fn F R H', H.keys, hF⟩ [.code c] ⟨argσ A, mkh H⟩) : Spec P f A H R H' := by
  subst hn'
  intro κ w vs hi hnew hA hH
  refine calls_of_wp hf hb ?_
  have hlen := hA.length
  refine h ⟨w, κ⟩ hnew κ _ w ⟨rfl, ?_, hi, Ctx.refl κ w, ?_, ?_⟩
  · simp; omega
  · intro i
    have := hA.getD (fn.ntmps - vs.length) i
    have he : (vs.toArray ++ Array.replicate (fn.ntmps - vs.length) undef) = (vs ++ List.replicate (fn.ntmps - vs.length) undef).toArray := by simp
    show Rd κ w _ ((vs.toArray ++ Array.replicate (fn.ntmps - vs.toArray.size) undef).getD i undef)
    rw [List.size_toArray, he]
    simpa using this
  · intro k
    exact mkh_ok hH (fun hk => Classical.byContradiction fun hne => hk (hnew k hne))

/-- The end: what is handed back. -/
theorem post_ok {P : Program} {fn : Func} {F : Fr} {R : SV} {H' : Obs} {Γ : Ty P} {n : Nat} {bn : List Nat} {hbn : ∀ k, F.k0 k ≠ .new → k ∈ bn} {rs : List ResultVar} (hf : fn.results = rs.toArray) {xs : List SV} (hx : ResVs Γ.get s rs xs)
    (ρ : List (Nat × Nat)) (L : Obs) (hL : ∀ p ∈ H', p ∈ L) (hR : R.ren (assocN ρ) = comb xs) (hRn : R.inn L.keys = true) (hsub : Sub ⟨P, Γ, F, n, Post P fn F R H', bn, hbn⟩ s ρ [] L) {κ : Ka} {a : Act} {w : World} (hs : St F n s κ a w) :
    Post P fn F R H' .ret a w ∧ Post P fn F R H' .normal a w := by
  obtain ⟨v, h1, h2⟩ := results_run (P := P) (Γ := Γ) hs hf hx
  have hst := hsub.st hs
  have hren : Ren (assocN ρ) L.keys κ (renK κ (assocN ρ) L.keys) := ⟨fun k hk => renK_mem hk⟩
  rw [← hR] at h2
  have h3 := Rd.unren hren (fun b _ => renK_own b) _ _ hRn h2
  have hO : H'.ok (renK κ (assocN ρ) L.keys) w := fun p hp => by
    have hpL := hL p hp
    have h1 := hsub.objs
    have key : ∀ O' : Obs, (∀ q ∈ O', q.1 ∈ L.keys) → ObsM ρ L.keys s O' → ∀ q ∈ O', ObOK (renK κ (assocN ρ) L.keys) w q.1 q.2 := by
      intro O'
      induction O' with
      | nil => intro _ _ q hq; cases hq
      | cons q r ih =>
        obtain ⟨j, x⟩ := q
        intro hk hm q hq
        simp only [ObsM] at hm
        rcases List.mem_cons.1 hq with rfl | hq
        · rcases hm.1 with h4 | h4
          · have h5 := hs.obj (assocN ρ j)
            rw [← h4] at h5
            exact ObOK.unren hren (fun b _ => renK_own b) (hk (j, x) (by simp)) hm.2.1 h5
          · show ObOK _ _ j x
            rw [h4]; trivial
        · exact ih (fun q hq => hk q (by simp [hq])) hm.2.2 q hq
    exact key L (fun q hq => List.mem_map.2 ⟨q, hq, rfl⟩) h1 p hpL
  have hfin : ∃ v' κ', Ending.returned v = .returned v' ∧ Ctx F κ' w ∧ Inv κ' w ∧ Rd κ' w R v' ∧ H'.ok κ' w := ⟨v, _, rfl, hst.ctx, hst.inv, h3, hO⟩
  exact ⟨⟨hs.defers, v, h1, hfin⟩, ⟨hs.defers, v, h1, hfin⟩⟩

/-! ### What is changed in thought alone -/
/-- A slot's value said otherwise. -/
theorem G_set (d : Nat) {x : SV} (h : ∀ κ w v, Rd κ w (s.σ d) v → Rd κ w x v) (hg : G C k ⟨upd s.σ d x, s.h⟩) : G C k s := fun κ a w hs =>
  hg κ a w ⟨hs.defers, hs.size, hs.inv, hs.ctx, fun i => by
    show Rd κ w (upd s.σ d x i) _
    by_cases hi : i = d
    · subst hi; rw [upd_self]; exact h κ w _ (hs.slot i)
    · rw [upd_ne _ _ hi]; exact hs.slot i, hs.obj⟩

/-- A literal's row seen as a row of data. -/
theorem G_retype (d : Nat) {sz : Nat} {α : Type} {e : α → SV} {l : List α} {svs : List SV} (h : s.h d = .lit sz svs) (hl : l.map e = svs) (hg : G C k ⟨s.σ, upd s.h d (.row sz e l)⟩) : G C k s := fun κ a w hs =>
  hg κ a w ⟨hs.defers, hs.size, hs.inv, hs.ctx, hs.slot, fun i => by
    show ObOK κ w i (upd s.h d (.row sz e l) i)
    by_cases hi : i = d
    · subst hi
      rw [upd_self]
      have := hs.obj i
      rw [h] at this
      obtain ⟨b, cap, cs, T, fr, e1, e2, e3, e4, e5, e6⟩ := this
      have hlen : l.length = svs.length := by rw [← hl]; simp
      exact .inr ⟨b, cap, cs, T, fr, by rw [hlen]; exact e1, e2, e3, e4, by omega, fun i x hx => by rw [hlen]; exact e6 i x (rowF_lit hl i x hx)⟩
    · rw [upd_ne _ _ hi]; exact hs.obj i⟩

/-- A row said otherwise. -/
theorem G_rerow (d : Nat) {sz : Nat} {α β : Type} {e : α → SV} {l : List α} {e' : β → SV} {l' : List β} (h : s.h d = .row sz e l) (hl : l'.map e' = l.map e) (hg : G C k ⟨s.σ, upd s.h d (.row sz e' l')⟩) : G C k s := fun κ a w hs =>
  hg κ a w ⟨hs.defers, hs.size, hs.inv, hs.ctx, hs.slot, fun i => by
    show ObOK κ w i (upd s.h d (.row sz e' l') i)
    by_cases hi : i = d
    · subst hi
      rw [upd_self]
      have := hs.obj i
      rw [h] at this
      have hlen : l'.length = l.length := by have := congrArg List.length hl; simpa using this
      rcases this with ⟨h1, rfl⟩ | ⟨b, cap, cs, T, fr, e1, e2, e3, e4, e5, e6⟩
      · exact .inl ⟨h1, List.eq_nil_of_length_eq_zero (by simpa using hlen)⟩
      · exact .inr ⟨b, cap, cs, T, fr, by rw [hlen]; exact e1, e2, e3, e4, by omega, fun i x hx => by rw [hlen]; exact e6 i x (rowF_map hl i x hx)⟩
    · rw [upd_ne _ _ hi]; exact hs.obj i⟩

theorem G_ghost {κs : Ka → World → Ka} {s' : SS} (h : ∀ κ a w, St C.F C.n s κ a w → St C.F C.n s' (κs κ w) a w) (hg : G C k s') : G C k s := fun κ a w hs => hg _ a w (h κ a w hs)

/-- A nil slice in slot i becomes the name d, an empty row. -/
theorem G_adopt (i d sz : Nat) {α : Type} (e : α → SV) (h : s.σ i = .val (.slice none 0 0)) (hd : s.h d = .fresh) (hg : G C k ⟨upd s.σ i (.osl d), upd s.h d (.row sz e [])⟩) : G C k s := fun κ a w hs => by
  have hnew : κ d = .new := by have := hs.obj d; rwa [hd] at this
  obtain ⟨st, inv⟩ := step_new hs.inv hnew (e := .nil) (Grew.refl w) (fun b hb => by cases hb)
  refine hg (setK κ d .nil) a w ⟨hs.defers, hs.size, inv, hs.ctx.step inv st, fun j => ?_, fun j => ?_⟩
  · show Rd _ w (upd s.σ i (.osl d) j) _
    by_cases hj : j = i
    · subst hj
      rw [upd_self]
      have := hs.slot j
      rw [h] at this
      simp [Rd, setK_self, this.val]
    · rw [upd_ne _ _ hj]; exact Rd.step st _ _ (hs.slot j)
  · show ObOK _ w j (upd s.h d (.row sz e []) j)
    by_cases hj : j = d
    · subst hj; rw [upd_self]; exact .inl ⟨setK_self _ _ _, rfl⟩
    · rw [upd_ne _ _ hj]; exact ObOK.step st hj _ (hs.obj j)

/-- Slots that hold the name d come to hold data; nobody owns it any more. -/
def freezeσ (σ : Nat → SV) (x : SV) : List Nat → Nat → SV
  | [] => σ
  | i :: r => freezeσ (upd σ i x) x r

theorem RowAt.freeze {κ κ' : Ka} {w : World} {d sz : Nat} {α : Type} {e : α → SV} {l : List α} (h : RowAt κ w d sz l.length (rowF e l)) {v : Value} (hv : Rd κ w (.osl d) v) (ho : ∀ b, b < w.heap.size → ¬ Own κ b → ¬ Own κ' b) (hd : ∀ b, (κ d).block? = some b → b < w.heap.size ∧ ¬ Own κ' b) : Rd κ' w (.sl sz e l) v := by
  obtain ⟨b, cap, cs, T, fr, e1, e2, e3, e4, e5, e6⟩ := h
  simp only [Rd, e1] at hv
  obtain ⟨h1, h2⟩ := hd b (by rw [e1]; rfl)
  simp only [Rd, RdD]
  refine .inr ⟨b, 0, cap, hv, e5, h2, h1, fun i hi => ?_⟩
  obtain ⟨h0, u, u1, u2, u3, u4⟩ := e6 i (e l[i]) ⟨hi, rfl⟩
  refine ⟨u, RdD.keep ⟨Nat.le_refl _, fun _ _ _ => rfl, ho⟩ _ _ u1, u2, u3, fun j hj => ?_⟩
  rw [Nat.zero_add, cell_of_row w b _ cs.toArray T fr e2]
  simpa using u4 j hj

theorem freezeσ_ok {κ : Ka} {w : World} {a : Act} {x : SV} : ∀ (r : List Nat) (σ : Nat → SV) (i : Nat), Rd κ w (σ i) (a.tmps.getD i undef) → (i ∈ r → Rd κ w x (a.tmps.getD i undef)) → Rd κ w (freezeσ σ x r i) (a.tmps.getD i undef)
  | [], σ, i, h, _ => h
  | j :: r, σ, i, h, h' => by
    refine freezeσ_ok r (upd σ j x) i ?_ (fun hi => h' (by simp [hi]))
    by_cases hj : i = j
    · subst hj; rw [upd_self]; exact h' (by simp)
    · rw [upd_ne _ _ hj]; exact h

theorem G_freeze (d : Nat) (r : List Nat) {sz : Nat} {α : Type} {e : α → SV} {l : List α} (h : s.h d = .row sz e l) (hr : ∀ i ∈ r, s.σ i = .osl d) (hg : G C k ⟨freezeσ s.σ (.sl sz e l) r, upd s.h d .non⟩) : G C k s := fun κ a w hs => by
  have hob := hs.obj d
  rw [h] at hob
  have st := step_kill (κ := κ) (w := w) (some d)
  have inv := inv_kill hs.inv (some d)
  refine hg (setK κ d .dead) a w ⟨hs.defers, hs.size, inv, hs.ctx.step inv st, fun j => ?_, fun j => ?_⟩
  · refine freezeσ_ok r _ j (Rd.step st _ _ (hs.slot j)) (fun hj => ?_)
    have hv := hs.slot j
    rw [hr j hj] at hv
    rcases hob with ⟨h1, rfl⟩ | h1
    · simp only [Rd, h1] at hv
      simp only [Rd, RdD]
      exact .inl ⟨by simp, none, 0, hv⟩
    · refine h1.freeze hv st.keeps.out (fun b hb => ⟨hs.inv.bnd d b hb, ?_⟩)
      rintro (⟨q, hq⟩ | hq)
      · by_cases hqd : q = d
        · subst hqd; rw [setK_self] at hq; cases hq
        · rw [setK_ne _ _ hqd] at hq
          exact hqd (hs.inv.inj q d b hq hb)
      · exact hs.inv.apart d b hb hq
  · show ObOK _ w j (upd s.h d .non j)
    by_cases hj : j = d
    · subst hj; rw [upd_self]; trivial
    · rw [upd_ne _ _ hj]; exact ObOK.step st (fun e => hj (Option.some.inj e).symm) _ (hs.obj j)

end Go.Sy
