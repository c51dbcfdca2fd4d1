/-
  The symbolic layer, 7: names that are changed, contracts, what is left to be shown at a place in the code.
-/
import Derived.Test.YtjnkgkpenhjmfaaSy6
import Derived.Deep.LoopGhost
namespace Go.Sy

/-! ### Names that are changed -/
mutual
def SV.ren (ρ : Nat → Nat) : SV → SV
  | .ptr k o => .ptr (ρ k) o
  | .rpt k sz i o => .rpt (ρ k) sz i o
  | .osl k => .osl (ρ k)
  | .agg l => .agg (renL ρ l)
  | .tup l => .tup (renL ρ l)
  | .ifc t x => .ifc t (x.ren ρ)
  | .clo fn f l => .clo fn (renL ρ f) (renL ρ l)
  | .top => .top
  | .val v => .val v
  | .sl sz e l => .sl sz e l
  | .ref sz x o => .ref sz x o
def renL (ρ : Nat → Nat) : List SV → List SV
  | [] => []
  | x :: l => x.ren ρ :: renL ρ l
end

def memN (K : List Nat) (k : Nat) : Bool := match K with
  | [] => false
  | x :: l => Nat.beq x k || memN l k

theorem memN_iff {K : List Nat} {k : Nat} : memN K k = true ↔ k ∈ K := by
  induction K with
  | nil => simp [memN]
  | cons x l ih =>
    have hb : Nat.beq x k = true ↔ x = k := ⟨Nat.eq_of_beq_eq_true, fun h => by subst h; simp⟩
    simp only [memN, Bool.or_eq_true, List.mem_cons, ih, hb]
    constructor
    · rintro (h | h)
      · exact .inl h.symm
      · exact .inr h
    · rintro (h | h)
      · exact .inl h.symm
      · exact .inr h

mutual
/-- Its names are among these. -/
def SV.inn (K : List Nat) : SV → Bool
  | .ptr k _ => memN K k
  | .rpt k _ _ _ => memN K k
  | .osl k => memN K k
  | .agg l => innL K l
  | .tup l => innL K l
  | .ifc _ x => x.inn K
  | .clo _ f l => innL K f && innL K l
  | _ => true
def innL (K : List Nat) : List SV → Bool
  | [] => true
  | x :: l => x.inn K && innL K l
end

def Ob.ren (ρ : Nat → Nat) : Ob → Ob
  | .box l => .box (renL ρ l)
  | o => o
def Ob.inn (K : List Nat) : Ob → Bool
  | .box l => innL K l
  | _ => true

/-- κ₂ reads K's names as κ reads what they are changed to. -/
structure Ren (ρ : Nat → Nat) (K : List Nat) (κ κ₂ : Ka) : Prop where
  ent : ∀ k, k ∈ K → κ₂ k = κ (ρ k)

mutual
theorem Rd.unren {ρ : Nat → Nat} {K : List Nat} {κ κ₂ : Ka} {w : World} (r : Ren ρ K κ κ₂) (ho : ∀ b, b < w.heap.size → ¬ Own κ b → ¬ Own κ₂ b) : ∀ (x : SV) (v : Value), x.inn K = true → Rd κ w (x.ren ρ) v → Rd κ₂ w x v
  | .top, _, _, _ => by simp [Rd]
  | .val u, v, _, h => by simpa [Rd, SV.ren] using h
  | .agg l, v, hi, h => by
    simp only [Rd, SV.ren, SV.inn] at h hi ⊢
    obtain ⟨cs, h1, h0, h2⟩ := h
    exact ⟨cs, h1, h0, RdL.unren r ho l cs hi h2⟩
  | .tup l, v, hi, h => by
    simp only [Rd, SV.ren, SV.inn] at h hi ⊢
    obtain ⟨cs, h1, h2⟩ := h
    exact ⟨cs, h1, RdL.unren r ho l cs hi h2⟩
  | .sl sz e l, v, _, h => by
    simp only [Rd, SV.ren] at h ⊢
    exact RdD.keep ⟨Nat.le_refl _, fun _ _ _ => rfl, ho⟩ _ _ h
  | .ref sz x off, v, _, h => by
    simp only [Rd, SV.ren] at h ⊢
    exact RdD.keep ⟨Nat.le_refl _, fun _ _ _ => rfl, ho⟩ _ _ h
  | .ptr k off, v, hi, h => by
    simp only [Rd, SV.ren, SV.inn] at h hi ⊢
    rw [r.ent k (memN_iff.1 hi)]; exact h
  | .rpt k sz i off, v, hi, h => by
    simp only [Rd, SV.ren, SV.inn] at h hi ⊢
    rw [r.ent k (memN_iff.1 hi)]; exact h
  | .osl k, v, hi, h => by
    simp only [Rd, SV.ren, SV.inn] at h hi ⊢
    rw [r.ent k (memN_iff.1 hi)]; exact h
  | .ifc t x, v, hi, h => by
    simp only [Rd, SV.ren, SV.inn] at h hi ⊢
    obtain ⟨u, h1, h2⟩ := h
    exact ⟨u, h1, Rd.unren r ho x u hi h2⟩
  | .clo fn first cap, v, hi, h => by
    simp only [Rd, SV.ren, SV.inn, Bool.and_eq_true] at h hi ⊢
    obtain ⟨fs, cs, h1, h2, h3⟩ := h
    exact ⟨fs, cs, h1, RdL.unren r ho first fs hi.1 h2, RdL.unren r ho cap cs hi.2 h3⟩
theorem RdL.unren {ρ : Nat → Nat} {K : List Nat} {κ κ₂ : Ka} {w : World} (r : Ren ρ K κ κ₂) (ho : ∀ b, b < w.heap.size → ¬ Own κ b → ¬ Own κ₂ b) : ∀ (l : List SV) (vs : List Value), innL K l = true → RdL κ w (renL ρ l) vs → RdL κ₂ w l vs
  | [], _, _, h => by simpa [RdL, renL] using h
  | x :: l, vs, hi, h => by
    simp only [RdL, renL, innL, Bool.and_eq_true] at h hi ⊢
    obtain ⟨v, q, h1, h2, h3⟩ := h
    exact ⟨v, q, h1, Rd.unren r ho x v hi.1 h2, RdL.unren r ho l q hi.2 h3⟩
end

mutual
theorem Rd.ren {ρ : Nat → Nat} {K : List Nat} {κ κ₂ : Ka} {w : World} (r : Ren ρ K κ κ₂) (ho : ∀ b, b < w.heap.size → ¬ Own κ₂ b → ¬ Own κ b) : ∀ (x : SV) (v : Value), x.inn K = true → Rd κ₂ w x v → Rd κ w (x.ren ρ) v
  | .top, _, _, _ => by simp [Rd, SV.ren]
  | .val u, v, _, h => by simpa [Rd, SV.ren] using h
  | .agg l, v, hi, h => by
    simp only [Rd, SV.ren, SV.inn] at h hi ⊢
    obtain ⟨cs, h1, h0, h2⟩ := h
    exact ⟨cs, h1, h0, RdL.ren r ho l cs hi h2⟩
  | .tup l, v, hi, h => by
    simp only [Rd, SV.ren, SV.inn] at h hi ⊢
    obtain ⟨cs, h1, h2⟩ := h
    exact ⟨cs, h1, RdL.ren r ho l cs hi h2⟩
  | .sl sz e l, v, _, h => by
    simp only [Rd, SV.ren] at h ⊢
    exact RdD.keep ⟨Nat.le_refl _, fun _ _ _ => rfl, ho⟩ _ _ h
  | .ref sz x off, v, _, h => by
    simp only [Rd, SV.ren] at h ⊢
    exact RdD.keep ⟨Nat.le_refl _, fun _ _ _ => rfl, ho⟩ _ _ h
  | .ptr k off, v, hi, h => by
    simp only [Rd, SV.ren, SV.inn] at h hi ⊢
    rw [← r.ent k (memN_iff.1 hi)]; exact h
  | .rpt k sz i off, v, hi, h => by
    simp only [Rd, SV.ren, SV.inn] at h hi ⊢
    rw [← r.ent k (memN_iff.1 hi)]; exact h
  | .osl k, v, hi, h => by
    simp only [Rd, SV.ren, SV.inn] at h hi ⊢
    rw [← r.ent k (memN_iff.1 hi)]; exact h
  | .ifc t x, v, hi, h => by
    simp only [Rd, SV.ren, SV.inn] at h hi ⊢
    obtain ⟨u, h1, h2⟩ := h
    exact ⟨u, h1, Rd.ren r ho x u hi h2⟩
  | .clo fn first cap, v, hi, h => by
    simp only [Rd, SV.ren, SV.inn, Bool.and_eq_true] at h hi ⊢
    obtain ⟨fs, cs, h1, h2, h3⟩ := h
    exact ⟨fs, cs, h1, RdL.ren r ho first fs hi.1 h2, RdL.ren r ho cap cs hi.2 h3⟩
theorem RdL.ren {ρ : Nat → Nat} {K : List Nat} {κ κ₂ : Ka} {w : World} (r : Ren ρ K κ κ₂) (ho : ∀ b, b < w.heap.size → ¬ Own κ₂ b → ¬ Own κ b) : ∀ (l : List SV) (vs : List Value), innL K l = true → RdL κ₂ w l vs → RdL κ w (renL ρ l) vs
  | [], _, _, h => by simpa [RdL, renL] using h
  | x :: l, vs, hi, h => by
    simp only [RdL, renL, innL, Bool.and_eq_true] at h hi ⊢
    obtain ⟨v, q, h1, h2, h3⟩ := h
    exact ⟨v, q, h1, Rd.ren r ho x v hi.1 h2, RdL.ren r ho l q hi.2 h3⟩
end

theorem RowAt.own {κ κ₂ : Ka} {w : World} {k k₂ sz n : Nat} {f : Nat → SV → Prop} (h : RowAt κ w k sz n f) (he : κ₂ k₂ = κ k) (ho : ∀ b, b < w.heap.size → ¬ Own κ b → ¬ Own κ₂ b) : RowAt κ₂ w k₂ sz n f := by
  obtain ⟨b, cap, cs, T, fr, h1, h2, h3, h4, h5, h6⟩ := h
  refine ⟨b, cap, cs, T, fr, he.trans h1, h2, h3, h4, h5, fun i x hi => ?_⟩
  obtain ⟨h0, u, h7, h8⟩ := h6 i x hi
  exact ⟨h0, u, RdD.keep ⟨Nat.le_refl _, fun _ _ _ => rfl, ho⟩ _ _ h7, h8⟩

theorem ObOK.unren {ρ : Nat → Nat} {K : List Nat} {κ κ₂ : Ka} {w : World} (r : Ren ρ K κ κ₂) (ho : ∀ b, b < w.heap.size → ¬ Own κ b → ¬ Own κ₂ b) {k : Nat} (hk : k ∈ K) : ∀ {o : Ob}, o.inn K = true → ObOK κ w (ρ k) (o.ren ρ) → ObOK κ₂ w k o
  | .fresh, _, h => (r.ent k hk).trans h
  | .non, _, _ => trivial
  | .box l, hi, h => by
    obtain ⟨b, cs, T, fr, h1, h2, h3, h4, h5⟩ := h
    exact ⟨b, cs, T, fr, (r.ent k hk).trans h1, h2, h3, h4, RdL.unren r ho l cs hi h5⟩
  | .row sz e l, _, h => h.imp (fun h => ⟨(r.ent k hk).trans h.1, h.2⟩) (fun h => h.own (r.ent k hk) ho)
  | .lit sz l, _, h => RowAt.own h (r.ent k hk) ho

theorem ObOK.ren {ρ : Nat → Nat} {K : List Nat} {κ κ₂ : Ka} {w : World} (r : Ren ρ K κ κ₂) (ho : ∀ b, b < w.heap.size → ¬ Own κ₂ b → ¬ Own κ b) {k : Nat} (hk : k ∈ K) : ∀ {o : Ob}, o.inn K = true → ObOK κ₂ w k o → ObOK κ w (ρ k) (o.ren ρ)
  | .fresh, _, h => (r.ent k hk).symm.trans h
  | .non, _, _ => trivial
  | .box l, hi, h => by
    obtain ⟨b, cs, T, fr, h1, h2, h3, h4, h5⟩ := h
    exact ⟨b, cs, T, fr, (r.ent k hk).symm.trans h1, h2, h3, h4, RdL.ren r ho l cs hi h5⟩
  | .row sz e l, _, h => h.imp (fun h => ⟨(r.ent k hk).symm.trans h.1, h.2⟩) (fun h => h.own (r.ent k hk).symm ho)
  | .lit sz l, _, h => RowAt.own h (r.ent k hk).symm ho

/-! ### Contracts -/
abbrev Obs := List (Nat × Ob)
def Obs.keys (H : Obs) : List Nat := H.map (·.1)
def Obs.ok (κ : Ka) (w : World) (H : Obs) : Prop := ∀ p ∈ H, ObOK κ w p.1 p.2

/-- Function f, called with A, the objects being H, hands back R and leaves the objects H'. -/
def Spec (P : Program) (f : FuncId) (A : List SV) (H : Obs) (R : SV) (H' : Obs) : Prop :=
  ∀ (κ : Ka) (w : World) (vs : List Value), Inv κ w → (∀ k, κ k ≠ .new → k ∈ H.keys) → RdL κ w A vs → H.ok κ w →
    Calls P f vs.toArray w fun e w' => ∃ v κ', e = .returned v ∧ Ctx ⟨w, κ⟩ κ' w' ∧ Inv κ' w' ∧ Rd κ' w' R v ∧ H'.ok κ' w'

/-! ### Places in the code -/
inductive KI
  | code (c : Code)
  | ops (all : Array Oper) (rest : List Oper)
  | blk (id : Nat)
  | inv (I : Act → World → Prop)

def den (P : Program) (B : Exit → Act → World → Prop) : List KI → Exit → Act → World → Prop
  | [] => B
  | .code c :: k => Exit.then (c.wp P (den P B k)) (den P B k)
  | .ops all rest :: k => Exit.then (wpList P all (den P B k) rest) (den P B k)
  | .blk id :: k => Exit.inBlock id (den P B k)
  | .inv I :: k => Exit.then I (den P B k)

/-- What a function's walk is about: the program, its types, where it began, how many slots there are, what is to hold at its end, which names came in. -/
structure Cx where
  P : Program
  Γ : Ty P
  F : Fr
  n : Nat
  B : Exit → Act → World → Prop
  bn : List Nat
  hbn : ∀ k, F.k0 k ≠ .new → k ∈ bn

def G (C : Cx) (k : List KI) (s : SS) : Prop := ∀ κ a w, St C.F C.n s κ a w → den C.P C.B k .normal a w

theorem St.ev {F : Fr} {n : Nat} {s : SS} {κ : Ka} {a : Act} {w : World} (h : St F n s κ a w) (x : Operand) : Rd κ w (ev s x) (a.eval x) := by
  cases x with
  | tmp t => exact h.slot t
  | const v => simp [Sy.ev, Act.eval, Rd]
  | global g => simp [Sy.ev, Act.eval, Rd]
  | func f => simp only [Sy.ev, Act.eval, Rd]; exact ⟨[], [], rfl, by simp [RdL], by simp [RdL]⟩

def updL (h : Nat → Ob) : List (Nat × Ob) → Nat → Ob
  | [] => h
  | (k, o) :: r => updL (upd h k o) r

def SS.upd (s : SS) (dst : Option Nat) (U : Up) : SS := ⟨match dst with | some d => Sy.upd s.σ d U.v | none => s.σ, updL s.h U.objs⟩

theorem updL_mem {h : Nat → Ob} : ∀ {l : List (Nat × Ob)} {k : Nat}, k ∉ l.map (·.1) → updL h l k = h k
  | [], k, _ => rfl
  | (j, o) :: r, k, hk => by
    simp only [List.map_cons, List.mem_cons, not_or] at hk
    rw [updL, updL_mem hk.2, upd_ne _ _ hk.1]

theorem updL_ok {κ : Ka} {w : World} : ∀ (l : List (Nat × Ob)) (h : Nat → Ob) (k : Nat), (∀ p ∈ l, ObOK κ w p.1 p.2) → (k ∉ l.map (·.1) → ObOK κ w k (h k)) → ObOK κ w k (updL h l k)
  | [], h, k, _, h2 => h2 (by simp)
  | (j, o) :: r, h, k, h1, h2 => by
    refine updL_ok r (Sy.upd h j o) k (fun p hp => h1 p (by simp [hp])) (fun hk => ?_)
    by_cases hj : k = j
    · subst hj; rw [upd_self]; exact h1 (k, o) (by simp)
    · rw [upd_ne _ _ hj]; exact h2 (by simp [hj]; simpa using hk)

theorem St.put {F : Fr} {n : Nat} {s : SS} {κ κ' : Ka} {a : Act} {w w' : World} (h : St F n s κ a w) {dst : Option Nat} {U : Up} {v : Value} (hd : ∀ d, dst = some d → d < n)
    (st : Step (· ∈ U.ws) κ w κ' w') (hi : Inv κ' w') (hv : Rd κ' w' U.v v) (ho : ∀ x ∈ U.objs, ObOK κ' w' x.1 x.2) : St F n (s.upd dst U) κ' (a.put dst v) w' where
  defers := by cases dst <;> exact h.defers
  size := by cases dst <;> simp [Act.put, h.size]
  inv := hi
  ctx := h.ctx.step hi st
  slot i := by
    cases dst with
    | none => exact Rd.step st _ _ (h.slot i)
    | some d =>
      have hlt := hd d rfl
      by_cases hi' : i = d
      · subst hi'
        simp only [SS.upd, upd_self, Act.put]
        have hs : i < a.tmps.size := by rw [h.size]; exact hlt
        simpa [hs] using hv
      · simp only [SS.upd, upd_ne _ _ hi', Act.put]
        have : (a.tmps.setIfInBounds d v).getD i undef = a.tmps.getD i undef := by
          simp [Array.getElem?_setIfInBounds_ne (Ne.symm hi')]
        rw [this]
        exact Rd.step st _ _ (h.slot i)
  obj k := updL_ok _ _ _ ho (fun hk => ObOK.step st hk _ (h.obj k))

end Go.Sy
