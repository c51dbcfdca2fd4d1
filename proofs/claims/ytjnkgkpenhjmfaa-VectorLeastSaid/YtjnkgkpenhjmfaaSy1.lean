/-
  The symbolic layer, 1: symbolic values, what they say of a value in a world, objects that a call owns, and what a step keeps.
-/
import Derived.WalkKit
namespace Go.Sy

/-- A symbolic value. -/
inductive SV : Type 1
  | top
  | val (v : Value)
  | agg (l : List SV)
  | tup (l : List SV)
  | sl (sz : Nat) {α : Type} (e : α → SV) (l : List α)
  | ref (sz : Nat) (x : SV) (off : Nat)
  | ptr (k : Nat) (off : Nat)
  | rpt (k : Nat) (sz i off : Nat)
  | osl (k : Nat)
  | ifc (t : TypeId) (x : SV)
  | clo (fn : Fn) (first cap : List SV)

/-- What a name stands for. -/
inductive Ent
  | new
  | dead
  | blk (b : Nat)
  | row (b len cap : Nat)
  | nil

def Ent.block? : Ent → Option Nat
  | .blk b => some b
  | .row b _ _ => some b
  | _ => none

/-- What the names stand for; and which blocks are somebody else's. -/
structure Ka where
  ent : Nat → Ent
  M : Nat → Prop

instance : CoeFun Ka (fun _ => Nat → Ent) := ⟨Ka.ent⟩

def Own (κ : Ka) (b : Nat) : Prop := (∃ k, (κ k).block? = some b) ∨ κ.M b

/-- Each is the value of one cell. -/
def Ones (cs : List Value) : Prop := ∀ c ∈ cs, c.oneCell' = true

/-- A value's cells lie at a place. -/
def LaidAt (w : World) (b off sz : Nat) (u : Value) : Prop := u.cells.size = sz ∧ Ones u.cells.toList ∧ ∀ j, j < sz → w.cell? ⟨b, off + j, none⟩ = u.cells[j]?

mutual
/-- Data: what is read lies outside of M, and is never written again. -/
def RdD (M : Nat → Prop) (w : World) : SV → Value → Prop
  | .top, _ => True
  | .val u, v => v = u
  | .agg l, v => ∃ cs : List Value, v = .agg cs.toArray ∧ Ones cs ∧ RdDL M w l cs
  | .tup l, v => ∃ cs : List Value, v = .tuple cs.toArray ∧ RdDL M w l cs
  | .sl sz e l, v => (l = [] ∧ ∃ a cap, v = .slice a 0 cap) ∨
      ∃ b off cap, v = .slice (some ⟨b, off, none⟩) l.length cap ∧ l.length ≤ cap ∧ ¬ M b ∧ b < w.heap.size ∧ ∀ i (h : i < l.length), ∃ u, RdD M w (e l[i]) u ∧ LaidAt w b (off + i * sz) sz u
  | .ref sz x off, v => ∃ b o u, v = .pointer (some ⟨b, o + off, none⟩) ∧ ¬ M b ∧ b < w.heap.size ∧ RdD M w x u ∧ LaidAt w b o sz u
  | .ptr _ _, _ => False
  | .rpt _ _ _ _, _ => False
  | .osl _, _ => False
  | .ifc t x, v => ∃ u, v = .iface t u ∧ RdD M w x u
  | .clo fn first cap, v => ∃ fs cs : List Value, v = .func fn fs.toArray cs.toArray ∧ RdDL M w first fs ∧ RdDL M w cap cs
def RdDL (M : Nat → Prop) (w : World) : List SV → List Value → Prop
  | [], vs => vs = []
  | x :: l, vs => ∃ v r, vs = v :: r ∧ RdD M w x v ∧ RdDL M w l r
end

mutual
def Rd (κ : Ka) (w : World) : SV → Value → Prop
  | .top, _ => True
  | .val u, v => v = u
  | .agg l, v => ∃ cs : List Value, v = .agg cs.toArray ∧ Ones cs ∧ RdL κ w l cs
  | .tup l, v => ∃ cs : List Value, v = .tuple cs.toArray ∧ RdL κ w l cs
  | .sl sz e l, v => RdD (Own κ) w (.sl sz e l) v
  | .ref sz x off, v => RdD (Own κ) w (.ref sz x off) v
  | .ptr k off, v => match κ k with
    | .dead => v.oneCell' = true
    | .blk b => v = .pointer (some ⟨b, off, none⟩)
    | _ => False
  | .rpt k sz i off, v => match κ k with
    | .dead => v.oneCell' = true
    | .row b _ _ => v = .pointer (some ⟨b, i * sz + off, none⟩)
    | _ => False
  | .osl k, v => match κ k with
    | .dead => v.oneCell' = true
    | .row b len cap => v = .slice (some ⟨b, 0, none⟩) len cap
    | .nil => v = .slice none 0 0
    | _ => False
  | .ifc t x, v => ∃ u, v = .iface t u ∧ Rd κ w x u
  | .clo fn first cap, v => ∃ fs cs : List Value, v = .func fn fs.toArray cs.toArray ∧ RdL κ w first fs ∧ RdL κ w cap cs
def RdL (κ : Ka) (w : World) : List SV → List Value → Prop
  | [], vs => vs = []
  | x :: l, vs => ∃ v r, vs = v :: r ∧ Rd κ w x v ∧ RdL κ w l r
end

/-! Data stays. -/
structure Keeps (M M' : Nat → Prop) (w w' : World) : Prop where
  size : w.heap.size ≤ w'.heap.size
  blk : ∀ b, b < w.heap.size → ¬ M b → w'.heap[b]? = w.heap[b]?
  out : ∀ b, b < w.heap.size → ¬ M b → ¬ M' b

theorem LaidAt.keep {w w' : World} {b off sz : Nat} {u : Value} (h : LaidAt w b off sz u) (hb : w'.heap[b]? = w.heap[b]?) : LaidAt w' b off sz u :=
  ⟨h.1, h.2.1, fun j hj => (World.cell?_of_block (w := w) (a := ⟨b, off + j, none⟩) hb).trans (h.2.2 j hj)⟩

mutual
theorem RdD.keep {M M' : Nat → Prop} {w w' : World} (k : Keeps M M' w w') : ∀ (x : SV) (v : Value), RdD M w x v → RdD M' w' x v
  | .top, _, _ => by simp [RdD]
  | .val u, v, h => by simpa [RdD] using h
  | .agg l, v, h => by
    simp only [RdD] at h ⊢
    obtain ⟨cs, h1, h0, h2⟩ := h
    exact ⟨cs, h1, h0, RdDL.keep k l cs h2⟩
  | .tup l, v, h => by
    simp only [RdD] at h ⊢
    obtain ⟨cs, h1, h2⟩ := h
    exact ⟨cs, h1, RdDL.keep k l cs h2⟩
  | .sl sz e l, v, h => by
    simp only [RdD] at h ⊢
    rcases h with h | ⟨b, off, cap, h1, h0, h2, h3, h4⟩
    · exact .inl h
    · refine .inr ⟨b, off, cap, h1, h0, k.out b h3 h2, Nat.lt_of_lt_of_le h3 k.size, fun i hi => ?_⟩
      obtain ⟨u, h5, h6⟩ := h4 i hi
      exact ⟨u, RdD.keep k (e l[i]) u h5, h6.keep (k.blk b h3 h2)⟩
  | .ref sz x off, v, h => by
    simp only [RdD] at h ⊢
    obtain ⟨b, o, u, h1, h2, h3, h4, h5⟩ := h
    exact ⟨b, o, u, h1, k.out b h3 h2, Nat.lt_of_lt_of_le h3 k.size, RdD.keep k x u h4, h5.keep (k.blk b h3 h2)⟩
  | .ptr _ _, _, h => by simp [RdD] at h
  | .rpt _ _ _ _, _, h => by simp [RdD] at h
  | .osl _, _, h => by simp [RdD] at h
  | .ifc t x, v, h => by
    simp only [RdD] at h ⊢
    obtain ⟨u, h1, h2⟩ := h
    exact ⟨u, h1, RdD.keep k x u h2⟩
  | .clo fn first cap, v, h => by
    simp only [RdD] at h ⊢
    obtain ⟨fs, cs, h1, h2, h3⟩ := h
    exact ⟨fs, cs, h1, RdDL.keep k first fs h2, RdDL.keep k cap cs h3⟩
theorem RdDL.keep {M M' : Nat → Prop} {w w' : World} (k : Keeps M M' w w') : ∀ (l : List SV) (vs : List Value), RdDL M w l vs → RdDL M' w' l vs
  | [], _, h => by simpa [RdDL] using h
  | x :: l, vs, h => by
    simp only [RdDL] at h ⊢
    obtain ⟨v, r, h1, h2, h3⟩ := h
    exact ⟨v, r, h1, RdD.keep k x v h2, RdDL.keep k l r h3⟩
end

/-! Data is a reading with names, too. -/
mutual
theorem Rd.of_data {κ : Ka} {w : World} : ∀ (x : SV) (v : Value), RdD (Own κ) w x v → Rd κ w x v
  | .top, _, _ => by simp [Rd]
  | .val u, v, h => by simpa [RdD, Rd] using h
  | .agg l, v, h => by
    simp only [RdD, Rd] at h ⊢
    obtain ⟨cs, h1, h0, h2⟩ := h
    exact ⟨cs, h1, h0, RdL.of_data l cs h2⟩
  | .tup l, v, h => by
    simp only [RdD, Rd] at h ⊢
    obtain ⟨cs, h1, h2⟩ := h
    exact ⟨cs, h1, RdL.of_data l cs h2⟩
  | .sl sz e l, v, h => by simpa only [Rd] using h
  | .ref sz x off, v, h => by simpa only [Rd] using h
  | .ptr _ _, _, h => by simp [RdD] at h
  | .rpt _ _ _ _, _, h => by simp [RdD] at h
  | .osl _, _, h => by simp [RdD] at h
  | .ifc t x, v, h => by
    simp only [RdD, Rd] at h ⊢
    obtain ⟨u, h1, h2⟩ := h
    exact ⟨u, h1, Rd.of_data x u h2⟩
  | .clo fn first cap, v, h => by
    simp only [RdD, Rd] at h ⊢
    obtain ⟨fs, cs, h1, h2, h3⟩ := h
    exact ⟨fs, cs, h1, RdL.of_data first fs h2, RdL.of_data cap cs h3⟩
theorem RdL.of_data {κ : Ka} {w : World} : ∀ (l : List SV) (vs : List Value), RdDL (Own κ) w l vs → RdL κ w l vs
  | [], _, h => by simpa [RdDL, RdL] using h
  | x :: l, vs, h => by
    simp only [RdDL, RdL] at h ⊢
    obtain ⟨v, r, h1, h2, h3⟩ := h
    exact ⟨v, r, h1, Rd.of_data x v h2, RdL.of_data l r h3⟩
end

/-! Steps. -/
structure Inv (κ : Ka) (w : World) : Prop where
  inj : ∀ i j b, (κ i).block? = some b → (κ j).block? = some b → i = j
  bnd : ∀ k b, (κ k).block? = some b → b < w.heap.size
  apart : ∀ k b, (κ k).block? = some b → ¬ κ.M b
  mbnd : ∀ b, κ.M b → b < w.heap.size

/-- From (κ, w) to (κ', w'), names in K alone being touched. -/
structure Step (K : Nat → Prop) (κ : Ka) (w : World) (κ' : Ka) (w' : World) : Prop where
  size : w.heap.size ≤ w'.heap.size
  os : w'.os = w.os
  tape : w'.tape = w.tape
  output : w'.output = w.output
  M : κ'.M = κ.M
  mkeep : ∀ b, κ.M b → w'.heap[b]? = w.heap[b]?
  blk : ∀ b, b < w.heap.size → ¬ Own κ b → w'.heap[b]? = w.heap[b]?
  own : ∀ k b, ¬ K k → (κ k).block? = some b → w'.heap[b]? = w.heap[b]?
  ent : ∀ k, ¬ K k → κ' k = κ k
  mv : ∀ k, K k → κ k = .new ∨ κ' k = κ k ∨ κ' k = .dead
  fresh : ∀ b, Own κ' b → Own κ b ∨ w.heap.size ≤ b

theorem Step.refl (K : Nat → Prop) (κ : Ka) (w : World) : Step K κ w κ w :=
  ⟨Nat.le_refl _, rfl, rfl, rfl, rfl, fun _ _ => rfl, fun _ _ _ => rfl, fun _ _ _ _ => rfl, fun _ _ => rfl, fun _ _ => .inr (.inl rfl), fun _ h => .inl h⟩

theorem Step.ent_any {K : Nat → Prop} {κ κ' : Ka} {w w' : World} (s : Step K κ w κ' w') (k : Nat) : κ k = .new ∨ κ' k = κ k ∨ κ' k = .dead := by
  by_cases h : K k
  · exact s.mv k h
  · exact .inr (.inl (s.ent k h))

theorem Step.keeps {K : Nat → Prop} {κ κ' : Ka} {w w' : World} (s : Step K κ w κ' w') : Keeps (Own κ) (Own κ') w w' :=
  ⟨s.size, s.blk, fun b hb h h' => (s.fresh b h').elim h (fun h2 => Nat.lt_irrefl _ (Nat.lt_of_lt_of_le hb h2))⟩

theorem Step.weaken {K K' : Nat → Prop} {κ κ' : Ka} {w w' : World} (s : Step K κ w κ' w') (h : ∀ k, K k → K' k) : Step K' κ w κ' w' :=
  ⟨s.size, s.os, s.tape, s.output, s.M, s.mkeep, s.blk, fun k b hk => s.own k b (fun h' => hk (h k h')), fun k hk => s.ent k (fun h' => hk (h k h')), fun k _ => s.ent_any k, s.fresh⟩

theorem Step.trans {K : Nat → Prop} {κ₁ κ₂ κ₃ : Ka} {w₁ w₂ w₃ : World} (s : Step K κ₁ w₁ κ₂ w₂) (t : Step K κ₂ w₂ κ₃ w₃) : Step K κ₁ w₁ κ₃ w₃ where
  size := Nat.le_trans s.size t.size
  os := t.os.trans s.os
  tape := t.tape.trans s.tape
  output := t.output.trans s.output
  M := t.M.trans s.M
  mkeep b hb := (t.mkeep b (by rw [s.M]; exact hb)).trans (s.mkeep b hb)
  blk b hb h := by
    rw [t.blk b (Nat.lt_of_lt_of_le hb s.size) (s.keeps.out b hb h), s.blk b hb h]
  own k b hk hb := by
    rw [t.own k b hk (by rw [s.ent k hk]; exact hb), s.own k b hk hb]
  ent k hk := (t.ent k hk).trans (s.ent k hk)
  mv k _ := by
    rcases s.ent_any k with h | h | h
    · exact .inl h
    · rcases t.ent_any k with h' | h' | h'
      · exact .inl (h ▸ h')
      · exact .inr (.inl (h'.trans h))
      · exact .inr (.inr h')
    · rcases t.ent_any k with h' | h' | h'
      · rw [h] at h'; cases h'
      · exact .inr (.inr (h'.trans h))
      · exact .inr (.inr h')
  fresh b h := by
    rcases t.fresh b h with h | h
    · exact s.fresh b h
    · exact .inr (Nat.le_trans s.size h)

mutual
theorem Rd.step {K : Nat → Prop} {κ κ' : Ka} {w w' : World} (s : Step K κ w κ' w') : ∀ (x : SV) (v : Value), Rd κ w x v → Rd κ' w' x v
  | .top, _, _ => by simp [Rd]
  | .val u, v, h => by simpa [Rd] using h
  | .agg l, v, h => by
    simp only [Rd] at h ⊢
    obtain ⟨cs, h1, h0, h2⟩ := h
    exact ⟨cs, h1, h0, RdL.step s l cs h2⟩
  | .tup l, v, h => by
    simp only [Rd] at h ⊢
    obtain ⟨cs, h1, h2⟩ := h
    exact ⟨cs, h1, RdL.step s l cs h2⟩
  | .sl sz e l, v, h => by
    simp only [Rd] at h ⊢
    exact RdD.keep s.keeps _ _ h
  | .ref sz x off, v, h => by
    simp only [Rd] at h ⊢
    exact RdD.keep s.keeps _ _ h
  | .ptr k off, v, h => by
    simp only [Rd] at h ⊢
    rcases s.ent_any k with e | e | e
    · rw [e] at h; exact h.elim
    · rw [e]; exact h
    · rw [e]
      show v.oneCell' = true
      cases hk : κ k <;> simp only [hk] at h <;> first | exact h.elim | exact h | (subst h; rfl)
  | .rpt k sz i off, v, h => by
    simp only [Rd] at h ⊢
    rcases s.ent_any k with e | e | e
    · rw [e] at h; exact h.elim
    · rw [e]; exact h
    · rw [e]
      show v.oneCell' = true
      cases hk : κ k <;> simp only [hk] at h <;> first | exact h.elim | exact h | (subst h; rfl)
  | .osl k, v, h => by
    simp only [Rd] at h ⊢
    rcases s.ent_any k with e | e | e
    · rw [e] at h; exact h.elim
    · rw [e]; exact h
    · rw [e]
      show v.oneCell' = true
      cases hk : κ k <;> simp only [hk] at h <;> first | exact h.elim | exact h | (subst h; rfl)
  | .ifc t x, v, h => by
    simp only [Rd] at h ⊢
    obtain ⟨u, h1, h2⟩ := h
    exact ⟨u, h1, Rd.step s x u h2⟩
  | .clo fn first cap, v, h => by
    simp only [Rd] at h ⊢
    obtain ⟨fs, cs, h1, h2, h3⟩ := h
    exact ⟨fs, cs, h1, RdL.step s first fs h2, RdL.step s cap cs h3⟩
theorem RdL.step {K : Nat → Prop} {κ κ' : Ka} {w w' : World} (s : Step K κ w κ' w') : ∀ (l : List SV) (vs : List Value), RdL κ w l vs → RdL κ' w' l vs
  | [], _, h => by simpa [RdL] using h
  | x :: l, vs, h => by
    simp only [RdL] at h ⊢
    obtain ⟨v, r, h1, h2, h3⟩ := h
    exact ⟨v, r, h1, Rd.step s x v h2, RdL.step s l r h3⟩
end

/-! Objects that the call owns. -/
inductive Ob : Type 1
  | fresh
  | non
  | box (l : List SV)
  | row (sz : Nat) {α : Type} (e : α → SV) (l : List α)
  | lit (sz : Nat) (svs : List SV)

def NoFr (fr : Nat × Nat) (n : Nat) : Prop := fr.1 = fr.2 ∨ n ≤ fr.1

def getI {α : Type 1} : List α → Nat → Option α
  | [], _ => none
  | x :: _, 0 => some x
  | _ :: l, n + 1 => getI l n

/-- A row of n elements; f: which one reads as what. -/
def RowAt (κ : Ka) (w : World) (k sz n : Nat) (f : Nat → SV → Prop) : Prop :=
  ∃ b cap cs T fr, κ k = .row b n cap ∧ w.heap[b]? = some (.cells (List.toArray cs) T fr) ∧ NoFr fr cs.length ∧ cap * sz ≤ cs.length ∧ n ≤ cap ∧
    ∀ i x, f i x → i < n ∧ ∃ u : Value, RdD (Own κ) w x u ∧ u.cells.size = sz ∧ Ones u.cells.toList ∧ ∀ j, j < sz → cs[i * sz + j]? = u.cells[j]?

def rowF {α : Type} (e : α → SV) (l : List α) (i : Nat) (x : SV) : Prop := ∃ h : i < l.length, x = e l[i]
def litF (svs : List SV) (i : Nat) (x : SV) : Prop := getI svs i = some x

def ObOK (κ : Ka) (w : World) (k : Nat) : Ob → Prop
  | .fresh => κ k = .new
  | .non => True
  | .box l => ∃ b cs T fr, κ k = .blk b ∧ w.heap[b]? = some (.cells (List.toArray cs) T fr) ∧ NoFr fr cs.length ∧ Ones cs ∧ RdL κ w l cs
  | .row sz e l => (κ k = .nil ∧ l = []) ∨ RowAt κ w k sz l.length (rowF e l)
  | .lit sz svs => RowAt κ w k sz svs.length (litF svs)

theorem RowAt.step {K : Nat → Prop} {κ κ' : Ka} {w w' : World} (s : Step K κ w κ' w') {k sz n : Nat} {f : Nat → SV → Prop} (hk : ¬ K k) (h : RowAt κ w k sz n f) : RowAt κ' w' k sz n f := by
  obtain ⟨b, cap, cs, T, fr, h1, h2, h3, h4, h5, h6⟩ := h
  refine ⟨b, cap, cs, T, fr, (s.ent k hk).trans h1, (s.own k b hk (by rw [h1]; rfl)).trans h2, h3, h4, h5, fun i x hi => ?_⟩
  obtain ⟨h0, u, h7, h8⟩ := h6 i x hi
  exact ⟨h0, u, RdD.keep s.keeps _ _ h7, h8⟩

theorem ObOK.step {K : Nat → Prop} {κ κ' : Ka} {w w' : World} (s : Step K κ w κ' w') {k : Nat} (hk : ¬ K k) : ∀ (o : Ob), ObOK κ w k o → ObOK κ' w' k o
  | .fresh, h => (s.ent k hk).trans h
  | .non, _ => trivial
  | .box l, h => by
    obtain ⟨b, cs, T, fr, h1, h2, h3, h0, h4⟩ := h
    exact ⟨b, cs, T, fr, (s.ent k hk).trans h1, (s.own k b hk (by rw [h1]; rfl)).trans h2, h3, h0, RdL.step s l cs h4⟩
  | .row sz e l, h => h.imp (fun ⟨h1, h2⟩ => ⟨(s.ent k hk).trans h1, h2⟩) (RowAt.step s hk)
  | .lit sz svs, h => RowAt.step s hk h

/-- What the call that is walked must keep: where it began, and what its names stood for then. -/
structure Fr where
  w0 : World
  k0 : Ka

structure Ctx (F : Fr) (κ : Ka) (w : World) : Prop where
  size : F.w0.heap.size ≤ w.heap.size
  os : w.os = F.w0.os
  tape : w.tape = F.w0.tape
  output : w.output = F.w0.output
  M : κ.M = F.k0.M
  old : ∀ b, b < F.w0.heap.size → (∀ k, (F.k0 k).block? ≠ some b) → w.heap[b]? = F.w0.heap[b]?
  own : ∀ k b, (κ k).block? = some b → F.w0.heap.size ≤ b ∨ ∃ j, (F.k0 j).block? = some b
  nam : ∀ k, F.k0 k ≠ .new → κ k = F.k0 k ∨ κ k = .dead

theorem Ctx.refl (κ : Ka) (w : World) : Ctx ⟨w, κ⟩ κ w :=
  ⟨Nat.le_refl _, rfl, rfl, rfl, rfl, fun _ _ _ => rfl, fun k _ h => .inr ⟨k, h⟩, fun _ _ => .inl rfl⟩

theorem Ctx.step {F : Fr} {K : Nat → Prop} {κ κ' : Ka} {w w' : World} (c : Ctx F κ w) (hi : Inv κ' w') (s : Step K κ w κ' w') : Ctx F κ' w' where
  size := Nat.le_trans c.size s.size
  os := s.os.trans c.os
  tape := s.tape.trans c.tape
  output := s.output.trans c.output
  M := s.M.trans c.M
  old b hb h := by
    by_cases hm : κ.M b
    · rw [s.mkeep b hm, c.old b hb h]
    · rw [s.blk b (Nat.lt_of_lt_of_le hb c.size) ?_, c.old b hb h]
      rintro (⟨k, hk⟩ | hk)
      · rcases c.own k b hk with h2 | ⟨j, h2⟩
        · exact Nat.lt_irrefl _ (Nat.lt_of_lt_of_le hb h2)
        · exact h j h2
      · exact hm hk
  own k b h := by
    rcases s.fresh b (.inl ⟨k, h⟩) with (⟨j, h1⟩ | h1) | h1
    · exact c.own j b h1
    · exact absurd (by rw [s.M]; exact h1) (hi.apart k b h)
    · exact .inl (Nat.le_trans c.size h1)
  nam k hk := by
    rcases s.ent_any k with h | h | h
    · rcases c.nam k hk with h' | h'
      · exact absurd (h'.symm.trans h) hk
      · rw [h] at h'; cases h'
    · rw [h]; exact c.nam k hk
    · exact .inr h

/-- The symbolic state. -/
structure SS : Type 1 where
  σ : Nat → SV
  h : Nat → Ob

structure St (F : Fr) (n : Nat) (s : SS) (κ : Ka) (a : Act) (w : World) : Prop where
  defers : a.defers = []
  size : a.tmps.size = n
  inv : Inv κ w
  ctx : Ctx F κ w
  slot : ∀ i, Rd κ w (s.σ i) (a.tmps.getD i undef)
  obj : ∀ k, ObOK κ w k (s.h k)

end Go.Sy
