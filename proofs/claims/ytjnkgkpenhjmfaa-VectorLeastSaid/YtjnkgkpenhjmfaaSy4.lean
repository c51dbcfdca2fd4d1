/-
  The symbolic layer, 4: append, make, slices that are built.
-/
import Derived.Test.YtjnkgkpenhjmfaaSy3
namespace Go.Sy

/-- m elements that can be read out of v. -/
def Src (κ : Ka) (w : World) (v : Value) (m sz : Nat) (f : Nat → SV → Prop) : Prop :=
  (m = 0 ∧ (∀ i x, ¬ f i x) ∧ ∃ a cap, v = .slice a 0 cap) ∨
  ∃ b o cap news, v = .slice (some ⟨b, o, none⟩) m cap ∧ news.length = m * sz ∧ Ones news ∧ (∀ j u, news[j]? = some u → w.cell? ⟨b, o + j, none⟩ = some u) ∧
    ∀ i x, f i x → i < m ∧ ∃ u : Value, RdD (Own κ) w x u ∧ u.cells.size = sz ∧ Ones u.cells.toList ∧ ∀ j, j < sz → news[i * sz + j]? = u.cells[j]?

theorem ones_of_elems {cs : List Value} {n sz : Nat} (hl : n * sz ≤ cs.length) (h : ∀ i, i < n → ∃ u : Value, u.cells.size = sz ∧ Ones u.cells.toList ∧ ∀ j, j < sz → cs[i * sz + j]? = u.cells[j]?) : Ones (cs.take (n * sz)) := by
  intro c hc
  obtain ⟨j, hj, rfl⟩ := List.mem_iff_getElem.1 hc
  have hj' : j < n * sz := by simp at hj; omega
  have hsz : 0 < sz := by
    rcases Nat.eq_zero_or_pos sz with h0 | h0
    · subst h0; simp at hj'
    · exact h0
  have hi : j / sz < n := (Nat.div_lt_iff_lt_mul hsz).2 hj'
  obtain ⟨u, h1, h2, h3⟩ := h (j / sz) hi
  have h4 := h3 (j % sz) (Nat.mod_lt _ hsz)
  rw [Nat.div_add_mod' j sz] at h4
  rw [List.getElem?_eq_getElem (by omega)] at h4
  have h5 : j % sz < u.cells.toList.length := by simp [h1]; exact Nat.mod_lt _ hsz
  rw [← Array.getElem?_toList, List.getElem?_eq_getElem h5] at h4
  simp only [Option.some.injEq] at h4
  rw [List.getElem_take, h4]
  exact h2 _ (List.getElem_mem h5)

theorem RowAt.src {κ : Ka} {w : World} {k sz n : Nat} {f : Nat → SV → Prop} (h : RowAt κ w k sz n f) (tot : ∀ i, i < n → ∃ x, f i x) : ∃ b cap, κ k = .row b n cap ∧ Src κ w (.slice (some ⟨b, 0, none⟩) n cap) n sz f := by
  obtain ⟨b, cap, cs, T, fr, e1, e2, e3, e4, e5, e6⟩ := h
  have hle : n * sz ≤ cs.length := Nat.le_trans (Nat.mul_le_mul_right sz e5) e4
  refine ⟨b, cap, e1, .inr ⟨b, 0, cap, cs.take (n * sz), rfl, by simp; omega, ?_, ?_, ?_⟩⟩
  · exact ones_of_elems hle (fun i hi => by
      obtain ⟨x, hx⟩ := tot i hi
      obtain ⟨_, u, _, h2⟩ := e6 i x hx
      exact ⟨u, h2⟩)
  · intro j u hj
    rw [List.getElem?_take] at hj
    split at hj
    · rw [Nat.zero_add, cell_of_row w b _ cs.toArray T fr e2]; simpa using hj
    · cases hj
  · intro i x hx
    obtain ⟨h0, u, h1, h2, h3, h4⟩ := e6 i x hx
    refine ⟨h0, u, h1, h2, h3, fun j hj => ?_⟩
    have : (i + 1) * sz ≤ n * sz := Nat.mul_le_mul_right sz (by omega)
    rw [Nat.add_mul, Nat.one_mul] at this
    rw [List.getElem?_take, if_pos (by omega), h4 j hj]

theorem Rd.src {κ : Ka} {w : World} {sz : Nat} {α : Type} {e : α → SV} {l : List α} {v : Value} (h : Rd κ w (.sl sz e l) v) : Src κ w v l.length sz (rowF e l) := by
  simp only [Rd, RdD] at h
  rcases h with ⟨rfl, a, cap, rfl⟩ | ⟨b, off, cap, rfl, h0, h1, h2, h3⟩
  · exact .inl ⟨rfl, fun i x hx => (by obtain ⟨h, _⟩ := hx; simp at h), a, cap, rfl⟩
  · refine .inr ⟨b, off, cap, (List.range (l.length * sz)).map fun j => (w.cell? ⟨b, off + j, none⟩).getD undef, rfl, by simp, ?_, ?_, ?_⟩
    · have := ones_of_elems (cs := (List.range (l.length * sz)).map fun j => (w.cell? ⟨b, off + j, none⟩).getD undef) (n := l.length) (sz := sz) (by simp) (fun i hi => by
        obtain ⟨u, h4, h5, h6, h7⟩ := h3 i hi
        refine ⟨u, h5, h6, fun j hj => ?_⟩
        have : (i + 1) * sz ≤ l.length * sz := Nat.mul_le_mul_right sz (by omega)
        rw [Nat.add_mul, Nat.one_mul] at this
        have h8 := h7 j hj
        rw [Nat.add_assoc] at h8
        rw [List.getElem?_map, List.getElem?_range (by omega)]
        simp only [Option.map_some, h8]
        rw [Array.getElem?_eq_getElem (by omega)]
        rfl)
      rw [List.take_of_length_le (by simp)] at this
      exact this
    · intro j u hj
      rw [List.getElem?_map] at hj
      have hlt : j < l.length * sz := by
        rcases Nat.lt_or_ge j (l.length * sz) with h | h
        · exact h
        · rw [List.getElem?_eq_none (by simpa using h)] at hj; cases hj
      rw [List.getElem?_range hlt] at hj
      simp only [Option.map_some, Option.some.injEq] at hj
      have hsz : 0 < sz := by
        rcases Nat.eq_zero_or_pos sz with h0 | h0
        · subst h0; simp at hlt
        · exact h0
      have hi : j / sz < l.length := (Nat.div_lt_iff_lt_mul hsz).2 hlt
      obtain ⟨q, h4, h5, h6, h7⟩ := h3 (j / sz) hi
      have h8 := h7 (j % sz) (Nat.mod_lt _ hsz)
      rw [Nat.add_assoc, Nat.div_add_mod' j sz, Array.getElem?_eq_getElem (by rw [h5]; exact Nat.mod_lt _ hsz)] at h8
      rw [h8] at hj ⊢
      simpa using hj
    · rintro i x ⟨hi, rfl⟩
      obtain ⟨u, h4, h5, h6, h7⟩ := h3 i hi
      refine ⟨hi, u, h4, h5, h6, fun j hj => ?_⟩
      have : (i + 1) * sz ≤ l.length * sz := Nat.mul_le_mul_right sz (by omega)
      rw [Nat.add_mul, Nat.one_mul] at this
      have h8 := h7 j hj
      rw [Nat.add_assoc] at h8
      rw [List.getElem?_map, List.getElem?_range (by omega)]
      simp only [Option.map_some, h8]
      rw [Array.getElem?_eq_getElem (by omega)]
      rfl

/-- Which elements there are behind an append. -/
def appF (n : Nat) (f g : Nat → SV → Prop) (i : Nat) (x : SV) : Prop := (i < n ∧ f i x) ∨ (n ≤ i ∧ g (i - n) x)

/-- A slice that may be appended to. -/
def Base (κ : Ka) (w : World) (v : Value) (n sz : Nat) (f : Nat → SV → Prop) : Option Nat → Prop
  | none => v = .slice none 0 0 ∧ n = 0
  | some k => (κ k = .nil ∧ n = 0 ∧ v = .slice none 0 0) ∨ (RowAt κ w k sz n f ∧ (∀ i, i < n → ∃ x, f i x) ∧ ∃ b cap, κ k = .row b n cap ∧ v = .slice (some ⟨b, 0, none⟩) n cap)

def killK (κ : Ka) : Option Nat → Ka
  | none => κ
  | some k => setK κ k .dead

theorem inv_kill {κ : Ka} {w : World} (hi : Inv κ w) (k : Option Nat) : Inv (killK κ k) w := by
  cases k with
  | none => exact hi
  | some k =>
    have key : ∀ j b, ((setK κ k .dead) j).block? = some b → (κ j).block? = some b := fun j b h => by
      by_cases hj : j = k
      · subst hj; rw [setK_self] at h; cases h
      · rwa [setK_ne κ _ hj] at h
    exact ⟨fun i j b h1 h2 => hi.inj i j b (key i b h1) (key j b h2), fun j b h => hi.bnd j b (key j b h), fun j b h => hi.apart j b (key j b h), hi.mbnd⟩

theorem step_kill {κ : Ka} {w : World} (k : Option Nat) : Step (fun j => k = some j) κ w (killK κ k) w := by
  cases k with
  | none => exact Step.refl _ κ w
  | some k =>
    refine ⟨Nat.le_refl _, rfl, rfl, rfl, rfl, fun _ _ => rfl, fun _ _ _ => rfl, fun _ _ _ _ => rfl, fun j hj => setK_ne κ _ (fun e => hj (by rw [e])), fun j hj => .inr (.inr ?_), ?_⟩
    · simp only [Option.some.injEq] at hj; subst hj; exact setK_self _ _ _
    · rintro b (⟨j, hj⟩ | hj)
      · left
        by_cases hjk : j = k
        · subst hjk; simp only [killK] at hj; rw [setK_self] at hj; cases hj
        · simp only [killK] at hj; rw [setK_ne κ _ hjk] at hj; exact .inl ⟨j, hj⟩
      · exact .inl (.inr hj)

/-- The name k gives its block over to the new name d. -/
theorem step_over {κ : Ka} {w w' : World} {k d b n n' cap : Nat} (hi : Inv κ w) (hk : κ k = .row b n cap) (hd : κ d = .new) (hos : w'.os = w.os) (ht : w'.tape = w.tape) (ho : w'.output = w.output)
    (hs : w'.heap.size = w.heap.size) (hb : ∀ i, i ≠ b → w'.heap[i]? = w.heap[i]?) :
    Step (fun j => j = k ∨ j = d) κ w (setK (setK κ k .dead) d (.row b n' cap)) w' ∧ Inv (setK (setK κ k .dead) d (.row b n' cap)) w' := by
  have hkd : k ≠ d := fun e => by subst e; rw [hk] at hd; cases hd
  have hkb : (κ k).block? = some b := by rw [hk]; rfl
  have key : ∀ j c, ((setK (setK κ k .dead) d (.row b n' cap)) j).block? = some c → (j = d ∧ c = b) ∨ (j ≠ d ∧ j ≠ k ∧ (κ j).block? = some c) := by
    intro j c h
    by_cases hj : j = d
    · subst hj; rw [setK_self] at h; exact .inl ⟨rfl, by simpa [Ent.block?] using h.symm⟩
    · rw [setK_ne _ _ hj] at h
      by_cases hj2 : j = k
      · subst hj2; rw [setK_self] at h; cases h
      · rw [setK_ne _ _ hj2] at h; exact .inr ⟨hj, hj2, h⟩
  refine ⟨⟨by omega, hos, ht, ho, rfl, fun c hm => hb c (fun e => hi.apart k b hkb (e ▸ hm)), fun c _ hn => hb c (fun e => hn (.inl ⟨k, e ▸ hkb⟩)), fun j c hj hjc => hb c (fun e => ?_), fun j hj => ?_, ?_, ?_⟩, ⟨?_, ?_, ?_, fun c h => ?_⟩⟩
  · subst e
    exact hj (.inl (hi.inj j k _ hjc hkb))
  · rw [setK_ne _ _ (fun e => hj (.inr e)), setK_ne _ _ (fun e => hj (.inl e))]
  · rintro j (rfl | rfl)
    · exact .inr (.inr (by rw [setK_ne _ _ hkd, setK_self]))
    · exact .inl hd
  · rintro c (⟨j, hj⟩ | hj)
    · rcases key j c hj with ⟨_, rfl⟩ | ⟨_, _, h⟩
      · exact .inl (.inl ⟨k, hkb⟩)
      · exact .inl (.inl ⟨j, h⟩)
    · exact .inl (.inr hj)
  · intro i j c h1 h2
    rcases key i c h1 with ⟨a1, a2⟩ | ⟨a1, a2, a3⟩ <;> rcases key j c h2 with ⟨b1, b2⟩ | ⟨b1, b2, b3⟩
    · exact a1.trans b1.symm
    · subst a2; exact absurd (hi.inj j k _ b3 hkb) b2
    · subst b2; exact absurd (hi.inj i k _ a3 hkb) a2
    · exact hi.inj i j c a3 b3
  · intro j c h
    rw [hs]
    rcases key j c h with ⟨_, rfl⟩ | ⟨_, _, h⟩
    · exact hi.bnd k _ hkb
    · exact hi.bnd j c h
  · intro j c h
    rcases key j c h with ⟨_, rfl⟩ | ⟨_, _, h⟩
    · exact hi.apart k _ hkb
    · exact hi.apart j c h
  · rw [hs]; exact hi.mbnd c h

theorem len_zeroCells (z : Array Value) (n : Nat) : (Builtin.zeroCells z n).size = n * z.size := by simp [Builtin.zeroCells]

/-- APPEND. -/
theorem append_core {P : Program} {κ : Ka} {w : World} (hi : Inv κ w) {t ty e : TypeId} {i : TypeInfo} {z : Value} {sz : Nat} (ht : P.underlying t = some (.slice e)) (hinfo : P.info? e = some i) (hz : i.zero = some z) (hsz : i.size = sz) (hzs : z.cells.size = sz)
    {v u : Value} {n m : Nat} {f g : Nat → SV → Prop} {k : Option Nat} {d : Nat} (hd : κ d = .new) (hb : Base κ w v n sz f k) (hs : Src κ w u m sz g) (h63 : n + m ≤ 9223372036854775807) (hbytes : (n + m) * i.bytes ≤ 140737488355328) :
    ∃ v' w' κ', (Builtin.append_ #[t, t] ty #[v, u]).run P w = .ok v' w' ∧ Step (fun j => k = some j ∨ j = d) κ w κ' w' ∧ Inv κ' w' ∧ Rd κ' w' (.osl d) v' ∧
      ((κ' d = .nil ∧ n + m = 0) ∨ RowAt κ' w' d sz (n + m) (appF n f g)) := by
  -- the new elements, as cells
  obtain ⟨a, c, news, hu, hnl, hn1, hnc, hng⟩ : ∃ (a : Option Addr) (c : Nat) (news : List Value), u = .slice a m c ∧ news.length = m * sz ∧ Ones news ∧ (∀ W : World, (∀ p : Addr, p.block < w.heap.size → W.cell? p = w.cell? p) → (Builtin.firstCells sz m u).run P W = .ok news.toArray W) ∧
      (∀ j x, g j x → j < m ∧ ∃ q : Value, RdD (Own κ) w x q ∧ q.cells.size = sz ∧ Ones q.cells.toList ∧ ∀ l, l < sz → news[j * sz + l]? = q.cells[l]?) := by
    rcases hs with ⟨rfl, hno, a, c, rfl⟩ | ⟨b, o, c, news, rfl, h1, h2, h3, h4⟩
    · refine ⟨a, c, [], rfl, by simp, by simp [Ones], fun W _ => ?_, fun j x h => absurd h (hno j x)⟩
      cases a <;> simp [Builtin.firstCells, loadCells, loadCellsFrom]
    · refine ⟨some ⟨b, o, none⟩, c, news, rfl, h1, h2, fun W hW => ?_, fun j x hx => h4 j x hx⟩
      exact run_firstCells_some (P := P) W sz m ⟨b, o, none⟩ m c news h1 (fun j q hj => by
        rw [Addr.add_lit]
        have h5 := h3 j q hj
        rw [hW _ (by exact World.block_lt_of_cell? w _ h5), h5])
  subst hu
  have hcap : ∀ old, n + m ≤ grownCap w (n + m) old e := fun old => grownCap_ge w (n + m) old e
  have hfits : ∀ old, old < n + m → ¬ (281474976710656 < Builtin.nextslicecap (n + m) old * i.bytes) := fun old ho => by have := growslice_fits ho hbytes; omega
  -- what a new row comes to
  have newrow : ∀ (olds : List Value) (old : Nat) (hol : olds.length = n * sz) (hof : ∀ j x, f j x → j < n → ∃ q : Value, RdD (Own κ) w x q ∧ q.cells.size = sz ∧ Ones q.cells.toList ∧ ∀ l, l < sz → olds[j * sz + l]? = q.cells[l]?),
      let w' := w.drew.alloc (.cells (olds.toArray ++ news.toArray ++ Builtin.zeroCells z.cells (grownCap w (n + m) old e - (n + m))) e)
      let κ' := setK (killK κ k) d (.row w.heap.size (n + m) (grownCap w (n + m) old e))
      Step (fun j => k = some j ∨ j = d) κ w κ' w' ∧ Inv κ' w' ∧ Rd κ' w' (.osl d) (.slice (some ⟨w.heap.size, 0, none⟩) (n + m) (grownCap w (n + m) old e)) ∧ RowAt κ' w' d sz (n + m) (appF n f g) := by
    intro olds old hol hof w' κ'
    have s1 := step_kill (κ := κ) (w := w) k
    have hdn : (killK κ k) d = .new := by
      cases k with
      | none => exact hd
      | some k =>
        by_cases hkd : d = k
        · exfalso
          subst hkd
          rcases hb with ⟨h, _⟩ | ⟨_, _, b, cap, h, _⟩ <;> rw [hd] at h <;> cases h
        · simp only [killK]; rw [setK_ne _ _ hkd]; exact hd
    have g0 : Grew w w' := (Grew.drew w).trans (Grew.alloc _ _)
    have s2 := step_new (inv_kill hi k) hdn (e := .row w.heap.size (n + m) (grownCap w (n + m) old e)) g0 (fun b hb => by
      simp only [Ent.block?, Option.some.injEq] at hb; subst hb; exact ⟨Nat.le_refl _, by simp [w']⟩)
    have s3 : Step (fun j => k = some j ∨ j = d) κ w κ' w' := (s1.weaken (fun j hj => .inl hj)).trans (s2.1.weaken (fun j hj => .inr hj))
    refine ⟨s3, s2.2, by simp [Rd, κ', setK_self], ?_⟩
    refine ⟨w.heap.size, grownCap w (n + m) old e, olds ++ news ++ (Builtin.zeroCells z.cells (grownCap w (n + m) old e - (n + m))).toList, e, (0, 0), setK_self _ _ _, ?_, NoFr.zero _, ?_, hcap old, ?_⟩
    · have : w'.heap[w.heap.size]? = some (.cells (olds.toArray ++ news.toArray ++ Builtin.zeroCells z.cells (grownCap w (n + m) old e - (n + m))) e) := heap_alloc_new w.drew _
      rw [this]
      congr 2
      apply Array.ext'
      simp
    · simp only [List.length_append, hol, hnl, Array.length_toList, len_zeroCells, hzs]
      rw [← Nat.add_mul, ← Nat.add_mul]
      have := hcap old
      rw [show n + m + (grownCap w (n + m) old e - (n + m)) = grownCap w (n + m) old e from by omega]
      exact Nat.le_refl _
    · rintro j x (⟨hj, hx⟩ | ⟨hj, hx⟩)
      · obtain ⟨q, q1, q2, q3, q4⟩ := hof j x hx hj
        refine ⟨by omega, q, RdD.keep s3.keeps _ _ q1, q2, q3, fun l hl => ?_⟩
        have : (j + 1) * sz ≤ n * sz := Nat.mul_le_mul_right sz (by omega)
        rw [Nat.add_mul, Nat.one_mul] at this
        rw [List.append_assoc, List.getElem?_append_left (by omega), q4 l hl]
      · obtain ⟨h0, q, q1, q2, q3, q4⟩ := hng _ x hx
        refine ⟨by omega, q, RdD.keep s3.keeps _ _ q1, q2, q3, fun l hl => ?_⟩
        have e1 : j * sz = n * sz + (j - n) * sz := by rw [← Nat.add_mul]; congr 1; omega
        have : (j - n + 1) * sz ≤ m * sz := Nat.mul_le_mul_right sz (by omega)
        rw [Nat.add_mul, Nat.one_mul] at this
        rw [List.append_assoc, List.getElem?_append_right (by omega), List.getElem?_append_left (by omega), ← q4 l hl]
        congr 1
        omega
  cases k with
  | none =>
    obtain ⟨rfl, rfl⟩ := hb
    by_cases hm : m = 0
    · subst hm
      have st := step_new hi hd (e := .nil) (Grew.refl w) (fun b hb => by cases hb)
      refine ⟨.slice none 0 0, w, setK κ d .nil, ?_, st.1.weaken (fun j hj => .inr hj), st.2, by simp [Rd, setK_self], .inl ⟨setK_self _ _ _, rfl⟩⟩
      have hc := hnc w (fun _ _ => rfl)
      simp [Builtin.append_, run_underlying ht, sizeOf, typeInfo, hinfo, hsz, Builtin.lenOf, hc]
    · obtain ⟨q1, q2, q3, q4⟩ := newrow [] 0 (by simp) (fun j x _ hj => absurd hj (by omega))
      refine ⟨_, _, _, ?_, q1, q2, q3, .inr q4⟩
      have hc := hnc w.drew (fun _ _ => rfl)
      have h48 := hfits 0 (by omega)
      have h63' : ¬ (9223372036854775807 < (m : Int)) := by omega
      simp only [Nat.zero_add] at h48 ⊢
      simp [Builtin.append_, run_underlying ht, sizeOf, typeInfo, zeroValue, hinfo, hsz, hz, Builtin.lenOf, hm, h63', h48, Question.forced, run_firstCells_none, hc, newRow, grownCap]
  | some k =>
    rcases hb with ⟨hk, rfl, rfl⟩ | ⟨hrow, tot, b, cap, hk, rfl⟩
    · by_cases hm : m = 0
      · subst hm
        have hkd : d ≠ k := fun e => by subst e; rw [hd] at hk; cases hk
        have st := step_new (inv_kill hi (some k)) (by show setK κ k .dead d = .new; rw [setK_ne _ _ hkd]; exact hd) (e := .nil) (Grew.refl w) (fun b hb => by cases hb)
        refine ⟨.slice none 0 0, w, _, ?_, ((step_kill (some k)).weaken (fun j hj => .inl hj)).trans (st.1.weaken (fun j hj => .inr hj)), st.2, by simp [Rd, setK_self], .inl ⟨setK_self _ _ _, rfl⟩⟩
        have hc := hnc w (fun _ _ => rfl)
        simp [Builtin.append_, run_underlying ht, sizeOf, typeInfo, hinfo, hsz, Builtin.lenOf, hc]
      · obtain ⟨q1, q2, q3, q4⟩ := newrow [] 0 (by simp) (fun j x _ hj => absurd hj (by omega))
        refine ⟨_, _, _, ?_, q1, q2, q3, .inr q4⟩
        have hc := hnc w.drew (fun _ _ => rfl)
        have h48 := hfits 0 (by omega)
        have h63' : ¬ (9223372036854775807 < (m : Int)) := by omega
        simp only [Nat.zero_add] at h48 ⊢
        simp [Builtin.append_, run_underlying ht, sizeOf, typeInfo, zeroValue, hinfo, hsz, hz, Builtin.lenOf, hm, h63', h48, Question.forced, run_firstCells_none, hc, newRow, grownCap]
    · obtain ⟨b', cap', hk', hsrc⟩ := hrow.src tot
      rw [hk] at hk'
      cases hk'
      have hrow' := hrow
      obtain ⟨b', cap', cs, T, fr, e1, e2, e3, e4, e5, e6⟩ := hrow'
      rw [hk] at e1
      cases e1
      by_cases hroom : n + m ≤ cap
      · have hkd : k ≠ d := fun e => by subst e; rw [hk] at hd; cases hd
        have hcs : (n + m) * sz ≤ cs.length := Nat.le_trans (Nat.mul_le_mul_right sz hroom) e4
        rw [Nat.add_mul] at hcs
        obtain ⟨w', f1, f2, f3, f4, f5, f6, f7⟩ := run_storeCells_nf P b (n * sz) T fr news 0 cs w e2 e3 (by omega) hn1
        obtain ⟨st, inv⟩ := step_over (n' := n + m) hi hk hd f3 f4 f5 f6 f7
        refine ⟨.slice (some ⟨b, 0, none⟩) (n + m) cap, w', _, ?_, st.weaken (fun j hj => hj.imp (fun h => by rw [h]) id), inv, by simp [Rd, setK_self], .inr ?_⟩
        · have hc := hnc w (fun _ _ => rfl)
          simp [Builtin.append_, run_underlying ht, sizeOf, typeInfo, hinfo, hsz, Builtin.lenOf, hroom, hc, Addr.add_lit, f1]
        · refine ⟨b, cap, _, T, fr, setK_self _ _ _, by simpa using f2, by rw [setV_length]; exact e3, by rw [setV_length]; exact e4, hroom, ?_⟩
          have hset := setV_get cs news (n * sz)
          rintro j x (⟨hj, hx⟩ | ⟨hj, hx⟩)
          · obtain ⟨_, q, q1, q2, q3, q4⟩ := e6 j x hx
            refine ⟨by omega, q, RdD.keep st.keeps _ _ q1, q2, q3, fun l hl => ?_⟩
            have : (j + 1) * sz ≤ n * sz := Nat.mul_le_mul_right sz (by omega)
            rw [Nat.add_mul, Nat.one_mul] at this
            rw [hset _ (by omega), if_neg (by omega), q4 l hl]
          · obtain ⟨h0, q, q1, q2, q3, q4⟩ := hng _ x hx
            refine ⟨by omega, q, RdD.keep st.keeps _ _ q1, q2, q3, fun l hl => ?_⟩
            have e1 : j * sz = n * sz + (j - n) * sz := by rw [← Nat.add_mul]; congr 1; omega
            have : (j - n + 1) * sz ≤ m * sz := Nat.mul_le_mul_right sz (by omega)
            rw [Nat.add_mul, Nat.one_mul] at this
            rw [hset _ (by omega), if_pos (by omega), ← q4 l hl]
            congr 1
            omega
      · rcases hsrc with ⟨rfl, hno, a', c', he⟩ | ⟨b2, o2, c2, olds, he, g1, g2, g3, g4⟩
        · obtain ⟨q1, q2, q3, q4⟩ := newrow [] cap (by simp) (fun j x _ hj => absurd hj (by omega))
          refine ⟨_, _, _, ?_, q1, q2, q3, .inr q4⟩
          have hc := hnc w.drew (fun _ _ => rfl)
          have h48 := hfits cap (by omega)
          have h63' : ¬ (9223372036854775807 < (m : Int)) := by omega
          have hroom' : ¬ (m ≤ cap) := by omega
          have hfo := run_firstCells_some (P := P) w.drew sz 0 ⟨b, 0, none⟩ 0 cap [] (by simp) (fun j v hj => by simp at hj)
          simp only [Nat.zero_add] at h48 ⊢
          simp [Builtin.append_, run_underlying ht, sizeOf, typeInfo, zeroValue, hinfo, hsz, hz, Builtin.lenOf, hroom', h63', h48, Question.forced, hfo, hc, newRow, grownCap]
        · cases he
          obtain ⟨q1, q2, q3, q4⟩ := newrow olds cap g1 (fun j x hx hj => (g4 j x hx).2)
          refine ⟨_, _, _, ?_, q1, q2, q3, .inr q4⟩
          have hc := hnc w.drew (fun _ _ => rfl)
          have h48 := hfits cap (by omega)
          have h63' : ¬ (9223372036854775807 < (n : Int) + (m : Int)) := by omega
          have hfo := run_firstCells_some (P := P) w.drew sz n ⟨b, 0, none⟩ n cap olds g1 (fun j v hj => by
            have := g3 j v hj
            rw [Addr.add_lit]; simpa using this)
          simp [Builtin.append_, run_underlying ht, sizeOf, typeInfo, zeroValue, hinfo, hsz, hz, Builtin.lenOf, hroom, h63', h48, Question.forced, hfo, hc, newRow, grownCap]
          congr 2
          apply Array.ext'
          simp [List.append_assoc]

end Go.Sy
