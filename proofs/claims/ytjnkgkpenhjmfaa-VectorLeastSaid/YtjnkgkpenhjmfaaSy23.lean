/-
  The symbolic layer, 23: arguments that are data are opened, type by type.
-/
import Derived.Test.YtjnkgkpenhjmfaaSy22
import Derived.Test.YtjnkgkpenhjmfaaSy21
namespace Go.Sy
open Go.ChangeShapes Go.WideShapes Go.ChangeAt Go.RowKit

section
variable {H : Type} (enc : TypeId × Value → H) (P : Program) (W : World)

/-- Whatever one cell reads as data of type t is some e x (with p x). -/
def Op1 (t : TypeId) {α : Type} (e : α → SV) (p : α → Prop) : Prop :=
  ∀ n c y, DataW.trod enc P W 0 (fun _ => true) true n t [c] = some y → ∃ x, p x ∧ Rd κ0 W (e x) c ∧ c.oneCell' = true

/-- .. sz cells. -/
def OpN (t : TypeId) {α : Type} (e : α → SV) (p : α → Prop) (sz : Nat) : Prop :=
  ∀ n cs y, DataW.trod enc P W 0 (fun _ => true) true n t cs = some y → ∃ x, p x ∧ cs.length = sz ∧ Ones cs ∧ RdL κ0 W (cellsOf (e x)) cs

variable {enc P W}

theorem op_int {t : TypeId} {k : IntKind} (ht : P.underlying t = some (.int k)) : Op1 enc P W t (fun z => .val (.int k z)) (fun z => (Lit.int k z).wf = true) := fun n c y h => by
  obtain ⟨z, e, _, hw⟩ := DataW.trod_int ht h
  have e : c = .int k z := by simpa using e
  subst e
  exact ⟨z, hw, by simp [Rd], rfl⟩
theorem op_bool {t : TypeId} (ht : P.underlying t = some .bool) : Op1 enc P W t boolSV (fun _ => True) := fun n c y h => by
  obtain ⟨z, e, _⟩ := DataW.trod_bool ht h
  have e : c = .bool z := by simpa using e
  subst e
  exact ⟨z, trivial, by simp [boolSV, Rd], rfl⟩
theorem op_str {t : TypeId} (ht : P.underlying t = some .string) : Op1 enc P W t strSV (fun s => s.size ≤ maxLen) := fun n c y h => by
  obtain ⟨z, e, _, hw⟩ := DataW.trod_string ht h
  have e : c = .string z := by simpa using e
  subst e
  exact ⟨z, hw, by simp [strSV, Rd], rfl⟩

theorem opN_int {t : TypeId} {k : IntKind} (ht : P.underlying t = some (.int k)) : OpN enc P W t (fun z => .val (.int k z)) (fun z => (Lit.int k z).wf = true) 1 := fun n cs y h => by
  obtain ⟨z, rfl, _, hw⟩ := DataW.trod_int ht h
  refine ⟨z, hw, rfl, fun c hc => by simp at hc; subst hc; rfl, ?_⟩
  simp [cellsOf, RdL, Rd]
theorem opN_bool {t : TypeId} (ht : P.underlying t = some .bool) : OpN enc P W t boolSV (fun _ => True) 1 := fun n cs y h => by
  obtain ⟨z, rfl, _⟩ := DataW.trod_bool ht h
  refine ⟨z, trivial, rfl, fun c hc => by simp at hc; subst hc; rfl, ?_⟩
  simp [boolSV, cellsOf, RdL, Rd]
theorem opN_str {t : TypeId} (ht : P.underlying t = some .string) : OpN enc P W t strSV (fun s => s.size ≤ maxLen) 1 := fun n cs y h => by
  obtain ⟨z, rfl, _, hw⟩ := DataW.trod_string ht h
  refine ⟨z, hw, rfl, fun c hc => by simp at hc; subst hc; rfl, ?_⟩
  simp [strSV, cellsOf, RdL, Rd]

theorem cells_get {base : Nat} {a : Addr} {n : Nat} {cs : List Value} (h : W.cells? base a n = some cs) : cs.length = n ∧ ∀ j (hj : j < n), W.cell? (a.add j) = cs[j]? := by
  unfold World.cells? at h
  split at h
  · refine ⟨by simpa using mapM_some_length h, fun j hj => ?_⟩
    exact mapM_some_get h j j (by simp [hj])
  · cases h

theorem op_slice {t et : TypeId} {α : Type} {e : α → SV} {p : α → Prop} {sz : Nat} (ht : P.underlying t = some (.slice et)) (hsz : P.cellsOf et = sz) (h0 : 0 < sz) (hb : ∀ x, (e x).boxed = true) (hd : ∀ x, (e x).data = true) (hO : OpN enc P W et e p sz) :
    Op1 enc P W t (fun l : List α => .sl sz e l) (fun l => (∀ x ∈ l, p x) ∧ l.length ≤ maxLen) := fun n c y h => by
  rcases DataW.trod_slice ht h with ⟨hcs, _⟩ | ⟨a, len, cap, elems, rest, m, rfl, hcs, _, _, hlc, hcm, hel, hget, _⟩
  · have hc : c = .slice none 0 0 := by simpa using hcs
    subst hc
    refine ⟨[], ⟨by simp, Nat.zero_le _⟩, ?_, rfl⟩
    simp only [Rd, RdD]
    exact .inl ⟨trivial, none, 0, rfl⟩
  · have hc : c = .slice (some a) len cap := by simpa using hcs
    subst hc
    rw [hsz] at hget
    have hall : ∀ i : Fin len, ∃ x, p x ∧ ∃ cs, W.cells? 0 (a.add (i * sz)) sz = some cs ∧ cs.length = sz ∧ Ones cs ∧ RdL κ0 W (cellsOf (e x)) cs := fun i => by
      have h1 := hget i.1 i.2
      rw [List.getElem?_eq_getElem (by omega)] at h1
      obtain ⟨cs, h2, h3⟩ := Option.bind_eq_some_iff.1 h1
      obtain ⟨x, h4, h5, h6, h7⟩ := hO _ _ _ h3
      exact ⟨x, h4, cs, h2, h5, h6, h7⟩
    let xs : Fin len → α := fun i => Classical.choose (hall i)
    have hxs : ∀ i, p (xs i) ∧ ∃ cs, W.cells? 0 (a.add (i.1 * sz)) sz = some cs ∧ cs.length = sz ∧ Ones cs ∧ RdL κ0 W (cellsOf (e (xs i))) cs := fun i => Classical.choose_spec (hall i)
    refine ⟨List.ofFn xs, ⟨fun x hx => ?_, by simp; omega⟩, ?_, rfl⟩
    · obtain ⟨i, rfl⟩ := List.mem_ofFn.1 hx
      exact (hxs i).1
    · simp only [Rd, RdD]
      by_cases hl : len = 0
      · subst hl
        exact .inl ⟨by simp, _, _, rfl⟩
      · have hcell : ∀ i : Fin len, ∀ j, j < sz → ∃ v, W.cell? ((a.add (i.1 * sz)).add j) = some v := fun i j hj => by
          obtain ⟨_, cs, h1, h2, _⟩ := hxs i
          have := (cells_get h1).2 j hj
          rw [List.getElem?_eq_getElem (by omega)] at this
          exact ⟨_, this⟩
        obtain ⟨b, off, spot⟩ := a
        have hspot : spot = none := by
          obtain ⟨v, hv⟩ := hcell ⟨0, by omega⟩ 0 h0
          simpa [Addr.add] using World.cell?_spot hv
        subst hspot
        have hadd : ∀ i j, ((⟨b, off, none⟩ : Addr).add i).add j = ⟨b, off + i + j, none⟩ := fun i j => by rw [Addr.add_lit, Addr.add_lit]
        refine .inr ⟨b, off, cap, by simp, by simpa using hlc, ?_, ?_, fun i hi => ?_⟩
        · rintro (⟨k, hk⟩ | hk)
          · cases hk
          · exact hk
        · obtain ⟨v, hv⟩ := hcell ⟨0, by omega⟩ 0 h0
          rw [hadd] at hv
          rcases Nat.lt_or_ge b W.heap.size with h | h
          · exact h
          · simp [World.cell?, Array.getElem?_eq_none h] at hv
        · simp only [List.length_ofFn] at hi
          obtain ⟨_, cs, h1, h2, h3, h4⟩ := hxs ⟨i, hi⟩
          obtain ⟨u, g1, g2⟩ := Rd.of_cells (hb _) h3 h4
          refine ⟨u, ?_, ?_, by rw [g2]; exact h3, fun j hj => ?_⟩
          · rw [List.getElem_ofFn]
            exact Rd.data _ _ (hd _) g1
          · have : u.cells.toList.length = sz := by rw [g2, h2]
            simpa using this
          · have := (cells_get h1).2 j hj
            rw [hadd] at this
            rw [this, ← g2]
            simp

end
end Go.Sy
