/-
  The symbolic layer, 6: composites, slices that are made, appended to, cut; strings; equality of structs.
-/
import Derived.Test.YtjnkgkpenhjmfaaSy5
namespace Go.Sy

theorem foldl_set (off : Nat) : ∀ (vs : List Value) (n : Nat) (cs : Array Value), off + n + vs.length ≤ cs.size →
    ((vs.zipIdx n).foldl (fun (cs : Array Value) (p : Value × Nat) => cs.setIfInBounds (off + p.2) p.1) cs).toList = setV cs.toList (off + n) vs
  | [], n, cs, _ => by cases h : cs.toList <;> simp [setV, h]
  | v :: vs, n, cs, h => by
    simp only [List.zipIdx_cons, List.foldl_cons]
    rw [foldl_set off vs (n + 1) _ (by simp at h ⊢; omega)]
    simp only [Array.toList_setIfInBounds]
    rw [setV_eq _ _ _ (by simp at h ⊢; omega), setV_eq _ _ _ (by simp at h ⊢; omega)]
    have := list_seg_step cs.toList (off + n) v vs (by simp at h ⊢; omega)
    simpa [Nat.add_assoc] using this

theorem fill_step (v : Value) (off : Nat) (cs : Array Value) (h : off + v.cells.size ≤ cs.size) :
    (v.cells.zipIdx.foldl (fun cs (c, j) => cs.setIfInBounds (off + j) c) cs).toList = setV cs.toList off v.cells.toList := by
  have := foldl_set off v.cells.toList 0 cs (by simpa using h)
  rw [Nat.add_zero] at this
  rw [← this, ← Array.foldl_toList, Array.toList_zipIdx]

/-- Parts put into cells, symbolically. -/
def fillS (places : List (Nat × Nat)) : List SV → List (Nat × SV) → Option (List SV)
  | cells, [] => some cells
  | cells, (i, v) :: r =>
    match places[i]? with
    | none => none
    | some (off, size) => bif Nat.beq (cellsOf v).length size && Nat.ble (off + size) cells.length && v.boxed then fillS places (setAt cells off (cellsOf v)) r else none

theorem length_setAt : ∀ (ys l : List SV) (n : Nat), (setAt l n ys).length = l.length
  | [], l, n => by cases l <;> simp [setAt]
  | y :: ys, [], n => by simp [setAt]
  | y :: ys, x :: l, 0 => by simp [setAt, length_setAt ys l 0]
  | y :: ys, x :: l, n + 1 => by simp [setAt, length_setAt (y :: ys) l n]

theorem fill_ok {κ : Ka} {w : World} {s : SS} {a : Act} {places : List (Nat × Nat)} : ∀ (ps : List (Nat × Operand)) (cells out : List SV) (cs : Array Value), RdL κ w cells cs.toList → Ones cs.toList → (∀ p ∈ ps, Rd κ w (ev s p.2) (a.eval p.2)) →
    fillS places cells (ps.map fun p => (p.1, ev s p.2)) = some out → ∃ r : Array Value, Instr.fill (fun i => places[i]?) cs (ps.map fun p => (p.1, a.eval p.2)) = some r ∧ RdL κ w out r.toList ∧ Ones r.toList
  | [], cells, out, cs, h, h1, _, hf => by
    simp only [List.map_nil, fillS, Option.some.injEq] at hf
    subst hf
    exact ⟨cs, by simp [Instr.fill], h, h1⟩
  | (i, x) :: ps, cells, out, cs, h, h1, hr, hf => by
    simp only [List.map_cons, fillS] at hf
    cases hp : places[i]? with
    | none => rw [hp] at hf; cases hf
    | some os =>
      obtain ⟨off, size⟩ := os
      rw [hp] at hf
      simp only [Bool.cond_eq_ite] at hf
      split at hf
      · rename_i hc
        simp only [Bool.and_eq_true] at hc
        obtain ⟨⟨c1, c2⟩, c3⟩ := hc
        have c1 := Nat.eq_of_beq_eq_true c1
        have c2 := Nat.le_of_ble_eq_true c2
        have hx := (hr (i, x) (by simp)).cells c3
        have hlen := hx.2.length
        have hl2 := h.length
        have hsz : (a.eval x).cells.size = size := by rw [← c1, ← hlen]; simp
        have hfit : off + (a.eval x).cells.size ≤ cs.size := by rw [hsz]; simp at hl2; omega
        have hstep := fill_step (a.eval x) off cs hfit
        obtain ⟨r, r1, r2, r3⟩ := fill_ok ps _ out _ (by rw [hstep]; exact h.setAt off hx.2) (by rw [hstep]; exact h1.setV off hx.1) (fun p hp => hr p (by simp [hp])) hf
        refine ⟨r, ?_, r2, r3⟩
        simp only [List.map_cons, Instr.fill, hp]
        rw [if_neg]
        · exact r1
        · simp only [Bool.or_eq_true, decide_eq_true_eq, not_or]
          exact ⟨by simpa using hsz, by omega⟩
      · cases hf

theorem run_places {P : Program} (w : World) : ∀ (fs : List Field) (r : List (Nat × Nat)), fieldsOK P fs r → (fs.mapM (fun f => do pure (f.offset, ← sizeOf f.type)) : Sem (List (Nat × Nat))).run P w = .ok r w
  | [], [], _ => by simp
  | [], _ :: _, h => by simp [fieldsOK] at h
  | _ :: _, [], h => by simp [fieldsOK] at h
  | f :: fs, (o, n) :: r, h => by
    simp only [fieldsOK] at h
    have ih := run_places w fs r h.2.2
    obtain ⟨ix, h4, h5⟩ : ∃ ix, P.info? f.type = some ix ∧ ix.size = n := by
      have h3 := h.2.1
      cases hh : P.info? f.type with
      | none => rw [hh] at h3; cases h3
      | some ix => rw [hh] at h3; exact ⟨ix, rfl, by simpa using h3⟩
    simp only [List.mapM_cons, Sem.run_bind, sizeOf, typeInfo, run_program, Result.andThen_ok, h4, Sem.run_pure, h5, h.1] at ih ⊢
    rw [ih]
    simp

theorem good_build {P : Program} (Γ : Ty P) {o : Oper} {s : SS} {t : TypeId} {ti : TI} {fs : List (Nat × Nat)} {ps : List (Nat × Operand)} {out : List SV} (h : o.op = .build t ps.toArray) (ht : Γ.get t = some ti) (hk : ti.k = .struct fs)
    (h1 : onesB ti.zero = true) (hf : fillS fs (ti.zero.map .val) (ps.map fun p => (p.1, ev s p.2)) = some out) : Good P o s ⟨.agg out, [], []⟩ :=
  Good.pure fun κ a w _ hr _ => by
    obtain ⟨d, info, z, k1, k2, k3, k4, k5, k6⟩ := Γ.ok t ti ht
    rw [hk] at k2
    simp only [TK.ok] at k2
    obtain ⟨fa, rfl, k2⟩ := k2
    have hops : ∀ p ∈ ps, Rd κ w (ev s p.2) (a.eval p.2) := fun p hp => hr p.2 (by
      simp only [h, Op.operands]
      simp only [List.mem_toArray, List.mem_map]
      exact ⟨p, hp, rfl⟩)
    obtain ⟨r, r1, r2, r3⟩ := fill_ok (κ := κ) (w := w) (a := a) ps _ out z.cells (by rw [k6]; exact Rd_vals _) (by rw [k6]; exact onesB_ok h1) hops hf
    have hpl : (fa.mapM (fun f => do pure (f.offset, ← sizeOf f.type)) : Sem (Array (Nat × Nat))).run P w = .ok fs.toArray w := by
      rw [Array.mapM_eq_mapM_toList]
      simp only [Sem.run_map, run_places w _ _ k2, Result.andThen_ok]
    refine ⟨.agg r, ?_, ?_⟩
    · have hfun : (fun (i : Nat) => fs.toArray[i]?) = (fun (i : Nat) => fs[i]?) := by funext i; simp
      simp only [execOp, h, Sem.run_bind, Instr.build, zeroValue, typeInfo, run_program, Result.andThen_ok, k3, k5, Sem.run_pure, run_underlying k1, hpl, hfun, List.map_toArray]
      rw [r1]
      simp
    · simp only [Rd]
      exact ⟨r.toList, by simp, r3, r2⟩

/-! ### A literal's row -/
def seqParts : Nat → List (Nat × Operand) → Option (List Operand)
  | _, [] => some []
  | k, (i, x) :: r => bif Nat.beq i k then (seqParts (k + 1) r).map (x :: ·) else none

theorem seqParts_ok : ∀ (ps : List (Nat × Operand)) (k : Nat) (xs : List Operand), seqParts k ps = some xs → ps = (xs.zipIdx k).map fun p => (p.2, p.1)
  | [], k, xs, h => by simp only [seqParts, Option.some.injEq] at h; subst h; rfl
  | (i, x) :: r, k, xs, h => by
    simp only [seqParts, Bool.cond_eq_ite] at h
    split at h
    · rename_i hb
      have := Nat.eq_of_beq_eq_true hb
      subst this
      cases hs : seqParts (i + 1) r with
      | none => rw [hs] at h; cases h
      | some ys =>
        rw [hs] at h
        simp only [Option.map_some, Option.some.injEq] at h
        subst h
        simp [List.zipIdx_cons, seqParts_ok r _ ys hs]
    · cases h

theorem fill_seq (sz : Nat) : ∀ (vs : List Value) (k : Nat) (cs : Array Value), cs.size = (k + vs.length) * sz → (∀ v ∈ vs, v.cells.size = sz) →
    ∃ r : Array Value, Instr.fill (fun i => some (i * sz, sz)) cs ((vs.zipIdx k).map fun p => (p.2, p.1)) = some r ∧ r.toList = cs.toList.take (k * sz) ++ vs.flatMap (·.cells.toList)
  | [], k, cs, h, _ => ⟨cs, by simp [Instr.fill], by
      simp only [List.flatMap_nil, List.append_nil]
      rw [List.take_of_length_le]
      simp [h]⟩
  | v :: vs, k, cs, h, hv => by
    have hsz := hv v (by simp)
    have e1 : (k + (v :: vs).length) * sz = k * sz + sz + vs.length * sz := by
      simp only [List.length_cons, Nat.add_mul, Nat.one_mul]; omega
    have hfit : k * sz + v.cells.size ≤ cs.size := by rw [h, e1, hsz]; omega
    have hstep := fill_step v (k * sz) cs hfit
    have hsize : (v.cells.zipIdx.foldl (fun cs (c, j) => cs.setIfInBounds (k * sz + j) c) cs).size = cs.size := by
      rw [← Array.length_toList, hstep, setV_length, Array.length_toList]
    obtain ⟨r, r1, r2⟩ := fill_seq sz vs (k + 1) (v.cells.zipIdx.foldl (fun cs (c, j) => cs.setIfInBounds (k * sz + j) c) cs) (by
      rw [hsize, h, e1]; simp only [Nat.add_mul, Nat.one_mul]) (fun u hu => hv u (by simp [hu]))
    refine ⟨r, ?_, ?_⟩
    · simp only [List.zipIdx_cons, List.map_cons, Instr.fill]
      rw [if_neg]
      · exact r1
      · simp only [Bool.or_eq_true, decide_eq_true_eq, not_or]
        exact ⟨by simpa using hsz, by omega⟩
    · rw [r2, hstep, setV_eq _ _ _ (by simpa using hfit)]
      have : (k + 1) * sz = (cs.toList.take (k * sz) ++ v.cells.toList).length := by
        rw [List.length_append, List.length_take, Array.length_toList, Array.length_toList, hsz, Nat.add_mul, Nat.one_mul]
        omega
      rw [this, List.take_append_of_le_length (by simp), List.take_of_length_le (Nat.le_refl _), List.flatMap_cons, List.append_assoc]

theorem flat_get {sz : Nat} : ∀ (vs : List Value) (i j : Nat), (∀ v ∈ vs, v.cells.size = sz) → j < sz → ∀ u, vs[i]? = some u → (vs.flatMap (·.cells.toList))[i * sz + j]? = u.cells[j]?
  | [], i, j, _, _, u, h => by simp at h
  | v :: vs, 0, j, hv, hj, u, h => by
    simp only [List.getElem?_cons_zero, Option.some.injEq] at h
    subst h
    have := hv v (by simp)
    rw [List.flatMap_cons, Nat.zero_mul, Nat.zero_add, List.getElem?_append_left (by simpa [this] using hj)]
    simp
  | v :: vs, i + 1, j, hv, hj, u, h => by
    have h0 := hv v (by simp)
    rw [List.flatMap_cons, List.getElem?_append_right (by simp only [Array.length_toList, h0, Nat.add_mul, Nat.one_mul]; omega)]
    have := flat_get vs i j (fun x hx => hv x (by simp [hx])) hj u (by simpa using h)
    rw [← this]
    congr 1
    simp only [Array.length_toList, h0, Nat.add_mul, Nat.one_mul]
    omega

def litOK (sz : Nat) : List SV → Bool
  | [] => true
  | x :: l => x.boxed && x.data && Nat.beq (cellsOf x).length sz && litOK sz l

theorem litOK_get {sz : Nat} : ∀ {l : List SV} {i : Nat} {x : SV}, litOK sz l = true → getI l i = some x → x.boxed = true ∧ x.data = true ∧ (cellsOf x).length = sz
  | [], i, x, _, h => by cases i <;> simp [getI] at h
  | y :: l, 0, x, h, h' => by
    simp only [litOK, Bool.and_eq_true] at h
    simp only [getI, Option.some.injEq] at h'
    subst h'
    exact ⟨h.1.1.1, h.1.1.2, Nat.eq_of_beq_eq_true h.1.2⟩
  | y :: l, i + 1, x, h, h' => by
    simp only [litOK, Bool.and_eq_true] at h
    exact litOK_get h.2 h'

theorem getI_lt {α : Type 1} : ∀ {l : List α} {i : Nat} {x : α}, getI l i = some x → i < l.length
  | [], i, x, h => by cases i <;> simp [getI] at h
  | _ :: l, 0, x, _ => by simp
  | _ :: l, i + 1, x, h => by have := getI_lt (l := l) (i := i) h; simp; omega

theorem getI_tot {α : Type 1} : ∀ {l : List α} {i : Nat}, i < l.length → ∃ x, getI l i = some x
  | [], i, h => by simp at h
  | x :: l, 0, _ => ⟨x, rfl⟩
  | _ :: l, i + 1, h => getI_tot (l := l) (by simpa using h)

theorem good_buildSlice {P : Program} (Γ : Ty P) {o : Oper} {s : SS} {t : TypeId} {ti : TI} {et : TypeId} {sz eb len : Nat} {ez : List Value} {ps : List (Nat × Operand)} {xs : List Operand} {d : Nat} (h : o.op = .buildSlice t len ps.toArray) (hd : s.h d = .fresh)
    (ht : Γ.get t = some ti) (hk : ti.k = .slice et sz eb ez) (hq : seqParts 0 ps = some xs) (hlen : xs.length = len) (hbig : len * sz ≤ 16777216) (hok : litOK sz (xs.map (ev s)) = true) :
    Good P o s ⟨.osl d, [], [(d, .lit sz (xs.map (ev s)))]⟩ :=
  good_new hd fun κ a w hi hr _ hn => by
    have hps := seqParts_ok ps 0 xs hq
    obtain ⟨hu, i, z, q1, q2, q3, q4, q5⟩ := slice_elem Γ ht hk
    have hops : ∀ x ∈ xs, Rd κ w (ev s x) (a.eval x) := fun x hx => hr x (by
      simp only [h, Op.operands, hps]
      simp only [List.mem_toArray, List.mem_map]
      obtain ⟨j, hj, rfl⟩ := List.mem_iff_getElem.1 hx
      exact ⟨(j, xs[j]), ⟨(xs[j], j), by rw [List.mk_mem_zipIdx_iff_getElem?]; simp [hj], rfl⟩, rfl⟩)
    have hrl : RdL κ w (xs.map (ev s)) (xs.map a.eval) := RdL_map xs hops
    have helem : ∀ j x, getI (xs.map (ev s)) j = some x → ∃ v, (xs.map a.eval)[j]? = some v ∧ Rd κ w x v ∧ v.cells.size = sz ∧ Ones v.cells.toList := fun j x hj => by
      obtain ⟨v, h1, h2⟩ := hrl.get hj
      obtain ⟨c1, c2, c3⟩ := litOK_get hok hj
      obtain ⟨e1, e2⟩ := h2.cells c1
      exact ⟨v, h1, h2, by rw [← c3, ← e2.length]; simp, e1⟩
    have hsizes : ∀ v ∈ xs.map a.eval, v.cells.size = sz := fun v hv => by
      obtain ⟨j, hj, rfl⟩ := List.mem_iff_getElem.1 hv
      obtain ⟨x, hx⟩ := getI_tot (l := xs.map (ev s)) (i := j) (by simpa using hj)
      obtain ⟨v', h1, _, h2, _⟩ := helem j x hx
      rw [List.getElem?_eq_getElem hj] at h1
      simp only [Option.some.injEq] at h1
      rw [h1]; exact h2
    generalize hz0 : (Array.range (len * sz)).map ((if len * sz = 0 then #[] else z.cells)[· % (if len * sz = 0 then #[] else z.cells).size]!) = z0
    have hz0s : z0.size = (0 + (xs.map a.eval).length) * sz := by rw [← hz0]; simp [hlen]
    obtain ⟨r, r1, r2⟩ := fill_seq sz (xs.map a.eval) 0 z0 hz0s hsizes
    have hfl : r.toList = (xs.map a.eval).flatMap (·.cells.toList) := by rw [r2]; simp
    refine ⟨.slice (some ⟨w.heap.size, 0, none⟩) len len, w.alloc (.cells r et), .row w.heap.size len len, ?_, Grew.alloc w _, ?_, ?_⟩
    · have hp : (ps.toArray.map fun (p : Nat × Operand) => (p.1, a.eval p.2)).toList = ((xs.map a.eval).zipIdx 0).map fun p => (p.2, p.1) := by
        rw [hps]
        simp only [List.map_toArray, List.map_map, List.zipIdx_map]
        rfl
      have hbig' : ¬ (16777216 < len * sz) := by omega
      simp only [execOp, h, Sem.run_bind, Instr.buildSlice, run_underlying hu, Result.andThen_ok, sizeOf, typeInfo, run_program, q1, Sem.run_pure, q2]
      rw [if_neg (by simpa using hbig')]
      by_cases h0 : len * sz = 0
      · rw [if_pos h0]
        simp only [if_pos h0] at hz0
        simp only [Sem.run_bind, Sem.run_pure, Result.andThen_ok, hz0, hp, r1, newRow, run_newObj]
        rfl
      · rw [if_neg h0]
        simp only [if_neg h0] at hz0
        simp only [Sem.run_bind, zeroValue, typeInfo, run_program, Result.andThen_ok, q1, Sem.run_pure, q4, hz0, hp, r1, newRow, run_newObj]
        rfl
    · intro b hb; simp only [Ent.block?, Option.some.injEq] at hb; subst hb; simp
    · intro st
      refine ⟨by simp [Rd, setK_self], w.heap.size, len, r.toList, et, (0, 0), by simp [setK_self, hlen], ?_, NoFr.zero _, ?_, by simp [hlen], ?_⟩
      · rw [heap_alloc_new]
      · have := r2
        have h9 : r.toList.length = len * sz := by
          rw [hfl]
          have : ∀ vs : List Value, (∀ v ∈ vs, v.cells.size = sz) → (vs.flatMap (·.cells.toList)).length = vs.length * sz := by
            intro vs
            induction vs with
            | nil => simp
            | cons v vs ih =>
              intro hv
              rw [List.flatMap_cons, List.length_append, ih (fun u hu => hv u (by simp [hu])), Array.length_toList, hv v (by simp), List.length_cons, Nat.add_mul, Nat.one_mul]
              omega
          rw [this _ hsizes]
          simp [hlen]
        omega
      · intro j x hx
        obtain ⟨v, h1, h2, h3, h4⟩ := helem j x hx
        have hj : j < xs.length := by have := getI_lt hx; simpa using this
        obtain ⟨c1, c2, c3⟩ := litOK_get hok hx
        refine ⟨by simpa using hj, v, RdD.keep st.keeps _ _ (Rd.data _ _ c2 h2), h3, h4, fun m hm => ?_⟩
        rw [hfl]
        exact flat_get _ j m hsizes hm v h1

/-! ### append -/
theorem rowF_tot {α : Type} {e : α → SV} {l : List α} (i : Nat) (h : i < l.length) : ∃ x, rowF e l i x := ⟨_, h, rfl⟩

/-- The slice that is appended to. -/
inductive AppBase (s : SS) (sz : Nat) : SV → Option Nat → Nat → (Nat → SV → Prop) → Prop
  | nil : AppBase s sz (.val (.slice none 0 0)) none 0 (fun _ _ => False)
  | row {k : Nat} {α : Type} {e : α → SV} {l : List α} (h : s.h k = .row sz e l) : AppBase s sz (.osl k) (some k) l.length (rowF e l)
  | lit {k : Nat} {l : List SV} (h : s.h k = .lit sz l) : AppBase s sz (.osl k) (some k) l.length (litF l)

/-- What is appended. -/
inductive AppSrc (s : SS) (sz : Nat) : SV → List Nat → Nat → (Nat → SV → Prop) → Prop
  | sl {α : Type} {e : α → SV} {l : List α} : AppSrc s sz (.sl sz e l) [] l.length (rowF e l)
  | row {k : Nat} {α : Type} {e : α → SV} {l : List α} (h : s.h k = .row sz e l) : AppSrc s sz (.osl k) [k] l.length (rowF e l)
  | lit {k : Nat} {l : List SV} (h : s.h k = .lit sz l) : AppSrc s sz (.osl k) [k] l.length (litF l)
  | nil : AppSrc s sz (.val (.slice none 0 0)) [] 0 (fun _ _ => False)

theorem AppBase.base {s : SS} {sz : Nat} {x : SV} {k : Option Nat} {n : Nat} {f : Nat → SV → Prop} (h : AppBase s sz x k n f) {κ : Ka} {w : World} {v : Value} (hr : Rd κ w x v) (ho : ∀ j, k = some j → ObOK κ w j (s.h j)) : Base κ w v n sz f k := by
  cases h with
  | nil => exact ⟨hr.val, rfl⟩
  | @row k α e l h =>
    have h1 := ho k rfl
    rw [h] at h1
    rcases h1 with ⟨h2, rfl⟩ | h2
    · simp only [Rd, h2] at hr
      exact .inl ⟨h2, rfl, hr⟩
    · obtain ⟨b, cap, h3, h4⟩ := h2.src rowF_tot
      simp only [Rd, h3] at hr
      exact .inr ⟨h2, rowF_tot, b, cap, h3, hr⟩
  | @lit k l h =>
    have h1 := ho k rfl
    rw [h] at h1
    have h2 : RowAt κ w k sz l.length (litF l) := h1
    obtain ⟨b, cap, h3, h4⟩ := h2.src (fun i hi => getI_tot hi)
    simp only [Rd, h3] at hr
    exact .inr ⟨h2, fun i hi => getI_tot hi, b, cap, h3, hr⟩

theorem AppSrc.src {s : SS} {sz : Nat} {x : SV} {ks : List Nat} {n : Nat} {f : Nat → SV → Prop} (h : AppSrc s sz x ks n f) {κ : Ka} {w : World} {v : Value} (hr : Rd κ w x v) (ho : ∀ j ∈ ks, ObOK κ w j (s.h j)) : Src κ w v n sz f := by
  cases h with
  | sl => exact hr.src
  | nil => exact .inl ⟨rfl, fun _ _ h => h, none, 0, hr.val⟩
  | @row k α e l h =>
    have h1 := ho k (by simp)
    rw [h] at h1
    rcases h1 with ⟨h2, rfl⟩ | h2
    · simp only [Rd, h2] at hr
      exact .inl ⟨rfl, fun i x hx => (by obtain ⟨h, _⟩ := hx; simp at h), none, 0, hr⟩
    · obtain ⟨b, cap, h3, h4⟩ := h2.src rowF_tot
      simp only [Rd, h3] at hr
      subst hr
      exact h4
  | @lit k l h =>
    have h1 := ho k (by simp)
    rw [h] at h1
    have h2 : RowAt κ w k sz l.length (litF l) := h1
    obtain ⟨b, cap, h3, h4⟩ := h2.src (fun i hi => getI_tot hi)
    simp only [Rd, h3] at hr
    subst hr
    exact h4

/-- Names that an append touches. -/
def appObjs (k : Option Nat) (d : Nat) (ob : Ob) : List (Nat × Ob) := match k with
  | some k => [(k, .non), (d, ob)]
  | none => [(d, ob)]

theorem good_append {P : Program} (Γ : Ty P) {o : Oper} {s : SS} {t : TypeId} {ti : TI} {et : TypeId} {sz eb n m : Nat} {ez : List Value} {x y : Operand} {d : Nat} {k : Option Nat} {ks : List Nat} {f g : Nat → SV → Prop} {ob : Ob}
    (h : o.op = .call ⟨.builtin .append, #[x, y], #[t, t]⟩) (hd : s.h d = .fresh) (ht : Γ.get t = some ti) (hk : ti.k = .slice et sz eb ez) (hez : ez.length = sz)
    (hb : AppBase s sz (ev s x) k n f) (hs : AppSrc s sz (ev s y) ks m g) (hkk : ∀ j, k = some j → j ≠ d) (hbytes : (n + m) * eb ≤ 140737488355328) (h63 : n + m ≤ 9223372036854775807)
    (hob : ∀ κ w, ((κ d = .nil ∧ n + m = 0) ∨ RowAt κ w d sz (n + m) (appF n f g)) → ObOK κ w d ob) : Good P o s ⟨.osl d, ks, appObjs k d ob⟩ := by
  intro κ a w hi hr ho N Q hN
  have h1 := hr x (by simp [h, Op.operands, Call.operands])
  have h2 := hr y (by simp [h, Op.operands, Call.operands])
  have hws : ∀ j, j ∈ (Up.mk (.osl d) ks (appObjs k d ob)).ws ↔ (k = some j ∨ j = d) := by
    intro j
    cases k <;> simp [Up.ws, appObjs, eq_comm]
  have hnew : κ d = .new := by have := ho d (.inr ((hws d).2 (.inr rfl))); rwa [hd] at this
  obtain ⟨hu, i, z, q1, q2, q3, q4, q5⟩ := slice_elem Γ ht hk
  have hzs : z.cells.size = sz := by rw [← hez, ← q5]; simp
  obtain ⟨v', w', κ', r1, r2, r3, r4, r5⟩ := append_core (P := P) (ty := o.type) hi hu q1 q4 q2 hzs hnew (hb.base h1 (fun j hj => ho j (.inr ((hws j).2 (.inl hj))))) (hs.src h2 (fun j hj => ho j (.inl hj))) h63 (by rw [q3]; exact hbytes)
  have hrun : (execOp a.eval o).run P w = .ok (.value v') w' := by
    simp [execOp, h, resolve, invoke, builtin, r1]
  simp only [Oper.wp, hrun, Oper.upon]
  refine hN v' κ' w' (r2.weaken (fun j hj => (hws j).2 hj)) r3 r4 (fun p hp => ?_)
  have hfin := hob κ' w' r5
  cases k with
  | none =>
    simp only [appObjs, List.mem_singleton] at hp
    subst hp
    exact hfin
  | some k =>
    simp only [appObjs, List.mem_cons, List.not_mem_nil, or_false] at hp
    rcases hp with rfl | rfl
    · trivial
    · exact hfin

/-- Behind an append: a typed row. -/
theorem appF_row {α : Type} {e : α → SV} {l : List α} {κ : Ka} {w : World} {d sz n m : Nat} {f g : Nat → SV → Prop} (h : (κ d = .nil ∧ n + m = 0) ∨ RowAt κ w d sz (n + m) (appF n f g)) (hl : l.length = n + m)
    (hf : ∀ i x, rowF e l i x → appF n f g i x) : ObOK κ w d (.row sz e l) := by
  rcases h with ⟨h1, h2⟩ | ⟨b, cap, cs, T, fr, e1, e2, e3, e4, e5, e6⟩
  · exact .inl ⟨h1, List.eq_nil_of_length_eq_zero (by omega)⟩
  · exact .inr ⟨b, cap, cs, T, fr, by rw [hl]; exact e1, e2, e3, e4, by omega, fun i x hx => by rw [hl]; exact e6 i x (hf i x hx)⟩

theorem rowF_app {α : Type} {e : α → SV} {l m : List α} {f g : Nat → SV → Prop} (h1 : ∀ i x, rowF e l i x → f i x) (h2 : ∀ i x, rowF e m i x → g i x) (i : Nat) (x : SV) (h : rowF e (l ++ m) i x) : appF l.length f g i x := by
  obtain ⟨hi, rfl⟩ := h
  by_cases hl : i < l.length
  · exact .inl ⟨hl, h1 i _ ⟨hl, by rw [List.getElem_append_left hl]⟩⟩
  · have hl' : l.length ≤ i := by omega
    exact .inr ⟨hl', h2 _ _ ⟨by simp at hi; omega, by rw [List.getElem_append_right hl']⟩⟩

theorem getI_map {α : Type} {e : α → SV} : ∀ {l : List α} {i : Nat} (h : i < l.length), getI (l.map e) i = some (e l[i])
  | [], i, h => by simp at h
  | x :: l, 0, _ => rfl
  | _ :: l, i + 1, h => getI_map (l := l) (i := i) (by simpa using h)

theorem rowF_lit {α : Type} {e : α → SV} {l : List α} {svs : List SV} (h : l.map e = svs) (i : Nat) (x : SV) (hx : rowF e l i x) : litF svs i x := by
  obtain ⟨hi, rfl⟩ := hx
  subst h
  exact getI_map hi

theorem rowF_map {α β : Type} {e : α → SV} {l : List α} {e' : β → SV} {l' : List β} (h : l.map e = l'.map e') (i : Nat) (x : SV) (hx : rowF e l i x) : rowF e' l' i x := by
  obtain ⟨hi, rfl⟩ := hx
  have hlen : l.length = l'.length := by have := congrArg List.length h; simpa using this
  have h1 := getI_map (e := e) hi
  have h2 := getI_map (e := e') (l := l') (i := i) (by omega)
  rw [h, h2] at h1
  exact ⟨by omega, by simpa using h1.symm⟩

/-! ### make -/
theorem good_makeSlice {P : Program} (Γ : Ty P) {o : Oper} {s : SS} {t : TypeId} {ti : TI} {et : TypeId} {sz eb : Nat} {ez : List Value} {x y : Operand} {d : Nat} {ik ik' : IntKind} {n : Nat} {α : Type} (e : α → SV) (z : α)
    (h : o.op = .makeSlice t x y) (hd : s.h d = .fresh) (ht : Γ.get t = some ti) (hk : ti.k = .slice et sz eb ez) (hez : ez.length = sz) (h1 : onesB ez = true) (hx : ev s x = .val (.int ik n)) (hy : ev s y = .val (.int ik' n))
    (hbytes : n * eb ≤ 281474976710656) (h63 : n ≤ 9223372036854775807) (hz : cellsOf (e z) = ez.map .val) (hzb : (e z).boxed = true) (hzd : (e z).data = true) :
    Good P o s ⟨.osl d, [], [(d, .row sz e (List.replicate n z))]⟩ :=
  good_new hd fun κ a w hi hr _ hn => by
    have r1 := hr x (by simp [h, Op.operands])
    have r2 := hr y (by simp [h, Op.operands])
    rw [hx] at r1
    rw [hy] at r2
    obtain ⟨hu, i, zv, q1, q2, q3, q4, q5⟩ := slice_elem Γ ht hk
    have hzs : zv.cells.size = sz := by rw [← hez, ← q5]; simp
    have hb' : (i.bytes : Int) * (n : Int) ≤ 281474976710656 := by
      have : ((i.bytes * n : Nat) : Int) ≤ 281474976710656 := by rw [q3, Nat.mul_comm]; omega
      rwa [Int.natCast_mul] at this
    have hm := run_make (P := P) w t et i zv hu q1 q4 ik ik' n n (by omega) (Int.le_refl _) hb' (by omega)
    simp only [Int.toNat_natCast] at hm
    refine ⟨.slice (some ⟨w.heap.size, 0, none⟩) n n, w.alloc (.cells (madeCells zv.cells (n * i.size)) et), .row w.heap.size n n, ?_, Grew.alloc w _, ?_, ?_⟩
    · simp [execOp, h, r1.val, r2.val, hm]
    · intro b hb; simp only [Ent.block?, Option.some.injEq] at hb; subst hb; simp
    · intro st
      refine ⟨by simp [Rd, setK_self], .inr ⟨w.heap.size, n, (madeCells zv.cells (n * i.size)).toList, et, (0, 0), by simp [setK_self], ?_, NoFr.zero _, ?_, by simp, ?_⟩⟩
      · rw [heap_alloc_new]
      · simp [size_madeCells, q2]
      · rintro j y ⟨hj, rfl⟩
        have hjn : j < n := by simpa using hj
        obtain ⟨u, u1, u2⟩ := Rd.of_cells (κ := setK κ d (.row w.heap.size n n)) (w := w.alloc (.cells (madeCells zv.cells (n * i.size)) et)) hzb (onesB_ok h1) (by rw [hz]; exact Rd_vals _)
        rw [List.getElem_replicate]
        have hus : u.cells.size = sz := by rw [← Array.length_toList, u2, hez]
        refine ⟨by simpa using hjn, u, Rd.data _ _ hzd u1, hus, by rw [u2]; exact onesB_ok h1, fun m hm => ?_⟩
        have hlt : j * sz + m < n * sz := by
          have : (j + 1) * sz ≤ n * sz := Nat.mul_le_mul_right sz (by omega)
          rw [Nat.add_mul, Nat.one_mul] at this
          omega
        have hmod : (j * sz + m) % zv.cells.size = m := by rw [hzs, Nat.add_comm, Nat.add_mul_mod_self_right]; exact Nat.mod_eq_of_lt hm
        rw [← Array.getElem?_toList, u2, ← q5]
        simp only [madeCells, q2, Array.toList_map, Array.toList_range, List.getElem?_map, List.getElem?_range hlt, Option.map_some, hmod]
        rw [Array.getElem?_toList, Array.getElem?_eq_getElem (by omega)]
        simp [hzs, hm]

/-! ### Cutting -/
/-- A piece of data. -/
theorem sl_piece {κ : Ka} {w : World} {sz : Nat} {α : Type} {e : α → SV} {l : List α} {lo hi : Nat} {ad : Option Addr} {cap : Nat} (h : Rd κ w (.sl sz e l) (.slice ad l.length cap)) (h1 : lo ≤ hi) (h2 : hi ≤ l.length) :
    Rd κ w (.sl sz e ((l.take hi).drop lo)) (.slice (if cap = lo then ad else ad.map (·.add (lo * sz))) (hi - lo) (cap - lo)) := by
  simp only [Rd, RdD] at h ⊢
  by_cases he : lo = hi
  · subst he
    exact .inl ⟨by rw [List.drop_eq_nil_iff]; simp; omega, if cap = lo then ad else ad.map (·.add (lo * sz)), cap - lo, by simp⟩
  · rcases h with ⟨rfl, _⟩ | ⟨b, off, cap', h3, h0, h4, h5, h6⟩
    · simp at h2; omega
    · cases h3
      have hml : cap ≠ lo := by omega
      refine .inr ⟨b, off + lo * sz, cap - lo, ?_, by simp; omega, h4, h5, fun i hi' => ?_⟩
      · rw [if_neg hml]
        simp only [Option.map_some, Addr.add_lit]
        congr 1
        simp; omega
      · have hlt : lo + i < l.length := by simp at hi'; omega
        obtain ⟨u, h7, h8⟩ := h6 (lo + i) hlt
        refine ⟨u, ?_, ?_⟩
        · rw [List.getElem_drop, List.getElem_take]; exact h7
        · rw [show off + lo * sz + i * sz = off + (lo + i) * sz from by rw [Nat.add_mul]; omega]; exact h8

theorem run_sliceBounds {P : Program} (w : World) {len cap lo hi : Nat} {lo' hi' : Option Value} (hlo : lo' = none ∧ lo = 0 ∨ ∃ k, lo' = some (.int k lo)) (hhi : hi' = none ∧ hi = len ∨ ∃ k, hi' = some (.int k hi)) (h1 : lo ≤ hi) (h2 : hi ≤ cap) :
    (Instr.sliceBounds true len cap lo' hi' none).run P w = .ok (lo, hi, cap) w := by
  rcases hlo with ⟨rfl, rfl⟩ | ⟨k, rfl⟩ <;> rcases hhi with ⟨rfl, rfl⟩ | ⟨k', rfl⟩ <;> simp [Instr.sliceBounds, Instr.sliceBound, asIntOf, h1, h2]

theorem evO {κ : Ka} {w : World} {s : SS} {a : Act} {x : Option Operand} {n : Nat} (hr : ∀ y, x = some y → Rd κ w (ev s y) (a.eval y)) (h : ∃ y k, x = some y ∧ ev s y = .val (.int k n)) : ∃ k, x.map a.eval = some (.int k n) := by
  obtain ⟨y, k, rfl, h⟩ := h
  have := hr y rfl
  rw [h] at this
  exact ⟨k, by simp [this.val]⟩

theorem cap_ge {κ : Ka} {w : World} {sz : Nat} {α : Type} {e : α → SV} {l : List α} {v : Value} (h : Rd κ w (.sl sz e l) v) : ∃ ad cap, v = .slice ad l.length cap ∧ l.length ≤ cap := by
  simp only [Rd, RdD] at h
  rcases h with ⟨rfl, ad, cap, h⟩ | ⟨b, off, cap, h, h0, _⟩
  · exact ⟨ad, cap, h, Nat.zero_le _⟩
  · exact ⟨_, cap, h, h0⟩

/-- A bound of a slice expression: not there, or a number. -/
def BoundIs (s : SS) (x : Option Operand) (dflt n : Nat) : Prop := (x = none ∧ n = dflt) ∨ ∃ y k, x = some y ∧ ev s y = .val (.int k n)

theorem BoundIs.val {κ : Ka} {w : World} {s : SS} {a : Act} {x : Option Operand} {dflt n : Nat} (h : BoundIs s x dflt n) (hr : ∀ y, x = some y → Rd κ w (ev s y) (a.eval y)) : (x.map a.eval = none ∧ n = dflt) ∨ ∃ k, x.map a.eval = some (.int k n) := by
  rcases h with ⟨rfl, h⟩ | ⟨y, k, rfl, h⟩
  · exact .inl ⟨rfl, h⟩
  · have := hr y rfl
    rw [h] at this
    exact .inr ⟨k, by simp [this.val]⟩

theorem good_slice_sl {P : Program} (Γ : Ty P) {o : Oper} {s : SS} {t : TypeId} {ti : TI} {et : TypeId} {sz eb lo hi : Nat} {ez : List Value} {x : Operand} {lx hx : Option Operand} {α : Type} {e : α → SV} {l : List α}
    (h : o.op = .slice t x lx hx none) (ht : Γ.get t = some ti) (hk : ti.k = .slice et sz eb ez) (hxe : ev s x = .sl sz e l) (hlo : BoundIs s lx 0 lo) (hhi : BoundIs s hx l.length hi) (h1 : lo ≤ hi) (h2 : hi ≤ l.length) :
    Good P o s ⟨.sl sz e ((l.take hi).drop lo), [], []⟩ :=
  Good.pure fun κ a w _ hr _ => by
    have r1 := hr x (by simp [h, Op.operands])
    rw [hxe] at r1
    obtain ⟨hu, i, zv, q1, q2, q3, q4, q5⟩ := slice_elem Γ ht hk
    obtain ⟨ad, cap, e1, e2⟩ := cap_ge r1
    have b1 := hlo.val (a := a) (fun y hy => hr y (by simp [h, Op.operands, hy]))
    have b2 := hhi.val (a := a) (fun y hy => hr y (by simp [h, Op.operands, hy]))
    rw [e1] at r1
    have hb := run_sliceBounds (P := P) w (len := l.length) (cap := cap) b1 b2 h1 (by omega)
    refine ⟨_, ?_, sl_piece r1 h1 h2⟩
    simp [execOp, h, e1, Instr.sliceAt, Instr.slice, run_underlying hu, hb, sizeOf, typeInfo, q1, q2]

theorem good_slice_string {P : Program} (Γ : Ty P) {o : Oper} {s : SS} {t : TypeId} {ti : TI} {lo hi : Nat} {x : Operand} {lx hx : Option Operand} {b : ByteArray}
    (h : o.op = .slice t x lx hx none) (ht : Γ.get t = some ti) (hk : ti.k = .string) (hxe : ev s x = .val (.string b)) (hlo : BoundIs s lx 0 lo) (hhi : BoundIs s hx b.size hi) (h1 : lo ≤ hi) (h2 : hi ≤ b.size) :
    Good P o s ⟨.val (.string (b.extract lo hi)), [], []⟩ :=
  Good.pure fun κ a w _ hr _ => by
    have r1 := hr x (by simp [h, Op.operands])
    rw [hxe] at r1
    obtain ⟨d, info, z, k1, k2, k3, k4, k5, k6⟩ := Γ.ok t ti ht
    rw [hk] at k2
    simp only [TK.ok] at k2
    subst k2
    have b1 := hlo.val (a := a) (fun y hy => hr y (by simp [h, Op.operands, hy]))
    have b2 := hhi.val (a := a) (fun y hy => hr y (by simp [h, Op.operands, hy]))
    have hb : (Instr.sliceBounds false b.size b.size (lx.map a.eval) (hx.map a.eval) none).run P w = .ok (lo, hi, b.size) w := by
      rcases b1 with ⟨c1, rfl⟩ | ⟨k, c1⟩ <;> rcases b2 with ⟨c2, rfl⟩ | ⟨k', c2⟩ <;> rw [c1, c2] <;> simp [Instr.sliceBounds, Instr.sliceBound, asIntOf, h1, h2]
    refine ⟨.string (b.extract lo hi), ?_, by simp only [Rd]⟩
    simp [execOp, h, r1.val, Instr.sliceAt, Instr.slice, run_underlying k1, hb]

/-- The head of an owned row goes over to a new name; the rest is given up. -/
theorem good_slice_osl {P : Program} (Γ : Ty P) {o : Oper} {s : SS} {t : TypeId} {ti : TI} {et : TypeId} {sz eb hi k d : Nat} {ez : List Value} {x : Operand} {lx hx : Option Operand} {α : Type} {e : α → SV} {l : List α}
    (h : o.op = .slice t x lx hx none) (hd : s.h d = .fresh) (ht : Γ.get t = some ti) (hk : ti.k = .slice et sz eb ez) (hxe : ev s x = .osl k) (hkd : k ≠ d) (hrow : s.h k = .row sz e l) (hlo : BoundIs s lx 0 0) (hhi : BoundIs s hx l.length hi) (h2 : hi ≤ l.length) :
    Good P o s ⟨.osl d, [], [(k, .non), (d, .row sz e (l.take hi))]⟩ := by
  intro κ a w hinv hr ho N Q hN
  have r1 := hr x (by simp [h, Op.operands])
  rw [hxe] at r1
  obtain ⟨hu, i, zv, q1, q2, q3, q4, q5⟩ := slice_elem Γ ht hk
  have hnew : κ d = .new := by have := ho d (.inr (by simp [Up.ws])); rwa [hd] at this
  have hob := ho k (.inr (by simp [Up.ws]))
  rw [hrow] at hob
  have b1 := hlo.val (a := a) (fun y hy => hr y (by simp [h, Op.operands, hy]))
  have b2 := hhi.val (a := a) (fun y hy => hr y (by simp [h, Op.operands, hy]))
  rcases hob with ⟨e1, rfl⟩ | ⟨b, cap, cs, T, fr, e1, e2, e3, e4, e5, e6⟩
  · simp only [Rd, e1] at r1
    have hhi0 : hi = 0 := by simpa using h2
    subst hhi0
    have hb := run_sliceBounds (P := P) w (len := 0) (cap := 0) (hi := 0) (hi' := hx.map a.eval) b1 b2 (Nat.le_refl _) (Nat.le_refl _)
    have hrun : (execOp a.eval o).run P w = .ok (.value (.slice none 0 0)) w := by
      simp [execOp, h, r1, Instr.sliceAt, Instr.slice, run_underlying hu, hb, sizeOf, typeInfo, q1, q2]
    have st := step_new (inv_kill hinv (some k)) (by show setK κ k .dead d = .new; rw [setK_ne _ _ (Ne.symm hkd)]; exact hnew) (e := .nil) (Grew.refl w) (fun b hb => by cases hb)
    simp only [Oper.wp, hrun, Oper.upon]
    refine hN _ _ w ((((step_kill (some k)).weaken (fun j hj => by simp only [Option.some.injEq] at hj; subst hj; simp [Up.ws])).trans (st.1.weaken (fun j hj => by subst hj; simp [Up.ws])))) st.2 (by simp [Rd, setK_self]) (fun p hp => ?_)
    simp only [List.mem_cons, List.not_mem_nil, or_false] at hp
    rcases hp with rfl | rfl
    · trivial
    · exact .inl ⟨setK_self _ _ _, by simp⟩
  · simp only [Rd, e1] at r1
    have hb := run_sliceBounds (P := P) w (len := l.length) (cap := cap) b1 b2 (Nat.zero_le _) (by omega)
    have hrun : (execOp a.eval o).run P w = .ok (.value (.slice (some ⟨b, 0, none⟩) hi cap)) w := by
      simp only [execOp, h, r1, Instr.sliceAt, Instr.slice, Sem.run_bind, run_underlying hu, Result.andThen_ok, Option.map_none, hb, sizeOf, typeInfo, run_program, q1, Sem.run_pure]
      by_cases hc : cap = 0 <;> simp [hc, Addr.add]
    obtain ⟨st, inv⟩ := step_over (n' := hi) (w' := w) hinv e1 hnew rfl rfl rfl rfl (fun _ _ => rfl)
    simp only [Oper.wp, hrun, Oper.upon]
    refine hN _ _ w (st.weaken (fun j hj => by rcases hj with rfl | rfl <;> simp [Up.ws])) inv (by simp [Rd, setK_self]) (fun p hp => ?_)
    simp only [List.mem_cons, List.not_mem_nil, or_false] at hp
    rcases hp with rfl | rfl
    · trivial
    · have hlen : (l.take hi).length = hi := by simp; omega
      refine .inr ⟨b, cap, cs, T, fr, by rw [hlen]; exact setK_self _ _ _, e2, e3, e4, by omega, fun i x hx => ?_⟩
      obtain ⟨hi', rfl⟩ := hx
      have hil : i < l.length := by simp at hi'; omega
      obtain ⟨h0, u, u1, u2⟩ := e6 i (e l[i]) ⟨hil, rfl⟩
      refine ⟨by simpa using hi', u, ?_, u2⟩
      rw [List.getElem_take]
      exact RdD.keep st.keeps _ _ u1

/-! ### Strings -/
theorem good_string {P : Program} {o : Oper} {s : SS} {op : BinOp} {t yt : TypeId} {x y : Operand} {m n : ByteArray} {u : Value} (h : o.op = .binOp op t x y yt) (hop : op ≠ .shl ∧ op ≠ .shr)
    (hx : ev s x = .val (.string m)) (hy : ev s y = .val (.string n)) (hr : ∀ w, (Op.stringOp op m n).run P w = .ok u w) : Good P o s ⟨.val u, [], []⟩ :=
  Good.pure fun κ a w _ hrd _ => by
    have h1 := hrd x (by simp [h, Op.operands])
    have h2 := hrd y (by simp [h, Op.operands])
    rw [hx] at h1
    rw [hy] at h2
    refine ⟨u, ?_, by simp [Rd]⟩
    have hb : binOp op t (.string m) (.string n) = Op.stringOp op m n := by cases op <;> simp [binOp] at hop ⊢
    simp [execOp, h, h1.val, h2.val, eqGuard_at_string, hb, hr]

end Go.Sy
