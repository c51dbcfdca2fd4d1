/-
  The symbolic layer, 3: stores, rows, append.
-/
import Derived.Test.YtjnkgkpenhjmfaaSy2
namespace Go.Sy

mutual
/-- No names in it. -/
def SV.data : SV → Bool
  | .top => true
  | .val _ => true
  | .agg l => dataL l
  | .tup l => dataL l
  | .sl _ _ _ => true
  | .ref _ _ _ => true
  | .ifc _ x => x.data
  | .clo _ f l => dataL f && dataL l
  | _ => false
def dataL : List SV → Bool
  | [] => true
  | x :: l => x.data && dataL l
end

mutual
theorem Rd.data {κ : Ka} {w : World} : ∀ (x : SV) (v : Value), x.data = true → Rd κ w x v → RdD (Own κ) w x v
  | .top, _, _, _ => by simp [RdD]
  | .val u, v, _, h => by simpa [RdD, Rd] using h
  | .agg l, v, hd, h => by
    simp only [RdD, Rd, SV.data] at h hd ⊢
    obtain ⟨cs, h1, h0, h2⟩ := h
    exact ⟨cs, h1, h0, RdL.data l cs hd h2⟩
  | .tup l, v, hd, h => by
    simp only [RdD, Rd, SV.data] at h hd ⊢
    obtain ⟨cs, h1, h2⟩ := h
    exact ⟨cs, h1, RdL.data l cs hd h2⟩
  | .sl sz e l, v, _, h => by simpa only [Rd] using h
  | .ref sz x off, v, _, h => by simpa only [Rd] using h
  | .ptr _ _, _, hd, _ => by simp [SV.data] at hd
  | .rpt _ _ _ _, _, hd, _ => by simp [SV.data] at hd
  | .osl _, _, hd, _ => by simp [SV.data] at hd
  | .ifc t x, v, hd, h => by
    simp only [RdD, Rd, SV.data] at h hd ⊢
    obtain ⟨u, h1, h2⟩ := h
    exact ⟨u, h1, Rd.data x u hd h2⟩
  | .clo fn first cap, v, hd, h => by
    simp only [RdD, Rd, SV.data, Bool.and_eq_true] at h hd ⊢
    obtain ⟨fs, cs, h1, h2, h3⟩ := h
    exact ⟨fs, cs, h1, RdL.data first fs hd.1 h2, RdL.data cap cs hd.2 h3⟩
theorem RdL.data {κ : Ka} {w : World} : ∀ (l : List SV) (vs : List Value), dataL l = true → RdL κ w l vs → RdDL (Own κ) w l vs
  | [], _, _, h => by simpa [RdDL, RdL] using h
  | x :: l, vs, hd, h => by
    simp only [RdDL, RdL, dataL, Bool.and_eq_true] at h hd ⊢
    obtain ⟨v, r, h1, h2, h3⟩ := h
    exact ⟨v, r, h1, Rd.data x v hd.1 h2, RdL.data l r hd.2 h3⟩
end

theorem Rd.of_cells {κ : Ka} {w : World} {x : SV} {cs : List Value} (hb : x.boxed = true) (h1 : Ones cs) (h : RdL κ w (cellsOf x) cs) : ∃ u : Value, Rd κ w x u ∧ u.cells.toList = cs := by
  have plain : RdL κ w [x] cs → ∃ u : Value, Rd κ w x u ∧ u.cells.toList = cs := fun h => by
    simp only [RdL] at h
    obtain ⟨v, r, rfl, h2, rfl⟩ := h
    exact ⟨v, h2, by rw [Value.cells_one (h1 v (by simp))]⟩
  cases x with
  | agg l => exact ⟨.agg cs.toArray, by simp only [Rd]; exact ⟨cs, rfl, h1, h⟩, by simp [Value.cells]⟩
  | _ => exact plain h

theorem setV_get (l vs : List Value) (n j : Nat) (h : n + vs.length ≤ l.length) : (setV l n vs)[j]? = if n ≤ j ∧ j < n + vs.length then vs[j - n]? else l[j]? := by
  rw [setV_eq vs l n h]
  by_cases h1 : j < n
  · rw [if_neg (by omega), List.append_assoc, List.getElem?_append_left (by simp; omega), List.getElem?_take, if_pos h1]
  · by_cases h2 : j < n + vs.length
    · rw [if_pos (by omega), List.getElem?_append_left (by simp; omega), List.getElem?_append_right (by simp; omega)]
      congr 1
      simp; omega
    · rw [if_neg (by omega), List.getElem?_append_right (by simp; omega), List.getElem?_drop]
      congr 1
      simp; omega

theorem good_store_ptr {P : Program} (Γ : Ty P) {o : Oper} {s : SS} {t : TypeId} {i : TI} {x y : Operand} {k off : Nat} {l : List SV} (h : o.op = .store t x y) (hx : ev s x = .ptr k off)
    (ht : Γ.get t = some i) (hk : s.h k = .box l) (hb : (ev s y).boxed = true) (hn : (cellsOf (ev s y)).length = i.size) (hl : off + i.size ≤ l.length) :
    Good P o s ⟨.val undef, [], [(k, .box (setAt l off (cellsOf (ev s y))))]⟩ := by
  intro κ a w hi hr ho N Q hN
  have h1 := hr x (by simp [h, Op.operands])
  have h2 := hr y (by simp [h, Op.operands])
  have h3 := ho k (.inr (by simp [Up.ws]))
  rw [hk] at h3
  obtain ⟨b, cs, T, fr, e1, e2, e3, e4, e5⟩ := h3
  rw [hx] at h1
  simp only [Rd, e1] at h1
  obtain ⟨h4, h5⟩ := h2.cells hb
  obtain ⟨d, info, z, k1, k2, k3, k4, k5, k6⟩ := Γ.ok t i ht
  have hsz : (a.eval y).cells.size = i.size := by rw [← hn, ← h5.length]; simp
  obtain ⟨w', f1, f2, f3, f4, f5, f6, f7⟩ := run_storeVar (P := P) (t := t) k3 (v := a.eval y) (o := off) e2 e3 (by rw [hsz, k4]) (by rw [hsz, e5.length]; exact hl) h4
  obtain ⟨st, inv⟩ := step_write hi (k := k) (b := b) (by rw [e1]; rfl) f3 f4 f5 f6 f7
  have hrun : (execOp a.eval o).run P w = .ok .skip w' := by simp [execOp, h, h1, Instr.storeAt, Instr.sureAddr, f1]
  simp only [Oper.wp, hrun, Oper.upon]
  refine hN undef κ w' (st.weaken (by simp [Up.ws])) inv (by simp [Rd]) (fun p hp => ?_)
  simp only [List.mem_singleton] at hp
  subst hp
  refine ⟨b, _, T, fr, e1, f2, by rw [setV_length]; exact e3, e4.setV _ h4, (RdL.step st _ _ e5).setAt _ (RdL.step st _ _ h5)⟩

theorem RowAt.write {κ : Ka} {w : World} {k sz n : Nat} {f : Nat → SV → Prop} (h : RowAt κ w k sz n f) (hi : Inv κ w) {i off : Nat} {x z : SV} {vs : List Value} (hx : f i x) (hxb : x.boxed = true)
    {ys : List SV} (hys : RdL κ w ys vs) (h1 : Ones vs) (hoff : off + ys.length ≤ sz) (hz : cellsOf z = setAt (cellsOf x) off ys) (hzb : z.boxed = true) (hzd : z.data = true) {P : Program} {t : TypeId} {info : TypeInfo} (ht : P.info? t = some info) (hinfo : info.size = vs.length)
    {v : Value} (hv : v.cells.toList = vs) :
    ∃ b cap w', κ k = .row b n cap ∧ (storeVar t ⟨b, i * sz + off, none⟩ v).run P w = .ok () w' ∧ Step (· = k) κ w κ w' ∧ Inv κ w' ∧
      RowAt κ w' k sz n (fun j y => (j ≠ i ∧ f j y) ∨ (j = i ∧ y = z)) := by
  obtain ⟨b, cap, cs, T, fr, e1, e2, e3, e4, e5, e6⟩ := h
  obtain ⟨h0, u, g1, g2, g3, g4⟩ := e6 i x hx
  have hlen := hys.length
  have hin : i * sz + sz ≤ cap * sz := by
    have : (i + 1) * sz ≤ cap * sz := Nat.mul_le_mul_right sz (by omega)
    rw [Nat.add_mul, Nat.one_mul] at this
    exact this
  have hvs : v.cells.size = vs.length := by rw [← hv]; simp
  obtain ⟨w', f1, f2, f3, f4, f5, f6, f7⟩ := run_storeVar (P := P) (t := t) ht (v := v) (o := i * sz + off) e2 e3 (by rw [hvs, hinfo]) (by rw [hvs]; omega) (by rw [hv]; exact h1)
  rw [hv] at f2
  obtain ⟨st, inv⟩ := step_write hi (k := k) (b := b) (by rw [e1]; rfl) f3 f4 f5 f6 f7
  refine ⟨b, cap, w', e1, f1, st, inv, b, cap, _, T, fr, e1, f2, by rw [setV_length]; exact e3, by rw [setV_length]; exact e4, e5, ?_⟩
  have hset := setV_get cs vs (i * sz + off)
  rintro j y (⟨hj, hy⟩ | ⟨rfl, rfl⟩)
  · obtain ⟨q0, q, q1, q2, q3, q4⟩ := e6 j y hy
    refine ⟨q0, q, RdD.keep st.keeps _ _ q1, q2, q3, fun m hm => ?_⟩
    rw [hset _ (by omega), if_neg, q4 m hm]
    rintro ⟨a1, a2⟩
    rcases Nat.lt_or_gt_of_ne hj with hlt | hgt
    · have : (j + 1) * sz ≤ i * sz := Nat.mul_le_mul_right sz (by omega)
      rw [Nat.add_mul, Nat.one_mul] at this
      omega
    · have : (i + 1) * sz ≤ j * sz := Nat.mul_le_mul_right sz (by omega)
      rw [Nat.add_mul, Nat.one_mul] at this
      omega
  · obtain ⟨c1, c2⟩ := g1.toRd.cells hxb
    have c3 : RdL κ w (cellsOf y) (setV u.cells.toList off vs) := by rw [hz]; exact c2.setAt _ hys
    have c4 := c1.setV (vs := vs) off h1
    obtain ⟨u', d1, d2⟩ := Rd.of_cells hzb c4 c3
    have d3 : u'.cells.size = sz := by
      have : u'.cells.toList.length = (setV u.cells.toList off vs).length := by rw [d2]
      rw [setV_length] at this
      simpa [g2] using this
    refine ⟨h0, u', RdD.keep st.keeps _ _ (Rd.data _ _ hzd d1), d3, by rw [d2]; exact c4, fun m hm => ?_⟩
    rw [hset _ (by omega), ← Array.getElem?_toList, d2, setV_get _ _ _ _ (by simp [g2]; omega)]
    by_cases hm2 : off ≤ m ∧ m < off + vs.length
    · rw [if_pos (by omega), if_pos hm2]
      congr 1
      omega
    · rw [if_neg (by omega), if_neg hm2, g4 m hm]
      simp

theorem good_store_row {P : Program} (Γ : Ty P) {o : Oper} {s : SS} {t : TypeId} {ti : TI} {x y : Operand} {k sz i off : Nat} {α : Type} {e : α → SV} {l : List α} (h : o.op = .store t x y) (hx : ev s x = .rpt k sz i off)
    (ht : Γ.get t = some ti) (hk : s.h k = .row sz e l) (hb : (ev s y).boxed = true) (hn : (cellsOf (ev s y)).length = ti.size) (hoff : off + ti.size ≤ sz)
    (hi : i < l.length) {z : α} (hz : cellsOf (e z) = setAt (cellsOf (e l[i])) off (cellsOf (ev s y))) (hxb : (e l[i]).boxed = true) (hzb : (e z).boxed = true) (hzd : (e z).data = true) :
    Good P o s ⟨.val undef, [], [(k, .row sz e (l.set i z))]⟩ := by
  intro κ a w hinv hr ho N Q hN
  have h1 := hr x (by simp [h, Op.operands])
  have h2 := hr y (by simp [h, Op.operands])
  have h3 := ho k (.inr (by simp [Up.ws]))
  rw [hk] at h3
  have hne : l ≠ [] := by intro he; subst he; simp at hi
  have h4 := h3.rowAt hne
  obtain ⟨c1, c2⟩ := h2.cells hb
  obtain ⟨d, info, zz, k1, k2, k3, k4, k5, k6⟩ := Γ.ok t ti ht
  obtain ⟨b, cap, w', f1, f2, f3, f4, f5⟩ := h4.write hinv (i := i) (off := off) (z := e z) ⟨hi, rfl⟩ hxb c2 c1 (by rw [hn]; exact hoff) hz hzb hzd (P := P) (t := t) k3 (by rw [k4, ← hn, ← c2.length]) rfl
  rw [hx] at h1
  simp only [Rd, f1] at h1
  have hrun : (execOp a.eval o).run P w = .ok .skip w' := by simp [execOp, h, h1, Instr.storeAt, Instr.sureAddr, f2]
  simp only [Oper.wp, hrun, Oper.upon]
  refine hN undef κ w' (f3.weaken (by simp [Up.ws])) f4 (by simp [Rd]) (fun p hp => ?_)
  simp only [List.mem_singleton] at hp
  subst hp
  refine .inr ?_
  obtain ⟨b, cap, cs, T, fr, q1, q2, q3, q4, q5, q6⟩ := f5
  refine ⟨b, cap, cs, T, fr, by simpa using q1, q2, q3, q4, by simpa using q5, fun j v hv => ?_⟩
  obtain ⟨hj, rfl⟩ := hv
  have hj' : j < l.length := by simpa using hj
  have := q6 j (e (l.set i z)[j]) (by
    by_cases hji : j = i
    · subst hji; right; simp
    · left; refine ⟨hji, hj', ?_⟩; rw [List.getElem_set_ne (by omega)])
  simpa using this

end Go.Sy
