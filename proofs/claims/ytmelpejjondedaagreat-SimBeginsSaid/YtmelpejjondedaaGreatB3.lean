/-
  The symbolic layer, 14: what is reckoned is so. The symbolic layer, 15: code reckoned. The symbolic layer, 16: types and functions of a program, reckoned. The symbolic layer, 17: contracts' beginnings, and calls, in short. The symbolic layer, 18: copy of rows of one cell each. The symbolic layer, 19: rows with their elements' form, in short. The symbolic layer, 22: a box that nobody writes any more becomes data.
-/
import Derived.Test.YtmelpejjondedaaGreatB2
import Derived.KernelRfl

namespace Go.Sy
theorem intOp_ok {P : Program} {o : Oper} {s : SS} {op : BinOp} {t yt : TypeId} {x y : Operand} {k : IntKind} {m n : Int} {K : Up → Prop} {stop : Prop} (h : o.op = .binOp op t x y yt)
    (hx : ev s x = .val (.int k m)) (hy : ev s y = .val (.int k n)) (hw : intOp op k m n (fun v => K ⟨v, [], []⟩) stop) : (∃ U, Good P o s U ∧ K U) ∨ stop := by
  have mk : ∀ u : Value, (∀ w, (binOp op t (.int k m) (.int k n)).run P w = .ok u w) → K ⟨.val u, [], []⟩ → (∃ U, Good P o s U ∧ K U) ∨ stop := fun u hu hk => .inl ⟨_, good_int h hx hy hu, hk⟩
  unfold intOp at hw
  split at hw
  · split at hw
    · exact mk _ (fun w => by simp [binOp_add, Op.intArith, hw.1.wrap]) hw.2
    · exact mk _ (fun w => by simp [binOp_add, Op.intArith]) hw
  · split at hw
    · exact mk _ (fun w => by simp [binOp_sub, Op.intArith, hw.1.wrap]) hw.2
    · exact mk _ (fun w => by simp [binOp_sub, Op.intArith]) hw
  · split at hw
    · exact mk _ (fun w => by simp [binOp_mul, Op.intArith, hw.1.wrap]) hw.2
    · exact mk _ (fun w => by simp [binOp_mul, Op.intArith]) hw
  · exact mk _ (fun w => by simp [binOp_quo, Op.intDiv, hw.1]) hw.2
  · exact mk _ (fun w => by simp [binOp_rem, Op.intDiv, hw.1]) hw.2
  · exact mk _ (fun w => by simp [binOp_and, intBits_and]) hw
  · exact mk _ (fun w => by simp [binOp_or, intBits_or]) hw
  · exact mk _ (fun w => by simp [binOp_xor, intBits_xor]) hw
  · exact mk _ (fun w => by simp [binOp_andNot, intBits_andNot]) hw
  · exact mk _ (fun w => by simp [binOp_lss]) hw
  · exact mk _ (fun w => by simp [binOp_leq]) hw
  · exact mk _ (fun w => by simp [binOp_gtr]) hw
  · exact mk _ (fun w => by simp [binOp_geq]) hw
  · exact mk _ (fun w => by simp [binOp_eql]) hw
  · exact mk _ (fun w => by simp [binOp_neq]) hw
  · exact .inr hw
theorem good_shift {P : Program} {o : Oper} {s : SS} {op : BinOp} {t yt : TypeId} {x y : Operand} {k k' : IntKind} {m n : Int} {u : Value} (h : o.op = .binOp op t x y yt)
    (hx : ev s x = .val (.int k m)) (hy : ev s y = .val (.int k' n)) (hr : ∀ w, (binOp op t (.int k m) (.int k' n)).run P w = .ok u w) : Good P o s ⟨.val u, [], []⟩ :=
  Good.pure fun κ a w _ hrd _ => by
    have h1 := hrd x (by simp [h, Op.operands])
    have h2 := hrd y (by simp [h, Op.operands])
    rw [hx] at h1
    rw [hy] at h2
    refine ⟨u, ?_, by simp [Rd]⟩
    simp [execOp, h, h1.val, h2.val, eqGuard_at_int, hr]
theorem shiftOp_ok {P : Program} {o : Oper} {s : SS} {op : BinOp} {t yt : TypeId} {x y : Operand} {k k' : IntKind} {m n : Int} {K : Up → Prop} {stop : Prop} (h : o.op = .binOp op t x y yt)
    (hx : ev s x = .val (.int k m)) (hy : ev s y = .val (.int k' n)) (hw : shiftOp op k m n (fun v => K ⟨v, [], []⟩) stop) : (∃ U, Good P o s U ∧ K U) ∨ stop := by
  unfold shiftOp at hw
  split at hw
  · have hn : ¬ n < 0 := by omega
    exact .inl ⟨_, good_shift (u := .int k (k.wrap (m * 2 ^ (min n.toNat k.bits)))) h hx hy (fun w => by simp [binOp_shl, Op.shift, hn]), hw.2⟩
  · have hn : ¬ n < 0 := by omega
    exact .inl ⟨_, good_shift (u := .int k (m.fdiv (2 ^ (min n.toNat k.bits)))) h hx hy (fun w => by simp [binOp_shr, Op.shift, hn]), hw.2⟩
  · exact .inr hw
theorem strOp_ok {P : Program} {o : Oper} {s : SS} {op : BinOp} {t yt : TypeId} {x y : Operand} {m n : ByteArray} {K : Up → Prop} {stop : Prop} (h : o.op = .binOp op t x y yt)
    (hx : ev s x = .val (.string m)) (hy : ev s y = .val (.string n)) (hw : strOp op m n (fun v => K ⟨v, [], []⟩) stop) : (∃ U, Good P o s U ∧ K U) ∨ stop := by
  unfold strOp at hw
  split at hw
  · have hn : ¬ (9223372036854775807 < ((m.size + n.size : Nat) : Int)) := by omega
    refine .inl ⟨_, good_string (u := .string (m ++ n)) h (by simp) hx hy (fun w => ?_), hw.2⟩
    simp only [Op.stringOp, IntKind.max_i64]
    rw [if_neg hn]
    rfl
  · exact .inl ⟨_, good_string (u := .bool (m == n)) h (by simp) hx hy (fun w => by simp [Op.stringOp, beq_toListBytes]), hw⟩
  · exact .inl ⟨_, good_string (u := .bool (!(m == n))) h (by simp) hx hy (fun w => by simp [Op.stringOp, beq_toListBytes]), hw⟩
  · exact .inl ⟨_, good_string (u := .bool (Op.bytesLess m.toList n.toList)) h (by simp) hx hy (fun w => by simp [Op.stringOp]), hw⟩
  · exact .inr hw
theorem arr_elem {P : Program} (Γ : Ty P) {t : TypeId} {ti : TI} {e : TypeId} {len esz : Nat} (ht : Γ.get t = some ti) (hk : ti.k = .array e len esz) :
    P.underlying t = some (.array len e) ∧ ∃ i, P.info? e = some i ∧ i.size = esz := by
  obtain ⟨d, info, z, k1, k2, k3, k4, k5, k6⟩ := Γ.ok t ti ht
  rw [hk] at k2
  simp only [TK.ok] at k2
  obtain ⟨rfl, k2⟩ := k2
  exact ⟨k1, k2⟩
theorem run_indexArr {P : Program} {t et : TypeId} {len esz : Nat} {i : TypeInfo} {ik : IntKind} {n : Int} {b o : Nat} (w : World) (hu : P.underlying t = some (.array len et)) (hq : P.info? et = some i) (hi : i.size = esz) (h0 : 0 ≤ n) (hn : n.toNat < len) :
    (Instr.indexAt t (.pointer (some ⟨b, o, none⟩)) (.int ik n)).run P w = .ok (.pointer (some ⟨b, o + n.toNat * esz, none⟩)) w := by
  have hlt : n < len := by omega
  simp [Instr.indexAt, asIntOf, run_underlying hu, Instr.sureAddr, h0, hlt, sizeOf, typeInfo, hq, hi, Addr.add_lit]
theorem good_indexAddr_arrp {P : Program} (Γ : Ty P) {o : Oper} {s : SS} {t : TypeId} {ti : TI} {et : TypeId} {len esz k off : Nat} {x y : Operand} {ik : IntKind} {n : Int} {l : List SV}
    (h : o.op = .indexAddr t x y) (ht : Γ.get t = some ti) (hk : ti.k = .array et len esz) (hx : ev s x = .ptr k off) (hb : s.h k = .box l) (hy : ev s y = .val (.int ik n)) (h0 : 0 ≤ n) (hn : n.toNat < len) :
    Good P o s ⟨.ptr k (off + n.toNat * esz), [k], []⟩ :=
  Good.pure fun κ a w _ hr ho => by
    have h1 := hr x (by simp [h, Op.operands])
    have h2 := hr y (by simp [h, Op.operands])
    have h3 := ho k (by simp)
    rw [hb] at h3
    obtain ⟨b, cs, T, fr, e1, _⟩ := h3
    rw [hx] at h1
    rw [hy] at h2
    simp only [Rd, e1] at h1
    obtain ⟨hu, i, q1, q2⟩ := arr_elem Γ ht hk
    refine ⟨.pointer (some ⟨b, off + n.toNat * esz, none⟩), ?_, by simp only [Rd, e1]⟩
    simp only [execOp, h, h1, h2.val]
    simp [run_indexArr w hu q1 q2 h0 hn]
theorem good_indexAddr_arrr {P : Program} (Γ : Ty P) {o : Oper} {s : SS} {t : TypeId} {ti : TI} {et : TypeId} {len esz sz off : Nat} {x y : Operand} {ik : IntKind} {n : Int} {z : SV}
    (h : o.op = .indexAddr t x y) (ht : Γ.get t = some ti) (hk : ti.k = .array et len esz) (hx : ev s x = .ref sz z off) (hy : ev s y = .val (.int ik n)) (h0 : 0 ≤ n) (hn : n.toNat < len) :
    Good P o s ⟨.ref sz z (off + n.toNat * esz), [], []⟩ :=
  Good.pure fun κ a w _ hr _ => by
    have h1 := hr x (by simp [h, Op.operands])
    have h2 := hr y (by simp [h, Op.operands])
    rw [hx] at h1
    rw [hy] at h2
    simp only [Rd, RdD] at h1
    obtain ⟨b, oo, u, e1, e2, e3, e4, e5⟩ := h1
    obtain ⟨hu, i, q1, q2⟩ := arr_elem Γ ht hk
    refine ⟨.pointer (some ⟨b, oo + off + n.toNat * esz, none⟩), ?_, ?_⟩
    · simp only [execOp, h, e1, h2.val]
      simp [run_indexArr w hu q1 q2 h0 hn]
    · simp only [Rd, RdD]
      exact ⟨b, oo, u, by rw [Nat.add_assoc], e2, e3, e4, e5⟩
theorem good_index_string {P : Program} (Γ : Ty P) {o : Oper} {s : SS} {t : TypeId} {ti : TI} {x y : Operand} {ik : IntKind} {n : Int} {b : ByteArray}
    (h : o.op = .index t x y) (ht : Γ.get t = some ti) (hk : ti.k = .string) (hx : ev s x = .val (.string b)) (hy : ev s y = .val (.int ik n)) (h0 : 0 ≤ n) (hn : n.toNat < b.size) :
    Good P o s ⟨.val (.int .u8 (bget b n.toNat).toNat), [], []⟩ :=
  Good.pure fun κ a w _ hr _ => by
    have h1 := hr x (by simp [h, Op.operands])
    have h2 := hr y (by simp [h, Op.operands])
    rw [hx] at h1
    rw [hy] at h2
    obtain ⟨d, info, z, k1, k2, k3, k4, k5, k6⟩ := Γ.ok t ti ht
    rw [hk] at k2
    simp only [TK.ok] at k2
    subst k2
    have hg : b[n.toNat]? = some (bget b n.toNat) := by
      have hn' : n.toNat < b.data.toList.length := hn
      rw [getElem?_pos b n.toNat hn]
      simp only [bget, List.getD_eq_getElem?_getD, List.getElem?_eq_getElem hn', Option.getD_some, Option.some.injEq]
      rfl
    refine ⟨.int .u8 (bget b n.toNat).toNat, ?_, by simp only [Rd]⟩
    simp [execOp, h, h1.val, h2.val, Instr.index, run_underlying k1, asIntOf, h0, hg]
def BndAt (s : SS) (x : Option Operand) (d n : Int) : Prop := (x = none ∧ n = d) ∨ ∃ y k, x = some y ∧ ev s y = .val (.int k n)
theorem bnd_ok {s : SS} {x : Option Operand} {d : Int} {K : Int → Prop} {stop : Prop} (h : bnd s x d K stop) : (∃ n, BndAt s x d n ∧ K n) ∨ stop := by
  unfold bnd at h
  split at h
  · exact .inl ⟨d, .inl ⟨rfl, rfl⟩, h⟩
  · split at h
    · rename_i y _ k n hy
      exact .inl ⟨n, .inr ⟨y, k, rfl, hy⟩, h⟩
    · exact .inr h
theorem BndAt.is {s : SS} {x : Option Operand} {d n : Int} {m : Nat} (h : BndAt s x d n) (h0 : 0 ≤ n) (hd : d.toNat = m) : BoundIs s x m n.toNat := by
  rcases h with ⟨rfl, rfl⟩ | ⟨y, k, rfl, hy⟩
  · exact .inl ⟨rfl, hd⟩
  · exact .inr ⟨y, k, rfl, by rw [hy, Int.toNat_of_nonneg h0]⟩
theorem opW_ok {P : Program} {Γ : TyE P} {o : Oper} {s : SS} {K : Up → Prop} {stop : Prop} (h : opW Γ o s K stop) : (∃ U, Good P o s U ∧ K U) ∨ stop := by
  cases hop : o.op with
  | move x =>
    simp only [opW, hop, fv_iff] at h
    exact .inl ⟨_, good_move (.inl hop), h⟩
  | assign x =>
    simp only [opW, hop, fv_iff] at h
    exact .inl ⟨_, good_move (.inr hop), h⟩
  | pick c a b =>
    simp only [opW, hop, fv_iff] at h
    split at h
    · rename_i cc hc
      cases cc
      · exact .inl ⟨_, good_pick hop hc, h⟩
      · exact .inl ⟨_, good_pick hop hc, h⟩
    · exact .inr h
  | alloc t =>
    simp only [opW, hop, fl_iff] at h
    split at h
    · rename_i d hd
      split at h
      · rename_i hf
        split at h
        · rename_i i hi
          split at h
          · rename_i h1
            exact .inl ⟨_, good_alloc Γ.toTy hop hf hi h1, h⟩
          · exact .inr h
        · exact .inr h
      · exact .inr h
    · exact .inr h
  | box t x =>
    simp only [opW, hop, fl_iff] at h
    split at h
    · rename_i d hd
      split at h
      · rename_i hf
        split at h
        · rename_i h1
          exact .inl ⟨_, good_box hop hf h1, h⟩
        · exact .inr h
      · exact .inr h
    · exact .inr h
  | load t x =>
    simp only [opW, hop, fa_iff] at h
    split at h
    · rename_i i hi
      split at h
      · rename_i k off hx
        split at h
        · rename_i l hk
          split at h
          · rename_i y hy
            exact .inl ⟨_, good_load_ptr Γ.toTy hop hx hi hk hy, h⟩
          · exact .inr h
        · exact .inr h
      · rename_i sz z off hx
        split at h
        · rename_i hz
          split at h
          · rename_i y hy
            exact .inl ⟨_, good_load_ref Γ.toTy hop hx hi hz hy, h⟩
          · exact .inr h
        · exact .inr h
      · rename_i k sz n off hx
        split at h
        · rename_i sz' α e l hk
          obtain ⟨rfl, hn, h⟩ := h
          split at h
          · rename_i hz
            split at h
            · rename_i y hy
              have hne : l ≠ [] := by intro he; subst he; simp at hn
              refine .inl ⟨_, good_load_row (n := l.length) (f := rowF e l) Γ.toTy hop hx hi (fun κ w ho => ?_) ⟨hn, rfl⟩ hz hy, h⟩
              rw [hk] at ho
              exact ho.rowAt hne
            · exact h.elim
          · exact h.elim
        · rename_i sz' svs hk
          obtain ⟨rfl, h⟩ := h
          split at h
          · rename_i z hz0
            split at h
            · rename_i hz
              split at h
              · rename_i y hy
                refine .inl ⟨_, good_load_row (n := svs.length) (f := litF svs) Γ.toTy hop hx hi (fun κ w ho => ?_) hz0 hz hy, h⟩
                rw [hk] at ho
                exact ho
              · exact h.elim
            · exact h.elim
          · exact h.elim
        · exact .inr h
      · exact .inr h
    · exact .inr h
  | store t x y =>
    simp only [opW, hop, fl_iff] at h
    split at h
    · rename_i i hi
      split at h
      · rename_i k off hx
        split at h
        · rename_i l hk
          split at h
          · rename_i hc
            simp only [Bool.and_eq_true] at hc
            exact .inl ⟨_, good_store_ptr Γ.toTy hop hx hi hk hc.1.1 (Nat.eq_of_beq_eq_true hc.1.2) (Nat.le_of_ble_eq_true hc.2), h⟩
          · exact .inr h
        · exact .inr h
      · rename_i k sz n off hx
        split at h
        · rename_i sz' α e l hk
          obtain ⟨rfl, hn, z, hz, hc, h⟩ := h
          simp only [Bool.and_eq_true] at hc
          obtain ⟨⟨⟨⟨⟨c1, c2⟩, c3⟩, c4⟩, c5⟩, c6⟩ := hc
          exact .inl ⟨_, good_store_row Γ.toTy hop hx hi hk c1 (Nat.eq_of_beq_eq_true c2) (Nat.le_of_ble_eq_true c3) hn hz c4 c5 c6, h⟩
        · exact .inr h
      · exact .inr h
    · exact .inr h
  | fieldAddr t x f =>
    simp only [opW, hop] at h
    split at h
    · rename_i i hi
      split at h
      · rename_i fs hk
        split at h
        · rename_i fo fn hf
          split at h
          · exact .inr h
          · rename_i fn'
            split at h
            · rename_i k off hx
              split at h
              · rename_i l hb
                exact .inl ⟨_, good_fieldAddr Γ.toTy hop hi hk hf (by omega) (.inl ⟨k, off, l, hx, hb, rfl, rfl⟩), h⟩
              · exact .inr h
            · rename_i sz z off hx
              exact .inl ⟨_, good_fieldAddr Γ.toTy hop hi hk hf (by omega) (.inr (.inl ⟨sz, z, off, hx, rfl, rfl⟩)), h⟩
            · rename_i k sz n off hx
              split at h
              · rename_i sz' α e l hb
                obtain ⟨hne, h⟩ := h
                refine .inl ⟨_, good_fieldAddr Γ.toTy hop hi hk hf (by omega) (.inr (.inr ⟨k, sz, n, off, hx, fun κ w ho => ?_, rfl, rfl⟩)), h⟩
                rw [hb] at ho
                obtain ⟨b, cap, _, _, _, e1, _⟩ := ho.rowAt hne
                exact ⟨b, _, cap, e1⟩
              · rename_i sz' svs hb
                refine .inl ⟨_, good_fieldAddr Γ.toTy hop hi hk hf (by omega) (.inr (.inr ⟨k, sz, n, off, hx, fun κ w ho => ?_, rfl, rfl⟩)), h⟩
                rw [hb] at ho
                obtain ⟨b, cap, _, _, _, e1, _⟩ := ho
                exact ⟨b, _, cap, e1⟩
              · exact .inr h
            · exact .inr h
        · exact .inr h
      · exact .inr h
    · exact .inr h
  | nilCheck x =>
    simp only [opW, hop] at h
    split at h
    · rename_i k off hx
      split at h
      · rename_i l hb
        have := good_nilCheck (P := P) (rd := [k]) hop (.inl ⟨k, off, l, hx, hb, rfl⟩)
        rw [hx] at this
        exact .inl ⟨_, this, h⟩
      · exact .inr h
    · rename_i sz z off hx
      have := good_nilCheck (P := P) (rd := []) hop (.inr (.inl ⟨sz, z, off, hx, rfl⟩))
      rw [hx] at this
      exact .inl ⟨_, this, h⟩
    · rename_i fn first cap hx
      split at h
      · rename_i f
        have := good_nilCheck (P := P) (rd := []) hop (.inr (.inr (.inl ⟨f, first, cap, hx, rfl⟩)))
        rw [hx] at this
        exact .inl ⟨_, this, h⟩
      · exact .inr h
    · exact .inr h
  | indexAddr t x y =>
    simp only [opW, hop] at h
    split at h
    · rename_i i hi
      split at h
      · rename_i et esz eb ez hk
        split at h
        · rename_i ik n hy
          split at h
          · rename_i sz α e l hx
            obtain ⟨rfl, h0, hn, h⟩ := h
            exact .inl ⟨_, good_indexAddr_sl Γ.toTy hop hi hk hx hy h0 hn, h⟩
          · rename_i k hx
            split at h
            · rename_i len hl
              exact .inl ⟨_, good_indexAddr_osl Γ.toTy hop hi hk hx hl hy h.1 h.2.1, h.2.2⟩
            · exact .inr h
          · exact .inr h
        · exact .inr h
      · rename_i et len esz hk
        split at h
        · rename_i ik n hy
          split at h
          · rename_i k off hx
            split at h
            · rename_i l hl
              exact .inl ⟨_, good_indexAddr_arrp Γ.toTy hop hi hk hx hl hy h.1 h.2.1, h.2.2⟩
            · exact .inr h
          · rename_i sz z off hx
            exact .inl ⟨_, good_indexAddr_arrr Γ.toTy hop hi hk hx hy h.1 h.2.1, h.2.2⟩
          · exact .inr h
        · exact .inr h
      · exact .inr h
    · exact .inr h
  | binOp op t x y yt =>
    simp only [opW, hop] at h
    split at h
    · rename_i k a k' b hx hy
      split at h
      · exact shiftOp_ok hop hx hy h
      · split at h
        · rename_i hkk
          subst hkk
          exact intOp_ok hop hx hy h
        · exact .inr h
    · rename_i a b hx hy
      exact strOp_ok hop hx hy h
    · rename_i p q hx hy
      split at h
      · rename_i i hi
        split at h
        · rename_i hk
          split at h
          · exact .inl ⟨_, good_eq_bool Γ.toTy hop (.inl rfl) hi hk hx hy, h⟩
          · exact .inl ⟨_, good_eq_bool Γ.toTy hop (.inr rfl) hi hk hx hy, h⟩
          · exact .inr h
        · exact .inr h
      · exact .inr h
    · rename_i l m hx hy
      split at h
      · rename_i ks hks
        split at h
        · rename_i r hr
          split at h
          · exact .inl ⟨_, good_eq_agg hop (.inl rfl) (Γ.eqok t ks hks) hx hy hr, h⟩
          · exact .inl ⟨_, good_eq_agg hop (.inr rfl) (Γ.eqok t ks hks) hx hy hr, h⟩
          · exact .inr h
        · exact .inr h
      · exact .inr h
    · rename_i k off hx hy
      split at h
      · rename_i l hb
        split at h
        · rename_i i hi
          split at h
          · rename_i hk
            split at h
            · exact .inl ⟨_, good_eq_nil Γ.toTy hop (.inl rfl) hi hk hy (.inl ⟨k, off, l, hx, hb, rfl, rfl⟩), h⟩
            · exact .inl ⟨_, good_eq_nil Γ.toTy hop (.inr rfl) hi hk hy (.inl ⟨k, off, l, hx, hb, rfl, rfl⟩), h⟩
            · exact .inr h
          · exact .inr h
        · exact .inr h
      · exact .inr h
    · exact .inr h
  | unOp op t x =>
    simp only [opW, hop] at h
    split at h
    · rename_i b hx
      exact .inl ⟨_, good_not hop hx, h⟩
    · rename_i k n hx
      exact .inl ⟨_, good_neg hop hx, h⟩
    · exact .inr h
  | extract x i =>
    simp only [opW, hop, fa_iff] at h
    split at h
    · rename_i l hx
      split at h
      · rename_i y hy
        exact .inl ⟨_, good_extract hop hx hy, h⟩
      · exact .inr h
    · exact .inr h
  | convert src dst x =>
    simp only [opW, hop] at h
    split at h
    · rename_i si di hs hd
      split at h
      · rename_i k' k n hk hx
        exact .inl ⟨_, good_convert_int Γ.toTy hop hs hd hk hx, h⟩
      · rename_i b hk hx
        split at h
        · rename_i hk'
          exact .inl ⟨_, good_convert_string Γ.toTy hop hs hd hk' hk hx, h⟩
        · exact .inr h
      · exact .inr h
    · exact .inr h
  | makeInterface t x =>
    simp only [opW, hop, fv_iff] at h
    split at h
    · rename_i i hi
      split at h
      · exact .inr h
      · exact .inr h
      · exact .inr h
      · rename_i h1 h2 h3
        refine .inl ⟨_, good_makeInterface Γ.toTy hop hi ?_, h⟩
        cases hk : i.k <;> first | rfl | (exact absurd hk h1) | (exact absurd hk h2) | (exact absurd hk (h3 _ _ _))
    · exact .inr h
  | build t ps =>
    simp only [opW, hop, fl_iff] at h
    split at h
    · rename_i i hi
      split at h
      · rename_i fs hk
        split at h
        · rename_i h1
          split at h
          · rename_i out hout
            exact .inl ⟨_, good_build (ps := ps.toList) Γ.toTy (by rw [hop]) hi hk h1 hout, h⟩
          · exact .inr h
        · exact .inr h
      · exact .inr h
    · exact .inr h
  | buildSlice t len ps =>
    simp only [opW, hop, fl_iff] at h
    split at h
    · rename_i d hd
      split at h
      · rename_i hf
        split at h
        · rename_i i hi
          split at h
          · rename_i et sz eb ez hk
            split at h
            · rename_i xs hxs
              split at h
              · rename_i hc
                simp only [Bool.and_eq_true] at hc
                exact .inl ⟨_, good_buildSlice (ps := ps.toList) Γ.toTy (by rw [hop]) hf hi hk hxs (Nat.eq_of_beq_eq_true hc.1.1) (Nat.le_of_ble_eq_true hc.1.2) hc.2, h⟩
              · exact .inr h
            · exact .inr h
          · exact .inr h
        · exact .inr h
      · exact .inr h
    · exact .inr h
  | index t x y =>
    simp only [opW, hop] at h
    split at h
    · rename_i i hi
      split at h
      · rename_i hk
        split at h
        · rename_i b hx
          split at h
          · rename_i ik n hy
            exact .inl ⟨_, good_index_string Γ.toTy hop hi hk hx hy h.1 h.2.1, h.2.2⟩
          · exact .inr h
        · exact .inr h
      · exact .inr h
    · exact .inr h
  | slice t x lo hi mx =>
    simp only [opW, hop] at h
    split at h
    · split at h
      · rename_i i hi'
        split at h
        · rename_i hk
          split at h
          · rename_i b hx
            rcases bnd_ok h with ⟨l, hl, h⟩ | h
            · rcases bnd_ok h with ⟨r, hr, h⟩ | h
              · obtain ⟨⟨a1, a2, a3⟩, h⟩ := h
                exact .inl ⟨_, good_slice_string (lo := l.toNat) (hi := r.toNat) Γ.toTy hop hi' hk hx (hl.is a1 rfl) (hr.is (by omega) (by simp)) (by omega) (by omega), h⟩
              · exact .inr h
            · exact .inr h
          · exact .inr h
        · exact .inr h
      · exact .inr h
    · exact .inr h
  | makeFunc fn first cap =>
    simp only [opW, hop, fl_iff] at h
    exact .inl ⟨_, good_makeFunc (ys := first.toList) (xs := cap.toList) (by rw [hop]), h⟩
  | call c =>
    simp only [opW, hop] at h
    split at h
    · rename_i hcal
      split at h
      · rename_i x t r hargs hats
        have hc : c = ⟨.builtin .len, #[x], c.argTypes⟩ := by
          obtain ⟨a, b, d⟩ := c
          simp only at hcal hargs ⊢
          have : b = #[x] := by
            apply Array.ext'
            simpa using hargs
          rw [hcal, this]
        rw [hc] at hop
        have hat : c.argTypes[0]? = some t := by
          rw [← Array.getElem?_toList, hats]; rfl
        split at h
        · rename_i i hi
          split at h
          · rename_i et sz eb ez hk
            split at h
            · rename_i z α e l hx
              exact .inl ⟨_, good_len Γ.toTy hop hat hi hk (.inl ⟨z, α, e, l, hx, rfl, rfl⟩), h⟩
            · rename_i k hx
              split at h
              · rename_i n hn
                exact .inl ⟨_, good_len Γ.toTy hop hat hi hk (.inr (.inl ⟨k, hx, hn, rfl⟩)), h⟩
              · exact .inr h
            · rename_i a n cap hx
              exact .inl ⟨_, good_len Γ.toTy hop hat hi hk (.inr (.inr ⟨a, cap, hx, rfl⟩)), h⟩
            · exact .inr h
          · rename_i hk
            split at h
            · rename_i b hx
              exact .inl ⟨_, good_len_string Γ.toTy hop hat hi hk hx, h⟩
            · exact .inr h
          · exact .inr h
        · exact .inr h
      · exact .inr h
    · exact .inr h
  | _ => simp only [opW, hop] at h; exact .inr h
theorem opW_okX {P : Program} {Γ : TyE P} {o : Oper} {s : SS} {K : Up → Prop} {stop : Prop} (h : opW Γ o s K stop) : (∃ U, GoodX P o s U ∧ K U) ∨ stop := by
  have hgen : (isIdx o || isSt o) = false → (∃ U, GoodX P o s U ∧ K U) ∨ stop := fun hn => by
    rcases opW_ok h with ⟨U, hU, hk⟩ | h
    · exact .inl ⟨U, .of hU hn, hk⟩
    · exact .inr h
  cases hop : o.op with
  | indexAddr t x y =>
    have hst : isSt o = false := by simp [isSt, hop]
    have hops : x ∈ o.op.operands ∧ y ∈ o.op.operands := by simp [hop, Op.operands]
    simp only [opW, hop] at h
    split at h
    · rename_i i hi
      split at h
      · rename_i et esz eb ez hk
        split at h
        · rename_i ik n hy
          split at h
          · rename_i sz α e l hx
            obtain ⟨rfl, h0, hn, h⟩ := h
            exact .inl ⟨_, ⟨(good_indexAddr_sl Γ.toTy hop hi hk hx hy h0 hn).two, fun _ => ⟨rfl, fun s' h1 h2 => good_indexAddr_sl Γ.toTy hop hi hk ((h1 x hops.1).trans hx) ((h1 y hops.2).trans hy) h0 hn⟩, fun hc => (by rw [hst] at hc; cases hc)⟩, h⟩
          · rename_i k hx
            split at h
            · rename_i len hl
              exact .inl ⟨_, ⟨(good_indexAddr_osl Γ.toTy hop hi hk hx hl hy h.1 h.2.1).two, fun _ => ⟨rfl, fun s' h1 h2 => good_indexAddr_osl Γ.toTy hop hi hk ((h1 x hops.1).trans hx) (Ob.shp_len (h2 k (by simp)) hl) ((h1 y hops.2).trans hy) h.1 h.2.1⟩, fun hc => (by rw [hst] at hc; cases hc)⟩, h.2.2⟩
            · exact .inr h
          · exact .inr h
        · exact .inr h
      · rename_i et len esz hk
        split at h
        · rename_i ik n hy
          split at h
          · rename_i k off hx
            split at h
            · rename_i l hl
              exact .inl ⟨_, ⟨(good_indexAddr_arrp Γ.toTy hop hi hk hx hl hy h.1 h.2.1).two, fun _ => ⟨rfl, fun s' h1 h2 => (Ob.shp_box ((h2 k (by simp)).trans (congrArg Ob.shp hl))).elim fun m hm => good_indexAddr_arrp Γ.toTy hop hi hk ((h1 x hops.1).trans hx) hm ((h1 y hops.2).trans hy) h.1 h.2.1⟩, fun hc => (by rw [hst] at hc; cases hc)⟩, h.2.2⟩
            · exact .inr h
          · rename_i sz z off hx
            exact .inl ⟨_, ⟨(good_indexAddr_arrr Γ.toTy hop hi hk hx hy h.1 h.2.1).two, fun _ => ⟨rfl, fun s' h1 h2 => good_indexAddr_arrr Γ.toTy hop hi hk ((h1 x hops.1).trans hx) ((h1 y hops.2).trans hy) h.1 h.2.1⟩, fun hc => (by rw [hst] at hc; cases hc)⟩, h.2.2⟩
          · exact .inr h
        · exact .inr h
      · exact .inr h
    · exact .inr h
  | store t x y =>
    have hidx : isIdx o = false := by simp [isIdx, hop]
    simp only [opW, hop, fl_iff] at h
    split at h
    · rename_i i hi
      split at h
      · rename_i k off hx
        split at h
        · rename_i l hk
          split at h
          · rename_i hc
            simp only [Bool.and_eq_true] at hc
            exact .inl ⟨_, ⟨(good_store_ptr Γ.toTy hop hx hi hk hc.1.1 (Nat.eq_of_beq_eq_true hc.1.2) (Nat.le_of_ble_eq_true hc.2)).two, fun hc => (by rw [hidx] at hc; cases hc), fun _ p hp => by
              simp only [List.mem_singleton] at hp
              subst hp
              show (Ob.box _).shp = (s.h k).shp
              rw [hk]; rfl⟩, h⟩
          · exact .inr h
        · exact .inr h
      · rename_i k sz n off hx
        split at h
        · rename_i sz' α e l hk
          obtain ⟨rfl, hn, z, hz, hc, h⟩ := h
          simp only [Bool.and_eq_true] at hc
          obtain ⟨⟨⟨⟨⟨c1, c2⟩, c3⟩, c4⟩, c5⟩, c6⟩ := hc
          exact .inl ⟨_, ⟨(good_store_row Γ.toTy hop hx hi hk c1 (Nat.eq_of_beq_eq_true c2) (Nat.le_of_ble_eq_true c3) hn hz c4 c5 c6).two, fun hc => (by rw [hidx] at hc; cases hc), fun _ p hp => by
            simp only [List.mem_singleton] at hp
            subst hp
            show (Ob.row _ _ _).shp = (s.h k).shp
            rw [hk]
            simp [Ob.shp]⟩, h⟩
        · exact .inr h
      · exact .inr h
    · exact .inr h
  | _ => exact hgen (by simp [isIdx, isSt, hop])
end Go.Sy

namespace Go.Sy
def guardSrc (idx : Nat) : List Oper → Bool
  | [] => false
  | o :: r => (match o.guard with
    | some (j, _) => Nat.beq j idx
    | none => false) || guardSrc idx r
def fork (isg : Bool) (U : Up) (K K' : Up → Prop) : Prop :=
  match isg with
  | false => K U
  | true => (match U.v with
    | .val (.bool b) => (b = true → K' ⟨.val (.bool true), U.rd, U.objs⟩) ∧ (b = false → K' ⟨.val (.bool false), U.rd, U.objs⟩)
    | _ => K U)
theorem fork_ok {X : Up → Prop} {isg : Bool} {U : Up} {K K' : Up → Prop} (hK : ∀ U, K U → K' U) (hg : X U) (h : fork isg U K K') : ∃ U', X U' ∧ K' U' := by
  unfold fork at h
  split at h
  · exact ⟨U, hg, hK _ h⟩
  · split at h
    · rename_i b hb
      obtain ⟨v, rd, objs⟩ := U
      simp only at hb
      subst hb
      cases b
      · exact ⟨_, hg, h.2 rfl⟩
      · exact ⟨_, hg, h.1 rfl⟩
    · exact ⟨U, hg, hK _ h⟩
def guardV (n : Nat) (all : Array Oper) (o : Oper) (s : SS) : Option Bool :=
  match o.guard with
  | none => some true
  | some (j, want) => (match (all[j]?).bind (·.dst) with
    | some d => (match Nat.blt d n with
      | true => (match s.σ d with
        | .val (.bool c) => (match c with
          | true => some want
          | false => (match want with | true => some false | false => some true))
        | .val (.tuple a) => (match a.toList with | [] => some false | _ => none)
        | _ => none)
      | false => none)
    | none => none)
theorem guardV_ok {n : Nat} {all : Array Oper} {o : Oper} {s : SS} {b : Bool} (h : guardV n all o s = some b) : wantS all s o.guard b ∧ ∀ j want, o.guard = some (j, want) → ∀ d, ((all[j]?).bind (·.dst)) = some d → d < n := by
  unfold guardV at h
  cases hg : o.guard with
  | none =>
    rw [hg] at h
    simp only [Option.some.injEq] at h
    exact ⟨h.symm, fun j want hh => by cases hh⟩
  | some p =>
    obtain ⟨j, want⟩ := p
    rw [hg] at h
    simp only at h
    split at h
    · rename_i d hd
      split at h
      · rename_i hlt
        refine ⟨⟨d, hd, ?_⟩, fun j' want' hh d' hd' => ?_⟩
        · split at h
          · rename_i c hc
            left
            refine ⟨c, hc, ?_⟩
            cases c
            · cases want <;> simp_all
            · simp_all
          · rename_i a ha
            split at h
            · rename_i he
              right
              have : a = #[] := by simpa using he
              subst this
              simp only [Option.some.injEq] at h
              exact ⟨ha, h.symm⟩
            · cases h
          · cases h
        · simp only [Option.some.injEq, Prod.mk.injEq] at hh
          obtain ⟨rfl, rfl⟩ := hh
          rw [hd] at hd'
          simp only [Option.some.injEq] at hd'
          subst hd'
          exact Nat.le_of_ble_eq_true hlt
      · cases h
    · cases h
def dstOK (n : Nat) (o : Oper) : Bool := match o.dst with | some d => Nat.blt d n | none => true
mutual
def exec (C : Cx) (Γ : TyE C.P) : Nat → List KI → SS → Prop
  | 0, k, s => G C k s
  | n + 1, k, s => (match k with
    | [] => G C [] s
    | .blk _ :: k => exec C Γ n k s
    | .inv I :: k => G C (.inv I :: k) s
    | .scp :: k => exec C Γ n k s
    | .ops _ [] :: k => exec C Γ n k s
    | .ops all (o :: rest) :: k => (match dstOK C.n o with
      | true => (match guardV C.n all o s with
        | some true => opW Γ o s (fun U => fork (guardSrc (all.size - rest.length - 1) rest) U (fun U => exec C Γ n (.ops all rest :: k) (s.upd o.dst U)) (fun U => G C (.ops all rest :: k) (s.upd o.dst U))) (G C (.ops all (o :: rest) :: k) s)
        | some false => exec C Γ n (.ops all rest :: k) (s.upd o.dst ⟨.val undef, [], []⟩)
        | none => G C (.ops all (o :: rest) :: k) s)
      | false => G C (.ops all (o :: rest) :: k) s)
    | .code c :: k => (match c with
      | .skip => exec C Γ n k s
      | .seq x y => exec C Γ n (.code x :: .code y :: k) s
      | .block id c => exec C Γ n (.code c :: .blk id :: k) s
      | .scope c => exec C Γ n (.code c :: .scp :: k) s
      | .label _ => exec C Γ n k s
      | .region id ops draw => (match draw with
        | false => exec C Γ n (.ops ops ops.toList :: k) s
        | true => (match dstsOK C.n ops.toList with
          | true => execD C Γ n k ops [] ops.toList s
          | false => G C (.code (.region id ops true) :: k) s))
      | .cond c x y => (match ev s c with
        | .val (.bool b) => (b = true → G C (.code x :: k) s) ∧ (b = false → G C (.code y :: k) s)
        | _ => G C (.code (.cond c x y) :: k) s)
      | .exit id => (match exitK id k with
        | some k' => exec C Γ n k' s
        | none => G C (.code (.exit id) :: k) s)
      | c => G C (.code c :: k) s))
def execD (C : Cx) (Γ : TyE C.P) : Nat → List KI → Array Oper → List Stp → List Oper → SS → Prop
  | 0, k, all, done, rest, s => DR C k all done rest s
  | n + 1, k, all, done, rest, s => (match rest with
    | [] => drawOK all done = true ∧ exec C Γ n k s
    | o :: rest => (match guardV C.n all o s with
      | some true => opW Γ o s (fun U => fork (guardSrc (all.size - rest.length - 1) rest) U (fun U => execD C Γ n k all (done ++ [⟨done.length, o, U, true⟩]) rest (s.upd o.dst U)) (fun U => DR C k all (done ++ [⟨done.length, o, U, true⟩]) rest (s.upd o.dst U))) (DR C k all done (o :: rest) s)
      | some false => execD C Γ n k all (done ++ [⟨done.length, o, ⟨.val undef, [], []⟩, false⟩]) rest (s.upd o.dst ⟨.val undef, [], []⟩)
      | none => DR C k all done (o :: rest) s))
end
theorem dstOK_ok {n : Nat} {o : Oper} (h : dstOK n o = true) : ∀ d, o.dst = some d → d < n := fun d hd => by
  unfold dstOK at h
  rw [hd] at h
  exact Nat.le_of_ble_eq_true h
theorem at_split {all : Array Oper} {done : List Stp} {o : Oper} {rest : List Oper} (h : all.toList = done.map (·.o) ++ o :: rest) : all[done.length]? = some o := by
  rw [← Array.getElem?_toList, h, List.getElem?_append_right (by simp)]
  simp
theorem exec_ok {C : Cx} {Γ : TyE C.P} (hm : C.P.follows .mixedOrders = true) : ∀ n, (∀ k s, exec C Γ n k s → G C k s) ∧ (∀ k all done rest s, all.toList = done.map (·.o) ++ rest → execD C Γ n k all done rest s → DR C k all done rest s) := by
  intro n
  induction n with
  | zero => exact ⟨fun k s h => (by simpa only [exec] using h), fun k all done rest s _ h => (by simpa only [execD] using h)⟩
  | succ n ih =>
    obtain ⟨ih1, ih2⟩ := ih
    constructor
    · intro k s h
      simp only [exec] at h
      split at h
      · exact h
      · exact G_blk (ih1 _ _ h)
      · exact h
      · exact G_scp (ih1 _ _ h)
      · exact G_ops_nil (ih1 _ _ h)
      · rename_i all o rest k'
        split at h
        · rename_i hd
          have hd' := dstOK_ok hd
          split at h
          · rename_i hg
            obtain ⟨w1, w2⟩ := guardV_ok hg
            rcases opW_ok h with ⟨U, hU, hk⟩ | h
            · obtain ⟨U', hU', hk'⟩ := fork_ok (X := Good C.P o s) (fun U hu => ih1 _ _ hu) hU hk
              exact G_op hU' (fun κ a w hs => want_ok hs w2 w1) hd' hk'
            · exact h
          · rename_i hg
            obtain ⟨w1, w2⟩ := guardV_ok hg
            exact G_op_skip (fun κ a w hs => want_ok hs w2 w1) hd' (ih1 _ _ h)
          · exact h
        · exact h
      · rename_i c k'
        split at h
        · exact G_skip (ih1 _ _ h)
        · exact G_seq (ih1 _ _ h)
        · exact G_block (ih1 _ _ h)
        · exact G_scope (ih1 _ _ h)
        · exact G_label (ih1 _ _ h)
        · split at h
          · exact G_region (ih1 _ _ h)
          · split at h
            · rename_i hd
              exact G_draw hm hd (ih2 _ _ _ _ _ (by simp) h)
            · exact h
        · split at h
          · rename_i b hc
            exact G_cond hc h.1 h.2
          · exact h
        · split at h
          · rename_i hx
            exact G_exit hx (ih1 _ _ h)
          · exact h
        · exact h
    · intro k all done rest s hsplit h
      simp only [execD] at h
      split at h
      · exact DR_nil h.1 (ih1 _ _ h.2)
      · rename_i o rest
        have hi := at_split hsplit
        split at h
        · rename_i hg
          obtain ⟨w1, w2⟩ := guardV_ok hg
          rcases opW_okX h with ⟨U, hU, hk⟩ | h
          · obtain ⟨U', hU', hk'⟩ := fork_ok (X := GoodX C.P o s) (fun U hu => ih2 _ _ _ _ _ (by simp [hsplit]) hu) hU hk
            exact DR_op U' hU' hi w1 hk'
          · exact h
        · rename_i hg
          obtain ⟨w1, w2⟩ := guardV_ok hg
          exact DR_skip hi w1 (ih2 _ _ _ _ _ (by simp [hsplit]) h)
        · exact h
theorem aF {p q : Prop} (h : q) : (false = true → p) ∧ (false = false → q) := ⟨fun e => (Bool.false_ne_true e).elim, fun _ => h⟩
theorem aT {p q : Prop} (h : p) : (true = true → p) ∧ (true = false → q) := ⟨fun _ => h, fun e => (Bool.false_ne_true e.symm).elim⟩
theorem run {C : Cx} {k : List KI} {s : SS} (Γ : TyE C.P) (hm : C.P.follows .mixedOrders = true) (n : Nat) (h : exec C Γ n k s) : G C k s := (exec_ok hm n).1 k s h
theorem runD {C : Cx} {k : List KI} {s : SS} {all : Array Oper} {done : List Stp} {rest : List Oper} (Γ : TyE C.P) (hm : C.P.follows .mixedOrders = true) (n : Nat) (hs : all.toList = done.map (·.o) ++ rest) (h : execD C Γ n k all done rest s) : DR C k all done rest s :=
  (exec_ok hm n).2 k all done rest s hs h
theorem rG {C : Cx} {k : List KI} {s : SS} (Γ : TyE C.P) (hm : C.P.follows .mixedOrders = true) (h : exec C Γ 400 k s) : G C k s := run Γ hm 400 h
theorem rD {C : Cx} {k : List KI} {s : SS} {all : Array Oper} {done : List Stp} {rest : List Oper} (Γ : TyE C.P) (hm : C.P.follows .mixedOrders = true) (hs : all.toList = done.map (·.o) ++ rest) (h : execD C Γ 400 k all done rest s) : DR C k all done rest s := runD Γ hm 400 hs h
theorem stepOp {C : Cx} {k : List KI} {s : SS} {all : Array Oper} {o : Oper} {rest : List Oper} {U : Up} (hg : Good C.P o s U) (hd : dstOK C.n o = true) (hw : guardV C.n all o s = some true) (h : G C (.ops all rest :: k) (s.upd o.dst U)) : G C (.ops all (o :: rest) :: k) s :=
  G_op hg (fun _ _ _ hs => want_ok hs (guardV_ok hw).2 (guardV_ok hw).1) (dstOK_ok hd) h
theorem stepD {C : Cx} {k : List KI} {s : SS} {all : Array Oper} {done : List Stp} {o : Oper} {rest : List Oper} {U : Up} (hg : Good C.P o s U) (hi : all[done.length]? = some o) (hw : guardV C.n all o s = some true)
    (h : DR C k all (done ++ [⟨done.length, o, U, true⟩]) rest (s.upd o.dst U)) (hn : (isIdx o || isSt o) = false := by rfl) : DR C k all done (o :: rest) s := DR_op U (.of hg hn) hi (guardV_ok hw).1 h
theorem done {P : Program} {fn : Func} {F : Fr} {R : SV} {H' : Obs} {Γ : Ty P} {n : Nat} {bn : List Nat} {hbn : ∀ k, F.k0 k ≠ .new → k ∈ bn} {k : List KI} {s : SS} {rs : List ResultVar} (hf : fn.results = rs.toArray) {xs : List SV} (hx : ResVs Γ.get s rs xs)
    (ρ : List (Nat × Nat)) (L : Obs) (hL : ∀ p ∈ H', p ∈ L) (hR : R.ren (assocN ρ) = comb xs) (hRn : R.inn L.keys = true) (hsub : Sub ⟨P, Γ, F, n, Post P fn F R H', bn, hbn⟩ s ρ [] L) : G ⟨P, Γ, F, n, Post P fn F R H', bn, hbn⟩ (.code .ret :: k) s :=
  G_ret fun _ _ _ hs => (post_ok hf hx ρ L hL hR hRn hsub hs).1
theorem done_end {P : Program} {fn : Func} {F : Fr} {R : SV} {H' : Obs} {Γ : Ty P} {n : Nat} {bn : List Nat} {hbn : ∀ k, F.k0 k ≠ .new → k ∈ bn} {s : SS} {rs : List ResultVar} (hf : fn.results = rs.toArray) {xs : List SV} (hx : ResVs Γ.get s rs xs)
    (ρ : List (Nat × Nat)) (L : Obs) (hL : ∀ p ∈ H', p ∈ L) (hR : R.ren (assocN ρ) = comb xs) (hRn : R.inn L.keys = true) (hsub : Sub ⟨P, Γ, F, n, Post P fn F R H', bn, hbn⟩ s ρ [] L) : G ⟨P, Γ, F, n, Post P fn F R H', bn, hbn⟩ [] s :=
  G_nil fun _ _ _ hs => (post_ok hf hx ρ L hL hR hRn hsub hs).2
theorem done0 {P : Program} {fn : Func} {F : Fr} {R : SV} {Γ : Ty P} {n : Nat} {hbn : ∀ k, F.k0 k ≠ .new → k ∈ []} {k : List KI} {s : SS} {rs : List ResultVar} (hf : fn.results = rs.toArray) {xs : List SV} (hx : ResVs Γ.get s rs xs)
    (hR : R = comb xs) (hRn : R.inn [] = true) : G ⟨P, Γ, F, n, Post P fn F R [], [], hbn⟩ (.code .ret :: k) s := by
  have hid : ∀ x : SV, x.ren (assocN []) = x := fun x => ren_id x
  exact done hf hx [] [] (fun _ h => h) (by rw [hid]; exact hR) hRn ⟨trivial, trivial, rfl, rfl⟩
end Go.Sy

namespace Go.Sy
def fieldsOf (P : Program) : List Field → Option (List (Nat × Nat))
  | [] => some []
  | f :: fs => match P.info? f.type, fieldsOf P fs with
    | some i, some r => some ((f.offset, i.size) :: r)
    | _, _ => none
theorem fieldsOf_ok {P : Program} : ∀ {fs : List Field} {r : List (Nat × Nat)}, fieldsOf P fs = some r → fieldsOK P fs r
  | [], r, h => by simp only [fieldsOf, Option.some.injEq] at h; subst h; trivial
  | f :: fs, r, h => by
    simp only [fieldsOf] at h
    split at h
    · rename_i i q hi hq
      simp only [Option.some.injEq] at h
      subst h
      exact ⟨rfl, by rw [hi]; rfl, fieldsOf_ok hq⟩
    · cases h
def tkOf (P : Program) (d : TypeDesc) : Option TK :=
  match d with
  | .bool => some .bool
  | .int k => some (.int k)
  | .string => some .string
  | .slice e => (match P.info? e with
    | some i => (match i.zero with
      | some z => some (.slice e i.size i.bytes z.cells.toList)
      | none => none)
    | none => none)
  | .struct fs => (match fieldsOf P fs.toList with
    | some r => some (.struct r)
    | none => none)
  | .array len e => (match P.info? e with
    | some i => some (.array e len i.size)
    | none => none)
  | .pointer _ => some .ptr
  | .interface _ => some .iface
  | .func _ _ _ => some .func
  | _ => none
theorem tkOf_ok {P : Program} {d : TypeDesc} {k : TK} (h : tkOf P d = some k) : TK.ok P d k := by
  unfold tkOf at h
  split at h
  · cases h; rfl
  · cases h; rfl
  · cases h; rfl
  · split at h
    · rename_i i hi
      split at h
      · rename_i z hz
        cases h
        exact ⟨rfl, i, z, hi, rfl, rfl, hz, rfl⟩
      · cases h
    · cases h
  · split at h
    · rename_i r hr
      cases h
      exact ⟨_, rfl, fieldsOf_ok hr⟩
    · cases h
  · split at h
    · rename_i i hi
      cases h
      exact ⟨rfl, i, hi, rfl⟩
    · cases h
  · cases h; exact ⟨_, rfl⟩
  · cases h; exact ⟨_, rfl⟩
  · cases h; exact ⟨_, _, _, rfl⟩
  · cases h
def tiOf (P : Program) (t : TypeId) : Option TI :=
  match P.underlying t, P.info? t with
  | some d, some info => (match tkOf P d, info.zero with
    | some k, some z => some ⟨k, info.size, z.cells.toList⟩
    | _, _ => none)
  | _, _ => none
theorem tiOf_ok {P : Program} {t : TypeId} {i : TI} (h : tiOf P t = some i) : i.ok P t := by
  unfold tiOf at h
  split at h
  · rename_i d info hd hi
    split at h
    · rename_i k z hk hz
      cases h
      exact ⟨d, info, z, hd, tkOf_ok hk, hi, rfl, hz, rfl⟩
    · cases h
  · cases h
inductive Tr (α : Type) | lf | nd (k : Nat) (v : α) (l r : Tr α)
def Tr.look {α : Type} (t : Nat) : Tr α → Option α
  | .lf => none
  | .nd k v l r => bif Nat.beq t k then some v else bif Nat.blt t k then l.look t else r.look t
def Tr.all {α : Type} (p : Nat → α → Prop) : Tr α → Prop
  | .lf => True
  | .nd k v l r => p k v ∧ l.all p ∧ r.all p
theorem Tr.look_ok {α : Type} {p : Nat → α → Prop} {t : Nat} {v : α} : ∀ {T : Tr α}, T.all p → T.look t = some v → p t v
  | .lf, _, h => by cases h
  | .nd k u l r, ha, h => by
    simp only [Tr.look, Bool.cond_eq_ite] at h
    split at h
    · rename_i hb
      have := Nat.eq_of_beq_eq_true hb
      subst this
      simp only [Option.some.injEq] at h
      subst h
      exact ha.1
    · split at h
      · exact Tr.look_ok ha.2.1 h
      · exact Tr.look_ok ha.2.2 h
def ekOf (P : Program) (t : TypeId) : Option EK :=
  match P.underlying t with
  | some (.int k) => some (.int k)
  | some .bool => some .bool
  | some .string => some .string
  | _ => none
def eksOf (P : Program) : Nat → List Field → Option (List EK)
  | _, [] => some []
  | i, f :: fs => match ekOf P f.type, eksOf P (i + 1) fs with
    | some k, some r => if f.name ≠ "_" ∧ f.offset = i then some (k :: r) else none
    | _, _ => none
theorem eksOf_ok {P : Program} : ∀ {fs : List Field} {i : Nat} {r : List EK}, eksOf P i fs = some r → eqFs P i fs r
  | [], i, r, h => by simp only [eksOf, Option.some.injEq] at h; subst h; trivial
  | f :: fs, i, r, h => by
    simp only [eksOf] at h
    split at h
    · rename_i k q hk hq
      split at h
      · rename_i hc
        cases h
        refine ⟨hc.1, hc.2, ?_, eksOf_ok hq⟩
        unfold ekOf at hk
        split at hk <;> first | (cases hk; assumption) | cases hk
      · cases h
    · cases h
def eqsOf (P : Program) (t : TypeId) : Option (List EK) :=
  match P.underlying t with
  | some (.struct fs) => if P.stoodInHeld t = false ∧ P.eqGuardType P.depth t = false then eksOf P 0 fs.toList else none
  | _ => none
theorem eqsOf_ok {P : Program} {t : TypeId} {r : List EK} (h : eqsOf P t = some r) : EqOK P t r := by
  unfold eqsOf at h
  split at h
  · rename_i fs hfs
    split at h
    · rename_i hc
      have hf : P.fieldsOf t = fs := by simp [Program.fieldsOf, hfs]
      exact ⟨by rw [hf]; exact hfs, hc.1, hc.2, by rw [hf]; exact eksOf_ok h⟩
    · cases h
  · cases h
def bodyOf (fn : Func) : Code := fn.body.getD .skip
end Go.Sy

namespace Go.Sy
def lenLe {α : Type 1} : List α → Nat → Bool
  | [], _ => true
  | _ :: _, 0 => false
  | _ :: l, n + 1 => lenLe l n
theorem lenLe_ok {α : Type 1} : ∀ {l : List α} {n : Nat}, lenLe l n = true → l.length ≤ n
  | [], _, _ => Nat.zero_le _
  | _ :: _, 0, h => by cases h
  | _ :: l, n + 1, h => Nat.succ_le_succ (lenLe_ok (l := l) h)
theorem contract {P : Program} (Γ : TyE P) (hm : P.follows .mixedOrders = true) (N : Nat) {f : FuncId} {fn : Func} {c : Code} {A : List SV} {H : Obs} {R : SV} {H' : Obs} (hF : Fun P f fn c) {n : Nat} (hn' : fn.ntmps = n) (hn : lenLe A n = true)
    (h : ∀ (F : Fr) (hF : ∀ k, F.k0 k ≠ .new → k ∈ H.keys), exec ⟨P, Γ.toTy, F, n, Post P fn F R H', H.keys, hF⟩ Γ N [.code c] ⟨argσ A, mkh H⟩) : Sy.Spec P f A H R H' :=
  spec_of_G Γ.toTy hF.1 hF.2 hn' (lenLe_ok hn) fun F hF => run Γ hm N (h F hF)
variable {C : Cx} {k : List KI} {s : SS}
theorem call0 {all : Array Oper} {o : Oper} {rest : List Oper} {f : FuncId} {fn : Func} {c : Code} {xs : List Operand} {ts : Array TypeId} {A : List SV} {R : SV} (hs : Sy.Spec C.P f A [] R []) (hf : Fun C.P f fn c) (h : o.op = .call ⟨.value (.func f), xs.toArray, ts⟩)
    (hA : A = xs.map (ev s)) (hok : (innL [] A && R.inn []) = true) (hd : dstOK C.n o = true) (hw : guardV C.n all o s = some true) (hg : G C (.ops all rest :: k) (s.upd o.dst ⟨R, [], []⟩)) : G C (.ops all (o :: rest) :: k) s := by
  have hid : ∀ x : SV, x.ren (assocN []) = x := fun x => ren_id x
  have hidL : ∀ x : List SV, renL (assocN []) x = x := fun x => renL_id x
  have := good_call (s := s) (o := o) [] h hf hs (by rw [hidL]; exact hA) trivial (by simp_all [callOK, rhoOK, subN, Obs.keys]) trivial
  rw [hid] at this
  exact stepOp this hd hw hg
theorem callD0 {all : Array Oper} {done : List Stp} {o : Oper} {rest : List Oper} {f : FuncId} {fn : Func} {c : Code} {xs : List Operand} {ts : Array TypeId} {A : List SV} {R : SV} (hs : Sy.Spec C.P f A [] R []) (hf : Fun C.P f fn c) (h : o.op = .call ⟨.value (.func f), xs.toArray, ts⟩)
    (hA : A = xs.map (ev s)) (hok : (innL [] A && R.inn []) = true) (hi : all[done.length]? = some o) (hw : guardV C.n all o s = some true) (hg : DR C k all (done ++ [⟨done.length, o, ⟨R, [], []⟩, true⟩]) rest (s.upd o.dst ⟨R, [], []⟩)) : DR C k all done (o :: rest) s := by
  have hid : ∀ x : SV, x.ren (assocN []) = x := fun x => ren_id x
  have hidL : ∀ x : List SV, renL (assocN []) x = x := fun x => renL_id x
  have := good_call (s := s) (o := o) [] h hf hs (by rw [hidL]; exact hA) trivial (by simp_all [callOK, rhoOK, subN, Obs.keys]) trivial
  rw [hid] at this
  exact stepD this hi hw hg (by simp [isIdx, isSt, h])
theorem callK {all : Array Oper} {o : Oper} {rest : List Oper} (V : List Nat) {f : FuncId} {fn : Func} {c : Code} {xs : List Operand} {ts : Array TypeId} {A : List SV} {R : SV} (hs : Sy.Spec C.P f A [] R []) (hf : Fun C.P f fn c) (h : o.op = .call ⟨.value (.func f), xs.toArray, ts⟩)
    (hA : VwL s V (xs.map (ev s)) A) (hok : (innL [] A && R.plain) = true) (hd : dstOK C.n o = true) (hw : guardV C.n all o s = some true) (hg : G C (.ops all rest :: k) (s.upd o.dst ⟨R, V, []⟩)) : G C (.ops all (o :: rest) :: k) s := by
  simp only [Bool.and_eq_true] at hok
  exact stepOp (good_callK V h hf hs hA hok.1 hok.2) hd hw hg
def FunS (P : Program) (f : FuncId) (A : List SV) (R : SV) : Prop := (∃ fn c, Fun P f fn c) ∧ Sy.Spec P f A [] R []
theorem call0E {all : Array Oper} {o : Oper} {rest : List Oper} {f : FuncId} {B A : List SV} {R : SV} (hE : Enters C.P o s [] f B) (hs : Sy.Spec C.P f A [] R [])
    (hA : A = B) (hok : (innL [] A && R.inn []) = true) (hd : dstOK C.n o = true) (hw : guardV C.n all o s = some true) (hg : G C (.ops all rest :: k) (s.upd o.dst ⟨R, [], []⟩)) : G C (.ops all (o :: rest) :: k) s := by
  have hid : ∀ x : SV, x.ren (assocN []) = x := fun x => ren_id x
  have hidL : ∀ x : List SV, renL (assocN []) x = x := fun x => renL_id x
  have := good_callE (s := s) (o := o) [] hE hs (by rw [hidL]; exact hA) trivial (by simp_all [callOK, rhoOK, subN, Obs.keys]) trivial
  rw [hid] at this
  exact stepOp this hd hw hg
theorem callC {all : Array Oper} {o : Oper} {rest : List Oper} {f : FuncId} {x : Operand} {xs : List Operand} {ts : Array TypeId} {first cap A : List SV} {R : SV} (hs : FunS C.P f A R) (h : o.op = .call ⟨.value x, xs.toArray, ts⟩) (hx : ev s x = .clo (.func f) first cap)
    (hA : A = first ++ xs.map (ev s) ++ cap) (hok : (innL [] A && R.inn []) = true) (hd : dstOK C.n o = true) (hw : guardV C.n all o s = some true) (hg : G C (.ops all rest :: k) (s.upd o.dst ⟨R, [], []⟩)) : G C (.ops all (o :: rest) :: k) s := by
  obtain ⟨⟨fn, c, hf⟩, hs⟩ := hs
  exact call0E (enters_clo h hx hf) hs hA hok hd hw hg
theorem call0DE {all : Array Oper} {done : List Stp} {o : Oper} {rest : List Oper} {f : FuncId} {B A : List SV} {R : SV} (hE : Enters C.P o s [] f B) (hn : (isIdx o || isSt o) = false) (hs : Sy.Spec C.P f A [] R [])
    (hA : A = B) (hok : (innL [] A && R.inn []) = true) (hi : all[done.length]? = some o) (hw : guardV C.n all o s = some true) (hg : DR C k all (done ++ [⟨done.length, o, ⟨R, [], []⟩, true⟩]) rest (s.upd o.dst ⟨R, [], []⟩)) : DR C k all done (o :: rest) s := by
  have hid : ∀ x : SV, x.ren (assocN []) = x := fun x => ren_id x
  have hidL : ∀ x : List SV, renL (assocN []) x = x := fun x => renL_id x
  have := good_callE (s := s) (o := o) [] hE hs (by rw [hidL]; exact hA) trivial (by simp_all [callOK, rhoOK, subN, Obs.keys]) trivial
  rw [hid] at this
  exact stepD this hi hw hg hn
theorem callDC {all : Array Oper} {done : List Stp} {o : Oper} {rest : List Oper} {f : FuncId} {x : Operand} {xs : List Operand} {ts : Array TypeId} {first cap A : List SV} {R : SV} (hs : FunS C.P f A R) (h : o.op = .call ⟨.value x, xs.toArray, ts⟩) (hx : ev s x = .clo (.func f) first cap)
    (hA : A = first ++ xs.map (ev s) ++ cap) (hok : (innL [] A && R.inn []) = true) (hi : all[done.length]? = some o) (hw : guardV C.n all o s = some true) (hg : DR C k all (done ++ [⟨done.length, o, ⟨R, [], []⟩, true⟩]) rest (s.upd o.dst ⟨R, [], []⟩)) : DR C k all done (o :: rest) s := by
  obtain ⟨⟨fn, c, hf⟩, hs⟩ := hs
  exact call0DE (enters_clo h hx hf) (by simp [isIdx, isSt, h]) hs hA hok hi hw hg
theorem callDK {all : Array Oper} {done : List Stp} {o : Oper} {rest : List Oper} (V : List Nat) {f : FuncId} {fn : Func} {c : Code} {xs : List Operand} {ts : Array TypeId} {A : List SV} {R : SV} (hs : Sy.Spec C.P f A [] R []) (hf : Fun C.P f fn c) (h : o.op = .call ⟨.value (.func f), xs.toArray, ts⟩)
    (hA : VwL s V (xs.map (ev s)) A) (hok : (innL [] A && R.plain) = true) (hi : all[done.length]? = some o) (hw : guardV C.n all o s = some true) (hg : DR C k all (done ++ [⟨done.length, o, ⟨R, V, []⟩, true⟩]) rest (s.upd o.dst ⟨R, V, []⟩)) : DR C k all done (o :: rest) s := by
  simp only [Bool.and_eq_true] at hok
  exact stepD (good_callK V h hf hs hA hok.1 hok.2) hi hw hg (by simp [isIdx, isSt, h])
end Go.Sy

namespace Go.Sy
theorem copy_none {P : Program} (w : World) (dT sT ty elem : TypeId) (d a : Option Addr) (dLen dCap sLen sCap : Nat) {i : TypeInfo} (hu : P.underlying dT = some (.slice elem)) (hq : P.info? elem = some i) (_hi : i.size = 1) (hn : min sLen dLen = 0) :
    (Builtin.copy_ #[dT, sT] ty #[.slice d dLen dCap, .slice a sLen sCap]).run P w = .ok (.int .i64 0) w := by
  have hl : ∀ (x : Addr), (loadCells x 0).run P w = .ok #[] w := fun x => by simpa using run_loadCells_list (P := P) w x [] (by simp)
  have hn' : Nat.min sLen dLen = 0 := hn
  cases d <;> cases a <;> simp [Builtin.copy_, run_underlying hu, Builtin.lenOf, Builtin.firstCells, sizeOf, typeInfo, hq, hn', storeCells, hl] <;> rfl
theorem copy_some {P : Program} (w w' : World) (dT sT ty elem : TypeId) (d a : Addr) (dLen dCap sLen sCap : Nat) {i : TypeInfo} (cs : List Value) (hu : P.underlying dT = some (.slice elem)) (hq : P.info? elem = some i) (hi : i.size = 1) (hn : cs.length = min sLen dLen)
    (hsrc : ∀ j v, cs[j]? = some v → w.cell? (a.add j) = some v) (hst : (storeCells d cs 0).run P w = .ok () w') :
    (Builtin.copy_ #[dT, sT] ty #[.slice (some d) dLen dCap, .slice (some a) sLen sCap]).run P w = .ok (.int .i64 cs.length) w' := by
  have hl := run_loadCells_list (P := P) w a cs hsrc
  have hn' : cs.length = Nat.min sLen dLen := hn
  simp [Builtin.copy_, run_underlying hu, Builtin.lenOf, Builtin.firstCells, sizeOf, typeInfo, hq, hi, ← hn', hl, hst]
  rfl
theorem good_copy {P : Program} (Γ : Ty P) {o : Oper} {s : SS} {t : TypeId} {ti : TI} {et : TypeId} {eb k : Nat} {ez : List Value} {x y : Operand} {ks : List Nat} {α : Type} {e : α → SV} {l m : List α}
    (h : o.op = .call ⟨.builtin .copy, #[x, y], #[t, t]⟩) (ht : Γ.get t = some ti) (hk : ti.k = .slice et 1 eb ez) (hx : ev s x = .osl k) (ho' : s.h k = .row 1 e l) (hs : AppSrc s 1 (ev s y) ks m.length (rowF e m)) :
    Good P o s ⟨.val (.int .i64 (min m.length l.length : Nat)), ks, [(k, .row 1 e (m.take l.length ++ l.drop m.length))]⟩ := by
  intro κ a w hi hr ho N Q hN
  have h1 := hr x (by simp [h, Op.operands, Call.operands])
  have h2 := hr y (by simp [h, Op.operands, Call.operands])
  have h3 := ho k (.inr (by simp [Up.ws]))
  rw [ho'] at h3
  obtain ⟨hu, i, z, q1, q2, q3, q4, q5⟩ := slice_elem Γ ht hk
  have hsrc := hs.src h2 (fun j hj => ho j (.inl hj))
  have hlen : ∃ ad cap, a.eval x = .slice ad l.length cap ∧ (l ≠ [] → ∃ b c, κ k = .row b l.length c ∧ ad = some ⟨b, 0, none⟩) := by
    have := Ob.len_ok (ob := .row 1 e l) (n := l.length) rfl h3 (v := a.eval x) (by rw [← hx]; exact h1)
    obtain ⟨ad, cap, e1, e2⟩ := this
    exact ⟨ad, cap, e1, fun hl => e2 (by simpa using hl)⟩
  obtain ⟨ad, cap, e1, e2⟩ := hlen
  by_cases hz : min m.length l.length = 0
  · have hsame : m.take l.length ++ l.drop m.length = l := by
      rcases Nat.eq_zero_or_pos m.length with h0 | h0
      · have : m = [] := List.length_eq_zero_iff.1 h0
        subst this
        simp
      · have : l = [] := List.length_eq_zero_iff.1 (by omega)
        subst this
        simp
    have hsl : ∃ a' c', a.eval y = .slice a' m.length c' := by
      rcases hsrc with ⟨h0, _, a', c', h4⟩ | ⟨b, off, c', news, h4, _⟩
      · exact ⟨a', c', by rw [h4, h0]⟩
      · exact ⟨_, _, h4⟩
    obtain ⟨a', c', h4⟩ := hsl
    have hrun : (execOp a.eval o).run P w = .ok (.value (.int .i64 (min m.length l.length : Nat))) w := by
      have := copy_none (P := P) w t t o.type et ad a' l.length cap m.length c' hu q1 q2 hz
      rw [hz]
      simp [execOp, h, resolve, invoke, builtin, e1, h4, this]
    simp only [Oper.wp, hrun, Oper.upon]
    refine hN _ κ w ((step_killL [] κ hi).1.weaken (by simp)) hi (by simp [Rd]) (fun p hp => ?_)
    simp only [List.mem_singleton] at hp
    subst hp
    rw [hsame]
    exact h3
  · have hl : l ≠ [] := by rintro rfl; simp at hz
    have h4 := h3.rowAt hl
    obtain ⟨b, cap', cs, T, fr, f1, f2, f3, f4, f5, f6⟩ := h4
    obtain ⟨b', c', g1, g2⟩ := e2 hl
    rw [f1] at g1
    cases g1
    rcases hsrc with ⟨h0, _⟩ | ⟨b2, off, c2, news, g3, g4, g5, g6, g7⟩
    · simp [h0] at hz
    · have hn : (news.take (min m.length l.length)).length = min m.length l.length := by simp; omega
      obtain ⟨w', k1, k2, k3, k4, k5, k6, k7⟩ := run_storeCells_nf P b 0 T fr (news.take (min m.length l.length)) 0 cs w f2 f3 (by rw [hn]; omega) (fun v hv => g5 v (List.mem_of_mem_take hv))
      have hc := copy_some (P := P) w w' t t o.type et ⟨b, 0, none⟩ ⟨b2, off, none⟩ l.length cap m.length c2 (news.take (min m.length l.length)) hu q1 q2 hn (fun j v hv => by
        rw [Addr.add_lit]
        refine g6 j v ?_
        rw [List.getElem?_take] at hv
        split at hv
        · exact hv
        · cases hv) k1
      rw [hn] at hc
      have hrun : (execOp a.eval o).run P w = .ok (.value (.int .i64 (min m.length l.length : Nat))) w' := by
        subst g2
        simp [execOp, h, resolve, invoke, builtin, e1, g3, hc]
      simp only [Oper.wp, hrun, Oper.upon]
      obtain ⟨st, inv⟩ := step_write hi (k := k) (b := b) (by rw [f1]; rfl) k3 k4 k5 k6 k7
      refine hN _ κ w' (st.weaken (by simp [Up.ws])) inv (by simp [Rd]) (fun p hp => ?_)
      simp only [List.mem_singleton] at hp
      subst hp
      have hll : (m.take l.length ++ l.drop m.length).length = l.length := by simp; omega
      refine .inr ⟨b, cap', _, T, fr, by rw [hll]; exact f1, k2, by rw [setV_length]; exact f3, by rw [setV_length]; exact f4, by rw [hll]; exact f5, ?_⟩
      rintro j x ⟨hj, rfl⟩
      rw [hll] at hj
      refine ⟨by rw [hll]; exact hj, ?_⟩
      have hset := setV_get cs (news.take (min m.length l.length)) 0
      by_cases hjm : j < m.length
      · obtain ⟨_, u, u1, u2, u3, u4⟩ := g7 j (e m[j]) ⟨hjm, rfl⟩
        refine ⟨u, ?_, u2, u3, fun i hi' => ?_⟩
        · have : (m.take l.length ++ l.drop m.length)[j] = m[j] := by
            rw [List.getElem_append_left (by simp; omega), List.getElem_take]
          rw [this]
          exact RdD.keep st.keeps _ _ u1
        · have hi0 : i = 0 := by omega
          subst hi0
          simp only [Nat.mul_one, Nat.add_zero] at u4 ⊢
          rw [hset _ (by omega), if_pos (by omega), List.getElem?_take, if_pos (by omega)]
          have := u4 0 (by omega)
          simpa using this
      · obtain ⟨_, u, u1, u2, u3, u4⟩ := f6 j (e l[j]) ⟨hj, rfl⟩
        refine ⟨u, ?_, u2, u3, fun i hi' => ?_⟩
        · have : (m.take l.length ++ l.drop m.length)[j]'(by rw [hll]; exact hj) = l[j] := by
            rw [List.getElem_append_right (by simp; omega), List.getElem_drop]
            congr 1
            simp; omega
          rw [this]
          exact RdD.keep st.keeps _ _ u1
        · have hi0 : i = 0 := by omega
          subst hi0
          simp only [Nat.mul_one, Nat.add_zero] at u4 ⊢
          rw [hset _ (by omega), if_neg (by omega)]
          have := u4 0 (by omega)
          simpa using this
def CountInv (C : Cx) (n : Nat) (L : Nat → List (Nat × SV)) (O : Nat → Obs) (i : Nat) (a : Act) (w : World) : Prop :=
  ∃ x' : {j : Nat // j ≤ n}, ∃ κ, n - x'.1 < n - i ∧ St C.F C.n (mkS (L x'.1) (O x'.1)) κ a w
theorem G_count {C : Cx} {k : List KI} {s : SS} {body : Code} (n : Nat) (L : Nat → List (Nat × SV)) (O : Nat → Obs) (ρ : List (Nat × Nat)) (hsub : Sub C s ρ (L 0) (O 0))
    (h : ∀ i, i ≤ n → G C (.code body :: .inv (CountInv C n L O i) :: k) (mkS (L i) (O i))) : G C (.code (.loop body) :: k) s :=
  G_loop (α := {j : Nat // j ≤ n}) (fun x => L x.1) (fun x => O x.1) (fun x => n - x.1) ⟨0, Nat.zero_le _⟩ ρ hsub (fun x => h x.1 x.2)
theorem G_next {C : Cx} {k : List KI} {s : SS} {n : Nat} {L : Nat → List (Nat × SV)} {O : Nat → Obs} {i : Nat} (ρ : List (Nat × Nat)) (hi : i + 1 ≤ n) (hsub : Sub C s ρ (L (i + 1)) (O (i + 1))) : G C (.inv (CountInv C n L O i) :: k) s :=
  G_inv (α := {j : Nat // j ≤ n}) (L := fun x => L x.1) (O := fun x => O x.1) (μ := fun x => n - x.1) (x := ⟨i, by omega⟩) ⟨i + 1, hi⟩ ρ (by simp only; omega) hsub
end Go.Sy

namespace Go.Sy
inductive SrcT {α : Type} (s : SS) (sz : Nat) (e : α → SV) : SV → List Nat → List α → Prop
  | sl {l : List α} : SrcT s sz e (.sl sz e l) [] l
  | row {k : Nat} {l : List α} (h : s.h k = .row sz e l) : SrcT s sz e (.osl k) [k] l
  | lit {k : Nat} {l : List α} {svs : List SV} (h : s.h k = .lit sz svs) (hl : l.map e = svs) : SrcT s sz e (.osl k) [k] l
  | nil : SrcT s sz e (.val (.slice none 0 0)) [] []
inductive BaseT {α : Type} (s : SS) (sz : Nat) (e : α → SV) : SV → Option Nat → List α → Prop
  | nil : BaseT s sz e (.val (.slice none 0 0)) none []
  | row {k : Nat} {l : List α} (h : s.h k = .row sz e l) : BaseT s sz e (.osl k) (some k) l
  | lit {k : Nat} {l : List α} {svs : List SV} (h : s.h k = .lit sz svs) (hl : l.map e = svs) : BaseT s sz e (.osl k) (some k) l
theorem SrcT.src {α : Type} {s : SS} {sz : Nat} {e : α → SV} {x : SV} {ks : List Nat} {m : List α} (h : SrcT s sz e x ks m) : ∃ g, AppSrc s sz x ks m.length g ∧ ∀ i x, rowF e m i x → g i x := by
  cases h with
  | sl => exact ⟨_, .sl, fun _ _ h => h⟩
  | row h => exact ⟨_, .row h, fun _ _ h => h⟩
  | @lit k _ svs h hl => exact ⟨litF svs, by have := AppSrc.lit (sz := sz) h; rwa [← hl, List.length_map, hl] at this, fun i x hx => rowF_lit hl i x hx⟩
  | nil => exact ⟨_, .nil, fun i x hx => by obtain ⟨h, _⟩ := hx; simp at h⟩
theorem BaseT.base {α : Type} {s : SS} {sz : Nat} {e : α → SV} {x : SV} {k : Option Nat} {m : List α} (h : BaseT s sz e x k m) : ∃ g, AppBase s sz x k m.length g ∧ ∀ i x, rowF e m i x → g i x := by
  cases h with
  | row h => exact ⟨_, .row h, fun _ _ h => h⟩
  | @lit k _ svs h hl => exact ⟨litF svs, by have := AppBase.lit (sz := sz) h; rwa [← hl, List.length_map, hl] at this, fun i x hx => rowF_lit hl i x hx⟩
  | nil => exact ⟨_, .nil, fun i x hx => by obtain ⟨h, _⟩ := hx; simp at h⟩
theorem good_appendT {P : Program} (Γ : Ty P) {o : Oper} {s : SS} (d : Nat) {α : Type} {e : α → SV} {l m : List α} {t : TypeId} {ti : TI} {et : TypeId} {sz eb : Nat} {ez : List Value} {x y : Operand} {k : Option Nat} {ks : List Nat}
    (h : o.op = .call ⟨.builtin .append, #[x, y], #[t, t]⟩) (hd : s.h d = .fresh) (ht : Γ.get t = some ti) (hk : ti.k = .slice et sz eb ez) (hez : ez.length = sz)
    (hb : BaseT s sz e (ev s x) k l) (hs : SrcT s sz e (ev s y) ks m) (hkk : ∀ j, k = some j → j ≠ d) (hbytes : (l.length + m.length) * eb ≤ 140737488355328) (h63 : l.length + m.length ≤ 9223372036854775807) :
    Good P o s ⟨.osl d, ks, appObjs k d (.row sz e (l ++ m))⟩ := by
  obtain ⟨f, hb, hf⟩ := hb.base
  obtain ⟨g, hs, hg⟩ := hs.src
  exact good_append Γ h hd ht hk hez hb hs hkk hbytes h63 fun κ w hr => appF_row hr (by simp) (rowF_app hf hg)
theorem good_stringT {P : Program} (Γ : Ty P) {o : Oper} {s : SS} {src dst : TypeId} {si di ei : TI} {x : Operand} {et : TypeId} {eb : Nat} {ez : List Value} {ks : List Nat} {bs : List UInt8} (h : o.op = .convert src dst x)
    (hs : Γ.get src = some si) (hsk : si.k = .slice et 1 eb ez) (he : Γ.get et = some ei) (hek : ei.k = .int .u8) (hd : Γ.get dst = some di) (hdk : di.k = .string) (hx : SrcT s 1 byteSV (ev s x) ks bs) :
    Good P o s ⟨strSV ⟨bs.toArray⟩, ks, []⟩ := by
  obtain ⟨g, hx, hg⟩ := hx.src
  exact good_bytes_string Γ bs h hs hsk he hek hd hdk hx rfl (fun i hi => hg i _ ⟨hi, rfl⟩)
theorem G_move {C : Cx} {kk : List KI} {s : SS} (k d : Nat) (r : List Nat) {sz : Nat} {α : Type} {e : α → SV} {l : List α} (h : s.h k = .row sz e l) (hd : s.h d = .fresh) (hkd : k ≠ d) (hr : ∀ i ∈ r, s.σ i = .osl k)
    (hg : G C kk ⟨freezeσ s.σ (.osl d) r, upd (upd s.h k .non) d (.row sz e l)⟩) : G C kk s := fun κ a w hs => by
  have hob := hs.obj k
  rw [h] at hob
  have hnew : κ d = .new := by have := hs.obj d; rwa [hd] at this
  have fin : ∀ κ' : Ka, Step (fun j => j = k ∨ j = d) κ w κ' w → Inv κ' w → (∀ v, Rd κ w (.osl k) v → Rd κ' w (.osl d) v) → ObOK κ' w d (.row sz e l) → den C.P C.B kk .normal a w := by
    intro κ' st inv hv ho
    refine hg κ' a w ⟨hs.defers, hs.size, inv, hs.ctx.step inv st, fun j => ?_, fun j => ?_⟩
    · refine freezeσ_ok r _ j (Rd.step st _ _ (hs.slot j)) (fun hj => hv _ ?_)
      have := hs.slot j
      rwa [hr j hj] at this
    · show ObOK _ w j (upd (upd s.h k .non) d (.row sz e l) j)
      by_cases hj : j = d
      · subst hj; rw [upd_self]; exact ho
      · rw [upd_ne _ _ hj]
        by_cases hj2 : j = k
        · subst hj2; rw [upd_self]; trivial
        · rw [upd_ne _ _ hj2]; exact ObOK.step st (fun e => e.elim hj2 hj) _ (hs.obj j)
  rcases hob with ⟨h1, rfl⟩ | ⟨b, cap, cs, T, fr, e1, e2, e3, e4, e5, e6⟩
  · have st := step_new (inv_kill hs.inv (some k)) (by show setK κ k .dead d = .new; rw [setK_ne _ _ (Ne.symm hkd)]; exact hnew) (e := .nil) (Grew.refl w) (fun b hb => by cases hb)
    refine fin _ (((step_kill (some k)).weaken (fun j hj => .inl (Option.some.inj hj).symm)).trans (st.1.weaken (fun j hj => .inr hj))) st.2 (fun v hv => ?_) (.inl ⟨setK_self _ _ _, rfl⟩)
    simp only [Rd, h1] at hv
    simp [Rd, setK_self, hv]
  · obtain ⟨st, inv⟩ := step_over (n' := l.length) (w' := w) hs.inv e1 hnew rfl rfl rfl rfl (fun _ _ => rfl)
    refine fin _ st inv (fun v hv => ?_) (.inr ⟨b, cap, cs, T, fr, setK_self _ _ _, e2, e3, e4, e5, fun i x hx => ?_⟩)
    · simp only [Rd, e1] at hv
      simp [Rd, setK_self, hv]
    · obtain ⟨q1, u, q2, q3⟩ := e6 i x hx
      exact ⟨q1, u, RdD.keep st.keeps _ _ q2, q3⟩
mutual
def frz (d : Nat) (x : SV) : SV → SV
  | .osl k => bif Nat.beq k d then x else .osl k
  | .agg l => .agg (frzL d x l)
  | .tup l => .tup (frzL d x l)
  | .ifc t y => .ifc t (frz d x y)
  | .clo f g l => .clo f (frzL d x g) (frzL d x l)
  | y => y
def frzL (d : Nat) (x : SV) : List SV → List SV
  | [] => []
  | y :: l => frz d x y :: frzL d x l
end
mutual
theorem frz_ok {κ κ' : Ka} {w : World} {K : Nat → Prop} {d : Nat} {x : SV} (st : Step K κ w κ' w) (hx : ∀ v, Rd κ w (.osl d) v → Rd κ' w x v) : ∀ (y : SV) (v : Value), Rd κ w y v → Rd κ' w (frz d x y) v
  | .osl k, v, h => by
    unfold frz
    by_cases hk : k = d
    · subst hk; rw [show Nat.beq k k = true from Nat.beq_refl k]; exact hx v h
    · rw [show Nat.beq k d = false from by cases hb : Nat.beq k d with | false => rfl | true => exact absurd (Nat.eq_of_beq_eq_true hb) hk]; exact Rd.step st _ _ h
  | .agg l, v, h => by
    simp only [Rd] at h
    unfold frz
    simp only [Rd]
    obtain ⟨cs, h1, h2, h3⟩ := h
    exact ⟨cs, h1, h2, frzL_ok st hx l cs h3⟩
  | .tup l, v, h => by
    simp only [Rd] at h
    unfold frz
    simp only [Rd]
    obtain ⟨cs, h1, h3⟩ := h
    exact ⟨cs, h1, frzL_ok st hx l cs h3⟩
  | .ifc t y, v, h => by
    simp only [Rd] at h
    unfold frz
    simp only [Rd]
    obtain ⟨u, h1, h3⟩ := h
    exact ⟨u, h1, frz_ok st hx y u h3⟩
  | .clo f g l, v, h => by
    simp only [Rd] at h
    unfold frz
    simp only [Rd]
    obtain ⟨fs, cs, h1, h2, h3⟩ := h
    exact ⟨fs, cs, h1, frzL_ok st hx g fs h2, frzL_ok st hx l cs h3⟩
  | .top, v, h => by unfold frz; exact Rd.step st _ _ h
  | .val u, v, h => by unfold frz; exact Rd.step st _ _ h
  | .sl sz e l, v, h => by unfold frz; exact Rd.step st _ _ h
  | .ref sz z o, v, h => by unfold frz; exact Rd.step st _ _ h
  | .ptr k o, v, h => by unfold frz; exact Rd.step st _ _ h
  | .rpt k sz i o, v, h => by unfold frz; exact Rd.step st _ _ h
theorem frzL_ok {κ κ' : Ka} {w : World} {K : Nat → Prop} {d : Nat} {x : SV} (st : Step K κ w κ' w) (hx : ∀ v, Rd κ w (.osl d) v → Rd κ' w x v) : ∀ (l : List SV) (vs : List Value), RdL κ w l vs → RdL κ' w (frzL d x l) vs
  | [], vs, h => by
    unfold frzL
    simpa [RdL] using h
  | y :: l, vs, h => by
    simp only [RdL] at h
    unfold frzL
    simp only [RdL]
    obtain ⟨v, r, h1, h2, h3⟩ := h
    exact ⟨v, r, h1, frz_ok st hx y v h2, frzL_ok st hx l r h3⟩
end
def frzO (d : Nat) (x : SV) : Ob → Ob
  | .box l => .box (frzL d x l)
  | o => o
theorem G_data {C : Cx} {k : List KI} {s : SS} (d : Nat) {sz : Nat} {α : Type} {e : α → SV} {l : List α} (h : s.h d = .row sz e l) (hg : G C k ⟨fun i => frz d (.sl sz e l) (s.σ i), fun j => bif Nat.beq j d then .non else frzO d (.sl sz e l) (s.h j)⟩) : G C k s := fun κ a w hs => by
  have hob := hs.obj d
  rw [h] at hob
  have st := step_kill (κ := κ) (w := w) (some d)
  have inv := inv_kill hs.inv (some d)
  have hx : ∀ v, Rd κ w (.osl d) v → Rd (setK κ d .dead) w (.sl sz e l) v := fun v hv => by
    rcases hob with ⟨h1, rfl⟩ | h1
    · simp only [Rd, h1] at hv
      simp only [Rd, RdD]
      exact .inl ⟨by simp, none, 0, hv⟩
    · refine h1.freeze hv st.keeps.out (fun b hb => ⟨hs.inv.bnd d b hb, ?_⟩)
      rintro (⟨q, hq⟩ | hq)
      · by_cases hqd : q = d
        · subst hqd; rw [setK_self] at hq; cases hq
        · rw [setK_ne _ _ hqd] at hq
          exact hqd (hs.inv.inj q d b hq hb)
      · exact hs.inv.apart d b hb hq
  refine hg (setK κ d .dead) a w ⟨hs.defers, hs.size, inv, hs.ctx.step inv st, fun j => frz_ok st hx _ _ (hs.slot j), fun j => ?_⟩
  show ObOK _ w j (bif Nat.beq j d then .non else frzO d (.sl sz e l) (s.h j))
  by_cases hj : j = d
  · subst hj; rw [show Nat.beq j j = true from Nat.beq_refl j]; trivial
  · rw [show Nat.beq j d = false from by cases hb : Nat.beq j d with | false => rfl | true => exact absurd (Nat.eq_of_beq_eq_true hb) hj]
    have hb := ObOK.step st (fun e => hj (Option.some.inj e).symm) _ (hs.obj j)
    have h0 := hs.obj j
    show ObOK _ w j (frzO d (.sl sz e l) (s.h j))
    cases hh : s.h j with
    | box m =>
      rw [hh] at h0 hb
      obtain ⟨b, cs, T, fr, e1, e2, e3, e4, e5⟩ := h0
      exact ⟨b, cs, T, fr, by show setK κ d .dead j = _; rw [setK_ne _ _ hj]; exact e1, e2, e3, e4, frzL_ok st hx m cs e5⟩
    | fresh => rw [hh] at hb; exact hb
    | non => rw [hh] at hb; exact hb
    | row sz' e' l' => rw [hh] at hb; exact hb
    | lit sz' svs => rw [hh] at hb; exact hb
    | glob sz' x' g' => rw [hh] at hb; exact hb
    | pin b' n' cap' sz' e' l' => rw [hh] at hb; exact hb
    | dat v' sz' e' l' => rw [hh] at hb; exact hb
def CountInvP (C : Cx) (n : Nat) (I : Nat → Prop) (L : Nat → List (Nat × SV)) (O : Nat → Obs) (i : Nat) (a : Act) (w : World) : Prop :=
  ∃ x' : {j : Nat // j ≤ n ∧ I j}, ∃ κ, n - x'.1 < n - i ∧ St C.F C.n (mkS (L x'.1) (O x'.1)) κ a w
theorem G_countP {C : Cx} {k : List KI} {s : SS} {body : Code} (n : Nat) (I : Nat → Prop) (L : Nat → List (Nat × SV)) (O : Nat → Obs) (ρ : List (Nat × Nat)) (h0 : I 0) (hsub : Sub C s ρ (L 0) (O 0))
    (h : ∀ i, i ≤ n → I i → G C (.code body :: .inv (CountInvP C n I L O i) :: k) (mkS (L i) (O i))) : G C (.code (.loop body) :: k) s :=
  G_loop (α := {j : Nat // j ≤ n ∧ I j}) (fun x => L x.1) (fun x => O x.1) (fun x => n - x.1) ⟨0, Nat.zero_le _, h0⟩ ρ hsub (fun x => h x.1 x.2.1 x.2.2)
theorem G_nextP {C : Cx} {k : List KI} {s : SS} {n : Nat} {I : Nat → Prop} {L : Nat → List (Nat × SV)} {O : Nat → Obs} {i : Nat} (ρ : List (Nat × Nat)) (h0 : I i) (hi : i + 1 ≤ n) (h1 : I (i + 1)) (hsub : Sub C s ρ (L (i + 1)) (O (i + 1))) : G C (.inv (CountInvP C n I L O i) :: k) s :=
  G_inv (α := {j : Nat // j ≤ n ∧ I j}) (L := fun x => L x.1) (O := fun x => O x.1) (μ := fun x => n - x.1) (x := ⟨i, by omega, h0⟩) ⟨i + 1, hi, h1⟩ ρ (by simp only; omega) hsub
end Go.Sy

namespace Go.Sy
mutual
def frb (d sz : Nat) (x : SV) : SV → SV
  | .ptr k o => bif Nat.beq k d then .ref sz x o else .ptr k o
  | .agg l => .agg (frbL d sz x l)
  | .tup l => .tup (frbL d sz x l)
  | .ifc t y => .ifc t (frb d sz x y)
  | .clo f g l => .clo f (frbL d sz x g) (frbL d sz x l)
  | y => y
def frbL (d sz : Nat) (x : SV) : List SV → List SV
  | [] => []
  | y :: l => frb d sz x y :: frbL d sz x l
end
mutual
theorem frb_ok {κ κ' : Ka} {w : World} {K : Nat → Prop} {d sz : Nat} {x : SV} (st : Step K κ w κ' w) (hx : ∀ o v, Rd κ w (.ptr d o) v → Rd κ' w (.ref sz x o) v) : ∀ (y : SV) (v : Value), Rd κ w y v → Rd κ' w (frb d sz x y) v
  | .ptr k o, v, h => by
    unfold frb
    by_cases hk : k = d
    · subst hk; rw [show Nat.beq k k = true from Nat.beq_refl k]; exact hx o v h
    · rw [show Nat.beq k d = false from by cases hb : Nat.beq k d with | false => rfl | true => exact absurd (Nat.eq_of_beq_eq_true hb) hk]; exact Rd.step st _ _ h
  | .agg l, v, h => by
    simp only [Rd] at h
    unfold frb
    simp only [Rd]
    obtain ⟨cs, h1, h2, h3⟩ := h
    exact ⟨cs, h1, h2, frbL_ok st hx l cs h3⟩
  | .tup l, v, h => by
    simp only [Rd] at h
    unfold frb
    simp only [Rd]
    obtain ⟨cs, h1, h3⟩ := h
    exact ⟨cs, h1, frbL_ok st hx l cs h3⟩
  | .ifc t y, v, h => by
    simp only [Rd] at h
    unfold frb
    simp only [Rd]
    obtain ⟨u, h1, h3⟩ := h
    exact ⟨u, h1, frb_ok st hx y u h3⟩
  | .clo f g l, v, h => by
    simp only [Rd] at h
    unfold frb
    simp only [Rd]
    obtain ⟨fs, cs, h1, h2, h3⟩ := h
    exact ⟨fs, cs, h1, frbL_ok st hx g fs h2, frbL_ok st hx l cs h3⟩
  | .top, v, h => by unfold frb; exact Rd.step st _ _ h
  | .val u, v, h => by unfold frb; exact Rd.step st _ _ h
  | .sl sz e l, v, h => by unfold frb; exact Rd.step st _ _ h
  | .ref sz z o, v, h => by unfold frb; exact Rd.step st _ _ h
  | .rpt k sz i o, v, h => by unfold frb; exact Rd.step st _ _ h
  | .osl k, v, h => by unfold frb; exact Rd.step st _ _ h
theorem frbL_ok {κ κ' : Ka} {w : World} {K : Nat → Prop} {d sz : Nat} {x : SV} (st : Step K κ w κ' w) (hx : ∀ o v, Rd κ w (.ptr d o) v → Rd κ' w (.ref sz x o) v) : ∀ (l : List SV) (vs : List Value), RdL κ w l vs → RdL κ' w (frbL d sz x l) vs
  | [], vs, h => by
    unfold frbL
    simpa [RdL] using h
  | y :: l, vs, h => by
    simp only [RdL] at h
    unfold frbL
    simp only [RdL]
    obtain ⟨v, r, h1, h2, h3⟩ := h
    exact ⟨v, r, h1, frb_ok st hx y v h2, frbL_ok st hx l r h3⟩
end
def frbO (d sz : Nat) (x : SV) : Ob → Ob
  | .box l => .box (frbL d sz x l)
  | o => o
theorem box_freeze {κ κ' : Ka} {w : World} {d sz : Nat} {l : List SV} {x : SV} (h : ObOK κ w d (.box l)) (hl : cellsOf x = l) (hb : x.boxed = true) (_hd : dataL l = true) (hsz : l.length = sz) (ho : ∀ b, b < w.heap.size → ¬ Own κ b → ¬ Own κ' b)
    (hdead : ∀ b, (κ d).block? = some b → b < w.heap.size ∧ ¬ Own κ' b) (hxd : x.data = true) (o : Nat) (v : Value) (hv : Rd κ w (.ptr d o) v) : Rd κ' w (.ref sz x o) v := by
  obtain ⟨b, cs, T, fr, e1, e2, e3, e4, e5⟩ := h
  simp only [Rd, e1] at hv
  obtain ⟨h1, h2⟩ := hdead b (by rw [e1]; rfl)
  rw [← hl] at e5
  obtain ⟨u, f1, f2⟩ := Rd.of_cells hb e4 e5
  simp only [Rd, RdD]
  refine ⟨b, 0, u, by rw [Nat.zero_add]; exact hv, h2, h1, RdD.keep ⟨Nat.le_refl _, fun _ _ _ => rfl, ho⟩ _ _ (Rd.data _ _ hxd f1), ?_, by rw [f2]; exact e4, fun j hj => ?_⟩
  · have := e5.length
    rw [← hsz, ← hl, ← this, ← f2]
    simp
  · rw [Nat.zero_add, cell_of_row w b _ cs.toArray T fr e2, ← f2]
theorem G_box {C : Cx} {k : List KI} {s : SS} (d sz : Nat) (x : SV) {l : List SV} (h : s.h d = .box l) (hl : cellsOf x = l) (hc : (x.boxed && x.data && dataL l && Nat.beq l.length sz) = true)
    (hg : G C k ⟨fun i => frb d sz x (s.σ i), fun j => bif Nat.beq j d then .non else frbO d sz x (s.h j)⟩) : G C k s := fun κ a w hs => by
  simp only [Bool.and_eq_true] at hc
  obtain ⟨⟨⟨hb, hxd⟩, hd⟩, hsz⟩ := hc
  have hsz := Nat.eq_of_beq_eq_true hsz
  have hob := hs.obj d
  rw [h] at hob
  have st := step_kill (κ := κ) (w := w) (some d)
  have inv := inv_kill hs.inv (some d)
  have hx : ∀ o v, Rd κ w (.ptr d o) v → Rd (setK κ d .dead) w (.ref sz x o) v := fun o v hv =>
    box_freeze hob hl hb hd hsz st.keeps.out (fun b hb => ⟨hs.inv.bnd d b hb, by
      rintro (⟨q, hq⟩ | hq)
      · by_cases hqd : q = d
        · subst hqd; change (setK κ q .dead q).block? = some b at hq; rw [setK_self] at hq; cases hq
        · change (setK κ d .dead q).block? = some b at hq
          rw [setK_ne _ _ hqd] at hq
          exact hqd (hs.inv.inj q d b hq hb)
      · exact hs.inv.apart d b hb hq⟩) hxd o v hv
  refine hg (setK κ d .dead) a w ⟨hs.defers, hs.size, inv, hs.ctx.step inv st, fun j => frb_ok st hx _ _ (hs.slot j), fun j => ?_⟩
  show ObOK _ w j (bif Nat.beq j d then .non else frbO d sz x (s.h j))
  by_cases hj : j = d
  · subst hj; rw [show Nat.beq j j = true from Nat.beq_refl j]; trivial
  · rw [show Nat.beq j d = false from by cases hb : Nat.beq j d with | false => rfl | true => exact absurd (Nat.eq_of_beq_eq_true hb) hj]
    have hb := ObOK.step st (fun e => hj (Option.some.inj e).symm) _ (hs.obj j)
    have h0 := hs.obj j
    show ObOK _ w j (frbO d sz x (s.h j))
    cases hh : s.h j with
    | box m =>
      rw [hh] at h0 hb
      obtain ⟨b, cs, T, fr, e1, e2, e3, e4, e5⟩ := h0
      exact ⟨b, cs, T, fr, by show setK κ d .dead j = _; rw [setK_ne _ _ hj]; exact e1, e2, e3, e4, frbL_ok st hx m cs e5⟩
    | fresh => rw [hh] at hb; exact hb
    | non => rw [hh] at hb; exact hb
    | row sz' e' l' => rw [hh] at hb; exact hb
    | lit sz' svs => rw [hh] at hb; exact hb
    | glob sz' x' g' => rw [hh] at hb; exact hb
    | pin b' n' cap' sz' e' l' => rw [hh] at hb; exact hb
    | dat v' sz' e' l' => rw [hh] at hb; exact hb
theorem G_nilsl {C : Cx} {k : List KI} {s : SS} (d sz : Nat) {α : Type} (e : α → SV) (h : s.σ d = .val (.slice none 0 0)) (hg : G C k ⟨upd s.σ d (.sl sz e []), s.h⟩) : G C k s :=
  G_set d (fun κ w v hv => by
    rw [h] at hv
    simp only [Rd] at hv
    simp only [Rd, RdD]
    exact .inl ⟨trivial, none, 0, hv⟩) hg
end Go.Sy
