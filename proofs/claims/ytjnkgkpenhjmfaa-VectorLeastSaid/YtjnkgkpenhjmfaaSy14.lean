/-
  The symbolic layer, 14: what is reckoned is so.
-/
import Derived.Test.YtjnkgkpenhjmfaaSy13
namespace Go.Sy

theorem map_back {ps : Array (Nat × Operand)} : ps = ps.toList.toArray := by simp

theorem intOp_ok {P : Program} {o : Oper} {s : SS} {op : BinOp} {t yt : TypeId} {x y : Operand} {k : IntKind} {m n : Int} {K : Up → Prop} {stop : Prop} (h : o.op = .binOp op t x y yt)
    (hx : ev s x = .val (.int k m)) (hy : ev s y = .val (.int k n)) (hw : intOp op k m n (fun v => K ⟨v, [], []⟩) stop) : (∃ U, Good P o s U ∧ K U) ∨ stop := by
  have mk : ∀ u : Value, (∀ w, (binOp op t (.int k m) (.int k n)).run P w = .ok u w) → K ⟨.val u, [], []⟩ → (∃ U, Good P o s U ∧ K U) ∨ stop := fun u hu hk => .inl ⟨_, good_int h hx hy hu, hk⟩
  unfold intOp at hw
  split at hw
  · split at hw
    · exact mk _ (fun w => by simp [binOp_add, Op.intArith, hw.1.wrap]) hw.2
    · exact mk _ (fun w => by simp [binOp_add, Op.intArith]) hw
  · split at hw
    · exact mk _ (fun w => by simp [binOp_sub, Op.intArith, hw.1.wrap]) hw.2
    · exact mk _ (fun w => by simp [binOp_sub, Op.intArith]) hw
  · split at hw
    · exact mk _ (fun w => by simp [binOp_mul, Op.intArith, hw.1.wrap]) hw.2
    · exact mk _ (fun w => by simp [binOp_mul, Op.intArith]) hw
  · exact mk _ (fun w => by simp [binOp_quo, Op.intDiv, hw.1]) hw.2
  · exact mk _ (fun w => by simp [binOp_rem, Op.intDiv, hw.1]) hw.2
  · exact mk _ (fun w => by simp [binOp_and, intBits_and]) hw
  · exact mk _ (fun w => by simp [binOp_or, intBits_or]) hw
  · exact mk _ (fun w => by simp [binOp_xor, intBits_xor]) hw
  · exact mk _ (fun w => by simp [binOp_andNot, intBits_andNot]) hw
  · exact mk _ (fun w => by simp [binOp_lss]) hw
  · exact mk _ (fun w => by simp [binOp_leq]) hw
  · exact mk _ (fun w => by simp [binOp_gtr]) hw
  · exact mk _ (fun w => by simp [binOp_geq]) hw
  · exact mk _ (fun w => by simp [binOp_eql]) hw
  · exact mk _ (fun w => by simp [binOp_neq]) hw
  · exact .inr hw

theorem good_shift {P : Program} {o : Oper} {s : SS} {op : BinOp} {t yt : TypeId} {x y : Operand} {k k' : IntKind} {m n : Int} {u : Value} (h : o.op = .binOp op t x y yt)
    (hx : ev s x = .val (.int k m)) (hy : ev s y = .val (.int k' n)) (hr : ∀ w, (binOp op t (.int k m) (.int k' n)).run P w = .ok u w) : Good P o s ⟨.val u, [], []⟩ :=
  Good.pure fun κ a w _ hrd _ => by
    have h1 := hrd x (by simp [h, Op.operands])
    have h2 := hrd y (by simp [h, Op.operands])
    rw [hx] at h1
    rw [hy] at h2
    refine ⟨u, ?_, by simp [Rd]⟩
    simp [execOp, h, h1.val, h2.val, eqGuard_at_int, hr]

theorem shiftOp_ok {P : Program} {o : Oper} {s : SS} {op : BinOp} {t yt : TypeId} {x y : Operand} {k k' : IntKind} {m n : Int} {K : Up → Prop} {stop : Prop} (h : o.op = .binOp op t x y yt)
    (hx : ev s x = .val (.int k m)) (hy : ev s y = .val (.int k' n)) (hw : shiftOp op k m n (fun v => K ⟨v, [], []⟩) stop) : (∃ U, Good P o s U ∧ K U) ∨ stop := by
  unfold shiftOp at hw
  split at hw
  · have hn : ¬ n < 0 := by omega
    exact .inl ⟨_, good_shift (u := .int k (k.wrap (m * 2 ^ (min n.toNat k.bits)))) h hx hy (fun w => by simp [binOp_shl, Op.shift, hn]), hw.2⟩
  · have hn : ¬ n < 0 := by omega
    exact .inl ⟨_, good_shift (u := .int k (m.fdiv (2 ^ (min n.toNat k.bits)))) h hx hy (fun w => by simp [binOp_shr, Op.shift, hn]), hw.2⟩
  · exact .inr hw

theorem strOp_ok {P : Program} {o : Oper} {s : SS} {op : BinOp} {t yt : TypeId} {x y : Operand} {m n : ByteArray} {K : Up → Prop} {stop : Prop} (h : o.op = .binOp op t x y yt)
    (hx : ev s x = .val (.string m)) (hy : ev s y = .val (.string n)) (hw : strOp op m n (fun v => K ⟨v, [], []⟩) stop) : (∃ U, Good P o s U ∧ K U) ∨ stop := by
  unfold strOp at hw
  split at hw
  · have hn : ¬ (9223372036854775807 < ((m.size + n.size : Nat) : Int)) := by omega
    refine .inl ⟨_, good_string (u := .string (m ++ n)) h (by simp) hx hy (fun w => ?_), hw.2⟩
    simp only [Op.stringOp, IntKind.max_i64]
    rw [if_neg hn]
    rfl
  · exact .inl ⟨_, good_string (u := .bool (m == n)) h (by simp) hx hy (fun w => by simp [Op.stringOp, beq_toListBytes]), hw⟩
  · exact .inl ⟨_, good_string (u := .bool (!(m == n))) h (by simp) hx hy (fun w => by simp [Op.stringOp, beq_toListBytes]), hw⟩
  · exact .inl ⟨_, good_string (u := .bool (Op.bytesLess m.toList n.toList)) h (by simp) hx hy (fun w => by simp [Op.stringOp]), hw⟩
  · exact .inr hw

theorem opW_ok {P : Program} {Γ : TyE P} {o : Oper} {s : SS} {K : Up → Prop} {stop : Prop} (h : opW Γ o s K stop) : (∃ U, Good P o s U ∧ K U) ∨ stop := by
  cases hop : o.op with
  | move x =>
    simp only [opW, hop, fv_iff] at h
    exact .inl ⟨_, good_move (.inl hop), h⟩
  | assign x =>
    simp only [opW, hop, fv_iff] at h
    exact .inl ⟨_, good_move (.inr hop), h⟩
  | pick c a b =>
    simp only [opW, hop, fv_iff] at h
    split at h
    · rename_i cc hc
      cases cc
      · exact .inl ⟨_, good_pick hop hc, h⟩
      · exact .inl ⟨_, good_pick hop hc, h⟩
    · exact .inr h
  | alloc t =>
    simp only [opW, hop, fl_iff] at h
    split at h
    · rename_i d hd
      split at h
      · rename_i hf
        split at h
        · rename_i i hi
          split at h
          · rename_i h1
            exact .inl ⟨_, good_alloc Γ.toTy hop hf hi h1, h⟩
          · exact .inr h
        · exact .inr h
      · exact .inr h
    · exact .inr h
  | box t x =>
    simp only [opW, hop, fl_iff] at h
    split at h
    · rename_i d hd
      split at h
      · rename_i hf
        split at h
        · rename_i h1
          exact .inl ⟨_, good_box hop hf h1, h⟩
        · exact .inr h
      · exact .inr h
    · exact .inr h
  | load t x =>
    simp only [opW, hop, fa_iff] at h
    split at h
    · rename_i i hi
      split at h
      · rename_i k off hx
        split at h
        · rename_i l hk
          split at h
          · rename_i y hy
            exact .inl ⟨_, good_load_ptr Γ.toTy hop hx hi hk hy, h⟩
          · exact .inr h
        · exact .inr h
      · rename_i sz z off hx
        split at h
        · rename_i hz
          split at h
          · rename_i y hy
            exact .inl ⟨_, good_load_ref Γ.toTy hop hx hi hz hy, h⟩
          · exact .inr h
        · exact .inr h
      · rename_i k sz n off hx
        split at h
        · rename_i sz' α e l hk
          obtain ⟨rfl, hn, h⟩ := h
          split at h
          · rename_i hz
            split at h
            · rename_i y hy
              have hne : l ≠ [] := by intro he; subst he; simp at hn
              refine .inl ⟨_, good_load_row (n := l.length) (f := rowF e l) Γ.toTy hop hx hi (fun κ w ho => ?_) ⟨hn, rfl⟩ hz hy, h⟩
              rw [hk] at ho
              exact ho.rowAt hne
            · exact h.elim
          · exact h.elim
        · rename_i sz' svs hk
          obtain ⟨rfl, h⟩ := h
          split at h
          · rename_i z hz0
            split at h
            · rename_i hz
              split at h
              · rename_i y hy
                refine .inl ⟨_, good_load_row (n := svs.length) (f := litF svs) Γ.toTy hop hx hi (fun κ w ho => ?_) hz0 hz hy, h⟩
                rw [hk] at ho
                exact ho
              · exact h.elim
            · exact h.elim
          · exact h.elim
        · exact .inr h
      · exact .inr h
    · exact .inr h
  | store t x y =>
    simp only [opW, hop, fl_iff] at h
    split at h
    · rename_i i hi
      split at h
      · rename_i k off hx
        split at h
        · rename_i l hk
          split at h
          · rename_i hc
            simp only [Bool.and_eq_true] at hc
            exact .inl ⟨_, good_store_ptr Γ.toTy hop hx hi hk hc.1.1 (Nat.eq_of_beq_eq_true hc.1.2) (Nat.le_of_ble_eq_true hc.2), h⟩
          · exact .inr h
        · exact .inr h
      · rename_i k sz n off hx
        split at h
        · rename_i sz' α e l hk
          obtain ⟨rfl, hn, z, hz, hc, h⟩ := h
          simp only [Bool.and_eq_true] at hc
          obtain ⟨⟨⟨⟨⟨c1, c2⟩, c3⟩, c4⟩, c5⟩, c6⟩ := hc
          exact .inl ⟨_, good_store_row Γ.toTy hop hx hi hk c1 (Nat.eq_of_beq_eq_true c2) (Nat.le_of_ble_eq_true c3) hn hz c4 c5 c6, h⟩
        · exact .inr h
      · exact .inr h
    · exact .inr h
  | fieldAddr t x f =>
    simp only [opW, hop] at h
    split at h
    · rename_i i hi
      split at h
      · rename_i fs hk
        split at h
        · rename_i fo fn hf
          split at h
          · exact .inr h
          · rename_i fn'
            split at h
            · rename_i k off hx
              split at h
              · rename_i l hb
                exact .inl ⟨_, good_fieldAddr Γ.toTy hop hi hk hf (by omega) (.inl ⟨k, off, l, hx, hb, rfl, rfl⟩), h⟩
              · exact .inr h
            · rename_i sz z off hx
              exact .inl ⟨_, good_fieldAddr Γ.toTy hop hi hk hf (by omega) (.inr (.inl ⟨sz, z, off, hx, rfl, rfl⟩)), h⟩
            · rename_i k sz n off hx
              split at h
              · rename_i sz' α e l hb
                obtain ⟨hne, h⟩ := h
                refine .inl ⟨_, good_fieldAddr Γ.toTy hop hi hk hf (by omega) (.inr (.inr ⟨k, sz, n, off, hx, fun κ w ho => ?_, rfl, rfl⟩)), h⟩
                rw [hb] at ho
                obtain ⟨b, cap, _, _, _, e1, _⟩ := ho.rowAt hne
                exact ⟨b, _, cap, e1⟩
              · rename_i sz' svs hb
                refine .inl ⟨_, good_fieldAddr Γ.toTy hop hi hk hf (by omega) (.inr (.inr ⟨k, sz, n, off, hx, fun κ w ho => ?_, rfl, rfl⟩)), h⟩
                rw [hb] at ho
                obtain ⟨b, cap, _, _, _, e1, _⟩ := ho
                exact ⟨b, _, cap, e1⟩
              · exact .inr h
            · exact .inr h
        · exact .inr h
      · exact .inr h
    · exact .inr h
  | nilCheck x =>
    simp only [opW, hop] at h
    split at h
    · rename_i k off hx
      split at h
      · rename_i l hb
        have := good_nilCheck (P := P) (rd := [k]) hop (.inl ⟨k, off, l, hx, hb, rfl⟩)
        rw [hx] at this
        exact .inl ⟨_, this, h⟩
      · exact .inr h
    · rename_i sz z off hx
      have := good_nilCheck (P := P) (rd := []) hop (.inr (.inl ⟨sz, z, off, hx, rfl⟩))
      rw [hx] at this
      exact .inl ⟨_, this, h⟩
    · rename_i fn first cap hx
      split at h
      · rename_i f
        have := good_nilCheck (P := P) (rd := []) hop (.inr (.inr (.inl ⟨f, first, cap, hx, rfl⟩)))
        rw [hx] at this
        exact .inl ⟨_, this, h⟩
      · exact .inr h
    · exact .inr h
  | indexAddr t x y =>
    simp only [opW, hop] at h
    split at h
    · rename_i i hi
      split at h
      · rename_i et esz eb ez hk
        split at h
        · rename_i ik n hy
          split at h
          · rename_i sz α e l hx
            obtain ⟨rfl, h0, hn, h⟩ := h
            exact .inl ⟨_, good_indexAddr_sl Γ.toTy hop hi hk hx hy h0 hn, h⟩
          · rename_i k hx
            split at h
            · rename_i len hl
              exact .inl ⟨_, good_indexAddr_osl Γ.toTy hop hi hk hx hl hy h.1 h.2.1, h.2.2⟩
            · exact .inr h
          · exact .inr h
        · exact .inr h
      · exact .inr h
    · exact .inr h
  | binOp op t x y yt =>
    simp only [opW, hop] at h
    split at h
    · rename_i k a k' b hx hy
      split at h
      · exact shiftOp_ok hop hx hy h
      · split at h
        · rename_i hkk
          subst hkk
          exact intOp_ok hop hx hy h
        · exact .inr h
    · rename_i a b hx hy
      exact strOp_ok hop hx hy h
    · rename_i p q hx hy
      split at h
      · rename_i i hi
        split at h
        · rename_i hk
          split at h
          · exact .inl ⟨_, good_eq_bool Γ.toTy hop (.inl rfl) hi hk hx hy, h⟩
          · exact .inl ⟨_, good_eq_bool Γ.toTy hop (.inr rfl) hi hk hx hy, h⟩
          · exact .inr h
        · exact .inr h
      · exact .inr h
    · rename_i l m hx hy
      split at h
      · rename_i ks hks
        split at h
        · rename_i r hr
          split at h
          · exact .inl ⟨_, good_eq_agg hop (.inl rfl) (Γ.eqok t ks hks) hx hy hr, h⟩
          · exact .inl ⟨_, good_eq_agg hop (.inr rfl) (Γ.eqok t ks hks) hx hy hr, h⟩
          · exact .inr h
        · exact .inr h
      · exact .inr h
    · rename_i k off hx hy
      split at h
      · rename_i l hb
        split at h
        · rename_i i hi
          split at h
          · rename_i hk
            split at h
            · exact .inl ⟨_, good_eq_nil Γ.toTy hop (.inl rfl) hi hk hy (.inl ⟨k, off, l, hx, hb, rfl, rfl⟩), h⟩
            · exact .inl ⟨_, good_eq_nil Γ.toTy hop (.inr rfl) hi hk hy (.inl ⟨k, off, l, hx, hb, rfl, rfl⟩), h⟩
            · exact .inr h
          · exact .inr h
        · exact .inr h
      · exact .inr h
    · exact .inr h
  | unOp op t x =>
    simp only [opW, hop] at h
    split at h
    · rename_i b hx
      exact .inl ⟨_, good_not hop hx, h⟩
    · rename_i k n hx
      exact .inl ⟨_, good_neg hop hx, h⟩
    · exact .inr h
  | extract x i =>
    simp only [opW, hop, fa_iff] at h
    split at h
    · rename_i l hx
      split at h
      · rename_i y hy
        exact .inl ⟨_, good_extract hop hx hy, h⟩
      · exact .inr h
    · exact .inr h
  | convert src dst x =>
    simp only [opW, hop] at h
    split at h
    · rename_i si di hs hd
      split at h
      · rename_i k' k n hk hx
        exact .inl ⟨_, good_convert_int Γ.toTy hop hs hd hk hx, h⟩
      · rename_i b hk hx
        split at h
        · rename_i hk'
          exact .inl ⟨_, good_convert_string Γ.toTy hop hs hd hk' hk hx, h⟩
        · exact .inr h
      · exact .inr h
    · exact .inr h
  | makeInterface t x =>
    simp only [opW, hop, fv_iff] at h
    split at h
    · rename_i i hi
      split at h
      · exact .inr h
      · exact .inr h
      · rename_i h1 h2
        refine .inl ⟨_, good_makeInterface Γ.toTy hop hi ?_, h⟩
        cases hk : i.k <;> first | rfl | (exact absurd hk h1) | (exact absurd hk h2)
    · exact .inr h
  | build t ps =>
    simp only [opW, hop, fl_iff] at h
    split at h
    · rename_i i hi
      split at h
      · rename_i fs hk
        split at h
        · rename_i h1
          split at h
          · rename_i out hout
            exact .inl ⟨_, good_build (ps := ps.toList) Γ.toTy (by rw [hop]) hi hk h1 hout, h⟩
          · exact .inr h
        · exact .inr h
      · exact .inr h
    · exact .inr h
  | buildSlice t len ps =>
    simp only [opW, hop, fl_iff] at h
    split at h
    · rename_i d hd
      split at h
      · rename_i hf
        split at h
        · rename_i i hi
          split at h
          · rename_i et sz eb ez hk
            split at h
            · rename_i xs hxs
              split at h
              · rename_i hc
                simp only [Bool.and_eq_true] at hc
                exact .inl ⟨_, good_buildSlice (ps := ps.toList) Γ.toTy (by rw [hop]) hf hi hk hxs (Nat.eq_of_beq_eq_true hc.1.1) (Nat.le_of_ble_eq_true hc.1.2) hc.2, h⟩
              · exact .inr h
            · exact .inr h
          · exact .inr h
        · exact .inr h
      · exact .inr h
    · exact .inr h
  | makeFunc fn first cap =>
    simp only [opW, hop, fl_iff] at h
    exact .inl ⟨_, good_makeFunc (ys := first.toList) (xs := cap.toList) (by rw [hop]), h⟩
  | call c =>
    simp only [opW, hop] at h
    split at h
    · rename_i hcal
      split at h
      · rename_i x t r hargs hats
        have hc : c = ⟨.builtin .len, #[x], c.argTypes⟩ := by
          obtain ⟨a, b, d⟩ := c
          simp only at hcal hargs ⊢
          have : b = #[x] := by
            apply Array.ext'
            simpa using hargs
          rw [hcal, this]
        rw [hc] at hop
        have hat : c.argTypes[0]? = some t := by
          rw [← Array.getElem?_toList, hats]; rfl
        split at h
        · rename_i i hi
          split at h
          · rename_i et sz eb ez hk
            split at h
            · rename_i z α e l hx
              exact .inl ⟨_, good_len Γ.toTy hop hat hi hk (.inl ⟨z, α, e, l, hx, rfl, rfl⟩), h⟩
            · rename_i k hx
              split at h
              · rename_i n hn
                exact .inl ⟨_, good_len Γ.toTy hop hat hi hk (.inr (.inl ⟨k, hx, hn, rfl⟩)), h⟩
              · exact .inr h
            · rename_i a n cap hx
              exact .inl ⟨_, good_len Γ.toTy hop hat hi hk (.inr (.inr ⟨a, cap, hx, rfl⟩)), h⟩
            · exact .inr h
          · rename_i hk
            split at h
            · rename_i b hx
              exact .inl ⟨_, good_len_string Γ.toTy hop hat hi hk hx, h⟩
            · exact .inr h
          · exact .inr h
        · exact .inr h
      · exact .inr h
    · exact .inr h
  | _ => simp only [opW, hop] at h; exact .inr h

theorem opW_okX {P : Program} {Γ : TyE P} {o : Oper} {s : SS} {K : Up → Prop} {stop : Prop} (h : opW Γ o s K stop) : (∃ U, GoodX P o s U ∧ K U) ∨ stop := by
  have hgen : (isIdx o || isSt o) = false → (∃ U, GoodX P o s U ∧ K U) ∨ stop := fun hn => by
    rcases opW_ok h with ⟨U, hU, hk⟩ | h
    · exact .inl ⟨U, .of hU hn, hk⟩
    · exact .inr h
  cases hop : o.op with
  | indexAddr t x y =>
    have hst : isSt o = false := by simp [isSt, hop]
    have hops : x ∈ o.op.operands ∧ y ∈ o.op.operands := by simp [hop, Op.operands]
    simp only [opW, hop] at h
    split at h
    · rename_i i hi
      split at h
      · rename_i et esz eb ez hk
        split at h
        · rename_i ik n hy
          split at h
          · rename_i sz α e l hx
            obtain ⟨rfl, h0, hn, h⟩ := h
            exact .inl ⟨_, ⟨good_indexAddr_sl Γ.toTy hop hi hk hx hy h0 hn, fun _ => ⟨rfl, fun s' h1 h2 => good_indexAddr_sl Γ.toTy hop hi hk ((h1 x hops.1).trans hx) ((h1 y hops.2).trans hy) h0 hn⟩, fun hc => (by rw [hst] at hc; cases hc)⟩, h⟩
          · rename_i k hx
            split at h
            · rename_i len hl
              exact .inl ⟨_, ⟨good_indexAddr_osl Γ.toTy hop hi hk hx hl hy h.1 h.2.1, fun _ => ⟨rfl, fun s' h1 h2 => good_indexAddr_osl Γ.toTy hop hi hk ((h1 x hops.1).trans hx) ((h2 k (by simp)).trans hl) ((h1 y hops.2).trans hy) h.1 h.2.1⟩, fun hc => (by rw [hst] at hc; cases hc)⟩, h.2.2⟩
            · exact .inr h
          · exact .inr h
        · exact .inr h
      · exact .inr h
    · exact .inr h
  | store t x y =>
    have hidx : isIdx o = false := by simp [isIdx, hop]
    simp only [opW, hop, fl_iff] at h
    split at h
    · rename_i i hi
      split at h
      · rename_i k off hx
        split at h
        · rename_i l hk
          split at h
          · rename_i hc
            simp only [Bool.and_eq_true] at hc
            exact .inl ⟨_, ⟨good_store_ptr Γ.toTy hop hx hi hk hc.1.1 (Nat.eq_of_beq_eq_true hc.1.2) (Nat.le_of_ble_eq_true hc.2), fun hc => (by rw [hidx] at hc; cases hc), fun _ p hp => by
              simp only [List.mem_singleton] at hp
              subst hp
              show (Ob.box _).len = (s.h k).len
              rw [hk]; rfl⟩, h⟩
          · exact .inr h
        · exact .inr h
      · rename_i k sz n off hx
        split at h
        · rename_i sz' α e l hk
          obtain ⟨rfl, hn, z, hz, hc, h⟩ := h
          simp only [Bool.and_eq_true] at hc
          obtain ⟨⟨⟨⟨⟨c1, c2⟩, c3⟩, c4⟩, c5⟩, c6⟩ := hc
          exact .inl ⟨_, ⟨good_store_row Γ.toTy hop hx hi hk c1 (Nat.eq_of_beq_eq_true c2) (Nat.le_of_ble_eq_true c3) hn hz c4 c5 c6, fun hc => (by rw [hidx] at hc; cases hc), fun _ p hp => by
            simp only [List.mem_singleton] at hp
            subst hp
            show (Ob.row _ _ _).len = (s.h k).len
            rw [hk]
            simp [Ob.len]⟩, h⟩
        · exact .inr h
      · exact .inr h
    · exact .inr h
  | _ => exact hgen (by simp [isIdx, isSt, hop])

end Go.Sy
