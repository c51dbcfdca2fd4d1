/-
  The symbolic layer, 5: the other operations.
-/
import Derived.Test.YtjnkgkpenhjmfaaSy4
namespace Go.Sy

theorem fieldsOK_get {P : Program} : ∀ {fs : List Field} {r : List (Nat × Nat)} {f : Nat} {o n : Nat}, fieldsOK P fs r → r[f]? = some (o, n) → ∃ x, fs[f]? = some x ∧ x.offset = o ∧ (P.info? x.type).map (·.size) = some n
  | [], [], f, o, n, _, h => by simp at h
  | [], _ :: _, f, o, n, h, _ => by simp [fieldsOK] at h
  | _ :: _, [], f, o, n, h, _ => by simp [fieldsOK] at h
  | x :: fs, (o', n') :: r, 0, o, n, h, h' => by
    simp only [fieldsOK] at h
    simp only [List.getElem?_cons_zero, Option.some.injEq, Prod.mk.injEq] at h'
    exact ⟨x, by simp, by rw [h.1]; exact h'.1, by rw [h.2.1, h'.2]⟩
  | x :: fs, (o', n') :: r, f + 1, o, n, h, h' => by
    simp only [fieldsOK] at h
    obtain ⟨y, h1, h2⟩ := fieldsOK_get (f := f) h.2.2 (by simpa using h')
    exact ⟨y, by simpa using h1, h2⟩

theorem run_fieldAt {P : Program} (Γ : Ty P) {t : TypeId} {ti : TI} {fs : List (Nat × Nat)} {f o n : Nat} (ht : Γ.get t = some ti) (hk : ti.k = .struct fs) (hf : fs[f]? = some (o, n)) (hn : n ≠ 0) (w : World) (b off : Nat) :
    (Instr.fieldAt t (.pointer (some ⟨b, off, none⟩)) f).run P w = .ok (.pointer (some ⟨b, off + o, none⟩)) w := by
  obtain ⟨d, info, z, k1, k2, k3, k4, k5, k6⟩ := Γ.ok t ti ht
  rw [hk] at k2
  simp only [TK.ok] at k2
  obtain ⟨a, rfl, k2⟩ := k2
  obtain ⟨x, h1, h2, h3⟩ := fieldsOK_get k2 hf
  obtain ⟨ix, h4, h5⟩ : ∃ ix, P.info? x.type = some ix ∧ ix.size = n := by
    cases hh : P.info? x.type with
    | none => rw [hh] at h3; cases h3
    | some ix => rw [hh] at h3; exact ⟨ix, rfl, by simpa using h3⟩
  have h1' : a[f]? = some x := by simpa using h1
  simp [Instr.fieldAt, run_underlying k1, h1', Instr.sureAddr, fieldPlace, sizeOf, typeInfo, h4, h5, hn, Addr.add_lit, h2]

theorem good_fieldAddr {P : Program} (Γ : Ty P) {o : Oper} {s : SS} {t : TypeId} {ti : TI} {fs : List (Nat × Nat)} {x : Operand} {f fo fn : Nat} (h : o.op = .fieldAddr t x f)
    (ht : Γ.get t = some ti) (hk : ti.k = .struct fs) (hf : fs[f]? = some (fo, fn)) (hn : fn ≠ 0) {y : SV} {rd : List Nat}
    (hy : (∃ k off l, ev s x = .ptr k off ∧ s.h k = .box l ∧ rd = [k] ∧ y = .ptr k (off + fo)) ∨ (∃ sz z off, ev s x = .ref sz z off ∧ rd = [] ∧ y = .ref sz z (off + fo)) ∨
      (∃ k sz i off, ev s x = .rpt k sz i off ∧ (∀ κ w, ObOK κ w k (s.h k) → ∃ b n c, κ k = .row b n c) ∧ rd = [k] ∧ y = .rpt k sz i (off + fo))) : Good P o s ⟨y, rd, []⟩ :=
  Good.pure fun κ a w _ hr ho => by
    have h1 := hr x (by simp [h, Op.operands])
    rcases hy with ⟨k, off, l, hx, hl, rfl, rfl⟩ | ⟨sz, z, off, hx, rfl, rfl⟩ | ⟨k, sz, i, off, hx, hl, rfl, rfl⟩
    · have h2 := ho k (by simp)
      rw [hl] at h2
      obtain ⟨b, cs, T, fr, e1, _⟩ := h2
      rw [hx] at h1
      simp only [Rd, e1] at h1
      exact ⟨.pointer (some ⟨b, off + fo, none⟩), by simp [execOp, h, h1, run_fieldAt Γ ht hk hf hn], by simp [Rd, e1]⟩
    · rw [hx] at h1
      simp only [Rd, RdD] at h1
      obtain ⟨b, oo, u, e1, e2⟩ := h1
      refine ⟨.pointer (some ⟨b, oo + off + fo, none⟩), by simp [execOp, h, e1, run_fieldAt Γ ht hk hf hn], ?_⟩
      simp only [Rd, RdD]
      exact ⟨b, oo, u, by rw [Nat.add_assoc], e2⟩
    · obtain ⟨b, n, c, e1⟩ := hl κ w (ho k (by simp))
      rw [hx] at h1
      simp only [Rd, e1] at h1
      exact ⟨.pointer (some ⟨b, i * sz + off + fo, none⟩), by simp [execOp, h, h1, run_fieldAt Γ ht hk hf hn], by simp [Rd, e1, Nat.add_assoc]⟩

/-- A nil check that passes. -/
theorem good_nilCheck {P : Program} {o : Oper} {s : SS} {x : Operand} {rd : List Nat} (h : o.op = .nilCheck x)
    (hy : (∃ k off l, ev s x = .ptr k off ∧ s.h k = .box l ∧ rd = [k]) ∨ (∃ sz z off, ev s x = .ref sz z off ∧ rd = []) ∨ (∃ f first cap, ev s x = .clo (.func f) first cap ∧ rd = []) ∨
      (∃ k sz i off, ev s x = .rpt k sz i off ∧ (∀ κ w, ObOK κ w k (s.h k) → ∃ b n c, κ k = .row b n c) ∧ rd = [k])) : Good P o s ⟨ev s x, rd, []⟩ :=
  Good.pure fun κ a w _ hr ho => by
    have h1 := hr x (by simp [h, Op.operands])
    refine ⟨a.eval x, ?_, h1⟩
    rcases hy with ⟨k, off, l, hx, hl, rfl⟩ | ⟨sz, z, off, hx, rfl⟩ | ⟨f, first, cap, hx, rfl⟩ | ⟨k, sz, i, off, hx, hl, rfl⟩
    · have h2 := ho k (by simp)
      rw [hl] at h2
      obtain ⟨b, cs, T, fr, e1, _⟩ := h2
      rw [hx] at h1
      simp only [Rd, e1] at h1
      simp [execOp, h, h1]
    · rw [hx] at h1
      simp only [Rd, RdD] at h1
      obtain ⟨b, oo, u, e1, e2⟩ := h1
      simp [execOp, h, e1]
    · rw [hx] at h1
      simp only [Rd] at h1
      obtain ⟨fs, cs, e1, _⟩ := h1
      simp [execOp, h, e1]
    · obtain ⟨b, n, c, e1⟩ := hl κ w (ho k (by simp))
      rw [hx] at h1
      simp only [Rd, e1] at h1
      simp [execOp, h, h1]

theorem slice_elem {P : Program} (Γ : Ty P) {t : TypeId} {ti : TI} {e : TypeId} {sz eb : Nat} {ez : List Value} (ht : Γ.get t = some ti) (hk : ti.k = .slice e sz eb ez) :
    P.underlying t = some (.slice e) ∧ ∃ i z, P.info? e = some i ∧ i.size = sz ∧ i.bytes = eb ∧ i.zero = some z ∧ z.cells.toList = ez := by
  obtain ⟨d, info, z, k1, k2, k3, k4, k5, k6⟩ := Γ.ok t ti ht
  rw [hk] at k2
  simp only [TK.ok] at k2
  obtain ⟨rfl, k2⟩ := k2
  exact ⟨k1, k2⟩

theorem good_indexAddr_sl {P : Program} (Γ : Ty P) {o : Oper} {s : SS} {t : TypeId} {ti : TI} {et : TypeId} {sz eb : Nat} {ez : List Value} {x y : Operand} {ik : IntKind} {n : Int} {α : Type} {e : α → SV} {l : List α}
    (h : o.op = .indexAddr t x y) (ht : Γ.get t = some ti) (hk : ti.k = .slice et sz eb ez) (hx : ev s x = .sl sz e l) (hy : ev s y = .val (.int ik n)) (h0 : 0 ≤ n) (hn : n.toNat < l.length) :
    Good P o s ⟨.ref sz (e l[n.toNat]) 0, [], []⟩ :=
  Good.pure fun κ a w _ hr _ => by
    have h1 := hr x (by simp [h, Op.operands])
    have h2 := hr y (by simp [h, Op.operands])
    rw [hx] at h1
    rw [hy] at h2
    obtain ⟨hu, i, z, q1, q2, q3, q4, q5⟩ := slice_elem Γ ht hk
    simp only [Rd, RdD] at h1
    rcases h1 with ⟨rfl, _⟩ | ⟨b, off, cap, e1, e0, e2, e3, e4⟩
    · simp at hn
    · obtain ⟨u, e5, e6⟩ := e4 n.toNat hn
      have hlt : n < l.length := by omega
      refine ⟨.pointer (some ⟨b, off + n.toNat * sz, none⟩), ?_, ?_⟩
      · simp [execOp, h, e1, h2.val, Instr.indexAt, run_underlying hu, asIntOf, h0, hlt, sizeOf, typeInfo, q1, q2, Addr.add_lit]
      · simp only [Rd, RdD]
        exact ⟨b, off + n.toNat * sz, u, rfl, e2, e3, e5, e6⟩

/-- The length of an owned row. -/
def Ob.len : Ob → Option Nat
  | .row _ _ l => some l.length
  | .lit _ svs => some svs.length
  | _ => none

theorem Ob.len_ok {κ : Ka} {w : World} {k n : Nat} : ∀ {ob : Ob} {v : Value}, ob.len = some n → ObOK κ w k ob → Rd κ w (.osl k) v → ∃ a cap, v = .slice a n cap ∧ (n ≠ 0 → ∃ b c, κ k = .row b n c ∧ a = some ⟨b, 0, none⟩)
  | .row sz e l, v, hn, h, hv => by
    simp only [Ob.len, Option.some.injEq] at hn
    rcases h with ⟨h1, h2⟩ | ⟨b, cap, cs, T, fr, h1, _⟩
    · simp only [Rd, h1] at hv
      subst h2
      simp at hn
      exact ⟨none, 0, by rw [hv, hn], fun h => absurd hn.symm h⟩
    · simp only [Rd, h1] at hv
      rw [hn] at h1 hv
      exact ⟨_, cap, hv, fun _ => ⟨b, cap, h1, rfl⟩⟩
  | .lit sz l, v, hn, h, hv => by
    simp only [Ob.len, Option.some.injEq] at hn
    obtain ⟨b, cap, cs, T, fr, h1, _⟩ := h
    simp only [Rd, h1] at hv
    rw [hn] at h1 hv
    exact ⟨_, cap, hv, fun _ => ⟨b, cap, h1, rfl⟩⟩
  | .fresh, _, hn, _, _ => by cases hn
  | .non, _, hn, _, _ => by cases hn
  | .box _, _, hn, _, _ => by cases hn

theorem good_indexAddr_osl {P : Program} (Γ : Ty P) {o : Oper} {s : SS} {t : TypeId} {ti : TI} {et : TypeId} {sz eb len : Nat} {ez : List Value} {x y : Operand} {ik : IntKind} {n : Int} {k : Nat}
    (h : o.op = .indexAddr t x y) (ht : Γ.get t = some ti) (hk : ti.k = .slice et sz eb ez) (hx : ev s x = .osl k) (hl : (s.h k).len = some len) (hy : ev s y = .val (.int ik n)) (h0 : 0 ≤ n) (hn : n.toNat < len) :
    Good P o s ⟨.rpt k sz n.toNat 0, [k], []⟩ :=
  Good.pure fun κ a w _ hr ho => by
    have h1 := hr x (by simp [h, Op.operands])
    have h2 := hr y (by simp [h, Op.operands])
    rw [hx] at h1
    rw [hy] at h2
    obtain ⟨hu, i, z, q1, q2, q3, q4, q5⟩ := slice_elem Γ ht hk
    obtain ⟨ad, cap, e1, e2⟩ := Ob.len_ok hl (ho k (by simp)) h1
    obtain ⟨b, c, e3, rfl⟩ := e2 (by omega)
    have hlt : n < len := by omega
    refine ⟨.pointer (some ⟨b, n.toNat * sz, none⟩), ?_, by simp [Rd, e3]⟩
    simp [execOp, h, e1, h2.val, Instr.indexAt, run_underlying hu, asIntOf, h0, hlt, sizeOf, typeInfo, q1, q2, Addr.add_lit]

/-- len -/
theorem good_len {P : Program} (Γ : Ty P) {o : Oper} {s : SS} {t : TypeId} {ti : TI} {x : Operand} {at_ : Array TypeId} {n : Nat} {rd : List Nat} (h : o.op = .call ⟨.builtin .len, #[x], at_⟩) (hat : at_[0]? = some t)
    (ht : Γ.get t = some ti) {et : TypeId} {sz eb : Nat} {ez : List Value} (hk : ti.k = .slice et sz eb ez)
    (hx : (∃ (z : Nat) (α : Type) (e : α → SV) (l : List α), ev s x = .sl z e l ∧ n = l.length ∧ rd = []) ∨ (∃ k, ev s x = .osl k ∧ (s.h k).len = some n ∧ rd = [k]) ∨ (∃ a c, ev s x = .val (.slice a n c) ∧ rd = [])) :
    Good P o s ⟨.val (.int .i64 n), rd, []⟩ :=
  Good.pure fun κ a w _ hr ho => by
    have h1 := hr x (by simp [h, Op.operands, Call.operands])
    obtain ⟨hu, i, z, q1, q2, q3, q4, q5⟩ := slice_elem Γ ht hk
    have key : ∃ ad cap, a.eval x = .slice ad n cap := by
      rcases hx with ⟨z, α, e, l, hx, rfl, rfl⟩ | ⟨k, hx, hl, rfl⟩ | ⟨ad, c, hx, rfl⟩
      · rw [hx] at h1
        simp only [Rd, RdD] at h1
        rcases h1 with ⟨rfl, ad, cap, e1⟩ | ⟨b, off, cap, e1, _⟩
        · exact ⟨ad, cap, e1⟩
        · exact ⟨_, cap, e1⟩
      · rw [hx] at h1
        obtain ⟨ad, cap, e1, _⟩ := Ob.len_ok hl (ho k (by simp)) h1
        exact ⟨ad, cap, e1⟩
      · rw [hx] at h1
        exact ⟨ad, c, h1.val⟩
    obtain ⟨ad, cap, e1⟩ := key
    refine ⟨.int .i64 n, ?_, by simp [Rd]⟩
    simp [execOp, h, resolve, invoke, builtin, Builtin.len_, hat, e1, run_underlying hu, goInt]

theorem good_len_string {P : Program} (Γ : Ty P) {o : Oper} {s : SS} {t : TypeId} {ti : TI} {x : Operand} {at_ : Array TypeId} {b : ByteArray} (h : o.op = .call ⟨.builtin .len, #[x], at_⟩) (hat : at_[0]? = some t)
    (ht : Γ.get t = some ti) (hk : ti.k = .string) (hx : ev s x = .val (.string b)) : Good P o s ⟨.val (.int .i64 b.size), [], []⟩ :=
  Good.pure fun κ a w _ hr ho => by
    have h1 := hr x (by simp [h, Op.operands, Call.operands])
    rw [hx] at h1
    obtain ⟨d, info, z, k1, k2, k3, k4, k5, k6⟩ := Γ.ok t ti ht
    rw [hk] at k2
    simp only [TK.ok] at k2
    subst k2
    refine ⟨.int .i64 b.size, ?_, by simp [Rd]⟩
    simp [execOp, h, resolve, invoke, builtin, Builtin.len_, hat, h1.val, run_underlying k1, goInt]

theorem good_not {P : Program} {o : Oper} {s : SS} {t : TypeId} {x : Operand} {b : Bool} (h : o.op = .unOp .not t x) (hx : ev s x = .val (.bool b)) : Good P o s ⟨.val (.bool (!b)), [], []⟩ :=
  Good.pure fun κ a w _ hr _ => by
    have h1 := hr x (by simp [h, Op.operands])
    rw [hx] at h1
    exact ⟨.bool (!b), by simp [execOp, h, h1.val, Op.unary], by simp [Rd]⟩

theorem good_neg {P : Program} {o : Oper} {s : SS} {t : TypeId} {x : Operand} {k : IntKind} {n : Int} (h : o.op = .unOp .neg t x) (hx : ev s x = .val (.int k n)) : Good P o s ⟨.val (.int k (k.wrap (0 - n))), [], []⟩ :=
  Good.pure fun κ a w _ hr _ => by
    have h1 := hr x (by simp [h, Op.operands])
    rw [hx] at h1
    exact ⟨.int k (k.wrap (0 - n)), by simp [execOp, h, h1.val, Op.unary, Op.intArith], by simp [Rd]⟩

theorem good_convert_int {P : Program} (Γ : Ty P) {o : Oper} {s : SS} {src dst : TypeId} {si di : TI} {x : Operand} {k k' : IntKind} {n : Int} (h : o.op = .convert src dst x) (hs : Γ.get src = some si) (hd : Γ.get dst = some di)
    (hk : di.k = .int k') (hx : ev s x = .val (.int k n)) : Good P o s ⟨.val (.int k' (k'.wrap n)), [], []⟩ :=
  Good.pure fun κ a w _ hr _ => by
    have h1 := hr x (by simp [h, Op.operands])
    rw [hx] at h1
    obtain ⟨d, info, z, k1, k2, _⟩ := Γ.ok dst di hd
    obtain ⟨d', info', z', k1', _⟩ := Γ.ok src si hs
    rw [hk] at k2
    simp only [TK.ok] at k2
    subst k2
    exact ⟨.int k' (k'.wrap n), by simp [execOp, h, h1.val, convert, run_underlying k1, run_underlying k1', Conv.intToInt], by simp [Rd]⟩

theorem good_convert_string {P : Program} (Γ : Ty P) {o : Oper} {s : SS} {src dst : TypeId} {si di : TI} {x : Operand} {b : ByteArray} (h : o.op = .convert src dst x) (hs : Γ.get src = some si) (hd : Γ.get dst = some di)
    (hk' : si.k = .string) (hk : di.k = .string) (hx : ev s x = .val (.string b)) : Good P o s ⟨.val (.string b), [], []⟩ :=
  Good.pure fun κ a w _ hr _ => by
    have h1 := hr x (by simp [h, Op.operands])
    rw [hx] at h1
    obtain ⟨d, info, z, k1, k2, _⟩ := Γ.ok dst di hd
    obtain ⟨d', info', z', k1', k2', _⟩ := Γ.ok src si hs
    rw [hk] at k2
    rw [hk'] at k2'
    simp only [TK.ok] at k2 k2'
    subst k2 k2'
    exact ⟨.string b, by simp [execOp, h, h1.val, convert, run_underlying k1, run_underlying k1'], by simp [Rd]⟩

theorem RdL.getT {κ : Ka} {w : World} {n : Nat} {l : List SV} {cs : List Value} {x : SV} (h : RdL κ w l cs) (hg : getI l n = some x) : ∃ v, cs.toArray[n]? = some v ∧ Rd κ w x v := by
  obtain ⟨v, h1, h2⟩ := h.get hg
  exact ⟨v, by simpa using h1, h2⟩

theorem good_extract {P : Program} {o : Oper} {s : SS} {x : Operand} {i : Nat} {l : List SV} {y : SV} (h : o.op = .extract x i) (hx : ev s x = .tup l) (hy : getI l i = some y) : Good P o s ⟨y, [], []⟩ :=
  Good.pure fun κ a w _ hr _ => by
    have h1 := hr x (by simp [h, Op.operands])
    rw [hx] at h1
    simp only [Rd] at h1
    obtain ⟨cs, e1, e2⟩ := h1
    obtain ⟨v, e3, e4⟩ := e2.getT hy
    exact ⟨v, by simp [execOp, h, e1, Instr.extract] at e3 ⊢; simp [e3], e4⟩

theorem good_makeInterface {P : Program} (Γ : Ty P) {o : Oper} {s : SS} {t : TypeId} {ti : TI} {x : Operand} (h : o.op = .makeInterface t x) (ht : Γ.get t = some ti) (hk : ti.k matches .bool | .int _ | .string | .slice .. | .struct _ | .ptr | .func) :
    Good P o s ⟨.ifc t (ev s x), [], []⟩ :=
  Good.pure fun κ a w _ hr _ => by
    have h1 := hr x (by simp [h, Op.operands])
    obtain ⟨d, info, z, k1, k2, _⟩ := Γ.ok t ti ht
    refine ⟨.iface t (a.eval x), ?_, by simp only [Rd]; exact ⟨_, rfl, h1⟩⟩
    obtain ⟨k, n, zz⟩ := ti
    cases k <;> simp only [TK.ok] at k2 <;> first
      | (subst k2; simp [execOp, h, Instr.makeInterface, run_underlying k1]; done)
      | (obtain ⟨a, rfl, _⟩ := k2; simp [execOp, h, Instr.makeInterface, run_underlying k1]; done)
      | (obtain ⟨rfl, _⟩ := k2; simp [execOp, h, Instr.makeInterface, run_underlying k1]; done)
      | (obtain ⟨a, b, c, rfl⟩ := k2; simp [execOp, h, Instr.makeInterface, run_underlying k1]; done)
      | (obtain ⟨a, rfl⟩ := k2; simp [execOp, h, Instr.makeInterface, run_underlying k1]; done)
      | simp at hk

theorem RdL_map {κ : Ka} {w : World} {s : SS} {a : Act} : ∀ (xs : List Operand), (∀ x ∈ xs, Rd κ w (ev s x) (a.eval x)) → RdL κ w (xs.map (ev s)) (xs.map a.eval)
  | [], _ => by simp [RdL]
  | x :: xs, h => by
    simp only [List.map_cons, RdL]
    exact ⟨_, _, rfl, h x (by simp), RdL_map xs (fun y hy => h y (by simp [hy]))⟩

theorem good_makeFunc {P : Program} {o : Oper} {s : SS} {fn : Fn} {ys xs : List Operand} (h : o.op = .makeFunc fn ys.toArray xs.toArray) : Good P o s ⟨.clo fn (ys.map (ev s)) (xs.map (ev s)), [], []⟩ :=
  Good.pure fun κ a w _ hr _ => by
    refine ⟨.func fn (ys.map a.eval).toArray (xs.map a.eval).toArray, by simp [execOp, h, Instr.makeFunc], ?_⟩
    simp only [Rd]
    exact ⟨_, _, rfl, RdL_map ys (fun x hx => hr x (by simp [h, Op.operands, hx])), RdL_map xs (fun x hx => hr x (by simp [h, Op.operands, hx]))⟩

end Go.Sy
