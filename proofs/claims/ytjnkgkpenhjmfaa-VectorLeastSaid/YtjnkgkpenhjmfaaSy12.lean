/-
  The symbolic layer, 12: bytes and strings; equality of structs.
-/
import Derived.Test.YtjnkgkpenhjmfaaSy11
import Derived.Laws.IdiomStrings
import Derived.Laws.StructEq
namespace Go.Sy

def byteSV (b : UInt8) : SV := .val (.int .u8 b.toNat)
def intSV (n : Int) : SV := .val (.int .i64 n)
def boolSV (b : Bool) : SV := .val (.bool b)
def u64SV (n : Int) : SV := .val (.int .u64 n)
def u32SV (n : Int) : SV := .val (.int .u32 n)
def strSV (s : ByteArray) : SV := .val (.string s)

theorem int_under {P : Program} (Γ : Ty P) {t : TypeId} {ti : TI} {k : IntKind} (ht : Γ.get t = some ti) (hk : ti.k = .int k) : P.underlying t = some (.int k) := by
  obtain ⟨d, info, z, k1, k2, _⟩ := Γ.ok t ti ht
  rw [hk] at k2
  simp only [TK.ok] at k2
  subst k2
  exact k1

theorem str_under {P : Program} (Γ : Ty P) {t : TypeId} {ti : TI} (ht : Γ.get t = some ti) (hk : ti.k = .string) : P.underlying t = some .string := by
  obtain ⟨d, info, z, k1, k2, _⟩ := Γ.ok t ti ht
  rw [hk] at k2
  simp only [TK.ok] at k2
  subst k2
  exact k1

theorem good_bytes_string {P : Program} (Γ : Ty P) {o : Oper} {s : SS} {src dst : TypeId} {si di ei : TI} {x : Operand} {et : TypeId} {eb n : Nat} {ez : List Value} {ks : List Nat} {f : Nat → SV → Prop} (bs : List UInt8) (h : o.op = .convert src dst x)
    (hs : Γ.get src = some si) (hsk : si.k = .slice et 1 eb ez) (he : Γ.get et = some ei) (hek : ei.k = .int .u8) (hd : Γ.get dst = some di) (hdk : di.k = .string) (hx : AppSrc s 1 (ev s x) ks n f) (hn : n = bs.length) (hf : ∀ i (h : i < bs.length), f i (byteSV bs[i])) :
    Good P o s ⟨.val (.string ⟨bs.toArray⟩), ks, []⟩ :=
  Good.pure fun κ a w hi hr ho => by
    have r1 := hr x (by simp [h, Op.operands])
    have hsrc := hx.src r1 ho
    obtain ⟨hu, _⟩ := slice_elem Γ hs hsk
    have he' := int_under Γ he hek
    have hd' := str_under Γ hd hdk
    refine ⟨.string ⟨bs.toArray⟩, ?_, by simp [Rd]⟩
    rcases hsrc with ⟨h0, hno, ad, cap, e1⟩ | ⟨b, off, cap, news, e1, e2, e3, e4, e5⟩
    · have hb : bs = [] := List.eq_nil_of_length_eq_zero (by omega)
      subst hb
      cases ad with
      | none => simp [execOp, h, e1, run_convert_bytes_nil w src et hu he' 0 cap dst hd']; rfl
      | some ad =>
        have := run_convert_bytes_back (P := P) w src dst et ad cap [] hu he' hd' (fun j hj => by simp at hj)
        simp only [List.length_nil] at this
        simp [execOp, h, e1, this]
    · have := run_convert_bytes_back (P := P) w src dst et ⟨b, off, none⟩ cap bs hu he' hd' (fun j hj => by
        obtain ⟨q0, u, q1, q2, q3, q4⟩ := e5 j _ (hf j hj)
        have hu2 : u = .int .u8 bs[j].toNat := by simpa [byteSV, RdD] using q1
        have q5 := q4 0 (by omega)
        rw [hu2] at q5
        simp only [Nat.mul_one, Nat.add_zero, Value.cells] at q5
        rw [Addr.add_lit]
        exact e4 j _ (by simpa using q5))
      rw [← hn] at this
      simp [execOp, h, e1, this]

theorem good_string_bytes {P : Program} (Γ : Ty P) {o : Oper} {s : SS} {src dst : TypeId} {si di ei : TI} {x : Operand} {et : TypeId} {eb d : Nat} {ez : List Value} {b : ByteArray} (h : o.op = .convert src dst x)
    (hs : Γ.get dst = some di) (hdk : di.k = .slice et 1 eb ez) (he : Γ.get et = some ei) (hek : ei.k = .int .u8) (hd : Γ.get src = some si) (hsk : si.k = .string) (hx : ev s x = .val (.string b)) (hfr : s.h d = .fresh) :
    Good P o s ⟨.osl d, [], [(d, .row 1 byteSV b.data.toList)]⟩ :=
  good_new hfr fun κ a w hi hr _ hn => by
    have r1 := hr x (by simp [h, Op.operands])
    rw [hx] at r1
    obtain ⟨hu, _⟩ := slice_elem Γ hs hdk
    have he' := int_under Γ he hek
    have hd' := str_under Γ hd hsk
    have hrun := run_bytes_of_string (P := P) w src dst et b hd' hu he'
    have hcap := grownCap_ge w b.size 0 et
    have hsz : (bytesRow b (grownCap w b.size 0 et)).size = grownCap w b.size 0 et := by
      simp only [bytesRow, Array.size_append, Array.size_map, Array.size_replicate]
      have : b.data.size = b.size := rfl
      omega
    generalize hrow : bytesRow b (grownCap w b.size 0 et) = row at hrun hsz
    refine ⟨.slice (some ⟨w.heap.size, 0, none⟩) b.size (grownCap w b.size 0 et), w.drew.alloc (.cells row et (row.size, row.size + 1)), .row w.heap.size b.size (grownCap w b.size 0 et), ?_, (Grew.drew w).trans (Grew.alloc _ _), ?_, ?_⟩
    · simp [execOp, h, r1.val, hrun]
    · intro c hc; simp only [Ent.block?, Option.some.injEq] at hc; subst hc; simp
    · intro st
      have hlen : b.data.toList.length = b.size := by rfl
      refine ⟨by simp [Rd, setK_self], .inr ⟨w.heap.size, grownCap w b.size 0 et, row.toList, et, (row.size, row.size + 1), by rw [hlen]; exact setK_self _ _ _, ?_, ?_, ?_, by rw [hlen]; exact hcap, ?_⟩⟩
      · have := heap_alloc_new w.drew (.cells row et (row.size, row.size + 1))
        simpa using this
      · exact .inr (by simp)
      · simp [hsz]
      · rintro i y ⟨hi', rfl⟩
        refine ⟨hi', .int .u8 b.data.toList[i].toNat, by simp [byteSV, RdD], rfl, fun c hc => by simp [Value.cells] at hc; subst hc; rfl, fun j hj => ?_⟩
        have hj0 : j = 0 := by omega
        subst hj0
        have hi2 : i < b.data.size := by simpa using hi'
        rw [← hrow]
        simp only [bytesRow, Value.cells, Nat.mul_one, Nat.add_zero, Array.toList_append, Array.toList_map]
        rw [List.getElem?_append_left (by simpa using hi2), List.getElem?_map, List.getElem?_eq_getElem hi']
        rfl

/-! ### Equality of structs -/
inductive EK | int (k : IntKind) | bool | string
def EK.desc : EK → TypeDesc | .int k => .int k | .bool => .bool | .string => .string

def eqFs (P : Program) : Nat → List Field → List EK → Prop
  | _, [], [] => True
  | i, f :: fs, k :: ks => f.name ≠ "_" ∧ f.offset = i ∧ P.underlying f.type = some k.desc ∧ eqFs P (i + 1) fs ks
  | _, _, _ => False

structure EqOK (P : Program) (t : TypeId) (ks : List EK) : Prop where
  under : P.underlying t = some (.struct (P.fieldsOf t))
  stood : P.stoodInHeld t = false
  guard : P.eqGuardType P.depth t = false
  fields : eqFs P 0 (P.fieldsOf t).toList ks

def eq1 (k : EK) (x y : SV) : Option Bool :=
  match k, x, y with
  | .int _, .val (.int k1 a), .val (.int k2 b) => if k1 = k2 then some (a == b) else none
  | .bool, .val (.bool a), .val (.bool b) => some (a == b)
  | .string, .val (.string a), .val (.string b) => some (a == b)
  | _, _, _ => none

theorem eq1_run {P : Program} {κ : Ka} {w : World} (d : Nat) {t : TypeId} {k : EK} (ht : P.underlying t = some k.desc) {x y : SV} {u v : Value} {b : Bool} (h : eq1 k x y = some b) (hx : Rd κ w x u) (hy : Rd κ w y v) : (Op.equalIn (d + 1) t u v).run P w = .ok b w := by
  unfold eq1 at h
  split at h
  · split at h
    · rename_i hk
      subst hk
      simp only [Option.some.injEq] at h
      rw [hx.val, hy.val, ← h]
      exact run_equalIn_int w d t _ _ _ _ ht
    · cases h
  · simp only [Option.some.injEq] at h
    rw [hx.val, hy.val, ← h]
    exact run_equalIn_bool' w d t _ _ ht
  · simp only [Option.some.injEq] at h
    rw [hx.val, hy.val, ← h, beq_toListBytes]
    exact run_equalIn_string w d t _ _ ht
  · cases h

def eqS : List EK → List SV → List SV → Option Bool
  | [], [], [] => some true
  | k :: ks, x :: l, y :: m => match eq1 k x y, eqS ks l m with
    | some a, some b => some (a && b)
    | _, _ => none
  | _, _, _ => none

theorem run_part {P : Program} (w : World) {t : TypeId} {k : EK} (h : P.underlying t = some k.desc) (cs : Array Value) {i : Nat} {v : Value} (hv : cs[i]? = some v) : (part t cs i).run P w = .ok v w := by
  cases k <;> simp only [EK.desc] at h <;> simp [part, isAgg, run_underlying h, hv]

theorem eq_run {P : Program} {κ : Ka} {w : World} {xs ys : Array Value} (d : Nat) : ∀ (ks : List EK) (fs : List Field) (i : Nat) (l m : List SV) (r : Bool), eqFs P i fs ks → RdL κ w l (xs.toList.drop i) → RdL κ w m (ys.toList.drop i) → eqS ks l m = some r →
    (Op.eqFields (d + 1) xs ys fs).run P w = .ok r w
  | [], [], i, l, m, r, _, _, _, he => by
    cases l <;> cases m <;> simp [eqS] at he
    subst he
    simp [Op.eqFields]
  | [], _ :: _, i, l, m, r, h, _, _, _ => by simp [eqFs] at h
  | _ :: _, [], i, l, m, r, h, _, _, _ => by simp [eqFs] at h
  | k :: ks, f :: fs, i, [], m, r, h, hl, hm, he => by simp [eqS] at he
  | k :: ks, f :: fs, i, x :: l, [], r, h, hl, hm, he => by simp [eqS] at he
  | k :: ks, f :: fs, i, x :: l, y :: m, r, h, hl, hm, he => by
    simp only [eqFs] at h
    obtain ⟨h1, h2, h3, h4⟩ := h
    simp only [RdL] at hl hm
    obtain ⟨v, q, e1, e2, e3⟩ := hl
    obtain ⟨u, p, f1, f2, f3⟩ := hm
    have g1 : xs[i]? = some v := by
      have := congrArg (fun l => l[0]?) e1
      simpa using this
    have g2 : ys[i]? = some u := by
      have := congrArg (fun l => l[0]?) f1
      simpa using this
    have e4 : xs.toList.drop (i + 1) = q := by
      have := congrArg (List.drop 1) e1
      simpa [Nat.add_comm] using this
    have f4 : ys.toList.drop (i + 1) = p := by
      have := congrArg (List.drop 1) f1
      simpa [Nat.add_comm] using this
    have p1 := run_part (P := P) w h3 xs g1
    have p2 := run_part (P := P) w h3 ys g2
    simp only [eqS] at he
    cases hb : eq1 k x y with
    | none => rw [hb] at he; cases he
    | some b =>
      cases hq : eqS ks l m with
      | none => rw [hb, hq] at he; cases he
      | some r' =>
        rw [hb, hq] at he
        simp only [Option.some.injEq] at he
        have hrun := eq1_run (P := P) (κ := κ) (w := w) d h3 hb e2 f2
        have ih := eq_run d ks fs (i + 1) l m r' h4 (by rw [e4]; exact e3) (by rw [f4]; exact f3) hq
        simp only [Op.eqFields, if_pos h1, Sem.run_bind, h2, p1, p2, Result.andThen_ok, hrun]
        subst he
        cases b
        · simp
        · simp [ih]

theorem good_eq_agg {P : Program} {o : Oper} {s : SS} {op : BinOp} {t yt : TypeId} {x y : Operand} {l m : List SV} {ks : List EK} {r : Bool} (h : o.op = .binOp op t x y yt) (hop : op = .eql ∨ op = .neq) (hq : EqOK P t ks)
    (hx : ev s x = .agg l) (hy : ev s y = .agg m) (hr : eqS ks l m = some r) : Good P o s ⟨.val (.bool (if op = .eql then r else !r)), [], []⟩ :=
  Good.pure fun κ a w _ hrd _ => by
    have h1 := hrd x (by simp [h, Op.operands])
    have h2 := hrd y (by simp [h, Op.operands])
    rw [hx] at h1
    rw [hy] at h2
    simp only [Rd] at h1 h2
    obtain ⟨cs, e1, _, e3⟩ := h1
    obtain ⟨ds, f1, _, f3⟩ := h2
    have hrun : (Op.equal t (.agg cs.toArray) (.agg ds.toArray)).run P w = .ok r w := by
      show (Op.equalIn (9999 + 1) t (.agg cs.toArray) (.agg ds.toArray)).run P w = .ok r w
      rw [run_equalIn_struct w 9999 t _ _ hq.under hq.stood]
      exact eq_run (κ := κ) 9998 ks _ 0 l m r hq.fields (by simpa using e3) (by simpa using f3) hr
    have hg : (eqGuard op t x y (.agg cs.toArray) (.agg ds.toArray)).run P w = .ok () w := by
      rcases hop with rfl | rfl <;> simp [eqGuard, hq.guard]
    refine ⟨.bool (if op = .eql then r else !r), ?_, by simp [Rd]⟩
    rcases hop with rfl | rfl <;> simp [execOp, h, e1, f1, hg, binOp, hrun]

/-- Truths held against one another. -/
theorem good_eq_bool {P : Program} (Γ : Ty P) {o : Oper} {s : SS} {op : BinOp} {t yt : TypeId} {ti : TI} {x y : Operand} {p q : Bool} (h : o.op = .binOp op t x y yt) (hop : op = .eql ∨ op = .neq) (ht : Γ.get t = some ti) (hk : ti.k = .bool)
    (hx : ev s x = .val (.bool p)) (hy : ev s y = .val (.bool q)) : Good P o s ⟨.val (.bool (if op = .eql then p == q else p != q)), [], []⟩ :=
  Good.pure fun κ a w _ hrd _ => by
    have h1 := hrd x (by simp [h, Op.operands])
    have h2 := hrd y (by simp [h, Op.operands])
    rw [hx] at h1
    rw [hy] at h2
    obtain ⟨d, info, z, k1, k2, _⟩ := Γ.ok t ti ht
    rw [hk] at k2
    simp only [TK.ok] at k2
    subst k2
    have hrun := run_equal_bool (P := P) w t p q k1
    refine ⟨.bool (if op = .eql then p == q else p != q), ?_, by simp [Rd]⟩
    rcases hop with rfl | rfl <;> simp [execOp, h, h1.val, h2.val, eqGuard_at_bool, binOp, hrun, bne]

theorem run_equalIn_ptr_nil {P : Program} (w : World) (d : Nat) {t e : TypeId} (h : P.underlying t = some (.pointer e)) (p : Option Addr) : (Op.equalIn (d + 1) t (.pointer p) (.pointer none)).run P w = .ok p.isNone w := by
  cases p <;> simp [Op.equalIn, run_underlying h]

/-- A pointer against nil. -/
theorem good_eq_nil {P : Program} (Γ : Ty P) {o : Oper} {s : SS} {op : BinOp} {t yt : TypeId} {ti : TI} {x y : Operand} (h : o.op = .binOp op t x y yt) (hop : op = .eql ∨ op = .neq) (ht : Γ.get t = some ti) (hk : ti.k = .ptr)
    (hy : ev s y = .val (.pointer none)) {b : Bool} {rd : List Nat} (hx : (∃ k off l, ev s x = .ptr k off ∧ s.h k = .box l ∧ rd = [k] ∧ b = false) ∨ (ev s x = .val (.pointer none) ∧ rd = [] ∧ b = true)) : Good P o s ⟨.val (.bool (if op = .eql then b else !b)), rd, []⟩ :=
  Good.pure fun κ a w _ hrd ho => by
    have h1 := hrd x (by simp [h, Op.operands])
    have h2 := hrd y (by simp [h, Op.operands])
    rw [hy] at h2
    obtain ⟨d, info, z, k1, k2, _⟩ := Γ.ok t ti ht
    rw [hk] at k2
    simp only [TK.ok] at k2
    obtain ⟨e, rfl⟩ := k2
    have key : ∃ p : Option Addr, a.eval x = .pointer p ∧ p.isNone = b := by
      rcases hx with ⟨k, off, l, hx, hl, rfl, rfl⟩ | ⟨hx, rfl, rfl⟩
      · have h3 := ho k (by simp)
        rw [hl] at h3
        obtain ⟨bb, cs, T, fr, e1, _⟩ := h3
        rw [hx] at h1
        simp only [Rd, e1] at h1
        exact ⟨_, h1, rfl⟩
      · rw [hx] at h1
        exact ⟨none, h1.val, rfl⟩
    obtain ⟨p, e1, e2⟩ := key
    have hrun : (Op.equal t (.pointer p) (.pointer none)).run P w = .ok b w := by
      show (Op.equalIn (9999 + 1) t (.pointer p) (.pointer none)).run P w = .ok b w
      rw [run_equalIn_ptr_nil w 9999 k1, e2]
    refine ⟨.bool (if op = .eql then b else !b), ?_, by simp [Rd]⟩
    rcases hop with rfl | rfl <;> simp [execOp, h, e1, h2.val, eqGuard_at_pointer, binOp, hrun]

end Go.Sy
