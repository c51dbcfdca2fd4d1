/-
  The symbolic layer, 2: single operations.
-/
import Derived.Test.YtjnkgkpenhjmfaaSy1
namespace Go.Sy

inductive TK
  | bool | int (k : IntKind) | string
  | slice (e : TypeId) (esz ebytes : Nat) (ez : List Value)
  | struct (fs : List (Nat × Nat))
  | ptr | iface | func | other

structure TI where
  k : TK
  size : Nat
  zero : List Value

def TI.agg (i : TI) : Bool := match i.k with | .struct _ => true | _ => false

def fieldsOK (P : Program) : List Field → List (Nat × Nat) → Prop
  | [], [] => True
  | f :: fs, (o, n) :: r => f.offset = o ∧ (P.info? f.type).map (·.size) = some n ∧ fieldsOK P fs r
  | _, _ => False

def TK.ok (P : Program) : TypeDesc → TK → Prop
  | d, .bool => d = .bool
  | d, .int k => d = .int k
  | d, .string => d = .string
  | d, .slice e esz eb ez => d = .slice e ∧ ∃ i z, P.info? e = some i ∧ i.size = esz ∧ i.bytes = eb ∧ i.zero = some z ∧ z.cells.toList = ez
  | d, .struct fs => ∃ a, d = .struct a ∧ fieldsOK P a.toList fs
  | d, .ptr => ∃ e, d = .pointer e
  | d, .iface => ∃ m, d = .interface m
  | d, .func => ∃ a b c, d = .func a b c
  | _, .other => False

def TI.ok (P : Program) (t : TypeId) (i : TI) : Prop :=
  ∃ d info z, P.underlying t = some d ∧ TK.ok P d i.k ∧ P.info? t = some info ∧ info.size = i.size ∧ info.zero = some z ∧ z.cells.toList = i.zero

/-- What is known of the types. -/
structure Ty (P : Program) where
  get : TypeId → Option TI
  ok : ∀ t i, get t = some i → i.ok P t

def upd {β : Type 1} (f : Nat → β) (d : Nat) (v : β) : Nat → β := fun i => bif Nat.beq i d then v else f i

theorem upd_self {β : Type 1} (f : Nat → β) (d : Nat) (v : β) : upd f d v d = v := by simp [upd]
theorem upd_ne {β : Type 1} (f : Nat → β) {d i : Nat} (v : β) (h : i ≠ d) : upd f d v i = f i := by
  have : Nat.beq i d = false := by
    cases hb : Nat.beq i d with
    | false => rfl
    | true => exact absurd (Nat.eq_of_beq_eq_true hb) h
  simp [upd, this]

def ev (s : SS) : Operand → SV
  | .tmp t => s.σ t
  | .const v => .val v
  | .global g => .val (.pointer (some ⟨g, 0, none⟩))
  | .func f => .clo (.func f) [] []

structure Up : Type 1 where
  v : SV
  rd : List Nat
  objs : List (Nat × Ob)

def Up.ws (U : Up) : List Nat := U.objs.map (·.1)

/-- The operation does just this, from whatever fits. -/
def Good (P : Program) (o : Oper) (s : SS) (U : Up) : Prop :=
  ∀ (κ : Ka) (a : Act) (w : World), Inv κ w → (∀ x ∈ o.op.operands, Rd κ w (ev s x) (a.eval x)) → (∀ k, k ∈ U.rd ∨ k ∈ U.ws → ObOK κ w k (s.h k)) →
    ∀ (N : Act → World → Prop) (Q : Exit → Act → World → Prop),
      (∀ v κ' w', Step (· ∈ U.ws) κ w κ' w' → Inv κ' w' → Rd κ' w' U.v v → (∀ x ∈ U.objs, ObOK κ' w' x.1 x.2) → N (a.put o.dst v) w') → o.wp P a w N Q

/-- An operation that leaves the world alone. -/
theorem Good.pure {P : Program} {o : Oper} {s : SS} {x : SV} {rd : List Nat}
    (h : ∀ (κ : Ka) (a : Act) (w : World), Inv κ w → (∀ x ∈ o.op.operands, Rd κ w (ev s x) (a.eval x)) → (∀ k, k ∈ rd → ObOK κ w k (s.h k)) → ∃ v, (execOp a.eval o).run P w = .ok (.value v) w ∧ Rd κ w x v) : Good P o s ⟨x, rd, []⟩ := by
  intro κ a w hi hr ho N Q hN
  obtain ⟨v, h1, h2⟩ := h κ a w hi hr (fun k hk => ho k (.inl hk))
  simp only [Oper.wp, h1, Oper.upon]
  exact hN v κ w (Step.refl _ κ w) hi h2 (fun x hx => by cases hx)

theorem good_move {P : Program} {o : Oper} {s : SS} {x : Operand} (h : o.op = .move x ∨ o.op = .assign x) : Good P o s ⟨ev s x, [], []⟩ :=
  Good.pure fun κ a w _ hr _ => by
    refine ⟨a.eval x, ?_, hr x ?_⟩
    · rcases h with h | h <;> simp [execOp, h]
    · rcases h with h | h <;> simp [h, Op.operands]

theorem Rd.val {κ : Ka} {w : World} {u v : Value} (h : Rd κ w (.val u) v) : v = u := by simpa [Rd] using h

theorem good_pick {P : Program} {o : Oper} {s : SS} {c x y : Operand} {b : Bool} (h : o.op = .pick c x y) (hc : ev s c = .val (.bool b)) : Good P o s ⟨if b then ev s x else ev s y, [], []⟩ :=
  Good.pure fun κ a w _ hr _ => by
    have h1 := hr c (by simp [h, Op.operands])
    rw [hc] at h1
    refine ⟨if b then a.eval x else a.eval y, ?_, ?_⟩
    · simp [execOp, h, h1.val, asBool]
    · cases b
      · exact hr y (by simp [h, Op.operands])
      · exact hr x (by simp [h, Op.operands])

theorem good_pick_bool {P : Program} {o : Oper} {s : SS} {c x y : Operand} {b p q : Bool} (h : o.op = .pick c x y) (hc : ev s c = .val (.bool b)) (hx : ev s x = .val (.bool p)) (hy : ev s y = .val (.bool q)) :
    Good P o s ⟨.val (.bool (cond b p q)), [], []⟩ := by
  have := good_pick (P := P) h hc
  rw [hx, hy] at this
  cases b <;> exact this

/-- An integer's operation. -/
theorem good_int {P : Program} {o : Oper} {s : SS} {op : BinOp} {t yt : TypeId} {x y : Operand} {k : IntKind} {m n : Int} {u : Value} (h : o.op = .binOp op t x y yt)
    (hx : ev s x = .val (.int k m)) (hy : ev s y = .val (.int k n)) (hr : ∀ w, (binOp op t (.int k m) (.int k n)).run P w = .ok u w) : Good P o s ⟨.val u, [], []⟩ :=
  Good.pure fun κ a w _ hrd _ => by
    have h1 := hrd x (by simp [h, Op.operands])
    have h2 := hrd y (by simp [h, Op.operands])
    rw [hx] at h1
    rw [hy] at h2
    refine ⟨u, ?_, by simp [Rd]⟩
    simp [execOp, h, h1.val, h2.val, eqGuard_at_int, hr]

/-! ### Names, and what becomes of them -/
def setK (κ : Ka) (d : Nat) (e : Ent) : Ka := ⟨fun i => if i = d then e else κ i, κ.M⟩
theorem setK_self (κ : Ka) (d : Nat) (e : Ent) : setK κ d e d = e := by simp [setK]
theorem setK_ne (κ : Ka) {d i : Nat} (e : Ent) (h : i ≠ d) : setK κ d e i = κ i := by simp [setK, h]
theorem setK_M (κ : Ka) (d : Nat) (e : Ent) : (setK κ d e).M = κ.M := rfl

/-- The very same, but for new blocks and the count of draws. -/
structure Grew (w w' : World) : Prop where
  os : w'.os = w.os
  tape : w'.tape = w.tape
  output : w'.output = w.output
  size : w.heap.size ≤ w'.heap.size
  blk : ∀ b, b < w.heap.size → w'.heap[b]? = w.heap[b]?

theorem Grew.refl (w : World) : Grew w w := ⟨rfl, rfl, rfl, Nat.le_refl _, fun _ _ => rfl⟩
theorem Grew.alloc (w : World) (o : Obj) : Grew w (w.alloc o) := ⟨rfl, rfl, rfl, by simp, fun b hb => RowKit.Below.heap_alloc w o b hb⟩
theorem Grew.drew (w : World) : Grew w w.drew := ⟨rfl, rfl, rfl, Nat.le_refl _, fun _ _ => rfl⟩
theorem Grew.trans {a b c : World} (h : Grew a b) (k : Grew b c) : Grew a c :=
  ⟨k.os.trans h.os, k.tape.trans h.tape, k.output.trans h.output, Nat.le_trans h.size k.size, fun i hi => (k.blk i (Nat.lt_of_lt_of_le hi h.size)).trans (h.blk i hi)⟩

/-- A name takes a new block (or none). -/
theorem step_new {κ : Ka} {w w' : World} {d : Nat} {e : Ent} (hi : Inv κ w) (hd : κ d = .new) (g : Grew w w') (he : ∀ b, e.block? = some b → w.heap.size ≤ b ∧ b < w'.heap.size) :
    Step (· = d) κ w (setK κ d e) w' ∧ Inv (setK κ d e) w' := by
  have key : ∀ k b, ((setK κ d e) k).block? = some b → (k = d ∧ e.block? = some b) ∨ (k ≠ d ∧ (κ k).block? = some b) := by
    intro k b h
    by_cases hk : k = d
    · subst hk; rw [setK_self] at h; exact .inl ⟨rfl, h⟩
    · rw [setK_ne κ e hk] at h; exact .inr ⟨hk, h⟩
  refine ⟨⟨g.size, g.os, g.tape, g.output, rfl, fun b hb => g.blk b (hi.mbnd b hb), fun b hb _ => g.blk b hb, fun k b _ hb => g.blk b (hi.bnd k b hb), fun k hk => setK_ne κ e hk, fun k hk => .inl (by rw [hk]; exact hd), ?_⟩, ⟨?_, ?_, ?_, fun b hb => Nat.lt_of_lt_of_le (hi.mbnd b hb) g.size⟩⟩
  · rintro b (⟨k, hk⟩ | hk)
    · rcases key k b hk with ⟨_, h⟩ | ⟨_, h⟩
      · exact .inr (he b h).1
      · exact .inl (.inl ⟨k, h⟩)
    · exact .inl (.inr hk)
  · intro i j b h1 h2
    rcases key i b h1 with ⟨n1, g1⟩ | ⟨n1, g1⟩ <;> rcases key j b h2 with ⟨n2, g2⟩ | ⟨n2, g2⟩
    · exact n1.trans n2.symm
    · have := (he b g1).1; have := hi.bnd j b g2; omega
    · have := (he b g2).1; have := hi.bnd i b g1; omega
    · exact hi.inj i j b g1 g2
  · intro k b h
    rcases key k b h with ⟨_, h⟩ | ⟨_, h⟩
    · exact (he b h).2
    · exact Nat.lt_of_lt_of_le (hi.bnd k b h) g.size
  · intro k b h hm
    rcases key k b h with ⟨_, h⟩ | ⟨_, h⟩
    · have := (he b h).1; have := hi.mbnd b hm; omega
    · exact hi.apart k b h hm

/-- A name's own block is written. -/
theorem step_write {κ : Ka} {w w' : World} {k b : Nat} (hi : Inv κ w) (hk : (κ k).block? = some b) (hos : w'.os = w.os) (ht : w'.tape = w.tape) (ho : w'.output = w.output)
    (hs : w'.heap.size = w.heap.size) (hb : ∀ i, i ≠ b → w'.heap[i]? = w.heap[i]?) : Step (· = k) κ w κ w' ∧ Inv κ w' := by
  refine ⟨⟨by omega, hos, ht, ho, rfl, fun i hm => hb i (fun e => hi.apart k b hk (e ▸ hm)), fun i _ hn => hb i (fun e => hn (.inl ⟨k, e ▸ hk⟩)), fun j i hj hji => hb i (fun e => hj (hi.inj j k b (e ▸ hji) hk)), fun _ _ => rfl, fun _ _ => .inr (.inl rfl), fun _ h => .inl h⟩, ⟨hi.inj, fun j i h => ?_, hi.apart, fun i h => ?_⟩⟩
  · rw [hs]; exact hi.bnd j i h
  · rw [hs]; exact hi.mbnd i h

theorem good_new {P : Program} {o : Oper} {s : SS} {d : Nat} {x : SV} {ob : Ob} {rd : List Nat} (hd : s.h d = .fresh)
    (h : ∀ (κ : Ka) (a : Act) (w : World), Inv κ w → (∀ x ∈ o.op.operands, Rd κ w (ev s x) (a.eval x)) → (∀ k, k ∈ rd → ObOK κ w k (s.h k)) → κ d = .new →
      ∃ v w' e, (execOp a.eval o).run P w = .ok (.value v) w' ∧ Grew w w' ∧ (∀ b, e.block? = some b → w.heap.size ≤ b ∧ b < w'.heap.size) ∧
        (Step (· = d) κ w (setK κ d e) w' → Rd (setK κ d e) w' x v ∧ ObOK (setK κ d e) w' d ob)) : Good P o s ⟨x, rd, [(d, ob)]⟩ := by
  intro κ a w hi hr ho N Q hN
  have hnew : κ d = .new := by have := ho d (.inr (by simp [Up.ws])); rwa [hd] at this
  obtain ⟨v, w', e, h1, h2, h3, h4⟩ := h κ a w hi hr (fun k hk => ho k (.inl hk)) hnew
  have hst := step_new hi hnew h2 h3
  obtain ⟨h5, h6⟩ := h4 hst.1
  simp only [Oper.wp, h1, Oper.upon]
  exact hN v _ w' (hst.1.weaken (by simp [Up.ws])) hst.2 h5 (fun y hy => by simp only [List.mem_singleton] at hy; subst hy; exact h6)

def cellsOf : SV → List SV
  | .agg l => l
  | x => [x]

/-- One cell's worth. -/
def SV.one : SV → Bool
  | .val v => v.oneCell'
  | .top => false
  | .agg _ => false
  | .tup _ => false
  | _ => true

theorem Rd.one {κ : Ka} {w : World} : ∀ {x : SV} {v : Value}, Rd κ w x v → x.one = true → v.oneCell' = true
  | .val u, v, h, h1 => by rw [h.val]; exact h1
  | .sl sz e l, v, h, _ => by
    simp only [Rd, RdD] at h
    rcases h with ⟨_, a, c, rfl⟩ | ⟨b, off, cap, rfl, _⟩ <;> rfl
  | .ref sz x off, v, h, _ => by
    simp only [Rd, RdD] at h
    obtain ⟨b, o, u, rfl, _⟩ := h
    rfl
  | .ptr k off, v, h, _ => by
    simp only [Rd] at h
    cases hk : κ k <;> simp only [hk] at h <;> first | exact h.elim | exact h | (subst h; rfl)
  | .rpt k sz i off, v, h, _ => by
    simp only [Rd] at h
    cases hk : κ k <;> simp only [hk] at h <;> first | exact h.elim | exact h | (subst h; rfl)
  | .osl k, v, h, _ => by
    simp only [Rd] at h
    cases hk : κ k <;> simp only [hk] at h <;> first | exact h.elim | exact h | (subst h; rfl)
  | .ifc t x, v, h, _ => by
    simp only [Rd] at h
    obtain ⟨u, rfl, _⟩ := h
    rfl
  | .clo fn first cap, v, h, _ => by
    simp only [Rd] at h
    obtain ⟨u, u', rfl, _⟩ := h
    rfl

/-- A value that can be stored: its cells. -/
def SV.boxed : SV → Bool
  | .agg _ => true
  | x => x.one

theorem Value.cells_one {v : Value} (h : v.oneCell' = true) : v.cells = #[v] := by
  cases v <;> simp_all [Value.oneCell', Value.cells]

theorem Rd.cells {κ : Ka} {w : World} {x : SV} {v : Value} (h : Rd κ w x v) (hb : x.boxed = true) : Ones v.cells.toList ∧ RdL κ w (cellsOf x) v.cells.toList := by
  have plain : x.one = true → Ones v.cells.toList ∧ RdL κ w [x] v.cells.toList := fun h1 => by
    have h2 := h.one h1
    rw [Value.cells_one h2]
    refine ⟨fun c hc => by simp at hc; subst hc; exact h2, ?_⟩
    simp only [RdL]
    exact ⟨v, [], rfl, h, rfl⟩
  cases x with
  | agg l =>
    simp only [Rd] at h
    obtain ⟨cs, rfl, h1, h2⟩ := h
    exact ⟨by simpa [Value.cells] using h1, by simpa [Value.cells, cellsOf] using h2⟩
  | top => exact plain hb
  | val v => exact plain hb
  | tup l => simp [SV.boxed, SV.one] at hb
  | sl sz e l => exact plain hb
  | ref sz x off => exact plain hb
  | ptr k off => exact plain hb
  | rpt k sz i off => exact plain hb
  | osl k => exact plain hb
  | ifc t x => exact plain hb
  | clo fn first cap => exact plain hb

theorem NoFr.zero (n : Nat) : NoFr (0, 0) n := .inl rfl

theorem good_box {P : Program} {o : Oper} {s : SS} {t : TypeId} {x : Operand} {d : Nat} (h : o.op = .box t x) (hd : s.h d = .fresh) (hb : (ev s x).boxed = true) :
    Good P o s ⟨.ptr d 0, [], [(d, .box (cellsOf (ev s x)))]⟩ :=
  good_new hd fun κ a w hi hr _ hn => by
    have h1 := hr x (by simp [h, Op.operands])
    have h2 := h1.cells hb
    refine ⟨.pointer (some ⟨w.heap.size, 0, none⟩), w.alloc (.cells (a.eval x).cells t), .blk w.heap.size, ?_, Grew.alloc w _, ?_, ?_⟩
    · simp [execOp, h, Instr.box, newVar, newRow]
    · intro b hb; simp only [Ent.block?, Option.some.injEq] at hb; subst hb; simp
    · intro st
      refine ⟨by simp [Rd, setK_self], w.heap.size, (a.eval x).cells.toList, t, (0, 0), setK_self _ _ _, ?_, NoFr.zero _, h2.1, RdL.step st _ _ h2.2⟩
      rw [heap_alloc_new]

theorem Rd_vals {κ : Ka} {w : World} : ∀ l : List Value, RdL κ w (l.map .val) l
  | [] => by simp [RdL]
  | v :: l => by simp only [List.map_cons, RdL]; exact ⟨v, l, rfl, by simp [Rd], Rd_vals l⟩

def onesB (l : List Value) : Bool := l.all (·.oneCell')
theorem onesB_ok {l : List Value} (h : onesB l = true) : Ones l := by simpa [onesB, Ones] using h

theorem good_alloc {P : Program} (Γ : Ty P) {o : Oper} {s : SS} {t : TypeId} {i : TI} {d : Nat} (h : o.op = .alloc t) (hd : s.h d = .fresh) (ht : Γ.get t = some i) (h1 : onesB i.zero = true) :
    Good P o s ⟨.ptr d 0, [], [(d, .box (i.zero.map .val))]⟩ :=
  good_new hd fun κ a w hi hr _ hn => by
    obtain ⟨dd, info, z, k1, k2, k3, k4, k5, k6⟩ := Γ.ok t i ht
    refine ⟨.pointer (some ⟨w.heap.size, 0, none⟩), w.alloc (.cells z.cells t), .blk w.heap.size, ?_, Grew.alloc w _, ?_, ?_⟩
    · simp [execOp, h, Instr.alloc, newVar, newRow, zeroValue, typeInfo, k3, k5]
    · intro b hb; simp only [Ent.block?, Option.some.injEq] at hb; subst hb; simp
    · intro st
      refine ⟨by simp [Rd, setK_self], w.heap.size, i.zero, t, (0, 0), setK_self _ _ _, ?_, NoFr.zero _, onesB_ok h1, Rd_vals _⟩
      rw [heap_alloc_new, ← k6]

/-! ### Cells at a place -/
def CellsAt (κ : Ka) (w : World) (b o : Nat) (l : List SV) : Prop := ∃ cs : List Value, RdL κ w l cs ∧ Ones cs ∧ ∀ j, j < cs.length → w.cell? ⟨b, o + j, none⟩ = cs[j]?

theorem RdL.length {κ : Ka} {w : World} : ∀ {l : List SV} {cs : List Value}, RdL κ w l cs → cs.length = l.length
  | [], cs, h => by simp only [RdL] at h; subst h; rfl
  | x :: l, cs, h => by
    simp only [RdL] at h
    obtain ⟨v, r, rfl, _, h⟩ := h
    simp [h.length]

theorem RdL.drop {κ : Ka} {w : World} : ∀ (n : Nat) {l : List SV} {cs : List Value}, RdL κ w l cs → RdL κ w (l.drop n) (cs.drop n)
  | 0, l, cs, h => by simpa using h
  | n + 1, [], cs, h => by simp only [RdL] at h; subst h; simp [RdL]
  | n + 1, x :: l, cs, h => by
    simp only [RdL] at h
    obtain ⟨v, r, rfl, _, h⟩ := h
    simpa using h.drop n

theorem RdL.take {κ : Ka} {w : World} : ∀ (n : Nat) {l : List SV} {cs : List Value}, RdL κ w l cs → RdL κ w (l.take n) (cs.take n)
  | 0, l, cs, h => by simp [RdL]
  | n + 1, [], cs, h => by simp only [RdL] at h; subst h; simp [RdL]
  | n + 1, x :: l, cs, h => by
    simp only [RdL] at h
    obtain ⟨v, r, rfl, h1, h⟩ := h
    simp only [List.take_succ_cons, RdL]
    exact ⟨v, _, rfl, h1, h.take n⟩

theorem RdL.append {κ : Ka} {w : World} : ∀ {l m : List SV} {cs ds : List Value}, RdL κ w l cs → RdL κ w m ds → RdL κ w (l ++ m) (cs ++ ds)
  | [], m, cs, ds, h, h' => by simp only [RdL] at h; subst h; simpa using h'
  | x :: l, m, cs, ds, h, h' => by
    simp only [RdL] at h
    obtain ⟨v, r, rfl, h1, h⟩ := h
    simp only [List.cons_append, RdL]
    exact ⟨v, _, rfl, h1, h.append h'⟩

theorem RdL.get {κ : Ka} {w : World} : ∀ {n : Nat} {l : List SV} {cs : List Value} {x : SV}, RdL κ w l cs → getI l n = some x → ∃ v, cs[n]? = some v ∧ Rd κ w x v
  | n, [], cs, x, h, hg => by cases n <;> simp [getI] at hg
  | 0, y :: l, cs, x, h, hg => by
    simp only [RdL] at h
    obtain ⟨v, r, rfl, h1, h⟩ := h
    simp only [getI, Option.some.injEq] at hg
    subst hg
    exact ⟨v, by simp, h1⟩
  | n + 1, y :: l, cs, x, h, hg => by
    simp only [RdL] at h
    obtain ⟨v, r, rfl, h1, h⟩ := h
    obtain ⟨u, h2, h3⟩ := h.get (n := n) hg
    exact ⟨u, by simpa using h2, h3⟩

theorem Ones.drop {cs : List Value} (h : Ones cs) (n : Nat) : Ones (cs.drop n) := fun c hc => h c (List.mem_of_mem_drop hc)
theorem Ones.take {cs : List Value} (h : Ones cs) (n : Nat) : Ones (cs.take n) := fun c hc => h c (List.mem_of_mem_take hc)
theorem Ones.append {cs ds : List Value} (h : Ones cs) (h' : Ones ds) : Ones (cs ++ ds) := fun c hc => by
  rcases List.mem_append.1 hc with hc | hc
  · exact h c hc
  · exact h' c hc

theorem run_isAgg {P : Program} (Γ : Ty P) {t : TypeId} {i : TI} (ht : Γ.get t = some i) (w : World) (hk : i.k matches .bool | .int _ | .string | .slice .. | .struct _ | .ptr | .iface | .func) :
    (isAgg t).run P w = .ok i.agg w := by
  obtain ⟨d, info, z, k1, k2, k3, k4, k5, k6⟩ := Γ.ok t i ht
  obtain ⟨k, n, zz⟩ := i
  cases k <;> simp only [TK.ok] at k2 <;> first
    | (subst k2; simp [isAgg, run_underlying k1, TI.agg]; done)
    | (obtain ⟨a, rfl, _⟩ := k2; simp [isAgg, run_underlying k1, TI.agg]; done)
    | (obtain ⟨rfl, _⟩ := k2; simp [isAgg, run_underlying k1, TI.agg]; done)
    | (obtain ⟨a, rfl⟩ := k2; simp [isAgg, run_underlying k1, TI.agg]; done)
    | (obtain ⟨a, b, c, rfl⟩ := k2; simp [isAgg, run_underlying k1, TI.agg]; done)
    | simp at hk

theorem TK.plain {P : Program} {d : TypeDesc} : ∀ {k : TK}, TK.ok P d k → (k matches .bool | .int _ | .string | .slice .. | .struct _ | .ptr | .iface | .func)
  | .bool, _ => rfl | .int _, _ => rfl | .string, _ => rfl | .slice .., _ => rfl | .struct _, _ => rfl | .ptr, _ => rfl | .iface, _ => rfl | .func, _ => rfl
  | .other, h => by simp [TK.ok] at h

theorem run_loadVar {P : Program} (Γ : Ty P) {κ : Ka} {w : World} {t : TypeId} {i : TI} (ht : Γ.get t = some i) {b o off : Nat} {l : List SV} (hc : CellsAt κ w b o l) :
    (i.agg = true → off + i.size ≤ l.length → ∃ v, (loadVar t ⟨b, o + off, none⟩).run P w = .ok v w ∧ Rd κ w (.agg ((l.drop off).take i.size)) v) ∧
    (i.agg = false → ∀ x, getI l off = some x → ∃ v, (loadVar t ⟨b, o + off, none⟩).run P w = .ok v w ∧ Rd κ w x v) := by
  obtain ⟨cs, h1, h2, h3⟩ := hc
  obtain ⟨d, info, z, k1, k2, k3, k4, k5, k6⟩ := Γ.ok t i ht
  have hia := run_isAgg Γ ht w (TK.plain k2)
  constructor
  · intro ha hl
    have hlen := h1.length
    have hload := run_loadCells_list (P := P) w ⟨b, o + off, none⟩ ((cs.drop off).take i.size) (fun j v hj => by
      rw [List.getElem?_take] at hj
      split at hj
      · rw [List.getElem?_drop] at hj
        have hlt : off + j < cs.length := by
          rcases Nat.lt_or_ge (off + j) cs.length with h | h
          · exact h
          · rw [List.getElem?_eq_none h] at hj; cases hj
        rw [Addr.add_lit, Nat.add_assoc, h3 _ hlt]; exact hj
      · cases hj)
    have hn : ((cs.drop off).take i.size).length = i.size := by simp; omega
    rw [hn] at hload
    refine ⟨.agg ((cs.drop off).take i.size).toArray, ?_, ?_⟩
    · simp [loadVar, hia, ha, sizeOf, typeInfo, k3, k4, hload]
    · simp only [Rd]
      exact ⟨_, rfl, (h2.drop off).take _, (h1.drop off).take _⟩
  · intro ha x hx
    obtain ⟨v, h4, h5⟩ := h1.get hx
    have hlt : off < cs.length := by
      rcases Nat.lt_or_ge off cs.length with h | h
      · exact h
      · rw [List.getElem?_eq_none h] at h4; cases h4
    exact ⟨v, by simp [loadVar, hia, ha, h3 off hlt, h4], h5⟩

/-- What a load of a type takes out of some cells. -/
def loadSV (i : TI) (l : List SV) (off : Nat) : Option SV :=
  match i.agg with
  | true => bif Nat.ble (off + i.size) l.length then some (.agg ((l.drop off).take i.size)) else none
  | false => getI l off

theorem run_loadSV {P : Program} (Γ : Ty P) {κ : Ka} {w : World} {t : TypeId} {i : TI} (ht : Γ.get t = some i) {b o off : Nat} {l : List SV} (hc : CellsAt κ w b o l) {x : SV} (hx : loadSV i l off = some x) :
    ∃ v, (loadVar t ⟨b, o + off, none⟩).run P w = .ok v w ∧ Rd κ w x v := by
  obtain ⟨h1, h2⟩ := run_loadVar (off := off) Γ ht hc
  unfold loadSV at hx
  cases ha : i.agg with
  | false => rw [ha] at hx; exact h2 ha x hx
  | true =>
    rw [ha] at hx
    simp only [Bool.cond_eq_ite] at hx
    split at hx
    · rename_i hb
      simp only [Option.some.injEq] at hx
      subst hx
      exact h1 ha (Nat.le_of_ble_eq_true hb)
    · cases hx

theorem ObOK.cellsAt {κ : Ka} {w : World} {k : Nat} {l : List SV} (h : ObOK κ w k (.box l)) : ∃ b, κ k = .blk b ∧ CellsAt κ w b 0 l := by
  obtain ⟨b, cs, T, fr, h1, h2, h3, h4, h5⟩ := h
  refine ⟨b, h1, cs, h5, h4, fun j hj => ?_⟩
  rw [Nat.zero_add, cell_of_row w b j cs.toArray T fr h2]
  simp

theorem RdD.toRd {κ : Ka} {w : World} {x : SV} {v : Value} (h : RdD (Own κ) w x v) : Rd κ w x v := Rd.of_data x v h

theorem LaidAt.cellsAt {κ : Ka} {w : World} {b o sz : Nat} {x : SV} {u : Value} (h : LaidAt w b o sz u) (hr : Rd κ w x u) (hb : x.boxed = true) : CellsAt κ w b o (cellsOf x) := by
  obtain ⟨h1, h2, h3⟩ := h
  refine ⟨u.cells.toList, (hr.cells hb).2, h2, fun j hj => ?_⟩
  rw [h3 j (by simpa [h1] using hj)]
  simp

theorem good_load_ptr {P : Program} (Γ : Ty P) {o : Oper} {s : SS} {t : TypeId} {i : TI} {x : Operand} {k off : Nat} {l : List SV} {y : SV} (h : o.op = .load t x) (hx : ev s x = .ptr k off)
    (ht : Γ.get t = some i) (hk : s.h k = .box l) (hy : loadSV i l off = some y) : Good P o s ⟨y, [k], []⟩ :=
  Good.pure fun κ a w _ hr ho => by
    have h1 := hr x (by simp [h, Op.operands])
    have h2 := ho k (by simp)
    rw [hk] at h2
    obtain ⟨b, h3, h4⟩ := h2.cellsAt
    rw [hx] at h1
    simp only [Rd, h3] at h1
    obtain ⟨v, h5, h6⟩ := run_loadSV Γ ht h4 hy
    rw [Nat.zero_add] at h5
    exact ⟨v, by simp [execOp, h, h1, Instr.loadAt, Instr.sureAddr, h5], h6⟩

theorem good_load_ref {P : Program} (Γ : Ty P) {o : Oper} {s : SS} {t : TypeId} {i : TI} {x : Operand} {sz off : Nat} {z y : SV} (h : o.op = .load t x) (hx : ev s x = .ref sz z off)
    (ht : Γ.get t = some i) (hz : z.boxed = true) (hy : loadSV i (cellsOf z) off = some y) : Good P o s ⟨y, [], []⟩ :=
  Good.pure fun κ a w _ hr _ => by
    have h1 := hr x (by simp [h, Op.operands])
    rw [hx] at h1
    simp only [Rd, RdD] at h1
    obtain ⟨b, oo, u, h2, h3, h4, h5, h6⟩ := h1
    obtain ⟨v, h7, h8⟩ := run_loadSV Γ ht (h6.cellsAt h5.toRd hz) hy
    exact ⟨v, by simp [execOp, h, h2, Instr.loadAt, Instr.sureAddr, h7], h8⟩

/-! ### Rows -/
theorem RowAt.cellsAt {κ : Ka} {w : World} {k sz n : Nat} {f : Nat → SV → Prop} (h : RowAt κ w k sz n f) {i : Nat} {x : SV} (hx : f i x) (hb : x.boxed = true) :
    ∃ b cap, κ k = .row b n cap ∧ CellsAt κ w b (i * sz) (cellsOf x) := by
  obtain ⟨b, cap, cs, T, fr, h1, h2, h3, h4, h5, h6⟩ := h
  obtain ⟨h0, u, h7, h8, h9, h10⟩ := h6 i x hx
  refine ⟨b, cap, h1, u.cells.toList, (h7.toRd.cells hb).2, h9, fun j hj => ?_⟩
  rw [cell_of_row w b _ cs.toArray T fr h2, List.getElem?_toArray, h10 j (by simpa [h8] using hj)]
  simp

theorem good_load_row {P : Program} (Γ : Ty P) {o : Oper} {s : SS} {t : TypeId} {ti : TI} {x : Operand} {k sz i off n : Nat} {f : Nat → SV → Prop} {z y : SV} (h : o.op = .load t x) (hx : ev s x = .rpt k sz i off)
    (ht : Γ.get t = some ti) (hk : ∀ κ w, ObOK κ w k (s.h k) → RowAt κ w k sz n f) (hf : f i z) (hz : z.boxed = true) (hy : loadSV ti (cellsOf z) off = some y) : Good P o s ⟨y, [k], []⟩ :=
  Good.pure fun κ a w _ hr ho => by
    have h1 := hr x (by simp [h, Op.operands])
    have h2 := hk κ w (ho k (by simp))
    obtain ⟨b, cap, h3, h4⟩ := h2.cellsAt hf hz
    rw [hx] at h1
    simp only [Rd, h3] at h1
    obtain ⟨v, h5, h6⟩ := run_loadSV Γ ht h4 hy
    exact ⟨v, by simp [execOp, h, h1, Instr.loadAt, Instr.sureAddr, h5], h6⟩

theorem ObOK.rowAt {κ : Ka} {w : World} {k sz : Nat} {α : Type} {e : α → SV} {l : List α} (h : ObOK κ w k (.row sz e l)) (hl : l ≠ []) : RowAt κ w k sz l.length (rowF e l) :=
  h.resolve_left (fun h => hl h.2)

/-! ### Stores -/
def setAt {α : Type 1} : List α → Nat → List α → List α
  | l, _, [] => l
  | [], _, _ => []
  | _ :: l, 0, v :: vs => v :: setAt l 0 vs
  | x :: l, n + 1, v :: vs => x :: setAt l n (v :: vs)

/-- The same on values. -/
def setV : List Value → Nat → List Value → List Value
  | l, _, [] => l
  | [], _, _ => []
  | _ :: l, 0, v :: vs => v :: setV l 0 vs
  | x :: l, n + 1, v :: vs => x :: setV l n (v :: vs)

theorem setV_eq : ∀ (vs l : List Value) (n : Nat), n + vs.length ≤ l.length → setV l n vs = l.take n ++ vs ++ l.drop (n + vs.length)
  | [], l, n, _ => by cases l <;> simp [setV]
  | v :: vs, [], n, h => by simp at h
  | v :: vs, x :: l, 0, h => by
    have := setV_eq vs l 0 (by simp at h ⊢; omega)
    simp only [setV, this]
    simp [Nat.add_comm]
  | v :: vs, x :: l, n + 1, h => by
    have := setV_eq (v :: vs) l n (by simp at h ⊢; omega)
    simp only [setV, this]
    simp [Nat.add_assoc, Nat.add_comm 1]
    rw [show n + (vs.length + 2) = (n + (vs.length + 1)) + 1 from by omega, List.drop_succ_cons]

theorem RdL.setAt {κ : Ka} {w : World} : ∀ {ys l : List SV} {vs cs : List Value} (n : Nat), RdL κ w l cs → RdL κ w ys vs → RdL κ w (setAt l n ys) (setV cs n vs)
  | [], l, vs, cs, n, h, h' => by
    simp only [RdL] at h'
    subst h'
    cases l <;> cases cs <;> simpa [Sy.setAt, setV] using h
  | y :: ys, [], vs, cs, n, h, h' => by
    simp only [RdL] at h h'
    obtain ⟨v, r, rfl, _, _⟩ := h'
    subst h
    simp [Sy.setAt, setV, RdL]
  | y :: ys, x :: l, vs, cs, 0, h, h' => by
    simp only [RdL] at h h'
    obtain ⟨v, r, rfl, h1, h2⟩ := h'
    obtain ⟨u, q, rfl, h3, h4⟩ := h
    simp only [Sy.setAt, setV, RdL]
    exact ⟨v, _, rfl, h1, RdL.setAt 0 h4 h2⟩
  | y :: ys, x :: l, vs, cs, n + 1, h, h' => by
    have h'' := h'
    simp only [RdL] at h h'
    obtain ⟨v, r, rfl, h1, h2⟩ := h'
    obtain ⟨u, q, rfl, h3, h4⟩ := h
    simp only [Sy.setAt, setV, RdL]
    exact ⟨u, _, rfl, h3, RdL.setAt n h4 h''⟩

theorem Ones.setV : ∀ {vs cs : List Value} (n : Nat), Ones cs → Ones vs → Ones (setV cs n vs)
  | [], cs, n, h, _ => by cases cs <;> simpa [Sy.setV] using h
  | v :: vs, [], n, h, h' => by simpa [Sy.setV] using h
  | v :: vs, x :: l, 0, h, h' => by
    intro c hc
    simp only [Sy.setV, List.mem_cons] at hc
    rcases hc with rfl | hc
    · exact h' _ (by simp)
    · exact Ones.setV 0 (fun c hc => h c (by simp [hc])) (fun c hc => h' c (by simp [hc])) c hc
  | v :: vs, x :: l, n + 1, h, h' => by
    intro c hc
    simp only [Sy.setV, List.mem_cons] at hc
    rcases hc with rfl | hc
    · exact h _ (by simp)
    · exact Ones.setV n (fun c hc => h c (by simp [hc])) h' c hc

theorem setV_length : ∀ (vs cs : List Value) (n : Nat), (setV cs n vs).length = cs.length
  | [], cs, n => by cases cs <;> simp [setV]
  | v :: vs, [], n => by simp [setV]
  | v :: vs, x :: l, 0 => by simp [setV, setV_length vs l 0]
  | v :: vs, x :: l, n + 1 => by simp [setV, setV_length (v :: vs) l n]

/-- Cells stored one by one. -/
theorem run_storeCells_nf (P : Program) (g o : Nat) (t : TypeId) (fz : Nat × Nat) : ∀ (vs : List Value) (i : Nat) (cur : List Value) (w : World), w.heap[g]? = some (.cells cur.toArray t fz) → NoFr fz cur.length →
    o + i + vs.length ≤ cur.length → Ones vs →
    ∃ w', (storeCells ⟨g, o, none⟩ vs i).run P w = .ok () w' ∧ w'.heap[g]? = some (.cells (setV cur (o + i) vs).toArray t fz) ∧ w'.os = w.os ∧ w'.tape = w.tape ∧ w'.output = w.output ∧ w'.heap.size = w.heap.size ∧ ∀ j, j ≠ g → w'.heap[j]? = w.heap[j]?
  | [], i, cur, w, hg, _, _, _ => ⟨w, by simp [storeCells], by cases cur <;> simpa [setV] using hg, rfl, rfl, rfl, rfl, fun _ _ => rfl⟩
  | v :: rest, i, cur, w, hg, hfz, hl, h1 => by
    have hi : o + i < cur.length := by simp at hl; omega
    have hadd : (⟨g, o, none⟩ : Addr).add i = ⟨g, o + i, none⟩ := by unfold Addr.add; split <;> simp_all
    have hcell : w.cell? ⟨g, o + i, none⟩ = some cur[o + i] := by simp [World.cell?, hg, hi]
    have hfro : w.frozen? ⟨g, o + i, none⟩ = false := by
      obtain ⟨lo, hi'⟩ := fz
      simp only [World.frozen?, hg]
      rcases hfz with h | h
      · simp only at h; subst h; simp
      · simp only at h; simp; omega
    have hst : (store ((⟨g, o, none⟩ : Addr).add i) v).run P w = .ok () (w.setCell ⟨g, o + i, none⟩ v) := by
      rw [hadd, run_store P w _ v _ (h1 v (by simp)), hcell]
      simp [hfro]
    have hheap : (w.setCell ⟨g, o + i, none⟩ v).heap[g]? = some (.cells (cur.set (o + i) v).toArray t fz) := by
      simp only [World.setCell, Array.getElem?_modify, if_true, hg, Option.map_some]
      simp
    obtain ⟨w', e1, e2, e3, e4, e5, e6, e7⟩ := run_storeCells_nf P g o t fz rest (i + 1) (cur.set (o + i) v) (w.setCell ⟨g, o + i, none⟩ v) hheap (by simpa using hfz) (by simp at hl ⊢; omega) (fun x hx => h1 x (by simp [hx]))
    refine ⟨w', ?_, ?_, e3, e4, e5, by simpa using e6, fun j hj => (e7 j hj).trans (RowKit.Below.heap_setCell _ _ _ _ hj)⟩
    · simp only [storeCells, Sem.run_bind, hst, Result.andThen_ok, e1]
    · rw [e2]
      congr 3
      rw [setV_eq rest _ _ (by simp at hl ⊢; omega), setV_eq (v :: rest) cur _ (by simp at hl ⊢; omega)]
      have := list_seg_step cur (o + i) v rest (by simp at hl ⊢; omega)
      simpa [Nat.add_assoc] using this

theorem run_storeVar {P : Program} {w : World} {t : TypeId} {info : TypeInfo} (hi : P.info? t = some info) {v : Value} {b o : Nat} {T : TypeId} {fz : Nat × Nat} {cur : List Value} (hg : w.heap[b]? = some (.cells cur.toArray T fz))
    (hfz : NoFr fz cur.length) (hn : v.cells.size = info.size) (hl : o + v.cells.size ≤ cur.length) (h1 : Ones v.cells.toList) :
    ∃ w', (storeVar t ⟨b, o, none⟩ v).run P w = .ok () w' ∧ w'.heap[b]? = some (.cells (setV cur o v.cells.toList).toArray T fz) ∧ w'.os = w.os ∧ w'.tape = w.tape ∧ w'.output = w.output ∧ w'.heap.size = w.heap.size ∧ ∀ j, j ≠ b → w'.heap[j]? = w.heap[j]? := by
  obtain ⟨w', e1, e2, e3⟩ := run_storeCells_nf P b o T fz v.cells.toList 0 cur w hg hfz (by simpa using hl) h1
  refine ⟨w', ?_, by simpa using e2, e3⟩
  simp [storeVar, sizeOf, typeInfo, hi, hn, e1]

end Go.Sy
