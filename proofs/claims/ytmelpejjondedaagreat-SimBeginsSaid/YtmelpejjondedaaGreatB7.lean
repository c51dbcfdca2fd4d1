/-
  The symbolic layer, 24: calls through an interface, type assertions. Contracts: the tree's queue, and the heap over it, 1. Contracts: the heap over the tree's queue, 2. Contracts: the heap over the tree's queue, 3. Contracts: the heap over the tree's queue, 4; spans. Contracts: vectors, 5: great nets, the least vector, the example. Contracts: the laws of vectors, 1. Contracts: the laws of vectors, 2. Contracts: spans (package tree), 1. Contracts: spans (package tree), 2. Contracts: spans (package tree), 3. Contracts: spans (package tree), 4: roles. Contracts: spans (package tree), 5: what is reached. The heap's plain laws: what is in it. The heap's plain laws: it stays one. The heap's plain laws: what is taken off. What reach does: its measure, and what holds throughout. What reach comes to: roots and costs that no link betters, each of which comes of a link or of the device itself. What reach comes to, 2. What roots, costs and roles come to. Contracts: spans (package tree), 6: reach. Contracts: spans (package tree), 6: open.
-/
import Derived.Test.YtmelpejjondedaaGreatB3
import Derived.Test.YtmelpejjondedaaGreatB4
import Derived.Test.YtmelpejjondedaaGreatB6

namespace Go.Sy
structure Meth (P : Program) (t : TypeId) (name : String) (f : FuncId) (pr : Bool) (e : TypeId) : Prop where
  row : ∃ i m, P.info? t = some i ∧ i.methods.find? (·.name == name) = some m ∧ m.path = #[] ∧ m.func = some (f, pr)
  under : P.underlying t = some (.pointer e)
theorem run_method_ptr {P : Program} {t : TypeId} {name : String} {f : FuncId} {e : TypeId} (hm : Meth P t name f true e) (w : World) (v : Value) : (Go.method (P.types.size + Made.depth) t v name).run P w = .ok (f, v) w := by
  obtain ⟨⟨i, m, h1, h2, h3, h4⟩, hu⟩ := hm
  show (Go.method (P.types.size + 99 + 1) t v name).run P w = _
  rw [Go.method]
  simp only [Sem.run_bind, run_typeInfo w h1, Result.andThen_ok, h2, h3, Go.follow, Sem.run_pure, h4, Go.receiverAt, run_underlying hu, Go.Place.get]
theorem run_method_val {P : Program} {t : TypeId} {name : String} {f : FuncId} {e : TypeId} (hm : Meth P t name f false e) (w : World) (a : Addr) {v : Value} (hv : (loadVar e a).run P w = .ok v w) : (Go.method (P.types.size + Made.depth) t (.pointer (some a)) name).run P w = .ok (f, v) w := by
  obtain ⟨⟨i, m, h1, h2, h3, h4⟩, hu⟩ := hm
  show (Go.method (P.types.size + 99 + 1) t (.pointer (some a)) name).run P w = _
  rw [Go.method]
  have he : (#[] : Array FieldStep).isEmpty = true := rfl
  simp only [Sem.run_bind, run_typeInfo w h1, Result.andThen_ok, h2, h3, Go.follow, Sem.run_pure, h4, Go.receiverAt, run_underlying hu, Go.Place.get, he, if_true]
  have hs : ∀ n : String, (Builtin.ssaWrapNilChk_ #[t] t #[.pointer (some a), strVal "", strVal n]).run P w = .ok (.pointer (some a)) w := fun n => rfl
  simp only [hs, Result.andThen_ok, asAddr, Sem.run_pure, hv]
theorem enters_invoke {P : Program} {o : Oper} {s : SS} {rd : List Nat} {f : FuncId} {fn : Func} {c : Code} {t e : TypeId} {name : String} {x : Operand} {xs : List Operand} {ts : Array TypeId} {y : SV} (hm : Meth P t name f true e) (hf : Fun P f fn c) (h : o.op = .call ⟨.invoke x name, xs.toArray, ts⟩) (hx : ev s x = .ifc t y) :
    Enters P o s rd f (y :: xs.map (ev s)) :=
  fun κ a w hr _ => by
    have h1 := hr x (by simp [h, Op.operands, Call.operands])
    rw [hx] at h1
    simp only [Rd] at h1
    obtain ⟨u, e1, e2⟩ := h1
    refine ⟨u :: xs.map a.eval, ?_, ?_⟩
    · have hcall := run_callFunc hf (u :: xs.map a.eval).toArray w
      have hmeth := run_method_ptr hm w u
      simp only [execOp, h, resolve, invoke, e1, Sem.run_bind, Sem.run_pure, Result.andThen_ok] at hcall ⊢
      simp only [callMethod]
      rw [← hcall]
      have htk : (xs.map a.eval).take xs.length = xs.map a.eval := List.take_of_length_le (by simp)
      simp [hmeth, Sem.run_bind, htk]
    · simp only [RdL]
      exact ⟨_, _, rfl, e2, RdL_map xs (fun y hy => hr y (by simp [h, Op.operands, Call.operands, hy]))⟩
theorem enters_invoke_val {P : Program} (Γ : Ty P) {o : Oper} {s : SS} {f : FuncId} {fn : Func} {c : Code} {t e : TypeId} {ti : TI} {name : String} {x : Operand} {xs : List Operand} {ts : Array TypeId} {k off : Nat} {l : List SV} {z : SV} (hm : Meth P t name f false e) (hf : Fun P f fn c) (h : o.op = .call ⟨.invoke x name, xs.toArray, ts⟩)
    (hx : ev s x = .ifc t (.ptr k off)) (hk : s.h k = .box l) (ht : Γ.get e = some ti) (hz : loadSV ti l off = some z) : Enters P o s [k] f (z :: xs.map (ev s)) :=
  fun κ a w hr ho => by
    have h1 := hr x (by simp [h, Op.operands, Call.operands])
    rw [hx] at h1
    simp only [Rd] at h1
    obtain ⟨u, e1, e2⟩ := h1
    have hob := ho k (by simp)
    rw [hk] at hob
    obtain ⟨b, f1, f2⟩ := hob.cellsAt
    rw [f1] at e2
    simp only at e2
    subst e2
    obtain ⟨v, g1, g2⟩ := run_loadSV (P := P) Γ ht f2 hz
    rw [Nat.zero_add] at g1
    refine ⟨v :: xs.map a.eval, ?_, ?_⟩
    · have hcall := run_callFunc hf (v :: xs.map a.eval).toArray w
      have hmeth := run_method_val hm w ⟨b, off, none⟩ g1
      simp only [execOp, h, resolve, invoke, e1, Sem.run_bind, Sem.run_pure, Result.andThen_ok] at hcall ⊢
      simp only [callMethod]
      rw [← hcall]
      have htk : (xs.map a.eval).take xs.length = xs.map a.eval := List.take_of_length_le (by simp)
      simp [hmeth, Sem.run_bind, htk]
    · simp only [RdL]
      exact ⟨_, _, rfl, g2, RdL_map xs (fun y hy => hr y (by simp [h, Op.operands, Call.operands, hy]))⟩
theorem good_assert {P : Program} (Γ : Ty P) {o : Oper} {s : SS} {x : Operand} {xt t : TypeId} {ti : TI} {y : SV} {ok : Bool} (h : o.op = .typeAssert x xt t ok) (hx : ev s x = .ifc t y) (ht : Γ.get t = some ti) (hk : ti.k matches .bool | .int _ | .string | .slice .. | .struct _ | .ptr | .func) :
    Good P o s ⟨if ok then .tup [y, boolSV true] else y, [], []⟩ :=
  Good.pure fun κ a w _ hr _ => by
    have h1 := hr x (by simp [h, Op.operands])
    rw [hx] at h1
    simp only [Rd] at h1
    obtain ⟨u, e1, e2⟩ := h1
    obtain ⟨d, info, z, k1, k2, _⟩ := Γ.ok t ti ht
    have hni : ∀ ms, d ≠ .interface ms := by
      obtain ⟨k, n, zz⟩ := ti
      intro ms hd
      subst hd
      cases k <;> simp_all [TK.ok]
    have hrun : (Instr.typeAssert (.iface t u) xt t ok).run P w = .ok (if ok then .tuple #[u, .bool true] else u) w := by
      cases d <;> first
        | exact absurd rfl (hni _)
        | (cases ok <;> simp [Instr.typeAssert, run_underlying k1])
    refine ⟨if ok then .tuple #[u, .bool true] else u, by simp [execOp, h, e1, hrun], ?_⟩
    cases ok
    · exact e2
    · simp only [if_true, Rd, RdL]
      exact ⟨[u, .bool true], rfl, _, _, rfl, e2, _, _, rfl, by simp [boolSV, Rd], rfl⟩
def methB (P : Program) (t : TypeId) (name : String) (f : FuncId) (pr : Bool) : Bool :=
  match P.info? t with
  | some i => (match i.methods.find? (·.name == name) with
    | some m => m.path.isEmpty && (match m.func with | some (g, b) => Nat.beq g f && (b == pr) | none => false)
    | none => false)
  | none => false
theorem Meth.of {P : Program} {t : TypeId} {name : String} {f : FuncId} {pr : Bool} {e : TypeId} (h : methB P t name f pr = true) (hu : P.underlying t = some (.pointer e)) : Meth P t name f pr e := by
  refine ⟨?_, hu⟩
  unfold methB at h
  split at h
  · rename_i i hi
    split at h
    · rename_i m hm
      simp only [Bool.and_eq_true] at h
      obtain ⟨h1, h2⟩ := h
      split at h2
      · rename_i g b hf
        simp only [Bool.and_eq_true, beq_iff_eq] at h2
        obtain ⟨h3, rfl⟩ := h2
        have h3 := Nat.eq_of_beq_eq_true h3
        subst h3
        exact ⟨i, m, hi, hm, by simpa using h1, hf⟩
      · cases h2
    · cases h
  · cases h
end Go.Sy

namespace Go.Sy.YtmelpejjondedaaGreat
open Go.Proofs
attribute [local irreducible] Go.Sy.G Go.Sy.DR
set_option maxRecDepth 20000
set_option maxHeartbeats 4000000
structure Item where
  (root cost dev : Int)
instance : Inhabited Item := ⟨⟨0, 0, 0⟩⟩
def itemSV (x : Item) : SV := .agg [intSV x.root, intSV x.cost, intSV x.dev]
def itemLt (x y : Item) : Bool := decide (x.root < y.root) || (x.root == y.root && decide (x.cost < y.cost))
theorem queueLenS (q : List Item) : Sy.Spec Tryz.prog 234 [.sl 3 itemSV q] [] (intSV q.length) [] := contract Γ hm 100 F234 Tryz.ntmps234 rfl fun F hF => by
  (conv=>whnf)
  exact done0 rfl (.cons .tmp .nil) rfl rfl
theorem queueLessS (q : List Item) (i j : Nat) (hi : i < q.length) (hj : j < q.length) : Sy.Spec Tryz.prog 384 [.sl 3 itemSV q, intSV i, intSV j] [] (boolSV (itemLt q[i] q[j])) [] := contract Γ hm 100 F384 Tryz.ntmps384 rfl fun F hF => by
  have e1 : q[(i : Int).toNat]'(by omega) = q[i] := rfl
  have e2 : q[(j : Int).toNat]'(by omega) = q[j] := rfl
  (conv=>whnf)
  (repeat' (first | (refine ⟨fun h => ?_, fun h => ?_⟩ <;> (repeat (first | simp only [decide_eq_true_eq] at h | simp only [decide_eq_false_iff_not] at h | simp only [beq_iff_eq] at h | simp only [beq_eq_false_iff_ne] at h)) <;> ((refine rd (by kernel_rfl) ?_);(conv=>whnf))) | (refine done0 rfl (.cons .tmp .nil) ?_ rfl) | (refine ⟨(by kernel_rfl), ?_⟩; ((conv=>whnf))) | (refine ⟨by (omega), by (omega), ?_⟩; ((conv=>whnf)))))
  all_goals (refine congrArg boolSV ?_; clear hF; grind [itemLt])
theorem queueSwapS (q : List Item) (i j : Nat) (hi : i < q.length) (hj : j < q.length) : Sy.Spec Tryz.prog 387 [.osl 0, intSV i, intSV j] [(0, .row 3 itemSV q)] (.tup []) [(0, .row 3 itemSV ((q.set i q[j]).set j q[i]))] := contract Γ hm 100 F387 Tryz.ntmps387 rfl fun F hF => by
  have e1 : q[(i : Int).toNat]'(by omega) = q[i] := rfl
  have e2 : q[(j : Int).toNat]'(by omega) = q[j] := rfl
  (conv=>whnf)
  refine ⟨by omega, by omega, ?_⟩
  (conv=>whnf)
  refine ⟨rfl, by omega, ?_⟩
  rw [e2]
  (conv=>whnf)
  refine ⟨by omega, by omega, ?_⟩
  (conv=>whnf)
  refine ⟨rfl, by omega, ?_⟩
  rw [e1]
  (conv=>whnf)
  refine ⟨by omega, by omega, ?_⟩
  (conv=>whnf)
  refine ⟨rfl, by omega, q[j], rfl, rfl, ?_⟩
  (conv=>whnf)
  refine ⟨by omega, by simp; omega, ?_⟩
  (conv=>whnf)
  refine ⟨rfl, by simp; omega, q[i], rfl, rfl, ?_⟩
  (conv=>whnf)
  refine ⟨(by kernel_rfl), ?_⟩
  (conv=>whnf)
  exact done_end rfl .nil [] [(0, .row 3 itemSV ((q.set i q[j]).set j q[i]))] (fun _ h => h) rfl rfl ⟨trivial, ⟨.inl rfl, rfl, trivial⟩, rfl, rfl⟩
theorem queuePushS (q : List Item) (x : Item) (hq : q.length < 1000000) : Sy.Spec Tryz.prog 386 [.ptr 0 0, .ifc 345 (itemSV x)] [(0, .box [.osl 1]), (1, .row 3 itemSV q)] (.tup []) [(0, .box [.osl 2]), (1, .non), (2, .row 3 itemSV (q ++ [x]))] := contract Γ hm 100 F386 Tryz.ntmps386 rfl fun F hF => by
  (conv=>whnf)
  refine stepOp (good_assert Γ.toTy rfl rfl rfl rfl) rfl rfl ?_
  (refine rg ?_;(conv=>whnf);refine aT ?_;refine rg ?_;(conv=>whnf))
  refine stepD (good_appendT Γ.toTy 18 rfl rfl rfl rfl rfl (.row rfl) (.lit (l := [x]) rfl rfl) (by simp) (by simp; omega) (by simp; omega)) (by kernel_rfl) rfl ?_
  (refine rd (by kernel_rfl) ?_;(conv=>whnf))
  refine ⟨(by kernel_rfl), ?_⟩
  (conv=>whnf)
  exact done_end rfl .nil [(2, 18)] [(0, .box [.osl 2]), (1, .non), (2, .row 3 itemSV (q ++ [x]))] (fun _ h => h) rfl rfl ⟨trivial, ⟨.inl rfl, rfl, .inl rfl, rfl, .inl rfl, rfl, trivial⟩, rfl, rfl⟩
theorem queuePopS (q : List Item) (hq : q ≠ []) (hl : q.length < 1000000) : Sy.Spec Tryz.prog 385 [.ptr 0 0] [(0, .box [.osl 1]), (1, .row 3 itemSV q)] (.ifc 345 (itemSV (q.getLast hq))) [(0, .box [.osl 2]), (1, .non), (2, .row 3 itemSV q.dropLast)] := contract Γ hm 100 F385 Tryz.ntmps385 rfl fun F hF => by
  have h0 : 0 < q.length := List.length_pos_iff.2 hq
  have e1 : q[((q.length : Int) - 1).toNat]'(by omega) = q.getLast hq := by
    rw [List.getLast_eq_getElem]
    congr 1
    omega
  (conv=>whnf)
  refine ⟨by unfold I64; omega, ?_⟩
  (conv=>whnf)
  refine ⟨by omega, by omega, ?_⟩
  (conv=>whnf)
  refine ⟨rfl, by omega, ?_⟩
  rw [e1]
  (conv=>whnf)
  refine ⟨(by kernel_rfl), ?_⟩
  (conv=>whnf)
  refine ⟨by unfold I64; omega, ?_⟩
  (conv=>whnf)
  refine stepD (good_slice_osl Γ.toTy (d := 23) (hi := q.length - 1) rfl rfl rfl rfl rfl (by decide) rfl (.inl ⟨rfl, rfl⟩) (.inr ⟨_, _, rfl, congrArg (fun z => SV.val (.int .i64 z)) (by omega)⟩) (by omega)) (by kernel_rfl) rfl ?_
  rw [← List.dropLast_eq_take]
  (refine rd (by kernel_rfl) ?_;(conv=>whnf))
  refine ⟨(by kernel_rfl), ?_⟩
  (conv=>whnf)
  exact done rfl (.cons .tmp .nil) [(2, 23)] [(0, .box [.osl 2]), (1, .non), (2, .row 3 itemSV q.dropLast)] (fun _ h => h) rfl rfl ⟨trivial, ⟨.inl rfl, rfl, .inl rfl, rfl, .inl rfl, rfl, trivial⟩, rfl, rfl⟩
end Go.Sy.YtmelpejjondedaaGreat

namespace Go.Sy.YtmelpejjondedaaGreat
open Go.Proofs
attribute [local irreducible] Go.Sy.G Go.Sy.DR
set_option maxRecDepth 100000
set_option maxHeartbeats 4000000
theorem mLen : Meth Tryz.prog 340 "Len" 234 false 342 := .of (by kernel_rfl) Tryz.underlying340
theorem mLess : Meth Tryz.prog 340 "Less" 384 false 342 := .of (by kernel_rfl) Tryz.underlying340
theorem mSwap : Meth Tryz.prog 340 "Swap" 387 false 342 := .of (by kernel_rfl) Tryz.underlying340
theorem mPush : Meth Tryz.prog 340 "Push" 386 true 342 := .of (by kernel_rfl) Tryz.underlying340
theorem mPop : Meth Tryz.prog 340 "Pop" 385 true 342 := .of (by kernel_rfl) Tryz.underlying340
def swapL (q : List Item) (i j : Nat) : List Item := (q.set i (q.getD j default)).set j (q.getD i default)
theorem swapL_length (q : List Item) (i j : Nat) : (swapL q i j).length = q.length := by simp [swapL]
def upF : Nat → List Item → Nat → List Item
  | 0, q, _ => q
  | n + 1, q, j => if j = 0 then q else if itemLt (q.getD j default) (q.getD ((j - 1) / 2) default) then upF n (swapL q ((j - 1) / 2) j) ((j - 1) / 2) else q
theorem upF_fuel : ∀ (n m : Nat) (q : List Item) (j : Nat), j ≤ n → j ≤ m → upF n q j = upF m q j
  | 0, m, q, j, h, _ => by
    have : j = 0 := by omega
    subst this
    cases m <;> simp [upF]
  | n + 1, 0, q, j, _, h => by
    have : j = 0 := by omega
    subst this
    simp [upF]
  | n + 1, m + 1, q, j, h1, h2 => by
    rw [upF, upF]
    split
    · rfl
    · split
      · exact upF_fuel n m _ _ (by omega) (by omega)
      · rfl
theorem upF_step (r : List Item) : ∀ (i : Nat), i ≠ 0 → upF i r i = if itemLt (r.getD i default) (r.getD ((i - 1) / 2) default) then upF ((i - 1) / 2) (swapL r ((i - 1) / 2) i) ((i - 1) / 2) else r
  | 0, h => absurd rfl h
  | m + 1, _ => by
    rw [upF, if_neg (by omega)]
    split
    · exact upF_fuel _ _ _ _ (by omega) (by omega)
    · rfl
theorem upS (q : List Item) (j : Nat) (hj : j < q.length) (hl : q.length < 1000000) :
    Sy.Spec Tryz.prog 285 [.ifc 340 (.ptr 0 0), intSV j] [(0, .box [.osl 1]), (1, .row 3 itemSV q)] (.tup []) [(0, .box [.osl 1]), (1, .row 3 itemSV (upF j q j))] := contract Γ hm 100 F285 Tryz.ntmps285 rfl fun F hF => by
  (conv=>whnf)
  refine G_loop (α := {p : List Item × Nat // upF p.2 p.1 p.2 = upF j q j ∧ p.1.length = q.length ∧ p.2 < p.1.length}) (fun p => [(0, .ifc 340 (.ptr 0 0)), (1, intSV p.1.2)]) (fun p => [(0, .box [.osl 1]), (1, .row 3 itemSV p.1.1)]) (fun p => p.1.2) ⟨(q, j), rfl, rfl, hj⟩ []
    ⟨⟨rfl, rfl, rfl, rfl, trivial⟩, ⟨.inl rfl, rfl, .inl rfl, rfl, trivial⟩, rfl, rfl⟩ ?_
  rintro ⟨⟨r, i⟩, h1, h2, h3⟩
  simp only at h1 h2 h3
  dsimp only
  have hw : IntKind.i64.wrap (((i : Int) - 1).tdiv 2) = (((i - 1) / 2 : Nat) : Int) := by
    rcases Nat.eq_zero_or_pos i with h0 | h0
    · subst h0; rfl
    · have : ((i : Int) - 1) = ((i - 1 : Nat) : Int) := by omega
      rw [this, Int.tdiv_eq_ediv_of_nonneg (by omega), IntKind.wrap_i64]
      omega
  (refine rg ?_;(conv=>whnf))
  refine ⟨by unfold I64; omega, ?_⟩
  (conv=>whnf)
  refine ⟨by decide, ?_⟩
  rw [hw]
  (conv=>whnf)
  refine ⟨fun h => ?_, fun h => ?_⟩
  · have h0 : i = 0 := by
      have : (((i - 1) / 2 : Nat) : Int) = i := by simpa using h
      omega
    subst h0
    have e : upF j q j = r := by rw [← h1]; rfl
    rw [e]
    (refine rg ?_;(conv=>whnf);refine aT ?_;refine rg ?_;(conv=>whnf))
    exact done_end rfl .nil [] [(0, .box [.osl 1]), (1, .row 3 itemSV r)] (fun _ h => h) rfl rfl ⟨trivial, ⟨.inl rfl, rfl, .inl rfl, rfl, trivial⟩, rfl, rfl⟩
  have h0 : i ≠ 0 := by
    intro h0
    subst h0
    exact absurd h (by decide)
  have hp : (i - 1) / 2 < r.length := by omega
  have hless := queueLessS r i ((i - 1) / 2) h3 hp
  (refine rg ?_;(conv=>whnf))
  refine stepOp (good_callKE [1] (enters_invoke_val Γ.toTy mLess F384 rfl rfl rfl rfl rfl) hless (.cons (.row rfl rfl) (.cons (.refl _) (.cons (.refl _) .nil))) rfl rfl) rfl rfl ?_
  (refine rg ?_;(conv=>whnf))
  have hu : upF i r i = if itemLt r[i] r[(i - 1) / 2] then upF ((i - 1) / 2) (swapL r ((i - 1) / 2) i) ((i - 1) / 2) else r := by
    rw [upF_step r i h0, getD_at h3, getD_at hp]
  refine ⟨fun h => ?_, fun h => ?_⟩
  · have hlt : itemLt r[i] r[(i - 1) / 2] = false := by simpa using h
    have e : upF j q j = r := by rw [← h1, hu, hlt]; rfl
    rw [e]
    (refine rg ?_;(conv=>whnf))
    exact done_end rfl .nil [] [(0, .box [.osl 1]), (1, .row 3 itemSV r)] (fun _ h => h) rfl rfl ⟨trivial, ⟨.inl rfl, rfl, .inl rfl, rfl, trivial⟩, rfl, rfl⟩
  have hlt : itemLt r[i] r[(i - 1) / 2] = true := by simpa using h
  rw [hlt, if_pos rfl] at hu
  have hsw := queueSwapS r ((i - 1) / 2) i hp h3
  have e : (r.set ((i - 1) / 2) r[i]).set i r[(i - 1) / 2] = swapL r ((i - 1) / 2) i := by
    rw [swapL, getD_at h3, getD_at hp]
  rw [e] at hsw
  (refine rg ?_;(conv=>whnf))
  refine stepOp (good_callE [(0, 1)] (enters_invoke_val Γ.toTy mSwap F387 rfl rfl rfl rfl rfl) hsw rfl ⟨rfl, trivial⟩ rfl ⟨.inl rfl, trivial⟩) rfl rfl ?_
  (refine rg ?_;(conv=>whnf))
  exact G_inv (α := {p : List Item × Nat // upF p.2 p.1 p.2 = upF j q j ∧ p.1.length = q.length ∧ p.2 < p.1.length}) (L := fun p => [(0, .ifc 340 (.ptr 0 0)), (1, intSV p.1.2)]) (O := fun p => [(0, .box [.osl 1]), (1, .row 3 itemSV p.1.1)]) (μ := fun p => p.1.2) (x := ⟨(r, i), h1, h2, h3⟩)
    ⟨(swapL r ((i - 1) / 2) i, (i - 1) / 2), by rw [← h1, hu], by rw [swapL_length]; exact h2, by rw [swapL_length]; exact hp⟩ [] (by simp only; omega)
    ⟨⟨rfl, rfl, rfl, rfl, trivial⟩, ⟨.inl rfl, rfl, .inl rfl, rfl, trivial⟩, rfl, rfl⟩
theorem upF_length : ∀ (n : Nat) (q : List Item) (j : Nat), (upF n q j).length = q.length
  | 0, q, j => rfl
  | n + 1, q, j => by
    rw [upF]
    split
    · rfl
    · split
      · rw [upF_length n, swapL_length]
      · rfl
def pushH (q : List Item) (x : Item) : List Item := upF q.length (q ++ [x]) q.length
theorem heapPushS (q : List Item) (x : Item) (hl : q.length < 999999) :
    Sy.Spec Tryz.prog 233 [.ifc 340 (.ptr 0 0), .ifc 345 (itemSV x)] [(0, .box [.osl 1]), (1, .row 3 itemSV q)] (.tup []) [(0, .box [.osl 2]), (1, .non), (2, .row 3 itemSV (pushH q x))] := contract Γ hm 100 F233 Tryz.ntmps233 rfl fun F hF => by
  have hpush := queuePushS q x (by omega)
  have hlen := queueLenS (q ++ [x])
  have hup := upS (q ++ [x]) q.length (by simp) (by simp; omega)
  have hln : (((q ++ [x]).length : Nat) : Int) - 1 = (q.length : Int) := by simp
  (conv=>whnf)
  refine stepOp (good_callE (rd := []) [(2, 6)] (enters_invoke mPush F386 rfl rfl) hpush rfl ⟨rfl, rfl, trivial⟩ rfl ⟨.inl rfl, .inl rfl, .inr rfl, trivial⟩) rfl rfl ?_
  (refine rg ?_;(conv=>whnf))
  refine stepOp (good_callKE [6] (enters_invoke_val Γ.toTy mLen F234 rfl rfl rfl rfl rfl) hlen (.cons (.row rfl rfl) .nil) rfl rfl) rfl rfl ?_
  (refine rg ?_;(conv=>whnf))
  refine ⟨by unfold I64; simp; omega, ?_⟩
  rw [hln]
  (conv=>whnf)
  refine stepOp (good_call [(1, 6)] rfl F285 hup rfl ⟨rfl, rfl, trivial⟩ rfl ⟨.inl rfl, .inl rfl, trivial⟩) rfl rfl ?_
  (refine rg ?_;(conv=>whnf))
  exact done_end rfl .nil [(2, 6)] [(0, .box [.osl 2]), (1, .non), (2, .row 3 itemSV (pushH q x))] (fun _ h => h) rfl rfl ⟨trivial, ⟨.inl rfl, rfl, .inl rfl, rfl, .inl rfl, rfl, trivial⟩, rfl, rfl⟩
end Go.Sy.YtmelpejjondedaaGreat

namespace Go.Sy.YtmelpejjondedaaGreat
open Go.Proofs
attribute [local irreducible] Go.Sy.G Go.Sy.DR
set_option maxRecDepth 100000
set_option maxHeartbeats 4000000
def childN (q : List Item) (i n : Nat) : Nat := if 2 * i + 2 < n ∧ itemLt (q.getD (2 * i + 2) default) (q.getD (2 * i + 1) default) = true then 2 * i + 2 else 2 * i + 1
theorem childN_lt (q : List Item) (i n : Nat) (h : 2 * i + 1 < n) : childN q i n < n ∧ i < childN q i n := by
  unfold childN
  split <;> omega
def downF : Nat → List Item → Nat → Nat → List Item × Nat
  | 0, q, i, _ => (q, i)
  | f + 1, q, i, n => if 2 * i + 1 < n then (if itemLt (q.getD (childN q i n) default) (q.getD i default) then downF f (swapL q i (childN q i n)) (childN q i n) n else (q, i)) else (q, i)
theorem downF_fuel : ∀ (f g : Nat) (q : List Item) (i n : Nat), n ≤ f + i → n ≤ g + i → downF f q i n = downF g q i n
  | 0, g, q, i, n, h1, h2 => by
    cases g with
    | zero => rfl
    | succ g => rw [downF, downF, if_neg (by omega)]
  | f + 1, 0, q, i, n, h1, h2 => by rw [downF, downF, if_neg (by omega)]
  | f + 1, g + 1, q, i, n, h1, h2 => by
    rw [downF, downF]
    split
    · rename_i h
      have := childN_lt q i n h
      split
      · exact downF_fuel f g _ _ n (by omega) (by omega)
      · rfl
    · rfl
theorem downF_step (r : List Item) (i n : Nat) : downF (n - i) r i n = if 2 * i + 1 < n then (if itemLt (r.getD (childN r i n) default) (r.getD i default) then downF (n - childN r i n) (swapL r i (childN r i n)) (childN r i n) n else (r, i)) else (r, i) := by
  rw [downF_fuel (n - i) (n - i + 1) r i n (by omega) (by omega), downF]
  split
  · rename_i h
    have := childN_lt r i n h
    split
    · exact downF_fuel _ _ _ _ _ (by omega) (by omega)
    · rfl
  · rfl
theorem downF_length : ∀ (f : Nat) (q : List Item) (i n : Nat), (downF f q i n).1.length = q.length
  | 0, _, _, _ => rfl
  | f + 1, q, i, n => by
    rw [downF]
    split
    · split
      · rw [downF_length f, swapL_length]
      · rfl
    · rfl
theorem downS (q : List Item) (i0 n : Nat) (hn : n ≤ q.length) (hi : i0 < q.length) (hl : q.length < 1000000) :
    Sy.Spec Tryz.prog 286 [.ifc 340 (.ptr 0 0), intSV i0, intSV n] [(0, .box [.osl 1]), (1, .row 3 itemSV q)] (boolSV (decide (((downF (n - i0) q i0 n).2 : Int) > i0))) [(0, .box [.osl 1]), (1, .row 3 itemSV (downF (n - i0) q i0 n).1)] := contract Γ hm 100 F286 Tryz.ntmps286 rfl fun F hF => by
  generalize hD : downF (n - i0) q i0 n = D
  (conv=>whnf)
  refine G_loop (α := {p : List Item × Nat // downF (n - p.2) p.1 p.2 n = D ∧ p.1.length = q.length ∧ p.2 < p.1.length}) (fun p => [(0, .ifc 340 (.ptr 0 0)), (1, intSV i0), (2, intSV n), (7, intSV p.1.2)]) (fun p => [(0, .box [.osl 1]), (1, .row 3 itemSV p.1.1)]) (fun p => n - p.1.2) ⟨(q, i0), hD, rfl, hi⟩ []
    ⟨⟨rfl, rfl, rfl, rfl, rfl, rfl, rfl, rfl, trivial⟩, ⟨.inl rfl, rfl, .inl rfl, rfl, trivial⟩, rfl, rfl⟩ ?_
  rintro ⟨⟨r, i⟩, h1, h2, h3⟩
  simp only at h1 h2 h3
  dsimp only
  have h10 := h1
  rw [downF_step] at h1
  have hj1 : (2 : Int) * i + 1 = ((2 * i + 1 : Nat) : Int) := by omega
  have hj2 : ((2 * i + 1 : Nat) : Int) + 1 = ((2 * i + 2 : Nat) : Int) := by omega
  (refine rg ?_;(conv=>whnf))
  refine ⟨by unfold I64; omega, ?_⟩
  (conv=>whnf)
  refine ⟨by unfold I64; omega, ?_⟩
  rw [hj1]
  (conv=>whnf)
  refine ⟨fun h => ?_, fun h => ?_⟩
  · have hge : ¬ 2 * i + 1 < n := by have := of_decide_eq_true h; omega
    rw [if_neg hge] at h1
    rw [← h1]
    (refine rg ?_;(conv=>whnf);refine aT ?_;refine rg ?_;(conv=>whnf))
    exact done rfl (.cons .tmp .nil) [] [(0, .box [.osl 1]), (1, .row 3 itemSV r)] (fun _ h => h) rfl rfl ⟨trivial, ⟨.inl rfl, rfl, .inl rfl, rfl, trivial⟩, rfl, rfl⟩
  have hlt : 2 * i + 1 < n := by have := of_decide_eq_false h; omega
  rw [if_pos hlt] at h1
  (refine rg ?_;(conv=>whnf);refine aF ?_;refine rg ?_;(conv=>whnf))
  refine ⟨by unfold I64; omega, ?_⟩
  rw [hj2]
  (conv=>whnf)
  refine ⟨fun h => ?_, fun h => ?_⟩
  · have h2n : 2 * i + 2 < n := by have := of_decide_eq_true h; omega
    have hA : 2 * i + 2 < r.length := by omega
    have hB : 2 * i + 1 < r.length := by omega
    have hlc := queueLessS r (2 * i + 2) (2 * i + 1) hA hB
    (refine rg ?_;(conv=>whnf))
    refine stepOp (good_callKE [1] (enters_invoke_val Γ.toTy mLess F384 rfl rfl rfl rfl rfl) hlc (.cons (.row rfl rfl) (.cons (.refl _) (.cons (.refl _) .nil))) rfl rfl) rfl rfl ?_
    (refine rg ?_;(conv=>whnf))
    refine ⟨fun h => ?_, fun h => ?_⟩
    · have hc : childN r i n = 2 * i + 2 := by rw [childN, if_pos ⟨h2n, by rw [getD_at hA, getD_at hB]; exact h⟩]
      have hJ := hA
      (refine rg ?_;(conv=>whnf))
      rw [hc, getD_at hJ, getD_at h3] at h1
      have hls := queueLessS r (2 * i + 2) i hJ h3
      refine stepOp (good_callKE [1] (enters_invoke_val Γ.toTy mLess F384 rfl rfl rfl rfl rfl) hls (.cons (.row rfl rfl) (.cons (.refl _) (.cons (.refl _) .nil))) rfl rfl) rfl rfl ?_
      (refine rg ?_;(conv=>whnf))
      refine ⟨fun h => ?_, fun h => ?_⟩
      · have hf : itemLt r[2 * i + 2] r[i] = false := by simpa using h
        rw [hf] at h1
        have e : D = (r, i) := h1.symm
        rw [e]
        (refine rg ?_;(conv=>whnf))
        exact done rfl (.cons .tmp .nil) [] [(0, .box [.osl 1]), (1, .row 3 itemSV r)] (fun _ h => h) rfl rfl ⟨trivial, ⟨.inl rfl, rfl, .inl rfl, rfl, trivial⟩, rfl, rfl⟩
      have hf : itemLt r[2 * i + 2] r[i] = true := by simpa using h
      rw [hf, if_pos rfl] at h1
      have hsw := queueSwapS r i (2 * i + 2) h3 hJ
      have e : (r.set i r[2 * i + 2]).set (2 * i + 2) r[i] = swapL r i (2 * i + 2) := by
        rw [swapL, getD_at h3, getD_at hJ]
      rw [e] at hsw
      (refine rg ?_;(conv=>whnf))
      refine stepOp (good_callE [(0, 1)] (enters_invoke_val Γ.toTy mSwap F387 rfl rfl rfl rfl rfl) hsw rfl ⟨rfl, trivial⟩ rfl ⟨.inl rfl, trivial⟩) rfl rfl ?_
      (refine rg ?_;(conv=>whnf))
      exact G_inv (α := {p : List Item × Nat // downF (n - p.2) p.1 p.2 n = D ∧ p.1.length = q.length ∧ p.2 < p.1.length}) (L := fun p => [(0, .ifc 340 (.ptr 0 0)), (1, intSV i0), (2, intSV n), (7, intSV p.1.2)]) (O := fun p => [(0, .box [.osl 1]), (1, .row 3 itemSV p.1.1)]) (μ := fun p => n - p.1.2) (x := ⟨(r, i), h10, h2, h3⟩)
        ⟨(swapL r i (2 * i + 2), 2 * i + 2), h1, by rw [swapL_length]; exact h2, by rw [swapL_length]; exact hJ⟩ [] (by simp only; omega)
        ⟨⟨rfl, rfl, rfl, rfl, rfl, rfl, rfl, rfl, trivial⟩, ⟨.inl rfl, rfl, .inl rfl, rfl, trivial⟩, rfl, rfl⟩
    · have hc : childN r i n = 2 * i + 1 := by rw [childN, if_neg (fun hh => by rw [getD_at hA, getD_at hB, h] at hh; exact absurd hh.2 (by simp))]
      have hJ := hB
      (refine rg ?_;(conv=>whnf))
      rw [hc, getD_at hJ, getD_at h3] at h1
      have hls := queueLessS r (2 * i + 1) i hJ h3
      refine stepOp (good_callKE [1] (enters_invoke_val Γ.toTy mLess F384 rfl rfl rfl rfl rfl) hls (.cons (.row rfl rfl) (.cons (.refl _) (.cons (.refl _) .nil))) rfl rfl) rfl rfl ?_
      (refine rg ?_;(conv=>whnf))
      refine ⟨fun h => ?_, fun h => ?_⟩
      · have hf : itemLt r[2 * i + 1] r[i] = false := by simpa using h
        rw [hf] at h1
        have e : D = (r, i) := h1.symm
        rw [e]
        (refine rg ?_;(conv=>whnf))
        exact done rfl (.cons .tmp .nil) [] [(0, .box [.osl 1]), (1, .row 3 itemSV r)] (fun _ h => h) rfl rfl ⟨trivial, ⟨.inl rfl, rfl, .inl rfl, rfl, trivial⟩, rfl, rfl⟩
      have hf : itemLt r[2 * i + 1] r[i] = true := by simpa using h
      rw [hf, if_pos rfl] at h1
      have hsw := queueSwapS r i (2 * i + 1) h3 hJ
      have e : (r.set i r[2 * i + 1]).set (2 * i + 1) r[i] = swapL r i (2 * i + 1) := by
        rw [swapL, getD_at h3, getD_at hJ]
      rw [e] at hsw
      (refine rg ?_;(conv=>whnf))
      refine stepOp (good_callE [(0, 1)] (enters_invoke_val Γ.toTy mSwap F387 rfl rfl rfl rfl rfl) hsw rfl ⟨rfl, trivial⟩ rfl ⟨.inl rfl, trivial⟩) rfl rfl ?_
      (refine rg ?_;(conv=>whnf))
      exact G_inv (α := {p : List Item × Nat // downF (n - p.2) p.1 p.2 n = D ∧ p.1.length = q.length ∧ p.2 < p.1.length}) (L := fun p => [(0, .ifc 340 (.ptr 0 0)), (1, intSV i0), (2, intSV n), (7, intSV p.1.2)]) (O := fun p => [(0, .box [.osl 1]), (1, .row 3 itemSV p.1.1)]) (μ := fun p => n - p.1.2) (x := ⟨(r, i), h10, h2, h3⟩)
        ⟨(swapL r i (2 * i + 1), 2 * i + 1), h1, by rw [swapL_length]; exact h2, by rw [swapL_length]; exact hJ⟩ [] (by simp only; omega)
        ⟨⟨rfl, rfl, rfl, rfl, rfl, rfl, rfl, rfl, trivial⟩, ⟨.inl rfl, rfl, .inl rfl, rfl, trivial⟩, rfl, rfl⟩
  · have h2n : ¬ 2 * i + 2 < n := by have := of_decide_eq_false h; omega
    have hJ : 2 * i + 1 < r.length := by omega
    have hc : childN r i n = 2 * i + 1 := by rw [childN, if_neg (fun hh => h2n hh.1)]
    (refine rg ?_;(conv=>whnf);refine aF ?_;refine rg ?_;(conv=>whnf))
    rw [hc, getD_at hJ, getD_at h3] at h1
    have hls := queueLessS r (2 * i + 1) i hJ h3
    refine stepOp (good_callKE [1] (enters_invoke_val Γ.toTy mLess F384 rfl rfl rfl rfl rfl) hls (.cons (.row rfl rfl) (.cons (.refl _) (.cons (.refl _) .nil))) rfl rfl) rfl rfl ?_
    (refine rg ?_;(conv=>whnf))
    refine ⟨fun h => ?_, fun h => ?_⟩
    · have hf : itemLt r[2 * i + 1] r[i] = false := by simpa using h
      rw [hf] at h1
      have e : D = (r, i) := h1.symm
      rw [e]
      (refine rg ?_;(conv=>whnf))
      exact done rfl (.cons .tmp .nil) [] [(0, .box [.osl 1]), (1, .row 3 itemSV r)] (fun _ h => h) rfl rfl ⟨trivial, ⟨.inl rfl, rfl, .inl rfl, rfl, trivial⟩, rfl, rfl⟩
    have hf : itemLt r[2 * i + 1] r[i] = true := by simpa using h
    rw [hf, if_pos rfl] at h1
    have hsw := queueSwapS r i (2 * i + 1) h3 hJ
    have e : (r.set i r[2 * i + 1]).set (2 * i + 1) r[i] = swapL r i (2 * i + 1) := by
      rw [swapL, getD_at h3, getD_at hJ]
    rw [e] at hsw
    (refine rg ?_;(conv=>whnf))
    refine stepOp (good_callE [(0, 1)] (enters_invoke_val Γ.toTy mSwap F387 rfl rfl rfl rfl rfl) hsw rfl ⟨rfl, trivial⟩ rfl ⟨.inl rfl, trivial⟩) rfl rfl ?_
    (refine rg ?_;(conv=>whnf))
    exact G_inv (α := {p : List Item × Nat // downF (n - p.2) p.1 p.2 n = D ∧ p.1.length = q.length ∧ p.2 < p.1.length}) (L := fun p => [(0, .ifc 340 (.ptr 0 0)), (1, intSV i0), (2, intSV n), (7, intSV p.1.2)]) (O := fun p => [(0, .box [.osl 1]), (1, .row 3 itemSV p.1.1)]) (μ := fun p => n - p.1.2) (x := ⟨(r, i), h10, h2, h3⟩)
      ⟨(swapL r i (2 * i + 1), 2 * i + 1), h1, by rw [swapL_length]; exact h2, by rw [swapL_length]; exact hJ⟩ [] (by simp only; omega)
      ⟨⟨rfl, rfl, rfl, rfl, rfl, rfl, rfl, rfl, trivial⟩, ⟨.inl rfl, rfl, .inl rfl, rfl, trivial⟩, rfl, rfl⟩
end Go.Sy.YtmelpejjondedaaGreat

namespace Go.Sy.YtmelpejjondedaaGreat
open Go.Proofs
attribute [local irreducible] Go.Sy.G Go.Sy.DR
set_option maxRecDepth 100000
set_option maxHeartbeats 4000000
def popL (q : List Item) : List Item := (downF (q.length - 1 - 0) (swapL q 0 (q.length - 1)) 0 (q.length - 1)).1
theorem popL_length (q : List Item) : (popL q).length = q.length := by rw [popL, downF_length, swapL_length]
theorem popL_ne {q : List Item} (h : q ≠ []) : popL q ≠ [] := fun e => h (List.eq_nil_of_length_eq_zero (by rw [← popL_length, e]; rfl))
theorem heapPopS (q : List Item) (hq : q ≠ []) (hl : q.length < 1000000) :
    Sy.Spec Tryz.prog 235 [.ifc 340 (.ptr 0 0)] [(0, .box [.osl 1]), (1, .row 3 itemSV q)] (.ifc 345 (itemSV ((popL q).getLast (popL_ne hq)))) [(0, .box [.osl 2]), (1, .non), (2, .row 3 itemSV (popL q).dropLast)] := contract Γ hm 100 F235 Tryz.ntmps235 rfl fun F hF => by
  have h0 : 0 < q.length := List.length_pos_iff.2 hq
  have hlen := queueLenS q
  have hsw := queueSwapS q 0 (q.length - 1) h0 (by omega)
  have e : (q.set 0 q[q.length - 1]).set (q.length - 1) q[0] = swapL q 0 (q.length - 1) := by
    rw [swapL, getD_at (show q.length - 1 < q.length by omega), getD_at h0]
  rw [e] at hsw
  have hdn := downS (swapL q 0 (q.length - 1)) 0 (q.length - 1) (by rw [swapL_length]; omega) (by rw [swapL_length]; exact h0) (by rw [swapL_length]; exact hl)
  have hpop := queuePopS (popL q) (popL_ne hq) (by rw [popL_length]; exact hl)
  have hln : (q.length : Int) - 1 = ((q.length - 1 : Nat) : Int) := by omega
  (conv=>whnf)
  refine stepOp (good_callKE [1] (enters_invoke_val Γ.toTy mLen F234 rfl rfl rfl rfl rfl) hlen (.cons (.row rfl rfl) .nil) rfl rfl) rfl rfl ?_
  (refine rg ?_;(conv=>whnf))
  refine ⟨by unfold I64; omega, ?_⟩
  rw [hln]
  (conv=>whnf)
  refine stepOp (good_callE [(0, 1)] (enters_invoke_val Γ.toTy mSwap F387 rfl rfl rfl rfl rfl) hsw rfl ⟨rfl, trivial⟩ rfl ⟨.inl rfl, trivial⟩) rfl rfl ?_
  (refine rg ?_;(conv=>whnf))
  refine stepOp (good_call [] rfl F286 hdn rfl ⟨rfl, rfl, trivial⟩ rfl ⟨.inl rfl, .inl rfl, trivial⟩) rfl rfl ?_
  (refine rg ?_;(conv=>whnf))
  refine stepOp (good_callE (rd := []) [(2, 14)] (enters_invoke mPop F385 rfl rfl) hpop rfl ⟨rfl, rfl, trivial⟩ rfl ⟨.inl rfl, .inl rfl, .inr rfl, trivial⟩) rfl rfl ?_
  (refine rg ?_;(conv=>whnf))
  exact done rfl (.cons .tmp .nil) [(2, 14)] [(0, .box [.osl 2]), (1, .non), (2, .row 3 itemSV (popL q).dropLast)] (fun _ h => h) rfl rfl ⟨trivial, ⟨.inl rfl, rfl, .inl rfl, rfl, .inl rfl, rfl, trivial⟩, rfl, rfl⟩
end Go.Sy.YtmelpejjondedaaGreat

namespace Go.Sy.YtmelpejjondedaaGreat
open Go.Proofs
attribute [local irreducible] Go.Sy.G Go.Sy.DR
set_option maxRecDepth 20000
set_option maxHeartbeats 4000000
theorem great1 {n : Net} (h : n.ports.any (fun p => decide (100 < p.tagged.length)) = true) : greatB n = true := by simp only [greatB, h, Bool.or_true, Bool.true_or]
theorem great2 {n : Net} (h : n.domains.any (fun p => decide (100 < p.peers.length)) = true) : greatB n = true := by simp only [greatB, h, Bool.or_true, Bool.true_or]
theorem great3 {n : Net} (h : n.floods.any (fun p => decide (100 < p.addrs.length)) = true) : greatB n = true := by simp only [greatB, h, Bool.or_true, Bool.true_or]
theorem great4 {n : Net} (h : n.vrfs.any (fun v => decide (100 < v.imports.length) || decide (100 < v.exports.length)) = true) : greatB n = true := by simp only [greatB, h, Bool.or_true]
theorem greatS (n : Net) : Sy.Spec Tryz.prog 10 [netSV n] [] (boolSV (greatB n)) [] := contract Γ hm 100 F10 Tryz.ntmps10 rfl fun F hF => by
  (conv=>whnf)
  (repeat' (first | (refine ⟨fun h => ?_, fun h => ?_⟩ <;> (repeat (first | simp only [decide_eq_true_eq] at h | simp only [decide_eq_false_iff_not] at h)) <;> ((refine rg ?_);(conv=>whnf);repeat((refine aT ?_);(refine rg ?_);(conv=>whnf)))) | (refine done0 rfl (.cons .tmp .nil) ?_ rfl)))
  all_goals first
    | (refine congrArg boolSV ?_; clear hF; grind [greatB])
    | skip
  have l1 : n.ports.length ≤ 200 := by omega
  have l2 : n.domains.length ≤ 200 := by omega
  have l3 : n.floods.length ≤ 200 := by omega
  have l4 : n.vrfs.length ≤ 200 := by omega
  refine G_box 1 8 (netSV n) rfl rfl rfl ?_
  refine G_countP n.ports.length (fun j => Upto (fun _ p => !(decide (100 < p.tagged.length))) n.ports j) (fun j => [(1, .ref 8 (netSV n) 0), (3, intSV j)]) (fun _ => []) [] (upto_zero _ _) ⟨⟨rfl, rfl, rfl, rfl, trivial⟩, trivial, rfl, rfl⟩ ?_
  intro j hj hI
  (refine rg ?_;(conv=>whnf))
  refine ⟨fun h => ?_, fun h => ?_⟩
  · have hjl : j < n.ports.length := by simpa using h
    (refine rg ?_;(conv=>whnf))
    (repeat' (first | (refine ⟨fun h => ?_, fun h => ?_⟩ <;> (repeat (first | simp only [decide_eq_true_eq] at h | simp only [decide_eq_false_iff_not] at h)) <;> ((refine rg ?_);(conv=>whnf))) | (refine done0 rfl (.cons .tmp .nil) ?_ rfl) | (refine ⟨(by kernel_rfl), ?_⟩; ((conv=>whnf))) | (refine ⟨by (omega), by (omega), ?_⟩; ((conv=>whnf))) | (refine ⟨by (unfold I64; omega), ?_⟩; ((conv=>whnf))) | refine G_nextP [] hI hjl ?_ ⟨⟨rfl, rfl, rfl, rfl, trivial⟩, trivial, rfl, rfl⟩))
    all_goals (simp only [Int.toNat_natCast] at *)
    · refine congrArg boolSV ?_
      exact great1 (any_true hjl (by simp; omega))
    · exact upto_next hI hjl (by simp; omega)
  have a1 : n.ports.any (fun p => decide (100 < p.tagged.length)) = false := any_false hI (by simpa using h)
  clear hI hj h
  (refine rg ?_;(conv=>whnf))
  refine G_countP n.domains.length (fun j => Upto (fun _ p => !(decide (100 < p.peers.length))) n.domains j) (fun j => [(1, .ref 8 (netSV n) 0), (4, intSV j)]) (fun _ => []) [] (upto_zero _ _) ⟨⟨rfl, rfl, rfl, rfl, trivial⟩, trivial, rfl, rfl⟩ ?_
  intro j hj hI
  (refine rg ?_;(conv=>whnf))
  refine ⟨fun h => ?_, fun h => ?_⟩
  · have hjl : j < n.domains.length := by simpa using h
    (refine rg ?_;(conv=>whnf))
    (repeat' (first | (refine ⟨fun h => ?_, fun h => ?_⟩ <;> (repeat (first | simp only [decide_eq_true_eq] at h | simp only [decide_eq_false_iff_not] at h)) <;> ((refine rg ?_);(conv=>whnf))) | (refine done0 rfl (.cons .tmp .nil) ?_ rfl) | (refine ⟨(by kernel_rfl), ?_⟩; ((conv=>whnf))) | (refine ⟨by (omega), by (omega), ?_⟩; ((conv=>whnf))) | (refine ⟨by (unfold I64; omega), ?_⟩; ((conv=>whnf))) | refine G_nextP [] hI hjl ?_ ⟨⟨rfl, rfl, rfl, rfl, trivial⟩, trivial, rfl, rfl⟩))
    all_goals (simp only [Int.toNat_natCast] at *)
    · refine congrArg boolSV ?_
      exact great2 (any_true hjl (by simp; omega))
    · exact upto_next hI hjl (by simp; omega)
  have a2 : n.domains.any (fun p => decide (100 < p.peers.length)) = false := any_false hI (by simpa using h)
  clear hI hj h
  (refine rg ?_;(conv=>whnf))
  refine G_countP n.floods.length (fun j => Upto (fun _ p => !(decide (100 < p.addrs.length))) n.floods j) (fun j => [(1, .ref 8 (netSV n) 0), (5, intSV j)]) (fun _ => []) [] (upto_zero _ _) ⟨⟨rfl, rfl, rfl, rfl, trivial⟩, trivial, rfl, rfl⟩ ?_
  intro j hj hI
  (refine rg ?_;(conv=>whnf))
  refine ⟨fun h => ?_, fun h => ?_⟩
  · have hjl : j < n.floods.length := by simpa using h
    (refine rg ?_;(conv=>whnf))
    (repeat' (first | (refine ⟨fun h => ?_, fun h => ?_⟩ <;> (repeat (first | simp only [decide_eq_true_eq] at h | simp only [decide_eq_false_iff_not] at h)) <;> ((refine rg ?_);(conv=>whnf))) | (refine done0 rfl (.cons .tmp .nil) ?_ rfl) | (refine ⟨(by kernel_rfl), ?_⟩; ((conv=>whnf))) | (refine ⟨by (omega), by (omega), ?_⟩; ((conv=>whnf))) | (refine ⟨by (unfold I64; omega), ?_⟩; ((conv=>whnf))) | refine G_nextP [] hI hjl ?_ ⟨⟨rfl, rfl, rfl, rfl, trivial⟩, trivial, rfl, rfl⟩))
    all_goals (simp only [Int.toNat_natCast] at *)
    · refine congrArg boolSV ?_
      exact great3 (any_true hjl (by simp; omega))
    · exact upto_next hI hjl (by simp; omega)
  have a3 : n.floods.any (fun p => decide (100 < p.addrs.length)) = false := any_false hI (by simpa using h)
  clear hI hj h
  (refine rg ?_;(conv=>whnf))
  refine G_countP n.vrfs.length (fun j => Upto (fun _ v => !(decide (100 < v.imports.length) || decide (100 < v.exports.length))) n.vrfs j) (fun j => [(1, .ref 8 (netSV n) 0), (6, intSV j)]) (fun _ => []) [] (upto_zero _ _) ⟨⟨rfl, rfl, rfl, rfl, trivial⟩, trivial, rfl, rfl⟩ ?_
  intro j hj hI
  (refine rg ?_;(conv=>whnf))
  refine ⟨fun h => ?_, fun h => ?_⟩
  · have hjl : j < n.vrfs.length := by simpa using h
    (refine rg ?_;(conv=>whnf))
    (repeat' (first | (refine ⟨fun h => ?_, fun h => ?_⟩ <;> (repeat (first | simp only [decide_eq_true_eq] at h | simp only [decide_eq_false_iff_not] at h)) <;> ((refine rg ?_);(conv=>whnf);repeat((refine aT ?_);(refine rg ?_);(conv=>whnf)))) | (refine done0 rfl (.cons .tmp .nil) ?_ rfl) | (refine ⟨(by kernel_rfl), ?_⟩; ((conv=>whnf))) | (refine ⟨by (omega), by (omega), ?_⟩; ((conv=>whnf))) | (refine ⟨by (unfold I64; omega), ?_⟩; ((conv=>whnf))) | refine G_nextP [] hI hjl ?_ ⟨⟨rfl, rfl, rfl, rfl, trivial⟩, trivial, rfl, rfl⟩))
    all_goals (simp only [Int.toNat_natCast] at *)
    all_goals first
      | exact upto_next hI hjl (by simp; omega)
      | (refine congrArg boolSV ?_; exact great4 (any_true hjl (by simp; omega)))
  have a4 : n.vrfs.any (fun v => decide (100 < v.imports.length) || decide (100 < v.exports.length)) = false := any_false hI (by simpa using h)
  clear hI hj h
  (refine rg ?_;(conv=>whnf))
  refine done0 rfl (.cons .tmp .nil) (congrArg boolSV ?_) rfl
  rw [greatB, a1, a2, a3, a4]
  simp
  omega
def leastV : Vec → List Vec → Vec
  | v, [] => v
  | v, x :: l => leastV (if lessV x v then x else v) l
def zeroV : Vec := ⟨0, 0, 0, 0, 0⟩
def leastR : List Vec → Vec × Bool
  | [] => (zeroV, false)
  | v :: l => (leastV v (v :: l), true)
end Go.Sy.YtmelpejjondedaaGreat

namespace Go.Sy.YtmelpejjondedaaGreat
open Go.Proofs
attribute [local irreducible] Go.Sy.G Go.Sy.DR
set_option maxRecDepth 20000
set_option maxHeartbeats 4000000
end Go.Sy.YtmelpejjondedaaGreat

namespace Go.Sy.YtmelpejjondedaaGreat
open Go.Proofs
attribute [local irreducible] Go.Sy.G Go.Sy.DR
set_option maxRecDepth 20000
set_option maxHeartbeats 4000000
theorem leastV_mem : ∀ (v : Vec) (l : List Vec), leastV v l = v ∨ leastV v l ∈ l
  | v, [] => .inl rfl
  | v, x :: l => by
    rw [leastV]
    rcases leastV_mem (if lessV x v then x else v) l with h | h
    · rw [h]
      split
      · exact .inr (by simp)
      · exact .inl rfl
    · exact .inr (by simp [h])
theorem leastV_drop (v : Vec) (l : List Vec) (j : Nat) (h : j < l.length) : leastV v (l.take (j + 1)) = (if lessV l[j] (leastV v (l.take j)) then l[j] else leastV v (l.take j)) := by
  have key : ∀ (a b : List Vec) (v : Vec), leastV v (a ++ b) = leastV (leastV v a) b := by
    intro a
    induction a with
    | nil => intro b v; rfl
    | cons x a ih => intro b v; rw [List.cons_append, leastV, leastV, ih]
  rw [List.take_succ_eq_append_getElem h, key]
  rfl
theorem leastS (l : List Vec) (hl : Short l) : Sy.Spec Tryz.prog 236 [.sl 5 vecSV l] [] (.tup [vecSV (leastR l).1, boolSV (leastR l).2]) [] := contract Γ hm 100 F236 Tryz.ntmps236 rfl fun F hF => by
  unfold Short at hl
  have hR : ∀ h : 0 < l.length, leastR l = (leastV l[0] l, true) := fun h => by
    cases l with
    | nil => simp at h
    | cons v t => rfl
  (conv=>whnf)
  refine ⟨fun h => ?_, fun h => ?_⟩
  · have : l = [] := List.eq_nil_of_length_eq_zero (by have : (l.length : Int) = 0 := by simpa using h
                                                       omega)
    subst this
    (refine rg ?_;(conv=>whnf))
    exact done rfl (.cons (.cell rfl rfl rfl rfl) (.cons .tmp .nil)) [] [] (fun _ h => h) rfl rfl ⟨trivial, trivial, rfl, rfl⟩
  have h0 : 0 < l.length := by
    have : ¬ (l.length : Int) = 0 := by simpa using h
    omega
  rw [hR h0]
  (refine rg ?_;(conv=>whnf))
  refine ⟨rfl, by decide, h0, ?_⟩
  (conv=>whnf)
  have e0 : l[(0 : Int).toNat]'(h0) = l[0] := rfl
  generalize hv : l[0] = v at *
  refine G_count l.length (fun j => [(0, .sl 5 vecSV l), (2, .ptr 2 0), (4, .ptr 4 0), (14, .sl 5 vecSV l), (15, intSV l.length), (16, intSV j)]) (fun j => [(2, .box [intSV 0, intSV 0, intSV 0, intSV 0, intSV 0]), (4, .box [intSV (leastV v (l.take j)).root, intSV (leastV v (l.take j)).cost, intSV (leastV v (l.take j)).bridge, intSV (leastV v (l.take j)).port, intSV (leastV v (l.take j)).own])]) []
    ⟨⟨rfl, rfl, rfl, rfl, rfl, rfl, rfl, rfl, rfl, rfl, rfl, rfl, trivial⟩, ⟨.inl rfl, rfl, .inl (by subst hv; rfl), rfl, trivial⟩, rfl, rfl⟩ ?_
  intro j hj
  (refine rg ?_;(conv=>whnf))
  refine ⟨fun h => ?_, fun h => ?_⟩
  · have hlt : j < l.length := by simpa using h
    have hdrop := leastV_drop v l j hlt
    generalize hx : l[j] = x at hdrop
    have hx' : l[(j : Int).toNat]'(by omega) = x := hx
    generalize hmn : leastV v (l.take j) = m at hdrop
    (refine rg ?_;(conv=>whnf))
    refine ⟨rfl, by omega, by omega, ?_⟩
    rw [hx']
    (conv=>whnf)
    refine call0 (lessS x m) F287 rfl rfl rfl rfl rfl ?_
    (refine rg ?_;(conv=>whnf))
    refine ⟨fun h2 => ?_, fun h2 => ?_⟩
    · rw [h2, if_pos rfl] at hdrop
      (refine rg ?_;(conv=>whnf))
      refine ⟨by unfold I64; omega, ?_⟩
      (conv=>whnf)
      exact G_next [] hlt ⟨⟨rfl, rfl, rfl, rfl, rfl, rfl, rfl, rfl, rfl, rfl, rfl, rfl, trivial⟩, ⟨.inl rfl, rfl, .inl (by rw [hdrop]; rfl), rfl, trivial⟩, rfl, rfl⟩
    · rw [h2] at hdrop
      (refine rg ?_;(conv=>whnf))
      refine ⟨by unfold I64; omega, ?_⟩
      (conv=>whnf)
      exact G_next [] hlt ⟨⟨rfl, rfl, rfl, rfl, rfl, rfl, rfl, rfl, rfl, rfl, rfl, rfl, trivial⟩, ⟨.inl rfl, rfl, .inl (by rw [hdrop]; rfl), rfl, trivial⟩, rfl, rfl⟩
  · have hjl : ¬ j < l.length := by simpa using h
    rw [List.take_of_length_le (by omega)]
    (refine rg ?_;(conv=>whnf))
    exact done rfl (.cons (.cell rfl rfl rfl rfl) (.cons .tmp .nil)) [] [] (fun _ h => h) rfl rfl ⟨trivial, trivial, rfl, rfl⟩
theorem leastR_mem {l : List Vec} (h : (leastR l).2 = true) : (leastR l).1 ∈ l := by
  cases l with
  | nil => cases h
  | cons v t =>
    rcases leastV_mem v (v :: t) with h | h
    · show leastV v (v :: t) ∈ v :: t
      rw [h]; simp
    · exact h
theorem ranks_range (n : Net) : ∀ x ∈ ranksL n, 0 ≤ x ∧ x < n.devices.length := fun x hx => by
  rw [ranks_eq, refRanksL] at hx
  obtain ⟨i, hi, rfl⟩ := List.mem_map.1 hx
  have hi := List.mem_range.1 hi
  have h1 := List.countP_le_length (p := fun k => aheadB n (k : Nat) i) (l := List.range n.devices.length)
  rw [List.length_range] at h1
  have h2 : (List.range n.devices.length).countP (fun k => aheadB n (k : Nat) i) ≠ n.devices.length := fun e => by
    have := List.countP_eq_length.1 (e.trans List.length_range.symm) i (List.mem_range.2 hi)
    rw [ahead_irrefl] at this
    cases this
  omega
theorem ranksL_length (n : Net) : (ranksL n).length = n.devices.length := by rw [ranks_eq, refRanksL]; simp
end Go.Sy.YtmelpejjondedaaGreat

namespace Go.Sy.YtmelpejjondedaaGreat
open Go.Proofs
attribute [local irreducible] Go.Sy.G Go.Sy.DR
set_option maxRecDepth 100000
set_option maxHeartbeats 4000000
def spanL (n : Net) (up : List Bool) (ranks : List Int) (x y : SV) : List SV := [.sl 5 deviceSV n.devices, .sl 7 portSV n.ports, .sl 3 linkSV n.links, .sl 6 domainSV n.domains, .sl 4 staticSV n.statics, .sl 4 floodSV n.floods, .sl 5 vrfSV n.vrfs, .sl 5 irbSV n.irbs, .sl 1 boolSV up, .sl 1 intSV ranks, x, y]
def farI (n : Net) (up : List Bool) (i : Nat) : Int :=
  let p := n.ports.getD i default
  if p.link < 0 || !(up.getD p.link.toNat false) then -1 else (nth n.links p.link).a + (nth n.links p.link).b - i
theorem farS (n : Net) (up : List Bool) (ranks : List Int) (x y : SV) (_hx : (x.boxed && x.data && y.boxed && y.data && Nat.beq (cellsOf x).length 1 && Nat.beq (cellsOf y).length 1) = true) (i : Nat) (hr : netRightB n = true) (hu : up.length = n.links.length) (hi : i < n.ports.length) :
    Sy.Spec Tryz.prog 158 [.ref 12 (.agg (spanL n up ranks x y)) 0, intSV i] [] (intSV (farI n up i)) [] := contract Γ hm 100 F158 Tryz.ntmps158 rfl fun F hF => by
  have hpl := port_link hr hi
  have hf := right_few hr
  have e1 : n.ports[(i : Int).toNat]'(by omega) = n.ports[i] := rfl
  have hfar : farI n up i = if n.ports[i].link < 0 || !(up.getD n.ports[i].link.toNat false) then -1 else (nth n.links n.ports[i].link).a + (nth n.links n.ports[i].link).b - i := by
    rw [farI, getD_at hi]
  generalize hp : n.ports[i] = p at *
  have hle := fun h => link_ends hr (i := p.link.toNat) h
  (conv=>whnf)
  refine ⟨rfl, by omega, by omega, ?_⟩
  rw [e1]
  (conv=>whnf)
  (repeat' (first | (refine ⟨fun h => ?_, fun h => ?_⟩ <;> (repeat (first | simp only [decide_eq_true_eq] at h | simp only [decide_eq_false_iff_not] at h | simp only [Bool.not_eq_true'] at h | simp only [Bool.not_eq_false'] at h)) <;> ((first|refine rg ?_|refine rd (by kernel_rfl) ?_);(conv=>whnf))) | (refine done0 rfl (.cons .tmp .nil) ?_ rfl) | (refine ⟨(by kernel_rfl), ?_⟩; ((conv=>whnf);repeat((refine aT ?_);(refine rg ?_);(conv=>whnf)))) | (refine ⟨by (first | omega | ((have hq := hle (by omega); unfold I64; omega))), by (first | omega | ((have hq := hle (by omega); unfold I64; omega))), ?_⟩; ((conv=>whnf)))))
  all_goals (refine congrArg intSV ?_; rw [hfar])
  · simp_all
  · have h1 : up.getD p.link.toNat false = false := by rw [getD_at (by omega)]; assumption
    rw [h1]; simp
  · have h1 : up.getD p.link.toNat false = true := by rw [getD_at (by omega)]; assumption
    rw [h1, nth_eq (by omega)]
    simp_all
end Go.Sy.YtmelpejjondedaaGreat

namespace Go.Sy.YtmelpejjondedaaGreat
open Go.Proofs
attribute [local irreducible] Go.Sy.G Go.Sy.DR
set_option maxRecDepth 100000
set_option maxHeartbeats 4000000
def spanSV (n : Net) (up : List Bool) (ranks roots costs : List Int) : SV := .ref 12 (.agg (spanL n up ranks (.sl 1 intSV roots) (.sl 1 intSV costs))) 0
def spanAhead (n : Net) (ranks costs : List Int) (i k : Nat) : Bool :=
  let a := (n.ports.getD i default).dev
  let b := (n.ports.getD k default).dev
  decide (nth costs a < nth costs b) || (nth costs a == nth costs b && decide (nth ranks a < nth ranks b))
theorem spanAheadS (n : Net) (up : List Bool) (ranks roots costs : List Int) (i k : Nat) (hr : netRightB n = true) (hrk : ranks.length = n.devices.length) (hc : costs.length = n.devices.length) (hi : i < n.ports.length) (hk : k < n.ports.length) :
    Sy.Spec Tryz.prog 159 [spanSV n up ranks roots costs, intSV i, intSV k] [] (boolSV (spanAhead n ranks costs i k)) [] := contract Γ hm 100 F159 Tryz.ntmps159 rfl fun F hF => by
  have hd1 := port_dev hr hi
  have hd2 := port_dev hr hk
  have e1 : n.ports[(i : Int).toNat]'(by omega) = n.ports[i] := rfl
  have e2 : n.ports[(k : Int).toNat]'(by omega) = n.ports[k] := rfl
  have hres : spanAhead n ranks costs i k = (decide (nth costs n.ports[i].dev < nth costs n.ports[k].dev) || (nth costs n.ports[i].dev == nth costs n.ports[k].dev && decide (nth ranks n.ports[i].dev < nth ranks n.ports[k].dev))) := by
    rw [spanAhead, getD_at hi, getD_at hk]
  rw [nth_eq (by omega), nth_eq (by omega), nth_eq (by omega), nth_eq (by omega)] at hres
  (conv=>whnf)
  (repeat' (first | (refine ⟨fun h => ?_, fun h => ?_⟩ <;> (repeat (first | simp only [decide_eq_true_eq] at h | simp only [decide_eq_false_iff_not] at h | simp only [beq_iff_eq] at h | simp only [beq_eq_false_iff_ne] at h)) <;> ((refine rd (by kernel_rfl) ?_);(conv=>whnf))) | (refine done0 rfl (.cons .tmp .nil) ?_ rfl) | (refine ⟨(by kernel_rfl), ?_⟩; ((conv=>whnf))) | (refine ⟨by (first | omega | (simp only [Int.toNat_natCast]; omega)), by (first | omega | (simp only [Int.toNat_natCast]; omega)), ?_⟩; ((conv=>whnf)))))
  all_goals (refine congrArg boolSV ?_; rw [hres]; clear hF hres hr; simp only [Int.toNat_natCast] at *; grind)
end Go.Sy.YtmelpejjondedaaGreat

namespace Go.Sy.YtmelpejjondedaaGreat
open Go.Proofs
attribute [local irreducible] Go.Sy.G Go.Sy.DR
set_option maxRecDepth 100000
set_option maxHeartbeats 4000000
theorem far_lt {n : Net} {up : List Bool} (h : netRightB n = true) {i : Nat} (hi : i < n.ports.length) (hf : 0 ≤ farI n up i) : farI n up i < n.ports.length := by
  have hp := right_port h hi
  have hpl := port_link h hi
  simp only [portB, Bool.and_eq_true, Bool.or_eq_true, beq_iff_eq] at hp
  have hp := hp.2
  unfold farI at *
  rw [getD_at hi] at *
  simp only at *
  split at hf
  · omega
  · rename_i hc
    rw [if_neg hc]
    simp only [Bool.or_eq_true, decide_eq_true_eq, not_or] at hc
    rcases hp with hp | hp
    · omega
    · have hl : n.ports[i].link.toNat < n.links.length := by omega
      have he := link_ends h hl
      rw [nth_eq hl] at *
      omega
def candV (n : Net) (up : List Bool) (ranks roots costs : List Int) (dev : Int) (i : Nat) : Option Vec :=
  let p := n.ports.getD i default
  let far := farI n up i
  let there := (nth n.ports far).dev
  if p.dev == dev && decide (0 ≤ far) then some ⟨nth roots there, nth costs there + p.cost, nth ranks there, far, i⟩ else none
def bestL (n : Net) (up : List Bool) (ranks roots costs : List Int) (dev : Int) (j : Nat) : List Vec := (List.range j).filterMap (candV n up ranks roots costs dev)
theorem bestL_succ (n : Net) (up : List Bool) (ranks roots costs : List Int) (dev : Int) (j : Nat) : bestL n up ranks roots costs dev (j + 1) = bestL n up ranks roots costs dev j ++ (candV n up ranks roots costs dev j).toList := by
  rw [bestL, List.range_succ, List.filterMap_append]
  cases h : candV n up ranks roots costs dev j <;> simp [bestL, h]
theorem bestL_length (n : Net) (up : List Bool) (ranks roots costs : List Int) (dev : Int) (j : Nat) : (bestL n up ranks roots costs dev j).length ≤ j := by
  have := List.length_filterMap_le (candV n up ranks roots costs dev) (List.range j)
  simpa [bestL] using this
def bestI (n : Net) (up : List Bool) (ranks roots costs : List Int) (dev : Int) : Int :=
  let r := leastR (bestL n up ranks roots costs dev n.ports.length)
  if !r.2 || nth roots dev == nth ranks dev then -1 else r.1.own
theorem bestS (n : Net) (up : List Bool) (ranks roots costs : List Int) (dev : Int) (hr : netRightB n = true) (hu : up.length = n.links.length) (hcost : costsB n = true) (hrk : ranks.length = n.devices.length) (hro : roots.length = n.devices.length) (hc : costs.length = n.devices.length)
    (hb : ∀ c ∈ costs, 0 ≤ c ∧ c < 1000000000) (hd : 0 ≤ dev ∧ dev < n.devices.length) :
    Sy.Spec Tryz.prog 160 [spanSV n up ranks roots costs, intSV dev] [] (intSV (bestI n up ranks roots costs dev)) [] := contract Γ hm 100 F160 Tryz.ntmps160 rfl fun F hF => by
  have hf := right_few hr
  (conv=>whnf)
  refine G_adopt 5 1000 5 vecSV rfl rfl ?_
  refine G_count n.ports.length (fun j => [(0, spanSV n up ranks roots costs), (1, intSV dev), (5, .osl 1000), (16, .sl 7 portSV n.ports), (17, intSV n.ports.length), (18, intSV j)]) (fun j => [(1000, .row 5 vecSV (bestL n up ranks roots costs dev j))]) []
    ⟨⟨rfl, rfl, rfl, rfl, rfl, rfl, rfl, rfl, rfl, rfl, rfl, rfl, trivial⟩, ⟨.inl rfl, rfl, trivial⟩, rfl, rfl⟩ ?_
  intro j hj
  (refine rg ?_;(conv=>whnf))
  refine ⟨fun h => ?_, fun h => ?_⟩
  · have hlt : j < n.ports.length := by simpa using h
    have e1 : n.ports[(j : Int).toNat]'(by omega) = n.ports[j] := rfl
    have hfar := farS n up ranks (.sl 1 intSV roots) (.sl 1 intSV costs) rfl j hr hu hlt
    have hfl := far_lt (up := up) hr hlt
    have hsucc := bestL_succ n up ranks roots costs dev j
    have hbl := bestL_length n up ranks roots costs dev j
    have hcand : candV n up ranks roots costs dev j = if n.ports[j].dev == dev && decide (0 ≤ farI n up j) then some ⟨nth roots (nth n.ports (farI n up j)).dev, nth costs (nth n.ports (farI n up j)).dev + n.ports[j].cost, nth ranks (nth n.ports (farI n up j)).dev, farI n up j, j⟩ else none := by
      rw [candV, getD_at hlt]
    generalize farI n up j = k at *
    have hpc : 1 ≤ n.ports[j].cost ∧ n.ports[j].cost ≤ 65535 := by
      simp only [costsB, Bool.not_eq_true', List.any_eq_false] at hcost
      have := hcost _ (List.getElem_mem hlt)
      simp only [badCost, Bool.or_eq_true, decide_eq_true_eq, not_or] at this
      omega
    obtain ⟨p, hp⟩ : ∃ p, n.ports[j] = p := ⟨_, rfl⟩
    rw [hp] at e1 hcand hpc
    (refine rg ?_;(conv=>whnf))
    refine ⟨rfl, by omega, by omega, ?_⟩
    rw [e1]
    (conv=>whnf)
    refine call0 hfar F158 rfl rfl rfl rfl rfl ?_
    (refine rg ?_;(conv=>whnf))
    refine ⟨fun h => ?_, fun h => ?_⟩
    · (refine rg ?_;(conv=>whnf))
      refine ⟨fun h2 => ?_, fun h2 => ?_⟩
      · have hk0 : 0 ≤ k := of_decide_eq_true h2
        have hk1 := hfl hk0
        rw [if_pos (by simp only [Bool.and_eq_true, decide_eq_true_eq]; exact ⟨h, hk0⟩), nth_eq (l := n.ports) (i := k) (by omega)] at hcand
        have hpd := port_dev hr (i := k.toNat) (by omega)
        obtain ⟨q, hq⟩ : ∃ q, n.ports[k.toNat]'(by omega) = q := ⟨_, rfl⟩
        rw [hq] at hcand hpd
        have hcb := hb (costs[q.dev.toNat]'(by omega)) (List.getElem_mem _)
        rw [nth_eq (l := roots) (i := q.dev) (by omega), nth_eq (l := costs) (i := q.dev) (by omega), nth_eq (l := ranks) (i := q.dev) (by omega)] at hcand
        (refine rg ?_;(conv=>whnf))
        refine ⟨rfl, hk0, by omega, ?_⟩
        rw [hq]
        (conv=>whnf)
        refine ⟨(by kernel_rfl), ?_⟩
        refine ⟨by omega, by omega, ?_⟩
        (conv=>whnf)
        refine ⟨(by kernel_rfl), ?_⟩
        refine ⟨by omega, by omega, ?_⟩
        (conv=>whnf)
        refine ⟨by unfold I64; omega, ?_⟩
        (conv=>whnf)
        refine ⟨(by kernel_rfl), ?_⟩
        refine ⟨by omega, by omega, ?_⟩
        (conv=>whnf)
        refine stepD (good_appendT Γ.toTy 72 rfl rfl rfl rfl rfl (.row rfl) (.lit (l := [(⟨roots[q.dev.toNat]'(by omega), costs[q.dev.toNat]'(by omega) + p.cost, ranks[q.dev.toNat]'(by omega), k, j⟩ : Vec)]) rfl rfl) (by simp) (by simp; omega) (by simp; omega)) (by kernel_rfl) rfl ?_
        (refine rd (by kernel_rfl) ?_;(conv=>whnf))
        refine ⟨(by kernel_rfl), ?_⟩
        (conv=>whnf)
        refine ⟨by unfold I64; omega, ?_⟩
        (conv=>whnf)
        refine G_next [(1000, 72)] hlt ⟨⟨rfl, rfl, rfl, rfl, rfl, rfl, rfl, rfl, rfl, rfl, rfl, rfl, trivial⟩, ⟨.inl (congrArg (Ob.row 5 vecSV) ?_), rfl, trivial⟩, rfl, rfl⟩
        rw [hsucc, hcand]
        rfl
      · have hk0 : ¬ 0 ≤ k := of_decide_eq_false h2
        rw [if_neg (by simp only [Bool.and_eq_true, decide_eq_true_eq]; exact fun hh => hk0 hh.2)] at hcand
        (refine rg ?_;(conv=>whnf))
        refine ⟨by unfold I64; omega, ?_⟩
        (conv=>whnf)
        refine G_next [] hlt ⟨⟨rfl, rfl, rfl, rfl, rfl, rfl, rfl, rfl, rfl, rfl, rfl, rfl, trivial⟩, ⟨.inl (congrArg (Ob.row 5 vecSV) ?_), rfl, trivial⟩, rfl, rfl⟩
        rw [hsucc, hcand]
        simp
    · rw [if_neg (by rw [h]; simp)] at hcand
      (refine rg ?_;(conv=>whnf);refine aF ?_;refine rg ?_;(conv=>whnf))
      refine ⟨by unfold I64; omega, ?_⟩
      (conv=>whnf)
      refine G_next [] hlt ⟨⟨rfl, rfl, rfl, rfl, rfl, rfl, rfl, rfl, rfl, rfl, rfl, rfl, trivial⟩, ⟨.inl (congrArg (Ob.row 5 vecSV) ?_), rfl, trivial⟩, rfl, rfl⟩
      rw [hsucc, hcand]
      simp
  · have hjl : j = n.ports.length := by
      have : ¬ j < n.ports.length := by simpa using h
      omega
    subst hjl
    have hbl := bestL_length n up ranks roots costs dev n.ports.length
    have hbi : bestI n up ranks roots costs dev = if !(leastR (bestL n up ranks roots costs dev n.ports.length)).2 || nth roots dev == nth ranks dev then -1 else (leastR (bestL n up ranks roots costs dev n.ports.length)).1.own := rfl
    rw [nth_eq (by omega), nth_eq (by omega)] at hbi
    have hls := leastS (bestL n up ranks roots costs dev n.ports.length) (by unfold Short; omega)
    generalize leastR (bestL n up ranks roots costs dev n.ports.length) = r at hls hbi
    obtain ⟨v, ok⟩ := r
    simp only at hls hbi
    rw [hbi]
    (refine rg ?_;(conv=>whnf))
    refine G_data 1000 rfl ?_
    refine call0 hls F236 rfl rfl rfl rfl rfl ?_
    (refine rg ?_;(conv=>whnf))
    (repeat' (first | (refine ⟨fun h => ?_, fun h => ?_⟩ <;> (repeat (first | simp only [beq_iff_eq] at h | simp only [beq_eq_false_iff_ne] at h | simp only [Bool.not_eq_true'] at h | simp only [Bool.not_eq_false'] at h)) <;> ((first|refine rg ?_|refine rd (by kernel_rfl) ?_);(conv=>whnf))) | (refine done0 rfl (.cons .tmp .nil) ?_ rfl) | (refine ⟨(by kernel_rfl), ?_⟩; ((conv=>whnf);repeat((refine aT ?_);(refine rg ?_);(conv=>whnf)))) | (refine ⟨by (omega), by (omega), ?_⟩; ((conv=>whnf)))))
    all_goals (refine congrArg intSV ?_; clear hF hls hbi; grind)
end Go.Sy.YtmelpejjondedaaGreat

namespace Go.Sy.YtmelpejjondedaaGreat
open Go.Proofs
attribute [local irreducible] Go.Sy.G Go.Sy.DR
set_option maxRecDepth 100000
set_option maxHeartbeats 4000000
theorem best_lt {n : Net} {up : List Bool} {ranks roots costs : List Int} {dev : Int} (h : 0 ≤ bestI n up ranks roots costs dev) : bestI n up ranks roots costs dev < n.ports.length := by
  have hmem := @leastR_mem (bestL n up ranks roots costs dev n.ports.length)
  unfold bestI at *
  simp only at *
  split at h
  · omega
  · rename_i hc
    rw [if_neg hc]
    simp only [Bool.or_eq_true, Bool.not_eq_true', not_or] at hc
    have h2 := hmem (by simpa using hc.1)
    obtain ⟨i, hi, he⟩ := List.mem_filterMap.1 h2
    have hi := List.mem_range.1 hi
    unfold candV at he
    simp only at he
    split at he
    · have e := congrArg Vec.own (Option.some.inj he)
      simp only at e
      omega
    · cases he
def role1 (n : Net) (up : List Bool) (ranks costs : List Int) (i : Nat) : Int :=
  if farI n up i < 0 then 0 else if spanAhead n ranks costs i (farI n up i).toNat then 2 else 3
def rolesA (n : Net) (up : List Bool) (ranks costs : List Int) (j : Nat) : List Int := (List.range n.ports.length).map fun i => if i < j then role1 n up ranks costs i else 0
theorem rolesA_length (n : Net) (up : List Bool) (ranks costs : List Int) (j : Nat) : (rolesA n up ranks costs j).length = n.ports.length := by simp [rolesA]
theorem rolesA_zero (n : Net) (up : List Bool) (ranks costs : List Int) : rolesA n up ranks costs 0 = List.replicate n.ports.length 0 := by
  rw [rolesA]
  exact List.ext_getElem (by simp) (by simp)
theorem rolesA_succ (n : Net) (up : List Bool) (ranks costs : List Int) (j : Nat) (hj : j < n.ports.length) : rolesA n up ranks costs (j + 1) = (rolesA n up ranks costs j).set j (role1 n up ranks costs j) := by
  refine List.ext_getElem (by simp [rolesA]) (fun i h1 h2 => ?_)
  rw [List.getElem_set]
  simp only [rolesA, List.getElem_map, List.getElem_range]
  rcases Nat.lt_trichotomy i j with h | h | h
  · rw [if_pos (by omega), if_neg (by omega), if_pos h]
  · subst h; rw [if_pos (by omega), if_pos rfl]
  · rw [if_neg (by omega), if_neg (by omega), if_neg (by omega)]
theorem rolesA_same (n : Net) (up : List Bool) (ranks costs : List Int) (j : Nat) (h : role1 n up ranks costs j = 0) : rolesA n up ranks costs (j + 1) = rolesA n up ranks costs j := by
  simp only [rolesA]
  refine List.map_congr_left (fun i _ => ?_)
  by_cases hij : i < j
  · rw [if_pos (by omega), if_pos hij]
  · by_cases he : i = j
    · subst he; rw [if_pos (by omega), if_neg hij, h]
    · rw [if_neg (by omega), if_neg hij]
def rolesB (n : Net) (up : List Bool) (ranks roots costs : List Int) : Nat → List Int
  | 0 => rolesA n up ranks costs n.ports.length
  | d + 1 => if 0 ≤ bestI n up ranks roots costs d then (rolesB n up ranks roots costs d).set (bestI n up ranks roots costs d).toNat 1 else rolesB n up ranks roots costs d
theorem rolesB_length (n : Net) (up : List Bool) (ranks roots costs : List Int) : ∀ d, (rolesB n up ranks roots costs d).length = n.ports.length
  | 0 => rolesA_length n up ranks costs _
  | d + 1 => by
    rw [rolesB]
    split
    · rw [List.length_set, rolesB_length]
    · rw [rolesB_length]
theorem rolesS (n : Net) (up : List Bool) (ranks roots costs : List Int) (hr : netRightB n = true) (hu : up.length = n.links.length) (hcost : costsB n = true) (hrk : ranks.length = n.devices.length) (hro : roots.length = n.devices.length) (hc : costs.length = n.devices.length)
    (hb : ∀ c ∈ costs, 0 ≤ c ∧ c < 1000000000) :
    Sy.Spec Tryz.prog 85 [spanSV n up ranks roots costs] [] (.sl 1 intSV (rolesB n up ranks roots costs n.devices.length)) [] := contract Γ hm 100 F85 Tryz.ntmps85 rfl fun F hF => by
  have hf := right_few hr
  (conv=>whnf)
  refine stepOp (good_makeSlice Γ.toTy (d := 14) (n := n.ports.length) intSV 0 rfl rfl rfl rfl rfl rfl rfl rfl (by omega) (by omega) rfl rfl rfl) rfl rfl ?_
  rw [← rolesA_zero n up ranks costs]
  (refine rg ?_;(conv=>whnf))
  refine G_count n.ports.length (fun j => [(0, spanSV n up ranks roots costs), (3, .osl 14), (20, intSV n.ports.length), (21, intSV j)]) (fun j => [(14, .row 1 intSV (rolesA n up ranks costs j))]) []
    ⟨⟨rfl, rfl, rfl, rfl, rfl, rfl, rfl, rfl, trivial⟩, ⟨.inl rfl, rfl, trivial⟩, rfl, rfl⟩ ?_
  intro j hj
  (refine rg ?_;(conv=>whnf))
  refine ⟨fun h => ?_, fun h => ?_⟩
  · have hlt : j < n.ports.length := by simpa using h
    have hfar := farS n up ranks (.sl 1 intSV roots) (.sl 1 intSV costs) rfl j hr hu hlt
    have hfl := far_lt (up := up) hr hlt
    have hlen := rolesA_length n up ranks costs j
    have hrole : role1 n up ranks costs j = if farI n up j < 0 then 0 else if spanAhead n ranks costs j (farI n up j).toNat then 2 else 3 := rfl
    have hsucc := rolesA_succ n up ranks costs j hlt
    have hsame := rolesA_same n up ranks costs j
    generalize farI n up j = k at *
    (refine rg ?_;(conv=>whnf))
    refine call0 hfar F158 rfl rfl rfl rfl rfl ?_
    (refine rg ?_;(conv=>whnf))
    refine ⟨fun h => ?_, fun h => ?_⟩
    · have hk : k < 0 := of_decide_eq_true h
      rw [if_pos hk] at hrole
      (refine rg ?_;(conv=>whnf))
      refine ⟨by unfold I64; omega, ?_⟩
      (conv=>whnf)
      exact G_next [] hlt ⟨⟨rfl, rfl, rfl, rfl, rfl, rfl, rfl, rfl, trivial⟩, ⟨.inl (congrArg (Ob.row 1 intSV) (hsame hrole)), rfl, trivial⟩, rfl, rfl⟩
    have hk : ¬ k < 0 := of_decide_eq_false h
    rw [if_neg hk] at hrole
    obtain ⟨m, rfl⟩ : ∃ m : Nat, k = m := ⟨k.toNat, by omega⟩
    have hah := spanAheadS n up ranks roots costs j m hr hrk hc hlt (by omega)
    rw [Int.toNat_natCast] at hrole
    (refine rg ?_;(conv=>whnf))
    refine call0 hah F159 rfl rfl rfl rfl rfl ?_
    (refine rg ?_;(conv=>whnf))
    refine ⟨fun h => ?_, fun h => ?_⟩
    · rw [h, if_pos rfl] at hrole
      rw [hrole] at hsucc
      (refine rg ?_;(conv=>whnf))
      refine ⟨by omega, by omega, ?_⟩
      (conv=>whnf)
      refine ⟨rfl, by omega, 2, rfl, rfl, ?_⟩
      (conv=>whnf)
      refine ⟨by unfold I64; omega, ?_⟩
      (conv=>whnf)
      exact G_next [] hlt ⟨⟨rfl, rfl, rfl, rfl, rfl, rfl, rfl, rfl, trivial⟩, ⟨.inl (congrArg (Ob.row 1 intSV) hsucc), rfl, trivial⟩, rfl, rfl⟩
    · rw [h] at hrole
      simp only [Bool.false_eq_true, if_false] at hrole
      rw [hrole] at hsucc
      (refine rg ?_;(conv=>whnf))
      refine ⟨by omega, by omega, ?_⟩
      (conv=>whnf)
      refine ⟨rfl, by omega, 3, rfl, rfl, ?_⟩
      (conv=>whnf)
      refine ⟨by unfold I64; omega, ?_⟩
      (conv=>whnf)
      exact G_next [] hlt ⟨⟨rfl, rfl, rfl, rfl, rfl, rfl, rfl, rfl, trivial⟩, ⟨.inl (congrArg (Ob.row 1 intSV) hsucc), rfl, trivial⟩, rfl, rfl⟩
  have hjl : j = n.ports.length := by
    have : ¬ j < n.ports.length := by simpa using h
    omega
  subst hjl
  (refine rg ?_;(conv=>whnf))
  refine G_count n.devices.length (fun d => [(0, spanSV n up ranks roots costs), (3, .osl 14), (47, intSV n.devices.length), (48, intSV d)]) (fun d => [(14, .row 1 intSV (rolesB n up ranks roots costs d))]) []
    ⟨⟨rfl, rfl, rfl, rfl, rfl, rfl, rfl, rfl, trivial⟩, ⟨.inl rfl, rfl, trivial⟩, rfl, rfl⟩ ?_
  clear hj h
  intro d hdle
  (refine rg ?_;(conv=>whnf))
  refine ⟨fun h => ?_, fun h => ?_⟩
  · have hlt : d < n.devices.length := by simpa using h
    have hbs := bestS n up ranks roots costs d hr hu hcost hrk hro hc hb (by omega)
    have hbl := @best_lt n up ranks roots costs d
    have hlen := rolesB_length n up ranks roots costs d
    have hsucc : rolesB n up ranks roots costs (d + 1) = if 0 ≤ bestI n up ranks roots costs d then (rolesB n up ranks roots costs d).set (bestI n up ranks roots costs d).toNat 1 else rolesB n up ranks roots costs d := rfl
    generalize bestI n up ranks roots costs d = k at *
    (refine rg ?_;(conv=>whnf))
    refine call0 hbs F160 rfl rfl rfl rfl rfl ?_
    (refine rg ?_;(conv=>whnf))
    refine ⟨fun h => ?_, fun h => ?_⟩
    · have hk : 0 ≤ k := of_decide_eq_true h
      rw [if_pos hk] at hsucc
      (refine rg ?_;(conv=>whnf))
      refine ⟨hk, by omega, ?_⟩
      (conv=>whnf)
      refine ⟨rfl, by omega, 1, rfl, rfl, ?_⟩
      (conv=>whnf)
      refine ⟨by unfold I64; omega, ?_⟩
      (conv=>whnf)
      exact G_next [] hlt ⟨⟨rfl, rfl, rfl, rfl, rfl, rfl, rfl, rfl, trivial⟩, ⟨.inl (congrArg (Ob.row 1 intSV) hsucc), rfl, trivial⟩, rfl, rfl⟩
    · have hk : ¬ 0 ≤ k := of_decide_eq_false h
      rw [if_neg hk] at hsucc
      (refine rg ?_;(conv=>whnf))
      refine ⟨by unfold I64; omega, ?_⟩
      (conv=>whnf)
      exact G_next [] hlt ⟨⟨rfl, rfl, rfl, rfl, rfl, rfl, rfl, rfl, trivial⟩, ⟨.inl (congrArg (Ob.row 1 intSV) hsucc), rfl, trivial⟩, rfl, rfl⟩
  have hdl : d = n.devices.length := by
    have : ¬ d < n.devices.length := by simpa using h
    omega
  subst hdl
  (refine rg ?_;(conv=>whnf))
  refine G_data 14 rfl ?_
  exact done0 rfl (.cons .tmp .nil) rfl rfl
end Go.Sy.YtmelpejjondedaaGreat

namespace Go.Sy.YtmelpejjondedaaGreat
open Go.Proofs
attribute [local irreducible] Go.Sy.G Go.Sy.DR
set_option maxRecDepth 100000
set_option maxHeartbeats 4000000
def spanO (n : Net) (up : List Bool) (ranks : List Int) (roots costs : List Int) : Obs := [(0, .box (spanL n up ranks (.osl 1) (.osl 2))), (1, .row 1 intSV roots), (2, .row 1 intSV costs)]
theorem farR (n : Net) (up : List Bool) (ranks roots costs : List Int) (i : Nat) (hr : netRightB n = true) (hu : up.length = n.links.length) (hi : i < n.ports.length) :
    Sy.Spec Tryz.prog 158 [.ptr 0 0, intSV i] (spanO n up ranks roots costs) (intSV (farI n up i)) (spanO n up ranks roots costs) := contract Γ hm 100 F158 Tryz.ntmps158 rfl fun F hF => by
  have hpl := port_link hr hi
  have hf := right_few hr
  have e1 : n.ports[(i : Int).toNat]'(by omega) = n.ports[i] := rfl
  have hfar : farI n up i = if n.ports[i].link < 0 || !(up.getD n.ports[i].link.toNat false) then -1 else (nth n.links n.ports[i].link).a + (nth n.links n.ports[i].link).b - i := by
    rw [farI, getD_at hi]
  generalize hp : n.ports[i] = p at *
  have hle := fun h => link_ends hr (i := p.link.toNat) h
  (conv=>whnf)
  refine ⟨rfl, by omega, by omega, ?_⟩
  rw [e1]
  (conv=>whnf)
  (repeat' (first | (refine ⟨fun h => ?_, fun h => ?_⟩ <;> (repeat (first | simp only [decide_eq_true_eq] at h | simp only [decide_eq_false_iff_not] at h | simp only [Bool.not_eq_true'] at h | simp only [Bool.not_eq_false'] at h)) <;> ((first|refine rg ?_|refine rd (by kernel_rfl) ?_);(conv=>whnf))) | (refine ⟨(by kernel_rfl), ?_⟩; ((conv=>whnf);repeat((refine aT ?_);(refine rg ?_);(conv=>whnf)))) | (refine ⟨by (first | omega | ((have hq := hle (by omega); unfold I64; omega))), by (first | omega | ((have hq := hle (by omega); unfold I64; omega))), ?_⟩; ((conv=>whnf))) | refine done rfl (.cons .tmp .nil) [] (spanO n up ranks roots costs) (fun _ h => h) ?_ rfl ⟨trivial, ⟨.inl rfl, rfl, .inl rfl, rfl, .inl rfl, rfl, trivial⟩, rfl, rfl⟩))
  all_goals (refine congrArg intSV ?_; rw [hfar])
  · simp_all
  · have h1 : up.getD p.link.toNat false = false := by rw [getD_at (by omega)]; assumption
    rw [h1]; simp
  · have h1 : up.getD p.link.toNat false = true := by rw [getD_at (by omega)]; assumption
    rw [h1, nth_eq (by omega)]
    simp_all
def reachP (n : Net) (up : List Bool) (x : Item) (q : List Item) (i : Nat) : List Item :=
  if (n.ports.getD i default).dev = x.dev ∧ 0 ≤ farI n up i then pushH q ⟨x.root, x.cost + (nth n.ports (farI n up i)).cost, (nth n.ports (farI n up i)).dev⟩ else q
def reach1 (n : Net) (up : List Bool) (s : List Item × List Int × List Int) : List Item × List Int × List Int :=
  let x := (popL s.1).getLast?.getD default
  let q := (popL s.1).dropLast
  if 0 ≤ nth s.2.1 x.dev then (q, s.2) else ((List.range n.ports.length).foldl (reachP n up x) q, s.2.1.set x.dev.toNat x.root, s.2.2.set x.dev.toNat x.cost)
def reachF (n : Net) (up : List Bool) : Nat → List Item × List Int × List Int → List Item × List Int × List Int
  | 0, s => s
  | f + 1, s => if s.1 = [] then s else reachF n up f (reach1 n up s)
end Go.Sy.YtmelpejjondedaaGreat

namespace Go.Sy.YtmelpejjondedaaGreat
theorem swapL_perm (q : List Item) (i j : Nat) (hi : i < q.length) (hj : j < q.length) : (swapL q i j).Perm q := by
  rw [swapL, getD_at hi, getD_at hj]
  exact List.set_set_perm hi hj
theorem upF_perm : ∀ (f : Nat) (q : List Item) (j : Nat), j < q.length → (upF f q j).Perm q
  | 0, _, _, _ => .refl _
  | f + 1, q, j, hj => by
    rw [upF]
    split
    · exact .refl _
    · split
      · exact (upF_perm f _ _ (by rw [swapL_length]; omega)).trans (swapL_perm q _ _ (by omega) hj)
      · exact .refl _
theorem downF_perm : ∀ (f : Nat) (q : List Item) (i n : Nat), i < q.length → n ≤ q.length → (downF f q i n).1.Perm q
  | 0, _, _, _, _, _ => .refl _
  | f + 1, q, i, n, hi, hn => by
    rw [downF]
    split
    · rename_i h
      have hc := childN_lt q i n h
      split
      · exact (downF_perm f _ _ n (by rw [swapL_length]; omega) (by rw [swapL_length]; exact hn)).trans (swapL_perm q _ _ hi (by omega))
      · exact .refl _
    · exact .refl _
theorem pushH_perm (q : List Item) (x : Item) : (pushH q x).Perm (x :: q) :=
  (upF_perm _ _ _ (by simp)).trans (List.perm_append_comm (l₁ := q) (l₂ := [x]))
theorem pushH_length (q : List Item) (x : Item) : (pushH q x).length = q.length + 1 := by rw [pushH, upF_length]; simp
theorem popL_perm (q : List Item) (hq : q ≠ []) : (popL q).Perm q := by
  have h0 : 0 < q.length := List.length_pos_iff.2 hq
  exact (downF_perm _ _ _ _ (by rw [swapL_length]; exact h0) (by rw [swapL_length]; omega)).trans (swapL_perm q _ _ h0 (by omega))
def HeapN (q : List Item) (n : Nat) : Prop := ∀ c, 0 < c → c < n → c < q.length → itemLt (q.getD c default) (q.getD ((c - 1) / 2) default) = false
theorem item_trans {x y z : Item} (h1 : itemLt y x = false) (h2 : itemLt z y = false) : itemLt z x = false := by
  unfold itemLt at *
  grind
theorem heap_first {q : List Item} {n : Nat} (h : HeapN q n) (hn : n ≤ q.length) : ∀ c, c < n → itemLt (q.getD c default) (q.getD 0 default) = false := by
  intro c
  induction c using Nat.strongRecOn with
  | ind c ih =>
    intro hc
    rcases Nat.eq_zero_or_pos c with h0 | h0
    · subst h0; unfold itemLt; grind
    · have h1 := h c h0 hc (by omega)
      have h2 := ih ((c - 1) / 2) (by omega) (by omega)
      exact item_trans h2 h1
end Go.Sy.YtmelpejjondedaaGreat

namespace Go.Sy.YtmelpejjondedaaGreat
theorem swap_get (q : List Item) (i j c : Nat) (hi : i < q.length) (hj : j < q.length) : (swapL q i j).getD c default = if c = j then q.getD i default else if c = i then q.getD j default else q.getD c default := by
  rw [swapL]
  simp only [List.getD_eq_getElem?_getD, List.getElem?_set, List.length_set]
  by_cases h1 : c = j
  · subst h1; simp [hj]
  · rw [if_neg (Ne.symm h1), if_neg h1]
    by_cases h2 : c = i
    · subst h2; simp [hi]
    · rw [if_neg (Ne.symm h2), if_neg h2]
theorem item_asymm {x y : Item} (h : itemLt x y = true) : itemLt y x = false := by
  unfold itemLt at *
  grind
structure UpInv (q : List Item) (j n : Nat) : Prop where
  heap : ∀ c, 0 < c → c < n → c ≠ j → itemLt (q.getD c default) (q.getD ((c - 1) / 2) default) = false
  over : ∀ c, 0 < c → c < n → (c - 1) / 2 = j → 0 < j → itemLt (q.getD c default) (q.getD ((j - 1) / 2) default) = false
theorem upF_heap (n : Nat) : ∀ (f : Nat) (q : List Item) (j : Nat), j ≤ f → j < n → n ≤ q.length → UpInv q j n → HeapN (upF f q j) n
  | 0, q, j, hf, hj, hn, hI => by
    have : j = 0 := by omega
    subst this
    exact fun c h0 hc _ => hI.heap c h0 hc (by omega)
  | f + 1, q, j, hf, hj, hn, hI => by
    rw [upF]
    split
    · rename_i h0
      subst h0
      exact fun c h0 hc _ => hI.heap c h0 hc (by omega)
    · rename_i h0
      split
      · rename_i hlt
        have hp : (j - 1) / 2 < j := by omega
        refine upF_heap n f _ _ (by omega) (by omega) (by rw [swapL_length]; exact hn) ⟨fun c hc0 hcn hcp => ?_, fun c hc0 hcn hpar hp0 => ?_⟩
        · rw [swap_get _ _ _ _ (by omega) (by omega), swap_get _ _ _ _ (by omega) (by omega)]
          by_cases hcj : c = j
          · subst hcj
            rw [if_pos rfl, if_neg (by omega), if_pos rfl]
            exact item_asymm hlt
          · rw [if_neg hcj, if_neg hcp]
            by_cases hpj : (c - 1) / 2 = j
            · rw [if_pos hpj]
              exact hI.over c hc0 hcn hpj (by omega)
            · rw [if_neg hpj]
              by_cases hpp : (c - 1) / 2 = (j - 1) / 2
              · rw [if_pos hpp]
                have := hI.heap c hc0 hcn hcj
                rw [hpp] at this
                exact item_trans (item_asymm hlt) this
              · rw [if_neg hpp]
                exact hI.heap c hc0 hcn hcj
        · rw [swap_get _ _ _ _ (by omega) (by omega), swap_get _ _ _ _ (by omega) (by omega)]
          have hpI := hI.heap ((j - 1) / 2) hp0 (by omega) (by omega)
          rw [if_neg (show ((j - 1) / 2 - 1) / 2 ≠ j by omega), if_neg (show ((j - 1) / 2 - 1) / 2 ≠ (j - 1) / 2 by omega)]
          by_cases hcj : c = j
          · rw [if_pos hcj]; exact hpI
          · rw [if_neg hcj, if_neg (by omega)]
            have := hI.heap c hc0 hcn hcj
            rw [hpar] at this
            exact item_trans hpI this
      · rename_i hlt
        intro c hc0 hcn _
        by_cases hcj : c = j
        · subst hcj; simpa using hlt
        · exact hI.heap c hc0 hcn hcj
theorem getD_append_left {q r : List Item} {c : Nat} (h : c < q.length) : (q ++ r).getD c default = q.getD c default := by
  simp [List.getD_eq_getElem?_getD, List.getElem?_append_left h]
theorem pushH_heap (q : List Item) (x : Item) (h : HeapN q q.length) : HeapN (pushH q x) (pushH q x).length := by
  rw [pushH_length]
  refine upF_heap (q.length + 1) _ _ _ (Nat.le_refl _) (by omega) (by simp) ⟨fun c hc0 hcn hcj => ?_, fun c hc0 hcn hpar hp0 => by omega⟩
  rw [getD_append_left (by omega), getD_append_left (by omega)]
  exact h c hc0 (by omega) (by omega)
structure DownInv (q : List Item) (i n : Nat) : Prop where
  heap : ∀ c, 0 < c → c < n → (c - 1) / 2 ≠ i → itemLt (q.getD c default) (q.getD ((c - 1) / 2) default) = false
  over : ∀ c, 0 < c → c < n → (c - 1) / 2 = i → 0 < i → itemLt (q.getD c default) (q.getD ((i - 1) / 2) default) = false
theorem childN_le (q : List Item) (i n c : Nat) (_h : 2 * i + 1 < n) (hc0 : 0 < c) (hc : c < n) (hp : (c - 1) / 2 = i) : itemLt (q.getD c default) (q.getD (childN q i n) default) = false := by
  have hcc : c = 2 * i + 1 ∨ c = 2 * i + 2 := by omega
  unfold childN
  split
  · rename_i hh
    rcases hcc with rfl | rfl
    · exact item_asymm hh.2
    · unfold itemLt; grind
  · rename_i hh
    rcases hcc with rfl | rfl
    · unfold itemLt; grind
    · cases hlt : itemLt (q.getD (2 * i + 2) default) (q.getD (2 * i + 1) default) with
      | false => rfl
      | true => exact absurd ⟨hc, hlt⟩ hh
theorem downF_heap (n : Nat) : ∀ (f : Nat) (q : List Item) (i : Nat), n ≤ f + i → i < q.length → n ≤ q.length → DownInv q i n → HeapN (downF f q i n).1 n
  | 0, q, i, hf, hi, hn, hI => fun c hc0 hc _ => hI.heap c hc0 hc (by omega)
  | f + 1, q, i, hf, hi, hn, hI => by
    rw [downF]
    split
    · rename_i h
      have hcl := childN_lt q i n h
      have hpar : (childN q i n - 1) / 2 = i := by unfold childN; split <;> omega
      have hle := fun c => childN_le q i n c h
      generalize childN q i n = k at *
      split
      · rename_i hlt
        refine downF_heap n f _ _ (by omega) (by rw [swapL_length]; omega) (by rw [swapL_length]; exact hn) ⟨fun c hc0 hcn hck => ?_, fun c hc0 hcn hcp hk0 => ?_⟩
        · rw [swap_get _ _ _ _ hi (by omega), swap_get _ _ _ _ hi (by omega), if_neg hck]
          by_cases hc1 : c = k
          · subst hc1
            rw [if_pos rfl, if_pos hpar]
            exact item_asymm hlt
          · rw [if_neg hc1]
            by_cases hc2 : c = i
            · subst hc2
              rw [if_pos rfl, if_neg (by omega)]
              exact hI.over k (by omega) hcl.1 hpar hc0
            · rw [if_neg hc2]
              by_cases hc3 : (c - 1) / 2 = i
              · rw [if_pos hc3]; exact hle c hc0 hcn hc3
              · rw [if_neg hc3]; exact hI.heap c hc0 hcn hc3
        · rw [swap_get _ _ _ _ hi (by omega), swap_get _ _ _ _ hi (by omega)]
          rw [if_neg (by omega), if_neg (by omega), hpar, if_neg (by omega), if_pos rfl]
          have := hI.heap c hc0 hcn (by omega)
          rwa [hcp] at this
      · rename_i hlt
        intro c hc0 hcn _
        by_cases hc3 : (c - 1) / 2 = i
        · rw [hc3]
          exact item_trans (by simpa using hlt) (hle c hc0 hcn hc3)
        · exact hI.heap c hc0 hcn hc3
    · exact fun c hc0 hc _ => hI.heap c hc0 hc (by omega)
end Go.Sy.YtmelpejjondedaaGreat

namespace Go.Sy.YtmelpejjondedaaGreat
theorem downF_rest (n : Nat) : ∀ (f : Nat) (q : List Item) (i c : Nat), i < n → n ≤ q.length → n ≤ c → (downF f q i n).1.getD c default = q.getD c default
  | 0, _, _, _, _, _, _ => rfl
  | f + 1, q, i, c, hi, hn, hc => by
    rw [downF]
    split
    · rename_i h
      have hcl := childN_lt q i n h
      split
      · rw [downF_rest n f _ _ c (by omega) (by rw [swapL_length]; exact hn) hc, swap_get _ _ _ _ (by omega) (by omega), if_neg (by omega), if_neg (by omega)]
      · rfl
    · rfl
theorem pop_last (q : List Item) (hq : q ≠ []) : (popL q).getLast (popL_ne hq) = q.getD 0 default := by
  have h0 : 0 < q.length := List.length_pos_iff.2 hq
  rw [List.getLast_eq_getElem, ← getD_at (show (popL q).length - 1 < (popL q).length by rw [popL_length]; omega), popL_length]
  by_cases h1 : q.length = 1
  · have : popL q = q := by
      obtain ⟨x, rfl⟩ := List.length_eq_one_iff.1 h1
      rfl
    rw [this, h1]
  · rw [popL, downF_rest _ _ _ _ _ (by omega) (by rw [swapL_length]; omega) (Nat.le_refl _), swap_get _ _ _ _ h0 (by omega), if_pos rfl]
theorem pop_split (q : List Item) (hq : q ≠ []) : (popL q).dropLast ++ [q.getD 0 default] = popL q := by
  rw [← pop_last q hq]; exact List.dropLast_concat_getLast (popL_ne hq)
theorem pop_rest (q : List Item) (hq : q ≠ []) : (q.getD 0 default :: (popL q).dropLast).Perm q :=
  ((List.perm_append_comm (l₁ := [q.getD 0 default]) (l₂ := (popL q).dropLast)).trans (by rw [pop_split q hq])).trans (popL_perm q hq)
theorem pop_heap (q : List Item) (hq : q ≠ []) (h : HeapN q q.length) : HeapN (popL q).dropLast (popL q).dropLast.length := by
  have h0 : 0 < q.length := List.length_pos_iff.2 hq
  have hd : (popL q).dropLast.length = q.length - 1 := by rw [List.length_dropLast, popL_length]
  have hh : HeapN (popL q) (q.length - 1) := by
    rw [popL]
    refine downF_heap (q.length - 1) _ _ _ (by omega) (by rw [swapL_length]; exact h0) (by rw [swapL_length]; omega) ⟨fun c hc0 hcn hp => ?_, fun c hc0 hcn hp h => by omega⟩
    rw [swap_get _ _ _ _ h0 (by omega), swap_get _ _ _ _ h0 (by omega), if_neg (by omega), if_neg (by omega), if_neg (by omega), if_neg hp]
    exact h c hc0 (by omega) (by omega)
  intro c hc0 hcn _
  rw [hd] at hcn
  have hl := popL_length q
  have e : ∀ k, k < q.length - 1 → (popL q).dropLast.getD k default = (popL q).getD k default := fun k hk => by
    rw [getD_at (show k < (popL q).dropLast.length by omega), getD_at (show k < (popL q).length by omega), List.getElem_dropLast]
  rw [e c hcn, e _ (by omega)]
  exact hh c hc0 hcn (by omega)
theorem pop_least (q : List Item) (h : HeapN q q.length) : ∀ x ∈ q, itemLt x (q.getD 0 default) = false := fun x hx => by
  obtain ⟨c, hc, rfl⟩ := List.getElem_of_mem hx
  have := heap_first h (Nat.le_refl _) c hc
  rwa [getD_at hc] at this
end Go.Sy.YtmelpejjondedaaGreat

namespace Go.Sy.YtmelpejjondedaaGreat
def startQ (ranks : List Int) (j : Nat) : List Item := (List.range j).foldl (fun q (i : Nat) => pushH q ⟨ranks.getD i 0, 0, i⟩) []
theorem startQ_succ (ranks : List Int) (j : Nat) : startQ ranks (j + 1) = pushH (startQ ranks j) ⟨ranks.getD j 0, 0, j⟩ := by
  rw [startQ, List.range_succ, List.foldl_append]; rfl
theorem startQ_length (ranks : List Int) : ∀ j, (startQ ranks j).length = j
  | 0 => rfl
  | j + 1 => by rw [startQ_succ, pushH_length, startQ_length ranks j]
def missN (roots : List Int) : Nat := roots.countP (fun r => decide (r < 0))
def reachM (s : List Item × List Int × List Int) : Nat := 41 * missN s.2.1 + s.1.length
structure ReachInv (n : Net) (s : List Item × List Int × List Int) : Prop where
  rootsL : s.2.1.length = n.devices.length
  costsL : s.2.2.length = n.devices.length
  items : ∀ x ∈ s.1, 0 ≤ x.dev ∧ x.dev < n.devices.length ∧ 0 ≤ x.root ∧ 0 ≤ x.cost ∧ x.cost + 65535 * missN s.2.1 ≤ 65535 * n.devices.length
  few : s.1.length + 40 * missN s.2.1 ≤ 1000
theorem missN_le (roots : List Int) : missN roots ≤ roots.length := List.countP_le_length
theorem missN_set {roots : List Int} {i : Nat} {v : Int} (h : i < roots.length) (h0 : roots[i] < 0) (hv : 0 ≤ v) : missN (roots.set i v) + 1 = missN roots := by
  have h1 : 0 < roots.countP (fun r => decide (r < 0)) := List.countP_pos_iff.2 ⟨roots[i], List.getElem_mem h, by simpa using h0⟩
  have hv' : ¬ v < 0 := by omega
  rw [missN, missN, List.countP_set h]
  simp only [h0, hv', decide_true, decide_false, if_true, Bool.false_eq_true, if_false]
  omega
theorem reachP_items (n : Net) (up : List Bool) (x : Item) (hr : netRightB n = true) (hcost : costsB n = true) {m : Nat} (hx : 0 ≤ x.root ∧ 0 ≤ x.cost ∧ x.cost + 65535 * (m + 1) ≤ 65535 * n.devices.length) (q : List Item)
    (hq : ∀ y ∈ q, 0 ≤ y.dev ∧ y.dev < n.devices.length ∧ 0 ≤ y.root ∧ 0 ≤ y.cost ∧ y.cost + 65535 * m ≤ 65535 * n.devices.length) (i : Nat) (hi : i < n.ports.length) :
    (∀ y ∈ reachP n up x q i, 0 ≤ y.dev ∧ y.dev < n.devices.length ∧ 0 ≤ y.root ∧ 0 ≤ y.cost ∧ y.cost + 65535 * m ≤ 65535 * n.devices.length) ∧ (reachP n up x q i).length ≤ q.length + 1 := by
  rw [reachP]
  split
  · rename_i h
    have hlt := far_lt hr hi h.2
    have hk : (farI n up i).toNat < n.ports.length := by omega
    have hd := port_dev hr hk
    have hpc : 1 ≤ n.ports[(farI n up i).toNat].cost ∧ n.ports[(farI n up i).toNat].cost ≤ 65535 := by
      simp only [costsB, Bool.not_eq_true', List.any_eq_false] at hcost
      have := hcost _ (List.getElem_mem hk)
      simp only [badCost, Bool.or_eq_true, decide_eq_true_eq, not_or] at this
      omega
    have e : nth n.ports (farI n up i) = n.ports[(farI n up i).toNat] := nth_eq (l := n.ports) (i := farI n up i) (by omega)
    rw [e]
    refine ⟨fun y hy => ?_, by rw [pushH_length]; omega⟩
    rcases List.mem_cons.1 ((pushH_perm q _).mem_iff.1 hy) with rfl | hy
    · simp only
      omega
    · exact hq y hy
  · exact ⟨hq, by omega⟩
theorem reachP_all (n : Net) (up : List Bool) (x : Item) (hr : netRightB n = true) (hcost : costsB n = true) {m : Nat} (hx : 0 ≤ x.root ∧ 0 ≤ x.cost ∧ x.cost + 65535 * (m + 1) ≤ 65535 * n.devices.length) (q : List Item)
    (hq : ∀ y ∈ q, 0 ≤ y.dev ∧ y.dev < n.devices.length ∧ 0 ≤ y.root ∧ 0 ≤ y.cost ∧ y.cost + 65535 * m ≤ 65535 * n.devices.length) : ∀ i, i ≤ n.ports.length →
    (∀ y ∈ (List.range i).foldl (reachP n up x) q, 0 ≤ y.dev ∧ y.dev < n.devices.length ∧ 0 ≤ y.root ∧ 0 ≤ y.cost ∧ y.cost + 65535 * m ≤ 65535 * n.devices.length) ∧ ((List.range i).foldl (reachP n up x) q).length ≤ q.length + i
  | 0, _ => ⟨hq, by simp⟩
  | i + 1, hi => by
    obtain ⟨h1, h2⟩ := reachP_all n up x hr hcost hx q hq i (by omega)
    rw [List.range_succ, List.foldl_append]
    obtain ⟨h3, h4⟩ := reachP_items n up x hr hcost hx _ h1 i (by omega)
    exact ⟨h3, by simp only [List.foldl_cons, List.foldl_nil]; omega⟩
theorem last_mem {q : List Item} (hq : q ≠ []) : (popL q).getLast?.getD default = (popL q).getLast (popL_ne hq) := by
  rw [List.getLast?_eq_some_getLast (popL_ne hq)]; rfl
theorem reach1_inv (n : Net) (up : List Bool) (hr : netRightB n = true) (hcost : costsB n = true) (s : List Item × List Int × List Int) (hI : ReachInv n s) (hne : s.1 ≠ []) : ReachInv n (reach1 n up s) ∧ reachM (reach1 n up s) < reachM s := by
  have hf := right_few hr
  have hx := hI.items _ ((popL_perm s.1 hne).mem_iff.1 (List.getLast_mem (popL_ne hne)))
  have hd : ∀ y ∈ (popL s.1).dropLast, y ∈ s.1 := fun y hy => (popL_perm s.1 hne).mem_iff.1 ((List.dropLast_sublist _).subset hy)
  have h0 : 0 < s.1.length := List.length_pos_iff.2 hne
  have hdl : (popL s.1).dropLast.length + 1 = s.1.length := by rw [List.length_dropLast, popL_length]; omega
  have hfew := hI.few
  rw [reach1, last_mem hne]
  generalize (popL s.1).getLast (popL_ne hne) = x at *
  split
  · exact ⟨⟨hI.rootsL, hI.costsL, fun y hy => hI.items y (hd y hy), by simp only; omega⟩, by unfold reachM; simp only; omega⟩
  · rename_i hneg
    have hk : x.dev.toNat < s.2.1.length := by rw [hI.rootsL]; omega
    rw [nth_eq (l := s.2.1) (i := x.dev) (by rw [hI.rootsL]; omega)] at hneg
    have hm := missN_set hk (by omega) hx.2.2.1
    obtain ⟨h1, h2⟩ := reachP_all n up x hr hcost (m := missN (s.2.1.set x.dev.toNat x.root)) ⟨hx.2.2.1, hx.2.2.2.1, by have := hx.2.2.2.2; omega⟩ (popL s.1).dropLast (fun y hy => by have := hI.items y (hd y hy); omega) n.ports.length (Nat.le_refl _)
    exact ⟨⟨by simp only [List.length_set]; exact hI.rootsL, by simp only [List.length_set]; exact hI.costsL, h1, by simp only; omega⟩, by unfold reachM; simp only; omega⟩
theorem reachF_fuel (n : Net) (up : List Bool) (hr : netRightB n = true) (hcost : costsB n = true) : ∀ (f g : Nat) (s : List Item × List Int × List Int), ReachInv n s → reachM s ≤ f → reachM s ≤ g → reachF n up f s = reachF n up g s
  | 0, 0, _, _, _, _ => rfl
  | 0, g + 1, s, _, h, _ => by
    have : s.1 = [] := List.eq_nil_of_length_eq_zero (by unfold reachM at h; omega)
    rw [reachF, reachF, if_pos this]
  | f + 1, 0, s, _, _, h => by
    have : s.1 = [] := List.eq_nil_of_length_eq_zero (by unfold reachM at h; omega)
    rw [reachF, reachF, if_pos this]
  | f + 1, g + 1, s, hI, h1, h2 => by
    rw [reachF, reachF]
    split
    · rfl
    · rename_i hne
      obtain ⟨h3, h4⟩ := reach1_inv n up hr hcost s hI hne
      exact reachF_fuel n up hr hcost f g _ h3 (by omega) (by omega)
def reachD (n : Net) (up : List Bool) (s : List Item × List Int × List Int) : List Item × List Int × List Int := reachF n up (reachM s) s
theorem reachD_nil (n : Net) (up : List Bool) (s : List Item × List Int × List Int) (h : s.1 = []) : reachD n up s = s := by
  rw [reachD]
  cases reachM s with
  | zero => rfl
  | succ m => rw [reachF, if_pos h]
theorem reachD_step (n : Net) (up : List Bool) (hr : netRightB n = true) (hcost : costsB n = true) (s : List Item × List Int × List Int) (hI : ReachInv n s) (hne : s.1 ≠ []) : reachD n up s = reachD n up (reach1 n up s) := by
  obtain ⟨h3, h4⟩ := reach1_inv n up hr hcost s hI hne
  rw [reachD, reachD]
  obtain ⟨m, hm⟩ : ∃ m, reachM s = m + 1 := ⟨reachM s - 1, by omega⟩
  rw [hm, reachF, if_neg hne]
  exact reachF_fuel n up hr hcost _ _ _ h3 (by omega) (Nat.le_refl _)
theorem start_items (ranks : List Int) (m : Nat) (hrr : ∀ r ∈ ranks, 0 ≤ r) : ∀ j, j ≤ ranks.length → ∀ y ∈ startQ ranks j, 0 ≤ y.dev ∧ y.dev < m + ranks.length ∧ 0 ≤ y.root ∧ y.cost = 0
  | 0, _, y, hy => by simp [startQ] at hy
  | j + 1, hj, y, hy => by
    rw [startQ_succ] at hy
    rcases List.mem_cons.1 ((pushH_perm _ _).mem_iff.1 hy) with rfl | hy
    · have h1 := hrr (ranks[j]'(by omega)) (List.getElem_mem _)
      have h2 : (0 : Int) ≤ (j : Int) ∧ (j : Int) < m + ranks.length := by omega
      exact ⟨h2.1, h2.2, by rw [getD_at (show j < ranks.length by omega)]; exact h1, rfl⟩
    · exact start_items ranks m hrr j (by omega) y hy
theorem start_inv (n : Net) (ranks roots costs : List Int) (hr : netRightB n = true) (hrk : ranks.length = n.devices.length) (hro : roots.length = n.devices.length) (hc : costs.length = n.devices.length) (hrr : ∀ r ∈ ranks, 0 ≤ r) : ReachInv n (startQ ranks ranks.length, roots, costs) := by
  have hf := right_few hr
  have hm := missN_le roots
  refine ⟨hro, hc, fun y hy => ?_, by simp only [startQ_length]; omega⟩
  have := start_items ranks 0 hrr _ (Nat.le_refl _) y hy
  simp only
  omega
end Go.Sy.YtmelpejjondedaaGreat

namespace Go.Sy.YtmelpejjondedaaGreat
def Le2 (r c r' c' : Int) : Prop := r < r' ∨ (r = r' ∧ c ≤ c')
theorem le2_of_lt {x y : Item} (h : itemLt y x = false) : Le2 x.root x.cost y.root y.cost := by
  simp only [itemLt, Bool.or_eq_false_iff, decide_eq_false_iff_not, Bool.and_eq_false_iff, beq_eq_false_iff_ne] at h
  unfold Le2
  omega
theorem le2_trans {a b c d e f : Int} (h1 : Le2 a b c d) (h2 : Le2 c d e f) : Le2 a b e f := by
  unfold Le2 at *
  omega
theorem le2_more {a b c d m : Int} (h1 : Le2 a b c d) (hm : 0 ≤ m) : Le2 a b c (d + m) := by
  unfold Le2 at *
  omega
def Hop (n : Net) (up : List Bool) (i j : Nat) : Prop := i < n.ports.length ∧ farI n up i = j
theorem hop_lt {n : Net} {up : List Bool} (hr : netRightB n = true) {i j : Nat} (h : Hop n up i j) : j < n.ports.length := by
  have := far_lt (up := up) hr h.1 (by rw [h.2]; omega)
  rw [h.2] at this
  omega
theorem hop_facts {n : Net} {up : List Bool} (hr : netRightB n = true) {i j : Nat} (h : Hop n up i j) :
    ∃ k : Nat, k < n.links.length ∧ (nth n.ports i).link = k ∧ (nth n.ports j).link = k ∧ up.getD k false = true ∧ (((nth n.links k).a = i ∧ (nth n.links k).b = j) ∨ ((nth n.links k).a = j ∧ (nth n.links k).b = i)) ∧ pdev n i ≠ pdev n j := by
  have hj := hop_lt hr h
  obtain ⟨hi, hf⟩ := h
  have hp := right_port hr hi
  have hpl := port_link hr hi
  simp only [portB, Bool.and_eq_true, Bool.or_eq_true, beq_iff_eq] at hp
  have hp := hp.2
  have e : nth n.ports i = n.ports[i] := nth_eq (l := n.ports) (i := (i : Int)) (by simpa using hi)
  unfold farI at hf
  rw [getD_at hi] at hf
  simp only at hf
  split at hf
  · omega
  · rename_i hc
    simp only [Bool.or_eq_true, decide_eq_true_eq, not_or, Bool.not_eq_true', Bool.not_eq_false] at hc
    rcases hp with hp | hp
    · omega
    · have hl : n.ports[i].link.toNat < n.links.length := by omega
      have hlk := right_link hr hl
      have he := link_ends hr hl
      have ek : ((n.ports[i].link.toNat : Nat) : Int) = n.ports[i].link := by omega
      refine ⟨n.ports[i].link.toNat, hl, by rw [e]; omega, ?_⟩
      simp only [linkB, Bool.and_eq_true, beq_iff_eq, bne_iff_ne] at hlk
      obtain ⟨⟨⟨_, hne⟩, h1⟩, h2⟩ := hlk
      rw [ek]
      rw [nth_eq (l := n.links) (i := n.ports[i].link) (by omega)] at hf hp ⊢
      generalize n.links[n.ports[i].link.toNat] = l at *
      rcases hp.2 with ha | hb
      · have hb : l.b = j := by omega
        rw [ha, hb] at hne
        rw [hb] at h2
        exact ⟨by omega, by simpa using hc.2, .inl ⟨ha, hb⟩, hne⟩
      · have ha : l.a = j := by omega
        rw [ha, hb] at hne
        rw [ha] at h1
        exact ⟨by omega, by simpa using hc.2, .inr ⟨ha, hb⟩, fun h => hne h.symm⟩
theorem hop_back {n : Net} {up : List Bool} (hr : netRightB n = true) {i j : Nat} (h : Hop n up i j) : Hop n up j i := by
  have hj := hop_lt hr h
  obtain ⟨k, hk, _, h2, h3, h4, _⟩ := hop_facts hr h
  refine ⟨hj, ?_⟩
  unfold farI
  have e : n.ports.getD j default = nth n.ports j := rfl
  rw [e]
  simp only [h2, Int.toNat_natCast, h3]
  rw [if_neg (by simp)]
  omega
theorem pdev_lt {n : Net} (hr : netRightB n = true) {i : Nat} (hi : i < n.ports.length) : 0 ≤ pdev n i ∧ pdev n i < n.devices.length := by
  rw [pdev, nth_eq (l := n.ports) (i := (i : Int)) (by simpa using hi)]
  exact port_dev hr hi
def Der (n : Net) (up : List Bool) (K R C : Int → Int) (r c d : Int) : Prop :=
  (r = K d ∧ c = 0) ∨ ∃ i j : Nat, Hop n up i j ∧ pdev n i = d ∧ 0 ≤ R (pdev n j) ∧ r = R (pdev n j) ∧ c = C (pdev n j) + pcost n i
structure Dij (n : Net) (up : List Bool) (K : Int → Int) (q : List Item) (R C : Int → Int) : Prop where
  heap : HeapN q q.length
  items : ∀ x ∈ q, Der n up K R C x.root x.cost x.dev
  done : ∀ d : Int, 0 ≤ d → d < n.devices.length → 0 ≤ R d → Der n up K R C (R d) (C d) d
  own : ∀ d : Int, 0 ≤ d → d < n.devices.length → R d < 0 → ⟨K d, 0, d⟩ ∈ q
  push : ∀ i j : Nat, Hop n up i j → R (pdev n i) < 0 → 0 ≤ R (pdev n j) → ⟨R (pdev n j), C (pdev n j) + pcost n i, pdev n i⟩ ∈ q
  low : ∀ d : Int, 0 ≤ d → d < n.devices.length → 0 ≤ R d → ∀ x ∈ q, Le2 (R d) (C d) x.root x.cost
  self : ∀ d : Int, 0 ≤ d → d < n.devices.length → 0 ≤ R d → Le2 (R d) (C d) (K d) 0
  tri : ∀ i j : Nat, Hop n up i j → 0 ≤ R (pdev n i) → 0 ≤ R (pdev n j) → Le2 (R (pdev n i)) (C (pdev n i)) (R (pdev n j)) (C (pdev n j) + pcost n i)
theorem reachP_mem (n : Net) (up : List Bool) (x : Item) (q : List Item) (y : Item) : ∀ m, y ∈ (List.range m).foldl (reachP n up x) q ↔ y ∈ q ∨ ∃ i, i < m ∧ pdev n i = x.dev ∧ 0 ≤ farI n up i ∧ y = ⟨x.root, x.cost + (nth n.ports (farI n up i)).cost, (nth n.ports (farI n up i)).dev⟩
  | 0 => by simp
  | m + 1 => by
    rw [List.range_succ, List.foldl_append]
    simp only [List.foldl_cons, List.foldl_nil]
    rw [reachP]
    have ih := reachP_mem n up x q y m
    have e : (n.ports.getD m default).dev = pdev n m := rfl
    rw [e]
    split
    · rename_i h
      rw [(pushH_perm _ _).mem_iff, List.mem_cons, ih]
      constructor
      · rintro (h1 | h1 | ⟨i, h1, h2⟩)
        · exact .inr ⟨m, by omega, h.1, h.2, h1⟩
        · exact .inl h1
        · exact .inr ⟨i, by omega, h2⟩
      · rintro (h1 | ⟨i, h1, h2, h3, h4⟩)
        · exact .inr (.inl h1)
        · by_cases hm : i = m
          · subst hm; exact .inl h4
          · exact .inr (.inr ⟨i, by omega, h2, h3, h4⟩)
    · rename_i h
      rw [ih]
      constructor
      · rintro (h1 | ⟨i, h1, h2⟩)
        · exact .inl h1
        · exact .inr ⟨i, by omega, h2⟩
      · rintro (h1 | ⟨i, h1, h2, h3, h4⟩)
        · exact .inl h1
        · by_cases hm : i = m
          · subst hm; exact absurd ⟨h2, h3⟩ h
          · exact .inr ⟨i, by omega, h2, h3, h4⟩
theorem reachP_heap (n : Net) (up : List Bool) (x : Item) (q : List Item) (h : HeapN q q.length) : ∀ m, HeapN ((List.range m).foldl (reachP n up x) q) ((List.range m).foldl (reachP n up x) q).length
  | 0 => h
  | m + 1 => by
    rw [List.range_succ, List.foldl_append]
    simp only [List.foldl_cons, List.foldl_nil]
    have ih := reachP_heap n up x q h m
    rw [reachP]
    split
    · exact pushH_heap _ _ ih
    · exact ih
theorem der_mono {n : Net} {up : List Bool} {K R C R' C' : Int → Int} {r c d : Int} (h : Der n up K R C r c d) (hs : ∀ e, 0 ≤ R e → R' e = R e ∧ C' e = C e) : Der n up K R' C' r c d := by
  rcases h with h | ⟨i, j, h1, h2, h3, h4, h5⟩
  · exact .inl h
  · obtain ⟨e1, e2⟩ := hs _ h3
    exact .inr ⟨i, j, h1, h2, by rw [e1]; exact h3, by rw [e1]; exact h4, by rw [e2]; exact h5⟩
theorem dij_drop {n : Net} {up : List Bool} {K R C : Int → Int} {q q' : List Item} {x : Item} (h : Dij n up K q R C) (hp : (x :: q').Perm q) (hh : HeapN q' q'.length) (hx : 0 ≤ R x.dev) : Dij n up K q' R C := by
  have hm : ∀ y, y ∈ q ↔ y = x ∨ y ∈ q' := fun y => by rw [← hp.mem_iff, List.mem_cons]
  refine ⟨hh, fun y hy => h.items y ((hm y).2 (.inr hy)), h.done, fun d h0 h1 h2 => ?_, fun i j hij h1 h2 => ?_, fun d h0 h1 h2 y hy => h.low d h0 h1 h2 y ((hm y).2 (.inr hy)), h.self, h.tri⟩
  · rcases (hm _).1 (h.own d h0 h1 h2) with e | e
    · rw [← e] at hx; simp only at hx; omega
    · exact e
  · rcases (hm _).1 (h.push i j hij h1 h2) with e | e
    · rw [← e] at hx; simp only at hx; omega
    · exact e
theorem dij_take {n : Net} {up : List Bool} {K R C R' C' : Int → Int} {q q' : List Item} {x : Item} (hr : netRightB n = true) (hcost : costsB n = true) (h : Dij n up K q R C) (hp : (x :: q').Perm q) (hh : HeapN q' q'.length)
    (hmin : ∀ y ∈ q, itemLt y x = false) (hx : R x.dev < 0) (hx0 : 0 ≤ x.root) (_hxd : 0 ≤ x.dev ∧ x.dev < n.devices.length)
    (hR : ∀ e, R' e = if e = x.dev then x.root else R e) (hC : ∀ e, C' e = if e = x.dev then x.cost else C e) :
    Dij n up K ((List.range n.ports.length).foldl (reachP n up x) q') R' C' := by
  have hm : ∀ y, y ∈ q ↔ y = x ∨ y ∈ q' := fun y => by rw [← hp.mem_iff, List.mem_cons]
  have hn := fun y => reachP_mem n up x q' y n.ports.length
  have hs : ∀ e, 0 ≤ R e → R' e = R e ∧ C' e = C e := fun e he => by
    have : e ≠ x.dev := fun h => by rw [h] at he; omega
    rw [hR, hC, if_neg this, if_neg this]
    exact ⟨rfl, rfl⟩
  have hRd : R' x.dev = x.root := by rw [hR, if_pos rfl]
  have hCd : C' x.dev = x.cost := by rw [hC, if_pos rfl]
  have hxq : x ∈ q := (hm x).2 (.inl rfl)
  have hle : ∀ y ∈ q, Le2 x.root x.cost y.root y.cost := fun y hy => le2_of_lt (hmin y hy)
  have hnew : ∀ y, y ∈ (List.range n.ports.length).foldl (reachP n up x) q' ↔ y ∈ q' ∨ ∃ i j : Nat, Hop n up i j ∧ pdev n i = x.dev ∧ y = ⟨x.root, x.cost + pcost n j, pdev n j⟩ := fun y => by
    rw [hn y]
    constructor
    · rintro (h1 | ⟨i, h1, h2, h3, h4⟩)
      · exact .inl h1
      · obtain ⟨j, hj⟩ : ∃ j : Nat, farI n up i = j := ⟨(farI n up i).toNat, by omega⟩
        rw [hj] at h4
        exact .inr ⟨i, j, ⟨h1, hj⟩, h2, h4⟩
    · rintro (h1 | ⟨i, j, h1, h2, h3⟩)
      · exact .inl h1
      · refine .inr ⟨i, h1.1, h2, by rw [h1.2]; omega, ?_⟩
        rw [h1.2]
        exact h3
  refine ⟨reachP_heap n up x q' hh _, fun y hy => ?_, fun d h0 h1 h2 => ?_, fun d h0 h1 h2 => ?_, fun i j hij h1 h2 => ?_, fun d h0 h1 h2 y hy => ?_, fun d h0 h1 h2 => ?_, fun i j hij h1 h2 => ?_⟩
  · rcases (hnew y).1 hy with hy | ⟨i, j, h1, h2, rfl⟩
    · exact der_mono (h.items y ((hm y).2 (.inr hy))) hs
    · exact .inr ⟨j, i, hop_back hr h1, rfl, by rw [h2, hRd]; exact hx0, by rw [h2, hRd], by rw [h2, hCd]⟩
  · by_cases hd : d = x.dev
    · subst hd
      rw [hRd, hCd]
      exact der_mono (h.items x hxq) hs
    · rw [hR, if_neg hd] at h2
      obtain ⟨e1, e2⟩ := hs d h2
      rw [e1, e2]
      exact der_mono (h.done d h0 h1 h2) hs
  · have hd : d ≠ x.dev := fun e => by rw [e, hRd] at h2; omega
    rw [hR, if_neg hd] at h2
    refine (hnew _).2 (.inl ?_)
    rcases (hm _).1 (h.own d h0 h1 h2) with e | e
    · exact absurd (congrArg Item.dev e) hd
    · exact e
  · have hd : pdev n i ≠ x.dev := fun e => by rw [e, hRd] at h1; omega
    rw [hR, if_neg hd] at h1
    by_cases hj : pdev n j = x.dev
    · rw [hj, hRd, hCd]
      exact (hnew _).2 (.inr ⟨j, i, hop_back hr hij, hj, rfl⟩)
    · rw [hR, if_neg hj] at h2
      obtain ⟨e1, e2⟩ := hs _ h2
      rw [e1, e2]
      refine (hnew _).2 (.inl ?_)
      rcases (hm _).1 (h.push i j hij h1 h2) with e | e
      · exact absurd (congrArg Item.dev e) hd
      · exact e
  · have hdx : Le2 (R' d) (C' d) x.root x.cost := by
      by_cases hd : d = x.dev
      · subst hd; rw [hRd, hCd]; exact .inr ⟨rfl, Int.le_refl _⟩
      · rw [hR, if_neg hd] at h2
        obtain ⟨e1, e2⟩ := hs d h2
        rw [e1, e2]
        exact h.low d h0 h1 h2 x hxq
    rcases (hnew y).1 hy with hy | ⟨i, j, h3, _, rfl⟩
    · exact le2_trans hdx (hle y ((hm y).2 (.inr hy)))
    · exact le2_more hdx (by have := pcost_le hcost (hop_lt hr h3); omega)
  · by_cases hd : d = x.dev
    · subst hd
      rw [hRd, hCd]
      exact hle _ (h.own _ h0 h1 hx)
    · rw [hR, if_neg hd] at h2
      obtain ⟨e1, e2⟩ := hs d h2
      rw [e1, e2]
      exact h.self d h0 h1 h2
  · have hj := hop_lt hr hij
    have hpc := pcost_le hcost hij.1
    have hne := (hop_facts hr hij).choose_spec.2.2.2.2.2
    by_cases hd : pdev n i = x.dev
    · rw [hd, hRd, hCd]
      have hjd : pdev n j ≠ x.dev := fun e => hne (by rw [hd, e])
      rw [hR, if_neg hjd] at h2
      obtain ⟨e1, e2⟩ := hs _ h2
      rw [e1, e2]
      exact hle _ (h.push i j hij (by rw [hd]; exact hx) h2)
    · rw [hR, if_neg hd] at h1
      obtain ⟨e1, e2⟩ := hs _ h1
      rw [e1, e2]
      by_cases hjd : pdev n j = x.dev
      · rw [hjd, hRd, hCd]
        have hdl := pdev_lt hr hij.1
        exact le2_more (h.low _ hdl.1 hdl.2 h1 x hxq) (by omega)
      · rw [hR, if_neg hjd] at h2
        obtain ⟨e3, e4⟩ := hs _ h2
        rw [e3, e4]
        exact h.tri i j hij h1 h2
end Go.Sy.YtmelpejjondedaaGreat

namespace Go.Sy.YtmelpejjondedaaGreat
def atI (l : List Int) (e : Int) : Int := if e < 0 then -1 else nth l e
theorem atI_eq {l : List Int} {e : Int} (h : 0 ≤ e) : atI l e = nth l e := by rw [atI, if_neg (by omega)]
theorem atI_set {l : List Int} {d v : Int} (h0 : 0 ≤ d) (h1 : d < l.length) (e : Int) : atI (l.set d.toNat v) e = if e = d then v else atI l e := by
  by_cases he : e < 0
  · rw [atI, if_pos he, if_neg (by omega), atI, if_pos he]
  · rw [atI, if_neg he, atI, if_neg he, nth, nth, List.getElem?_set]
    by_cases hd : e = d
    · subst hd
      rw [if_pos rfl, if_pos rfl, if_pos (by omega)]
      rfl
    · rw [if_neg (by omega), if_neg hd]
structure DijS (n : Net) (up : List Bool) (ranks : List Int) (s : List Item × List Int × List Int) : Prop where
  inv : ReachInv n s
  dij : Dij n up (atI ranks) s.1 (atI s.2.1) (atI s.2.2)
  bound : ∀ c ∈ s.2.2, 0 ≤ c ∧ c ≤ 1000000
theorem reach1_dij (n : Net) (up : List Bool) (ranks : List Int) (hr : netRightB n = true) (hcost : costsB n = true) (s : List Item × List Int × List Int) (hI : DijS n up ranks s) (hne : s.1 ≠ []) : DijS n up ranks (reach1 n up s) := by
  have hf := right_few hr
  have h1 := (reach1_inv n up hr hcost s hI.inv hne).1
  have hrest := pop_rest s.1 hne
  have hheap := pop_heap s.1 hne hI.dij.heap
  have hleast := pop_least s.1 hI.dij.heap
  have hx := hI.inv.items _ (hrest.mem_iff.1 (List.mem_cons_self ..))
  have hrl := hI.inv.rootsL
  have hcl := hI.inv.costsL
  have hd := hI.dij
  have hb := hI.bound
  rw [reach1, last_mem hne, pop_last s.1 hne] at *
  generalize s.1.getD 0 default = x at *
  try simp only at *
  have ea : nth s.2.1 x.dev = atI s.2.1 x.dev := (atI_eq hx.1).symm
  rw [ea]; rw [ea] at h1
  split
  · rename_i hc
    rw [if_pos hc] at h1
    exact ⟨h1, dij_drop hd hrest hheap hc, hb⟩
  · rename_i hc
    rw [if_neg hc] at h1
    refine ⟨h1, dij_take hr hcost hd hrest hheap hleast (by omega) hx.2.2.1 ⟨hx.1, hx.2.1⟩ (atI_set hx.1 (by omega)) (atI_set hx.1 (by omega)), fun c hc => ?_⟩
    rcases List.mem_or_eq_of_mem_set hc with h | h
    · exact hb c h
    · omega
theorem reachF_dij (n : Net) (up : List Bool) (ranks : List Int) (hr : netRightB n = true) (hcost : costsB n = true) : ∀ (f : Nat) (s : List Item × List Int × List Int), DijS n up ranks s → reachM s ≤ f → DijS n up ranks (reachF n up f s) ∧ (reachF n up f s).1 = []
  | 0, s, h, hf => ⟨h, List.eq_nil_of_length_eq_zero (by unfold reachM at hf; rw [reachF]; omega)⟩
  | f + 1, s, h, hf => by
    rw [reachF]
    split
    · rename_i he; exact ⟨h, he⟩
    · rename_i hne
      exact reachF_dij n up ranks hr hcost f _ (reach1_dij n up ranks hr hcost s h hne) (by have := (reach1_inv n up hr hcost s h.inv hne).2; omega)
structure Solved (n : Net) (up : List Bool) (ranks roots costs : List Int) : Prop where
  rootsL : roots.length = n.devices.length
  costsL : costs.length = n.devices.length
  bound : ∀ c ∈ costs, 0 ≤ c ∧ c ≤ 1000000
  root : ∀ d : Int, 0 ≤ d → d < n.devices.length → 0 ≤ nth roots d
  self : ∀ d : Int, 0 ≤ d → d < n.devices.length → Le2 (nth roots d) (nth costs d) (nth ranks d) 0
  tri : ∀ i j : Nat, Hop n up i j → Le2 (nth roots (pdev n i)) (nth costs (pdev n i)) (nth roots (pdev n j)) (nth costs (pdev n j) + pcost n i)
  der : ∀ d : Int, 0 ≤ d → d < n.devices.length → (nth roots d = nth ranks d ∧ nth costs d = 0) ∨ ∃ i j : Nat, Hop n up i j ∧ pdev n i = d ∧ nth roots d = nth roots (pdev n j) ∧ nth costs d = nth costs (pdev n j) + pcost n i
theorem solved_of (n : Net) (up : List Bool) (ranks : List Int) (hr : netRightB n = true) (s : List Item × List Int × List Int) (h : DijS n up ranks s) (he : s.1 = []) : Solved n up ranks s.2.1 s.2.2 := by
  have hd := h.dij
  rw [he] at hd
  have h0 : ∀ d : Int, 0 ≤ d → d < n.devices.length → 0 ≤ atI s.2.1 d := fun d h1 h2 => by
    by_cases hc : 0 ≤ atI s.2.1 d
    · exact hc
    · have := hd.own d h1 h2 (by omega)
      simp at this
  refine ⟨h.inv.rootsL, h.inv.costsL, h.bound, fun d h1 h2 => ?_, fun d h1 h2 => ?_, fun i j hij => ?_, fun d h1 h2 => ?_⟩
  · have := h0 d h1 h2
    rwa [atI_eq h1] at this
  · have := hd.self d h1 h2 (h0 d h1 h2)
    simpa only [atI_eq h1] using this
  · have hi := pdev_lt hr hij.1
    have hj := pdev_lt hr (hop_lt hr hij)
    have := hd.tri i j hij (h0 _ hi.1 hi.2) (h0 _ hj.1 hj.2)
    simpa only [atI_eq hi.1, atI_eq hj.1] using this
  · rcases hd.done d h1 h2 (h0 d h1 h2) with h3 | ⟨i, j, h3, h4, _, h5, h6⟩
    · simp only [atI_eq h1] at h3
      exact .inl h3
    · have hj := pdev_lt hr (hop_lt hr h3)
      simp only [atI_eq h1, atI_eq hj.1] at h5 h6
      exact .inr ⟨i, j, h3, h4, h5, h6⟩
theorem start_mem (ranks : List Int) (y : Item) : ∀ j, y ∈ startQ ranks j ↔ ∃ i, i < j ∧ y = ⟨ranks.getD i 0, 0, i⟩
  | 0 => by simp [startQ]
  | j + 1 => by
    rw [startQ_succ, (pushH_perm _ _).mem_iff, List.mem_cons, start_mem ranks y j]
    constructor
    · rintro (h | ⟨i, h1, h2⟩)
      · exact ⟨j, by omega, h⟩
      · exact ⟨i, by omega, h2⟩
    · rintro ⟨i, h1, h2⟩
      by_cases h : i = j
      · subst h; exact .inl h2
      · exact .inr ⟨i, by omega, h2⟩
theorem start_heap (ranks : List Int) : ∀ j, HeapN (startQ ranks j) (startQ ranks j).length
  | 0 => fun c _ h2 _ => by simp [startQ] at h2
  | j + 1 => by
    rw [startQ_succ]
    exact pushH_heap _ _ (start_heap ranks j)
theorem nth_replicate {v : Int} {m : Nat} {d : Int} (h1 : d < m) (h0 : 0 ≤ d) : nth (List.replicate m v) d = v := by
  rw [nth_eq (by simp; omega)]; simp
theorem start_dij (n : Net) (up : List Bool) (ranks : List Int) (hr : netRightB n = true) (hrk : ranks.length = n.devices.length) (hrr : ∀ r ∈ ranks, 0 ≤ r) :
    DijS n up ranks (startQ ranks ranks.length, List.replicate n.devices.length (-1), List.replicate n.devices.length 0) := by
  have hneg : ∀ d : Int, 0 ≤ d → d < n.devices.length → atI (List.replicate n.devices.length (-1)) d = -1 := fun d h0 h1 => by rw [atI_eq h0, nth_replicate h1 h0]
  refine ⟨start_inv n ranks _ _ hr hrk (by simp) (by simp) hrr, ⟨start_heap ranks _, fun x hx => ?_, fun d h0 h1 h2 => ?_, fun d h0 h1 h2 => ?_, fun i j hij h1 h2 => ?_, fun d h0 h1 h2 => ?_, fun d h0 h1 h2 => ?_, fun i j hij h1 h2 => ?_⟩, fun c hc => ?_⟩
  · obtain ⟨i, h1, rfl⟩ := (start_mem ranks x _).1 hx
    refine .inl ⟨?_, rfl⟩
    simp only
    rw [atI_eq (by omega), nth_eq (by simpa using h1), getD_at h1]
    rfl
  · rw [hneg d h0 h1] at h2; omega
  · refine (start_mem ranks _ _).2 ⟨d.toNat, by omega, ?_⟩
    rw [atI_eq h0, nth_eq (by omega), getD_at (by omega), Int.toNat_of_nonneg h0]
  · have hj := pdev_lt hr (hop_lt hr hij)
    rw [hneg _ hj.1 hj.2] at h2; omega
  · rw [hneg d h0 h1] at h2; omega
  · rw [hneg d h0 h1] at h2; omega
  · have hj := pdev_lt hr (hop_lt hr hij)
    rw [hneg _ hj.1 hj.2] at h2; omega
  · have := List.eq_of_mem_replicate hc
    omega
def reachT (n : Net) (up : List Bool) (ranks : List Int) : List Item × List Int × List Int := reachD n up (startQ ranks ranks.length, List.replicate n.devices.length (-1), List.replicate n.devices.length 0)
theorem reachT_solved (n : Net) (up : List Bool) (ranks : List Int) (hr : netRightB n = true) (hcost : costsB n = true) (hrk : ranks.length = n.devices.length) (hrr : ∀ r ∈ ranks, 0 ≤ r) : Solved n up ranks (reachT n up ranks).2.1 (reachT n up ranks).2.2 := by
  obtain ⟨h1, h2⟩ := reachF_dij n up ranks hr hcost _ _ (start_dij n up ranks hr hrk hrr) (Nat.le_refl _)
  exact solved_of n up ranks hr _ h1 h2
end Go.Sy.YtmelpejjondedaaGreat

namespace Go.Sy.YtmelpejjondedaaGreat
section
variable {n : Net} {up : List Bool} {ranks roots costs : List Int}
def rolesL (n : Net) (up : List Bool) (ranks roots costs : List Int) : List Int := rolesB n up ranks roots costs n.devices.length
def fwdB (roles : List Int) (l : Link) : Bool := inB [nth roles l.a, nth roles l.b] 1 && inB [nth roles l.a, nth roles l.b] 2
def fwdL (n : Net) (roles : List Int) : List Bool := n.links.map (fwdB roles)
end
end Go.Sy.YtmelpejjondedaaGreat

namespace Go.Sy.YtmelpejjondedaaGreat
open Go.Proofs
theorem G_lit {C : Cx} {k : List KI} {s : SS} (d : Nat) {sz : Nat} {α : Type} (e : α → SV) (l : List α) {svs : List SV} (h : s.h d = .lit sz svs) (hl : l.map e = svs) (hg : G C k ⟨s.σ, upd s.h d (.row sz e l)⟩) : G C k s := fun κ a w hs => by
  refine hg κ a w ⟨hs.defers, hs.size, hs.inv, hs.ctx, hs.slot, fun j => ?_⟩
  show ObOK κ w j (upd s.h d (.row sz e l) j)
  by_cases hj : j = d
  · subst hj
    rw [upd_self]
    have hob := hs.obj j
    rw [h] at hob
    have hlen : l.length = svs.length := by rw [← hl, List.length_map]
    obtain ⟨b, cap, cs, T, fr, e1, e2, e3, e4, e5, e6⟩ := hob
    exact .inr ⟨b, cap, cs, T, fr, by rw [hlen]; exact e1, e2, e3, e4, by omega, fun i x hx => by rw [hlen]; exact e6 i x (rowF_lit hl i x hx)⟩
  · rw [upd_ne _ _ hj]; exact hs.obj j
attribute [local irreducible] Go.Sy.G Go.Sy.DR
set_option maxRecDepth 100000
set_option maxHeartbeats 4000000
theorem reachP_len (n : Net) (up : List Bool) (x : Item) (q : List Item) : ∀ i, ((List.range i).foldl (reachP n up x) q).length ≤ q.length + i
  | 0 => by simp
  | i + 1 => by
    have := reachP_len n up x q i
    rw [List.range_succ, List.foldl_append]
    simp only [List.foldl_cons, List.foldl_nil]
    rw [reachP]
    split
    · rw [pushH_length]; omega
    · omega
theorem reachS (n : Net) (up : List Bool) (ranks roots costs : List Int) (hr : netRightB n = true) (hu : up.length = n.links.length) (hcost : costsB n = true) (hrk : ranks.length = n.devices.length) (hro : roots.length = n.devices.length) (hc : costs.length = n.devices.length) (hrr : ∀ r ∈ ranks, 0 ≤ r) (D : List Item × List Int × List Int) (hD : reachD n up (startQ ranks ranks.length, roots, costs) = D) :
    Sy.Spec Tryz.prog 157 [.ptr 0 0] (spanO n up ranks roots costs) (.tup []) (spanO n up ranks D.2.1 D.2.2) := contract Γ hm 100 F157 Tryz.ntmps157 rfl fun F hF => by
  have hf := right_few hr
  (conv=>whnf)
  refine G_lit 10 itemSV [] rfl rfl ?_
  refine G_count ranks.length (fun j => [(0, .ptr 0 0), (2, .ptr 11 0), (15, .sl 1 intSV ranks), (16, intSV ranks.length), (17, intSV j)]) (fun j => [(0, .box (spanL n up ranks (.osl 1) (.osl 2))), (1, .row 1 intSV roots), (2, .row 1 intSV costs), (11, .box [.osl 12]), (12, .row 3 itemSV (startQ ranks j))]) [(12, 10)]
    ⟨⟨rfl, rfl, rfl, rfl, rfl, rfl, rfl, rfl, rfl, rfl, trivial⟩, ⟨.inl rfl, rfl, .inl rfl, rfl, .inl rfl, rfl, .inl rfl, rfl, .inl rfl, rfl, trivial⟩, rfl, rfl⟩ ?_
  intro j hj
  (refine rg ?_;(conv=>whnf))
  refine ⟨fun h => ?_, fun h => ?_⟩
  · have hlt : j < ranks.length := by simpa using h
    have e1 : ranks[(j : Int).toNat]'(by omega) = ranks[j] := rfl
    have hpush := heapPushS (startQ ranks j) ⟨ranks.getD j 0, 0, j⟩ (by rw [startQ_length]; omega)
    have hsucc := startQ_succ ranks j
    rw [getD_at (show j < ranks.length by omega)] at hpush hsucc
    (refine rg ?_;(conv=>whnf))
    refine ⟨by omega, by omega, ?_⟩
    (conv=>whnf)
    refine ⟨by omega, ?_⟩
    rw [e1]
    (conv=>whnf)
    refine stepOp (good_call [(0, 11), (1, 12), (2, 28)] rfl F233 hpush rfl ⟨rfl, rfl, trivial⟩ rfl ⟨.inl rfl, .inl rfl, .inr rfl, trivial⟩) rfl rfl ?_
    (refine rg ?_;(conv=>whnf))
    refine ⟨by unfold I64; omega, ?_⟩
    (conv=>whnf)
    refine G_next [(12, 28)] hlt ⟨⟨rfl, rfl, rfl, rfl, rfl, rfl, rfl, rfl, rfl, rfl, trivial⟩, ⟨.inl rfl, rfl, .inl rfl, rfl, .inl rfl, rfl, .inl rfl, rfl, .inl (congrArg (Ob.row 3 itemSV) hsucc), rfl, trivial⟩, rfl, rfl⟩
  · have hjl : j = ranks.length := by
      have : ¬ j < ranks.length := by simpa using h
      omega
    subst hjl
    (refine rg ?_;(conv=>whnf))
    refine G_loop (α := {s : List Item × List Int × List Int // ReachInv n s ∧ reachD n up s = D}) (fun p => [(0, .ptr 0 0), (2, .ptr 11 0)]) (fun p => [(0, .box (spanL n up ranks (.osl 1) (.osl 2))), (1, .row 1 intSV p.1.2.1), (2, .row 1 intSV p.1.2.2), (11, .box [.osl 12]), (12, .row 3 itemSV p.1.1)]) (fun p => reachM p.1) ⟨(startQ ranks ranks.length, roots, costs), start_inv n ranks roots costs hr hrk hro hc hrr, hD⟩ []
      ⟨⟨rfl, rfl, rfl, rfl, trivial⟩, ⟨.inl rfl, rfl, .inl rfl, rfl, .inl rfl, rfl, .inl rfl, rfl, .inl rfl, rfl, trivial⟩, rfl, rfl⟩ ?_
    rintro ⟨⟨q, ro, co⟩, hI, hDq⟩
    have hlen := queueLenS q
    have hdn := reachD_nil n up (q, ro, co)
    have hds := reachD_step n up hr hcost (q, ro, co) hI
    dsimp only at hdn hds ⊢
    (refine rg ?_;(conv=>whnf))
    refine stepOp (good_callK [12] rfl F234 hlen (.cons (.row rfl rfl) .nil) rfl rfl) rfl rfl ?_
    (refine rg ?_;(conv=>whnf))
    refine ⟨fun h2 => ?_, fun h2 => ?_⟩
    · have hne : q ≠ [] := fun e => by subst e; simp at h2
      have hpop := heapPopS q hne (by have := hI.few; simp only at this; omega)
      have hx := hI.items _ ((popL_perm q hne).mem_iff.1 (List.getLast_mem (popL_ne hne)))
      have hst : reach1 n up (q, ro, co) = if 0 ≤ nth ro ((popL q).getLast (popL_ne hne)).dev then ((popL q).dropLast, ro, co) else ((List.range n.ports.length).foldl (reachP n up ((popL q).getLast (popL_ne hne))) (popL q).dropLast, ro.set ((popL q).getLast (popL_ne hne)).dev.toNat ((popL q).getLast (popL_ne hne)).root, co.set ((popL q).getLast (popL_ne hne)).dev.toNat ((popL q).getLast (popL_ne hne)).cost) := by
        rw [reach1, last_mem hne]
      have hr1 := reach1_inv n up hr hcost (q, ro, co) hI hne
      have hD1 := hds hne
      rw [hDq] at hD1
      rw [hst] at hr1 hD1
      generalize (popL q).getLast (popL_ne hne) = x at *
      have hroL := hI.rootsL
      have hcoL := hI.costsL
      dsimp only at hroL hcoL
      rw [nth_eq (l := ro) (i := x.dev) (by omega)] at hr1 hD1
      (refine rg ?_;(conv=>whnf))
      refine stepOp (good_call [(0, 11), (1, 12), (2, 38)] rfl F235 hpop rfl ⟨rfl, rfl, trivial⟩ rfl ⟨.inl rfl, .inl rfl, .inr rfl, trivial⟩) rfl rfl ?_
      (refine rg ?_;(conv=>whnf))
      refine stepOp (good_assert Γ.toTy rfl rfl rfl rfl) rfl rfl ?_
      (refine rg ?_;(conv=>whnf);refine aF ?_;refine rd (by kernel_rfl) ?_;(conv=>whnf))
      have hx1 := hx.1
      have hx2 := hx.2.1
      refine ⟨by omega, by omega, ?_⟩
      (conv=>whnf)
      refine ⟨rfl, by omega, ?_⟩
      (conv=>whnf)
      refine ⟨(by kernel_rfl), ?_⟩
      (conv=>whnf)
      refine ⟨fun h3 => ?_, fun h3 => ?_⟩
      · have h30 : 0 ≤ ro[x.dev.toNat]'(by omega) := of_decide_eq_true h3
        rw [if_pos h30] at hr1 hD1
        (refine rg ?_;(conv=>whnf))
        exact G_inv (α := {s : List Item × List Int × List Int // ReachInv n s ∧ reachD n up s = D}) (L := fun p => [(0, .ptr 0 0), (2, .ptr 11 0)]) (O := fun p => [(0, .box (spanL n up ranks (.osl 1) (.osl 2))), (1, .row 1 intSV p.1.2.1), (2, .row 1 intSV p.1.2.2), (11, .box [.osl 12]), (12, .row 3 itemSV p.1.1)]) (μ := fun p => reachM p.1) (x := ⟨(q, ro, co), hI, hDq⟩)
          ⟨((popL q).dropLast, ro, co), hr1.1, hD1.symm⟩ [(12, 38)] hr1.2
          ⟨⟨rfl, rfl, rfl, rfl, trivial⟩, ⟨.inl rfl, rfl, .inl rfl, rfl, .inl rfl, rfl, .inl rfl, rfl, .inl rfl, rfl, trivial⟩, rfl, rfl⟩
      · have h30 : ¬ 0 ≤ ro[x.dev.toNat]'(by omega) := of_decide_eq_false h3
        rw [if_neg h30] at hr1 hD1
        (refine rg ?_;(conv=>whnf))
        refine ⟨by omega, by omega, ?_⟩
        (conv=>whnf)
        refine ⟨by omega, by omega, ?_⟩
        (conv=>whnf)
        refine ⟨x.root, rfl, rfl, ?_⟩
        (conv=>whnf)
        refine ⟨by omega, by omega, rfl, by omega, x.cost, rfl, rfl, ?_⟩
        (conv=>whnf)
        refine ⟨(by kernel_rfl), ?_⟩
        (conv=>whnf)
        generalize ro.set x.dev.toNat x.root = ro' at *
        generalize co.set x.dev.toNat x.cost = co' at *
        refine G_count n.ports.length (fun j => [(0, .ptr 0 0), (2, .ptr 11 0), (5, .ptr 5 0), (77, .sl 7 portSV n.ports), (78, intSV n.ports.length), (79, intSV j)]) (fun j => [(0, .box (spanL n up ranks (.osl 1) (.osl 2))), (1, .row 1 intSV ro'), (2, .row 1 intSV co'), (5, .box [intSV x.root, intSV x.cost, intSV x.dev]), (11, .box [.osl 12]), (12, .row 3 itemSV ((List.range j).foldl (reachP n up x) (popL q).dropLast))]) [(12, 38)]
          ⟨⟨rfl, rfl, rfl, rfl, rfl, rfl, rfl, rfl, rfl, rfl, rfl, rfl, trivial⟩, ⟨.inl rfl, rfl, .inl rfl, rfl, .inl rfl, rfl, .inl rfl, rfl, .inl rfl, rfl, .inl rfl, rfl, trivial⟩, rfl, rfl⟩ ?_
        intro j hj
        (refine rg ?_;(conv=>whnf))
        refine ⟨fun h4 => ?_, fun h4 => ?_⟩
        · have hlt : j < n.ports.length := by simpa using h4
          have e1 : n.ports[(j : Int).toNat]'(by omega) = n.ports[j] := rfl
          have hfar := farR n up ranks ro' co' j hr hu hlt
          have hql : (popL q).dropLast.length ≤ q.length := by rw [List.length_dropLast, popL_length]; omega
          have hlenQ := reachP_len n up x (popL q).dropLast j
          have hfew := hI.few
          dsimp only at hfew
          have hsucc : (List.range (j + 1)).foldl (reachP n up x) (popL q).dropLast = reachP n up x ((List.range j).foldl (reachP n up x) (popL q).dropLast) j := by
            rw [List.range_succ, List.foldl_append]; rfl
          generalize (List.range j).foldl (reachP n up x) (popL q).dropLast = Q at *
          rw [reachP, getD_at hlt] at hsucc
          (refine rg ?_;(conv=>whnf))
          refine ⟨by omega, by omega, ?_⟩
          (conv=>whnf)
          refine ⟨by omega, ?_⟩
          rw [e1]
          (conv=>whnf)
          refine stepOp (good_call [] rfl F158 hfar rfl ⟨rfl, rfl, rfl, trivial⟩ rfl ⟨.inl rfl, .inl rfl, .inl rfl, trivial⟩) rfl rfl ?_
          (refine rg ?_;(conv=>whnf))
          refine ⟨fun h5 => ?_, fun h5 => ?_⟩
          · (refine rg ?_;(conv=>whnf))
            refine ⟨fun h6 => ?_, fun h6 => ?_⟩
            · have hk0 : 0 ≤ farI n up j := of_decide_eq_true h6
              have hk1 := far_lt (up := up) hr hlt hk0
              rw [if_pos ⟨by simpa using h5, hk0⟩, nth_eq (l := n.ports) (i := farI n up j) (by omega)] at hsucc
              have hpc : 1 ≤ (n.ports[(farI n up j).toNat]'(by omega)).cost ∧ (n.ports[(farI n up j).toNat]'(by omega)).cost ≤ 65535 := by
                simp only [costsB, Bool.not_eq_true', List.any_eq_false] at hcost
                have := hcost _ (List.getElem_mem (show (farI n up j).toNat < n.ports.length by omega))
                simp only [badCost, Bool.or_eq_true, decide_eq_true_eq, not_or] at this
                omega
              have hxc := hx.2.2.2
              have hpush := heapPushS Q ⟨x.root, x.cost + (n.ports[(farI n up j).toNat]'(by omega)).cost, (n.ports[(farI n up j).toNat]'(by omega)).dev⟩ (by omega)
              (refine rg ?_;(conv=>whnf))
              refine ⟨rfl, hk0, by omega, ?_⟩
              (conv=>whnf)
              refine ⟨by unfold I64; omega, ?_⟩
              (conv=>whnf)
              refine ⟨rfl, hk0, by omega, ?_⟩
              (conv=>whnf)
              refine stepD (good_call [(0, 11), (1, 12), (2, 123)] rfl F233 hpush rfl ⟨rfl, rfl, trivial⟩ rfl ⟨.inl rfl, .inl rfl, .inr rfl, trivial⟩) (by kernel_rfl) rfl ?_
              (refine rd (by kernel_rfl) ?_;(conv=>whnf))
              refine ⟨(by kernel_rfl), ?_⟩
              (conv=>whnf)
              refine ⟨by unfold I64; omega, ?_⟩
              (conv=>whnf)
              refine G_next [(12, 123)] hlt ⟨⟨rfl, rfl, rfl, rfl, rfl, rfl, rfl, rfl, rfl, rfl, rfl, rfl, trivial⟩, ⟨.inl rfl, rfl, .inl rfl, rfl, .inl rfl, rfl, .inl rfl, rfl, .inl rfl, rfl, .inl (congrArg (Ob.row 3 itemSV) hsucc), rfl, trivial⟩, rfl, rfl⟩
            · rw [if_neg (fun hh => (of_decide_eq_false h6) hh.2)] at hsucc
              (refine rg ?_;(conv=>whnf))
              refine ⟨by unfold I64; omega, ?_⟩
              (conv=>whnf)
              refine G_next [] hlt ⟨⟨rfl, rfl, rfl, rfl, rfl, rfl, rfl, rfl, rfl, rfl, rfl, rfl, trivial⟩, ⟨.inl rfl, rfl, .inl rfl, rfl, .inl rfl, rfl, .inl rfl, rfl, .inl rfl, rfl, .inl (congrArg (Ob.row 3 itemSV) hsucc), rfl, trivial⟩, rfl, rfl⟩
          · rw [if_neg (fun hh => absurd hh.1 (by simpa using h5))] at hsucc
            (refine rg ?_;(conv=>whnf);refine aF ?_;refine rg ?_;(conv=>whnf))
            refine ⟨by unfold I64; omega, ?_⟩
            (conv=>whnf)
            refine G_next [] hlt ⟨⟨rfl, rfl, rfl, rfl, rfl, rfl, rfl, rfl, rfl, rfl, rfl, rfl, trivial⟩, ⟨.inl rfl, rfl, .inl rfl, rfl, .inl rfl, rfl, .inl rfl, rfl, .inl rfl, rfl, .inl (congrArg (Ob.row 3 itemSV) hsucc), rfl, trivial⟩, rfl, rfl⟩
        · have hjl : j = n.ports.length := by
            have : ¬ j < n.ports.length := by simpa using h4
            omega
          subst hjl
          (refine rg ?_;(conv=>whnf))
          exact G_inv (α := {s : List Item × List Int × List Int // ReachInv n s ∧ reachD n up s = D}) (L := fun p => [(0, .ptr 0 0), (2, .ptr 11 0)]) (O := fun p => [(0, .box (spanL n up ranks (.osl 1) (.osl 2))), (1, .row 1 intSV p.1.2.1), (2, .row 1 intSV p.1.2.2), (11, .box [.osl 12]), (12, .row 3 itemSV p.1.1)]) (μ := fun p => reachM p.1) (x := ⟨(q, ro, co), hI, hDq⟩)
            ⟨((List.range n.ports.length).foldl (reachP n up x) (popL q).dropLast, ro', co'), hr1.1, hD1.symm⟩ [] hr1.2
            ⟨⟨rfl, rfl, rfl, rfl, trivial⟩, ⟨.inl rfl, rfl, .inl rfl, rfl, .inl rfl, rfl, .inl rfl, rfl, .inl rfl, rfl, trivial⟩, rfl, rfl⟩
    · have he : q = [] := List.eq_nil_of_length_eq_zero (by
        have : ¬ 0 < q.length := by simpa using h2
        omega)
      have e : D = (q, ro, co) := by rw [← hDq, hdn he]
      rw [e]
      (refine rg ?_;(conv=>whnf))
      exact done_end rfl .nil [] (spanO n up ranks ro co) (fun _ h => h) rfl rfl ⟨trivial, ⟨.inl rfl, rfl, .inl rfl, rfl, .inl rfl, rfl, trivial⟩, rfl, rfl⟩
end Go.Sy.YtmelpejjondedaaGreat

namespace Go.Sy.YtmelpejjondedaaGreat
open Go.Proofs
attribute [local irreducible] Go.Sy.G Go.Sy.DR
set_option maxRecDepth 100000
set_option maxHeartbeats 4000000
def okB (n : Net) (up : List Bool) : Bool := decide (up.length = n.links.length) && (netRightB n && costsB n)
theorem ok_iff {n : Net} {up : List Bool} : okB n up = true ↔ up.length = n.links.length ∧ netRightB n = true ∧ costsB n = true := by simp [okB]
def rootsT (n : Net) (up : List Bool) : List Int := (reachT n up (ranksL n)).2.1
def costsT (n : Net) (up : List Bool) : List Int := (reachT n up (ranksL n)).2.2
def openSV (n : Net) (up : List Bool) : SV := spanSV n up (ranksL n) (rootsT n up) (costsT n up)
theorem openBad (n : Net) (up : List Bool) (hn : n.Fin) (h : okB n up = false) : Sy.Spec Tryz.prog 84 [netSV n, .sl 1 boolSV up] [] (.tup [.val (.pointer none), intSV 2]) [] := contract Γ hm 100 F84 Tryz.ntmps84 rfl fun F hF => by
  have h' : ¬ (up.length = n.links.length ∧ netRightB n = true ∧ costsB n = true) := fun hh => by rw [ok_iff.2 hh] at h; cases h
  (conv=>whnf)
  (repeat' (first | (refine ⟨fun h => ?_, fun h => ?_⟩ <;> (repeat (first | simp only [bne_iff_ne] at h | simp only [bne_eq_false_iff_eq] at h | simp only [Bool.not_eq_true'] at h | simp only [Bool.not_eq_false'] at h)) <;> ((refine rg ?_);(conv=>whnf);repeat((refine aT ?_);(refine rg ?_);(conv=>whnf)))) | (refine call0 (namesRightS n hn) F67 rfl rfl rfl rfl rfl ?_; ((refine rg ?_);(conv=>whnf))) | (refine call0 (costsS n hn.ports) F155 rfl rfl rfl rfl rfl ?_; ((refine rg ?_);(conv=>whnf))) | refine done0 rfl (.cons .tmp (.cons .tmp .nil)) rfl rfl))
  all_goals exact absurd ⟨by omega, by assumption, by assumption⟩ h'
def fillR (m j : Nat) : List Int := List.replicate j (-1) ++ List.replicate (m - j) 0
theorem fillR_zero (m : Nat) : fillR m 0 = List.replicate m 0 := by simp [fillR]
theorem fillR_all (m : Nat) : fillR m m = List.replicate m (-1) := by simp [fillR]
theorem fillR_length (m j : Nat) (h : j ≤ m) : (fillR m j).length = m := by simp [fillR]; omega
theorem fillR_succ (m j : Nat) (h : j < m) : fillR m (j + 1) = (fillR m j).set j (-1) := by
  have e : m - j = (m - (j + 1)) + 1 := by omega
  rw [fillR, fillR, e, List.set_append_right _ _ (by simp), List.length_replicate, Nat.sub_self, List.replicate_succ' (n := j), List.replicate_succ (n := m - (j + 1))]
  simp
theorem openOK (n : Net) (up : List Bool) (hn : n.Fin) (hu : up.length = n.links.length) (hr : netRightB n = true) (hcost : costsB n = true) : Sy.Spec Tryz.prog 84 [netSV n, .sl 1 boolSV up] [] (.tup [openSV n up, intSV 0]) [] := contract Γ hm 100 F84 Tryz.ntmps84 rfl fun F hF => by
  have hf := right_few hr
  have hrt := namesRightS n hn
  have hct := costsS n hn.ports
  have hrs := ranksS n hn
  rw [hr] at hrt
  rw [hcost] at hct
  rw [hr, if_pos rfl] at hrs
  have hrk := ranksL_length n
  have hrr : ∀ r ∈ ranksL n, 0 ≤ r := fun r h => (ranks_range n r h).1
  have hsv : openSV n up = spanSV n up (ranksL n) (reachT n up (ranksL n)).2.1 (reachT n up (ranksL n)).2.2 := rfl
  rw [hsv]
  generalize ranksL n = ranks at *
  have hreach := fun D hD => reachS n up ranks (List.replicate n.devices.length (-1)) (List.replicate n.devices.length 0) hr hu hcost hrk (by simp) (by simp) hrr D hD
  have hRT : reachD n up (startQ ranks ranks.length, List.replicate n.devices.length (-1), List.replicate n.devices.length 0) = reachT n up ranks := rfl
  generalize reachT n up ranks = D at *
  have hreach := hreach D hRT
  clear hRT hsv
  (conv=>whnf)
  refine ⟨fun h => absurd h (by simp [hu]), fun h => ?_⟩
  (refine rg ?_;(conv=>whnf))
  refine call0 hrt F67 rfl rfl rfl rfl rfl ?_
  (refine rg ?_;(conv=>whnf);refine aF ?_;refine rg ?_;(conv=>whnf))
  refine call0 hct F155 rfl rfl rfl rfl rfl ?_
  (refine rg ?_;(conv=>whnf);refine aF ?_;refine rg ?_;(conv=>whnf))
  refine callD0 hrs F156 rfl rfl rfl (by kernel_rfl) rfl ?_
  (refine rd (by kernel_rfl) ?_;(conv=>whnf))
  refine stepD (good_makeSlice Γ.toTy (d := 31) (n := n.devices.length) intSV 0 rfl rfl rfl rfl rfl rfl rfl rfl (by omega) (by omega) rfl rfl rfl) (by kernel_rfl) rfl ?_
  (refine rd (by kernel_rfl) ?_;(conv=>whnf))
  refine stepD (good_makeSlice Γ.toTy (d := 35) (n := n.devices.length) intSV 0 rfl rfl rfl rfl rfl rfl rfl rfl (by omega) (by omega) rfl rfl rfl) (by kernel_rfl) rfl ?_
  (refine rd (by kernel_rfl) ?_;(conv=>whnf))
  refine ⟨(by kernel_rfl), ?_⟩
  (conv=>whnf)
  refine G_count n.devices.length (fun j => [(6, .ptr 37 0), (42, intSV (List.replicate n.devices.length (0 : Int)).length), (43, intSV j)]) (fun j => [(37, .box (spanL n up ranks (.osl 31) (.osl 35))), (31, .row 1 intSV (fillR n.devices.length j)), (35, .row 1 intSV (List.replicate n.devices.length 0))]) []
    ⟨⟨rfl, rfl, rfl, rfl, rfl, rfl, trivial⟩, ⟨.inl rfl, rfl, .inl (by rw [fillR_zero]; rfl), rfl, .inl rfl, rfl, trivial⟩, rfl, rfl⟩ ?_
  intro j hj
  have hlen := fillR_length n.devices.length j hj
  (refine rg ?_;(conv=>whnf))
  refine ⟨fun h => ?_, fun h => ?_⟩
  · have hlt : j < n.devices.length := by simpa using h
    have hsucc := fillR_succ n.devices.length j hlt
    generalize fillR n.devices.length j = u at *
    (refine rg ?_;(conv=>whnf))
    refine ⟨by omega, by omega, ?_⟩
    (conv=>whnf)
    refine ⟨rfl, by omega, -1, rfl, rfl, ?_⟩
    (conv=>whnf)
    refine ⟨by unfold I64; omega, ?_⟩
    (conv=>whnf)
    exact G_next [] hlt ⟨⟨rfl, rfl, rfl, rfl, rfl, rfl, trivial⟩, ⟨.inl rfl, rfl, .inl (congrArg (Ob.row 1 intSV) hsucc), rfl, .inl rfl, rfl, trivial⟩, rfl, rfl⟩
  have hjl : j = n.devices.length := by
    have : ¬ j < n.devices.length := by simpa using h
    omega
  subst hjl
  have hall := fillR_all n.devices.length
  rw [← hall] at hreach
  (refine rg ?_;(conv=>whnf))
  refine stepOp (good_call [(0, 37), (1, 31), (2, 35)] rfl F157 hreach rfl ⟨rfl, rfl, rfl, trivial⟩ rfl ⟨.inl rfl, .inl rfl, .inl rfl, trivial⟩) rfl rfl ?_
  refine G_data 31 rfl ?_
  refine G_data 35 rfl ?_
  refine G_box 37 12 (.agg (spanL n up ranks (.sl 1 intSV D.2.1) (.sl 1 intSV D.2.2))) rfl rfl rfl ?_
  (refine rg ?_;(conv=>whnf))
  exact done0 rfl (.cons .tmp (.cons .tmp .nil)) rfl rfl
end Go.Sy.YtmelpejjondedaaGreat
