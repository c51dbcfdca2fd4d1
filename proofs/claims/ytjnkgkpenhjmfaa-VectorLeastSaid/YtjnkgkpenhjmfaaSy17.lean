/-
  The symbolic layer, 17: contracts' beginnings, and calls, in short.
-/
import Derived.Test.YtjnkgkpenhjmfaaSy16
namespace Go.Sy

def lenLe {α : Type 1} : List α → Nat → Bool
  | [], _ => true
  | _ :: _, 0 => false
  | _ :: l, n + 1 => lenLe l n

theorem lenLe_ok {α : Type 1} : ∀ {l : List α} {n : Nat}, lenLe l n = true → l.length ≤ n
  | [], _, _ => Nat.zero_le _
  | _ :: _, 0, h => by cases h
  | _ :: l, n + 1, h => Nat.succ_le_succ (lenLe_ok (l := l) h)

/-- A function's contract, by reckoning its code. -/
theorem contract {P : Program} (Γ : TyE P) (hm : P.follows .mixedOrders = true) (N : Nat) {f : FuncId} {fn : Func} {c : Code} {A : List SV} {H : Obs} {R : SV} {H' : Obs} (hF : Fun P f fn c) {n : Nat} (hn' : fn.ntmps = n) (hn : lenLe A n = true)
    (h : ∀ (F : Fr) (hF : ∀ k, F.k0 k ≠ .new → k ∈ H.keys), exec ⟨P, Γ.toTy, F, n, Post P fn F R H', H.keys, hF⟩ Γ N [.code c] ⟨argσ A, mkh H⟩) : Sy.Spec P f A H R H' :=
  spec_of_G Γ.toTy hF.1 hF.2 hn' (lenLe_ok hn) fun F hF => run Γ hm N (h F hF)

variable {C : Cx} {k : List KI} {s : SS}

/-- A call that takes no objects and makes none. -/
theorem call0 {all : Array Oper} {o : Oper} {rest : List Oper} {f : FuncId} {fn : Func} {c : Code} {xs : List Operand} {ts : Array TypeId} {A : List SV} {R : SV} (hs : Sy.Spec C.P f A [] R []) (hf : Fun C.P f fn c) (h : o.op = .call ⟨.value (.func f), xs.toArray, ts⟩)
    (hA : A = xs.map (ev s)) (hok : (innL [] A && R.inn []) = true) (hd : dstOK C.n o = true) (hw : guardV C.n all o s = some true) (hg : G C (.ops all rest :: k) (s.upd o.dst ⟨R, [], []⟩)) : G C (.ops all (o :: rest) :: k) s := by
  have hid : ∀ x : SV, x.ren (assocN []) = x := fun x => ren_id x
  have hidL : ∀ x : List SV, renL (assocN []) x = x := fun x => renL_id x
  have := good_call (s := s) (o := o) [] h hf hs (by rw [hidL]; exact hA) trivial (by simp_all [callOK, rhoOK, subN, Obs.keys]) trivial
  rw [hid] at this
  exact stepOp this hd hw hg

/-- The same, among operations that draw their order. -/
theorem callD0 {all : Array Oper} {done : List Stp} {o : Oper} {rest : List Oper} {f : FuncId} {fn : Func} {c : Code} {xs : List Operand} {ts : Array TypeId} {A : List SV} {R : SV} (hs : Sy.Spec C.P f A [] R []) (hf : Fun C.P f fn c) (h : o.op = .call ⟨.value (.func f), xs.toArray, ts⟩)
    (hA : A = xs.map (ev s)) (hok : (innL [] A && R.inn []) = true) (hi : all[done.length]? = some o) (hw : guardV C.n all o s = some true) (hg : DR C k all (done ++ [⟨done.length, o, ⟨R, [], []⟩, true⟩]) rest (s.upd o.dst ⟨R, [], []⟩)) : DR C k all done (o :: rest) s := by
  have hid : ∀ x : SV, x.ren (assocN []) = x := fun x => ren_id x
  have hidL : ∀ x : List SV, renL (assocN []) x = x := fun x => renL_id x
  have := good_call (s := s) (o := o) [] h hf hs (by rw [hidL]; exact hA) trivial (by simp_all [callOK, rhoOK, subN, Obs.keys]) trivial
  rw [hid] at this
  exact stepD this hi hw hg (by simp [isIdx, isSt, h])

/-- A call of a pure function, to which owned rows are lent. -/
theorem callK {all : Array Oper} {o : Oper} {rest : List Oper} (V : List Nat) {f : FuncId} {fn : Func} {c : Code} {xs : List Operand} {ts : Array TypeId} {A : List SV} {R : SV} (hs : Sy.Spec C.P f A [] R []) (hf : Fun C.P f fn c) (h : o.op = .call ⟨.value (.func f), xs.toArray, ts⟩)
    (hA : VwL s V (xs.map (ev s)) A) (hok : (innL [] A && R.plain) = true) (hd : dstOK C.n o = true) (hw : guardV C.n all o s = some true) (hg : G C (.ops all rest :: k) (s.upd o.dst ⟨R, V, []⟩)) : G C (.ops all (o :: rest) :: k) s := by
  simp only [Bool.and_eq_true] at hok
  exact stepOp (good_callK V h hf hs hA hok.1 hok.2) hd hw hg

/-- A function that takes no objects and makes none: it is there, and does so. -/
def FunS (P : Program) (f : FuncId) (A : List SV) (R : SV) : Prop := (∃ fn c, Fun P f fn c) ∧ Sy.Spec P f A [] R []

theorem call0E {all : Array Oper} {o : Oper} {rest : List Oper} {f : FuncId} {B A : List SV} {R : SV} (hE : Enters C.P o s f B) (hs : Sy.Spec C.P f A [] R [])
    (hA : A = B) (hok : (innL [] A && R.inn []) = true) (hd : dstOK C.n o = true) (hw : guardV C.n all o s = some true) (hg : G C (.ops all rest :: k) (s.upd o.dst ⟨R, [], []⟩)) : G C (.ops all (o :: rest) :: k) s := by
  have hid : ∀ x : SV, x.ren (assocN []) = x := fun x => ren_id x
  have hidL : ∀ x : List SV, renL (assocN []) x = x := fun x => renL_id x
  have := good_callE (s := s) (o := o) [] hE hs (by rw [hidL]; exact hA) trivial (by simp_all [callOK, rhoOK, subN, Obs.keys]) trivial
  rw [hid] at this
  exact stepOp this hd hw hg

/-- A call of a function value. -/
theorem callC {all : Array Oper} {o : Oper} {rest : List Oper} {f : FuncId} {x : Operand} {xs : List Operand} {ts : Array TypeId} {first cap A : List SV} {R : SV} (hs : FunS C.P f A R) (h : o.op = .call ⟨.value x, xs.toArray, ts⟩) (hx : ev s x = .clo (.func f) first cap)
    (hA : A = first ++ xs.map (ev s) ++ cap) (hok : (innL [] A && R.inn []) = true) (hd : dstOK C.n o = true) (hw : guardV C.n all o s = some true) (hg : G C (.ops all rest :: k) (s.upd o.dst ⟨R, [], []⟩)) : G C (.ops all (o :: rest) :: k) s := by
  obtain ⟨⟨fn, c, hf⟩, hs⟩ := hs
  exact call0E (enters_clo h hx hf) hs hA hok hd hw hg

theorem call0DE {all : Array Oper} {done : List Stp} {o : Oper} {rest : List Oper} {f : FuncId} {B A : List SV} {R : SV} (hE : Enters C.P o s f B) (hn : (isIdx o || isSt o) = false) (hs : Sy.Spec C.P f A [] R [])
    (hA : A = B) (hok : (innL [] A && R.inn []) = true) (hi : all[done.length]? = some o) (hw : guardV C.n all o s = some true) (hg : DR C k all (done ++ [⟨done.length, o, ⟨R, [], []⟩, true⟩]) rest (s.upd o.dst ⟨R, [], []⟩)) : DR C k all done (o :: rest) s := by
  have hid : ∀ x : SV, x.ren (assocN []) = x := fun x => ren_id x
  have hidL : ∀ x : List SV, renL (assocN []) x = x := fun x => renL_id x
  have := good_callE (s := s) (o := o) [] hE hs (by rw [hidL]; exact hA) trivial (by simp_all [callOK, rhoOK, subN, Obs.keys]) trivial
  rw [hid] at this
  exact stepD this hi hw hg hn

theorem callDC {all : Array Oper} {done : List Stp} {o : Oper} {rest : List Oper} {f : FuncId} {x : Operand} {xs : List Operand} {ts : Array TypeId} {first cap A : List SV} {R : SV} (hs : FunS C.P f A R) (h : o.op = .call ⟨.value x, xs.toArray, ts⟩) (hx : ev s x = .clo (.func f) first cap)
    (hA : A = first ++ xs.map (ev s) ++ cap) (hok : (innL [] A && R.inn []) = true) (hi : all[done.length]? = some o) (hw : guardV C.n all o s = some true) (hg : DR C k all (done ++ [⟨done.length, o, ⟨R, [], []⟩, true⟩]) rest (s.upd o.dst ⟨R, [], []⟩)) : DR C k all done (o :: rest) s := by
  obtain ⟨⟨fn, c, hf⟩, hs⟩ := hs
  exact call0DE (enters_clo h hx hf) (by simp [isIdx, isSt, h]) hs hA hok hi hw hg

theorem callDK {all : Array Oper} {done : List Stp} {o : Oper} {rest : List Oper} (V : List Nat) {f : FuncId} {fn : Func} {c : Code} {xs : List Operand} {ts : Array TypeId} {A : List SV} {R : SV} (hs : Sy.Spec C.P f A [] R []) (hf : Fun C.P f fn c) (h : o.op = .call ⟨.value (.func f), xs.toArray, ts⟩)
    (hA : VwL s V (xs.map (ev s)) A) (hok : (innL [] A && R.plain) = true) (hi : all[done.length]? = some o) (hw : guardV C.n all o s = some true) (hg : DR C k all (done ++ [⟨done.length, o, ⟨R, V, []⟩, true⟩]) rest (s.upd o.dst ⟨R, V, []⟩)) : DR C k all done (o :: rest) s := by
  simp only [Bool.and_eq_true] at hok
  exact stepD (good_callK V h hf hs hA hok.1 hok.2) hi hw hg (by simp [isIdx, isSt, h])

end Go.Sy
