/-
  The symbolic layer, 16: types and functions of a program, reckoned.
-/
import Derived.Test.YtjnkgkpenhjmfaaSy15
import Derived.KernelRfl
namespace Go.Sy

def fieldsOf (P : Program) : List Field → Option (List (Nat × Nat))
  | [] => some []
  | f :: fs => match P.info? f.type, fieldsOf P fs with
    | some i, some r => some ((f.offset, i.size) :: r)
    | _, _ => none

theorem fieldsOf_ok {P : Program} : ∀ {fs : List Field} {r : List (Nat × Nat)}, fieldsOf P fs = some r → fieldsOK P fs r
  | [], r, h => by simp only [fieldsOf, Option.some.injEq] at h; subst h; trivial
  | f :: fs, r, h => by
    simp only [fieldsOf] at h
    split at h
    · rename_i i q hi hq
      simp only [Option.some.injEq] at h
      subst h
      exact ⟨rfl, by rw [hi]; rfl, fieldsOf_ok hq⟩
    · cases h

def tkOf (P : Program) (d : TypeDesc) : Option TK :=
  match d with
  | .bool => some .bool
  | .int k => some (.int k)
  | .string => some .string
  | .slice e => (match P.info? e with
    | some i => (match i.zero with
      | some z => some (.slice e i.size i.bytes z.cells.toList)
      | none => none)
    | none => none)
  | .struct fs => (match fieldsOf P fs.toList with
    | some r => some (.struct r)
    | none => none)
  | .pointer _ => some .ptr
  | .interface _ => some .iface
  | .func _ _ _ => some .func
  | _ => none

theorem tkOf_ok {P : Program} {d : TypeDesc} {k : TK} (h : tkOf P d = some k) : TK.ok P d k := by
  unfold tkOf at h
  split at h
  · cases h; rfl
  · cases h; rfl
  · cases h; rfl
  · split at h
    · rename_i i hi
      split at h
      · rename_i z hz
        cases h
        exact ⟨rfl, i, z, hi, rfl, rfl, hz, rfl⟩
      · cases h
    · cases h
  · split at h
    · rename_i r hr
      cases h
      exact ⟨_, rfl, fieldsOf_ok hr⟩
    · cases h
  · cases h; exact ⟨_, rfl⟩
  · cases h; exact ⟨_, rfl⟩
  · cases h; exact ⟨_, _, _, rfl⟩
  · cases h

def tiOf (P : Program) (t : TypeId) : Option TI :=
  match P.underlying t, P.info? t with
  | some d, some info => (match tkOf P d, info.zero with
    | some k, some z => some ⟨k, info.size, z.cells.toList⟩
    | _, _ => none)
  | _, _ => none

theorem tiOf_ok {P : Program} {t : TypeId} {i : TI} (h : tiOf P t = some i) : i.ok P t := by
  unfold tiOf at h
  split at h
  · rename_i d info hd hi
    split at h
    · rename_i k z hk hz
      cases h
      exact ⟨d, info, z, hd, tkOf_ok hk, hi, rfl, hz, rfl⟩
    · cases h
  · cases h

/-- A table, as a tree. -/
inductive Tr (α : Type) | lf | nd (k : Nat) (v : α) (l r : Tr α)
def Tr.look {α : Type} (t : Nat) : Tr α → Option α
  | .lf => none
  | .nd k v l r => bif Nat.beq t k then some v else bif Nat.blt t k then l.look t else r.look t

def Tr.all {α : Type} (p : Nat → α → Prop) : Tr α → Prop
  | .lf => True
  | .nd k v l r => p k v ∧ l.all p ∧ r.all p

theorem Tr.look_ok {α : Type} {p : Nat → α → Prop} {t : Nat} {v : α} : ∀ {T : Tr α}, T.all p → T.look t = some v → p t v
  | .lf, _, h => by cases h
  | .nd k u l r, ha, h => by
    simp only [Tr.look, Bool.cond_eq_ite] at h
    split at h
    · rename_i hb
      have := Nat.eq_of_beq_eq_true hb
      subst this
      simp only [Option.some.injEq] at h
      subst h
      exact ha.1
    · split at h
      · exact Tr.look_ok ha.2.1 h
      · exact Tr.look_ok ha.2.2 h

def ekOf (P : Program) (t : TypeId) : Option EK :=
  match P.underlying t with
  | some (.int k) => some (.int k)
  | some .bool => some .bool
  | some .string => some .string
  | _ => none

def eksOf (P : Program) : Nat → List Field → Option (List EK)
  | _, [] => some []
  | i, f :: fs => match ekOf P f.type, eksOf P (i + 1) fs with
    | some k, some r => if f.name ≠ "_" ∧ f.offset = i then some (k :: r) else none
    | _, _ => none

theorem eksOf_ok {P : Program} : ∀ {fs : List Field} {i : Nat} {r : List EK}, eksOf P i fs = some r → eqFs P i fs r
  | [], i, r, h => by simp only [eksOf, Option.some.injEq] at h; subst h; trivial
  | f :: fs, i, r, h => by
    simp only [eksOf] at h
    split at h
    · rename_i k q hk hq
      split at h
      · rename_i hc
        cases h
        refine ⟨hc.1, hc.2, ?_, eksOf_ok hq⟩
        unfold ekOf at hk
        split at hk <;> first | (cases hk; assumption) | cases hk
      · cases h
    · cases h

def eqsOf (P : Program) (t : TypeId) : Option (List EK) :=
  match P.underlying t with
  | some (.struct fs) => if P.stoodInHeld t = false ∧ P.eqGuardType P.depth t = false then eksOf P 0 fs.toList else none
  | _ => none

theorem eqsOf_ok {P : Program} {t : TypeId} {r : List EK} (h : eqsOf P t = some r) : EqOK P t r := by
  unfold eqsOf at h
  split at h
  · rename_i fs hfs
    split at h
    · rename_i hc
      have hf : P.fieldsOf t = fs := by simp [Program.fieldsOf, hfs]
      exact ⟨by rw [hf]; exact hfs, hc.1, hc.2, by rw [hf]; exact eksOf_ok h⟩
    · cases h
  · cases h

def bodyOf (fn : Func) : Code := fn.body.getD .skip

end Go.Sy
