/-
  The symbolic layer, 15: code reckoned. The symbolic layer, 16: types and functions of a program, reckoned. The symbolic layer, 17: contracts' beginnings, and calls, in short. The symbolic layer, 18: copy of rows of one cell each. The symbolic layer, 19: rows with their elements' form, in short. The symbolic layer, 22: a box that nobody writes any more becomes data. The types' table of this seat's program, and its functions' own facts. Written by program (gentypes.py). Nets: what a net's value reads as. Arguments and rows seen otherwise. A nil slice in a box becomes a row's name. The symbolic layer, 27: a slice against nil; structs in structs held against one another. The symbolic layer, 28: what the kit's shelf says of functions of Go's library. The shelf's contracts of Go's library at this program, laid by the kit's tools (lay-shelf, lay-plain), chosen by mkshelf.py. Texts: joined, split at a byte.
-/
import Derived.Test.YtjomehmhkcnadaaGreatDoorB2
import Derived.KernelRfl
import Derived.Test.YtjomehmhkcnadaaGreatDoorProg
import Derived.ChangeKeysEq
import Derived.Below
import Derived.Lib.Join
import Derived.Shelf.Strings.OnBuilder
import Derived.Shelf.Small.Strs
import Derived.Shelf.Strings.Search1
import Derived.Shelf.Strings.Search2
import Derived.Shelf.Strings.Search3
import Derived.Shelf.Strings.Cut
import Derived.Shelf.Strings.Count
import Derived.Shelf.Strings.Prefix

namespace Go.Sy

def guardSrc (idx : Nat) : List Oper → Bool
  | [] => false
  | o :: r => (match o.guard with
    | some (j, _) => Nat.beq j idx
    | none => false) || guardSrc idx r

/-- A truth that guards hang on is parted in two; behind that nothing is reckoned yet. -/
def fork (isg : Bool) (U : Up) (K K' : Up → Prop) : Prop :=
  match isg with
  | false => K U
  | true => (match U.v with
    | .val (.bool b) => (b = true → K' ⟨.val (.bool true), U.rd, U.objs⟩) ∧ (b = false → K' ⟨.val (.bool false), U.rd, U.objs⟩)
    | _ => K U)

theorem fork_ok {X : Up → Prop} {isg : Bool} {U : Up} {K K' : Up → Prop} (hK : ∀ U, K U → K' U) (hg : X U) (h : fork isg U K K') : ∃ U', X U' ∧ K' U' := by
  unfold fork at h
  split at h
  · exact ⟨U, hg, hK _ h⟩
  · split at h
    · rename_i b hb
      obtain ⟨v, rd, objs⟩ := U
      simp only at hb
      subst hb
      cases b
      · exact ⟨_, hg, h.2 rfl⟩
      · exact ⟨_, hg, h.1 rfl⟩
    · exact ⟨U, hg, hK _ h⟩

def guardV (n : Nat) (all : Array Oper) (o : Oper) (s : SS) : Option Bool :=
  match o.guard with
  | none => some true
  | some (j, want) => (match (all[j]?).bind (·.dst) with
    | some d => (match Nat.blt d n with
      | true => (match s.σ d with
        | .val (.bool c) => (match c with
          | true => some want
          | false => (match want with | true => some false | false => some true))
        | .val (.tuple a) => (match a.toList with | [] => some false | _ => none)
        | _ => none)
      | false => none)
    | none => none)

theorem guardV_ok {n : Nat} {all : Array Oper} {o : Oper} {s : SS} {b : Bool} (h : guardV n all o s = some b) : wantS all s o.guard b ∧ ∀ j want, o.guard = some (j, want) → ∀ d, ((all[j]?).bind (·.dst)) = some d → d < n := by
  unfold guardV at h
  cases hg : o.guard with
  | none =>
    rw [hg] at h
    simp only [Option.some.injEq] at h
    exact ⟨h.symm, fun j want hh => by cases hh⟩
  | some p =>
    obtain ⟨j, want⟩ := p
    rw [hg] at h
    simp only at h
    split at h
    · rename_i d hd
      split at h
      · rename_i hlt
        refine ⟨⟨d, hd, ?_⟩, fun j' want' hh d' hd' => ?_⟩
        · split at h
          · rename_i c hc
            left
            refine ⟨c, hc, ?_⟩
            cases c
            · cases want <;> simp_all
            · simp_all
          · rename_i a ha
            split at h
            · rename_i he
              right
              have : a = #[] := by simpa using he
              subst this
              simp only [Option.some.injEq] at h
              exact ⟨ha, h.symm⟩
            · cases h
          · cases h
        · simp only [Option.some.injEq, Prod.mk.injEq] at hh
          obtain ⟨rfl, rfl⟩ := hh
          rw [hd] at hd'
          simp only [Option.some.injEq] at hd'
          subst hd'
          exact Nat.le_of_ble_eq_true hlt
      · cases h
    · cases h

def dstOK (n : Nat) (o : Oper) : Bool := match o.dst with | some d => Nat.blt d n | none => true

mutual
def exec (C : Cx) (Γ : TyE C.P) : Nat → List KI → SS → Prop
  | 0, k, s => G C k s
  | n + 1, k, s => (match k with
    | [] => G C [] s
    | .blk _ :: k => exec C Γ n k s
    | .inv I :: k => G C (.inv I :: k) s
    | .scp :: k => exec C Γ n k s
    | .ops _ [] :: k => exec C Γ n k s
    | .ops all (o :: rest) :: k => (match dstOK C.n o with
      | true => (match guardV C.n all o s with
        | some true => opW Γ o s (fun U => fork (guardSrc (all.size - rest.length - 1) rest) U (fun U => exec C Γ n (.ops all rest :: k) (s.upd o.dst U)) (fun U => G C (.ops all rest :: k) (s.upd o.dst U))) (G C (.ops all (o :: rest) :: k) s)
        | some false => exec C Γ n (.ops all rest :: k) (s.upd o.dst ⟨.val undef, [], []⟩)
        | none => G C (.ops all (o :: rest) :: k) s)
      | false => G C (.ops all (o :: rest) :: k) s)
    | .code c :: k => (match c with
      | .skip => exec C Γ n k s
      | .seq x y => exec C Γ n (.code x :: .code y :: k) s
      | .block id c => exec C Γ n (.code c :: .blk id :: k) s
      | .scope c => exec C Γ n (.code c :: .scp :: k) s
      | .label _ => exec C Γ n k s
      | .region id ops draw => (match draw with
        | false => exec C Γ n (.ops ops ops.toList :: k) s
        | true => (match dstsOK C.n ops.toList with
          | true => execD C Γ n k ops [] ops.toList s
          | false => G C (.code (.region id ops true) :: k) s))
      | .cond c x y => (match ev s c with
        | .val (.bool b) => (b = true → G C (.code x :: k) s) ∧ (b = false → G C (.code y :: k) s)
        | _ => G C (.code (.cond c x y) :: k) s)
      | .exit id => (match exitK id k with
        | some k' => exec C Γ n k' s
        | none => G C (.code (.exit id) :: k) s)
      | c => G C (.code c :: k) s))
def execD (C : Cx) (Γ : TyE C.P) : Nat → List KI → Array Oper → List Stp → List Oper → SS → Prop
  | 0, k, all, done, rest, s => DR C k all done rest s
  | n + 1, k, all, done, rest, s => (match rest with
    | [] => drawOK all done = true ∧ exec C Γ n k s
    | o :: rest => (match guardV C.n all o s with
      | some true => opW Γ o s (fun U => fork (guardSrc (all.size - rest.length - 1) rest) U (fun U => execD C Γ n k all (done ++ [⟨done.length, o, U, true⟩]) rest (s.upd o.dst U)) (fun U => DR C k all (done ++ [⟨done.length, o, U, true⟩]) rest (s.upd o.dst U))) (DR C k all done (o :: rest) s)
      | some false => execD C Γ n k all (done ++ [⟨done.length, o, ⟨.val undef, [], []⟩, false⟩]) rest (s.upd o.dst ⟨.val undef, [], []⟩)
      | none => DR C k all done (o :: rest) s))
end

theorem dstOK_ok {n : Nat} {o : Oper} (h : dstOK n o = true) : ∀ d, o.dst = some d → d < n := fun d hd => by
  unfold dstOK at h
  rw [hd] at h
  exact Nat.le_of_ble_eq_true h

theorem at_split {all : Array Oper} {done : List Stp} {o : Oper} {rest : List Oper} (h : all.toList = done.map (·.o) ++ o :: rest) : all[done.length]? = some o := by
  rw [← Array.getElem?_toList, h, List.getElem?_append_right (by simp)]
  simp

theorem exec_ok {C : Cx} {Γ : TyE C.P} (hm : C.P.follows .mixedOrders = true) : ∀ n, (∀ k s, exec C Γ n k s → G C k s) ∧ (∀ k all done rest s, all.toList = done.map (·.o) ++ rest → execD C Γ n k all done rest s → DR C k all done rest s) := by
  intro n
  induction n with
  | zero => exact ⟨fun k s h => (by simpa only [exec] using h), fun k all done rest s _ h => (by simpa only [execD] using h)⟩
  | succ n ih =>
    obtain ⟨ih1, ih2⟩ := ih
    constructor
    · intro k s h
      simp only [exec] at h
      split at h
      · exact h
      · exact G_blk (ih1 _ _ h)
      · exact h
      · exact G_scp (ih1 _ _ h)
      · exact G_ops_nil (ih1 _ _ h)
      · rename_i all o rest k'
        split at h
        · rename_i hd
          have hd' := dstOK_ok hd
          split at h
          · rename_i hg
            obtain ⟨w1, w2⟩ := guardV_ok hg
            rcases opW_ok h with ⟨U, hU, hk⟩ | h
            · obtain ⟨U', hU', hk'⟩ := fork_ok (X := Good C.P o s) (fun U hu => ih1 _ _ hu) hU hk
              exact G_op hU' (fun κ a w hs => want_ok hs w2 w1) hd' hk'
            · exact h
          · rename_i hg
            obtain ⟨w1, w2⟩ := guardV_ok hg
            exact G_op_skip (fun κ a w hs => want_ok hs w2 w1) hd' (ih1 _ _ h)
          · exact h
        · exact h
      · rename_i c k'
        split at h
        · exact G_skip (ih1 _ _ h)
        · exact G_seq (ih1 _ _ h)
        · exact G_block (ih1 _ _ h)
        · exact G_scope (ih1 _ _ h)
        · exact G_label (ih1 _ _ h)
        · split at h
          · exact G_region (ih1 _ _ h)
          · split at h
            · rename_i hd
              exact G_draw hm hd (ih2 _ _ _ _ _ (by simp) h)
            · exact h
        · split at h
          · rename_i b hc
            exact G_cond hc h.1 h.2
          · exact h
        · split at h
          · rename_i hx
            exact G_exit hx (ih1 _ _ h)
          · exact h
        · exact h
    · intro k all done rest s hsplit h
      simp only [execD] at h
      split at h
      · exact DR_nil h.1 (ih1 _ _ h.2)
      · rename_i o rest
        have hi := at_split hsplit
        split at h
        · rename_i hg
          obtain ⟨w1, w2⟩ := guardV_ok hg
          rcases opW_okX h with ⟨U, hU, hk⟩ | h
          · obtain ⟨U', hU', hk'⟩ := fork_ok (X := GoodX C.P o s) (fun U hu => ih2 _ _ _ _ _ (by simp [hsplit]) hu) hU hk
            exact DR_op U' hU' hi w1 hk'
          · exact h
        · rename_i hg
          obtain ⟨w1, w2⟩ := guardV_ok hg
          exact DR_skip hi w1 (ih2 _ _ _ _ _ (by simp [hsplit]) h)
        · exact h

/-- Forks that are decided. -/
theorem aF {p q : Prop} (h : q) : (false = true → p) ∧ (false = false → q) := ⟨fun e => (Bool.false_ne_true e).elim, fun _ => h⟩
theorem aT {p q : Prop} (h : p) : (true = true → p) ∧ (true = false → q) := ⟨fun _ => h, fun e => (Bool.false_ne_true e.symm).elim⟩

/-- Code reckoned: so many steps. -/
theorem run {C : Cx} {k : List KI} {s : SS} (Γ : TyE C.P) (hm : C.P.follows .mixedOrders = true) (n : Nat) (h : exec C Γ n k s) : G C k s := (exec_ok hm n).1 k s h
theorem runD {C : Cx} {k : List KI} {s : SS} {all : Array Oper} {done : List Stp} {rest : List Oper} (Γ : TyE C.P) (hm : C.P.follows .mixedOrders = true) (n : Nat) (hs : all.toList = done.map (·.o) ++ rest) (h : execD C Γ n k all done rest s) : DR C k all done rest s :=
  (exec_ok hm n).2 k all done rest s hs h

/-- Both, far enough. -/
theorem rG {C : Cx} {k : List KI} {s : SS} (Γ : TyE C.P) (hm : C.P.follows .mixedOrders = true) (h : exec C Γ 400 k s) : G C k s := run Γ hm 400 h
theorem rD {C : Cx} {k : List KI} {s : SS} {all : Array Oper} {done : List Stp} {rest : List Oper} (Γ : TyE C.P) (hm : C.P.follows .mixedOrders = true) (hs : all.toList = done.map (·.o) ++ rest) (h : execD C Γ 400 k all done rest s) : DR C k all done rest s := runD Γ hm 400 hs h

/-- At a call (or whatever else is not reckoned): one operation, by a fact about it. -/
theorem stepOp {C : Cx} {k : List KI} {s : SS} {all : Array Oper} {o : Oper} {rest : List Oper} {U : Up} (hg : Good C.P o s U) (hd : dstOK C.n o = true) (hw : guardV C.n all o s = some true) (h : G C (.ops all rest :: k) (s.upd o.dst U)) : G C (.ops all (o :: rest) :: k) s :=
  G_op hg (fun _ _ _ hs => want_ok hs (guardV_ok hw).2 (guardV_ok hw).1) (dstOK_ok hd) h

theorem stepD {C : Cx} {k : List KI} {s : SS} {all : Array Oper} {done : List Stp} {o : Oper} {rest : List Oper} {U : Up} (hg : Good C.P o s U) (hi : all[done.length]? = some o) (hw : guardV C.n all o s = some true)
    (h : DR C k all (done ++ [⟨done.length, o, U, true⟩]) rest (s.upd o.dst U)) (hn : (isIdx o || isSt o) = false := by rfl) : DR C k all done (o :: rest) s := DR_op U (.of hg hn) hi (guardV_ok hw).1 h

/-- The end of a function: its results are so, its objects are so. -/
theorem done {P : Program} {fn : Func} {F : Fr} {R : SV} {H' : Obs} {Γ : Ty P} {n : Nat} {bn : List Nat} {hbn : ∀ k, F.k0 k ≠ .new → k ∈ bn} {k : List KI} {s : SS} {rs : List ResultVar} (hf : fn.results = rs.toArray) {xs : List SV} (hx : ResVs Γ.get s rs xs)
    (ρ : List (Nat × Nat)) (L : Obs) (hL : ∀ p ∈ H', p ∈ L) (hR : R.ren (assocN ρ) = comb xs) (hRn : R.inn L.keys = true) (hsub : Sub ⟨P, Γ, F, n, Post P fn F R H', bn, hbn⟩ s ρ [] L) : G ⟨P, Γ, F, n, Post P fn F R H', bn, hbn⟩ (.code .ret :: k) s :=
  G_ret fun _ _ _ hs => (post_ok hf hx ρ L hL hR hRn hsub hs).1

theorem done_end {P : Program} {fn : Func} {F : Fr} {R : SV} {H' : Obs} {Γ : Ty P} {n : Nat} {bn : List Nat} {hbn : ∀ k, F.k0 k ≠ .new → k ∈ bn} {s : SS} {rs : List ResultVar} (hf : fn.results = rs.toArray) {xs : List SV} (hx : ResVs Γ.get s rs xs)
    (ρ : List (Nat × Nat)) (L : Obs) (hL : ∀ p ∈ H', p ∈ L) (hR : R.ren (assocN ρ) = comb xs) (hRn : R.inn L.keys = true) (hsub : Sub ⟨P, Γ, F, n, Post P fn F R H', bn, hbn⟩ s ρ [] L) : G ⟨P, Γ, F, n, Post P fn F R H', bn, hbn⟩ [] s :=
  G_nil fun _ _ _ hs => (post_ok hf hx ρ L hL hR hRn hsub hs).2

/-- .. of a function that takes and leaves no objects. -/
theorem done0 {P : Program} {fn : Func} {F : Fr} {R : SV} {Γ : Ty P} {n : Nat} {hbn : ∀ k, F.k0 k ≠ .new → k ∈ []} {k : List KI} {s : SS} {rs : List ResultVar} (hf : fn.results = rs.toArray) {xs : List SV} (hx : ResVs Γ.get s rs xs)
    (hR : R = comb xs) (hRn : R.inn [] = true) : G ⟨P, Γ, F, n, Post P fn F R [], [], hbn⟩ (.code .ret :: k) s := by
  have hid : ∀ x : SV, x.ren (assocN []) = x := fun x => ren_id x
  exact done hf hx [] [] (fun _ h => h) (by rw [hid]; exact hR) hRn ⟨trivial, trivial, rfl, rfl⟩

end Go.Sy

namespace Go.Sy

def fieldsOf (P : Program) : List Field → Option (List (Nat × Nat))
  | [] => some []
  | f :: fs => match P.info? f.type, fieldsOf P fs with
    | some i, some r => some ((f.offset, i.size) :: r)
    | _, _ => none

theorem fieldsOf_ok {P : Program} : ∀ {fs : List Field} {r : List (Nat × Nat)}, fieldsOf P fs = some r → fieldsOK P fs r
  | [], r, h => by simp only [fieldsOf, Option.some.injEq] at h; subst h; trivial
  | f :: fs, r, h => by
    simp only [fieldsOf] at h
    split at h
    · rename_i i q hi hq
      simp only [Option.some.injEq] at h
      subst h
      exact ⟨rfl, by rw [hi]; rfl, fieldsOf_ok hq⟩
    · cases h

def tkOf (P : Program) (d : TypeDesc) : Option TK :=
  match d with
  | .bool => some .bool
  | .int k => some (.int k)
  | .string => some .string
  | .slice e => (match P.info? e with
    | some i => (match i.zero with
      | some z => some (.slice e i.size i.bytes z.cells.toList)
      | none => none)
    | none => none)
  | .struct fs => (match fieldsOf P fs.toList with
    | some r => some (.struct r)
    | none => none)
  | .array len e => (match P.info? e with
    | some i => some (.array e len i.size)
    | none => none)
  | .pointer _ => some .ptr
  | .interface _ => some .iface
  | .func _ _ _ => some .func
  | _ => none

theorem tkOf_ok {P : Program} {d : TypeDesc} {k : TK} (h : tkOf P d = some k) : TK.ok P d k := by
  unfold tkOf at h
  split at h
  · cases h; rfl
  · cases h; rfl
  · cases h; rfl
  · split at h
    · rename_i i hi
      split at h
      · rename_i z hz
        cases h
        exact ⟨rfl, i, z, hi, rfl, rfl, hz, rfl⟩
      · cases h
    · cases h
  · split at h
    · rename_i r hr
      cases h
      exact ⟨_, rfl, fieldsOf_ok hr⟩
    · cases h
  · split at h
    · rename_i i hi
      cases h
      exact ⟨rfl, i, hi, rfl⟩
    · cases h
  · cases h; exact ⟨_, rfl⟩
  · cases h; exact ⟨_, rfl⟩
  · cases h; exact ⟨_, _, _, rfl⟩
  · cases h

def tiOf (P : Program) (t : TypeId) : Option TI :=
  match P.underlying t, P.info? t with
  | some d, some info => (match tkOf P d, info.zero with
    | some k, some z => some ⟨k, info.size, z.cells.toList⟩
    | _, _ => none)
  | _, _ => none

theorem tiOf_ok {P : Program} {t : TypeId} {i : TI} (h : tiOf P t = some i) : i.ok P t := by
  unfold tiOf at h
  split at h
  · rename_i d info hd hi
    split at h
    · rename_i k z hk hz
      cases h
      exact ⟨d, info, z, hd, tkOf_ok hk, hi, rfl, hz, rfl⟩
    · cases h
  · cases h

/-- A table, as a tree. -/
inductive Tr (α : Type) | lf | nd (k : Nat) (v : α) (l r : Tr α)
def Tr.look {α : Type} (t : Nat) : Tr α → Option α
  | .lf => none
  | .nd k v l r => bif Nat.beq t k then some v else bif Nat.blt t k then l.look t else r.look t

def Tr.all {α : Type} (p : Nat → α → Prop) : Tr α → Prop
  | .lf => True
  | .nd k v l r => p k v ∧ l.all p ∧ r.all p

theorem Tr.look_ok {α : Type} {p : Nat → α → Prop} {t : Nat} {v : α} : ∀ {T : Tr α}, T.all p → T.look t = some v → p t v
  | .lf, _, h => by cases h
  | .nd k u l r, ha, h => by
    simp only [Tr.look, Bool.cond_eq_ite] at h
    split at h
    · rename_i hb
      have := Nat.eq_of_beq_eq_true hb
      subst this
      simp only [Option.some.injEq] at h
      subst h
      exact ha.1
    · split at h
      · exact Tr.look_ok ha.2.1 h
      · exact Tr.look_ok ha.2.2 h

def ekOf (P : Program) (t : TypeId) : Option EK :=
  match P.underlying t with
  | some (.int k) => some (.int k)
  | some .bool => some .bool
  | some .string => some .string
  | _ => none

def eksOf (P : Program) : Nat → List Field → Option (List EK)
  | _, [] => some []
  | i, f :: fs => match ekOf P f.type, eksOf P (i + 1) fs with
    | some k, some r => if f.name ≠ "_" ∧ f.offset = i then some (k :: r) else none
    | _, _ => none

theorem eksOf_ok {P : Program} : ∀ {fs : List Field} {i : Nat} {r : List EK}, eksOf P i fs = some r → eqFs P i fs r
  | [], i, r, h => by simp only [eksOf, Option.some.injEq] at h; subst h; trivial
  | f :: fs, i, r, h => by
    simp only [eksOf] at h
    split at h
    · rename_i k q hk hq
      split at h
      · rename_i hc
        cases h
        refine ⟨hc.1, hc.2, ?_, eksOf_ok hq⟩
        unfold ekOf at hk
        split at hk <;> first | (cases hk; assumption) | cases hk
      · cases h
    · cases h

def eqsOf (P : Program) (t : TypeId) : Option (List EK) :=
  match P.underlying t with
  | some (.struct fs) => if P.stoodInHeld t = false ∧ P.eqGuardType P.depth t = false then eksOf P 0 fs.toList else none
  | _ => none

theorem eqsOf_ok {P : Program} {t : TypeId} {r : List EK} (h : eqsOf P t = some r) : EqOK P t r := by
  unfold eqsOf at h
  split at h
  · rename_i fs hfs
    split at h
    · rename_i hc
      have hf : P.fieldsOf t = fs := by simp [Program.fieldsOf, hfs]
      exact ⟨by rw [hf]; exact hfs, hc.1, hc.2, by rw [hf]; exact eksOf_ok h⟩
    · cases h
  · cases h

def bodyOf (fn : Func) : Code := fn.body.getD .skip

end Go.Sy

namespace Go.Sy

def lenLe {α : Type 1} : List α → Nat → Bool
  | [], _ => true
  | _ :: _, 0 => false
  | _ :: l, n + 1 => lenLe l n

theorem lenLe_ok {α : Type 1} : ∀ {l : List α} {n : Nat}, lenLe l n = true → l.length ≤ n
  | [], _, _ => Nat.zero_le _
  | _ :: _, 0, h => by cases h
  | _ :: l, n + 1, h => Nat.succ_le_succ (lenLe_ok (l := l) h)

/-- A function's contract, by reckoning its code. -/
theorem contract {P : Program} (Γ : TyE P) (hm : P.follows .mixedOrders = true) (N : Nat) {f : FuncId} {fn : Func} {c : Code} {A : List SV} {H : Obs} {R : SV} {H' : Obs} (hF : Fun P f fn c) {n : Nat} (hn' : fn.ntmps = n) (hn : lenLe A n = true)
    (h : ∀ (F : Fr) (hF : ∀ k, F.k0 k ≠ .new → k ∈ H.keys), exec ⟨P, Γ.toTy, F, n, Post P fn F R H', H.keys, hF⟩ Γ N [.code c] ⟨argσ A, mkh H⟩) : Sy.Spec P f A H R H' :=
  spec_of_G Γ.toTy hF.1 hF.2 hn' (lenLe_ok hn) fun F hF => run Γ hm N (h F hF)

variable {C : Cx} {k : List KI} {s : SS}

/-- A call that takes no objects and makes none. -/
theorem call0 {all : Array Oper} {o : Oper} {rest : List Oper} {f : FuncId} {fn : Func} {c : Code} {xs : List Operand} {ts : Array TypeId} {A : List SV} {R : SV} (hs : Sy.Spec C.P f A [] R []) (hf : Fun C.P f fn c) (h : o.op = .call ⟨.value (.func f), xs.toArray, ts⟩)
    (hA : A = xs.map (ev s)) (hok : (innL [] A && R.inn []) = true) (hd : dstOK C.n o = true) (hw : guardV C.n all o s = some true) (hg : G C (.ops all rest :: k) (s.upd o.dst ⟨R, [], []⟩)) : G C (.ops all (o :: rest) :: k) s := by
  have hid : ∀ x : SV, x.ren (assocN []) = x := fun x => ren_id x
  have hidL : ∀ x : List SV, renL (assocN []) x = x := fun x => renL_id x
  have := good_call (s := s) (o := o) [] h hf hs (by rw [hidL]; exact hA) trivial (by simp_all [callOK, rhoOK, subN, Obs.keys]) trivial
  rw [hid] at this
  exact stepOp this hd hw hg

/-- The same, among operations that draw their order. -/
theorem callD0 {all : Array Oper} {done : List Stp} {o : Oper} {rest : List Oper} {f : FuncId} {fn : Func} {c : Code} {xs : List Operand} {ts : Array TypeId} {A : List SV} {R : SV} (hs : Sy.Spec C.P f A [] R []) (hf : Fun C.P f fn c) (h : o.op = .call ⟨.value (.func f), xs.toArray, ts⟩)
    (hA : A = xs.map (ev s)) (hok : (innL [] A && R.inn []) = true) (hi : all[done.length]? = some o) (hw : guardV C.n all o s = some true) (hg : DR C k all (done ++ [⟨done.length, o, ⟨R, [], []⟩, true⟩]) rest (s.upd o.dst ⟨R, [], []⟩)) : DR C k all done (o :: rest) s := by
  have hid : ∀ x : SV, x.ren (assocN []) = x := fun x => ren_id x
  have hidL : ∀ x : List SV, renL (assocN []) x = x := fun x => renL_id x
  have := good_call (s := s) (o := o) [] h hf hs (by rw [hidL]; exact hA) trivial (by simp_all [callOK, rhoOK, subN, Obs.keys]) trivial
  rw [hid] at this
  exact stepD this hi hw hg (by simp [isIdx, isSt, h])

/-- A call of a pure function, to which owned rows are lent. -/
theorem callK {all : Array Oper} {o : Oper} {rest : List Oper} (V : List Nat) {f : FuncId} {fn : Func} {c : Code} {xs : List Operand} {ts : Array TypeId} {A : List SV} {R : SV} (hs : Sy.Spec C.P f A [] R []) (hf : Fun C.P f fn c) (h : o.op = .call ⟨.value (.func f), xs.toArray, ts⟩)
    (hA : VwL s V (xs.map (ev s)) A) (hok : (innL [] A && R.plain) = true) (hd : dstOK C.n o = true) (hw : guardV C.n all o s = some true) (hg : G C (.ops all rest :: k) (s.upd o.dst ⟨R, V, []⟩)) : G C (.ops all (o :: rest) :: k) s := by
  simp only [Bool.and_eq_true] at hok
  exact stepOp (good_callK V h hf hs hA hok.1 hok.2) hd hw hg

/-- A function that takes no objects and makes none: it is there, and does so. -/
def FunS (P : Program) (f : FuncId) (A : List SV) (R : SV) : Prop := (∃ fn c, Fun P f fn c) ∧ Sy.Spec P f A [] R []

theorem call0E {all : Array Oper} {o : Oper} {rest : List Oper} {f : FuncId} {B A : List SV} {R : SV} (hE : Enters C.P o s [] f B) (hs : Sy.Spec C.P f A [] R [])
    (hA : A = B) (hok : (innL [] A && R.inn []) = true) (hd : dstOK C.n o = true) (hw : guardV C.n all o s = some true) (hg : G C (.ops all rest :: k) (s.upd o.dst ⟨R, [], []⟩)) : G C (.ops all (o :: rest) :: k) s := by
  have hid : ∀ x : SV, x.ren (assocN []) = x := fun x => ren_id x
  have hidL : ∀ x : List SV, renL (assocN []) x = x := fun x => renL_id x
  have := good_callE (s := s) (o := o) [] hE hs (by rw [hidL]; exact hA) trivial (by simp_all [callOK, rhoOK, subN, Obs.keys]) trivial
  rw [hid] at this
  exact stepOp this hd hw hg

/-- A call of a function value. -/
theorem callC {all : Array Oper} {o : Oper} {rest : List Oper} {f : FuncId} {x : Operand} {xs : List Operand} {ts : Array TypeId} {first cap A : List SV} {R : SV} (hs : FunS C.P f A R) (h : o.op = .call ⟨.value x, xs.toArray, ts⟩) (hx : ev s x = .clo (.func f) first cap)
    (hA : A = first ++ xs.map (ev s) ++ cap) (hok : (innL [] A && R.inn []) = true) (hd : dstOK C.n o = true) (hw : guardV C.n all o s = some true) (hg : G C (.ops all rest :: k) (s.upd o.dst ⟨R, [], []⟩)) : G C (.ops all (o :: rest) :: k) s := by
  obtain ⟨⟨fn, c, hf⟩, hs⟩ := hs
  exact call0E (enters_clo h hx hf) hs hA hok hd hw hg

theorem call0DE {all : Array Oper} {done : List Stp} {o : Oper} {rest : List Oper} {f : FuncId} {B A : List SV} {R : SV} (hE : Enters C.P o s [] f B) (hn : (isIdx o || isSt o) = false) (hs : Sy.Spec C.P f A [] R [])
    (hA : A = B) (hok : (innL [] A && R.inn []) = true) (hi : all[done.length]? = some o) (hw : guardV C.n all o s = some true) (hg : DR C k all (done ++ [⟨done.length, o, ⟨R, [], []⟩, true⟩]) rest (s.upd o.dst ⟨R, [], []⟩)) : DR C k all done (o :: rest) s := by
  have hid : ∀ x : SV, x.ren (assocN []) = x := fun x => ren_id x
  have hidL : ∀ x : List SV, renL (assocN []) x = x := fun x => renL_id x
  have := good_callE (s := s) (o := o) [] hE hs (by rw [hidL]; exact hA) trivial (by simp_all [callOK, rhoOK, subN, Obs.keys]) trivial
  rw [hid] at this
  exact stepD this hi hw hg hn

theorem callDC {all : Array Oper} {done : List Stp} {o : Oper} {rest : List Oper} {f : FuncId} {x : Operand} {xs : List Operand} {ts : Array TypeId} {first cap A : List SV} {R : SV} (hs : FunS C.P f A R) (h : o.op = .call ⟨.value x, xs.toArray, ts⟩) (hx : ev s x = .clo (.func f) first cap)
    (hA : A = first ++ xs.map (ev s) ++ cap) (hok : (innL [] A && R.inn []) = true) (hi : all[done.length]? = some o) (hw : guardV C.n all o s = some true) (hg : DR C k all (done ++ [⟨done.length, o, ⟨R, [], []⟩, true⟩]) rest (s.upd o.dst ⟨R, [], []⟩)) : DR C k all done (o :: rest) s := by
  obtain ⟨⟨fn, c, hf⟩, hs⟩ := hs
  exact call0DE (enters_clo h hx hf) (by simp [isIdx, isSt, h]) hs hA hok hi hw hg

theorem callDK {all : Array Oper} {done : List Stp} {o : Oper} {rest : List Oper} (V : List Nat) {f : FuncId} {fn : Func} {c : Code} {xs : List Operand} {ts : Array TypeId} {A : List SV} {R : SV} (hs : Sy.Spec C.P f A [] R []) (hf : Fun C.P f fn c) (h : o.op = .call ⟨.value (.func f), xs.toArray, ts⟩)
    (hA : VwL s V (xs.map (ev s)) A) (hok : (innL [] A && R.plain) = true) (hi : all[done.length]? = some o) (hw : guardV C.n all o s = some true) (hg : DR C k all (done ++ [⟨done.length, o, ⟨R, V, []⟩, true⟩]) rest (s.upd o.dst ⟨R, V, []⟩)) : DR C k all done (o :: rest) s := by
  simp only [Bool.and_eq_true] at hok
  exact stepD (good_callK V h hf hs hA hok.1 hok.2) hi hw hg (by simp [isIdx, isSt, h])

end Go.Sy

namespace Go.Sy

/-- copy of nothing. -/
theorem copy_none {P : Program} (w : World) (dT sT ty elem : TypeId) (d a : Option Addr) (dLen dCap sLen sCap : Nat) {i : TypeInfo} (hu : P.underlying dT = some (.slice elem)) (hq : P.info? elem = some i) (_hi : i.size = 1) (hn : min sLen dLen = 0) :
    (Builtin.copy_ #[dT, sT] ty #[.slice d dLen dCap, .slice a sLen sCap]).run P w = .ok (.int .i64 0) w := by
  have hl : ∀ (x : Addr), (loadCells x 0).run P w = .ok #[] w := fun x => by simpa using run_loadCells_list (P := P) w x [] (by simp)
  have hn' : Nat.min sLen dLen = 0 := hn
  cases d <;> cases a <;> simp [Builtin.copy_, run_underlying hu, Builtin.lenOf, Builtin.firstCells, sizeOf, typeInfo, hq, hn', storeCells, hl] <;> rfl

theorem copy_some {P : Program} (w w' : World) (dT sT ty elem : TypeId) (d a : Addr) (dLen dCap sLen sCap : Nat) {i : TypeInfo} (cs : List Value) (hu : P.underlying dT = some (.slice elem)) (hq : P.info? elem = some i) (hi : i.size = 1) (hn : cs.length = min sLen dLen)
    (hsrc : ∀ j v, cs[j]? = some v → w.cell? (a.add j) = some v) (hst : (storeCells d cs 0).run P w = .ok () w') :
    (Builtin.copy_ #[dT, sT] ty #[.slice (some d) dLen dCap, .slice (some a) sLen sCap]).run P w = .ok (.int .i64 cs.length) w' := by
  have hl := run_loadCells_list (P := P) w a cs hsrc
  have hn' : cs.length = Nat.min sLen dLen := hn
  simp [Builtin.copy_, run_underlying hu, Builtin.lenOf, Builtin.firstCells, sizeOf, typeInfo, hq, hi, ← hn', hl, hst]
  rfl

theorem good_copy {P : Program} (Γ : Ty P) {o : Oper} {s : SS} {t : TypeId} {ti : TI} {et : TypeId} {eb k : Nat} {ez : List Value} {x y : Operand} {ks : List Nat} {α : Type} {e : α → SV} {l m : List α}
    (h : o.op = .call ⟨.builtin .copy, #[x, y], #[t, t]⟩) (ht : Γ.get t = some ti) (hk : ti.k = .slice et 1 eb ez) (hx : ev s x = .osl k) (ho' : s.h k = .row 1 e l) (hs : AppSrc s 1 (ev s y) ks m.length (rowF e m)) :
    Good P o s ⟨.val (.int .i64 (min m.length l.length : Nat)), ks, [(k, .row 1 e (m.take l.length ++ l.drop m.length))]⟩ := by
  intro κ a w hi hr ho N Q hN
  have h1 := hr x (by simp [h, Op.operands, Call.operands])
  have h2 := hr y (by simp [h, Op.operands, Call.operands])
  have h3 := ho k (.inr (by simp [Up.ws]))
  rw [ho'] at h3
  obtain ⟨hu, i, z, q1, q2, q3, q4, q5⟩ := slice_elem Γ ht hk
  have hsrc := hs.src h2 (fun j hj => ho j (.inl hj))
  have hlen : ∃ ad cap, a.eval x = .slice ad l.length cap ∧ (l ≠ [] → ∃ b c, κ k = .row b l.length c ∧ ad = some ⟨b, 0, none⟩) := by
    have := Ob.len_ok (ob := .row 1 e l) (n := l.length) rfl h3 (v := a.eval x) (by rw [← hx]; exact h1)
    obtain ⟨ad, cap, e1, e2⟩ := this
    exact ⟨ad, cap, e1, fun hl => e2 (by simpa using hl)⟩
  obtain ⟨ad, cap, e1, e2⟩ := hlen
  by_cases hz : min m.length l.length = 0
  · have hsame : m.take l.length ++ l.drop m.length = l := by
      rcases Nat.eq_zero_or_pos m.length with h0 | h0
      · have : m = [] := List.length_eq_zero_iff.1 h0
        subst this
        simp
      · have : l = [] := List.length_eq_zero_iff.1 (by omega)
        subst this
        simp
    have hsl : ∃ a' c', a.eval y = .slice a' m.length c' := by
      rcases hsrc with ⟨h0, _, a', c', h4⟩ | ⟨b, off, c', news, h4, _⟩
      · exact ⟨a', c', by rw [h4, h0]⟩
      · exact ⟨_, _, h4⟩
    obtain ⟨a', c', h4⟩ := hsl
    have hrun : (execOp a.eval o).run P w = .ok (.value (.int .i64 (min m.length l.length : Nat))) w := by
      have := copy_none (P := P) w t t o.type et ad a' l.length cap m.length c' hu q1 q2 hz
      rw [hz]
      simp [execOp, h, resolve, invoke, builtin, e1, h4, this]
    simp only [Oper.wp, hrun, Oper.upon]
    refine hN _ κ w ((step_killL [] κ hi).1.weaken (by simp)) hi (by simp [Rd]) (fun p hp => ?_)
    simp only [List.mem_singleton] at hp
    subst hp
    rw [hsame]
    exact h3
  · have hl : l ≠ [] := by rintro rfl; simp at hz
    have h4 := h3.rowAt hl
    obtain ⟨b, cap', cs, T, fr, f1, f2, f3, f4, f5, f6⟩ := h4
    obtain ⟨b', c', g1, g2⟩ := e2 hl
    rw [f1] at g1
    cases g1
    rcases hsrc with ⟨h0, _⟩ | ⟨b2, off, c2, news, g3, g4, g5, g6, g7⟩
    · simp [h0] at hz
    · have hn : (news.take (min m.length l.length)).length = min m.length l.length := by simp; omega
      obtain ⟨w', k1, k2, k3, k4, k5, k6, k7⟩ := run_storeCells_nf P b 0 T fr (news.take (min m.length l.length)) 0 cs w f2 f3 (by rw [hn]; omega) (fun v hv => g5 v (List.mem_of_mem_take hv))
      have hc := copy_some (P := P) w w' t t o.type et ⟨b, 0, none⟩ ⟨b2, off, none⟩ l.length cap m.length c2 (news.take (min m.length l.length)) hu q1 q2 hn (fun j v hv => by
        rw [Addr.add_lit]
        refine g6 j v ?_
        rw [List.getElem?_take] at hv
        split at hv
        · exact hv
        · cases hv) k1
      rw [hn] at hc
      have hrun : (execOp a.eval o).run P w = .ok (.value (.int .i64 (min m.length l.length : Nat))) w' := by
        subst g2
        simp [execOp, h, resolve, invoke, builtin, e1, g3, hc]
      simp only [Oper.wp, hrun, Oper.upon]
      obtain ⟨st, inv⟩ := step_write hi (k := k) (b := b) (by rw [f1]; rfl) k3 k4 k5 k6 k7
      refine hN _ κ w' (st.weaken (by simp [Up.ws])) inv (by simp [Rd]) (fun p hp => ?_)
      simp only [List.mem_singleton] at hp
      subst hp
      have hll : (m.take l.length ++ l.drop m.length).length = l.length := by simp; omega
      refine .inr ⟨b, cap', _, T, fr, by rw [hll]; exact f1, k2, by rw [setV_length]; exact f3, by rw [setV_length]; exact f4, by rw [hll]; exact f5, ?_⟩
      rintro j x ⟨hj, rfl⟩
      rw [hll] at hj
      refine ⟨by rw [hll]; exact hj, ?_⟩
      have hset := setV_get cs (news.take (min m.length l.length)) 0
      by_cases hjm : j < m.length
      · obtain ⟨_, u, u1, u2, u3, u4⟩ := g7 j (e m[j]) ⟨hjm, rfl⟩
        refine ⟨u, ?_, u2, u3, fun i hi' => ?_⟩
        · have : (m.take l.length ++ l.drop m.length)[j] = m[j] := by
            rw [List.getElem_append_left (by simp; omega), List.getElem_take]
          rw [this]
          exact RdD.keep st.keeps _ _ u1
        · have hi0 : i = 0 := by omega
          subst hi0
          simp only [Nat.mul_one, Nat.add_zero] at u4 ⊢
          rw [hset _ (by omega), if_pos (by omega), List.getElem?_take, if_pos (by omega)]
          have := u4 0 (by omega)
          simpa using this
      · obtain ⟨_, u, u1, u2, u3, u4⟩ := f6 j (e l[j]) ⟨hj, rfl⟩
        refine ⟨u, ?_, u2, u3, fun i hi' => ?_⟩
        · have : (m.take l.length ++ l.drop m.length)[j]'(by rw [hll]; exact hj) = l[j] := by
            rw [List.getElem_append_right (by simp; omega), List.getElem_drop]
            congr 1
            simp; omega
          rw [this]
          exact RdD.keep st.keeps _ _ u1
        · have hi0 : i = 0 := by omega
          subst hi0
          simp only [Nat.mul_one, Nat.add_zero] at u4 ⊢
          rw [hset _ (by omega), if_neg (by omega)]
          have := u4 0 (by omega)
          simpa using this

/-! ### Loops that count -/
def CountInv (C : Cx) (n : Nat) (L : Nat → List (Nat × SV)) (O : Nat → Obs) (i : Nat) (a : Act) (w : World) : Prop :=
  ∃ x' : {j : Nat // j ≤ n}, ∃ κ, n - x'.1 < n - i ∧ St C.F C.n (mkS (L x'.1) (O x'.1)) κ a w

theorem G_count {C : Cx} {k : List KI} {s : SS} {body : Code} (n : Nat) (L : Nat → List (Nat × SV)) (O : Nat → Obs) (ρ : List (Nat × Nat)) (hsub : Sub C s ρ (L 0) (O 0))
    (h : ∀ i, i ≤ n → G C (.code body :: .inv (CountInv C n L O i) :: k) (mkS (L i) (O i))) : G C (.code (.loop body) :: k) s :=
  G_loop (α := {j : Nat // j ≤ n}) (fun x => L x.1) (fun x => O x.1) (fun x => n - x.1) ⟨0, Nat.zero_le _⟩ ρ hsub (fun x => h x.1 x.2)

theorem G_next {C : Cx} {k : List KI} {s : SS} {n : Nat} {L : Nat → List (Nat × SV)} {O : Nat → Obs} {i : Nat} (ρ : List (Nat × Nat)) (hi : i + 1 ≤ n) (hsub : Sub C s ρ (L (i + 1)) (O (i + 1))) : G C (.inv (CountInv C n L O i) :: k) s :=
  G_inv (α := {j : Nat // j ≤ n}) (L := fun x => L x.1) (O := fun x => O x.1) (μ := fun x => n - x.1) (x := ⟨i, by omega⟩) ⟨i + 1, hi⟩ ρ (by simp only; omega) hsub

end Go.Sy

namespace Go.Sy

inductive SrcT {α : Type} (s : SS) (sz : Nat) (e : α → SV) : SV → List Nat → List α → Prop
  | sl {l : List α} : SrcT s sz e (.sl sz e l) [] l
  | row {k : Nat} {l : List α} (h : s.h k = .row sz e l) : SrcT s sz e (.osl k) [k] l
  | lit {k : Nat} {l : List α} {svs : List SV} (h : s.h k = .lit sz svs) (hl : l.map e = svs) : SrcT s sz e (.osl k) [k] l
  | nil : SrcT s sz e (.val (.slice none 0 0)) [] []

inductive BaseT {α : Type} (s : SS) (sz : Nat) (e : α → SV) : SV → Option Nat → List α → Prop
  | nil : BaseT s sz e (.val (.slice none 0 0)) none []
  | row {k : Nat} {l : List α} (h : s.h k = .row sz e l) : BaseT s sz e (.osl k) (some k) l
  | lit {k : Nat} {l : List α} {svs : List SV} (h : s.h k = .lit sz svs) (hl : l.map e = svs) : BaseT s sz e (.osl k) (some k) l

theorem SrcT.src {α : Type} {s : SS} {sz : Nat} {e : α → SV} {x : SV} {ks : List Nat} {m : List α} (h : SrcT s sz e x ks m) : ∃ g, AppSrc s sz x ks m.length g ∧ ∀ i x, rowF e m i x → g i x := by
  cases h with
  | sl => exact ⟨_, .sl, fun _ _ h => h⟩
  | row h => exact ⟨_, .row h, fun _ _ h => h⟩
  | @lit k _ svs h hl => exact ⟨litF svs, by have := AppSrc.lit (sz := sz) h; rwa [← hl, List.length_map, hl] at this, fun i x hx => rowF_lit hl i x hx⟩
  | nil => exact ⟨_, .nil, fun i x hx => by obtain ⟨h, _⟩ := hx; simp at h⟩

theorem BaseT.base {α : Type} {s : SS} {sz : Nat} {e : α → SV} {x : SV} {k : Option Nat} {m : List α} (h : BaseT s sz e x k m) : ∃ g, AppBase s sz x k m.length g ∧ ∀ i x, rowF e m i x → g i x := by
  cases h with
  | row h => exact ⟨_, .row h, fun _ _ h => h⟩
  | @lit k _ svs h hl => exact ⟨litF svs, by have := AppBase.lit (sz := sz) h; rwa [← hl, List.length_map, hl] at this, fun i x hx => rowF_lit hl i x hx⟩
  | nil => exact ⟨_, .nil, fun i x hx => by obtain ⟨h, _⟩ := hx; simp at h⟩

theorem good_appendT {P : Program} (Γ : Ty P) {o : Oper} {s : SS} (d : Nat) {α : Type} {e : α → SV} {l m : List α} {t : TypeId} {ti : TI} {et : TypeId} {sz eb : Nat} {ez : List Value} {x y : Operand} {k : Option Nat} {ks : List Nat}
    (h : o.op = .call ⟨.builtin .append, #[x, y], #[t, t]⟩) (hd : s.h d = .fresh) (ht : Γ.get t = some ti) (hk : ti.k = .slice et sz eb ez) (hez : ez.length = sz)
    (hb : BaseT s sz e (ev s x) k l) (hs : SrcT s sz e (ev s y) ks m) (hkk : ∀ j, k = some j → j ≠ d) (hbytes : (l.length + m.length) * eb ≤ 140737488355328) (h63 : l.length + m.length ≤ 9223372036854775807) :
    Good P o s ⟨.osl d, ks, appObjs k d (.row sz e (l ++ m))⟩ := by
  obtain ⟨f, hb, hf⟩ := hb.base
  obtain ⟨g, hs, hg⟩ := hs.src
  exact good_append Γ h hd ht hk hez hb hs hkk hbytes h63 fun κ w hr => appF_row hr (by simp) (rowF_app hf hg)

theorem AppSrc.of_row {α : Type} {s : SS} {sz : Nat} {e : α → SV} {x : SV} {ks : List Nat} {m : List α} (h : SrcT s sz e x ks m) (hlit : ∀ k svs, x = .osl k → s.h k ≠ .lit sz svs) : AppSrc s sz x ks m.length (rowF e m) ∨ (x = .val (.slice none 0 0) ∧ m = []) := by
  cases h with
  | sl => exact .inl .sl
  | row h => exact .inl (.row h)
  | lit h hl => exact absurd h (hlit _ _ rfl)
  | nil => exact .inr ⟨rfl, rfl⟩

theorem good_stringT {P : Program} (Γ : Ty P) {o : Oper} {s : SS} {src dst : TypeId} {si di ei : TI} {x : Operand} {et : TypeId} {eb : Nat} {ez : List Value} {ks : List Nat} {bs : List UInt8} (h : o.op = .convert src dst x)
    (hs : Γ.get src = some si) (hsk : si.k = .slice et 1 eb ez) (he : Γ.get et = some ei) (hek : ei.k = .int .u8) (hd : Γ.get dst = some di) (hdk : di.k = .string) (hx : SrcT s 1 byteSV (ev s x) ks bs) :
    Good P o s ⟨strSV ⟨bs.toArray⟩, ks, []⟩ := by
  obtain ⟨g, hx, hg⟩ := hx.src
  exact good_bytes_string Γ bs h hs hsk he hek hd hdk hx rfl (fun i hi => hg i _ ⟨hi, rfl⟩)

/-- A row goes over to another name; the old name is given up. -/
theorem G_move {C : Cx} {kk : List KI} {s : SS} (k d : Nat) (r : List Nat) {sz : Nat} {α : Type} {e : α → SV} {l : List α} (h : s.h k = .row sz e l) (hd : s.h d = .fresh) (hkd : k ≠ d) (hr : ∀ i ∈ r, s.σ i = .osl k)
    (hg : G C kk ⟨freezeσ s.σ (.osl d) r, upd (upd s.h k .non) d (.row sz e l)⟩) : G C kk s := fun κ a w hs => by
  have hob := hs.obj k
  rw [h] at hob
  have hnew : κ d = .new := by have := hs.obj d; rwa [hd] at this
  have fin : ∀ κ' : Ka, Step (fun j => j = k ∨ j = d) κ w κ' w → Inv κ' w → (∀ v, Rd κ w (.osl k) v → Rd κ' w (.osl d) v) → ObOK κ' w d (.row sz e l) → den C.P C.B kk .normal a w := by
    intro κ' st inv hv ho
    refine hg κ' a w ⟨hs.defers, hs.size, inv, hs.ctx.step inv st, fun j => ?_, fun j => ?_⟩
    · refine freezeσ_ok r _ j (Rd.step st _ _ (hs.slot j)) (fun hj => hv _ ?_)
      have := hs.slot j
      rwa [hr j hj] at this
    · show ObOK _ w j (upd (upd s.h k .non) d (.row sz e l) j)
      by_cases hj : j = d
      · subst hj; rw [upd_self]; exact ho
      · rw [upd_ne _ _ hj]
        by_cases hj2 : j = k
        · subst hj2; rw [upd_self]; trivial
        · rw [upd_ne _ _ hj2]; exact ObOK.step st (fun e => e.elim hj2 hj) _ (hs.obj j)
  rcases hob with ⟨h1, rfl⟩ | ⟨b, cap, cs, T, fr, e1, e2, e3, e4, e5, e6⟩
  · have st := step_new (inv_kill hs.inv (some k)) (by show setK κ k .dead d = .new; rw [setK_ne _ _ (Ne.symm hkd)]; exact hnew) (e := .nil) (Grew.refl w) (fun b hb => by cases hb)
    refine fin _ (((step_kill (some k)).weaken (fun j hj => .inl (Option.some.inj hj).symm)).trans (st.1.weaken (fun j hj => .inr hj))) st.2 (fun v hv => ?_) (.inl ⟨setK_self _ _ _, rfl⟩)
    simp only [Rd, h1] at hv
    simp [Rd, setK_self, hv]
  · obtain ⟨st, inv⟩ := step_over (n' := l.length) (w' := w) hs.inv e1 hnew rfl rfl rfl rfl (fun _ _ => rfl)
    refine fin _ st inv (fun v hv => ?_) (.inr ⟨b, cap, cs, T, fr, setK_self _ _ _, e2, e3, e4, e5, fun i x hx => ?_⟩)
    · simp only [Rd, e1] at hv
      simp [Rd, setK_self, hv]
    · obtain ⟨q1, u, q2, q3⟩ := e6 i x hx
      exact ⟨q1, u, RdD.keep st.keeps _ _ q2, q3⟩

mutual
/-- The name d is given up for data. -/
def frz (d : Nat) (x : SV) : SV → SV
  | .osl k => bif Nat.beq k d then x else .osl k
  | .agg l => .agg (frzL d x l)
  | .tup l => .tup (frzL d x l)
  | .ifc t y => .ifc t (frz d x y)
  | .clo f g l => .clo f (frzL d x g) (frzL d x l)
  | y => y
def frzL (d : Nat) (x : SV) : List SV → List SV
  | [] => []
  | y :: l => frz d x y :: frzL d x l
end

mutual
theorem frz_ok {κ κ' : Ka} {w : World} {K : Nat → Prop} {d : Nat} {x : SV} (st : Step K κ w κ' w) (hx : ∀ v, Rd κ w (.osl d) v → Rd κ' w x v) : ∀ (y : SV) (v : Value), Rd κ w y v → Rd κ' w (frz d x y) v
  | .osl k, v, h => by
    unfold frz
    by_cases hk : k = d
    · subst hk; rw [show Nat.beq k k = true from Nat.beq_refl k]; exact hx v h
    · rw [show Nat.beq k d = false from by cases hb : Nat.beq k d with | false => rfl | true => exact absurd (Nat.eq_of_beq_eq_true hb) hk]; exact Rd.step st _ _ h
  | .agg l, v, h => by
    simp only [Rd] at h
    unfold frz
    simp only [Rd]
    obtain ⟨cs, h1, h2, h3⟩ := h
    exact ⟨cs, h1, h2, frzL_ok st hx l cs h3⟩
  | .tup l, v, h => by
    simp only [Rd] at h
    unfold frz
    simp only [Rd]
    obtain ⟨cs, h1, h3⟩ := h
    exact ⟨cs, h1, frzL_ok st hx l cs h3⟩
  | .ifc t y, v, h => by
    simp only [Rd] at h
    unfold frz
    simp only [Rd]
    obtain ⟨u, h1, h3⟩ := h
    exact ⟨u, h1, frz_ok st hx y u h3⟩
  | .clo f g l, v, h => by
    simp only [Rd] at h
    unfold frz
    simp only [Rd]
    obtain ⟨fs, cs, h1, h2, h3⟩ := h
    exact ⟨fs, cs, h1, frzL_ok st hx g fs h2, frzL_ok st hx l cs h3⟩
  | .top, v, h => by unfold frz; exact Rd.step st _ _ h
  | .val u, v, h => by unfold frz; exact Rd.step st _ _ h
  | .sl sz e l, v, h => by unfold frz; exact Rd.step st _ _ h
  | .ref sz z o, v, h => by unfold frz; exact Rd.step st _ _ h
  | .ptr k o, v, h => by unfold frz; exact Rd.step st _ _ h
  | .rpt k sz i o, v, h => by unfold frz; exact Rd.step st _ _ h
theorem frzL_ok {κ κ' : Ka} {w : World} {K : Nat → Prop} {d : Nat} {x : SV} (st : Step K κ w κ' w) (hx : ∀ v, Rd κ w (.osl d) v → Rd κ' w x v) : ∀ (l : List SV) (vs : List Value), RdL κ w l vs → RdL κ' w (frzL d x l) vs
  | [], vs, h => by
    unfold frzL
    simpa [RdL] using h
  | y :: l, vs, h => by
    simp only [RdL] at h
    unfold frzL
    simp only [RdL]
    obtain ⟨v, r, h1, h2, h3⟩ := h
    exact ⟨v, r, h1, frz_ok st hx y v h2, frzL_ok st hx l r h3⟩
end

def frzO (d : Nat) (x : SV) : Ob → Ob
  | .box l => .box (frzL d x l)
  | o => o

/-- An owned row becomes data, wherever it is held. -/
theorem G_data {C : Cx} {k : List KI} {s : SS} (d : Nat) {sz : Nat} {α : Type} {e : α → SV} {l : List α} (h : s.h d = .row sz e l) (hg : G C k ⟨fun i => frz d (.sl sz e l) (s.σ i), fun j => bif Nat.beq j d then .non else frzO d (.sl sz e l) (s.h j)⟩) : G C k s := fun κ a w hs => by
  have hob := hs.obj d
  rw [h] at hob
  have st := step_kill (κ := κ) (w := w) (some d)
  have inv := inv_kill hs.inv (some d)
  have hx : ∀ v, Rd κ w (.osl d) v → Rd (setK κ d .dead) w (.sl sz e l) v := fun v hv => by
    rcases hob with ⟨h1, rfl⟩ | h1
    · simp only [Rd, h1] at hv
      simp only [Rd, RdD]
      exact .inl ⟨by simp, none, 0, hv⟩
    · refine h1.freeze hv st.keeps.out (fun b hb => ⟨hs.inv.bnd d b hb, ?_⟩)
      rintro (⟨q, hq⟩ | hq)
      · by_cases hqd : q = d
        · subst hqd; rw [setK_self] at hq; cases hq
        · rw [setK_ne _ _ hqd] at hq
          exact hqd (hs.inv.inj q d b hq hb)
      · exact hs.inv.apart d b hb hq
  refine hg (setK κ d .dead) a w ⟨hs.defers, hs.size, inv, hs.ctx.step inv st, fun j => frz_ok st hx _ _ (hs.slot j), fun j => ?_⟩
  show ObOK _ w j (bif Nat.beq j d then .non else frzO d (.sl sz e l) (s.h j))
  by_cases hj : j = d
  · subst hj; rw [show Nat.beq j j = true from Nat.beq_refl j]; trivial
  · rw [show Nat.beq j d = false from by cases hb : Nat.beq j d with | false => rfl | true => exact absurd (Nat.eq_of_beq_eq_true hb) hj]
    have hb := ObOK.step st (fun e => hj (Option.some.inj e).symm) _ (hs.obj j)
    have h0 := hs.obj j
    show ObOK _ w j (frzO d (.sl sz e l) (s.h j))
    cases hh : s.h j with
    | box m =>
      rw [hh] at h0 hb
      obtain ⟨b, cs, T, fr, e1, e2, e3, e4, e5⟩ := h0
      exact ⟨b, cs, T, fr, by show setK κ d .dead j = _; rw [setK_ne _ _ hj]; exact e1, e2, e3, e4, frzL_ok st hx m cs e5⟩
    | fresh => rw [hh] at hb; exact hb
    | non => rw [hh] at hb; exact hb
    | row sz' e' l' => rw [hh] at hb; exact hb
    | lit sz' svs => rw [hh] at hb; exact hb
    | glob sz' x' g' => rw [hh] at hb; exact hb

/-! ### Loops that count, and hold a fact -/
def CountInvP (C : Cx) (n : Nat) (I : Nat → Prop) (L : Nat → List (Nat × SV)) (O : Nat → Obs) (i : Nat) (a : Act) (w : World) : Prop :=
  ∃ x' : {j : Nat // j ≤ n ∧ I j}, ∃ κ, n - x'.1 < n - i ∧ St C.F C.n (mkS (L x'.1) (O x'.1)) κ a w

theorem G_countP {C : Cx} {k : List KI} {s : SS} {body : Code} (n : Nat) (I : Nat → Prop) (L : Nat → List (Nat × SV)) (O : Nat → Obs) (ρ : List (Nat × Nat)) (h0 : I 0) (hsub : Sub C s ρ (L 0) (O 0))
    (h : ∀ i, i ≤ n → I i → G C (.code body :: .inv (CountInvP C n I L O i) :: k) (mkS (L i) (O i))) : G C (.code (.loop body) :: k) s :=
  G_loop (α := {j : Nat // j ≤ n ∧ I j}) (fun x => L x.1) (fun x => O x.1) (fun x => n - x.1) ⟨0, Nat.zero_le _, h0⟩ ρ hsub (fun x => h x.1 x.2.1 x.2.2)

theorem G_nextP {C : Cx} {k : List KI} {s : SS} {n : Nat} {I : Nat → Prop} {L : Nat → List (Nat × SV)} {O : Nat → Obs} {i : Nat} (ρ : List (Nat × Nat)) (h0 : I i) (hi : i + 1 ≤ n) (h1 : I (i + 1)) (hsub : Sub C s ρ (L (i + 1)) (O (i + 1))) : G C (.inv (CountInvP C n I L O i) :: k) s :=
  G_inv (α := {j : Nat // j ≤ n ∧ I j}) (L := fun x => L x.1) (O := fun x => O x.1) (μ := fun x => n - x.1) (x := ⟨i, by omega, h0⟩) ⟨i + 1, hi, h1⟩ ρ (by simp only; omega) hsub

end Go.Sy

namespace Go.Sy

mutual
/-- The name d is given up for data. -/
def frb (d sz : Nat) (x : SV) : SV → SV
  | .ptr k o => bif Nat.beq k d then .ref sz x o else .ptr k o
  | .agg l => .agg (frbL d sz x l)
  | .tup l => .tup (frbL d sz x l)
  | .ifc t y => .ifc t (frb d sz x y)
  | .clo f g l => .clo f (frbL d sz x g) (frbL d sz x l)
  | y => y
def frbL (d sz : Nat) (x : SV) : List SV → List SV
  | [] => []
  | y :: l => frb d sz x y :: frbL d sz x l
end

mutual
theorem frb_ok {κ κ' : Ka} {w : World} {K : Nat → Prop} {d sz : Nat} {x : SV} (st : Step K κ w κ' w) (hx : ∀ o v, Rd κ w (.ptr d o) v → Rd κ' w (.ref sz x o) v) : ∀ (y : SV) (v : Value), Rd κ w y v → Rd κ' w (frb d sz x y) v
  | .ptr k o, v, h => by
    unfold frb
    by_cases hk : k = d
    · subst hk; rw [show Nat.beq k k = true from Nat.beq_refl k]; exact hx o v h
    · rw [show Nat.beq k d = false from by cases hb : Nat.beq k d with | false => rfl | true => exact absurd (Nat.eq_of_beq_eq_true hb) hk]; exact Rd.step st _ _ h
  | .agg l, v, h => by
    simp only [Rd] at h
    unfold frb
    simp only [Rd]
    obtain ⟨cs, h1, h2, h3⟩ := h
    exact ⟨cs, h1, h2, frbL_ok st hx l cs h3⟩
  | .tup l, v, h => by
    simp only [Rd] at h
    unfold frb
    simp only [Rd]
    obtain ⟨cs, h1, h3⟩ := h
    exact ⟨cs, h1, frbL_ok st hx l cs h3⟩
  | .ifc t y, v, h => by
    simp only [Rd] at h
    unfold frb
    simp only [Rd]
    obtain ⟨u, h1, h3⟩ := h
    exact ⟨u, h1, frb_ok st hx y u h3⟩
  | .clo f g l, v, h => by
    simp only [Rd] at h
    unfold frb
    simp only [Rd]
    obtain ⟨fs, cs, h1, h2, h3⟩ := h
    exact ⟨fs, cs, h1, frbL_ok st hx g fs h2, frbL_ok st hx l cs h3⟩
  | .top, v, h => by unfold frb; exact Rd.step st _ _ h
  | .val u, v, h => by unfold frb; exact Rd.step st _ _ h
  | .sl sz e l, v, h => by unfold frb; exact Rd.step st _ _ h
  | .ref sz z o, v, h => by unfold frb; exact Rd.step st _ _ h
  | .rpt k sz i o, v, h => by unfold frb; exact Rd.step st _ _ h
  | .osl k, v, h => by unfold frb; exact Rd.step st _ _ h
theorem frbL_ok {κ κ' : Ka} {w : World} {K : Nat → Prop} {d sz : Nat} {x : SV} (st : Step K κ w κ' w) (hx : ∀ o v, Rd κ w (.ptr d o) v → Rd κ' w (.ref sz x o) v) : ∀ (l : List SV) (vs : List Value), RdL κ w l vs → RdL κ' w (frbL d sz x l) vs
  | [], vs, h => by
    unfold frbL
    simpa [RdL] using h
  | y :: l, vs, h => by
    simp only [RdL] at h
    unfold frbL
    simp only [RdL]
    obtain ⟨v, r, h1, h2, h3⟩ := h
    exact ⟨v, r, h1, frb_ok st hx y v h2, frbL_ok st hx l r h3⟩
end


def frbO (d sz : Nat) (x : SV) : Ob → Ob
  | .box l => .box (frbL d sz x l)
  | o => o

theorem box_freeze {κ κ' : Ka} {w : World} {d sz : Nat} {l : List SV} {x : SV} (h : ObOK κ w d (.box l)) (hl : cellsOf x = l) (hb : x.boxed = true) (_hd : dataL l = true) (hsz : l.length = sz) (ho : ∀ b, b < w.heap.size → ¬ Own κ b → ¬ Own κ' b)
    (hdead : ∀ b, (κ d).block? = some b → b < w.heap.size ∧ ¬ Own κ' b) (hxd : x.data = true) (o : Nat) (v : Value) (hv : Rd κ w (.ptr d o) v) : Rd κ' w (.ref sz x o) v := by
  obtain ⟨b, cs, T, fr, e1, e2, e3, e4, e5⟩ := h
  simp only [Rd, e1] at hv
  obtain ⟨h1, h2⟩ := hdead b (by rw [e1]; rfl)
  rw [← hl] at e5
  obtain ⟨u, f1, f2⟩ := Rd.of_cells hb e4 e5
  simp only [Rd, RdD]
  refine ⟨b, 0, u, by rw [Nat.zero_add]; exact hv, h2, h1, RdD.keep ⟨Nat.le_refl _, fun _ _ _ => rfl, ho⟩ _ _ (Rd.data _ _ hxd f1), ?_, by rw [f2]; exact e4, fun j hj => ?_⟩
  · have := e5.length
    rw [← hsz, ← hl, ← this, ← f2]
    simp
  · rw [Nat.zero_add, cell_of_row w b _ cs.toArray T fr e2, ← f2]

/-- The box d, which holds data alone, is data from now on, wherever its address is held. -/
theorem G_box {C : Cx} {k : List KI} {s : SS} (d sz : Nat) (x : SV) {l : List SV} (h : s.h d = .box l) (hl : cellsOf x = l) (hc : (x.boxed && x.data && dataL l && Nat.beq l.length sz) = true)
    (hg : G C k ⟨fun i => frb d sz x (s.σ i), fun j => bif Nat.beq j d then .non else frbO d sz x (s.h j)⟩) : G C k s := fun κ a w hs => by
  simp only [Bool.and_eq_true] at hc
  obtain ⟨⟨⟨hb, hxd⟩, hd⟩, hsz⟩ := hc
  have hsz := Nat.eq_of_beq_eq_true hsz
  have hob := hs.obj d
  rw [h] at hob
  have st := step_kill (κ := κ) (w := w) (some d)
  have inv := inv_kill hs.inv (some d)
  have hx : ∀ o v, Rd κ w (.ptr d o) v → Rd (setK κ d .dead) w (.ref sz x o) v := fun o v hv =>
    box_freeze hob hl hb hd hsz st.keeps.out (fun b hb => ⟨hs.inv.bnd d b hb, by
      rintro (⟨q, hq⟩ | hq)
      · by_cases hqd : q = d
        · subst hqd; change (setK κ q .dead q).block? = some b at hq; rw [setK_self] at hq; cases hq
        · change (setK κ d .dead q).block? = some b at hq
          rw [setK_ne _ _ hqd] at hq
          exact hqd (hs.inv.inj q d b hq hb)
      · exact hs.inv.apart d b hb hq⟩) hxd o v hv
  refine hg (setK κ d .dead) a w ⟨hs.defers, hs.size, inv, hs.ctx.step inv st, fun j => frb_ok st hx _ _ (hs.slot j), fun j => ?_⟩
  show ObOK _ w j (bif Nat.beq j d then .non else frbO d sz x (s.h j))
  by_cases hj : j = d
  · subst hj; rw [show Nat.beq j j = true from Nat.beq_refl j]; trivial
  · rw [show Nat.beq j d = false from by cases hb : Nat.beq j d with | false => rfl | true => exact absurd (Nat.eq_of_beq_eq_true hb) hj]
    have hb := ObOK.step st (fun e => hj (Option.some.inj e).symm) _ (hs.obj j)
    have h0 := hs.obj j
    show ObOK _ w j (frbO d sz x (s.h j))
    cases hh : s.h j with
    | box m =>
      rw [hh] at h0 hb
      obtain ⟨b, cs, T, fr, e1, e2, e3, e4, e5⟩ := h0
      exact ⟨b, cs, T, fr, by show setK κ d .dead j = _; rw [setK_ne _ _ hj]; exact e1, e2, e3, e4, frbL_ok st hx m cs e5⟩
    | fresh => rw [hh] at hb; exact hb
    | non => rw [hh] at hb; exact hb
    | row sz' e' l' => rw [hh] at hb; exact hb
    | lit sz' svs => rw [hh] at hb; exact hb
    | glob sz' x' g' => rw [hh] at hb; exact hb

/-- A nil slice seen as data. -/
theorem G_nilsl {C : Cx} {k : List KI} {s : SS} (d sz : Nat) {α : Type} (e : α → SV) (h : s.σ d = .val (.slice none 0 0)) (hg : G C k ⟨upd s.σ d (.sl sz e []), s.h⟩) : G C k s :=
  G_set d (fun κ w v hv => by
    rw [h] at hv
    simp only [Rd] at hv
    simp only [Rd, RdD]
    exact .inl ⟨trivial, none, 0, hv⟩) hg

end Go.Sy

namespace Go.Sy.YtjomehmhkcnadaaGreatDoor
open Go.Proofs

set_option maxRecDepth 100000

theorem ty1 : tiOf Tryz.prog 1 = some ⟨.func, 1, [.nilFunc]⟩ := by kernel_rfl
theorem ty2 : tiOf Tryz.prog 2 = some ⟨.int .i64, 1, [.int .i64 0]⟩ := by kernel_rfl
theorem ty3 : tiOf Tryz.prog 3 = some ⟨.int .i64, 1, [.int .i64 0]⟩ := by kernel_rfl
theorem ty4 : tiOf Tryz.prog 4 = some ⟨.bool, 1, [.bool false]⟩ := by kernel_rfl
theorem ty5 : tiOf Tryz.prog 5 = some ⟨.int .u8, 1, [.int .u8 0]⟩ := by kernel_rfl
theorem ty7 : tiOf Tryz.prog 7 = some ⟨.struct [(0, 1), (1, 1), (2, 1), (3, 1)], 4, [.int .i64 0, .int .i64 0, .bool false, .int .u8 0]⟩ := by kernel_rfl
theorem ty9 : tiOf Tryz.prog 9 = some ⟨.string, 1, [.string .empty]⟩ := by kernel_rfl
theorem ty12 : tiOf Tryz.prog 12 = some ⟨.int .u64, 1, [.int .u64 0]⟩ := by kernel_rfl
theorem ty13 : tiOf Tryz.prog 13 = some ⟨.struct [(0, 1), (1, 1)], 2, [.string .empty, .int .u64 0]⟩ := by kernel_rfl
theorem ty15 : tiOf Tryz.prog 15 = some ⟨.ptr, 1, [.pointer none]⟩ := by kernel_rfl
theorem ty16 : tiOf Tryz.prog 16 = some ⟨.ptr, 1, [.pointer none]⟩ := by kernel_rfl
theorem ty17 : tiOf Tryz.prog 17 = some ⟨.ptr, 1, [.pointer none]⟩ := by kernel_rfl
theorem ty18 : tiOf Tryz.prog 18 = some ⟨.struct [(0, 1)], 1, [.pointer none]⟩ := by kernel_rfl
theorem ty20 : tiOf Tryz.prog 20 = some ⟨.iface, 1, [.nilIface]⟩ := by kernel_rfl
theorem ty21 : tiOf Tryz.prog 21 = some ⟨.int .i32, 1, [.int .i32 0]⟩ := by kernel_rfl
theorem ty22 : tiOf Tryz.prog 22 = some ⟨.slice 73 5 48 [.int .i64 0, .int .i64 0, .string .empty, .int .u64 0, .int .u32 0], 1, [.slice none 0 0]⟩ := by kernel_rfl
theorem ty23 : tiOf Tryz.prog 23 = some ⟨.slice 62 7 80 [.int .i64 0, .int .i64 0, .int .i64 0, .int .i64 0, .int .i64 0, .string .empty, .slice none 0 0], 1, [.slice none 0 0]⟩ := by kernel_rfl
theorem ty24 : tiOf Tryz.prog 24 = some ⟨.slice 105 3 24 [.int .i64 0, .int .i64 0, .int .i64 0], 1, [.slice none 0 0]⟩ := by kernel_rfl
theorem ty25 : tiOf Tryz.prog 25 = some ⟨.slice 64 6 64 [.int .i64 0, .int .i64 0, .int .i64 0, .int .i64 0, .int .i64 0, .slice none 0 0], 1, [.slice none 0 0]⟩ := by kernel_rfl
theorem ty26 : tiOf Tryz.prog 26 = some ⟨.slice 109 4 32 [.int .i64 0, .int .i64 0, .int .i64 0, .int .u64 0], 1, [.slice none 0 0]⟩ := by kernel_rfl
theorem ty27 : tiOf Tryz.prog 27 = some ⟨.slice 67 4 48 [.int .i64 0, .int .i64 0, .int .i64 0, .slice none 0 0], 1, [.slice none 0 0]⟩ := by kernel_rfl
theorem ty28 : tiOf Tryz.prog 28 = some ⟨.slice 69 5 80 [.int .i64 0, .int .i64 0, .string .empty, .slice none 0 0, .slice none 0 0], 1, [.slice none 0 0]⟩ := by kernel_rfl
theorem ty29 : tiOf Tryz.prog 29 = some ⟨.slice 121 5 40 [.int .i64 0, .int .i64 0, .int .i64 0, .int .u32 0, .int .i64 0], 1, [.slice none 0 0]⟩ := by kernel_rfl
theorem ty30 : tiOf Tryz.prog 30 = some ⟨.struct [(0, 1), (1, 1), (2, 1), (3, 1), (4, 1), (5, 1), (6, 1), (7, 1)], 8, [.slice none 0 0, .slice none 0 0, .slice none 0 0, .slice none 0 0, .slice none 0 0, .slice none 0 0, .slice none 0 0, .slice none 0 0]⟩ := by kernel_rfl
theorem ty31 : tiOf Tryz.prog 31 = some ⟨.struct [(0, 1), (1, 1), (2, 1), (3, 1), (4, 1), (5, 1), (6, 1), (7, 1)], 8, [.slice none 0 0, .slice none 0 0, .slice none 0 0, .slice none 0 0, .slice none 0 0, .slice none 0 0, .slice none 0 0, .slice none 0 0]⟩ := by kernel_rfl
theorem ty32 : tiOf Tryz.prog 32 = some ⟨.slice 76 6 80 [.int .i64 0, .int .i64 0, .int .i64 0, .int .i64 0, .slice none 0 0, .slice none 0 0], 1, [.slice none 0 0]⟩ := by kernel_rfl
theorem ty33 : tiOf Tryz.prog 33 = some ⟨.slice 5 1 1 [.int .u8 0], 1, [.slice none 0 0]⟩ := by kernel_rfl
theorem ty34 : tiOf Tryz.prog 34 = some ⟨.func, 1, [.nilFunc]⟩ := by kernel_rfl
theorem ty35 : tiOf Tryz.prog 35 = some ⟨.func, 1, [.nilFunc]⟩ := by kernel_rfl
theorem ty36 : tiOf Tryz.prog 36 = some ⟨.func, 1, [.nilFunc]⟩ := by kernel_rfl
theorem ty37 : tiOf Tryz.prog 37 = some ⟨.int .i64, 1, [.int .i64 0]⟩ := by kernel_rfl
theorem ty39 : tiOf Tryz.prog 39 = some ⟨.func, 1, [.nilFunc]⟩ := by kernel_rfl
theorem ty41 : tiOf Tryz.prog 41 = some ⟨.func, 1, [.nilFunc]⟩ := by kernel_rfl
theorem ty43 : tiOf Tryz.prog 43 = some ⟨.func, 1, [.nilFunc]⟩ := by kernel_rfl
theorem ty45 : tiOf Tryz.prog 45 = some ⟨.func, 1, [.nilFunc]⟩ := by kernel_rfl
theorem ty46 : tiOf Tryz.prog 46 = some ⟨.func, 1, [.nilFunc]⟩ := by kernel_rfl
theorem ty47 : tiOf Tryz.prog 47 = some ⟨.func, 1, [.nilFunc]⟩ := by kernel_rfl
theorem ty48 : tiOf Tryz.prog 48 = some ⟨.slice 52 3 40 [.int .i64 0, .int .i64 0, .slice none 0 0], 1, [.slice none 0 0]⟩ := by kernel_rfl
theorem ty49 : tiOf Tryz.prog 49 = some ⟨.struct [(0, 1), (1, 1), (2, 1), (3, 1), (4, 1), (5, 1), (6, 1)], 7, [.int .i64 0, .int .i64 0, .int .i64 0, .int .i64 0, .int .i64 0, .int .i64 0, .slice none 0 0]⟩ := by kernel_rfl
theorem ty50 : tiOf Tryz.prog 50 = some ⟨.struct [(0, 1), (1, 1), (2, 1), (3, 1), (4, 1), (5, 1), (6, 1)], 7, [.int .i64 0, .int .i64 0, .int .i64 0, .int .i64 0, .int .i64 0, .int .i64 0, .slice none 0 0]⟩ := by kernel_rfl
theorem ty51 : tiOf Tryz.prog 51 = some ⟨.struct [(0, 1), (1, 1), (2, 1)], 3, [.int .i64 0, .int .i64 0, .slice none 0 0]⟩ := by kernel_rfl
theorem ty52 : tiOf Tryz.prog 52 = some ⟨.struct [(0, 1), (1, 1), (2, 1)], 3, [.int .i64 0, .int .i64 0, .slice none 0 0]⟩ := by kernel_rfl
theorem ty53 : tiOf Tryz.prog 53 = some ⟨.struct [(0, 1), (1, 1), (2, 1), (3, 1), (4, 1), (5, 1), (6, 1)], 7, [.int .i64 0, .int .i64 0, .int .i64 0, .int .i64 0, .int .i64 0, .int .i64 0, .slice none 0 0]⟩ := by kernel_rfl
theorem ty54 : tiOf Tryz.prog 54 = some ⟨.struct [(0, 1), (1, 1), (2, 1), (3, 1), (4, 1), (5, 1), (6, 1)], 7, [.int .i64 0, .int .i64 0, .int .i64 0, .int .i64 0, .int .i64 0, .int .i64 0, .slice none 0 0]⟩ := by kernel_rfl
theorem ty55 : tiOf Tryz.prog 55 = some ⟨.func, 1, [.nilFunc]⟩ := by kernel_rfl
theorem ty56 : tiOf Tryz.prog 56 = some ⟨.func, 1, [.nilFunc]⟩ := by kernel_rfl
theorem ty57 : tiOf Tryz.prog 57 = some ⟨.func, 1, [.nilFunc]⟩ := by kernel_rfl
theorem ty58 : tiOf Tryz.prog 58 = some ⟨.func, 1, [.nilFunc]⟩ := by kernel_rfl
theorem ty59 : tiOf Tryz.prog 59 = some ⟨.func, 1, [.nilFunc]⟩ := by kernel_rfl
theorem ty60 : tiOf Tryz.prog 60 = some ⟨.slice 3 1 8 [.int .i64 0], 1, [.slice none 0 0]⟩ := by kernel_rfl
theorem ty61 : tiOf Tryz.prog 61 = some ⟨.struct [(0, 1), (1, 1), (2, 1), (3, 1), (4, 1), (5, 1), (6, 1)], 7, [.int .i64 0, .int .i64 0, .int .i64 0, .int .i64 0, .int .i64 0, .string .empty, .slice none 0 0]⟩ := by kernel_rfl
theorem ty62 : tiOf Tryz.prog 62 = some ⟨.struct [(0, 1), (1, 1), (2, 1), (3, 1), (4, 1), (5, 1), (6, 1)], 7, [.int .i64 0, .int .i64 0, .int .i64 0, .int .i64 0, .int .i64 0, .string .empty, .slice none 0 0]⟩ := by kernel_rfl
theorem ty63 : tiOf Tryz.prog 63 = some ⟨.struct [(0, 1), (1, 1), (2, 1), (3, 1), (4, 1), (5, 1)], 6, [.int .i64 0, .int .i64 0, .int .i64 0, .int .i64 0, .int .i64 0, .slice none 0 0]⟩ := by kernel_rfl
theorem ty64 : tiOf Tryz.prog 64 = some ⟨.struct [(0, 1), (1, 1), (2, 1), (3, 1), (4, 1), (5, 1)], 6, [.int .i64 0, .int .i64 0, .int .i64 0, .int .i64 0, .int .i64 0, .slice none 0 0]⟩ := by kernel_rfl
theorem ty65 : tiOf Tryz.prog 65 = some ⟨.slice 71 1 4 [.int .u32 0], 1, [.slice none 0 0]⟩ := by kernel_rfl
theorem ty66 : tiOf Tryz.prog 66 = some ⟨.struct [(0, 1), (1, 1), (2, 1), (3, 1)], 4, [.int .i64 0, .int .i64 0, .int .i64 0, .slice none 0 0]⟩ := by kernel_rfl
theorem ty67 : tiOf Tryz.prog 67 = some ⟨.struct [(0, 1), (1, 1), (2, 1), (3, 1)], 4, [.int .i64 0, .int .i64 0, .int .i64 0, .slice none 0 0]⟩ := by kernel_rfl
theorem ty68 : tiOf Tryz.prog 68 = some ⟨.struct [(0, 1), (1, 1), (2, 1), (3, 1), (4, 1)], 5, [.int .i64 0, .int .i64 0, .string .empty, .slice none 0 0, .slice none 0 0]⟩ := by kernel_rfl
theorem ty69 : tiOf Tryz.prog 69 = some ⟨.struct [(0, 1), (1, 1), (2, 1), (3, 1), (4, 1)], 5, [.int .i64 0, .int .i64 0, .string .empty, .slice none 0 0, .slice none 0 0]⟩ := by kernel_rfl
theorem ty70 : tiOf Tryz.prog 70 = some ⟨.int .u64, 1, [.int .u64 0]⟩ := by kernel_rfl
theorem ty71 : tiOf Tryz.prog 71 = some ⟨.int .u32, 1, [.int .u32 0]⟩ := by kernel_rfl
theorem ty72 : tiOf Tryz.prog 72 = some ⟨.struct [(0, 1), (1, 1), (2, 1), (3, 1), (4, 1)], 5, [.int .i64 0, .int .i64 0, .string .empty, .int .u64 0, .int .u32 0]⟩ := by kernel_rfl
theorem ty73 : tiOf Tryz.prog 73 = some ⟨.struct [(0, 1), (1, 1), (2, 1), (3, 1), (4, 1)], 5, [.int .i64 0, .int .i64 0, .string .empty, .int .u64 0, .int .u32 0]⟩ := by kernel_rfl
theorem ty74 : tiOf Tryz.prog 74 = some ⟨.slice 4 1 1 [.bool false], 1, [.slice none 0 0]⟩ := by kernel_rfl
theorem ty75 : tiOf Tryz.prog 75 = some ⟨.struct [(0, 1), (1, 1), (2, 1), (3, 1), (4, 1), (5, 1)], 6, [.int .i64 0, .int .i64 0, .int .i64 0, .int .i64 0, .slice none 0 0, .slice none 0 0]⟩ := by kernel_rfl
theorem ty76 : tiOf Tryz.prog 76 = some ⟨.struct [(0, 1), (1, 1), (2, 1), (3, 1), (4, 1), (5, 1)], 6, [.int .i64 0, .int .i64 0, .int .i64 0, .int .i64 0, .slice none 0 0, .slice none 0 0]⟩ := by kernel_rfl
theorem ty78 : tiOf Tryz.prog 78 = some ⟨.struct [(0, 8)], 8, [.slice none 0 0, .slice none 0 0, .slice none 0 0, .slice none 0 0, .slice none 0 0, .slice none 0 0, .slice none 0 0, .slice none 0 0]⟩ := by kernel_rfl
theorem ty79 : tiOf Tryz.prog 79 = some ⟨.struct [(0, 8)], 8, [.slice none 0 0, .slice none 0 0, .slice none 0 0, .slice none 0 0, .slice none 0 0, .slice none 0 0, .slice none 0 0, .slice none 0 0]⟩ := by kernel_rfl
theorem ty80 : tiOf Tryz.prog 80 = some ⟨.func, 1, [.nilFunc]⟩ := by kernel_rfl
theorem ty81 : tiOf Tryz.prog 81 = some ⟨.func, 1, [.nilFunc]⟩ := by kernel_rfl
theorem ty82 : tiOf Tryz.prog 82 = some ⟨.slice 9 1 16 [.string .empty], 1, [.slice none 0 0]⟩ := by kernel_rfl
theorem ty84 : tiOf Tryz.prog 84 = some ⟨.func, 1, [.nilFunc]⟩ := by kernel_rfl
theorem ty86 : tiOf Tryz.prog 86 = some ⟨.func, 1, [.nilFunc]⟩ := by kernel_rfl
theorem ty88 : tiOf Tryz.prog 88 = some ⟨.func, 1, [.nilFunc]⟩ := by kernel_rfl
theorem ty90 : tiOf Tryz.prog 90 = some ⟨.func, 1, [.nilFunc]⟩ := by kernel_rfl
theorem ty91 : tiOf Tryz.prog 91 = some ⟨.func, 1, [.nilFunc]⟩ := by kernel_rfl
theorem ty92 : tiOf Tryz.prog 92 = some ⟨.func, 1, [.nilFunc]⟩ := by kernel_rfl
theorem ty93 : tiOf Tryz.prog 93 = some ⟨.func, 1, [.nilFunc]⟩ := by kernel_rfl
theorem ty94 : tiOf Tryz.prog 94 = some ⟨.func, 1, [.nilFunc]⟩ := by kernel_rfl
theorem ty95 : tiOf Tryz.prog 95 = some ⟨.func, 1, [.nilFunc]⟩ := by kernel_rfl
theorem ty96 : tiOf Tryz.prog 96 = some ⟨.func, 1, [.nilFunc]⟩ := by kernel_rfl
theorem ty97 : tiOf Tryz.prog 97 = some ⟨.struct [(0, 8)], 8, [.slice none 0 0, .slice none 0 0, .slice none 0 0, .slice none 0 0, .slice none 0 0, .slice none 0 0, .slice none 0 0, .slice none 0 0]⟩ := by kernel_rfl
theorem ty98 : tiOf Tryz.prog 98 = some ⟨.struct [(0, 8)], 8, [.slice none 0 0, .slice none 0 0, .slice none 0 0, .slice none 0 0, .slice none 0 0, .slice none 0 0, .slice none 0 0, .slice none 0 0]⟩ := by kernel_rfl
theorem ty99 : tiOf Tryz.prog 99 = some ⟨.func, 1, [.nilFunc]⟩ := by kernel_rfl
theorem ty100 : tiOf Tryz.prog 100 = some ⟨.func, 1, [.nilFunc]⟩ := by kernel_rfl
theorem ty101 : tiOf Tryz.prog 101 = some ⟨.func, 1, [.nilFunc]⟩ := by kernel_rfl
theorem ty102 : tiOf Tryz.prog 102 = some ⟨.func, 1, [.nilFunc]⟩ := by kernel_rfl
theorem ty103 : tiOf Tryz.prog 103 = some ⟨.func, 1, [.nilFunc]⟩ := by kernel_rfl
theorem ty104 : tiOf Tryz.prog 104 = some ⟨.struct [(0, 1), (1, 1), (2, 1)], 3, [.int .i64 0, .int .i64 0, .int .i64 0]⟩ := by kernel_rfl
theorem ty105 : tiOf Tryz.prog 105 = some ⟨.struct [(0, 1), (1, 1), (2, 1)], 3, [.int .i64 0, .int .i64 0, .int .i64 0]⟩ := by kernel_rfl
theorem ty106 : tiOf Tryz.prog 106 = some ⟨.func, 1, [.nilFunc]⟩ := by kernel_rfl
theorem ty107 : tiOf Tryz.prog 107 = some ⟨.func, 1, [.nilFunc]⟩ := by kernel_rfl
theorem ty108 : tiOf Tryz.prog 108 = some ⟨.struct [(0, 1), (1, 1), (2, 1), (3, 1)], 4, [.int .i64 0, .int .i64 0, .int .i64 0, .int .u64 0]⟩ := by kernel_rfl
theorem ty109 : tiOf Tryz.prog 109 = some ⟨.struct [(0, 1), (1, 1), (2, 1), (3, 1)], 4, [.int .i64 0, .int .i64 0, .int .i64 0, .int .u64 0]⟩ := by kernel_rfl
theorem ty110 : tiOf Tryz.prog 110 = some ⟨.func, 1, [.nilFunc]⟩ := by kernel_rfl
theorem ty111 : tiOf Tryz.prog 111 = some ⟨.func, 1, [.nilFunc]⟩ := by kernel_rfl
theorem ty112 : tiOf Tryz.prog 112 = some ⟨.func, 1, [.nilFunc]⟩ := by kernel_rfl
theorem ty113 : tiOf Tryz.prog 113 = some ⟨.func, 1, [.nilFunc]⟩ := by kernel_rfl
theorem ty114 : tiOf Tryz.prog 114 = some ⟨.func, 1, [.nilFunc]⟩ := by kernel_rfl
theorem ty115 : tiOf Tryz.prog 115 = some ⟨.func, 1, [.nilFunc]⟩ := by kernel_rfl
theorem ty116 : tiOf Tryz.prog 116 = some ⟨.func, 1, [.nilFunc]⟩ := by kernel_rfl
theorem ty117 : tiOf Tryz.prog 117 = some ⟨.func, 1, [.nilFunc]⟩ := by kernel_rfl
theorem ty118 : tiOf Tryz.prog 118 = some ⟨.struct [(0, 1), (1, 1)], 2, [.int .u32 0, .int .i64 0]⟩ := by kernel_rfl
theorem ty119 : tiOf Tryz.prog 119 = some ⟨.struct [(0, 1), (1, 1)], 2, [.int .u32 0, .int .i64 0]⟩ := by kernel_rfl
theorem ty120 : tiOf Tryz.prog 120 = some ⟨.struct [(0, 1), (1, 1), (2, 1), (3, 2)], 5, [.int .i64 0, .int .i64 0, .int .i64 0, .int .u32 0, .int .i64 0]⟩ := by kernel_rfl
theorem ty121 : tiOf Tryz.prog 121 = some ⟨.struct [(0, 1), (1, 1), (2, 1), (3, 2)], 5, [.int .i64 0, .int .i64 0, .int .i64 0, .int .u32 0, .int .i64 0]⟩ := by kernel_rfl
theorem ty122 : tiOf Tryz.prog 122 = some ⟨.func, 1, [.nilFunc]⟩ := by kernel_rfl
theorem ty123 : tiOf Tryz.prog 123 = some ⟨.array 9 6 1, 6, [.string .empty, .string .empty, .string .empty, .string .empty, .string .empty, .string .empty]⟩ := by kernel_rfl
theorem ty124 : tiOf Tryz.prog 124 = some ⟨.func, 1, [.nilFunc]⟩ := by kernel_rfl
theorem ty126 : tiOf Tryz.prog 126 = some ⟨.func, 1, [.nilFunc]⟩ := by kernel_rfl
theorem ty127 : tiOf Tryz.prog 127 = some ⟨.func, 1, [.nilFunc]⟩ := by kernel_rfl
theorem ty128 : tiOf Tryz.prog 128 = some ⟨.func, 1, [.nilFunc]⟩ := by kernel_rfl
theorem ty129 : tiOf Tryz.prog 129 = some ⟨.array 3 6 1, 6, [.int .i64 0, .int .i64 0, .int .i64 0, .int .i64 0, .int .i64 0, .int .i64 0]⟩ := by kernel_rfl
theorem ty130 : tiOf Tryz.prog 130 = some ⟨.func, 1, [.nilFunc]⟩ := by kernel_rfl
theorem ty131 : tiOf Tryz.prog 131 = some ⟨.func, 1, [.nilFunc]⟩ := by kernel_rfl
theorem ty133 : tiOf Tryz.prog 133 = some ⟨.func, 1, [.nilFunc]⟩ := by kernel_rfl
theorem ty135 : tiOf Tryz.prog 135 = some ⟨.func, 1, [.nilFunc]⟩ := by kernel_rfl
theorem ty137 : tiOf Tryz.prog 137 = some ⟨.func, 1, [.nilFunc]⟩ := by kernel_rfl
theorem ty138 : tiOf Tryz.prog 138 = some ⟨.func, 1, [.nilFunc]⟩ := by kernel_rfl
theorem ty139 : tiOf Tryz.prog 139 = some ⟨.func, 1, [.nilFunc]⟩ := by kernel_rfl
theorem ty140 : tiOf Tryz.prog 140 = some ⟨.int .u64, 1, [.int .u64 0]⟩ := by kernel_rfl
theorem ty141 : tiOf Tryz.prog 141 = some ⟨.func, 1, [.nilFunc]⟩ := by kernel_rfl
theorem ty142 : tiOf Tryz.prog 142 = some ⟨.func, 1, [.nilFunc]⟩ := by kernel_rfl
theorem ty143 : tiOf Tryz.prog 143 = some ⟨.func, 1, [.nilFunc]⟩ := by kernel_rfl
theorem ty144 : tiOf Tryz.prog 144 = some ⟨.func, 1, [.nilFunc]⟩ := by kernel_rfl
theorem ty145 : tiOf Tryz.prog 145 = some ⟨.func, 1, [.nilFunc]⟩ := by kernel_rfl
theorem ty146 : tiOf Tryz.prog 146 = some ⟨.func, 1, [.nilFunc]⟩ := by kernel_rfl
theorem ty147 : tiOf Tryz.prog 147 = some ⟨.func, 1, [.nilFunc]⟩ := by kernel_rfl
theorem ty148 : tiOf Tryz.prog 148 = some ⟨.func, 1, [.nilFunc]⟩ := by kernel_rfl
theorem ty149 : tiOf Tryz.prog 149 = some ⟨.func, 1, [.nilFunc]⟩ := by kernel_rfl
theorem ty150 : tiOf Tryz.prog 150 = some ⟨.func, 1, [.nilFunc]⟩ := by kernel_rfl
theorem ty151 : tiOf Tryz.prog 151 = some ⟨.func, 1, [.nilFunc]⟩ := by kernel_rfl
theorem ty152 : tiOf Tryz.prog 152 = some ⟨.func, 1, [.nilFunc]⟩ := by kernel_rfl
theorem ty153 : tiOf Tryz.prog 153 = some ⟨.func, 1, [.nilFunc]⟩ := by kernel_rfl
theorem ty154 : tiOf Tryz.prog 154 = some ⟨.func, 1, [.nilFunc]⟩ := by kernel_rfl
theorem ty155 : tiOf Tryz.prog 155 = some ⟨.func, 1, [.nilFunc]⟩ := by kernel_rfl
theorem ty156 : tiOf Tryz.prog 156 = some ⟨.func, 1, [.nilFunc]⟩ := by kernel_rfl
theorem ty157 : tiOf Tryz.prog 157 = some ⟨.func, 1, [.nilFunc]⟩ := by kernel_rfl
theorem ty158 : tiOf Tryz.prog 158 = some ⟨.func, 1, [.nilFunc]⟩ := by kernel_rfl
theorem ty159 : tiOf Tryz.prog 159 = some ⟨.func, 1, [.nilFunc]⟩ := by kernel_rfl
theorem ty160 : tiOf Tryz.prog 160 = some ⟨.ptr, 1, [.pointer none]⟩ := by kernel_rfl
theorem ty161 : tiOf Tryz.prog 161 = some ⟨.struct [(0, 1), (1, 1)], 2, [.pointer none, .slice none 0 0]⟩ := by kernel_rfl
theorem ty162 : tiOf Tryz.prog 162 = some ⟨.struct [(0, 1), (1, 1)], 2, [.pointer none, .slice none 0 0]⟩ := by kernel_rfl
theorem ty163 : tiOf Tryz.prog 163 = some ⟨.func, 1, [.nilFunc]⟩ := by kernel_rfl
theorem ty164 : tiOf Tryz.prog 164 = some ⟨.iface, 1, [.nilIface]⟩ := by kernel_rfl
theorem ty165 : tiOf Tryz.prog 165 = some ⟨.iface, 1, [.nilIface]⟩ := by kernel_rfl
theorem ty167 : tiOf Tryz.prog 167 = some ⟨.func, 1, [.nilFunc]⟩ := by kernel_rfl
theorem ty168 : tiOf Tryz.prog 168 = some ⟨.func, 1, [.nilFunc]⟩ := by kernel_rfl
theorem ty169 : tiOf Tryz.prog 169 = some ⟨.func, 1, [.nilFunc]⟩ := by kernel_rfl
theorem ty170 : tiOf Tryz.prog 170 = some ⟨.func, 1, [.nilFunc]⟩ := by kernel_rfl
theorem ty171 : tiOf Tryz.prog 171 = some ⟨.func, 1, [.nilFunc]⟩ := by kernel_rfl
theorem ty172 : tiOf Tryz.prog 172 = some ⟨.func, 1, [.nilFunc]⟩ := by kernel_rfl
theorem ty173 : tiOf Tryz.prog 173 = some ⟨.ptr, 1, [.pointer none]⟩ := by kernel_rfl
theorem ty174 : tiOf Tryz.prog 174 = some ⟨.func, 1, [.nilFunc]⟩ := by kernel_rfl
theorem ty176 : tiOf Tryz.prog 176 = some ⟨.func, 1, [.nilFunc]⟩ := by kernel_rfl
theorem ty177 : tiOf Tryz.prog 177 = some ⟨.func, 1, [.nilFunc]⟩ := by kernel_rfl
theorem ty179 : tiOf Tryz.prog 179 = some ⟨.func, 1, [.nilFunc]⟩ := by kernel_rfl
theorem ty180 : tiOf Tryz.prog 180 = some ⟨.func, 1, [.nilFunc]⟩ := by kernel_rfl
theorem ty182 : tiOf Tryz.prog 182 = some ⟨.func, 1, [.nilFunc]⟩ := by kernel_rfl
theorem ty184 : tiOf Tryz.prog 184 = some ⟨.struct [(0, 1), (1, 1)], 2, [.int .u8 0, .int .u8 0]⟩ := by kernel_rfl
theorem ty185 : tiOf Tryz.prog 185 = some ⟨.struct [(0, 1), (1, 1)], 2, [.int .u8 0, .int .u8 0]⟩ := by kernel_rfl
theorem ty186 : tiOf Tryz.prog 186 = some ⟨.array 185 16 2, 32, [.int .u8 0, .int .u8 0, .int .u8 0, .int .u8 0, .int .u8 0, .int .u8 0, .int .u8 0, .int .u8 0, .int .u8 0, .int .u8 0, .int .u8 0, .int .u8 0, .int .u8 0, .int .u8 0, .int .u8 0, .int .u8 0, .int .u8 0, .int .u8 0, .int .u8 0, .int .u8 0, .int .u8 0, .int .u8 0, .int .u8 0, .int .u8 0, .int .u8 0, .int .u8 0, .int .u8 0, .int .u8 0, .int .u8 0, .int .u8 0, .int .u8 0, .int .u8 0]⟩ := by kernel_rfl
theorem ty187 : tiOf Tryz.prog 187 = some ⟨.struct [(0, 1), (1, 1), (2, 1), (3, 1)], 4, [.pointer none, .pointer none, .pointer none, .string .empty]⟩ := by kernel_rfl
theorem ty189 : tiOf Tryz.prog 189 = some ⟨.array 16 0 1, 0, []⟩ := by kernel_rfl
theorem ty190 : tiOf Tryz.prog 190 = some ⟨.struct [(0, 0)], 0, []⟩ := by kernel_rfl
theorem ty192 : tiOf Tryz.prog 192 = some ⟨.func, 1, [.nilFunc]⟩ := by kernel_rfl
theorem ty195 : tiOf Tryz.prog 195 = some ⟨.func, 1, [.nilFunc]⟩ := by kernel_rfl
theorem ty198 : tiOf Tryz.prog 198 = some ⟨.struct [(0, 1), (1, 1), (2, 1), (3, 1), (4, 1), (5, 1), (6, 1), (7, 1), (8, 1), (9, 1), (10, 1)], 11, [.int .u64 0, .int .u64 0, .int .u32 0, .int .u8 0, .int .u8 0, .int .u8 0, .int .u8 0, .nilFunc, .pointer none, .int .i32 0, .int .i32 0]⟩ := by kernel_rfl

theorem tq73 : eqsOf Tryz.prog 73 = some [.int .i64, .int .i64, .string, .int .u64, .int .u32] := by kernel_rfl
theorem tq105 : eqsOf Tryz.prog 105 = some [.int .i64, .int .i64, .int .i64] := by kernel_rfl
theorem tq109 : eqsOf Tryz.prog 109 = some [.int .i64, .int .i64, .int .i64, .int .u64] := by kernel_rfl
theorem tq119 : eqsOf Tryz.prog 119 = some [.int .u32, .int .i64] := by kernel_rfl

def tab : Tr TI := (.nd 100 (⟨.func, 1, [.nilFunc]⟩) (.nd 53 (⟨.struct [(0, 1), (1, 1), (2, 1), (3, 1), (4, 1), (5, 1), (6, 1)], 7, [.int .i64 0, .int .i64 0, .int .i64 0, .int .i64 0, .int .i64 0, .int .i64 0, .slice none 0 0]⟩) (.nd 28 (⟨.slice 69 5 80 [.int .i64 0, .int .i64 0, .string .empty, .slice none 0 0, .slice none 0 0], 1, [.slice none 0 0]⟩) (.nd 16 (⟨.ptr, 1, [.pointer none]⟩) (.nd 7 (⟨.struct [(0, 1), (1, 1), (2, 1), (3, 1)], 4, [.int .i64 0, .int .i64 0, .bool false, .int .u8 0]⟩) (.nd 3 (⟨.int .i64, 1, [.int .i64 0]⟩) (.nd 2 (⟨.int .i64, 1, [.int .i64 0]⟩) (.nd 1 (⟨.func, 1, [.nilFunc]⟩) .lf .lf) .lf) (.nd 5 (⟨.int .u8, 1, [.int .u8 0]⟩) (.nd 4 (⟨.bool, 1, [.bool false]⟩) .lf .lf) .lf)) (.nd 13 (⟨.struct [(0, 1), (1, 1)], 2, [.string .empty, .int .u64 0]⟩) (.nd 12 (⟨.int .u64, 1, [.int .u64 0]⟩) (.nd 9 (⟨.string, 1, [.string .empty]⟩) .lf .lf) .lf) (.nd 15 (⟨.ptr, 1, [.pointer none]⟩) .lf .lf))) (.nd 23 (⟨.slice 62 7 80 [.int .i64 0, .int .i64 0, .int .i64 0, .int .i64 0, .int .i64 0, .string .empty, .slice none 0 0], 1, [.slice none 0 0]⟩) (.nd 20 (⟨.iface, 1, [.nilIface]⟩) (.nd 18 (⟨.struct [(0, 1)], 1, [.pointer none]⟩) (.nd 17 (⟨.ptr, 1, [.pointer none]⟩) .lf .lf) .lf) (.nd 22 (⟨.slice 73 5 48 [.int .i64 0, .int .i64 0, .string .empty, .int .u64 0, .int .u32 0], 1, [.slice none 0 0]⟩) (.nd 21 (⟨.int .i32, 1, [.int .i32 0]⟩) .lf .lf) .lf)) (.nd 26 (⟨.slice 109 4 32 [.int .i64 0, .int .i64 0, .int .i64 0, .int .u64 0], 1, [.slice none 0 0]⟩) (.nd 25 (⟨.slice 64 6 64 [.int .i64 0, .int .i64 0, .int .i64 0, .int .i64 0, .int .i64 0, .slice none 0 0], 1, [.slice none 0 0]⟩) (.nd 24 (⟨.slice 105 3 24 [.int .i64 0, .int .i64 0, .int .i64 0], 1, [.slice none 0 0]⟩) .lf .lf) .lf) (.nd 27 (⟨.slice 67 4 48 [.int .i64 0, .int .i64 0, .int .i64 0, .slice none 0 0], 1, [.slice none 0 0]⟩) .lf .lf)))) (.nd 41 (⟨.func, 1, [.nilFunc]⟩) (.nd 34 (⟨.func, 1, [.nilFunc]⟩) (.nd 31 (⟨.struct [(0, 1), (1, 1), (2, 1), (3, 1), (4, 1), (5, 1), (6, 1), (7, 1)], 8, [.slice none 0 0, .slice none 0 0, .slice none 0 0, .slice none 0 0, .slice none 0 0, .slice none 0 0, .slice none 0 0, .slice none 0 0]⟩) (.nd 30 (⟨.struct [(0, 1), (1, 1), (2, 1), (3, 1), (4, 1), (5, 1), (6, 1), (7, 1)], 8, [.slice none 0 0, .slice none 0 0, .slice none 0 0, .slice none 0 0, .slice none 0 0, .slice none 0 0, .slice none 0 0, .slice none 0 0]⟩) (.nd 29 (⟨.slice 121 5 40 [.int .i64 0, .int .i64 0, .int .i64 0, .int .u32 0, .int .i64 0], 1, [.slice none 0 0]⟩) .lf .lf) .lf) (.nd 33 (⟨.slice 5 1 1 [.int .u8 0], 1, [.slice none 0 0]⟩) (.nd 32 (⟨.slice 76 6 80 [.int .i64 0, .int .i64 0, .int .i64 0, .int .i64 0, .slice none 0 0, .slice none 0 0], 1, [.slice none 0 0]⟩) .lf .lf) .lf)) (.nd 37 (⟨.int .i64, 1, [.int .i64 0]⟩) (.nd 36 (⟨.func, 1, [.nilFunc]⟩) (.nd 35 (⟨.func, 1, [.nilFunc]⟩) .lf .lf) .lf) (.nd 39 (⟨.func, 1, [.nilFunc]⟩) .lf .lf))) (.nd 48 (⟨.slice 52 3 40 [.int .i64 0, .int .i64 0, .slice none 0 0], 1, [.slice none 0 0]⟩) (.nd 46 (⟨.func, 1, [.nilFunc]⟩) (.nd 45 (⟨.func, 1, [.nilFunc]⟩) (.nd 43 (⟨.func, 1, [.nilFunc]⟩) .lf .lf) .lf) (.nd 47 (⟨.func, 1, [.nilFunc]⟩) .lf .lf)) (.nd 51 (⟨.struct [(0, 1), (1, 1), (2, 1)], 3, [.int .i64 0, .int .i64 0, .slice none 0 0]⟩) (.nd 50 (⟨.struct [(0, 1), (1, 1), (2, 1), (3, 1), (4, 1), (5, 1), (6, 1)], 7, [.int .i64 0, .int .i64 0, .int .i64 0, .int .i64 0, .int .i64 0, .int .i64 0, .slice none 0 0]⟩) (.nd 49 (⟨.struct [(0, 1), (1, 1), (2, 1), (3, 1), (4, 1), (5, 1), (6, 1)], 7, [.int .i64 0, .int .i64 0, .int .i64 0, .int .i64 0, .int .i64 0, .int .i64 0, .slice none 0 0]⟩) .lf .lf) .lf) (.nd 52 (⟨.struct [(0, 1), (1, 1), (2, 1)], 3, [.int .i64 0, .int .i64 0, .slice none 0 0]⟩) .lf .lf))))) (.nd 74 (⟨.slice 4 1 1 [.bool false], 1, [.slice none 0 0]⟩) (.nd 64 (⟨.struct [(0, 1), (1, 1), (2, 1), (3, 1), (4, 1), (5, 1)], 6, [.int .i64 0, .int .i64 0, .int .i64 0, .int .i64 0, .int .i64 0, .slice none 0 0]⟩) (.nd 59 (⟨.func, 1, [.nilFunc]⟩) (.nd 56 (⟨.func, 1, [.nilFunc]⟩) (.nd 55 (⟨.func, 1, [.nilFunc]⟩) (.nd 54 (⟨.struct [(0, 1), (1, 1), (2, 1), (3, 1), (4, 1), (5, 1), (6, 1)], 7, [.int .i64 0, .int .i64 0, .int .i64 0, .int .i64 0, .int .i64 0, .int .i64 0, .slice none 0 0]⟩) .lf .lf) .lf) (.nd 58 (⟨.func, 1, [.nilFunc]⟩) (.nd 57 (⟨.func, 1, [.nilFunc]⟩) .lf .lf) .lf)) (.nd 62 (⟨.struct [(0, 1), (1, 1), (2, 1), (3, 1), (4, 1), (5, 1), (6, 1)], 7, [.int .i64 0, .int .i64 0, .int .i64 0, .int .i64 0, .int .i64 0, .string .empty, .slice none 0 0]⟩) (.nd 61 (⟨.struct [(0, 1), (1, 1), (2, 1), (3, 1), (4, 1), (5, 1), (6, 1)], 7, [.int .i64 0, .int .i64 0, .int .i64 0, .int .i64 0, .int .i64 0, .string .empty, .slice none 0 0]⟩) (.nd 60 (⟨.slice 3 1 8 [.int .i64 0], 1, [.slice none 0 0]⟩) .lf .lf) .lf) (.nd 63 (⟨.struct [(0, 1), (1, 1), (2, 1), (3, 1), (4, 1), (5, 1)], 6, [.int .i64 0, .int .i64 0, .int .i64 0, .int .i64 0, .int .i64 0, .slice none 0 0]⟩) .lf .lf))) (.nd 69 (⟨.struct [(0, 1), (1, 1), (2, 1), (3, 1), (4, 1)], 5, [.int .i64 0, .int .i64 0, .string .empty, .slice none 0 0, .slice none 0 0]⟩) (.nd 67 (⟨.struct [(0, 1), (1, 1), (2, 1), (3, 1)], 4, [.int .i64 0, .int .i64 0, .int .i64 0, .slice none 0 0]⟩) (.nd 66 (⟨.struct [(0, 1), (1, 1), (2, 1), (3, 1)], 4, [.int .i64 0, .int .i64 0, .int .i64 0, .slice none 0 0]⟩) (.nd 65 (⟨.slice 71 1 4 [.int .u32 0], 1, [.slice none 0 0]⟩) .lf .lf) .lf) (.nd 68 (⟨.struct [(0, 1), (1, 1), (2, 1), (3, 1), (4, 1)], 5, [.int .i64 0, .int .i64 0, .string .empty, .slice none 0 0, .slice none 0 0]⟩) .lf .lf)) (.nd 72 (⟨.struct [(0, 1), (1, 1), (2, 1), (3, 1), (4, 1)], 5, [.int .i64 0, .int .i64 0, .string .empty, .int .u64 0, .int .u32 0]⟩) (.nd 71 (⟨.int .u32, 1, [.int .u32 0]⟩) (.nd 70 (⟨.int .u64, 1, [.int .u64 0]⟩) .lf .lf) .lf) (.nd 73 (⟨.struct [(0, 1), (1, 1), (2, 1), (3, 1), (4, 1)], 5, [.int .i64 0, .int .i64 0, .string .empty, .int .u64 0, .int .u32 0]⟩) .lf .lf)))) (.nd 90 (⟨.func, 1, [.nilFunc]⟩) (.nd 81 (⟨.func, 1, [.nilFunc]⟩) (.nd 78 (⟨.struct [(0, 8)], 8, [.slice none 0 0, .slice none 0 0, .slice none 0 0, .slice none 0 0, .slice none 0 0, .slice none 0 0, .slice none 0 0, .slice none 0 0]⟩) (.nd 76 (⟨.struct [(0, 1), (1, 1), (2, 1), (3, 1), (4, 1), (5, 1)], 6, [.int .i64 0, .int .i64 0, .int .i64 0, .int .i64 0, .slice none 0 0, .slice none 0 0]⟩) (.nd 75 (⟨.struct [(0, 1), (1, 1), (2, 1), (3, 1), (4, 1), (5, 1)], 6, [.int .i64 0, .int .i64 0, .int .i64 0, .int .i64 0, .slice none 0 0, .slice none 0 0]⟩) .lf .lf) .lf) (.nd 80 (⟨.func, 1, [.nilFunc]⟩) (.nd 79 (⟨.struct [(0, 8)], 8, [.slice none 0 0, .slice none 0 0, .slice none 0 0, .slice none 0 0, .slice none 0 0, .slice none 0 0, .slice none 0 0, .slice none 0 0]⟩) .lf .lf) .lf)) (.nd 86 (⟨.func, 1, [.nilFunc]⟩) (.nd 84 (⟨.func, 1, [.nilFunc]⟩) (.nd 82 (⟨.slice 9 1 16 [.string .empty], 1, [.slice none 0 0]⟩) .lf .lf) .lf) (.nd 88 (⟨.func, 1, [.nilFunc]⟩) .lf .lf))) (.nd 95 (⟨.func, 1, [.nilFunc]⟩) (.nd 93 (⟨.func, 1, [.nilFunc]⟩) (.nd 92 (⟨.func, 1, [.nilFunc]⟩) (.nd 91 (⟨.func, 1, [.nilFunc]⟩) .lf .lf) .lf) (.nd 94 (⟨.func, 1, [.nilFunc]⟩) .lf .lf)) (.nd 98 (⟨.struct [(0, 8)], 8, [.slice none 0 0, .slice none 0 0, .slice none 0 0, .slice none 0 0, .slice none 0 0, .slice none 0 0, .slice none 0 0, .slice none 0 0]⟩) (.nd 97 (⟨.struct [(0, 8)], 8, [.slice none 0 0, .slice none 0 0, .slice none 0 0, .slice none 0 0, .slice none 0 0, .slice none 0 0, .slice none 0 0, .slice none 0 0]⟩) (.nd 96 (⟨.func, 1, [.nilFunc]⟩) .lf .lf) .lf) (.nd 99 (⟨.func, 1, [.nilFunc]⟩) .lf .lf)))))) (.nd 146 (⟨.func, 1, [.nilFunc]⟩) (.nd 121 (⟨.struct [(0, 1), (1, 1), (2, 1), (3, 2)], 5, [.int .i64 0, .int .i64 0, .int .i64 0, .int .u32 0, .int .i64 0]⟩) (.nd 111 (⟨.func, 1, [.nilFunc]⟩) (.nd 106 (⟨.func, 1, [.nilFunc]⟩) (.nd 103 (⟨.func, 1, [.nilFunc]⟩) (.nd 102 (⟨.func, 1, [.nilFunc]⟩) (.nd 101 (⟨.func, 1, [.nilFunc]⟩) .lf .lf) .lf) (.nd 105 (⟨.struct [(0, 1), (1, 1), (2, 1)], 3, [.int .i64 0, .int .i64 0, .int .i64 0]⟩) (.nd 104 (⟨.struct [(0, 1), (1, 1), (2, 1)], 3, [.int .i64 0, .int .i64 0, .int .i64 0]⟩) .lf .lf) .lf)) (.nd 109 (⟨.struct [(0, 1), (1, 1), (2, 1), (3, 1)], 4, [.int .i64 0, .int .i64 0, .int .i64 0, .int .u64 0]⟩) (.nd 108 (⟨.struct [(0, 1), (1, 1), (2, 1), (3, 1)], 4, [.int .i64 0, .int .i64 0, .int .i64 0, .int .u64 0]⟩) (.nd 107 (⟨.func, 1, [.nilFunc]⟩) .lf .lf) .lf) (.nd 110 (⟨.func, 1, [.nilFunc]⟩) .lf .lf))) (.nd 116 (⟨.func, 1, [.nilFunc]⟩) (.nd 114 (⟨.func, 1, [.nilFunc]⟩) (.nd 113 (⟨.func, 1, [.nilFunc]⟩) (.nd 112 (⟨.func, 1, [.nilFunc]⟩) .lf .lf) .lf) (.nd 115 (⟨.func, 1, [.nilFunc]⟩) .lf .lf)) (.nd 119 (⟨.struct [(0, 1), (1, 1)], 2, [.int .u32 0, .int .i64 0]⟩) (.nd 118 (⟨.struct [(0, 1), (1, 1)], 2, [.int .u32 0, .int .i64 0]⟩) (.nd 117 (⟨.func, 1, [.nilFunc]⟩) .lf .lf) .lf) (.nd 120 (⟨.struct [(0, 1), (1, 1), (2, 1), (3, 2)], 5, [.int .i64 0, .int .i64 0, .int .i64 0, .int .u32 0, .int .i64 0]⟩) .lf .lf)))) (.nd 135 (⟨.func, 1, [.nilFunc]⟩) (.nd 128 (⟨.func, 1, [.nilFunc]⟩) (.nd 124 (⟨.func, 1, [.nilFunc]⟩) (.nd 123 (⟨.array 9 6 1, 6, [.string .empty, .string .empty, .string .empty, .string .empty, .string .empty, .string .empty]⟩) (.nd 122 (⟨.func, 1, [.nilFunc]⟩) .lf .lf) .lf) (.nd 127 (⟨.func, 1, [.nilFunc]⟩) (.nd 126 (⟨.func, 1, [.nilFunc]⟩) .lf .lf) .lf)) (.nd 131 (⟨.func, 1, [.nilFunc]⟩) (.nd 130 (⟨.func, 1, [.nilFunc]⟩) (.nd 129 (⟨.array 3 6 1, 6, [.int .i64 0, .int .i64 0, .int .i64 0, .int .i64 0, .int .i64 0, .int .i64 0]⟩) .lf .lf) .lf) (.nd 133 (⟨.func, 1, [.nilFunc]⟩) .lf .lf))) (.nd 141 (⟨.func, 1, [.nilFunc]⟩) (.nd 139 (⟨.func, 1, [.nilFunc]⟩) (.nd 138 (⟨.func, 1, [.nilFunc]⟩) (.nd 137 (⟨.func, 1, [.nilFunc]⟩) .lf .lf) .lf) (.nd 140 (⟨.int .u64, 1, [.int .u64 0]⟩) .lf .lf)) (.nd 144 (⟨.func, 1, [.nilFunc]⟩) (.nd 143 (⟨.func, 1, [.nilFunc]⟩) (.nd 142 (⟨.func, 1, [.nilFunc]⟩) .lf .lf) .lf) (.nd 145 (⟨.func, 1, [.nilFunc]⟩) .lf .lf))))) (.nd 168 (⟨.func, 1, [.nilFunc]⟩) (.nd 157 (⟨.func, 1, [.nilFunc]⟩) (.nd 152 (⟨.func, 1, [.nilFunc]⟩) (.nd 149 (⟨.func, 1, [.nilFunc]⟩) (.nd 148 (⟨.func, 1, [.nilFunc]⟩) (.nd 147 (⟨.func, 1, [.nilFunc]⟩) .lf .lf) .lf) (.nd 151 (⟨.func, 1, [.nilFunc]⟩) (.nd 150 (⟨.func, 1, [.nilFunc]⟩) .lf .lf) .lf)) (.nd 155 (⟨.func, 1, [.nilFunc]⟩) (.nd 154 (⟨.func, 1, [.nilFunc]⟩) (.nd 153 (⟨.func, 1, [.nilFunc]⟩) .lf .lf) .lf) (.nd 156 (⟨.func, 1, [.nilFunc]⟩) .lf .lf))) (.nd 162 (⟨.struct [(0, 1), (1, 1)], 2, [.pointer none, .slice none 0 0]⟩) (.nd 160 (⟨.ptr, 1, [.pointer none]⟩) (.nd 159 (⟨.func, 1, [.nilFunc]⟩) (.nd 158 (⟨.func, 1, [.nilFunc]⟩) .lf .lf) .lf) (.nd 161 (⟨.struct [(0, 1), (1, 1)], 2, [.pointer none, .slice none 0 0]⟩) .lf .lf)) (.nd 165 (⟨.iface, 1, [.nilIface]⟩) (.nd 164 (⟨.iface, 1, [.nilIface]⟩) (.nd 163 (⟨.func, 1, [.nilFunc]⟩) .lf .lf) .lf) (.nd 167 (⟨.func, 1, [.nilFunc]⟩) .lf .lf)))) (.nd 182 (⟨.func, 1, [.nilFunc]⟩) (.nd 174 (⟨.func, 1, [.nilFunc]⟩) (.nd 171 (⟨.func, 1, [.nilFunc]⟩) (.nd 170 (⟨.func, 1, [.nilFunc]⟩) (.nd 169 (⟨.func, 1, [.nilFunc]⟩) .lf .lf) .lf) (.nd 173 (⟨.ptr, 1, [.pointer none]⟩) (.nd 172 (⟨.func, 1, [.nilFunc]⟩) .lf .lf) .lf)) (.nd 179 (⟨.func, 1, [.nilFunc]⟩) (.nd 177 (⟨.func, 1, [.nilFunc]⟩) (.nd 176 (⟨.func, 1, [.nilFunc]⟩) .lf .lf) .lf) (.nd 180 (⟨.func, 1, [.nilFunc]⟩) .lf .lf))) (.nd 189 (⟨.array 16 0 1, 0, []⟩) (.nd 186 (⟨.array 185 16 2, 32, [.int .u8 0, .int .u8 0, .int .u8 0, .int .u8 0, .int .u8 0, .int .u8 0, .int .u8 0, .int .u8 0, .int .u8 0, .int .u8 0, .int .u8 0, .int .u8 0, .int .u8 0, .int .u8 0, .int .u8 0, .int .u8 0, .int .u8 0, .int .u8 0, .int .u8 0, .int .u8 0, .int .u8 0, .int .u8 0, .int .u8 0, .int .u8 0, .int .u8 0, .int .u8 0, .int .u8 0, .int .u8 0, .int .u8 0, .int .u8 0, .int .u8 0, .int .u8 0]⟩) (.nd 185 (⟨.struct [(0, 1), (1, 1)], 2, [.int .u8 0, .int .u8 0]⟩) (.nd 184 (⟨.struct [(0, 1), (1, 1)], 2, [.int .u8 0, .int .u8 0]⟩) .lf .lf) .lf) (.nd 187 (⟨.struct [(0, 1), (1, 1), (2, 1), (3, 1)], 4, [.pointer none, .pointer none, .pointer none, .string .empty]⟩) .lf .lf)) (.nd 195 (⟨.func, 1, [.nilFunc]⟩) (.nd 192 (⟨.func, 1, [.nilFunc]⟩) (.nd 190 (⟨.struct [(0, 0)], 0, []⟩) .lf .lf) .lf) (.nd 198 (⟨.struct [(0, 1), (1, 1), (2, 1), (3, 1), (4, 1), (5, 1), (6, 1), (7, 1), (8, 1), (9, 1), (10, 1)], 11, [.int .u64 0, .int .u64 0, .int .u32 0, .int .u8 0, .int .u8 0, .int .u8 0, .int .u8 0, .nilFunc, .pointer none, .int .i32 0, .int .i32 0]⟩) .lf .lf)))))))

def etab : Tr (List EK) := (.nd 109 ([.int .i64, .int .i64, .int .i64, .int .u64]) (.nd 105 ([.int .i64, .int .i64, .int .i64]) (.nd 73 ([.int .i64, .int .i64, .string, .int .u64, .int .u32]) .lf .lf) .lf) (.nd 119 ([.int .u32, .int .i64]) .lf .lf))

theorem tab_ok : tab.all (fun t i => tiOf Tryz.prog t = some i) := ⟨ty100, ⟨ty53, ⟨ty28, ⟨ty16, ⟨ty7, ⟨ty3, ⟨ty2, ⟨ty1, trivial, trivial⟩, trivial⟩, ⟨ty5, ⟨ty4, trivial, trivial⟩, trivial⟩⟩, ⟨ty13, ⟨ty12, ⟨ty9, trivial, trivial⟩, trivial⟩, ⟨ty15, trivial, trivial⟩⟩⟩, ⟨ty23, ⟨ty20, ⟨ty18, ⟨ty17, trivial, trivial⟩, trivial⟩, ⟨ty22, ⟨ty21, trivial, trivial⟩, trivial⟩⟩, ⟨ty26, ⟨ty25, ⟨ty24, trivial, trivial⟩, trivial⟩, ⟨ty27, trivial, trivial⟩⟩⟩⟩, ⟨ty41, ⟨ty34, ⟨ty31, ⟨ty30, ⟨ty29, trivial, trivial⟩, trivial⟩, ⟨ty33, ⟨ty32, trivial, trivial⟩, trivial⟩⟩, ⟨ty37, ⟨ty36, ⟨ty35, trivial, trivial⟩, trivial⟩, ⟨ty39, trivial, trivial⟩⟩⟩, ⟨ty48, ⟨ty46, ⟨ty45, ⟨ty43, trivial, trivial⟩, trivial⟩, ⟨ty47, trivial, trivial⟩⟩, ⟨ty51, ⟨ty50, ⟨ty49, trivial, trivial⟩, trivial⟩, ⟨ty52, trivial, trivial⟩⟩⟩⟩⟩, ⟨ty74, ⟨ty64, ⟨ty59, ⟨ty56, ⟨ty55, ⟨ty54, trivial, trivial⟩, trivial⟩, ⟨ty58, ⟨ty57, trivial, trivial⟩, trivial⟩⟩, ⟨ty62, ⟨ty61, ⟨ty60, trivial, trivial⟩, trivial⟩, ⟨ty63, trivial, trivial⟩⟩⟩, ⟨ty69, ⟨ty67, ⟨ty66, ⟨ty65, trivial, trivial⟩, trivial⟩, ⟨ty68, trivial, trivial⟩⟩, ⟨ty72, ⟨ty71, ⟨ty70, trivial, trivial⟩, trivial⟩, ⟨ty73, trivial, trivial⟩⟩⟩⟩, ⟨ty90, ⟨ty81, ⟨ty78, ⟨ty76, ⟨ty75, trivial, trivial⟩, trivial⟩, ⟨ty80, ⟨ty79, trivial, trivial⟩, trivial⟩⟩, ⟨ty86, ⟨ty84, ⟨ty82, trivial, trivial⟩, trivial⟩, ⟨ty88, trivial, trivial⟩⟩⟩, ⟨ty95, ⟨ty93, ⟨ty92, ⟨ty91, trivial, trivial⟩, trivial⟩, ⟨ty94, trivial, trivial⟩⟩, ⟨ty98, ⟨ty97, ⟨ty96, trivial, trivial⟩, trivial⟩, ⟨ty99, trivial, trivial⟩⟩⟩⟩⟩⟩, ⟨ty146, ⟨ty121, ⟨ty111, ⟨ty106, ⟨ty103, ⟨ty102, ⟨ty101, trivial, trivial⟩, trivial⟩, ⟨ty105, ⟨ty104, trivial, trivial⟩, trivial⟩⟩, ⟨ty109, ⟨ty108, ⟨ty107, trivial, trivial⟩, trivial⟩, ⟨ty110, trivial, trivial⟩⟩⟩, ⟨ty116, ⟨ty114, ⟨ty113, ⟨ty112, trivial, trivial⟩, trivial⟩, ⟨ty115, trivial, trivial⟩⟩, ⟨ty119, ⟨ty118, ⟨ty117, trivial, trivial⟩, trivial⟩, ⟨ty120, trivial, trivial⟩⟩⟩⟩, ⟨ty135, ⟨ty128, ⟨ty124, ⟨ty123, ⟨ty122, trivial, trivial⟩, trivial⟩, ⟨ty127, ⟨ty126, trivial, trivial⟩, trivial⟩⟩, ⟨ty131, ⟨ty130, ⟨ty129, trivial, trivial⟩, trivial⟩, ⟨ty133, trivial, trivial⟩⟩⟩, ⟨ty141, ⟨ty139, ⟨ty138, ⟨ty137, trivial, trivial⟩, trivial⟩, ⟨ty140, trivial, trivial⟩⟩, ⟨ty144, ⟨ty143, ⟨ty142, trivial, trivial⟩, trivial⟩, ⟨ty145, trivial, trivial⟩⟩⟩⟩⟩, ⟨ty168, ⟨ty157, ⟨ty152, ⟨ty149, ⟨ty148, ⟨ty147, trivial, trivial⟩, trivial⟩, ⟨ty151, ⟨ty150, trivial, trivial⟩, trivial⟩⟩, ⟨ty155, ⟨ty154, ⟨ty153, trivial, trivial⟩, trivial⟩, ⟨ty156, trivial, trivial⟩⟩⟩, ⟨ty162, ⟨ty160, ⟨ty159, ⟨ty158, trivial, trivial⟩, trivial⟩, ⟨ty161, trivial, trivial⟩⟩, ⟨ty165, ⟨ty164, ⟨ty163, trivial, trivial⟩, trivial⟩, ⟨ty167, trivial, trivial⟩⟩⟩⟩, ⟨ty182, ⟨ty174, ⟨ty171, ⟨ty170, ⟨ty169, trivial, trivial⟩, trivial⟩, ⟨ty173, ⟨ty172, trivial, trivial⟩, trivial⟩⟩, ⟨ty179, ⟨ty177, ⟨ty176, trivial, trivial⟩, trivial⟩, ⟨ty180, trivial, trivial⟩⟩⟩, ⟨ty189, ⟨ty186, ⟨ty185, ⟨ty184, trivial, trivial⟩, trivial⟩, ⟨ty187, trivial, trivial⟩⟩, ⟨ty195, ⟨ty192, ⟨ty190, trivial, trivial⟩, trivial⟩, ⟨ty198, trivial, trivial⟩⟩⟩⟩⟩⟩⟩

theorem etab_ok : etab.all (fun t i => eqsOf Tryz.prog t = some i) := ⟨tq109, ⟨tq105, ⟨tq73, trivial, trivial⟩, trivial⟩, ⟨tq119, trivial, trivial⟩⟩

def Γ : TyE Tryz.prog := ⟨⟨fun t => tab.look t, fun _ _ h => tiOf_ok (Tr.look_ok tab_ok h)⟩, fun t => etab.look t, fun _ _ h => eqsOf_ok (Tr.look_ok etab_ok h)⟩

theorem hm : Tryz.prog.follows .mixedOrders = true := by kernel_rfl

theorem F3 : Fun Tryz.prog 3 Tryz.f3 (bodyOf Tryz.f3) := ⟨Tryz.func3, rfl, by kernel_rfl⟩  -- paling/palinglaw39.MachineScripts
theorem F4 : Fun Tryz.prog 4 Tryz.f4 (bodyOf Tryz.f4) := ⟨Tryz.func4, rfl, by kernel_rfl⟩  -- paling/palinglaw39.MachineTells
theorem F5 : Fun Tryz.prog 5 Tryz.f5 (bodyOf Tryz.f5) := ⟨Tryz.func5, rfl, by kernel_rfl⟩  -- paling/palinglaw15.Great
theorem F6 : Fun Tryz.prog 6 Tryz.f6 (bodyOf Tryz.f6) := ⟨Tryz.func6, rfl, by kernel_rfl⟩  -- paling/palinglaw39.long
theorem F7 : Fun Tryz.prog 7 Tryz.f7 (bodyOf Tryz.f7) := ⟨Tryz.func7, rfl, by kernel_rfl⟩  -- paling/palinglaw33.Great
theorem F8 : Fun Tryz.prog 8 Tryz.f8 (bodyOf Tryz.f8) := ⟨Tryz.func8, rfl, by kernel_rfl⟩  -- paling/palinglaw39.works
theorem F9 : Fun Tryz.prog 9 Tryz.f9 (bodyOf Tryz.f9) := ⟨Tryz.func9, rfl, by kernel_rfl⟩  -- paling/machine.Print
theorem F10 : Fun Tryz.prog 10 Tryz.f10 (bodyOf Tryz.f10) := ⟨Tryz.func10, rfl, by kernel_rfl⟩  -- paling/palingref39.Print
theorem F11 : Fun Tryz.prog 11 Tryz.f11 (bodyOf Tryz.f11) := ⟨Tryz.func11, rfl, by kernel_rfl⟩  -- paling/machine.Parse
theorem F12 : Fun Tryz.prog 12 Tryz.f12 (bodyOf Tryz.f12) := ⟨Tryz.func12, rfl, by kernel_rfl⟩  -- paling/palingref39.Parse
theorem F13 : Fun Tryz.prog 13 Tryz.f13 (bodyOf Tryz.f13) := ⟨Tryz.func13, rfl, by kernel_rfl⟩  -- paling/palingref34.Steps
theorem F14 : Fun Tryz.prog 14 Tryz.f14 (bodyOf Tryz.f14) := ⟨Tryz.func14, rfl, by kernel_rfl⟩  -- paling/machine.Show
theorem F15 : Fun Tryz.prog 15 Tryz.f15 (bodyOf Tryz.f15) := ⟨Tryz.func15, rfl, by kernel_rfl⟩  -- paling/palingref39.Show
theorem F16 : Fun Tryz.prog 16 Tryz.f16 (bodyOf Tryz.f16) := ⟨Tryz.func16, rfl, by kernel_rfl⟩  -- paling/machine.Report
theorem F17 : Fun Tryz.prog 17 Tryz.f17 (bodyOf Tryz.f17) := ⟨Tryz.func17, rfl, by kernel_rfl⟩  -- paling/palingref39.Report
theorem F18 : Fun Tryz.prog 18 Tryz.f18 (bodyOf Tryz.f18) := ⟨Tryz.func18, rfl, by kernel_rfl⟩  -- paling/names.Right
theorem F19 : Fun Tryz.prog 19 Tryz.f19 (bodyOf Tryz.f19) := ⟨Tryz.func19, rfl, by kernel_rfl⟩  -- (paling/machine.site).row
theorem F20 : Fun Tryz.prog 20 Tryz.f20 (bodyOf Tryz.f20) := ⟨Tryz.func20, rfl, by kernel_rfl⟩  -- paling/palingref15.Right
theorem F21 : Fun Tryz.prog 21 Tryz.f21 (bodyOf Tryz.f21) := ⟨Tryz.func21, rfl, by kernel_rfl⟩  -- paling/palingref39.row
theorem F22 : Fun Tryz.prog 22 Tryz.f22 (bodyOf Tryz.f22) := ⟨Tryz.func22, rfl, by kernel_rfl⟩  -- paling/line.Rows
theorem F23 : Fun Tryz.prog 23 Tryz.f23 (bodyOf Tryz.f23) := ⟨Tryz.func23, rfl, by kernel_rfl⟩  -- (paling/machine.site).step
theorem F24 : Fun Tryz.prog 24 Tryz.f24 (bodyOf Tryz.f24) := ⟨Tryz.func24, rfl, by kernel_rfl⟩  -- paling/palingref10.Rows
theorem F25 : Fun Tryz.prog 25 Tryz.f25 (bodyOf Tryz.f25) := ⟨Tryz.func25, rfl, by kernel_rfl⟩  -- paling/palingref39.step
theorem F26 : Fun Tryz.prog 26 Tryz.f26 (bodyOf Tryz.f26) := ⟨Tryz.func26, rfl, by kernel_rfl⟩  -- (paling/machine.site).ported
theorem F27 : Fun Tryz.prog 27 Tryz.f27 (bodyOf Tryz.f27) := ⟨Tryz.func27, rfl, by kernel_rfl⟩  -- paling/line.Join
theorem F28 : Fun Tryz.prog 28 Tryz.f28 (bodyOf Tryz.f28) := ⟨Tryz.func28, rfl, by kernel_rfl⟩  -- (paling/machine.site).port
theorem F29 : Fun Tryz.prog 29 Tryz.f29 (bodyOf Tryz.f29) := ⟨Tryz.func29, rfl, by kernel_rfl⟩  -- paling/num.Text
theorem F30 : Fun Tryz.prog 30 Tryz.f30 (bodyOf Tryz.f30) := ⟨Tryz.func30, rfl, by kernel_rfl⟩  -- paling/machine.bytes
theorem F31 : Fun Tryz.prog 31 Tryz.f31 (bodyOf Tryz.f31) := ⟨Tryz.func31, rfl, by kernel_rfl⟩  -- paling/palingref15.Place
theorem F32 : Fun Tryz.prog 32 Tryz.f32 (bodyOf Tryz.f32) := ⟨Tryz.func32, rfl, by kernel_rfl⟩  -- paling/palingref39.Port
theorem F33 : Fun Tryz.prog 33 Tryz.f33 (bodyOf Tryz.f33) := ⟨Tryz.func33, rfl, by kernel_rfl⟩  -- paling/palingref03.Text
theorem F34 : Fun Tryz.prog 34 Tryz.f34 (bodyOf Tryz.f34) := ⟨Tryz.func34, rfl, by kernel_rfl⟩  -- paling/palingref39.Bytes
theorem F35 : Fun Tryz.prog 35 Tryz.f35 (bodyOf Tryz.f35) := ⟨Tryz.func35, rfl, by kernel_rfl⟩  -- paling/machine.end
theorem F36 : Fun Tryz.prog 36 Tryz.f36 (bodyOf Tryz.f36) := ⟨Tryz.func36, rfl, by kernel_rfl⟩  -- paling/machine.place
theorem F37 : Fun Tryz.prog 37 Tryz.f37 (bodyOf Tryz.f37) := ⟨Tryz.func37, rfl, by kernel_rfl⟩  -- paling/palingref39.end
theorem F38 : Fun Tryz.prog 38 Tryz.f38 (bodyOf Tryz.f38) := ⟨Tryz.func38, rfl, by kernel_rfl⟩  -- (paling/names.judge).few
theorem F39 : Fun Tryz.prog 39 Tryz.f39 (bodyOf Tryz.f39) := ⟨Tryz.func39, rfl, by kernel_rfl⟩  -- paling/names.all[paling/api.Domain]
theorem F40 : Fun Tryz.prog 40 Tryz.f40 (bodyOf Tryz.f40) := ⟨Tryz.func40, rfl, by kernel_rfl⟩  -- (paling/names.judge).bare
theorem F41 : Fun Tryz.prog 41 Tryz.f41 (bodyOf Tryz.f41) := ⟨Tryz.func41, rfl, by kernel_rfl⟩  -- (paling/names.judge).peers
theorem F42 : Fun Tryz.prog 42 Tryz.f42 (bodyOf Tryz.f42) := ⟨Tryz.func42, rfl, by kernel_rfl⟩  -- paling/names.all[paling/api.Port]
theorem F43 : Fun Tryz.prog 43 Tryz.f43 (bodyOf Tryz.f43) := ⟨Tryz.func43, rfl, by kernel_rfl⟩  -- (paling/names.judge).port
theorem F44 : Fun Tryz.prog 44 Tryz.f44 (bodyOf Tryz.f44) := ⟨Tryz.func44, rfl, by kernel_rfl⟩  -- paling/names.all[paling/api.Link]
theorem F45 : Fun Tryz.prog 45 Tryz.f45 (bodyOf Tryz.f45) := ⟨Tryz.func45, rfl, by kernel_rfl⟩  -- (paling/names.judge).link
theorem F46 : Fun Tryz.prog 46 Tryz.f46 (bodyOf Tryz.f46) := ⟨Tryz.func46, rfl, by kernel_rfl⟩  -- paling/names.all[paling/api.Static]
theorem F47 : Fun Tryz.prog 47 Tryz.f47 (bodyOf Tryz.f47) := ⟨Tryz.func47, rfl, by kernel_rfl⟩  -- (paling/names.judge).static
theorem F48 : Fun Tryz.prog 48 Tryz.f48 (bodyOf Tryz.f48) := ⟨Tryz.func48, rfl, by kernel_rfl⟩  -- paling/names.all[paling/api.Flood]
theorem F49 : Fun Tryz.prog 49 Tryz.f49 (bodyOf Tryz.f49) := ⟨Tryz.func49, rfl, by kernel_rfl⟩  -- paling/names.Right$1
theorem F50 : Fun Tryz.prog 50 Tryz.f50 (bodyOf Tryz.f50) := ⟨Tryz.func50, rfl, by kernel_rfl⟩  -- paling/names.place[paling/api.Device]
theorem F51 : Fun Tryz.prog 51 Tryz.f51 (bodyOf Tryz.f51) := ⟨Tryz.func51, rfl, by kernel_rfl⟩  -- paling/names.all[paling/api.Vrf]
theorem F52 : Fun Tryz.prog 52 Tryz.f52 (bodyOf Tryz.f52) := ⟨Tryz.func52, rfl, by kernel_rfl⟩  -- paling/names.Right$2
theorem F53 : Fun Tryz.prog 53 Tryz.f53 (bodyOf Tryz.f53) := ⟨Tryz.func53, rfl, by kernel_rfl⟩  -- paling/names.rising
theorem F54 : Fun Tryz.prog 54 Tryz.f54 (bodyOf Tryz.f54) := ⟨Tryz.func54, rfl, by kernel_rfl⟩  -- paling/names.all[paling/api.Irb]
theorem F55 : Fun Tryz.prog 55 Tryz.f55 (bodyOf Tryz.f55) := ⟨Tryz.func55, rfl, by kernel_rfl⟩  -- (paling/names.judge).irb
theorem F56 : Fun Tryz.prog 56 Tryz.f56 (bodyOf Tryz.f56) := ⟨Tryz.func56, rfl, by kernel_rfl⟩  -- paling/domains.Text
theorem F57 : Fun Tryz.prog 57 Tryz.f57 (bodyOf Tryz.f57) := ⟨Tryz.func57, rfl, by kernel_rfl⟩  -- paling/machine.truths
theorem F58 : Fun Tryz.prog 58 Tryz.f58 (bodyOf Tryz.f58) := ⟨Tryz.func58, rfl, by kernel_rfl⟩  -- paling/palingref15.domains
theorem F59 : Fun Tryz.prog 59 Tryz.f59 (bodyOf Tryz.f59) := ⟨Tryz.func59, rfl, by kernel_rfl⟩  -- paling/palingref15.ports
theorem F60 : Fun Tryz.prog 60 Tryz.f60 (bodyOf Tryz.f60) := ⟨Tryz.func60, rfl, by kernel_rfl⟩  -- paling/palingref15.links
theorem F61 : Fun Tryz.prog 61 Tryz.f61 (bodyOf Tryz.f61) := ⟨Tryz.func61, rfl, by kernel_rfl⟩  -- paling/palingref15.rest
theorem F62 : Fun Tryz.prog 62 Tryz.f62 (bodyOf Tryz.f62) := ⟨Tryz.func62, rfl, by kernel_rfl⟩  -- paling/palingref18.Text
theorem F63 : Fun Tryz.prog 63 Tryz.f63 (bodyOf Tryz.f63) := ⟨Tryz.func63, rfl, by kernel_rfl⟩  -- paling/palingref39.truths
theorem F64 : Fun Tryz.prog 64 Tryz.f64 (bodyOf Tryz.f64) := ⟨Tryz.func64, rfl, by kernel_rfl⟩  -- strings.Cut
theorem F65 : Fun Tryz.prog 65 Tryz.f65 (bodyOf Tryz.f65) := ⟨Tryz.func65, rfl, by kernel_rfl⟩  -- strings.Split
theorem F66 : Fun Tryz.prog 66 Tryz.f66 (bodyOf Tryz.f66) := ⟨Tryz.func66, rfl, by kernel_rfl⟩  -- paling/machine.kind
theorem F67 : Fun Tryz.prog 67 Tryz.f67 (bodyOf Tryz.f67) := ⟨Tryz.func67, rfl, by kernel_rfl⟩  -- slices.IndexFunc[[]paling/api.Port,paling/api.Port]
theorem F68 : Fun Tryz.prog 68 Tryz.f68 (bodyOf Tryz.f68) := ⟨Tryz.func68, rfl, by kernel_rfl⟩  -- (paling/machine.site).step$1
theorem F69 : Fun Tryz.prog 69 Tryz.f69 (bodyOf Tryz.f69) := ⟨Tryz.func69, rfl, by kernel_rfl⟩  -- paling/machine.readBytes
theorem F70 : Fun Tryz.prog 70 Tryz.f70 (bodyOf Tryz.f70) := ⟨Tryz.func70, rfl, by kernel_rfl⟩  -- paling/num.Read
theorem F71 : Fun Tryz.prog 71 Tryz.f71 (bodyOf Tryz.f71) := ⟨Tryz.func71, rfl, by kernel_rfl⟩  -- (paling/machine.site).readTruths
theorem F72 : Fun Tryz.prog 72 Tryz.f72 (bodyOf Tryz.f72) := ⟨Tryz.func72, rfl, by kernel_rfl⟩  -- paling/palingref39.words
theorem F73 : Fun Tryz.prog 73 Tryz.f73 (bodyOf Tryz.f73) := ⟨Tryz.func73, rfl, by kernel_rfl⟩  -- paling/palingref39.readBytes
theorem F74 : Fun Tryz.prog 74 Tryz.f74 (bodyOf Tryz.f74) := ⟨Tryz.func74, rfl, by kernel_rfl⟩  -- paling/palingref03.Read
theorem F75 : Fun Tryz.prog 75 Tryz.f75 (bodyOf Tryz.f75) := ⟨Tryz.func75, rfl, by kernel_rfl⟩  -- strings.Join
theorem F76 : Fun Tryz.prog 76 Tryz.f76 (bodyOf Tryz.f76) := ⟨Tryz.func76, rfl, by kernel_rfl⟩  -- paling/palingref03.digits
theorem F77 : Fun Tryz.prog 77 Tryz.f77 (bodyOf Tryz.f77) := ⟨Tryz.func77, rfl, by kernel_rfl⟩  -- paling/names.place[paling/api.Irb]
theorem F78 : Fun Tryz.prog 78 Tryz.f78 (bodyOf Tryz.f78) := ⟨Tryz.func78, rfl, by kernel_rfl⟩  -- (paling/names.judge).domain
theorem F79 : Fun Tryz.prog 79 Tryz.f79 (bodyOf Tryz.f79) := ⟨Tryz.func79, rfl, by kernel_rfl⟩  -- paling/names.all[int]
theorem F80 : Fun Tryz.prog 80 Tryz.f80 (bodyOf Tryz.f80) := ⟨Tryz.func80, rfl, by kernel_rfl⟩  -- (paling/names.judge).peers$1
theorem F81 : Fun Tryz.prog 81 Tryz.f81 (bodyOf Tryz.f81) := ⟨Tryz.func81, rfl, by kernel_rfl⟩  -- (paling/names.judge).peer
theorem F82 : Fun Tryz.prog 82 Tryz.f82 (bodyOf Tryz.f82) := ⟨Tryz.func82, rfl, by kernel_rfl⟩  -- slices.Index[[]int,int]
theorem F83 : Fun Tryz.prog 83 Tryz.f83 (bodyOf Tryz.f83) := ⟨Tryz.func83, rfl, by kernel_rfl⟩  -- slices.Contains[[]int,int]
theorem F84 : Fun Tryz.prog 84 Tryz.f84 (bodyOf Tryz.f84) := ⟨Tryz.func84, rfl, by kernel_rfl⟩  -- paling/names.place[paling/api.Link]
theorem F85 : Fun Tryz.prog 85 Tryz.f85 (bodyOf Tryz.f85) := ⟨Tryz.func85, rfl, by kernel_rfl⟩  -- paling/names.place[paling/api.Port]
theorem F86 : Fun Tryz.prog 86 Tryz.f86 (bodyOf Tryz.f86) := ⟨Tryz.func86, rfl, by kernel_rfl⟩  -- paling/names.place[paling/api.Domain]
theorem F87 : Fun Tryz.prog 87 Tryz.f87 (bodyOf Tryz.f87) := ⟨Tryz.func87, rfl, by kernel_rfl⟩  -- paling/names.Member
theorem F88 : Fun Tryz.prog 88 Tryz.f88 (bodyOf Tryz.f88) := ⟨Tryz.func88, rfl, by kernel_rfl⟩  -- paling/num.Rising
theorem F89 : Fun Tryz.prog 89 Tryz.f89 (bodyOf Tryz.f89) := ⟨Tryz.func89, rfl, by kernel_rfl⟩  -- paling/names.place[paling/api.Vrf]
theorem F90 : Fun Tryz.prog 90 Tryz.f90 (bodyOf Tryz.f90) := ⟨Tryz.func90, rfl, by kernel_rfl⟩  -- paling/domains.joined
theorem F91 : Fun Tryz.prog 91 Tryz.f91 (bodyOf Tryz.f91) := ⟨Tryz.func91, rfl, by kernel_rfl⟩  -- paling/palingref15.At
theorem F92 : Fun Tryz.prog 92 Tryz.f92 (bodyOf Tryz.f92) := ⟨Tryz.func92, rfl, by kernel_rfl⟩  -- paling/palingref15.peer
theorem F93 : Fun Tryz.prog 93 Tryz.f93 (bodyOf Tryz.f93) := ⟨Tryz.func93, rfl, by kernel_rfl⟩  -- paling/palingref15.In
theorem F94 : Fun Tryz.prog 94 Tryz.f94 (bodyOf Tryz.f94) := ⟨Tryz.func94, rfl, by kernel_rfl⟩  -- paling/palingref15.rising
theorem F95 : Fun Tryz.prog 95 Tryz.f95 (bodyOf Tryz.f95) := ⟨Tryz.func95, rfl, by kernel_rfl⟩  -- paling/palingref15.Member
theorem F97 : Fun Tryz.prog 97 Tryz.f97 (bodyOf Tryz.f97) := ⟨Tryz.func97, rfl, by kernel_rfl⟩  -- strings.genSplit
theorem F98 : Fun Tryz.prog 98 Tryz.f98 (bodyOf Tryz.f98) := ⟨Tryz.func98, rfl, by kernel_rfl⟩  -- strings.IndexByte
theorem F99 : Fun Tryz.prog 99 Tryz.f99 (bodyOf Tryz.f99) := ⟨Tryz.func99, rfl, by kernel_rfl⟩  -- strings.TrimPrefix
theorem F100 : Fun Tryz.prog 100 Tryz.f100 (bodyOf Tryz.f100) := ⟨Tryz.func100, rfl, by kernel_rfl⟩  -- paling/palingref39.digit
theorem F104 : Fun Tryz.prog 104 Tryz.f104 (bodyOf Tryz.f104) := ⟨Tryz.func104, rfl, by kernel_rfl⟩  -- slices.IndexFunc[[]paling/api.Domain,paling/api.Domain]
theorem F105 : Fun Tryz.prog 105 Tryz.f105 (bodyOf Tryz.f105) := ⟨Tryz.func105, rfl, by kernel_rfl⟩  -- (paling/names.judge).domain$1
theorem F106 : Fun Tryz.prog 106 Tryz.f106 (bodyOf Tryz.f106) := ⟨Tryz.func106, rfl, by kernel_rfl⟩  -- (paling/names.judge).vtep
theorem F107 : Fun Tryz.prog 107 Tryz.f107 (bodyOf Tryz.f107) := ⟨Tryz.func107, rfl, by kernel_rfl⟩  -- paling/palingref03.Rising
theorem F109 : Fun Tryz.prog 109 Tryz.f109 (bodyOf Tryz.f109) := ⟨Tryz.func109, rfl, by kernel_rfl⟩  -- strings.explode
theorem F110 : Fun Tryz.prog 110 Tryz.f110 (bodyOf Tryz.f110) := ⟨Tryz.func110, rfl, by kernel_rfl⟩  -- strings.Count
theorem F111 : Fun Tryz.prog 111 Tryz.f111 (bodyOf Tryz.f111) := ⟨Tryz.func111, rfl, by kernel_rfl⟩  -- strings.Index

end Go.Sy.YtjomehmhkcnadaaGreatDoor

namespace Go.Sy.YtjomehmhkcnadaaGreatDoor
open Go.Proofs

structure Device where
  (row prio : Int) (name : ByteArray) (mac vtep : Int)
structure Port where
  (row dev native cost link : Int) (name : ByteArray) (tagged : List Int)
structure Link where
  (row a b : Int)
structure Domain where
  (dev vlan vni irb row : Int) (peers : List Int)
structure Static where
  (row domain port mac : Int)
structure Flood where
  (row dev vni : Int) (addrs : List Int)
structure Vrf where
  (row dev : Int) (name : ByteArray) (imports exports : List Int)
structure Irb where
  (row domain vrf addr bits : Int)
structure Net where
  (devices : List Device) (ports : List Port) (links : List Link) (domains : List Domain) (statics : List Static) (floods : List Flood) (vrfs : List Vrf) (irbs : List Irb)

def deviceSV (d : Device) : SV := .agg [intSV d.row, intSV d.prio, strSV d.name, u64SV d.mac, u32SV d.vtep]
def portSV (p : Port) : SV := .agg [intSV p.row, intSV p.dev, intSV p.native, intSV p.cost, intSV p.link, strSV p.name, .sl 1 intSV p.tagged]
def linkSV (l : Link) : SV := .agg [intSV l.row, intSV l.a, intSV l.b]
def domainSV (d : Domain) : SV := .agg [intSV d.dev, intSV d.vlan, intSV d.vni, intSV d.irb, intSV d.row, .sl 1 intSV d.peers]
def staticSV (s : Static) : SV := .agg [intSV s.row, intSV s.domain, intSV s.port, u64SV s.mac]
def floodSV (f : Flood) : SV := .agg [intSV f.row, intSV f.dev, intSV f.vni, .sl 1 u32SV f.addrs]
def vrfSV (v : Vrf) : SV := .agg [intSV v.row, intSV v.dev, strSV v.name, .sl 1 intSV v.imports, .sl 1 intSV v.exports]
def irbSV (i : Irb) : SV := .agg [intSV i.row, intSV i.domain, intSV i.vrf, u32SV i.addr, intSV i.bits]
def netL (n : Net) : List SV := [.sl 5 deviceSV n.devices, .sl 7 portSV n.ports, .sl 3 linkSV n.links, .sl 6 domainSV n.domains, .sl 4 staticSV n.statics, .sl 4 floodSV n.floods, .sl 5 vrfSV n.vrfs, .sl 5 irbSV n.irbs]
def netSV (n : Net) : SV := .agg [.sl 5 deviceSV n.devices, .sl 7 portSV n.ports, .sl 3 linkSV n.links, .sl 6 domainSV n.domains, .sl 4 staticSV n.statics, .sl 4 floodSV n.floods, .sl 5 vrfSV n.vrfs, .sl 5 irbSV n.irbs]

instance : Inhabited Device := ⟨⟨0, 0, .empty, 0, 0⟩⟩
instance : Inhabited Port := ⟨⟨0, 0, 0, 0, 0, .empty, []⟩⟩
instance : Inhabited Link := ⟨⟨0, 0, 0⟩⟩
instance : Inhabited Domain := ⟨⟨0, 0, 0, 0, 0, []⟩⟩
instance : Inhabited Static := ⟨⟨0, 0, 0, 0⟩⟩
instance : Inhabited Flood := ⟨⟨0, 0, 0, []⟩⟩
instance : Inhabited Vrf := ⟨⟨0, 0, .empty, [], []⟩⟩
instance : Inhabited Irb := ⟨⟨0, 0, 0, 0, 0⟩⟩

def placeB (i : Int) (n : Nat) : Bool := decide (0 ≤ i) && decide (i < n)
def inB (l : List Int) (x : Int) : Bool := l.any (· == x)

/-- What stands at a place. -/
def nth {α : Type} [Inhabited α] (l : List α) (i : Int) : α := (l[i.toNat]?).getD default
theorem nth_eq {α : Type} [Inhabited α] {l : List α} {i : Int} (h : i.toNat < l.length) : nth l i = l[i.toNat] := by
  simp [nth, h]

/-- The first place that is so; or -1. -/
def idxI {α : Type} (p : α → Bool) (l : List α) : Int := match l.findIdx? p with | some i => (i : Int) | none => -1

theorem idxI_found {α : Type} {p : α → Bool} {l : List α} {j : Nat} (h : j < l.length) (h1 : ∀ i (hi : i < l.length), i < j → p l[i] = false) (h2 : p l[j] = true) : idxI p l = j := by
  have : l.findIdx? p = some j := by
    rw [List.findIdx?_eq_some_iff_getElem]
    exact ⟨h, h2, fun i hi => by simp [h1 i (by omega) hi]⟩
  simp [idxI, this]

theorem idxI_none {α : Type} {p : α → Bool} {l : List α} (h1 : ∀ i (hi : i < l.length), p l[i] = false) : idxI p l = -1 := by
  have : l.findIdx? p = none := by
    rw [List.findIdx?_eq_none_iff]
    intro x hx
    obtain ⟨i, hi, rfl⟩ := List.mem_iff_getElem.1 hx
    exact h1 i hi
  simp [idxI, this]

theorem idxI_lt {α : Type} (p : α → Bool) (l : List α) : idxI p l < l.length := by
  unfold idxI
  split
  · rename_i i h
    rw [List.findIdx?_eq_some_iff_getElem] at h
    obtain ⟨h, _⟩ := h
    omega
  · omega

theorem idxI_ge {α : Type} (p : α → Bool) (l : List α) : -1 ≤ idxI p l := by
  unfold idxI
  split <;> omega

theorem idxI_any {α : Type} (p : α → Bool) (l : List α) : decide (0 ≤ idxI p l) = l.any p := by
  unfold idxI
  split
  · rename_i i h
    rw [List.findIdx?_eq_some_iff_getElem] at h
    obtain ⟨h, h2, _⟩ := h
    have : l.any p = true := List.any_eq_true.2 ⟨_, List.getElem_mem h, h2⟩
    rw [this]
    simp
  · rename_i h
    rw [List.findIdx?_eq_none_iff] at h
    have : l.any p = false := by
      rw [List.any_eq_false]
      intro x hx
      simp [h x hx]
    rw [this]
    simp

/-- Is each, with its place, so? -/
def allB {α : Type} (p : Nat → α → Bool) (l : List α) : Bool := l.zipIdx.all fun q => p q.2 q.1

theorem allB_iff {α : Type} {p : Nat → α → Bool} {l : List α} : allB p l = true ↔ ∀ i (h : i < l.length), p i l[i] = true := by
  simp only [allB, List.all_eq_true]
  constructor
  · intro h i hi
    exact h (l[i], i) (by rw [List.mk_mem_zipIdx_iff_getElem?]; simp [hi])
  · rintro h ⟨x, i⟩ hx
    rw [List.mk_mem_zipIdx_iff_getElem?] at hx
    obtain ⟨hi, rfl⟩ := List.getElem?_eq_some_iff.1 hx
    exact h i hi

theorem allB_true {α : Type} {p : Nat → α → Bool} {l : List α} (h : ∀ i (h : i < l.length), p i l[i] = true) : allB p l = true := allB_iff.2 h
theorem allB_false {α : Type} {p : Nat → α → Bool} {l : List α} {i : Nat} (h : i < l.length) (h1 : p i l[i] = false) : allB p l = false := by
  cases hh : allB p l with
  | false => rfl
  | true => have := allB_iff.1 hh i h; rw [h1] at this; cases this

/-- The first j are so. -/
def Upto {α : Type} (p : Nat → α → Bool) (l : List α) (j : Nat) : Prop := ∀ i (h : i < l.length), i < j → p i l[i] = true
theorem upto_zero {α : Type} (p : Nat → α → Bool) (l : List α) : Upto p l 0 := fun i h hj => absurd hj (by omega)
theorem upto_next {α : Type} {p : Nat → α → Bool} {l : List α} {j : Nat} (hI : Upto p l j) (hj : j < l.length) (h : p j l[j] = true) : Upto p l (j + 1) := by
  intro i hi hij
  rcases Nat.lt_or_ge i j with h1 | h1
  · exact hI i hi h1
  · have : i = j := by omega
    subst this
    exact h
theorem upto_all {α : Type} {p : Nat → α → Bool} {l : List α} {j : Nat} (hI : Upto p l j) (hj : l.length ≤ j) : allB p l = true := allB_true fun i hi => hI i hi (by omega)

def Short {α : Type} (l : List α) : Prop := l.length < 2147483648

end Go.Sy.YtjomehmhkcnadaaGreatDoor

namespace Go.Sy

theorem Spec.view {P : Program} {f : FuncId} {A A' : List SV} {H H' : Obs} {R : SV} (hs : Sy.Spec P f A H R H') (h : ∀ κ w vs, RdL κ w A' vs → RdL κ w A vs) : Sy.Spec P f A' H R H' :=
  fun κ w vs hi hk hr ho => hs κ w vs hi hk (h κ w vs hr) ho

theorem Rd_nil_sl {κ : Ka} {w : World} {sz : Nat} {α : Type} {e : α → SV} {v : Value} (h : Rd κ w (.val (.slice none 0 0)) v) : Rd κ w (.sl sz e []) v := by
  simp only [Rd] at h
  simp only [Rd, RdD]
  exact .inl ⟨trivial, none, 0, h⟩

theorem Spec.viewR {P : Program} {f : FuncId} {A : List SV} {H H' : Obs} {R R' : SV} (hs : Sy.Spec P f A H R H') (h : ∀ κ w v, Rd κ w R v → Rd κ w R' v) : Sy.Spec P f A H R' H' :=
  fun κ w vs hi hk hr ho => (hs κ w vs hi hk hr ho).mono fun _ _ ⟨v, κ', e1, e2, e3, e4, e5⟩ => ⟨v, κ', e1, e2, e3, h κ' _ v e4, e5⟩
theorem RdD_nil_sl {M : Nat → Prop} {w : World} {sz : Nat} {α : Type} {e : α → SV} {v : Value} (h : v = .slice none 0 0) : RdD M w (.sl sz e []) v := by
  simp only [RdD]
  exact .inl ⟨trivial, none, 0, h⟩

/-- A row seen otherwise: each item can be. -/
theorem G_recode {C : Cx} {k : List KI} {s : SS} (d : Nat) {sz : Nat} {α β : Type} {e : α → SV} {l : List α} {e' : β → SV} {l' : List β} (h : s.h d = .row sz e l) (hl : l'.length = l.length)
    (hv : ∀ (M : Nat → Prop) (w : World) (i : Nat) (h1 : i < l.length) (h2 : i < l'.length) (v : Value), RdD M w (e l[i]) v → RdD M w (e' l'[i]) v) (hg : G C k ⟨s.σ, upd s.h d (.row sz e' l')⟩) : G C k s := fun κ a w hs =>
  hg κ a w ⟨hs.defers, hs.size, hs.inv, hs.ctx, hs.slot, fun i => by
    show ObOK κ w i (upd s.h d (.row sz e' l') i)
    by_cases hi : i = d
    · subst hi
      rw [upd_self]
      have := hs.obj i
      rw [h] at this
      rcases this with ⟨h1, rfl⟩ | ⟨b, cap, cs, T, fr, e1, e2, e3, e4, e5, e6⟩
      · exact .inl ⟨h1, List.eq_nil_of_length_eq_zero (by simpa using hl)⟩
      · refine .inr ⟨b, cap, cs, T, fr, by rw [hl]; exact e1, e2, e3, e4, by omega, fun i x hx => ?_⟩
        obtain ⟨hi2, rfl⟩ := hx
        obtain ⟨_, u, hu, hrest⟩ := e6 i (e (l[i]'(by omega))) ⟨by omega, rfl⟩
        exact ⟨hi2, u, hv _ _ i (by omega) hi2 u hu, hrest⟩
    · rw [upd_ne _ _ hi]; exact hs.obj i⟩
end Go.Sy

namespace Go.Sy

theorem RdL_set {κ : Ka} {w : World} {x : SV} : ∀ {l : List SV} {cs : List Value} {i : Nat}, RdL κ w l cs → (∀ y v, l[i]? = some y → Rd κ w y v → Rd κ w x v) → RdL κ w (l.set i x) cs
  | [], _, _, h, _ => h
  | y :: l, cs, 0, h, hx => by
    simp only [RdL, List.set_cons_zero] at h ⊢
    obtain ⟨v, r, e1, e2, e3⟩ := h
    exact ⟨v, r, e1, hx y v rfl e2, e3⟩
  | y :: l, cs, i + 1, h, hx => by
    simp only [RdL, List.set_cons_succ] at h ⊢
    obtain ⟨v, r, e1, e2, e3⟩ := h
    exact ⟨v, r, e1, e2, RdL_set e3 (fun z u hz hu => hx z u hz hu)⟩

/-- A nil slice in cell i of the box b becomes the name d, an empty row. -/
theorem G_adoptB {C : Cx} {k : List KI} {s : SS} (b i d sz : Nat) {α : Type} (e : α → SV) {l : List SV} (hb : s.h b = .box l) (h : l[i]? = some (.val (.slice none 0 0))) (hd : s.h d = .fresh) (hbd : Nat.beq b d = false)
    (hg : G C k ⟨s.σ, upd (upd s.h b (.box (l.set i (.osl d)))) d (.row sz e [])⟩) : G C k s := fun κ a w hs => by
  have hne : b ≠ d := fun e => by rw [e, Nat.beq_refl] at hbd; cases hbd
  have hnew : κ d = .new := by have := hs.obj d; rwa [hd] at this
  obtain ⟨st, inv⟩ := step_new hs.inv hnew (e := .nil) (Grew.refl w) (fun b hb => by cases hb)
  refine hg (setK κ d .nil) a w ⟨hs.defers, hs.size, inv, hs.ctx.step inv st, fun j => Rd.step st _ _ (hs.slot j), fun j => ?_⟩
  show ObOK _ w j (upd (upd s.h b (.box (l.set i (.osl d)))) d (.row sz e []) j)
  by_cases hj : j = d
  · subst hj; rw [upd_self]; exact .inl ⟨setK_self _ _ _, rfl⟩
  · rw [upd_ne _ _ hj]
    by_cases hjb : j = b
    · subst hjb
      rw [upd_self]
      have := ObOK.step st hj _ (hs.obj j)
      rw [hb] at this
      obtain ⟨b', cs, T, fr, e1, e2, e3, e4, e5⟩ := this
      refine ⟨b', cs, T, fr, e1, e2, e3, e4, RdL_set e5 fun y v hy hv => ?_⟩
      rw [h] at hy
      cases hy
      simp only [Rd] at hv
      simp only [Rd, setK_self]
      exact hv
    · rw [upd_ne _ _ hjb]; exact ObOK.step st hj _ (hs.obj j)
end Go.Sy

namespace Go.Sy

theorem run_equal_slice_nil {P : Program} (w : World) {t e : TypeId} (h : P.underlying t = some (.slice e)) (ad : Option Addr) (n cap c1 c2 : Nat) : (Op.equal t (.slice ad n cap) (.slice none c1 c2)).run P w = .ok ad.isNone w := by
  have key : ∀ d, (Op.equalIn (d + 1) t (.slice ad n cap) (.slice none c1 c2)).run P w = .ok ad.isNone w := fun d => by
    cases ad <;> simp [Op.equalIn, run_underlying h]
  exact key 9999

/-- What a slice is, whose length is known. -/
inductive NilT (s : SS) : SV → List Nat → Nat → Prop
  | sl {sz : Nat} {α : Type} {e : α → SV} {l : List α} : NilT s (.sl sz e l) [] l.length
  | row {k sz : Nat} {α : Type} {e : α → SV} {l : List α} (h : s.h k = .row sz e l) : NilT s (.osl k) [k] l.length

theorem NilT.at {C : Cx} {s : SS} {κ : Ka} {a : Act} {w : World} {x : Operand} {rd : List Nat} {n : Nat} (hs : St C.F C.n s κ a w) (hx : NilT s (ev s x) rd n) : ∃ (ad : Option Addr) (m cap : Nat), a.eval x = .slice ad m cap ∧ (ad.isNone = true → n = 0) := by
  have h1 : Rd κ w (ev s x) (a.eval x) := hs.ev x
  generalize ev s x = y at *
  cases hx with
  | @sl sz α e l =>
    simp only [Rd, RdD] at h1
    rcases h1 with ⟨rfl, a', cap, h1⟩ | ⟨b, off, cap, h1, _⟩
    · exact ⟨_, _, _, h1, fun _ => rfl⟩
    · exact ⟨_, _, _, h1, fun h => by cases h⟩
  | @row k' sz α e l hr =>
    have hob := hs.obj k'
    rw [hr] at hob
    simp only [Rd] at h1
    rcases hob with ⟨hκ, hl⟩ | ⟨b, cap, _, _, _, hκ, _⟩
    · rw [hκ] at h1
      exact ⟨_, _, _, h1, fun _ => by rw [hl]; rfl⟩
    · rw [hκ] at h1
      exact ⟨_, _, _, h1, fun h => by cases h⟩

/-- A slice against nil: of one that is empty both may be. -/
theorem stepNil {C : Cx} {k : List KI} {s : SS} {all : Array Oper} {o : Oper} {rest : List Oper} {op : BinOp} {t yt : TypeId} {ti : TI} {et : TypeId} {sz eb n : Nat} {ez : List Value} {x y : Operand} {rd : List Nat} (h : o.op = .binOp op t x y yt) (hop : op = .eql ∨ op = .neq)
    (ht : C.Γ.get t = some ti) (hk : ti.k = .slice et sz eb ez) (hy : ev s y = .val (.slice none 0 0)) (hx : NilT s (ev s x) rd n) (hd : dstOK C.n o = true) (hw : guardV C.n all o s = some true)
    (hg : ∀ b : Bool, (b = true → n = 0) → G C (.ops all rest :: k) (s.upd o.dst ⟨.val (.bool (if op = .eql then b else !b)), rd, []⟩)) : G C (.ops all (o :: rest) :: k) s := fun κ a w hs => by
  have h2 : Rd κ w (ev s y) (a.eval y) := hs.ev y
  rw [hy] at h2
  obtain ⟨ad, m, cap, e1, e2⟩ := hx.at hs
  obtain ⟨d, info, z, k1, k2, _⟩ := C.Γ.ok t ti ht
  rw [hk] at k2
  simp only [TK.ok] at k2
  have hrun := run_equal_slice_nil (P := C.P) w (t := t) (e := et) (by first | exact k2.1 ▸ k1 | (rw [k1, k2.1])) ad m cap 0 0
  have hG := hg ad.isNone e2
  have hv := h2.val
  refine wpList_step fun K hK => ?_
  rw [if_pos (want_ok hs (guardV_ok hw).2 (guardV_ok hw).1)]
  have hx' : (execOp a.eval o).run C.P w = .ok (.value (.bool (if op = .eql then ad.isNone else !ad.isNone))) w := by
    rcases hop with rfl | rfl <;> simp [execOp, h, e1, hv, eqGuard, binOp, hrun]
  simp only [Oper.wp, hx', Oper.upon]
  exact hK _ _ (hG κ _ w (hs.put (U := ⟨.val (.bool (if op = .eql then ad.isNone else !ad.isNone)), rd, []⟩) (dstOK_ok hd) (Step.refl _ κ w) hs.inv (by simp [Rd]) (fun p hp => by cases hp)))

/-- A slice that is there, or not, against nil. -/
theorem good_nil_val {P : Program} (Γ : Ty P) {o : Oper} {s : SS} {op : BinOp} {t yt : TypeId} {ti : TI} {et : TypeId} {sz eb n cap : Nat} {ez : List Value} {ad : Option Addr} {x y : Operand} (h : o.op = .binOp op t x y yt) (hop : op = .eql ∨ op = .neq)
    (ht : Γ.get t = some ti) (hk : ti.k = .slice et sz eb ez) (hy : ev s y = .val (.slice none 0 0)) (hx : ev s x = .val (.slice ad n cap)) : Good P o s ⟨.val (.bool (if op = .eql then ad.isNone else !ad.isNone)), [], []⟩ :=
  Good.pure fun κ a w _ hrd _ => by
    have h1 := hrd x (by simp [h, Op.operands])
    have h2 := hrd y (by simp [h, Op.operands])
    rw [hx] at h1
    rw [hy] at h2
    obtain ⟨d, info, z, k1, k2, _⟩ := Γ.ok t ti ht
    rw [hk] at k2
    simp only [TK.ok] at k2
    have hrun := run_equal_slice_nil (P := P) w (t := t) (e := et) (by first | exact k2.1 ▸ k1 | (rw [k1, k2.1])) ad n cap 0 0
    refine ⟨.bool (if op = .eql then ad.isNone else !ad.isNone), ?_, by simp [Rd]⟩
    rcases hop with rfl | rfl <;> simp [execOp, h, h1.val, h2.val, eqGuard, binOp, hrun]

/-- A slice that has items against nil. -/
theorem good_nil_sl {P : Program} (Γ : Ty P) {o : Oper} {s : SS} {op : BinOp} {t yt : TypeId} {ti : TI} {et : TypeId} {sz eb sz2 : Nat} {ez : List Value} {α : Type} {e : α → SV} {l : List α} {x y : Operand} (h : o.op = .binOp op t x y yt) (hop : op = .eql ∨ op = .neq)
    (ht : Γ.get t = some ti) (hk : ti.k = .slice et sz eb ez) (hy : ev s y = .val (.slice none 0 0)) (hx : ev s x = .sl sz2 e l) (hne : l ≠ []) : Good P o s ⟨.val (.bool (if op = .eql then false else true)), [], []⟩ :=
  Good.pure fun κ a w _ hrd _ => by
    have h1 := hrd x (by simp [h, Op.operands])
    have h2 := hrd y (by simp [h, Op.operands])
    rw [hx] at h1
    rw [hy] at h2
    obtain ⟨d, info, z, k1, k2, _⟩ := Γ.ok t ti ht
    rw [hk] at k2
    simp only [TK.ok] at k2
    simp only [Rd, RdD] at h1
    rcases h1 with ⟨h1, _⟩ | ⟨b, off, cap, h1, _⟩
    · exact absurd h1 hne
    have hrun := run_equal_slice_nil (P := P) w (t := t) (e := et) (by first | exact k2.1 ▸ k1 | (rw [k1, k2.1])) (some ⟨b, off, none⟩) l.length cap 0 0
    refine ⟨.bool (if op = .eql then false else true), ?_, by simp [Rd]⟩
    rcases hop with rfl | rfl <;> simp [execOp, h, h1, h2.val, eqGuard, binOp, hrun]

/-- A struct of a truth and a struct. -/
structure EqN (P : Program) (t : TypeId) (ks : List EK) (n : Nat) : Prop where
  f : ∃ f0 f1 i1, P.underlying t = some (.struct #[f0, f1]) ∧ f0.name ≠ "_" ∧ f0.offset = 0 ∧ P.underlying f0.type = some .bool ∧ f1.name ≠ "_" ∧ f1.offset = 1 ∧ EqOK P f1.type ks ∧ P.info? f1.type = some i1 ∧ P.cellsOf f1.type = n
  stood : P.stoodInHeld t = false
  guard : P.eqGuardType P.depth t = false

theorem good_eq_nest {P : Program} {o : Oper} {s : SS} {op : BinOp} {t yt : TypeId} {x y : Operand} {l m : List SV} {p q : Bool} {ks : List EK} {n : Nat} {r : Bool} (h : o.op = .binOp op t x y yt) (hop : op = .eql ∨ op = .neq) (hq : EqN P t ks n)
    (hx : ev s x = .agg (.val (.bool p) :: l)) (hy : ev s y = .agg (.val (.bool q) :: m)) (hl : l.length = n) (hm : m.length = n) (hr : eqS ks l m = some r) : Good P o s ⟨.val (.bool (if op = .eql then (p == q && r) else !(p == q && r))), [], []⟩ :=
  Good.pure fun κ a w _ hrd _ => by
    have h1 := hrd x (by simp [h, Op.operands])
    have h2 := hrd y (by simp [h, Op.operands])
    rw [hx] at h1
    rw [hy] at h2
    simp only [Rd, RdL] at h1 h2
    obtain ⟨cs, e1, _, v0, c1, rfl, e3, e4⟩ := h1
    obtain ⟨ds, f1, _, u0, d1, rfl, f3, f4⟩ := h2
    subst e3
    subst f3
    obtain ⟨⟨g0, g1, i1, a1, a2, a3, a4, a5, a6, a7, a8, a9⟩, hst, hgd⟩ := hq
    have lc : c1.length = n := by rw [← hl]; exact RdL.length e4
    have ld : d1.length = n := by rw [← hm]; exact RdL.length f4
    have hsz := run_sizeOf (P := P) (w := w) a8
    have p0 : ∀ (b : Bool) (c : List Value), (part g0.type (Value.bool b :: c).toArray 0).run P w = .ok (.bool b) w := fun b c => by simp [part, isAgg, run_underlying a4]
    have p1 : ∀ (b : Bool) (c : List Value), c.length = n → (part g1.type (Value.bool b :: c).toArray 1).run P w = .ok (.agg c.toArray) w := fun b c hc => by
      have hex : ((Value.bool b :: c).toArray.extract 1 (1 + n)) = c.toArray := by
        apply Array.ext'
        simp [Array.toList_extract, hc]
        exact List.take_of_length_le (by omega)
      simp only [part, isAgg, run_underlying a7.under, Sem.run_bind, Result.andThen_ok, hsz, a9, if_true, Sem.run_pure, hex]
    have hin : ∀ d, (Op.equalIn (d + 2) g1.type (.agg c1.toArray) (.agg d1.toArray)).run P w = .ok r w := fun d => by
      rw [run_equalIn_struct w (d + 1) g1.type _ _ a7.under a7.stood]
      exact eq_run (κ := κ) d ks _ 0 l m r a7.fields (by simpa using e4) (by simpa using f4) hr
    have hb : ∀ d, (Op.equalIn (d + 1) g0.type (.bool p) (.bool q)).run P w = .ok (p == q) w := fun d => run_equalIn_bool' w d g0.type _ _ a4
    have hrun : (Op.equal t (.agg (Value.bool p :: c1).toArray) (.agg (Value.bool q :: d1).toArray)).run P w = .ok (p == q && r) w := by
      show (Op.equalIn (9999 + 1) t _ _).run P w = .ok _ w
      have hf : P.fieldsOf t = #[g0, g1] := by simp [Program.fieldsOf, a1]
      rw [run_equalIn_struct w 9999 t _ _ (by rw [hf]; exact a1) hst, hf]
      simp only [Op.eqFields, if_pos a2, if_pos a5, Sem.run_bind, a3, a6, p0, p1 p c1 lc, p1 q d1 ld, Result.andThen_ok, hb 9998, hin 9997]
      cases hpq : (p == q)
      · simp
      · have q1 := p1 p c1 lc
        have q2 := p1 q d1 ld
        have q3 := hin 9997
        simp only [Bool.not_true, Bool.false_eq_true, if_false, Sem.run_bind, q1, q2, Result.andThen_ok, q3]
        cases r <;> simp
    have hg : (eqGuard op t x y (.agg (Value.bool p :: c1).toArray) (.agg (Value.bool q :: d1).toArray)).run P w = .ok () w := by
      rcases hop with rfl | rfl <;> simp [eqGuard, hgd]
    refine ⟨.bool (if op = .eql then (p == q && r) else !(p == q && r)), ?_, by simp [Rd]⟩
    rcases hop with rfl | rfl <;> simp [execOp, h, e1, f1, hg, binOp, hrun]

theorem eqFs_get {P : Program} : ∀ {fs : List Field} {ks : List EK} {i f : Nat}, eqFs P i fs ks → f < ks.length → ∃ x k, fs[f]? = some x ∧ x.offset = i + f ∧ P.underlying x.type = some (EK.desc k)
  | [], [], i, f, _, h => absurd h (by simp)
  | [], _ :: _, i, f, h, _ => by simp [eqFs] at h
  | _ :: _, [], i, f, h, _ => by simp [eqFs] at h
  | x :: fs, k :: ks, i, 0, h, _ => by
    simp only [eqFs] at h
    exact ⟨x, k, rfl, by omega, h.2.2.1⟩
  | x :: fs, k :: ks, i, f + 1, h, hf => by
    simp only [eqFs] at h
    obtain ⟨y, k', h1, h2, h3⟩ := eqFs_get h.2.2.2 (show f < ks.length by simpa using hf)
    exact ⟨y, k', by simpa using h1, by omega, h3⟩

/-- A field of a struct that is held as a value. -/
theorem good_field {P : Program} {o : Oper} {s : SS} {t : TypeId} {x : Operand} {f : Nat} {l : List SV} {y : SV} {ks : List EK} (hq : EqOK P t ks) (h : o.op = .field t x f) (hx : ev s x = .agg l) (hf : f < ks.length) (hy : getI l f = some y) : Good P o s ⟨y, [], []⟩ :=
  Good.pure fun κ a w _ hr _ => by
    have h1 := hr x (by simp [h, Op.operands])
    rw [hx] at h1
    simp only [Rd] at h1
    obtain ⟨cs, e1, _, e2⟩ := h1
    obtain ⟨v, e3, e4⟩ := e2.getT hy
    obtain ⟨g, k, g1, g2, g3⟩ := eqFs_get hq.fields hf
    have g1' : (P.fieldsOf t)[f]? = some g := by simpa using g1
    have hp := run_part (P := P) w g3 cs.toArray e3
    rw [Nat.zero_add] at g2
    refine ⟨v, ?_, e4⟩
    simp [execOp, h, e1, Instr.field, run_underlying hq.under, g1', asAgg, g2, hp]

def KeepL (s : SS) : List (Nat × Ob) → Prop
  | [] => True
  | (k, o) :: r => s.h k = o ∧ KeepL s r
theorem KeepL.all {s : SS} : ∀ {l : List (Nat × Ob)}, KeepL s l → ∀ p ∈ l, s.h p.1 = p.2
  | [], _, p, hp => by cases hp
  | (k, o) :: r, h, p, hp => by
    rcases List.mem_cons.1 hp with rfl | hp
    · exact h.1
    · exact KeepL.all h.2 p hp

/-- A call in a drawing region whose objects are behind it as they were ahead of it. -/
theorem stepD2 {C : Cx} {k : List KI} {s : SS} {all : Array Oper} {done : List Stp} {o : Oper} {rest : List Oper} {U : Up} (hg : Good C.P o s U) (hk : KeepL s U.objs) (hi : all[done.length]? = some o) (hw : guardV C.n all o s = some true)
    (h : DR C k all (done ++ [⟨done.length, o, ⟨U.v, U.rd ++ U.ws, []⟩, true⟩]) rest (s.upd o.dst ⟨U.v, U.rd ++ U.ws, []⟩)) (hn : (isIdx o || isSt o) = false := by rfl) : DR C k all done (o :: rest) s :=
  DR_op _ (.of2 (hg.keep hk.all) hn) hi (guardV_ok hw).1 h

end Go.Sy

namespace Go.Sy

theorem step_grew {κ : Ka} {w w' : World} (hi : Inv κ w) (g : Grew w w') : Step (fun _ => False) κ w κ w' ∧ Inv κ w' :=
  ⟨⟨g.size, g.os, g.tape, g.output, rfl, fun b hb => g.blk b (hi.mbnd b hb), fun b hb _ => g.blk b hb, fun k b _ hb => g.blk b (hi.bnd k b hb), fun _ _ => rfl, fun _ h => h.elim, fun _ h => .inl h⟩,
   ⟨hi.inj, fun k b h => Nat.lt_of_lt_of_le (hi.bnd k b h) g.size, hi.apart, fun b h => Nat.lt_of_lt_of_le (hi.mbnd b h) g.size⟩⟩

/-- A contract of the kit's own kind: a plain value comes back, and new blocks at most lie behind. -/
theorem Spec.of_calls {P : Program} {f : FuncId} {A : List SV} {H : Obs} {u : Value}
    (h : ∀ (κ : Ka) (w : World) (vs : List Value), Inv κ w → RdL κ w A vs → H.ok κ w → Calls P f vs.toArray w fun e w' => e = .returned u ∧ RowKit.Below w.heap.size w w') : Spec P f A H (.val u) H := by
  intro κ w vs hi _ hr ho
  refine (h κ w vs hi hr ho).mono fun e w' hw => ?_
  obtain ⟨he, hw⟩ := hw
  have g : Grew w w' := ⟨hw.os, hw.tape, hw.output, hw.size, hw.block⟩
  have st := step_grew hi g
  exact ⟨u, κ, he, (Ctx.refl κ w).step st.2 st.1, st.2, by simp [Rd], fun p hp => ObOK.step st.1 (by simp) p.2 (ho p hp)⟩

/-- The cells of a slice of strings that is data. -/
theorem strs_cells {κ : Ka} {w : World} {l : List ByteArray} {v : Value} (h : Rd κ w (.sl 1 strSV l) v) :
    (l = [] ∧ ∃ a c, v = .slice a 0 c) ∨ ∃ b o c, v = .slice (some ⟨b, o, none⟩) l.length c ∧ l.length ≤ c ∧ b < w.heap.size ∧ ∀ (j : Nat) x, l[j]? = some x → w.cell? ⟨b, o + j, none⟩ = some (.string x) := by
  simp only [Rd, RdD] at h
  rcases h with ⟨h1, h2⟩ | ⟨b, off, cap, h1, h0, h2, h3, h4⟩
  · exact .inl ⟨h1, h2⟩
  · refine .inr ⟨b, off, cap, h1, h0, h3, fun j x hj => ?_⟩
    obtain ⟨hlt, he⟩ := List.getElem?_eq_some_iff.1 hj
    obtain ⟨u, h5, h6⟩ := h4 j hlt
    rw [he] at h5
    simp only [strSV, RdD] at h5
    subst h5
    have := h6.2.2 0 (by omega)
    simp only [Nat.mul_one, Nat.add_zero] at this
    exact this

theorem good_min {P : Program} {o : Oper} {s : SS} {x y : Operand} {at_ : Array TypeId} {k k' : IntKind} {m n : Int} (h : o.op = .call ⟨.builtin .min, #[x, y], at_⟩)
    (hx : ev s x = .val (.int k m)) (hy : ev s y = .val (.int k' n)) : Good P o s ⟨.val (.int k (if n < m then n else m)), [], []⟩ :=
  Good.pure fun κ a w _ hr ho => by
    have h1 := hr x (by simp [h, Op.operands, Call.operands])
    have h2 := hr y (by simp [h, Op.operands, Call.operands])
    rw [hx] at h1
    rw [hy] at h2
    refine ⟨.int k (if n < m then n else m), ?_, by simp [Rd]⟩
    simp [execOp, h, resolve, invoke, builtin, Builtin.min_, Builtin.min2, h1.val, h2.val]

theorem good_min_le {P : Program} {o : Oper} {s : SS} {x y : Operand} {at_ : Array TypeId} {k k' : IntKind} {m n : Int} (h : o.op = .call ⟨.builtin .min, #[x, y], at_⟩)
    (hx : ev s x = .val (.int k m)) (hy : ev s y = .val (.int k' n)) (hle : m ≤ n) : Good P o s ⟨.val (.int k m), [], []⟩ := by
  have := good_min (P := P) h hx hy
  rwa [if_neg (by omega)] at this

/-- Texts, joined. -/
def joinT (l : List ByteArray) (sep : ByteArray) : ByteArray := ⟨(Lib.join (l.map (·.data.toList)) sep.data.toList).toArray⟩

def sizes (l : List ByteArray) : Nat := (l.map (·.size)).sum

theorem join_le : ∀ (l : List (List UInt8)) (sep : List UInt8), (Lib.join l sep).length ≤ (l.map (·.length)).sum + sep.length * l.length
  | [], _ => by simp [Lib.join_nil]
  | x :: r, sep => by
    rw [Lib.join_length]
    have : Lib.lens (x :: r) = ((x :: r).map (·.length)).sum := by
      clear sep
      induction (x :: r) with
      | nil => rfl
      | cons a t ih => simp [Lib.lens, ih]
    rw [this, List.length_cons, Nat.mul_succ]
    omega

theorem join_few {l : List ByteArray} {sep : ByteArray} (h1 : sizes l ≤ 70368744177664) (h2 : sep.size * l.length ≤ 70368744177664) : (Lib.join (l.map (·.data.toList)) sep.data.toList).length ≤ 140737488355328 := by
  have := join_le (l.map (·.data.toList)) sep.data.toList
  have e : (l.map (·.data.toList)).map (·.length) = l.map (·.size) := by
    rw [List.map_map]
    apply List.map_congr_left
    intro a _
    rfl
  rw [e, List.length_map] at this
  have e2 : sep.data.toList.length = sep.size := rfl
  rw [e2] at this
  unfold sizes at h1
  omega

end Go.Sy

namespace Go.Proofs
open Go.Shelf
def Tryz.lays156_ren : Go.Shelf.Ren := ⟨fun | 156 => 75 | 165 => 101 | 166 => 102 | 169 => 103 | 240 => 114 | 241 => 115 | 276 => 124 | 277 => 125 | n => n, fun | 31 => 82 | 9 => 9 | 3 => 3 | 4 => 4 | 0 => 0 | 20 => 20 | 72 => 162 | 76 => 166 | 70 => 160 | 37 => 33 | 75 => 165 | 127 => 173 | 164 => 178 | 5 => 5 | 80 => 168 | n => n, fun | n => n⟩
theorem Tryz.lays156 : Go.Proofs.Lays.n156 Tryz.prog Tryz.lays156_ren := {
  mixed := by kernel_rfl
  f156 := Tryz.func75.trans (congrArg some (by kernel_rfl))
  f165 := Tryz.func101.trans (congrArg some (by kernel_rfl))
  f166 := Tryz.func102.trans (congrArg some (by kernel_rfl))
  f169 := Tryz.func103.trans (congrArg some (by kernel_rfl))
  f240 := Tryz.func114.trans (congrArg some (by kernel_rfl))
  f241 := Tryz.func115.trans (congrArg some (by kernel_rfl))
  f276 := Tryz.func124.trans (congrArg some (by kernel_rfl))
  f277 := Tryz.func125.trans (congrArg some (by kernel_rfl))
  t0 := Tryz.underlying0
  a0 := Tryz.isAgg0
  z0 := Tryz.sizeOf0
  v0 := Tryz.zeroValue0
  t3 := Tryz.underlying3
  a3 := Tryz.isAgg3
  z3 := Tryz.sizeOf3
  v3 := Tryz.zeroValue3
  t4 := Tryz.underlying4
  a4 := Tryz.isAgg4
  z4 := Tryz.sizeOf4
  v4 := Tryz.zeroValue4
  t9 := Tryz.underlying9
  a9 := Tryz.isAgg9
  z9 := Tryz.sizeOf9
  v9 := Tryz.zeroValue9
  t20 := Tryz.underlying20
  a20 := Tryz.isAgg20
  z20 := Tryz.sizeOf20
  v20 := Tryz.zeroValue20
  t31 := Tryz.underlying82
  a31 := Tryz.isAgg82
  z31 := Tryz.sizeOf82
  v31 := Tryz.zeroValue82
  t37 := Tryz.underlying33
  a37 := Tryz.isAgg33
  z37 := Tryz.sizeOf33
  v37 := Tryz.zeroValue33
  t70 := Tryz.underlying160
  a70 := Tryz.isAgg160
  z70 := Tryz.sizeOf160
  v70 := Tryz.zeroValue160
  t72 := Tryz.underlying162
  a72 := Tryz.isAgg162
  z72 := Tryz.sizeOf162
  v72 := Tryz.zeroValue162
  t75 := Tryz.underlying165
  a75 := Tryz.isAgg165
  z75 := Tryz.sizeOf165
  v75 := Tryz.zeroValue165
  t76 := Tryz.underlying166
  a76 := Tryz.isAgg166
  z76 := Tryz.sizeOf166
  v76 := Tryz.zeroValue166
  t127 := Tryz.underlying173
  a127 := Tryz.isAgg173
  z127 := Tryz.sizeOf173
  v127 := Tryz.zeroValue173
  t164 := Tryz.underlying178
  a164 := Tryz.isAgg178
  z164 := Tryz.sizeOf178
  v164 := Tryz.zeroValue178 }
theorem Tryz.Builder_Extra_156 : Builder.Extra Tryz.prog Tryz.lays156_ren := {
  sizeBuilder := by kernel_rfl
  liesBuilder := by kernel_rfl
  t5 := Tryz.underlying5
  a5 := Tryz.isAgg5
  z5 := Tryz.sizeOf5
  v5 := Tryz.zeroValue5
  infoByte := by kernel_rfl
  cellsByte := by kernel_rfl
  sizeByte := by kernel_rfl
  neB5 := by decide }
open Go.RowKit in
theorem Tryz.strings_Join_none (a : Option Addr) (c : Nat) (sep : ByteArray) (w : World) :
    Calls Tryz.prog 75 #[.slice a 0 c, .string sep] w fun e w' => e = .returned (.string ⟨#[]⟩) ∧ w' = w := Any.strings_Join_none Tryz.lays156 Tryz.Builder_Extra_156 a c sep w
open Go.RowKit in
theorem Tryz.strings_Join (bk o c : Nat) (xs : List ByteArray) (sep : ByteArray) (w : World) (hcells : ∀ (j : Nat) x, xs[j]? = some x → w.cell? ⟨bk, o + j, none⟩ = some (.string x)) (hbk : bk < w.heap.size) (hN : xs.length ≤ 140737488355328) (hcap : xs.length ≤ c) (hlen : (Lib.join (xs.map (·.data.toList)) sep.data.toList).length ≤ 140737488355328) :
    Calls Tryz.prog 75 #[.slice (some ⟨bk, o, none⟩) xs.length c, .string sep] w fun e w' => e = .returned (.string ⟨(Lib.join (xs.map (·.data.toList)) sep.data.toList).toArray⟩) ∧ Below w.heap.size w w' := Any.strings_Join Tryz.lays156 Tryz.Builder_Extra_156 bk o c xs sep w hcells hbk hN hcap hlen
def Tryz.lays137_ren : Go.Shelf.Ren := ⟨fun | 137 => 98 | 217 => 112 | 266 => 122 | n => n, fun | 9 => 9 | 5 => 5 | 3 => 3 | n => n, fun | n => n⟩
theorem Tryz.lays137 : Go.Proofs.Lays.n137 Tryz.prog Tryz.lays137_ren := {
  mixed := by kernel_rfl
  f137 := Tryz.func98.trans (congrArg some (by kernel_rfl))
  f217 := Tryz.func112.trans (congrArg some (by kernel_rfl))
  f266 := Tryz.func122.trans (congrArg some (by kernel_rfl))
  t3 := Tryz.underlying3
  a3 := Tryz.isAgg3
  z3 := Tryz.sizeOf3
  v3 := Tryz.zeroValue3
  t5 := Tryz.underlying5
  a5 := Tryz.isAgg5
  z5 := Tryz.sizeOf5
  v5 := Tryz.zeroValue5
  t9 := Tryz.underlying9
  a9 := Tryz.isAgg9
  z9 := Tryz.sizeOf9
  v9 := Tryz.zeroValue9 }
open Go.RowKit in
theorem Tryz.strings_IndexByte (s : ByteArray) (c : Int) (w : World) :
    Calls Tryz.prog 98 #[.string s, .int .u8 c] w fun e w' => e = .returned (.int .i64 (Lib.indexByte s.data.toList c.toNat.toUInt8)) ∧ w' = w := Any.strings_IndexByte Tryz.lays137 s c w
def Tryz.lays219_ren : Go.Shelf.Ren := ⟨fun | 219 => 108 | 217 => 112 | 225 => 116 | 224 => 117 | 267 => 118 | 266 => 122 | 314 => 126 | n => n, fun | 9 => 9 | 3 => 3 | 4 => 4 | 5 => 5 | 46 => 140 | 146 => 181 | 51 => 71 | n => n, fun | 1 => 2 | n => n⟩
theorem Tryz.lays219 : Go.Proofs.Lays.n219 Tryz.prog Tryz.lays219_ren := {
  mixed := by kernel_rfl
  f217 := Tryz.func112.trans (congrArg some (by kernel_rfl))
  f219 := Tryz.func108.trans (congrArg some (by kernel_rfl))
  f224 := Tryz.func117.trans (congrArg some (by kernel_rfl))
  f225 := Tryz.func116.trans (congrArg some (by kernel_rfl))
  f266 := Tryz.func122.trans (congrArg some (by kernel_rfl))
  f267 := Tryz.func118.trans (congrArg some (by kernel_rfl))
  f314 := Tryz.func126.trans (congrArg some (by kernel_rfl))
  t3 := Tryz.underlying3
  a3 := Tryz.isAgg3
  z3 := Tryz.sizeOf3
  v3 := Tryz.zeroValue3
  t4 := Tryz.underlying4
  a4 := Tryz.isAgg4
  z4 := Tryz.sizeOf4
  v4 := Tryz.zeroValue4
  t5 := Tryz.underlying5
  a5 := Tryz.isAgg5
  z5 := Tryz.sizeOf5
  v5 := Tryz.zeroValue5
  t9 := Tryz.underlying9
  a9 := Tryz.isAgg9
  z9 := Tryz.sizeOf9
  v9 := Tryz.zeroValue9
  t46 := Tryz.underlying140
  a46 := Tryz.isAgg140
  z46 := Tryz.sizeOf140
  v46 := Tryz.zeroValue140
  t51 := Tryz.underlying71
  a51 := Tryz.isAgg71
  z51 := Tryz.sizeOf71
  v51 := Tryz.zeroValue71
  t146 := Tryz.underlying181
  a146 := Tryz.isAgg181
  z146 := Tryz.sizeOf181
  v146 := Tryz.zeroValue181
  g1 := by kernel_rfl }
open Go.RowKit Go.Lib in
theorem Tryz.stringslite_Index_one (s : ByteArray) (c : UInt8) (w : World) :
    Calls Tryz.prog 108 #[.string s, .string ⟨#[c]⟩] w fun e w' => e = .returned (.int .i64 (Lib.indexByte s.data.toList c)) ∧ w' = w := Any.stringslite_Index_one Tryz.lays219 s c w
def Tryz.lays143_ren : Go.Shelf.Ren := ⟨fun | 143 => 111 | 219 => 108 | 217 => 112 | 225 => 116 | 224 => 117 | 267 => 118 | 266 => 122 | 314 => 126 | n => n, fun | 9 => 9 | 3 => 3 | 4 => 4 | 5 => 5 | 46 => 140 | 146 => 181 | 51 => 71 | n => n, fun | 1 => 2 | n => n⟩
theorem Tryz.lays143 : Go.Proofs.Lays.n143 Tryz.prog Tryz.lays143_ren := {
  mixed := by kernel_rfl
  f143 := Tryz.func111.trans (congrArg some (by kernel_rfl))
  f217 := Tryz.func112.trans (congrArg some (by kernel_rfl))
  f219 := Tryz.func108.trans (congrArg some (by kernel_rfl))
  f224 := Tryz.func117.trans (congrArg some (by kernel_rfl))
  f225 := Tryz.func116.trans (congrArg some (by kernel_rfl))
  f266 := Tryz.func122.trans (congrArg some (by kernel_rfl))
  f267 := Tryz.func118.trans (congrArg some (by kernel_rfl))
  f314 := Tryz.func126.trans (congrArg some (by kernel_rfl))
  t3 := Tryz.underlying3
  a3 := Tryz.isAgg3
  z3 := Tryz.sizeOf3
  v3 := Tryz.zeroValue3
  t4 := Tryz.underlying4
  a4 := Tryz.isAgg4
  z4 := Tryz.sizeOf4
  v4 := Tryz.zeroValue4
  t5 := Tryz.underlying5
  a5 := Tryz.isAgg5
  z5 := Tryz.sizeOf5
  v5 := Tryz.zeroValue5
  t9 := Tryz.underlying9
  a9 := Tryz.isAgg9
  z9 := Tryz.sizeOf9
  v9 := Tryz.zeroValue9
  t46 := Tryz.underlying140
  a46 := Tryz.isAgg140
  z46 := Tryz.sizeOf140
  v46 := Tryz.zeroValue140
  t51 := Tryz.underlying71
  a51 := Tryz.isAgg71
  z51 := Tryz.sizeOf71
  v51 := Tryz.zeroValue71
  t146 := Tryz.underlying181
  a146 := Tryz.isAgg181
  z146 := Tryz.sizeOf181
  v146 := Tryz.zeroValue181
  g1 := by kernel_rfl }
open Go.RowKit Go.Lib in
theorem Tryz.strings_Index_one (s : ByteArray) (c : UInt8) (w : World) :
    Calls Tryz.prog 111 #[.string s, .string ⟨#[c]⟩] w fun e w' => e = .returned (.int .i64 (Lib.indexByte s.data.toList c)) ∧ w' = w := Any.strings_Index_one Tryz.lays143 s c w
def Tryz.lays138_ren : Go.Shelf.Ren := ⟨fun | 138 => 110 | 195 => 119 | 218 => 121 | 143 => 111 | 219 => 108 | 217 => 112 | 225 => 116 | 224 => 117 | 267 => 118 | 266 => 122 | 314 => 126 | n => n, fun | 9 => 9 | 3 => 3 | 4 => 4 | 5 => 5 | 0 => 0 | 46 => 140 | 146 => 181 | 51 => 71 | n => n, fun | 1 => 2 | n => n⟩
theorem Tryz.lays138 : Go.Proofs.Lays.n138 Tryz.prog Tryz.lays138_ren := {
  mixed := by kernel_rfl
  f138 := Tryz.func110.trans (congrArg some (by kernel_rfl))
  f143 := Tryz.func111.trans (congrArg some (by kernel_rfl))
  f195 := Tryz.func119.trans (congrArg some (by kernel_rfl))
  f217 := Tryz.func112.trans (congrArg some (by kernel_rfl))
  f218 := Tryz.func121.trans (congrArg some (by kernel_rfl))
  f219 := Tryz.func108.trans (congrArg some (by kernel_rfl))
  f224 := Tryz.func117.trans (congrArg some (by kernel_rfl))
  f225 := Tryz.func116.trans (congrArg some (by kernel_rfl))
  f266 := Tryz.func122.trans (congrArg some (by kernel_rfl))
  f267 := Tryz.func118.trans (congrArg some (by kernel_rfl))
  f314 := Tryz.func126.trans (congrArg some (by kernel_rfl))
  t0 := Tryz.underlying0
  a0 := Tryz.isAgg0
  z0 := Tryz.sizeOf0
  v0 := Tryz.zeroValue0
  t3 := Tryz.underlying3
  a3 := Tryz.isAgg3
  z3 := Tryz.sizeOf3
  v3 := Tryz.zeroValue3
  t4 := Tryz.underlying4
  a4 := Tryz.isAgg4
  z4 := Tryz.sizeOf4
  v4 := Tryz.zeroValue4
  t5 := Tryz.underlying5
  a5 := Tryz.isAgg5
  z5 := Tryz.sizeOf5
  v5 := Tryz.zeroValue5
  t9 := Tryz.underlying9
  a9 := Tryz.isAgg9
  z9 := Tryz.sizeOf9
  v9 := Tryz.zeroValue9
  t46 := Tryz.underlying140
  a46 := Tryz.isAgg140
  z46 := Tryz.sizeOf140
  v46 := Tryz.zeroValue140
  t51 := Tryz.underlying71
  a51 := Tryz.isAgg71
  z51 := Tryz.sizeOf71
  v51 := Tryz.zeroValue71
  t146 := Tryz.underlying181
  a146 := Tryz.isAgg181
  z146 := Tryz.sizeOf181
  v146 := Tryz.zeroValue181
  g1 := by kernel_rfl }
open Go.RowKit Go.Lib in
theorem Tryz.strings_Count_one (s : ByteArray) (c : UInt8) (w : World) :
    Calls Tryz.prog 110 #[.string s, .string ⟨#[c]⟩] w fun e w' => e = .returned (.int .i64 (Lib.countByte s.data.toList c)) ∧ w' = w := Any.strings_Count_one Tryz.lays138 s c w
def Tryz.lays101_ren : Go.Shelf.Ren := ⟨fun | 101 => 99 | 208 => 113 | 206 => 123 | n => n, fun | 9 => 9 | 4 => 4 | 3 => 3 | n => n, fun | n => n⟩
theorem Tryz.lays101 : Go.Proofs.Lays.n101 Tryz.prog Tryz.lays101_ren := {
  mixed := by kernel_rfl
  f101 := Tryz.func99.trans (congrArg some (by kernel_rfl))
  f206 := Tryz.func123.trans (congrArg some (by kernel_rfl))
  f208 := Tryz.func113.trans (congrArg some (by kernel_rfl))
  t3 := Tryz.underlying3
  a3 := Tryz.isAgg3
  z3 := Tryz.sizeOf3
  v3 := Tryz.zeroValue3
  t4 := Tryz.underlying4
  a4 := Tryz.isAgg4
  z4 := Tryz.sizeOf4
  v4 := Tryz.zeroValue4
  t9 := Tryz.underlying9
  a9 := Tryz.isAgg9
  z9 := Tryz.sizeOf9
  v9 := Tryz.zeroValue9 }
open Go.RowKit Go.Lib in
theorem Tryz.strings_TrimPrefix (s p : ByteArray) (w : World) :
    Calls Tryz.prog 99 #[.string s, .string p] w fun e w' => e = .returned (.string ⟨(Lib.trimPrefix s.data.toList p.data.toList).toArray⟩) ∧ w' = w := Any.strings_TrimPrefix Tryz.lays101 s p w
end Go.Proofs

namespace Go.Sy.YtjomehmhkcnadaaGreatDoor
open Go.Proofs

/-- strings.Join. -/
theorem strJoinS (l : List ByteArray) (sep : ByteArray) (h0 : l.length ≤ 70368744177664) (h1 : sizes l ≤ 70368744177664) (h2 : sep.size * l.length ≤ 70368744177664) :
    Sy.Spec Tryz.prog 75 [.sl 1 strSV l, strSV sep] [] (strSV (joinT l sep)) [] :=
  Spec.of_calls fun κ w vs hi hr _ => by
    simp only [RdL] at hr
    obtain ⟨v, r, rfl, h3, u, r', rfl, h4, rfl⟩ := hr
    have h4' : u = .string sep := by simpa only [strSV, Rd] using h4
    subst h4'
    rcases strs_cells h3 with ⟨rfl, a, c, rfl⟩ | ⟨b, o, c, rfl, hc, hb, hcell⟩
    · exact (Tryz.strings_Join_none a c sep w).mono fun e w' ⟨he, hw⟩ => ⟨he, hw ▸ RowKit.Below.refl _ _⟩
    · exact Tryz.strings_Join b o c l sep w hcell hb (by omega) hc (join_few h1 h2)

/-- strings.Index of one byte. -/
theorem strIndexS (s : ByteArray) (c : UInt8) (m : Int) (hm : Lib.indexByte s.data.toList c = m) : Sy.Spec Tryz.prog 111 [strSV s, strSV ⟨#[c]⟩] [] (intSV m) [] :=
  Spec.of_calls fun κ w vs hi hr _ => by
    subst hm
    simp only [RdL] at hr
    obtain ⟨v, r, rfl, h3, u, r', rfl, h4, rfl⟩ := hr
    have h3' : v = .string s := by simpa only [strSV, Rd] using h3
    have h4' : u = .string ⟨#[c]⟩ := by simpa only [strSV, Rd] using h4
    subst h3' h4'
    exact (Tryz.strings_Index_one s c w).mono fun e w' ⟨he, hw⟩ => ⟨he, hw ▸ RowKit.Below.refl _ _⟩

/-- strings.Count of one byte. -/
theorem strCountS (s : ByteArray) (c : UInt8) (n : Nat) (hn : s.data.toList.count c = n) : Sy.Spec Tryz.prog 110 [strSV s, strSV ⟨#[c]⟩] [] (intSV n) [] :=
  Spec.of_calls fun κ w vs hi hr _ => by
    subst hn
    simp only [RdL] at hr
    obtain ⟨v, r, rfl, h3, u, r', rfl, h4, rfl⟩ := hr
    have h3' : v = .string s := by simpa only [strSV, Rd] using h3
    have h4' : u = .string ⟨#[c]⟩ := by simpa only [strSV, Rd] using h4
    subst h3' h4'
    exact (Tryz.strings_Count_one s c w).mono fun e w' ⟨he, hw⟩ => ⟨he, hw ▸ RowKit.Below.refl _ _⟩

/-- Where the byte c is first; the whole, if it is nowhere. -/
def idxN (c : UInt8) (l : List UInt8) : Nat := (Lib.indexByte l c).toNat
/-- What is left behind j bytes c. -/
def restL (c : UInt8) (l : List UInt8) : Nat → List UInt8
  | 0 => l
  | j + 1 => (restL c l j).drop (idxN c (restL c l j) + 1)
def pieceL (c : UInt8) (l : List UInt8) (j : Nat) : List UInt8 := (restL c l j).take (idxN c (restL c l j))
def mkT (l : List UInt8) : ByteArray := ⟨l.toArray⟩
/-- What stands between bytes c. -/
def splitT (c : UInt8) (s : ByteArray) : List ByteArray :=
  (List.range (s.data.toList.count c)).map (fun j => mkT (pieceL c s.data.toList j)) ++ [mkT (restL c s.data.toList (s.data.toList.count c))]

theorem index_there : ∀ {l : List UInt8} {c : UInt8}, c ∈ l → 0 ≤ Lib.indexByte l c ∧ (Lib.indexByte l c).toNat < l.length
  | b :: l, c, h => by
    unfold Lib.indexByte
    by_cases hb : b == c
    · rw [if_pos hb]; simp
    · rw [if_neg hb]
      have hm' : c ∈ l := by
        rcases List.mem_cons.1 h with h | h
        · exact absurd (by simp [h]) hb
        · exact h
      have := index_there hm'
      rw [if_neg (by simp; omega)]
      simp only [List.length_cons]
      omega

theorem count_behind : ∀ {l : List UInt8} {c : UInt8}, c ∈ l → (l.drop (idxN c l + 1)).count c + 1 = l.count c
  | b :: l, c, h => by
    unfold idxN Lib.indexByte
    by_cases hb : b == c
    · rw [if_pos hb, List.count_cons, if_pos hb]; simp
    · rw [if_neg hb]
      have hm' : c ∈ l := by
        rcases List.mem_cons.1 h with h | h
        · exact absurd (by simp [h]) hb
        · exact h
      have h1 := index_there hm'
      rw [if_neg (by simp; omega), List.count_cons, if_neg hb, Nat.add_zero, ← count_behind hm']
      have e : (Lib.indexByte l c + 1).toNat = idxN c l + 1 := by unfold idxN; omega
      rw [e, List.drop_succ_cons]

theorem count_rest (c : UInt8) (l : List UInt8) : ∀ j, j ≤ l.count c → (restL c l j).count c + j = l.count c
  | 0, _ => rfl
  | j + 1, h => by
    have ih := count_rest c l j (by omega)
    have hm' : c ∈ restL c l j := List.count_pos_iff.1 (by omega)
    have := count_behind hm'
    rw [restL]
    omega

theorem rest_there {c : UInt8} {l : List UInt8} {j : Nat} (h : j < l.count c) : c ∈ restL c l j :=
  List.count_pos_iff.1 (by have := count_rest c l j (by omega); omega)

end Go.Sy.YtjomehmhkcnadaaGreatDoor
