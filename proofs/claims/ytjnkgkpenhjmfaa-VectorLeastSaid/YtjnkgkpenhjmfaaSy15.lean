/-
  The symbolic layer, 15: code reckoned.
-/
import Derived.Test.YtjnkgkpenhjmfaaSy14
namespace Go.Sy

def guardSrc (idx : Nat) : List Oper → Bool
  | [] => false
  | o :: r => (match o.guard with
    | some (j, _) => Nat.beq j idx
    | none => false) || guardSrc idx r

/-- A truth that guards hang on is parted in two; behind that nothing is reckoned yet. -/
def fork (isg : Bool) (U : Up) (K K' : Up → Prop) : Prop :=
  match isg with
  | false => K U
  | true => (match U.v with
    | .val (.bool b) => (b = true → K' ⟨.val (.bool true), U.rd, U.objs⟩) ∧ (b = false → K' ⟨.val (.bool false), U.rd, U.objs⟩)
    | _ => K U)

theorem fork_ok {X : Up → Prop} {isg : Bool} {U : Up} {K K' : Up → Prop} (hK : ∀ U, K U → K' U) (hg : X U) (h : fork isg U K K') : ∃ U', X U' ∧ K' U' := by
  unfold fork at h
  split at h
  · exact ⟨U, hg, hK _ h⟩
  · split at h
    · rename_i b hb
      obtain ⟨v, rd, objs⟩ := U
      simp only at hb
      subst hb
      cases b
      · exact ⟨_, hg, h.2 rfl⟩
      · exact ⟨_, hg, h.1 rfl⟩
    · exact ⟨U, hg, hK _ h⟩

def guardV (n : Nat) (all : Array Oper) (o : Oper) (s : SS) : Option Bool :=
  match o.guard with
  | none => some true
  | some (j, want) => (match (all[j]?).bind (·.dst) with
    | some d => (match Nat.blt d n with
      | true => (match s.σ d with
        | .val (.bool c) => (match c with
          | true => some want
          | false => (match want with | true => some false | false => some true))
        | .val (.tuple a) => (match a.toList with | [] => some false | _ => none)
        | _ => none)
      | false => none)
    | none => none)

theorem guardV_ok {n : Nat} {all : Array Oper} {o : Oper} {s : SS} {b : Bool} (h : guardV n all o s = some b) : wantS all s o.guard b ∧ ∀ j want, o.guard = some (j, want) → ∀ d, ((all[j]?).bind (·.dst)) = some d → d < n := by
  unfold guardV at h
  cases hg : o.guard with
  | none =>
    rw [hg] at h
    simp only [Option.some.injEq] at h
    exact ⟨h.symm, fun j want hh => by cases hh⟩
  | some p =>
    obtain ⟨j, want⟩ := p
    rw [hg] at h
    simp only at h
    split at h
    · rename_i d hd
      split at h
      · rename_i hlt
        refine ⟨⟨d, hd, ?_⟩, fun j' want' hh d' hd' => ?_⟩
        · split at h
          · rename_i c hc
            left
            refine ⟨c, hc, ?_⟩
            cases c
            · cases want <;> simp_all
            · simp_all
          · rename_i a ha
            split at h
            · rename_i he
              right
              have : a = #[] := by simpa using he
              subst this
              simp only [Option.some.injEq] at h
              exact ⟨ha, h.symm⟩
            · cases h
          · cases h
        · simp only [Option.some.injEq, Prod.mk.injEq] at hh
          obtain ⟨rfl, rfl⟩ := hh
          rw [hd] at hd'
          simp only [Option.some.injEq] at hd'
          subst hd'
          exact Nat.le_of_ble_eq_true hlt
      · cases h
    · cases h

def dstOK (n : Nat) (o : Oper) : Bool := match o.dst with | some d => Nat.blt d n | none => true

mutual
def exec (C : Cx) (Γ : TyE C.P) : Nat → List KI → SS → Prop
  | 0, k, s => G C k s
  | n + 1, k, s => (match k with
    | [] => G C [] s
    | .blk _ :: k => exec C Γ n k s
    | .inv I :: k => G C (.inv I :: k) s
    | .ops _ [] :: k => exec C Γ n k s
    | .ops all (o :: rest) :: k => (match dstOK C.n o with
      | true => (match guardV C.n all o s with
        | some true => opW Γ o s (fun U => fork (guardSrc (all.size - rest.length - 1) rest) U (fun U => exec C Γ n (.ops all rest :: k) (s.upd o.dst U)) (fun U => G C (.ops all rest :: k) (s.upd o.dst U))) (G C (.ops all (o :: rest) :: k) s)
        | some false => exec C Γ n (.ops all rest :: k) (s.upd o.dst ⟨.val undef, [], []⟩)
        | none => G C (.ops all (o :: rest) :: k) s)
      | false => G C (.ops all (o :: rest) :: k) s)
    | .code c :: k => (match c with
      | .skip => exec C Γ n k s
      | .seq x y => exec C Γ n (.code x :: .code y :: k) s
      | .block id c => exec C Γ n (.code c :: .blk id :: k) s
      | .region id ops draw => (match draw with
        | false => exec C Γ n (.ops ops ops.toList :: k) s
        | true => (match dstsOK C.n ops.toList with
          | true => execD C Γ n k ops [] ops.toList s
          | false => G C (.code (.region id ops true) :: k) s))
      | .cond c x y => (match ev s c with
        | .val (.bool b) => (b = true → G C (.code x :: k) s) ∧ (b = false → G C (.code y :: k) s)
        | _ => G C (.code (.cond c x y) :: k) s)
      | .exit id => (match exitK id k with
        | some k' => exec C Γ n k' s
        | none => G C (.code (.exit id) :: k) s)
      | c => G C (.code c :: k) s))
def execD (C : Cx) (Γ : TyE C.P) : Nat → List KI → Array Oper → List Stp → List Oper → SS → Prop
  | 0, k, all, done, rest, s => DR C k all done rest s
  | n + 1, k, all, done, rest, s => (match rest with
    | [] => drawOK all done = true ∧ exec C Γ n k s
    | o :: rest => (match guardV C.n all o s with
      | some true => opW Γ o s (fun U => fork (guardSrc (all.size - rest.length - 1) rest) U (fun U => execD C Γ n k all (done ++ [⟨done.length, o, U, true⟩]) rest (s.upd o.dst U)) (fun U => DR C k all (done ++ [⟨done.length, o, U, true⟩]) rest (s.upd o.dst U))) (DR C k all done (o :: rest) s)
      | some false => execD C Γ n k all (done ++ [⟨done.length, o, ⟨.val undef, [], []⟩, false⟩]) rest (s.upd o.dst ⟨.val undef, [], []⟩)
      | none => DR C k all done (o :: rest) s))
end

theorem dstOK_ok {n : Nat} {o : Oper} (h : dstOK n o = true) : ∀ d, o.dst = some d → d < n := fun d hd => by
  unfold dstOK at h
  rw [hd] at h
  exact Nat.le_of_ble_eq_true h

theorem at_split {all : Array Oper} {done : List Stp} {o : Oper} {rest : List Oper} (h : all.toList = done.map (·.o) ++ o :: rest) : all[done.length]? = some o := by
  rw [← Array.getElem?_toList, h, List.getElem?_append_right (by simp)]
  simp

theorem exec_ok {C : Cx} {Γ : TyE C.P} (hm : C.P.follows .mixedOrders = true) : ∀ n, (∀ k s, exec C Γ n k s → G C k s) ∧ (∀ k all done rest s, all.toList = done.map (·.o) ++ rest → execD C Γ n k all done rest s → DR C k all done rest s) := by
  intro n
  induction n with
  | zero => exact ⟨fun k s h => (by simpa only [exec] using h), fun k all done rest s _ h => (by simpa only [execD] using h)⟩
  | succ n ih =>
    obtain ⟨ih1, ih2⟩ := ih
    constructor
    · intro k s h
      simp only [exec] at h
      split at h
      · exact h
      · exact G_blk (ih1 _ _ h)
      · exact h
      · exact G_ops_nil (ih1 _ _ h)
      · rename_i all o rest k'
        split at h
        · rename_i hd
          have hd' := dstOK_ok hd
          split at h
          · rename_i hg
            obtain ⟨w1, w2⟩ := guardV_ok hg
            rcases opW_ok h with ⟨U, hU, hk⟩ | h
            · obtain ⟨U', hU', hk'⟩ := fork_ok (X := Good C.P o s) (fun U hu => ih1 _ _ hu) hU hk
              exact G_op hU' (fun κ a w hs => want_ok hs w2 w1) hd' hk'
            · exact h
          · rename_i hg
            obtain ⟨w1, w2⟩ := guardV_ok hg
            exact G_op_skip (fun κ a w hs => want_ok hs w2 w1) hd' (ih1 _ _ h)
          · exact h
        · exact h
      · rename_i c k'
        split at h
        · exact G_skip (ih1 _ _ h)
        · exact G_seq (ih1 _ _ h)
        · exact G_block (ih1 _ _ h)
        · split at h
          · exact G_region (ih1 _ _ h)
          · split at h
            · rename_i hd
              exact G_draw hm hd (ih2 _ _ _ _ _ (by simp) h)
            · exact h
        · split at h
          · rename_i b hc
            exact G_cond hc h.1 h.2
          · exact h
        · split at h
          · rename_i hx
            exact G_exit hx (ih1 _ _ h)
          · exact h
        · exact h
    · intro k all done rest s hsplit h
      simp only [execD] at h
      split at h
      · exact DR_nil h.1 (ih1 _ _ h.2)
      · rename_i o rest
        have hi := at_split hsplit
        split at h
        · rename_i hg
          obtain ⟨w1, w2⟩ := guardV_ok hg
          rcases opW_okX h with ⟨U, hU, hk⟩ | h
          · obtain ⟨U', hU', hk'⟩ := fork_ok (X := GoodX C.P o s) (fun U hu => ih2 _ _ _ _ _ (by simp [hsplit]) hu) hU hk
            exact DR_op U' hU' hi w1 hk'
          · exact h
        · rename_i hg
          obtain ⟨w1, w2⟩ := guardV_ok hg
          exact DR_skip hi w1 (ih2 _ _ _ _ _ (by simp [hsplit]) h)
        · exact h

/-- Code reckoned: so many steps. -/
theorem run {C : Cx} {k : List KI} {s : SS} (Γ : TyE C.P) (hm : C.P.follows .mixedOrders = true) (n : Nat) (h : exec C Γ n k s) : G C k s := (exec_ok hm n).1 k s h
theorem runD {C : Cx} {k : List KI} {s : SS} {all : Array Oper} {done : List Stp} {rest : List Oper} (Γ : TyE C.P) (hm : C.P.follows .mixedOrders = true) (n : Nat) (hs : all.toList = done.map (·.o) ++ rest) (h : execD C Γ n k all done rest s) : DR C k all done rest s :=
  (exec_ok hm n).2 k all done rest s hs h

/-- At a call (or whatever else is not reckoned): one operation, by a fact about it. -/
theorem stepOp {C : Cx} {k : List KI} {s : SS} {all : Array Oper} {o : Oper} {rest : List Oper} {U : Up} (hg : Good C.P o s U) (hd : dstOK C.n o = true) (hw : guardV C.n all o s = some true) (h : G C (.ops all rest :: k) (s.upd o.dst U)) : G C (.ops all (o :: rest) :: k) s :=
  G_op hg (fun _ _ _ hs => want_ok hs (guardV_ok hw).2 (guardV_ok hw).1) (dstOK_ok hd) h

theorem stepD {C : Cx} {k : List KI} {s : SS} {all : Array Oper} {done : List Stp} {o : Oper} {rest : List Oper} {U : Up} (hg : Good C.P o s U) (hi : all[done.length]? = some o) (hw : guardV C.n all o s = some true)
    (h : DR C k all (done ++ [⟨done.length, o, U, true⟩]) rest (s.upd o.dst U)) (hn : (isIdx o || isSt o) = false := by rfl) : DR C k all done (o :: rest) s := DR_op U (.of hg hn) hi (guardV_ok hw).1 h

/-- The end of a function: its results are so, its objects are so. -/
theorem done {P : Program} {fn : Func} {F : Fr} {R : SV} {H' : Obs} {Γ : Ty P} {n : Nat} {bn : List Nat} {hbn : ∀ k, F.k0 k ≠ .new → k ∈ bn} {k : List KI} {s : SS} {rs : List ResultVar} (hf : fn.results = rs.toArray) {xs : List SV} (hx : ResVs Γ.get s rs xs)
    (ρ : List (Nat × Nat)) (L : Obs) (hL : ∀ p ∈ H', p ∈ L) (hR : R.ren (assocN ρ) = comb xs) (hRn : R.inn L.keys = true) (hsub : Sub ⟨P, Γ, F, n, Post P fn F R H', bn, hbn⟩ s ρ [] L) : G ⟨P, Γ, F, n, Post P fn F R H', bn, hbn⟩ (.code .ret :: k) s :=
  G_ret fun _ _ _ hs => (post_ok hf hx ρ L hL hR hRn hsub hs).1

theorem done_end {P : Program} {fn : Func} {F : Fr} {R : SV} {H' : Obs} {Γ : Ty P} {n : Nat} {bn : List Nat} {hbn : ∀ k, F.k0 k ≠ .new → k ∈ bn} {s : SS} {rs : List ResultVar} (hf : fn.results = rs.toArray) {xs : List SV} (hx : ResVs Γ.get s rs xs)
    (ρ : List (Nat × Nat)) (L : Obs) (hL : ∀ p ∈ H', p ∈ L) (hR : R.ren (assocN ρ) = comb xs) (hRn : R.inn L.keys = true) (hsub : Sub ⟨P, Γ, F, n, Post P fn F R H', bn, hbn⟩ s ρ [] L) : G ⟨P, Γ, F, n, Post P fn F R H', bn, hbn⟩ [] s :=
  G_nil fun _ _ _ hs => (post_ok hf hx ρ L hL hR hRn hsub hs).2

/-- .. of a function that takes and leaves no objects. -/
theorem done0 {P : Program} {fn : Func} {F : Fr} {R : SV} {Γ : Ty P} {n : Nat} {hbn : ∀ k, F.k0 k ≠ .new → k ∈ []} {k : List KI} {s : SS} {rs : List ResultVar} (hf : fn.results = rs.toArray) {xs : List SV} (hx : ResVs Γ.get s rs xs)
    (hR : R = comb xs) (hRn : R.inn [] = true) : G ⟨P, Γ, F, n, Post P fn F R [], [], hbn⟩ (.code .ret :: k) s := by
  have hid : ∀ x : SV, x.ren (assocN []) = x := fun x => ren_id x
  exact done hf hx [] [] (fun _ h => h) (by rw [hid]; exact hR) hRn ⟨trivial, trivial, rfl, rfl⟩

end Go.Sy
