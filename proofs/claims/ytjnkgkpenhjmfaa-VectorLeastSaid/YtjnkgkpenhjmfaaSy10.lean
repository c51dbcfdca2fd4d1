/-
  The symbolic layer, 10: calls.
-/
import Derived.Test.YtjnkgkpenhjmfaaSy9
namespace Go.Sy
variable {C : Cx} {k : List KI} {s : SS}

/-- A function with a body, by its number. -/
structure Fun (P : Program) (f : FuncId) (fn : Func) (c : Code) : Prop where
  has : P.funcs[f]? = some fn
  body : fn.body = some c
  name : (fn.name == "runtime.NumGoroutine") = false

theorem run_callFunc {P : Program} {f : FuncId} {fn : Func} {c : Code} (h : Fun P f fn c) (args : Array Value) (w : World) : (callFunc f args).run P w = .ok (.enter f args) w := by
  have hn : ¬ fn.name = "runtime.NumGoroutine" := by simpa using h.name
  simp [callFunc, h.has, hn, h.body]

/-- The contract holds with other names, too; and with others' blocks about. -/
theorem Spec.at {P : Program} {f : FuncId} {A : List SV} {H : Obs} {R : SV} {H' : Obs} (h : Spec P f A H R H') {ρ : Nat → Nat} (hinj : ∀ i ∈ H'.keys, ∀ j ∈ H'.keys, ρ i = ρ j → i = j) (hHH : ∀ k ∈ H.keys, k ∈ H'.keys)
    (hAn : innL H.keys A = true) (hHn : ∀ p ∈ H, p.2.inn H.keys = true) (hRn : R.inn H'.keys = true) (hHn' : ∀ p ∈ H', p.2.inn H'.keys = true)
    {κ : Ka} {w : World} {vs : List Value} (hi : Inv κ w) (hA : RdL κ w (renL ρ A) vs) (hH : ∀ p ∈ H, ObOK κ w (ρ p.1) (p.2.ren ρ)) (hnew : ∀ k ∈ H'.keys, k ∉ H.keys → κ (ρ k) = .new) :
    Calls P f vs.toArray w fun e w' => ∃ v κ', e = .returned v ∧ Step (fun n => ∃ k ∈ H'.keys, ρ k = n) κ w κ' w' ∧ Inv κ' w' ∧ Rd κ' w' (R.ren ρ) v ∧ ∀ p ∈ H', ObOK κ' w' (ρ p.1) (p.2.ren ρ) := by
  -- the callee's names
  let κc : Ka := ⟨fun k => if k ∈ H.keys then κ (ρ k) else .new, fun b => κ.M b ∨ ∃ n, (∀ k ∈ H.keys, ρ k ≠ n) ∧ (κ n).block? = some b⟩
  have hc1 : ∀ k, k ∈ H.keys → κc k = κ (ρ k) := fun k hk => by simp [κc, hk]
  have hc2 : ∀ k, k ∉ H.keys → κc k = .new := fun k hk => by simp [κc, hk]
  have hcb : ∀ k b, (κc k).block? = some b → k ∈ H.keys ∧ (κ (ρ k)).block? = some b := fun k b hb => by
    by_cases hk : k ∈ H.keys
    · rw [hc1 k hk] at hb; exact ⟨hk, hb⟩
    · rw [hc2 k hk] at hb; cases hb
  have hic : Inv κc w := by
    refine ⟨fun i j b h1 h2 => ?_, fun j b h1 => hi.bnd _ b (hcb j b h1).2, fun j b h1 hm => ?_, fun b hm => ?_⟩
    · obtain ⟨a1, a2⟩ := hcb i b h1
      obtain ⟨b1, b2⟩ := hcb j b h2
      exact hinj i (hHH i a1) j (hHH j b1) (hi.inj _ _ b a2 b2)
    · obtain ⟨a1, a2⟩ := hcb j b h1
      rcases hm with hm | ⟨n, hn, hm⟩
      · exact hi.apart _ b a2 hm
      · exact hn j a1 (hi.inj _ _ b a2 hm)
    · rcases hm with hm | ⟨n, _, hm⟩
      · exact hi.mbnd b hm
      · exact hi.bnd n b hm
  have hown : ∀ b, b < w.heap.size → ¬ Own κ b → ¬ Own κc b := by
    rintro b _ hn (⟨j, hj⟩ | (hm | ⟨n, _, hm⟩))
    · exact hn (.inl ⟨_, (hcb j b hj).2⟩)
    · exact hn (.inr hm)
    · exact hn (.inl ⟨n, hm⟩)
  have hren : Ren ρ H.keys κ κc := ⟨fun k hk => hc1 k hk⟩
  have hA' : RdL κc w A vs := RdL.unren hren hown A vs hAn hA
  have hH' : Obs.ok κc w H := fun p hp => ObOK.unren hren hown (List.mem_map.2 ⟨p, hp, rfl⟩) (hHn p hp) (hH p hp)
  refine (h κc w vs hic (fun j hj => Classical.byContradiction fun hn => hj (hc2 j hn)) hA' hH').mono ?_
  rintro e w' ⟨v, κd, rfl, hctx, hid, hR, hO⟩
  -- the caller's names
  let pick : Nat → Option Nat := fun n => H'.keys.find? (fun k => decide (ρ k = n))
  let κ' : Ka := ⟨fun n => match pick n with | some k => κd k | none => κ n, κ.M⟩
  have hp1 : ∀ k, k ∈ H'.keys → pick (ρ k) = some k := fun k hk => by
    cases hf : pick (ρ k) with
    | none =>
      have := List.find?_eq_none.1 hf k hk
      simp at this
    | some j =>
      have h1 := List.find?_some hf
      have h2 := List.mem_of_find?_eq_some hf
      rw [hinj j h2 k hk (of_decide_eq_true h1)]
  have hp2 : ∀ n, (∀ k ∈ H'.keys, ρ k ≠ n) → pick n = none := fun n hn => List.find?_eq_none.2 (fun k hk => by simpa using hn k hk)
  have hk1 : ∀ k, k ∈ H'.keys → κ' (ρ k) = κd k := fun k hk => by show (match pick (ρ k) with | some k => κd k | none => κ (ρ k)) = κd k; rw [hp1 k hk]
  have hk2 : ∀ n, (∀ k ∈ H'.keys, ρ k ≠ n) → κ' n = κ n := fun n hn => by show (match pick n with | some k => κd k | none => κ n) = κ n; rw [hp2 n hn]
  have hcase : ∀ n, (∃ k ∈ H'.keys, ρ k = n) ∨ (∀ k ∈ H'.keys, ρ k ≠ n) := fun n => by
    by_cases hn : ∃ k ∈ H'.keys, ρ k = n
    · exact .inl hn
    · exact .inr (fun k hk e => hn ⟨k, hk, e⟩)
  have hMd : κd.M = κc.M := hctx.M
  have hold : ∀ b, b < w.heap.size → (∀ j, (κc j).block? ≠ some b) → w'.heap[b]? = w.heap[b]? := fun b hb hn => hctx.old b hb hn
  have hback : ∀ j b, (κd j).block? = some b → w.heap.size ≤ b ∨ ∃ i ∈ H.keys, (κ (ρ i)).block? = some b := fun j b hj => by
    rcases hctx.own j b hj with h1 | ⟨i, h1⟩
    · exact .inl h1
    · exact .inr ⟨i, hcb i b h1⟩
  have hstep : Step (fun n => ∃ k ∈ H'.keys, ρ k = n) κ w κ' w' := by
    refine ⟨hctx.size, hctx.os, hctx.tape, hctx.output, rfl, fun b hm => ?_, fun b hb hn => ?_, fun n b hn hb => ?_, fun n hn => hk2 n (fun k hk e => hn ⟨k, hk, e⟩), ?_, ?_⟩
    · exact hold b (hi.mbnd b hm) (fun j hj => hi.apart _ b (hcb j b hj).2 hm)
    · exact hold b hb (fun j hj => hn (.inl ⟨_, (hcb j b hj).2⟩))
    · refine hold b (hi.bnd n b hb) (fun j hj => ?_)
      obtain ⟨a1, a2⟩ := hcb j b hj
      exact hn ⟨j, hHH j a1, hi.inj _ _ b a2 hb⟩
    · rintro n ⟨j, hj, rfl⟩
      rw [hk1 j hj]
      by_cases hjH : j ∈ H.keys
      · by_cases hnw : κ (ρ j) = .new
        · exact .inl hnw
        · have := hctx.nam j (by show κc j ≠ .new; rw [hc1 j hjH]; exact hnw)
          rw [← hc1 j hjH]
          exact .inr this
      · exact .inl (hnew j hj hjH)
    · rintro b (⟨n, hn⟩ | hn)
      · rcases hcase n with ⟨j, hj, rfl⟩ | hne
        · rw [hk1 j hj] at hn
          rcases hback j b hn with h1 | ⟨i, _, h1⟩
          · exact .inr h1
          · exact .inl (.inl ⟨_, h1⟩)
        · rw [hk2 n hne] at hn
          exact .inl (.inl ⟨n, hn⟩)
      · exact .inl (.inr hn)
  have hinv : Inv κ' w' := by
    have mixed : ∀ j ∈ H'.keys, ∀ n, (∀ k ∈ H'.keys, ρ k ≠ n) → ∀ b, (κd j).block? = some b → (κ n).block? = some b → False := fun j hj n hn b h1 h2 => by
      rcases hback j b h1 with h3 | ⟨i, hi', h3⟩
      · have := hi.bnd n b h2; omega
      · exact hn i (hHH i hi') (hi.inj _ _ b h3 h2)
    refine ⟨fun m n b h1 h2 => ?_, fun n b h1 => ?_, fun n b h1 hm => ?_, fun b hm => Nat.lt_of_lt_of_le (hi.mbnd b hm) hctx.size⟩
    · rcases hcase m with ⟨i, hi', rfl⟩ | hm <;> rcases hcase n with ⟨j, hj, rfl⟩ | hn
      · rw [hk1 i hi'] at h1
        rw [hk1 j hj] at h2
        rw [hid.inj i j b h1 h2]
      · rw [hk1 i hi'] at h1
        rw [hk2 n hn] at h2
        exact (mixed i hi' n hn b h1 h2).elim
      · rw [hk2 m hm] at h1
        rw [hk1 j hj] at h2
        exact (mixed j hj m hm b h2 h1).elim
      · rw [hk2 m hm] at h1
        rw [hk2 n hn] at h2
        exact hi.inj m n b h1 h2
    · rcases hcase n with ⟨j, hj, rfl⟩ | hn
      · rw [hk1 j hj] at h1; exact hid.bnd j b h1
      · rw [hk2 n hn] at h1; exact Nat.lt_of_lt_of_le (hi.bnd n b h1) hctx.size
    · rcases hcase n with ⟨j, hj, rfl⟩ | hn
      · rw [hk1 j hj] at h1
        exact hid.apart j b h1 (by rw [hMd]; exact .inl hm)
      · rw [hk2 n hn] at h1; exact hi.apart n b h1 hm
  have hren' : Ren ρ H'.keys κ' κd := ⟨fun k hk => (hk1 k hk).symm⟩
  have hown' : ∀ b, b < w'.heap.size → ¬ Own κd b → ¬ Own κ' b := by
    rintro b _ hn (⟨n, h1⟩ | h1)
    · rcases hcase n with ⟨j, hj, rfl⟩ | hne
      · rw [hk1 j hj] at h1; exact hn (.inl ⟨j, h1⟩)
      · rw [hk2 n hne] at h1
        exact hn (.inr (by rw [hMd]; exact .inr ⟨n, fun k hk => hne k (hHH k hk), h1⟩))
    · exact hn (.inr (by rw [hMd]; exact .inl h1))
  exact ⟨v, κ', rfl, hstep, hinv, Rd.ren hren' hown' R v hRn hR, fun p hp => ObOK.ren hren' hown' (List.mem_map.2 ⟨p, hp, rfl⟩) (hHn' p hp) (hO p hp)⟩

/-- What a call asks of names, reckoned. -/
def callOK (A : List SV) (H : Obs) (R : SV) (H' : Obs) (ρ : List (Nat × Nat)) : Bool :=
  rhoOK ρ [] H'.keys && subN H.keys H'.keys && innL H.keys A && (H.all fun p => p.2.inn H.keys) && R.inn H'.keys && (H'.all fun p => p.2.inn H'.keys)

def newOK (s : SS) (ρ : List (Nat × Nat)) (K : List Nat) : List Nat → Prop
  | [] => True
  | k :: r => (memN K k = true ∨ s.h (assocN ρ k) = .fresh) ∧ newOK s ρ K r

def ObsEq (s : SS) (ρ : List (Nat × Nat)) : Obs → Prop
  | [] => True
  | (i, x) :: r => x.ren (assocN ρ) = s.h (assocN ρ i) ∧ ObsEq s ρ r

def renObs (ρ : List (Nat × Nat)) : Obs → Obs
  | [] => []
  | (i, x) :: r => (assocN ρ i, x.ren (assocN ρ)) :: renObs ρ r

theorem renObs_eq (ρ : List (Nat × Nat)) : ∀ H : Obs, renObs ρ H = H.map fun p => (assocN ρ p.1, p.2.ren (assocN ρ))
  | [] => rfl
  | (i, x) :: r => by simp [renObs, renObs_eq ρ r]

/-- The operation enters f, with what reads as B. -/
def Enters (P : Program) (o : Oper) (s : SS) (f : FuncId) (B : List SV) : Prop :=
  ∀ (κ : Ka) (a : Act) (w : World), (∀ x ∈ o.op.operands, Rd κ w (ev s x) (a.eval x)) → ∃ vs : List Value, (execOp a.eval o).run P w = .ok (.enter f vs.toArray) w ∧ RdL κ w B vs

theorem enters_func {P : Program} {o : Oper} {s : SS} {f : FuncId} {fn : Func} {c : Code} {xs : List Operand} {ts : Array TypeId} (h : o.op = .call ⟨.value (.func f), xs.toArray, ts⟩) (hf : Fun P f fn c) : Enters P o s f (xs.map (ev s)) :=
  fun κ a w hr => by
    refine ⟨xs.map a.eval, ?_, RdL_map xs (fun x hx => hr x (by simp [h, Op.operands, Call.operands, hx]))⟩
    have := run_callFunc hf (xs.map a.eval).toArray w
    simp [execOp, h, resolve, Act.eval, Deferred.ofValue, invoke] at this ⊢
    exact this

theorem enters_clo {P : Program} {o : Oper} {s : SS} {f : FuncId} {fn : Func} {c : Code} {x : Operand} {xs : List Operand} {ts : Array TypeId} {first cap : List SV} (h : o.op = .call ⟨.value x, xs.toArray, ts⟩) (hx : ev s x = .clo (.func f) first cap) (hf : Fun P f fn c) :
    Enters P o s f (first ++ xs.map (ev s) ++ cap) :=
  fun κ a w hr => by
    have h1 := hr x (by simp [h, Op.operands, Call.operands])
    rw [hx] at h1
    simp only [Rd] at h1
    obtain ⟨fs, cs, e1, e2, e3⟩ := h1
    refine ⟨fs ++ xs.map a.eval ++ cs, ?_, RdL.append (RdL.append e2 (RdL_map xs (fun y hy => hr y (by simp [h, Op.operands, Call.operands, hy])))) e3⟩
    have := run_callFunc hf (fs ++ xs.map a.eval ++ cs).toArray w
    simp only [execOp, h, resolve, Deferred.ofValue, invoke, e1, Sem.run_bind, Sem.run_pure, Result.andThen_ok] at this ⊢
    rw [← this]
    simp

theorem good_callE {P : Program} {o : Oper} {s : SS} {f : FuncId} {B : List SV} {A : List SV} {H : Obs} {R : SV} {H' : Obs} (ρ : List (Nat × Nat)) (hE : Enters P o s f B) (hs : Spec P f A H R H')
    (hA : renL (assocN ρ) A = B) (hH : ObsEq s ρ H) (hok : callOK A H R H' ρ = true) (hnew : newOK s ρ H.keys H'.keys) : Good P o s ⟨R.ren (assocN ρ), [], renObs ρ H'⟩ := by
  intro κ a w hi hr ho N Q hN
  simp only [callOK, Bool.and_eq_true, List.all_eq_true] at hok
  obtain ⟨⟨⟨⟨⟨c1, c2⟩, c3⟩, c4⟩, c5⟩, c6⟩ := hok
  obtain ⟨hinj, _⟩ := rhoOK_inj c1
  have hHH : ∀ k ∈ H.keys, k ∈ H'.keys := fun k hk => by
    simp only [subN, List.all_eq_true] at c2
    exact memN_iff.1 (c2 k hk)
  have hws : ∀ k ∈ H'.keys, assocN ρ k ∈ (Up.mk (R.ren (assocN ρ)) [] (renObs ρ H')).ws := fun k hk => by
    obtain ⟨p, hp, rfl⟩ := List.mem_map.1 hk
    simp only [Up.ws, renObs_eq, List.map_map, List.mem_map]
    exact ⟨p, hp, rfl⟩
  obtain ⟨vs, hrun, hxs⟩ := hE κ a w hr
  have hvs : RdL κ w (renL (assocN ρ) A) vs := by rw [hA]; exact hxs
  have hHk : ∀ H0 : Obs, (∀ p ∈ H0, p ∈ H) → ObsEq s ρ H0 → ∀ p ∈ H0, ObOK κ w (assocN ρ p.1) (p.2.ren (assocN ρ)) := by
    intro H0
    induction H0 with
    | nil => intro _ _ p hp; cases hp
    | cons q r ih =>
      obtain ⟨i, x⟩ := q
      intro hsub he p hp
      simp only [ObsEq] at he
      rcases List.mem_cons.1 hp with rfl | hp
      · have hk : i ∈ H.keys := List.mem_map.2 ⟨(i, x), hsub _ (by simp), rfl⟩
        rw [he.1]
        exact ho _ (.inr (hws i (hHH i hk)))
      · exact ih (fun q hq => hsub q (by simp [hq])) he.2 p hp
  have hnk : ∀ k ∈ H'.keys, k ∉ H.keys → κ (assocN ρ k) = .new := by
    have key : ∀ K : List Nat, (∀ k ∈ K, k ∈ H'.keys) → newOK s ρ H.keys K → ∀ k ∈ K, k ∉ H.keys → κ (assocN ρ k) = .new := by
      intro K
      induction K with
      | nil => intro _ _ k hk; cases hk
      | cons j r ih =>
        intro hsub hn k hk hkn
        simp only [newOK] at hn
        rcases List.mem_cons.1 hk with rfl | hk
        · rcases hn.1 with h1 | h1
          · exact absurd (memN_iff.1 h1) hkn
          · have := ho _ (.inr (hws k (hsub k (by simp))))
            rw [h1] at this
            exact this
        · exact ih (fun k hk => hsub k (by simp [hk])) hn.2 k hk hkn
    exact key _ (fun _ hk => hk) hnew
  have hcall := hs.at (ρ := assocN ρ) hinj hHH c3 (fun p hp => c4 p hp) c5 (fun p hp => c6 p hp) hi hvs (hHk H (fun _ hp => hp) hH) hnk
  simp only [Oper.wp, hrun, Oper.upon]
  refine hcall.mono ?_
  rintro e w' ⟨v, κ', rfl, st, inv, hv, hO⟩
  refine hN v κ' w' (st.weaken ?_) inv hv (fun p hp => ?_)
  · rintro n ⟨j, hj, rfl⟩
    exact hws j hj
  · simp only [renObs_eq, List.mem_map] at hp
    obtain ⟨q, hq, rfl⟩ := hp
    exact hO q hq

/-! ### Owned rows lent as data -/
def killL (κ : Ka) : List Nat → Ka
  | [] => κ
  | n :: V => killL (setK κ n .dead) V

theorem killL_M (κ : Ka) : ∀ V : List Nat, (killL κ V).M = κ.M
  | [] => rfl
  | n :: V => by rw [killL, killL_M]; rfl

theorem step_killL {w : World} : ∀ (V : List Nat) (κ : Ka), Inv κ w → Step (· ∈ V) κ w (killL κ V) w ∧ Inv (killL κ V) w
  | [], κ, hi => ⟨Step.refl _ κ w, hi⟩
  | n :: V, κ, hi => by
    have h1 := step_kill (κ := κ) (w := w) (some n)
    have h2 := inv_kill hi (some n)
    obtain ⟨h3, h4⟩ := step_killL V (setK κ n .dead) h2
    exact ⟨(h1.weaken (fun j hj => by simp only [Option.some.injEq] at hj; subst hj; simp)).trans (h3.weaken (fun j hj => by simp [hj])), h4⟩

theorem killL_dead (κ : Ka) : ∀ (V : List Nat) (n : Nat), n ∈ V ∨ κ n = .dead → killL κ V n = .dead
  | [], n, h => h.resolve_left (by simp)
  | m :: V, n, h => by
    rw [killL]
    apply killL_dead
    by_cases hm : n = m
    · subst hm; right; exact setK_self _ _ _
    · rcases h with h | h
      · left; simpa [hm] using h
      · right; rw [setK_ne _ _ hm]; exact h

theorem killL_ne (κ : Ka) : ∀ (V : List Nat) (n : Nat), n ∉ V → killL κ V n = κ n
  | [], n, _ => rfl
  | m :: V, n, h => by
    simp only [List.mem_cons, not_or] at h
    rw [killL, killL_ne _ V n h.2, setK_ne _ _ h.1]

theorem killL_own {κ : Ka} {w : World} (hi : Inv κ w) {V : List Nat} {n b : Nat} (hn : n ∈ V) (hb : (κ n).block? = some b) : ¬ Own (killL κ V) b := by
  rintro (⟨j, hj⟩ | hj)
  · by_cases hjV : j ∈ V
    · rw [killL_dead κ V j (.inl hjV)] at hj; cases hj
    · rw [killL_ne κ V j hjV] at hj
      exact hjV (by rw [hi.inj j n b hj hb]; exact hn)
  · rw [killL_M] at hj; exact hi.apart n b hb hj

mutual
/-- What is at hand (the left one) may be seen as the right one, the names of V being given up. -/
inductive Vw (s : SS) (V : List Nat) : SV → SV → Prop
  | refl (x : SV) : Vw s V x x
  | row {n sz : Nat} {α : Type} {e : α → SV} {l : List α} (h : s.h n = .row sz e l) (hn : memN V n = true) : Vw s V (.osl n) (.sl sz e l)
  | lit {n sz : Nat} {α : Type} {e : α → SV} {l : List α} {svs : List SV} (h : s.h n = .lit sz svs) (hl : l.map e = svs) (hn : memN V n = true) : Vw s V (.osl n) (.sl sz e l)
  | nil {sz : Nat} {α : Type} {e : α → SV} : Vw s V (.val (.slice none 0 0)) (.sl sz e [])
  | agg {l m : List SV} (h : VwL s V l m) : Vw s V (.agg l) (.agg m)
inductive VwL (s : SS) (V : List Nat) : List SV → List SV → Prop
  | nil : VwL s V [] []
  | cons {x y : SV} {l m : List SV} (h : Vw s V x y) (hs : VwL s V l m) : VwL s V (x :: l) (y :: m)
end

theorem Vw_name {V : List Nat} {κ : Ka} {w : World} (hi : Inv κ w) {n sz : Nat} {α : Type} {e : α → SV} {l : List α} (hn : n ∈ V) (h : (κ n = .nil ∧ l = []) ∨ RowAt κ w n sz l.length (rowF e l)) {v : Value} (hv : Rd κ w (.osl n) v) :
    Rd (killL κ V) w (.sl sz e l) v := by
  rcases h with ⟨h1, rfl⟩ | h1
  · simp only [Rd, h1] at hv
    simp only [Rd, RdD]
    exact .inl ⟨by simp, none, 0, hv⟩
  · exact h1.freeze hv (step_killL V κ hi).1.keeps.out (fun b hb => ⟨hi.bnd n b hb, killL_own hi hn hb⟩)

mutual
theorem Vw.rd {s : SS} {V : List Nat} {κ : Ka} {w : World} (hi : Inv κ w) (ho : ∀ n ∈ V, ObOK κ w n (s.h n)) : ∀ {x y : SV} (_ : Vw s V x y) {v : Value}, Rd κ w x v → Rd (killL κ V) w y v
  | _, _, .refl x, _, hv => Rd.step (step_killL V κ hi).1 _ _ hv
  | _, _, .row h hn, _, hv => by
    have h1 := ho _ (memN_iff.1 hn)
    rw [h] at h1
    exact Vw_name hi (memN_iff.1 hn) h1 hv
  | _, _, .lit (l := l) h hl hn, _, hv => by
    have h1 := ho _ (memN_iff.1 hn)
    rw [h] at h1
    obtain ⟨b, cap, cs, T, fr, e1, e2, e3, e4, e5, e6⟩ := h1
    refine Vw_name hi (memN_iff.1 hn) (.inr ?_) hv
    have hlen := congrArg List.length hl
    simp only [List.length_map] at hlen
    exact ⟨b, cap, cs, T, fr, by rw [hlen]; exact e1, e2, e3, e4, by omega, fun i x hx => by rw [hlen]; exact e6 i x (rowF_lit hl i x hx)⟩
  | _, _, .nil, _, hv => by
    simp only [Rd, RdD]
    exact .inl ⟨by simp, none, 0, hv.val⟩
  | _, _, .agg h, _, hv => by
    simp only [Rd] at hv ⊢
    obtain ⟨cs, h1, h2, h3⟩ := hv
    exact ⟨cs, h1, h2, VwL.rd hi ho h h3⟩
theorem VwL.rd {s : SS} {V : List Nat} {κ : Ka} {w : World} (hi : Inv κ w) (ho : ∀ n ∈ V, ObOK κ w n (s.h n)) : ∀ {l m : List SV} (_ : VwL s V l m) {vs : List Value}, RdL κ w l vs → RdL (killL κ V) w m vs
  | _, _, .nil, _, hv => by simpa [RdL] using hv
  | _, _, .cons h hs, _, hv => by
    simp only [RdL] at hv ⊢
    obtain ⟨v, r, h1, h2, h3⟩ := hv
    exact ⟨v, r, h1, Vw.rd hi ho h h2, VwL.rd hi ho hs h3⟩
end

def apartN (ρ : List (Nat × Nat)) (K V : List Nat) : Bool := K.all fun k => !(memN V (assocN ρ k))

theorem good_callVE {P : Program} {o : Oper} {s : SS} {f : FuncId} {B : List SV} {A : List SV} {H : Obs} {R : SV} {H' : Obs} (ρ : List (Nat × Nat)) (V : List Nat) (hE : Enters P o s f B) (hs : Spec P f A H R H')
    (hA : VwL s V B (renL (assocN ρ) A)) (hH : ObsEq s ρ H) (hok : callOK A H R H' ρ = true) (hnew : newOK s ρ H.keys H'.keys) (hV : apartN ρ H'.keys V = true) : Good P o s ⟨R.ren (assocN ρ), [], V.map (fun n => (n, .non)) ++ renObs ρ H'⟩ := by
  intro κ a w hi hr ho N Q hN
  simp only [callOK, Bool.and_eq_true, List.all_eq_true] at hok
  obtain ⟨⟨⟨⟨⟨c1, c2⟩, c3⟩, c4⟩, c5⟩, c6⟩ := hok
  obtain ⟨hinj, _⟩ := rhoOK_inj c1
  have hHH : ∀ k ∈ H.keys, k ∈ H'.keys := fun k hk => by
    simp only [subN, List.all_eq_true] at c2
    exact memN_iff.1 (c2 k hk)
  have hVa : ∀ k ∈ H'.keys, assocN ρ k ∉ V := fun k hk hm => by
    simp only [apartN, List.all_eq_true] at hV
    have := hV k hk
    rw [memN_iff.2 hm] at this
    cases this
  have hws2 : ∀ k ∈ H'.keys, assocN ρ k ∈ (Up.mk (R.ren (assocN ρ)) [] (V.map (fun n => (n, Ob.non)) ++ renObs ρ H')).ws := fun k hk => by
    obtain ⟨p, hp, rfl⟩ := List.mem_map.1 hk
    simp only [Up.ws, renObs_eq, List.map_append, List.map_map, List.mem_append, List.mem_map]
    exact .inr ⟨p, hp, rfl⟩
  have hws1 : ∀ n ∈ V, n ∈ (Up.mk (R.ren (assocN ρ)) [] (V.map (fun n => (n, Ob.non)) ++ renObs ρ H')).ws := fun n hn => by
    simp only [Up.ws, List.map_append, List.map_map, List.mem_append, List.mem_map]
    exact .inl ⟨n, hn, rfl⟩
  have hoV : ∀ n ∈ V, ObOK κ w n (s.h n) := fun n hn => ho n (.inr (hws1 n hn))
  obtain ⟨st0, inv0⟩ := step_killL V κ hi
  obtain ⟨vs, hrun, hxs⟩ := hE κ a w hr
  have hvs : RdL (killL κ V) w (renL (assocN ρ) A) vs := hA.rd hi hoV hxs
  have hHk : ∀ H0 : Obs, (∀ p ∈ H0, p ∈ H) → ObsEq s ρ H0 → ∀ p ∈ H0, ObOK (killL κ V) w (assocN ρ p.1) (p.2.ren (assocN ρ)) := by
    intro H0
    induction H0 with
    | nil => intro _ _ p hp; cases hp
    | cons q r ih =>
      obtain ⟨i, x⟩ := q
      intro hsub he p hp
      simp only [ObsEq] at he
      rcases List.mem_cons.1 hp with rfl | hp
      · have hk : i ∈ H.keys := List.mem_map.2 ⟨(i, x), hsub _ (by simp), rfl⟩
        rw [he.1]
        exact ObOK.step st0 (hVa i (hHH i hk)) _ (ho _ (.inr (hws2 i (hHH i hk))))
      · exact ih (fun q hq => hsub q (by simp [hq])) he.2 p hp
  have hnk : ∀ k ∈ H'.keys, k ∉ H.keys → (killL κ V) (assocN ρ k) = .new := by
    have key : ∀ K : List Nat, (∀ k ∈ K, k ∈ H'.keys) → newOK s ρ H.keys K → ∀ k ∈ K, k ∉ H.keys → (killL κ V) (assocN ρ k) = .new := by
      intro K
      induction K with
      | nil => intro _ _ k hk; cases hk
      | cons j r ih =>
        intro hsub hn k hk hkn
        simp only [newOK] at hn
        rcases List.mem_cons.1 hk with rfl | hk
        · rcases hn.1 with h1 | h1
          · exact absurd (memN_iff.1 h1) hkn
          · have := ho _ (.inr (hws2 k (hsub k (by simp))))
            rw [h1] at this
            rw [killL_ne κ V _ (hVa k (hsub k (by simp)))]
            exact this
        · exact ih (fun k hk => hsub k (by simp [hk])) hn.2 k hk hkn
    exact key _ (fun _ hk => hk) hnew
  have hcall := hs.at (ρ := assocN ρ) hinj hHH c3 (fun p hp => c4 p hp) c5 (fun p hp => c6 p hp) inv0 hvs (hHk H (fun _ hp => hp) hH) hnk
  simp only [Oper.wp, hrun, Oper.upon]
  refine hcall.mono ?_
  rintro e w' ⟨v, κ', rfl, st, inv, hv, hO⟩
  refine hN v κ' w' ((st0.weaken hws1).trans (st.weaken ?_)) inv hv (fun p hp => ?_)
  · rintro n ⟨j, hj, rfl⟩
    exact hws2 j hj
  · rcases List.mem_append.1 hp with hp | hp
    · obtain ⟨n, _, rfl⟩ := List.mem_map.1 hp
      trivial
    · simp only [renObs_eq, List.mem_map] at hp
      obtain ⟨q, hq, rfl⟩ := hp
      exact hO q hq

/-! Lent, and given back: for a call that changes nothing and answers with no data. -/
mutual
def SV.plain : SV → Bool
  | .top => true
  | .val _ => true
  | .agg l => plainL l
  | .tup l => plainL l
  | _ => false
def plainL : List SV → Bool
  | [] => true
  | x :: l => x.plain && plainL l
end

mutual
theorem Rd.plain {κ κ' : Ka} {w w' : World} : ∀ (x : SV) (v : Value), x.plain = true → Rd κ w x v → Rd κ' w' x v
  | .top, _, _, _ => by simp [Rd]
  | .val u, v, _, h => by simpa [Rd] using h
  | .agg l, v, hp, h => by
    simp only [Rd, SV.plain] at h hp ⊢
    obtain ⟨cs, h1, h0, h2⟩ := h
    exact ⟨cs, h1, h0, RdL.plain l cs hp h2⟩
  | .tup l, v, hp, h => by
    simp only [Rd, SV.plain] at h hp ⊢
    obtain ⟨cs, h1, h2⟩ := h
    exact ⟨cs, h1, RdL.plain l cs hp h2⟩
  | .sl _ _ _, _, hp, _ => by simp [SV.plain] at hp
  | .ref _ _ _, _, hp, _ => by simp [SV.plain] at hp
  | .ptr _ _, _, hp, _ => by simp [SV.plain] at hp
  | .rpt _ _ _ _, _, hp, _ => by simp [SV.plain] at hp
  | .osl _, _, hp, _ => by simp [SV.plain] at hp
  | .ifc _ _, _, hp, _ => by simp [SV.plain] at hp
  | .clo _ _ _, _, hp, _ => by simp [SV.plain] at hp
theorem RdL.plain {κ κ' : Ka} {w w' : World} : ∀ (l : List SV) (vs : List Value), plainL l = true → RdL κ w l vs → RdL κ' w' l vs
  | [], _, _, h => by simpa [RdL] using h
  | x :: l, vs, hp, h => by
    simp only [RdL, plainL, Bool.and_eq_true] at h hp ⊢
    obtain ⟨v, r, h1, h2, h3⟩ := h
    exact ⟨v, r, h1, Rd.plain x v hp.1 h2, RdL.plain l r hp.2 h3⟩
end

mutual
theorem ren_id : ∀ x : SV, x.ren id = x
  | .ptr _ _ => rfl
  | .rpt _ _ _ _ => rfl
  | .osl _ => rfl
  | .agg l => by simp only [SV.ren, renL_id l]
  | .tup l => by simp only [SV.ren, renL_id l]
  | .ifc t x => by simp only [SV.ren, ren_id x]
  | .clo fn f l => by simp only [SV.ren, renL_id f, renL_id l]
  | .top => rfl
  | .val _ => rfl
  | .sl _ _ _ => rfl
  | .ref _ _ _ => rfl
theorem renL_id : ∀ l : List SV, renL id l = l
  | [] => rfl
  | x :: l => by simp only [renL, ren_id x, renL_id l]
end

theorem good_callKE {P : Program} {o : Oper} {s : SS} {f : FuncId} {B : List SV} {A : List SV} {R : SV} (V : List Nat) (hE : Enters P o s f B) (hs : Spec P f A [] R [])
    (hA : VwL s V B A) (hAn : innL [] A = true) (hR : R.plain = true) : Good P o s ⟨R, V, []⟩ := by
  intro κ a w hi hr ho N Q hN
  have hoV : ∀ n ∈ V, ObOK κ w n (s.h n) := fun n hn => ho n (.inl hn)
  obtain ⟨st0, inv0⟩ := step_killL V κ hi
  obtain ⟨vs, hrun, hxs⟩ := hE κ a w hr
  have hvs : RdL (killL κ V) w A vs := hA.rd hi hoV hxs
  -- no names at all for the callee; every owned block is somebody else's, but for those that are lent
  let κc : Ka := ⟨fun _ => .new, Own (killL κ V)⟩
  have hic : Inv κc w := by
    refine ⟨fun i j b h1 _ => ?_, fun j b h1 => ?_, fun j b h1 => ?_, fun b hb => ?_⟩
    · cases h1
    · cases h1
    · cases h1
    · rcases hb with ⟨j, hj⟩ | hj
      · exact inv0.bnd j b hj
      · exact inv0.mbnd b hj
  have hown : ∀ b, b < w.heap.size → ¬ Own (killL κ V) b → ¬ Own κc b := by
    rintro b _ hn (⟨j, hj⟩ | hj)
    · cases hj
    · exact hn hj
  have hA' : RdL κc w A vs := RdL.unren (ρ := id) (K := []) (κ := killL κ V) ⟨fun k hk => by cases hk⟩ hown A _ hAn (by rw [renL_id]; exact hvs)
  have hcall := hs κc w _ hic (fun j hj => absurd rfl hj) hA' (fun p hp => by cases hp)
  simp only [Oper.wp, hrun, Oper.upon]
  refine hcall.mono ?_
  rintro e w' ⟨v, κ', rfl, hctx, inv, hv, _⟩
  have hall : ∀ b, b < w.heap.size → w'.heap[b]? = w.heap[b]? := fun b hb => hctx.old b hb (fun j hj => by cases hj)
  refine hN v κ w' ⟨hctx.size, hctx.os, hctx.tape, hctx.output, rfl, fun b hb => hall b (hi.mbnd b hb), fun b hb _ => hall b hb, fun j b _ hb => hall b (hi.bnd j b hb), fun _ _ => rfl, fun _ _ => .inr (.inl rfl), fun _ hb => .inl hb⟩
    ⟨hi.inj, fun j b hb => Nat.lt_of_lt_of_le (hi.bnd j b hb) hctx.size, hi.apart, fun b hb => Nat.lt_of_lt_of_le (hi.mbnd b hb) hctx.size⟩ (Rd.plain _ _ hR hv) (fun p hp => by cases hp)

theorem good_call {P : Program} {o : Oper} {s : SS} {f : FuncId} {fn : Func} {c : Code} {xs : List Operand} {ts : Array TypeId} {A : List SV} {H : Obs} {R : SV} {H' : Obs} (ρ : List (Nat × Nat)) (h : o.op = .call ⟨.value (.func f), xs.toArray, ts⟩) (hf : Fun P f fn c) (hs : Spec P f A H R H')
    (hA : renL (assocN ρ) A = xs.map (ev s)) (hH : ObsEq s ρ H) (hok : callOK A H R H' ρ = true) (hnew : newOK s ρ H.keys H'.keys) : Good P o s ⟨R.ren (assocN ρ), [], renObs ρ H'⟩ :=
  good_callE ρ (enters_func h hf) hs hA hH hok hnew

theorem good_callV {P : Program} {o : Oper} {s : SS} {f : FuncId} {fn : Func} {c : Code} {xs : List Operand} {ts : Array TypeId} {A : List SV} {H : Obs} {R : SV} {H' : Obs} (ρ : List (Nat × Nat)) (V : List Nat) (h : o.op = .call ⟨.value (.func f), xs.toArray, ts⟩) (hf : Fun P f fn c) (hs : Spec P f A H R H')
    (hA : VwL s V (xs.map (ev s)) (renL (assocN ρ) A)) (hH : ObsEq s ρ H) (hok : callOK A H R H' ρ = true) (hnew : newOK s ρ H.keys H'.keys) (hV : apartN ρ H'.keys V = true) : Good P o s ⟨R.ren (assocN ρ), [], V.map (fun n => (n, .non)) ++ renObs ρ H'⟩ :=
  good_callVE ρ V (enters_func h hf) hs hA hH hok hnew hV

theorem good_callK {P : Program} {o : Oper} {s : SS} {f : FuncId} {fn : Func} {c : Code} {xs : List Operand} {ts : Array TypeId} {A : List SV} {R : SV} (V : List Nat) (h : o.op = .call ⟨.value (.func f), xs.toArray, ts⟩) (hf : Fun P f fn c) (hs : Spec P f A [] R [])
    (hA : VwL s V (xs.map (ev s)) A) (hAn : innL [] A = true) (hR : R.plain = true) : Good P o s ⟨R, V, []⟩ :=
  good_callKE V (enters_func h hf) hs hA hAn hR

end Go.Sy
