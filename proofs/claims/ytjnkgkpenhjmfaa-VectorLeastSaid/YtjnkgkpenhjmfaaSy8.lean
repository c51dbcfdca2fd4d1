/-
  The symbolic layer, 8: the rules.
-/
import Derived.Test.YtjnkgkpenhjmfaaSy7
namespace Go.Sy
variable {C : Cx} {k : List KI} {s : SS}

theorem G_seq {x y : Code} (h : G C (.code x :: .code y :: k) s) : G C (.code (.seq x y) :: k) s := fun κ a w hs => wp_seq (h κ a w hs)
theorem G_skip (h : G C k s) : G C (.code .skip :: k) s := fun κ a w hs => wp_skip (h κ a w hs)
theorem G_block {id : Nat} {c : Code} (h : G C (.code c :: .blk id :: k) s) : G C (.code (.block id c) :: k) s := fun κ a w hs => wp_block (h κ a w hs)
theorem G_blk {id : Nat} (h : G C k s) : G C (.blk id :: k) s := fun κ a w hs => h κ a w hs
theorem G_nil (h : ∀ κ a w, St C.F C.n s κ a w → C.B .normal a w) : G C [] s := fun κ a w hs => h κ a w hs

theorem G_cond {c : Operand} {x y : Code} {b : Bool} (hc : ev s c = .val (.bool b)) (ht : b = true → G C (.code x :: k) s) (hf : b = false → G C (.code y :: k) s) : G C (.code (.cond c x y) :: k) s := fun κ a w hs => by
  have h := hs.ev c
  rw [hc] at h
  exact wp_cond_split h.val (fun hb => ht hb κ a w hs) (fun hb => hf hb κ a w hs)

def exitK (id : Nat) : List KI → Option (List KI)
  | [] => none
  | .blk i :: k => bif Nat.beq i id then some k else exitK id k
  | .code _ :: k => exitK id k
  | .ops _ _ :: k => exitK id k
  | .inv _ :: k => exitK id k

theorem den_exit {P : Program} {B : Exit → Act → World → Prop} {id : Nat} {a : Act} {w : World} : ∀ {k k' : List KI}, exitK id k = some k' → den P B k' .normal a w → den P B k (.exit id) a w
  | [], k', h, _ => by simp [exitK] at h
  | .blk i :: k, k', h, hd => by
    simp only [exitK, Bool.cond_eq_ite] at h
    split at h
    · rename_i hb
      have := Nat.eq_of_beq_eq_true hb
      subst this
      simp only [Option.some.injEq] at h
      subst h
      simp only [den, Exit.inBlock, if_true]
      exact hd
    · rename_i hb
      have hne : id ≠ i := fun e => hb (by subst e; simp)
      simp only [den, Exit.inBlock, if_neg hne]
      exact den_exit h hd
  | .code _ :: k, k', h, hd => den_exit (k := k) h hd
  | .ops _ _ :: k, k', h, hd => den_exit (k := k) h hd
  | .inv _ :: k, k', h, hd => den_exit (k := k) h hd

theorem G_exit {id : Nat} {k' : List KI} (h : exitK id k = some k') (hg : G C k' s) : G C (.code (.exit id) :: k) s := fun κ a w hs => wp_exit (den_exit h (hg κ a w hs))

theorem den_ret {P : Program} {B : Exit → Act → World → Prop} {a : Act} {w : World} : ∀ {k : List KI}, B .ret a w → den P B k .ret a w
  | [], h => h
  | .blk _ :: k, h => den_ret (k := k) h
  | .code _ :: k, h => den_ret (k := k) h
  | .ops _ _ :: k, h => den_ret (k := k) h
  | .inv _ :: k, h => den_ret (k := k) h

theorem G_ret (h : ∀ κ a w, St C.F C.n s κ a w → C.B .ret a w) : G C (.code .ret :: k) s := fun κ a w hs => wp_ret (den_ret (h κ a w hs))

theorem G_region {id : Nat} {ops : Array Oper} (h : G C (.ops ops ops.toList :: k) s) : G C (.code (.region id ops false) :: k) s := fun κ a w hs => wp_region_list (h κ a w hs)
theorem G_ops_nil {all : Array Oper} (h : G C k s) : G C (.ops all [] :: k) s := fun κ a w hs => wpList_nil (P := C.P) (ops := all) (h κ a w hs)

/-- Is the operation carried out? -/
def wantS (all : Array Oper) (s : SS) (g : Option (Nat × Bool)) (b : Bool) : Prop :=
  match g with
  | none => b = true
  | some (j, want) => ∃ d, ((all[j]?).bind (·.dst)) = some d ∧ ((∃ c, s.σ d = .val (.bool c) ∧ b = (c == want)) ∨ (s.σ d = .val undef ∧ b = false))

theorem want_ok {F : Fr} {n : Nat} {κ : Ka} {a : Act} {w : World} (h : St F n s κ a w) {all : Array Oper} {o : Oper} {b : Bool} (hd : ∀ j want, o.guard = some (j, want) → ∀ d, ((all[j]?).bind (·.dst)) = some d → d < n) (hw : wantS all s o.guard b) : Region.wanted o (yielded all a.tmps) = b := by
  unfold wantS at hw
  unfold Region.wanted
  cases hg : o.guard with
  | none => rw [hg] at hw; simp [hw]
  | some p =>
    obtain ⟨j, want⟩ := p
    rw [hg] at hw
    obtain ⟨d, h1, h2⟩ := hw
    have hlt := hd j want hg d h1
    have hslot := h.slot d
    have hget : a.tmps[d]? = some (a.tmps.getD d undef) := by simp [h.size, hlt]
    simp only [yielded, h1, Option.bind_some, hget]
    rcases h2 with ⟨c, h3, rfl⟩ | ⟨h3, rfl⟩
    · rw [h3] at hslot
      rw [hslot.val]
      rfl
    · rw [h3] at hslot
      rw [hslot.val]
      rfl

theorem G_op {all : Array Oper} {o : Oper} {rest : List Oper} {U : Up} (hg : Good C.P o s U) (hw : ∀ κ a w, St C.F C.n s κ a w → Region.wanted o (yielded all a.tmps) = true) (hd : ∀ d, o.dst = some d → d < C.n) (h : G C (.ops all rest :: k) (s.upd o.dst U)) : G C (.ops all (o :: rest) :: k) s := fun κ a w hs =>
  wpList_step fun K hK => by
    rw [if_pos (hw κ a w hs)]
    exact hg κ a w hs.inv (fun x _ => hs.ev x) (fun j _ => hs.obj j) K _ (fun v κ' w' st hi hv ho => hK _ _ (h κ' _ w' (hs.put hd st hi hv ho)))

theorem G_op_skip {all : Array Oper} {o : Oper} {rest : List Oper} (hw : ∀ κ a w, St C.F C.n s κ a w → Region.wanted o (yielded all a.tmps) = false) (hd : ∀ d, o.dst = some d → d < C.n) (h : G C (.ops all rest :: k) (s.upd o.dst ⟨.val undef, [], []⟩)) : G C (.ops all (o :: rest) :: k) s := fun κ a w hs =>
  wpList_step fun K hK => by
    rw [if_neg (by rw [hw κ a w hs]; simp)]
    exact hK _ _ (h κ _ w (hs.put (U := ⟨.val undef, [], []⟩) hd (Step.refl _ κ w) hs.inv (by simp [Rd]) (fun p hp => by cases hp)))

/-! ### From one state to a vaguer one -/
def assocN : List (Nat × Nat) → Nat → Nat
  | [], k => k
  | (a, b) :: r, k => bif Nat.beq a k then b else assocN r k

def mkσ : List (Nat × SV) → Nat → SV
  | [], _ => .top
  | (i, x) :: r, j => bif Nat.beq i j then x else mkσ r j

def mkh : List (Nat × Ob) → Nat → Ob
  | [], _ => .fresh
  | (i, x) :: r, j => bif Nat.beq i j then x else mkh r j

def mkS (L : List (Nat × SV)) (O : Obs) : SS := ⟨mkσ L, mkh O⟩

def SlotsM (ρ : List (Nat × Nat)) (K : List Nat) (s : SS) : List (Nat × SV) → Prop
  | [] => True
  | (i, x) :: r => x.ren (assocN ρ) = s.σ i ∧ x.inn K = true ∧ SlotsM ρ K s r

def ObsM (ρ : List (Nat × Nat)) (K : List Nat) (s : SS) : Obs → Prop
  | [] => True
  | (i, x) :: r => (x.ren (assocN ρ) = s.h (assocN ρ i) ∨ x = .non) ∧ x.inn K = true ∧ ObsM ρ K s r

/-- No two names go over to one; what came in stays. -/
def rhoOK (ρ : List (Nat × Nat)) (bn : List Nat) : List Nat → Bool
  | [] => bn.all fun k => Nat.beq (assocN ρ k) k
  | k :: r => (r.all fun j => Nat.beq j k || !(Nat.beq (assocN ρ j) (assocN ρ k))) && rhoOK ρ bn r

theorem rhoOK_inj {ρ : List (Nat × Nat)} {bn : List Nat} : ∀ {K : List Nat}, rhoOK ρ bn K = true → (∀ i ∈ K, ∀ j ∈ K, assocN ρ i = assocN ρ j → i = j) ∧ ∀ k ∈ bn, assocN ρ k = k
  | [], h => ⟨by simp, fun k hk => by
      simp only [rhoOK, List.all_eq_true] at h
      exact Nat.eq_of_beq_eq_true (h k hk)⟩
  | k :: r, h => by
    simp only [rhoOK, Bool.and_eq_true, List.all_eq_true, Bool.or_eq_true, Bool.not_eq_true'] at h
    obtain ⟨h1, h2⟩ := h
    obtain ⟨h3, h4⟩ := rhoOK_inj h2
    refine ⟨fun i hi j hj e => ?_, h4⟩
    simp only [List.mem_cons] at hi hj
    rcases hi with rfl | hi <;> rcases hj with rfl | hj
    · rfl
    · rcases h1 j hj with h | h
      · exact (Nat.eq_of_beq_eq_true h).symm
      · rw [e] at h; simp at h
    · rcases h1 i hi with h | h
      · exact Nat.eq_of_beq_eq_true h
      · rw [e] at h; simp at h
    · exact h3 i hi j hj e

/-- The names of K alone, read by way of ρ. -/
def renK (κ : Ka) (ρ : Nat → Nat) (K : List Nat) : Ka := ⟨fun k => bif memN K k then κ (ρ k) else .new, κ.M⟩

theorem renK_mem {κ : Ka} {ρ : Nat → Nat} {K : List Nat} {k : Nat} (h : k ∈ K) : renK κ ρ K k = κ (ρ k) := by simp [renK, memN_iff.2 h]
theorem renK_not {κ : Ka} {ρ : Nat → Nat} {K : List Nat} {k : Nat} (h : k ∉ K) : renK κ ρ K k = .new := by
  have : memN K k = false := by
    cases hm : memN K k with
    | false => rfl
    | true => exact absurd (memN_iff.1 hm) h
  simp [renK, this]

theorem renK_block {κ : Ka} {ρ : Nat → Nat} {K : List Nat} {k b : Nat} (h : (renK κ ρ K k).block? = some b) : k ∈ K ∧ (κ (ρ k)).block? = some b := by
  by_cases hk : k ∈ K
  · rw [renK_mem hk] at h; exact ⟨hk, h⟩
  · rw [renK_not hk] at h; cases h

theorem renK_own {κ : Ka} {ρ : Nat → Nat} {K : List Nat} (b : Nat) (h : ¬ Own κ b) : ¬ Own (renK κ ρ K) b := by
  rintro (⟨k, hk⟩ | hk)
  · exact h (.inl ⟨_, (renK_block hk).2⟩)
  · exact h (.inr hk)

theorem renK_inv {κ : Ka} {w : World} {ρ : Nat → Nat} {K : List Nat} (hi : Inv κ w) (hinj : ∀ i ∈ K, ∀ j ∈ K, ρ i = ρ j → i = j) : Inv (renK κ ρ K) w :=
  ⟨fun i j b h1 h2 => by
      obtain ⟨a1, a2⟩ := renK_block h1
      obtain ⟨b1, b2⟩ := renK_block h2
      exact hinj i a1 j b1 (hi.inj _ _ b a2 b2),
    fun k b h => hi.bnd _ b (renK_block h).2, fun k b h => hi.apart _ b (renK_block h).2, hi.mbnd⟩

theorem renK_ctx {F : Fr} {κ : Ka} {w : World} {ρ : Nat → Nat} {K bn : List Nat} (c : Ctx F κ w) (hbn : ∀ k, F.k0 k ≠ .new → k ∈ bn) (hK : ∀ k ∈ bn, k ∈ K ∧ ρ k = k) : Ctx F (renK κ ρ K) w :=
  ⟨c.size, c.os, c.tape, c.output, c.M, c.old, fun k b h => c.own _ b (renK_block h).2, fun k hk => by
    obtain ⟨h1, h2⟩ := hK k (hbn k hk)
    rw [renK_mem h1, h2]
    exact c.nam k hk⟩

def subN (bn K : List Nat) : Bool := bn.all (memN K)

/-- s may be seen as this. -/
structure Sub (C : Cx) (s : SS) (ρ : List (Nat × Nat)) (L : List (Nat × SV)) (O : Obs) : Prop where
  slots : SlotsM ρ O.keys s L
  objs : ObsM ρ O.keys s O
  names : rhoOK ρ C.bn O.keys = true ∧ subN C.bn O.keys = true

theorem Sub.st {s : SS} {ρ : List (Nat × Nat)} {L : List (Nat × SV)} {O : Obs} (h : Sub C s ρ L O) {κ : Ka} {a : Act} {w : World} (hs : St C.F C.n s κ a w) : St C.F C.n (mkS L O) (renK κ (assocN ρ) O.keys) a w := by
  obtain ⟨hinj, hbn⟩ := rhoOK_inj h.names.1
  have hsub : ∀ k ∈ C.bn, k ∈ O.keys := fun k hk => by
    have := h.names.2
    simp only [subN, List.all_eq_true] at this
    exact memN_iff.1 (this k hk)
  have hren : Ren (assocN ρ) O.keys κ (renK κ (assocN ρ) O.keys) := ⟨fun k hk => renK_mem hk⟩
  refine ⟨hs.defers, hs.size, renK_inv hs.inv hinj, renK_ctx hs.ctx C.hbn (fun k hk => ⟨hsub k hk, hbn k hk⟩), ?_, ?_⟩
  · intro i
    have h1 := h.slots
    revert h1
    simp only [mkS]
    generalize hL : L = L'
    clear hL
    induction L' with
    | nil => intro _; simp [mkσ, Rd]
    | cons p r ih =>
      obtain ⟨j, x⟩ := p
      intro h1
      simp only [SlotsM] at h1
      simp only [mkσ, Bool.cond_eq_ite]
      split
      · rename_i hb
        have := Nat.eq_of_beq_eq_true hb
        subst this
        have h2 := hs.slot j
        rw [← h1.1] at h2
        exact Rd.unren hren (fun b _ => renK_own b) _ _ h1.2.1 h2
      · exact ih h1.2.2
  · intro i
    have h1 := h.objs
    have hK : ∀ p ∈ O, p.1 ∈ O.keys := fun p hp => List.mem_map.2 ⟨p, hp, rfl⟩
    have key : ∀ O' : Obs, (∀ p ∈ O', p.1 ∈ O.keys) → ObsM ρ O.keys s O' → (i ∈ O'.map (·.1) → ObOK (renK κ (assocN ρ) O.keys) w i (mkh O' i)) ∧ (i ∉ O'.map (·.1) → mkh O' i = .fresh) := by
      intro O'
      induction O' with
      | nil => intro _ _; exact ⟨by simp, fun _ => rfl⟩
      | cons p r ih =>
        obtain ⟨j, x⟩ := p
        intro hk h1
        simp only [ObsM] at h1
        obtain ⟨h2, h3⟩ := ih (fun p hp => hk p (by simp [hp])) h1.2.2
        simp only [mkh, Bool.cond_eq_ite, List.map_cons, List.mem_cons, not_or]
        constructor
        · intro hm
          split
          · rename_i hb
            have := Nat.eq_of_beq_eq_true hb
            subst this
            rcases h1.1 with h4 | h4
            · have h5 := hs.obj (assocN ρ j)
              rw [← h4] at h5
              exact ObOK.unren hren (fun b _ => renK_own b) (hk (j, x) (by simp)) h1.2.1 h5
            · rw [h4]; trivial
          · rename_i hb
            exact h2 (hm.resolve_left (fun e => hb (by subst e; simp)))
        · rintro ⟨hm1, hm2⟩
          rw [if_neg (fun hb => hm1 (Nat.eq_of_beq_eq_true hb).symm)]
          exact h3 hm2
    obtain ⟨h2, h3⟩ := key O hK h1
    by_cases hi : i ∈ O.map (·.1)
    · exact h2 hi
    · simp only [mkS]
      rw [h3 hi]
      exact renK_not hi

theorem G_sub {ρ : List (Nat × Nat)} {L : List (Nat × SV)} {O : Obs} (hsub : Sub C s ρ L O) (h : G C k (mkS L O)) : G C k s := fun κ a w hs => h _ a w (hsub.st hs)

/-- A loop: one state for each x, and a number that goes down. -/
theorem G_loop {body : Code} {α : Type} (L : α → List (Nat × SV)) (O : α → Obs) (μ : α → Nat) (x₀ : α) (ρ : List (Nat × Nat)) (hsub : Sub C s ρ (L x₀) (O x₀))
    (h : ∀ x, G C (.code body :: .inv (fun a w => ∃ x' κ, μ x' < μ x ∧ St C.F C.n (mkS (L x') (O x')) κ a w) :: k) (mkS (L x) (O x))) : G C (.code (.loop body) :: k) s := fun κ a w hs => by
  refine wp_loop_ghost (fun m a w => ∃ x κ, μ x = m ∧ St C.F C.n (mkS (L x) (O x)) κ a w) (μ x₀) ⟨x₀, _, rfl, hsub.st hs⟩ ?_
  rintro m a' w' ⟨x, κ', rfl, hs'⟩
  refine wp_mono (h x κ' a' w' hs') ?_
  intro e a'' w'' hq
  cases e with
  | normal =>
    obtain ⟨x', κ'', h1, h2⟩ := hq
    exact ⟨μ x', h1, x', κ'', rfl, h2⟩
  | exit id => exact hq
  | goto l => exact hq
  | ret => exact hq
  | panic c => exact hq
  | outgrown => exact hq

theorem G_inv {α : Type} {L : α → List (Nat × SV)} {O : α → Obs} {μ : α → Nat} {x : α} (x' : α) (ρ : List (Nat × Nat)) (hμ : μ x' < μ x) (hsub : Sub C s ρ (L x') (O x')) :
    G C (.inv (fun a w => ∃ x' κ, μ x' < μ x ∧ St C.F C.n (mkS (L x') (O x')) κ a w) :: k) s := fun κ a w hs => ⟨x', _, hμ, hsub.st hs⟩

end Go.Sy
