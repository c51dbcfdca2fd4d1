/-
  Contracts: the laws of trees, 3: what is cheap. What the document's devices know in the end: the roots and costs that no link betters, and the best ports. Contracts: the document's answer of layer 25 (palingref25), 1.
-/
import Derived.Test.YtgfgbdbklikckaaGreatB14
import Derived.Test.YtgfgbdbklikckaaGreatB4

namespace Go.Sy.YtgfgbdbklikckaaGreat
open Go.Proofs
-- OM: (simp only [e1, ej]; omega)

attribute [local irreducible] Go.Sy.G Go.Sy.DR
set_option maxRecDepth 100000
set_option maxHeartbeats 4000000

theorem owner_length (n : Net) (up : List Bool) (h : okB n up = true) : (ownerT n up).length = n.devices.length := by
  rw [ownerT, List.length_map, (tree_solved h).rootsL]

theorem owner_is {n : Net} {up : List Bool} (h : okB n up = true) {d : Int} (h0 : 0 ≤ d) (h1 : d < n.devices.length) :
    ∃ r : Int, nth (ownerT n up) d = r ∧ 0 ≤ r ∧ r < n.devices.length ∧ nth (ranksL n) r = nth (rootsT n up) d ∧ nth (rootsT n up) r = nth (rootsT n up) d := by
  obtain ⟨hu, hr, hcost⟩ := ok_iff.1 h
  have S := tree_solved h
  have hcb := solved_cost S h0 h1
  obtain ⟨r, g1, g2, g3, g4⟩ := solved_is S hr hcost 1000000 d h0 h1 (by omega)
  have hl := S.rootsL
  have hk := ranksL_length n
  refine ⟨r, ?_, g1, g2, g3, g4⟩
  have hro := owner_length n up h
  rw [nth_eq (by omega)]
  simp only [ownerT, List.getElem_map]
  have e : (rootsT n up)[d.toNat]'(by omega) = nth (rootsT n up) d := by rw [nth_eq (by omega)]
  rw [e, ← g3]
  have hr' : ((r.toNat : Nat) : Int) = r := by omega
  rw [← hr']
  refine idxI_found (by omega) (fun i hi hlt => ?_) ?_
  · rw [beq_eq_false_iff_ne]
    rw [nth_eq (l := ranksL n) (i := ((r.toNat : Nat) : Int)) (by omega)]
    exact ranks_unlike n hi (by omega) (by omega)
  · rw [nth_eq (l := ranksL n) (i := ((r.toNat : Nat) : Int)) (by omega)]
    simp only [Int.toNat_natCast, beq_self_eq_true]

theorem owner_hop {n : Net} {up : List Bool} (h : okB n up = true) {i j : Nat} (hij : Hop n up i j) : nth (ownerT n up) (pdev n i) = nth (ownerT n up) (pdev n j) := by
  obtain ⟨hu, hr, hcost⟩ := ok_iff.1 h
  have S := tree_solved h
  have hi := pdev_lt hr hij.1
  have hj := pdev_lt hr (hop_lt hr hij)
  obtain ⟨r, g1, g2, g3, g4, _⟩ := owner_is h hi.1 hi.2
  obtain ⟨s, k1, k2, k3, k4, _⟩ := owner_is h hj.1 hj.2
  rw [g1, k1]
  refine ranks_inj n r s g2 g3 k2 k3 ?_
  rw [g4, k4, solved_root S hr hij]

theorem owner_self {n : Net} {up : List Bool} (h : okB n up = true) {d : Int} (h0 : 0 ≤ d) (h1 : d < n.devices.length) :
    ∃ r : Int, nth (ownerT n up) d = r ∧ 0 ≤ r ∧ r < n.devices.length ∧ nth (ownerT n up) r = r ∧ (nth (costsT n up) d = 0 ↔ r = d) := by
  obtain ⟨hu, hr, hcost⟩ := ok_iff.1 h
  have S := tree_solved h
  obtain ⟨r, g1, g2, g3, g4, g5⟩ := owner_is h h0 h1
  obtain ⟨s, k1, k2, k3, k4, k5⟩ := owner_is h g2 g3
  have hrs : s = r := ranks_inj n s r k2 k3 g2 g3 (by rw [k4, g5, g4])
  refine ⟨r, g1, g2, g3, by rw [k1, hrs], fun hc => ?_, fun hrd => ?_⟩
  · rcases S.der d h0 h1 with e | ⟨i, j, e1, e2, e3, e4⟩
    · exact ranks_inj n r d g2 g3 h0 h1 (by rw [g4, e.1])
    · have hp := pcost_le hcost e1.1
      have hj := pdev_lt hr (hop_lt hr e1)
      have := solved_cost S hj.1 hj.2
      omega
  · rw [hrd] at g4
    exact solved_zero S h0 h1 g4.symm

theorem role_none {n : Net} {up : List Bool} (h : okB n up = true) {p : Nat} (hp : p < n.ports.length) (hl : farI n up p < 0) : nth (rolesT n up) p = 0 := by
  obtain ⟨hu, hr, hcost⟩ := ok_iff.1 h
  rw [rolesT, roles_get hr hp, if_neg (fun hb => ?_), role1_none hl]
  obtain ⟨j, h1, _⟩ := best_hop hb
  have := h1.2
  omega

theorem role_some {n : Net} {up : List Bool} (h : okB n up = true) {i j : Nat} (hij : Hop n up i j) : nth (rolesT n up) i ≠ 0 ∧ (nth (rolesT n up) i = 1 → nth (costsT n up) (pdev n i) = nth (costsT n up) (pdev n j) + pcost n i) := by
  obtain ⟨hu, hr, hcost⟩ := ok_iff.1 h
  have S := tree_solved h
  rw [rolesT, roles_get hr hij.1, role1_hop hij]
  split
  · rename_i hb
    exact ⟨by omega, fun _ => best_cost S hr hij hb⟩
  · split <;> exact ⟨by omega, fun h => absurd h (by omega)⟩

theorem far_up {n : Net} {up : List Bool} (hr : netRightB n = true) {i : Nat} (hi : i < n.ports.length) (h0 : 0 ≤ n.ports[i].link) (hu : up.getD n.ports[i].link.toNat false = true) :
    ∃ j : Nat, j < n.ports.length ∧ farI n up i = j ∧ (nth n.links n.ports[i].link).a + (nth n.links n.ports[i].link).b - i = j := by
  have hp := right_port hr hi
  have hpl := port_link hr hi
  simp only [portB, Bool.and_eq_true, Bool.or_eq_true, beq_iff_eq] at hp
  have hp := hp.2
  have hlk : n.ports[i].link.toNat < n.links.length := by omega
  have he := link_ends hr hlk
  have hfar : farI n up i = (nth n.links n.ports[i].link).a + (nth n.links n.ports[i].link).b - i := by
    rw [farI, getD_at hi]
    simp only [hu, Bool.not_true, Bool.or_false, decide_eq_true_eq]
    rw [if_neg (by omega)]
  rw [nth_eq (l := n.links) (i := n.ports[i].link) hlk] at hfar hp ⊢
  generalize n.links[n.ports[i].link.toNat] = l at *
  exact ⟨(farI n up i).toNat, by omega, by omega, by omega⟩
end Go.Sy.YtgfgbdbklikckaaGreat

namespace Go.Sy.YtgfgbdbklikckaaGreat

instance : Inhabited Vec := ⟨⟨0, 0, 0, 0, 0⟩⟩

def vec0 (ranks : List Int) (d : Nat) : Vec := ⟨ranks.getD d 0, 0, ranks.getD d 0, -1, -1⟩
def know0 (n : Net) (ranks : List Int) : List Vec := (List.range n.devices.length).map (vec0 ranks)

/-- What a port tells, of what was known. -/
def knowV (n : Net) (ranks : List Int) (old : List Vec) (i j : Nat) : Vec := ⟨(nth old (pdev n j)).root, (nth old (pdev n j)).cost + pcost n i, nth ranks (pdev n j), j, i⟩
def knowP (n : Net) (up : List Bool) (ranks : List Int) (old best : List Vec) (i : Nat) : List Vec :=
  if 0 ≤ farI n up i ∧ lessV (knowV n ranks old i (farI n up i).toNat) (nth best (pdev n i)) = true then best.set (pdev n i).toNat (knowV n ranks old i (farI n up i).toNat) else best
def knowU (n : Net) (up : List Bool) (ranks : List Int) (old : List Vec) (m : Nat) : List Vec := (List.range m).foldl (knowP n up ranks old) old
theorem knowU_succ (n : Net) (up : List Bool) (ranks : List Int) (old : List Vec) (m : Nat) : knowU n up ranks old (m + 1) = knowP n up ranks old (knowU n up ranks old m) m := by
  rw [knowU, List.range_succ, List.foldl_append]; rfl
def knowN (n : Net) (up : List Bool) (ranks : List Int) : Nat → List Vec
  | 0 => know0 n ranks
  | r + 1 => knowU n up ranks (knowN n up ranks r) n.ports.length

theorem knowP_length (n : Net) (up : List Bool) (ranks : List Int) (old best : List Vec) (i : Nat) : (knowP n up ranks old best i).length = best.length := by
  rw [knowP]; split
  · rw [List.length_set]
  · rfl
theorem knowU_length (n : Net) (up : List Bool) (ranks : List Int) (old : List Vec) : ∀ m, (knowU n up ranks old m).length = old.length
  | 0 => rfl
  | m + 1 => by rw [knowU_succ, knowP_length, knowU_length n up ranks old m]
theorem knowN_length (n : Net) (up : List Bool) (ranks : List Int) : ∀ r, (knowN n up ranks r).length = n.devices.length
  | 0 => by simp [knowN, know0]
  | r + 1 => by rw [knowN, knowU_length, knowN_length n up ranks r]

theorem nth_set {α : Type} [Inhabited α] {l : List α} {a b : Int} {v : α} (h0 : 0 ≤ a) (h1 : a < l.length) (hb : 0 ≤ b) : nth (l.set a.toNat v) b = if b = a then v else nth l b := by
  rw [nth, nth, List.getElem?_set]
  by_cases h : b = a
  · subst h
    rw [if_pos rfl, if_pos rfl, if_pos (by omega)]
    rfl
  · rw [if_neg (by omega), if_neg h]

section
variable {n : Net} {up : List Bool} {ranks roots costs : List Int}

/-- Each is what its device is by itself, or what a port told of some round before; none is better than what was there. -/
structure KnowM (n : Net) (up : List Bool) (ranks : List Int) (old best : List Vec) (m : Nat) : Prop where
  shape : ∀ d : Int, 0 ≤ d → d < n.devices.length → nth best d = nth old d ∨ ∃ i j : Nat, i < m ∧ Hop n up i j ∧ pdev n i = d ∧ nth best d = knowV n ranks old i j
  was : ∀ d : Int, 0 ≤ d → d < n.devices.length → lessV (nth old d) (nth best d) = false
  cand : ∀ i j : Nat, i < m → Hop n up i j → lessV (knowV n ranks old i j) (nth best (pdev n i)) = false

theorem not_less_trans {a b c : Vec} (h1 : lessV b a = false) (h2 : lessV c b = false) : lessV c a = false := by
  cases h : lessV c a
  · rfl
  · by_cases hbc : b = c
    · subst hbc; rw [h1] at h; exact h.symm
    · rcases less_total hbc with h3 | h3
      · have := less_trans h3 h; rw [h1] at this; exact this.symm
      · rw [h2] at h3; cases h3

theorem knowU_inv (hr : netRightB n = true) (old : List Vec) (hl : old.length = n.devices.length) : ∀ m, m ≤ n.ports.length → KnowM n up ranks old (knowU n up ranks old m) m
  | 0, _ => ⟨fun d _ _ => .inl rfl, fun d _ _ => less_irrefl _, fun i j h => absurd h (by omega)⟩
  | m + 1, hm => by
    have ih := knowU_inv hr old hl m (by omega)
    have hlen := knowU_length n up ranks old m
    have hpd := pdev_lt hr (show m < n.ports.length by omega)
    rw [knowU_succ, knowP]
    split
    · rename_i hc
      obtain ⟨j, hj⟩ : ∃ j : Nat, farI n up m = j := ⟨(farI n up m).toNat, by omega⟩
      have hop : Hop n up m j := ⟨by omega, hj⟩
      rw [hj, Int.toNat_natCast] at hc ⊢
      have hset : ∀ d : Int, 0 ≤ d → nth ((knowU n up ranks old m).set (pdev n m).toNat (knowV n ranks old m j)) d = if d = pdev n m then knowV n ranks old m j else nth (knowU n up ranks old m) d := fun d h0 => nth_set hpd.1 (by omega) h0
      have hnew : lessV (nth (knowU n up ranks old m) (pdev n m)) (knowV n ranks old m j) = false := less_asymm hc.2
      refine ⟨fun d h0 h1 => ?_, fun d h0 h1 => ?_, fun i k hi hik => ?_⟩
      · rw [hset d h0]
        by_cases hd : d = pdev n m
        · rw [if_pos hd]; exact .inr ⟨m, j, by omega, hop, hd.symm, rfl⟩
        · rw [if_neg hd]
          rcases ih.shape d h0 h1 with h | ⟨i, k, e1, e2, e3, e4⟩
          · exact .inl h
          · exact .inr ⟨i, k, by omega, e2, e3, e4⟩
      · rw [hset d h0]
        by_cases hd : d = pdev n m
        · rw [if_pos hd, hd]
          exact not_less_trans hnew (ih.was _ hpd.1 hpd.2)
        · rw [if_neg hd]; exact ih.was d h0 h1
      · have hpi := pdev_lt hr hik.1
        rw [hset _ hpi.1]
        by_cases him : i = m
        · subst him
          have : k = j := by have := hik.2; omega
          subst this
          rw [if_pos rfl]; exact less_irrefl _
        · by_cases hd : pdev n i = pdev n m
          · rw [if_pos hd]
            have := ih.cand i k (by omega) hik
            rw [hd] at this
            exact not_less_trans hnew this
          · rw [if_neg hd]; exact ih.cand i k (by omega) hik
    · rename_i hc
      refine ⟨fun d h0 h1 => ?_, ih.was, fun i k hi hik => ?_⟩
      · rcases ih.shape d h0 h1 with h | ⟨i, k, e1, e2, e3, e4⟩
        · exact .inl h
        · exact .inr ⟨i, k, by omega, e2, e3, e4⟩
      · by_cases him : i = m
        · subst him
          cases h : lessV (knowV n ranks old i k) (nth (knowU n up ranks old i) (pdev n i))
          · rfl
          · refine absurd ⟨by rw [hik.2]; omega, ?_⟩ hc
            rw [hik.2, Int.toNat_natCast]
            exact h
        · exact ih.cand i k (by omega) hik

/-- What holds behind each round. -/
structure KnowR (n : Net) (up : List Bool) (ranks roots costs : List Int) (r : Nat) (best : List Vec) : Prop where
  low : ∀ d : Int, 0 ≤ d → d < n.devices.length → Le2 (nth roots d) (nth costs d) (nth best d).root (nth best d).cost
  shape : ∀ d : Int, 0 ≤ d → d < n.devices.length → nth best d = ⟨nth ranks d, 0, nth ranks d, -1, -1⟩ ∨ ∃ (i j : Nat) (x c : Int), Hop n up i j ∧ pdev n i = d ∧ Le2 (nth roots (pdev n j)) (nth costs (pdev n j)) x c ∧ nth best d = ⟨x, c + pcost n i, nth ranks (pdev n j), j, i⟩
  self : ∀ d : Int, 0 ≤ d → d < n.devices.length → lessV ⟨nth ranks d, 0, nth ranks d, -1, -1⟩ (nth best d) = false
  bound : ∀ d : Int, 0 ≤ d → d < n.devices.length → 0 ≤ (nth best d).cost ∧ (nth best d).cost ≤ 65535 * r

theorem know0_nth (hrk : ranks.length = n.devices.length) {d : Int} (h0 : 0 ≤ d) (h1 : d < n.devices.length) : nth (know0 n ranks) d = ⟨nth ranks d, 0, nth ranks d, -1, -1⟩ := by
  rw [nth_eq (by simp [know0]; omega)]
  simp only [know0, List.getElem_map, List.getElem_range, vec0]
  rw [getD_at (by omega), nth_eq (by omega)]

theorem le2_add {a b c d m : Int} (h : Le2 a b c d) : Le2 a (b + m) c (d + m) := by
  unfold Le2 at *
  omega

theorem knowN_inv (S : Solved n up ranks roots costs) (hr : netRightB n = true) (hcost : costsB n = true) (hrk : ranks.length = n.devices.length) : ∀ r, KnowR n up ranks roots costs r (knowN n up ranks r)
  | 0 => by
    refine ⟨fun d h0 h1 => ?_, fun d h0 h1 => ?_, fun d h0 h1 => ?_, fun d h0 h1 => ?_⟩
    · rw [knowN, know0_nth hrk h0 h1]; exact S.self d h0 h1
    · exact .inl (know0_nth hrk h0 h1)
    · rw [knowN, know0_nth hrk h0 h1]; exact less_irrefl _
    · rw [knowN, know0_nth hrk h0 h1]; exact ⟨by simp, by simp⟩
  | r + 1 => by
    have ih := knowN_inv S hr hcost hrk r
    have hM := knowU_inv (up := up) (ranks := ranks) hr (knowN n up ranks r) (knowN_length n up ranks r) n.ports.length (Nat.le_refl _)
    rw [knowN]
    refine ⟨fun d h0 h1 => ?_, fun d h0 h1 => ?_, fun d h0 h1 => not_less_trans (hM.was d h0 h1) (ih.self d h0 h1), fun d h0 h1 => ?_⟩
    · rcases hM.shape d h0 h1 with h | ⟨i, j, _, e2, e3, e4⟩
      · rw [h]; exact ih.low d h0 h1
      · rw [e4]
        have hj := pdev_lt hr (hop_lt hr e2)
        have t1 := S.tri i j e2
        rw [e3] at t1
        exact le2_trans t1 (le2_add (ih.low _ hj.1 hj.2))
    · rcases hM.shape d h0 h1 with h | ⟨i, j, _, e2, e3, e4⟩
      · rw [h]; exact ih.shape d h0 h1
      · have hj := pdev_lt hr (hop_lt hr e2)
        exact .inr ⟨i, j, _, _, e2, e3, ih.low _ hj.1 hj.2, e4⟩
    · rcases hM.shape d h0 h1 with h | ⟨i, j, _, e2, e3, e4⟩
      · rw [h]
        have := ih.bound d h0 h1
        omega
      · rw [e4]
        have hj := pdev_lt hr (hop_lt hr e2)
        have := ih.bound _ hj.1 hj.2
        have := pcost_le hcost e2.1
        simp only [knowV]
        omega

theorem not_less_le2 {a b : Vec} (h : lessV a b = false) : Le2 b.root b.cost a.root a.cost := by
  unfold Le2
  simp only [lessV] at h
  grind

/-- How many devices are at less cost. -/
def dep (n : Net) (costs : List Int) (d : Int) : Nat := (List.range n.devices.length).countP fun e : Nat => decide (nth costs (e : Int) < nth costs d)

theorem dep_lt {a d : Int} (ha : 0 ≤ a ∧ a < n.devices.length) (h : nth costs a < nth costs d) : dep n costs a < dep n costs d := by
  have hmem : a.toNat ∈ List.range n.devices.length := List.mem_range.2 (by omega)
  obtain ⟨l1, l2, hl⟩ := List.append_of_mem hmem
  have ea : ((a.toNat : Nat) : Int) = a := by omega
  simp only [dep, hl, List.countP_append, List.countP_cons, ea, h, Int.lt_irrefl, decide_true, decide_false, if_true, Bool.false_eq_true, if_false]
  have m1 := List.countP_mono_left (l := l1) (p := fun e : Nat => decide (nth costs (e : Int) < nth costs a)) (q := fun e : Nat => decide (nth costs (e : Int) < nth costs d)) (fun x _ hx => by simp only [decide_eq_true_eq] at hx ⊢; omega)
  have m2 := List.countP_mono_left (l := l2) (p := fun e : Nat => decide (nth costs (e : Int) < nth costs a)) (q := fun e : Nat => decide (nth costs (e : Int) < nth costs d)) (fun x _ hx => by simp only [decide_eq_true_eq] at hx ⊢; omega)
  omega
theorem dep_le (d : Int) : dep n costs d ≤ n.devices.length := by
  have := List.countP_le_length (p := fun e : Nat => decide (nth costs (e : Int) < nth costs d)) (l := List.range n.devices.length)
  simpa [dep] using this

theorem knowN_high (S : Solved n up ranks roots costs) (hr : netRightB n = true) (hcost : costsB n = true) (hrk : ranks.length = n.devices.length) : ∀ (r : Nat) (d : Int), 0 ≤ d → d < n.devices.length → dep n costs d ≤ r → Le2 (nth (knowN n up ranks r) d).root (nth (knowN n up ranks r) d).cost (nth roots d) (nth costs d)
  | r, d, h0, h1, hd => by
    rcases S.der d h0 h1 with h | ⟨i, j, e1, e2, e3, e4⟩
    · have := not_less_le2 ((knowN_inv S hr hcost hrk r).self d h0 h1)
      rw [h.1, h.2]
      exact this
    · have hp := pcost_le hcost e1.1
      have hj := pdev_lt hr (hop_lt hr e1)
      have hlt := dep_lt (costs := costs) (d := d) hj (by omega)
      match r with
      | 0 => omega
      | r + 1 =>
        have ih := knowN_high S hr hcost hrk r (pdev n j) hj.1 hj.2 (by omega)
        have hM := knowU_inv (up := up) (ranks := ranks) hr (knowN n up ranks r) (knowN_length n up ranks r) n.ports.length (Nat.le_refl _)
        have hc := not_less_le2 (hM.cand i j e1.1 e1)
        rw [e2] at hc
        rw [e3, e4]
        exact le2_trans hc (le2_add ih)

theorem know_exact (S : Solved n up ranks roots costs) (hr : netRightB n = true) (hcost : costsB n = true) (hrk : ranks.length = n.devices.length) {r : Nat} (hrn : n.devices.length ≤ r) {d : Int} (h0 : 0 ≤ d) (h1 : d < n.devices.length) :
    (nth (knowN n up ranks r) d).root = nth roots d ∧ (nth (knowN n up ranks r) d).cost = nth costs d := by
  have a1 := (knowN_inv S hr hcost hrk r).low d h0 h1
  have a2 := knowN_high S hr hcost hrk r d h0 h1 (Nat.le_trans (dep_le d) hrn)
  unfold Le2 at a1 a2
  omega

/-- What devices know in the end. -/
theorem know_end (S : Solved n up ranks roots costs) (hr : netRightB n = true) (hcost : costsB n = true) (hrk : ranks.length = n.devices.length) {d : Int} (h0 : 0 ≤ d) (h1 : d < n.devices.length) :
    (nth (knowN n up ranks (n.devices.length + 1)) d).root = nth roots d ∧ (nth (knowN n up ranks (n.devices.length + 1)) d).cost = nth costs d ∧ (nth (knowN n up ranks (n.devices.length + 1)) d).own = bestI n up ranks roots costs d := by
  obtain ⟨x1, x2⟩ := know_exact S hr hcost hrk (r := n.devices.length + 1) (by omega) h0 h1
  refine ⟨x1, x2, ?_⟩
  have hI := knowN_inv S hr hcost hrk (n.devices.length + 1)
  have hcb := solved_cost S h0 h1
  by_cases hroot : nth roots d = nth ranks d
  · rw [best_root hroot]
    have hz := solved_zero S h0 h1 hroot
    rcases hI.shape d h0 h1 with h | ⟨i, j, x, c, e1, e2, e3, e4⟩
    · rw [h]
    · exfalso
      have hp := pcost_le hcost e1.1
      have hj := pdev_lt hr (hop_lt hr e1)
      have hrt := solved_root S hr e1
      have hcj := solved_cost S hj.1 hj.2
      rw [e4] at x1 x2
      simp only at x1 x2
      rw [e2] at hrt
      unfold Le2 at e3
      omega
  · obtain ⟨i, j, b1, b2, b3, b4⟩ := best_some S hr h0 h1 hroot
    obtain ⟨j', c1, c2, _, c4⟩ := best_hop b3
    have : j' = j := by have := c1.2; have := b1.2; omega
    subst this
    -- what is known is one of the candidates
    have hmem : nth (knowN n up ranks (n.devices.length + 1)) d ∈ bestL n up ranks roots costs d n.ports.length := by
      rcases hI.shape d h0 h1 with h | ⟨p, q, x, c, e1, e2, e3, e4⟩
      · exfalso
        rw [h] at x1
        exact hroot x1.symm
      · refine best_mem.2 ⟨p, q, e1, e2, ?_⟩
        have hrt := solved_root S hr e1
        have hv := solved_via S hr e1
        rw [e2] at hrt hv
        rw [e4] at x1 x2
        simp only at x1 x2
        have g1 : x = nth roots (pdev n q) := by omega
        have g2 : c = nth costs (pdev n q) := by unfold Le2 at e3; omega
        rw [e4, g1, g2]
    have hle := leastR_le _ _ hmem
    -- and none is ahead of it
    have hM := knowU_inv (up := up) (ranks := ranks) hr (knowN n up ranks n.devices.length) (knowN_length n up ranks n.devices.length) n.ports.length (Nat.le_refl _)
    have hcand := hM.cand i j' b1.1 b1
    have hj := pdev_lt hr (hop_lt hr b1)
    obtain ⟨y1, y2⟩ := know_exact S hr hcost hrk (r := n.devices.length) (Nat.le_refl _) hj.1 hj.2
    rw [knowV, y1, y2, b2] at hcand
    have hcand : lessV ⟨nth roots (pdev n j'), nth costs (pdev n j') + pcost n i, nth ranks (pdev n j'), j', i⟩ (nth (knowN n up ranks (n.devices.length + 1)) d) = false := hcand
    rw [c4] at hle
    rw [b3]
    by_cases he : nth (knowN n up ranks (n.devices.length + 1)) d = ⟨nth roots (pdev n j'), nth costs (pdev n j') + pcost n i, nth ranks (pdev n j'), j', i⟩
    · rw [he]
    · rcases less_total he with h | h
      · rw [hle] at h; cases h
      · rw [hcand] at h; cases h
end
end Go.Sy.YtgfgbdbklikckaaGreat

namespace Go.Sy.YtgfgbdbklikckaaGreat
open Go.Proofs

attribute [local irreducible] Go.Sy.G Go.Sy.DR
set_option maxRecDepth 100000
set_option maxHeartbeats 4000000

/-- The other end of the first link that has this one. -/
def otherI (ls : List Link) (i : Int) : Int := match ls.find? (fun l => l.a == i || l.b == i) with | some l => if l.a = i then l.b else l.a | none => -1

theorem otherS (n : Net) (i : Int) (hl : Short n.links) : Sy.Spec Tryz.prog 33 [netSV n, intSV i] [] (intSV (otherI n.links i)) [] := contract Γ hm 100 F33 Tryz.ntmps33 rfl fun F hF => by
  unfold Short at hl
  ((conv => whnf); repeat (first | (refine ⟨fun (h : false = true) => (Bool.false_ne_true h).elim, fun _ => ?_⟩; ((first | (refine run Γ hm 400 ?_) | (refine runD Γ hm 400 (by kernel_rfl) ?_)); (conv => whnf))) | (refine ⟨fun _ => ?_, fun (h : true = false) => (Bool.false_ne_true h.symm).elim⟩; ((first | (refine run Γ hm 400 ?_) | (refine runD Γ hm 400 (by kernel_rfl) ?_)); (conv => whnf)))))
  refine G_box 2 8 (netSV n) rfl rfl rfl ?_
  refine G_countP n.links.length (fun j => ∀ q (hq : q < n.links.length), q < j → n.links[q].a ≠ i ∧ n.links[q].b ≠ i) (fun j => [(1, intSV i), (2, .ref 8 (netSV n) 0), (5, intSV j)]) (fun _ => []) [] (fun q _ h => absurd h (by omega)) ⟨⟨rfl, rfl, rfl, rfl, rfl, rfl, trivial⟩, trivial, rfl, rfl⟩ ?_
  intro j hj hI
  (((first | (refine run Γ hm 400 ?_) | (refine runD Γ hm 400 (by kernel_rfl) ?_)); (conv => whnf)); repeat (first | (refine ⟨fun (h : false = true) => (Bool.false_ne_true h).elim, fun _ => ?_⟩; ((first | (refine run Γ hm 400 ?_) | (refine runD Γ hm 400 (by kernel_rfl) ?_)); (conv => whnf))) | (refine ⟨fun _ => ?_, fun (h : true = false) => (Bool.false_ne_true h.symm).elim⟩; ((first | (refine run Γ hm 400 ?_) | (refine runD Γ hm 400 (by kernel_rfl) ?_)); (conv => whnf)))))
  refine ⟨fun h => ?_, fun h => ?_⟩
  · have hlt : j < n.links.length := by simpa using h
    have e1 : n.links[(j : Int).toNat]'(by omega) = n.links[j] := rfl
    have hfind : (n.links[j].a = i ∨ n.links[j].b = i) → n.links.find? (fun l => l.a == i || l.b == i) = some n.links[j] := fun h => by
      rw [List.find?_eq_some_iff_getElem]
      refine ⟨by simpa using h, j, hlt, rfl, fun q hq => ?_⟩
      have := hI q (by omega) hq
      simp [this.1, this.2]
    obtain ⟨l, hlk⟩ : ∃ l, n.links[j] = l := ⟨_, rfl⟩
    rw [hlk] at e1 hfind
    (((first | (refine run Γ hm 400 ?_) | (refine runD Γ hm 400 (by kernel_rfl) ?_)); (conv => whnf)); repeat (first | (refine ⟨fun (h : false = true) => (Bool.false_ne_true h).elim, fun _ => ?_⟩; ((first | (refine run Γ hm 400 ?_) | (refine runD Γ hm 400 (by kernel_rfl) ?_)); (conv => whnf))) | (refine ⟨fun _ => ?_, fun (h : true = false) => (Bool.false_ne_true h.symm).elim⟩; ((first | (refine run Γ hm 400 ?_) | (refine runD Γ hm 400 (by kernel_rfl) ?_)); (conv => whnf)))))
    refine ⟨rfl, by omega, by omega, ?_⟩
    rw [e1]
    ((conv => whnf); repeat (first | (refine ⟨fun (h : false = true) => (Bool.false_ne_true h).elim, fun _ => ?_⟩; ((first | (refine run Γ hm 400 ?_) | (refine runD Γ hm 400 (by kernel_rfl) ?_)); (conv => whnf))) | (refine ⟨fun _ => ?_, fun (h : true = false) => (Bool.false_ne_true h.symm).elim⟩; ((first | (refine run Γ hm 400 ?_) | (refine runD Γ hm 400 (by kernel_rfl) ?_)); (conv => whnf)))))
    refine ⟨fun h1 => ?_, fun h1 => ?_⟩
    · have ha : l.a = i := by simpa using h1
      have hres : otherI n.links i = l.b := by rw [otherI, hfind (.inl ha)]; simp [ha]
      rw [hres]
      (((first | (refine run Γ hm 400 ?_) | (refine runD Γ hm 400 (by kernel_rfl) ?_)); (conv => whnf)); repeat (first | (refine ⟨fun (h : false = true) => (Bool.false_ne_true h).elim, fun _ => ?_⟩; ((first | (refine run Γ hm 400 ?_) | (refine runD Γ hm 400 (by kernel_rfl) ?_)); (conv => whnf))) | (refine ⟨fun _ => ?_, fun (h : true = false) => (Bool.false_ne_true h.symm).elim⟩; ((first | (refine run Γ hm 400 ?_) | (refine runD Γ hm 400 (by kernel_rfl) ?_)); (conv => whnf)))))
      refine ⟨rfl, by omega, by omega, ?_⟩
      rw [e1]
      ((conv => whnf); repeat (first | (refine ⟨fun (h : false = true) => (Bool.false_ne_true h).elim, fun _ => ?_⟩; ((first | (refine run Γ hm 400 ?_) | (refine runD Γ hm 400 (by kernel_rfl) ?_)); (conv => whnf))) | (refine ⟨fun _ => ?_, fun (h : true = false) => (Bool.false_ne_true h.symm).elim⟩; ((first | (refine run Γ hm 400 ?_) | (refine runD Γ hm 400 (by kernel_rfl) ?_)); (conv => whnf)))))
      exact done0 rfl (.cons .tmp .nil) rfl rfl
    have ha : ¬ l.a = i := by simpa using h1
    (((first | (refine run Γ hm 400 ?_) | (refine runD Γ hm 400 (by kernel_rfl) ?_)); (conv => whnf)); repeat (first | (refine ⟨fun (h : false = true) => (Bool.false_ne_true h).elim, fun _ => ?_⟩; ((first | (refine run Γ hm 400 ?_) | (refine runD Γ hm 400 (by kernel_rfl) ?_)); (conv => whnf))) | (refine ⟨fun _ => ?_, fun (h : true = false) => (Bool.false_ne_true h.symm).elim⟩; ((first | (refine run Γ hm 400 ?_) | (refine runD Γ hm 400 (by kernel_rfl) ?_)); (conv => whnf)))))
    refine ⟨rfl, by omega, by omega, ?_⟩
    rw [e1]
    ((conv => whnf); repeat (first | (refine ⟨fun (h : false = true) => (Bool.false_ne_true h).elim, fun _ => ?_⟩; ((first | (refine run Γ hm 400 ?_) | (refine runD Γ hm 400 (by kernel_rfl) ?_)); (conv => whnf))) | (refine ⟨fun _ => ?_, fun (h : true = false) => (Bool.false_ne_true h.symm).elim⟩; ((first | (refine run Γ hm 400 ?_) | (refine runD Γ hm 400 (by kernel_rfl) ?_)); (conv => whnf)))))
    refine ⟨fun h2 => ?_, fun h2 => ?_⟩
    · have hb : l.b = i := by simpa using h2
      have hres : otherI n.links i = l.a := by rw [otherI, hfind (.inr hb)]; simp [ha]
      rw [hres]
      (((first | (refine run Γ hm 400 ?_) | (refine runD Γ hm 400 (by kernel_rfl) ?_)); (conv => whnf)); repeat (first | (refine ⟨fun (h : false = true) => (Bool.false_ne_true h).elim, fun _ => ?_⟩; ((first | (refine run Γ hm 400 ?_) | (refine runD Γ hm 400 (by kernel_rfl) ?_)); (conv => whnf))) | (refine ⟨fun _ => ?_, fun (h : true = false) => (Bool.false_ne_true h.symm).elim⟩; ((first | (refine run Γ hm 400 ?_) | (refine runD Γ hm 400 (by kernel_rfl) ?_)); (conv => whnf)))))
      refine ⟨rfl, by omega, by omega, ?_⟩
      rw [e1]
      ((conv => whnf); repeat (first | (refine ⟨fun (h : false = true) => (Bool.false_ne_true h).elim, fun _ => ?_⟩; ((first | (refine run Γ hm 400 ?_) | (refine runD Γ hm 400 (by kernel_rfl) ?_)); (conv => whnf))) | (refine ⟨fun _ => ?_, fun (h : true = false) => (Bool.false_ne_true h.symm).elim⟩; ((first | (refine run Γ hm 400 ?_) | (refine runD Γ hm 400 (by kernel_rfl) ?_)); (conv => whnf)))))
      exact done0 rfl (.cons .tmp .nil) rfl rfl
    have hb : ¬ l.b = i := by simpa using h2
    (((first | (refine run Γ hm 400 ?_) | (refine runD Γ hm 400 (by kernel_rfl) ?_)); (conv => whnf)); repeat (first | (refine ⟨fun (h : false = true) => (Bool.false_ne_true h).elim, fun _ => ?_⟩; ((first | (refine run Γ hm 400 ?_) | (refine runD Γ hm 400 (by kernel_rfl) ?_)); (conv => whnf))) | (refine ⟨fun _ => ?_, fun (h : true = false) => (Bool.false_ne_true h.symm).elim⟩; ((first | (refine run Γ hm 400 ?_) | (refine runD Γ hm 400 (by kernel_rfl) ?_)); (conv => whnf)))))
    refine ⟨by unfold I64; omega, ?_⟩
    ((conv => whnf); repeat (first | (refine ⟨fun (h : false = true) => (Bool.false_ne_true h).elim, fun _ => ?_⟩; ((first | (refine run Γ hm 400 ?_) | (refine runD Γ hm 400 (by kernel_rfl) ?_)); (conv => whnf))) | (refine ⟨fun _ => ?_, fun (h : true = false) => (Bool.false_ne_true h.symm).elim⟩; ((first | (refine run Γ hm 400 ?_) | (refine runD Γ hm 400 (by kernel_rfl) ?_)); (conv => whnf)))))
    refine G_nextP [] hI hlt (fun q hq hqj => ?_) ⟨⟨rfl, rfl, rfl, rfl, rfl, rfl, trivial⟩, trivial, rfl, rfl⟩
    by_cases hqe : q = j
    · subst hqe; rw [hlk]; exact ⟨ha, hb⟩
    · exact hI q hq (by omega)
  · have hres : otherI n.links i = -1 := by
      have : ¬ j < n.links.length := by simpa using h
      rw [otherI, List.find?_eq_none.2]
      intro x hx
      obtain ⟨q, hq, rfl⟩ := List.getElem_of_mem hx
      have := hI q hq (by omega)
      simp [this.1, this.2]
    rw [hres]
    (((first | (refine run Γ hm 400 ?_) | (refine runD Γ hm 400 (by kernel_rfl) ?_)); (conv => whnf)); repeat (first | (refine ⟨fun (h : false = true) => (Bool.false_ne_true h).elim, fun _ => ?_⟩; ((first | (refine run Γ hm 400 ?_) | (refine runD Γ hm 400 (by kernel_rfl) ?_)); (conv => whnf))) | (refine ⟨fun _ => ?_, fun (h : true = false) => (Bool.false_ne_true h.symm).elim⟩; ((first | (refine run Γ hm 400 ?_) | (refine runD Γ hm 400 (by kernel_rfl) ?_)); (conv => whnf)))))
    exact done0 rfl (.cons .tmp .nil) rfl rfl

/-- In a net that may be. -/
theorem other_far {n : Net} {up : List Bool} (hr : netRightB n = true) {i : Nat} (hi : i < n.ports.length) (h0 : n.ports[i].link ≠ -1) (hu : up.getD n.ports[i].link.toNat false = true) : otherI n.links i = farI n up i := by
  have hpl := port_link hr hi
  obtain ⟨j, hj, hf, hsum⟩ := far_up (up := up) hr hi (by omega) hu
  have hop : Hop n up i j := ⟨hi, hf⟩
  obtain ⟨k, hk, h1, h2, h3, h4, hne⟩ := hop_facts hr hop
  rw [hf]
  have hall : ∀ q (hq : q < n.links.length), (n.links[q].a = i ∨ n.links[q].b = i) → q = k := fun q hq h => by
    have hlq := right_link hr hq
    simp only [linkB, Bool.and_eq_true, beq_iff_eq, bne_iff_ne] at hlq
    rcases h with h | h
    · rw [h] at hlq; have := hlq.1.2; omega
    · rw [h] at hlq; have := hlq.2; omega
  have hij : (i : Int) ≠ j := fun h => hne (by have : i = j := by omega
                                               rw [this])
  rw [nth_eq (l := n.links) (i := (k : Int)) (by simpa using hk)] at h4
  simp only [Int.toNat_natCast] at h4
  have hfind : n.links.find? (fun l => l.a == (i : Int) || l.b == (i : Int)) = some n.links[k] := by
    rw [List.find?_eq_some_iff_getElem]
    refine ⟨?_, k, hk, rfl, fun q hq => ?_⟩
    · rcases h4 with h4 | h4 <;> simp [h4.1, h4.2]
    · have hn : ¬ (n.links[q].a = i ∨ n.links[q].b = i) := fun h => by have := hall q (by omega) h; omega
      simpa using hn
  rw [otherI, hfind]
  simp only
  rcases h4 with h4 | h4
  · rw [if_pos h4.1, h4.2]
  · rw [if_neg (by rw [h4.1]; omega), h4.1]

def knowTL (n : Net) (up : List Bool) (ranks : List Int) (x : SV) : List SV := [.sl 5 deviceSV n.devices, .sl 7 portSV n.ports, .sl 3 linkSV n.links, .sl 6 domainSV n.domains, .sl 4 staticSV n.statics, .sl 4 floodSV n.floods, .sl 5 vrfSV n.vrfs, .sl 5 irbSV n.irbs, .sl 1 boolSV up, .sl 1 intSV ranks, x]
def knowO (n : Net) (up : List Bool) (ranks : List Int) (best : List Vec) : Obs := [(0, .box (knowTL n up ranks (.osl 1))), (1, .row 5 vecSV best)]
def knowSV (n : Net) (up : List Bool) (ranks : List Int) (best : List Vec) : SV := .ref 11 (.agg (knowTL n up ranks (.sl 5 vecSV best))) 0

theorem refFarO (n : Net) (up : List Bool) (ranks : List Int) (best : List Vec) (i : Nat) (hr : netRightB n = true) (hu : up.length = n.links.length) (hi : i < n.ports.length) :
    Sy.Spec Tryz.prog 20 [.ptr 0 0, intSV i] (knowO n up ranks best) (intSV (farI n up i)) (knowO n up ranks best) := contract Γ hm 100 F20 Tryz.ntmps20 rfl fun F hF => by
  have hpl := port_link hr hi
  have hf := right_few hr
  have e1 : n.ports[(i : Int).toNat]'(by omega) = n.ports[i] := rfl
  have hof := other_far (up := up) hr hi
  have hfar : farI n up i = if n.ports[i].link < 0 || !(up.getD n.ports[i].link.toNat false) then -1 else (nth n.links n.ports[i].link).a + (nth n.links n.ports[i].link).b - i := by
    rw [farI, getD_at hi]
  have hos := otherS n i (by unfold Short; omega)
  generalize farI n up i = f at *
  ((conv => whnf); repeat (first | (refine ⟨fun (h : false = true) => (Bool.false_ne_true h).elim, fun _ => ?_⟩; ((first | (refine run Γ hm 400 ?_) | (refine runD Γ hm 400 (by kernel_rfl) ?_)); (conv => whnf))) | (refine ⟨fun _ => ?_, fun (h : true = false) => (Bool.false_ne_true h.symm).elim⟩; ((first | (refine run Γ hm 400 ?_) | (refine runD Γ hm 400 (by kernel_rfl) ?_)); (conv => whnf)))))
  refine ⟨rfl, by omega, by omega, ?_⟩
  ((conv => whnf); repeat (first | (refine ⟨fun (h : false = true) => (Bool.false_ne_true h).elim, fun _ => ?_⟩; ((first | (refine run Γ hm 400 ?_) | (refine runD Γ hm 400 (by kernel_rfl) ?_)); (conv => whnf))) | (refine ⟨fun _ => ?_, fun (h : true = false) => (Bool.false_ne_true h.symm).elim⟩; ((first | (refine run Γ hm 400 ?_) | (refine runD Γ hm 400 (by kernel_rfl) ?_)); (conv => whnf)))))
  refine ⟨fun h => ?_, fun h => ?_⟩
  · have h1 : n.ports[i].link = -1 := by simpa using h
    rw [h1] at hfar
    have hfr : f = -1 := hfar
    (((first | (refine run Γ hm 400 ?_) | (refine runD Γ hm 400 (by kernel_rfl) ?_)); (conv => whnf)); repeat (first | (refine ⟨fun (h : false = true) => (Bool.false_ne_true h).elim, fun _ => ?_⟩; ((first | (refine run Γ hm 400 ?_) | (refine runD Γ hm 400 (by kernel_rfl) ?_)); (conv => whnf))) | (refine ⟨fun _ => ?_, fun (h : true = false) => (Bool.false_ne_true h.symm).elim⟩; ((first | (refine run Γ hm 400 ?_) | (refine runD Γ hm 400 (by kernel_rfl) ?_)); (conv => whnf)))))
    refine ⟨(by kernel_rfl), ?_⟩
    ((conv => whnf); repeat (first | (refine ⟨fun (h : false = true) => (Bool.false_ne_true h).elim, fun _ => ?_⟩; ((first | (refine run Γ hm 400 ?_) | (refine runD Γ hm 400 (by kernel_rfl) ?_)); (conv => whnf))) | (refine ⟨fun _ => ?_, fun (h : true = false) => (Bool.false_ne_true h.symm).elim⟩; ((first | (refine run Γ hm 400 ?_) | (refine runD Γ hm 400 (by kernel_rfl) ?_)); (conv => whnf)))))
    refine done rfl (.cons .tmp .nil) [] (knowO n up ranks best) (fun _ h => h) ?_ rfl ⟨trivial, ⟨.inl rfl, rfl, .inl rfl, rfl, trivial⟩, rfl, rfl⟩
    exact congrArg intSV hfr
  have h1 : ¬ n.ports[i].link = -1 := by simpa using h
  have hlk : n.ports[i].link.toNat < up.length := by omega
  have hof := hof h1
  rw [getD_at hlk] at hof hfar
  (((first | (refine run Γ hm 400 ?_) | (refine runD Γ hm 400 (by kernel_rfl) ?_)); (conv => whnf)); repeat (first | (refine ⟨fun (h : false = true) => (Bool.false_ne_true h).elim, fun _ => ?_⟩; ((first | (refine run Γ hm 400 ?_) | (refine runD Γ hm 400 (by kernel_rfl) ?_)); (conv => whnf))) | (refine ⟨fun _ => ?_, fun (h : true = false) => (Bool.false_ne_true h.symm).elim⟩; ((first | (refine run Γ hm 400 ?_) | (refine runD Γ hm 400 (by kernel_rfl) ?_)); (conv => whnf)))))
  refine ⟨rfl, by omega, by omega, ?_⟩
  ((conv => whnf); repeat (first | (refine ⟨fun (h : false = true) => (Bool.false_ne_true h).elim, fun _ => ?_⟩; ((first | (refine run Γ hm 400 ?_) | (refine runD Γ hm 400 (by kernel_rfl) ?_)); (conv => whnf))) | (refine ⟨fun _ => ?_, fun (h : true = false) => (Bool.false_ne_true h.symm).elim⟩; ((first | (refine run Γ hm 400 ?_) | (refine runD Γ hm 400 (by kernel_rfl) ?_)); (conv => whnf)))))
  refine ⟨rfl, by simp only [Int.toNat_natCast]; omega, by simp only [Int.toNat_natCast]; omega, ?_⟩
  ((conv => whnf); repeat (first | (refine ⟨fun (h : false = true) => (Bool.false_ne_true h).elim, fun _ => ?_⟩; ((first | (refine run Γ hm 400 ?_) | (refine runD Γ hm 400 (by kernel_rfl) ?_)); (conv => whnf))) | (refine ⟨fun _ => ?_, fun (h : true = false) => (Bool.false_ne_true h.symm).elim⟩; ((first | (refine run Γ hm 400 ?_) | (refine runD Γ hm 400 (by kernel_rfl) ?_)); (conv => whnf)))))
  refine ⟨(by kernel_rfl), ?_⟩
  ((conv => whnf); repeat (first | (refine ⟨fun (h : false = true) => (Bool.false_ne_true h).elim, fun _ => ?_⟩; ((first | (refine run Γ hm 400 ?_) | (refine runD Γ hm 400 (by kernel_rfl) ?_)); (conv => whnf))) | (refine ⟨fun _ => ?_, fun (h : true = false) => (Bool.false_ne_true h.symm).elim⟩; ((first | (refine run Γ hm 400 ?_) | (refine runD Γ hm 400 (by kernel_rfl) ?_)); (conv => whnf)))))
  refine ⟨fun h2 => ?_, fun h2 => ?_⟩
  · have h3 : up[n.ports[i].link.toNat] = false := by simpa using h2
    rw [h3] at hfar
    have hfr : f = -1 := by simpa using hfar
    (((first | (refine run Γ hm 400 ?_) | (refine runD Γ hm 400 (by kernel_rfl) ?_)); (conv => whnf)); repeat (first | (refine ⟨fun (h : false = true) => (Bool.false_ne_true h).elim, fun _ => ?_⟩; ((first | (refine run Γ hm 400 ?_) | (refine runD Γ hm 400 (by kernel_rfl) ?_)); (conv => whnf))) | (refine ⟨fun _ => ?_, fun (h : true = false) => (Bool.false_ne_true h.symm).elim⟩; ((first | (refine run Γ hm 400 ?_) | (refine runD Γ hm 400 (by kernel_rfl) ?_)); (conv => whnf)))))
    refine done rfl (.cons .tmp .nil) [] (knowO n up ranks best) (fun _ h => h) ?_ rfl ⟨trivial, ⟨.inl rfl, rfl, .inl rfl, rfl, trivial⟩, rfl, rfl⟩
    exact congrArg intSV hfr
  · have h3 : up[n.ports[i].link.toNat] = true := by simpa using h2
    rw [hof h3] at hos
    (((first | (refine run Γ hm 400 ?_) | (refine runD Γ hm 400 (by kernel_rfl) ?_)); (conv => whnf)); repeat (first | (refine ⟨fun (h : false = true) => (Bool.false_ne_true h).elim, fun _ => ?_⟩; ((first | (refine run Γ hm 400 ?_) | (refine runD Γ hm 400 (by kernel_rfl) ?_)); (conv => whnf))) | (refine ⟨fun _ => ?_, fun (h : true = false) => (Bool.false_ne_true h.symm).elim⟩; ((first | (refine run Γ hm 400 ?_) | (refine runD Γ hm 400 (by kernel_rfl) ?_)); (conv => whnf)))))
    refine call0 hos F33 rfl rfl rfl rfl rfl ?_
    (((first | (refine run Γ hm 400 ?_) | (refine runD Γ hm 400 (by kernel_rfl) ?_)); (conv => whnf)); repeat (first | (refine ⟨fun (h : false = true) => (Bool.false_ne_true h).elim, fun _ => ?_⟩; ((first | (refine run Γ hm 400 ?_) | (refine runD Γ hm 400 (by kernel_rfl) ?_)); (conv => whnf))) | (refine ⟨fun _ => ?_, fun (h : true = false) => (Bool.false_ne_true h.symm).elim⟩; ((first | (refine run Γ hm 400 ?_) | (refine runD Γ hm 400 (by kernel_rfl) ?_)); (conv => whnf)))))
    exact done rfl (.cons .tmp .nil) [] (knowO n up ranks best) (fun _ h => h) rfl rfl ⟨trivial, ⟨.inl rfl, rfl, .inl rfl, rfl, trivial⟩, rfl, rfl⟩

theorem refFarS (n : Net) (up : List Bool) (ranks : List Int) (best : List Vec) (i : Nat) (hr : netRightB n = true) (hu : up.length = n.links.length) (hi : i < n.ports.length) :
    Sy.Spec Tryz.prog 20 [knowSV n up ranks best, intSV i] [] (intSV (farI n up i)) [] := contract Γ hm 100 F20 Tryz.ntmps20 rfl fun F hF => by
  have hpl := port_link hr hi
  have hf := right_few hr
  have e1 : n.ports[(i : Int).toNat]'(by omega) = n.ports[i] := rfl
  have hof := other_far (up := up) hr hi
  have hfar : farI n up i = if n.ports[i].link < 0 || !(up.getD n.ports[i].link.toNat false) then -1 else (nth n.links n.ports[i].link).a + (nth n.links n.ports[i].link).b - i := by
    rw [farI, getD_at hi]
  have hos := otherS n i (by unfold Short; omega)
  generalize farI n up i = f at *
  ((conv => whnf); repeat (first | (refine ⟨fun (h : false = true) => (Bool.false_ne_true h).elim, fun _ => ?_⟩; ((first | (refine run Γ hm 400 ?_) | (refine runD Γ hm 400 (by kernel_rfl) ?_)); (conv => whnf))) | (refine ⟨fun _ => ?_, fun (h : true = false) => (Bool.false_ne_true h.symm).elim⟩; ((first | (refine run Γ hm 400 ?_) | (refine runD Γ hm 400 (by kernel_rfl) ?_)); (conv => whnf)))))
  refine ⟨rfl, by omega, by omega, ?_⟩
  ((conv => whnf); repeat (first | (refine ⟨fun (h : false = true) => (Bool.false_ne_true h).elim, fun _ => ?_⟩; ((first | (refine run Γ hm 400 ?_) | (refine runD Γ hm 400 (by kernel_rfl) ?_)); (conv => whnf))) | (refine ⟨fun _ => ?_, fun (h : true = false) => (Bool.false_ne_true h.symm).elim⟩; ((first | (refine run Γ hm 400 ?_) | (refine runD Γ hm 400 (by kernel_rfl) ?_)); (conv => whnf)))))
  refine ⟨fun h => ?_, fun h => ?_⟩
  · have h1 : n.ports[i].link = -1 := by simpa using h
    rw [h1] at hfar
    have hfr : f = -1 := hfar
    (((first | (refine run Γ hm 400 ?_) | (refine runD Γ hm 400 (by kernel_rfl) ?_)); (conv => whnf)); repeat (first | (refine ⟨fun (h : false = true) => (Bool.false_ne_true h).elim, fun _ => ?_⟩; ((first | (refine run Γ hm 400 ?_) | (refine runD Γ hm 400 (by kernel_rfl) ?_)); (conv => whnf))) | (refine ⟨fun _ => ?_, fun (h : true = false) => (Bool.false_ne_true h.symm).elim⟩; ((first | (refine run Γ hm 400 ?_) | (refine runD Γ hm 400 (by kernel_rfl) ?_)); (conv => whnf)))))
    refine ⟨(by kernel_rfl), ?_⟩
    ((conv => whnf); repeat (first | (refine ⟨fun (h : false = true) => (Bool.false_ne_true h).elim, fun _ => ?_⟩; ((first | (refine run Γ hm 400 ?_) | (refine runD Γ hm 400 (by kernel_rfl) ?_)); (conv => whnf))) | (refine ⟨fun _ => ?_, fun (h : true = false) => (Bool.false_ne_true h.symm).elim⟩; ((first | (refine run Γ hm 400 ?_) | (refine runD Γ hm 400 (by kernel_rfl) ?_)); (conv => whnf)))))
    refine done0 rfl (.cons .tmp .nil) ?_ rfl
    exact congrArg intSV hfr
  have h1 : ¬ n.ports[i].link = -1 := by simpa using h
  have hlk : n.ports[i].link.toNat < up.length := by omega
  have hof := hof h1
  rw [getD_at hlk] at hof hfar
  (((first | (refine run Γ hm 400 ?_) | (refine runD Γ hm 400 (by kernel_rfl) ?_)); (conv => whnf)); repeat (first | (refine ⟨fun (h : false = true) => (Bool.false_ne_true h).elim, fun _ => ?_⟩; ((first | (refine run Γ hm 400 ?_) | (refine runD Γ hm 400 (by kernel_rfl) ?_)); (conv => whnf))) | (refine ⟨fun _ => ?_, fun (h : true = false) => (Bool.false_ne_true h.symm).elim⟩; ((first | (refine run Γ hm 400 ?_) | (refine runD Γ hm 400 (by kernel_rfl) ?_)); (conv => whnf)))))
  refine ⟨rfl, by omega, by omega, ?_⟩
  ((conv => whnf); repeat (first | (refine ⟨fun (h : false = true) => (Bool.false_ne_true h).elim, fun _ => ?_⟩; ((first | (refine run Γ hm 400 ?_) | (refine runD Γ hm 400 (by kernel_rfl) ?_)); (conv => whnf))) | (refine ⟨fun _ => ?_, fun (h : true = false) => (Bool.false_ne_true h.symm).elim⟩; ((first | (refine run Γ hm 400 ?_) | (refine runD Γ hm 400 (by kernel_rfl) ?_)); (conv => whnf)))))
  refine ⟨rfl, by simp only [Int.toNat_natCast]; omega, by simp only [Int.toNat_natCast]; omega, ?_⟩
  ((conv => whnf); repeat (first | (refine ⟨fun (h : false = true) => (Bool.false_ne_true h).elim, fun _ => ?_⟩; ((first | (refine run Γ hm 400 ?_) | (refine runD Γ hm 400 (by kernel_rfl) ?_)); (conv => whnf))) | (refine ⟨fun _ => ?_, fun (h : true = false) => (Bool.false_ne_true h.symm).elim⟩; ((first | (refine run Γ hm 400 ?_) | (refine runD Γ hm 400 (by kernel_rfl) ?_)); (conv => whnf)))))
  refine ⟨(by kernel_rfl), ?_⟩
  ((conv => whnf); repeat (first | (refine ⟨fun (h : false = true) => (Bool.false_ne_true h).elim, fun _ => ?_⟩; ((first | (refine run Γ hm 400 ?_) | (refine runD Γ hm 400 (by kernel_rfl) ?_)); (conv => whnf))) | (refine ⟨fun _ => ?_, fun (h : true = false) => (Bool.false_ne_true h.symm).elim⟩; ((first | (refine run Γ hm 400 ?_) | (refine runD Γ hm 400 (by kernel_rfl) ?_)); (conv => whnf)))))
  refine ⟨fun h2 => ?_, fun h2 => ?_⟩
  · have h3 : up[n.ports[i].link.toNat] = false := by simpa using h2
    rw [h3] at hfar
    have hfr : f = -1 := by simpa using hfar
    (((first | (refine run Γ hm 400 ?_) | (refine runD Γ hm 400 (by kernel_rfl) ?_)); (conv => whnf)); repeat (first | (refine ⟨fun (h : false = true) => (Bool.false_ne_true h).elim, fun _ => ?_⟩; ((first | (refine run Γ hm 400 ?_) | (refine runD Γ hm 400 (by kernel_rfl) ?_)); (conv => whnf))) | (refine ⟨fun _ => ?_, fun (h : true = false) => (Bool.false_ne_true h.symm).elim⟩; ((first | (refine run Γ hm 400 ?_) | (refine runD Γ hm 400 (by kernel_rfl) ?_)); (conv => whnf)))))
    refine done0 rfl (.cons .tmp .nil) ?_ rfl
    exact congrArg intSV hfr
  · have h3 : up[n.ports[i].link.toNat] = true := by simpa using h2
    rw [hof h3] at hos
    (((first | (refine run Γ hm 400 ?_) | (refine runD Γ hm 400 (by kernel_rfl) ?_)); (conv => whnf)); repeat (first | (refine ⟨fun (h : false = true) => (Bool.false_ne_true h).elim, fun _ => ?_⟩; ((first | (refine run Γ hm 400 ?_) | (refine runD Γ hm 400 (by kernel_rfl) ?_)); (conv => whnf))) | (refine ⟨fun _ => ?_, fun (h : true = false) => (Bool.false_ne_true h.symm).elim⟩; ((first | (refine run Γ hm 400 ?_) | (refine runD Γ hm 400 (by kernel_rfl) ?_)); (conv => whnf)))))
    refine call0 hos F33 rfl rfl rfl rfl rfl ?_
    (((first | (refine run Γ hm 400 ?_) | (refine runD Γ hm 400 (by kernel_rfl) ?_)); (conv => whnf)); repeat (first | (refine ⟨fun (h : false = true) => (Bool.false_ne_true h).elim, fun _ => ?_⟩; ((first | (refine run Γ hm 400 ?_) | (refine runD Γ hm 400 (by kernel_rfl) ?_)); (conv => whnf))) | (refine ⟨fun _ => ?_, fun (h : true = false) => (Bool.false_ne_true h.symm).elim⟩; ((first | (refine run Γ hm 400 ?_) | (refine runD Γ hm 400 (by kernel_rfl) ?_)); (conv => whnf)))))
    exact done0 rfl (.cons .tmp .nil) rfl rfl
end Go.Sy.YtgfgbdbklikckaaGreat
