/-
  Contracts: join, places (palinglaw25). Contracts: tree.Roles, tree.Forward, tree.Costs. What the document's devices know in the end: the roots and costs that no link betters, and the best ports.
-/
import Derived.Test.YthbgklhegccckaaGreatC13

namespace Go.Sy.YthbgklhegccckaaGreat
open Go.Proofs

attribute [local irreducible] Go.Sy.G Go.Sy.DR
set_option maxRecDepth 100000
set_option maxHeartbeats 4000000

/-- Joined so far. -/
def joinU (l : List Int) (x y : Int) (j : Nat) : List Int := joinL (l.take j) x y ++ l.drop j
theorem joinU_length (l : List Int) (x y : Int) (j : Nat) : (joinU l x y j).length = l.length := by simp [joinU, joinL]; omega
theorem joinU_get (l : List Int) (x y : Int) (j : Nat) (h : j < l.length) : (joinU l x y j)[j]'(by rw [joinU_length]; exact h) = l[j] := by
  simp only [joinU]
  rw [List.getElem_append_right (by simp [joinL]; omega)]
  simp [joinL, List.length_take, Nat.min_eq_left (Nat.le_of_lt h)]
theorem joinU_all (l : List Int) (x y : Int) : joinU l x y l.length = joinL l x y := by simp [joinU]
theorem joinU_zero (l : List Int) (x y : Int) : joinU l x y 0 = l := by simp [joinU, joinL]
theorem joinU_succ (l : List Int) (x y : Int) (j : Nat) (h : j < l.length) : joinU l x y (j + 1) = if l[j] = x then (joinU l x y j).set j y else joinU l x y j := by
  have e : joinL (l.take (j + 1)) x y = joinL (l.take j) x y ++ [if l[j] = x then y else l[j]] := by
    simp only [joinL, List.take_succ_eq_append_getElem h, List.map_append, List.map_cons, List.map_nil]
  have ed : l.drop j = l[j] :: l.drop (j + 1) := List.drop_eq_getElem_cons h
  have el : (joinL (l.take j) x y).length = j := by simp [joinL]; omega
  rw [joinU, e, joinU]
  rw [ed]
  split
  · rw [List.set_append_right _ _ (by omega), el, Nat.sub_self]
    simp
    rw [ed, List.set_cons_zero]
  · simp
end Go.Sy.YthbgklhegccckaaGreat

namespace Go.Sy.YthbgklhegccckaaGreat
open Go.Proofs

attribute [local irreducible] Go.Sy.G Go.Sy.DR
set_option maxRecDepth 100000
set_option maxHeartbeats 4000000

theorem tree_solved {n : Net} {up : List Bool} (h : okB n up = true) : Solved n up (ranksL n) (rootsT n up) (costsT n up) := by
  obtain ⟨hu, hr, hcost⟩ := ok_iff.1 h
  exact reachT_solved n up (ranksL n) hr hcost (ranksL_length n) (fun r h => (ranks_range n r h).1)

def rolesT (n : Net) (up : List Bool) : List Int := rolesL n up (ranksL n) (rootsT n up) (costsT n up)
def fwdT (n : Net) (up : List Bool) : List Bool := fwdL n (rolesT n up)
theorem rolesT_length (n : Net) (up : List Bool) : (rolesT n up).length = n.ports.length := rolesB_length ..

theorem openRolesS (n : Net) (up : List Bool) (h : okB n up = true) : Sy.Spec Tryz.prog 24 [openSV n up] [] (.sl 1 intSV (rolesT n up)) [] := by
  obtain ⟨hu, hr, hcost⟩ := ok_iff.1 h
  have S := tree_solved h
  exact rolesS n up (ranksL n) (rootsT n up) (costsT n up) hr hu hcost (ranksL_length n) S.rootsL S.costsL (fun c hc => by have := S.bound c hc; omega)

theorem treeRolesBad (n : Net) (up : List Bool) (hn : n.Fin) (h : okB n up = false) : Sy.Spec Tryz.prog 11 [netSV n, .sl 1 boolSV up] [] (.tup [.sl 1 intSV [], intSV 2]) [] := contract Γ hm 100 F11 Tryz.ntmps11 rfl fun F hF => by
  ((conv => whnf); repeat ((first | refine aF ?_ | refine aT ?_); (first | refine run Γ hm 400 ?_ | refine runD Γ hm 400 (by kernel_rfl) ?_); conv => whnf))
  refine call0 (openBad n up hn h) F23 rfl rfl rfl rfl rfl ?_
  ((first | refine run Γ hm 400 ?_ | refine runD Γ hm 400 (by kernel_rfl) ?_); (conv => whnf); repeat ((first | refine aF ?_ | refine aT ?_); (first | refine run Γ hm 400 ?_ | refine runD Γ hm 400 (by kernel_rfl) ?_); conv => whnf))
  refine G_nilsl 4 1 intSV rfl ?_
  exact done0 rfl (.cons .tmp (.cons .tmp .nil)) rfl rfl

theorem treeRolesOK (n : Net) (up : List Bool) (hn : n.Fin) (h : okB n up = true) : Sy.Spec Tryz.prog 11 [netSV n, .sl 1 boolSV up] [] (.tup [.sl 1 intSV (rolesT n up), intSV 0]) [] := contract Γ hm 100 F11 Tryz.ntmps11 rfl fun F hF => by
  obtain ⟨hu, hr, hcost⟩ := ok_iff.1 h
  have ho := openOK n up hn hu hr hcost
  have hro := openRolesS n up h
  generalize rolesT n up = roles at *
  unfold openSV at ho hro
  generalize ranksL n = ranks at *
  generalize rootsT n up = roots at *
  generalize costsT n up = costs at *
  ((conv => whnf); repeat ((first | refine aF ?_ | refine aT ?_); (first | refine run Γ hm 400 ?_ | refine runD Γ hm 400 (by kernel_rfl) ?_); conv => whnf))
  refine call0 ho F23 rfl rfl rfl rfl rfl ?_
  ((first | refine run Γ hm 400 ?_ | refine runD Γ hm 400 (by kernel_rfl) ?_); (conv => whnf); repeat ((first | refine aF ?_ | refine aT ?_); (first | refine run Γ hm 400 ?_ | refine runD Γ hm 400 (by kernel_rfl) ?_); conv => whnf))
  refine call0 hro F24 rfl rfl rfl rfl rfl ?_
  ((first | refine run Γ hm 400 ?_ | refine runD Γ hm 400 (by kernel_rfl) ?_); (conv => whnf); repeat ((first | refine aF ?_ | refine aT ?_); (first | refine run Γ hm 400 ?_ | refine runD Γ hm 400 (by kernel_rfl) ?_); conv => whnf))
  exact done0 rfl (.cons .tmp (.cons .tmp .nil)) rfl rfl

/-- Which links forward, of those looked at so far. -/
def fwdU (n : Net) (roles : List Int) (j : Nat) : List Bool := (n.links.take j).map (fwdB roles) ++ List.replicate (n.links.length - j) false
theorem fwdU_zero (n : Net) (roles : List Int) : fwdU n roles 0 = List.replicate n.links.length false := by simp [fwdU]
theorem fwdU_all (n : Net) (roles : List Int) : fwdU n roles n.links.length = fwdL n roles := by simp [fwdU, fwdL]
theorem fwdU_length (n : Net) (roles : List Int) (j : Nat) (h : j ≤ n.links.length) : (fwdU n roles j).length = n.links.length := by simp [fwdU]; omega
theorem fwdU_succ (n : Net) (roles : List Int) (j : Nat) (h : j < n.links.length) : fwdU n roles (j + 1) = (fwdU n roles j).set j (fwdB roles n.links[j]) := by
  have e : n.links.length - j = (n.links.length - (j + 1)) + 1 := by omega
  have el : ((n.links.take j).map (fwdB roles)).length = j := by simp; omega
  rw [fwdU, fwdU, List.set_append_right _ _ (by omega), el, Nat.sub_self, List.take_succ_eq_append_getElem h, List.map_append, e, List.replicate_succ, List.set_cons_zero]
  simp

/-- Whose rank a root is. -/
def ownerT (n : Net) (up : List Bool) : List Int := (rootsT n up).map fun r => idxI (· == r) (ranksL n)
end Go.Sy.YthbgklhegccckaaGreat

namespace Go.Sy.YthbgklhegccckaaGreat

instance : Inhabited Vec := ⟨⟨0, 0, 0, 0, 0⟩⟩

def vec0 (ranks : List Int) (d : Nat) : Vec := ⟨ranks.getD d 0, 0, ranks.getD d 0, -1, -1⟩
def know0 (n : Net) (ranks : List Int) : List Vec := (List.range n.devices.length).map (vec0 ranks)

/-- What a port tells, of what was known. -/
def knowV (n : Net) (ranks : List Int) (old : List Vec) (i j : Nat) : Vec := ⟨(nth old (pdev n j)).root, (nth old (pdev n j)).cost + pcost n i, nth ranks (pdev n j), j, i⟩
def knowP (n : Net) (up : List Bool) (ranks : List Int) (old best : List Vec) (i : Nat) : List Vec :=
  if 0 ≤ farI n up i ∧ lessV (knowV n ranks old i (farI n up i).toNat) (nth best (pdev n i)) = true then best.set (pdev n i).toNat (knowV n ranks old i (farI n up i).toNat) else best
def knowU (n : Net) (up : List Bool) (ranks : List Int) (old : List Vec) (m : Nat) : List Vec := (List.range m).foldl (knowP n up ranks old) old
theorem knowU_succ (n : Net) (up : List Bool) (ranks : List Int) (old : List Vec) (m : Nat) : knowU n up ranks old (m + 1) = knowP n up ranks old (knowU n up ranks old m) m := by
  rw [knowU, List.range_succ, List.foldl_append]; rfl
def knowN (n : Net) (up : List Bool) (ranks : List Int) : Nat → List Vec
  | 0 => know0 n ranks
  | r + 1 => knowU n up ranks (knowN n up ranks r) n.ports.length

theorem knowP_length (n : Net) (up : List Bool) (ranks : List Int) (old best : List Vec) (i : Nat) : (knowP n up ranks old best i).length = best.length := by
  rw [knowP]; split
  · rw [List.length_set]
  · rfl
theorem knowU_length (n : Net) (up : List Bool) (ranks : List Int) (old : List Vec) : ∀ m, (knowU n up ranks old m).length = old.length
  | 0 => rfl
  | m + 1 => by rw [knowU_succ, knowP_length, knowU_length n up ranks old m]
theorem knowN_length (n : Net) (up : List Bool) (ranks : List Int) : ∀ r, (knowN n up ranks r).length = n.devices.length
  | 0 => by simp [knowN, know0]
  | r + 1 => by rw [knowN, knowU_length, knowN_length n up ranks r]

theorem nth_set {α : Type} [Inhabited α] {l : List α} {a b : Int} {v : α} (h0 : 0 ≤ a) (h1 : a < l.length) (hb : 0 ≤ b) : nth (l.set a.toNat v) b = if b = a then v else nth l b := by
  rw [nth, nth, List.getElem?_set]
  by_cases h : b = a
  · subst h
    rw [if_pos rfl, if_pos rfl, if_pos (by omega)]
    rfl
  · rw [if_neg (by omega), if_neg h]

section
variable {n : Net} {up : List Bool} {ranks roots costs : List Int}

/-- Each is what its device is by itself, or what a port told of some round before; none is better than what was there. -/
structure KnowM (n : Net) (up : List Bool) (ranks : List Int) (old best : List Vec) (m : Nat) : Prop where
  shape : ∀ d : Int, 0 ≤ d → d < n.devices.length → nth best d = nth old d ∨ ∃ i j : Nat, i < m ∧ Hop n up i j ∧ pdev n i = d ∧ nth best d = knowV n ranks old i j
  was : ∀ d : Int, 0 ≤ d → d < n.devices.length → lessV (nth old d) (nth best d) = false
  cand : ∀ i j : Nat, i < m → Hop n up i j → lessV (knowV n ranks old i j) (nth best (pdev n i)) = false

theorem not_less_trans {a b c : Vec} (h1 : lessV b a = false) (h2 : lessV c b = false) : lessV c a = false := by
  cases h : lessV c a
  · rfl
  · by_cases hbc : b = c
    · subst hbc; rw [h1] at h; exact h.symm
    · rcases less_total hbc with h3 | h3
      · have := less_trans h3 h; rw [h1] at this; exact this.symm
      · rw [h2] at h3; cases h3

theorem knowU_inv (hr : netRightB n = true) (old : List Vec) (hl : old.length = n.devices.length) : ∀ m, m ≤ n.ports.length → KnowM n up ranks old (knowU n up ranks old m) m
  | 0, _ => ⟨fun d _ _ => .inl rfl, fun d _ _ => less_irrefl _, fun i j h => absurd h (by omega)⟩
  | m + 1, hm => by
    have ih := knowU_inv hr old hl m (by omega)
    have hlen := knowU_length n up ranks old m
    have hpd := pdev_lt hr (show m < n.ports.length by omega)
    rw [knowU_succ, knowP]
    split
    · rename_i hc
      obtain ⟨j, hj⟩ : ∃ j : Nat, farI n up m = j := ⟨(farI n up m).toNat, by omega⟩
      have hop : Hop n up m j := ⟨by omega, hj⟩
      rw [hj, Int.toNat_natCast] at hc ⊢
      have hset : ∀ d : Int, 0 ≤ d → nth ((knowU n up ranks old m).set (pdev n m).toNat (knowV n ranks old m j)) d = if d = pdev n m then knowV n ranks old m j else nth (knowU n up ranks old m) d := fun d h0 => nth_set hpd.1 (by omega) h0
      have hnew : lessV (nth (knowU n up ranks old m) (pdev n m)) (knowV n ranks old m j) = false := less_asymm hc.2
      refine ⟨fun d h0 h1 => ?_, fun d h0 h1 => ?_, fun i k hi hik => ?_⟩
      · rw [hset d h0]
        by_cases hd : d = pdev n m
        · rw [if_pos hd]; exact .inr ⟨m, j, by omega, hop, hd.symm, rfl⟩
        · rw [if_neg hd]
          rcases ih.shape d h0 h1 with h | ⟨i, k, e1, e2, e3, e4⟩
          · exact .inl h
          · exact .inr ⟨i, k, by omega, e2, e3, e4⟩
      · rw [hset d h0]
        by_cases hd : d = pdev n m
        · rw [if_pos hd, hd]
          exact not_less_trans hnew (ih.was _ hpd.1 hpd.2)
        · rw [if_neg hd]; exact ih.was d h0 h1
      · have hpi := pdev_lt hr hik.1
        rw [hset _ hpi.1]
        by_cases him : i = m
        · subst him
          have : k = j := by have := hik.2; omega
          subst this
          rw [if_pos rfl]; exact less_irrefl _
        · by_cases hd : pdev n i = pdev n m
          · rw [if_pos hd]
            have := ih.cand i k (by omega) hik
            rw [hd] at this
            exact not_less_trans hnew this
          · rw [if_neg hd]; exact ih.cand i k (by omega) hik
    · rename_i hc
      refine ⟨fun d h0 h1 => ?_, ih.was, fun i k hi hik => ?_⟩
      · rcases ih.shape d h0 h1 with h | ⟨i, k, e1, e2, e3, e4⟩
        · exact .inl h
        · exact .inr ⟨i, k, by omega, e2, e3, e4⟩
      · by_cases him : i = m
        · subst him
          cases h : lessV (knowV n ranks old i k) (nth (knowU n up ranks old i) (pdev n i))
          · rfl
          · refine absurd ⟨by rw [hik.2]; omega, ?_⟩ hc
            rw [hik.2, Int.toNat_natCast]
            exact h
        · exact ih.cand i k (by omega) hik

/-- What holds behind each round. -/
structure KnowR (n : Net) (up : List Bool) (ranks roots costs : List Int) (r : Nat) (best : List Vec) : Prop where
  low : ∀ d : Int, 0 ≤ d → d < n.devices.length → Le2 (nth roots d) (nth costs d) (nth best d).root (nth best d).cost
  shape : ∀ d : Int, 0 ≤ d → d < n.devices.length → nth best d = ⟨nth ranks d, 0, nth ranks d, -1, -1⟩ ∨ ∃ (i j : Nat) (x c : Int), Hop n up i j ∧ pdev n i = d ∧ Le2 (nth roots (pdev n j)) (nth costs (pdev n j)) x c ∧ nth best d = ⟨x, c + pcost n i, nth ranks (pdev n j), j, i⟩
  self : ∀ d : Int, 0 ≤ d → d < n.devices.length → lessV ⟨nth ranks d, 0, nth ranks d, -1, -1⟩ (nth best d) = false
  bound : ∀ d : Int, 0 ≤ d → d < n.devices.length → 0 ≤ (nth best d).cost ∧ (nth best d).cost ≤ 65535 * r

theorem know0_nth (hrk : ranks.length = n.devices.length) {d : Int} (h0 : 0 ≤ d) (h1 : d < n.devices.length) : nth (know0 n ranks) d = ⟨nth ranks d, 0, nth ranks d, -1, -1⟩ := by
  rw [nth_eq (by simp [know0]; omega)]
  simp only [know0, List.getElem_map, List.getElem_range, vec0]
  rw [getD_at (by omega), nth_eq (by omega)]

theorem le2_add {a b c d m : Int} (h : Le2 a b c d) : Le2 a (b + m) c (d + m) := by
  unfold Le2 at *
  omega

theorem knowN_inv (S : Solved n up ranks roots costs) (hr : netRightB n = true) (hcost : costsB n = true) (hrk : ranks.length = n.devices.length) : ∀ r, KnowR n up ranks roots costs r (knowN n up ranks r)
  | 0 => by
    refine ⟨fun d h0 h1 => ?_, fun d h0 h1 => ?_, fun d h0 h1 => ?_, fun d h0 h1 => ?_⟩
    · rw [knowN, know0_nth hrk h0 h1]; exact S.self d h0 h1
    · exact .inl (know0_nth hrk h0 h1)
    · rw [knowN, know0_nth hrk h0 h1]; exact less_irrefl _
    · rw [knowN, know0_nth hrk h0 h1]; exact ⟨by simp, by simp⟩
  | r + 1 => by
    have ih := knowN_inv S hr hcost hrk r
    have hM := knowU_inv (up := up) (ranks := ranks) hr (knowN n up ranks r) (knowN_length n up ranks r) n.ports.length (Nat.le_refl _)
    rw [knowN]
    refine ⟨fun d h0 h1 => ?_, fun d h0 h1 => ?_, fun d h0 h1 => not_less_trans (hM.was d h0 h1) (ih.self d h0 h1), fun d h0 h1 => ?_⟩
    · rcases hM.shape d h0 h1 with h | ⟨i, j, _, e2, e3, e4⟩
      · rw [h]; exact ih.low d h0 h1
      · rw [e4]
        have hj := pdev_lt hr (hop_lt hr e2)
        have t1 := S.tri i j e2
        rw [e3] at t1
        exact le2_trans t1 (le2_add (ih.low _ hj.1 hj.2))
    · rcases hM.shape d h0 h1 with h | ⟨i, j, _, e2, e3, e4⟩
      · rw [h]; exact ih.shape d h0 h1
      · have hj := pdev_lt hr (hop_lt hr e2)
        exact .inr ⟨i, j, _, _, e2, e3, ih.low _ hj.1 hj.2, e4⟩
    · rcases hM.shape d h0 h1 with h | ⟨i, j, _, e2, e3, e4⟩
      · rw [h]
        have := ih.bound d h0 h1
        omega
      · rw [e4]
        have hj := pdev_lt hr (hop_lt hr e2)
        have := ih.bound _ hj.1 hj.2
        have := pcost_le hcost e2.1
        simp only [knowV]
        omega

theorem not_less_le2 {a b : Vec} (h : lessV a b = false) : Le2 b.root b.cost a.root a.cost := by
  unfold Le2
  simp only [lessV] at h
  grind

/-- How many devices are at less cost. -/
def dep (n : Net) (costs : List Int) (d : Int) : Nat := (List.range n.devices.length).countP fun e : Nat => decide (nth costs (e : Int) < nth costs d)

theorem dep_lt {a d : Int} (ha : 0 ≤ a ∧ a < n.devices.length) (h : nth costs a < nth costs d) : dep n costs a < dep n costs d := by
  have hmem : a.toNat ∈ List.range n.devices.length := List.mem_range.2 (by omega)
  obtain ⟨l1, l2, hl⟩ := List.append_of_mem hmem
  have ea : ((a.toNat : Nat) : Int) = a := by omega
  simp only [dep, hl, List.countP_append, List.countP_cons, ea, h, Int.lt_irrefl, decide_true, decide_false, if_true, Bool.false_eq_true, if_false]
  have m1 := List.countP_mono_left (l := l1) (p := fun e : Nat => decide (nth costs (e : Int) < nth costs a)) (q := fun e : Nat => decide (nth costs (e : Int) < nth costs d)) (fun x _ hx => by simp only [decide_eq_true_eq] at hx ⊢; omega)
  have m2 := List.countP_mono_left (l := l2) (p := fun e : Nat => decide (nth costs (e : Int) < nth costs a)) (q := fun e : Nat => decide (nth costs (e : Int) < nth costs d)) (fun x _ hx => by simp only [decide_eq_true_eq] at hx ⊢; omega)
  omega
theorem dep_le (d : Int) : dep n costs d ≤ n.devices.length := by
  have := List.countP_le_length (p := fun e : Nat => decide (nth costs (e : Int) < nth costs d)) (l := List.range n.devices.length)
  simpa [dep] using this

theorem knowN_high (S : Solved n up ranks roots costs) (hr : netRightB n = true) (hcost : costsB n = true) (hrk : ranks.length = n.devices.length) : ∀ (r : Nat) (d : Int), 0 ≤ d → d < n.devices.length → dep n costs d ≤ r → Le2 (nth (knowN n up ranks r) d).root (nth (knowN n up ranks r) d).cost (nth roots d) (nth costs d)
  | r, d, h0, h1, hd => by
    rcases S.der d h0 h1 with h | ⟨i, j, e1, e2, e3, e4⟩
    · have := not_less_le2 ((knowN_inv S hr hcost hrk r).self d h0 h1)
      rw [h.1, h.2]
      exact this
    · have hp := pcost_le hcost e1.1
      have hj := pdev_lt hr (hop_lt hr e1)
      have hlt := dep_lt (costs := costs) (d := d) hj (by omega)
      match r with
      | 0 => omega
      | r + 1 =>
        have ih := knowN_high S hr hcost hrk r (pdev n j) hj.1 hj.2 (by omega)
        have hM := knowU_inv (up := up) (ranks := ranks) hr (knowN n up ranks r) (knowN_length n up ranks r) n.ports.length (Nat.le_refl _)
        have hc := not_less_le2 (hM.cand i j e1.1 e1)
        rw [e2] at hc
        rw [e3, e4]
        exact le2_trans hc (le2_add ih)

theorem know_exact (S : Solved n up ranks roots costs) (hr : netRightB n = true) (hcost : costsB n = true) (hrk : ranks.length = n.devices.length) {r : Nat} (hrn : n.devices.length ≤ r) {d : Int} (h0 : 0 ≤ d) (h1 : d < n.devices.length) :
    (nth (knowN n up ranks r) d).root = nth roots d ∧ (nth (knowN n up ranks r) d).cost = nth costs d := by
  have a1 := (knowN_inv S hr hcost hrk r).low d h0 h1
  have a2 := knowN_high S hr hcost hrk r d h0 h1 (Nat.le_trans (dep_le d) hrn)
  unfold Le2 at a1 a2
  omega

/-- What devices know in the end. -/
theorem know_end (S : Solved n up ranks roots costs) (hr : netRightB n = true) (hcost : costsB n = true) (hrk : ranks.length = n.devices.length) {d : Int} (h0 : 0 ≤ d) (h1 : d < n.devices.length) :
    (nth (knowN n up ranks (n.devices.length + 1)) d).root = nth roots d ∧ (nth (knowN n up ranks (n.devices.length + 1)) d).cost = nth costs d ∧ (nth (knowN n up ranks (n.devices.length + 1)) d).own = bestI n up ranks roots costs d := by
  obtain ⟨x1, x2⟩ := know_exact S hr hcost hrk (r := n.devices.length + 1) (by omega) h0 h1
  refine ⟨x1, x2, ?_⟩
  have hI := knowN_inv S hr hcost hrk (n.devices.length + 1)
  have hcb := solved_cost S h0 h1
  by_cases hroot : nth roots d = nth ranks d
  · rw [best_root hroot]
    have hz := solved_zero S h0 h1 hroot
    rcases hI.shape d h0 h1 with h | ⟨i, j, x, c, e1, e2, e3, e4⟩
    · rw [h]
    · exfalso
      have hp := pcost_le hcost e1.1
      have hj := pdev_lt hr (hop_lt hr e1)
      have hrt := solved_root S hr e1
      have hcj := solved_cost S hj.1 hj.2
      rw [e4] at x1 x2
      simp only at x1 x2
      rw [e2] at hrt
      unfold Le2 at e3
      omega
  · obtain ⟨i, j, b1, b2, b3, b4⟩ := best_some S hr h0 h1 hroot
    obtain ⟨j', c1, c2, _, c4⟩ := best_hop b3
    have : j' = j := by have := c1.2; have := b1.2; omega
    subst this
    -- what is known is one of the candidates
    have hmem : nth (knowN n up ranks (n.devices.length + 1)) d ∈ bestL n up ranks roots costs d n.ports.length := by
      rcases hI.shape d h0 h1 with h | ⟨p, q, x, c, e1, e2, e3, e4⟩
      · exfalso
        rw [h] at x1
        exact hroot x1.symm
      · refine best_mem.2 ⟨p, q, e1, e2, ?_⟩
        have hrt := solved_root S hr e1
        have hv := solved_via S hr e1
        rw [e2] at hrt hv
        rw [e4] at x1 x2
        simp only at x1 x2
        have g1 : x = nth roots (pdev n q) := by omega
        have g2 : c = nth costs (pdev n q) := by unfold Le2 at e3; omega
        rw [e4, g1, g2]
    have hle := leastR_le _ _ hmem
    -- and none is ahead of it
    have hM := knowU_inv (up := up) (ranks := ranks) hr (knowN n up ranks n.devices.length) (knowN_length n up ranks n.devices.length) n.ports.length (Nat.le_refl _)
    have hcand := hM.cand i j' b1.1 b1
    have hj := pdev_lt hr (hop_lt hr b1)
    obtain ⟨y1, y2⟩ := know_exact S hr hcost hrk (r := n.devices.length) (Nat.le_refl _) hj.1 hj.2
    rw [knowV, y1, y2, b2] at hcand
    have hcand : lessV ⟨nth roots (pdev n j'), nth costs (pdev n j') + pcost n i, nth ranks (pdev n j'), j', i⟩ (nth (knowN n up ranks (n.devices.length + 1)) d) = false := hcand
    rw [c4] at hle
    rw [b3]
    by_cases he : nth (knowN n up ranks (n.devices.length + 1)) d = ⟨nth roots (pdev n j'), nth costs (pdev n j') + pcost n i, nth ranks (pdev n j'), j', i⟩
    · rw [he]
    · rcases less_total he with h | h
      · rw [hle] at h; cases h
      · rw [hcand] at h; cases h
end
end Go.Sy.YthbgklhegccckaaGreat
