/-
  What reach comes to: roots and costs that no link betters, each of which comes of a link or of the device itself. What reach comes to, 2. What roots, costs and roles come to. What forwards closes no ring, and joins what links that are up join. Contracts: spans (package tree), 6: open.
-/
import Derived.Test.YthbgklhegccckaaGreatC12

namespace Go.Sy.YthbgklhegccckaaGreat

/-- One root at its cost is no worse than another one. -/
def Le2 (r c r' c' : Int) : Prop := r < r' ∨ (r = r' ∧ c ≤ c')
theorem le2_of_lt {x y : Item} (h : itemLt y x = false) : Le2 x.root x.cost y.root y.cost := by
  simp only [itemLt, Bool.or_eq_false_iff, decide_eq_false_iff_not, Bool.and_eq_false_iff, beq_eq_false_iff_ne] at h
  unfold Le2
  omega
theorem le2_trans {a b c d e f : Int} (h1 : Le2 a b c d) (h2 : Le2 c d e f) : Le2 a b e f := by
  unfold Le2 at *
  omega
theorem le2_more {a b c d m : Int} (h1 : Le2 a b c d) (hm : 0 ≤ m) : Le2 a b c (d + m) := by
  unfold Le2 at *
  omega

/-- A port and the one on the other side, whose link is up. -/
def Hop (n : Net) (up : List Bool) (i j : Nat) : Prop := i < n.ports.length ∧ farI n up i = j

theorem hop_lt {n : Net} {up : List Bool} (hr : netRightB n = true) {i j : Nat} (h : Hop n up i j) : j < n.ports.length := by
  have := far_lt (up := up) hr h.1 (by rw [h.2]; omega)
  rw [h.2] at this
  omega

theorem hop_facts {n : Net} {up : List Bool} (hr : netRightB n = true) {i j : Nat} (h : Hop n up i j) :
    ∃ k : Nat, k < n.links.length ∧ (nth n.ports i).link = k ∧ (nth n.ports j).link = k ∧ up.getD k false = true ∧ (((nth n.links k).a = i ∧ (nth n.links k).b = j) ∨ ((nth n.links k).a = j ∧ (nth n.links k).b = i)) ∧ pdev n i ≠ pdev n j := by
  have hj := hop_lt hr h
  obtain ⟨hi, hf⟩ := h
  have hp := right_port hr hi
  have hpl := port_link hr hi
  simp only [portB, Bool.and_eq_true, Bool.or_eq_true, beq_iff_eq] at hp
  have hp := hp.2
  have e : nth n.ports i = n.ports[i] := nth_eq (l := n.ports) (i := (i : Int)) (by simpa using hi)
  unfold farI at hf
  rw [getD_at hi] at hf
  simp only at hf
  split at hf
  · omega
  · rename_i hc
    simp only [Bool.or_eq_true, decide_eq_true_eq, not_or, Bool.not_eq_true', Bool.not_eq_false] at hc
    rcases hp with hp | hp
    · omega
    · have hl : n.ports[i].link.toNat < n.links.length := by omega
      have hlk := right_link hr hl
      have he := link_ends hr hl
      have ek : ((n.ports[i].link.toNat : Nat) : Int) = n.ports[i].link := by omega
      refine ⟨n.ports[i].link.toNat, hl, by rw [e]; omega, ?_⟩
      simp only [linkB, Bool.and_eq_true, beq_iff_eq, bne_iff_ne] at hlk
      obtain ⟨⟨⟨_, hne⟩, h1⟩, h2⟩ := hlk
      rw [ek]
      rw [nth_eq (l := n.links) (i := n.ports[i].link) (by omega)] at hf hp ⊢
      generalize n.links[n.ports[i].link.toNat] = l at *
      rcases hp.2 with ha | hb
      · have hb : l.b = j := by omega
        rw [ha, hb] at hne
        rw [hb] at h2
        exact ⟨by omega, by simpa using hc.2, .inl ⟨ha, hb⟩, hne⟩
      · have ha : l.a = j := by omega
        rw [ha, hb] at hne
        rw [ha] at h1
        exact ⟨by omega, by simpa using hc.2, .inr ⟨ha, hb⟩, fun h => hne h.symm⟩

theorem hop_back {n : Net} {up : List Bool} (hr : netRightB n = true) {i j : Nat} (h : Hop n up i j) : Hop n up j i := by
  have hj := hop_lt hr h
  obtain ⟨k, hk, _, h2, h3, h4, _⟩ := hop_facts hr h
  refine ⟨hj, ?_⟩
  unfold farI
  have e : n.ports.getD j default = nth n.ports j := rfl
  rw [e]
  simp only [h2, Int.toNat_natCast, h3]
  rw [if_neg (by simp)]
  omega

theorem pdev_lt {n : Net} (hr : netRightB n = true) {i : Nat} (hi : i < n.ports.length) : 0 ≤ pdev n i ∧ pdev n i < n.devices.length := by
  rw [pdev, nth_eq (l := n.ports) (i := (i : Int)) (by simpa using hi)]
  exact port_dev hr hi
/-- What a device is told, comes of the device itself, or of a port. -/
def Der (n : Net) (up : List Bool) (K R C : Int → Int) (r c d : Int) : Prop :=
  (r = K d ∧ c = 0) ∨ ∃ i j : Nat, Hop n up i j ∧ pdev n i = d ∧ 0 ≤ R (pdev n j) ∧ r = R (pdev n j) ∧ c = C (pdev n j) + pcost n i

structure Dij (n : Net) (up : List Bool) (K : Int → Int) (q : List Item) (R C : Int → Int) : Prop where
  heap : HeapN q q.length
  items : ∀ x ∈ q, Der n up K R C x.root x.cost x.dev
  done : ∀ d : Int, 0 ≤ d → d < n.devices.length → 0 ≤ R d → Der n up K R C (R d) (C d) d
  own : ∀ d : Int, 0 ≤ d → d < n.devices.length → R d < 0 → ⟨K d, 0, d⟩ ∈ q
  push : ∀ i j : Nat, Hop n up i j → R (pdev n i) < 0 → 0 ≤ R (pdev n j) → ⟨R (pdev n j), C (pdev n j) + pcost n i, pdev n i⟩ ∈ q
  low : ∀ d : Int, 0 ≤ d → d < n.devices.length → 0 ≤ R d → ∀ x ∈ q, Le2 (R d) (C d) x.root x.cost
  self : ∀ d : Int, 0 ≤ d → d < n.devices.length → 0 ≤ R d → Le2 (R d) (C d) (K d) 0
  tri : ∀ i j : Nat, Hop n up i j → 0 ≤ R (pdev n i) → 0 ≤ R (pdev n j) → Le2 (R (pdev n i)) (C (pdev n i)) (R (pdev n j)) (C (pdev n j) + pcost n i)

theorem reachP_mem (n : Net) (up : List Bool) (x : Item) (q : List Item) (y : Item) : ∀ m, y ∈ (List.range m).foldl (reachP n up x) q ↔ y ∈ q ∨ ∃ i, i < m ∧ pdev n i = x.dev ∧ 0 ≤ farI n up i ∧ y = ⟨x.root, x.cost + (nth n.ports (farI n up i)).cost, (nth n.ports (farI n up i)).dev⟩
  | 0 => by simp
  | m + 1 => by
    rw [List.range_succ, List.foldl_append]
    simp only [List.foldl_cons, List.foldl_nil]
    rw [reachP]
    have ih := reachP_mem n up x q y m
    have e : (n.ports.getD m default).dev = pdev n m := rfl
    rw [e]
    split
    · rename_i h
      rw [(pushH_perm _ _).mem_iff, List.mem_cons, ih]
      constructor
      · rintro (h1 | h1 | ⟨i, h1, h2⟩)
        · exact .inr ⟨m, by omega, h.1, h.2, h1⟩
        · exact .inl h1
        · exact .inr ⟨i, by omega, h2⟩
      · rintro (h1 | ⟨i, h1, h2, h3, h4⟩)
        · exact .inr (.inl h1)
        · by_cases hm : i = m
          · subst hm; exact .inl h4
          · exact .inr (.inr ⟨i, by omega, h2, h3, h4⟩)
    · rename_i h
      rw [ih]
      constructor
      · rintro (h1 | ⟨i, h1, h2⟩)
        · exact .inl h1
        · exact .inr ⟨i, by omega, h2⟩
      · rintro (h1 | ⟨i, h1, h2, h3, h4⟩)
        · exact .inl h1
        · by_cases hm : i = m
          · subst hm; exact absurd ⟨h2, h3⟩ h
          · exact .inr ⟨i, by omega, h2, h3, h4⟩

theorem reachP_heap (n : Net) (up : List Bool) (x : Item) (q : List Item) (h : HeapN q q.length) : ∀ m, HeapN ((List.range m).foldl (reachP n up x) q) ((List.range m).foldl (reachP n up x) q).length
  | 0 => h
  | m + 1 => by
    rw [List.range_succ, List.foldl_append]
    simp only [List.foldl_cons, List.foldl_nil]
    have ih := reachP_heap n up x q h m
    rw [reachP]
    split
    · exact pushH_heap _ _ ih
    · exact ih

theorem der_mono {n : Net} {up : List Bool} {K R C R' C' : Int → Int} {r c d : Int} (h : Der n up K R C r c d) (hs : ∀ e, 0 ≤ R e → R' e = R e ∧ C' e = C e) : Der n up K R' C' r c d := by
  rcases h with h | ⟨i, j, h1, h2, h3, h4, h5⟩
  · exact .inl h
  · obtain ⟨e1, e2⟩ := hs _ h3
    exact .inr ⟨i, j, h1, h2, by rw [e1]; exact h3, by rw [e1]; exact h4, by rw [e2]; exact h5⟩

/-- What is taken off the heap, whose device is reached: nothing is new. -/
theorem dij_drop {n : Net} {up : List Bool} {K R C : Int → Int} {q q' : List Item} {x : Item} (h : Dij n up K q R C) (hp : (x :: q').Perm q) (hh : HeapN q' q'.length) (hx : 0 ≤ R x.dev) : Dij n up K q' R C := by
  have hm : ∀ y, y ∈ q ↔ y = x ∨ y ∈ q' := fun y => by rw [← hp.mem_iff, List.mem_cons]
  refine ⟨hh, fun y hy => h.items y ((hm y).2 (.inr hy)), h.done, fun d h0 h1 h2 => ?_, fun i j hij h1 h2 => ?_, fun d h0 h1 h2 y hy => h.low d h0 h1 h2 y ((hm y).2 (.inr hy)), h.self, h.tri⟩
  · rcases (hm _).1 (h.own d h0 h1 h2) with e | e
    · rw [← e] at hx; simp only at hx; omega
    · exact e
  · rcases (hm _).1 (h.push i j hij h1 h2) with e | e
    · rw [← e] at hx; simp only at hx; omega
    · exact e

/-- One more device is reached. -/
theorem dij_take {n : Net} {up : List Bool} {K R C R' C' : Int → Int} {q q' : List Item} {x : Item} (hr : netRightB n = true) (hcost : costsB n = true) (h : Dij n up K q R C) (hp : (x :: q').Perm q) (hh : HeapN q' q'.length)
    (hmin : ∀ y ∈ q, itemLt y x = false) (hx : R x.dev < 0) (hx0 : 0 ≤ x.root) (_hxd : 0 ≤ x.dev ∧ x.dev < n.devices.length)
    (hR : ∀ e, R' e = if e = x.dev then x.root else R e) (hC : ∀ e, C' e = if e = x.dev then x.cost else C e) :
    Dij n up K ((List.range n.ports.length).foldl (reachP n up x) q') R' C' := by
  have hm : ∀ y, y ∈ q ↔ y = x ∨ y ∈ q' := fun y => by rw [← hp.mem_iff, List.mem_cons]
  have hn := fun y => reachP_mem n up x q' y n.ports.length
  have hs : ∀ e, 0 ≤ R e → R' e = R e ∧ C' e = C e := fun e he => by
    have : e ≠ x.dev := fun h => by rw [h] at he; omega
    rw [hR, hC, if_neg this, if_neg this]
    exact ⟨rfl, rfl⟩
  have hRd : R' x.dev = x.root := by rw [hR, if_pos rfl]
  have hCd : C' x.dev = x.cost := by rw [hC, if_pos rfl]
  have hxq : x ∈ q := (hm x).2 (.inl rfl)
  have hle : ∀ y ∈ q, Le2 x.root x.cost y.root y.cost := fun y hy => le2_of_lt (hmin y hy)
  -- what is new
  have hnew : ∀ y, y ∈ (List.range n.ports.length).foldl (reachP n up x) q' ↔ y ∈ q' ∨ ∃ i j : Nat, Hop n up i j ∧ pdev n i = x.dev ∧ y = ⟨x.root, x.cost + pcost n j, pdev n j⟩ := fun y => by
    rw [hn y]
    constructor
    · rintro (h1 | ⟨i, h1, h2, h3, h4⟩)
      · exact .inl h1
      · obtain ⟨j, hj⟩ : ∃ j : Nat, farI n up i = j := ⟨(farI n up i).toNat, by omega⟩
        rw [hj] at h4
        exact .inr ⟨i, j, ⟨h1, hj⟩, h2, h4⟩
    · rintro (h1 | ⟨i, j, h1, h2, h3⟩)
      · exact .inl h1
      · refine .inr ⟨i, h1.1, h2, by rw [h1.2]; omega, ?_⟩
        rw [h1.2]
        exact h3
  refine ⟨reachP_heap n up x q' hh _, fun y hy => ?_, fun d h0 h1 h2 => ?_, fun d h0 h1 h2 => ?_, fun i j hij h1 h2 => ?_, fun d h0 h1 h2 y hy => ?_, fun d h0 h1 h2 => ?_, fun i j hij h1 h2 => ?_⟩
  · rcases (hnew y).1 hy with hy | ⟨i, j, h1, h2, rfl⟩
    · exact der_mono (h.items y ((hm y).2 (.inr hy))) hs
    · exact .inr ⟨j, i, hop_back hr h1, rfl, by rw [h2, hRd]; exact hx0, by rw [h2, hRd], by rw [h2, hCd]⟩
  · by_cases hd : d = x.dev
    · subst hd
      rw [hRd, hCd]
      exact der_mono (h.items x hxq) hs
    · rw [hR, if_neg hd] at h2
      obtain ⟨e1, e2⟩ := hs d h2
      rw [e1, e2]
      exact der_mono (h.done d h0 h1 h2) hs
  · have hd : d ≠ x.dev := fun e => by rw [e, hRd] at h2; omega
    rw [hR, if_neg hd] at h2
    refine (hnew _).2 (.inl ?_)
    rcases (hm _).1 (h.own d h0 h1 h2) with e | e
    · exact absurd (congrArg Item.dev e) hd
    · exact e
  · have hd : pdev n i ≠ x.dev := fun e => by rw [e, hRd] at h1; omega
    rw [hR, if_neg hd] at h1
    by_cases hj : pdev n j = x.dev
    · rw [hj, hRd, hCd]
      exact (hnew _).2 (.inr ⟨j, i, hop_back hr hij, hj, rfl⟩)
    · rw [hR, if_neg hj] at h2
      obtain ⟨e1, e2⟩ := hs _ h2
      rw [e1, e2]
      refine (hnew _).2 (.inl ?_)
      rcases (hm _).1 (h.push i j hij h1 h2) with e | e
      · exact absurd (congrArg Item.dev e) hd
      · exact e
  · have hdx : Le2 (R' d) (C' d) x.root x.cost := by
      by_cases hd : d = x.dev
      · subst hd; rw [hRd, hCd]; exact .inr ⟨rfl, Int.le_refl _⟩
      · rw [hR, if_neg hd] at h2
        obtain ⟨e1, e2⟩ := hs d h2
        rw [e1, e2]
        exact h.low d h0 h1 h2 x hxq
    rcases (hnew y).1 hy with hy | ⟨i, j, h3, _, rfl⟩
    · exact le2_trans hdx (hle y ((hm y).2 (.inr hy)))
    · exact le2_more hdx (by have := pcost_le hcost (hop_lt hr h3); omega)
  · by_cases hd : d = x.dev
    · subst hd
      rw [hRd, hCd]
      exact hle _ (h.own _ h0 h1 hx)
    · rw [hR, if_neg hd] at h2
      obtain ⟨e1, e2⟩ := hs d h2
      rw [e1, e2]
      exact h.self d h0 h1 h2
  · have hj := hop_lt hr hij
    have hpc := pcost_le hcost hij.1
    have hne := (hop_facts hr hij).choose_spec.2.2.2.2.2
    by_cases hd : pdev n i = x.dev
    · rw [hd, hRd, hCd]
      have hjd : pdev n j ≠ x.dev := fun e => hne (by rw [hd, e])
      rw [hR, if_neg hjd] at h2
      obtain ⟨e1, e2⟩ := hs _ h2
      rw [e1, e2]
      exact hle _ (h.push i j hij (by rw [hd]; exact hx) h2)
    · rw [hR, if_neg hd] at h1
      obtain ⟨e1, e2⟩ := hs _ h1
      rw [e1, e2]
      by_cases hjd : pdev n j = x.dev
      · rw [hjd, hRd, hCd]
        have hdl := pdev_lt hr hij.1
        exact le2_more (h.low _ hdl.1 hdl.2 h1 x hxq) (by omega)
      · rw [hR, if_neg hjd] at h2
        obtain ⟨e3, e4⟩ := hs _ h2
        rw [e3, e4]
        exact h.tri i j hij h1 h2
end Go.Sy.YthbgklhegccckaaGreat

namespace Go.Sy.YthbgklhegccckaaGreat

def atI (l : List Int) (e : Int) : Int := if e < 0 then -1 else nth l e
theorem atI_eq {l : List Int} {e : Int} (h : 0 ≤ e) : atI l e = nth l e := by rw [atI, if_neg (by omega)]
theorem atI_set {l : List Int} {d v : Int} (h0 : 0 ≤ d) (h1 : d < l.length) (e : Int) : atI (l.set d.toNat v) e = if e = d then v else atI l e := by
  by_cases he : e < 0
  · rw [atI, if_pos he, if_neg (by omega), atI, if_pos he]
  · rw [atI, if_neg he, atI, if_neg he, nth, nth, List.getElem?_set]
    by_cases hd : e = d
    · subst hd
      rw [if_pos rfl, if_pos rfl, if_pos (by omega)]
      rfl
    · rw [if_neg (by omega), if_neg hd]

/-- What holds in each state. -/
structure DijS (n : Net) (up : List Bool) (ranks : List Int) (s : List Item × List Int × List Int) : Prop where
  inv : ReachInv n s
  dij : Dij n up (atI ranks) s.1 (atI s.2.1) (atI s.2.2)
  bound : ∀ c ∈ s.2.2, 0 ≤ c ∧ c ≤ 1000000

theorem reach1_dij (n : Net) (up : List Bool) (ranks : List Int) (hr : netRightB n = true) (hcost : costsB n = true) (s : List Item × List Int × List Int) (hI : DijS n up ranks s) (hne : s.1 ≠ []) : DijS n up ranks (reach1 n up s) := by
  have hf := right_few hr
  have h1 := (reach1_inv n up hr hcost s hI.inv hne).1
  have hrest := pop_rest s.1 hne
  have hheap := pop_heap s.1 hne hI.dij.heap
  have hleast := pop_least s.1 hI.dij.heap
  have hx := hI.inv.items _ (hrest.mem_iff.1 (List.mem_cons_self ..))
  have hrl := hI.inv.rootsL
  have hcl := hI.inv.costsL
  have hd := hI.dij
  have hb := hI.bound
  rw [reach1, last_mem hne, pop_last s.1 hne] at *
  generalize s.1.getD 0 default = x at *
  try simp only at *
  have ea : nth s.2.1 x.dev = atI s.2.1 x.dev := (atI_eq hx.1).symm
  rw [ea]; rw [ea] at h1
  split
  · rename_i hc
    rw [if_pos hc] at h1
    exact ⟨h1, dij_drop hd hrest hheap hc, hb⟩
  · rename_i hc
    rw [if_neg hc] at h1
    refine ⟨h1, dij_take hr hcost hd hrest hheap hleast (by omega) hx.2.2.1 ⟨hx.1, hx.2.1⟩ (atI_set hx.1 (by omega)) (atI_set hx.1 (by omega)), fun c hc => ?_⟩
    rcases List.mem_or_eq_of_mem_set hc with h | h
    · exact hb c h
    · omega

theorem reachF_dij (n : Net) (up : List Bool) (ranks : List Int) (hr : netRightB n = true) (hcost : costsB n = true) : ∀ (f : Nat) (s : List Item × List Int × List Int), DijS n up ranks s → reachM s ≤ f → DijS n up ranks (reachF n up f s) ∧ (reachF n up f s).1 = []
  | 0, s, h, hf => ⟨h, List.eq_nil_of_length_eq_zero (by unfold reachM at hf; rw [reachF]; omega)⟩
  | f + 1, s, h, hf => by
    rw [reachF]
    split
    · rename_i he; exact ⟨h, he⟩
    · rename_i hne
      exact reachF_dij n up ranks hr hcost f _ (reach1_dij n up ranks hr hcost s h hne) (by have := (reach1_inv n up hr hcost s h.inv hne).2; omega)

/-- Roots and costs that no link betters, each of which comes of a link or of the device itself. -/
structure Solved (n : Net) (up : List Bool) (ranks roots costs : List Int) : Prop where
  rootsL : roots.length = n.devices.length
  costsL : costs.length = n.devices.length
  bound : ∀ c ∈ costs, 0 ≤ c ∧ c ≤ 1000000
  root : ∀ d : Int, 0 ≤ d → d < n.devices.length → 0 ≤ nth roots d
  self : ∀ d : Int, 0 ≤ d → d < n.devices.length → Le2 (nth roots d) (nth costs d) (nth ranks d) 0
  tri : ∀ i j : Nat, Hop n up i j → Le2 (nth roots (pdev n i)) (nth costs (pdev n i)) (nth roots (pdev n j)) (nth costs (pdev n j) + pcost n i)
  der : ∀ d : Int, 0 ≤ d → d < n.devices.length → (nth roots d = nth ranks d ∧ nth costs d = 0) ∨ ∃ i j : Nat, Hop n up i j ∧ pdev n i = d ∧ nth roots d = nth roots (pdev n j) ∧ nth costs d = nth costs (pdev n j) + pcost n i

theorem solved_of (n : Net) (up : List Bool) (ranks : List Int) (hr : netRightB n = true) (s : List Item × List Int × List Int) (h : DijS n up ranks s) (he : s.1 = []) : Solved n up ranks s.2.1 s.2.2 := by
  have hd := h.dij
  rw [he] at hd
  have h0 : ∀ d : Int, 0 ≤ d → d < n.devices.length → 0 ≤ atI s.2.1 d := fun d h1 h2 => by
    by_cases hc : 0 ≤ atI s.2.1 d
    · exact hc
    · have := hd.own d h1 h2 (by omega)
      simp at this
  refine ⟨h.inv.rootsL, h.inv.costsL, h.bound, fun d h1 h2 => ?_, fun d h1 h2 => ?_, fun i j hij => ?_, fun d h1 h2 => ?_⟩
  · have := h0 d h1 h2
    rwa [atI_eq h1] at this
  · have := hd.self d h1 h2 (h0 d h1 h2)
    simpa only [atI_eq h1] using this
  · have hi := pdev_lt hr hij.1
    have hj := pdev_lt hr (hop_lt hr hij)
    have := hd.tri i j hij (h0 _ hi.1 hi.2) (h0 _ hj.1 hj.2)
    simpa only [atI_eq hi.1, atI_eq hj.1] using this
  · rcases hd.done d h1 h2 (h0 d h1 h2) with h3 | ⟨i, j, h3, h4, _, h5, h6⟩
    · simp only [atI_eq h1] at h3
      exact .inl h3
    · have hj := pdev_lt hr (hop_lt hr h3)
      simp only [atI_eq h1, atI_eq hj.1] at h5 h6
      exact .inr ⟨i, j, h3, h4, h5, h6⟩

theorem start_mem (ranks : List Int) (y : Item) : ∀ j, y ∈ startQ ranks j ↔ ∃ i, i < j ∧ y = ⟨ranks.getD i 0, 0, i⟩
  | 0 => by simp [startQ]
  | j + 1 => by
    rw [startQ_succ, (pushH_perm _ _).mem_iff, List.mem_cons, start_mem ranks y j]
    constructor
    · rintro (h | ⟨i, h1, h2⟩)
      · exact ⟨j, by omega, h⟩
      · exact ⟨i, by omega, h2⟩
    · rintro ⟨i, h1, h2⟩
      by_cases h : i = j
      · subst h; exact .inl h2
      · exact .inr ⟨i, by omega, h2⟩
theorem start_heap (ranks : List Int) : ∀ j, HeapN (startQ ranks j) (startQ ranks j).length
  | 0 => fun c _ h2 _ => by simp [startQ] at h2
  | j + 1 => by
    rw [startQ_succ]
    exact pushH_heap _ _ (start_heap ranks j)

theorem nth_replicate {v : Int} {m : Nat} {d : Int} (h1 : d < m) (h0 : 0 ≤ d) : nth (List.replicate m v) d = v := by
  rw [nth_eq (by simp; omega)]; simp

theorem start_dij (n : Net) (up : List Bool) (ranks : List Int) (hr : netRightB n = true) (hrk : ranks.length = n.devices.length) (hrr : ∀ r ∈ ranks, 0 ≤ r) :
    DijS n up ranks (startQ ranks ranks.length, List.replicate n.devices.length (-1), List.replicate n.devices.length 0) := by
  have hneg : ∀ d : Int, 0 ≤ d → d < n.devices.length → atI (List.replicate n.devices.length (-1)) d = -1 := fun d h0 h1 => by rw [atI_eq h0, nth_replicate h1 h0]
  refine ⟨start_inv n ranks _ _ hr hrk (by simp) (by simp) hrr, ⟨start_heap ranks _, fun x hx => ?_, fun d h0 h1 h2 => ?_, fun d h0 h1 h2 => ?_, fun i j hij h1 h2 => ?_, fun d h0 h1 h2 => ?_, fun d h0 h1 h2 => ?_, fun i j hij h1 h2 => ?_⟩, fun c hc => ?_⟩
  · obtain ⟨i, h1, rfl⟩ := (start_mem ranks x _).1 hx
    refine .inl ⟨?_, rfl⟩
    simp only
    rw [atI_eq (by omega), nth_eq (by simpa using h1), getD_at h1]
    rfl
  · rw [hneg d h0 h1] at h2; omega
  · refine (start_mem ranks _ _).2 ⟨d.toNat, by omega, ?_⟩
    rw [atI_eq h0, nth_eq (by omega), getD_at (by omega), Int.toNat_of_nonneg h0]
  · have hj := pdev_lt hr (hop_lt hr hij)
    rw [hneg _ hj.1 hj.2] at h2; omega
  · rw [hneg d h0 h1] at h2; omega
  · rw [hneg d h0 h1] at h2; omega
  · have hj := pdev_lt hr (hop_lt hr hij)
    rw [hneg _ hj.1 hj.2] at h2; omega
  · have := List.eq_of_mem_replicate hc
    omega

/-- What reach leaves. -/
def reachT (n : Net) (up : List Bool) (ranks : List Int) : List Item × List Int × List Int := reachD n up (startQ ranks ranks.length, List.replicate n.devices.length (-1), List.replicate n.devices.length 0)

theorem reachT_solved (n : Net) (up : List Bool) (ranks : List Int) (hr : netRightB n = true) (hcost : costsB n = true) (hrk : ranks.length = n.devices.length) (hrr : ∀ r ∈ ranks, 0 ≤ r) : Solved n up ranks (reachT n up ranks).2.1 (reachT n up ranks).2.2 := by
  obtain ⟨h1, h2⟩ := reachF_dij n up ranks hr hcost _ _ (start_dij n up ranks hr hrk hrr) (Nat.le_refl _)
  exact solved_of n up ranks hr _ h1 h2
end Go.Sy.YthbgklhegccckaaGreat

namespace Go.Sy.YthbgklhegccckaaGreat

section
variable {n : Net} {up : List Bool} {ranks roots costs : List Int}

theorem solved_root (S : Solved n up ranks roots costs) (hr : netRightB n = true) {i j : Nat} (h : Hop n up i j) : nth roots (pdev n i) = nth roots (pdev n j) := by
  have h1 := S.tri i j h
  have h2 := S.tri j i (hop_back hr h)
  unfold Le2 at h1 h2
  omega
theorem solved_via (S : Solved n up ranks roots costs) (hr : netRightB n = true) {i j : Nat} (h : Hop n up i j) : nth costs (pdev n i) ≤ nth costs (pdev n j) + pcost n i := by
  have h1 := S.tri i j h
  have h2 := solved_root S hr h
  unfold Le2 at h1
  omega
theorem solved_cost (S : Solved n up ranks roots costs) {d : Int} (h0 : 0 ≤ d) (h1 : d < n.devices.length) : 0 ≤ nth costs d ∧ nth costs d ≤ 1000000 := by
  have hl := S.costsL
  rw [nth_eq (by omega)]
  exact S.bound _ (List.getElem_mem _)
theorem solved_zero (S : Solved n up ranks roots costs) {d : Int} (h0 : 0 ≤ d) (h1 : d < n.devices.length) (h : nth roots d = nth ranks d) : nth costs d = 0 := by
  have h2 := S.self d h0 h1
  have h3 := solved_cost S h0 h1
  unfold Le2 at h2
  omega
theorem solved_pos (S : Solved n up ranks roots costs) {d : Int} (h0 : 0 ≤ d) (h1 : d < n.devices.length) (h : nth roots d ≠ nth ranks d) : ∃ i j : Nat, Hop n up i j ∧ pdev n i = d ∧ nth roots d = nth roots (pdev n j) ∧ nth costs d = nth costs (pdev n j) + pcost n i := by
  rcases S.der d h0 h1 with h2 | h2
  · exact absurd h2.1 h
  · exact h2

/-- The root is a device of its own. -/
theorem solved_is (S : Solved n up ranks roots costs) (hr : netRightB n = true) (hcost : costsB n = true) : ∀ (m : Nat) (d : Int), 0 ≤ d → d < n.devices.length → nth costs d ≤ m → ∃ r : Int, 0 ≤ r ∧ r < n.devices.length ∧ nth ranks r = nth roots d ∧ nth roots r = nth roots d
  | m, d, h0, h1, hm => by
    rcases S.der d h0 h1 with h2 | ⟨i, j, h2, h3, h4, h5⟩
    · exact ⟨d, h0, h1, h2.1.symm, rfl⟩
    · have hc := pcost_le hcost h2.1
      have hj := pdev_lt hr (hop_lt hr h2)
      have hcj := solved_cost S hj.1 hj.2
      match m with
      | 0 => omega
      | m + 1 =>
        obtain ⟨r, g1, g2, g3, g4⟩ := solved_is S hr hcost m (pdev n j) hj.1 hj.2 (by omega)
        exact ⟨r, g1, g2, by rw [g3, h4], by rw [g4, h4]⟩

theorem best_mem {dev : Int} {v : Vec} : v ∈ bestL n up ranks roots costs dev n.ports.length ↔ ∃ i j : Nat, Hop n up i j ∧ pdev n i = dev ∧ v = ⟨nth roots (pdev n j), nth costs (pdev n j) + pcost n i, nth ranks (pdev n j), j, i⟩ := by
  rw [bestL, List.mem_filterMap]
  constructor
  · rintro ⟨i, hi, he⟩
    have hi := List.mem_range.1 hi
    unfold candV at he
    simp only at he
    split at he
    · rename_i hc
      simp only [Bool.and_eq_true, beq_iff_eq, decide_eq_true_eq] at hc
      obtain ⟨j, hj⟩ : ∃ j : Nat, farI n up i = j := ⟨(farI n up i).toNat, by omega⟩
      rw [hj] at he
      exact ⟨i, j, ⟨hi, hj⟩, hc.1, (Option.some.inj he).symm⟩
    · cases he
  · rintro ⟨i, j, ⟨hi, hj⟩, hd, rfl⟩
    refine ⟨i, List.mem_range.2 hi, ?_⟩
    unfold candV
    have e : (n.ports.getD i default).dev = dev := hd
    simp only [hj, e]
    rw [if_pos (by simp)]
    rfl

theorem best_root {d : Int} (h : nth roots d = nth ranks d) : bestI n up ranks roots costs d = -1 := by
  simp only [bestI, h, beq_self_eq_true, Bool.or_true, if_true]

theorem best_hop {d : Int} {i : Nat} (h : bestI n up ranks roots costs d = i) : ∃ j : Nat, Hop n up i j ∧ pdev n i = d ∧ nth roots d ≠ nth ranks d ∧ (leastR (bestL n up ranks roots costs d n.ports.length)).1 = ⟨nth roots (pdev n j), nth costs (pdev n j) + pcost n i, nth ranks (pdev n j), j, i⟩ := by
  have hmem := @leastR_mem (bestL n up ranks roots costs d n.ports.length)
  unfold bestI at h
  simp only at h
  split at h
  · omega
  · rename_i hc
    simp only [Bool.or_eq_true, Bool.not_eq_true', not_or, Bool.not_eq_false, beq_iff_eq] at hc
    obtain ⟨i', j, h1, h2, h3⟩ := best_mem.1 (hmem hc.1)
    rw [h3] at h
    have : i' = i := by simp only at h; omega
    subst this
    exact ⟨j, h1, h2, hc.2, h3⟩

theorem best_some (S : Solved n up ranks roots costs) (hr : netRightB n = true) {d : Int} (h0 : 0 ≤ d) (h1 : d < n.devices.length) (h : nth roots d ≠ nth ranks d) : ∃ i j : Nat, Hop n up i j ∧ pdev n i = d ∧ bestI n up ranks roots costs d = i ∧ nth costs d = nth costs (pdev n j) + pcost n i := by
  obtain ⟨p, q, g1, g2, g3, g4⟩ := solved_pos S h0 h1 h
  have hm := (best_mem (ranks := ranks) (roots := roots) (costs := costs)).2 ⟨p, q, g1, g2, rfl⟩
  have h2 : (leastR (bestL n up ranks roots costs d n.ports.length)).2 = true := by
    cases hb : (leastR (bestL n up ranks roots costs d n.ports.length)).2
    · rw [(leastR_none hb).1] at hm; simp at hm
    · rfl
  obtain ⟨i, j, e1, e2, e3⟩ := best_mem.1 (leastR_mem h2)
  have hle := leastR_le _ _ hm
  rw [e3] at hle
  refine ⟨i, j, e1, e2, ?_, ?_⟩
  · unfold bestI
    simp only [h2, Bool.not_true, Bool.false_or, beq_iff_eq]
    rw [if_neg h, e3]
  · have r1 := solved_root S hr e1
    have v1 := solved_via S hr e1
    rw [e2] at r1 v1
    simp only [lessV] at hle
    grind

/-- A device's best port comes at just its cost. -/
theorem best_cost (S : Solved n up ranks roots costs) (hr : netRightB n = true) {i j : Nat} (hij : Hop n up i j) (h : bestI n up ranks roots costs (pdev n i) = i) : nth costs (pdev n i) = nth costs (pdev n j) + pcost n i := by
  have hd := pdev_lt hr hij.1
  obtain ⟨_, _, _, hne, _⟩ := best_hop h
  obtain ⟨i', j', e1, e2, e3, e4⟩ := best_some S hr hd.1 hd.2 hne
  have : i' = i := by omega
  subst this
  have : j' = j := by
    have h1 := e1.2
    have h2 := hij.2
    omega
  subst this
  exact e4

theorem rolesA_get (n : Net) (up : List Bool) (ranks costs : List Int) {p : Nat} (hp : p < n.ports.length) : nth (rolesA n up ranks costs n.ports.length) p = role1 n up ranks costs p := by
  rw [nth_eq (by rw [rolesA_length]; simpa using hp)]
  simp [rolesA, hp]

theorem rolesB_other (n : Net) (up : List Bool) (ranks roots costs : List Int) {p : Nat} (hp : p < n.ports.length) : ∀ e : Nat, (∀ d : Nat, d < e → bestI n up ranks roots costs d ≠ p) → nth (rolesB n up ranks roots costs e) p = role1 n up ranks costs p
  | 0, _ => rolesA_get n up ranks costs hp
  | e + 1, h => by
    have ih := rolesB_other n up ranks roots costs hp e (fun d hd => h d (by omega))
    have hne := h e (by omega)
    rw [rolesB]
    split
    · rw [nth, List.getElem?_set_ne (by omega)]
      exact ih
    · exact ih

theorem rolesB_root (n : Net) (up : List Bool) (ranks roots costs : List Int) {p : Nat} (hp : p < n.ports.length) : ∀ (e d : Nat), d < e → bestI n up ranks roots costs d = p → nth (rolesB n up ranks roots costs e) p = 1
  | 0, _, h, _ => absurd h (by omega)
  | e + 1, d, h, hb => by
    have hl := rolesB_length n up ranks roots costs e
    rw [rolesB]
    by_cases hbe : bestI n up ranks roots costs e = p
    · rw [hbe, if_pos (by omega), nth, Int.toNat_natCast, List.getElem?_set_self (by omega)]
      rfl
    · have hde : d ≠ e := fun h => hbe (by rw [← h]; exact hb)
      have ih := rolesB_root n up ranks roots costs hp e d (by omega) hb
      split
      · rw [nth, List.getElem?_set_ne (by omega)]
        exact ih
      · exact ih

def rolesL (n : Net) (up : List Bool) (ranks roots costs : List Int) : List Int := rolesB n up ranks roots costs n.devices.length

theorem roles_get (hr : netRightB n = true) {p : Nat} (hp : p < n.ports.length) : nth (rolesL n up ranks roots costs) p = if bestI n up ranks roots costs (pdev n p) = p then 1 else role1 n up ranks costs p := by
  have hd := pdev_lt hr hp
  split
  · rename_i h
    refine rolesB_root n up ranks roots costs hp _ (pdev n p).toNat (by omega) ?_
    rw [Int.toNat_of_nonneg hd.1]
    exact h
  · rename_i h
    refine rolesB_other n up ranks roots costs hp _ (fun d _ hb => h ?_)
    obtain ⟨_, _, h2, _⟩ := best_hop hb
    rw [h2]
    exact hb

theorem role1_none {p : Nat} (h : farI n up p < 0) : role1 n up ranks costs p = 0 := by rw [role1, if_pos h]
theorem role1_hop {p q : Nat} (h : Hop n up p q) : role1 n up ranks costs p = if nth costs (pdev n p) < nth costs (pdev n q) ∨ (nth costs (pdev n p) = nth costs (pdev n q) ∧ nth ranks (pdev n p) < nth ranks (pdev n q)) then 2 else 3 := by
  rw [role1, h.2, if_neg (by omega), Int.toNat_natCast, spanAhead]
  have e1 : (n.ports.getD p default).dev = pdev n p := rfl
  have e2 : (n.ports.getD q default).dev = pdev n q := rfl
  simp only [e1, e2, Bool.or_eq_true, decide_eq_true_eq, Bool.and_eq_true, beq_iff_eq]

/-- A best port's other side is ahead of it. -/
theorem best_other (S : Solved n up ranks roots costs) (hr : netRightB n = true) (hcost : costsB n = true) {i j : Nat} (hij : Hop n up i j) (h : bestI n up ranks roots costs (pdev n i) = i) : nth (rolesL n up ranks roots costs) i = 1 ∧ nth (rolesL n up ranks roots costs) j = 2 := by
  have hj := hop_lt hr hij
  have hb := hop_back hr hij
  have hc := best_cost S hr hij h
  have hp := pcost_le hcost hij.1
  have hp2 := pcost_le hcost hj
  refine ⟨by rw [roles_get hr hij.1, if_pos h], ?_⟩
  rw [roles_get hr hj, if_neg (fun hbj => ?_), role1_hop hb, if_pos (.inl (by omega))]
  have := best_cost S hr hb hbj
  omega

/-- Which links forward. -/
def fwdB (roles : List Int) (l : Link) : Bool := inB [nth roles l.a, nth roles l.b] 1 && inB [nth roles l.a, nth roles l.b] 2
def fwdL (n : Net) (roles : List Int) : List Bool := n.links.map (fwdB roles)

theorem link_nat (hr : netRightB n = true) {k : Nat} (hk : k < n.links.length) : ∃ a b : Nat, n.links[k].a = a ∧ n.links[k].b = b ∧ a < n.ports.length ∧ b < n.ports.length ∧ pdev n a ≠ pdev n b ∧ (nth n.ports a).link = k ∧ (nth n.ports b).link = k := by
  have he := link_ends hr hk
  have hl := right_link hr hk
  simp only [linkB, Bool.and_eq_true, beq_iff_eq, bne_iff_ne] at hl
  have ea : ((n.links[k].a.toNat : Nat) : Int) = n.links[k].a := by omega
  have eb : ((n.links[k].b.toNat : Nat) : Int) = n.links[k].b := by omega
  exact ⟨n.links[k].a.toNat, n.links[k].b.toNat, ea.symm, eb.symm, by omega, by omega, by rw [pdev, pdev, ea, eb]; exact hl.1.1.2, by rw [ea]; exact hl.1.2, by rw [eb]; exact hl.2⟩

theorem link_hop (_hr : netRightB n = true) {k a b : Nat} (hk : k < n.links.length) (ha : n.links[k].a = a) (hb : n.links[k].b = b) (hla : (nth n.ports a).link = k) (hp : a < n.ports.length) (hu : up.getD k false = true) : Hop n up a b := by
  refine ⟨hp, ?_⟩
  unfold farI
  have e : n.ports.getD a default = nth n.ports a := rfl
  rw [e]
  simp only [hla, Int.toNat_natCast, hu]
  rw [if_neg (by simp), nth_eq (l := n.links) (i := (k : Int)) (by simpa using hk)]
  simp only [Int.toNat_natCast]
  omega
theorem link_down {k a : Nat} (hla : (nth n.ports a).link = k) (hu : up.getD k false = false) : farI n up a = -1 := by
  unfold farI
  have e : n.ports.getD a default = nth n.ports a := rfl
  rw [e]
  simp only [hla, Int.toNat_natCast, hu, Bool.not_false, Bool.or_true, if_true]

theorem fwd_iff (S : Solved n up ranks roots costs) (hr : netRightB n = true) (hcost : costsB n = true) {k a b : Nat} (hk : k < n.links.length) (ha : n.links[k].a = a) (hb : n.links[k].b = b) (hap : a < n.ports.length) (hbp : b < n.ports.length) (hla : (nth n.ports a).link = k) (hlb : (nth n.ports b).link = k) :
    fwdB (rolesL n up ranks roots costs) n.links[k] = true ↔ up.getD k false = true ∧ (bestI n up ranks roots costs (pdev n a) = a ∨ bestI n up ranks roots costs (pdev n b) = b) := by
  rw [fwdB, ha, hb]
  have hne : ∀ p : Nat, p < n.ports.length → nth (rolesL n up ranks roots costs) p = 1 → bestI n up ranks roots costs (pdev n p) = p := fun p hp h => by
    rw [roles_get hr hp] at h
    split at h
    · assumption
    · rw [role1] at h
      split at h
      · omega
      · split at h <;> omega
  constructor
  · intro h
    simp only [inB, List.any_cons, List.any_nil, Bool.or_false, Bool.and_eq_true, Bool.or_eq_true, beq_iff_eq] at h
    have hroot : bestI n up ranks roots costs (pdev n a) = a ∨ bestI n up ranks roots costs (pdev n b) = b := by
      rcases h.1 with h1 | h1
      · exact .inl (hne a hap h1)
      · exact .inr (hne b hbp h1)
    refine ⟨?_, hroot⟩
    cases hu : up.getD k false
    · rcases hroot with h1 | h1
      · obtain ⟨j, h2, _⟩ := best_hop h1
        have := h2.2
        rw [link_down hla hu] at this
        omega
      · obtain ⟨j, h2, _⟩ := best_hop h1
        have := h2.2
        rw [link_down hlb hu] at this
        omega
    · rfl
  · rintro ⟨hu, h | h⟩
    · have hop := link_hop hr hk ha hb hla hap hu
      obtain ⟨h1, h2⟩ := best_other S hr hcost hop h
      rw [h1, h2]
      rfl
    · have hop := hop_back hr (link_hop hr hk ha hb hla hap hu)
      obtain ⟨h1, h2⟩ := best_other S hr hcost hop h
      rw [h1, h2]
      rfl
end
end Go.Sy.YthbgklhegccckaaGreat

namespace Go.Sy.YthbgklhegccckaaGreat

def joinL (l : List Int) (x y : Int) : List Int := l.map fun z => if z = x then y else z
theorem joinL_length (l : List Int) (x y : Int) : (joinL l x y).length = l.length := by simp [joinL]
theorem joinL_nth {l : List Int} {x y d : Int} (h0 : 0 ≤ d) (h1 : d < l.length) : nth (joinL l x y) d = if nth l d = x then y else nth l d := by
  rw [nth_eq (by rw [joinL_length]; omega), nth_eq (by omega)]
  simp [joinL]

/-- Labels, once one more link is looked at. -/
def lab1 (n : Net) (f : List Bool) (l : List Int) (k : Nat) : List Int :=
  if f.getD k false then joinL l (nth l (pdev n (nth n.links k).a.toNat)) (nth l (pdev n (nth n.links k).b.toNat)) else l
def labL (n : Net) (f : List Bool) (k : Nat) : List Int := (List.range k).foldl (lab1 n f) (ordL n.devices.length)
theorem labL_succ (n : Net) (f : List Bool) (k : Nat) : labL n f (k + 1) = lab1 n f (labL n f k) k := by rw [labL, List.range_succ, List.foldl_append]; rfl
theorem labL_length (n : Net) (f : List Bool) : ∀ k, (labL n f k).length = n.devices.length
  | 0 => by simp [labL, ordL_length]
  | k + 1 => by
    rw [labL_succ, lab1]
    split
    · rw [joinL_length, labL_length]
    · exact labL_length n f k

section
variable {n : Net} {up : List Bool} {ranks roots costs : List Int}

/-- Where each device has come to, by the links that forward so far. -/
structure Tops (n : Net) (up : List Bool) (ranks roots costs : List Int) (f : List Bool) (k : Nat) (t : Int → Int) : Prop where
  lt : ∀ d : Int, 0 ≤ d → d < n.devices.length → 0 ≤ t d ∧ t d < n.devices.length
  some : ∀ a b : Int, 0 ≤ a → a < n.devices.length → 0 ≤ b → b < n.devices.length → (nth (labL n f k) a = nth (labL n f k) b ↔ t a = t b)
  down : ∀ d : Int, 0 ≤ d → d < n.devices.length → nth costs (t d) ≤ nth costs d
  root : ∀ d : Int, 0 ≤ d → d < n.devices.length → nth roots (t d) = nth roots d
  stay : ∀ d : Int, 0 ≤ d → d < n.devices.length → (∀ p : Nat, bestI n up ranks roots costs d = p → (k : Int) ≤ (nth n.ports p).link) → t d = d
  go : ∀ (d : Int) (p : Nat), 0 ≤ d → d < n.devices.length → bestI n up ranks roots costs d = p → (nth n.ports p).link < k → t d ≠ d
  idem : ∀ d : Int, 0 ≤ d → d < n.devices.length → t (t d) = t d
  all : ∀ a b : Int, 0 ≤ a → a < n.devices.length → 0 ≤ b → b < n.devices.length → t a = t b → nth (labL n up k) a = nth (labL n up k) b
  near : ∀ a b : Int, 0 ≤ a → a < n.devices.length → 0 ≤ b → b < n.devices.length → nth (labL n up k) a = nth (labL n up k) b → nth roots a = nth roots b

theorem ordL_nth {m : Nat} {d : Int} (h0 : 0 ≤ d) (h1 : d < m) : nth (ordL m) d = d := by
  rw [nth_eq (by rw [ordL_length]; omega)]
  simp only [ordL, List.getElem_map, List.getElem_range]
  omega

theorem tops_zero (f : List Bool) (hr : netRightB n = true) : Tops n up ranks roots costs f 0 (fun d => d) := by
  have e : ∀ f, labL n f 0 = ordL n.devices.length := fun f => rfl
  refine ⟨fun d h0 h1 => ⟨h0, h1⟩, fun a b h0 h1 h2 h3 => ?_, fun d _ _ => Int.le_refl _, fun d _ _ => rfl, fun d _ _ _ => rfl, fun d p h0 h1 hb hl => ?_, fun d _ _ => rfl, fun a b h0 h1 h2 h3 h => ?_, fun a b h0 h1 h2 h3 h => ?_⟩
  · rw [e, ordL_nth h0 h1, ordL_nth h2 h3]
  · obtain ⟨j, hh, _⟩ := best_hop hb
    obtain ⟨k, _, hk, _⟩ := hop_facts hr hh
    rw [hk] at hl
    omega
  · rw [show a = b from h]
  · rw [e, ordL_nth h0 h1, ordL_nth h2 h3] at h; rw [h]

/-- A link that does not forward. -/
theorem tops_skip {f : List Bool} {k : Nat} {t : Int → Int} (S : Solved n up ranks roots costs) (hr : netRightB n = true) (hcost : costsB n = true) (hf : f = fwdL n (rolesL n up ranks roots costs)) (hk : k < n.links.length) (T : Tops n up ranks roots costs f k t) (hn : f.getD k false = false) : Tops n up ranks roots costs f (k + 1) t := by
  obtain ⟨a, b, ha, hb, hap, hbp, hne, hla, hlb⟩ := link_nat hr hk
  have ek : nth n.links k = n.links[k] := nth_eq (l := n.links) (i := (k : Int)) (by simpa using hk)
  have es : labL n f (k + 1) = labL n f k := by rw [labL_succ, lab1, hn]; rfl
  have hfk : fwdB (rolesL n up ranks roots costs) n.links[k] = false := by
    rw [hf, getD_at (by simpa [fwdL] using hk)] at hn
    simpa [fwdL] using hn
  have hiff := fwd_iff S hr hcost hk ha hb hap hbp hla hlb
  rw [hfk] at hiff
  have hno : ∀ (d : Int) (p : Nat), bestI n up ranks roots costs d = p → (nth n.ports p).link ≠ k := fun d p hd hp => by
    obtain ⟨j, hh, hpd, _⟩ := best_hop hd
    obtain ⟨k', hk', h1, h2, h3, h4, _⟩ := hop_facts hr hh
    have : k' = k := by omega
    subst this
    rw [ek, ha, hb] at h4
    rw [← hpd] at hd
    have : ¬ (up.getD k' false = true ∧ (bestI n up ranks roots costs (pdev n a) = a ∨ bestI n up ranks roots costs (pdev n b) = b)) := fun h => by simpa using hiff.2 h
    rcases h4 with h4 | h4
    · have : p = a := by omega
      subst this
      exact this.elim ⟨h3, .inl hd⟩
    · have : p = b := by omega
      subst this
      exact this.elim ⟨h3, .inr hd⟩
  have hpa := pdev_lt hr hap
  have hpb := pdev_lt hr hbp
  refine ⟨T.lt, fun x y h0 h1 h2 h3 => by rw [es]; exact T.some x y h0 h1 h2 h3, T.down, T.root, fun d h0 h1 h => T.stay d h0 h1 fun p hp => ?_, fun d p h0 h1 hb hl => T.go d p h0 h1 hb ?_, T.idem, fun x y h0 h1 h2 h3 h => ?_, fun x y h0 h1 h2 h3 h => ?_⟩
  · have := h p hp; omega
  · have := hno d p hb; omega
  · have hx := T.all x y h0 h1 h2 h3 h
    rw [labL_succ, lab1]
    split
    · rw [joinL_nth h0 (by rw [labL_length]; omega), joinL_nth h2 (by rw [labL_length]; omega), hx]
    · exact hx
  · rw [labL_succ, lab1] at h
    split at h
    · rename_i hu
      have hop := link_hop hr hk ha hb hla hap hu
      have hroot := solved_root S hr hop
      rw [ek, ha, hb, Int.toNat_natCast, Int.toNat_natCast, joinL_nth h0 (by rw [labL_length]; omega), joinL_nth h2 (by rw [labL_length]; omega)] at h
      have n1 := T.near x y h0 h1 h2 h3
      have n2 := T.near x _ h0 h1 hpa.1 hpa.2
      have n3 := T.near y _ h2 h3 hpa.1 hpa.2
      have n4 := T.near x _ h0 h1 hpb.1 hpb.2
      have n5 := T.near y _ h2 h3 hpb.1 hpb.2
      clear T
      grind
    · exact T.near x y h0 h1 h2 h3 h

/-- A link that forwards: its ends were not joined, and are. -/
theorem tops_join {f : List Bool} {k : Nat} {t : Int → Int} (S : Solved n up ranks roots costs) (hr : netRightB n = true) (hcost : costsB n = true) (hf : f = fwdL n (rolesL n up ranks roots costs)) (hk : k < n.links.length) (T : Tops n up ranks roots costs f k t) (hn : f.getD k false = true) :
    up.getD k false = true ∧ nth (labL n f k) (pdev n (nth n.links k).a.toNat) ≠ nth (labL n f k) (pdev n (nth n.links k).b.toNat) ∧ ∃ t', Tops n up ranks roots costs f (k + 1) t' := by
  obtain ⟨a, b, ha, hb, hap, hbp, hne, hla, hlb⟩ := link_nat hr hk
  have ek : nth n.links k = n.links[k] := nth_eq (l := n.links) (i := (k : Int)) (by simpa using hk)
  have hfk : fwdB (rolesL n up ranks roots costs) n.links[k] = true := by
    rw [hf, getD_at (by simpa [fwdL] using hk)] at hn
    simpa [fwdL] using hn
  obtain ⟨hu, hbest⟩ := (fwd_iff S hr hcost hk ha hb hap hbp hla hlb).1 hfk
  have hop := link_hop hr hk ha hb hla hap hu
  have hpa := pdev_lt hr hap
  have hpb := pdev_lt hr hbp
  rw [ek, ha, hb, Int.toNat_natCast, Int.toNat_natCast]
  -- the child and its parent
  obtain ⟨c, p, hcp, hc, hl, hcase⟩ : ∃ c p : Nat, Hop n up c p ∧ bestI n up ranks roots costs (pdev n c) = c ∧ (nth n.ports c).link = k ∧ ((c = a ∧ p = b) ∨ (c = b ∧ p = a)) := by
    rcases hbest with h | h
    · exact ⟨a, b, hop, h, hla, .inl ⟨rfl, rfl⟩⟩
    · exact ⟨b, a, hop_back hr hop, h, hlb, .inr ⟨rfl, rfl⟩⟩
  have hpc := pdev_lt hr hcp.1
  have hpp := pdev_lt hr (hop_lt hr hcp)
  have hcost1 := best_cost S hr hcp hc
  have hc1 := pcost_le hcost hcp.1
  have hroot := solved_root S hr hcp
  have htc : t (pdev n c) = pdev n c := T.stay _ hpc.1 hpc.2 (fun q hq => by
    have : q = c := by omega
    subst this
    omega)
  have hdp := T.down _ hpp.1 hpp.2
  have htp : t (pdev n p) ≠ pdev n c := fun h => by rw [h] at hdp; omega
  have hcpne : nth (labL n f k) (pdev n c) ≠ nth (labL n f k) (pdev n p) := fun h => htp (by rw [← (T.some _ _ hpc.1 hpc.2 hpp.1 hpp.2).1 h, htc])
  refine ⟨hu, ?_, fun d => if t d = pdev n c then t (pdev n p) else t d, ?_⟩
  · rcases hcase with ⟨rfl, rfl⟩ | ⟨rfl, rfl⟩
    · exact hcpne
    · exact fun h => hcpne h.symm
  have eS : ∀ d : Int, 0 ≤ d → d < n.devices.length → nth (labL n f (k + 1)) d = if nth (labL n f k) d = nth (labL n f k) (pdev n a) then nth (labL n f k) (pdev n b) else nth (labL n f k) d := fun d h0 h1 => by
    rw [labL_succ, lab1, if_pos hn, ek, ha, hb, Int.toNat_natCast, Int.toNat_natCast, joinL_nth h0 (by rw [labL_length]; omega)]
  have eU : ∀ d : Int, 0 ≤ d → d < n.devices.length → nth (labL n up (k + 1)) d = if nth (labL n up k) d = nth (labL n up k) (pdev n a) then nth (labL n up k) (pdev n b) else nth (labL n up k) d := fun d h0 h1 => by
    rw [labL_succ, lab1, if_pos hu, ek, ha, hb, Int.toNat_natCast, Int.toNat_natCast, joinL_nth h0 (by rw [labL_length]; omega)]
  have hlast : ∀ (d : Int) (q : Nat), bestI n up ranks roots costs d = q → (nth n.ports q).link = k → d = pdev n c := fun d q hd hq => by
    obtain ⟨j, hh, hpd, _⟩ := best_hop hd
    obtain ⟨k', hk', h1, h2, h3, h4, _⟩ := hop_facts hr hh
    have : k' = k := by omega
    subst this
    rw [ek, ha, hb] at h4
    have hqc : q = c ∨ q = p := by omega
    rcases hqc with rfl | rfl
    · exact hpd.symm
    · exfalso
      rw [← hpd] at hd
      have hj : j = c := by omega
      subst hj
      have := best_cost S hr hh hd
      have := pcost_le hcost hh.1
      omega
  refine ⟨fun d h0 h1 => ?_, fun x y h0 h1 h2 h3 => ?_, fun d h0 h1 => ?_, fun d h0 h1 => ?_, fun d h0 h1 h => ?_, fun d q h0 h1 hb hl => ?_, fun d h0 h1 => ?_, fun x y h0 h1 h2 h3 h => ?_, fun x y h0 h1 h2 h3 h => ?_⟩
  · try dsimp only
    split
    · exact T.lt _ hpp.1 hpp.2
    · exact T.lt d h0 h1
  · rw [eS x h0 h1, eS y h2 h3]
    try dsimp only
    have s1 := T.some x y h0 h1 h2 h3
    have s2 := T.some x _ h0 h1 hpa.1 hpa.2
    have s3 := T.some x _ h0 h1 hpb.1 hpb.2
    have s4 := T.some y _ h2 h3 hpa.1 hpa.2
    have s5 := T.some y _ h2 h3 hpb.1 hpb.2
    have s6 := T.some _ _ hpa.1 hpa.2 hpb.1 hpb.2
    clear T eS eU hlast
    rcases hcase with ⟨rfl, rfl⟩ | ⟨rfl, rfl⟩
    · grind
    · grind
  · have h2 := T.down d h0 h1
    try dsimp only
    split
    · rename_i h; rw [h] at h2; omega
    · exact h2
  · have h2 := T.root d h0 h1
    have h3 := T.root _ hpp.1 hpp.2
    try dsimp only
    split
    · rename_i h; rw [h] at h2; omega
    · exact h2
  · have hd : t d = d := T.stay d h0 h1 fun q hq => by have := h q hq; omega
    try dsimp only
    rw [hd, if_neg]
    intro he
    have := h c (by rw [he]; exact hc)
    omega
  · try dsimp only
    have h2 := T.down d h0 h1
    split
    · rename_i h
      intro he
      rw [h] at h2
      rw [he] at hdp
      omega
    · rename_i h
      by_cases hk' : (nth n.ports q).link = k
      · have := hlast d q hb hk'
        subst this
        exact absurd htc h
      · exact T.go d q h0 h1 hb (by omega)
  · try dsimp only
    have i1 := T.idem d h0 h1
    have i2 := T.idem _ hpp.1 hpp.2
    split
    · rw [i2, if_neg htp]
    · rename_i h
      rw [i1, if_neg h]
  · rw [eU x h0 h1, eU y h2 h3]
    try dsimp only at h
    have s1 := T.all x y h0 h1 h2 h3
    have s2 := T.all x _ h0 h1 hpa.1 hpa.2
    have s3 := T.all x _ h0 h1 hpb.1 hpb.2
    have s4 := T.all y _ h2 h3 hpa.1 hpa.2
    have s5 := T.all y _ h2 h3 hpb.1 hpb.2
    clear T eS eU hlast
    rcases hcase with ⟨rfl, rfl⟩ | ⟨rfl, rfl⟩
    · grind
    · grind
  · rw [eU x h0 h1, eU y h2 h3] at h
    have hroot := solved_root S hr hop
    have n1 := T.near x y h0 h1 h2 h3
    have n2 := T.near x _ h0 h1 hpa.1 hpa.2
    have n3 := T.near y _ h2 h3 hpa.1 hpa.2
    have n4 := T.near x _ h0 h1 hpb.1 hpb.2
    have n5 := T.near y _ h2 h3 hpb.1 hpb.2
    clear T eS eU hlast
    grind

theorem tops_all {f : List Bool} (S : Solved n up ranks roots costs) (hr : netRightB n = true) (hcost : costsB n = true) (hf : f = fwdL n (rolesL n up ranks roots costs)) : ∀ k, k ≤ n.links.length → ∃ t, Tops n up ranks roots costs f k t
  | 0, _ => ⟨_, tops_zero f hr⟩
  | k + 1, hk => by
    obtain ⟨t, T⟩ := tops_all S hr hcost hf k (by omega)
    cases h : f.getD k false
    · exact ⟨t, tops_skip S hr hcost hf (by omega) T h⟩
    · exact (tops_join S hr hcost hf (by omega) T h).2.2

/-- In the end devices are joined by what forwards just if they are by what is up. -/
theorem tops_same {f : List Bool} (S : Solved n up ranks roots costs) (hr : netRightB n = true) (hcost : costsB n = true) (hf : f = fwdL n (rolesL n up ranks roots costs))
    (hinj : ∀ x y : Int, 0 ≤ x → x < n.devices.length → 0 ≤ y → y < n.devices.length → nth ranks x = nth ranks y → x = y) (x y : Int) (h0 : 0 ≤ x) (h1 : x < n.devices.length) (h2 : 0 ≤ y) (h3 : y < n.devices.length) :
    nth (labL n up n.links.length) x = nth (labL n up n.links.length) y ↔ nth (labL n f n.links.length) x = nth (labL n f n.links.length) y := by
  obtain ⟨t, T⟩ := tops_all S hr hcost hf n.links.length (Nat.le_refl _)
  have hown : ∀ d : Int, 0 ≤ d → d < n.devices.length → nth roots d = nth ranks (t d) := fun d h0 h1 => by
    have hl := T.lt d h0 h1
    rw [← T.root d h0 h1]
    by_cases h : nth roots (t d) = nth ranks (t d)
    · exact h
    · obtain ⟨i, j, e1, e2, e3, _⟩ := best_some S hr hl.1 hl.2 h
      obtain ⟨k, hk, h4, _⟩ := hop_facts hr e1
      exact absurd (T.idem d h0 h1) (T.go _ i hl.1 hl.2 e3 (by rw [h4]; omega))
  rw [T.some x y h0 h1 h2 h3]
  constructor
  · intro h
    have hx := T.lt x h0 h1
    have hy := T.lt y h2 h3
    refine hinj _ _ hx.1 hx.2 hy.1 hy.2 ?_
    rw [← hown x h0 h1, ← hown y h2 h3]
    exact T.near x y h0 h1 h2 h3 h
  · exact T.all x y h0 h1 h2 h3
end
end Go.Sy.YthbgklhegccckaaGreat

namespace Go.Sy.YthbgklhegccckaaGreat
open Go.Proofs

attribute [local irreducible] Go.Sy.G Go.Sy.DR
set_option maxRecDepth 100000
set_option maxHeartbeats 4000000

/-- May the tree be looked for? -/
def okB (n : Net) (up : List Bool) : Bool := decide (up.length = n.links.length) && (netRightB n && costsB n)
theorem ok_iff {n : Net} {up : List Bool} : okB n up = true ↔ up.length = n.links.length ∧ netRightB n = true ∧ costsB n = true := by simp [okB]
def rootsT (n : Net) (up : List Bool) : List Int := (reachT n up (ranksL n)).2.1
def costsT (n : Net) (up : List Bool) : List Int := (reachT n up (ranksL n)).2.2
def openSV (n : Net) (up : List Bool) : SV := spanSV n up (ranksL n) (rootsT n up) (costsT n up)

theorem openBad (n : Net) (up : List Bool) (hn : n.Fin) (h : okB n up = false) : Sy.Spec Tryz.prog 23 [netSV n, .sl 1 boolSV up] [] (.tup [.val (.pointer none), intSV 2]) [] := contract Γ hm 100 F23 Tryz.ntmps23 rfl fun F hF => by
  have h' : ¬ (up.length = n.links.length ∧ netRightB n = true ∧ costsB n = true) := fun hh => by rw [ok_iff.2 hh] at h; cases h
  ((conv => whnf); repeat ((first | refine aF ?_ | refine aT ?_); (first | refine run Γ hm 400 ?_ | refine runD Γ hm 400 (by kernel_rfl) ?_); conv => whnf))
  (repeat' (first | (refine ⟨fun h => ?_, fun h => ?_⟩ <;> (repeat (first | (simp only [decide_eq_true_eq] at h) | (simp only [decide_eq_false_iff_not] at h) | (simp only [beq_iff_eq] at h) | (simp only [beq_eq_false_iff_ne] at h) | (simp only [bne_iff_ne] at h) | (simp only [bne_eq_false_iff_eq] at h) | (simp only [Bool.and_eq_true] at h) | (simp only [Bool.or_eq_true] at h) | (simp only [Bool.and_eq_false_iff] at h) | (simp only [Bool.or_eq_false_iff] at h) | (simp only [Bool.not_eq_true'] at h) | (simp only [Bool.not_eq_false'] at h) | (simp only [Bool.not_eq_eq_eq_not] at h) | (simp only [Bool.not_true] at h) | (simp only [Bool.not_false] at h))) <;> ((first | refine run Γ hm 400 ?_ | refine runD Γ hm 400 (by kernel_rfl) ?_); (conv => whnf); repeat ((first | refine aF ?_ | refine aT ?_); (first | refine run Γ hm 400 ?_ | refine runD Γ hm 400 (by kernel_rfl) ?_); conv => whnf))) | (refine done0 rfl (.cons .tmp .nil) ?_ rfl) | (refine ⟨(by kernel_rfl), ?_⟩; ((conv => whnf); repeat ((first | refine aF ?_ | refine aT ?_); (first | refine run Γ hm 400 ?_ | refine runD Γ hm 400 (by kernel_rfl) ?_); conv => whnf))) | (refine ⟨by (first | (unfold I64; omega) | omega | (simp only [Int.toNat_natCast]; omega) | done), by (first | (unfold I64; omega) | omega | (simp only [Int.toNat_natCast]; omega) | done), ?_⟩; ((conv => whnf); repeat ((first | refine aF ?_ | refine aT ?_); (first | refine run Γ hm 400 ?_ | refine runD Γ hm 400 (by kernel_rfl) ?_); conv => whnf))) | (refine ⟨by (first | (unfold I64; omega) | omega | (simp only [Int.toNat_natCast]; omega) | done), ?_⟩; ((conv => whnf); repeat ((first | refine aF ?_ | refine aT ?_); (first | refine run Γ hm 400 ?_ | refine runD Γ hm 400 (by kernel_rfl) ?_); conv => whnf))) | (refine call0 (namesRightS n hn) F19 rfl rfl rfl rfl rfl ?_; ((first | refine run Γ hm 400 ?_ | refine runD Γ hm 400 (by kernel_rfl) ?_); (conv => whnf); repeat ((first | refine aF ?_ | refine aT ?_); (first | refine run Γ hm 400 ?_ | refine runD Γ hm 400 (by kernel_rfl) ?_); conv => whnf))) | (refine callD0 (namesRightS n hn) F19 rfl rfl rfl (by kernel_rfl) rfl ?_; ((first | refine run Γ hm 400 ?_ | refine runD Γ hm 400 (by kernel_rfl) ?_); (conv => whnf); repeat ((first | refine aF ?_ | refine aT ?_); (first | refine run Γ hm 400 ?_ | refine runD Γ hm 400 (by kernel_rfl) ?_); conv => whnf))) | (refine call0 (costsS n hn.ports) F20 rfl rfl rfl rfl rfl ?_; ((first | refine run Γ hm 400 ?_ | refine runD Γ hm 400 (by kernel_rfl) ?_); (conv => whnf); repeat ((first | refine aF ?_ | refine aT ?_); (first | refine run Γ hm 400 ?_ | refine runD Γ hm 400 (by kernel_rfl) ?_); conv => whnf))) | (refine callD0 (costsS n hn.ports) F20 rfl rfl rfl (by kernel_rfl) rfl ?_; ((first | refine run Γ hm 400 ?_ | refine runD Γ hm 400 (by kernel_rfl) ?_); (conv => whnf); repeat ((first | refine aF ?_ | refine aT ?_); (first | refine run Γ hm 400 ?_ | refine runD Γ hm 400 (by kernel_rfl) ?_); conv => whnf))) | (refine done0 rfl (.cons .tmp (.cons .tmp .nil)) rfl rfl)))
  all_goals exact absurd ⟨by omega, by assumption, by assumption⟩ h'

def fillR (m j : Nat) : List Int := List.replicate j (-1) ++ List.replicate (m - j) 0
theorem fillR_zero (m : Nat) : fillR m 0 = List.replicate m 0 := by simp [fillR]
theorem fillR_all (m : Nat) : fillR m m = List.replicate m (-1) := by simp [fillR]
theorem fillR_length (m j : Nat) (h : j ≤ m) : (fillR m j).length = m := by simp [fillR]; omega
theorem fillR_succ (m j : Nat) (h : j < m) : fillR m (j + 1) = (fillR m j).set j (-1) := by
  have e : m - j = (m - (j + 1)) + 1 := by omega
  rw [fillR, fillR, e, List.set_append_right _ _ (by simp), List.length_replicate, Nat.sub_self, List.replicate_succ' (n := j), List.replicate_succ (n := m - (j + 1))]
  simp

theorem openOK (n : Net) (up : List Bool) (hn : n.Fin) (hu : up.length = n.links.length) (hr : netRightB n = true) (hcost : costsB n = true) : Sy.Spec Tryz.prog 23 [netSV n, .sl 1 boolSV up] [] (.tup [openSV n up, intSV 0]) [] := contract Γ hm 100 F23 Tryz.ntmps23 rfl fun F hF => by
  have hf := right_few hr
  have hrt := namesRightS n hn
  have hct := costsS n hn.ports
  have hrs := ranksS n hn
  rw [hr] at hrt
  rw [hcost] at hct
  rw [hr, if_pos rfl] at hrs
  have hrk := ranksL_length n
  have hrr : ∀ r ∈ ranksL n, 0 ≤ r := fun r h => (ranks_range n r h).1
  have hsv : openSV n up = spanSV n up (ranksL n) (reachT n up (ranksL n)).2.1 (reachT n up (ranksL n)).2.2 := rfl
  rw [hsv]
  generalize ranksL n = ranks at *
  have hreach := fun D hD => reachS n up ranks (List.replicate n.devices.length (-1)) (List.replicate n.devices.length 0) hr hu hcost hrk (by simp) (by simp) hrr D hD
  have hRT : reachD n up (startQ ranks ranks.length, List.replicate n.devices.length (-1), List.replicate n.devices.length 0) = reachT n up ranks := rfl
  generalize reachT n up ranks = D at *
  have hreach := hreach D hRT
  clear hRT hsv
  ((conv => whnf); repeat ((first | refine aF ?_ | refine aT ?_); (first | refine run Γ hm 400 ?_ | refine runD Γ hm 400 (by kernel_rfl) ?_); conv => whnf))
  refine ⟨fun h => absurd h (by simp [hu]), fun h => ?_⟩
  ((first | refine run Γ hm 400 ?_ | refine runD Γ hm 400 (by kernel_rfl) ?_); (conv => whnf); repeat ((first | refine aF ?_ | refine aT ?_); (first | refine run Γ hm 400 ?_ | refine runD Γ hm 400 (by kernel_rfl) ?_); conv => whnf))
  refine call0 hrt F19 rfl rfl rfl rfl rfl ?_
  ((first | refine run Γ hm 400 ?_ | refine runD Γ hm 400 (by kernel_rfl) ?_); (conv => whnf); repeat ((first | refine aF ?_ | refine aT ?_); (first | refine run Γ hm 400 ?_ | refine runD Γ hm 400 (by kernel_rfl) ?_); conv => whnf))
  refine call0 hct F20 rfl rfl rfl rfl rfl ?_
  ((first | refine run Γ hm 400 ?_ | refine runD Γ hm 400 (by kernel_rfl) ?_); (conv => whnf); repeat ((first | refine aF ?_ | refine aT ?_); (first | refine run Γ hm 400 ?_ | refine runD Γ hm 400 (by kernel_rfl) ?_); conv => whnf))
  refine callD0 hrs F61 rfl rfl rfl (by kernel_rfl) rfl ?_
  ((first | refine run Γ hm 400 ?_ | refine runD Γ hm 400 (by kernel_rfl) ?_); (conv => whnf); repeat ((first | refine aF ?_ | refine aT ?_); (first | refine run Γ hm 400 ?_ | refine runD Γ hm 400 (by kernel_rfl) ?_); conv => whnf))
  refine stepD (good_makeSlice Γ.toTy (d := 31) (n := n.devices.length) intSV 0 rfl rfl rfl rfl rfl rfl rfl rfl (by omega) (by omega) rfl rfl rfl) (by kernel_rfl) rfl ?_
  ((first | refine run Γ hm 400 ?_ | refine runD Γ hm 400 (by kernel_rfl) ?_); (conv => whnf); repeat ((first | refine aF ?_ | refine aT ?_); (first | refine run Γ hm 400 ?_ | refine runD Γ hm 400 (by kernel_rfl) ?_); conv => whnf))
  refine stepD (good_makeSlice Γ.toTy (d := 35) (n := n.devices.length) intSV 0 rfl rfl rfl rfl rfl rfl rfl rfl (by omega) (by omega) rfl rfl rfl) (by kernel_rfl) rfl ?_
  ((first | refine run Γ hm 400 ?_ | refine runD Γ hm 400 (by kernel_rfl) ?_); (conv => whnf); repeat ((first | refine aF ?_ | refine aT ?_); (first | refine run Γ hm 400 ?_ | refine runD Γ hm 400 (by kernel_rfl) ?_); conv => whnf))
  refine ⟨(by kernel_rfl), ?_⟩
  ((conv => whnf); repeat ((first | refine aF ?_ | refine aT ?_); (first | refine run Γ hm 400 ?_ | refine runD Γ hm 400 (by kernel_rfl) ?_); conv => whnf))
  refine G_count n.devices.length (fun j => [(6, .ptr 37 0), (42, intSV (List.replicate n.devices.length (0 : Int)).length), (43, intSV j)]) (fun j => [(37, .box (spanL n up ranks (.osl 31) (.osl 35))), (31, .row 1 intSV (fillR n.devices.length j)), (35, .row 1 intSV (List.replicate n.devices.length 0))]) []
    ⟨⟨rfl, rfl, rfl, rfl, rfl, rfl, trivial⟩, ⟨.inl rfl, rfl, .inl (by rw [fillR_zero]; rfl), rfl, .inl rfl, rfl, trivial⟩, rfl, rfl⟩ ?_
  intro j hj
  have hlen := fillR_length n.devices.length j hj
  ((first | refine run Γ hm 400 ?_ | refine runD Γ hm 400 (by kernel_rfl) ?_); (conv => whnf); repeat ((first | refine aF ?_ | refine aT ?_); (first | refine run Γ hm 400 ?_ | refine runD Γ hm 400 (by kernel_rfl) ?_); conv => whnf))
  refine ⟨fun h => ?_, fun h => ?_⟩
  · have hlt : j < n.devices.length := by simpa using h
    have hsucc := fillR_succ n.devices.length j hlt
    generalize fillR n.devices.length j = u at *
    ((first | refine run Γ hm 400 ?_ | refine runD Γ hm 400 (by kernel_rfl) ?_); (conv => whnf); repeat ((first | refine aF ?_ | refine aT ?_); (first | refine run Γ hm 400 ?_ | refine runD Γ hm 400 (by kernel_rfl) ?_); conv => whnf))
    refine ⟨by omega, by omega, ?_⟩
    ((conv => whnf); repeat ((first | refine aF ?_ | refine aT ?_); (first | refine run Γ hm 400 ?_ | refine runD Γ hm 400 (by kernel_rfl) ?_); conv => whnf))
    refine ⟨rfl, by omega, -1, rfl, rfl, ?_⟩
    ((conv => whnf); repeat ((first | refine aF ?_ | refine aT ?_); (first | refine run Γ hm 400 ?_ | refine runD Γ hm 400 (by kernel_rfl) ?_); conv => whnf))
    refine ⟨by unfold I64; omega, ?_⟩
    ((conv => whnf); repeat ((first | refine aF ?_ | refine aT ?_); (first | refine run Γ hm 400 ?_ | refine runD Γ hm 400 (by kernel_rfl) ?_); conv => whnf))
    exact G_next [] hlt ⟨⟨rfl, rfl, rfl, rfl, rfl, rfl, trivial⟩, ⟨.inl rfl, rfl, .inl (congrArg (Ob.row 1 intSV) hsucc), rfl, .inl rfl, rfl, trivial⟩, rfl, rfl⟩
  have hjl : j = n.devices.length := by
    have : ¬ j < n.devices.length := by simpa using h
    omega
  subst hjl
  have hall := fillR_all n.devices.length
  rw [← hall] at hreach
  ((first | refine run Γ hm 400 ?_ | refine runD Γ hm 400 (by kernel_rfl) ?_); (conv => whnf); repeat ((first | refine aF ?_ | refine aT ?_); (first | refine run Γ hm 400 ?_ | refine runD Γ hm 400 (by kernel_rfl) ?_); conv => whnf))
  refine stepOp (good_call [(0, 37), (1, 31), (2, 35)] rfl F62 hreach rfl ⟨rfl, rfl, rfl, trivial⟩ rfl ⟨.inl rfl, .inl rfl, .inl rfl, trivial⟩) rfl rfl ?_
  refine G_data 31 rfl ?_
  refine G_data 35 rfl ?_
  refine G_box 37 12 (.agg (spanL n up ranks (.sl 1 intSV D.2.1) (.sl 1 intSV D.2.2))) rfl rfl rfl ?_
  ((first | refine run Γ hm 400 ?_ | refine runD Γ hm 400 (by kernel_rfl) ?_); (conv => whnf); repeat ((first | refine aF ?_ | refine aT ?_); (first | refine run Γ hm 400 ?_ | refine runD Γ hm 400 (by kernel_rfl) ?_); conv => whnf))
  exact done0 rfl (.cons .tmp (.cons .tmp .nil)) rfl rfl
end Go.Sy.YthbgklhegccckaaGreat
