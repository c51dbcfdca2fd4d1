/-
  Contracts: spans (package tree), 5: what is reached. The heap's plain laws: what is in it. The heap's plain laws: it stays one. The heap's plain laws: what is taken off. What reach does: its measure, and what holds throughout. Contracts: spans (package tree), 6: reach.
-/
import Derived.Test.YthbgklhegccckaaGreatC11

namespace Go.Sy.YthbgklhegccckaaGreat
open Go.Proofs
-- SIMP: placeB
-- OM: (have hq := hle (by omega); unfold I64; omega)

attribute [local irreducible] Go.Sy.G Go.Sy.DR
set_option maxRecDepth 100000
set_option maxHeartbeats 4000000

/-- A span whose roots and costs are being written. -/
def spanO (n : Net) (up : List Bool) (ranks : List Int) (roots costs : List Int) : Obs := [(0, .box (spanL n up ranks (.osl 1) (.osl 2))), (1, .row 1 intSV roots), (2, .row 1 intSV costs)]

theorem farR (n : Net) (up : List Bool) (ranks roots costs : List Int) (i : Nat) (hr : netRightB n = true) (hu : up.length = n.links.length) (hi : i < n.ports.length) :
    Sy.Spec Tryz.prog 63 [.ptr 0 0, intSV i] (spanO n up ranks roots costs) (intSV (farI n up i)) (spanO n up ranks roots costs) := contract Γ hm 100 F63 Tryz.ntmps63 rfl fun F hF => by
  have hpl := port_link hr hi
  have hf := right_few hr
  have e1 : n.ports[(i : Int).toNat]'(by omega) = n.ports[i] := rfl
  have hfar : farI n up i = if n.ports[i].link < 0 || !(up.getD n.ports[i].link.toNat false) then -1 else (nth n.links n.ports[i].link).a + (nth n.links n.ports[i].link).b - i := by
    rw [farI, getD_at hi]
  generalize hp : n.ports[i] = p at *
  have hle := fun h => link_ends hr (i := p.link.toNat) h
  ((conv => whnf); repeat ((first | refine aF ?_ | refine aT ?_); (first | refine run Γ hm 400 ?_ | refine runD Γ hm 400 (by kernel_rfl) ?_); conv => whnf))
  refine ⟨rfl, by omega, by omega, ?_⟩
  rw [e1]
  ((conv => whnf); repeat ((first | refine aF ?_ | refine aT ?_); (first | refine run Γ hm 400 ?_ | refine runD Γ hm 400 (by kernel_rfl) ?_); conv => whnf))
  (repeat' (first | (refine ⟨fun h => ?_, fun h => ?_⟩ <;> (repeat (first | (simp only [placeB] at h) | (simp only [decide_eq_true_eq] at h) | (simp only [decide_eq_false_iff_not] at h) | (simp only [beq_iff_eq] at h) | (simp only [beq_eq_false_iff_ne] at h) | (simp only [bne_iff_ne] at h) | (simp only [bne_eq_false_iff_eq] at h) | (simp only [Bool.and_eq_true] at h) | (simp only [Bool.or_eq_true] at h) | (simp only [Bool.and_eq_false_iff] at h) | (simp only [Bool.or_eq_false_iff] at h) | (simp only [Bool.not_eq_true'] at h) | (simp only [Bool.not_eq_false'] at h) | (simp only [Bool.not_eq_eq_eq_not] at h) | (simp only [Bool.not_true] at h) | (simp only [Bool.not_false] at h))) <;> ((first | refine run Γ hm 400 ?_ | refine runD Γ hm 400 (by kernel_rfl) ?_); (conv => whnf); repeat ((first | refine aF ?_ | refine aT ?_); (first | refine run Γ hm 400 ?_ | refine runD Γ hm 400 (by kernel_rfl) ?_); conv => whnf))) | (refine done0 rfl (.cons .tmp .nil) ?_ rfl) | (refine ⟨(by kernel_rfl), ?_⟩; ((conv => whnf); repeat ((first | refine aF ?_ | refine aT ?_); (first | refine run Γ hm 400 ?_ | refine runD Γ hm 400 (by kernel_rfl) ?_); conv => whnf))) | (refine ⟨by (first | (unfold I64; omega) | omega | (simp only [Int.toNat_natCast]; omega) | (have hq := hle (by omega); unfold I64; omega)), by (first | (unfold I64; omega) | omega | (simp only [Int.toNat_natCast]; omega) | (have hq := hle (by omega); unfold I64; omega)), ?_⟩; ((conv => whnf); repeat ((first | refine aF ?_ | refine aT ?_); (first | refine run Γ hm 400 ?_ | refine runD Γ hm 400 (by kernel_rfl) ?_); conv => whnf))) | (refine ⟨by (first | (unfold I64; omega) | omega | (simp only [Int.toNat_natCast]; omega) | (have hq := hle (by omega); unfold I64; omega)), ?_⟩; ((conv => whnf); repeat ((first | refine aF ?_ | refine aT ?_); (first | refine run Γ hm 400 ?_ | refine runD Γ hm 400 (by kernel_rfl) ?_); conv => whnf))) | (refine done rfl (.cons .tmp .nil) [] (spanO n up ranks roots costs) (fun _ h => h) ?_ rfl ⟨trivial, ⟨.inl rfl, rfl, .inl rfl, rfl, .inl rfl, rfl, trivial⟩, rfl, rfl⟩)))
  all_goals (refine congrArg intSV ?_; rw [hfar])
  · simp_all
  · have h1 : up.getD p.link.toNat false = false := by rw [getD_at (by omega)]; assumption
    rw [h1]; simp
  · have h1 : up.getD p.link.toNat false = true := by rw [getD_at (by omega)]; assumption
    rw [h1, nth_eq (by omega)]
    simp_all

/-- One more in the heap: what a port's other side is, by this port. -/
def reachP (n : Net) (up : List Bool) (x : Item) (q : List Item) (i : Nat) : List Item :=
  if (n.ports.getD i default).dev = x.dev ∧ 0 ≤ farI n up i then pushH q ⟨x.root, x.cost + (nth n.ports (farI n up i)).cost, (nth n.ports (farI n up i)).dev⟩ else q

/-- The heap, the roots, the costs: behind one that is taken. -/
def reach1 (n : Net) (up : List Bool) (s : List Item × List Int × List Int) : List Item × List Int × List Int :=
  let x := (popL s.1).getLast?.getD default
  let q := (popL s.1).dropLast
  if 0 ≤ nth s.2.1 x.dev then (q, s.2) else ((List.range n.ports.length).foldl (reachP n up x) q, s.2.1.set x.dev.toNat x.root, s.2.2.set x.dev.toNat x.cost)

def reachF (n : Net) (up : List Bool) : Nat → List Item × List Int × List Int → List Item × List Int × List Int
  | 0, s => s
  | f + 1, s => if s.1 = [] then s else reachF n up f (reach1 n up s)
end Go.Sy.YthbgklhegccckaaGreat

namespace Go.Sy.YthbgklhegccckaaGreat

theorem swapL_perm (q : List Item) (i j : Nat) (hi : i < q.length) (hj : j < q.length) : (swapL q i j).Perm q := by
  rw [swapL, getD_at hi, getD_at hj]
  exact List.set_set_perm hi hj

theorem upF_perm : ∀ (f : Nat) (q : List Item) (j : Nat), j < q.length → (upF f q j).Perm q
  | 0, _, _, _ => .refl _
  | f + 1, q, j, hj => by
    rw [upF]
    split
    · exact .refl _
    · split
      · exact (upF_perm f _ _ (by rw [swapL_length]; omega)).trans (swapL_perm q _ _ (by omega) hj)
      · exact .refl _

theorem downF_perm : ∀ (f : Nat) (q : List Item) (i n : Nat), i < q.length → n ≤ q.length → (downF f q i n).1.Perm q
  | 0, _, _, _, _, _ => .refl _
  | f + 1, q, i, n, hi, hn => by
    rw [downF]
    split
    · rename_i h
      have hc := childN_lt q i n h
      split
      · exact (downF_perm f _ _ n (by rw [swapL_length]; omega) (by rw [swapL_length]; exact hn)).trans (swapL_perm q _ _ hi (by omega))
      · exact .refl _
    · exact .refl _

theorem pushH_perm (q : List Item) (x : Item) : (pushH q x).Perm (x :: q) :=
  (upF_perm _ _ _ (by simp)).trans (List.perm_append_comm (l₁ := q) (l₂ := [x]))
theorem pushH_length (q : List Item) (x : Item) : (pushH q x).length = q.length + 1 := by rw [pushH, upF_length]; simp

theorem popL_perm (q : List Item) (hq : q ≠ []) : (popL q).Perm q := by
  have h0 : 0 < q.length := List.length_pos_iff.2 hq
  exact (downF_perm _ _ _ _ (by rw [swapL_length]; exact h0) (by rw [swapL_length]; omega)).trans (swapL_perm q _ _ h0 (by omega))

/-! ### A heap -/
/-- Each is not ahead of the one above it; but for child c and what is over it. -/
def HeapN (q : List Item) (n : Nat) : Prop := ∀ c, 0 < c → c < n → c < q.length → itemLt (q.getD c default) (q.getD ((c - 1) / 2) default) = false

theorem item_trans {x y z : Item} (h1 : itemLt y x = false) (h2 : itemLt z y = false) : itemLt z x = false := by
  unfold itemLt at *
  grind

/-- The first of a heap is least. -/
theorem heap_first {q : List Item} {n : Nat} (h : HeapN q n) (hn : n ≤ q.length) : ∀ c, c < n → itemLt (q.getD c default) (q.getD 0 default) = false := by
  intro c
  induction c using Nat.strongRecOn with
  | ind c ih =>
    intro hc
    rcases Nat.eq_zero_or_pos c with h0 | h0
    · subst h0; unfold itemLt; grind
    · have h1 := h c h0 hc (by omega)
      have h2 := ih ((c - 1) / 2) (by omega) (by omega)
      exact item_trans h2 h1
end Go.Sy.YthbgklhegccckaaGreat

namespace Go.Sy.YthbgklhegccckaaGreat

theorem swap_get (q : List Item) (i j c : Nat) (hi : i < q.length) (hj : j < q.length) : (swapL q i j).getD c default = if c = j then q.getD i default else if c = i then q.getD j default else q.getD c default := by
  rw [swapL]
  simp only [List.getD_eq_getElem?_getD, List.getElem?_set, List.length_set]
  by_cases h1 : c = j
  · subst h1; simp [hj]
  · rw [if_neg (Ne.symm h1), if_neg h1]
    by_cases h2 : c = i
    · subst h2; simp [hi]
    · rw [if_neg (Ne.symm h2), if_neg h2]

theorem item_asymm {x y : Item} (h : itemLt x y = true) : itemLt y x = false := by
  unfold itemLt at *
  grind

structure UpInv (q : List Item) (j n : Nat) : Prop where
  heap : ∀ c, 0 < c → c < n → c ≠ j → itemLt (q.getD c default) (q.getD ((c - 1) / 2) default) = false
  over : ∀ c, 0 < c → c < n → (c - 1) / 2 = j → 0 < j → itemLt (q.getD c default) (q.getD ((j - 1) / 2) default) = false

theorem upF_heap (n : Nat) : ∀ (f : Nat) (q : List Item) (j : Nat), j ≤ f → j < n → n ≤ q.length → UpInv q j n → HeapN (upF f q j) n
  | 0, q, j, hf, hj, hn, hI => by
    have : j = 0 := by omega
    subst this
    exact fun c h0 hc _ => hI.heap c h0 hc (by omega)
  | f + 1, q, j, hf, hj, hn, hI => by
    rw [upF]
    split
    · rename_i h0
      subst h0
      exact fun c h0 hc _ => hI.heap c h0 hc (by omega)
    · rename_i h0
      split
      · rename_i hlt
        have hp : (j - 1) / 2 < j := by omega
        refine upF_heap n f _ _ (by omega) (by omega) (by rw [swapL_length]; exact hn) ⟨fun c hc0 hcn hcp => ?_, fun c hc0 hcn hpar hp0 => ?_⟩
        · rw [swap_get _ _ _ _ (by omega) (by omega), swap_get _ _ _ _ (by omega) (by omega)]
          by_cases hcj : c = j
          · subst hcj
            rw [if_pos rfl, if_neg (by omega), if_pos rfl]
            exact item_asymm hlt
          · rw [if_neg hcj, if_neg hcp]
            by_cases hpj : (c - 1) / 2 = j
            · rw [if_pos hpj]
              exact hI.over c hc0 hcn hpj (by omega)
            · rw [if_neg hpj]
              by_cases hpp : (c - 1) / 2 = (j - 1) / 2
              · rw [if_pos hpp]
                have := hI.heap c hc0 hcn hcj
                rw [hpp] at this
                exact item_trans (item_asymm hlt) this
              · rw [if_neg hpp]
                exact hI.heap c hc0 hcn hcj
        · rw [swap_get _ _ _ _ (by omega) (by omega), swap_get _ _ _ _ (by omega) (by omega)]
          have hpI := hI.heap ((j - 1) / 2) hp0 (by omega) (by omega)
          rw [if_neg (show ((j - 1) / 2 - 1) / 2 ≠ j by omega), if_neg (show ((j - 1) / 2 - 1) / 2 ≠ (j - 1) / 2 by omega)]
          by_cases hcj : c = j
          · rw [if_pos hcj]; exact hpI
          · rw [if_neg hcj, if_neg (by omega)]
            have := hI.heap c hc0 hcn hcj
            rw [hpar] at this
            exact item_trans hpI this
      · rename_i hlt
        intro c hc0 hcn _
        by_cases hcj : c = j
        · subst hcj; simpa using hlt
        · exact hI.heap c hc0 hcn hcj

theorem getD_append_left {q r : List Item} {c : Nat} (h : c < q.length) : (q ++ r).getD c default = q.getD c default := by
  simp [List.getD_eq_getElem?_getD, List.getElem?_append_left h]

/-- Pushed onto a heap. -/
theorem pushH_heap (q : List Item) (x : Item) (h : HeapN q q.length) : HeapN (pushH q x) (pushH q x).length := by
  rw [pushH_length]
  refine upF_heap (q.length + 1) _ _ _ (Nat.le_refl _) (by omega) (by simp) ⟨fun c hc0 hcn hcj => ?_, fun c hc0 hcn hpar hp0 => by omega⟩
  rw [getD_append_left (by omega), getD_append_left (by omega)]
  exact h c hc0 (by omega) (by omega)

structure DownInv (q : List Item) (i n : Nat) : Prop where
  heap : ∀ c, 0 < c → c < n → (c - 1) / 2 ≠ i → itemLt (q.getD c default) (q.getD ((c - 1) / 2) default) = false
  over : ∀ c, 0 < c → c < n → (c - 1) / 2 = i → 0 < i → itemLt (q.getD c default) (q.getD ((i - 1) / 2) default) = false

theorem childN_le (q : List Item) (i n c : Nat) (_h : 2 * i + 1 < n) (hc0 : 0 < c) (hc : c < n) (hp : (c - 1) / 2 = i) : itemLt (q.getD c default) (q.getD (childN q i n) default) = false := by
  have hcc : c = 2 * i + 1 ∨ c = 2 * i + 2 := by omega
  unfold childN
  split
  · rename_i hh
    rcases hcc with rfl | rfl
    · exact item_asymm hh.2
    · unfold itemLt; grind
  · rename_i hh
    rcases hcc with rfl | rfl
    · unfold itemLt; grind
    · cases hlt : itemLt (q.getD (2 * i + 2) default) (q.getD (2 * i + 1) default) with
      | false => rfl
      | true => exact absurd ⟨hc, hlt⟩ hh

theorem downF_heap (n : Nat) : ∀ (f : Nat) (q : List Item) (i : Nat), n ≤ f + i → i < q.length → n ≤ q.length → DownInv q i n → HeapN (downF f q i n).1 n
  | 0, q, i, hf, hi, hn, hI => fun c hc0 hc _ => hI.heap c hc0 hc (by omega)
  | f + 1, q, i, hf, hi, hn, hI => by
    rw [downF]
    split
    · rename_i h
      have hcl := childN_lt q i n h
      have hpar : (childN q i n - 1) / 2 = i := by unfold childN; split <;> omega
      have hle := fun c => childN_le q i n c h
      generalize childN q i n = k at *
      split
      · rename_i hlt
        refine downF_heap n f _ _ (by omega) (by rw [swapL_length]; omega) (by rw [swapL_length]; exact hn) ⟨fun c hc0 hcn hck => ?_, fun c hc0 hcn hcp hk0 => ?_⟩
        · rw [swap_get _ _ _ _ hi (by omega), swap_get _ _ _ _ hi (by omega), if_neg hck]
          by_cases hc1 : c = k
          · subst hc1
            rw [if_pos rfl, if_pos hpar]
            exact item_asymm hlt
          · rw [if_neg hc1]
            by_cases hc2 : c = i
            · subst hc2
              rw [if_pos rfl, if_neg (by omega)]
              exact hI.over k (by omega) hcl.1 hpar hc0
            · rw [if_neg hc2]
              by_cases hc3 : (c - 1) / 2 = i
              · rw [if_pos hc3]; exact hle c hc0 hcn hc3
              · rw [if_neg hc3]; exact hI.heap c hc0 hcn hc3
        · rw [swap_get _ _ _ _ hi (by omega), swap_get _ _ _ _ hi (by omega)]
          rw [if_neg (by omega), if_neg (by omega), hpar, if_neg (by omega), if_pos rfl]
          have := hI.heap c hc0 hcn (by omega)
          rwa [hcp] at this
      · rename_i hlt
        intro c hc0 hcn _
        by_cases hc3 : (c - 1) / 2 = i
        · rw [hc3]
          exact item_trans (by simpa using hlt) (hle c hc0 hcn hc3)
        · exact hI.heap c hc0 hcn hc3
    · exact fun c hc0 hc _ => hI.heap c hc0 hc (by omega)
end Go.Sy.YthbgklhegccckaaGreat

namespace Go.Sy.YthbgklhegccckaaGreat

theorem downF_rest (n : Nat) : ∀ (f : Nat) (q : List Item) (i c : Nat), i < n → n ≤ q.length → n ≤ c → (downF f q i n).1.getD c default = q.getD c default
  | 0, _, _, _, _, _, _ => rfl
  | f + 1, q, i, c, hi, hn, hc => by
    rw [downF]
    split
    · rename_i h
      have hcl := childN_lt q i n h
      split
      · rw [downF_rest n f _ _ c (by omega) (by rw [swapL_length]; exact hn) hc, swap_get _ _ _ _ (by omega) (by omega), if_neg (by omega), if_neg (by omega)]
      · rfl
    · rfl

theorem pop_last (q : List Item) (hq : q ≠ []) : (popL q).getLast (popL_ne hq) = q.getD 0 default := by
  have h0 : 0 < q.length := List.length_pos_iff.2 hq
  rw [List.getLast_eq_getElem, ← getD_at (show (popL q).length - 1 < (popL q).length by rw [popL_length]; omega), popL_length]
  by_cases h1 : q.length = 1
  · have : popL q = q := by
      obtain ⟨x, rfl⟩ := List.length_eq_one_iff.1 h1
      rfl
    rw [this, h1]
  · rw [popL, downF_rest _ _ _ _ _ (by omega) (by rw [swapL_length]; omega) (Nat.le_refl _), swap_get _ _ _ _ h0 (by omega), if_pos rfl]

theorem pop_split (q : List Item) (hq : q ≠ []) : (popL q).dropLast ++ [q.getD 0 default] = popL q := by
  rw [← pop_last q hq]; exact List.dropLast_concat_getLast (popL_ne hq)

/-- What is left and what is taken off is what was there. -/
theorem pop_rest (q : List Item) (hq : q ≠ []) : (q.getD 0 default :: (popL q).dropLast).Perm q :=
  ((List.perm_append_comm (l₁ := [q.getD 0 default]) (l₂ := (popL q).dropLast)).trans (by rw [pop_split q hq])).trans (popL_perm q hq)

/-- What is left of a heap is one. -/
theorem pop_heap (q : List Item) (hq : q ≠ []) (h : HeapN q q.length) : HeapN (popL q).dropLast (popL q).dropLast.length := by
  have h0 : 0 < q.length := List.length_pos_iff.2 hq
  have hd : (popL q).dropLast.length = q.length - 1 := by rw [List.length_dropLast, popL_length]
  have hh : HeapN (popL q) (q.length - 1) := by
    rw [popL]
    refine downF_heap (q.length - 1) _ _ _ (by omega) (by rw [swapL_length]; exact h0) (by rw [swapL_length]; omega) ⟨fun c hc0 hcn hp => ?_, fun c hc0 hcn hp h => by omega⟩
    rw [swap_get _ _ _ _ h0 (by omega), swap_get _ _ _ _ h0 (by omega), if_neg (by omega), if_neg (by omega), if_neg (by omega), if_neg hp]
    exact h c hc0 (by omega) (by omega)
  intro c hc0 hcn _
  rw [hd] at hcn
  have hl := popL_length q
  have e : ∀ k, k < q.length - 1 → (popL q).dropLast.getD k default = (popL q).getD k default := fun k hk => by
    rw [getD_at (show k < (popL q).dropLast.length by omega), getD_at (show k < (popL q).length by omega), List.getElem_dropLast]
  rw [e c hcn, e _ (by omega)]
  exact hh c hc0 hcn (by omega)

/-- What is taken off a heap is least of all that is there. -/
theorem pop_least (q : List Item) (h : HeapN q q.length) : ∀ x ∈ q, itemLt x (q.getD 0 default) = false := fun x hx => by
  obtain ⟨c, hc, rfl⟩ := List.getElem_of_mem hx
  have := heap_first h (Nat.le_refl _) c hc
  rwa [getD_at hc] at this
end Go.Sy.YthbgklhegccckaaGreat

namespace Go.Sy.YthbgklhegccckaaGreat

/-- The heap at the start: each device by itself. -/
def startQ (ranks : List Int) (j : Nat) : List Item := (List.range j).foldl (fun q (i : Nat) => pushH q ⟨ranks.getD i 0, 0, i⟩) []
theorem startQ_succ (ranks : List Int) (j : Nat) : startQ ranks (j + 1) = pushH (startQ ranks j) ⟨ranks.getD j 0, 0, j⟩ := by
  rw [startQ, List.range_succ, List.foldl_append]; rfl
theorem startQ_length (ranks : List Int) : ∀ j, (startQ ranks j).length = j
  | 0 => rfl
  | j + 1 => by rw [startQ_succ, pushH_length, startQ_length ranks j]


/-- How many devices are not reached. -/
def missN (roots : List Int) : Nat := roots.countP (fun r => decide (r < 0))
def reachM (s : List Item × List Int × List Int) : Nat := 41 * missN s.2.1 + s.1.length

structure ReachInv (n : Net) (s : List Item × List Int × List Int) : Prop where
  rootsL : s.2.1.length = n.devices.length
  costsL : s.2.2.length = n.devices.length
  items : ∀ x ∈ s.1, 0 ≤ x.dev ∧ x.dev < n.devices.length ∧ 0 ≤ x.root ∧ 0 ≤ x.cost ∧ x.cost + 65535 * missN s.2.1 ≤ 65535 * n.devices.length
  few : s.1.length + 40 * missN s.2.1 ≤ 1000

theorem missN_le (roots : List Int) : missN roots ≤ roots.length := List.countP_le_length

theorem missN_set {roots : List Int} {i : Nat} {v : Int} (h : i < roots.length) (h0 : roots[i] < 0) (hv : 0 ≤ v) : missN (roots.set i v) + 1 = missN roots := by
  have h1 : 0 < roots.countP (fun r => decide (r < 0)) := List.countP_pos_iff.2 ⟨roots[i], List.getElem_mem h, by simpa using h0⟩
  have hv' : ¬ v < 0 := by omega
  rw [missN, missN, List.countP_set h]
  simp only [h0, hv', decide_true, decide_false, if_true, Bool.false_eq_true, if_false]
  omega

/-- What holds while a device's ports are looked at: how many there are, and what each is. -/
theorem reachP_items (n : Net) (up : List Bool) (x : Item) (hr : netRightB n = true) (hcost : costsB n = true) {m : Nat} (hx : 0 ≤ x.root ∧ 0 ≤ x.cost ∧ x.cost + 65535 * (m + 1) ≤ 65535 * n.devices.length) (q : List Item)
    (hq : ∀ y ∈ q, 0 ≤ y.dev ∧ y.dev < n.devices.length ∧ 0 ≤ y.root ∧ 0 ≤ y.cost ∧ y.cost + 65535 * m ≤ 65535 * n.devices.length) (i : Nat) (hi : i < n.ports.length) :
    (∀ y ∈ reachP n up x q i, 0 ≤ y.dev ∧ y.dev < n.devices.length ∧ 0 ≤ y.root ∧ 0 ≤ y.cost ∧ y.cost + 65535 * m ≤ 65535 * n.devices.length) ∧ (reachP n up x q i).length ≤ q.length + 1 := by
  rw [reachP]
  split
  · rename_i h
    have hlt := far_lt hr hi h.2
    have hk : (farI n up i).toNat < n.ports.length := by omega
    have hd := port_dev hr hk
    have hpc : 1 ≤ n.ports[(farI n up i).toNat].cost ∧ n.ports[(farI n up i).toNat].cost ≤ 65535 := by
      simp only [costsB, Bool.not_eq_true', List.any_eq_false] at hcost
      have := hcost _ (List.getElem_mem hk)
      simp only [badCost, Bool.or_eq_true, decide_eq_true_eq, not_or] at this
      omega
    have e : nth n.ports (farI n up i) = n.ports[(farI n up i).toNat] := nth_eq (l := n.ports) (i := farI n up i) (by omega)
    rw [e]
    refine ⟨fun y hy => ?_, by rw [pushH_length]; omega⟩
    rcases List.mem_cons.1 ((pushH_perm q _).mem_iff.1 hy) with rfl | hy
    · simp only
      omega
    · exact hq y hy
  · exact ⟨hq, by omega⟩

/-- All of a device's ports. -/
theorem reachP_all (n : Net) (up : List Bool) (x : Item) (hr : netRightB n = true) (hcost : costsB n = true) {m : Nat} (hx : 0 ≤ x.root ∧ 0 ≤ x.cost ∧ x.cost + 65535 * (m + 1) ≤ 65535 * n.devices.length) (q : List Item)
    (hq : ∀ y ∈ q, 0 ≤ y.dev ∧ y.dev < n.devices.length ∧ 0 ≤ y.root ∧ 0 ≤ y.cost ∧ y.cost + 65535 * m ≤ 65535 * n.devices.length) : ∀ i, i ≤ n.ports.length →
    (∀ y ∈ (List.range i).foldl (reachP n up x) q, 0 ≤ y.dev ∧ y.dev < n.devices.length ∧ 0 ≤ y.root ∧ 0 ≤ y.cost ∧ y.cost + 65535 * m ≤ 65535 * n.devices.length) ∧ ((List.range i).foldl (reachP n up x) q).length ≤ q.length + i
  | 0, _ => ⟨hq, by simp⟩
  | i + 1, hi => by
    obtain ⟨h1, h2⟩ := reachP_all n up x hr hcost hx q hq i (by omega)
    rw [List.range_succ, List.foldl_append]
    obtain ⟨h3, h4⟩ := reachP_items n up x hr hcost hx _ h1 i (by omega)
    exact ⟨h3, by simp only [List.foldl_cons, List.foldl_nil]; omega⟩

theorem last_mem {q : List Item} (hq : q ≠ []) : (popL q).getLast?.getD default = (popL q).getLast (popL_ne hq) := by
  rw [List.getLast?_eq_some_getLast (popL_ne hq)]; rfl

/-- One step keeps it, and comes nearer. -/
theorem reach1_inv (n : Net) (up : List Bool) (hr : netRightB n = true) (hcost : costsB n = true) (s : List Item × List Int × List Int) (hI : ReachInv n s) (hne : s.1 ≠ []) : ReachInv n (reach1 n up s) ∧ reachM (reach1 n up s) < reachM s := by
  have hf := right_few hr
  have hx := hI.items _ ((popL_perm s.1 hne).mem_iff.1 (List.getLast_mem (popL_ne hne)))
  have hd : ∀ y ∈ (popL s.1).dropLast, y ∈ s.1 := fun y hy => (popL_perm s.1 hne).mem_iff.1 ((List.dropLast_sublist _).subset hy)
  have h0 : 0 < s.1.length := List.length_pos_iff.2 hne
  have hdl : (popL s.1).dropLast.length + 1 = s.1.length := by rw [List.length_dropLast, popL_length]; omega
  have hfew := hI.few
  rw [reach1, last_mem hne]
  generalize (popL s.1).getLast (popL_ne hne) = x at *
  split
  · exact ⟨⟨hI.rootsL, hI.costsL, fun y hy => hI.items y (hd y hy), by simp only; omega⟩, by unfold reachM; simp only; omega⟩
  · rename_i hneg
    have hk : x.dev.toNat < s.2.1.length := by rw [hI.rootsL]; omega
    rw [nth_eq (l := s.2.1) (i := x.dev) (by rw [hI.rootsL]; omega)] at hneg
    have hm := missN_set hk (by omega) hx.2.2.1
    obtain ⟨h1, h2⟩ := reachP_all n up x hr hcost (m := missN (s.2.1.set x.dev.toNat x.root)) ⟨hx.2.2.1, hx.2.2.2.1, by have := hx.2.2.2.2; omega⟩ (popL s.1).dropLast (fun y hy => by have := hI.items y (hd y hy); omega) n.ports.length (Nat.le_refl _)
    exact ⟨⟨by simp only [List.length_set]; exact hI.rootsL, by simp only [List.length_set]; exact hI.costsL, h1, by simp only; omega⟩, by unfold reachM; simp only; omega⟩

theorem reachF_fuel (n : Net) (up : List Bool) (hr : netRightB n = true) (hcost : costsB n = true) : ∀ (f g : Nat) (s : List Item × List Int × List Int), ReachInv n s → reachM s ≤ f → reachM s ≤ g → reachF n up f s = reachF n up g s
  | 0, 0, _, _, _, _ => rfl
  | 0, g + 1, s, _, h, _ => by
    have : s.1 = [] := List.eq_nil_of_length_eq_zero (by unfold reachM at h; omega)
    rw [reachF, reachF, if_pos this]
  | f + 1, 0, s, _, _, h => by
    have : s.1 = [] := List.eq_nil_of_length_eq_zero (by unfold reachM at h; omega)
    rw [reachF, reachF, if_pos this]
  | f + 1, g + 1, s, hI, h1, h2 => by
    rw [reachF, reachF]
    split
    · rfl
    · rename_i hne
      obtain ⟨h3, h4⟩ := reach1_inv n up hr hcost s hI hne
      exact reachF_fuel n up hr hcost f g _ h3 (by omega) (by omega)

/-- With as much fuel as there is to do. -/
def reachD (n : Net) (up : List Bool) (s : List Item × List Int × List Int) : List Item × List Int × List Int := reachF n up (reachM s) s
theorem reachD_nil (n : Net) (up : List Bool) (s : List Item × List Int × List Int) (h : s.1 = []) : reachD n up s = s := by
  rw [reachD]
  cases reachM s with
  | zero => rfl
  | succ m => rw [reachF, if_pos h]
theorem reachD_step (n : Net) (up : List Bool) (hr : netRightB n = true) (hcost : costsB n = true) (s : List Item × List Int × List Int) (hI : ReachInv n s) (hne : s.1 ≠ []) : reachD n up s = reachD n up (reach1 n up s) := by
  obtain ⟨h3, h4⟩ := reach1_inv n up hr hcost s hI hne
  rw [reachD, reachD]
  obtain ⟨m, hm⟩ : ∃ m, reachM s = m + 1 := ⟨reachM s - 1, by omega⟩
  rw [hm, reachF, if_neg hne]
  exact reachF_fuel n up hr hcost _ _ _ h3 (by omega) (Nat.le_refl _)

theorem start_items (ranks : List Int) (m : Nat) (hrr : ∀ r ∈ ranks, 0 ≤ r) : ∀ j, j ≤ ranks.length → ∀ y ∈ startQ ranks j, 0 ≤ y.dev ∧ y.dev < m + ranks.length ∧ 0 ≤ y.root ∧ y.cost = 0
  | 0, _, y, hy => by simp [startQ] at hy
  | j + 1, hj, y, hy => by
    rw [startQ_succ] at hy
    rcases List.mem_cons.1 ((pushH_perm _ _).mem_iff.1 hy) with rfl | hy
    · have h1 := hrr (ranks[j]'(by omega)) (List.getElem_mem _)
      have h2 : (0 : Int) ≤ (j : Int) ∧ (j : Int) < m + ranks.length := by omega
      exact ⟨h2.1, h2.2, by rw [getD_at (show j < ranks.length by omega)]; exact h1, rfl⟩
    · exact start_items ranks m hrr j (by omega) y hy

theorem start_inv (n : Net) (ranks roots costs : List Int) (hr : netRightB n = true) (hrk : ranks.length = n.devices.length) (hro : roots.length = n.devices.length) (hc : costs.length = n.devices.length) (hrr : ∀ r ∈ ranks, 0 ≤ r) : ReachInv n (startQ ranks ranks.length, roots, costs) := by
  have hf := right_few hr
  have hm := missN_le roots
  refine ⟨hro, hc, fun y hy => ?_, by simp only [startQ_length]; omega⟩
  have := start_items ranks 0 hrr _ (Nat.le_refl _) y hy
  simp only
  omega
end Go.Sy.YthbgklhegccckaaGreat

namespace Go.Sy.YthbgklhegccckaaGreat
open Go.Proofs
-- SIMP: placeB

/-- A row of known ones is a row. -/
theorem G_lit {C : Cx} {k : List KI} {s : SS} (d : Nat) {sz : Nat} {α : Type} (e : α → SV) (l : List α) {svs : List SV} (h : s.h d = .lit sz svs) (hl : l.map e = svs) (hg : G C k ⟨s.σ, upd s.h d (.row sz e l)⟩) : G C k s := fun κ a w hs => by
  refine hg κ a w ⟨hs.defers, hs.size, hs.inv, hs.ctx, hs.slot, fun j => ?_⟩
  show ObOK κ w j (upd s.h d (.row sz e l) j)
  by_cases hj : j = d
  · subst hj
    rw [upd_self]
    have hob := hs.obj j
    rw [h] at hob
    have hlen : l.length = svs.length := by rw [← hl, List.length_map]
    obtain ⟨b, cap, cs, T, fr, e1, e2, e3, e4, e5, e6⟩ := hob
    exact .inr ⟨b, cap, cs, T, fr, by rw [hlen]; exact e1, e2, e3, e4, by omega, fun i x hx => by rw [hlen]; exact e6 i x (rowF_lit hl i x hx)⟩
  · rw [upd_ne _ _ hj]; exact hs.obj j

attribute [local irreducible] Go.Sy.G Go.Sy.DR
set_option maxRecDepth 100000
set_option maxHeartbeats 4000000

theorem reachP_len (n : Net) (up : List Bool) (x : Item) (q : List Item) : ∀ i, ((List.range i).foldl (reachP n up x) q).length ≤ q.length + i
  | 0 => by simp
  | i + 1 => by
    have := reachP_len n up x q i
    rw [List.range_succ, List.foldl_append]
    simp only [List.foldl_cons, List.foldl_nil]
    rw [reachP]
    split
    · rw [pushH_length]; omega
    · omega

theorem reachS (n : Net) (up : List Bool) (ranks roots costs : List Int) (hr : netRightB n = true) (hu : up.length = n.links.length) (hcost : costsB n = true) (hrk : ranks.length = n.devices.length) (hro : roots.length = n.devices.length) (hc : costs.length = n.devices.length) (hrr : ∀ r ∈ ranks, 0 ≤ r) (D : List Item × List Int × List Int) (hD : reachD n up (startQ ranks ranks.length, roots, costs) = D) :
    Sy.Spec Tryz.prog 62 [.ptr 0 0] (spanO n up ranks roots costs) (.tup []) (spanO n up ranks D.2.1 D.2.2) := contract Γ hm 100 F62 Tryz.ntmps62 rfl fun F hF => by
  have hf := right_few hr
  ((conv => whnf); repeat ((first | refine aF ?_ | refine aT ?_); (first | refine run Γ hm 400 ?_ | refine runD Γ hm 400 (by kernel_rfl) ?_); conv => whnf))
  refine G_lit 10 itemSV [] rfl rfl ?_
  refine G_count ranks.length (fun j => [(0, .ptr 0 0), (2, .ptr 11 0), (15, .sl 1 intSV ranks), (16, intSV ranks.length), (17, intSV j)]) (fun j => [(0, .box (spanL n up ranks (.osl 1) (.osl 2))), (1, .row 1 intSV roots), (2, .row 1 intSV costs), (11, .box [.osl 12]), (12, .row 3 itemSV (startQ ranks j))]) [(12, 10)]
    ⟨⟨rfl, rfl, rfl, rfl, rfl, rfl, rfl, rfl, rfl, rfl, trivial⟩, ⟨.inl rfl, rfl, .inl rfl, rfl, .inl rfl, rfl, .inl rfl, rfl, .inl rfl, rfl, trivial⟩, rfl, rfl⟩ ?_
  intro j hj
  ((first | refine run Γ hm 400 ?_ | refine runD Γ hm 400 (by kernel_rfl) ?_); (conv => whnf); repeat ((first | refine aF ?_ | refine aT ?_); (first | refine run Γ hm 400 ?_ | refine runD Γ hm 400 (by kernel_rfl) ?_); conv => whnf))
  refine ⟨fun h => ?_, fun h => ?_⟩
  · have hlt : j < ranks.length := by simpa using h
    have e1 : ranks[(j : Int).toNat]'(by omega) = ranks[j] := rfl
    have hpush := heapPushS (startQ ranks j) ⟨ranks.getD j 0, 0, j⟩ (by rw [startQ_length]; omega)
    have hsucc := startQ_succ ranks j
    rw [getD_at (show j < ranks.length by omega)] at hpush hsucc
    ((first | refine run Γ hm 400 ?_ | refine runD Γ hm 400 (by kernel_rfl) ?_); (conv => whnf); repeat ((first | refine aF ?_ | refine aT ?_); (first | refine run Γ hm 400 ?_ | refine runD Γ hm 400 (by kernel_rfl) ?_); conv => whnf))
    refine ⟨by omega, by omega, ?_⟩
    ((conv => whnf); repeat ((first | refine aF ?_ | refine aT ?_); (first | refine run Γ hm 400 ?_ | refine runD Γ hm 400 (by kernel_rfl) ?_); conv => whnf))
    refine ⟨by omega, ?_⟩
    rw [e1]
    ((conv => whnf); repeat ((first | refine aF ?_ | refine aT ?_); (first | refine run Γ hm 400 ?_ | refine runD Γ hm 400 (by kernel_rfl) ?_); conv => whnf))
    refine stepOp (good_call [(0, 11), (1, 12), (2, 28)] rfl F110 hpush rfl ⟨rfl, rfl, trivial⟩ rfl ⟨.inl rfl, .inl rfl, .inr rfl, trivial⟩) rfl rfl ?_
    ((first | refine run Γ hm 400 ?_ | refine runD Γ hm 400 (by kernel_rfl) ?_); (conv => whnf); repeat ((first | refine aF ?_ | refine aT ?_); (first | refine run Γ hm 400 ?_ | refine runD Γ hm 400 (by kernel_rfl) ?_); conv => whnf))
    refine ⟨by unfold I64; omega, ?_⟩
    ((conv => whnf); repeat ((first | refine aF ?_ | refine aT ?_); (first | refine run Γ hm 400 ?_ | refine runD Γ hm 400 (by kernel_rfl) ?_); conv => whnf))
    refine G_next [(12, 28)] hlt ⟨⟨rfl, rfl, rfl, rfl, rfl, rfl, rfl, rfl, rfl, rfl, trivial⟩, ⟨.inl rfl, rfl, .inl rfl, rfl, .inl rfl, rfl, .inl rfl, rfl, .inl (congrArg (Ob.row 3 itemSV) hsucc), rfl, trivial⟩, rfl, rfl⟩
  · have hjl : j = ranks.length := by
      have : ¬ j < ranks.length := by simpa using h
      omega
    subst hjl
    ((first | refine run Γ hm 400 ?_ | refine runD Γ hm 400 (by kernel_rfl) ?_); (conv => whnf); repeat ((first | refine aF ?_ | refine aT ?_); (first | refine run Γ hm 400 ?_ | refine runD Γ hm 400 (by kernel_rfl) ?_); conv => whnf))
    refine G_loop (α := {s : List Item × List Int × List Int // ReachInv n s ∧ reachD n up s = D}) (fun p => [(0, .ptr 0 0), (2, .ptr 11 0)]) (fun p => [(0, .box (spanL n up ranks (.osl 1) (.osl 2))), (1, .row 1 intSV p.1.2.1), (2, .row 1 intSV p.1.2.2), (11, .box [.osl 12]), (12, .row 3 itemSV p.1.1)]) (fun p => reachM p.1) ⟨(startQ ranks ranks.length, roots, costs), start_inv n ranks roots costs hr hrk hro hc hrr, hD⟩ []
      ⟨⟨rfl, rfl, rfl, rfl, trivial⟩, ⟨.inl rfl, rfl, .inl rfl, rfl, .inl rfl, rfl, .inl rfl, rfl, .inl rfl, rfl, trivial⟩, rfl, rfl⟩ ?_
    rintro ⟨⟨q, ro, co⟩, hI, hDq⟩
    have hlen := queueLenS q
    have hdn := reachD_nil n up (q, ro, co)
    have hds := reachD_step n up hr hcost (q, ro, co) hI
    dsimp only at hdn hds ⊢
    ((first | refine run Γ hm 400 ?_ | refine runD Γ hm 400 (by kernel_rfl) ?_); (conv => whnf); repeat ((first | refine aF ?_ | refine aT ?_); (first | refine run Γ hm 400 ?_ | refine runD Γ hm 400 (by kernel_rfl) ?_); conv => whnf))
    refine stepOp (good_callK [12] rfl F111 hlen (.cons (.row rfl rfl) .nil) rfl rfl) rfl rfl ?_
    ((first | refine run Γ hm 400 ?_ | refine runD Γ hm 400 (by kernel_rfl) ?_); (conv => whnf); repeat ((first | refine aF ?_ | refine aT ?_); (first | refine run Γ hm 400 ?_ | refine runD Γ hm 400 (by kernel_rfl) ?_); conv => whnf))
    refine ⟨fun h2 => ?_, fun h2 => ?_⟩
    · have hne : q ≠ [] := fun e => by subst e; simp at h2
      have hpop := heapPopS q hne (by have := hI.few; simp only at this; omega)
      have hx := hI.items _ ((popL_perm q hne).mem_iff.1 (List.getLast_mem (popL_ne hne)))
      have hst : reach1 n up (q, ro, co) = if 0 ≤ nth ro ((popL q).getLast (popL_ne hne)).dev then ((popL q).dropLast, ro, co) else ((List.range n.ports.length).foldl (reachP n up ((popL q).getLast (popL_ne hne))) (popL q).dropLast, ro.set ((popL q).getLast (popL_ne hne)).dev.toNat ((popL q).getLast (popL_ne hne)).root, co.set ((popL q).getLast (popL_ne hne)).dev.toNat ((popL q).getLast (popL_ne hne)).cost) := by
        rw [reach1, last_mem hne]
      have hr1 := reach1_inv n up hr hcost (q, ro, co) hI hne
      have hD1 := hds hne
      rw [hDq] at hD1
      rw [hst] at hr1 hD1
      generalize (popL q).getLast (popL_ne hne) = x at *
      have hroL := hI.rootsL
      have hcoL := hI.costsL
      dsimp only at hroL hcoL
      rw [nth_eq (l := ro) (i := x.dev) (by omega)] at hr1 hD1
      ((first | refine run Γ hm 400 ?_ | refine runD Γ hm 400 (by kernel_rfl) ?_); (conv => whnf); repeat ((first | refine aF ?_ | refine aT ?_); (first | refine run Γ hm 400 ?_ | refine runD Γ hm 400 (by kernel_rfl) ?_); conv => whnf))
      refine stepOp (good_call [(0, 11), (1, 12), (2, 38)] rfl F112 hpop rfl ⟨rfl, rfl, trivial⟩ rfl ⟨.inl rfl, .inl rfl, .inr rfl, trivial⟩) rfl rfl ?_
      ((first | refine run Γ hm 400 ?_ | refine runD Γ hm 400 (by kernel_rfl) ?_); (conv => whnf); repeat ((first | refine aF ?_ | refine aT ?_); (first | refine run Γ hm 400 ?_ | refine runD Γ hm 400 (by kernel_rfl) ?_); conv => whnf))
      refine stepOp (good_assert Γ.toTy rfl rfl rfl rfl) rfl rfl ?_
      ((first | refine run Γ hm 400 ?_ | refine runD Γ hm 400 (by kernel_rfl) ?_); (conv => whnf); repeat ((first | refine aF ?_ | refine aT ?_); (first | refine run Γ hm 400 ?_ | refine runD Γ hm 400 (by kernel_rfl) ?_); conv => whnf))
      have hx1 := hx.1
      have hx2 := hx.2.1
      refine ⟨by omega, by omega, ?_⟩
      ((conv => whnf); repeat ((first | refine aF ?_ | refine aT ?_); (first | refine run Γ hm 400 ?_ | refine runD Γ hm 400 (by kernel_rfl) ?_); conv => whnf))
      refine ⟨rfl, by omega, ?_⟩
      ((conv => whnf); repeat ((first | refine aF ?_ | refine aT ?_); (first | refine run Γ hm 400 ?_ | refine runD Γ hm 400 (by kernel_rfl) ?_); conv => whnf))
      refine ⟨(by kernel_rfl), ?_⟩
      ((conv => whnf); repeat ((first | refine aF ?_ | refine aT ?_); (first | refine run Γ hm 400 ?_ | refine runD Γ hm 400 (by kernel_rfl) ?_); conv => whnf))
      refine ⟨fun h3 => ?_, fun h3 => ?_⟩
      · have h30 : 0 ≤ ro[x.dev.toNat]'(by omega) := of_decide_eq_true h3
        rw [if_pos h30] at hr1 hD1
        ((first | refine run Γ hm 400 ?_ | refine runD Γ hm 400 (by kernel_rfl) ?_); (conv => whnf); repeat ((first | refine aF ?_ | refine aT ?_); (first | refine run Γ hm 400 ?_ | refine runD Γ hm 400 (by kernel_rfl) ?_); conv => whnf))
        exact G_inv (α := {s : List Item × List Int × List Int // ReachInv n s ∧ reachD n up s = D}) (L := fun p => [(0, .ptr 0 0), (2, .ptr 11 0)]) (O := fun p => [(0, .box (spanL n up ranks (.osl 1) (.osl 2))), (1, .row 1 intSV p.1.2.1), (2, .row 1 intSV p.1.2.2), (11, .box [.osl 12]), (12, .row 3 itemSV p.1.1)]) (μ := fun p => reachM p.1) (x := ⟨(q, ro, co), hI, hDq⟩)
          ⟨((popL q).dropLast, ro, co), hr1.1, hD1.symm⟩ [(12, 38)] hr1.2
          ⟨⟨rfl, rfl, rfl, rfl, trivial⟩, ⟨.inl rfl, rfl, .inl rfl, rfl, .inl rfl, rfl, .inl rfl, rfl, .inl rfl, rfl, trivial⟩, rfl, rfl⟩
      · have h30 : ¬ 0 ≤ ro[x.dev.toNat]'(by omega) := of_decide_eq_false h3
        rw [if_neg h30] at hr1 hD1
        ((first | refine run Γ hm 400 ?_ | refine runD Γ hm 400 (by kernel_rfl) ?_); (conv => whnf); repeat ((first | refine aF ?_ | refine aT ?_); (first | refine run Γ hm 400 ?_ | refine runD Γ hm 400 (by kernel_rfl) ?_); conv => whnf))
        refine ⟨by omega, by omega, ?_⟩
        ((conv => whnf); repeat ((first | refine aF ?_ | refine aT ?_); (first | refine run Γ hm 400 ?_ | refine runD Γ hm 400 (by kernel_rfl) ?_); conv => whnf))
        refine ⟨by omega, by omega, ?_⟩
        ((conv => whnf); repeat ((first | refine aF ?_ | refine aT ?_); (first | refine run Γ hm 400 ?_ | refine runD Γ hm 400 (by kernel_rfl) ?_); conv => whnf))
        refine ⟨x.root, rfl, rfl, ?_⟩
        ((conv => whnf); repeat ((first | refine aF ?_ | refine aT ?_); (first | refine run Γ hm 400 ?_ | refine runD Γ hm 400 (by kernel_rfl) ?_); conv => whnf))
        refine ⟨by omega, by omega, rfl, by omega, x.cost, rfl, rfl, ?_⟩
        ((conv => whnf); repeat ((first | refine aF ?_ | refine aT ?_); (first | refine run Γ hm 400 ?_ | refine runD Γ hm 400 (by kernel_rfl) ?_); conv => whnf))
        refine ⟨(by kernel_rfl), ?_⟩
        ((conv => whnf); repeat ((first | refine aF ?_ | refine aT ?_); (first | refine run Γ hm 400 ?_ | refine runD Γ hm 400 (by kernel_rfl) ?_); conv => whnf))
        generalize ro.set x.dev.toNat x.root = ro' at *
        generalize co.set x.dev.toNat x.cost = co' at *
        refine G_count n.ports.length (fun j => [(0, .ptr 0 0), (2, .ptr 11 0), (5, .ptr 5 0), (77, .sl 7 portSV n.ports), (78, intSV n.ports.length), (79, intSV j)]) (fun j => [(0, .box (spanL n up ranks (.osl 1) (.osl 2))), (1, .row 1 intSV ro'), (2, .row 1 intSV co'), (5, .box [intSV x.root, intSV x.cost, intSV x.dev]), (11, .box [.osl 12]), (12, .row 3 itemSV ((List.range j).foldl (reachP n up x) (popL q).dropLast))]) [(12, 38)]
          ⟨⟨rfl, rfl, rfl, rfl, rfl, rfl, rfl, rfl, rfl, rfl, rfl, rfl, trivial⟩, ⟨.inl rfl, rfl, .inl rfl, rfl, .inl rfl, rfl, .inl rfl, rfl, .inl rfl, rfl, .inl rfl, rfl, trivial⟩, rfl, rfl⟩ ?_
        intro j hj
        ((first | refine run Γ hm 400 ?_ | refine runD Γ hm 400 (by kernel_rfl) ?_); (conv => whnf); repeat ((first | refine aF ?_ | refine aT ?_); (first | refine run Γ hm 400 ?_ | refine runD Γ hm 400 (by kernel_rfl) ?_); conv => whnf))
        refine ⟨fun h4 => ?_, fun h4 => ?_⟩
        · have hlt : j < n.ports.length := by simpa using h4
          have e1 : n.ports[(j : Int).toNat]'(by omega) = n.ports[j] := rfl
          have hfar := farR n up ranks ro' co' j hr hu hlt
          have hql : (popL q).dropLast.length ≤ q.length := by rw [List.length_dropLast, popL_length]; omega
          have hlenQ := reachP_len n up x (popL q).dropLast j
          have hfew := hI.few
          dsimp only at hfew
          have hsucc : (List.range (j + 1)).foldl (reachP n up x) (popL q).dropLast = reachP n up x ((List.range j).foldl (reachP n up x) (popL q).dropLast) j := by
            rw [List.range_succ, List.foldl_append]; rfl
          generalize (List.range j).foldl (reachP n up x) (popL q).dropLast = Q at *
          rw [reachP, getD_at hlt] at hsucc
          ((first | refine run Γ hm 400 ?_ | refine runD Γ hm 400 (by kernel_rfl) ?_); (conv => whnf); repeat ((first | refine aF ?_ | refine aT ?_); (first | refine run Γ hm 400 ?_ | refine runD Γ hm 400 (by kernel_rfl) ?_); conv => whnf))
          refine ⟨by omega, by omega, ?_⟩
          ((conv => whnf); repeat ((first | refine aF ?_ | refine aT ?_); (first | refine run Γ hm 400 ?_ | refine runD Γ hm 400 (by kernel_rfl) ?_); conv => whnf))
          refine ⟨by omega, ?_⟩
          rw [e1]
          ((conv => whnf); repeat ((first | refine aF ?_ | refine aT ?_); (first | refine run Γ hm 400 ?_ | refine runD Γ hm 400 (by kernel_rfl) ?_); conv => whnf))
          refine stepOp (good_call [] rfl F63 hfar rfl ⟨rfl, rfl, rfl, trivial⟩ rfl ⟨.inl rfl, .inl rfl, .inl rfl, trivial⟩) rfl rfl ?_
          ((first | refine run Γ hm 400 ?_ | refine runD Γ hm 400 (by kernel_rfl) ?_); (conv => whnf); repeat ((first | refine aF ?_ | refine aT ?_); (first | refine run Γ hm 400 ?_ | refine runD Γ hm 400 (by kernel_rfl) ?_); conv => whnf))
          refine ⟨fun h5 => ?_, fun h5 => ?_⟩
          · ((first | refine run Γ hm 400 ?_ | refine runD Γ hm 400 (by kernel_rfl) ?_); (conv => whnf); repeat ((first | refine aF ?_ | refine aT ?_); (first | refine run Γ hm 400 ?_ | refine runD Γ hm 400 (by kernel_rfl) ?_); conv => whnf))
            refine ⟨fun h6 => ?_, fun h6 => ?_⟩
            · have hk0 : 0 ≤ farI n up j := of_decide_eq_true h6
              have hk1 := far_lt (up := up) hr hlt hk0
              rw [if_pos ⟨by simpa using h5, hk0⟩, nth_eq (l := n.ports) (i := farI n up j) (by omega)] at hsucc
              have hpc : 1 ≤ (n.ports[(farI n up j).toNat]'(by omega)).cost ∧ (n.ports[(farI n up j).toNat]'(by omega)).cost ≤ 65535 := by
                simp only [costsB, Bool.not_eq_true', List.any_eq_false] at hcost
                have := hcost _ (List.getElem_mem (show (farI n up j).toNat < n.ports.length by omega))
                simp only [badCost, Bool.or_eq_true, decide_eq_true_eq, not_or] at this
                omega
              have hxc := hx.2.2.2
              have hpush := heapPushS Q ⟨x.root, x.cost + (n.ports[(farI n up j).toNat]'(by omega)).cost, (n.ports[(farI n up j).toNat]'(by omega)).dev⟩ (by omega)
              ((first | refine run Γ hm 400 ?_ | refine runD Γ hm 400 (by kernel_rfl) ?_); (conv => whnf); repeat ((first | refine aF ?_ | refine aT ?_); (first | refine run Γ hm 400 ?_ | refine runD Γ hm 400 (by kernel_rfl) ?_); conv => whnf))
              refine ⟨rfl, hk0, by omega, ?_⟩
              ((conv => whnf); repeat ((first | refine aF ?_ | refine aT ?_); (first | refine run Γ hm 400 ?_ | refine runD Γ hm 400 (by kernel_rfl) ?_); conv => whnf))
              refine ⟨by unfold I64; omega, ?_⟩
              ((conv => whnf); repeat ((first | refine aF ?_ | refine aT ?_); (first | refine run Γ hm 400 ?_ | refine runD Γ hm 400 (by kernel_rfl) ?_); conv => whnf))
              refine ⟨rfl, hk0, by omega, ?_⟩
              ((conv => whnf); repeat ((first | refine aF ?_ | refine aT ?_); (first | refine run Γ hm 400 ?_ | refine runD Γ hm 400 (by kernel_rfl) ?_); conv => whnf))
              refine stepD (good_call [(0, 11), (1, 12), (2, 123)] rfl F110 hpush rfl ⟨rfl, rfl, trivial⟩ rfl ⟨.inl rfl, .inl rfl, .inr rfl, trivial⟩) (by kernel_rfl) rfl ?_
              ((first | refine run Γ hm 400 ?_ | refine runD Γ hm 400 (by kernel_rfl) ?_); (conv => whnf); repeat ((first | refine aF ?_ | refine aT ?_); (first | refine run Γ hm 400 ?_ | refine runD Γ hm 400 (by kernel_rfl) ?_); conv => whnf))
              refine ⟨(by kernel_rfl), ?_⟩
              ((conv => whnf); repeat ((first | refine aF ?_ | refine aT ?_); (first | refine run Γ hm 400 ?_ | refine runD Γ hm 400 (by kernel_rfl) ?_); conv => whnf))
              refine ⟨by unfold I64; omega, ?_⟩
              ((conv => whnf); repeat ((first | refine aF ?_ | refine aT ?_); (first | refine run Γ hm 400 ?_ | refine runD Γ hm 400 (by kernel_rfl) ?_); conv => whnf))
              refine G_next [(12, 123)] hlt ⟨⟨rfl, rfl, rfl, rfl, rfl, rfl, rfl, rfl, rfl, rfl, rfl, rfl, trivial⟩, ⟨.inl rfl, rfl, .inl rfl, rfl, .inl rfl, rfl, .inl rfl, rfl, .inl rfl, rfl, .inl (congrArg (Ob.row 3 itemSV) hsucc), rfl, trivial⟩, rfl, rfl⟩
            · rw [if_neg (fun hh => (of_decide_eq_false h6) hh.2)] at hsucc
              ((first | refine run Γ hm 400 ?_ | refine runD Γ hm 400 (by kernel_rfl) ?_); (conv => whnf); repeat ((first | refine aF ?_ | refine aT ?_); (first | refine run Γ hm 400 ?_ | refine runD Γ hm 400 (by kernel_rfl) ?_); conv => whnf))
              refine ⟨by unfold I64; omega, ?_⟩
              ((conv => whnf); repeat ((first | refine aF ?_ | refine aT ?_); (first | refine run Γ hm 400 ?_ | refine runD Γ hm 400 (by kernel_rfl) ?_); conv => whnf))
              refine G_next [] hlt ⟨⟨rfl, rfl, rfl, rfl, rfl, rfl, rfl, rfl, rfl, rfl, rfl, rfl, trivial⟩, ⟨.inl rfl, rfl, .inl rfl, rfl, .inl rfl, rfl, .inl rfl, rfl, .inl rfl, rfl, .inl (congrArg (Ob.row 3 itemSV) hsucc), rfl, trivial⟩, rfl, rfl⟩
          · rw [if_neg (fun hh => absurd hh.1 (by simpa using h5))] at hsucc
            ((first | refine run Γ hm 400 ?_ | refine runD Γ hm 400 (by kernel_rfl) ?_); (conv => whnf); repeat ((first | refine aF ?_ | refine aT ?_); (first | refine run Γ hm 400 ?_ | refine runD Γ hm 400 (by kernel_rfl) ?_); conv => whnf))
            refine ⟨by unfold I64; omega, ?_⟩
            ((conv => whnf); repeat ((first | refine aF ?_ | refine aT ?_); (first | refine run Γ hm 400 ?_ | refine runD Γ hm 400 (by kernel_rfl) ?_); conv => whnf))
            refine G_next [] hlt ⟨⟨rfl, rfl, rfl, rfl, rfl, rfl, rfl, rfl, rfl, rfl, rfl, rfl, trivial⟩, ⟨.inl rfl, rfl, .inl rfl, rfl, .inl rfl, rfl, .inl rfl, rfl, .inl rfl, rfl, .inl (congrArg (Ob.row 3 itemSV) hsucc), rfl, trivial⟩, rfl, rfl⟩
        · have hjl : j = n.ports.length := by
            have : ¬ j < n.ports.length := by simpa using h4
            omega
          subst hjl
          ((first | refine run Γ hm 400 ?_ | refine runD Γ hm 400 (by kernel_rfl) ?_); (conv => whnf); repeat ((first | refine aF ?_ | refine aT ?_); (first | refine run Γ hm 400 ?_ | refine runD Γ hm 400 (by kernel_rfl) ?_); conv => whnf))
          exact G_inv (α := {s : List Item × List Int × List Int // ReachInv n s ∧ reachD n up s = D}) (L := fun p => [(0, .ptr 0 0), (2, .ptr 11 0)]) (O := fun p => [(0, .box (spanL n up ranks (.osl 1) (.osl 2))), (1, .row 1 intSV p.1.2.1), (2, .row 1 intSV p.1.2.2), (11, .box [.osl 12]), (12, .row 3 itemSV p.1.1)]) (μ := fun p => reachM p.1) (x := ⟨(q, ro, co), hI, hDq⟩)
            ⟨((List.range n.ports.length).foldl (reachP n up x) (popL q).dropLast, ro', co'), hr1.1, hD1.symm⟩ [] hr1.2
            ⟨⟨rfl, rfl, rfl, rfl, trivial⟩, ⟨.inl rfl, rfl, .inl rfl, rfl, .inl rfl, rfl, .inl rfl, rfl, .inl rfl, rfl, trivial⟩, rfl, rfl⟩
    · have he : q = [] := List.eq_nil_of_length_eq_zero (by
        have : ¬ 0 < q.length := by simpa using h2
        omega)
      have e : D = (q, ro, co) := by rw [← hDq, hdn he]
      rw [e]
      ((first | refine run Γ hm 400 ?_ | refine runD Γ hm 400 (by kernel_rfl) ?_); (conv => whnf); repeat ((first | refine aF ?_ | refine aT ?_); (first | refine run Γ hm 400 ?_ | refine runD Γ hm 400 (by kernel_rfl) ?_); conv => whnf))
      exact done_end rfl .nil [] (spanO n up ranks ro co) (fun _ h => h) rfl rfl ⟨trivial, ⟨.inl rfl, rfl, .inl rfl, rfl, .inl rfl, rfl, trivial⟩, rfl, rfl⟩
end Go.Sy.YthbgklhegccckaaGreat
