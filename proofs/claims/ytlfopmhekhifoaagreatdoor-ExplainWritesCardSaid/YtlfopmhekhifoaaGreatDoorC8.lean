/-
  Contracts: vectors (package vector, palingref24), 1. Contracts: vectors (package vector, palingref24), 2: sorting. Contracts: vectors (package vector, palingref24), 3: ranks. The plain law of ranks: the program's are the document's.
-/
import Derived.Test.YtlfopmhekhifoaaGreatDoorC7

namespace Go.Sy.YtlfopmhekhifoaaGreatDoor
open Go.Proofs
-- SIMP: placeB

attribute [local irreducible] Go.Sy.G Go.Sy.DR
set_option maxRecDepth 20000
set_option maxHeartbeats 4000000

def cmpI (a b : Int) : Int := if a < b then -1 else if a > b then 1 else 0

/-- cmp.Or. -/
def orI : List Int → Int
  | [] => 0
  | x :: l => if x = 0 then orI l else x

theorem orI_skip : ∀ {l : List Int} {j : Nat}, (∀ i (h : i < l.length), i < j → l[i] = 0) → orI l = orI (l.drop j)
  | l, 0, _ => rfl
  | [], j + 1, _ => rfl
  | x :: l, j + 1, h => by
    have h0 := h 0 (by simp) (by omega)
    simp only [List.getElem_cons_zero] at h0
    rw [orI, if_pos h0, List.drop_succ_cons]
    exact orI_skip fun i hi hij => h (i + 1) (by simp; omega) (by omega)

theorem orI_cmp (a b : Int) (l : List Int) : decide (orI (cmpI a b :: l) < 0) = if a ≠ b then decide (a < b) else decide (orI l < 0) := by
  rw [orI, cmpI]
  by_cases h1 : a < b
  · simp [h1, show a ≠ b by omega]
  · by_cases h2 : a > b
    · simp [h1, h2, show a ≠ b by omega]
    · simp [show a = b by omega]

structure Vec where
  (root cost bridge port own : Int)
def vecSV (v : Vec) : SV := .agg [intSV v.root, intSV v.cost, intSV v.bridge, intSV v.port, intSV v.own]
def lessV (a b : Vec) : Bool :=
  if a.root ≠ b.root then decide (a.root < b.root) else if a.cost ≠ b.cost then decide (a.cost < b.cost) else if a.bridge ≠ b.bridge then decide (a.bridge < b.bridge) else
    if a.port ≠ b.port then decide (a.port < b.port) else decide (a.own < b.own)
end Go.Sy.YtlfopmhekhifoaaGreatDoor

namespace Go.Sy.YtlfopmhekhifoaaGreatDoor
open Go.Proofs
-- SIMP: placeB

attribute [local irreducible] Go.Sy.G Go.Sy.DR
set_option maxRecDepth 20000
set_option maxHeartbeats 4000000

/-- Put into a list that is sorted from its end on. -/
def insR (lt : Int → Int → Bool) (x : Int) : List Int → List Int
  | [] => [x]
  | y :: r => if lt x y then y :: insR lt x r else x :: y :: r
def isortR (lt : Int → Int → Bool) (l : List Int) : List Int := l.foldl (fun r x => insR lt x r) []
def isort (lt : Int → Int → Bool) (l : List Int) : List Int := (isortR lt l).reverse

theorem insR_perm (lt : Int → Int → Bool) (x : Int) : ∀ r, (insR lt x r).Perm (x :: r)
  | [] => .refl _
  | y :: r => by
    rw [insR]
    split
    · exact ((insR_perm lt x r).cons y).trans (.swap x y r)
    · exact .refl _
theorem foldl_insR_perm (lt : Int → Int → Bool) : ∀ (l r : List Int), (l.foldl (fun r x => insR lt x r) r).Perm (l ++ r)
  | [], r => .refl _
  | x :: l, r => by
    rw [List.foldl_cons]
    refine (foldl_insR_perm lt l _).trans ?_
    refine ((insR_perm lt x r).append_left l).trans ?_
    simp
theorem isortR_perm (lt : Int → Int → Bool) (l : List Int) : (isortR lt l).Perm l := by
  have := foldl_insR_perm lt l []
  simpa [isortR] using this
theorem isort_perm (lt : Int → Int → Bool) (l : List Int) : (isort lt l).Perm l := (List.reverse_perm _).trans (isortR_perm lt l)

theorem isortR_take (lt : Int → Int → Bool) (l : List Int) (i : Nat) (h : i < l.length) : isortR lt (l.take (i + 1)) = insR lt l[i] (isortR lt (l.take i)) := by
  rw [List.take_succ_eq_append_getElem h, isortR, List.foldl_append]
  rfl

theorem swap_eq (A B : List Int) (x y : Int) : ((A.reverse ++ y :: x :: B).set (A.length + 1) y).set A.length x = A.reverse ++ x :: y :: B := by
  rw [List.set_append_right _ _ (by simp), List.set_append_right _ _ (by simp)]
  simp

mutual
theorem inn_nil {K : List Nat} : ∀ x : SV, x.inn [] = true → x.inn K = true
  | .ptr _ _, h => by simp [SV.inn, memN] at h
  | .rpt _ _ _ _, h => by simp [SV.inn, memN] at h
  | .osl _, h => by simp [SV.inn, memN] at h
  | .agg l, h => by simp only [SV.inn] at h ⊢; exact innL_nil l h
  | .tup l, h => by simp only [SV.inn] at h ⊢; exact innL_nil l h
  | .ifc _ x, h => by simp only [SV.inn] at h ⊢; exact inn_nil x h
  | .clo _ f l, h => by simp only [SV.inn, Bool.and_eq_true] at h ⊢; exact ⟨innL_nil f h.1, innL_nil l h.2⟩
  | .top, _ => rfl
  | .val _, _ => rfl
  | .sl _ _ _, _ => rfl
  | .ref _ _ _, _ => rfl
theorem innL_nil {K : List Nat} : ∀ l : List SV, innL [] l = true → innL K l = true
  | [], _ => rfl
  | x :: l, h => by simp only [innL, Bool.and_eq_true] at h ⊢; exact ⟨inn_nil x h.1, innL_nil l h.2⟩
end
end Go.Sy.YtlfopmhekhifoaaGreatDoor

namespace Go.Sy.YtlfopmhekhifoaaGreatDoor
open Go.Proofs
-- SIMP: placeB

attribute [local irreducible] Go.Sy.G Go.Sy.DR
set_option maxRecDepth 20000
set_option maxHeartbeats 4000000

def keyC (n : Net) (a b : Int) : Int := orI [cmpI (nth n.devices a).prio (nth n.devices b).prio, cmpI (nth n.devices a).mac (nth n.devices b).mac]

def ordL (m : Nat) : List Int := (List.range m).map fun (i : Nat) => (i : Int)
theorem ordL_succ (m : Nat) : ordL (m + 1) = ordL m ++ [(m : Int)] := by simp [ordL, List.range_succ]
theorem ordL_length (m : Nat) : (ordL m).length = m := by simp [ordL]

def rankFill (ord : List Int) : Nat → List Int
  | 0 => List.replicate ord.length 0
  | j + 1 => (rankFill ord j).set (nth ord j).toNat j
theorem rankFill_length (ord : List Int) : ∀ j, (rankFill ord j).length = ord.length
  | 0 => by simp [rankFill]
  | j + 1 => by simp [rankFill, rankFill_length ord j]

def sortedL (n : Net) : List Int := isort (fun a b => decide (keyC n a b < 0)) (ordL n.devices.length)
def ranksL (n : Net) : List Int := rankFill (sortedL n) n.devices.length

/-- The document's ranks. -/
def aheadB (n : Net) (a b : Int) : Bool :=
  if (nth n.devices a).prio ≠ (nth n.devices b).prio then decide ((nth n.devices a).prio < (nth n.devices b).prio) else
    if (nth n.devices a).mac ≠ (nth n.devices b).mac then decide ((nth n.devices a).mac < (nth n.devices b).mac) else decide (a < b)

def refRanksL (n : Net) : List Int := (List.range n.devices.length).map fun (i : Nat) => (((List.range n.devices.length).countP fun k => aheadB n (k : Nat) i : Nat) : Int)
end Go.Sy.YtlfopmhekhifoaaGreatDoor

namespace Go.Sy.YtlfopmhekhifoaaGreatDoor

theorem key_lt (n : Net) (a b : Int) : decide (keyC n a b < 0) = if (nth n.devices a).prio ≠ (nth n.devices b).prio then decide ((nth n.devices a).prio < (nth n.devices b).prio) else
    if (nth n.devices a).mac ≠ (nth n.devices b).mac then decide ((nth n.devices a).mac < (nth n.devices b).mac) else false := by
  rw [keyC, orI_cmp, orI_cmp]
  rfl

theorem ahead_irrefl (n : Net) (a : Int) : aheadB n a a = false := by simp [aheadB]
theorem ahead_trans (n : Net) {a b c : Int} (h1 : aheadB n a b = true) (h2 : aheadB n b c = true) : aheadB n a c = true := by
  unfold aheadB at *
  generalize nth n.devices a = x at *
  generalize nth n.devices b = y at *
  generalize nth n.devices c = z at *
  grind
theorem ahead_asymm (n : Net) {a b : Int} (h1 : aheadB n a b = true) : aheadB n b a = false := by
  cases h : aheadB n b a with
  | false => rfl
  | true => have := ahead_trans n h1 h; rw [ahead_irrefl] at this; cases this

theorem key_ahead (n : Net) {x y : Int} (h : y < x) : decide (keyC n x y < 0) = aheadB n x y := by
  rw [key_lt]
  unfold aheadB
  generalize nth n.devices x = p at *
  generalize nth n.devices y = q at *
  grind
theorem key_not (n : Net) {x y : Int} (h : y < x) (hk : aheadB n x y = false) : aheadB n y x = true := by
  unfold aheadB at *
  generalize nth n.devices x = p at *
  generalize nth n.devices y = q at *
  grind

theorem insR_desc (n : Net) (x : Int) : ∀ (r : List Int), (∀ y ∈ r, y < x) → r.Pairwise (fun a b => aheadB n b a = true) → (insR (fun a b => decide (keyC n a b < 0)) x r).Pairwise (fun a b => aheadB n b a = true)
  | [], _, _ => by simp [insR]
  | y :: r, hx, hp => by
    have hy := hx y (by simp)
    rw [List.pairwise_cons] at hp
    rw [insR]
    split
    · rename_i hlt
      rw [key_ahead n hy] at hlt
      rw [List.pairwise_cons]
      refine ⟨fun z hz => ?_, insR_desc n x r (fun z hz => hx z (by simp [hz])) hp.2⟩
      rcases List.mem_cons.1 ((insR_perm _ x r).mem_iff.1 hz) with rfl | hz
      · exact hlt
      · exact hp.1 z hz
    · rename_i hlt
      rw [key_ahead n hy] at hlt
      have hyx := key_not n hy (by simpa using hlt)
      rw [List.pairwise_cons, List.pairwise_cons]
      refine ⟨fun z hz => ?_, hp⟩
      rcases List.mem_cons.1 hz with rfl | hz
      · exact hyx
      · exact ahead_trans n (hp.1 z hz) hyx

theorem isortR_desc (n : Net) : ∀ m, (isortR (fun a b => decide (keyC n a b < 0)) (ordL m)).Pairwise (fun a b => aheadB n b a = true)
  | 0 => by simp [isortR, ordL]
  | m + 1 => by
    rw [ordL_succ, isortR, List.foldl_append]
    refine insR_desc n m _ (fun y hy => ?_) (isortR_desc n m)
    have := (isortR_perm _ _).mem_iff.1 hy
    obtain ⟨i, hi, rfl⟩ := List.mem_map.1 this
    have := List.mem_range.1 hi
    omega

theorem sortedL_pairwise (n : Net) : (sortedL n).Pairwise (fun a b => aheadB n a b = true) := by
  rw [sortedL, isort, List.pairwise_reverse]
  exact isortR_desc n _

theorem sortedL_perm (n : Net) : (sortedL n).Perm (ordL n.devices.length) := isort_perm _ _

theorem count_place (n : Net) {l : List Int} (hp : l.Pairwise (fun a b => aheadB n a b = true)) (r : Nat) (hr : r < l.length) : l.countP (fun k => aheadB n k l[r]) = r := by
  have hsplit : l = l.take r ++ l[r] :: l.drop (r + 1) := by
    rw [← List.drop_eq_getElem_cons hr, List.take_append_drop]
  have h1 : (l.take r).countP (fun k => aheadB n k l[r]) = r := by
    rw [List.countP_eq_length.2 (fun k hk => ?_), List.length_take]
    · omega
    · obtain ⟨i, hi, rfl⟩ := List.mem_iff_getElem.1 hk
      simp only [List.length_take] at hi
      rw [List.getElem_take]
      exact List.pairwise_iff_getElem.1 hp i r (by omega) hr (by omega)
  have h2 : (l.drop (r + 1)).countP (fun k => aheadB n k l[r]) = 0 := by
    rw [List.countP_eq_zero]
    intro k hk
    obtain ⟨i, hi, rfl⟩ := List.mem_iff_getElem.1 hk
    simp only [List.length_drop] at hi
    rw [List.getElem_drop]
    have := List.pairwise_iff_getElem.1 hp r (r + 1 + i) hr (by omega) (by omega)
    simp [ahead_asymm n this]
  calc l.countP (fun k => aheadB n k l[r]) = (l.take r ++ l[r] :: l.drop (r + 1)).countP (fun k => aheadB n k l[r]) := congrArg _ hsplit
    _ = r := by rw [List.countP_append, List.countP_cons, h1, h2, ahead_irrefl]; simp

theorem rankFill_get (L : List Int) (hn : L.Nodup) (hm : ∀ a ∈ L, 0 ≤ a ∧ a < L.length) : ∀ (j : Nat), j ≤ L.length → ∀ (r : Nat) (hr : r < L.length), r < j → (rankFill L j)[L[r].toNat]? = some (r : Int)
  | 0, _, r, _, h => by omega
  | j + 1, hj, r, hr, h => by
    have hmr := hm _ (List.getElem_mem hr)
    have hlen := rankFill_length L j
    have hnth : nth L (j : Int) = L[j] := nth_eq (by simp; omega)
    rw [rankFill, hnth, List.getElem?_set]
    split
    · rename_i he
      have hmj := hm _ (List.getElem_mem (show j < L.length by omega))
      have hjr : L[j] = L[r] := by omega
      have : j = r := by
        have := (List.getElem_inj (i := j) (j := r) (h₀ := by omega) (h₁ := hr) hn).1 hjr
        exact this
      subst this
      rw [if_pos (by omega)]
    · rename_i he
      have hne : r ≠ j := fun e => he (by subst e; rfl)
      exact rankFill_get L hn hm j (by omega) r hr (by omega)

theorem ordL_nodup (m : Nat) : (ordL m).Nodup := by
  rw [ordL]
  exact List.Pairwise.map _ (fun (a b : Nat) (h : a ≠ b) => by intro e; exact h (by omega)) List.nodup_range

theorem ranks_eq (n : Net) : ranksL n = refRanksL n := by
  have hp := sortedL_perm n
  have hlen : (sortedL n).length = n.devices.length := by rw [hp.length_eq, ordL_length]
  have hnd : (sortedL n).Nodup := hp.nodup_iff.2 (ordL_nodup _)
  have hm : ∀ a ∈ sortedL n, 0 ≤ a ∧ a < (sortedL n).length := fun a ha => by
    obtain ⟨i, hi, rfl⟩ := List.mem_map.1 (hp.mem_iff.1 ha)
    have := List.mem_range.1 hi
    omega
  refine List.ext_getElem? fun i => ?_
  rcases Nat.lt_or_ge i n.devices.length with hi | hi
  · have hin : (i : Int) ∈ sortedL n := hp.mem_iff.2 (List.mem_map.2 ⟨i, List.mem_range.2 hi, rfl⟩)
    obtain ⟨r, hr, he⟩ := List.mem_iff_getElem.1 hin
    have h1 := rankFill_get (sortedL n) hnd hm n.devices.length (by omega) r hr (by omega)
    rw [he] at h1
    have h2 := count_place n (sortedL_pairwise n) r hr
    rw [he, hp.countP_eq] at h2
    rw [ranksL, refRanksL, List.getElem?_map, List.getElem?_range hi]
    simp only [Int.toNat_natCast] at h1
    rw [h1]
    simp only [Option.map_some]
    congr 2
    rw [← h2, ordL, List.countP_map]
    rfl
  · rw [List.getElem?_eq_none, List.getElem?_eq_none]
    · simp [refRanksL]; omega
    · rw [ranksL, rankFill_length]; omega
theorem G_vw {C : Cx} {k : List KI} {s : SS} (d : Nat) (x : SV) (h : Vw s [] (s.σ d) x) (hg : G C k ⟨upd s.σ d x, s.h⟩) : G C k s := fun κ a w hs =>
  hg κ a w ⟨hs.defers, hs.size, hs.inv, hs.ctx, fun i => by
    show Rd κ w (upd s.σ d x i) _
    by_cases hi : i = d
    · subst hi; rw [upd_self]; exact Vw.rd hs.inv (fun _ hn => by cases hn) h (hs.slot i)
    · rw [upd_ne _ _ hi]; exact hs.slot i, hs.obj⟩

end Go.Sy.YtlfopmhekhifoaaGreatDoor
