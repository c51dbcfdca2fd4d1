/-
  Plain law: the search's states are the document's ways. The document's way.
-/
import Derived.Test.YtlfopmhekhifoaaGreatDoorC29
import Derived.Test.YtlfopmhekhifoaaGreatDoorC22

namespace Go.Sy.YtlfopmhekhifoaaGreatDoor
open Go.Proofs

def wayOf (l : List Fnd) (i : Nat) : WayD := ⟨backT l i, decide ((nth l i).kind = 1)⟩
def waysOf (l : List Fnd) : List WayD := (List.range l.length).map (wayOf l)

theorem waysOf_length (l : List Fnd) : (waysOf l).length = l.length := by simp [waysOf]
theorem waysOf_get (l : List Fnd) (i : Nat) (h : i < (waysOf l).length) : (waysOf l)[i] = wayOf l i := by simp [waysOf]

theorem nth_append {α : Type} [Inhabited α] {l m : List α} {i : Int} (h : i.toNat < l.length) : nth (l ++ m) i = nth l i := by
  rw [nth, nth, List.getElem?_append_left h]

theorem backC_append {l m : List Fnd} (hB : Backs l) : ∀ (k : Nat) (i : Int), i < k → i < l.length → backC (l ++ m) i = backC l i := by
  intro k
  induction k with
  | zero =>
    intro i hi hl
    rw [backC, dif_neg (fun h => by omega), backC, dif_neg (fun h => by omega)]
  | succ k ih =>
    intro i hi hl
    by_cases h0 : 0 ≤ i
    · have hk : i.toNat < l.length := by omega
      have hb := hB i.toNat hk
      rw [backC, nth_append hk, backC.eq_1 l i, nth_eq hk, dif_pos ⟨h0, by omega⟩, dif_pos ⟨h0, by omega⟩]
      rw [ih _ (by omega) (by omega)]
    · rw [backC, dif_neg (fun h => h0 h.1), backC, dif_neg (fun h => h0 h.1)]

theorem backT_append {l m : List Fnd} (hB : Backs l) {i : Int} (h : i < l.length) : backT (l ++ m) i = backT l i := by
  rw [backT, backT, backC_append hB (i + 1).toNat i (by omega) h]

theorem backT_last {l : List Fnd} (hB : Backs l) {f : Fnd} (hf : -1 ≤ f.ahead ∧ f.ahead < l.length) : backT (l ++ [f]) l.length = backT l f.ahead ++ [f.hop] := by
  have e : nth (l ++ [f]) (l.length : Int) = f := by
    rw [nth_eq (l := l ++ [f]) (i := (l.length : Int)) (by simp)]
    simp
  rw [backT, backC, e, dif_pos ⟨by omega, by omega⟩, List.reverse_cons, backC_append hB (f.ahead + 1).toNat _ (by omega) (by omega)]
  rfl

theorem backT_none (l : List Fnd) : backT l (-1) = [] := by
  rw [backT, backC, dif_neg (fun h => by omega)]; rfl

theorem nth_last (u : List Hop) (x : Hop) : nth (u ++ [x]) (((u ++ [x]).length : Int) - 1) = x := by
  have e : (((u ++ [x]).length : Int) - 1).toNat = u.length := by simp
  rw [nth, e, List.getElem?_append_right (Nat.le_refl _)]
  simp

theorem end_of {l : List Fnd} (hB : Backs l) (hD : ∀ f ∈ l, f.hop.domain = f.domain) {i : Nat} (hi : i < l.length) : (wayOf l i).end_ = (nth l i).domain := by
  have hk : ((i : Nat) : Int).toNat < l.length := by simpa using hi
  have hb := hB ((i : Nat) : Int).toNat hk
  have hd := hD _ (List.getElem_mem hk)
  have e : backT l i = (backC l (nth l i).ahead).reverse ++ [(nth l i).hop] := by
    rw [backT, backC, dif_pos ⟨by omega, by rw [nth_eq hk]; omega⟩, List.reverse_cons]
  rw [WayD.end_, wayOf]
  dsimp only
  rw [e]
  have e2 : nth ((backC l (nth l i).ahead).reverse ++ [(nth l i).hop]) ((((backC l (nth l i).ahead).reverse ++ [(nth l i).hop]).length : Int) - 1) = (nth l i).hop := by
    exact nth_last _ _
  rw [e2, nth_eq hk, hd]

/-- What the search's marks say. -/
structure Met (n : Net) (S : Srch) : Prop where
  ok : S.OK n
  bk : Backs S.list
  dom : ∀ f ∈ S.list, f.hop.domain = f.domain
  m : ∀ d : Int, 0 ≤ d ∧ d.toNat < n.domains.length → ∀ k : Int, (k = 0 ∨ k = 1) → (metB S d k = true ↔ ∃ f ∈ S.list, f.domain = d ∧ f.kind = k)

theorem nth_set {l : List Bool} {a b : Nat} (hb : b < l.length) : (l.set a true)[b]? = if a = b then some true else l[b]? := by
  rw [List.getElem?_set]
  split
  · rename_i h; subst h; simp [hb]
  · rfl

theorem metB_meetN {n : Net} {S : Srch} (hS : S.OK n) {d k : Int} (hd : 0 ≤ d ∧ d.toNat < n.domains.length) (hk : k = 0 ∨ k = 1) (h : Hop) (a : Int) (d2 k2 : Int) (hd2 : 0 ≤ d2 ∧ d2.toNat < n.domains.length) (hk2 : k2 = 0 ∨ k2 = 1) :
    metB (meetN S d k h a) d2 k2 = true ↔ metB S d2 k2 = true ∨ (d2 = d ∧ k2 = k) := by
  have h0 : d2.toNat < S.m0.length := by rw [hS.l0]; exact hd2.2
  have h1 : d2.toNat < S.m1.length := by rw [hS.l1]; exact hd2.2
  have e : (d.toNat = d2.toNat) ↔ d2 = d := by omega
  rcases hk with rfl | rfl <;> rcases hk2 with rfl | rfl
  · rw [meetN, if_pos rfl, metB, if_pos rfl, metB, if_pos rfl, nth, nth, nth_set h0]
    by_cases h : d2 = d
    · rw [if_pos (e.2 h)]; simp [h]
    · rw [if_neg (fun x => h (e.1 x))]; simp [h]
  · rw [meetN, if_pos rfl, metB, if_neg (by decide), metB, if_neg (by decide)]
    simp
  · rw [meetN, if_neg (by decide), metB, if_pos rfl, metB, if_pos rfl]
    simp
  · rw [meetN, if_neg (by decide), metB, if_neg (by decide), metB, if_neg (by decide), nth, nth, nth_set h1]
    by_cases h : d2 = d
    · rw [if_pos (e.2 h)]; simp [h]
    · rw [if_neg (fun x => h (e.1 x))]; simp [h]

theorem meetN_list (S : Srch) (d k : Int) (h : Hop) (a : Int) : (meetN S d k h a).list = S.list ++ [⟨d, k, h, a⟩] := by
  rw [meetN]; split <;> rfl

theorem Met.meet {n : Net} {S : Srch} (hS : Met n S) {d k : Int} (hd : 0 ≤ d ∧ d.toNat < n.domains.length) (hk : k = 0 ∨ k = 1) {h : Hop} (hh : h.domain = d) {a : Int} (ha : -1 ≤ a ∧ a < S.list.length) : Met n (meetT S d k h a) where
  ok := hS.ok.meet hd hk h a
  bk := (hS.bk.meet d k h ha).1
  dom := by
    rw [meetT]
    split
    · exact hS.dom
    · rw [meetN_list]
      intro f hf
      rcases List.mem_append.1 hf with h1 | h1
      · exact hS.dom f h1
      · rw [List.mem_singleton.1 h1]; exact hh
  m := by
    rw [meetT]
    split
    · exact hS.m
    · intro d2 hd2 k2 hk2
      rw [metB_meetN hS.ok hd hk h a d2 k2 hd2 hk2, hS.m d2 hd2 k2 hk2, meetN_list]
      constructor
      · rintro (⟨f, hf, h1⟩ | ⟨rfl, rfl⟩)
        · exact ⟨f, List.mem_append_left _ hf, h1⟩
        · exact ⟨_, List.mem_append_right _ (List.mem_singleton.2 rfl), rfl, rfl⟩
      · rintro ⟨f, hf, h1, h2⟩
        rcases List.mem_append.1 hf with h3 | h3
        · exact .inl ⟨f, h3, h1, h2⟩
        · rw [List.mem_singleton.1 h3] at h1 h2
          exact .inr ⟨h1.symm, h2.symm⟩

theorem metW_is {n : Net} {S : Srch} (hS : Met n S) {d : Int} (hd : 0 ≤ d ∧ d.toNat < n.domains.length) (r : Bool) : metW (waysOf S.list) d r = metB S d (if r then 1 else 0) := by
  rw [Bool.eq_iff_iff, hS.m d hd _ (by cases r <;> simp), metW, List.any_eq_true]
  constructor
  · rintro ⟨w, hw, hs⟩
    obtain ⟨i, hi, rfl⟩ := List.getElem_of_mem hw
    rw [waysOf_get] at hs
    rw [waysOf_length] at hi
    have hk : ((i : Nat) : Int).toNat < S.list.length := by simpa using hi
    rw [sameW, end_of hS.bk hS.dom hi, wayOf, nth_eq hk, Bool.and_eq_true] at hs
    have ha := (hS.ok.at_ _ (List.getElem_mem hk)).2
    refine ⟨_, List.getElem_mem hk, by simpa using hs.1, ?_⟩
    have h2 : decide ((S.list[((i : Nat) : Int).toNat]'hk).kind = 1) = r := by simpa using hs.2
    cases r
    · have := of_decide_eq_false h2
      simp only [Bool.false_eq_true, if_false]
      omega
    · exact of_decide_eq_true h2
  · rintro ⟨f, hf, h1, h2⟩
    obtain ⟨i, hi, rfl⟩ := List.getElem_of_mem hf
    have hk : ((i : Nat) : Int).toNat < S.list.length := by simpa using hi
    refine ⟨wayOf S.list i, List.mem_map.2 ⟨i, List.mem_range.2 hi, rfl⟩, ?_⟩
    have e : S.list[((i : Nat) : Int).toNat]'hk = S.list[i] := rfl
    rw [sameW, end_of hS.bk hS.dom hi, wayOf, nth_eq hk, e, h1, h2]
    cases r <;> simp

theorem waysOf_snoc {l : List Fnd} (hB : Backs l) {f : Fnd} (hf : -1 ≤ f.ahead ∧ f.ahead < l.length) : waysOf (l ++ [f]) = waysOf l ++ [⟨backT l f.ahead ++ [f.hop], decide (f.kind = 1)⟩] := by
  have e : nth (l ++ [f]) (l.length : Int) = f := by
    rw [nth_eq (l := l ++ [f]) (i := (l.length : Int)) (by simp)]
    simp
  rw [waysOf, List.length_append, List.length_singleton, List.range_succ, List.map_append]
  congr 1
  · rw [waysOf]
    apply List.map_congr_left
    intro i hi
    have hi := List.mem_range.1 hi
    rw [wayOf, wayOf, backT_append hB (by omega), nth_append (by simpa using hi)]
  · simp only [List.map_cons, List.map_nil]
    rw [wayOf, backT_last hB hf, e]

theorem more_is {n : Net} {S : Srch} (hS : Met n S) {w : WayD} {h : Hop} {r : Bool} {a : Int} (hd : 0 ≤ h.domain ∧ h.domain.toNat < n.domains.length) (ha : -1 ≤ a ∧ a < S.list.length) (hw : w.hops = backT S.list a) :
    moreT (waysOf S.list) w h r = waysOf (meetT S h.domain (if r then 1 else 0) h a).list := by
  rw [moreT, metW_is hS hd r, meetT]
  by_cases hm2 : metB S h.domain (if r = true then 1 else 0) = true
  · rw [if_pos hm2, if_pos hm2]
  · rw [if_neg hm2, if_neg hm2, meetN_list, waysOf_snoc hS.bk ha, hw]
    congr 3
    cases r <;> rfl

theorem waysOf_ok {n : Net} {S : Srch} (hS : Met n S) (hD : n.domains.length < 100000) : WaysOK (waysOf S.list) ∧ (waysOf S.list).length < 1000000 ∧ ∀ i : Nat, i < S.list.length → (backT S.list i).length < 1000000 := by
  have hle := hS.ok.le
  have hf := fun i (hi : i < S.list.length) => backT_facts hS.bk (P := fun _ => True) (fun _ _ => trivial) hi
  refine ⟨fun w hw => ?_, by rw [waysOf_length]; omega, fun i hi => ?_⟩
  · obtain ⟨i, hi, rfl⟩ := List.getElem_of_mem hw
    rw [waysOf_get]
    rw [waysOf_length] at hi
    have := hf i hi
    exact ⟨this.2.2, by show (backT S.list i).length < _; omega⟩
  · have := hf i hi
    omega

end Go.Sy.YtlfopmhekhifoaaGreatDoor

namespace Go.Sy.YtlfopmhekhifoaaGreatDoor
open Go.Proofs
-- SIMP: placeB

attribute [local irreducible] Go.Sy.G Go.Sy.DR
set_option maxRecDepth 20000
set_option maxHeartbeats 8000000

theorem meetT_pre (S : Srch) (d k : Int) (h : Hop) (a : Int) : ∃ m, (meetT S d k h a).list = S.list ++ m := by
  rw [meetT]
  split
  · exact ⟨[], by simp⟩
  · exact ⟨_, meetN_list S d k h a⟩

theorem Met.ext1 {n : Net} {k i : Int} (hk : k = 0 ∨ k = 1) : ∀ {l : List Hop} {S : Srch}, Met n S → (-1 ≤ i ∧ i < S.list.length) → (∀ h ∈ l, 0 ≤ h.domain ∧ h.domain.toNat < n.domains.length) → Met n (ext1 S k i l) ∧ ∃ m, (ext1 S k i l).list = S.list ++ m
  | [], S, h, _, _ => ⟨h, [], by simp [Sy.YtlfopmhekhifoaaGreatDoor.ext1]⟩
  | x :: l, S, h, hi, hl => by
    have h1 := h.meet (hl x (by simp)) hk (h := x) rfl hi
    obtain ⟨m, hm2⟩ := meetT_pre S x.domain k x i
    obtain ⟨h3, m2, h4⟩ := Met.ext1 hk (l := l) h1 ⟨hi.1, by rw [hm2, List.length_append]; omega⟩ (fun y hy => hl y (by simp [hy]))
    exact ⟨h3, m ++ m2, by rw [← List.append_assoc, ← hm2]; exact h4⟩

theorem Met.ext2 {n : Net} {i : Int} : ∀ {l : List Lead} {S : Srch}, Met n S → (-1 ≤ i ∧ i < S.list.length) → (∀ h ∈ l, 0 ≤ h.domain ∧ h.domain.toNat < n.domains.length) → Met n (ext2 S i l) ∧ ∃ m, (ext2 S i l).list = S.list ++ m
  | [], S, h, _, _ => ⟨h, [], by simp [Sy.YtlfopmhekhifoaaGreatDoor.ext2]⟩
  | x :: l, S, h, hi, hl => by
    have h1 := h.meet (hl x (by simp)) (.inr rfl) (h := ⟨3, 0, x.domain, x.addr⟩) rfl hi
    obtain ⟨m, hm2⟩ := meetT_pre S x.domain 1 ⟨3, 0, x.domain, x.addr⟩ i
    obtain ⟨h3, m2, h4⟩ := Met.ext2 (l := l) h1 ⟨hi.1, by rw [hm2, List.length_append]; omega⟩ (fun y hy => hl y (by simp [hy]))
    exact ⟨h3, m ++ m2, by rw [← List.append_assoc, ← hm2]; exact h4⟩

theorem met0 (n : Net) : Met n (srch0 n) where
  ok := srch0_ok n
  bk := fun i h => by simp [srch0] at h
  dom := fun f h => by simp [srch0] at h
  m := fun d hd k hk => by
    have e : metB (srch0 n) d k = false := by
      rw [metB, srch0]
      split <;> simp [nth, List.getElem?_replicate, hd.2]
    rw [e]
    simp [srch0]

theorem met_begin {n : Net} {dev : Int} : ∀ {l : List Int}, (∀ v ∈ l, v ≠ 0 → 0 ≤ domainT n dev v ∧ (domainT n dev v).toNat < n.domains.length) → Met n (beginL n dev l) := by
  intro l
  induction l using rev_ind with
  | h0 => intro _; exact met0 n
  | h1 l v ih =>
    intro hl
    have h := ih (fun x hx => hl x (List.mem_append_left _ hx))
    rw [beginL, List.foldl_append]
    show Met n (begin1 n dev (beginL n dev l) v)
    rw [begin1]
    split
    · exact h
    · rename_i hv
      exact h.meet (hl v (by simp) hv) (.inl rfl) rfl ⟨by omega, by omega⟩

theorem e_tagged_pos {n : Net} (hb : netRightB n = true) {i : Nat} (hi : i < n.ports.length) {v : Int} (hv : v ∈ n.ports[i].tagged) : v ≠ 0 := by
  have := e_port hb hi
  simp only [portB, Bool.and_eq_true, Bool.or_eq_true, decide_eq_true_eq] at this
  rcases this.1.1.1.1.1.2 with h | h
  · rw [List.length_eq_zero_iff.1 h] at hv; cases hv
  · obtain ⟨j, hj, rfl⟩ := List.getElem_of_mem hv
    simp only [risingB, Bool.and_eq_true] at h
    have := allB_iff.1 h.2 j hj
    simp only [riseP, Bool.and_eq_true, decide_eq_true_eq] at this
    omega

end Go.Sy.YtlfopmhekhifoaaGreatDoor
