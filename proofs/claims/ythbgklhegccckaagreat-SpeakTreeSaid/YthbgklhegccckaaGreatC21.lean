/-
  What bridges tell one another, 1: the order of ids is the order of ranks; roots and costs by ids. What bridges tell one another, 2: what a round does, at each port. What bridges tell one another, 3: what is heard is never better than what is true; each round brings it one link on. What bridges tell one another, 4: what it settles to are the roles of the spanning tree. What bridges of unlike ids settle to are the roles of the spanning tree.
-/
import Derived.Test.YthbgklhegccckaaGreatC20
import Derived.Test.YthbgklhegccckaaGreatC13
import Derived.Test.YthbgklhegccckaaGreatC14
import Derived.Test.YthbgklhegccckaaGreatC8

namespace Go.Sy.YthbgklhegccckaaGreat

/-- One root at its cost is no worse than another one. -/
def LeI (r : Nat) (c : Int) (r' : Nat) (c' : Int) : Prop := r < r' ∨ (r = r' ∧ c ≤ c')
theorem leI_refl (r : Nat) (c : Int) : LeI r c r c := .inr ⟨rfl, Int.le_refl _⟩
theorem leI_trans {a b c : Nat} {x y z : Int} (h1 : LeI a x b y) (h2 : LeI b y c z) : LeI a x c z := by
  unfold LeI at *
  omega
theorem leI_add {a b : Nat} {x y m : Int} (h : LeI a x b y) : LeI a (x + m) b (y + m) := by
  unfold LeI at *
  omega
theorem leI_more {a b : Nat} {x y m : Int} (h : LeI a x b y) (hm : 0 ≤ m) : LeI a x b (y + m) := by
  unfold LeI at *
  omega
theorem leI_anti {a b : Nat} {x y : Int} (h1 : LeI a x b y) (h2 : LeI b y a x) : a = b ∧ x = y := by
  unfold LeI at *
  omega

def devId (n : Net) (d : Int) : Nat := idD (nth n.devices d)

section
variable {n : Net} {up : List Bool}

theorem idD_facts (hu : unlikeB n = true) {d : Int} (h0 : 0 ≤ d) (h1 : d < n.devices.length) : 0 ≤ (nth n.devices d).prio ∧ 0 ≤ (nth n.devices d).mac ∧ (nth n.devices d).mac < 281474976710656 := by
  rw [nth_eq (by omega)]
  have := List.all_eq_true.1 (unlike_facts hu).2.2.1 _ (List.getElem_mem (show d.toNat < n.devices.length by omega))
  simp only [idOK, Bool.and_eq_true, decide_eq_true_eq] at this
  omega

theorem devId_inj (hu : unlikeB n = true) {a b : Int} (ha0 : 0 ≤ a) (ha1 : a < n.devices.length) (hb0 : 0 ≤ b) (hb1 : b < n.devices.length) (h : devId n a = devId n b) : a = b := by
  have hn := (unlike_facts hu).2.2.2
  unfold devId at h
  rw [nth_eq (by omega), nth_eq (by omega)] at h
  rw [List.Nodup, List.pairwise_iff_getElem] at hn
  have hl := idsL_length n
  have ga := idsL_get (n := n) (show a.toNat < n.devices.length by omega)
  have gb := idsL_get (n := n) (show b.toNat < n.devices.length by omega)
  rcases Nat.lt_trichotomy a.toNat b.toNat with h1 | h1 | h1
  · exact absurd (by rw [ga, gb, h]) (hn a.toNat b.toNat (by omega) (by omega) h1)
  · omega
  · exact absurd (by rw [ga, gb, h]) (hn b.toNat a.toNat (by omega) (by omega) h1)

theorem ahead_id (hu : unlikeB n = true) {a b : Int} (ha0 : 0 ≤ a) (ha1 : a < n.devices.length) (hb0 : 0 ≤ b) (hb1 : b < n.devices.length) (hab : a ≠ b) : aheadB n a b = true ↔ devId n a < devId n b := by
  have fa := idD_facts hu ha0 ha1
  have fb := idD_facts hu hb0 hb1
  have hne : devId n a ≠ devId n b := fun h => hab (devId_inj hu ha0 ha1 hb0 hb1 h)
  unfold devId idD idN at *
  unfold aheadB
  generalize nth n.devices a = x at *
  generalize nth n.devices b = y at *
  split
  · rename_i hp
    simp only [decide_eq_true_eq]
    omega
  · rename_i hp
    split
    · simp only [decide_eq_true_eq]
      omega
    · rename_i hq
      exact absurd (by omega) hne

theorem rank_id (hu : unlikeB n = true) {a b : Int} (ha0 : 0 ≤ a) (ha1 : a < n.devices.length) (hb0 : 0 ≤ b) (hb1 : b < n.devices.length) : nth (ranksL n) a < nth (ranksL n) b ↔ devId n a < devId n b := by
  have e := ranksL_length n
  have ea : ((a.toNat : Nat) : Int) = a := by omega
  have eb : ((b.toNat : Nat) : Int) = b := by omega
  by_cases hab : a = b
  · subst hab
    simp
  · rw [nth_eq (l := ranksL n) (i := a) (by omega), nth_eq (l := ranksL n) (i := b) (by omega), ranksL_get, ranksL_get]
    rcases ahead_total n hab with h | h
    · have h2 := rank_lt n (i := a.toNat) (k := b.toNat) (by omega) (by omega) (by rw [ea, eb]; exact h)
      have h3 := (ahead_id hu ha0 ha1 hb0 hb1 hab).1 h
      exact ⟨fun _ => h3, fun _ => by omega⟩
    · have h2 := rank_lt n (i := b.toNat) (k := a.toNat) (by omega) (by omega) (by rw [ea, eb]; exact h)
      have h3 := (ahead_id hu hb0 hb1 ha0 ha1 (Ne.symm hab)).1 h
      exact ⟨fun h4 => by omega, fun h4 => by omega⟩

theorem rank_eq_id (hu : unlikeB n = true) {a b : Int} (ha0 : 0 ≤ a) (ha1 : a < n.devices.length) (hb0 : 0 ≤ b) (hb1 : b < n.devices.length) : nth (ranksL n) a = nth (ranksL n) b ↔ devId n a = devId n b := by
  have h1 := rank_id hu ha0 ha1 hb0 hb1
  have h2 := rank_id hu hb0 hb1 ha0 ha1
  omega

/-- Roots, by ids, and costs that no link betters. -/
structure SolvedI (n : Net) (up : List Bool) (rt : Int → Nat) (ct : Int → Int) : Prop where
  tri : ∀ i j : Nat, Hop n up i j → LeI (rt (pdev n i)) (ct (pdev n i)) (rt (pdev n j)) (ct (pdev n j) + pcost n i)
  self : ∀ d : Int, 0 ≤ d → d < n.devices.length → LeI (rt d) (ct d) (devId n d) 0
  der : ∀ d : Int, 0 ≤ d → d < n.devices.length → (rt d = devId n d ∧ ct d = 0) ∨ ∃ i j : Nat, Hop n up i j ∧ pdev n i = d ∧ rt d = rt (pdev n j) ∧ ct d = ct (pdev n j) + pcost n i
  nonneg : ∀ d : Int, 0 ≤ d → d < n.devices.length → 0 ≤ ct d

theorem solvedI_of {roots costs : List Int} (hu : unlikeB n = true) (S : Solved n up (ranksL n) roots costs) :
    ∃ rt : Int → Nat, SolvedI n up rt (nth costs) ∧ ∀ a b : Int, 0 ≤ a → a < n.devices.length → 0 ≤ b → b < n.devices.length → ((nth roots a = nth roots b ↔ rt a = rt b) ∧ (nth roots a = nth (ranksL n) b ↔ rt a = devId n b)) := by
  have hr := (unlike_facts hu).1
  have hcost := (unlike_facts hu).2.1
  have key : ∀ d : Int, ∃ r : Int, (0 ≤ d → d < n.devices.length → 0 ≤ r ∧ r < n.devices.length ∧ nth (ranksL n) r = nth roots d) := fun d => by
    by_cases hd : 0 ≤ d ∧ d < n.devices.length
    · have hc := solved_cost S hd.1 hd.2
      obtain ⟨r, h1, h2, h3, _⟩ := solved_is S hr hcost (nth costs d).toNat d hd.1 hd.2 (by omega)
      exact ⟨r, fun _ _ => ⟨h1, h2, h3⟩⟩
    · exact ⟨0, fun h1 h2 => absurd ⟨h1, h2⟩ hd⟩
  obtain ⟨f, hf⟩ := Classical.axiomOfChoice key
  have hle : ∀ (a b : Int) (x y : Int), 0 ≤ a → a < n.devices.length → 0 ≤ b → b < n.devices.length → Le2 (nth roots a) x (nth roots b) y → LeI (devId n (f a)) x (devId n (f b)) y := fun a b x y ha0 ha1 hb0 hb1 h => by
    obtain ⟨a1, a2, a3⟩ := hf a ha0 ha1
    obtain ⟨b1, b2, b3⟩ := hf b hb0 hb1
    rw [← a3, ← b3] at h
    have h1 := rank_id hu a1 a2 b1 b2
    have h2 := rank_eq_id hu a1 a2 b1 b2
    unfold Le2 at h
    unfold LeI
    omega
  refine ⟨fun d => devId n (f d), ⟨fun i j hij => ?_, fun d h0 h1 => ?_, fun d h0 h1 => ?_, fun d h0 h1 => (solved_cost S h0 h1).1⟩, fun a b ha0 ha1 hb0 hb1 => ?_⟩
  · have hi := pdev_lt hr hij.1
    have hj := pdev_lt hr (hop_lt hr hij)
    exact hle _ _ _ _ hi.1 hi.2 hj.1 hj.2 (S.tri i j hij)
  · obtain ⟨a1, a2, a3⟩ := hf d h0 h1
    have h := S.self d h0 h1
    rw [← a3] at h
    have g1 := rank_id hu a1 a2 h0 h1
    have g2 := rank_eq_id hu a1 a2 h0 h1
    unfold Le2 at h
    unfold LeI
    omega
  · obtain ⟨a1, a2, a3⟩ := hf d h0 h1
    rcases S.der d h0 h1 with h | ⟨i, j, e1, e2, e3, e4⟩
    · refine .inl ⟨?_, h.2⟩
      exact (rank_eq_id hu a1 a2 h0 h1).1 (a3.trans h.1)
    · have hj := pdev_lt hr (hop_lt hr e1)
      obtain ⟨b1, b2, b3⟩ := hf (pdev n j) hj.1 hj.2
      refine .inr ⟨i, j, e1, e2, ?_, e4⟩
      exact (rank_eq_id hu a1 a2 b1 b2).1 (by rw [a3, b3, e3])
  · obtain ⟨a1, a2, a3⟩ := hf a ha0 ha1
    obtain ⟨b1, b2, b3⟩ := hf b hb0 hb1
    have g := rank_eq_id hu a1 a2 b1 b2
    have g2 := rank_eq_id hu a1 a2 hb0 hb1
    rw [a3, b3] at g
    rw [a3] at g2
    exact ⟨g, g2⟩
end
end Go.Sy.YthbgklhegccckaaGreat

namespace Go.Sy.YthbgklhegccckaaGreat

section
variable {n : Net} {up : List Bool} {hs : List Heard}

theorem hop_live (hr : netRightB n = true) {i j : Nat} (h : Hop n up i j) : liveB n up i = true := by
  obtain ⟨k, _, h2, _, h3, _, _⟩ := hop_facts hr h
  have hi := h.1
  simp only [liveB, h2, Int.toNat_natCast, h3, Bool.and_true, Bool.and_eq_true, decide_eq_true_eq]
  omega
theorem live_hop (hr : netRightB n = true) {i : Nat} (h : liveB n up i = true) : ∃ j : Nat, Hop n up i j := by
  have hrng := live_range h
  have hi : i < n.ports.length := by omega
  simp only [liveB, Bool.and_eq_true, decide_eq_true_eq] at h
  obtain ⟨⟨_, hl⟩, hu⟩ := h
  have e0 : nth n.ports (i : Int) = n.ports[i] := nth_eq (l := n.ports) (i := (i : Int)) (by simpa using hi)
  have e : n.ports.getD i default = nth n.ports i := rfl
  have hpl := port_link hr hi
  rw [e0] at hl hu
  have hk : n.ports[i].link.toNat < n.links.length := by omega
  have hp := right_port hr hi
  simp only [portB, Bool.and_eq_true, Bool.or_eq_true, beq_iff_eq] at hp
  have hp := hp.2
  have he := link_ends hr hk
  have hfar : farI n up i = (nth n.links n.ports[i].link).a + (nth n.links n.ports[i].link).b - i := by
    unfold farI
    rw [e, e0]
    simp only [hu, Bool.not_true, Bool.or_false, decide_eq_true_eq]
    rw [if_neg (by omega)]
  rw [nth_eq (l := n.links) (i := n.ports[i].link) (by omega)] at hfar hp
  refine ⟨(farI n up i).toNat, hi, ?_⟩
  rcases hp with hp | hp
  · omega
  · rw [hfar]
    omega

theorem other_hop (hr : netRightB n = true) {i j : Nat} (h : Hop n up i j) : otherI n.links i = j := by
  obtain ⟨k, hk, h2, _, _, h4, h5⟩ := hop_facts hr h
  have e0 : nth n.ports (i : Int) = n.ports[i]'h.1 := nth_eq (l := n.ports) (i := (i : Int)) (by simpa using h.1)
  rw [other_eq hr h.1 (by rw [← e0, h2]; omega), farO, ← e0, h2]
  rcases h4 with ⟨ha, hb⟩ | ⟨ha, hb⟩
  · rw [if_pos ha, hb]
  · rw [if_neg (fun e => ?_), ha]
    have : i = j := by omega
    subst this
    exact h5 rfl

theorem hop_unique {i j k : Nat} (h1 : Hop n up i j) (h2 : Hop n up i k) : j = k := by
  have a := h1.2
  have b := h2.2
  omega

theorem ltC_iff6 (a b : Choice) : ltC a b = true ↔ a.root < b.root ∨ (a.root = b.root ∧ (a.cost < b.cost ∨ (a.cost = b.cost ∧ (ownI a < ownI b ∨ (ownI a = ownI b ∧ (a.bridge < b.bridge ∨ (a.bridge = b.bridge ∧ (a.src < b.src ∨ (a.src = b.src ∧ a.port < b.port))))))))) := by
  rw [ltC_eq]
  repeat' split
  all_goals (simp only [decide_eq_true_eq]; omega)
theorem ltC_irrefl (a : Choice) : ltC a a = false := by
  cases h : ltC a a
  · rfl
  · rw [ltC_iff6] at h; omega
theorem ltC_trans {a b c : Choice} (h1 : ltC a b = true) (h2 : ltC b c = true) : ltC a c = true := by
  rw [ltC_iff6] at h1 h2 ⊢
  omega
theorem not_lt_leI {x b : Choice} (h : ltC x b = false) : LeI b.root b.cost x.root x.cost := by
  have h2 : ¬ ltC x b = true := by rw [h]; simp
  rw [ltC_iff6] at h2
  unfold LeI
  omega

theorem foldl_mem : ∀ (l : List Choice) (c : Choice), l.foldl stepC c = c ∨ l.foldl stepC c ∈ l
  | [], c => .inl rfl
  | x :: l, c => by
    rcases foldl_mem l (stepC c x) with h | h
    · have hs : stepC c x = x ∨ stepC c x = c := by unfold stepC; split <;> simp
      simp only [List.foldl_cons, List.mem_cons]
      rw [h]
      rcases hs with hs | hs
      · exact .inr (.inl hs)
      · exact .inl hs
    · simp only [List.foldl_cons, List.mem_cons]
      exact .inr (.inr h)
theorem foldl_least : ∀ (l : List Choice) (c x : Choice), ltC x c = false → ltC x (l.foldl stepC c) = false
  | [], _, _, h => h
  | y :: l, c, x, h => by
    refine foldl_least l _ x ?_
    unfold stepC
    split
    · rename_i hy
      cases hx : ltC x y
      · rfl
      · rw [ltC_trans hx hy] at h; cases h
    · exact h
theorem foldl_le : ∀ (l : List Choice) (c : Choice), ∀ x ∈ l, ltC x (l.foldl stepC c) = false
  | y :: l, c, x, hx => by
    rcases List.mem_cons.1 hx with rfl | hx
    · refine foldl_least l _ x ?_
      unfold stepC
      split
      · exact ltC_irrefl x
      · rename_i h; simpa using h
    · exact foldl_le l _ x hx

theorem cand_some (hr : netRightB n = true) {d : Int} {i : Nat} {x : Choice} (h : candC n up hs d i = some x) : pdev n i = d ∧ (nth hs i).is = true ∧ (∃ j : Nat, Hop n up i j) ∧ x = ⟨(nth hs i).msg.root, (nth hs i).msg.cost + pcost n i, (nth hs i).msg.bridge, (nth hs i).msg.port, i⟩ := by
  unfold candC at h
  simp only at h
  split at h
  · rename_i hc
    exact ⟨hc.1, hc.2.1, live_hop hr hc.2.2, (Option.some.inj h).symm⟩
  · cases h
theorem cand_hop (hr : netRightB n = true) {i j : Nat} (h : Hop n up i j) (his : (nth hs i).is = true) : candC n up hs (pdev n i) i = some ⟨(nth hs i).msg.root, (nth hs i).msg.cost + pcost n i, (nth hs i).msg.bridge, (nth hs i).msg.port, i⟩ := by
  unfold candC
  simp only
  rw [if_pos ⟨rfl, his, hop_live hr h⟩]
  rfl

theorem best_mem' (d : Int) : bestOf n up hs d = ownC n d ∨ ∃ i : Nat, i < n.ports.length ∧ candC n up hs d i = some (bestOf n up hs d) := by
  rcases foldl_mem (candsL n up hs d n.ports.length) (ownC n d) with h | h
  · exact .inl h
  · rw [candsL, List.mem_filterMap] at h
    obtain ⟨i, hi, he⟩ := h
    exact .inr ⟨i, List.mem_range.1 hi, he⟩
theorem best_own (d : Int) : LeI (bestOf n up hs d).root (bestOf n up hs d).cost (devId n d) 0 := not_lt_leI (foldl_least _ _ (ownC n d) (ltC_irrefl _))
theorem best_cand {d : Int} {i : Nat} {x : Choice} (hi : i < n.ports.length) (h : candC n up hs d i = some x) : ltC x (bestOf n up hs d) = false :=
  foldl_le _ _ x (by rw [candsL, List.mem_filterMap]; exact ⟨i, List.mem_range.2 hi, h⟩)
theorem best_hop' (hr : netRightB n = true) {i j : Nat} (h : Hop n up i j) (his : (nth hs i).is = true) : LeI (bestOf n up hs (pdev n i)).root (bestOf n up hs (pdev n i)).cost (nth hs i).msg.root ((nth hs i).msg.cost + pcost n i) :=
  not_lt_leI (best_cand h.1 (cand_hop hr h his))

theorem nth_setN {hs : List Heard} {i p : Nat} {v : Heard} (hi : i < hs.length) : nth (hs.set i v) (p : Int) = if p = i then v else nth hs p := by
  unfold nth
  simp only [Int.toNat_natCast]
  by_cases h : p = i
  · subst h
    rw [if_pos rfl, List.getElem?_set_self hi]
    rfl
  · rw [if_neg h, List.getElem?_set_ne (fun e => h e.symm)]

/-- Who is heard at each port. -/
def Sender (n : Net) (up : List Bool) (hs : List Heard) : Prop := ∀ p q : Nat, Hop n up p q → (nth hs p).is = true → (nth hs p).msg.bridge = devId n (pdev n q) ∧ (nth hs p).msg.port = q

theorem tell_would {i : Nat} {m : Msg} (h : tellO n up hs i = some m) : m = wouldM n up hs i := by
  unfold tellO at h
  split at h
  · exact (Option.some.inj h).symm
  · cases h

theorem hearN_get (hr : netRightB n = true) (hl : hs.length = n.ports.length) (hS : Sender n up hs) {p q : Nat} (hpq : Hop n up p q) : ∀ j, j ≤ n.ports.length →
    nth (hearN n up (toldL n up hs) hs j) (p : Int) = if q < j then (match tellO n up hs q with | some m => ⟨true, m⟩ | none => nth hs p) else nth hs p
  | 0, _ => by rw [if_neg (by omega)]; rfl
  | j + 1, hj => by
    have ih := hearN_get hr hl hS hpq j (by omega)
    have hlen := hearN_length n up (toldL n up hs) hs j
    rw [hearN_succ]
    unfold hearO
    rw [told_get (by omega)]
    cases ht : tellO n up hs j with
    | none =>
      rw [ih]
      by_cases hq : q = j
      · subst hq
        rw [if_neg (by omega), if_pos (by omega), ht]
      · by_cases h2 : q < j
        · rw [if_pos h2, if_pos (by omega)]
        · rw [if_neg h2, if_neg (by omega)]
    | some m =>
      obtain ⟨i', hi'⟩ := live_hop hr (tell_live ht)
      have hb := hop_back hr hi'
      have hlt := hop_lt hr hi'
      simp only
      rw [other_hop hr hi']
      by_cases hpi : p = i'
      · subst hpi
        have hqj : q = j := hop_unique hpq hb
        subst hqj
        rw [if_neg (by omega)] at ih
        have hm1 := tell_would ht
        have htk : takesB (nth (hearN n up (toldL n up hs) hs q) (p : Int)) m = true := by
          rw [ih]
          unfold takesB
          cases his : (nth hs p).is with
          | false => rfl
          | true =>
            obtain ⟨h1, h2⟩ := hS p q hpq his
            have e1 : m.bridge = (nth hs p).msg.bridge := by rw [h1, hm1]; rfl
            have e2 : m.port = (nth hs p).msg.port := by rw [h2, hm1]; rfl
            simp [e1, e2]
        unfold hearL
        rw [if_pos ⟨hop_live hr hpq, htk⟩, Int.toNat_natCast, nth_setN (by omega), if_pos rfl, if_pos (by omega), ht]
      · have hkeep : nth (hearL n up (hearN n up (toldL n up hs) hs j) (i' : Int) m) (p : Int) = nth (hearN n up (toldL n up hs) hs j) (p : Int) := by
          unfold hearL
          split
          · rw [Int.toNat_natCast, nth_setN (by omega), if_neg hpi]
          · rfl
        rw [hkeep, ih]
        have hqj : q ≠ j := fun e => by
          subst e
          have := hop_unique (hop_back hr hpq) hi'
          exact hpi this
        by_cases h2 : q < j
        · rw [if_pos h2, if_pos (by omega)]
        · rw [if_neg h2, if_neg (by omega)]

theorem round_get (hr : netRightB n = true) (hl : hs.length = n.ports.length) (hS : Sender n up hs) {p q : Nat} (hpq : Hop n up p q) : nth (roundL n up hs) (p : Int) = match tellO n up hs q with | some m => ⟨true, m⟩ | none => nth hs p := by
  have := hearN_get hr hl hS hpq n.ports.length (Nat.le_refl _)
  rw [if_pos (hop_lt hr hpq)] at this
  exact this

theorem hearN_other (hr : netRightB n = true) (hl : hs.length = n.ports.length) {p : Nat} (hp : ∀ q : Nat, ¬ Hop n up p q) : ∀ j, j ≤ n.ports.length → nth (hearN n up (toldL n up hs) hs j) (p : Int) = nth hs p
  | 0, _ => rfl
  | j + 1, hj => by
    have ih := hearN_other hr hl hp j (by omega)
    have hlen := hearN_length n up (toldL n up hs) hs j
    rw [hearN_succ]
    unfold hearO
    rw [told_get (by omega)]
    cases ht : tellO n up hs j with
    | none => exact ih
    | some m =>
      obtain ⟨i', hi'⟩ := live_hop hr (tell_live ht)
      have hlt := hop_lt hr hi'
      simp only
      rw [other_hop hr hi']
      unfold hearL
      split
      · rw [Int.toNat_natCast, nth_setN (by omega), if_neg (fun e => by subst e; exact hp _ (hop_back hr hi')), ih]
      · exact ih
theorem round_other (hr : netRightB n = true) (hl : hs.length = n.ports.length) {p : Nat} (hp : ∀ q : Nat, ¬ Hop n up p q) : nth (roundL n up hs) (p : Int) = nth hs p := hearN_other hr hl hp _ (Nat.le_refl _)
end
end Go.Sy.YthbgklhegccckaaGreat

namespace Go.Sy.YthbgklhegccckaaGreat

theorem better_iff (a b : Msg) : betterB a b = true ↔ a.root < b.root ∨ (a.root = b.root ∧ (a.cost < b.cost ∨ (a.cost = b.cost ∧ (a.bridge < b.bridge ∨ (a.bridge = b.bridge ∧ a.port < b.port))))) := by
  unfold betterB
  repeat' split
  all_goals (simp only [decide_eq_true_eq]; omega)

section
variable {n : Net} {up : List Bool} {rt : Int → Nat} {costs : List Int}

/-- What holds behind so many rounds. -/
structure RoundI (n : Net) (up : List Bool) (rt : Int → Nat) (costs : List Int) (k : Nat) : Prop where
  heard : ∀ p q : Nat, Hop n up p q → (nth (roundN n up k) p).is = true → ∃ s, s < k ∧ (nth (roundN n up k) p).msg = wouldM n up (roundN n up s) q
  mono : ∀ s, s ≤ k → ∀ d : Int, LeI (bestOf n up (roundN n up k) d).root (bestOf n up (roundN n up k) d).cost (bestOf n up (roundN n up s) d).root (bestOf n up (roundN n up s) d).cost
  low : ∀ d : Int, 0 ≤ d → d < n.devices.length → LeI (rt d) (nth costs d) (bestOf n up (roundN n up k) d).root (bestOf n up (roundN n up k) d).cost
  bound : ∀ d : Int, 0 ≤ (bestOf n up (roundN n up k) d).cost ∧ (bestOf n up (roundN n up k) d).cost ≤ 65535 * k

theorem sender_of {k : Nat} (I : RoundI n up rt costs k) : Sender n up (roundN n up k) := fun p q h his => by
  obtain ⟨s, _, hm⟩ := I.heard p q h his
  rw [hm]
  exact ⟨rfl, rfl⟩

theorem roundN_length (hb : speakB n up = true) (hm1 : MacsIn n) (k : Nat) : (roundN n up k).length = n.ports.length := (Talk.roundN hb hm1 k).len

/-- What is heard at a port a round later. -/
theorem heard_next (hb : speakB n up = true) (hm1 : MacsIn n) {k : Nat} (I : RoundI n up rt costs k) {p q : Nat} (h : Hop n up p q) :
    (∃ m, tellO n up (roundN n up k) q = some m ∧ nth (roundN n up (k + 1)) p = ⟨true, wouldM n up (roundN n up k) q⟩) ∨ (tellO n up (roundN n up k) q = none ∧ nth (roundN n up (k + 1)) p = nth (roundN n up k) p) := by
  have T := Talk.roundN hb hm1 k
  have g := round_get T.right (roundN_length hb hm1 k) (sender_of I) h
  cases ht : tellO n up (roundN n up k) q with
  | none =>
    rw [ht] at g
    exact .inr ⟨rfl, g⟩
  | some m =>
    rw [ht] at g
    have := tell_would ht
    subst this
    exact .inl ⟨_, rfl, g⟩

theorem heard_mono (hb : speakB n up = true) (hm1 : MacsIn n) {k : Nat} (I : RoundI n up rt costs k) {p q : Nat} (h : Hop n up p q) (his : (nth (roundN n up k) p).is = true) :
    (nth (roundN n up (k + 1)) p).is = true ∧ LeI (nth (roundN n up (k + 1)) p).msg.root (nth (roundN n up (k + 1)) p).msg.cost (nth (roundN n up k) p).msg.root (nth (roundN n up k) p).msg.cost ∧
      (nth (roundN n up (k + 1)) p).msg.bridge = (nth (roundN n up k) p).msg.bridge ∧ (nth (roundN n up (k + 1)) p).msg.port = (nth (roundN n up k) p).msg.port := by
  rcases heard_next hb hm1 I h with ⟨m, _, e⟩ | ⟨_, e⟩
  · obtain ⟨s, hs, hm⟩ := I.heard p q h his
    rw [e, hm]
    exact ⟨rfl, I.mono s (by omega) _, rfl, rfl⟩
  · rw [e]
    exact ⟨his, leI_refl _ _, rfl, rfl⟩

theorem start_nth (n : Net) (p : Nat) : (nth (start n) (p : Int)).is = false := by
  unfold nth start
  rw [List.getElem?_replicate]
  split <;> rfl

theorem round_inv (hb : speakB n up = true) (hm1 : MacsIn n) (S : SolvedI n up rt (nth costs)) (k : Nat) : RoundI n up rt costs k := by
  induction k using Nat.strongRecOn with
  | ind k IH =>
    have T := Talk.roundN hb hm1 k
    have hr := T.right
    have heard : ∀ p q : Nat, Hop n up p q → (nth (roundN n up k) p).is = true → ∃ s, s < k ∧ (nth (roundN n up k) p).msg = wouldM n up (roundN n up s) q := by
      intro p q h his
      cases k with
      | zero =>
        have := start_nth n p
        rw [show roundN n up 0 = start n from rfl, this] at his
        cases his
      | succ k =>
        rcases heard_next hb hm1 (IH k (by omega)) h with ⟨m, _, e⟩ | ⟨_, e⟩
        · rw [e]
          exact ⟨k, by omega, rfl⟩
        · rw [e] at his ⊢
          obtain ⟨s, h1, h2⟩ := (IH k (by omega)).heard p q h his
          exact ⟨s, by omega, h2⟩
    refine ⟨heard, fun s hs d => ?_, fun d h0 h1 => ?_, fun d => ?_⟩
    · rcases Nat.lt_or_ge s k with h1 | h1
      · cases k with
        | zero => omega
        | succ k =>
          have I := IH k (by omega)
          refine leI_trans ?_ (I.mono s (by omega) d)
          rcases best_mem' (n := n) (up := up) (hs := roundN n up k) d with e | ⟨i, hi, e⟩
          · rw [e]
            exact best_own d
          · obtain ⟨c1, c2, ⟨j, c3⟩, c4⟩ := cand_some hr e
            obtain ⟨g1, g2, _, _⟩ := heard_mono hb hm1 I c3 c2
            have g3 := best_hop' (hs := roundN n up (k + 1)) hr c3 g1
            rw [c1] at g3
            rw [c4]
            exact leI_trans g3 (leI_add g2)
      · have : s = k := by omega
        subst this
        exact leI_refl _ _
    · rcases best_mem' (n := n) (up := up) (hs := roundN n up k) d with e | ⟨i, hi, e⟩
      · rw [e]
        exact S.self d h0 h1
      · obtain ⟨c1, c2, ⟨j, c3⟩, c4⟩ := cand_some hr e
        obtain ⟨s, hs, hm⟩ := heard i j c3 c2
        have hj := pdev_lt hr (hop_lt hr c3)
        have l1 := (IH s hs).low (pdev n j) hj.1 hj.2
        have l2 := S.tri i j c3
        rw [c1] at l2
        rw [c4, hm]
        exact leI_trans l2 (leI_add l1)
    · rcases best_mem' (n := n) (up := up) (hs := roundN n up k) d with e | ⟨i, hi, e⟩
      · rw [e]
        show 0 ≤ (0 : Int) ∧ (0 : Int) ≤ 65535 * k
        omega
      · obtain ⟨c1, c2, ⟨j, c3⟩, c4⟩ := cand_some hr e
        obtain ⟨s, hs, hm⟩ := heard i j c3 c2
        have hp := pcost_le T.costs c3.1
        have b1 := (IH s hs).bound (pdev n j)
        rw [c4, hm]
        show 0 ≤ (bestOf n up (roundN n up s) (pdev n j)).cost + pcost n i ∧ (bestOf n up (roundN n up s) (pdev n j)).cost + pcost n i ≤ 65535 * k
        omega

/-- Which role a port has. -/
theorem role_cases {hs : List Heard} {i : Nat} (hl : liveB n up i = true) :
    ((bestOf n up hs (pdev n i)).port = i ∧ roleI n up hs i = 1) ∨
    ((bestOf n up hs (pdev n i)).port ≠ i ∧ ((nth hs i).is = false ∨ betterB (nth hs i).msg (wouldM n up hs i) = false) ∧ roleI n up hs i = 2) ∨
    ((bestOf n up hs (pdev n i)).port ≠ i ∧ (nth hs i).is = true ∧ betterB (nth hs i).msg (wouldM n up hs i) = true ∧ roleI n up hs i = 3) := by
  have e : pdevI n (i : Int) = pdev n i := rfl
  unfold roleI
  rw [if_neg (by rw [hl]; simp), e]
  split
  · rename_i h; exact .inl ⟨h, rfl⟩
  · rename_i h
    split
    · rename_i h2; exact .inr (.inl ⟨h, h2, rfl⟩)
    · rename_i h2
      rw [not_or] at h2
      exact .inr (.inr ⟨h, by simpa using h2.1, by simpa using h2.2, rfl⟩)

theorem root_port (hr : netRightB n = true) {hs : List Heard} {i : Nat} (h : (bestOf n up hs (pdev n i)).port = i) : (nth hs i).is = true ∧ bestOf n up hs (pdev n i) = ⟨(nth hs i).msg.root, (nth hs i).msg.cost + pcost n i, (nth hs i).msg.bridge, (nth hs i).msg.port, i⟩ := by
  rcases best_mem' (n := n) (up := up) (hs := hs) (pdev n i) with e | ⟨i', hi, e⟩
  · rw [e] at h
    simp only [ownC] at h
    omega
  · obtain ⟨c1, c2, _, c4⟩ := cand_some hr e
    have : i' = i := by rw [c4] at h; simp only at h; omega
    subst this
    exact ⟨c2, c4⟩

theorem tells_at (hb : speakB n up = true) (hm1 : MacsIn n) {k : Nat} (hk : k ≤ 100) (I : RoundI n up rt costs k) {i : Nat} (hl : liveB n up i = true) (h2 : roleI n up (roundN n up k) i = 2) : tellO n up (roundN n up k) i = some (wouldM n up (roundN n up k) i) := by
  unfold tellO
  rw [if_pos]
  refine ⟨hl, h2, ?_⟩
  have := I.bound (pdev n i)
  show (bestOf n up (roundN n up k) (pdev n i)).cost < 4294967296
  omega

/-- Each round brings it one link on. -/
theorem round_step (hb : speakB n up = true) (hm1 : MacsIn n) (S : SolvedI n up rt (nth costs)) {k : Nat} (hk : k ≤ 100) {i j : Nat} (h : Hop n up i j) :
    LeI (bestOf n up (roundN n up (k + 1)) (pdev n i)).root (bestOf n up (roundN n up (k + 1)) (pdev n i)).cost (bestOf n up (roundN n up k) (pdev n j)).root ((bestOf n up (roundN n up k) (pdev n j)).cost + pcost n i) := by
  have I := round_inv hb hm1 S k
  have I1 := round_inv hb hm1 S (k + 1)
  have T := Talk.roundN hb hm1 k
  have hr := T.right
  have hbk := hop_back hr h
  have hlj := hop_live hr hbk
  have hci := pcost_le T.costs h.1
  have hcj := pcost_le T.costs hbk.1
  rcases role_cases (hs := roundN n up k) hlj with ⟨h1, _⟩ | ⟨_, _, h2⟩ | ⟨_, h3, h4, _⟩
  · obtain ⟨g1, g2⟩ := root_port hr h1
    obtain ⟨s, hs, hm⟩ := I.heard j i hbk g1
    have l1 := I1.mono s (by omega) (pdev n i)
    rw [g2, hm]
    have l2 := leI_more l1 (m := pcost n j + pcost n i) (by omega)
    rw [← Int.add_assoc] at l2
    exact l2
  · have ht := tells_at hb hm1 hk I hlj h2
    rcases heard_next hb hm1 I h with ⟨m, _, e⟩ | ⟨e, _⟩
    · have g := best_hop' (hs := roundN n up (k + 1)) hr h (by rw [e])
      rw [e] at g
      exact g
    · rw [ht] at e; cases e
  · obtain ⟨s, hs, hm⟩ := I.heard j i hbk h3
    have l1 := I1.mono s (by omega) (pdev n i)
    rw [better_iff, hm] at h4
    have e1 : (wouldM n up (roundN n up s) i).root = (bestOf n up (roundN n up s) (pdev n i)).root := rfl
    have e2 : (wouldM n up (roundN n up s) i).cost = (bestOf n up (roundN n up s) (pdev n i)).cost := rfl
    have e3 : (wouldM n up (roundN n up k) j).root = (bestOf n up (roundN n up k) (pdev n j)).root := rfl
    have e4 : (wouldM n up (roundN n up k) j).cost = (bestOf n up (roundN n up k) (pdev n j)).cost := rfl
    rw [e1, e2, e3, e4] at h4
    unfold LeI at *
    omega

theorem round_high (hb : speakB n up = true) (hm1 : MacsIn n) (S : SolvedI n up rt (nth costs)) : ∀ (k : Nat) (d : Int), k ≤ 100 → 0 ≤ d → d < n.devices.length → dep n costs d ≤ k → LeI (bestOf n up (roundN n up k) d).root (bestOf n up (roundN n up k) d).cost (rt d) (nth costs d)
  | k, d, hk, h0, h1, hd => by
    have T := Talk.roundN hb hm1 k
    have hr := T.right
    rcases S.der d h0 h1 with h | ⟨i, j, e1, e2, e3, e4⟩
    · rw [h.1, h.2]
      exact best_own d
    · have hp := pcost_le T.costs e1.1
      have hj := pdev_lt hr (hop_lt hr e1)
      have hlt := dep_lt (costs := costs) (d := d) hj (by omega)
      match k with
      | 0 => omega
      | k + 1 =>
        have ih := round_high hb hm1 S k (pdev n j) (by omega) hj.1 hj.2 (by omega)
        have st := round_step hb hm1 S (k := k) (by omega) e1
        rw [e2] at st
        rw [e3, e4]
        exact leI_trans st (leI_add ih)

theorem round_exact (hb : speakB n up = true) (hm1 : MacsIn n) (S : SolvedI n up rt (nth costs)) {k : Nat} (hk : k ≤ 100) (hn : n.devices.length ≤ k) {d : Int} (h0 : 0 ≤ d) (h1 : d < n.devices.length) :
    (bestOf n up (roundN n up k) d).root = rt d ∧ (bestOf n up (roundN n up k) d).cost = nth costs d :=
  leI_anti (round_high hb hm1 S k d hk h0 h1 (Nat.le_trans (dep_le d) hn)) ((round_inv hb hm1 S k).low d h0 h1)

theorem would_exact (hb : speakB n up = true) (hm1 : MacsIn n) (S : SolvedI n up rt (nth costs)) {k : Nat} (hk : k ≤ 100) (hn : n.devices.length ≤ k) {i : Nat} (hi : i < n.ports.length) :
    wouldM n up (roundN n up k) i = ⟨false, false, rt (pdev n i), devId n (pdev n i), nth costs (pdev n i), i, 0, 5120, 512, 3840⟩ := by
  have T := Talk.roundN hb hm1 k
  have hd := pdev_lt T.right hi
  obtain ⟨e1, e2⟩ := round_exact hb hm1 S hk hn hd.1 hd.2
  have e : pdevI n (i : Int) = pdev n i := rfl
  unfold wouldM
  rw [e]
  simp only
  rw [e1, e2]
  rfl

/-- Who tells nothing when roots and costs are there, goes on to tell nothing. -/
theorem quiet_stays (hb : speakB n up = true) (hm1 : MacsIn n) (S : SolvedI n up rt (nth costs)) {k : Nat} (hk : k + 1 ≤ 100) (hn : n.devices.length ≤ k) {j i : Nat} (h : Hop n up j i) (h2 : roleI n up (roundN n up (k + 1)) j = 2) : roleI n up (roundN n up k) j = 2 := by
  have I := round_inv hb hm1 S k
  have T := Talk.roundN hb hm1 k
  have hr := T.right
  have hl := hop_live hr h
  have hd := pdev_lt hr h.1
  have hc := pcost_le T.costs h.1
  have w0 := would_exact hb hm1 S (k := k) (by omega) hn h.1
  have w1 := would_exact hb hm1 S (k := k + 1) hk (by omega) h.1
  have x0 := round_exact hb hm1 S (k := k) (by omega) hn hd.1 hd.2
  have key : (nth (roundN n up k) j).is = true → betterB (nth (roundN n up (k + 1)) j).msg (wouldM n up (roundN n up (k + 1)) j) = true → False := fun his hbt => by
    obtain ⟨g1, _⟩ := heard_mono hb hm1 I h his
    rcases role_cases (hs := roundN n up (k + 1)) hl with ⟨_, e⟩ | ⟨_, e, _⟩ | ⟨_, _, _, e⟩
    · omega
    · rcases e with e | e
      · rw [g1] at e; cases e
      · rw [hbt] at e; cases e
    · omega
  rcases role_cases (hs := roundN n up k) hl with ⟨h1, _⟩ | ⟨_, _, h2⟩ | ⟨_, h3, h4, _⟩
  · exfalso
    obtain ⟨g1, g2⟩ := root_port hr h1
    obtain ⟨_, m1, m2, m3⟩ := heard_mono hb hm1 I h g1
    refine key g1 ?_
    rw [g2] at x0
    simp only at x0
    rw [better_iff, w1]
    unfold LeI at m1
    simp only
    omega
  · exact h2
  · exfalso
    obtain ⟨_, m1, m2, m3⟩ := heard_mono hb hm1 I h h3
    refine key h3 ?_
    rw [better_iff, w0] at h4
    rw [better_iff, w1]
    unfold LeI at m1
    simp only at h4 ⊢
    omega

theorem nth_ext {a b : List Heard} (hl : a.length = b.length) (h : ∀ p : Nat, p < a.length → nth a (p : Int) = nth b (p : Int)) : a = b :=
  List.ext_getElem hl fun i h1 h2 => by
    have := h i h1
    rw [nth_eq (by simpa using h1), nth_eq (by simpa using h2)] at this
    simpa using this

/-- Nothing changes any more. -/
theorem round_stable (hb : speakB n up = true) (hm1 : MacsIn n) (S : SolvedI n up rt (nth costs)) : roundN n up (n.devices.length + 1) = roundN n up (n.devices.length + 2) := by
  have T := Talk.roundN hb hm1 (n.devices.length + 1)
  have hr := T.right
  have hf := T.few
  have I := round_inv hb hm1 S (n.devices.length + 1)
  have I0 := round_inv hb hm1 S n.devices.length
  have hl1 := roundN_length hb hm1 (n.devices.length + 1)
  have hl2 := roundN_length hb hm1 (n.devices.length + 2)
  refine nth_ext (by rw [hl1, hl2]) fun p hp => ?_
  by_cases hq : ∃ q, Hop n up p q
  · obtain ⟨q, hq⟩ := hq
    have hqp := hop_back hr hq
    have hlv := hop_live hr hqp
    rcases heard_next hb hm1 I hq with ⟨m, e1, e2⟩ | ⟨_, e2⟩
    · have h2 : roleI n up (roundN n up (n.devices.length + 1)) q = 2 := by
        unfold tellO at e1
        split at e1
        · rename_i hc; exact hc.2.1
        · cases e1
      have h3 := quiet_stays hb hm1 S (k := n.devices.length) (by omega) (Nat.le_refl _) hqp h2
      have h4 := tells_at hb hm1 (k := n.devices.length) (by omega) I0 hlv h3
      rcases heard_next hb hm1 I0 hq with ⟨_, _, e4⟩ | ⟨e3, _⟩
      · rw [e2, e4, would_exact hb hm1 S (k := n.devices.length) (by omega) (Nat.le_refl _) hqp.1, would_exact hb hm1 S (k := n.devices.length + 1) (by omega) (by omega) hqp.1]
      · rw [h4] at e3; cases e3
    · exact e2.symm
  · exact (round_other hr hl1 (fun q h => hq ⟨q, h⟩)).symm

theorem roundN_fixed {j : Nat} (h : roundN n up j = roundN n up (j + 1)) : ∀ m, roundN n up (j + m) = roundN n up j
  | 0 => rfl
  | m + 1 => by
    have ih := roundN_fixed h m
    show roundL n up (roundN n up (j + m)) = _
    rw [ih]
    exact h.symm

theorem settle_some {K : Nat} (hK : K < 100) (h : roundN n up K = roundN n up (K + 1)) : settleJ n up ≤ K ∧ roundN n up (settleJ n up) = roundN n up K ∧ roundN n up (settleJ n up) = roundN n up (settleJ n up + 1) := by
  have hex : ∃ j, j ≤ K ∧ roundN n up j = roundN n up (j + 1) ∧ ∀ i, i < j → ¬ roundN n up i = roundN n up (i + 1) := by
    clear hK
    induction K using Nat.strongRecOn with
    | ind K ih =>
      by_cases hc : ∃ i, i < K ∧ roundN n up i = roundN n up (i + 1)
      · obtain ⟨i, h1, h2⟩ := hc
        obtain ⟨j, g1, g2⟩ := ih i h1 h2
        exact ⟨j, by omega, g2⟩
      · exact ⟨K, Nat.le_refl _, h, fun i hi e => hc ⟨i, hi, e⟩⟩
  obtain ⟨j, h1, h2, h3⟩ := hex
  have e := settle_at (n := n) (up := up) (j := j) (by omega) h3 h2
  rw [e]
  refine ⟨h1, ?_, h2⟩
  have := roundN_fixed h2 (K - j)
  rw [show j + (K - j) = K by omega] at this
  exact this.symm
end
end Go.Sy.YthbgklhegccckaaGreat

namespace Go.Sy.YthbgklhegccckaaGreat

theorem lessV_iff (a b : Vec) : lessV a b = true ↔ a.root < b.root ∨ (a.root = b.root ∧ (a.cost < b.cost ∨ (a.cost = b.cost ∧ (a.bridge < b.bridge ∨ (a.bridge = b.bridge ∧ (a.port < b.port ∨ (a.port = b.port ∧ a.own < b.own))))))) := by
  unfold lessV
  repeat' split
  all_goals (simp only [decide_eq_true_eq]; omega)

section
variable {n : Net} {up : List Bool} {rt : Int → Nat} {roots costs : List Int}

/-- What is told in the end. -/
def endN (n : Net) (up : List Bool) : List Heard := roundN n up (n.devices.length + 1)

theorem told_end (hb : speakB n up = true) (hm1 : MacsIn n) (S : SolvedI n up rt (nth costs)) {p q : Nat} (h : Hop n up p q) (hbt : betterB (wouldM n up (endN n up) q) (wouldM n up (endN n up) p) = true) :
    roleI n up (endN n up) q = 2 ∧ nth (endN n up) (p : Int) = ⟨true, wouldM n up (endN n up) q⟩ := by
  have T := Talk.roundN hb hm1 (n.devices.length + 1)
  have hr := T.right
  have hf := T.few
  have I := round_inv hb hm1 S (n.devices.length + 1)
  have hqp := hop_back hr h
  have hl := hop_live hr hqp
  have wq := would_exact hb hm1 S (k := n.devices.length + 1) (by omega) (by omega) hqp.1
  have wp := would_exact hb hm1 S (k := n.devices.length + 1) (by omega) (by omega) h.1
  have hdq := pdev_lt hr hqp.1
  have hdp := pdev_lt hr h.1
  have hc := pcost_le T.costs hqp.1
  have x0 := round_exact hb hm1 S (k := n.devices.length + 1) (by omega) (by omega) hdq.1 hdq.2
  have hst := round_stable hb hm1 S
  unfold endN at *
  rw [better_iff, wq, wp] at hbt
  simp only at hbt
  rcases role_cases (hs := roundN n up (n.devices.length + 1)) hl with ⟨h1, _⟩ | ⟨_, _, h2⟩ | ⟨_, h3, h4, _⟩
  · exfalso
    obtain ⟨g1, g2⟩ := root_port hr h1
    obtain ⟨s, _, hm⟩ := I.heard q p hqp g1
    have lo := (round_inv hb hm1 S s).low (pdev n p) hdp.1 hdp.2
    rw [g2] at x0
    simp only at x0
    rw [hm] at x0
    have e1 : (wouldM n up (roundN n up s) p).root = (bestOf n up (roundN n up s) (pdev n p)).root := rfl
    have e2 : (wouldM n up (roundN n up s) p).cost = (bestOf n up (roundN n up s) (pdev n p)).cost := rfl
    rw [e1, e2] at x0
    unfold LeI at lo
    omega
  · refine ⟨h2, ?_⟩
    have ht := tells_at hb hm1 (k := n.devices.length + 1) (by omega) I hl h2
    rcases heard_next hb hm1 I h with ⟨m, _, e⟩ | ⟨e, _⟩
    · rw [← hst] at e
      exact e
    · rw [ht] at e; cases e
  · exfalso
    obtain ⟨s, _, hm⟩ := I.heard q p hqp h3
    have lo := (round_inv hb hm1 S s).low (pdev n p) hdp.1 hdp.2
    rw [better_iff, wq, hm] at h4
    have e1 : (wouldM n up (roundN n up s) p).root = (bestOf n up (roundN n up s) (pdev n p)).root := rfl
    have e2 : (wouldM n up (roundN n up s) p).cost = (bestOf n up (roundN n up s) (pdev n p)).cost := rfl
    have e3 : (wouldM n up (roundN n up s) p).bridge = devId n (pdev n p) := rfl
    have e4 : (wouldM n up (roundN n up s) p).port = p := rfl
    rw [e1, e2, e3, e4] at h4
    simp only at h4
    unfold LeI at lo
    omega

/-- The root ports are the tree's. -/
theorem root_same (hb : speakB n up = true) (hm1 : MacsIn n) (S0 : Solved n up (ranksL n) roots costs) (S : SolvedI n up rt (nth costs)) (hrt : ∀ a b : Int, 0 ≤ a → a < n.devices.length → 0 ≤ b → b < n.devices.length → ((nth roots a = nth roots b ↔ rt a = rt b) ∧ (nth roots a = nth (ranksL n) b ↔ rt a = devId n b)))
    {d : Int} (h0 : 0 ≤ d) (h1 : d < n.devices.length) : (bestOf n up (endN n up) d).port = bestI n up (ranksL n) roots costs d := by
  have T := Talk.roundN hb hm1 (n.devices.length + 1)
  have hr := T.right
  have hf := T.few
  have hu := T.unlike
  have I := round_inv hb hm1 S (n.devices.length + 1)
  have x0 := round_exact hb hm1 S (k := n.devices.length + 1) (by omega) (by omega) h0 h1
  have hself := S.self d h0 h1
  have hnn := S.nonneg d h0 h1
  by_cases hroot : nth roots d = nth (ranksL n) d
  · rw [best_root hroot]
    have hid := (hrt d d h0 h1 h0 h1).2.1 hroot
    rcases best_mem' (n := n) (up := up) (hs := endN n up) d with e | ⟨i, hi, e⟩
    · rw [e]; rfl
    · exfalso
      obtain ⟨c1, c2, ⟨j, c3⟩, c4⟩ := cand_some hr e
      obtain ⟨s, _, hm⟩ := I.heard i j c3 c2
      have hc := pcost_le T.costs c3.1
      have hbd := (round_inv hb hm1 S s).bound (pdev n j)
      have e2 : (wouldM n up (roundN n up s) j).cost = (bestOf n up (roundN n up s) (pdev n j)).cost := rfl
      unfold endN at c4
      rw [c4, hm, e2] at x0
      simp only at x0
      unfold LeI at hself
      omega
  · obtain ⟨i, j, b1, b2, b3, b4⟩ := best_some S0 hr h0 h1 hroot
    obtain ⟨j2, c1, c2, _, c4⟩ := best_hop b3
    have hj2 := hop_unique b1 c1
    subst hj2
    have hj := pdev_lt hr (hop_lt hr b1)
    have hci := pcost_le T.costs b1.1
    have hsr := solved_root S0 hr b1
    rw [b2] at hsr
    have hrj := (hrt d (pdev n j) h0 h1 hj.1 hj.2).1.1 hsr
    have hne : ¬ rt d = devId n d := fun e => hroot ((hrt d d h0 h1 h0 h1).2.2 e)
    have wi := would_exact hb hm1 S (k := n.devices.length + 1) (by omega) (by omega) b1.1
    have wj := would_exact hb hm1 S (k := n.devices.length + 1) (by omega) (by omega) (hop_lt hr b1)
    have hbt : betterB (wouldM n up (endN n up) j) (wouldM n up (endN n up) i) = true := by
      unfold endN
      rw [better_iff, wi, wj, b2]
      simp only
      omega
    have hti := (told_end hb hm1 S b1 hbt).2
    have hy := cand_hop (hs := endN n up) hr b1 (by rw [hti])
    rw [hti, b2] at hy
    have hle := best_cand b1.1 hy
    have hnl : ¬ ltC ⟨(wouldM n up (endN n up) j).root, (wouldM n up (endN n up) j).cost + pcost n i, (wouldM n up (endN n up) j).bridge, (wouldM n up (endN n up) j).port, i⟩ (bestOf n up (endN n up) d) = true := by
      have := hle
      simp only at this
      rw [this]; simp
    rcases best_mem' (n := n) (up := up) (hs := endN n up) d with e | ⟨i', hi', e⟩
    · exfalso
      have e5 : (bestOf n up (endN n up) d).root = devId n d := by rw [e]; rfl
      have e6 : (bestOf n up (endN n up) d).root = rt d := x0.1
      exact hne (e6.symm.trans e5)
    · obtain ⟨a1, a2, ⟨j', a3⟩, a4⟩ := cand_some hr e
      have hj' := pdev_lt hr (hop_lt hr a3)
      have hci' := pcost_le T.costs a3.1
      obtain ⟨s1, s2⟩ := sender_of I i' j' a3 a2
      obtain ⟨s, _, hm⟩ := I.heard i' j' a3 a2
      have lo := (round_inv hb hm1 S s).low (pdev n j') hj'.1 hj'.2
      have tr := S.tri i' j' a3
      rw [a1] at tr
      have e1 : (wouldM n up (roundN n up s) j').root = (bestOf n up (roundN n up s) (pdev n j')).root := rfl
      have e2 : (wouldM n up (roundN n up s) j').cost = (bestOf n up (roundN n up s) (pdev n j')).cost := rfl
      have y1 : (nth (endN n up) (i' : Int)).msg.root = rt d := by
        have := x0.1
        rw [show bestOf n up (roundN n up (n.devices.length + 1)) d = _ from a4] at this
        exact this
      have y2 : (nth (endN n up) (i' : Int)).msg.cost + pcost n i' = nth costs d := by
        have := x0.2
        rw [show bestOf n up (roundN n up (n.devices.length + 1)) d = _ from a4] at this
        exact this
      have m1 : (nth (endN n up) (i' : Int)).msg.root = (bestOf n up (roundN n up s) (pdev n j')).root := by unfold endN; rw [hm]; rfl
      have m2 : (nth (endN n up) (i' : Int)).msg.cost = (bestOf n up (roundN n up s) (pdev n j')).cost := by unfold endN; rw [hm]; rfl
      have s1' : (nth (endN n up) (i' : Int)).msg.bridge = devId n (pdev n j') := s1
      have s2' : (nth (endN n up) (i' : Int)).msg.port = j' := s2
      have hsr' := solved_root S0 hr a3
      rw [a1] at hsr'
      have hvec := leastR_le _ _ ((best_mem (ranks := ranksL n) (roots := roots) (costs := costs)).2 ⟨i', j', a3, a1, rfl⟩)
      rw [c4] at hvec
      have hvn : ¬ lessV ⟨nth roots (pdev n j'), nth costs (pdev n j') + pcost n i', nth (ranksL n) (pdev n j'), j', i'⟩ ⟨nth roots (pdev n j), nth costs (pdev n j) + pcost n i, nth (ranksL n) (pdev n j), j, i⟩ = true := by rw [hvec]; simp
      rw [lessV_iff] at hvn
      simp only at hvn
      rw [a4] at hnl
      rw [ltC_iff6, s1', s2', y1] at hnl
      have o1 : ownI ⟨(wouldM n up (endN n up) j).root, (wouldM n up (endN n up) j).cost + pcost n i, (wouldM n up (endN n up) j).bridge, (wouldM n up (endN n up) j).port, i⟩ = 1 := by rw [ownI, if_neg (by simp only; omega)]
      have o2 : ownI ⟨rt d, (nth (endN n up) (i' : Int)).msg.cost + pcost n i', devId n (pdev n j'), j', i'⟩ = 1 := by rw [ownI, if_neg (by simp only; omega)]
      rw [o1, o2] at hnl
      have wj' : wouldM n up (endN n up) j = ⟨false, false, rt (pdev n j), devId n (pdev n j), nth costs (pdev n j), j, 0, 5120, 512, 3840⟩ := wj
      rw [wj'] at hnl
      simp only at hnl
      have r1 := rank_id hu hj.1 hj.2 hj'.1 hj'.2
      have r2 := rank_id hu hj'.1 hj'.2 hj.1 hj.2
      rw [a4]
      simp only
      rw [b3]
      rw [m1] at y1
      unfold LeI at lo tr
      have z1 : nth costs (pdev n j') + pcost n i' = nth costs d := by omega
      rw [y2] at hnl
      simp only [true_and, Int.lt_irrefl, false_or] at hnl
      omega

theorem roles_same (hb : speakB n up = true) (hm1 : MacsIn n) (S0 : Solved n up (ranksL n) roots costs) : settledR n up = rolesL n up (ranksL n) roots costs ∧ settleJ n up ≤ n.devices.length + 1 := by
  have T := Talk.roundN hb hm1 (n.devices.length + 1)
  have hr := T.right
  have hf := T.few
  have hu := T.unlike
  obtain ⟨rt, S, hrt⟩ := solvedI_of hu S0
  obtain ⟨j1, j2, _⟩ := settle_some (K := n.devices.length + 1) (by omega) (round_stable hb hm1 S)
  refine ⟨?_, j1⟩
  rw [settledR, j2]
  have hl1 : (rolesH n up (roundN n up (n.devices.length + 1))).length = n.ports.length := by simp [rolesH]
  have hl2 : (rolesL n up (ranksL n) roots costs).length = n.ports.length := rolesB_length ..
  refine List.ext_getElem (by rw [hl1, hl2]) fun p hp1 hp2 => ?_
  have hp : p < n.ports.length := by omega
  have g1 : (rolesH n up (roundN n up (n.devices.length + 1)))[p]'hp1 = roleI n up (endN n up) p := by simp [rolesH, endN]
  have g2 : (rolesL n up (ranksL n) roots costs)[p]'hp2 = if bestI n up (ranksL n) roots costs (pdev n p) = p then 1 else role1 n up (ranksL n) costs p := by
    rw [← roles_get hr hp]
    exact (nth_eq (l := rolesL n up (ranksL n) roots costs) (i := (p : Int)) (by simpa using hp2)).symm
  rw [g1, g2]
  have hd := pdev_lt hr hp
  have hrs := root_same hb hm1 S0 S hrt hd.1 hd.2
  by_cases hq : ∃ q, Hop n up p q
  · obtain ⟨q, hq⟩ := hq
    have hlv := hop_live hr hq
    have hqp := hop_back hr hq
    have hdq := pdev_lt hr hqp.1
    rcases role_cases (hs := endN n up) hlv with ⟨h1, h2⟩ | ⟨h1, h2, h3⟩ | ⟨h1, h2, h3, h4⟩
    · rw [h2, if_pos (by rw [← hrs]; exact h1)]
    all_goals
      rw [if_neg (by rw [← hrs]; exact h1), role1_hop hq]
      have wq := would_exact hb hm1 S (k := n.devices.length + 1) (by omega) (by omega) hqp.1
      have wp := would_exact hb hm1 S (k := n.devices.length + 1) (by omega) (by omega) hp
      have wq' : wouldM n up (endN n up) q = _ := wq
      have wp' : wouldM n up (endN n up) p = _ := wp
      have t1 := S.tri p q hq
      have t2 := S.tri q p hqp
      have hidne : devId n (pdev n p) ≠ devId n (pdev n q) := fun e => by
        obtain ⟨_, _, _, _, _, _, hne⟩ := hop_facts hr hq
        exact hne (devId_inj hu hd.1 hd.2 hdq.1 hdq.2 e)
      have rk := rank_id hu hd.1 hd.2 hdq.1 hdq.2
      have hrte : rt (pdev n p) = rt (pdev n q) := by
        unfold LeI at t1 t2
        omega
    · rw [h3]
      split
      · rfl
      · rename_i hn
        exfalso
        have hbt : betterB (wouldM n up (endN n up) q) (wouldM n up (endN n up) p) = true := by
          rw [better_iff, wq', wp']
          simp only
          omega
        have ht := (told_end hb hm1 S hq hbt).2
        rw [ht] at h2
        rcases h2 with h2 | h2
        · cases h2
        · rw [hbt] at h2; cases h2
    · rw [h4]
      split
      · rename_i hn
        exfalso
        have hbt : betterB (wouldM n up (endN n up) p) (wouldM n up (endN n up) q) = true := by
          rw [better_iff, wq', wp']
          simp only
          omega
        have ht := (told_end hb hm1 S hqp hbt).1
        omega
      · rfl
  · have hnl : liveB n up p = false := by
      cases h : liveB n up p
      · rfl
      · exact absurd (live_hop hr h) hq
    have hrole : roleI n up (endN n up) p = 0 := by
      unfold roleI
      rw [if_pos hnl]
    rw [hrole, if_neg, role1_none]
    · refine Int.not_le.1 fun h => hq ⟨(farI n up p).toNat, hp, by omega⟩
    · intro h
      obtain ⟨j, h3, _⟩ := best_hop h
      exact hq ⟨j, h3⟩
end
end Go.Sy.YthbgklhegccckaaGreat

namespace Go.Sy.YthbgklhegccckaaGreat
open Go.Proofs

attribute [local irreducible] Go.Sy.G Go.Sy.DR
set_option maxRecDepth 100000
set_option maxHeartbeats 4000000

theorem settled_len (n : Net) (up : List Bool) : (settledR n up).length = n.ports.length := by simp [settledR, rolesH]

theorem speakTreeS (n : Net) (up : List Bool) (hin : n.In) : Sy.Spec Tryz.prog 4 [netSV n, .sl 1 boolSV up] [] (boolSV true) [] := contract Γ hm 100 F4 Tryz.ntmps4 rfl fun F hF => by
  ((conv => whnf); repeat ((first | refine aF ?_ | refine aT ?_); (first | refine run Γ hm 400 ?_ | refine runD Γ hm 400 (by kernel_rfl) ?_); conv => whnf))
  refine call0 speakWorksS F6 rfl rfl rfl rfl rfl ?_
  ((first | refine run Γ hm 400 ?_ | refine runD Γ hm 400 (by kernel_rfl) ?_); (conv => whnf); repeat ((first | refine aF ?_ | refine aT ?_); (first | refine run Γ hm 400 ?_ | refine runD Γ hm 400 (by kernel_rfl) ?_); conv => whnf))
  refine call0 (greatS n) F5 rfl rfl rfl rfl rfl ?_
  ((first | refine run Γ hm 400 ?_ | refine runD Γ hm 400 (by kernel_rfl) ?_); (conv => whnf); repeat ((first | refine aF ?_ | refine aT ?_); (first | refine run Γ hm 400 ?_ | refine runD Γ hm 400 (by kernel_rfl) ?_); conv => whnf))
  refine ⟨fun h => ?_, fun h => ?_⟩
  · ((first | refine run Γ hm 400 ?_ | refine runD Γ hm 400 (by kernel_rfl) ?_); (conv => whnf); repeat ((first | refine aF ?_ | refine aT ?_); (first | refine run Γ hm 400 ?_ | refine runD Γ hm 400 (by kernel_rfl) ?_); conv => whnf))
    exact done0 rfl (.cons .tmp .nil) rfl rfl
  have hfin := fin_of_great h
  have hm1 := macs_in hin
  ((first | refine run Γ hm 400 ?_ | refine runD Γ hm 400 (by kernel_rfl) ?_); (conv => whnf); repeat ((first | refine aF ?_ | refine aT ?_); (first | refine run Γ hm 400 ?_ | refine runD Γ hm 400 (by kernel_rfl) ?_); conv => whnf))
  refine ⟨fun h => ?_, fun h => ?_⟩
  · ((first | refine run Γ hm 400 ?_ | refine runD Γ hm 400 (by kernel_rfl) ?_); (conv => whnf); repeat ((first | refine aF ?_ | refine aT ?_); (first | refine run Γ hm 400 ?_ | refine runD Γ hm 400 (by kernel_rfl) ?_); conv => whnf))
    exact done0 rfl (.cons .tmp .nil) rfl rfl
  ((first | refine run Γ hm 400 ?_ | refine runD Γ hm 400 (by kernel_rfl) ?_); (conv => whnf); repeat ((first | refine aF ?_ | refine aT ?_); (first | refine run Γ hm 400 ?_ | refine runD Γ hm 400 (by kernel_rfl) ?_); conv => whnf))
  refine call0 (unlikeS n hfin hm1) F10 rfl rfl rfl rfl rfl ?_
  ((first | refine run Γ hm 400 ?_ | refine runD Γ hm 400 (by kernel_rfl) ?_); (conv => whnf); repeat ((first | refine aF ?_ | refine aT ?_); (first | refine run Γ hm 400 ?_ | refine runD Γ hm 400 (by kernel_rfl) ?_); conv => whnf))
  refine ⟨fun h => ?_, fun h => ?_⟩
  · ((first | refine run Γ hm 400 ?_ | refine runD Γ hm 400 (by kernel_rfl) ?_); (conv => whnf); repeat ((first | refine aF ?_ | refine aT ?_); (first | refine run Γ hm 400 ?_ | refine runD Γ hm 400 (by kernel_rfl) ?_); conv => whnf))
    exact done0 rfl (.cons .tmp .nil) rfl rfl
  have hu : unlikeB n = true := by simpa using h
  have hfa := unlike_facts hu
  have hfew := right_few hfa.1
  by_cases hl : up.length = n.links.length
  · have hb : speakB n up = true := by simp [speakB, hu, hl]
    have hok : okB n up = true := ok_iff.2 ⟨hl, hfa.1, hfa.2.1⟩
    have q1 := settleOKS n up hfin hm1 hb
    have q2 := treeRolesOK n up hfin hok
    obtain ⟨e1, e2⟩ := roles_same hb hm1 (tree_solved hok)
    have e1 : settledR n up = rolesT n up := e1
    have hRl := settled_len n up
    rw [e1] at q1 hRl
    generalize rolesT n up = R at *
    generalize settleJ n up = J at *
    ((first | refine run Γ hm 400 ?_ | refine runD Γ hm 400 (by kernel_rfl) ?_); (conv => whnf); repeat ((first | refine aF ?_ | refine aT ?_); (first | refine run Γ hm 400 ?_ | refine runD Γ hm 400 (by kernel_rfl) ?_); conv => whnf))
    refine call0 q1 F7 rfl rfl rfl rfl rfl ?_
    ((first | refine run Γ hm 400 ?_ | refine runD Γ hm 400 (by kernel_rfl) ?_); (conv => whnf); repeat ((first | refine aF ?_ | refine aT ?_); (first | refine run Γ hm 400 ?_ | refine runD Γ hm 400 (by kernel_rfl) ?_); conv => whnf))
    refine call0 q2 F11 rfl rfl rfl rfl rfl ?_
    ((first | refine run Γ hm 400 ?_ | refine runD Γ hm 400 (by kernel_rfl) ?_); (conv => whnf); repeat ((first | refine aF ?_ | refine aT ?_); (first | refine run Γ hm 400 ?_ | refine runD Γ hm 400 (by kernel_rfl) ?_); conv => whnf))
    refine ⟨fun h => False.elim (by simp at h), fun _ => ?_⟩
    ((first | refine run Γ hm 400 ?_ | refine runD Γ hm 400 (by kernel_rfl) ?_); (conv => whnf); repeat ((first | refine aF ?_ | refine aT ?_); (first | refine run Γ hm 400 ?_ | refine runD Γ hm 400 (by kernel_rfl) ?_); conv => whnf))
    refine ⟨by unfold I64; omega, ?_⟩
    ((conv => whnf); repeat ((first | refine aF ?_ | refine aT ?_); (first | refine run Γ hm 400 ?_ | refine runD Γ hm 400 (by kernel_rfl) ?_); conv => whnf))
    refine ⟨fun h => absurd (of_decide_eq_true h) (by omega), fun _ => ?_⟩
    ((first | refine run Γ hm 400 ?_ | refine runD Γ hm 400 (by kernel_rfl) ?_); (conv => whnf); repeat ((first | refine aF ?_ | refine aT ?_); (first | refine run Γ hm 400 ?_ | refine runD Γ hm 400 (by kernel_rfl) ?_); conv => whnf))
    refine G_count R.length (fun j => [(5, .sl 1 intSV R), (8, .sl 1 intSV R), (57, intSV R.length), (58, intSV j)]) (fun _ => []) [] ⟨⟨rfl, rfl, rfl, rfl, rfl, rfl, rfl, rfl, trivial⟩, trivial, rfl, rfl⟩ ?_
    intro j hj
    ((first | refine run Γ hm 400 ?_ | refine runD Γ hm 400 (by kernel_rfl) ?_); (conv => whnf); repeat ((first | refine aF ?_ | refine aT ?_); (first | refine run Γ hm 400 ?_ | refine runD Γ hm 400 (by kernel_rfl) ?_); conv => whnf))
    refine ⟨fun h => ?_, fun h => ?_⟩
    · have hlt : j < R.length := by simpa using h
      obtain ⟨x, hx⟩ : ∃ x, R[(j : Int).toNat]'(by omega) = x := ⟨_, rfl⟩
      ((first | refine run Γ hm 400 ?_ | refine runD Γ hm 400 (by kernel_rfl) ?_); (conv => whnf); repeat ((first | refine aF ?_ | refine aT ?_); (first | refine run Γ hm 400 ?_ | refine runD Γ hm 400 (by kernel_rfl) ?_); conv => whnf))
      refine ⟨rfl, by omega, by omega, ?_⟩
      rw [hx]
      ((conv => whnf); repeat ((first | refine aF ?_ | refine aT ?_); (first | refine run Γ hm 400 ?_ | refine runD Γ hm 400 (by kernel_rfl) ?_); conv => whnf))
      refine ⟨rfl, by omega, by omega, ?_⟩
      rw [hx]
      ((conv => whnf); repeat ((first | refine aF ?_ | refine aT ?_); (first | refine run Γ hm 400 ?_ | refine runD Γ hm 400 (by kernel_rfl) ?_); conv => whnf))
      refine ⟨(by kernel_rfl), ?_⟩
      ((conv => whnf); repeat ((first | refine aF ?_ | refine aT ?_); (first | refine run Γ hm 400 ?_ | refine runD Γ hm 400 (by kernel_rfl) ?_); conv => whnf))
      refine ⟨fun h => False.elim (by simp at h), fun _ => ?_⟩
      ((first | refine run Γ hm 400 ?_ | refine runD Γ hm 400 (by kernel_rfl) ?_); (conv => whnf); repeat ((first | refine aF ?_ | refine aT ?_); (first | refine run Γ hm 400 ?_ | refine runD Γ hm 400 (by kernel_rfl) ?_); conv => whnf))
      refine ⟨by unfold I64; omega, ?_⟩
      ((conv => whnf); repeat ((first | refine aF ?_ | refine aT ?_); (first | refine run Γ hm 400 ?_ | refine runD Γ hm 400 (by kernel_rfl) ?_); conv => whnf))
      exact G_next [] hlt ⟨⟨rfl, rfl, rfl, rfl, rfl, rfl, rfl, rfl, trivial⟩, trivial, rfl, rfl⟩
    · ((first | refine run Γ hm 400 ?_ | refine runD Γ hm 400 (by kernel_rfl) ?_); (conv => whnf); repeat ((first | refine aF ?_ | refine aT ?_); (first | refine run Γ hm 400 ?_ | refine runD Γ hm 400 (by kernel_rfl) ?_); conv => whnf))
      exact done0 rfl (.cons .tmp .nil) rfl rfl
  · have hb : speakB n up = false := by simp [speakB, hl]
    have hok : okB n up = false := by simp [okB, hl]
    have q1 := settleBadS n up hfin hm1 hb
    have q2 := treeRolesBad n up hfin hok
    ((first | refine run Γ hm 400 ?_ | refine runD Γ hm 400 (by kernel_rfl) ?_); (conv => whnf); repeat ((first | refine aF ?_ | refine aT ?_); (first | refine run Γ hm 400 ?_ | refine runD Γ hm 400 (by kernel_rfl) ?_); conv => whnf))
    refine call0 q1 F7 rfl rfl rfl rfl rfl ?_
    ((first | refine run Γ hm 400 ?_ | refine runD Γ hm 400 (by kernel_rfl) ?_); (conv => whnf); repeat ((first | refine aF ?_ | refine aT ?_); (first | refine run Γ hm 400 ?_ | refine runD Γ hm 400 (by kernel_rfl) ?_); conv => whnf))
    refine call0 q2 F11 rfl rfl rfl rfl rfl ?_
    ((first | refine run Γ hm 400 ?_ | refine runD Γ hm 400 (by kernel_rfl) ?_); (conv => whnf); repeat ((first | refine aF ?_ | refine aT ?_); (first | refine run Γ hm 400 ?_ | refine runD Γ hm 400 (by kernel_rfl) ?_); conv => whnf))
    refine ⟨by unfold I64; omega, ?_⟩
    ((conv => whnf); repeat ((first | refine aF ?_ | refine aT ?_); (first | refine run Γ hm 400 ?_ | refine runD Γ hm 400 (by kernel_rfl) ?_); conv => whnf))
    refine G_count 0 (fun j => [(5, .sl 1 intSV []), (8, .sl 1 intSV []), (57, intSV 0), (58, intSV j)]) (fun _ => []) [] ⟨⟨rfl, rfl, rfl, rfl, rfl, rfl, rfl, rfl, trivial⟩, trivial, rfl, rfl⟩ ?_
    intro j hj
    ((first | refine run Γ hm 400 ?_ | refine runD Γ hm 400 (by kernel_rfl) ?_); (conv => whnf); repeat ((first | refine aF ?_ | refine aT ?_); (first | refine run Γ hm 400 ?_ | refine runD Γ hm 400 (by kernel_rfl) ?_); conv => whnf))
    exact done0 rfl (.cons .tmp .nil) rfl rfl
end Go.Sy.YthbgklhegccckaaGreat
