/-
  The symbolic layer, 11: a region that draws its order: one walk in the text's order serves every order.
-/
import Derived.Test.YtjnkgkpenhjmfaaSy10
import Derived.Still
namespace Go.Sy

theorem SS.ext' {s t : SS} (h1 : ∀ i, s.σ i = t.σ i) (h2 : ∀ k, s.h k = t.h k) : s = t := by
  obtain ⟨a, b⟩ := s
  obtain ⟨c, d⟩ := t
  have e1 : a = c := funext h1
  have e2 : b = d := funext h2
  rw [e1, e2]

/-- One operation, and what it comes to. -/
structure Stp where
  i : Nat
  o : Oper
  U : Up
  want : Bool

def isIdx (o : Oper) : Bool := match o.op with | .indexAddr .. => true | _ => false
def isSt (o : Oper) : Bool := match o.op with | .store .. => true | _ => false

/-- An operation's law; of an element's address: it hangs on lengths alone; of a store: it leaves lengths as they are. -/
structure GoodX (P : Program) (o : Oper) (s : SS) (U : Up) : Prop where
  good : Good P o s U
  idx : isIdx o = true → U.objs = [] ∧ ∀ s' : SS, (∀ x ∈ o.op.operands, ev s' x = ev s x) → (∀ k ∈ U.rd, (s'.h k).len = (s.h k).len) → Good P o s' U
  st : isSt o = true → ∀ p ∈ U.objs, p.2.len = (s.h p.1).len

theorem GoodX.of {P : Program} {o : Oper} {s : SS} {U : Up} (h : Good P o s U) (hn : (isIdx o || isSt o) = false) : GoodX P o s U := by
  simp only [Bool.or_eq_false_iff] at hn
  exact ⟨h, fun h1 => by (rw [hn.1] at h1; cases h1), fun h1 => by (rw [hn.2] at h1; cases h1)⟩

def Stp.ok (P : Program) (all : Array Oper) (s : SS) (t : Stp) : Prop :=
  all[t.i]? = some t.o ∧ wantS all s t.o.guard t.want ∧ (t.want = true → GoodX P t.o s t.U) ∧ (t.want = false → t.U = ⟨.val undef, [], []⟩)

def disj (K L : List Nat) : Bool := K.all fun k => !(memN L k)

theorem disj_ok {K L : List Nat} (h : disj K L = true) : ∀ k ∈ K, k ∉ L := fun k hk hl => by
  simp only [disj, List.all_eq_true] at h
  have := h k hk
  rw [memN_iff.2 hl] at this
  cases this

/-- The two have nothing to do with one another. -/
def apartB (all : Array Oper) (p t : Stp) : Bool :=
  p.o.apart all t.o && disj p.U.ws t.U.ws && (disj p.U.ws t.U.rd || (isSt p.o && isIdx t.o)) && (disj t.U.ws p.U.rd || (isSt t.o && isIdx p.o))

def aft (p t : Stp) : Bool := t.o.after.toList.any fun e => Nat.beq e.on p.i && Region.binds .any e

def pairOK (all : Array Oper) (p : Stp) : List Stp → Bool
  | [] => true
  | t :: r => (aft p t || apartB all p t) && pairOK all p r

def pairsOK (all : Array Oper) : List Stp → Bool
  | [] => true
  | p :: r => pairOK all p r && pairsOK all r

/-- Each comes behind what it waits for. -/
def edgesOK (t : Stp) : Bool := t.o.after.toList.all fun e => !(Region.binds .any e) || Nat.blt e.on t.i

def fin (s : SS) : List Stp → SS
  | [] => s
  | t :: r => fin (s.upd t.o.dst t.U) r

def Chain (P : Program) (all : Array Oper) : SS → List Stp → Prop
  | _, [] => True
  | s, t :: r => t.ok P all s ∧ Chain P all (s.upd t.o.dst t.U) r

theorem upd_comm {β : Type 1} (f : Nat → β) {d e : Nat} (u v : β) (h : d ≠ e) : upd (upd f d u) e v = upd (upd f e v) d u := by
  funext i
  by_cases h1 : i = d
  · subst h1; rw [upd_ne _ _ h, upd_self, upd_self]
  · by_cases h2 : i = e
    · subst h2; rw [upd_self, upd_ne _ _ h1, upd_self]
    · rw [upd_ne _ _ h2, upd_ne _ _ h1, upd_ne _ _ h1, upd_ne _ _ h2]

theorem updL_upd (h : Nat → Ob) (k : Nat) (o : Ob) : ∀ (l : List (Nat × Ob)), k ∉ l.map (·.1) → updL (upd h k o) l = upd (updL h l) k o
  | [], _ => rfl
  | (j, x) :: r, hk => by
    simp only [List.map_cons, List.mem_cons, not_or] at hk
    rw [updL, updL, upd_comm _ _ _ hk.1, updL_upd _ k o r hk.2]

theorem updL_comm : ∀ (l m : List (Nat × Ob)) (h : Nat → Ob), (∀ k ∈ l.map (·.1), k ∉ m.map (·.1)) → updL (updL h l) m = updL (updL h m) l
  | [], m, h, _ => rfl
  | (k, o) :: r, m, h, hd => by
    rw [updL, updL, updL_comm r m _ (fun j hj => hd j (by simp at hj ⊢; exact .inr hj)), updL_upd h k o m (hd k (by simp))]

theorem apartB_spec {all : Array Oper} {p t : Stp} (h : apartB all p t = true) :
    (∀ d, p.o.dst = some d → d ∉ t.o.looksAt all) ∧ (∀ d, p.o.dst = some d → t.o.dst ≠ some d) ∧ (∀ d, t.o.dst = some d → d ∉ p.o.looksAt all) ∧ (∀ k ∈ p.U.ws, k ∉ t.U.ws) ∧
      ((∀ k ∈ p.U.ws, k ∉ t.U.rd) ∨ (isSt p.o = true ∧ isIdx t.o = true)) ∧ ((∀ k ∈ t.U.ws, k ∉ p.U.rd) ∨ (isSt t.o = true ∧ isIdx p.o = true)) := by
  simp only [apartB, Bool.and_eq_true, Bool.or_eq_true] at h
  obtain ⟨⟨⟨h1, h2⟩, h3⟩, h4⟩ := h
  obtain ⟨a1, a2, a3⟩ := Oper.apart_spec h1
  exact ⟨a1, a2, a3, disj_ok h2, h3.imp disj_ok id, h4.imp disj_ok id⟩

theorem upd_swap {all : Array Oper} {p t : Stp} (h : apartB all p t = true) (s : SS) : (s.upd p.o.dst p.U).upd t.o.dst t.U = (s.upd t.o.dst t.U).upd p.o.dst p.U := by
  obtain ⟨_, h2, _, h4, _, _⟩ := apartB_spec h
  unfold SS.upd
  congr 1
  · cases hp : p.o.dst with
    | none => rfl
    | some d =>
      cases ht : t.o.dst with
      | none => rfl
      | some e => exact upd_comm _ _ _ (fun e' => h2 d hp (by rw [ht, e']))
  · exact updL_comm _ _ _ (fun k hk => h4 k hk)

theorem wantS_congr {all : Array Oper} {s s' : SS} {o : Oper} {b : Bool} (a2 : wantS all s o.guard b) (h1 : ∀ d, d ∈ o.looksAt all → s'.σ d = s.σ d) : wantS all s' o.guard b := by
  unfold wantS at a2 ⊢
  cases hg : o.guard with
  | none => rw [hg] at a2; exact a2
  | some q =>
    obtain ⟨j, want⟩ := q
    rw [hg] at a2
    obtain ⟨d, b1, b2⟩ := a2
    have hd : s'.σ d = s.σ d := h1 d (by simp [Oper.looksAt, hg, b1])
    exact ⟨d, b1, by rw [hd]; exact b2⟩

theorem ev_congr {all : Array Oper} {s s' : SS} {o : Oper} (h1 : ∀ d, d ∈ o.looksAt all → s'.σ d = s.σ d) : ∀ x ∈ o.op.operands, ev s' x = ev s x := fun x hx => by
  cases x with
  | tmp d =>
    have hd : s'.σ d = s.σ d := h1 d (by
      simp only [Oper.looksAt, List.mem_append, List.mem_filterMap]
      exact .inl ⟨.tmp d, by simpa using hx, rfl⟩)
    simpa only [ev] using hd
  | const v => rfl
  | global g => rfl
  | func f => rfl

/-- The same slots are read, the same names looked at. -/
theorem Stp.congr {P : Program} {all : Array Oper} {s s' : SS} {t : Stp} (h : t.ok P all s) (h1 : ∀ d, d ∈ t.o.looksAt all → s'.σ d = s.σ d) (h2 : ∀ k, k ∈ t.U.rd ∨ k ∈ t.U.ws → s'.h k = s.h k) : t.ok P all s' := by
  obtain ⟨a1, a2, a3, a4⟩ := h
  have hev := ev_congr h1
  refine ⟨a1, wantS_congr a2 h1, fun hw => ?_, a4⟩
  obtain ⟨g1, g2, g3⟩ := a3 hw
  refine ⟨fun κ a w hi hr ho N Q hN => ?_, fun hi => ?_, fun hi p hp => ?_⟩
  · exact g1 κ a w hi (fun x hx => by rw [← hev x hx]; exact hr x hx) (fun k hk => by rw [← h2 k hk]; exact ho k hk) N Q hN
  · obtain ⟨e1, e2⟩ := g2 hi
    exact ⟨e1, fun s'' q1 q2 => e2 s'' (fun x hx => (q1 x hx).trans (hev x hx)) (fun k hk => by rw [q2 k hk, h2 k (.inl hk)])⟩
  · rw [g3 hi p hp, h2 p.1 (.inr (List.mem_map.2 ⟨p, hp, rfl⟩))]

/-- Of an element's address: the same lengths. -/
theorem Stp.congrI {P : Program} {all : Array Oper} {s s' : SS} {t : Stp} (h : t.ok P all s) (hi : isIdx t.o = true) (h1 : ∀ d, d ∈ t.o.looksAt all → s'.σ d = s.σ d) (h2 : ∀ k ∈ t.U.rd, (s'.h k).len = (s.h k).len) : t.ok P all s' := by
  obtain ⟨a1, a2, a3, a4⟩ := h
  have hev := ev_congr h1
  refine ⟨a1, wantS_congr a2 h1, fun hw => ?_, a4⟩
  obtain ⟨g1, g2, g3⟩ := a3 hw
  obtain ⟨e1, e2⟩ := g2 hi
  refine ⟨e2 s' hev h2, fun _ => ⟨e1, fun s'' q1 q2 => e2 s'' (fun x hx => (q1 x hx).trans (hev x hx)) (fun k hk => by rw [q2 k hk, h2 k hk])⟩, fun _ p hp => ?_⟩
  rw [e1] at hp
  cases hp

theorem updL_len : ∀ (l : List (Nat × Ob)) (h : Nat → Ob) (k : Nat), (∀ q ∈ l, q.2.len = (h q.1).len) → (updL h l k).len = (h k).len
  | [], _, _, _ => rfl
  | (j, o) :: r, h, k, hq => by
    rw [updL, updL_len r (Sy.upd h j o) k (fun q hqr => ?_)]
    · by_cases hj : k = j
      · subst hj; rw [upd_self]; exact hq (k, o) (by simp)
      · rw [upd_ne _ _ hj]
    · rw [hq q (by simp [hqr])]
      by_cases hj : q.1 = j
      · rw [hj, upd_self]; exact (hq (j, o) (by simp)).symm
      · rw [upd_ne _ _ hj]

/-- A store leaves lengths. -/
theorem Stp.lens {P : Program} {all : Array Oper} {s : SS} {t : Stp} (h : t.ok P all s) (hi : isSt t.o = true) (k : Nat) : ((s.upd t.o.dst t.U).h k).len = (s.h k).len := by
  obtain ⟨_, _, a3, a4⟩ := h
  cases hw : t.want with
  | false => rw [a4 hw]; rfl
  | true => exact updL_len _ _ _ ((a3 hw).st hi)

theorem upd_σ_ne {s : SS} {dst : Option Nat} {U : Up} {d : Nat} (h : dst ≠ some d) : (s.upd dst U).σ d = s.σ d := by
  cases dst with
  | none => rfl
  | some e => exact upd_ne _ _ (fun e' => h (by rw [e']))

theorem Chain.first {P : Program} {all : Array Oper} {t : Stp} {post : List Stp} : ∀ {pre : List Stp} {s : SS}, Chain P all s (pre ++ t :: post) → (∀ p ∈ pre, apartB all p t = true) →
    t.ok P all s ∧ Chain P all (s.upd t.o.dst t.U) (pre ++ post) ∧ fin s (pre ++ t :: post) = fin (s.upd t.o.dst t.U) (pre ++ post)
  | [], s, h, _ => ⟨h.1, h.2, rfl⟩
  | p :: pre, s, h, hp => by
    obtain ⟨h1, h2⟩ := h
    obtain ⟨i1, i2, i3⟩ := Chain.first h2 (fun q hq => hp q (by simp [hq]))
    have ha := hp p (by simp)
    obtain ⟨b1, b2, b3, b4, b5, b6⟩ := apartB_spec ha
    have ht : t.ok P all s := by
      rcases b5 with b5 | ⟨c1, c2⟩
      · exact Stp.congr i1 (fun d hd => (upd_σ_ne (fun e => b1 d e hd)).symm) (fun k hk => (updL_mem (fun hm => by
          rcases hk with hk | hk
          · exact b5 k hm hk
          · exact b4 k hm hk)).symm)
      · exact Stp.congrI i1 c2 (fun d hd => (upd_σ_ne (fun e => b1 d e hd)).symm) (fun k _ => (Stp.lens h1 c1 k).symm)
    have hpk : p.ok P all (s.upd t.o.dst t.U) := by
      rcases b6 with b6 | ⟨c1, c2⟩
      · exact Stp.congr h1 (fun d hd => upd_σ_ne (fun e => b3 d e hd)) (fun k hk => updL_mem (fun hm => by
          rcases hk with hk | hk
          · exact b6 k hm hk
          · exact b4 k hk hm))
      · exact Stp.congrI h1 c2 (fun d hd => upd_σ_ne (fun e => b3 d e hd)) (fun k _ => Stp.lens ht c1 k)
    refine ⟨ht, ⟨hpk, ?_⟩, ?_⟩
    · rw [← upd_swap ha]; exact i2
    · show fin (s.upd p.o.dst p.U) (pre ++ t :: post) = fin ((s.upd t.o.dst t.U).upd p.o.dst p.U) (pre ++ post)
      rw [i3, upd_swap ha]

theorem pairsOK_mid {all : Array Oper} {t : Stp} {post : List Stp} : ∀ {pre : List Stp}, pairsOK all (pre ++ t :: post) = true → (∀ p ∈ pre, aft p t = true ∨ apartB all p t = true) ∧ pairsOK all (pre ++ post) = true
  | [], h => by
    simp only [List.nil_append, pairsOK, Bool.and_eq_true] at h
    exact ⟨by simp, h.2⟩
  | p :: pre, h => by
    simp only [List.cons_append, pairsOK, Bool.and_eq_true] at h
    obtain ⟨h1, h2⟩ := h
    obtain ⟨i1, i2⟩ := pairsOK_mid h2
    have key : ∀ l : List Stp, pairOK all p (l ++ t :: post) = true → (aft p t = true ∨ apartB all p t = true) ∧ pairOK all p (l ++ post) = true := by
      intro l
      induction l with
      | nil => intro h; simp only [List.nil_append, pairOK, Bool.and_eq_true, Bool.or_eq_true] at h; exact h
      | cons q l ih =>
        intro h
        simp only [List.cons_append, pairOK, Bool.and_eq_true] at h ⊢
        exact ⟨(ih h.2).1, h.1, (ih h.2).2⟩
    obtain ⟨k1, k2⟩ := key pre h1
    refine ⟨fun q hq => ?_, ?_⟩
    · rcases List.mem_cons.1 hq with rfl | hq
      · exact k1
      · exact i1 q hq
    · simp only [List.cons_append, pairsOK, Bool.and_eq_true]
      exact ⟨k2, i2⟩

/-- WHATEVER ORDER. -/
theorem any_order {P : Program} {F : Fr} {n : Nat} {all : Array Oper} {Q : Exit → Act → World → Prop} (hdst : ∀ (i : Nat) (o : Oper), all[i]? = some o → ∀ d, o.dst = some d → d < n) :
    ∀ (m : Nat) (rem : List Stp) (listed : Array Bool) (s : SS) (κ : Ka) (a : Act) (w : World), rem.length = m → St F n s κ a w → Chain P all s rem → pairsOK all rem = true → (∀ t ∈ rem, edgesOK t = true) →
      (∀ i, listed.getD i true = false ↔ ∃ t ∈ rem, t.i = i) → (rem.Pairwise fun p t => p.i < t.i) → (∀ i, i < all.size → i < listed.size) → (∀ κ' a' w', St F n (fin s rem) κ' a' w' → Q .normal a' w') → wpAny P .any all Q m listed a w := by
  intro m
  induction m with
  | zero =>
    intro rem listed s κ a w hm hs _ _ _ hl _ _ hQ
    have : rem = [] := List.eq_nil_of_length_eq_zero hm
    subst this
    refine ⟨?_, hQ κ a w hs⟩
    apply List.eq_nil_iff_forall_not_mem.2
    intro i hi
    have h1 := (mem_ready.1 hi).1
    rw [hl i] at h1
    obtain ⟨t, ht, _⟩ := h1
    cases ht
  | succ m ih =>
    intro rem listed s κ a w hm hs hc hp he hl hlt hsz hQ
    -- something is ready
    have hready : ∀ t post, rem = t :: post → t.i ∈ Region.ready .any all listed := fun t post h0 => by
      subst h0
      refine mem_ready.2 ⟨(hl t.i).2 ⟨t, by simp, rfl⟩, t.o, hc.1.1, fun e hedge hb => ?_⟩
      have h1 := he t (by simp)
      simp only [edgesOK, List.all_eq_true, Bool.or_eq_true, Bool.not_eq_true'] at h1
      have h2 : e.on < t.i := by
        rcases h1 e (by simpa using hedge) with h2 | h2
        · rw [hb] at h2; cases h2
        · exact Nat.le_of_ble_eq_true h2
      have hin : e.on < listed.size := by
        refine hsz _ ?_
        have : t.i < all.size := by
          have := hc.1.1
          rcases Nat.lt_or_ge t.i all.size with h | h
          · exact h
          · rw [Array.getElem?_eq_none h] at this; cases this
        omega
      have h3 : listed.getD e.on true ≠ false := fun h4 => by
        obtain ⟨q, hq, hqi⟩ := (hl e.on).1 h4
        rcases List.mem_cons.1 hq with rfl | hq
        · omega
        · have := (List.pairwise_cons.1 hlt).1 q hq; omega
      simp only [Array.getD_eq_getD_getElem?, Array.getElem?_eq_getElem hin, Option.getD_some] at h3 ⊢
      cases hh : listed[e.on] with
      | true => rfl
      | false => exact absurd hh h3
    refine ⟨fun h0 => ?_, fun i hi => ?_⟩
    · cases rem with
      | nil => simp at hm
      | cons t post =>
        have := hready t post rfl
        rw [h0] at this
        cases this
    · obtain ⟨h1, oi, h2, h3⟩ := mem_ready.1 hi
      obtain ⟨t, ht, rfl⟩ := (hl i).1 h1
      obtain ⟨pre, post, rfl⟩ := List.append_of_mem ht
      obtain ⟨p1, p2⟩ := pairsOK_mid hp
      have hap : ∀ p ∈ pre, apartB all p t = true := fun p hpp => by
        rcases p1 p hpp with h4 | h4
        · exfalso
          simp only [aft, List.any_eq_true, Bool.and_eq_true] at h4
          obtain ⟨e, e1, e2, e3⟩ := h4
          have e4 : e.on = p.i := Nat.eq_of_beq_eq_true e2
          have hto : oi = t.o := by
            have hok : all[t.i]? = some t.o := by
              have : ∀ (l : List Stp) (s : SS), Chain P all s (l ++ t :: post) → all[t.i]? = some t.o := by
                intro l
                induction l with
                | nil => intro s h; exact h.1.1
                | cons q l ih => intro s h; exact ih _ h.2
              exact this pre s hc
            rw [hok] at h2
            exact (Option.some.inj h2).symm
          rw [hto] at h3
          have h5 := h3 e (by simpa using e1) e3
          rw [e4] at h5
          have h6 := (hl p.i).2 ⟨p, by simp [hpp], rfl⟩
          rcases Nat.lt_or_ge p.i listed.size with h7 | h7
          · simp [h7] at h5 h6
            rw [h5] at h6; cases h6
          · simp [Array.getElem?_eq_none h7] at h5
        · exact h4
      obtain ⟨c1, c2, c3⟩ := hc.first hap
      have hlt' : (pre ++ post).Pairwise fun p t => p.i < t.i := by
        rw [List.pairwise_append] at hlt ⊢
        obtain ⟨q1, q2, q3⟩ := hlt
        exact ⟨q1, (List.pairwise_cons.1 q2).2, fun x hx y hy => q3 x hx y (by simp [hy])⟩
      have hne : ∀ q ∈ pre ++ post, q.i ≠ t.i := fun q hq => by
        rw [List.pairwise_append] at hlt
        obtain ⟨q1, q2, q3⟩ := hlt
        rcases List.mem_append.1 hq with hq | hq
        · have := q3 q hq t (by simp); omega
        · have := (List.pairwise_cons.1 q2).1 q hq; omega
      have hl' : ∀ i, (listed.setIfInBounds t.i true).getD i true = false ↔ ∃ q ∈ pre ++ post, q.i = i := fun i => by
        by_cases hti : t.i = i
        · subst hti
          constructor
          · intro h4
            exfalso
            rcases Nat.lt_or_ge t.i listed.size with h5 | h5
            · simp [h5] at h4
            · rw [Array.getD_eq_getD_getElem?, Array.getElem?_eq_none (by simpa using h5)] at h4; cases h4
          · rintro ⟨q, hq, hqi⟩
            exact absurd hqi (hne q hq)
        · rw [getD_set_ne true hti, hl i]
          constructor
          · rintro ⟨q, hq, rfl⟩
            refine ⟨q, ?_, rfl⟩
            simp only [List.mem_append, List.mem_cons] at hq ⊢
            rcases hq with hq | rfl | hq
            · exact .inl hq
            · exact absurd rfl hti
            · exact .inr hq
          · rintro ⟨q, hq, rfl⟩
            refine ⟨q, ?_, rfl⟩
            simp only [List.mem_append, List.mem_cons] at hq ⊢
            rcases hq with hq | hq
            · exact .inl hq
            · exact .inr (.inr hq)
      have next : ∀ (κ' : Ka) (a' : Act) (w' : World), St F n (s.upd t.o.dst t.U) κ' a' w' → wpAny P .any all Q m (listed.setIfInBounds t.i true) a' w' := fun κ' a' w' hs' =>
        ih (pre ++ post) _ (s.upd t.o.dst t.U) κ' a' w' (by simp at hm ⊢; omega) hs' c2 p2 (fun q hq => he q (by simp only [List.mem_append, List.mem_cons] at hq ⊢; exact hq.imp id .inr)) hl' hlt' (by simpa using hsz) (by rw [← c3]; exact hQ)
      have hto : all[t.i]? = some t.o := c1.1
      have hdt := hdst t.i t.o hto
      unfold wpOp
      rw [hto]
      obtain ⟨_, d2, d3, d4⟩ := c1
      have hwant := want_ok (o := t.o) hs (fun j want hg d hd => by
        cases hj : all[j]? with
        | none => rw [hj] at hd; cases hd
        | some oj => rw [hj] at hd; exact hdst j oj hj d (by simpa using hd)) d2
      simp only [hwant]
      cases hw : t.want with
      | true =>
        simp only [if_true]
        exact .inl ((d3 hw).good κ a w hs.inv (fun x _ => hs.ev x) (fun j _ => hs.obj j) _ _ (fun v κ' w' st inv hv ho => next κ' _ w' (hs.put hdt st inv hv ho)))
      | false =>
        simp only [Bool.false_eq_true, if_false]
        refine next κ _ w ?_
        rw [d4 hw]
        exact hs.put (U := ⟨.val undef, [], []⟩) hdt (Step.refl _ κ w) hs.inv (by simp [Rd]) (fun p hp => by cases hp)

variable {C : Cx} {k : List KI} {s : SS}

/-- The steps so far, the operations that are left, the state. -/
def DR (C : Cx) (k : List KI) (all : Array Oper) (done : List Stp) (rest : List Oper) (s : SS) : Prop :=
  ∃ ts : List Stp, ts.map (·.o) = rest ∧ (∀ j t, ts[j]? = some t → t.i = done.length + j) ∧ Chain C.P all s ts ∧ pairsOK all (done ++ ts) = true ∧ (done ++ ts).all edgesOK = true ∧ G C k (fin s ts)

def drawOK (all : Array Oper) (done : List Stp) : Bool := pairsOK all done && done.all edgesOK

theorem DR_nil {all : Array Oper} {done : List Stp} (hp : drawOK all done = true) (h : G C k s) : DR C k all done [] s := by
  simp only [drawOK, Bool.and_eq_true] at hp
  exact ⟨[], rfl, by simp, trivial, by simpa using hp.1, by rw [List.append_nil]; exact hp.2, h⟩

theorem DR_op {all : Array Oper} {done : List Stp} {o : Oper} {rest : List Oper} (U : Up) (hg : GoodX C.P o s U) (hi : all[done.length]? = some o) (hw : wantS all s o.guard true)
    (h : DR C k all (done ++ [⟨done.length, o, U, true⟩]) rest (s.upd o.dst U)) : DR C k all done (o :: rest) s := by
  obtain ⟨ts, h1, h2, h3, h4, h5, h6⟩ := h
  refine ⟨⟨done.length, o, U, true⟩ :: ts, by simp [h1], fun j t hj => ?_, ⟨⟨hi, hw, fun _ => hg, fun hf => by cases hf⟩, h3⟩, by simpa using h4, by simpa using h5, h6⟩
  cases j with
  | zero => simp only [List.getElem?_cons_zero, Option.some.injEq] at hj; subst hj; rfl
  | succ j => have := h2 j t (by simpa using hj); simp at this; omega

theorem DR_skip {all : Array Oper} {done : List Stp} {o : Oper} {rest : List Oper} (hi : all[done.length]? = some o) (hw : wantS all s o.guard false)
    (h : DR C k all (done ++ [⟨done.length, o, ⟨.val undef, [], []⟩, false⟩]) rest (s.upd o.dst ⟨.val undef, [], []⟩)) : DR C k all done (o :: rest) s := by
  obtain ⟨ts, h1, h2, h3, h4, h5, h6⟩ := h
  refine ⟨⟨done.length, o, ⟨.val undef, [], []⟩, false⟩ :: ts, by simp [h1], fun j t hj => ?_, ⟨⟨hi, hw, fun hf => (by cases hf), fun _ => rfl⟩, h3⟩, by simpa using h4, by simpa using h5, h6⟩
  cases j with
  | zero => simp only [List.getElem?_cons_zero, Option.some.injEq] at hj; subst hj; rfl
  | succ j => have := h2 j t (by simpa using hj); simp at this; omega

def dstsOK (n : Nat) (ops : List Oper) : Bool := ops.all fun o => match o.dst with | some d => Nat.blt d n | none => true

theorem G_draw {id : Nat} {ops : Array Oper} (hm : C.P.follows .mixedOrders = true) (hd : dstsOK C.n ops.toList = true) (h : DR C k ops [] ops.toList s) : G C (.code (.region id ops true) :: k) s := fun κ a w hs => by
  obtain ⟨ts, h1, h2, h3, h4, h5, h6⟩ := h
  have hdst : ∀ (i : Nat) (o : Oper), ops[i]? = some o → ∀ d, o.dst = some d → d < C.n := fun i o hi d hod => by
    simp only [dstsOK, List.all_eq_true] at hd
    have hmem : o ∈ ops.toList := by
      rw [← Array.getElem?_toList] at hi
      exact List.mem_of_getElem? hi
    have := hd o hmem
    rw [hod] at this
    exact Nat.le_of_ble_eq_true this
  have hlen : ts.length = ops.size := by
    have := congrArg List.length h1
    simpa using this
  have hs' : St C.F C.n s κ a { w with drawn := w.drawn + 1 } := by
    have g := Grew.drew w
    have st : Step (fun _ => False) κ w κ w.drew := ⟨g.size, g.os, g.tape, g.output, rfl, fun b _ => rfl, fun b _ _ => rfl, fun _ _ _ _ => rfl, fun _ _ => rfl, fun _ h => h.elim, fun _ h => .inl h⟩
    have inv : Inv κ w.drew := ⟨hs.inv.inj, hs.inv.bnd, hs.inv.apart, hs.inv.mbnd⟩
    exact ⟨hs.defers, hs.size, inv, hs.ctx.step inv st, fun i => Rd.step st _ _ (hs.slot i), fun j => ObOK.step st (fun h => h) _ (hs.obj j)⟩
  refine wp_region_any hm (any_order hdst ops.size ts (Array.replicate ops.size false) s κ a _ hlen hs' h3 (by simpa using h4) (by simpa using h5) ?_ ?_ (by simp) (fun κ' a' w' hs'' => h6 κ' a' w' hs''))
  · intro i
    simp only [Array.getD_eq_getD_getElem?, Array.getElem?_replicate]
    constructor
    · intro h7
      split at h7
      · rename_i hi
        have : i < ts.length := by omega
        exact ⟨ts[i], List.getElem_mem this, by simpa using h2 i ts[i] (List.getElem?_eq_getElem this)⟩
      · cases h7
    · rintro ⟨t, ht, rfl⟩
      obtain ⟨j, hj, rfl⟩ := List.mem_iff_getElem.1 ht
      have := h2 j ts[j] (List.getElem?_eq_getElem hj)
      simp only [List.length_nil, Nat.zero_add] at this
      rw [this, if_pos (by omega)]
      rfl
  · rw [List.pairwise_iff_getElem]
    intro i j hi hj hij
    have e1 := h2 i ts[i] (List.getElem?_eq_getElem hi)
    have e2 := h2 j ts[j] (List.getElem?_eq_getElem hj)
    omega

end Go.Sy
