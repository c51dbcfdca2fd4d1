/-
  addr.Read.
-/
import Derived.Test.YtlfopmhekhifoaaGreatDoorC18
import Derived.Test.YtlfopmhekhifoaaGreatDoorC4
import Derived.Scope

namespace Go.Sy
open Go.RowKit

theorem Spec.calls {P : Program} {f : FuncId} {A : List SV} {R : SV} (h : Sy.Spec P f A [] R []) {w : World} {vs : List Value} (hA : RdL κ0 w A vs) :
    Calls P f vs.toArray w fun e w' => ∃ v κ', e = .returned v ∧ Rd κ' w' R v ∧ Below w.heap.size w w' := by
  refine (h κ0 w vs (inv0 w) (fun k hk => absurd rfl hk) hA (fun p hp => by cases hp)).mono ?_
  rintro e w' ⟨v, κ', rfl, ctx, inv, hR, _⟩
  exact ⟨v, κ', rfl, hR, below_of_ctx ctx⟩

theorem Spec.calls_tup2 {P : Program} {f : FuncId} {A : List SV} {a b : Value} (h : Sy.Spec P f A [] (.tup [.val a, .val b]) []) {w : World} {vs : List Value} (hA : RdL κ0 w A vs) :
    Calls P f vs.toArray w fun e w' => e = .returned (.tuple #[a, b]) ∧ Below w.heap.size w w' :=
  (h.calls hA).mono fun e w' ⟨v, κ', he, hv, hb⟩ => by
    simp only [Rd, RdL] at hv
    obtain ⟨cs, rfl, _, _, rfl, rfl, _, _, rfl, rfl, rfl⟩ := hv
    exact ⟨he, hb⟩

/-- A contract of the kit's own kind, of a function that answers two plain values. -/
theorem Spec.of_calls2 {P : Program} {f : FuncId} {A : List SV} {H : Obs} {a b : Value}
    (h : ∀ (κ : Ka) (w : World) (vs : List Value), Inv κ w → RdL κ w A vs → H.ok κ w → Calls P f vs.toArray w fun e w' => e = .returned (.tuple #[a, b]) ∧ Below w.heap.size w w') : Spec P f A H (.tup [.val a, .val b]) H := by
  intro κ w vs hi _ hr ho
  refine (h κ w vs hi hr ho).mono fun e w' hw => ?_
  obtain ⟨he, hw⟩ := hw
  have g : Grew w w' := ⟨hw.os, hw.tape, hw.output, hw.size, hw.block⟩
  have st := step_grew hi g
  exact ⟨.tuple #[a, b], κ, he, (Ctx.refl κ w).step st.2 st.1, st.2, by simp [Rd, RdL], fun p hp => ObOK.step st.1 (by simp) p.2 (ho p hp)⟩

theorem keeps_of_below {w w' : World} (h : Below w.heap.size w w') : KeepsOthers w w' := ⟨h.size, fun k o hk _ => (h.block k (Array.getElem?_eq_some_iff.1 hk).1).trans hk⟩

theorem cell_grown {A B : World} {row : Option Nat} {k : Nat} {v : Value} (h : A.cell? ⟨k, 0, none⟩ = some v) (hg : A.grownBy B row) (hr : row ≠ some k) : B.cell? ⟨k, 0, none⟩ = some v ∧ B.frozen? ⟨k, 0, none⟩ = A.frozen? ⟨k, 0, none⟩ := by
  obtain ⟨o, ho, _⟩ := cells_of_cell h
  obtain ⟨_, _, _, _, h5⟩ := hg
  have e : B.heap[k]? = A.heap[k]? := h5 k (Array.getElem?_eq_some_iff.1 ho).1 (fun e => hr e.symm)
  refine ⟨(World.cell?_of_block e).trans h, ?_⟩
  unfold World.frozen?
  rw [e]

/-- A variable of one's own: its cell, and that it may be written. -/
def Var1 (W : World) (k : Nat) (v : Value) : Prop := W.cell? ⟨k, 0, none⟩ = some v ∧ W.frozen? ⟨k, 0, none⟩ = false

theorem Var1.at {W : World} {B : Nat} {v : Value} {t : TypeId} (h : W.heap[B]? = some (.cells #[v] t (0, 0))) : Var1 W B v := by
  constructor <;> simp [World.cell?, World.frozen?, h]
theorem Var1.below {A B : World} {k : Nat} {v : Value} (h : Var1 A k v) (hb : Below A.heap.size A B) : Var1 B k v := by
  obtain ⟨o, ho, _⟩ := cells_of_cell h.1
  have e : B.heap[k]? = A.heap[k]? := hb.block k (Array.getElem?_eq_some_iff.1 ho).1
  refine ⟨(World.cell?_of_block e).trans h.1, ?_⟩
  rw [← h.2]
  unfold World.frozen?
  rw [e]
theorem Var1.new (W : World) (v : Value) (t : TypeId) {k : Nat} (hk : k = W.heap.size) : Var1 (W.alloc (.cells #[v] t)) k v := by
  subst hk
  exact Var1.at (World.alloc_heap_new W _)
theorem Var1.grown {A B : World} {row : Option Nat} {k : Nat} {v : Value} (h : Var1 A k v) (hg : A.grownBy B row) (hr : row ≠ some k) : Var1 B k v :=
  ⟨(cell_grown h.1 hg hr).1, (cell_grown h.1 hg hr).2.trans h.2⟩
theorem Var1.alloc {A : World} {k : Nat} {v : Value} (h : Var1 A k v) (o : Obj) : Var1 (A.alloc o) k v := h.grown (World.grownBy_alloc A o none) (by simp)
theorem Var1.set {A : World} {k : Nat} {v : Value} (h : Var1 A k v) (u : Value) : Var1 (A.setCell ⟨k, 0, none⟩ u) k u :=
  ⟨World.cell?_setCell_same' _ _ _ (by rw [h.1]; rfl), by rw [World.frozen?_setCell]; exact h.2⟩
theorem Var1.other {A : World} {k b : Nat} {v : Value} (h : Var1 A k v) (hb : b ≠ k) (u : Value) : Var1 (A.setCell ⟨b, 0, none⟩ u) k v :=
  ⟨(World.cell?_setCell_other _ _ _ _ (by intro e; cases e; exact hb rfl)).trans h.1, by rw [World.frozen?_setCell]; exact h.2⟩

end Go.Sy
namespace Go.Proofs
open Go.RowKit Go.Shelf Go.Sy Go.Sy.YtlfopmhekhifoaaGreatDoor
attribute [local go_sem] Oper.semAt_some

theorem Tryz.splitSeq_calls (s : ByteArray) (w : World) : Calls Tryz.prog 136 #[.string s, .string ⟨#[46]⟩] w fun e w' =>
    e = .returned (.func (.func 172) #[] #[.pointer (some ⟨w.heap.size + 1, 0, none⟩), .pointer (some ⟨w.heap.size, 0, none⟩), .pointer (some ⟨w.heap.size + 2, 0, none⟩)]) ∧
      w' = ((w.alloc (.cells #[.string s] 9)).alloc (.cells #[.string ⟨#[46]⟩] 9)).alloc (.cells #[.int .i64 0] 3) := by
  have q : Calls Tryz.prog 156 #[.string s, .string ⟨#[46]⟩, .int .i64 0] w fun e w' =>
    e = .returned (.func (.func 172) #[] #[.pointer (some ⟨w.heap.size + 1, 0, none⟩), .pointer (some ⟨w.heap.size, 0, none⟩), .pointer (some ⟨w.heap.size + 2, 0, none⟩)]) ∧
      w' = ((w.alloc (.cells #[.string s] 9)).alloc (.cells #[.string ⟨#[46]⟩] 9)).alloc (.cells #[.int .i64 0] 3) := by
    refine (callsIn_wide (n := 3)).1 ?_
    refine callsIn_of_wp Tryz.func156 rfl trivial ?_ rfl
    simp only [Tryz.ntmps156, List.size_toArray, List.length_cons, List.length_nil, Nat.reduceAdd, Nat.reduceSub, Array.replicate_succ, Array.replicate_zero, List.push_toArray, List.append_toArray, List.nil_append, List.cons_append]
    gi_wp2
    go_ret
    exact ⟨rfl, rfl⟩
  refine (callsIn_wide (n := 3)).1 ?_
  refine callsIn_of_wp Tryz.func136 rfl trivial ?_ rfl
  simp only [Tryz.ntmps136, List.size_toArray, List.length_cons, List.length_nil, Nat.reduceAdd, Nat.reduceSub, Array.replicate_succ, Array.replicate_zero, List.push_toArray, List.append_toArray, List.nil_append, List.cons_append]
  gi_wp2
  refine ⟨trivial, ?_⟩
  refine (callsIn_wide.2 q).mono ?_
  rintro e w' ⟨rfl, rfl⟩
  gi_wp2
  go_ret
  exact ⟨rfl, rfl⟩

/-- The address so far. -/
def addrV : List ByteArray → Int
  | [] => 0
  | l => l.foldl (fun a x => bits .or .u32 (IntKind.u32.wrap (a * 2 ^ 8)) (IntKind.u32.wrap (smallT x 255).1)) 0

def octB (x : ByteArray) : Bool := (smallT x 255).2

def readT (s : ByteArray) : Int × Bool := if (splitT 46 s).length = 4 ∧ (splitT 46 s).all octB = true then (addrV (splitT 46 s), true) else (0, false)

theorem addrV_snoc (l : List ByteArray) (x : ByteArray) : addrV (l ++ [x]) = bits .or .u32 (IntKind.u32.wrap (addrV l * 2 ^ 8)) (IntKind.u32.wrap (smallT x 255).1) := by
  cases l with
  | nil => rfl
  | cons y l => simp [addrV]

set_option maxRecDepth 100000 in
set_option maxHeartbeats 4000000 in
theorem Tryz.addrRead_calls (s : ByteArray) (hs : s.size < 100000) (w : World) : Calls Tryz.prog 114 #[.string s] w fun e w' => e = .returned (.tuple #[.int .u32 (readT s).1, .bool (readT s).2]) ∧ Below w.heap.size w w' := by
  refine (callsIn_wide (n := 5)).1 ?_
  refine callsIn_of_wp_marks Tryz.func114 rfl trivial ?_ rfl
  simp only [Tryz.ntmps114, List.size_toArray, List.length_cons, List.length_nil, Nat.reduceAdd, Nat.reduceSub, Array.replicate_succ, Array.replicate_zero, List.push_toArray, List.append_toArray, List.nil_append, List.cons_append]
  gi_wp2
  refine wpIn_wide.2 (wp_scope_straight ((wpIn_wide (n := 5)).1 ?_))
  gi_wp2
  refine wpIn_label ?_
  gi_wp2
  refine ⟨trivial, ?_⟩
  refine (callsIn_wide.2 (Tryz.splitSeq_calls s _)).mono ?_
  rintro e w' ⟨rfl, rfl⟩
  gi_wp2
  obtain ⟨W0, hW0⟩ : ∃ W0, ((((w.alloc (.cells #[.int .u32 0] 47)).alloc (.cells #[.int .i64 0] 3)).alloc (.cells #[.string s] 9)).alloc (.cells #[.string ⟨#[46]⟩] 9)).alloc (.cells #[.int .i64 0] 3) = W0 := ⟨_, rfl⟩
  have hsz : W0.heap.size = w.heap.size + 5 := by rw [← hW0]; simp
  have hB0 : Below w.heap.size w W0 := by
    rw [← hW0]
    exact (((((Below.refl _ w).alloc (Nat.le_refl _) _).alloc (by simp) _).alloc (by simp; omega) _).alloc (by simp; omega) _).alloc (by simp; omega) _
  have ca : Var1 W0 w.heap.size (.int .u32 0) := by rw [← hW0]; exact ((((Var1.new _ _ _ rfl).alloc _).alloc _).alloc _).alloc _
  have ci : Var1 W0 (w.heap.size + 1) (.int .i64 0) := by rw [← hW0]; exact (((Var1.new (w.alloc _) _ _ (by simp)).alloc _).alloc _).alloc _
  have cs : Var1 W0 (w.heap.size + 2) (.string s) := by rw [← hW0]; exact ((Var1.new ((w.alloc _).alloc _) _ _ (by simp)).alloc _).alloc _
  have cp : Var1 W0 (w.heap.size + 3) (.string ⟨#[46]⟩) := by rw [← hW0]; exact (Var1.new (((w.alloc _).alloc _).alloc _) _ _ (by simp)).alloc _
  have cv : Var1 W0 (w.heap.size + 4) (.int .i64 0) := by rw [← hW0]; exact Var1.new ((((w.alloc _).alloc _).alloc _).alloc _) _ _ (by simp)
  have cb : SeqBox W0 (w.heap.size + 3) (w.heap.size + 2) (w.heap.size + 4) s := ⟨cp.1, cs.1, cv.1, cs.2⟩
  rw [hW0]
  clear hW0
  have hrow : ∀ {k : Nat} {W : World} {row : Option Nat}, k ≤ w.heap.size + 1 → (∀ r, row = some r → r = w.heap.size + 2 ∨ (W0.heap.size ≤ r ∧ ∃ o : Obj, W.heap[r]? = some o ∧ o.isCells = false)) → row ≠ some k := fun hk hr e => by
    rcases hr _ e with h | ⟨h, _⟩ <;> omega
  have hge : ∀ {W : World} {row : Option Nat}, (∀ r, row = some r → r = w.heap.size + 2 ∨ (W0.heap.size ≤ r ∧ ∃ o : Obj, W.heap[r]? = some o ∧ o.isCells = false)) → ∀ r, row = some r → w.heap.size ≤ r := fun hr r e => by
    rcases hr _ e with h | ⟨h, _⟩ <;> omega
  refine wpIn_rangeFunc_ownT rfl (by omega) (gf := 172) (lb := #[.pointer (some ⟨w.heap.size + 3, 0, none⟩), .pointer (some ⟨w.heap.size + 2, 0, none⟩), .pointer (some ⟨w.heap.size + 4, 0, none⟩)]) rfl trivial (enters_of Tryz.func172 (by kernel_rfl) rfl)
    (Tryz.split_stops s hs 4 (by omega) (w.heap.size + 3) (w.heap.size + 2) (w.heap.size + 4) ⟨by omega, by omega⟩ W0 cb (by omega)) (fun b hb => by omega)
    (fun h k => ⟨k.1.trans h.1, k.2.1.trans h.2.1, k.2.2.trans h.2.2⟩)
    (fun W l o o' hl _ _ _ => ⟨World.putObj_heap_other (by omega), World.putObj_heap_other (by omega), World.putObj_heap_other (by omega)⟩) (Below.refl _ _) (fun _ => rfl)
    (fun pre W => Var1 W w.heap.size (.int .u32 (addrV pre)) ∧ Var1 W (w.heap.size + 1) (.int .i64 pre.length) ∧ (pre.length ≤ 4 ∧ pre.all octB = true) ∧ Below w.heap.size w W ∧ w.heap.size + 5 ≤ W.heap.size)
    (fun c pre W => c = .exit 0 ∧ Var1 W (w.heap.size + 1) (.int .i64 0) ∧ ¬ (pre.length ≤ 4 ∧ pre.all octB = true) ∧ Below w.heap.size w W)
    (fun pre A B row hs hg hr => ⟨hs.1.grown hg (hrow (by omega) hr), hs.2.1.grown hg (hrow (by omega) hr), hs.2.2.1, hs.2.2.2.1.grown hg hs.2.2.2.1.size (hge hr), Nat.le_trans hs.2.2.2.2 hg.size⟩)
    (fun c pre A B row hs hg hr => ⟨hs.1, hs.2.1.grown hg (hrow (by omega) hr), hs.2.2.1, hs.2.2.2.grown hg hs.2.2.2.size (hge hr)⟩)
    ⟨ca, ci, ⟨by simp, rfl⟩, hB0, by omega⟩
    (fun x => { tmps := #[.string s, undef, .int .u32 0, .bool false, .pointer (some ⟨w.heap.size, 0, none⟩), .pointer (some ⟨w.heap.size + 1, 0, none⟩), .string x, undef, undef, .string s,
      .func (.func 172) #[] #[.pointer (some ⟨w.heap.size + 3, 0, none⟩), .pointer (some ⟨w.heap.size + 2, 0, none⟩), .pointer (some ⟨w.heap.size + 4, 0, none⟩)], .string x,
      undef, undef, undef, undef, undef, undef, undef, undef, undef, undef, undef, undef, undef, undef, undef, undef, undef, undef, undef, undef, undef], defers := [] }) ?assign ?body ?done ?stop
  case assign =>
    intro l x W K hK
    gi_wp2
    exact hK
  case body =>
    rintro l pre x W ⟨ha, hi, ⟨hp1, hp2⟩, hB, hB5⟩ _
    have q := (addrSmallS x 255).calls_tup2 (w := W) (vs := [.string x, .int .i64 255]) (by simp only [RdL]; exact ⟨_, _, rfl, by simp [Rd, strSV], _, _, rfl, by simp [Rd, intSV], rfl⟩)
    have hsn := addrV_snoc pre x
    have hal : ((pre ++ [x]).all octB) = octB x := by rw [List.all_append, hp2]; simp
    have hll : (pre ++ [x]).length = pre.length + 1 := by simp
    have hox : octB x = (smallT x 255).2 := rfl
    generalize smallT x 255 = sm at *
    obtain ⟨v, ok⟩ := sm
    dsimp only at hsn hox q
    gi_wp2
    refine ⟨trivial, ?_⟩
    refine (CallsIn.inRound l (callsIn_wide.2 q)).mono ?_
    rintro e w' ⟨rfl, hb⟩
    have ha' := ha.below hb
    have hi' := hi.below hb
    have hB' : Below w.heap.size w w' := hB.trans (hb.mono hB.size)
    have hk1 := keeps_of_below hb
    have a1 := ha'.1
    have a2 := ha'.2
    have b1 := hi'.1
    have b2 := hi'.2
    have s1 : ∀ (u v : Value), Below w.heap.size w ((w'.setCell ⟨w.heap.size + 1, 0, none⟩ u).setCell ⟨w.heap.size + 1, 0, none⟩ v) := fun u v =>
      (hB'.setCell (p := ⟨w.heap.size + 1, 0, none⟩) (Nat.le_succ _) u).setCell (p := ⟨w.heap.size + 1, 0, none⟩) (Nat.le_succ _) v
    cases ok
    · gi_wp2
      exact ⟨hk1.trans ((KeepsOthers.setCell _ _ _).trans (KeepsOthers.setCell _ _ _)), rfl, (hi'.set _).set _, (fun e => by rw [hal, hox] at e; cases e.2), s1 _ _⟩
    · by_cases h4 : pre.length + 1 ≤ 4
      · have hsn' : addrV (pre ++ [x]) = bits .or .u32 (addrV pre * 256 % 4294967296) (v % 4294967296) := by rw [hsn, IntKind.wrap_u32, IntKind.wrap_u32]; rfl
        gi_wp2
        refine ⟨hk1.trans ((KeepsOthers.setCell _ _ _).trans (KeepsOthers.setCell _ _ _)), ⟨?_, ?_, ?_⟩, ?_, ?_, ⟨by omega, by rw [hal, hox]⟩, ?_, ?_⟩
        · rw [Below.heap_setCell _ _ _ _ (by simp), Below.heap_setCell _ _ _ _ (by simp)]
          exact hb.block _ (by omega)
        · rw [Below.heap_setCell _ _ _ _ (by simp), Below.heap_setCell _ _ _ _ (by simp)]
          exact hb.block _ (by omega)
        · rw [Below.heap_setCell _ _ _ _ (by simp), Below.heap_setCell _ _ _ _ (by simp)]
          exact hb.block _ (by omega)
        · rw [hsn']
          exact (ha'.other (by simp) _).set _
        · rw [hll]
          exact (hi'.set _).other (by simp) _
        · exact (hB'.setCell (p := ⟨w.heap.size + 1, 0, none⟩) (Nat.le_succ _) _).setCell (p := ⟨w.heap.size, 0, none⟩) (Nat.le_refl _) _
        · have := hb.size
          simp
          omega
      · gi_wp2
        exact ⟨hk1.trans ((KeepsOthers.setCell _ _ _).trans (KeepsOthers.setCell _ _ _)), rfl, (hi'.set _).set _, fun e => by omega, s1 _ _⟩
  case done =>
    rintro D xs W hD rfl ⟨ha, hi, ⟨hp1, hp2⟩, hB, _⟩ hK
    have a1 := ha.1
    have a2 := ha.2
    have b1 := hi.1
    have b2 := hi.2
    by_cases h4 : (splitT 46 s).length = 4
    · have hr : readT s = (addrV (splitT 46 s), true) := by rw [readT, if_pos ⟨h4, hp2⟩]
      gi_wp2
      refine ⟨by simp, .inl ⟨_, _, rfl, run_takeDeferred hK, ?_⟩⟩
      exact ⟨_, results_tmp2 rfl _ _ _, by rw [hr]; rfl, hB.trans (belowK_b (w := w) (Nat.le_refl _) W D _ _ (by omega) hK rfl rfl)⟩
    · have hr : readT s = (0, false) := by rw [readT, if_neg (fun e => h4 e.1)]
      gi_wp2
      refine ⟨by simp, .inl ⟨_, _, rfl, run_takeDeferred hK, ?_⟩⟩
      exact ⟨_, results_tmp2 rfl _ _ _, by rw [hr]; rfl, hB.trans (belowK_b (w := w) (Nat.le_refl _) W D _ _ (by omega) hK rfl rfl)⟩
  case stop =>
    rintro D c pre W hD hpre ⟨rfl, hi, hbad, hB⟩ hK
    have b1 := hi.1
    have b2 := hi.2
    have hr : readT s = (0, false) := by
      rw [readT, if_neg]
      intro e
      refine hbad ⟨by have := hpre.length_le; omega, ?_⟩
      rw [List.all_eq_true] at e ⊢
      exact fun x hx => e.2 x (hpre.subset hx)
    gi_wp2
    refine ⟨by simp, .inl ⟨_, _, rfl, run_takeDeferred hK, ?_⟩⟩
    exact ⟨_, results_tmp2 rfl _ _ _, by rw [hr]; rfl, hB.trans (belowK_b (w := w) (Nat.le_refl _) W D _ _ (by omega) hK rfl rfl)⟩

end Go.Proofs
namespace Go.Sy.YtlfopmhekhifoaaGreatDoor
open Go.Proofs

theorem addrReadS (s : ByteArray) (hs : s.size < 100000) : Sy.Spec Tryz.prog 114 [strSV s] [] (.tup [u32SV (readT s).1, boolSV (readT s).2]) [] :=
  Spec.of_calls2 fun κ w vs _ hr _ => by
    simp only [RdL] at hr
    obtain ⟨v, r, rfl, hv, rfl⟩ := hr
    simp only [strSV, Rd] at hv
    subst hv
    exact Tryz.addrRead_calls s hs w

end Go.Sy.YtlfopmhekhifoaaGreatDoor
