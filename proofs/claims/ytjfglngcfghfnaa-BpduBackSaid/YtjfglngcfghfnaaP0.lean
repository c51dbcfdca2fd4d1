/-
  What a message's argument reads as.
-/
import Derived.Test.YtjfglngcfghfnaaC11
import Derived.Test.YtjfglngcfghfnaaSy21
import Derived.Test.YtjfglngcfghfnaaRows
namespace Go.Proofs.Ytjfglngcfghfnaa
open Go.ChangeShapes Go.WideShapes Go.ChangeAt Go.RowKit Go.Sy Go.Sy.Ytjfglngcfghfnaa

theorem Try.own : ownKnob Try.prog.godebug = none := by kernel_rfl
theorem Try.laidOut : laidOutB Try.prog = true := by kernel_rfl

theorem array10 {α : Type} {cs : Array α} (h : cs.size = 10) : ∃ c0 c1 c2 c3 c4 c5 c6 c7 c8 c9, cs = #[c0, c1, c2, c3, c4, c5, c6, c7, c8, c9] := by
  obtain ⟨l⟩ := cs
  match l, h with
  | [c0, c1, c2, c3, c4, c5, c6, c7, c8, c9], _ => exact ⟨c0, c1, c2, c3, c4, c5, c6, c7, c8, c9, rfl⟩

section
variable {H : Type} {enc : TypeId × Value → H}

theorem cell_bool {w : World} {n : Nat} {c : Value} {y : DataW H × List MemPlace} (h : DataW.trod enc Try.prog w 0 (fun _ => true) true n 4 [c] = some y) : ∃ b, c = .bool b := by
  obtain ⟨b, e, _⟩ := DataW.trod_bool Try.underlying4 h
  exact ⟨b, by simpa using e⟩
theorem cell_int {w : World} {n : Nat} {c : Value} {y : DataW H × List MemPlace} {t : TypeId} {k : IntKind} (ht : Try.prog.underlying t = some (.int k)) (h : DataW.trod enc Try.prog w 0 (fun _ => true) true n t [c] = some y) : ∃ z, c = .int k z ∧ (Lit.int k z).wf = true := by
  obtain ⟨z, e, _, hw⟩ := DataW.trod_int ht h
  exact ⟨z, by simpa using e, hw⟩

theorem nat_u64 {z : Int} (h : (Lit.int .u64 z).wf = true) : ∃ n : Nat, z = n ∧ n < 18446744073709551616 := by
  simp only [Lit.wf, Bool.and_eq_true, decide_eq_true_eq] at h
  have h1 : (0 : Int) ≤ z := h.1
  have h2 : z ≤ 18446744073709551615 := h.2
  exact ⟨z.toNat, by omega, by omega⟩
theorem nat_u16 {z : Int} (h : (Lit.int .u16 z).wf = true) : ∃ n : Nat, z = n ∧ n < 65536 := by
  simp only [Lit.wf, Bool.and_eq_true, decide_eq_true_eq] at h
  have h1 : (0 : Int) ≤ z := h.1
  have h2 : z ≤ 65535 := h.2
  exact ⟨z.toNat, by omega, by omega⟩

theorem rd_msg {W : World} {base : Nat} {v : Value} {d : DataW H} {ps : List MemPlace} (hval : Value.okWide Try.prog W .any base 26 v) (h1 : DataW.Trod enc Try.prog W 0 (fun _ => true) true 26 v d ps) : ∃ m : Msg, m.InRange ∧ Rd κ0 W (msgSV m) v := by
  have k4 : Try.prog.cellsOf 4 = 1 := by kernel_rfl
  have k3 : Try.prog.cellsOf 3 = 1 := by kernel_rfl
  have k24 : Try.prog.cellsOf 24 = 1 := by kernel_rfl
  have k26 : Try.prog.cellsOf 26 = 10 := by kernel_rfl
  obtain ⟨cs, rfl, hsz⟩ := okWide_struct Try.underlying26 hval
  obtain ⟨c0, c1, c2, c3, c4, c5, c6, c7, c8, c9, rfl⟩ := array10 (hsz.trans k26)
  obtain ⟨fuel, hf⟩ := h1
  obtain ⟨xs, n, _, _, _, hx, hg⟩ := DataW.trod_struct Try.underlying26 hf
  have hx : xs.length = 10 := hx
  have g0 : DataW.trod enc Try.prog W 0 (fun _ => true) true n 4 [c0] = some xs[0] := by
    have := hg 0 _ rfl
    simp only [Value.cells, k4, k3, k24] at this
    rw [List.getElem?_eq_getElem (by omega)] at this
    exact this
  have g1 : DataW.trod enc Try.prog W 0 (fun _ => true) true n 4 [c1] = some xs[1] := by
    have := hg 1 _ rfl
    simp only [Value.cells, k4, k3, k24] at this
    rw [List.getElem?_eq_getElem (by omega)] at this
    exact this
  have g2 : DataW.trod enc Try.prog W 0 (fun _ => true) true n 24 [c2] = some xs[2] := by
    have := hg 2 _ rfl
    simp only [Value.cells, k4, k3, k24] at this
    rw [List.getElem?_eq_getElem (by omega)] at this
    exact this
  have g3 : DataW.trod enc Try.prog W 0 (fun _ => true) true n 24 [c3] = some xs[3] := by
    have := hg 3 _ rfl
    simp only [Value.cells, k4, k3, k24] at this
    rw [List.getElem?_eq_getElem (by omega)] at this
    exact this
  have g4 : DataW.trod enc Try.prog W 0 (fun _ => true) true n 3 [c4] = some xs[4] := by
    have := hg 4 _ rfl
    simp only [Value.cells, k4, k3, k24] at this
    rw [List.getElem?_eq_getElem (by omega)] at this
    exact this
  have g5 : DataW.trod enc Try.prog W 0 (fun _ => true) true n 3 [c5] = some xs[5] := by
    have := hg 5 _ rfl
    simp only [Value.cells, k4, k3, k24] at this
    rw [List.getElem?_eq_getElem (by omega)] at this
    exact this
  have g6 : DataW.trod enc Try.prog W 0 (fun _ => true) true n 3 [c6] = some xs[6] := by
    have := hg 6 _ rfl
    simp only [Value.cells, k4, k3, k24] at this
    rw [List.getElem?_eq_getElem (by omega)] at this
    exact this
  have g7 : DataW.trod enc Try.prog W 0 (fun _ => true) true n 3 [c7] = some xs[7] := by
    have := hg 7 _ rfl
    simp only [Value.cells, k4, k3, k24] at this
    rw [List.getElem?_eq_getElem (by omega)] at this
    exact this
  have g8 : DataW.trod enc Try.prog W 0 (fun _ => true) true n 3 [c8] = some xs[8] := by
    have := hg 8 _ rfl
    simp only [Value.cells, k4, k3, k24] at this
    rw [List.getElem?_eq_getElem (by omega)] at this
    exact this
  have g9 : DataW.trod enc Try.prog W 0 (fun _ => true) true n 3 [c9] = some xs[9] := by
    have := hg 9 _ rfl
    simp only [Value.cells, k4, k3, k24] at this
    rw [List.getElem?_eq_getElem (by omega)] at this
    exact this
  obtain ⟨b0, rfl⟩ := cell_bool g0
  obtain ⟨b1, rfl⟩ := cell_bool g1
  obtain ⟨z2, rfl, w2⟩ := cell_int Try.underlying24 g2
  obtain ⟨z3, rfl, w3⟩ := cell_int Try.underlying24 g3
  obtain ⟨z4, rfl, _⟩ := cell_int Try.underlying3 g4
  obtain ⟨z5, rfl, _⟩ := cell_int Try.underlying3 g5
  obtain ⟨z6, rfl, _⟩ := cell_int Try.underlying3 g6
  obtain ⟨z7, rfl, _⟩ := cell_int Try.underlying3 g7
  obtain ⟨z8, rfl, _⟩ := cell_int Try.underlying3 g8
  obtain ⟨z9, rfl, _⟩ := cell_int Try.underlying3 g9
  obtain ⟨n2, rfl, r2⟩ := nat_u64 w2
  obtain ⟨n3, rfl, r3⟩ := nat_u64 w3
  refine ⟨⟨b0, b1, n2, n3, z4, z5, z6, z7, z8, z9⟩, ⟨r2, r3⟩, ?_⟩
  simp only [msgSV, Rd]
  refine ⟨_, rfl, ?_, ?_⟩
  · intro c hc
    simp only [List.mem_cons, List.not_mem_nil, or_false] at hc
    rcases hc with rfl | rfl | rfl | rfl | rfl | rfl | rfl | rfl | rfl | rfl <;> rfl
  · simp [RdL, Rd, boolSV, u64SV, intSV]
end
end Go.Proofs.Ytjfglngcfghfnaa
