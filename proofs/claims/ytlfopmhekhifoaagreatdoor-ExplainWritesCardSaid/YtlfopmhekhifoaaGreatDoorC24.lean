/-
  The chapter's example (explain). Rows that are checked are none any more without the first or the last one, with the first one twice, or with both ends at one port.
-/
import Derived.Test.YtlfopmhekhifoaaGreatDoorC23
import Derived.Test.YtlfopmhekhifoaaGreatDoorC16
import Derived.Test.YtlfopmhekhifoaaGreatDoorC19

namespace Go.Sy.YtlfopmhekhifoaaGreatDoor
open Go.Proofs

def netW : Net := ⟨[⟨0, 0, ⟨#[97]⟩, 0, 0⟩], [⟨0, 0, 10, 0, -1, ⟨#[112]⟩, []⟩, ⟨0, 0, 10, 0, -1, ⟨#[113]⟩, []⟩], [], [⟨0, 10, 0, -1, 0, []⟩], [], [], [], []⟩
def rowW1 : ByteArray := ⟨#[102, 114, 111, 109, 32, 97, 46, 112, 32, 97, 47, 49, 48]⟩
def rowW2 : ByteArray := ⟨#[116, 111, 32, 97, 46, 113]⟩

theorem rightW : netRightB netW = true := by kernel_rfl
theorem way_W : wayT netW 0 1 = ([⟨0, 0, 0, 0⟩], true) := by kernel_rfl
theorem explain_W : explainT netW 0 1 = ([rowW1, rowW2], 0) := by kernel_rfl
theorem check_W : checkR netW readT [rowW1, rowW2] = (0, 1, true) := by kernel_rfl
theorem check_W0 : checkR netW readT [] = (0, 0, false) := by kernel_rfl

end Go.Sy.YtlfopmhekhifoaaGreatDoor

namespace Go.Sy.YtlfopmhekhifoaaGreatDoor
open Go.Proofs

theorem ba_beq (a b : ByteArray) : (a == b) = true ↔ a = b := by
  cases a
  cases b
  rename_i x y
  show (x == y) = true ↔ _
  rw [beq_iff_eq]
  simp

theorem begin_facts {n : Net} {f l : List ByteArray} (h : beginB n f l = true) :
    f.length = 3 ∧ (nth f 0 == tFrom) = true ∧ l.length = 2 ∧ (nth l 0 == tTo) = true ∧ hostB n (portI n (nth f 1)) = true ∧ portI n (nth f 1) ≠ portI n (nth l 1) := by
  simp only [beginB, Bool.and_eq_true, decide_eq_true_eq, Bool.not_eq_true', beq_eq_false_iff_ne] at h
  obtain ⟨⟨⟨⟨⟨⟨⟨⟨h1, h2⟩, h3⟩, h4⟩, h5⟩, h6⟩, h7⟩, h8⟩, h9⟩ := h
  exact ⟨h1, h2, h3, h4, h5, h8⟩

abbrev midR (rows : List ByteArray) : List ByteArray := (rows.take (rows.length - 1)).drop 1
abbrev firstR (rows : List ByteArray) : List ByteArray := splitT 32 (nth rows 0)
abbrev lastR (rows : List ByteArray) : List ByteArray := splitT 32 (nth rows (rows.length - 1 : Nat))

theorem check_facts {n : Net} {rd : ByteArray → Int × Bool} {rows : List ByteArray} (h : (checkR n rd rows).2.2 = true) :
    2 ≤ rows.length ∧ netRightB n = true ∧ beginB n (firstR rows) (lastR rows) = true ∧ (goR n rd (midR rows) (true, domTextI n (nth (firstR rows) 2), false)).1 = true ∧ (checkR n rd rows).1 = portI n (nth (firstR rows) 1) := by
  unfold checkR at h ⊢
  split at h
  · rename_i hc
    rw [if_pos hc]
    exact ⟨hc.1, hc.2.1, hc.2.2.1, hc.2.2.2.1, rfl⟩
  · cases h

theorem check_no {n : Net} {rd : ByteArray → Int × Bool} {rows : List ByteArray}
    (h : 2 ≤ rows.length → beginB n (firstR rows) (lastR rows) = true → (goR n rd (midR rows) (true, domTextI n (nth (firstR rows) 2), false)).1 = true → False) : (checkR n rd rows).2.2 = false := by
  cases hc : (checkR n rd rows).2.2 with
  | false => rfl
  | true =>
    obtain ⟨h1, _, h2, h3, _⟩ := check_facts hc
    exact (h h1 h2 h3).elim

theorem midR_get {rows : List ByteArray} {i : Nat} (h0 : 0 < i) (h1 : i < rows.length - 1) : nth rows (i : Int) ∈ midR rows := by
  have hi : ((i : Nat) : Int).toNat < rows.length := by simp; omega
  rw [nth_eq hi]
  rw [List.mem_iff_getElem]
  refine ⟨i - 1, by simp; omega, ?_⟩
  rw [List.getElem_drop, List.getElem_take]
  congr 1
  omega

theorem word_no {w : ByteArray} (h : (w == tLink) = true ∨ (w == tMesh) = true ∨ (w == tRoute) = true) : (w == tFrom) = false ∧ (w == tTo) = false := by
  simp only [ba_beq] at h
  rcases h with rfl | rfl | rfl <;> decide

theorem refuse_first {n : Net} {rd : ByteArray → Int × Bool} {rows : List ByteArray} (h : (checkR n rd rows).2.2 = true) : (checkR n rd (rows.drop 1)).2.2 = false := by
  obtain ⟨h1, _, h2, h3, _⟩ := check_facts h
  refine check_no fun k1 k2 _ => ?_
  rw [List.length_drop] at k1
  have hm1 := midR_get (rows := rows) (i := 1) (by omega) (by omega)
  have hw := (word_no (goR_words n rd _ _ h3 _ hm1)).1
  have e : nth (rows.drop 1) 0 = nth rows ((1 : Nat) : Int) := by simp [nth]
  have := (begin_facts k2).2.1
  rw [firstR, e, hw] at this
  cases this

theorem refuse_last {n : Net} {rd : ByteArray → Int × Bool} {rows : List ByteArray} (h : (checkR n rd rows).2.2 = true) : (checkR n rd (rows.take (rows.length - 1))).2.2 = false := by
  obtain ⟨h1, _, h2, h3, _⟩ := check_facts h
  refine check_no fun k1 k2 _ => ?_
  have hl : (rows.take (rows.length - 1)).length = rows.length - 1 := by rw [List.length_take]; omega
  rw [hl] at k1
  have hm1 := midR_get (rows := rows) (i := rows.length - 2) (by omega) (by omega)
  have hw := (word_no (goR_words n rd _ _ h3 _ hm1)).2
  have e : nth (rows.take (rows.length - 1)) ((rows.take (rows.length - 1)).length - 1 : Nat) = nth rows ((rows.length - 2 : Nat) : Int) := by
    rw [hl, show rows.length - 1 - 1 = rows.length - 2 by omega]
    simp only [nth, Int.toNat_natCast]
    rw [List.getElem?_take, if_pos (by omega)]
  have := (begin_facts k2).2.2.2.1
  rw [lastR, e, hw] at this
  cases this

theorem refuse_twice {n : Net} {rd : ByteArray → Int × Bool} {rows : List ByteArray} (h : (checkR n rd rows).2.2 = true) : (checkR n rd (nth rows 0 :: rows)).2.2 = false := by
  obtain ⟨h1, _, h2, h3, _⟩ := check_facts h
  refine check_no fun k1 k2 k3 => ?_
  have hm1 : nth rows 0 ∈ midR (nth rows 0 :: rows) := by
    have := midR_get (rows := nth rows 0 :: rows) (i := 1) (by omega) (by simp; omega)
    have e : nth (nth rows 0 :: rows) ((1 : Nat) : Int) = nth rows 0 := by simp [nth]
    rwa [e] at this
  have hw := (word_no (goR_words n rd _ _ k3 _ hm1)).1
  have := (begin_facts h2).2.1
  rw [firstR] at this
  rw [hw] at this
  cases this

def toBytes (t : ByteArray) : ByteArray := ⟨#[116, 111, 32]⟩ ++ t

theorem split_to {t : ByteArray} (h : (32 : UInt8) ∉ t.data.toList) : splitT 32 (toBytes t) = [tTo, t] := by
  have hl : (toBytes t).data.toList = 116 :: 111 :: 32 :: t.data.toList := by simp [toBytes, ByteArray.data_append]
  have hc : List.count (32 : UInt8) t.data.toList = 0 := List.count_eq_zero.2 h
  have hcnt : List.count (32 : UInt8) (116 :: 111 :: 32 :: t.data.toList) = 1 := by
    simp [List.count_cons, hc]
  have hidx : idxN 32 (116 :: 111 :: 32 :: t.data.toList) = 2 := by
    simp [idxN, Lib.indexByte]
  rw [splitT, hl, hcnt]
  simp only [List.range_one, List.map_cons, List.map_nil, List.cons_append, List.nil_append]
  rw [pieceL, restL, restL, hidx]
  exact congrArg (fun x => [tTo, x]) (mkT_self t)

/-- Pieces have no byte at which they were split. -/
theorem take_idx_none {c : UInt8} : ∀ {l : List UInt8}, c ∈ l → c ∉ l.take (idxN c l)
  | b :: l, h => by
    unfold idxN Lib.indexByte
    by_cases hb : b == c
    · rw [if_pos hb]; simp
    · rw [if_neg hb]
      have hm' : c ∈ l := by
        rcases List.mem_cons.1 h with h | h
        · exact absurd (by simp [h]) hb
        · exact h
      have h1 := index_there hm'
      rw [if_neg (by simp; omega)]
      have e : (Lib.indexByte l c + 1).toNat = idxN c l + 1 := by unfold idxN; omega
      rw [e, List.take_succ_cons, List.mem_cons, not_or]
      exact ⟨fun e => hb (by simp [e]), take_idx_none hm'⟩

theorem split_none {c : UInt8} {s x : ByteArray} (hx : x ∈ splitT c s) : c ∉ x.data.toList := by
  rw [splitT, List.mem_append] at hx
  rcases hx with hx | hx
  · obtain ⟨j, hj, rfl⟩ := List.mem_map.1 hx
    rw [mkT_list, pieceL]
    exact take_idx_none (rest_there (by simpa using hj))
  · rw [List.mem_singleton] at hx
    subst hx
    rw [mkT_list]
    have := count_rest c s.data.toList _ (Nat.le_refl _)
    exact List.count_eq_zero.1 (by omega)

theorem idxI_is {α : Type} {p : α → Bool} {l : List α} {i : Int} (h : idxI p l = i) (h0 : 0 ≤ i) : ∃ hi : i.toNat < l.length, p l[i.toNat] = true := by
  unfold idxI at h
  split at h
  · rename_i j hj
    rw [List.findIdx?_eq_some_iff_getElem] at hj
    obtain ⟨h1, h2, _⟩ := hj
    subst h
    exact ⟨by simpa using h1, by simpa using h2⟩
  · omega

theorem refuse_own {n : Net} {rd : ByteArray → Int × Bool} {rows : List ByteArray} (h : (checkR n rd rows).2.2 = true) :
    (checkR n rd (rows.take (rows.length - 1) ++ [toBytes (portT n (checkR n rd rows).1)])).2.2 = false := by
  obtain ⟨h1, hb, h2, h3, h4⟩ := check_facts h
  refine check_no fun k1 k2 _ => ?_
  obtain ⟨b1, b2, b3, b4, b5, b6⟩ := begin_facts h2
  rw [h4] at k2
  have hf1 : nth (firstR rows) 1 ∈ firstR rows := by
    have hi : (1 : Int).toNat < (firstR rows).length := by rw [b1]; decide
    rw [nth_eq hi]
    exact List.getElem_mem _
  generalize hfr : firstR rows = f at *
  generalize hf1e : nth f 1 = f1 at *
  generalize hfe : portI n f1 = fr at *
  have hfr0 : 0 ≤ fr := by
    simp only [hostB, Bool.and_eq_true, decide_eq_true_eq] at b5
    exact b5.1
  obtain ⟨hi, hp⟩ := idxI_is (p := isPort n f1) (l := n.ports) hfe hfr0
  have hpt : portT n fr = f1 := by
    rw [portT, if_pos ⟨⟨hfr0, by omega⟩, hb⟩, portText, nth_eq hi]
    exact (ba_beq _ _).1 hp
  rw [hpt] at k2
  have hl : (rows.take (rows.length - 1)).length = rows.length - 1 := by rw [List.length_take]; omega
  have ef : nth (rows.take (rows.length - 1) ++ [toBytes f1]) 0 = nth rows 0 := by
    simp only [nth, Int.toNat_zero]
    rw [List.getElem?_append_left (by omega), List.getElem?_take, if_pos (by omega)]
  have el : nth (rows.take (rows.length - 1) ++ [toBytes f1]) ((rows.take (rows.length - 1) ++ [toBytes f1]).length - 1 : Nat) = toBytes f1 := by
    rw [List.length_append, hl]
    simp only [nth, Int.toNat_natCast, List.length_singleton]
    rw [List.getElem?_append_right (by omega), hl]
    simp
  have hno : (32 : UInt8) ∉ f1.data.toList := by
    rw [← hfr] at hf1
    exact split_none hf1
  have k6 := (begin_facts k2).2.2.2.2.2
  rw [firstR, ef, lastR, el, split_to hno] at k6
  have e1 : splitT 32 (nth rows 0) = f := hfr
  rw [e1, hf1e, hfe] at k6
  exact k6 (by rw [show nth [tTo, f1] 1 = f1 from rfl, hfe])

end Go.Sy.YtlfopmhekhifoaaGreatDoor
