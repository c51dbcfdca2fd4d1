/-
  Contracts, 6: which messages may be; numbers' bytes.
-/
import Derived.Test.YtjfglngcfghfnaaC5
namespace Go.Sy.Ytjfglngcfghfnaa
open Go.Proofs

attribute [local irreducible] Go.Sy.G Go.Sy.DR

def msgL (m : Msg) : List SV := [boolSV m.ch, boolSV m.ak, u64SV m.root, u64SV m.bridge, intSV m.cost, intSV m.port, intSV m.age, intSV m.mx, intSV m.hello, intSV m.wait]

theorem smallB_iff (n : Int) : smallB n = true ↔ 0 ≤ n ∧ n < 65536 := by simp [smallB]
theorem smallB_no (n : Int) (h : ¬ (0 ≤ n ∧ n < 65536)) : smallB n = false := by
  cases hb : smallB n with
  | false => rfl
  | true => exact absurd ((smallB_iff n).1 hb) h

theorem rightB_small (m : Msg) (h : m.ch = false) : rightB m = (decide (0 ≤ m.cost) && decide (m.cost < 4294967296) && [m.port, m.age, m.mx, m.hello, m.wait].all smallB) := by
  simp [rightB, h, Bool.and_assoc]

theorem rightS (m : Msg) : Sy.Spec Try.prog 11 [msgSV m] [] (boolSV (rightB m)) [] := contract Γ hm 100 F11 Try.ntmps11 rfl fun F hF => by
  ((conv => whnf); repeat (first | (refine ⟨fun (h : false = true) => (Bool.false_ne_true h).elim, fun _ => ?_⟩; (conv => whnf)) | (refine ⟨fun _ => ?_, fun (h : true = false) => (Bool.false_ne_true h.symm).elim⟩; (conv => whnf))))
  refine ⟨fun h => ?_, fun h => ?_⟩
  · ((conv => whnf); repeat (first | (refine ⟨fun (h : false = true) => (Bool.false_ne_true h).elim, fun _ => ?_⟩; (conv => whnf)) | (refine ⟨fun _ => ?_, fun (h : true = false) => (Bool.false_ne_true h.symm).elim⟩; (conv => whnf))))
    refine done0 rfl (.cons .tmp .nil) (congrArg boolSV ?_) rfl
    simp only [rightB, h, if_true]
  · ((conv => whnf); repeat (first | (refine ⟨fun (h : false = true) => (Bool.false_ne_true h).elim, fun _ => ?_⟩; (conv => whnf)) | (refine ⟨fun _ => ?_, fun (h : true = false) => (Bool.false_ne_true h.symm).elim⟩; (conv => whnf))))
    refine G_retype 20 (e := intSV) (l := [m.port, m.age, m.mx, m.hello, m.wait]) rfl rfl ?_
    refine G_countP 5 (fun i => ([m.port, m.age, m.mx, m.hello, m.wait].take i).all smallB = true) (fun i => [(1, .ptr 1 0), (20, .osl 20), (21, intSV 5), (22, intSV i)]) (fun _ => [(1, .box (msgL m)), (20, .row 1 intSV [m.port, m.age, m.mx, m.hello, m.wait])]) [] rfl ⟨⟨rfl, rfl, rfl, rfl, rfl, rfl, rfl, rfl, trivial⟩, ⟨.inl rfl, rfl, .inl rfl, rfl, trivial⟩, rfl, rfl⟩ ?_
    intro i hi hI
    refine (run Γ hm 400 ?_)
    ((conv => whnf); repeat (first | (refine ⟨fun (h : false = true) => (Bool.false_ne_true h).elim, fun _ => ?_⟩; (conv => whnf)) | (refine ⟨fun _ => ?_, fun (h : true = false) => (Bool.false_ne_true h.symm).elim⟩; (conv => whnf))))
    refine ⟨fun h1 => ?_, fun h1 => ?_⟩
    · have hlt : i < 5 := by have := of_decide_eq_true h1; omega
      have hlt' : i < [m.port, m.age, m.mx, m.hello, m.wait].length := hlt
      have hno : ∀ n, n = [m.port, m.age, m.mx, m.hello, m.wait][i] → ¬ (0 ≤ n ∧ n < 65536) → rightB m = false := fun n hn hh => by
        rw [rightB_small m h]
        have : [m.port, m.age, m.mx, m.hello, m.wait].all smallB = false := by
          rw [List.all_eq_false]
          exact ⟨n, hn ▸ List.getElem_mem _, by rw [smallB_no n hh]; decide⟩
        rw [this, Bool.and_false]
      ((conv => whnf); repeat (first | (refine ⟨fun (h : false = true) => (Bool.false_ne_true h).elim, fun _ => ?_⟩; (conv => whnf)) | (refine ⟨fun _ => ?_, fun (h : true = false) => (Bool.false_ne_true h.symm).elim⟩; (conv => whnf))))
      refine ⟨by omega, by simpa using hlt, ?_⟩
      ((conv => whnf); repeat (first | (refine ⟨fun (h : false = true) => (Bool.false_ne_true h).elim, fun _ => ?_⟩; (conv => whnf)) | (refine ⟨fun _ => ?_, fun (h : true = false) => (Bool.false_ne_true h.symm).elim⟩; (conv => whnf))))
      refine ⟨rfl, hlt', ?_⟩
      ((conv => whnf); repeat (first | (refine ⟨fun (h : false = true) => (Bool.false_ne_true h).elim, fun _ => ?_⟩; (conv => whnf)) | (refine ⟨fun _ => ?_, fun (h : true = false) => (Bool.false_ne_true h.symm).elim⟩; (conv => whnf))))
      refine ⟨fun h2 => ?_, fun h2 => ?_⟩
      · have h2 := of_decide_eq_true h2
        ((conv => whnf); repeat (first | (refine ⟨fun (h : false = true) => (Bool.false_ne_true h).elim, fun _ => ?_⟩; (conv => whnf)) | (refine ⟨fun _ => ?_, fun (h : true = false) => (Bool.false_ne_true h.symm).elim⟩; (conv => whnf))))
        refine done0 rfl (.cons .tmp .nil) (congrArg boolSV (hno _ rfl fun hh => ?_)) rfl
        exact absurd hh.1 (Int.not_le.2 h2)
      · have h2 := of_decide_eq_false h2
        ((conv => whnf); repeat (first | (refine ⟨fun (h : false = true) => (Bool.false_ne_true h).elim, fun _ => ?_⟩; (conv => whnf)) | (refine ⟨fun _ => ?_, fun (h : true = false) => (Bool.false_ne_true h.symm).elim⟩; (conv => whnf))))
        refine ⟨fun h3 => ?_, fun h3 => ?_⟩
        · have h3 := of_decide_eq_true h3
          ((conv => whnf); repeat (first | (refine ⟨fun (h : false = true) => (Bool.false_ne_true h).elim, fun _ => ?_⟩; (conv => whnf)) | (refine ⟨fun _ => ?_, fun (h : true = false) => (Bool.false_ne_true h.symm).elim⟩; (conv => whnf))))
          refine done0 rfl (.cons .tmp .nil) (congrArg boolSV (hno _ rfl fun hh => ?_)) rfl
          have := hh.2
          simp only [Int.toNat_natCast] at h3
          omega
        · have h3 := of_decide_eq_false h3
          ((conv => whnf); repeat (first | (refine ⟨fun (h : false = true) => (Bool.false_ne_true h).elim, fun _ => ?_⟩; (conv => whnf)) | (refine ⟨fun _ => ?_, fun (h : true = false) => (Bool.false_ne_true h.symm).elim⟩; (conv => whnf))))
          refine ⟨by unfold I64; omega, ?_⟩
          ((conv => whnf); repeat (first | (refine ⟨fun (h : false = true) => (Bool.false_ne_true h).elim, fun _ => ?_⟩; (conv => whnf)) | (refine ⟨fun _ => ?_, fun (h : true = false) => (Bool.false_ne_true h.symm).elim⟩; (conv => whnf))))
          refine G_nextP [] hI hlt ?_ ⟨⟨rfl, rfl, rfl, rfl, rfl, rfl, rfl, rfl, trivial⟩, ⟨.inl rfl, rfl, .inl rfl, rfl, trivial⟩, rfl, rfl⟩
          rw [List.take_succ_eq_append_getElem hlt', List.all_append, hI]
          simp only [Int.toNat_natCast] at h2 h3
          simp only [List.all_cons, List.all_nil, Bool.and_true, Bool.true_and]
          exact (smallB_iff _).2 ⟨by omega, by omega⟩
    · have : i = 5 := by have := of_decide_eq_false h1; omega
      subst this
      have hall : [m.port, m.age, m.mx, m.hello, m.wait].all smallB = true := hI
      have hr := rightB_small m h
      rw [hall, Bool.and_true] at hr
      ((conv => whnf); repeat (first | (refine ⟨fun (h : false = true) => (Bool.false_ne_true h).elim, fun _ => ?_⟩; (conv => whnf)) | (refine ⟨fun _ => ?_, fun (h : true = false) => (Bool.false_ne_true h.symm).elim⟩; (conv => whnf))))
      refine ⟨fun h2 => ?_, fun h2 => ?_⟩
      · have h2' := of_decide_eq_true h2
        ((conv => whnf); repeat (first | (refine ⟨fun (h : false = true) => (Bool.false_ne_true h).elim, fun _ => ?_⟩; (conv => whnf)) | (refine ⟨fun _ => ?_, fun (h : true = false) => (Bool.false_ne_true h.symm).elim⟩; (conv => whnf))))
        refine done0 rfl (.cons .tmp .nil) (congrArg boolSV ?_) rfl
        rw [hr, decide_eq_true (show 0 ≤ m.cost from h2'), Bool.true_and]
        exact decide_eq_decide.2 (by omega)
      · have h2' := of_decide_eq_false h2
        ((conv => whnf); repeat (first | (refine ⟨fun (h : false = true) => (Bool.false_ne_true h).elim, fun _ => ?_⟩; (conv => whnf)) | (refine ⟨fun _ => ?_, fun (h : true = false) => (Bool.false_ne_true h.symm).elim⟩; (conv => whnf))))
        refine done0 rfl (.cons .tmp .nil) (congrArg boolSV ?_) rfl
        rw [hr, decide_eq_false (show ¬ 0 ≤ m.cost from h2'), Bool.false_and]

theorem shr_byte64 (m k : Nat) (hk : k ≤ 7) : IntKind.u8.wrap ((m : Int).fdiv (2 ^ (min (8 * (k : Int)).toNat IntKind.u64.bits))) = ((UInt8.ofNat (m / 256 ^ k)).toNat : Int) := shr_byte m k hk

theorem numberS (l : List UInt8) (hl : l.length < 1000000) (n k : Nat) (hk : k ≤ 8) : Sy.Spec Try.prog 22 [.osl 0, u64SV n, intSV k] [(0, .row 1 byteSV l)] (.osl 1) [(0, .non), (1, .row 1 byteSV (l ++ be k n))] := contract Γ hm 100 F22 Try.ntmps22 rfl fun F hF => by
  ((conv => whnf); repeat (first | (refine ⟨fun (h : false = true) => (Bool.false_ne_true h).elim, fun _ => ?_⟩; (conv => whnf)) | (refine ⟨fun _ => ?_, fun (h : true = false) => (Bool.false_ne_true h.symm).elim⟩; (conv => whnf))))
  refine ⟨by unfold I64; omega, ?_⟩
  ((conv => whnf); repeat (first | (refine ⟨fun (h : false = true) => (Bool.false_ne_true h).elim, fun _ => ?_⟩; (conv => whnf)) | (refine ⟨fun _ => ?_, fun (h : true = false) => (Bool.false_ne_true h.symm).elim⟩; (conv => whnf))))
  refine G_move 0 1 [0] rfl rfl (by decide) (by simp; rfl) ?_
  refine G_count k (fun j => [(0, .osl 1), (1, u64SV n), (7, intSV ((k : Int) - 1 - (j : Int)))]) (fun j => [(0, .non), (1, .row 1 byteSV (l ++ (be k n).take j))]) [(0, 0), (1, 1)] ⟨⟨rfl, rfl, rfl, rfl, congrArg intSV (by simp), rfl, trivial⟩, ⟨.inl rfl, rfl, .inl (congrArg (Ob.row 1 byteSV) (List.append_nil l)), rfl, trivial⟩, rfl, rfl⟩ ?_
  intro j hj
  refine (run Γ hm 400 ?_)
  ((conv => whnf); repeat (first | (refine ⟨fun (h : false = true) => (Bool.false_ne_true h).elim, fun _ => ?_⟩; (conv => whnf)) | (refine ⟨fun _ => ?_, fun (h : true = false) => (Bool.false_ne_true h.symm).elim⟩; (conv => whnf))))
  refine ⟨fun h => ?_, fun h => ?_⟩
  · have hlt : j < k := by have := of_decide_eq_true h; omega
    ((conv => whnf); repeat (first | (refine ⟨fun (h : false = true) => (Bool.false_ne_true h).elim, fun _ => ?_⟩; (conv => whnf)) | (refine ⟨fun _ => ?_, fun (h : true = false) => (Bool.false_ne_true h.symm).elim⟩; (conv => whnf))))
    refine ⟨by unfold I64; omega, ?_⟩
    ((conv => whnf); repeat (first | (refine ⟨fun (h : false = true) => (Bool.false_ne_true h).elim, fun _ => ?_⟩; (conv => whnf)) | (refine ⟨fun _ => ?_, fun (h : true = false) => (Bool.false_ne_true h.symm).elim⟩; (conv => whnf))))
    refine ⟨by omega, ?_⟩
    ((conv => whnf); repeat (first | (refine ⟨fun (h : false = true) => (Bool.false_ne_true h).elim, fun _ => ?_⟩; (conv => whnf)) | (refine ⟨fun _ => ?_, fun (h : true = false) => (Bool.false_ne_true h.symm).elim⟩; (conv => whnf))))
    refine stepOp (good_appendT Γ.toTy 21 rfl rfl rfl rfl rfl (.row rfl) (.lit (l := [UInt8.ofNat (n / 256 ^ (k - 1 - j))]) rfl ?_) (by simp) ?_ ?_) rfl rfl (run Γ hm 400 ?_)
    · have := shr_byte n (k - 1 - j) (by omega)
      rw [show ((k - 1 - j : Nat) : Int) = k - 1 - (j : Int) by omega] at this
      simp only [List.map_cons, List.map_nil, byteSV, ← this]
    · simp [be_length]; omega
    · simp [be_length]; omega
    ((conv => whnf); repeat (first | (refine ⟨fun (h : false = true) => (Bool.false_ne_true h).elim, fun _ => ?_⟩; (conv => whnf)) | (refine ⟨fun _ => ?_, fun (h : true = false) => (Bool.false_ne_true h.symm).elim⟩; (conv => whnf))))
    refine ⟨by unfold I64; omega, ?_⟩
    ((conv => whnf); repeat (first | (refine ⟨fun (h : false = true) => (Bool.false_ne_true h).elim, fun _ => ?_⟩; (conv => whnf)) | (refine ⟨fun _ => ?_, fun (h : true = false) => (Bool.false_ne_true h.symm).elim⟩; (conv => whnf))))
    exact G_next [(0, 0), (1, 21)] hlt ⟨⟨rfl, rfl, rfl, rfl, congrArg intSV (by omega), rfl, trivial⟩, ⟨.inl rfl, rfl, .inl (congrArg (Ob.row 1 byteSV) (by rw [be_take _ _ _ hlt, List.append_assoc])), rfl, trivial⟩, rfl, rfl⟩
  · have : j = k := by have := of_decide_eq_false h; omega
    subst this
    ((conv => whnf); repeat (first | (refine ⟨fun (h : false = true) => (Bool.false_ne_true h).elim, fun _ => ?_⟩; (conv => whnf)) | (refine ⟨fun _ => ?_, fun (h : true = false) => (Bool.false_ne_true h.symm).elim⟩; (conv => whnf))))
    refine done rfl (.cons .tmp .nil) [(0, 0), (1, 1)] _ (fun _ h => h) rfl rfl ⟨trivial, ⟨.inl rfl, rfl, .inl (congrArg (Ob.row 1 byteSV) ?_), rfl, trivial⟩, rfl, rfl⟩
    rw [List.take_of_length_le (by simp [be_length])]

theorem set_mid (k j : Nat) (hj : j < k) (r : List UInt8) (b : UInt8) : (List.replicate (k - j) (0 : UInt8) ++ r).set (k - 1 - j) b = List.replicate (k - (j + 1)) 0 ++ b :: r := by
  obtain ⟨q, rfl⟩ : ∃ q, k = q + 1 + j := ⟨k - 1 - j, by omega⟩
  rw [show q + 1 + j - j = q + 1 by omega, show q + 1 + j - 1 - j = q by omega, show q + 1 + j - (j + 1) = q by omega, List.replicate_succ']
  rw [List.append_assoc, List.set_append_right _ _ (by simp)]
  simp

theorem bytesS (n k : Nat) (hn : n < 18446744073709551616) (hk : k ≤ 8) : Sy.Spec Try.prog 37 [u64SV n, intSV k] [] (.osl 0) [(0, .row 1 byteSV (be k n))] := contract Γ hm 100 F37 Try.ntmps37 rfl fun F hF => by
  ((conv => whnf); repeat (first | (refine ⟨fun (h : false = true) => (Bool.false_ne_true h).elim, fun _ => ?_⟩; (conv => whnf)) | (refine ⟨fun _ => ?_, fun (h : true = false) => (Bool.false_ne_true h.symm).elim⟩; (conv => whnf))))
  refine stepOp (good_makeSlice Γ.toTy (d := 8) (n := k) byteSV 0 rfl rfl rfl rfl rfl rfl rfl rfl (by omega) (by omega) rfl rfl rfl) rfl rfl (run Γ hm 400 ?_)
  ((conv => whnf); repeat (first | (refine ⟨fun (h : false = true) => (Bool.false_ne_true h).elim, fun _ => ?_⟩; (conv => whnf)) | (refine ⟨fun _ => ?_, fun (h : true = false) => (Bool.false_ne_true h.symm).elim⟩; (conv => whnf))))
  refine ⟨by unfold I64; omega, ?_⟩
  ((conv => whnf); repeat (first | (refine ⟨fun (h : false = true) => (Bool.false_ne_true h).elim, fun _ => ?_⟩; (conv => whnf)) | (refine ⟨fun _ => ?_, fun (h : true = false) => (Bool.false_ne_true h.symm).elim⟩; (conv => whnf))))
  refine G_count k (fun j => [(0, u64SV (n / 256 ^ j : Nat)), (5, .osl 8), (6, intSV ((k : Int) - 1 - (j : Int)))]) (fun j => [(8, .row 1 byteSV (List.replicate (k - j) 0 ++ be j n))]) [] ⟨⟨congrArg (fun z : Nat => u64SV z) (by simp), rfl, rfl, rfl, congrArg intSV (by simp), rfl, trivial⟩, ⟨.inl (congrArg (Ob.row 1 byteSV) (by simp [be])), rfl, trivial⟩, rfl, rfl⟩ ?_
  intro j hj
  refine (run Γ hm 400 ?_)
  ((conv => whnf); repeat (first | (refine ⟨fun (h : false = true) => (Bool.false_ne_true h).elim, fun _ => ?_⟩; (conv => whnf)) | (refine ⟨fun _ => ?_, fun (h : true = false) => (Bool.false_ne_true h.symm).elim⟩; (conv => whnf))))
  refine ⟨fun h => ?_, fun h => ?_⟩
  · have hlt : j < k := by have := of_decide_eq_true h; omega
    have hlen : (List.replicate (k - j) (0 : UInt8) ++ be j n).length = k := by simp [be_length]; omega
    have hi : ((k : Int) - 1 - (j : Int)).toNat = k - 1 - j := by omega
    ((conv => whnf); repeat (first | (refine ⟨fun (h : false = true) => (Bool.false_ne_true h).elim, fun _ => ?_⟩; (conv => whnf)) | (refine ⟨fun _ => ?_, fun (h : true = false) => (Bool.false_ne_true h.symm).elim⟩; (conv => whnf))))
    refine ⟨by decide, ?_⟩
    ((conv => whnf); repeat (first | (refine ⟨fun (h : false = true) => (Bool.false_ne_true h).elim, fun _ => ?_⟩; (conv => whnf)) | (refine ⟨fun _ => ?_, fun (h : true = false) => (Bool.false_ne_true h.symm).elim⟩; (conv => whnf))))
    refine ⟨by omega, by rw [hlen, hi]; omega, ?_⟩
    ((conv => whnf); repeat (first | (refine ⟨fun (h : false = true) => (Bool.false_ne_true h).elim, fun _ => ?_⟩; (conv => whnf)) | (refine ⟨fun _ => ?_, fun (h : true = false) => (Bool.false_ne_true h.symm).elim⟩; (conv => whnf))))
    refine ⟨rfl, by rw [hlen, hi]; omega, UInt8.ofNat (n / 256 ^ j), ?_, rfl, ?_⟩
    · simp only [byteSV, cellsOf]
      refine congrArg (fun z => [SV.val (.int .u8 z)]) ?_
      rw [Int.tmod_eq_emod_of_nonneg (Int.natCast_nonneg _), IntKind.wrap_u8]
      simp
    ((conv => whnf); repeat (first | (refine ⟨fun (h : false = true) => (Bool.false_ne_true h).elim, fun _ => ?_⟩; (conv => whnf)) | (refine ⟨fun _ => ?_, fun (h : true = false) => (Bool.false_ne_true h.symm).elim⟩; (conv => whnf))))
    refine ⟨by decide, ?_⟩
    ((conv => whnf); repeat (first | (refine ⟨fun (h : false = true) => (Bool.false_ne_true h).elim, fun _ => ?_⟩; (conv => whnf)) | (refine ⟨fun _ => ?_, fun (h : true = false) => (Bool.false_ne_true h.symm).elim⟩; (conv => whnf))))
    refine ⟨by unfold I64; omega, ?_⟩
    ((conv => whnf); repeat (first | (refine ⟨fun (h : false = true) => (Bool.false_ne_true h).elim, fun _ => ?_⟩; (conv => whnf)) | (refine ⟨fun _ => ?_, fun (h : true = false) => (Bool.false_ne_true h.symm).elim⟩; (conv => whnf))))
    refine G_next [] hlt ⟨⟨congrArg (fun z => SV.val (.int .u64 z)) ?_, rfl, rfl, rfl, congrArg intSV (by omega), rfl, trivial⟩, ⟨.inl (congrArg (Ob.row 1 byteSV) ?_), rfl, trivial⟩, rfl, rfl⟩
    · have h5 : n / 256 ^ j ≤ n := Nat.div_le_self _ _
      rw [Int.tdiv_eq_ediv_of_nonneg (Int.natCast_nonneg _), IntKind.wrap_u64, ← div_pow]
      generalize n / 256 ^ j = q at *
      omega
    · rw [hi]
      exact (set_mid k j hlt (be j n) _).symm
  · have : j = k := by have := of_decide_eq_false h; omega
    subst this
    ((conv => whnf); repeat (first | (refine ⟨fun (h : false = true) => (Bool.false_ne_true h).elim, fun _ => ?_⟩; (conv => whnf)) | (refine ⟨fun _ => ?_, fun (h : true = false) => (Bool.false_ne_true h.symm).elim⟩; (conv => whnf))))
    exact done rfl (.cons .tmp .nil) [(0, 8)] _ (fun _ h => h) rfl rfl ⟨trivial, ⟨.inl (congrArg (Ob.row 1 byteSV) (by simp)), rfl, trivial⟩, rfl, rfl⟩
end Go.Sy.Ytjfglngcfghfnaa
