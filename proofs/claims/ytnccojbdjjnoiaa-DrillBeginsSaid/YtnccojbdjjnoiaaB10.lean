/-
  Contracts: bytes of numbers, frames put (mac, palingref01, ether, palingref04). Scripts made by a number: what they are. Sums of words, brought down. Contracts: numbers drawn. Contracts: sums (sum, palingref06), addresses (addr, palingref02, mac, palingref01), ipv4's small ones.
-/
import Derived.Test.YtnccojbdjjnoiaaB5
import Derived.Laws.Bits64b
import Derived.Test.YtnccojbdjjnoiaaB4

namespace Go.Sy.Ytnccojbdjjnoiaa
open Go.Proofs

attribute [local irreducible] Go.Sy.G Go.Sy.DR
set_option maxRecDepth 100000
set_option maxHeartbeats 4000000

/-- mac.shift. -/
theorem shiftS (i : Int) (h0 : 0 ≤ i) (h5 : i ≤ 5) : Sy.Spec Try.prog 92 [intSV i] [] (u64SV (8 * (5 - i))) [] := contract Γ hm 100 F92 Try.ntmps92 rfl fun F hF => by
  ((conv => whnf); repeat (first | (refine ⟨fun (h : false = true) => (Bool.false_ne_true h).elim, fun _ => ?_⟩; ((first | (refine run Γ hm 400 ?_) | (refine runD Γ hm 400 (by kernel_rfl) ?_)); (conv => whnf))) | (refine ⟨fun _ => ?_, fun (h : true = false) => (Bool.false_ne_true h.symm).elim⟩; ((first | (refine run Γ hm 400 ?_) | (refine runD Γ hm 400 (by kernel_rfl) ?_)); (conv => whnf)))))
  refine ⟨by unfold I64; omega, ?_⟩
  ((conv => whnf); repeat (first | (refine ⟨fun (h : false = true) => (Bool.false_ne_true h).elim, fun _ => ?_⟩; ((first | (refine run Γ hm 400 ?_) | (refine runD Γ hm 400 (by kernel_rfl) ?_)); (conv => whnf))) | (refine ⟨fun _ => ?_, fun (h : true = false) => (Bool.false_ne_true h.symm).elim⟩; ((first | (refine run Γ hm 400 ?_) | (refine runD Γ hm 400 (by kernel_rfl) ?_)); (conv => whnf)))))
  refine ⟨by unfold I64; omega, ?_⟩
  ((conv => whnf); repeat (first | (refine ⟨fun (h : false = true) => (Bool.false_ne_true h).elim, fun _ => ?_⟩; ((first | (refine run Γ hm 400 ?_) | (refine runD Γ hm 400 (by kernel_rfl) ?_)); (conv => whnf))) | (refine ⟨fun _ => ?_, fun (h : true = false) => (Bool.false_ne_true h.symm).elim⟩; ((first | (refine run Γ hm 400 ?_) | (refine runD Γ hm 400 (by kernel_rfl) ?_)); (conv => whnf)))))
  refine done0 rfl (.cons .tmp .nil) (congrArg (fun z => SV.val (.int .u64 z)) ?_) rfl
  rw [IntKind.wrap_u64]
  omega

def be : Nat → Nat → List UInt8
  | 0, _ => []
  | k + 1, m => UInt8.ofNat (m / 256 ^ k) :: be k m

theorem be_length (m : Nat) : ∀ k, (be k m).length = k
  | 0 => rfl
  | k + 1 => by simp [be, be_length m k]

/-- The first j of k. -/
theorem be_take (m : Nat) : ∀ (k j : Nat) (h : j < k), (be k m).take (j + 1) = (be k m).take j ++ [UInt8.ofNat (m / 256 ^ (k - 1 - j))]
  | 0, j, h => by omega
  | k + 1, 0, h => by simp [be]
  | k + 1, j + 1, h => by
    have := be_take m k j (by omega)
    simp only [be, List.take_succ_cons, List.cons_append, this]
    rw [show k + 1 - 1 - (j + 1) = k - 1 - j by omega]

theorem shr_byte (m k : Nat) (hk : k ≤ 7) : IntKind.u8.wrap ((m : Int).fdiv (2 ^ (min (8 * (k : Int)).toNat IntKind.u64.bits))) = ((UInt8.ofNat (m / 256 ^ k)).toNat : Int) := by
  have h1 : min (8 * (k : Int)).toNat IntKind.u64.bits = 8 * k := by simp [IntKind.bits]; omega
  rw [h1, Int.fdiv_eq_ediv_of_nonneg _ (by exact Int.pow_nonneg (by decide)), IntKind.wrap_u8]
  have h2 : (2 : Int) ^ (8 * k) = ((256 ^ k : Nat) : Int) := by rw [Int.pow_mul]; simp
  rw [h2]
  simp

/-- mac.Put. -/
theorem put2 (l : List UInt8) (hl : l.length < 1000000) (m : Nat) : Sy.Spec Try.prog 82 [.osl 0, u64SV m] [(0, .row 1 byteSV l)] (.osl 1) [(0, .non), (1, .row 1 byteSV (l ++ be 6 m))] := contract Γ hm 100 F82 Try.ntmps82 rfl fun F hF => by
  ((conv => whnf); repeat (first | (refine ⟨fun (h : false = true) => (Bool.false_ne_true h).elim, fun _ => ?_⟩; ((first | (refine run Γ hm 400 ?_) | (refine runD Γ hm 400 (by kernel_rfl) ?_)); (conv => whnf))) | (refine ⟨fun _ => ?_, fun (h : true = false) => (Bool.false_ne_true h.symm).elim⟩; ((first | (refine run Γ hm 400 ?_) | (refine runD Γ hm 400 (by kernel_rfl) ?_)); (conv => whnf)))))
  refine G_move 0 1 [0] rfl rfl (by decide) (by simp; rfl) ?_
  refine G_count 6 (fun j => [(0, .osl 1), (1, u64SV m), (6, intSV j)]) (fun j => [(0, .non), (1, .row 1 byteSV (l ++ (be 6 m).take j))]) [(0, 0), (1, 1)] ⟨⟨rfl, rfl, rfl, rfl, rfl, rfl, trivial⟩, ⟨.inl rfl, rfl, .inl (congrArg (Ob.row 1 byteSV) (List.append_nil l)), rfl, trivial⟩, rfl, rfl⟩ ?_
  intro j hj
  (((first | (refine run Γ hm 400 ?_) | (refine runD Γ hm 400 (by kernel_rfl) ?_)); (conv => whnf)); repeat (first | (refine ⟨fun (h : false = true) => (Bool.false_ne_true h).elim, fun _ => ?_⟩; ((first | (refine run Γ hm 400 ?_) | (refine runD Γ hm 400 (by kernel_rfl) ?_)); (conv => whnf))) | (refine ⟨fun _ => ?_, fun (h : true = false) => (Bool.false_ne_true h.symm).elim⟩; ((first | (refine run Γ hm 400 ?_) | (refine runD Γ hm 400 (by kernel_rfl) ?_)); (conv => whnf)))))
  refine ⟨fun h => ?_, fun h => ?_⟩
  · have hlt : j < 6 := by have := of_decide_eq_true h; omega
    (((first | (refine run Γ hm 400 ?_) | (refine runD Γ hm 400 (by kernel_rfl) ?_)); (conv => whnf)); repeat (first | (refine ⟨fun (h : false = true) => (Bool.false_ne_true h).elim, fun _ => ?_⟩; ((first | (refine run Γ hm 400 ?_) | (refine runD Γ hm 400 (by kernel_rfl) ?_)); (conv => whnf))) | (refine ⟨fun _ => ?_, fun (h : true = false) => (Bool.false_ne_true h.symm).elim⟩; ((first | (refine run Γ hm 400 ?_) | (refine runD Γ hm 400 (by kernel_rfl) ?_)); (conv => whnf)))))
    refine call0 (shiftS j (by omega) (by omega)) F92 rfl rfl rfl rfl rfl ?_
    (((first | (refine run Γ hm 400 ?_) | (refine runD Γ hm 400 (by kernel_rfl) ?_)); (conv => whnf)); repeat (first | (refine ⟨fun (h : false = true) => (Bool.false_ne_true h).elim, fun _ => ?_⟩; ((first | (refine run Γ hm 400 ?_) | (refine runD Γ hm 400 (by kernel_rfl) ?_)); (conv => whnf))) | (refine ⟨fun _ => ?_, fun (h : true = false) => (Bool.false_ne_true h.symm).elim⟩; ((first | (refine run Γ hm 400 ?_) | (refine runD Γ hm 400 (by kernel_rfl) ?_)); (conv => whnf)))))
    refine ⟨by omega, ?_⟩
    ((conv => whnf); repeat (first | (refine ⟨fun (h : false = true) => (Bool.false_ne_true h).elim, fun _ => ?_⟩; ((first | (refine run Γ hm 400 ?_) | (refine runD Γ hm 400 (by kernel_rfl) ?_)); (conv => whnf))) | (refine ⟨fun _ => ?_, fun (h : true = false) => (Bool.false_ne_true h.symm).elim⟩; ((first | (refine run Γ hm 400 ?_) | (refine runD Γ hm 400 (by kernel_rfl) ?_)); (conv => whnf)))))
    refine stepOp (good_appendT Γ.toTy 16 rfl rfl rfl rfl rfl (.row rfl) (.lit (l := [UInt8.ofNat (m / 256 ^ (5 - j))]) rfl ?_) (by simp) ?_ ?_) rfl rfl ?_
    · have := shr_byte m (5 - j) (by omega)
      rw [show ((5 - j : Nat) : Int) = 5 - (j : Int) by omega] at this
      simp only [List.map_cons, List.map_nil, byteSV, ← this]
    · simp [be_length]; omega
    · simp [be_length]; omega
    (((first | (refine run Γ hm 400 ?_) | (refine runD Γ hm 400 (by kernel_rfl) ?_)); (conv => whnf)); repeat (first | (refine ⟨fun (h : false = true) => (Bool.false_ne_true h).elim, fun _ => ?_⟩; ((first | (refine run Γ hm 400 ?_) | (refine runD Γ hm 400 (by kernel_rfl) ?_)); (conv => whnf))) | (refine ⟨fun _ => ?_, fun (h : true = false) => (Bool.false_ne_true h.symm).elim⟩; ((first | (refine run Γ hm 400 ?_) | (refine runD Γ hm 400 (by kernel_rfl) ?_)); (conv => whnf)))))
    refine ⟨by unfold I64; omega, ?_⟩
    ((conv => whnf); repeat (first | (refine ⟨fun (h : false = true) => (Bool.false_ne_true h).elim, fun _ => ?_⟩; ((first | (refine run Γ hm 400 ?_) | (refine runD Γ hm 400 (by kernel_rfl) ?_)); (conv => whnf))) | (refine ⟨fun _ => ?_, fun (h : true = false) => (Bool.false_ne_true h.symm).elim⟩; ((first | (refine run Γ hm 400 ?_) | (refine runD Γ hm 400 (by kernel_rfl) ?_)); (conv => whnf)))))
    exact G_next [(0, 0), (1, 16)] hlt ⟨⟨rfl, rfl, rfl, rfl, rfl, rfl, trivial⟩, ⟨.inl rfl, rfl, .inl (congrArg (Ob.row 1 byteSV) (by rw [be_take _ _ _ hlt, List.append_assoc])), rfl, trivial⟩, rfl, rfl⟩
  · have : j = 6 := by have := of_decide_eq_false h; omega
    subst this
    (((first | (refine run Γ hm 400 ?_) | (refine runD Γ hm 400 (by kernel_rfl) ?_)); (conv => whnf)); repeat (first | (refine ⟨fun (h : false = true) => (Bool.false_ne_true h).elim, fun _ => ?_⟩; ((first | (refine run Γ hm 400 ?_) | (refine runD Γ hm 400 (by kernel_rfl) ?_)); (conv => whnf))) | (refine ⟨fun _ => ?_, fun (h : true = false) => (Bool.false_ne_true h.symm).elim⟩; ((first | (refine run Γ hm 400 ?_) | (refine runD Γ hm 400 (by kernel_rfl) ?_)); (conv => whnf)))))
    exact done rfl (.cons .tmp .nil) [(0, 0), (1, 1)] _ (fun _ h => h) rfl rfl ⟨trivial, ⟨.inl rfl, rfl, .inl rfl, rfl, trivial⟩, rfl, rfl⟩

/-- .. onto nothing. -/
theorem put2n (m : Nat) : Sy.Spec Try.prog 82 [.val (.slice none 0 0), u64SV m] [] (.osl 0) [(0, .row 1 byteSV (be 6 m))] := contract Γ hm 100 F82 Try.ntmps82 rfl fun F hF => by
  ((conv => whnf); repeat (first | (refine ⟨fun (h : false = true) => (Bool.false_ne_true h).elim, fun _ => ?_⟩; ((first | (refine run Γ hm 400 ?_) | (refine runD Γ hm 400 (by kernel_rfl) ?_)); (conv => whnf))) | (refine ⟨fun _ => ?_, fun (h : true = false) => (Bool.false_ne_true h.symm).elim⟩; ((first | (refine run Γ hm 400 ?_) | (refine runD Γ hm 400 (by kernel_rfl) ?_)); (conv => whnf)))))
  refine G_adopt 0 1000 1 byteSV rfl rfl ?_
  refine G_count 6 (fun j => [(0, .osl 1000), (1, u64SV m), (6, intSV j)]) (fun j => [(1000, .row 1 byteSV ((be 6 m).take j))]) [] ⟨⟨rfl, rfl, rfl, rfl, rfl, rfl, trivial⟩, ⟨.inl rfl, rfl, trivial⟩, rfl, rfl⟩ ?_
  intro j hj
  (((first | (refine run Γ hm 400 ?_) | (refine runD Γ hm 400 (by kernel_rfl) ?_)); (conv => whnf)); repeat (first | (refine ⟨fun (h : false = true) => (Bool.false_ne_true h).elim, fun _ => ?_⟩; ((first | (refine run Γ hm 400 ?_) | (refine runD Γ hm 400 (by kernel_rfl) ?_)); (conv => whnf))) | (refine ⟨fun _ => ?_, fun (h : true = false) => (Bool.false_ne_true h.symm).elim⟩; ((first | (refine run Γ hm 400 ?_) | (refine runD Γ hm 400 (by kernel_rfl) ?_)); (conv => whnf)))))
  refine ⟨fun h => ?_, fun h => ?_⟩
  · have hlt : j < 6 := by have := of_decide_eq_true h; omega
    (((first | (refine run Γ hm 400 ?_) | (refine runD Γ hm 400 (by kernel_rfl) ?_)); (conv => whnf)); repeat (first | (refine ⟨fun (h : false = true) => (Bool.false_ne_true h).elim, fun _ => ?_⟩; ((first | (refine run Γ hm 400 ?_) | (refine runD Γ hm 400 (by kernel_rfl) ?_)); (conv => whnf))) | (refine ⟨fun _ => ?_, fun (h : true = false) => (Bool.false_ne_true h.symm).elim⟩; ((first | (refine run Γ hm 400 ?_) | (refine runD Γ hm 400 (by kernel_rfl) ?_)); (conv => whnf)))))
    refine call0 (shiftS j (by omega) (by omega)) F92 rfl rfl rfl rfl rfl ?_
    (((first | (refine run Γ hm 400 ?_) | (refine runD Γ hm 400 (by kernel_rfl) ?_)); (conv => whnf)); repeat (first | (refine ⟨fun (h : false = true) => (Bool.false_ne_true h).elim, fun _ => ?_⟩; ((first | (refine run Γ hm 400 ?_) | (refine runD Γ hm 400 (by kernel_rfl) ?_)); (conv => whnf))) | (refine ⟨fun _ => ?_, fun (h : true = false) => (Bool.false_ne_true h.symm).elim⟩; ((first | (refine run Γ hm 400 ?_) | (refine runD Γ hm 400 (by kernel_rfl) ?_)); (conv => whnf)))))
    refine ⟨by omega, ?_⟩
    ((conv => whnf); repeat (first | (refine ⟨fun (h : false = true) => (Bool.false_ne_true h).elim, fun _ => ?_⟩; ((first | (refine run Γ hm 400 ?_) | (refine runD Γ hm 400 (by kernel_rfl) ?_)); (conv => whnf))) | (refine ⟨fun _ => ?_, fun (h : true = false) => (Bool.false_ne_true h.symm).elim⟩; ((first | (refine run Γ hm 400 ?_) | (refine runD Γ hm 400 (by kernel_rfl) ?_)); (conv => whnf)))))
    refine stepOp (good_appendT Γ.toTy 16 rfl rfl rfl rfl rfl (.row rfl) (.lit (l := [UInt8.ofNat (m / 256 ^ (5 - j))]) rfl ?_) (by simp) ?_ ?_) rfl rfl ?_
    · have := shr_byte m (5 - j) (by omega)
      rw [show ((5 - j : Nat) : Int) = 5 - (j : Int) by omega] at this
      simp only [List.map_cons, List.map_nil, byteSV, ← this]
    · simp [be_length]; omega
    · simp [be_length]; omega
    (((first | (refine run Γ hm 400 ?_) | (refine runD Γ hm 400 (by kernel_rfl) ?_)); (conv => whnf)); repeat (first | (refine ⟨fun (h : false = true) => (Bool.false_ne_true h).elim, fun _ => ?_⟩; ((first | (refine run Γ hm 400 ?_) | (refine runD Γ hm 400 (by kernel_rfl) ?_)); (conv => whnf))) | (refine ⟨fun _ => ?_, fun (h : true = false) => (Bool.false_ne_true h.symm).elim⟩; ((first | (refine run Γ hm 400 ?_) | (refine runD Γ hm 400 (by kernel_rfl) ?_)); (conv => whnf)))))
    refine ⟨by unfold I64; omega, ?_⟩
    ((conv => whnf); repeat (first | (refine ⟨fun (h : false = true) => (Bool.false_ne_true h).elim, fun _ => ?_⟩; ((first | (refine run Γ hm 400 ?_) | (refine runD Γ hm 400 (by kernel_rfl) ?_)); (conv => whnf))) | (refine ⟨fun _ => ?_, fun (h : true = false) => (Bool.false_ne_true h.symm).elim⟩; ((first | (refine run Γ hm 400 ?_) | (refine runD Γ hm 400 (by kernel_rfl) ?_)); (conv => whnf)))))
    exact G_next [(1000, 16)] hlt ⟨⟨rfl, rfl, rfl, rfl, rfl, rfl, trivial⟩, ⟨.inl (congrArg (Ob.row 1 byteSV) (be_take _ _ _ hlt)), rfl, trivial⟩, rfl, rfl⟩
  · have : j = 6 := by have := of_decide_eq_false h; omega
    subst this
    (((first | (refine run Γ hm 400 ?_) | (refine runD Γ hm 400 (by kernel_rfl) ?_)); (conv => whnf)); repeat (first | (refine ⟨fun (h : false = true) => (Bool.false_ne_true h).elim, fun _ => ?_⟩; ((first | (refine run Γ hm 400 ?_) | (refine runD Γ hm 400 (by kernel_rfl) ?_)); (conv => whnf))) | (refine ⟨fun _ => ?_, fun (h : true = false) => (Bool.false_ne_true h.symm).elim⟩; ((first | (refine run Γ hm 400 ?_) | (refine runD Γ hm 400 (by kernel_rfl) ?_)); (conv => whnf)))))
    exact done rfl (.cons .tmp .nil) [(0, 1000)] _ (fun _ h => h) rfl rfl ⟨trivial, ⟨.inl rfl, rfl, trivial⟩, rfl, rfl⟩

theorem div_pow (m k : Nat) : m / 256 ^ k / 256 = m / 256 ^ (k + 1) := by rw [Nat.div_div_eq_div_mul, Nat.pow_succ]

/-- palingref01.Bytes. -/
theorem bytes1 (m : Nat) (hm64 : m < 18446744073709551616) : Sy.Spec Try.prog 86 [u64SV m] [] (.osl 0) [(0, .row 1 byteSV (be 6 m))] := contract Γ hm 100 F86 Try.ntmps86 rfl fun F hF => by
  ((conv => whnf); repeat (first | (refine ⟨fun (h : false = true) => (Bool.false_ne_true h).elim, fun _ => ?_⟩; ((first | (refine run Γ hm 400 ?_) | (refine runD Γ hm 400 (by kernel_rfl) ?_)); (conv => whnf))) | (refine ⟨fun _ => ?_, fun (h : true = false) => (Bool.false_ne_true h.symm).elim⟩; ((first | (refine run Γ hm 400 ?_) | (refine runD Γ hm 400 (by kernel_rfl) ?_)); (conv => whnf)))))
  refine G_adopt 3 1000 1 byteSV rfl rfl ?_
  refine G_count 6 (fun j => [(0, u64SV m), (3, .osl 1000), (4, intSV (5 - (j : Int)))]) (fun j => [(1000, .row 1 byteSV ((be 6 m).take j))]) [] ⟨⟨rfl, rfl, rfl, rfl, rfl, rfl, trivial⟩, ⟨.inl rfl, rfl, trivial⟩, rfl, rfl⟩ ?_
  intro j hj
  (((first | (refine run Γ hm 400 ?_) | (refine runD Γ hm 400 (by kernel_rfl) ?_)); (conv => whnf)); repeat (first | (refine ⟨fun (h : false = true) => (Bool.false_ne_true h).elim, fun _ => ?_⟩; ((first | (refine run Γ hm 400 ?_) | (refine runD Γ hm 400 (by kernel_rfl) ?_)); (conv => whnf))) | (refine ⟨fun _ => ?_, fun (h : true = false) => (Bool.false_ne_true h.symm).elim⟩; ((first | (refine run Γ hm 400 ?_) | (refine runD Γ hm 400 (by kernel_rfl) ?_)); (conv => whnf)))))
  refine ⟨fun h => ?_, fun h => ?_⟩
  · have hlt : j < 6 := by have := of_decide_eq_true h; omega
    (((first | (refine run Γ hm 400 ?_) | (refine runD Γ hm 400 (by kernel_rfl) ?_)); (conv => whnf)); repeat (first | (refine ⟨fun (h : false = true) => (Bool.false_ne_true h).elim, fun _ => ?_⟩; ((first | (refine run Γ hm 400 ?_) | (refine runD Γ hm 400 (by kernel_rfl) ?_)); (conv => whnf))) | (refine ⟨fun _ => ?_, fun (h : true = false) => (Bool.false_ne_true h.symm).elim⟩; ((first | (refine run Γ hm 400 ?_) | (refine runD Γ hm 400 (by kernel_rfl) ?_)); (conv => whnf)))))
    refine G_count (5 - j) (fun k => [(0, u64SV m), (3, .osl 1000), (4, intSV (5 - (j : Int))), (5, u64SV (m / 256 ^ k : Nat)), (6, intSV k)]) (fun _ => [(1000, .row 1 byteSV ((be 6 m).take j))]) [] ⟨⟨rfl, rfl, rfl, rfl, rfl, rfl, by simp; rfl, rfl, rfl, rfl, trivial⟩, ⟨.inl rfl, rfl, trivial⟩, rfl, rfl⟩ ?_
    intro k hk
    (((first | (refine run Γ hm 400 ?_) | (refine runD Γ hm 400 (by kernel_rfl) ?_)); (conv => whnf)); repeat (first | (refine ⟨fun (h : false = true) => (Bool.false_ne_true h).elim, fun _ => ?_⟩; ((first | (refine run Γ hm 400 ?_) | (refine runD Γ hm 400 (by kernel_rfl) ?_)); (conv => whnf))) | (refine ⟨fun _ => ?_, fun (h : true = false) => (Bool.false_ne_true h.symm).elim⟩; ((first | (refine run Γ hm 400 ?_) | (refine runD Γ hm 400 (by kernel_rfl) ?_)); (conv => whnf)))))
    refine ⟨fun h2 => ?_, fun h2 => ?_⟩
    · have hlt2 : k < 5 - j := by have := of_decide_eq_true h2; omega
      (((first | (refine run Γ hm 400 ?_) | (refine runD Γ hm 400 (by kernel_rfl) ?_)); (conv => whnf)); repeat (first | (refine ⟨fun (h : false = true) => (Bool.false_ne_true h).elim, fun _ => ?_⟩; ((first | (refine run Γ hm 400 ?_) | (refine runD Γ hm 400 (by kernel_rfl) ?_)); (conv => whnf))) | (refine ⟨fun _ => ?_, fun (h : true = false) => (Bool.false_ne_true h.symm).elim⟩; ((first | (refine run Γ hm 400 ?_) | (refine runD Γ hm 400 (by kernel_rfl) ?_)); (conv => whnf)))))
      refine ⟨by decide, ?_⟩
      ((conv => whnf); repeat (first | (refine ⟨fun (h : false = true) => (Bool.false_ne_true h).elim, fun _ => ?_⟩; ((first | (refine run Γ hm 400 ?_) | (refine runD Γ hm 400 (by kernel_rfl) ?_)); (conv => whnf))) | (refine ⟨fun _ => ?_, fun (h : true = false) => (Bool.false_ne_true h.symm).elim⟩; ((first | (refine run Γ hm 400 ?_) | (refine runD Γ hm 400 (by kernel_rfl) ?_)); (conv => whnf)))))
      refine ⟨by unfold I64; omega, ?_⟩
      ((conv => whnf); repeat (first | (refine ⟨fun (h : false = true) => (Bool.false_ne_true h).elim, fun _ => ?_⟩; ((first | (refine run Γ hm 400 ?_) | (refine runD Γ hm 400 (by kernel_rfl) ?_)); (conv => whnf))) | (refine ⟨fun _ => ?_, fun (h : true = false) => (Bool.false_ne_true h.symm).elim⟩; ((first | (refine run Γ hm 400 ?_) | (refine runD Γ hm 400 (by kernel_rfl) ?_)); (conv => whnf)))))
      refine G_next [] (by omega) ⟨⟨rfl, rfl, rfl, rfl, rfl, rfl, congrArg (fun z => SV.val (.int .u64 z)) ?_, rfl, rfl, rfl, trivial⟩, ⟨.inl rfl, rfl, trivial⟩, rfl, rfl⟩
      have h5 : m / 256 ^ k ≤ m := Nat.div_le_self _ _
      rw [Int.tdiv_eq_ediv_of_nonneg (Int.natCast_nonneg _), IntKind.wrap_u64, ← div_pow]
      generalize m / 256 ^ k = q at *
      omega
    · have : k = 5 - j := by have := of_decide_eq_false h2; omega
      subst this
      (((first | (refine run Γ hm 400 ?_) | (refine runD Γ hm 400 (by kernel_rfl) ?_)); (conv => whnf)); repeat (first | (refine ⟨fun (h : false = true) => (Bool.false_ne_true h).elim, fun _ => ?_⟩; ((first | (refine run Γ hm 400 ?_) | (refine runD Γ hm 400 (by kernel_rfl) ?_)); (conv => whnf))) | (refine ⟨fun _ => ?_, fun (h : true = false) => (Bool.false_ne_true h.symm).elim⟩; ((first | (refine run Γ hm 400 ?_) | (refine runD Γ hm 400 (by kernel_rfl) ?_)); (conv => whnf)))))
      refine ⟨by decide, ?_⟩
      ((conv => whnf); repeat (first | (refine ⟨fun (h : false = true) => (Bool.false_ne_true h).elim, fun _ => ?_⟩; ((first | (refine run Γ hm 400 ?_) | (refine runD Γ hm 400 (by kernel_rfl) ?_)); (conv => whnf))) | (refine ⟨fun _ => ?_, fun (h : true = false) => (Bool.false_ne_true h.symm).elim⟩; ((first | (refine run Γ hm 400 ?_) | (refine runD Γ hm 400 (by kernel_rfl) ?_)); (conv => whnf)))))
      refine stepOp (good_appendT Γ.toTy 24 rfl rfl rfl rfl rfl (.row rfl) (.lit (l := [UInt8.ofNat (m / 256 ^ (5 - j))]) rfl ?_) (by simp) ?_ ?_) rfl rfl ?_
      · simp only [List.map_cons, List.map_nil, byteSV]
        congr 3
        rw [Int.tmod_eq_emod_of_nonneg (Int.natCast_nonneg _), IntKind.wrap_u8]
        simp
      · simp [be_length]; omega
      · simp [be_length]; omega
      (((first | (refine run Γ hm 400 ?_) | (refine runD Γ hm 400 (by kernel_rfl) ?_)); (conv => whnf)); repeat (first | (refine ⟨fun (h : false = true) => (Bool.false_ne_true h).elim, fun _ => ?_⟩; ((first | (refine run Γ hm 400 ?_) | (refine runD Γ hm 400 (by kernel_rfl) ?_)); (conv => whnf))) | (refine ⟨fun _ => ?_, fun (h : true = false) => (Bool.false_ne_true h.symm).elim⟩; ((first | (refine run Γ hm 400 ?_) | (refine runD Γ hm 400 (by kernel_rfl) ?_)); (conv => whnf)))))
      refine ⟨by unfold I64; omega, ?_⟩
      ((conv => whnf); repeat (first | (refine ⟨fun (h : false = true) => (Bool.false_ne_true h).elim, fun _ => ?_⟩; ((first | (refine run Γ hm 400 ?_) | (refine runD Γ hm 400 (by kernel_rfl) ?_)); (conv => whnf))) | (refine ⟨fun _ => ?_, fun (h : true = false) => (Bool.false_ne_true h.symm).elim⟩; ((first | (refine run Γ hm 400 ?_) | (refine runD Γ hm 400 (by kernel_rfl) ?_)); (conv => whnf)))))
      exact G_next [(1000, 24)] hlt ⟨⟨rfl, rfl, rfl, rfl, congrArg (fun z => SV.val (.int .i64 z)) (by omega), rfl, trivial⟩, ⟨.inl (congrArg (Ob.row 1 byteSV) (be_take _ _ _ hlt)), rfl, trivial⟩, rfl, rfl⟩
  · have : j = 6 := by have := of_decide_eq_false h; omega
    subst this
    (((first | (refine run Γ hm 400 ?_) | (refine runD Γ hm 400 (by kernel_rfl) ?_)); (conv => whnf)); repeat (first | (refine ⟨fun (h : false = true) => (Bool.false_ne_true h).elim, fun _ => ?_⟩; ((first | (refine run Γ hm 400 ?_) | (refine runD Γ hm 400 (by kernel_rfl) ?_)); (conv => whnf))) | (refine ⟨fun _ => ?_, fun (h : true = false) => (Bool.false_ne_true h.symm).elim⟩; ((first | (refine run Γ hm 400 ?_) | (refine runD Γ hm 400 (by kernel_rfl) ?_)); (conv => whnf)))))
    exact done rfl (.cons .tmp .nil) [(0, 1000)] _ (fun _ h => h) rfl rfl ⟨trivial, ⟨.inl rfl, rfl, trivial⟩, rfl, rfl⟩
def frSV (d s : Nat) (t : Int) (body : List UInt8) : SV := .agg [u64SV d, u64SV s, intSV t, .sl 1 byteSV body]
def noFr : SV := .agg [u64SV 0, u64SV 0, intSV 0, .val (.slice none 0 0)]

def frame (d s t : Nat) (body : List UInt8) : List UInt8 := be 6 d ++ be 6 s ++ [UInt8.ofNat (t / 256), UInt8.ofNat t] ++ body

theorem two_bytes (t : Nat) : [UInt8.ofNat (t / 256), UInt8.ofNat t].map byteSV = [SV.val (.int .u8 (IntKind.u8.wrap ((t : Int).fdiv (2 ^ (min (Int.toNat 8) IntKind.i64.bits))))), SV.val (.int .u8 (IntKind.u8.wrap (t : Int)))] := by
  have h1 : IntKind.u8.wrap ((t : Int).fdiv (2 ^ (min (Int.toNat 8) IntKind.i64.bits))) = ((UInt8.ofNat (t / 256)).toNat : Int) := by
    show IntKind.u8.wrap ((t : Int).fdiv 256) = _
    rw [Int.fdiv_eq_ediv_of_nonneg _ (by decide), IntKind.wrap_u8]
    simp
  have h2 : IntKind.u8.wrap (t : Int) = ((UInt8.ofNat t).toNat : Int) := by
    rw [IntKind.wrap_u8]
    simp
  rw [h1, h2]
  rfl

theorem two_bytes2 (t : Nat) (ht : t ≤ 65535) : [UInt8.ofNat (t / 256), UInt8.ofNat t].map byteSV = [SV.val (.int .u8 (IntKind.u8.wrap (IntKind.i64.wrap ((t : Int).tdiv 256)))), SV.val (.int .u8 (IntKind.u8.wrap ((t : Int).tmod 256)))] := by
  have h1 : IntKind.u8.wrap (IntKind.i64.wrap ((t : Int).tdiv 256)) = ((UInt8.ofNat (t / 256)).toNat : Int) := by
    rw [Int.tdiv_eq_ediv_of_nonneg (by omega), IntKind.wrap_u8, IntKind.wrap_i64]
    simp
    omega
  have h2 : IntKind.u8.wrap ((t : Int).tmod 256) = ((UInt8.ofNat t).toNat : Int) := by
    rw [Int.tmod_eq_emod_of_nonneg (by omega), IntKind.wrap_u8]
    simp
  rw [h1, h2]
  rfl

theorem etherPut_bad (d s : Nat) (t : Int) (body : List UInt8) (hd : d < 281474976710656) (hs : 281474976710656 ≤ s) : Sy.Spec Try.prog 73 [frSV d s t body] [] (.tup [.val (.slice none 0 0), intSV 11]) [] := contract Γ hm 100 F73 Try.ntmps73 rfl fun F hF => by
  ((conv => whnf); repeat (first | (refine ⟨fun (h : false = true) => (Bool.false_ne_true h).elim, fun _ => ?_⟩; ((first | (refine run Γ hm 400 ?_) | (refine runD Γ hm 400 (by kernel_rfl) ?_)); (conv => whnf))) | (refine ⟨fun _ => ?_, fun (h : true = false) => (Bool.false_ne_true h.symm).elim⟩; ((first | (refine run Γ hm 400 ?_) | (refine runD Γ hm 400 (by kernel_rfl) ?_)); (conv => whnf)))))
  refine ⟨fun h => absurd (of_decide_eq_true h) (by omega), fun _ => ?_⟩
  (((first | (refine run Γ hm 400 ?_) | (refine runD Γ hm 400 (by kernel_rfl) ?_)); (conv => whnf)); repeat (first | (refine ⟨fun (h : false = true) => (Bool.false_ne_true h).elim, fun _ => ?_⟩; ((first | (refine run Γ hm 400 ?_) | (refine runD Γ hm 400 (by kernel_rfl) ?_)); (conv => whnf))) | (refine ⟨fun _ => ?_, fun (h : true = false) => (Bool.false_ne_true h.symm).elim⟩; ((first | (refine run Γ hm 400 ?_) | (refine runD Γ hm 400 (by kernel_rfl) ?_)); (conv => whnf)))))
  refine ⟨fun _ => ?_, fun h => absurd (of_decide_eq_false h) (by omega)⟩
  (((first | (refine run Γ hm 400 ?_) | (refine runD Γ hm 400 (by kernel_rfl) ?_)); (conv => whnf)); repeat (first | (refine ⟨fun (h : false = true) => (Bool.false_ne_true h).elim, fun _ => ?_⟩; ((first | (refine run Γ hm 400 ?_) | (refine runD Γ hm 400 (by kernel_rfl) ?_)); (conv => whnf))) | (refine ⟨fun _ => ?_, fun (h : true = false) => (Bool.false_ne_true h.symm).elim⟩; ((first | (refine run Γ hm 400 ?_) | (refine runD Γ hm 400 (by kernel_rfl) ?_)); (conv => whnf)))))
  exact done0 rfl (.cons .tmp (.cons .tmp .nil)) rfl rfl

theorem etherPut_ok (d s t : Nat) (body : List UInt8) (hd : d < 281474976710656) (hs : s < 281474976710656) (ht : t ≤ 65535) (hb : body.length ≤ 1504) : Sy.Spec Try.prog 73 [frSV d s t body] [] (.tup [.osl 0, intSV 0]) [(0, .row 1 byteSV (frame d s t body))] := contract Γ hm 100 F73 Try.ntmps73 rfl fun F hF => by
  ((conv => whnf); repeat (first | (refine ⟨fun (h : false = true) => (Bool.false_ne_true h).elim, fun _ => ?_⟩; ((first | (refine run Γ hm 400 ?_) | (refine runD Γ hm 400 (by kernel_rfl) ?_)); (conv => whnf))) | (refine ⟨fun _ => ?_, fun (h : true = false) => (Bool.false_ne_true h.symm).elim⟩; ((first | (refine run Γ hm 400 ?_) | (refine runD Γ hm 400 (by kernel_rfl) ?_)); (conv => whnf)))))
  refine ⟨fun h => absurd (of_decide_eq_true h) (by omega), fun _ => ?_⟩
  (((first | (refine run Γ hm 400 ?_) | (refine runD Γ hm 400 (by kernel_rfl) ?_)); (conv => whnf)); repeat (first | (refine ⟨fun (h : false = true) => (Bool.false_ne_true h).elim, fun _ => ?_⟩; ((first | (refine run Γ hm 400 ?_) | (refine runD Γ hm 400 (by kernel_rfl) ?_)); (conv => whnf))) | (refine ⟨fun _ => ?_, fun (h : true = false) => (Bool.false_ne_true h.symm).elim⟩; ((first | (refine run Γ hm 400 ?_) | (refine runD Γ hm 400 (by kernel_rfl) ?_)); (conv => whnf)))))
  refine ⟨fun h => absurd (of_decide_eq_true h) (by omega), fun _ => ?_⟩
  (((first | (refine run Γ hm 400 ?_) | (refine runD Γ hm 400 (by kernel_rfl) ?_)); (conv => whnf)); repeat (first | (refine ⟨fun (h : false = true) => (Bool.false_ne_true h).elim, fun _ => ?_⟩; ((first | (refine run Γ hm 400 ?_) | (refine runD Γ hm 400 (by kernel_rfl) ?_)); (conv => whnf))) | (refine ⟨fun _ => ?_, fun (h : true = false) => (Bool.false_ne_true h.symm).elim⟩; ((first | (refine run Γ hm 400 ?_) | (refine runD Γ hm 400 (by kernel_rfl) ?_)); (conv => whnf)))))
  refine ⟨fun h => absurd (of_decide_eq_true h) (by omega), fun _ => ?_⟩
  (((first | (refine run Γ hm 400 ?_) | (refine runD Γ hm 400 (by kernel_rfl) ?_)); (conv => whnf)); repeat (first | (refine ⟨fun (h : false = true) => (Bool.false_ne_true h).elim, fun _ => ?_⟩; ((first | (refine run Γ hm 400 ?_) | (refine runD Γ hm 400 (by kernel_rfl) ?_)); (conv => whnf))) | (refine ⟨fun _ => ?_, fun (h : true = false) => (Bool.false_ne_true h.symm).elim⟩; ((first | (refine run Γ hm 400 ?_) | (refine runD Γ hm 400 (by kernel_rfl) ?_)); (conv => whnf)))))
  refine ⟨fun h => absurd (of_decide_eq_true h) (by omega), fun _ => ?_⟩
  (((first | (refine run Γ hm 400 ?_) | (refine runD Γ hm 400 (by kernel_rfl) ?_)); (conv => whnf)); repeat (first | (refine ⟨fun (h : false = true) => (Bool.false_ne_true h).elim, fun _ => ?_⟩; ((first | (refine run Γ hm 400 ?_) | (refine runD Γ hm 400 (by kernel_rfl) ?_)); (conv => whnf))) | (refine ⟨fun _ => ?_, fun (h : true = false) => (Bool.false_ne_true h.symm).elim⟩; ((first | (refine run Γ hm 400 ?_) | (refine runD Γ hm 400 (by kernel_rfl) ?_)); (conv => whnf)))))
  refine stepD (good_call [(0, 31)] rfl F82 (put2n d) rfl trivial rfl ⟨.inr rfl, trivial⟩) (by kernel_rfl) rfl ?_
  (((first | (refine run Γ hm 400 ?_) | (refine runD Γ hm 400 (by kernel_rfl) ?_)); (conv => whnf)); repeat (first | (refine ⟨fun (h : false = true) => (Bool.false_ne_true h).elim, fun _ => ?_⟩; ((first | (refine run Γ hm 400 ?_) | (refine runD Γ hm 400 (by kernel_rfl) ?_)); (conv => whnf))) | (refine ⟨fun _ => ?_, fun (h : true = false) => (Bool.false_ne_true h.symm).elim⟩; ((first | (refine run Γ hm 400 ?_) | (refine runD Γ hm 400 (by kernel_rfl) ?_)); (conv => whnf)))))
  refine stepD (good_call [(0, 31), (1, 34)] rfl F82 (put2 (be 6 d) (by simp [be_length]) s) rfl ⟨rfl, trivial⟩ rfl ⟨.inl rfl, .inr rfl, trivial⟩) (by kernel_rfl) rfl ?_
  (((first | (refine run Γ hm 400 ?_) | (refine runD Γ hm 400 (by kernel_rfl) ?_)); (conv => whnf)); repeat (first | (refine ⟨fun (h : false = true) => (Bool.false_ne_true h).elim, fun _ => ?_⟩; ((first | (refine run Γ hm 400 ?_) | (refine runD Γ hm 400 (by kernel_rfl) ?_)); (conv => whnf))) | (refine ⟨fun _ => ?_, fun (h : true = false) => (Bool.false_ne_true h.symm).elim⟩; ((first | (refine run Γ hm 400 ?_) | (refine runD Γ hm 400 (by kernel_rfl) ?_)); (conv => whnf)))))
  refine ⟨by kernel_rfl, ?_⟩
  ((conv => whnf); repeat (first | (refine ⟨fun (h : false = true) => (Bool.false_ne_true h).elim, fun _ => ?_⟩; ((first | (refine run Γ hm 400 ?_) | (refine runD Γ hm 400 (by kernel_rfl) ?_)); (conv => whnf))) | (refine ⟨fun _ => ?_, fun (h : true = false) => (Bool.false_ne_true h.symm).elim⟩; ((first | (refine run Γ hm 400 ?_) | (refine runD Γ hm 400 (by kernel_rfl) ?_)); (conv => whnf)))))
  refine ⟨by decide, ?_⟩
  ((conv => whnf); repeat (first | (refine ⟨fun (h : false = true) => (Bool.false_ne_true h).elim, fun _ => ?_⟩; ((first | (refine run Γ hm 400 ?_) | (refine runD Γ hm 400 (by kernel_rfl) ?_)); (conv => whnf))) | (refine ⟨fun _ => ?_, fun (h : true = false) => (Bool.false_ne_true h.symm).elim⟩; ((first | (refine run Γ hm 400 ?_) | (refine runD Γ hm 400 (by kernel_rfl) ?_)); (conv => whnf)))))
  refine stepD (good_appendT Γ.toTy 44 rfl rfl rfl rfl rfl (.row rfl) (.lit (l := [UInt8.ofNat (t / 256), UInt8.ofNat t]) rfl (two_bytes t)) (by decide) ?_ ?_) (by kernel_rfl) rfl ?_
  · simp [be_length]
  · simp [be_length]
  (((first | (refine run Γ hm 400 ?_) | (refine runD Γ hm 400 (by kernel_rfl) ?_)); (conv => whnf)); repeat (first | (refine ⟨fun (h : false = true) => (Bool.false_ne_true h).elim, fun _ => ?_⟩; ((first | (refine run Γ hm 400 ?_) | (refine runD Γ hm 400 (by kernel_rfl) ?_)); (conv => whnf))) | (refine ⟨fun _ => ?_, fun (h : true = false) => (Bool.false_ne_true h.symm).elim⟩; ((first | (refine run Γ hm 400 ?_) | (refine runD Γ hm 400 (by kernel_rfl) ?_)); (conv => whnf)))))
  refine stepD (good_appendT Γ.toTy 47 rfl rfl rfl rfl rfl (.row rfl) .sl (by decide) ?_ ?_) (by kernel_rfl) rfl ?_
  · simp [be_length]; omega
  · simp [be_length]; omega
  (((first | (refine run Γ hm 400 ?_) | (refine runD Γ hm 400 (by kernel_rfl) ?_)); (conv => whnf)); repeat (first | (refine ⟨fun (h : false = true) => (Bool.false_ne_true h).elim, fun _ => ?_⟩; ((first | (refine run Γ hm 400 ?_) | (refine runD Γ hm 400 (by kernel_rfl) ?_)); (conv => whnf))) | (refine ⟨fun _ => ?_, fun (h : true = false) => (Bool.false_ne_true h.symm).elim⟩; ((first | (refine run Γ hm 400 ?_) | (refine runD Γ hm 400 (by kernel_rfl) ?_)); (conv => whnf)))))
  refine ⟨by kernel_rfl, ?_⟩
  ((conv => whnf); repeat (first | (refine ⟨fun (h : false = true) => (Bool.false_ne_true h).elim, fun _ => ?_⟩; ((first | (refine run Γ hm 400 ?_) | (refine runD Γ hm 400 (by kernel_rfl) ?_)); (conv => whnf))) | (refine ⟨fun _ => ?_, fun (h : true = false) => (Bool.false_ne_true h.symm).elim⟩; ((first | (refine run Γ hm 400 ?_) | (refine runD Γ hm 400 (by kernel_rfl) ?_)); (conv => whnf)))))
  exact done rfl (.cons .tmp (.cons .tmp .nil)) [(0, 47)] _ (fun _ h => h) rfl rfl ⟨trivial, ⟨.inl rfl, rfl, trivial⟩, rfl, rfl⟩

theorem refPut_bad (d s : Nat) (t : Int) (body : List UInt8) (hd : d < 281474976710656) (hs : 281474976710656 ≤ s) : Sy.Spec Try.prog 77 [frSV d s t body] [] (.tup [.val (.slice none 0 0), intSV 11]) [] := contract Γ hm 100 F77 Try.ntmps77 rfl fun F hF => by
  ((conv => whnf); repeat (first | (refine ⟨fun (h : false = true) => (Bool.false_ne_true h).elim, fun _ => ?_⟩; ((first | (refine run Γ hm 400 ?_) | (refine runD Γ hm 400 (by kernel_rfl) ?_)); (conv => whnf))) | (refine ⟨fun _ => ?_, fun (h : true = false) => (Bool.false_ne_true h.symm).elim⟩; ((first | (refine run Γ hm 400 ?_) | (refine runD Γ hm 400 (by kernel_rfl) ?_)); (conv => whnf)))))
  refine ⟨fun h => absurd (of_decide_eq_true h) (by omega), fun _ => ?_⟩
  (((first | (refine run Γ hm 400 ?_) | (refine runD Γ hm 400 (by kernel_rfl) ?_)); (conv => whnf)); repeat (first | (refine ⟨fun (h : false = true) => (Bool.false_ne_true h).elim, fun _ => ?_⟩; ((first | (refine run Γ hm 400 ?_) | (refine runD Γ hm 400 (by kernel_rfl) ?_)); (conv => whnf))) | (refine ⟨fun _ => ?_, fun (h : true = false) => (Bool.false_ne_true h.symm).elim⟩; ((first | (refine run Γ hm 400 ?_) | (refine runD Γ hm 400 (by kernel_rfl) ?_)); (conv => whnf)))))
  refine ⟨fun _ => ?_, fun h => absurd (of_decide_eq_false h) (by omega)⟩
  (((first | (refine run Γ hm 400 ?_) | (refine runD Γ hm 400 (by kernel_rfl) ?_)); (conv => whnf)); repeat (first | (refine ⟨fun (h : false = true) => (Bool.false_ne_true h).elim, fun _ => ?_⟩; ((first | (refine run Γ hm 400 ?_) | (refine runD Γ hm 400 (by kernel_rfl) ?_)); (conv => whnf))) | (refine ⟨fun _ => ?_, fun (h : true = false) => (Bool.false_ne_true h.symm).elim⟩; ((first | (refine run Γ hm 400 ?_) | (refine runD Γ hm 400 (by kernel_rfl) ?_)); (conv => whnf)))))
  exact done0 rfl (.cons .tmp (.cons .tmp .nil)) rfl rfl

theorem refPut_ok (d s t : Nat) (body : List UInt8) (hd : d < 281474976710656) (hs : s < 281474976710656) (ht : t ≤ 65535) (hb : body.length ≤ 1504) : Sy.Spec Try.prog 77 [frSV d s t body] [] (.tup [.osl 0, intSV 0]) [(0, .row 1 byteSV (frame d s t body))] := contract Γ hm 100 F77 Try.ntmps77 rfl fun F hF => by
  ((conv => whnf); repeat (first | (refine ⟨fun (h : false = true) => (Bool.false_ne_true h).elim, fun _ => ?_⟩; ((first | (refine run Γ hm 400 ?_) | (refine runD Γ hm 400 (by kernel_rfl) ?_)); (conv => whnf))) | (refine ⟨fun _ => ?_, fun (h : true = false) => (Bool.false_ne_true h.symm).elim⟩; ((first | (refine run Γ hm 400 ?_) | (refine runD Γ hm 400 (by kernel_rfl) ?_)); (conv => whnf)))))
  refine ⟨fun h => absurd (of_decide_eq_true h) (by omega), fun _ => ?_⟩
  (((first | (refine run Γ hm 400 ?_) | (refine runD Γ hm 400 (by kernel_rfl) ?_)); (conv => whnf)); repeat (first | (refine ⟨fun (h : false = true) => (Bool.false_ne_true h).elim, fun _ => ?_⟩; ((first | (refine run Γ hm 400 ?_) | (refine runD Γ hm 400 (by kernel_rfl) ?_)); (conv => whnf))) | (refine ⟨fun _ => ?_, fun (h : true = false) => (Bool.false_ne_true h.symm).elim⟩; ((first | (refine run Γ hm 400 ?_) | (refine runD Γ hm 400 (by kernel_rfl) ?_)); (conv => whnf)))))
  refine ⟨fun h => absurd (of_decide_eq_true h) (by omega), fun _ => ?_⟩
  (((first | (refine run Γ hm 400 ?_) | (refine runD Γ hm 400 (by kernel_rfl) ?_)); (conv => whnf)); repeat (first | (refine ⟨fun (h : false = true) => (Bool.false_ne_true h).elim, fun _ => ?_⟩; ((first | (refine run Γ hm 400 ?_) | (refine runD Γ hm 400 (by kernel_rfl) ?_)); (conv => whnf))) | (refine ⟨fun _ => ?_, fun (h : true = false) => (Bool.false_ne_true h.symm).elim⟩; ((first | (refine run Γ hm 400 ?_) | (refine runD Γ hm 400 (by kernel_rfl) ?_)); (conv => whnf)))))
  refine ⟨fun h => absurd (of_decide_eq_true h) (by omega), fun _ => ?_⟩
  (((first | (refine run Γ hm 400 ?_) | (refine runD Γ hm 400 (by kernel_rfl) ?_)); (conv => whnf)); repeat (first | (refine ⟨fun (h : false = true) => (Bool.false_ne_true h).elim, fun _ => ?_⟩; ((first | (refine run Γ hm 400 ?_) | (refine runD Γ hm 400 (by kernel_rfl) ?_)); (conv => whnf))) | (refine ⟨fun _ => ?_, fun (h : true = false) => (Bool.false_ne_true h.symm).elim⟩; ((first | (refine run Γ hm 400 ?_) | (refine runD Γ hm 400 (by kernel_rfl) ?_)); (conv => whnf)))))
  refine ⟨fun h => absurd (of_decide_eq_true h) (by omega), fun _ => ?_⟩
  (((first | (refine run Γ hm 400 ?_) | (refine runD Γ hm 400 (by kernel_rfl) ?_)); (conv => whnf)); repeat (first | (refine ⟨fun (h : false = true) => (Bool.false_ne_true h).elim, fun _ => ?_⟩; ((first | (refine run Γ hm 400 ?_) | (refine runD Γ hm 400 (by kernel_rfl) ?_)); (conv => whnf))) | (refine ⟨fun _ => ?_, fun (h : true = false) => (Bool.false_ne_true h.symm).elim⟩; ((first | (refine run Γ hm 400 ?_) | (refine runD Γ hm 400 (by kernel_rfl) ?_)); (conv => whnf)))))
  refine stepD (good_call [(0, 29)] rfl F86 (bytes1 d (by omega)) rfl trivial rfl ⟨.inr rfl, trivial⟩) (by kernel_rfl) rfl ?_
  (((first | (refine run Γ hm 400 ?_) | (refine runD Γ hm 400 (by kernel_rfl) ?_)); (conv => whnf)); repeat (first | (refine ⟨fun (h : false = true) => (Bool.false_ne_true h).elim, fun _ => ?_⟩; ((first | (refine run Γ hm 400 ?_) | (refine runD Γ hm 400 (by kernel_rfl) ?_)); (conv => whnf))) | (refine ⟨fun _ => ?_, fun (h : true = false) => (Bool.false_ne_true h.symm).elim⟩; ((first | (refine run Γ hm 400 ?_) | (refine runD Γ hm 400 (by kernel_rfl) ?_)); (conv => whnf)))))
  refine stepD (good_call [(0, 32)] rfl F86 (bytes1 s (by omega)) rfl trivial rfl ⟨.inr rfl, trivial⟩) (by kernel_rfl) rfl ?_
  (((first | (refine run Γ hm 400 ?_) | (refine runD Γ hm 400 (by kernel_rfl) ?_)); (conv => whnf)); repeat (first | (refine ⟨fun (h : false = true) => (Bool.false_ne_true h).elim, fun _ => ?_⟩; ((first | (refine run Γ hm 400 ?_) | (refine runD Γ hm 400 (by kernel_rfl) ?_)); (conv => whnf))) | (refine ⟨fun _ => ?_, fun (h : true = false) => (Bool.false_ne_true h.symm).elim⟩; ((first | (refine run Γ hm 400 ?_) | (refine runD Γ hm 400 (by kernel_rfl) ?_)); (conv => whnf)))))
  refine stepD (good_appendT Γ.toTy 33 rfl rfl rfl rfl rfl (.row rfl) (.row rfl) (by decide) ?_ ?_) (by kernel_rfl) rfl ?_
  · simp [be_length]
  · simp [be_length]
  (((first | (refine run Γ hm 400 ?_) | (refine runD Γ hm 400 (by kernel_rfl) ?_)); (conv => whnf)); repeat (first | (refine ⟨fun (h : false = true) => (Bool.false_ne_true h).elim, fun _ => ?_⟩; ((first | (refine run Γ hm 400 ?_) | (refine runD Γ hm 400 (by kernel_rfl) ?_)); (conv => whnf))) | (refine ⟨fun _ => ?_, fun (h : true = false) => (Bool.false_ne_true h.symm).elim⟩; ((first | (refine run Γ hm 400 ?_) | (refine runD Γ hm 400 (by kernel_rfl) ?_)); (conv => whnf)))))
  refine ⟨by kernel_rfl, ?_⟩
  ((conv => whnf); repeat (first | (refine ⟨fun (h : false = true) => (Bool.false_ne_true h).elim, fun _ => ?_⟩; ((first | (refine run Γ hm 400 ?_) | (refine runD Γ hm 400 (by kernel_rfl) ?_)); (conv => whnf))) | (refine ⟨fun _ => ?_, fun (h : true = false) => (Bool.false_ne_true h.symm).elim⟩; ((first | (refine run Γ hm 400 ?_) | (refine runD Γ hm 400 (by kernel_rfl) ?_)); (conv => whnf)))))
  refine ⟨by decide, ?_⟩
  ((conv => whnf); repeat (first | (refine ⟨fun (h : false = true) => (Bool.false_ne_true h).elim, fun _ => ?_⟩; ((first | (refine run Γ hm 400 ?_) | (refine runD Γ hm 400 (by kernel_rfl) ?_)); (conv => whnf))) | (refine ⟨fun _ => ?_, fun (h : true = false) => (Bool.false_ne_true h.symm).elim⟩; ((first | (refine run Γ hm 400 ?_) | (refine runD Γ hm 400 (by kernel_rfl) ?_)); (conv => whnf)))))
  refine ⟨by decide, ?_⟩
  ((conv => whnf); repeat (first | (refine ⟨fun (h : false = true) => (Bool.false_ne_true h).elim, fun _ => ?_⟩; ((first | (refine run Γ hm 400 ?_) | (refine runD Γ hm 400 (by kernel_rfl) ?_)); (conv => whnf))) | (refine ⟨fun _ => ?_, fun (h : true = false) => (Bool.false_ne_true h.symm).elim⟩; ((first | (refine run Γ hm 400 ?_) | (refine runD Γ hm 400 (by kernel_rfl) ?_)); (conv => whnf)))))
  refine stepOp (good_appendT Γ.toTy 44 rfl rfl rfl rfl rfl (.row rfl) (.lit (l := [UInt8.ofNat (t / 256), UInt8.ofNat t]) rfl (two_bytes2 t ht)) (by decide) ?_ ?_) rfl rfl ?_
  · simp [be_length]
  · simp [be_length]
  (((first | (refine run Γ hm 400 ?_) | (refine runD Γ hm 400 (by kernel_rfl) ?_)); (conv => whnf)); repeat (first | (refine ⟨fun (h : false = true) => (Bool.false_ne_true h).elim, fun _ => ?_⟩; ((first | (refine run Γ hm 400 ?_) | (refine runD Γ hm 400 (by kernel_rfl) ?_)); (conv => whnf))) | (refine ⟨fun _ => ?_, fun (h : true = false) => (Bool.false_ne_true h.symm).elim⟩; ((first | (refine run Γ hm 400 ?_) | (refine runD Γ hm 400 (by kernel_rfl) ?_)); (conv => whnf)))))
  refine stepOp (good_appendT Γ.toTy 48 rfl rfl rfl rfl rfl (.row rfl) .sl (by decide) ?_ ?_) rfl rfl ?_
  · simp [be_length]; omega
  · simp [be_length]; omega
  (((first | (refine run Γ hm 400 ?_) | (refine runD Γ hm 400 (by kernel_rfl) ?_)); (conv => whnf)); repeat (first | (refine ⟨fun (h : false = true) => (Bool.false_ne_true h).elim, fun _ => ?_⟩; ((first | (refine run Γ hm 400 ?_) | (refine runD Γ hm 400 (by kernel_rfl) ?_)); (conv => whnf))) | (refine ⟨fun _ => ?_, fun (h : true = false) => (Bool.false_ne_true h.symm).elim⟩; ((first | (refine run Γ hm 400 ?_) | (refine runD Γ hm 400 (by kernel_rfl) ?_)); (conv => whnf)))))
  exact done rfl (.cons .tmp (.cons .tmp .nil)) [(0, 48)] _ (fun _ h => h) rfl rfl ⟨trivial, ⟨.inl rfl, rfl, trivial⟩, rfl, rfl⟩
end Go.Sy.Ytnccojbdjjnoiaa

namespace Go.Sy.Ytnccojbdjjnoiaa

def nextN (s : Int) : Int := IntKind.u64.wrap (IntKind.u64.wrap (6364136223846793005 * s) + 1442695040888963407)
theorem nextN_range (s : Int) : 0 ≤ nextN s ∧ nextN s < 18446744073709551616 := by
  rw [nextN, IntKind.wrap_u64]
  omega
/-- What is drawn, by the new number. -/
def drawI (s b : Int) : Int := if b < 1 then 0 else (s / 8589934592) % b
theorem drawI_range {s b : Int} (h : 0 < b) : 0 ≤ drawI s b ∧ drawI s b < b := by
  rw [drawI, if_neg (by omega)]
  exact ⟨Int.emod_nonneg _ (by omega), Int.emod_lt_of_pos _ h⟩

structure FrameM where
  dst : Nat
  src : Nat
  typ : Nat
  body : List UInt8
def frameSV (f : FrameM) : SV := frSV f.dst f.src f.typ f.body

structure StepM where
  kind : Int
  port : Int
  domain : Int
  at_ : Int
  bytes : List UInt8
  up : List Bool
def stepSV (x : StepM) : SV := .agg [intSV x.kind, intSV x.port, intSV x.domain, intSV x.at_, .sl 1 byteSV x.bytes, .sl 1 boolSV x.up]

def vlansL (p : Port) : List Int := if p.native ≠ 0 then p.native :: p.tagged else p.tagged
def vlanM (p : Port) (s : Int) : Int × Int := (nth (vlansL p) (drawI (nextN s) (vlansL p).length), nextN s)

def hostN (ip : Int) : Nat := 2199023255552 + ip.toNat
def firstI (a bits : Int) : Int := if 0 ≤ bits ∧ bits ≤ 32 then a - a % 2 ^ (32 - bits).toNat else 0
/-- A sum brought down. -/
def foldN (n : Nat) : Nat := if n = 0 then 0 else (n - 1) % 65535 + 1
def ipL (to : Nat) : List UInt8 :=
  let s := 65535 - foldN (0x4500 + 20 + 0x4011 + 1 + to / 65536 + to % 65536)
  be 2 0x4500 ++ be 2 20 ++ be 2 0 ++ be 2 0 ++ be 2 0x4011 ++ be 2 s ++ be 4 1 ++ be 4 to

def frameM (n : Net) (s : Int) : FrameM × Int :=
  let src := 10995116277760 + (drawI (nextN s) 8).toNat
  let s2 := nextN (nextN s)
  let kind := drawI s2 4
  if kind = 0 ∨ (kind = 1 ∧ n.irbs.length = 0) then (⟨281474976710655, src, 34997, []⟩, s2)
  else if kind = 1 then
    let s3 := nextN s2
    let s4 := nextN s3
    let s5 := nextN s4
    let x := nth n.irbs (drawI s3 n.irbs.length)
    let y := nth n.irbs (drawI s4 n.irbs.length)
    (⟨hostN x.addr, src, 2048, ipL (IntKind.u32.wrap (firstI y.addr y.bits + drawI s5 4)).toNat⟩, s5)
  else (⟨10995116277760 + (drawI (nextN s2) 8).toNat, src, 34997, []⟩, nextN s2)

def tagM (f : FrameM) (vlan : Int) : FrameM := ⟨f.dst, f.src, 33024, [UInt8.ofNat (vlan.toNat / 256), UInt8.ofNat vlan.toNat, UInt8.ofNat (f.typ / 256), UInt8.ofNat f.typ] ++ f.body⟩

def hostsL (n : Net) (j : Nat) : List Int := ((List.range j).filter fun i => decide ((n.ports.getD i default).link < 0)).map fun (i : Nat) => (i : Int)

def injectM (n : Net) (s : Int) : StepM × Int :=
  let l := hostsL n n.ports.length
  let s1 := nextN s
  let port := nth l (drawI s1 l.length)
  let v := vlanM (nth n.ports port) s1
  let f := frameM n v.2
  let g := if v.1 ≠ (nth n.ports port).native then tagM f.1 v.1 else f.1
  (⟨1, port, 0, 0, frame g.dst g.src g.typ g.body, []⟩, f.2)

def linksM : Nat → Int → List Bool × Int
  | 0, s => ([], s)
  | j + 1, s => let r := linksM j s; (r.1 ++ [drawI (nextN r.2) 2 == 1], nextN r.2)

def stepM (n : Net) (s : Int) : StepM × Int :=
  let s1 := nextN s
  let k := drawI s1 10
  if k < 3 ∧ 0 < (hostsL n n.ports.length).length then injectM n s1
  else if 3 ≤ k ∧ k < 8 ∧ 0 < n.domains.length then (⟨2, 0, drawI (nextN s1) n.domains.length, drawI (nextN (nextN s1)) 3, [], []⟩, nextN (nextN s1))
  else if k = 9 ∧ 0 < n.links.length then let r := linksM n.links.length s1; (⟨5, 0, 0, 0, [], r.1⟩, r.2)
  else (⟨4, 0, 0, 0, [], []⟩, s1)

def scriptM (n : Net) : Nat → Int → List StepM × Int
  | 0, s => ([], s)
  | j + 1, s => let r := scriptM n j s; let x := stepM n r.2; (r.1 ++ [x.1], x.2)

theorem scriptM_length (n : Net) : ∀ (j : Nat) (s : Int), (scriptM n j s).1.length = j
  | 0, _ => rfl
  | j + 1, s => by simp [scriptM, scriptM_length n j s]

/-- A script in two parts. -/
theorem scriptM_add (n : Net) (s : Int) (a : Nat) : ∀ b, scriptM n (a + b) s = ((scriptM n a s).1 ++ (scriptM n b (scriptM n a s).2).1, (scriptM n b (scriptM n a s).2).2)
  | 0 => by simp [scriptM]
  | b + 1 => by
    have ih := scriptM_add n s a b
    rw [← Nat.add_assoc, scriptM, ih]
    simp [scriptM, List.append_assoc]
end Go.Sy.Ytnccojbdjjnoiaa

namespace Go.Sy.Ytnccojbdjjnoiaa

theorem foldN_small {n : Nat} (h : n ≤ 65535) : foldN n = n := by
  unfold foldN
  split <;> omega
theorem foldN_step {n : Nat} (h : 65535 < n) : foldN (n / 65536 + n % 65536) = foldN n ∧ n / 65536 + n % 65536 < n := by
  unfold foldN
  rw [if_neg (by omega), if_neg (by omega)]
  omega
theorem foldN_add (a x : Nat) (hx : x ≤ 65535) : foldN (a + x) = if 65535 < foldN a + x then foldN a + x - 65535 else foldN a + x := by
  unfold foldN
  split <;> split <;> split <;> omega
theorem foldN_le (n : Nat) : foldN n ≤ 65535 := by
  unfold foldN
  split <;> omega

/-- The sum of the first j words. -/
def wsum (l : List UInt8) : Nat → Nat
  | 0 => 0
  | j + 1 => wsum l j + ((l.getD (2 * j) 0).toNat * 256 + (l.getD (2 * j + 1) 0).toNat)
theorem wsum_le (l : List UInt8) : ∀ j, wsum l j ≤ 65535 * j
  | 0 => Nat.le_refl _
  | j + 1 => by
    have ih := wsum_le l j
    have h1 := (l.getD (2 * j) 0).toNat_lt
    have h2 := (l.getD (2 * j + 1) 0).toNat_lt
    rw [wsum]
    omega
def sumOf (l : List UInt8) : Nat := 65535 - foldN (wsum l (l.length / 2))

/-- The header, its sum left out. -/
def ip0 (to : Nat) : List UInt8 := be 2 0x4500 ++ be 2 20 ++ be 2 0 ++ be 2 0 ++ be 2 0x4011 ++ be 2 0 ++ be 4 1 ++ be 4 to
theorem ip0_length (to : Nat) : (ip0 to).length = 20 := by simp [ip0, be_length]

theorem ofNat_toNat (n : Nat) : (UInt8.ofNat n).toNat = n % 256 := by simp

theorem ip0_sum (to : Nat) (h : to < 4294967296) : sumOf (ip0 to) = 65535 - foldN (0x4500 + 20 + 0x4011 + 1 + to / 65536 + to % 65536) := by
  have e : wsum (ip0 to) 10 = 0x4500 + 20 + 0x4011 + 1 + to / 65536 + to % 65536 := by
    simp only [wsum, ip0, be, List.cons_append, List.nil_append, List.getD_cons_zero, List.getD_cons_succ, Nat.reduceMul, Nat.reduceAdd, Nat.mul_zero, Nat.mul_one, ofNat_toNat, Nat.reducePow, Nat.pow_zero, Nat.pow_one, Nat.div_one]
    omega
  rw [sumOf, ip0_length, show 20 / 2 = 10 from rfl, e]

theorem ipL_set (to : Nat) (h : to < 4294967296) : ((ip0 to).set 10 (UInt8.ofNat (sumOf (ip0 to) / 256))).set 11 (UInt8.ofNat (sumOf (ip0 to))) = ipL to := by
  rw [ip0_sum to h]
  simp only [ipL, ip0, be, List.cons_append, List.nil_append, List.set_cons_succ, List.set_cons_zero, Nat.reducePow, Nat.pow_zero, Nat.pow_one, Nat.div_one]
end Go.Sy.Ytnccojbdjjnoiaa

namespace Go.Sy.Ytnccojbdjjnoiaa
open Go.Proofs

attribute [local irreducible] Go.Sy.G Go.Sy.DR
set_option maxRecDepth 100000
set_option maxHeartbeats 4000000

theorem drillNextS (s : Int) : Sy.Spec Try.prog 10 [u64SV s] [] (u64SV (nextN s)) [] := contract Γ hm 100 F10 Try.ntmps10 rfl fun F hF => by
  ((conv => whnf); repeat (first | (refine ⟨fun (h : false = true) => (Bool.false_ne_true h).elim, fun _ => ?_⟩; ((first | (refine run Γ hm 400 ?_) | (refine runD Γ hm 400 (by kernel_rfl) ?_)); (conv => whnf))) | (refine ⟨fun _ => ?_, fun (h : true = false) => (Bool.false_ne_true h.symm).elim⟩; ((first | (refine run Γ hm 400 ?_) | (refine runD Γ hm 400 (by kernel_rfl) ?_)); (conv => whnf)))))
  exact done0 rfl (.cons .tmp .nil) rfl rfl

theorem refNextS (s : Int) : Sy.Spec Try.prog 11 [u64SV s] [] (u64SV (nextN s)) [] := contract Γ hm 100 F11 Try.ntmps11 rfl fun F hF => by
  ((conv => whnf); repeat (first | (refine ⟨fun (h : false = true) => (Bool.false_ne_true h).elim, fun _ => ?_⟩; ((first | (refine run Γ hm 400 ?_) | (refine runD Γ hm 400 (by kernel_rfl) ?_)); (conv => whnf))) | (refine ⟨fun _ => ?_, fun (h : true = false) => (Bool.false_ne_true h.symm).elim⟩; ((first | (refine run Γ hm 400 ?_) | (refine runD Γ hm 400 (by kernel_rfl) ?_)); (conv => whnf)))))
  exact done0 rfl (.cons .tmp .nil) rfl rfl

theorem draw_shift (s b : Int) (h0 : 0 ≤ s) (h1 : s < 18446744073709551616) (hb : 0 < b) : (IntKind.i64.wrap (s.fdiv (2 ^ (min (Int.toNat 33) IntKind.u64.bits)))).tmod b = (s / 8589934592) % b := by
  have e : s.fdiv (2 ^ (min (Int.toNat 33) IntKind.u64.bits)) = s / 8589934592 := by
    show s.fdiv 8589934592 = _
    rw [Int.fdiv_eq_ediv_of_nonneg _ (by decide)]
  have h2 : 0 ≤ s / 8589934592 ∧ s / 8589934592 < 9223372036854775808 := by omega
  rw [e, IntKind.wrap_i64, Int.tmod_eq_emod_of_nonneg (by omega)]
  congr 1
  omega

theorem draw_quo (s b : Int) (h0 : 0 ≤ s) (h1 : s < 18446744073709551616) (hb : 0 < b) : (IntKind.i64.wrap (IntKind.u64.wrap (s.tdiv 8589934592))).tmod b = (s / 8589934592) % b := by
  have h2 : 0 ≤ s / 8589934592 ∧ s / 8589934592 < 9223372036854775808 := by omega
  rw [Int.tdiv_eq_ediv_of_nonneg h0, IntKind.wrap_i64, IntKind.wrap_u64, Int.tmod_eq_emod_of_nonneg (by omega)]
  congr 1
  omega

theorem drawS (s b : Int) : Sy.Spec Try.prog 35 [intSV b, .ptr 0 0] [(0, .box [u64SV s])] (intSV (drawI (nextN s) b)) [(0, .box [u64SV (nextN s)])] := contract Γ hm 100 F35 Try.ntmps35 rfl fun F hF => by
  have hn := drillNextS s
  have hr := nextN_range s
  have hd : drawI (nextN s) b = if b < 1 then 0 else (nextN s / 8589934592) % b := rfl
  generalize nextN s = x at *
  ((conv => whnf); repeat (first | (refine ⟨fun (h : false = true) => (Bool.false_ne_true h).elim, fun _ => ?_⟩; ((first | (refine run Γ hm 400 ?_) | (refine runD Γ hm 400 (by kernel_rfl) ?_)); (conv => whnf))) | (refine ⟨fun _ => ?_, fun (h : true = false) => (Bool.false_ne_true h.symm).elim⟩; ((first | (refine run Γ hm 400 ?_) | (refine runD Γ hm 400 (by kernel_rfl) ?_)); (conv => whnf)))))
  refine call0 hn F10 rfl rfl rfl rfl rfl ?_
  (((first | (refine run Γ hm 400 ?_) | (refine runD Γ hm 400 (by kernel_rfl) ?_)); (conv => whnf)); repeat (first | (refine ⟨fun (h : false = true) => (Bool.false_ne_true h).elim, fun _ => ?_⟩; ((first | (refine run Γ hm 400 ?_) | (refine runD Γ hm 400 (by kernel_rfl) ?_)); (conv => whnf))) | (refine ⟨fun _ => ?_, fun (h : true = false) => (Bool.false_ne_true h.symm).elim⟩; ((first | (refine run Γ hm 400 ?_) | (refine runD Γ hm 400 (by kernel_rfl) ?_)); (conv => whnf)))))
  refine ⟨fun h => ?_, fun h => ?_⟩
  · have hb : b < 1 := of_decide_eq_true h
    rw [hd, if_pos hb]
    (((first | (refine run Γ hm 400 ?_) | (refine runD Γ hm 400 (by kernel_rfl) ?_)); (conv => whnf)); repeat (first | (refine ⟨fun (h : false = true) => (Bool.false_ne_true h).elim, fun _ => ?_⟩; ((first | (refine run Γ hm 400 ?_) | (refine runD Γ hm 400 (by kernel_rfl) ?_)); (conv => whnf))) | (refine ⟨fun _ => ?_, fun (h : true = false) => (Bool.false_ne_true h.symm).elim⟩; ((first | (refine run Γ hm 400 ?_) | (refine runD Γ hm 400 (by kernel_rfl) ?_)); (conv => whnf)))))
    exact done rfl (.cons .tmp .nil) [] [(0, .box [u64SV x])] (fun _ h => h) rfl rfl ⟨trivial, ⟨.inl rfl, rfl, trivial⟩, rfl, rfl⟩
  · have hb : ¬ b < 1 := of_decide_eq_false h
    rw [hd, if_neg hb, ← draw_shift x b hr.1 hr.2 (by omega)]
    (((first | (refine run Γ hm 400 ?_) | (refine runD Γ hm 400 (by kernel_rfl) ?_)); (conv => whnf)); repeat (first | (refine ⟨fun (h : false = true) => (Bool.false_ne_true h).elim, fun _ => ?_⟩; ((first | (refine run Γ hm 400 ?_) | (refine runD Γ hm 400 (by kernel_rfl) ?_)); (conv => whnf))) | (refine ⟨fun _ => ?_, fun (h : true = false) => (Bool.false_ne_true h.symm).elim⟩; ((first | (refine run Γ hm 400 ?_) | (refine runD Γ hm 400 (by kernel_rfl) ?_)); (conv => whnf)))))
    first | (refine ⟨by omega, ?_⟩; ((conv => whnf); repeat (first | (refine ⟨fun (h : false = true) => (Bool.false_ne_true h).elim, fun _ => ?_⟩; ((first | (refine run Γ hm 400 ?_) | (refine runD Γ hm 400 (by kernel_rfl) ?_)); (conv => whnf))) | (refine ⟨fun _ => ?_, fun (h : true = false) => (Bool.false_ne_true h.symm).elim⟩; ((first | (refine run Γ hm 400 ?_) | (refine runD Γ hm 400 (by kernel_rfl) ?_)); (conv => whnf)))))) | skip
    first | (refine ⟨by omega, ?_⟩; ((conv => whnf); repeat (first | (refine ⟨fun (h : false = true) => (Bool.false_ne_true h).elim, fun _ => ?_⟩; ((first | (refine run Γ hm 400 ?_) | (refine runD Γ hm 400 (by kernel_rfl) ?_)); (conv => whnf))) | (refine ⟨fun _ => ?_, fun (h : true = false) => (Bool.false_ne_true h.symm).elim⟩; ((first | (refine run Γ hm 400 ?_) | (refine runD Γ hm 400 (by kernel_rfl) ?_)); (conv => whnf)))))) | skip
    exact done rfl (.cons .tmp .nil) [] [(0, .box [u64SV x])] (fun _ h => h) rfl rfl ⟨trivial, ⟨.inl rfl, rfl, trivial⟩, rfl, rfl⟩

theorem lastS (s : Int) : Sy.Spec Try.prog 36 [.ptr 0 0] [(0, .box [u64SV s])] (u64SV s) [(0, .box [u64SV s])] := contract Γ hm 100 F36 Try.ntmps36 rfl fun F hF => by
  ((conv => whnf); repeat (first | (refine ⟨fun (h : false = true) => (Bool.false_ne_true h).elim, fun _ => ?_⟩; ((first | (refine run Γ hm 400 ?_) | (refine runD Γ hm 400 (by kernel_rfl) ?_)); (conv => whnf))) | (refine ⟨fun _ => ?_, fun (h : true = false) => (Bool.false_ne_true h.symm).elim⟩; ((first | (refine run Γ hm 400 ?_) | (refine runD Γ hm 400 (by kernel_rfl) ?_)); (conv => whnf)))))
  exact done rfl (.cons .tmp .nil) [] [(0, .box [u64SV s])] (fun _ h => h) rfl rfl ⟨trivial, ⟨.inl rfl, rfl, trivial⟩, rfl, rfl⟩

theorem refDrawS (s b : Int) : Sy.Spec Try.prog 64 [.ptr 0 0, intSV b] [(0, .box [u64SV s])] (intSV (drawI (nextN s) b)) [(0, .box [u64SV (nextN s)])] := contract Γ hm 100 F64 Try.ntmps64 rfl fun F hF => by
  have hn := refNextS s
  have hr := nextN_range s
  have hd : drawI (nextN s) b = if b < 1 then 0 else (nextN s / 8589934592) % b := rfl
  generalize nextN s = x at *
  ((conv => whnf); repeat (first | (refine ⟨fun (h : false = true) => (Bool.false_ne_true h).elim, fun _ => ?_⟩; ((first | (refine run Γ hm 400 ?_) | (refine runD Γ hm 400 (by kernel_rfl) ?_)); (conv => whnf))) | (refine ⟨fun _ => ?_, fun (h : true = false) => (Bool.false_ne_true h.symm).elim⟩; ((first | (refine run Γ hm 400 ?_) | (refine runD Γ hm 400 (by kernel_rfl) ?_)); (conv => whnf)))))
  refine call0 hn F11 rfl rfl rfl rfl rfl ?_
  (((first | (refine run Γ hm 400 ?_) | (refine runD Γ hm 400 (by kernel_rfl) ?_)); (conv => whnf)); repeat (first | (refine ⟨fun (h : false = true) => (Bool.false_ne_true h).elim, fun _ => ?_⟩; ((first | (refine run Γ hm 400 ?_) | (refine runD Γ hm 400 (by kernel_rfl) ?_)); (conv => whnf))) | (refine ⟨fun _ => ?_, fun (h : true = false) => (Bool.false_ne_true h.symm).elim⟩; ((first | (refine run Γ hm 400 ?_) | (refine runD Γ hm 400 (by kernel_rfl) ?_)); (conv => whnf)))))
  refine ⟨fun h => ?_, fun h => ?_⟩
  · have hb : b < 1 := of_decide_eq_true h
    rw [hd, if_pos hb]
    (((first | (refine run Γ hm 400 ?_) | (refine runD Γ hm 400 (by kernel_rfl) ?_)); (conv => whnf)); repeat (first | (refine ⟨fun (h : false = true) => (Bool.false_ne_true h).elim, fun _ => ?_⟩; ((first | (refine run Γ hm 400 ?_) | (refine runD Γ hm 400 (by kernel_rfl) ?_)); (conv => whnf))) | (refine ⟨fun _ => ?_, fun (h : true = false) => (Bool.false_ne_true h.symm).elim⟩; ((first | (refine run Γ hm 400 ?_) | (refine runD Γ hm 400 (by kernel_rfl) ?_)); (conv => whnf)))))
    exact done rfl (.cons .tmp .nil) [] [(0, .box [u64SV x])] (fun _ h => h) rfl rfl ⟨trivial, ⟨.inl rfl, rfl, trivial⟩, rfl, rfl⟩
  · have hb : ¬ b < 1 := of_decide_eq_false h
    rw [hd, if_neg hb, ← draw_quo x b hr.1 hr.2 (by omega)]
    (((first | (refine run Γ hm 400 ?_) | (refine runD Γ hm 400 (by kernel_rfl) ?_)); (conv => whnf)); repeat (first | (refine ⟨fun (h : false = true) => (Bool.false_ne_true h).elim, fun _ => ?_⟩; ((first | (refine run Γ hm 400 ?_) | (refine runD Γ hm 400 (by kernel_rfl) ?_)); (conv => whnf))) | (refine ⟨fun _ => ?_, fun (h : true = false) => (Bool.false_ne_true h.symm).elim⟩; ((first | (refine run Γ hm 400 ?_) | (refine runD Γ hm 400 (by kernel_rfl) ?_)); (conv => whnf)))))
    first | (refine ⟨by omega, ?_⟩; ((conv => whnf); repeat (first | (refine ⟨fun (h : false = true) => (Bool.false_ne_true h).elim, fun _ => ?_⟩; ((first | (refine run Γ hm 400 ?_) | (refine runD Γ hm 400 (by kernel_rfl) ?_)); (conv => whnf))) | (refine ⟨fun _ => ?_, fun (h : true = false) => (Bool.false_ne_true h.symm).elim⟩; ((first | (refine run Γ hm 400 ?_) | (refine runD Γ hm 400 (by kernel_rfl) ?_)); (conv => whnf)))))) | skip
    first | (refine ⟨by omega, ?_⟩; ((conv => whnf); repeat (first | (refine ⟨fun (h : false = true) => (Bool.false_ne_true h).elim, fun _ => ?_⟩; ((first | (refine run Γ hm 400 ?_) | (refine runD Γ hm 400 (by kernel_rfl) ?_)); (conv => whnf))) | (refine ⟨fun _ => ?_, fun (h : true = false) => (Bool.false_ne_true h.symm).elim⟩; ((first | (refine run Γ hm 400 ?_) | (refine runD Γ hm 400 (by kernel_rfl) ?_)); (conv => whnf)))))) | skip
    exact done rfl (.cons .tmp .nil) [] [(0, .box [u64SV x])] (fun _ h => h) rfl rfl ⟨trivial, ⟨.inl rfl, rfl, trivial⟩, rfl, rfl⟩

theorem getD_r {α : Type} {l : List α} {i : Nat} {d : α} (h : i < l.length) : l.getD i d = l[i] := by simp [List.getD, h]
theorem hostsL_succ (n : Net) (j : Nat) : hostsL n (j + 1) = if (n.ports.getD j default).link < 0 then hostsL n j ++ [(j : Int)] else hostsL n j := by
  rw [hostsL, List.range_succ, List.filter_append, List.map_append]
  split
  · rename_i h
    rw [List.filter_cons_of_pos (p := fun i => decide ((n.ports.getD i default).link < 0)) (a := j) (by simpa using h), List.filter_nil]
    rfl
  · rename_i h
    rw [List.filter_cons_of_neg (p := fun i => decide ((n.ports.getD i default).link < 0)) (a := j) (by simpa using h), List.filter_nil, List.map_nil, List.append_nil]
    rfl
theorem hostsL_length (n : Net) (j : Nat) : (hostsL n j).length ≤ j := by
  have := List.length_filter_le (fun i => decide ((n.ports.getD i default).link < 0)) (List.range j)
  simpa [hostsL] using this
theorem hostsL_mem {n : Net} {j : Nat} {x : Int} (h : x ∈ hostsL n j) : 0 ≤ x ∧ x < j := by
  simp only [hostsL, List.mem_map, List.mem_filter, List.mem_range] at h
  obtain ⟨i, h1, rfl⟩ := h
  omega

def makerL (n : Net) (x : SV) (k : Nat) : List SV := [.sl 5 deviceSV n.devices, .sl 7 portSV n.ports, .sl 3 linkSV n.links, .sl 6 domainSV n.domains, .sl 4 staticSV n.statics, .sl 4 floodSV n.floods, .sl 5 vrfSV n.vrfs, .sl 5 irbSV n.irbs, x, .clo (.func 35) [] [.ptr k 0]]

def makerO (n : Net) (s : Int) : Obs := [(0, .box (makerL n (.sl 1 intSV (hostsL n n.ports.length)) 1)), (1, .box [u64SV s])]

theorem madeS (n : Net) (s : Int) (hn : n.ports.length < 1000000) : Sy.Spec Try.prog 13 [netSV n, u64SV s] [] (.tup [.ptr 0 0, .clo (.func 36) [] [.ptr 1 0]]) (makerO n s) := contract Γ hm 100 F13 Try.ntmps13 rfl fun F hF => by
  ((conv => whnf); repeat (first | (refine ⟨fun (h : false = true) => (Bool.false_ne_true h).elim, fun _ => ?_⟩; ((first | (refine run Γ hm 400 ?_) | (refine runD Γ hm 400 (by kernel_rfl) ?_)); (conv => whnf))) | (refine ⟨fun _ => ?_, fun (h : true = false) => (Bool.false_ne_true h.symm).elim⟩; ((first | (refine run Γ hm 400 ?_) | (refine runD Γ hm 400 (by kernel_rfl) ?_)); (conv => whnf)))))
  refine G_box 2 8 (netSV n) rfl rfl rfl ?_
  refine G_adoptB 11 8 1000 1 intSV rfl rfl rfl rfl ?_
  refine G_count n.ports.length (fun j => [(3, .ptr 3 0), (6, .ptr 11 0), (17, .sl 7 portSV n.ports), (18, intSV n.ports.length), (19, intSV j)]) (fun j => [(3, .box [u64SV s]), (11, .box (makerL n (.osl 1000) 3)), (1000, .row 1 intSV (hostsL n j))]) []
    ⟨⟨rfl, rfl, rfl, rfl, rfl, rfl, rfl, rfl, rfl, rfl, trivial⟩, ⟨.inl rfl, rfl, .inl rfl, rfl, .inl rfl, rfl, trivial⟩, rfl, rfl⟩ ?_
  intro j hj
  (((first | (refine run Γ hm 400 ?_) | (refine runD Γ hm 400 (by kernel_rfl) ?_)); (conv => whnf)); repeat (first | (refine ⟨fun (h : false = true) => (Bool.false_ne_true h).elim, fun _ => ?_⟩; ((first | (refine run Γ hm 400 ?_) | (refine runD Γ hm 400 (by kernel_rfl) ?_)); (conv => whnf))) | (refine ⟨fun _ => ?_, fun (h : true = false) => (Bool.false_ne_true h.symm).elim⟩; ((first | (refine run Γ hm 400 ?_) | (refine runD Γ hm 400 (by kernel_rfl) ?_)); (conv => whnf)))))
  refine ⟨fun h => ?_, fun h => ?_⟩
  · have hlt : j < n.ports.length := by simpa using h
    have hsucc := hostsL_succ n j
    have hhl := hostsL_length n j
    rw [getD_r hlt] at hsucc
    have e1 : n.ports[(j : Int).toNat]'(by omega) = n.ports[j] := rfl
    obtain ⟨p, hp⟩ : ∃ p, n.ports[j] = p := ⟨_, rfl⟩
    rw [hp] at e1 hsucc
    obtain ⟨u, hu⟩ : ∃ u, hostsL n j = u := ⟨_, rfl⟩
    rw [hu] at hsucc hhl ⊢
    (((first | (refine run Γ hm 400 ?_) | (refine runD Γ hm 400 (by kernel_rfl) ?_)); (conv => whnf)); repeat (first | (refine ⟨fun (h : false = true) => (Bool.false_ne_true h).elim, fun _ => ?_⟩; ((first | (refine run Γ hm 400 ?_) | (refine runD Γ hm 400 (by kernel_rfl) ?_)); (conv => whnf))) | (refine ⟨fun _ => ?_, fun (h : true = false) => (Bool.false_ne_true h.symm).elim⟩; ((first | (refine run Γ hm 400 ?_) | (refine runD Γ hm 400 (by kernel_rfl) ?_)); (conv => whnf)))))
    refine ⟨rfl, by omega, by omega, ?_⟩
    rw [e1]
    ((conv => whnf); repeat (first | (refine ⟨fun (h : false = true) => (Bool.false_ne_true h).elim, fun _ => ?_⟩; ((first | (refine run Γ hm 400 ?_) | (refine runD Γ hm 400 (by kernel_rfl) ?_)); (conv => whnf))) | (refine ⟨fun _ => ?_, fun (h : true = false) => (Bool.false_ne_true h.symm).elim⟩; ((first | (refine run Γ hm 400 ?_) | (refine runD Γ hm 400 (by kernel_rfl) ?_)); (conv => whnf)))))
    refine ⟨fun h2 => ?_, fun h2 => ?_⟩
    · rw [if_pos (of_decide_eq_true h2)] at hsucc
      (((first | (refine run Γ hm 400 ?_) | (refine runD Γ hm 400 (by kernel_rfl) ?_)); (conv => whnf)); repeat (first | (refine ⟨fun (h : false = true) => (Bool.false_ne_true h).elim, fun _ => ?_⟩; ((first | (refine run Γ hm 400 ?_) | (refine runD Γ hm 400 (by kernel_rfl) ?_)); (conv => whnf))) | (refine ⟨fun _ => ?_, fun (h : true = false) => (Bool.false_ne_true h.symm).elim⟩; ((first | (refine run Γ hm 400 ?_) | (refine runD Γ hm 400 (by kernel_rfl) ?_)); (conv => whnf)))))
      refine stepOp (good_appendT Γ.toTy 34 rfl rfl rfl rfl rfl (.row rfl) (.lit (e := intSV) (l := [(j : Int)]) rfl rfl) (by simp) (by simp; omega) (by simp; omega)) rfl rfl ?_
      (((first | (refine run Γ hm 400 ?_) | (refine runD Γ hm 400 (by kernel_rfl) ?_)); (conv => whnf)); repeat (first | (refine ⟨fun (h : false = true) => (Bool.false_ne_true h).elim, fun _ => ?_⟩; ((first | (refine run Γ hm 400 ?_) | (refine runD Γ hm 400 (by kernel_rfl) ?_)); (conv => whnf))) | (refine ⟨fun _ => ?_, fun (h : true = false) => (Bool.false_ne_true h.symm).elim⟩; ((first | (refine run Γ hm 400 ?_) | (refine runD Γ hm 400 (by kernel_rfl) ?_)); (conv => whnf)))))
      refine ⟨by unfold I64; omega, ?_⟩
      ((conv => whnf); repeat (first | (refine ⟨fun (h : false = true) => (Bool.false_ne_true h).elim, fun _ => ?_⟩; ((first | (refine run Γ hm 400 ?_) | (refine runD Γ hm 400 (by kernel_rfl) ?_)); (conv => whnf))) | (refine ⟨fun _ => ?_, fun (h : true = false) => (Bool.false_ne_true h.symm).elim⟩; ((first | (refine run Γ hm 400 ?_) | (refine runD Γ hm 400 (by kernel_rfl) ?_)); (conv => whnf)))))
      exact G_next [(1000, 34)] hlt ⟨⟨rfl, rfl, rfl, rfl, rfl, rfl, rfl, rfl, rfl, rfl, trivial⟩, ⟨.inl rfl, rfl, .inl rfl, rfl, .inl (congrArg (Ob.row 1 intSV) hsucc), rfl, trivial⟩, rfl, rfl⟩
    · rw [if_neg (of_decide_eq_false h2)] at hsucc
      (((first | (refine run Γ hm 400 ?_) | (refine runD Γ hm 400 (by kernel_rfl) ?_)); (conv => whnf)); repeat (first | (refine ⟨fun (h : false = true) => (Bool.false_ne_true h).elim, fun _ => ?_⟩; ((first | (refine run Γ hm 400 ?_) | (refine runD Γ hm 400 (by kernel_rfl) ?_)); (conv => whnf))) | (refine ⟨fun _ => ?_, fun (h : true = false) => (Bool.false_ne_true h.symm).elim⟩; ((first | (refine run Γ hm 400 ?_) | (refine runD Γ hm 400 (by kernel_rfl) ?_)); (conv => whnf)))))
      refine ⟨by unfold I64; omega, ?_⟩
      ((conv => whnf); repeat (first | (refine ⟨fun (h : false = true) => (Bool.false_ne_true h).elim, fun _ => ?_⟩; ((first | (refine run Γ hm 400 ?_) | (refine runD Γ hm 400 (by kernel_rfl) ?_)); (conv => whnf))) | (refine ⟨fun _ => ?_, fun (h : true = false) => (Bool.false_ne_true h.symm).elim⟩; ((first | (refine run Γ hm 400 ?_) | (refine runD Γ hm 400 (by kernel_rfl) ?_)); (conv => whnf)))))
      exact G_next [] hlt ⟨⟨rfl, rfl, rfl, rfl, rfl, rfl, rfl, rfl, rfl, rfl, trivial⟩, ⟨.inl rfl, rfl, .inl rfl, rfl, .inl (congrArg (Ob.row 1 intSV) hsucc), rfl, trivial⟩, rfl, rfl⟩
  have hjl : j = n.ports.length := by
    have : ¬ j < n.ports.length := by simpa using h
    omega
  subst hjl
  (((first | (refine run Γ hm 400 ?_) | (refine runD Γ hm 400 (by kernel_rfl) ?_)); (conv => whnf)); repeat (first | (refine ⟨fun (h : false = true) => (Bool.false_ne_true h).elim, fun _ => ?_⟩; ((first | (refine run Γ hm 400 ?_) | (refine runD Γ hm 400 (by kernel_rfl) ?_)); (conv => whnf))) | (refine ⟨fun _ => ?_, fun (h : true = false) => (Bool.false_ne_true h.symm).elim⟩; ((first | (refine run Γ hm 400 ?_) | (refine runD Γ hm 400 (by kernel_rfl) ?_)); (conv => whnf)))))
  refine G_data 1000 rfl ?_
  exact done rfl (.cons .tmp (.cons .tmp .nil)) [(0, 11), (1, 3)] (makerO n s) (fun _ h => h) rfl rfl ⟨trivial, ⟨.inl rfl, rfl, .inl rfl, rfl, trivial⟩, rfl, rfl⟩
end Go.Sy.Ytnccojbdjjnoiaa

namespace Go.Sy.Ytnccojbdjjnoiaa
open Go.Proofs

attribute [local irreducible] Go.Sy.G Go.Sy.DR
set_option maxRecDepth 100000
set_option maxHeartbeats 4000000

theorem bits_and_i64_nat (a b : Nat) (ha : a < 9223372036854775808) (hb : b < 9223372036854775808) : bits .and .i64 (a : Int) (b : Int) = ((a &&& b : Nat) : Int) := by
  have hx : a &&& b < 2 ^ 63 := Nat.lt_of_le_of_lt Nat.and_le_left ha
  have h1 : (BitVec.ofInt 64 (a : Int)).toNat = a := by
    rw [BitVec.ofInt_natCast, BitVec.toNat_ofNat]; exact Nat.mod_eq_of_lt (by omega)
  have h2 : (BitVec.ofInt 64 (b : Int)).toNat = b := by
    rw [BitVec.ofInt_natCast, BitVec.toNat_ofNat]; exact Nat.mod_eq_of_lt (by omega)
  show IntKind.i64.wrap ((BitVec.ofInt 64 (a : Int) &&& BitVec.ofInt 64 (b : Int)).toNat : Int) = _
  rw [BitVec.toNat_and, h1, h2, IntKind.wrap_i64]
  omega
theorem bits_or_i64_nat (a b : Nat) (ha : a < 9223372036854775808) (hb : b < 9223372036854775808) : bits .or .i64 (a : Int) (b : Int) = ((a ||| b : Nat) : Int) := by
  have hx : a ||| b < 2 ^ 63 := Nat.or_lt_two_pow (by omega) (by omega)
  have h1 : (BitVec.ofInt 64 (a : Int)).toNat = a := by
    rw [BitVec.ofInt_natCast, BitVec.toNat_ofNat]; exact Nat.mod_eq_of_lt (by omega)
  have h2 : (BitVec.ofInt 64 (b : Int)).toNat = b := by
    rw [BitVec.ofInt_natCast, BitVec.toNat_ofNat]; exact Nat.mod_eq_of_lt (by omega)
  show IntKind.i64.wrap ((BitVec.ofInt 64 (a : Int) ||| BitVec.ofInt 64 (b : Int)).toNat : Int) = _
  rw [BitVec.toNat_or, h1, h2, IntKind.wrap_i64]
  omega

theorem shr_nat (n k : Nat) (hk : k < 64) : (n : Int).fdiv (2 ^ (min (Int.toNat (k : Int)) IntKind.i64.bits)) = ((n / 2 ^ k : Nat) : Int) := by
  have h1 : min (Int.toNat (k : Int)) IntKind.i64.bits = k := by simp [IntKind.bits]; omega
  rw [h1, Int.fdiv_eq_ediv_of_nonneg _ (by exact Int.pow_nonneg (by decide))]
  simp

theorem and_low (n : Nat) (h : n < 9223372036854775808) : bits .and .i64 (n : Int) 65535 = ((n % 65536 : Nat) : Int) := by
  have := bits_and_i64_nat n 65535 h (by decide)
  rw [show ((65535 : Nat) : Int) = 65535 from rfl] at this
  rw [this]
  have h2 := Nat.and_two_pow_sub_one_eq_mod n 16
  rw [show 2 ^ 16 - 1 = 65535 from rfl, show 2 ^ 16 = 65536 from rfl] at h2
  rw [h2]

theorem downFoldS (n : Nat) (h : n < 9223372036854775808) : Sy.Spec Try.prog 101 [.ptr 0 0] [(0, .box [intSV n])] (.tup []) [(0, .box [intSV (n / 65536 + n % 65536 : Nat)])] := contract Γ hm 100 F101 Try.ntmps101 rfl fun F hF => by
  have e1 : (n : Int).fdiv (2 ^ (min (Int.toNat 16) IntKind.i64.bits)) = ((n / 65536 : Nat) : Int) := shr_nat n 16 (by decide)
  have e2 := and_low n h
  ((conv => whnf); repeat (first | (refine ⟨fun (h : false = true) => (Bool.false_ne_true h).elim, fun _ => ?_⟩; ((first | (refine run Γ hm 400 ?_) | (refine runD Γ hm 400 (by kernel_rfl) ?_)); (conv => whnf))) | (refine ⟨fun _ => ?_, fun (h : true = false) => (Bool.false_ne_true h.symm).elim⟩; ((first | (refine run Γ hm 400 ?_) | (refine runD Γ hm 400 (by kernel_rfl) ?_)); (conv => whnf)))))
  first | (refine ⟨by omega, ?_⟩; ((conv => whnf); repeat (first | (refine ⟨fun (h : false = true) => (Bool.false_ne_true h).elim, fun _ => ?_⟩; ((first | (refine run Γ hm 400 ?_) | (refine runD Γ hm 400 (by kernel_rfl) ?_)); (conv => whnf))) | (refine ⟨fun _ => ?_, fun (h : true = false) => (Bool.false_ne_true h.symm).elim⟩; ((first | (refine run Γ hm 400 ?_) | (refine runD Γ hm 400 (by kernel_rfl) ?_)); (conv => whnf)))))) | skip
  rw [e1, e2]
  refine ⟨by unfold I64; omega, ?_⟩
  ((conv => whnf); repeat (first | (refine ⟨fun (h : false = true) => (Bool.false_ne_true h).elim, fun _ => ?_⟩; ((first | (refine run Γ hm 400 ?_) | (refine runD Γ hm 400 (by kernel_rfl) ?_)); (conv => whnf))) | (refine ⟨fun _ => ?_, fun (h : true = false) => (Bool.false_ne_true h.symm).elim⟩; ((first | (refine run Γ hm 400 ?_) | (refine runD Γ hm 400 (by kernel_rfl) ?_)); (conv => whnf)))))
  exact done_end rfl .nil [] [(0, .box [intSV (n / 65536 + n % 65536 : Nat)])] (fun _ h => h) rfl rfl ⟨trivial, ⟨.inl rfl, rfl, trivial⟩, rfl, rfl⟩

theorem downS (n : Nat) (h : n < 9223372036854775808) : Sy.Spec Try.prog 100 [intSV n] [] (intSV (foldN n)) [] := contract Γ hm 100 F100 Try.ntmps100 rfl fun F hF => by
  ((conv => whnf); repeat (first | (refine ⟨fun (h : false = true) => (Bool.false_ne_true h).elim, fun _ => ?_⟩; ((first | (refine run Γ hm 400 ?_) | (refine runD Γ hm 400 (by kernel_rfl) ?_)); (conv => whnf))) | (refine ⟨fun _ => ?_, fun (h : true = false) => (Bool.false_ne_true h.symm).elim⟩; ((first | (refine run Γ hm 400 ?_) | (refine runD Γ hm 400 (by kernel_rfl) ?_)); (conv => whnf)))))
  refine G_loop (α := {m : Nat // foldN m = foldN n ∧ m ≤ n}) (fun m => [(3, .clo (.func 101) [] [.ptr 1 0]), (1, .ptr 1 0)]) (fun m => [(1, .box [intSV m.1])]) (fun m => m.1) ⟨n, rfl, Nat.le_refl _⟩ []
    ⟨⟨rfl, rfl, rfl, rfl, trivial⟩, ⟨.inl rfl, rfl, trivial⟩, rfl, rfl⟩ ?_
  rintro ⟨m, h1, h2⟩
  dsimp only
  (((first | (refine run Γ hm 400 ?_) | (refine runD Γ hm 400 (by kernel_rfl) ?_)); (conv => whnf)); repeat (first | (refine ⟨fun (h : false = true) => (Bool.false_ne_true h).elim, fun _ => ?_⟩; ((first | (refine run Γ hm 400 ?_) | (refine runD Γ hm 400 (by kernel_rfl) ?_)); (conv => whnf))) | (refine ⟨fun _ => ?_, fun (h : true = false) => (Bool.false_ne_true h.symm).elim⟩; ((first | (refine run Γ hm 400 ?_) | (refine runD Γ hm 400 (by kernel_rfl) ?_)); (conv => whnf)))))
  refine ⟨fun h3 => ?_, fun h3 => ?_⟩
  · have hmm : 65535 < m := by have := of_decide_eq_true h3; omega
    obtain ⟨g1, g2⟩ := foldN_step hmm
    (((first | (refine run Γ hm 400 ?_) | (refine runD Γ hm 400 (by kernel_rfl) ?_)); (conv => whnf)); repeat (first | (refine ⟨fun (h : false = true) => (Bool.false_ne_true h).elim, fun _ => ?_⟩; ((first | (refine run Γ hm 400 ?_) | (refine runD Γ hm 400 (by kernel_rfl) ?_)); (conv => whnf))) | (refine ⟨fun _ => ?_, fun (h : true = false) => (Bool.false_ne_true h.symm).elim⟩; ((first | (refine run Γ hm 400 ?_) | (refine runD Γ hm 400 (by kernel_rfl) ?_)); (conv => whnf)))))
    refine stepOp (good_callE [(0, 1)] (enters_clo rfl rfl F101) (downFoldS m (by omega)) rfl ⟨rfl, trivial⟩ rfl ⟨.inl rfl, trivial⟩) rfl rfl ?_
    (((first | (refine run Γ hm 400 ?_) | (refine runD Γ hm 400 (by kernel_rfl) ?_)); (conv => whnf)); repeat (first | (refine ⟨fun (h : false = true) => (Bool.false_ne_true h).elim, fun _ => ?_⟩; ((first | (refine run Γ hm 400 ?_) | (refine runD Γ hm 400 (by kernel_rfl) ?_)); (conv => whnf))) | (refine ⟨fun _ => ?_, fun (h : true = false) => (Bool.false_ne_true h.symm).elim⟩; ((first | (refine run Γ hm 400 ?_) | (refine runD Γ hm 400 (by kernel_rfl) ?_)); (conv => whnf)))))
    exact G_inv (α := {m : Nat // foldN m = foldN n ∧ m ≤ n}) (x := ⟨m, h1, h2⟩) ⟨m / 65536 + m % 65536, by rw [g1, h1], by omega⟩ [] g2 ⟨⟨rfl, rfl, rfl, rfl, trivial⟩, ⟨.inl rfl, rfl, trivial⟩, rfl, rfl⟩
  · have hmm : m ≤ 65535 := by have := of_decide_eq_false h3; omega
    have e : foldN n = m := by rw [← h1, foldN_small hmm]
    (((first | (refine run Γ hm 400 ?_) | (refine runD Γ hm 400 (by kernel_rfl) ?_)); (conv => whnf)); repeat (first | (refine ⟨fun (h : false = true) => (Bool.false_ne_true h).elim, fun _ => ?_⟩; ((first | (refine run Γ hm 400 ?_) | (refine runD Γ hm 400 (by kernel_rfl) ?_)); (conv => whnf))) | (refine ⟨fun _ => ?_, fun (h : true = false) => (Bool.false_ne_true h.symm).elim⟩; ((first | (refine run Γ hm 400 ?_) | (refine runD Γ hm 400 (by kernel_rfl) ?_)); (conv => whnf)))))
    refine done0 rfl (.cons .tmp .nil) ?_ rfl
    exact congrArg (fun z : Nat => intSV z) e

theorem byte_pair (a b : UInt8) : bits .or .i64 (IntKind.i64.wrap ((IntKind.i64.wrap (a.toNat : Int)) * 2 ^ min (Int.toNat 8) IntKind.i64.bits)) (IntKind.i64.wrap (b.toNat : Int)) = ((a.toNat * 256 + b.toNat : Nat) : Int) := by
  have h1 := a.toNat_lt
  have h2 := b.toNat_lt
  have e1 : IntKind.i64.wrap (a.toNat : Int) = (a.toNat : Int) := by rw [IntKind.wrap_i64]; omega
  have e2 : IntKind.i64.wrap (b.toNat : Int) = (b.toNat : Int) := by rw [IntKind.wrap_i64]; omega
  rw [e1, e2]
  have h3 : IntKind.i64.wrap ((a.toNat : Int) * 2 ^ min (Int.toNat 8) IntKind.i64.bits) = ((a.toNat * 256 : Nat) : Int) := by
    show IntKind.i64.wrap ((a.toNat : Int) * 256) = _
    rw [IntKind.wrap_i64]
    omega
  rw [h3, bits_or_i64_nat _ _ (by omega) (by omega)]
  congr 1
  have h := Nat.two_pow_add_eq_or_of_lt (i := 8) (b := b.toNat) (by omega) a.toNat
  rw [Nat.mul_comm a.toNat 256]
  exact h.symm

theorem sumAddS (l : List UInt8) (hl : l.length < 100000) (h2 : l.length % 2 = 0) : Sy.Spec Try.prog 98 [.sl 1 byteSV l] [] (intSV (foldN (wsum l (l.length / 2)))) [] := contract Γ hm 100 F98 Try.ntmps98 rfl fun F hF => by
  ((conv => whnf); repeat (first | (refine ⟨fun (h : false = true) => (Bool.false_ne_true h).elim, fun _ => ?_⟩; ((first | (refine run Γ hm 400 ?_) | (refine runD Γ hm 400 (by kernel_rfl) ?_)); (conv => whnf))) | (refine ⟨fun _ => ?_, fun (h : true = false) => (Bool.false_ne_true h.symm).elim⟩; ((first | (refine run Γ hm 400 ?_) | (refine runD Γ hm 400 (by kernel_rfl) ?_)); (conv => whnf)))))
  refine G_count (l.length / 2) (fun j => [(0, .sl 1 byteSV l), (3, intSV (wsum l j)), (4, intSV (2 * (j : Int)))]) (fun _ => []) [] ⟨⟨rfl, rfl, rfl, rfl, rfl, rfl, trivial⟩, trivial, rfl, rfl⟩ ?_
  intro j hj
  have hw := wsum_le l j
  (((first | (refine run Γ hm 400 ?_) | (refine runD Γ hm 400 (by kernel_rfl) ?_)); (conv => whnf)); repeat (first | (refine ⟨fun (h : false = true) => (Bool.false_ne_true h).elim, fun _ => ?_⟩; ((first | (refine run Γ hm 400 ?_) | (refine runD Γ hm 400 (by kernel_rfl) ?_)); (conv => whnf))) | (refine ⟨fun _ => ?_, fun (h : true = false) => (Bool.false_ne_true h.symm).elim⟩; ((first | (refine run Γ hm 400 ?_) | (refine runD Γ hm 400 (by kernel_rfl) ?_)); (conv => whnf)))))
  refine ⟨by unfold I64; omega, ?_⟩
  ((conv => whnf); repeat (first | (refine ⟨fun (h : false = true) => (Bool.false_ne_true h).elim, fun _ => ?_⟩; ((first | (refine run Γ hm 400 ?_) | (refine runD Γ hm 400 (by kernel_rfl) ?_)); (conv => whnf))) | (refine ⟨fun _ => ?_, fun (h : true = false) => (Bool.false_ne_true h.symm).elim⟩; ((first | (refine run Γ hm 400 ?_) | (refine runD Γ hm 400 (by kernel_rfl) ?_)); (conv => whnf)))))
  refine ⟨fun h => ?_, fun h => ?_⟩
  · have hlt : 2 * j + 1 < l.length := by have := of_decide_eq_true h; omega
    have hs : wsum l (j + 1) = wsum l j + ((l[2 * j]'(by omega)).toNat * 256 + (l[2 * j + 1]'hlt).toNat) := by
      rw [wsum, getD_r (show 2 * j < l.length by omega), getD_r hlt]
    have e1 : l[(2 * (j : Int)).toNat]'(by omega) = l[2 * j]'(by omega) := by congr 1
    have e2 : l[(2 * (j : Int) + 1).toNat]'(by omega) = l[2 * j + 1]'hlt := by congr 1
    have hp := byte_pair (l[2 * j]'(by omega)) (l[2 * j + 1]'hlt)
    have hb1 := (l[2 * j]'(by omega)).toNat_lt
    have hb2 := (l[2 * j + 1]'hlt).toNat_lt
    rw [← e1, ← e2] at hp hs
    rw [← e1] at hb1
    rw [← e2] at hb2
    (((first | (refine run Γ hm 400 ?_) | (refine runD Γ hm 400 (by kernel_rfl) ?_)); (conv => whnf)); repeat (first | (refine ⟨fun (h : false = true) => (Bool.false_ne_true h).elim, fun _ => ?_⟩; ((first | (refine run Γ hm 400 ?_) | (refine runD Γ hm 400 (by kernel_rfl) ?_)); (conv => whnf))) | (refine ⟨fun _ => ?_, fun (h : true = false) => (Bool.false_ne_true h.symm).elim⟩; ((first | (refine run Γ hm 400 ?_) | (refine runD Γ hm 400 (by kernel_rfl) ?_)); (conv => whnf)))))
    refine ⟨rfl, by omega, by omega, ?_⟩
    ((conv => whnf); repeat (first | (refine ⟨fun (h : false = true) => (Bool.false_ne_true h).elim, fun _ => ?_⟩; ((first | (refine run Γ hm 400 ?_) | (refine runD Γ hm 400 (by kernel_rfl) ?_)); (conv => whnf))) | (refine ⟨fun _ => ?_, fun (h : true = false) => (Bool.false_ne_true h.symm).elim⟩; ((first | (refine run Γ hm 400 ?_) | (refine runD Γ hm 400 (by kernel_rfl) ?_)); (conv => whnf)))))
    refine ⟨by omega, ?_⟩
    ((conv => whnf); repeat (first | (refine ⟨fun (h : false = true) => (Bool.false_ne_true h).elim, fun _ => ?_⟩; ((first | (refine run Γ hm 400 ?_) | (refine runD Γ hm 400 (by kernel_rfl) ?_)); (conv => whnf))) | (refine ⟨fun _ => ?_, fun (h : true = false) => (Bool.false_ne_true h.symm).elim⟩; ((first | (refine run Γ hm 400 ?_) | (refine runD Γ hm 400 (by kernel_rfl) ?_)); (conv => whnf)))))
    refine ⟨by unfold I64; omega, ?_⟩
    ((conv => whnf); repeat (first | (refine ⟨fun (h : false = true) => (Bool.false_ne_true h).elim, fun _ => ?_⟩; ((first | (refine run Γ hm 400 ?_) | (refine runD Γ hm 400 (by kernel_rfl) ?_)); (conv => whnf))) | (refine ⟨fun _ => ?_, fun (h : true = false) => (Bool.false_ne_true h.symm).elim⟩; ((first | (refine run Γ hm 400 ?_) | (refine runD Γ hm 400 (by kernel_rfl) ?_)); (conv => whnf)))))
    refine ⟨rfl, by omega, by omega, ?_⟩
    ((conv => whnf); repeat (first | (refine ⟨fun (h : false = true) => (Bool.false_ne_true h).elim, fun _ => ?_⟩; ((first | (refine run Γ hm 400 ?_) | (refine runD Γ hm 400 (by kernel_rfl) ?_)); (conv => whnf))) | (refine ⟨fun _ => ?_, fun (h : true = false) => (Bool.false_ne_true h.symm).elim⟩; ((first | (refine run Γ hm 400 ?_) | (refine runD Γ hm 400 (by kernel_rfl) ?_)); (conv => whnf)))))
    refine ⟨(by rw [hp]; unfold I64; omega), ?_⟩
    ((conv => whnf); repeat (first | (refine ⟨fun (h : false = true) => (Bool.false_ne_true h).elim, fun _ => ?_⟩; ((first | (refine run Γ hm 400 ?_) | (refine runD Γ hm 400 (by kernel_rfl) ?_)); (conv => whnf))) | (refine ⟨fun _ => ?_, fun (h : true = false) => (Bool.false_ne_true h.symm).elim⟩; ((first | (refine run Γ hm 400 ?_) | (refine runD Γ hm 400 (by kernel_rfl) ?_)); (conv => whnf)))))
    refine ⟨(by kernel_rfl), ?_⟩
    ((conv => whnf); repeat (first | (refine ⟨fun (h : false = true) => (Bool.false_ne_true h).elim, fun _ => ?_⟩; ((first | (refine run Γ hm 400 ?_) | (refine runD Γ hm 400 (by kernel_rfl) ?_)); (conv => whnf))) | (refine ⟨fun _ => ?_, fun (h : true = false) => (Bool.false_ne_true h.symm).elim⟩; ((first | (refine run Γ hm 400 ?_) | (refine runD Γ hm 400 (by kernel_rfl) ?_)); (conv => whnf)))))
    refine ⟨by unfold I64; omega, ?_⟩
    ((conv => whnf); repeat (first | (refine ⟨fun (h : false = true) => (Bool.false_ne_true h).elim, fun _ => ?_⟩; ((first | (refine run Γ hm 400 ?_) | (refine runD Γ hm 400 (by kernel_rfl) ?_)); (conv => whnf))) | (refine ⟨fun _ => ?_, fun (h : true = false) => (Bool.false_ne_true h.symm).elim⟩; ((first | (refine run Γ hm 400 ?_) | (refine runD Γ hm 400 (by kernel_rfl) ?_)); (conv => whnf)))))
    refine G_next [] (by omega) ⟨⟨rfl, rfl, congrArg (fun z => SV.val (.int .i64 z)) ?_, rfl, congrArg (fun z => SV.val (.int .i64 z)) ?_, rfl, trivial⟩, trivial, rfl, rfl⟩
    · rw [hp, hs]; omega
    · omega
  have hjl : j = l.length / 2 := by
    have := of_decide_eq_false h
    omega
  have hpar : ¬ bits .and .i64 (l.length : Int) 1 = 1 := by
    have := bits_and_i64_nat l.length 1 (by omega) (by decide)
    rw [show ((1 : Nat) : Int) = 1 from rfl] at this
    rw [this, Nat.and_one_is_mod, h2]
    decide
  have hd := downS (wsum l j) (by omega)
  rw [hjl] at hd ⊢
  clear hjl
  (((first | (refine run Γ hm 400 ?_) | (refine runD Γ hm 400 (by kernel_rfl) ?_)); (conv => whnf)); repeat (first | (refine ⟨fun (h : false = true) => (Bool.false_ne_true h).elim, fun _ => ?_⟩; ((first | (refine run Γ hm 400 ?_) | (refine runD Γ hm 400 (by kernel_rfl) ?_)); (conv => whnf))) | (refine ⟨fun _ => ?_, fun (h : true = false) => (Bool.false_ne_true h.symm).elim⟩; ((first | (refine run Γ hm 400 ?_) | (refine runD Γ hm 400 (by kernel_rfl) ?_)); (conv => whnf)))))
  refine ⟨fun h => absurd (of_decide_eq_true h) hpar, fun _ => ?_⟩
  (((first | (refine run Γ hm 400 ?_) | (refine runD Γ hm 400 (by kernel_rfl) ?_)); (conv => whnf)); repeat (first | (refine ⟨fun (h : false = true) => (Bool.false_ne_true h).elim, fun _ => ?_⟩; ((first | (refine run Γ hm 400 ?_) | (refine runD Γ hm 400 (by kernel_rfl) ?_)); (conv => whnf))) | (refine ⟨fun _ => ?_, fun (h : true = false) => (Bool.false_ne_true h.symm).elim⟩; ((first | (refine run Γ hm 400 ?_) | (refine runD Γ hm 400 (by kernel_rfl) ?_)); (conv => whnf)))))
  refine call0 hd F100 rfl rfl rfl rfl rfl ?_
  (((first | (refine run Γ hm 400 ?_) | (refine runD Γ hm 400 (by kernel_rfl) ?_)); (conv => whnf)); repeat (first | (refine ⟨fun (h : false = true) => (Bool.false_ne_true h).elim, fun _ => ?_⟩; ((first | (refine run Γ hm 400 ?_) | (refine runD Γ hm 400 (by kernel_rfl) ?_)); (conv => whnf))) | (refine ⟨fun _ => ?_, fun (h : true = false) => (Bool.false_ne_true h.symm).elim⟩; ((first | (refine run Γ hm 400 ?_) | (refine runD Γ hm 400 (by kernel_rfl) ?_)); (conv => whnf)))))
  exact done0 rfl (.cons .tmp .nil) rfl rfl

theorem sumOfS (l : List UInt8) (hl : l.length < 100000) (h2 : l.length % 2 = 0) : Sy.Spec Try.prog 91 [.sl 1 byteSV l] [] (intSV (sumOf l)) [] := contract Γ hm 100 F91 Try.ntmps91 rfl fun F hF => by
  have ha := sumAddS l hl h2
  have hle := foldN_le (wsum l (l.length / 2))
  ((conv => whnf); repeat (first | (refine ⟨fun (h : false = true) => (Bool.false_ne_true h).elim, fun _ => ?_⟩; ((first | (refine run Γ hm 400 ?_) | (refine runD Γ hm 400 (by kernel_rfl) ?_)); (conv => whnf))) | (refine ⟨fun _ => ?_, fun (h : true = false) => (Bool.false_ne_true h.symm).elim⟩; ((first | (refine run Γ hm 400 ?_) | (refine runD Γ hm 400 (by kernel_rfl) ?_)); (conv => whnf)))))
  refine call0 ha F98 rfl rfl rfl rfl rfl ?_
  (((first | (refine run Γ hm 400 ?_) | (refine runD Γ hm 400 (by kernel_rfl) ?_)); (conv => whnf)); repeat (first | (refine ⟨fun (h : false = true) => (Bool.false_ne_true h).elim, fun _ => ?_⟩; ((first | (refine run Γ hm 400 ?_) | (refine runD Γ hm 400 (by kernel_rfl) ?_)); (conv => whnf))) | (refine ⟨fun _ => ?_, fun (h : true = false) => (Bool.false_ne_true h.symm).elim⟩; ((first | (refine run Γ hm 400 ?_) | (refine runD Γ hm 400 (by kernel_rfl) ?_)); (conv => whnf)))))
  refine ⟨by unfold I64; omega, ?_⟩
  ((conv => whnf); repeat (first | (refine ⟨fun (h : false = true) => (Bool.false_ne_true h).elim, fun _ => ?_⟩; ((first | (refine run Γ hm 400 ?_) | (refine runD Γ hm 400 (by kernel_rfl) ?_)); (conv => whnf))) | (refine ⟨fun _ => ?_, fun (h : true = false) => (Bool.false_ne_true h.symm).elim⟩; ((first | (refine run Γ hm 400 ?_) | (refine runD Γ hm 400 (by kernel_rfl) ?_)); (conv => whnf)))))
  refine done0 rfl (.cons .tmp .nil) ?_ rfl
  refine congrArg intSV ?_
  rw [sumOf]
  omega

theorem refSumS (l : List UInt8) (hl : l.length < 100000) (h2 : l.length % 2 = 0) : Sy.Spec Try.prog 99 [.sl 1 byteSV l] [] (intSV (foldN (wsum l (l.length / 2)))) [] := contract Γ hm 100 F99 Try.ntmps99 rfl fun F hF => by
  ((conv => whnf); repeat (first | (refine ⟨fun (h : false = true) => (Bool.false_ne_true h).elim, fun _ => ?_⟩; ((first | (refine run Γ hm 400 ?_) | (refine runD Γ hm 400 (by kernel_rfl) ?_)); (conv => whnf))) | (refine ⟨fun _ => ?_, fun (h : true = false) => (Bool.false_ne_true h.symm).elim⟩; ((first | (refine run Γ hm 400 ?_) | (refine runD Γ hm 400 (by kernel_rfl) ?_)); (conv => whnf)))))
  refine G_count (l.length / 2) (fun j => [(0, .sl 1 byteSV l), (3, intSV (foldN (wsum l j))), (4, intSV (2 * (j : Int)))]) (fun _ => []) [] ⟨⟨rfl, rfl, rfl, rfl, rfl, rfl, trivial⟩, trivial, rfl, rfl⟩ ?_
  intro j hj
  have hw := foldN_le (wsum l j)
  (((first | (refine run Γ hm 400 ?_) | (refine runD Γ hm 400 (by kernel_rfl) ?_)); (conv => whnf)); repeat (first | (refine ⟨fun (h : false = true) => (Bool.false_ne_true h).elim, fun _ => ?_⟩; ((first | (refine run Γ hm 400 ?_) | (refine runD Γ hm 400 (by kernel_rfl) ?_)); (conv => whnf))) | (refine ⟨fun _ => ?_, fun (h : true = false) => (Bool.false_ne_true h.symm).elim⟩; ((first | (refine run Γ hm 400 ?_) | (refine runD Γ hm 400 (by kernel_rfl) ?_)); (conv => whnf)))))
  refine ⟨fun h => ?_, fun h => ?_⟩
  · have hlt0 : 2 * j < l.length := by have := of_decide_eq_true h; omega
    have hlt : 2 * j + 1 < l.length := by omega
    have hb1 := (l[2 * j]'(by omega)).toNat_lt
    have hb2 := (l[2 * j + 1]'hlt).toNat_lt
    have hs : foldN (wsum l (j + 1)) = if 65535 < foldN (wsum l j) + ((l[2 * j]'(by omega)).toNat * 256 + (l[2 * j + 1]'hlt).toNat) then foldN (wsum l j) + ((l[2 * j]'(by omega)).toNat * 256 + (l[2 * j + 1]'hlt).toNat) - 65535 else foldN (wsum l j) + ((l[2 * j]'(by omega)).toNat * 256 + (l[2 * j + 1]'hlt).toNat) := by
      rw [wsum, getD_r (show 2 * j < l.length by omega), getD_r hlt, foldN_add _ _ (by omega)]
    have e1 : l[(2 * (j : Int)).toNat]'(by omega) = l[2 * j]'(by omega) := by congr 1
    have e2 : l[(2 * (j : Int) + 1).toNat]'(by omega) = l[2 * j + 1]'hlt := by congr 1
    obtain ⟨x, hx⟩ : ∃ x, l[2 * j]'(by omega) = x := ⟨_, rfl⟩
    obtain ⟨y, hy⟩ : ∃ y, l[2 * j + 1]'hlt = y := ⟨_, rfl⟩
    rw [hx] at e1 hs hb1
    rw [hy] at e2 hs hb2
    have w1 : IntKind.i64.wrap (x.toNat : Int) = (x.toNat : Int) := by rw [IntKind.wrap_i64]; omega
    have w2 : IntKind.i64.wrap (y.toNat : Int) = (y.toNat : Int) := by rw [IntKind.wrap_i64]; omega
    (((first | (refine run Γ hm 400 ?_) | (refine runD Γ hm 400 (by kernel_rfl) ?_)); (conv => whnf)); repeat (first | (refine ⟨fun (h : false = true) => (Bool.false_ne_true h).elim, fun _ => ?_⟩; ((first | (refine run Γ hm 400 ?_) | (refine runD Γ hm 400 (by kernel_rfl) ?_)); (conv => whnf))) | (refine ⟨fun _ => ?_, fun (h : true = false) => (Bool.false_ne_true h.symm).elim⟩; ((first | (refine run Γ hm 400 ?_) | (refine runD Γ hm 400 (by kernel_rfl) ?_)); (conv => whnf)))))
    refine ⟨rfl, by omega, by omega, ?_⟩
    rw [e1]
    ((conv => whnf); repeat (first | (refine ⟨fun (h : false = true) => (Bool.false_ne_true h).elim, fun _ => ?_⟩; ((first | (refine run Γ hm 400 ?_) | (refine runD Γ hm 400 (by kernel_rfl) ?_)); (conv => whnf))) | (refine ⟨fun _ => ?_, fun (h : true = false) => (Bool.false_ne_true h.symm).elim⟩; ((first | (refine run Γ hm 400 ?_) | (refine runD Γ hm 400 (by kernel_rfl) ?_)); (conv => whnf)))))
    rw [w1]
    refine ⟨by unfold I64; omega, ?_⟩
    ((conv => whnf); repeat (first | (refine ⟨fun (h : false = true) => (Bool.false_ne_true h).elim, fun _ => ?_⟩; ((first | (refine run Γ hm 400 ?_) | (refine runD Γ hm 400 (by kernel_rfl) ?_)); (conv => whnf))) | (refine ⟨fun _ => ?_, fun (h : true = false) => (Bool.false_ne_true h.symm).elim⟩; ((first | (refine run Γ hm 400 ?_) | (refine runD Γ hm 400 (by kernel_rfl) ?_)); (conv => whnf)))))
    refine ⟨by unfold I64; omega, ?_⟩
    ((conv => whnf); repeat (first | (refine ⟨fun (h : false = true) => (Bool.false_ne_true h).elim, fun _ => ?_⟩; ((first | (refine run Γ hm 400 ?_) | (refine runD Γ hm 400 (by kernel_rfl) ?_)); (conv => whnf))) | (refine ⟨fun _ => ?_, fun (h : true = false) => (Bool.false_ne_true h.symm).elim⟩; ((first | (refine run Γ hm 400 ?_) | (refine runD Γ hm 400 (by kernel_rfl) ?_)); (conv => whnf)))))
    refine ⟨fun h4 => ?_, fun h4 => absurd (of_decide_eq_false h4) (by omega)⟩
    (((first | (refine run Γ hm 400 ?_) | (refine runD Γ hm 400 (by kernel_rfl) ?_)); (conv => whnf)); repeat (first | (refine ⟨fun (h : false = true) => (Bool.false_ne_true h).elim, fun _ => ?_⟩; ((first | (refine run Γ hm 400 ?_) | (refine runD Γ hm 400 (by kernel_rfl) ?_)); (conv => whnf))) | (refine ⟨fun _ => ?_, fun (h : true = false) => (Bool.false_ne_true h.symm).elim⟩; ((first | (refine run Γ hm 400 ?_) | (refine runD Γ hm 400 (by kernel_rfl) ?_)); (conv => whnf)))))
    refine ⟨by unfold I64; omega, ?_⟩
    ((conv => whnf); repeat (first | (refine ⟨fun (h : false = true) => (Bool.false_ne_true h).elim, fun _ => ?_⟩; ((first | (refine run Γ hm 400 ?_) | (refine runD Γ hm 400 (by kernel_rfl) ?_)); (conv => whnf))) | (refine ⟨fun _ => ?_, fun (h : true = false) => (Bool.false_ne_true h.symm).elim⟩; ((first | (refine run Γ hm 400 ?_) | (refine runD Γ hm 400 (by kernel_rfl) ?_)); (conv => whnf)))))
    refine ⟨rfl, by omega, by omega, ?_⟩
    rw [e2]
    ((conv => whnf); repeat (first | (refine ⟨fun (h : false = true) => (Bool.false_ne_true h).elim, fun _ => ?_⟩; ((first | (refine run Γ hm 400 ?_) | (refine runD Γ hm 400 (by kernel_rfl) ?_)); (conv => whnf))) | (refine ⟨fun _ => ?_, fun (h : true = false) => (Bool.false_ne_true h.symm).elim⟩; ((first | (refine run Γ hm 400 ?_) | (refine runD Γ hm 400 (by kernel_rfl) ?_)); (conv => whnf)))))
    rw [w2]
    refine ⟨by unfold I64; omega, ?_⟩
    ((conv => whnf); repeat (first | (refine ⟨fun (h : false = true) => (Bool.false_ne_true h).elim, fun _ => ?_⟩; ((first | (refine run Γ hm 400 ?_) | (refine runD Γ hm 400 (by kernel_rfl) ?_)); (conv => whnf))) | (refine ⟨fun _ => ?_, fun (h : true = false) => (Bool.false_ne_true h.symm).elim⟩; ((first | (refine run Γ hm 400 ?_) | (refine runD Γ hm 400 (by kernel_rfl) ?_)); (conv => whnf)))))
    refine ⟨by unfold I64; omega, ?_⟩
    ((conv => whnf); repeat (first | (refine ⟨fun (h : false = true) => (Bool.false_ne_true h).elim, fun _ => ?_⟩; ((first | (refine run Γ hm 400 ?_) | (refine runD Γ hm 400 (by kernel_rfl) ?_)); (conv => whnf))) | (refine ⟨fun _ => ?_, fun (h : true = false) => (Bool.false_ne_true h.symm).elim⟩; ((first | (refine run Γ hm 400 ?_) | (refine runD Γ hm 400 (by kernel_rfl) ?_)); (conv => whnf)))))
    refine ⟨fun h5 => ?_, fun h5 => ?_⟩
    · have h5 := of_decide_eq_true h5
      rw [if_pos (by omega)] at hs
      (((first | (refine run Γ hm 400 ?_) | (refine runD Γ hm 400 (by kernel_rfl) ?_)); (conv => whnf)); repeat (first | (refine ⟨fun (h : false = true) => (Bool.false_ne_true h).elim, fun _ => ?_⟩; ((first | (refine run Γ hm 400 ?_) | (refine runD Γ hm 400 (by kernel_rfl) ?_)); (conv => whnf))) | (refine ⟨fun _ => ?_, fun (h : true = false) => (Bool.false_ne_true h.symm).elim⟩; ((first | (refine run Γ hm 400 ?_) | (refine runD Γ hm 400 (by kernel_rfl) ?_)); (conv => whnf)))))
      refine ⟨by unfold I64; omega, ?_⟩
      ((conv => whnf); repeat (first | (refine ⟨fun (h : false = true) => (Bool.false_ne_true h).elim, fun _ => ?_⟩; ((first | (refine run Γ hm 400 ?_) | (refine runD Γ hm 400 (by kernel_rfl) ?_)); (conv => whnf))) | (refine ⟨fun _ => ?_, fun (h : true = false) => (Bool.false_ne_true h.symm).elim⟩; ((first | (refine run Γ hm 400 ?_) | (refine runD Γ hm 400 (by kernel_rfl) ?_)); (conv => whnf)))))
      refine ⟨by unfold I64; omega, ?_⟩
      ((conv => whnf); repeat (first | (refine ⟨fun (h : false = true) => (Bool.false_ne_true h).elim, fun _ => ?_⟩; ((first | (refine run Γ hm 400 ?_) | (refine runD Γ hm 400 (by kernel_rfl) ?_)); (conv => whnf))) | (refine ⟨fun _ => ?_, fun (h : true = false) => (Bool.false_ne_true h.symm).elim⟩; ((first | (refine run Γ hm 400 ?_) | (refine runD Γ hm 400 (by kernel_rfl) ?_)); (conv => whnf)))))
      refine G_next [] (by omega) ⟨⟨rfl, rfl, congrArg (fun z => SV.val (.int .i64 z)) ?_, rfl, congrArg (fun z => SV.val (.int .i64 z)) ?_, rfl, trivial⟩, trivial, rfl, rfl⟩
      · rw [hs]; omega
      · omega
    · have h5 := of_decide_eq_false h5
      rw [if_neg (by omega)] at hs
      (((first | (refine run Γ hm 400 ?_) | (refine runD Γ hm 400 (by kernel_rfl) ?_)); (conv => whnf)); repeat (first | (refine ⟨fun (h : false = true) => (Bool.false_ne_true h).elim, fun _ => ?_⟩; ((first | (refine run Γ hm 400 ?_) | (refine runD Γ hm 400 (by kernel_rfl) ?_)); (conv => whnf))) | (refine ⟨fun _ => ?_, fun (h : true = false) => (Bool.false_ne_true h.symm).elim⟩; ((first | (refine run Γ hm 400 ?_) | (refine runD Γ hm 400 (by kernel_rfl) ?_)); (conv => whnf)))))
      refine ⟨by unfold I64; omega, ?_⟩
      ((conv => whnf); repeat (first | (refine ⟨fun (h : false = true) => (Bool.false_ne_true h).elim, fun _ => ?_⟩; ((first | (refine run Γ hm 400 ?_) | (refine runD Γ hm 400 (by kernel_rfl) ?_)); (conv => whnf))) | (refine ⟨fun _ => ?_, fun (h : true = false) => (Bool.false_ne_true h.symm).elim⟩; ((first | (refine run Γ hm 400 ?_) | (refine runD Γ hm 400 (by kernel_rfl) ?_)); (conv => whnf)))))
      refine G_next [] (by omega) ⟨⟨rfl, rfl, congrArg (fun z => SV.val (.int .i64 z)) ?_, rfl, congrArg (fun z => SV.val (.int .i64 z)) ?_, rfl, trivial⟩, trivial, rfl, rfl⟩
      · rw [hs]; omega
      · omega
  · have hjl : j = l.length / 2 := by
      have := of_decide_eq_false h
      omega
    subst hjl
    (((first | (refine run Γ hm 400 ?_) | (refine runD Γ hm 400 (by kernel_rfl) ?_)); (conv => whnf)); repeat (first | (refine ⟨fun (h : false = true) => (Bool.false_ne_true h).elim, fun _ => ?_⟩; ((first | (refine run Γ hm 400 ?_) | (refine runD Γ hm 400 (by kernel_rfl) ?_)); (conv => whnf))) | (refine ⟨fun _ => ?_, fun (h : true = false) => (Bool.false_ne_true h.symm).elim⟩; ((first | (refine run Γ hm 400 ?_) | (refine runD Γ hm 400 (by kernel_rfl) ?_)); (conv => whnf)))))
    exact done0 rfl (.cons .tmp .nil) rfl rfl

theorem refSumOfS (l : List UInt8) (hl : l.length < 100000) (h2 : l.length % 2 = 0) : Sy.Spec Try.prog 95 [.sl 1 byteSV l] [] (intSV (sumOf l)) [] := contract Γ hm 100 F95 Try.ntmps95 rfl fun F hF => by
  have ha := refSumS l hl h2
  have hle := foldN_le (wsum l (l.length / 2))
  ((conv => whnf); repeat (first | (refine ⟨fun (h : false = true) => (Bool.false_ne_true h).elim, fun _ => ?_⟩; ((first | (refine run Γ hm 400 ?_) | (refine runD Γ hm 400 (by kernel_rfl) ?_)); (conv => whnf))) | (refine ⟨fun _ => ?_, fun (h : true = false) => (Bool.false_ne_true h.symm).elim⟩; ((first | (refine run Γ hm 400 ?_) | (refine runD Γ hm 400 (by kernel_rfl) ?_)); (conv => whnf)))))
  refine call0 ha F99 rfl rfl rfl rfl rfl ?_
  (((first | (refine run Γ hm 400 ?_) | (refine runD Γ hm 400 (by kernel_rfl) ?_)); (conv => whnf)); repeat (first | (refine ⟨fun (h : false = true) => (Bool.false_ne_true h).elim, fun _ => ?_⟩; ((first | (refine run Γ hm 400 ?_) | (refine runD Γ hm 400 (by kernel_rfl) ?_)); (conv => whnf))) | (refine ⟨fun _ => ?_, fun (h : true = false) => (Bool.false_ne_true h.symm).elim⟩; ((first | (refine run Γ hm 400 ?_) | (refine runD Γ hm 400 (by kernel_rfl) ?_)); (conv => whnf)))))
  refine ⟨by unfold I64; omega, ?_⟩
  ((conv => whnf); repeat (first | (refine ⟨fun (h : false = true) => (Bool.false_ne_true h).elim, fun _ => ?_⟩; ((first | (refine run Γ hm 400 ?_) | (refine runD Γ hm 400 (by kernel_rfl) ?_)); (conv => whnf))) | (refine ⟨fun _ => ?_, fun (h : true = false) => (Bool.false_ne_true h.symm).elim⟩; ((first | (refine run Γ hm 400 ?_) | (refine runD Γ hm 400 (by kernel_rfl) ?_)); (conv => whnf)))))
  refine done0 rfl (.cons .tmp .nil) ?_ rfl
  refine congrArg intSV ?_
  rw [sumOf]
  omega
end Go.Sy.Ytnccojbdjjnoiaa
