/-
  Contracts: bytes of numbers, frames put (mac, palingref01, ether, palingref04). Contracts (bpdu): numbers of bytes, addresses taken, frames taken. Contracts (bpdu): ids, right messages, numbers put.
-/
import Derived.Test.YthbgklhegccckaaGreatC5
import Derived.Laws.Bits64b
import Derived.Test.YthbgklhegccckaaGreatC7

namespace Go.Sy.YthbgklhegccckaaGreat
open Go.Proofs

attribute [local irreducible] Go.Sy.G Go.Sy.DR
set_option maxRecDepth 100000
set_option maxHeartbeats 4000000

/-- mac.shift. -/
theorem shiftS (i : Int) (h0 : 0 ≤ i) (h5 : i ≤ 5) : Sy.Spec Tryz.prog 155 [intSV i] [] (u64SV (8 * (5 - i))) [] := contract Γ hm 100 F155 Tryz.ntmps155 rfl fun F hF => by
  ((conv => whnf); repeat ((first | refine aF ?_ | refine aT ?_); (first | refine run Γ hm 400 ?_ | refine runD Γ hm 400 (by kernel_rfl) ?_); conv => whnf))
  refine ⟨by unfold I64; omega, ?_⟩
  ((conv => whnf); repeat ((first | refine aF ?_ | refine aT ?_); (first | refine run Γ hm 400 ?_ | refine runD Γ hm 400 (by kernel_rfl) ?_); conv => whnf))
  refine ⟨by unfold I64; omega, ?_⟩
  ((conv => whnf); repeat ((first | refine aF ?_ | refine aT ?_); (first | refine run Γ hm 400 ?_ | refine runD Γ hm 400 (by kernel_rfl) ?_); conv => whnf))
  refine done0 rfl (.cons .tmp .nil) (congrArg (fun z => SV.val (.int .u64 z)) ?_) rfl
  rw [IntKind.wrap_u64]
  omega

def be : Nat → Nat → List UInt8
  | 0, _ => []
  | k + 1, m => UInt8.ofNat (m / 256 ^ k) :: be k m

theorem be_length (m : Nat) : ∀ k, (be k m).length = k
  | 0 => rfl
  | k + 1 => by simp [be, be_length m k]

/-- The first j of k. -/
theorem be_take (m : Nat) : ∀ (k j : Nat) (h : j < k), (be k m).take (j + 1) = (be k m).take j ++ [UInt8.ofNat (m / 256 ^ (k - 1 - j))]
  | 0, j, h => by omega
  | k + 1, 0, h => by simp [be]
  | k + 1, j + 1, h => by
    have := be_take m k j (by omega)
    simp only [be, List.take_succ_cons, List.cons_append, this]
    rw [show k + 1 - 1 - (j + 1) = k - 1 - j by omega]

theorem shr_byte (m k : Nat) (hk : k ≤ 7) : IntKind.u8.wrap ((m : Int).fdiv (2 ^ (min (8 * (k : Int)).toNat IntKind.u64.bits))) = ((UInt8.ofNat (m / 256 ^ k)).toNat : Int) := by
  have h1 : min (8 * (k : Int)).toNat IntKind.u64.bits = 8 * k := by simp [IntKind.bits]; omega
  rw [h1, Int.fdiv_eq_ediv_of_nonneg _ (by exact Int.pow_nonneg (by decide)), IntKind.wrap_u8]
  have h2 : (2 : Int) ^ (8 * k) = ((256 ^ k : Nat) : Int) := by rw [Int.pow_mul]; simp
  rw [h2]
  simp

/-- mac.Put. -/
theorem put2 (l : List UInt8) (hl : l.length < 1000000) (m : Nat) : Sy.Spec Tryz.prog 143 [.osl 0, u64SV m] [(0, .row 1 byteSV l)] (.osl 1) [(0, .non), (1, .row 1 byteSV (l ++ be 6 m))] := contract Γ hm 100 F143 Tryz.ntmps143 rfl fun F hF => by
  ((conv => whnf); repeat ((first | refine aF ?_ | refine aT ?_); (first | refine run Γ hm 400 ?_ | refine runD Γ hm 400 (by kernel_rfl) ?_); conv => whnf))
  refine G_move 0 1 [0] rfl rfl (by decide) (by simp; rfl) ?_
  refine G_count 6 (fun j => [(0, .osl 1), (1, u64SV m), (6, intSV j)]) (fun j => [(0, .non), (1, .row 1 byteSV (l ++ (be 6 m).take j))]) [(0, 0), (1, 1)] ⟨⟨rfl, rfl, rfl, rfl, rfl, rfl, trivial⟩, ⟨.inl rfl, rfl, .inl (congrArg (Ob.row 1 byteSV) (List.append_nil l)), rfl, trivial⟩, rfl, rfl⟩ ?_
  intro j hj
  ((first | refine run Γ hm 400 ?_ | refine runD Γ hm 400 (by kernel_rfl) ?_); (conv => whnf); repeat ((first | refine aF ?_ | refine aT ?_); (first | refine run Γ hm 400 ?_ | refine runD Γ hm 400 (by kernel_rfl) ?_); conv => whnf))
  refine ⟨fun h => ?_, fun h => ?_⟩
  · have hlt : j < 6 := by have := of_decide_eq_true h; omega
    ((first | refine run Γ hm 400 ?_ | refine runD Γ hm 400 (by kernel_rfl) ?_); (conv => whnf); repeat ((first | refine aF ?_ | refine aT ?_); (first | refine run Γ hm 400 ?_ | refine runD Γ hm 400 (by kernel_rfl) ?_); conv => whnf))
    refine call0 (shiftS j (by omega) (by omega)) F155 rfl rfl rfl rfl rfl ?_
    ((first | refine run Γ hm 400 ?_ | refine runD Γ hm 400 (by kernel_rfl) ?_); (conv => whnf); repeat ((first | refine aF ?_ | refine aT ?_); (first | refine run Γ hm 400 ?_ | refine runD Γ hm 400 (by kernel_rfl) ?_); conv => whnf))
    refine ⟨by omega, ?_⟩
    ((conv => whnf); repeat ((first | refine aF ?_ | refine aT ?_); (first | refine run Γ hm 400 ?_ | refine runD Γ hm 400 (by kernel_rfl) ?_); conv => whnf))
    refine stepOp (good_appendT Γ.toTy 16 rfl rfl rfl rfl rfl (.row rfl) (.lit (l := [UInt8.ofNat (m / 256 ^ (5 - j))]) rfl ?_) (by simp) ?_ ?_) rfl rfl ?_
    · have := shr_byte m (5 - j) (by omega)
      rw [show ((5 - j : Nat) : Int) = 5 - (j : Int) by omega] at this
      simp only [List.map_cons, List.map_nil, byteSV, ← this]
    · simp [be_length]; omega
    · simp [be_length]; omega
    ((first | refine run Γ hm 400 ?_ | refine runD Γ hm 400 (by kernel_rfl) ?_); (conv => whnf); repeat ((first | refine aF ?_ | refine aT ?_); (first | refine run Γ hm 400 ?_ | refine runD Γ hm 400 (by kernel_rfl) ?_); conv => whnf))
    refine ⟨by unfold I64; omega, ?_⟩
    ((conv => whnf); repeat ((first | refine aF ?_ | refine aT ?_); (first | refine run Γ hm 400 ?_ | refine runD Γ hm 400 (by kernel_rfl) ?_); conv => whnf))
    exact G_next [(0, 0), (1, 16)] hlt ⟨⟨rfl, rfl, rfl, rfl, rfl, rfl, trivial⟩, ⟨.inl rfl, rfl, .inl (congrArg (Ob.row 1 byteSV) (by rw [be_take _ _ _ hlt, List.append_assoc])), rfl, trivial⟩, rfl, rfl⟩
  · have : j = 6 := by have := of_decide_eq_false h; omega
    subst this
    ((first | refine run Γ hm 400 ?_ | refine runD Γ hm 400 (by kernel_rfl) ?_); (conv => whnf); repeat ((first | refine aF ?_ | refine aT ?_); (first | refine run Γ hm 400 ?_ | refine runD Γ hm 400 (by kernel_rfl) ?_); conv => whnf))
    exact done rfl (.cons .tmp .nil) [(0, 0), (1, 1)] _ (fun _ h => h) rfl rfl ⟨trivial, ⟨.inl rfl, rfl, .inl rfl, rfl, trivial⟩, rfl, rfl⟩

/-- .. onto nothing. -/
theorem put2n (m : Nat) : Sy.Spec Tryz.prog 143 [.val (.slice none 0 0), u64SV m] [] (.osl 0) [(0, .row 1 byteSV (be 6 m))] := contract Γ hm 100 F143 Tryz.ntmps143 rfl fun F hF => by
  ((conv => whnf); repeat ((first | refine aF ?_ | refine aT ?_); (first | refine run Γ hm 400 ?_ | refine runD Γ hm 400 (by kernel_rfl) ?_); conv => whnf))
  refine G_adopt 0 1000 1 byteSV rfl rfl ?_
  refine G_count 6 (fun j => [(0, .osl 1000), (1, u64SV m), (6, intSV j)]) (fun j => [(1000, .row 1 byteSV ((be 6 m).take j))]) [] ⟨⟨rfl, rfl, rfl, rfl, rfl, rfl, trivial⟩, ⟨.inl rfl, rfl, trivial⟩, rfl, rfl⟩ ?_
  intro j hj
  ((first | refine run Γ hm 400 ?_ | refine runD Γ hm 400 (by kernel_rfl) ?_); (conv => whnf); repeat ((first | refine aF ?_ | refine aT ?_); (first | refine run Γ hm 400 ?_ | refine runD Γ hm 400 (by kernel_rfl) ?_); conv => whnf))
  refine ⟨fun h => ?_, fun h => ?_⟩
  · have hlt : j < 6 := by have := of_decide_eq_true h; omega
    ((first | refine run Γ hm 400 ?_ | refine runD Γ hm 400 (by kernel_rfl) ?_); (conv => whnf); repeat ((first | refine aF ?_ | refine aT ?_); (first | refine run Γ hm 400 ?_ | refine runD Γ hm 400 (by kernel_rfl) ?_); conv => whnf))
    refine call0 (shiftS j (by omega) (by omega)) F155 rfl rfl rfl rfl rfl ?_
    ((first | refine run Γ hm 400 ?_ | refine runD Γ hm 400 (by kernel_rfl) ?_); (conv => whnf); repeat ((first | refine aF ?_ | refine aT ?_); (first | refine run Γ hm 400 ?_ | refine runD Γ hm 400 (by kernel_rfl) ?_); conv => whnf))
    refine ⟨by omega, ?_⟩
    ((conv => whnf); repeat ((first | refine aF ?_ | refine aT ?_); (first | refine run Γ hm 400 ?_ | refine runD Γ hm 400 (by kernel_rfl) ?_); conv => whnf))
    refine stepOp (good_appendT Γ.toTy 16 rfl rfl rfl rfl rfl (.row rfl) (.lit (l := [UInt8.ofNat (m / 256 ^ (5 - j))]) rfl ?_) (by simp) ?_ ?_) rfl rfl ?_
    · have := shr_byte m (5 - j) (by omega)
      rw [show ((5 - j : Nat) : Int) = 5 - (j : Int) by omega] at this
      simp only [List.map_cons, List.map_nil, byteSV, ← this]
    · simp [be_length]; omega
    · simp [be_length]; omega
    ((first | refine run Γ hm 400 ?_ | refine runD Γ hm 400 (by kernel_rfl) ?_); (conv => whnf); repeat ((first | refine aF ?_ | refine aT ?_); (first | refine run Γ hm 400 ?_ | refine runD Γ hm 400 (by kernel_rfl) ?_); conv => whnf))
    refine ⟨by unfold I64; omega, ?_⟩
    ((conv => whnf); repeat ((first | refine aF ?_ | refine aT ?_); (first | refine run Γ hm 400 ?_ | refine runD Γ hm 400 (by kernel_rfl) ?_); conv => whnf))
    exact G_next [(1000, 16)] hlt ⟨⟨rfl, rfl, rfl, rfl, rfl, rfl, trivial⟩, ⟨.inl (congrArg (Ob.row 1 byteSV) (be_take _ _ _ hlt)), rfl, trivial⟩, rfl, rfl⟩
  · have : j = 6 := by have := of_decide_eq_false h; omega
    subst this
    ((first | refine run Γ hm 400 ?_ | refine runD Γ hm 400 (by kernel_rfl) ?_); (conv => whnf); repeat ((first | refine aF ?_ | refine aT ?_); (first | refine run Γ hm 400 ?_ | refine runD Γ hm 400 (by kernel_rfl) ?_); conv => whnf))
    exact done rfl (.cons .tmp .nil) [(0, 1000)] _ (fun _ h => h) rfl rfl ⟨trivial, ⟨.inl rfl, rfl, trivial⟩, rfl, rfl⟩

theorem div_pow (m k : Nat) : m / 256 ^ k / 256 = m / 256 ^ (k + 1) := by rw [Nat.div_div_eq_div_mul, Nat.pow_succ]

def frSV (d s : Nat) (t : Int) (body : List UInt8) : SV := .agg [u64SV d, u64SV s, intSV t, .sl 1 byteSV body]
def noFr : SV := .agg [u64SV 0, u64SV 0, intSV 0, .val (.slice none 0 0)]

def frame (d s t : Nat) (body : List UInt8) : List UInt8 := be 6 d ++ be 6 s ++ [UInt8.ofNat (t / 256), UInt8.ofNat t] ++ body

theorem two_bytes (t : Nat) : [UInt8.ofNat (t / 256), UInt8.ofNat t].map byteSV = [SV.val (.int .u8 (IntKind.u8.wrap ((t : Int).fdiv (2 ^ (min (Int.toNat 8) IntKind.i64.bits))))), SV.val (.int .u8 (IntKind.u8.wrap (t : Int)))] := by
  have h1 : IntKind.u8.wrap ((t : Int).fdiv (2 ^ (min (Int.toNat 8) IntKind.i64.bits))) = ((UInt8.ofNat (t / 256)).toNat : Int) := by
    show IntKind.u8.wrap ((t : Int).fdiv 256) = _
    rw [Int.fdiv_eq_ediv_of_nonneg _ (by decide), IntKind.wrap_u8]
    simp
  have h2 : IntKind.u8.wrap (t : Int) = ((UInt8.ofNat t).toNat : Int) := by
    rw [IntKind.wrap_u8]
    simp
  rw [h1, h2]
  rfl

theorem two_bytes2 (t : Nat) (ht : t ≤ 65535) : [UInt8.ofNat (t / 256), UInt8.ofNat t].map byteSV = [SV.val (.int .u8 (IntKind.u8.wrap (IntKind.i64.wrap ((t : Int).tdiv 256)))), SV.val (.int .u8 (IntKind.u8.wrap ((t : Int).tmod 256)))] := by
  have h1 : IntKind.u8.wrap (IntKind.i64.wrap ((t : Int).tdiv 256)) = ((UInt8.ofNat (t / 256)).toNat : Int) := by
    rw [Int.tdiv_eq_ediv_of_nonneg (by omega), IntKind.wrap_u8, IntKind.wrap_i64]
    simp
    omega
  have h2 : IntKind.u8.wrap ((t : Int).tmod 256) = ((UInt8.ofNat t).toNat : Int) := by
    rw [Int.tmod_eq_emod_of_nonneg (by omega), IntKind.wrap_u8]
    simp
  rw [h1, h2]
  rfl

theorem etherPut_bad (d s : Nat) (t : Int) (body : List UInt8) (hd : d < 281474976710656) (hs : 281474976710656 ≤ s) : Sy.Spec Tryz.prog 122 [frSV d s t body] [] (.tup [.val (.slice none 0 0), intSV 11]) [] := contract Γ hm 100 F122 Tryz.ntmps122 rfl fun F hF => by
  ((conv => whnf); repeat ((first | refine aF ?_ | refine aT ?_); (first | refine run Γ hm 400 ?_ | refine runD Γ hm 400 (by kernel_rfl) ?_); conv => whnf))
  refine ⟨fun h => absurd (of_decide_eq_true h) (by omega), fun _ => ?_⟩
  ((first | refine run Γ hm 400 ?_ | refine runD Γ hm 400 (by kernel_rfl) ?_); (conv => whnf); repeat ((first | refine aF ?_ | refine aT ?_); (first | refine run Γ hm 400 ?_ | refine runD Γ hm 400 (by kernel_rfl) ?_); conv => whnf))
  refine ⟨fun _ => ?_, fun h => absurd (of_decide_eq_false h) (by omega)⟩
  ((first | refine run Γ hm 400 ?_ | refine runD Γ hm 400 (by kernel_rfl) ?_); (conv => whnf); repeat ((first | refine aF ?_ | refine aT ?_); (first | refine run Γ hm 400 ?_ | refine runD Γ hm 400 (by kernel_rfl) ?_); conv => whnf))
  exact done0 rfl (.cons .tmp (.cons .tmp .nil)) rfl rfl

theorem etherPut_ok (d s t : Nat) (body : List UInt8) (hd : d < 281474976710656) (hs : s < 281474976710656) (ht : t ≤ 65535) (hb : body.length ≤ 1504) : Sy.Spec Tryz.prog 122 [frSV d s t body] [] (.tup [.osl 0, intSV 0]) [(0, .row 1 byteSV (frame d s t body))] := contract Γ hm 100 F122 Tryz.ntmps122 rfl fun F hF => by
  ((conv => whnf); repeat ((first | refine aF ?_ | refine aT ?_); (first | refine run Γ hm 400 ?_ | refine runD Γ hm 400 (by kernel_rfl) ?_); conv => whnf))
  refine ⟨fun h => absurd (of_decide_eq_true h) (by omega), fun _ => ?_⟩
  ((first | refine run Γ hm 400 ?_ | refine runD Γ hm 400 (by kernel_rfl) ?_); (conv => whnf); repeat ((first | refine aF ?_ | refine aT ?_); (first | refine run Γ hm 400 ?_ | refine runD Γ hm 400 (by kernel_rfl) ?_); conv => whnf))
  refine ⟨fun h => absurd (of_decide_eq_true h) (by omega), fun _ => ?_⟩
  ((first | refine run Γ hm 400 ?_ | refine runD Γ hm 400 (by kernel_rfl) ?_); (conv => whnf); repeat ((first | refine aF ?_ | refine aT ?_); (first | refine run Γ hm 400 ?_ | refine runD Γ hm 400 (by kernel_rfl) ?_); conv => whnf))
  refine ⟨fun h => absurd (of_decide_eq_true h) (by omega), fun _ => ?_⟩
  ((first | refine run Γ hm 400 ?_ | refine runD Γ hm 400 (by kernel_rfl) ?_); (conv => whnf); repeat ((first | refine aF ?_ | refine aT ?_); (first | refine run Γ hm 400 ?_ | refine runD Γ hm 400 (by kernel_rfl) ?_); conv => whnf))
  refine ⟨fun h => absurd (of_decide_eq_true h) (by omega), fun _ => ?_⟩
  ((first | refine run Γ hm 400 ?_ | refine runD Γ hm 400 (by kernel_rfl) ?_); (conv => whnf); repeat ((first | refine aF ?_ | refine aT ?_); (first | refine run Γ hm 400 ?_ | refine runD Γ hm 400 (by kernel_rfl) ?_); conv => whnf))
  refine stepD (good_call [(0, 31)] rfl F143 (put2n d) rfl trivial rfl ⟨.inr rfl, trivial⟩) (by kernel_rfl) rfl ?_
  ((first | refine run Γ hm 400 ?_ | refine runD Γ hm 400 (by kernel_rfl) ?_); (conv => whnf); repeat ((first | refine aF ?_ | refine aT ?_); (first | refine run Γ hm 400 ?_ | refine runD Γ hm 400 (by kernel_rfl) ?_); conv => whnf))
  refine stepD (good_call [(0, 31), (1, 34)] rfl F143 (put2 (be 6 d) (by simp [be_length]) s) rfl ⟨rfl, trivial⟩ rfl ⟨.inl rfl, .inr rfl, trivial⟩) (by kernel_rfl) rfl ?_
  ((first | refine run Γ hm 400 ?_ | refine runD Γ hm 400 (by kernel_rfl) ?_); (conv => whnf); repeat ((first | refine aF ?_ | refine aT ?_); (first | refine run Γ hm 400 ?_ | refine runD Γ hm 400 (by kernel_rfl) ?_); conv => whnf))
  refine ⟨by kernel_rfl, ?_⟩
  ((conv => whnf); repeat ((first | refine aF ?_ | refine aT ?_); (first | refine run Γ hm 400 ?_ | refine runD Γ hm 400 (by kernel_rfl) ?_); conv => whnf))
  refine ⟨by decide, ?_⟩
  ((conv => whnf); repeat ((first | refine aF ?_ | refine aT ?_); (first | refine run Γ hm 400 ?_ | refine runD Γ hm 400 (by kernel_rfl) ?_); conv => whnf))
  refine stepD (good_appendT Γ.toTy 44 rfl rfl rfl rfl rfl (.row rfl) (.lit (l := [UInt8.ofNat (t / 256), UInt8.ofNat t]) rfl (two_bytes t)) (by decide) ?_ ?_) (by kernel_rfl) rfl ?_
  · simp [be_length]
  · simp [be_length]
  ((first | refine run Γ hm 400 ?_ | refine runD Γ hm 400 (by kernel_rfl) ?_); (conv => whnf); repeat ((first | refine aF ?_ | refine aT ?_); (first | refine run Γ hm 400 ?_ | refine runD Γ hm 400 (by kernel_rfl) ?_); conv => whnf))
  refine stepD (good_appendT Γ.toTy 47 rfl rfl rfl rfl rfl (.row rfl) .sl (by decide) ?_ ?_) (by kernel_rfl) rfl ?_
  · simp [be_length]; omega
  · simp [be_length]; omega
  ((first | refine run Γ hm 400 ?_ | refine runD Γ hm 400 (by kernel_rfl) ?_); (conv => whnf); repeat ((first | refine aF ?_ | refine aT ?_); (first | refine run Γ hm 400 ?_ | refine runD Γ hm 400 (by kernel_rfl) ?_); conv => whnf))
  refine ⟨by kernel_rfl, ?_⟩
  ((conv => whnf); repeat ((first | refine aF ?_ | refine aT ?_); (first | refine run Γ hm 400 ?_ | refine runD Γ hm 400 (by kernel_rfl) ?_); conv => whnf))
  exact done rfl (.cons .tmp (.cons .tmp .nil)) [(0, 47)] _ (fun _ h => h) rfl rfl ⟨trivial, ⟨.inl rfl, rfl, trivial⟩, rfl, rfl⟩
end Go.Sy.YthbgklhegccckaaGreat

namespace Go.Sy.YthbgklhegccckaaGreat
open Go.Proofs

attribute [local irreducible] Go.Sy.G Go.Sy.DR
set_option maxRecDepth 100000
set_option maxHeartbeats 4000000

def num (l : List UInt8) : Nat := l.foldl (fun n b => n * 256 + b.toNat) 0

theorem num_snoc (l : List UInt8) (b : UInt8) : num (l ++ [b]) = num l * 256 + b.toNat := by simp [num]

theorem num_take (l : List UInt8) (i : Nat) (h : i < l.length) : num (l.take (i + 1)) = num (l.take i) * 256 + l[i].toNat := by
  rw [List.take_succ_eq_append_getElem h, num_snoc]

theorem num_lt : ∀ (l : List UInt8), num l < 256 ^ l.length := by
  have key : ∀ (l : List UInt8) (n k : Nat), n < 256 ^ k → l.foldl (fun n b => n * 256 + b.toNat) n < 256 ^ (k + l.length) := by
    intro l
    induction l with
    | nil => intro n k h; simpa using h
    | cons b l ih =>
      intro n k h
      have hb : b.toNat < 256 := b.toNat_lt
      have := ih (n * 256 + b.toNat) (k + 1) (by rw [Nat.pow_succ]; omega)
      simp only [List.foldl_cons, List.length_cons]
      rw [show k + (l.length + 1) = k + 1 + l.length by omega]
      exact this
  intro l
  have := key l 0 0 (by simp)
  simpa [num] using this

theorem num6_lt (l : List UInt8) : num (l.take 6) < 281474976710656 := by
  have := num_lt (l.take 6)
  have h2 : (l.take 6).length ≤ 6 := by simp; omega
  have h3 := Nat.pow_le_pow_right (n := 256) (by omega) h2
  omega

theorem or_shift (n : Nat) (b : UInt8) (hn : n < 72057594037927936) : bits .or .u64 (IntKind.u64.wrap ((n : Int) * 256)) (b.toNat : Int) = ((n * 256 + b.toNat : Nat) : Int) := by
  have hb := b.toNat_lt
  rw [IntKind.wrap_u64, Int.emod_eq_of_lt (by omega) (by omega)]
  have : ((n : Int) * 256) = ((n * 256 : Nat) : Int) := by omega
  rw [this, bits_or_u64_nat _ _ (by omega) (by omega)]
  congr 1
  have h := Nat.two_pow_add_eq_or_of_lt (i := 8) (b := b.toNat) (by omega) n
  rw [Nat.mul_comm n 256]
  exact h.symm

theorem take2 (l : List UInt8) (hl : l.length < 1000000) (i : Nat) (hi : i + 6 ≤ l.length) : Sy.Spec Tryz.prog 114 [.sl 1 byteSV l, intSV i] [] (.tup [u64SV (num ((l.drop i).take 6)), boolSV true]) [] := contract Γ hm 100 F114 Tryz.ntmps114 rfl fun F hF => by
  ((first | refine run Γ hm 400 ?_ | refine runD Γ hm 400 (by kernel_rfl) ?_ | skip); (conv => whnf); repeat ((first | refine aF ?_ | refine aT ?_); (first | refine run Γ hm 400 ?_ | refine runD Γ hm 400 (by kernel_rfl) ?_); conv => whnf))
  refine ⟨by unfold I64; omega, ?_⟩
  ((first | refine run Γ hm 400 ?_ | refine runD Γ hm 400 (by kernel_rfl) ?_ | skip); (conv => whnf); repeat ((first | refine aF ?_ | refine aT ?_); (first | refine run Γ hm 400 ?_ | refine runD Γ hm 400 (by kernel_rfl) ?_); conv => whnf))
  refine ⟨fun h => absurd (of_decide_eq_true h) (by omega), fun _ => ?_⟩
  ((first | refine run Γ hm 400 ?_ | refine runD Γ hm 400 (by kernel_rfl) ?_ | skip); (conv => whnf); repeat ((first | refine aF ?_ | refine aT ?_); (first | refine run Γ hm 400 ?_ | refine runD Γ hm 400 (by kernel_rfl) ?_); conv => whnf))
  refine G_count 6 (fun j => [(0, .sl 1 byteSV l), (1, intSV i), (6, u64SV (num ((l.drop i).take j))), (17, intSV j)]) (fun _ => []) [] ⟨⟨rfl, rfl, rfl, rfl, rfl, rfl, rfl, rfl, trivial⟩, trivial, rfl, rfl⟩ ?_
  intro j hj
  ((first | refine run Γ hm 400 ?_ | refine runD Γ hm 400 (by kernel_rfl) ?_ | skip); (conv => whnf); repeat ((first | refine aF ?_ | refine aT ?_); (first | refine run Γ hm 400 ?_ | refine runD Γ hm 400 (by kernel_rfl) ?_); conv => whnf))
  refine ⟨fun h => ?_, fun h => ?_⟩
  · have hlt : j < 6 := by have := of_decide_eq_true h; omega
    ((first | refine run Γ hm 400 ?_ | refine runD Γ hm 400 (by kernel_rfl) ?_ | skip); (conv => whnf); repeat ((first | refine aF ?_ | refine aT ?_); (first | refine run Γ hm 400 ?_ | refine runD Γ hm 400 (by kernel_rfl) ?_); conv => whnf))
    refine ⟨by omega, ?_⟩
    ((first | refine run Γ hm 400 ?_ | refine runD Γ hm 400 (by kernel_rfl) ?_ | skip); (conv => whnf); repeat ((first | refine aF ?_ | refine aT ?_); (first | refine run Γ hm 400 ?_ | refine runD Γ hm 400 (by kernel_rfl) ?_); conv => whnf))
    refine ⟨by unfold I64; omega, ?_⟩
    ((first | refine run Γ hm 400 ?_ | refine runD Γ hm 400 (by kernel_rfl) ?_ | skip); (conv => whnf); repeat ((first | refine aF ?_ | refine aT ?_); (first | refine run Γ hm 400 ?_ | refine runD Γ hm 400 (by kernel_rfl) ?_); conv => whnf))
    refine ⟨rfl, by omega, by omega, ?_⟩
    ((first | refine run Γ hm 400 ?_ | refine runD Γ hm 400 (by kernel_rfl) ?_ | skip); (conv => whnf); repeat ((first | refine aF ?_ | refine aT ?_); (first | refine run Γ hm 400 ?_ | refine runD Γ hm 400 (by kernel_rfl) ?_); conv => whnf))
    refine ⟨by unfold I64; omega, ?_⟩
    ((first | refine run Γ hm 400 ?_ | refine runD Γ hm 400 (by kernel_rfl) ?_ | skip); (conv => whnf); repeat ((first | refine aF ?_ | refine aT ?_); (first | refine run Γ hm 400 ?_ | refine runD Γ hm 400 (by kernel_rfl) ?_); conv => whnf))
    refine G_next [] hlt ⟨⟨rfl, rfl, rfl, rfl, congrArg (fun z => SV.val (.int .u64 z)) ?_, rfl, rfl, rfl, trivial⟩, trivial, rfl, rfl⟩
    have h1 := num_take (l.drop i) j (by simp; omega)
    have h2 : num ((l.drop i).take j) < 281474976710656 := by
      have := num_lt ((l.drop i).take j)
      have h2 : ((l.drop i).take j).length ≤ 6 := by simp; omega
      have h3 := Nat.pow_le_pow_right (n := 256) (by omega) h2
      omega
    have h3 : (l.drop i)[j]'(by simp; omega) = l[((i : Int) + (j : Int)).toNat]'(by omega) := by
      rw [List.getElem_drop]
      congr 1
    rw [h1, h3, ← or_shift _ _ (by omega)]
    have h4 : IntKind.u64.wrap (l[((i : Int) + (j : Int)).toNat]'(by omega)).toNat = (l[((i : Int) + (j : Int)).toNat]'(by omega)).toNat := by
      have := (l[((i : Int) + (j : Int)).toNat]'(by omega)).toNat_lt
      rw [IntKind.wrap_u64]
      omega
    exact congrArg (bits .or .u64 _) h4.symm
  · have : j = 6 := by have := of_decide_eq_false h; omega
    subst this
    ((first | refine run Γ hm 400 ?_ | refine runD Γ hm 400 (by kernel_rfl) ?_ | skip); (conv => whnf); repeat ((first | refine aF ?_ | refine aT ?_); (first | refine run Γ hm 400 ?_ | refine runD Γ hm 400 (by kernel_rfl) ?_); conv => whnf))
    exact done0 rfl (.cons .tmp (.cons .tmp .nil)) rfl rfl

theorem bits_or_i64_nat (a b : Nat) (ha : a < 9223372036854775808) (hb : b < 9223372036854775808) :
    bits .or .i64 (a : Int) (b : Int) = ((a ||| b : Nat) : Int) := by
  have hx : a ||| b < 2 ^ 63 := Nat.or_lt_two_pow (by omega) (by omega)
  have h1 : (BitVec.ofInt 64 (a : Int)).toNat = a := by
    rw [BitVec.ofInt_natCast, BitVec.toNat_ofNat]; exact Nat.mod_eq_of_lt (by omega)
  have h2 : (BitVec.ofInt 64 (b : Int)).toNat = b := by
    rw [BitVec.ofInt_natCast, BitVec.toNat_ofNat]; exact Nat.mod_eq_of_lt (by omega)
  show IntKind.i64.wrap ((BitVec.ofInt 64 (a : Int) ||| BitVec.ofInt 64 (b : Int)).toNat : Int) = _
  rw [BitVec.toNat_or, h1, h2, IntKind.wrap_i64]
  omega

theorem wrap_byte (b : UInt8) : IntKind.i64.wrap (b.toNat : Int) = (b.toNat : Int) := by
  have := b.toNat_lt
  rw [IntKind.wrap_i64]
  omega

theorem or_i64 (a b : UInt8) : bits .or .i64 (IntKind.i64.wrap (IntKind.i64.wrap a.toNat * 2 ^ min (Int.toNat 8) IntKind.i64.bits)) (IntKind.i64.wrap b.toNat) = ((a.toNat * 256 + b.toNat : Nat) : Int) := by
  have h1 := a.toNat_lt
  have h2 := b.toNat_lt
  rw [wrap_byte, wrap_byte]
  have h3 : IntKind.i64.wrap ((a.toNat : Int) * 2 ^ min (Int.toNat 8) IntKind.i64.bits) = ((a.toNat * 256 : Nat) : Int) := by
    show IntKind.i64.wrap ((a.toNat : Int) * 256) = _
    rw [IntKind.wrap_i64]
    omega
  rw [h3, bits_or_i64_nat _ _ (by omega) (by omega)]
  congr 1
  have h := Nat.two_pow_add_eq_or_of_lt (i := 8) (b := b.toNat) (by omega) a.toNat
  rw [Nat.mul_comm a.toNat 256]
  exact h.symm

theorem etherTake_long (l : List UInt8) (h2 : 1518 < l.length) : Sy.Spec Tryz.prog 66 [.sl 1 byteSV l] [] (.tup [noFr, intSV 14]) [] := contract Γ hm 100 F66 Tryz.ntmps66 rfl fun F hF => by
  ((first | refine run Γ hm 400 ?_ | refine runD Γ hm 400 (by kernel_rfl) ?_ | skip); (conv => whnf); repeat ((first | refine aF ?_ | refine aT ?_); (first | refine run Γ hm 400 ?_ | refine runD Γ hm 400 (by kernel_rfl) ?_); conv => whnf))
  refine ⟨fun h => absurd (of_decide_eq_true h) (by omega), fun _ => ?_⟩
  ((first | refine run Γ hm 400 ?_ | refine runD Γ hm 400 (by kernel_rfl) ?_ | skip); (conv => whnf); repeat ((first | refine aF ?_ | refine aT ?_); (first | refine run Γ hm 400 ?_ | refine runD Γ hm 400 (by kernel_rfl) ?_); conv => whnf))
  refine ⟨fun _ => ?_, fun h => absurd (of_decide_eq_false h) (by omega)⟩
  ((first | refine run Γ hm 400 ?_ | refine runD Γ hm 400 (by kernel_rfl) ?_ | skip); (conv => whnf); repeat ((first | refine aF ?_ | refine aT ?_); (first | refine run Γ hm 400 ?_ | refine runD Γ hm 400 (by kernel_rfl) ?_); conv => whnf))
  exact done rfl (.cons (.cell rfl rfl rfl rfl) (.cons .tmp .nil)) [] [] (fun _ h => h) rfl rfl ⟨trivial, trivial, rfl, rfl⟩

theorem etherTake_short (l : List UInt8) (h : l.length < 14) : Sy.Spec Tryz.prog 66 [.sl 1 byteSV l] [] (.tup [noFr, intSV 10]) [] := contract Γ hm 100 F66 Tryz.ntmps66 rfl fun F hF => by
  ((first | refine run Γ hm 400 ?_ | refine runD Γ hm 400 (by kernel_rfl) ?_ | skip); (conv => whnf); repeat ((first | refine aF ?_ | refine aT ?_); (first | refine run Γ hm 400 ?_ | refine runD Γ hm 400 (by kernel_rfl) ?_); conv => whnf))
  refine ⟨fun _ => ?_, fun h => absurd (of_decide_eq_false h) (by omega)⟩
  ((first | refine run Γ hm 400 ?_ | refine runD Γ hm 400 (by kernel_rfl) ?_ | skip); (conv => whnf); repeat ((first | refine aF ?_ | refine aT ?_); (first | refine run Γ hm 400 ?_ | refine runD Γ hm 400 (by kernel_rfl) ?_); conv => whnf))
  exact done rfl (.cons (.cell rfl rfl rfl rfl) (.cons .tmp .nil)) [] [] (fun _ h => h) rfl rfl ⟨trivial, trivial, rfl, rfl⟩

theorem etherTake_ok (l : List UInt8) (h : 14 ≤ l.length) (h2 : l.length ≤ 1518) : Sy.Spec Tryz.prog 66 [.sl 1 byteSV l] [] (.tup [frSV (num (l.take 6)) (num ((l.drop 6).take 6)) (l[12].toNat * 256 + l[13].toNat : Nat) (l.drop 14), intSV 0]) [] := contract Γ hm 100 F66 Tryz.ntmps66 rfl fun F hF => by
  ((first | refine run Γ hm 400 ?_ | refine runD Γ hm 400 (by kernel_rfl) ?_ | skip); (conv => whnf); repeat ((first | refine aF ?_ | refine aT ?_); (first | refine run Γ hm 400 ?_ | refine runD Γ hm 400 (by kernel_rfl) ?_); conv => whnf))
  refine ⟨fun h => absurd (of_decide_eq_true h) (by omega), fun _ => ?_⟩
  ((first | refine run Γ hm 400 ?_ | refine runD Γ hm 400 (by kernel_rfl) ?_ | skip); (conv => whnf); repeat ((first | refine aF ?_ | refine aT ?_); (first | refine run Γ hm 400 ?_ | refine runD Γ hm 400 (by kernel_rfl) ?_); conv => whnf))
  refine ⟨fun h => absurd (of_decide_eq_true h) (by omega), fun _ => ?_⟩
  ((first | refine run Γ hm 400 ?_ | refine runD Γ hm 400 (by kernel_rfl) ?_ | skip); (conv => whnf); repeat ((first | refine aF ?_ | refine aT ?_); (first | refine run Γ hm 400 ?_ | refine runD Γ hm 400 (by kernel_rfl) ?_); conv => whnf))
  refine call0 (take2 l (by omega) 0 (by omega)) F114 rfl rfl rfl rfl rfl ?_
  ((first | refine run Γ hm 400 ?_ | refine runD Γ hm 400 (by kernel_rfl) ?_ | skip); (conv => whnf); repeat ((first | refine aF ?_ | refine aT ?_); (first | refine run Γ hm 400 ?_ | refine runD Γ hm 400 (by kernel_rfl) ?_); conv => whnf))
  refine call0 (take2 l (by omega) 6 (by omega)) F114 rfl rfl rfl rfl rfl ?_
  ((first | refine run Γ hm 400 ?_ | refine runD Γ hm 400 (by kernel_rfl) ?_ | skip); (conv => whnf); repeat ((first | refine aF ?_ | refine aT ?_); (first | refine run Γ hm 400 ?_ | refine runD Γ hm 400 (by kernel_rfl) ?_); conv => whnf))
  refine ⟨by unfold I64; omega, ?_⟩
  ((first | refine run Γ hm 400 ?_ | refine runD Γ hm 400 (by kernel_rfl) ?_ | skip); (conv => whnf); repeat ((first | refine aF ?_ | refine aT ?_); (first | refine run Γ hm 400 ?_ | refine runD Γ hm 400 (by kernel_rfl) ?_); conv => whnf))
  have hlen : (l.length : Int) - 14 = ((l.length - 14 : Nat) : Int) := by omega
  refine stepOp (good_makeSlice Γ.toTy (d := 32) (n := l.length - 14) byteSV 0 rfl rfl rfl rfl rfl rfl (congrArg (fun z => SV.val (.int .i64 z)) hlen) (congrArg (fun z => SV.val (.int .i64 z)) hlen) (by omega) (by omega) rfl rfl rfl) rfl rfl ?_
  ((first | refine run Γ hm 400 ?_ | refine runD Γ hm 400 (by kernel_rfl) ?_ | skip); (conv => whnf); repeat ((first | refine aF ?_ | refine aT ?_); (first | refine run Γ hm 400 ?_ | refine runD Γ hm 400 (by kernel_rfl) ?_); conv => whnf))
  refine stepOp (good_slice_sl Γ.toTy (lo := 14) (hi := l.length) rfl rfl rfl rfl (.inr ⟨_, _, rfl, rfl⟩) (.inl ⟨rfl, rfl⟩) (by omega) (by omega)) rfl rfl ?_
  ((first | refine run Γ hm 400 ?_ | refine runD Γ hm 400 (by kernel_rfl) ?_ | skip); (conv => whnf); repeat ((first | refine aF ?_ | refine aT ?_); (first | refine run Γ hm 400 ?_ | refine runD Γ hm 400 (by kernel_rfl) ?_); conv => whnf))
  refine stepOp (good_copy Γ.toTy rfl rfl rfl rfl rfl .sl) rfl rfl ?_
  refine G_data 32 rfl ?_
  have hb : ((l.take l.length).drop 14).take (List.replicate (l.length - 14) (0 : UInt8)).length ++ (List.replicate (l.length - 14) (0 : UInt8)).drop ((l.take l.length).drop 14).length = l.drop 14 := by simp; exact List.take_of_length_le (by simp)
  rw [hb]
  ((first | refine run Γ hm 400 ?_ | refine runD Γ hm 400 (by kernel_rfl) ?_ | skip); (conv => whnf); repeat ((first | refine aF ?_ | refine aT ?_); (first | refine run Γ hm 400 ?_ | refine runD Γ hm 400 (by kernel_rfl) ?_); conv => whnf))
  refine ⟨rfl, by omega, by omega, ?_⟩
  ((first | refine run Γ hm 400 ?_ | refine runD Γ hm 400 (by kernel_rfl) ?_ | skip); (conv => whnf); repeat ((first | refine aF ?_ | refine aT ?_); (first | refine run Γ hm 400 ?_ | refine runD Γ hm 400 (by kernel_rfl) ?_); conv => whnf))
  refine ⟨by omega, ?_⟩
  ((first | refine run Γ hm 400 ?_ | refine runD Γ hm 400 (by kernel_rfl) ?_ | skip); (conv => whnf); repeat ((first | refine aF ?_ | refine aT ?_); (first | refine run Γ hm 400 ?_ | refine runD Γ hm 400 (by kernel_rfl) ?_); conv => whnf))
  refine ⟨rfl, by omega, by omega, ?_⟩
  ((first | refine run Γ hm 400 ?_ | refine runD Γ hm 400 (by kernel_rfl) ?_ | skip); (conv => whnf); repeat ((first | refine aF ?_ | refine aT ?_); (first | refine run Γ hm 400 ?_ | refine runD Γ hm 400 (by kernel_rfl) ?_); conv => whnf))
  refine ⟨by kernel_rfl, ?_⟩
  ((first | refine run Γ hm 400 ?_ | refine runD Γ hm 400 (by kernel_rfl) ?_ | skip); (conv => whnf); repeat ((first | refine aF ?_ | refine aT ?_); (first | refine run Γ hm 400 ?_ | refine runD Γ hm 400 (by kernel_rfl) ?_); conv => whnf))
  refine done rfl (.cons (.cell rfl rfl rfl rfl) (.cons .tmp .nil)) [] [] (fun _ h => h) ?_ rfl ⟨trivial, trivial, rfl, rfl⟩
  exact congrArg (fun z => SV.tup [.agg [u64SV (num (l.take 6)), u64SV (num ((l.drop 6).take 6)), .val (.int .i64 z), .sl 1 byteSV (l.drop 14)], intSV 0]) (or_i64 l[12] l[13]).symm

end Go.Sy.YthbgklhegccckaaGreat

namespace Go.Sy.YthbgklhegccckaaGreat
open Go.Proofs

attribute [local irreducible] Go.Sy.G Go.Sy.DR
set_option maxRecDepth 100000
set_option maxHeartbeats 4000000

structure Msg where
  ch : Bool
  ak : Bool
  root : Nat
  bridge : Nat
  cost : Int
  port : Int
  age : Int
  mx : Int
  hello : Int
  wait : Int
  deriving DecidableEq

def msgSV (m : Msg) : SV := .agg [boolSV m.ch, boolSV m.ak, u64SV m.root, u64SV m.bridge, intSV m.cost, intSV m.port, intSV m.age, intSV m.mx, intSV m.hello, intSV m.wait]

def chMsg : Msg := ⟨true, false, 0, 0, 0, 0, 0, 0, 0, 0⟩

def smallB (n : Int) : Bool := decide (0 ≤ n) && decide (n < 65536)

def rightB (m : Msg) : Bool := if m.ch then
    (m.ch == true && (m.ak == false && (((m.root : Int) == 0) && (((m.bridge : Int) == 0) && ((m.cost == 0) && ((m.port == 0) && ((m.age == 0) && ((m.mx == 0) && ((m.hello == 0) && ((m.wait == 0) && true))))))))))
  else decide (0 ≤ m.cost) && decide (m.cost < 4294967296) && smallB m.port && smallB m.age && smallB m.mx && smallB m.hello && smallB m.wait

def idN (p m : Nat) : Nat := p * 281474976710656 + m

theorem idN_or (p m : Nat) (hp : p < 65536) (hm' : m < 281474976710656) : bits .or .u64 (IntKind.u64.wrap (IntKind.u64.wrap (p : Int) * 2 ^ min (Int.toNat 48) IntKind.u64.bits)) (m : Int) = (idN p m : Int) := by
  have h1 : IntKind.u64.wrap (IntKind.u64.wrap (p : Int) * 2 ^ min (Int.toNat 48) IntKind.u64.bits) = ((p * 281474976710656 : Nat) : Int) := by
    show IntKind.u64.wrap (IntKind.u64.wrap (p : Int) * 281474976710656) = _
    simp only [IntKind.wrap_u64]
    omega
  rw [h1, bits_or_u64_nat _ _ (by omega) (by omega)]
  congr 1
  have h := Nat.two_pow_add_eq_or_of_lt (i := 48) (b := m) (by omega) p
  rw [idN, Nat.mul_comm p 281474976710656]
  exact h.symm

theorem id_ok (p m : Nat) (hp : p < 65536) (hm' : m < 281474976710656) : Sy.Spec Tryz.prog 60 [intSV p, u64SV m] [] (.tup [u64SV (idN p m), boolSV true]) [] := contract Γ hm 100 F60 Tryz.ntmps60 rfl fun F hF => by
  ((first | refine run Γ hm 400 ?_ | refine runD Γ hm 400 (by kernel_rfl) ?_ | skip); (conv => whnf); repeat ((first | refine aF ?_ | refine aT ?_); (first | refine run Γ hm 400 ?_ | refine runD Γ hm 400 (by kernel_rfl) ?_); conv => whnf))
  refine ⟨fun h => absurd (of_decide_eq_true h) (by omega), fun _ => ?_⟩
  ((first | refine run Γ hm 400 ?_ | refine runD Γ hm 400 (by kernel_rfl) ?_ | skip); (conv => whnf); repeat ((first | refine aF ?_ | refine aT ?_); (first | refine run Γ hm 400 ?_ | refine runD Γ hm 400 (by kernel_rfl) ?_); conv => whnf))
  refine ⟨fun h => absurd (of_decide_eq_true h) (by omega), fun _ => ?_⟩
  ((first | refine run Γ hm 400 ?_ | refine runD Γ hm 400 (by kernel_rfl) ?_ | skip); (conv => whnf); repeat ((first | refine aF ?_ | refine aT ?_); (first | refine run Γ hm 400 ?_ | refine runD Γ hm 400 (by kernel_rfl) ?_); conv => whnf))
  refine ⟨by decide, ?_⟩
  ((first | refine run Γ hm 400 ?_ | refine runD Γ hm 400 (by kernel_rfl) ?_ | skip); (conv => whnf); repeat ((first | refine aF ?_ | refine aT ?_); (first | refine run Γ hm 400 ?_ | refine runD Γ hm 400 (by kernel_rfl) ?_); conv => whnf))
  exact done0 rfl (.cons .tmp (.cons .tmp .nil)) (congrArg (fun z => SV.tup [.val (.int .u64 z), boolSV true]) (idN_or p m hp hm').symm) rfl

theorem id_no (p : Int) (m : Nat) (h : p < 0 ∨ 65536 ≤ p ∨ 281474976710656 ≤ m) : Sy.Spec Tryz.prog 60 [intSV p, u64SV m] [] (.tup [u64SV (0 : Nat), boolSV false]) [] := contract Γ hm 100 F60 Tryz.ntmps60 rfl fun F hF => by
  ((first | refine run Γ hm 400 ?_ | refine runD Γ hm 400 (by kernel_rfl) ?_ | skip); (conv => whnf); repeat ((first | refine aF ?_ | refine aT ?_); (first | refine run Γ hm 400 ?_ | refine runD Γ hm 400 (by kernel_rfl) ?_); conv => whnf))
  refine ⟨fun h1 => ?_, fun h1 => ?_⟩
  · ((first | refine run Γ hm 400 ?_ | refine runD Γ hm 400 (by kernel_rfl) ?_ | skip); (conv => whnf); repeat ((first | refine aF ?_ | refine aT ?_); (first | refine run Γ hm 400 ?_ | refine runD Γ hm 400 (by kernel_rfl) ?_); conv => whnf))
    exact done0 rfl (.cons .tmp (.cons .tmp .nil)) rfl rfl
  · have h1 := of_decide_eq_false h1
    ((first | refine run Γ hm 400 ?_ | refine runD Γ hm 400 (by kernel_rfl) ?_ | skip); (conv => whnf); repeat ((first | refine aF ?_ | refine aT ?_); (first | refine run Γ hm 400 ?_ | refine runD Γ hm 400 (by kernel_rfl) ?_); conv => whnf))
    refine ⟨fun h2 => ?_, fun h2 => ?_⟩
    · ((first | refine run Γ hm 400 ?_ | refine runD Γ hm 400 (by kernel_rfl) ?_ | skip); (conv => whnf); repeat ((first | refine aF ?_ | refine aT ?_); (first | refine run Γ hm 400 ?_ | refine runD Γ hm 400 (by kernel_rfl) ?_); conv => whnf))
      exact done0 rfl (.cons .tmp (.cons .tmp .nil)) rfl rfl
    · have h2 := of_decide_eq_false h2
      ((first | refine run Γ hm 400 ?_ | refine runD Γ hm 400 (by kernel_rfl) ?_ | skip); (conv => whnf); repeat ((first | refine aF ?_ | refine aT ?_); (first | refine run Γ hm 400 ?_ | refine runD Γ hm 400 (by kernel_rfl) ?_); conv => whnf))
      refine ⟨fun _ => ?_, fun h => absurd (of_decide_eq_false h) (by omega)⟩
      ((first | refine run Γ hm 400 ?_ | refine runD Γ hm 400 (by kernel_rfl) ?_ | skip); (conv => whnf); repeat ((first | refine aF ?_ | refine aT ?_); (first | refine run Γ hm 400 ?_ | refine runD Γ hm 400 (by kernel_rfl) ?_); conv => whnf))
      exact done0 rfl (.cons .tmp (.cons .tmp .nil)) rfl rfl

def msgL (m : Msg) : List SV := [boolSV m.ch, boolSV m.ak, u64SV m.root, u64SV m.bridge, intSV m.cost, intSV m.port, intSV m.age, intSV m.mx, intSV m.hello, intSV m.wait]

theorem smallB_iff (n : Int) : smallB n = true ↔ 0 ≤ n ∧ n < 65536 := by simp [smallB]

theorem smallB_no (n : Int) (h : ¬ (0 ≤ n ∧ n < 65536)) : smallB n = false := by
  cases hb : smallB n with
  | false => rfl
  | true => exact absurd ((smallB_iff n).1 hb) h

theorem rightB_small (m : Msg) (h : m.ch = false) : rightB m = (decide (0 ≤ m.cost) && decide (m.cost < 4294967296) && [m.port, m.age, m.mx, m.hello, m.wait].all smallB) := by
  simp [rightB, h, Bool.and_assoc]

theorem rightS (m : Msg) : Sy.Spec Tryz.prog 119 [msgSV m] [] (boolSV (rightB m)) [] := contract Γ hm 100 F119 Tryz.ntmps119 rfl fun F hF => by
  ((first | refine run Γ hm 400 ?_ | refine runD Γ hm 400 (by kernel_rfl) ?_ | skip); (conv => whnf); repeat ((first | refine aF ?_ | refine aT ?_); (first | refine run Γ hm 400 ?_ | refine runD Γ hm 400 (by kernel_rfl) ?_); conv => whnf))
  refine ⟨fun h => ?_, fun h => ?_⟩
  · ((first | refine run Γ hm 400 ?_ | refine runD Γ hm 400 (by kernel_rfl) ?_ | skip); (conv => whnf); repeat ((first | refine aF ?_ | refine aT ?_); (first | refine run Γ hm 400 ?_ | refine runD Γ hm 400 (by kernel_rfl) ?_); conv => whnf))
    refine done0 rfl (.cons .tmp .nil) (congrArg boolSV ?_) rfl
    simp only [rightB, h, if_true]
  · ((first | refine run Γ hm 400 ?_ | refine runD Γ hm 400 (by kernel_rfl) ?_ | skip); (conv => whnf); repeat ((first | refine aF ?_ | refine aT ?_); (first | refine run Γ hm 400 ?_ | refine runD Γ hm 400 (by kernel_rfl) ?_); conv => whnf))
    refine G_retype 20 (e := intSV) (l := [m.port, m.age, m.mx, m.hello, m.wait]) rfl rfl ?_
    refine G_countP 5 (fun i => ([m.port, m.age, m.mx, m.hello, m.wait].take i).all smallB = true) (fun i => [(1, .ptr 1 0), (20, .osl 20), (21, intSV 5), (22, intSV i)]) (fun _ => [(1, .box (msgL m)), (20, .row 1 intSV [m.port, m.age, m.mx, m.hello, m.wait])]) [] rfl ⟨⟨rfl, rfl, rfl, rfl, rfl, rfl, rfl, rfl, trivial⟩, ⟨.inl rfl, rfl, .inl rfl, rfl, trivial⟩, rfl, rfl⟩ ?_
    intro i hi hI
    ((first | refine run Γ hm 400 ?_ | refine runD Γ hm 400 (by kernel_rfl) ?_ | skip); (conv => whnf); repeat ((first | refine aF ?_ | refine aT ?_); (first | refine run Γ hm 400 ?_ | refine runD Γ hm 400 (by kernel_rfl) ?_); conv => whnf))
    refine ⟨fun h1 => ?_, fun h1 => ?_⟩
    · have hlt : i < 5 := by have := of_decide_eq_true h1; omega
      have hlt' : i < [m.port, m.age, m.mx, m.hello, m.wait].length := hlt
      have hno : ∀ n, n = [m.port, m.age, m.mx, m.hello, m.wait][i] → ¬ (0 ≤ n ∧ n < 65536) → rightB m = false := fun n hn hh => by
        rw [rightB_small m h]
        have : [m.port, m.age, m.mx, m.hello, m.wait].all smallB = false := by
          rw [List.all_eq_false]
          exact ⟨n, hn ▸ List.getElem_mem _, by rw [smallB_no n hh]; decide⟩
        rw [this, Bool.and_false]
      ((first | refine run Γ hm 400 ?_ | refine runD Γ hm 400 (by kernel_rfl) ?_ | skip); (conv => whnf); repeat ((first | refine aF ?_ | refine aT ?_); (first | refine run Γ hm 400 ?_ | refine runD Γ hm 400 (by kernel_rfl) ?_); conv => whnf))
      refine ⟨by omega, by simpa using hlt, ?_⟩
      ((first | refine run Γ hm 400 ?_ | refine runD Γ hm 400 (by kernel_rfl) ?_ | skip); (conv => whnf); repeat ((first | refine aF ?_ | refine aT ?_); (first | refine run Γ hm 400 ?_ | refine runD Γ hm 400 (by kernel_rfl) ?_); conv => whnf))
      refine ⟨rfl, hlt', ?_⟩
      ((first | refine run Γ hm 400 ?_ | refine runD Γ hm 400 (by kernel_rfl) ?_ | skip); (conv => whnf); repeat ((first | refine aF ?_ | refine aT ?_); (first | refine run Γ hm 400 ?_ | refine runD Γ hm 400 (by kernel_rfl) ?_); conv => whnf))
      refine ⟨fun h2 => ?_, fun h2 => ?_⟩
      · have h2 := of_decide_eq_true h2
        ((first | refine run Γ hm 400 ?_ | refine runD Γ hm 400 (by kernel_rfl) ?_ | skip); (conv => whnf); repeat ((first | refine aF ?_ | refine aT ?_); (first | refine run Γ hm 400 ?_ | refine runD Γ hm 400 (by kernel_rfl) ?_); conv => whnf))
        refine done0 rfl (.cons .tmp .nil) (congrArg boolSV (hno _ rfl fun hh => ?_)) rfl
        exact absurd hh.1 (Int.not_le.2 h2)
      · have h2 := of_decide_eq_false h2
        ((first | refine run Γ hm 400 ?_ | refine runD Γ hm 400 (by kernel_rfl) ?_ | skip); (conv => whnf); repeat ((first | refine aF ?_ | refine aT ?_); (first | refine run Γ hm 400 ?_ | refine runD Γ hm 400 (by kernel_rfl) ?_); conv => whnf))
        refine ⟨fun h3 => ?_, fun h3 => ?_⟩
        · have h3 := of_decide_eq_true h3
          ((first | refine run Γ hm 400 ?_ | refine runD Γ hm 400 (by kernel_rfl) ?_ | skip); (conv => whnf); repeat ((first | refine aF ?_ | refine aT ?_); (first | refine run Γ hm 400 ?_ | refine runD Γ hm 400 (by kernel_rfl) ?_); conv => whnf))
          refine done0 rfl (.cons .tmp .nil) (congrArg boolSV (hno _ rfl fun hh => ?_)) rfl
          have := hh.2
          simp only [Int.toNat_natCast] at h3
          omega
        · have h3 := of_decide_eq_false h3
          ((first | refine run Γ hm 400 ?_ | refine runD Γ hm 400 (by kernel_rfl) ?_ | skip); (conv => whnf); repeat ((first | refine aF ?_ | refine aT ?_); (first | refine run Γ hm 400 ?_ | refine runD Γ hm 400 (by kernel_rfl) ?_); conv => whnf))
          refine ⟨by unfold I64; omega, ?_⟩
          ((first | refine run Γ hm 400 ?_ | refine runD Γ hm 400 (by kernel_rfl) ?_ | skip); (conv => whnf); repeat ((first | refine aF ?_ | refine aT ?_); (first | refine run Γ hm 400 ?_ | refine runD Γ hm 400 (by kernel_rfl) ?_); conv => whnf))
          refine G_nextP [] hI hlt ?_ ⟨⟨rfl, rfl, rfl, rfl, rfl, rfl, rfl, rfl, trivial⟩, ⟨.inl rfl, rfl, .inl rfl, rfl, trivial⟩, rfl, rfl⟩
          rw [List.take_succ_eq_append_getElem hlt', List.all_append, hI]
          simp only [Int.toNat_natCast] at h2 h3
          simp only [List.all_cons, List.all_nil, Bool.and_true, Bool.true_and]
          exact (smallB_iff _).2 ⟨by omega, by omega⟩
    · have : i = 5 := by have := of_decide_eq_false h1; omega
      subst this
      have hall : [m.port, m.age, m.mx, m.hello, m.wait].all smallB = true := hI
      have hr := rightB_small m h
      rw [hall, Bool.and_true] at hr
      ((first | refine run Γ hm 400 ?_ | refine runD Γ hm 400 (by kernel_rfl) ?_ | skip); (conv => whnf); repeat ((first | refine aF ?_ | refine aT ?_); (first | refine run Γ hm 400 ?_ | refine runD Γ hm 400 (by kernel_rfl) ?_); conv => whnf))
      refine ⟨fun h2 => ?_, fun h2 => ?_⟩
      · have h2' := of_decide_eq_true h2
        ((first | refine run Γ hm 400 ?_ | refine runD Γ hm 400 (by kernel_rfl) ?_ | skip); (conv => whnf); repeat ((first | refine aF ?_ | refine aT ?_); (first | refine run Γ hm 400 ?_ | refine runD Γ hm 400 (by kernel_rfl) ?_); conv => whnf))
        refine done0 rfl (.cons .tmp .nil) (congrArg boolSV ?_) rfl
        rw [hr, decide_eq_true (show 0 ≤ m.cost from h2'), Bool.true_and]
        exact decide_eq_decide.2 (by omega)
      · have h2' := of_decide_eq_false h2
        ((first | refine run Γ hm 400 ?_ | refine runD Γ hm 400 (by kernel_rfl) ?_ | skip); (conv => whnf); repeat ((first | refine aF ?_ | refine aT ?_); (first | refine run Γ hm 400 ?_ | refine runD Γ hm 400 (by kernel_rfl) ?_); conv => whnf))
        refine done0 rfl (.cons .tmp .nil) (congrArg boolSV ?_) rfl
        rw [hr, decide_eq_false (show ¬ 0 ≤ m.cost from h2'), Bool.false_and]

theorem shr_byte64 (m k : Nat) (hk : k ≤ 7) : IntKind.u8.wrap ((m : Int).fdiv (2 ^ (min (8 * (k : Int)).toNat IntKind.u64.bits))) = ((UInt8.ofNat (m / 256 ^ k)).toNat : Int) := shr_byte m k hk

theorem numberS (l : List UInt8) (hl : l.length < 1000000) (n k : Nat) (hk : k ≤ 8) : Sy.Spec Tryz.prog 120 [.osl 0, u64SV n, intSV k] [(0, .row 1 byteSV l)] (.osl 1) [(0, .non), (1, .row 1 byteSV (l ++ be k n))] := contract Γ hm 100 F120 Tryz.ntmps120 rfl fun F hF => by
  ((first | refine run Γ hm 400 ?_ | refine runD Γ hm 400 (by kernel_rfl) ?_ | skip); (conv => whnf); repeat ((first | refine aF ?_ | refine aT ?_); (first | refine run Γ hm 400 ?_ | refine runD Γ hm 400 (by kernel_rfl) ?_); conv => whnf))
  refine ⟨by unfold I64; omega, ?_⟩
  ((first | refine run Γ hm 400 ?_ | refine runD Γ hm 400 (by kernel_rfl) ?_ | skip); (conv => whnf); repeat ((first | refine aF ?_ | refine aT ?_); (first | refine run Γ hm 400 ?_ | refine runD Γ hm 400 (by kernel_rfl) ?_); conv => whnf))
  refine G_move 0 1 [0] rfl rfl (by decide) (by simp; rfl) ?_
  refine G_count k (fun j => [(0, .osl 1), (1, u64SV n), (7, intSV ((k : Int) - 1 - (j : Int)))]) (fun j => [(0, .non), (1, .row 1 byteSV (l ++ (be k n).take j))]) [(0, 0), (1, 1)] ⟨⟨rfl, rfl, rfl, rfl, congrArg intSV (by simp), rfl, trivial⟩, ⟨.inl rfl, rfl, .inl (congrArg (Ob.row 1 byteSV) (List.append_nil l)), rfl, trivial⟩, rfl, rfl⟩ ?_
  intro j hj
  ((first | refine run Γ hm 400 ?_ | refine runD Γ hm 400 (by kernel_rfl) ?_ | skip); (conv => whnf); repeat ((first | refine aF ?_ | refine aT ?_); (first | refine run Γ hm 400 ?_ | refine runD Γ hm 400 (by kernel_rfl) ?_); conv => whnf))
  refine ⟨fun h => ?_, fun h => ?_⟩
  · have hlt : j < k := by have := of_decide_eq_true h; omega
    ((first | refine run Γ hm 400 ?_ | refine runD Γ hm 400 (by kernel_rfl) ?_ | skip); (conv => whnf); repeat ((first | refine aF ?_ | refine aT ?_); (first | refine run Γ hm 400 ?_ | refine runD Γ hm 400 (by kernel_rfl) ?_); conv => whnf))
    refine ⟨by unfold I64; omega, ?_⟩
    ((first | refine run Γ hm 400 ?_ | refine runD Γ hm 400 (by kernel_rfl) ?_ | skip); (conv => whnf); repeat ((first | refine aF ?_ | refine aT ?_); (first | refine run Γ hm 400 ?_ | refine runD Γ hm 400 (by kernel_rfl) ?_); conv => whnf))
    refine ⟨by omega, ?_⟩
    ((first | refine run Γ hm 400 ?_ | refine runD Γ hm 400 (by kernel_rfl) ?_ | skip); (conv => whnf); repeat ((first | refine aF ?_ | refine aT ?_); (first | refine run Γ hm 400 ?_ | refine runD Γ hm 400 (by kernel_rfl) ?_); conv => whnf))
    refine stepOp (good_appendT Γ.toTy 21 rfl rfl rfl rfl rfl (.row rfl) (.lit (l := [UInt8.ofNat (n / 256 ^ (k - 1 - j))]) rfl ?_) (by simp) ?_ ?_) rfl rfl ?_
    · have := shr_byte n (k - 1 - j) (by omega)
      rw [show ((k - 1 - j : Nat) : Int) = k - 1 - (j : Int) by omega] at this
      simp only [List.map_cons, List.map_nil, byteSV, ← this]
    · simp [be_length]; omega
    · simp [be_length]; omega
    ((first | refine run Γ hm 400 ?_ | refine runD Γ hm 400 (by kernel_rfl) ?_ | skip); (conv => whnf); repeat ((first | refine aF ?_ | refine aT ?_); (first | refine run Γ hm 400 ?_ | refine runD Γ hm 400 (by kernel_rfl) ?_); conv => whnf))
    refine ⟨by unfold I64; omega, ?_⟩
    ((first | refine run Γ hm 400 ?_ | refine runD Γ hm 400 (by kernel_rfl) ?_ | skip); (conv => whnf); repeat ((first | refine aF ?_ | refine aT ?_); (first | refine run Γ hm 400 ?_ | refine runD Γ hm 400 (by kernel_rfl) ?_); conv => whnf))
    exact G_next [(0, 0), (1, 21)] hlt ⟨⟨rfl, rfl, rfl, rfl, congrArg intSV (by omega), rfl, trivial⟩, ⟨.inl rfl, rfl, .inl (congrArg (Ob.row 1 byteSV) (by rw [be_take _ _ _ hlt, List.append_assoc])), rfl, trivial⟩, rfl, rfl⟩
  · have : j = k := by have := of_decide_eq_false h; omega
    subst this
    ((first | refine run Γ hm 400 ?_ | refine runD Γ hm 400 (by kernel_rfl) ?_ | skip); (conv => whnf); repeat ((first | refine aF ?_ | refine aT ?_); (first | refine run Γ hm 400 ?_ | refine runD Γ hm 400 (by kernel_rfl) ?_); conv => whnf))
    refine done rfl (.cons .tmp .nil) [(0, 0), (1, 1)] _ (fun _ h => h) rfl rfl ⟨trivial, ⟨.inl rfl, rfl, .inl (congrArg (Ob.row 1 byteSV) ?_), rfl, trivial⟩, rfl, rfl⟩
    rw [List.take_of_length_le (by simp [be_length])]

theorem set_mid (k j : Nat) (hj : j < k) (r : List UInt8) (b : UInt8) : (List.replicate (k - j) (0 : UInt8) ++ r).set (k - 1 - j) b = List.replicate (k - (j + 1)) 0 ++ b :: r := by
  obtain ⟨q, rfl⟩ : ∃ q, k = q + 1 + j := ⟨k - 1 - j, by omega⟩
  rw [show q + 1 + j - j = q + 1 by omega, show q + 1 + j - 1 - j = q by omega, show q + 1 + j - (j + 1) = q by omega, List.replicate_succ']
  rw [List.append_assoc, List.set_append_right _ _ (by simp)]
  simp

end Go.Sy.YthbgklhegccckaaGreat
