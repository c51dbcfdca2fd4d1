/-
  Contracts: sums (sum, palingref06), addresses (addr, palingref02, mac, palingref01), ipv4's small ones. Contracts: packets put (ipv4, palingref07). Addresses' prefixes: contracts and numbers. Contracts: the document's prefixes (palingref02). Contracts: packets put (palingref07), addresses (addr, palingref02, mac, palingref01). Contracts: tags (tag, palingref05). Plain facts for frames, tables, queues. Arguments and rows seen otherwise. A nil slice in a box becomes a row's name. The symbolic layer, 27: a slice against nil; structs in structs held against one another. The symbolic layer, 28: what the kit's shelf says of functions of Go's library. The plain library that the texts' facts are said in (this seat has no strings of Go's library). Texts: joined, split at a byte. Contracts: places, lists. Contracts: lists asked by a function. Contracts: the judge of nets (package names). Texts, split at a byte: strings.Split. Numbers as texts. Contracts: the judge of nets (package names), 2. Contracts: the judge of nets (package names), 3. Contracts: names.Right. Contracts: ports and domains as texts. Contracts: a domain's members; a device's domain of a VLAN. Contracts: a device's domain of a VLAN; the other side of a link. Contracts: what a VLAN is on a link's other side. Contracts: the checker of ways finds ports and domains. Contracts: a member that a predicate is true of; which VRF sees which one; routes. Contracts: prefixes; the greatest by a comparison; routes. Contracts: routes looked up. Contracts: routes looked up, 2. The symbolic layer, 29: loops with a state and a measure. Texts of numbers, domains, ports: how long. The document's numbers and addresses as texts. Contracts: the document's answer of layer 15 (palingref15), 1. Contracts: the document's answer of layer 15 (palingref15), 2. Contracts: the document's answer of layer 15 (palingref15), 3. Contracts: the document's answer of layer 15 (palingref15), 4; it is the program's. Contracts: vectors (package vector, palingref24), 1.
-/
import Derived.Test.YtmelpejjondedaaGreatB4
import Derived.Test.YtmelpejjondedaaGreatB3
import Derived.ChangeKeysEq
import Derived.Below
import Derived.Lib.Join
import Derived.Lib.Strings
import Derived.Lib.Bytealg

namespace Go.Sy.YtmelpejjondedaaGreat
open Go.Proofs
attribute [local irreducible] Go.Sy.G Go.Sy.DR
set_option maxRecDepth 100000
set_option maxHeartbeats 4000000
theorem bits_and_i64_nat (a b : Nat) (ha : a < 9223372036854775808) (hb : b < 9223372036854775808) : bits .and .i64 (a : Int) (b : Int) = ((a &&& b : Nat) : Int) := by
  have hx : a &&& b < 2 ^ 63 := Nat.lt_of_le_of_lt Nat.and_le_left ha
  have h1 : (BitVec.ofInt 64 (a : Int)).toNat = a := by
    rw [BitVec.ofInt_natCast, BitVec.toNat_ofNat]; exact Nat.mod_eq_of_lt (by omega)
  have h2 : (BitVec.ofInt 64 (b : Int)).toNat = b := by
    rw [BitVec.ofInt_natCast, BitVec.toNat_ofNat]; exact Nat.mod_eq_of_lt (by omega)
  show IntKind.i64.wrap ((BitVec.ofInt 64 (a : Int) &&& BitVec.ofInt 64 (b : Int)).toNat : Int) = _
  rw [BitVec.toNat_and, h1, h2, IntKind.wrap_i64]
  omega
theorem bits_or_i64_nat (a b : Nat) (ha : a < 9223372036854775808) (hb : b < 9223372036854775808) : bits .or .i64 (a : Int) (b : Int) = ((a ||| b : Nat) : Int) := by
  have hx : a ||| b < 2 ^ 63 := Nat.or_lt_two_pow (by omega) (by omega)
  have h1 : (BitVec.ofInt 64 (a : Int)).toNat = a := by
    rw [BitVec.ofInt_natCast, BitVec.toNat_ofNat]; exact Nat.mod_eq_of_lt (by omega)
  have h2 : (BitVec.ofInt 64 (b : Int)).toNat = b := by
    rw [BitVec.ofInt_natCast, BitVec.toNat_ofNat]; exact Nat.mod_eq_of_lt (by omega)
  show IntKind.i64.wrap ((BitVec.ofInt 64 (a : Int) ||| BitVec.ofInt 64 (b : Int)).toNat : Int) = _
  rw [BitVec.toNat_or, h1, h2, IntKind.wrap_i64]
  omega
theorem shr_nat (n k : Nat) (hk : k < 64) : (n : Int).fdiv (2 ^ (min (Int.toNat (k : Int)) IntKind.i64.bits)) = ((n / 2 ^ k : Nat) : Int) := by
  have h1 : min (Int.toNat (k : Int)) IntKind.i64.bits = k := by simp [IntKind.bits]; omega
  rw [h1, Int.fdiv_eq_ediv_of_nonneg _ (by exact Int.pow_nonneg (by decide))]
  simp
theorem and_low (n : Nat) (h : n < 9223372036854775808) : bits .and .i64 (n : Int) 65535 = ((n % 65536 : Nat) : Int) := by
  have := bits_and_i64_nat n 65535 h (by decide)
  rw [show ((65535 : Nat) : Int) = 65535 from rfl] at this
  rw [this]
  have h2 := Nat.and_two_pow_sub_one_eq_mod n 16
  rw [show 2 ^ 16 - 1 = 65535 from rfl, show 2 ^ 16 = 65536 from rfl] at h2
  rw [h2]
theorem downFoldS (n : Nat) (h : n < 9223372036854775808) : Sy.Spec Tryz.prog 357 [.ptr 0 0] [(0, .box [intSV n])] (.tup []) [(0, .box [intSV (n / 65536 + n % 65536 : Nat)])] := contract Γ hm 100 F357 Tryz.ntmps357 rfl fun F hF => by
  have e1 : (n : Int).fdiv (2 ^ (min (Int.toNat 16) IntKind.i64.bits)) = ((n / 65536 : Nat) : Int) := shr_nat n 16 (by decide)
  have e2 := and_low n h
  (conv=>whnf)
  first | (refine ⟨by omega, ?_⟩; (conv=>whnf)) | skip
  rw [e1, e2]
  refine ⟨by unfold I64; omega, ?_⟩
  (conv=>whnf)
  exact done_end rfl .nil [] [(0, .box [intSV (n / 65536 + n % 65536 : Nat)])] (fun _ h => h) rfl rfl ⟨trivial, ⟨.inl rfl, rfl, trivial⟩, rfl, rfl⟩
theorem sumDownS (n : Nat) (h : n < 9223372036854775808) : Sy.Spec Tryz.prog 343 [intSV n] [] (intSV (foldN n)) [] := contract Γ hm 100 F343 Tryz.ntmps343 rfl fun F hF => by
  (conv=>whnf)
  refine G_loop (α := {m : Nat // foldN m = foldN n ∧ m ≤ n}) (fun m => [(3, .clo (.func 357) [] [.ptr 1 0]), (1, .ptr 1 0)]) (fun m => [(1, .box [intSV m.1])]) (fun m => m.1) ⟨n, rfl, Nat.le_refl _⟩ []
    ⟨⟨rfl, rfl, rfl, rfl, trivial⟩, ⟨.inl rfl, rfl, trivial⟩, rfl, rfl⟩ ?_
  rintro ⟨m, h1, h2⟩
  dsimp only
  (refine rg ?_;(conv=>whnf))
  refine ⟨fun h3 => ?_, fun h3 => ?_⟩
  · have hmm : 65535 < m := by have := of_decide_eq_true h3; omega
    obtain ⟨g1, g2⟩ := foldN_step hmm
    (refine rg ?_;(conv=>whnf))
    refine stepOp (good_callE [(0, 1)] (enters_clo rfl rfl F357) (downFoldS m (by omega)) rfl ⟨rfl, trivial⟩ rfl ⟨.inl rfl, trivial⟩) rfl rfl ?_
    (refine rg ?_;(conv=>whnf))
    exact G_inv (α := {m : Nat // foldN m = foldN n ∧ m ≤ n}) (x := ⟨m, h1, h2⟩) ⟨m / 65536 + m % 65536, by rw [g1, h1], by omega⟩ [] g2 ⟨⟨rfl, rfl, rfl, rfl, trivial⟩, ⟨.inl rfl, rfl, trivial⟩, rfl, rfl⟩
  · have hmm : m ≤ 65535 := by have := of_decide_eq_false h3; omega
    have e : foldN n = m := by rw [← h1, foldN_small hmm]
    (refine rg ?_;(conv=>whnf))
    refine done0 rfl (.cons .tmp .nil) ?_ rfl
    exact congrArg (fun z : Nat => intSV z) e
theorem byte_pair (a b : UInt8) : bits .or .i64 (IntKind.i64.wrap ((IntKind.i64.wrap (a.toNat : Int)) * 2 ^ min (Int.toNat 8) IntKind.i64.bits)) (IntKind.i64.wrap (b.toNat : Int)) = ((a.toNat * 256 + b.toNat : Nat) : Int) := by
  have h1 := a.toNat_lt
  have h2 := b.toNat_lt
  have e1 : IntKind.i64.wrap (a.toNat : Int) = (a.toNat : Int) := by rw [IntKind.wrap_i64]; omega
  have e2 : IntKind.i64.wrap (b.toNat : Int) = (b.toNat : Int) := by rw [IntKind.wrap_i64]; omega
  rw [e1, e2]
  have h3 : IntKind.i64.wrap ((a.toNat : Int) * 2 ^ min (Int.toNat 8) IntKind.i64.bits) = ((a.toNat * 256 : Nat) : Int) := by
    show IntKind.i64.wrap ((a.toNat : Int) * 256) = _
    rw [IntKind.wrap_i64]
    omega
  rw [h3, bits_or_i64_nat _ _ (by omega) (by omega)]
  congr 1
  have h := Nat.two_pow_add_eq_or_of_lt (i := 8) (b := b.toNat) (by omega) a.toNat
  rw [Nat.mul_comm a.toNat 256]
  exact h.symm
theorem sumAddS (l : List UInt8) (hl : l.length < 100000) (h2 : l.length % 2 = 0) : Sy.Spec Tryz.prog 329 [.sl 1 byteSV l] [] (intSV (foldN (wsum l (l.length / 2)))) [] := contract Γ hm 100 F329 Tryz.ntmps329 rfl fun F hF => by
  (conv=>whnf)
  refine G_count (l.length / 2) (fun j => [(0, .sl 1 byteSV l), (3, intSV (wsum l j)), (4, intSV (2 * (j : Int)))]) (fun _ => []) [] ⟨⟨rfl, rfl, rfl, rfl, rfl, rfl, trivial⟩, trivial, rfl, rfl⟩ ?_
  intro j hj
  have hw := wsum_le l j
  (refine rg ?_;(conv=>whnf))
  refine ⟨by unfold I64; omega, ?_⟩
  (conv=>whnf)
  refine ⟨fun h => ?_, fun h => ?_⟩
  · have hlt : 2 * j + 1 < l.length := by have := of_decide_eq_true h; omega
    have hs : wsum l (j + 1) = wsum l j + ((l[2 * j]'(by omega)).toNat * 256 + (l[2 * j + 1]'hlt).toNat) := by
      rw [wsum, getD_r (show 2 * j < l.length by omega), getD_r hlt]
    have e1 : l[(2 * (j : Int)).toNat]'(by omega) = l[2 * j]'(by omega) := by congr 1
    have e2 : l[(2 * (j : Int) + 1).toNat]'(by omega) = l[2 * j + 1]'hlt := by congr 1
    have hp := byte_pair (l[2 * j]'(by omega)) (l[2 * j + 1]'hlt)
    have hb1 := (l[2 * j]'(by omega)).toNat_lt
    have hb2 := (l[2 * j + 1]'hlt).toNat_lt
    rw [← e1, ← e2] at hp hs
    rw [← e1] at hb1
    rw [← e2] at hb2
    (refine rg ?_;(conv=>whnf))
    refine ⟨rfl, by omega, by omega, ?_⟩
    (conv=>whnf)
    refine ⟨by omega, ?_⟩
    (conv=>whnf)
    refine ⟨by unfold I64; omega, ?_⟩
    (conv=>whnf)
    refine ⟨rfl, by omega, by omega, ?_⟩
    (conv=>whnf)
    refine ⟨(by rw [hp]; unfold I64; omega), ?_⟩
    (conv=>whnf)
    refine ⟨(by kernel_rfl), ?_⟩
    (conv=>whnf)
    refine ⟨by unfold I64; omega, ?_⟩
    (conv=>whnf)
    refine G_next [] (by omega) ⟨⟨rfl, rfl, congrArg (fun z => SV.val (.int .i64 z)) ?_, rfl, congrArg (fun z => SV.val (.int .i64 z)) ?_, rfl, trivial⟩, trivial, rfl, rfl⟩
    · rw [hp, hs]; omega
    · omega
  have hjl : j = l.length / 2 := by
    have := of_decide_eq_false h
    omega
  have hpar : ¬ bits .and .i64 (l.length : Int) 1 = 1 := by
    have := bits_and_i64_nat l.length 1 (by omega) (by decide)
    rw [show ((1 : Nat) : Int) = 1 from rfl] at this
    rw [this, Nat.and_one_is_mod, h2]
    decide
  have hd := sumDownS (wsum l j) (by omega)
  rw [hjl] at hd ⊢
  clear hjl
  (refine rg ?_;(conv=>whnf))
  refine ⟨fun h => absurd (of_decide_eq_true h) hpar, fun _ => ?_⟩
  (refine rg ?_;(conv=>whnf))
  refine call0 hd F343 rfl rfl rfl rfl rfl ?_
  (refine rg ?_;(conv=>whnf))
  exact done0 rfl (.cons .tmp .nil) rfl rfl
theorem sumOfS (l : List UInt8) (hl : l.length < 100000) (h2 : l.length % 2 = 0) : Sy.Spec Tryz.prog 305 [.sl 1 byteSV l] [] (intSV (sumOf l)) [] := contract Γ hm 100 F305 Tryz.ntmps305 rfl fun F hF => by
  have ha := sumAddS l hl h2
  have hle := foldN_le (wsum l (l.length / 2))
  (conv=>whnf)
  refine call0 ha F329 rfl rfl rfl rfl rfl ?_
  (refine rg ?_;(conv=>whnf))
  refine ⟨by unfold I64; omega, ?_⟩
  (conv=>whnf)
  refine done0 rfl (.cons .tmp .nil) ?_ rfl
  refine congrArg intSV ?_
  rw [sumOf]
  omega
end Go.Sy.YtmelpejjondedaaGreat

namespace Go.Sy.YtmelpejjondedaaGreat
open Go.Proofs
attribute [local irreducible] Go.Sy.G Go.Sy.DR
set_option maxRecDepth 100000
set_option maxHeartbeats 4000000
def natSV (n : Nat) : SV := intSV n
def pairsL (l : List Nat) : List UInt8 := l.flatMap fun n => [UInt8.ofNat (n / 256), UInt8.ofNat n]
theorem pairsL_length (l : List Nat) : (pairsL l).length = 2 * l.length := by
  induction l with
  | nil => rfl
  | cons a l ih => simp only [pairsL, List.flatMap_cons, List.length_append, List.length_cons, List.length_nil] at ih ⊢; omega
theorem pairsL_snoc (l : List Nat) (n : Nat) : pairsL (l ++ [n]) = pairsL l ++ [UInt8.ofNat (n / 256), UInt8.ofNat n] := by simp [pairsL]
theorem smallS (a b : Int) (h : 0 ≤ a ∧ a ≤ b) : Sy.Spec Tryz.prog 303 [intSV a, intSV b] [] (boolSV true) [] := contract Γ hm 100 F303 Tryz.ntmps303 rfl fun F hF => by
  (conv=>whnf)
  refine ⟨fun _ => ?_, fun h2 => absurd (of_decide_eq_false h2) (by omega)⟩
  (refine rg ?_;(conv=>whnf))
  refine done0 rfl (.cons .tmp .nil) ?_ rfl
  exact congrArg boolSV (decide_eq_true h.2).symm
theorem ipPairsS (l : List Nat) (hl : l.length < 100000) : Sy.Spec Tryz.prog 304 [.val (.slice none 0 0), .sl 1 natSV l] [] (.osl 0) [(0, .row 1 byteSV (pairsL l))] := contract Γ hm 100 F304 Tryz.ntmps304 rfl fun F hF => by
  (conv=>whnf)
  refine G_adopt 0 1000 1 byteSV rfl rfl ?_
  refine G_count l.length (fun j => [(0, .osl 1000), (7, .sl 1 natSV l), (8, intSV l.length), (9, intSV j)]) (fun j => [(1000, .row 1 byteSV (pairsL (l.take j)))]) [] ⟨⟨rfl, rfl, rfl, rfl, rfl, rfl, rfl, rfl, trivial⟩, ⟨.inl rfl, rfl, trivial⟩, rfl, rfl⟩ ?_
  intro j hj
  have hpl := pairsL_length (l.take j)
  (refine rg ?_;(conv=>whnf))
  refine ⟨fun h => ?_, fun h => ?_⟩
  · have hlt : j < l.length := by simpa using h
    have e1 : l[(j : Int).toNat]'(by omega) = l[j] := rfl
    have hsucc : pairsL (l.take (j + 1)) = pairsL (l.take j) ++ [UInt8.ofNat (l[j] / 256), UInt8.ofNat l[j]] := by
      rw [List.take_succ_eq_append_getElem hlt, pairsL_snoc]
    obtain ⟨n, hn⟩ : ∃ n, l[j] = n := ⟨_, rfl⟩
    rw [hn] at e1 hsucc
    have htb := two_bytes n
    (refine rg ?_;(conv=>whnf))
    refine ⟨rfl, by omega, by omega, ?_⟩
    rw [e1]
    (conv=>whnf)
    refine ⟨by omega, ?_⟩
    (conv=>whnf)
    refine stepOp (good_appendT Γ.toTy 20 rfl rfl rfl rfl rfl (.row rfl) (.lit (e := byteSV) (l := [UInt8.ofNat (n / 256), UInt8.ofNat n]) rfl htb) (by simp) (by simp [hpl]; omega) (by simp [hpl]; omega)) rfl rfl ?_
    (refine rg ?_;(conv=>whnf))
    refine ⟨by unfold I64; omega, ?_⟩
    (conv=>whnf)
    exact G_next [(1000, 20)] hlt ⟨⟨rfl, rfl, rfl, rfl, rfl, rfl, rfl, rfl, trivial⟩, ⟨.inl (congrArg (Ob.row 1 byteSV) hsucc), rfl, trivial⟩, rfl, rfl⟩
  · have hjl : j = l.length := by
      have : ¬ j < l.length := by simpa using h
      omega
    subst hjl
    rw [List.take_length]
    (refine rg ?_;(conv=>whnf))
    exact done rfl (.cons .tmp .nil) [(0, 1000)] [(0, .row 1 byteSV (pairsL l))] (fun _ h => h) rfl rfl ⟨trivial, ⟨.inl rfl, rfl, trivial⟩, rfl, rfl⟩
theorem u8_of (n : Nat) : IntKind.u8.wrap (n : Int) = ((UInt8.ofNat n).toNat : Int) := by
  rw [IntKind.wrap_u8]
  simp
end Go.Sy.YtmelpejjondedaaGreat

namespace Go.Sy.YtmelpejjondedaaGreat
open Go.Proofs
attribute [local irreducible] Go.Sy.G Go.Sy.DR
set_option maxRecDepth 100000
set_option maxHeartbeats 4000000
end Go.Sy.YtmelpejjondedaaGreat

namespace Go.Sy.YtmelpejjondedaaGreat
open Go.Proofs
attribute [local irreducible] Go.Sy.G Go.Sy.DR
set_option maxRecDepth 100000
set_option maxHeartbeats 4000000
end Go.Sy.YtmelpejjondedaaGreat

namespace Go.Sy.YtmelpejjondedaaGreat
open Go.Proofs
attribute [local irreducible] Go.Sy.G Go.Sy.DR
set_option maxRecDepth 100000
set_option maxHeartbeats 4000000
theorem wrap_u64_small {x : Int} (h0 : 0 ≤ x) (h1 : x < 18446744073709551616) : IntKind.u64.wrap x = x := by rw [IntKind.wrap_u64]; omega
theorem hostS (ip : Nat) (h : ip < 4294967296) : Sy.Spec Tryz.prog 244 [u32SV ip] [] (u64SV (hostN ip)) [] := contract Γ hm 100 F244 Tryz.ntmps244 rfl fun F hF => by
  (conv=>whnf)
  refine done0 rfl (.cons .tmp .nil) ?_ rfl
  refine congrArg (fun z => SV.val (.int .u64 z)) ?_
  have e : IntKind.u64.wrap (ip : Int) = ip := wrap_u64_small (by omega) (by omega)
  rw [e]
  have hb := bits_or_u64_nat 2199023255552 ip (by decide) (by omega)
  rw [show ((2199023255552 : Nat) : Int) = 2199023255552 from rfl] at hb
  rw [hb, hostN, Int.toNat_natCast]
  have h2 := Nat.two_pow_add_eq_or_of_lt (i := 32) (b := ip) (by omega) 512
  rw [show 2 ^ 32 * 512 = 2199023255552 from rfl] at h2
  rw [← h2]
end Go.Sy.YtmelpejjondedaaGreat

namespace Go.Sy.YtmelpejjondedaaGreat
open Go.Proofs
attribute [local irreducible] Go.Sy.G Go.Sy.DR
set_option maxRecDepth 100000
set_option maxHeartbeats 4000000
theorem tagIsS (d s : Nat) (t : Int) (body : List UInt8) (ht : t ≠ 33024) : Sy.Spec Tryz.prog 166 [frSV d s t body] [] (boolSV false) [] := contract Γ hm 100 F166 Tryz.ntmps166 rfl fun F hF => by
  (conv=>whnf)
  refine done0 rfl (.cons .tmp .nil) ?_ rfl
  exact congrArg boolSV (beq_eq_false_iff_ne.2 ht).symm
theorem or_zero (v : Nat) (hv : v < 9223372036854775808) : bits .or .i64 (IntKind.i64.wrap (0 * 2 ^ min (Int.toNat 12) IntKind.i64.bits)) (v : Int) = v := by
  have h := bits_or_i64_nat 0 v (by decide) hv
  rw [Nat.zero_or] at h
  exact h
theorem tagAddS (d s t v : Nat) (body : List UInt8) (ht : t ≠ 33024) (ht2 : t ≤ 65535) (hv : v ≤ 4094) (hb : body.length ≤ 1500) :
    Sy.Spec Tryz.prog 308 [frSV d s t body, intSV v, intSV 0] [] (.tup [frSV d s 33024 ([UInt8.ofNat (v / 256), UInt8.ofNat v, UInt8.ofNat (t / 256), UInt8.ofNat t] ++ body), intSV 0]) [] := contract Γ hm 100 F308 Tryz.ntmps308 rfl fun F hF => by
  have hor := or_zero v (by omega)
  have tb1 := two_bytes v
  have tb2 := two_bytes t
  (conv=>whnf)
  refine call0 (tagIsS d s t body (by omega)) F166 rfl rfl rfl rfl rfl ?_
  (refine rg ?_;(conv=>whnf);refine aF ?_;refine rg ?_;(conv=>whnf);refine aF ?_;refine rg ?_;(conv=>whnf))
  refine ⟨fun h => absurd (of_decide_eq_true h) (by omega), fun _ => ?_⟩
  (refine rg ?_;(conv=>whnf);refine aF ?_;refine rg ?_;(conv=>whnf);refine aF ?_;refine rg ?_;(conv=>whnf);refine aF ?_;refine rg ?_;(conv=>whnf))
  refine ⟨fun h => absurd (of_decide_eq_true h) (by omega), fun _ => ?_⟩
  (refine rg ?_;(conv=>whnf))
  refine ⟨fun h => absurd (of_decide_eq_true h) (by omega), fun _ => ?_⟩
  (refine rg ?_;(conv=>whnf))
  refine ⟨by omega, ?_⟩
  (conv=>whnf)
  rw [hor]
  refine ⟨by omega, ?_⟩
  (conv=>whnf)
  refine ⟨by omega, ?_⟩
  (conv=>whnf)
  refine stepD (good_appendT Γ.toTy 70 rfl rfl rfl rfl rfl (.lit (e := byteSV) (l := [UInt8.ofNat (v / 256), UInt8.ofNat v, UInt8.ofNat (t / 256), UInt8.ofNat t]) rfl ?_) .sl (by simp) (by simp; omega) (by simp; omega)) (by kernel_rfl) rfl ?_
  · have h1 := List.cons.inj tb1
    have h2 := List.cons.inj tb2
    have h3 := List.cons.inj h1.2
    have h4 := List.cons.inj h2.2
    simp only [List.map_cons, List.map_nil]
    rw [h1.1, h3.1, h2.1, h4.1]
  (refine rd (by kernel_rfl) ?_;(conv=>whnf))
  refine ⟨(by kernel_rfl), ?_⟩
  (conv=>whnf)
  refine G_data 70 rfl ?_
  exact done0 rfl (.cons (.cell rfl rfl rfl rfl) (.cons .tmp .nil)) rfl rfl
end Go.Sy.YtmelpejjondedaaGreat

namespace Go.Sy.YtmelpejjondedaaGreat
open Go.Proofs
def unbe (l : List UInt8) : Nat := l.foldl (fun n c => n * 256 + c.toNat) 0
theorem unbe_snoc (l : List UInt8) (c : UInt8) : unbe (l ++ [c]) = unbe l * 256 + c.toNat := by
  rw [unbe, List.foldl_append]; rfl
theorem unbe_lt : ∀ (k : Nat) (l : List UInt8), l.length = k → unbe l < 256 ^ k
  | 0, l, h => by rw [List.length_eq_zero_iff.1 h]; decide
  | k + 1, l, h => by
    have hne : l ≠ [] := fun e => by rw [e] at h; cases h
    have e := List.dropLast_concat_getLast hne
    have h1 := unbe_lt k l.dropLast (by rw [List.length_dropLast]; omega)
    have h2 := (l.getLast hne).toNat_lt
    rw [← e, unbe_snoc, Nat.pow_succ]
    omega
theorem unbe_take (l : List UInt8) {j : Nat} (h : j < l.length) : unbe (l.take (j + 1)) = unbe (l.take j) * 256 + l[j].toNat := by
  rw [List.take_succ_eq_append_getElem h, unbe_snoc]
theorem u64_cat (m : Nat) (c : UInt8) (h : m < 1099511627776) :
    bits .or .u64 (IntKind.u64.wrap ((m : Int) * 2 ^ min (Int.toNat 8) IntKind.u64.bits)) (IntKind.u64.wrap (c.toNat : Int)) = ((m * 256 + c.toNat : Nat) : Int) := by
  have hc := c.toNat_lt
  have e1 : IntKind.u64.wrap ((m : Int) * 2 ^ min (Int.toNat 8) IntKind.u64.bits) = ((m * 256 : Nat) : Int) := by
    show IntKind.u64.wrap ((m : Int) * 256) = _
    rw [IntKind.wrap_u64]; omega
  have e2 : IntKind.u64.wrap (c.toNat : Int) = (c.toNat : Int) := by rw [IntKind.wrap_u64]; omega
  rw [e1, e2, bits_or_u64_nat _ _ (by omega) (by omega)]
  congr 1
  have h := Nat.two_pow_add_eq_or_of_lt (i := 8) (b := c.toNat) (by omega) m
  rw [Nat.mul_comm m 256]
  exact h.symm
def groupB (m : Nat) : Bool := decide (m / 1099511627776 % 2 = 1)
theorem and_bit (m k : Nat) : m &&& 2 ^ k = if m / 2 ^ k % 2 = 1 then 2 ^ k else 0 := by
  apply Nat.eq_of_testBit_eq
  intro i
  rw [Nat.testBit_and, Nat.testBit_two_pow]
  by_cases hi : k = i
  · subst hi
    rw [decide_eq_true rfl, Bool.and_true, Nat.testBit_eq_decide_div_mod_eq]
    split
    · rename_i h; rw [decide_eq_true h, Nat.testBit_two_pow_self]
    · rename_i h; rw [decide_eq_false h, Nat.zero_testBit]
  · rw [decide_eq_false hi, Bool.and_false]
    split
    · rw [Nat.testBit_two_pow, decide_eq_false hi]
    · rw [Nat.zero_testBit]
theorem group_and (m : Nat) (h : m < 18446744073709551616) : (bits .and .u64 (m : Int) 1099511627776 != 0) = groupB m := by
  have e := bits_and_u64_nat m 1099511627776 h (by decide)
  rw [show ((1099511627776 : Nat) : Int) = 1099511627776 from rfl] at e
  rw [e, show (1099511627776 : Nat) = 2 ^ 40 from rfl, and_bit, groupB, show (1099511627776 : Nat) = 2 ^ 40 from rfl]
  split
  · rename_i h; rw [decide_eq_true h]; rfl
  · rename_i h; rw [decide_eq_false h]; rfl
end Go.Sy.YtmelpejjondedaaGreat

namespace Go.Sy
theorem RdD_nil_sl {M : Nat → Prop} {w : World} {sz : Nat} {α : Type} {e : α → SV} {v : Value} (h : v = .slice none 0 0) : RdD M w (.sl sz e []) v := by
  simp only [RdD]
  exact .inl ⟨trivial, none, 0, h⟩
theorem G_recode {C : Cx} {k : List KI} {s : SS} (d : Nat) {sz : Nat} {α β : Type} {e : α → SV} {l : List α} {e' : β → SV} {l' : List β} (h : s.h d = .row sz e l) (hl : l'.length = l.length)
    (hv : ∀ (M : Nat → Prop) (w : World) (i : Nat) (h1 : i < l.length) (h2 : i < l'.length) (v : Value), RdD M w (e l[i]) v → RdD M w (e' l'[i]) v) (hg : G C k ⟨s.σ, upd s.h d (.row sz e' l')⟩) : G C k s := fun κ a w hs =>
  hg κ a w ⟨hs.defers, hs.size, hs.inv, hs.ctx, hs.slot, fun i => by
    show ObOK κ w i (upd s.h d (.row sz e' l') i)
    by_cases hi : i = d
    · subst hi
      rw [upd_self]
      have := hs.obj i
      rw [h] at this
      rcases this with ⟨h1, rfl⟩ | ⟨b, cap, cs, T, fr, e1, e2, e3, e4, e5, e6⟩
      · exact .inl ⟨h1, List.eq_nil_of_length_eq_zero (by simpa using hl)⟩
      · refine .inr ⟨b, cap, cs, T, fr, by rw [hl]; exact e1, e2, e3, e4, by omega, fun i x hx => ?_⟩
        obtain ⟨hi2, rfl⟩ := hx
        obtain ⟨_, u, hu, hrest⟩ := e6 i (e (l[i]'(by omega))) ⟨by omega, rfl⟩
        exact ⟨hi2, u, hv _ _ i (by omega) hi2 u hu, hrest⟩
    · rw [upd_ne _ _ hi]; exact hs.obj i⟩
end Go.Sy

namespace Go.Sy
theorem RdL_set {κ : Ka} {w : World} {x : SV} : ∀ {l : List SV} {cs : List Value} {i : Nat}, RdL κ w l cs → (∀ y v, l[i]? = some y → Rd κ w y v → Rd κ w x v) → RdL κ w (l.set i x) cs
  | [], _, _, h, _ => h
  | y :: l, cs, 0, h, hx => by
    simp only [RdL, List.set_cons_zero] at h ⊢
    obtain ⟨v, r, e1, e2, e3⟩ := h
    exact ⟨v, r, e1, hx y v rfl e2, e3⟩
  | y :: l, cs, i + 1, h, hx => by
    simp only [RdL, List.set_cons_succ] at h ⊢
    obtain ⟨v, r, e1, e2, e3⟩ := h
    exact ⟨v, r, e1, e2, RdL_set e3 (fun z u hz hu => hx z u hz hu)⟩
theorem G_adoptB {C : Cx} {k : List KI} {s : SS} (b i d sz : Nat) {α : Type} (e : α → SV) {l : List SV} (hb : s.h b = .box l) (h : l[i]? = some (.val (.slice none 0 0))) (hd : s.h d = .fresh) (hbd : Nat.beq b d = false)
    (hg : G C k ⟨s.σ, upd (upd s.h b (.box (l.set i (.osl d)))) d (.row sz e [])⟩) : G C k s := fun κ a w hs => by
  have hne : b ≠ d := fun e => by rw [e, Nat.beq_refl] at hbd; cases hbd
  have hnew : κ d = .new := by have := hs.obj d; rwa [hd] at this
  obtain ⟨st, inv⟩ := step_new hs.inv hnew (e := .nil) (Grew.refl w) (fun b hb => by cases hb)
  refine hg (setK κ d .nil) a w ⟨hs.defers, hs.size, inv, hs.ctx.step inv st, fun j => Rd.step st _ _ (hs.slot j), fun j => ?_⟩
  show ObOK _ w j (upd (upd s.h b (.box (l.set i (.osl d)))) d (.row sz e []) j)
  by_cases hj : j = d
  · subst hj; rw [upd_self]; exact .inl ⟨setK_self _ _ _, rfl⟩
  · rw [upd_ne _ _ hj]
    by_cases hjb : j = b
    · subst hjb
      rw [upd_self]
      have := ObOK.step st hj _ (hs.obj j)
      rw [hb] at this
      obtain ⟨b', cs, T, fr, e1, e2, e3, e4, e5⟩ := this
      refine ⟨b', cs, T, fr, e1, e2, e3, e4, RdL_set e5 fun y v hy hv => ?_⟩
      rw [h] at hy
      cases hy
      simp only [Rd] at hv
      simp only [Rd, setK_self]
      exact hv
    · rw [upd_ne _ _ hjb]; exact ObOK.step st hj _ (hs.obj j)
end Go.Sy

namespace Go.Sy
theorem run_equal_slice_nil {P : Program} (w : World) {t e : TypeId} (h : P.underlying t = some (.slice e)) (ad : Option Addr) (n cap c1 c2 : Nat) : (Op.equal t (.slice ad n cap) (.slice none c1 c2)).run P w = .ok ad.isNone w := by
  have key : ∀ d, (Op.equalIn (d + 1) t (.slice ad n cap) (.slice none c1 c2)).run P w = .ok ad.isNone w := fun d => by
    cases ad <;> simp [Op.equalIn, run_underlying h]
  exact key 9999
inductive NilT (s : SS) : SV → List Nat → Nat → Prop
  | sl {sz : Nat} {α : Type} {e : α → SV} {l : List α} : NilT s (.sl sz e l) [] l.length
  | row {k sz : Nat} {α : Type} {e : α → SV} {l : List α} (h : s.h k = .row sz e l) : NilT s (.osl k) [k] l.length
theorem NilT.at {C : Cx} {s : SS} {κ : Ka} {a : Act} {w : World} {x : Operand} {rd : List Nat} {n : Nat} (hs : St C.F C.n s κ a w) (hx : NilT s (ev s x) rd n) : ∃ (ad : Option Addr) (m cap : Nat), a.eval x = .slice ad m cap ∧ (ad.isNone = true → n = 0) := by
  have h1 : Rd κ w (ev s x) (a.eval x) := hs.ev x
  generalize ev s x = y at *
  cases hx with
  | @sl sz α e l =>
    simp only [Rd, RdD] at h1
    rcases h1 with ⟨rfl, a', cap, h1⟩ | ⟨b, off, cap, h1, _⟩
    · exact ⟨_, _, _, h1, fun _ => rfl⟩
    · exact ⟨_, _, _, h1, fun h => by cases h⟩
  | @row k' sz α e l hr =>
    have hob := hs.obj k'
    rw [hr] at hob
    simp only [Rd] at h1
    rcases hob with ⟨hκ, hl⟩ | ⟨b, cap, _, _, _, hκ, _⟩
    · rw [hκ] at h1
      exact ⟨_, _, _, h1, fun _ => by rw [hl]; rfl⟩
    · rw [hκ] at h1
      exact ⟨_, _, _, h1, fun h => by cases h⟩
theorem stepNil {C : Cx} {k : List KI} {s : SS} {all : Array Oper} {o : Oper} {rest : List Oper} {op : BinOp} {t yt : TypeId} {ti : TI} {et : TypeId} {sz eb n : Nat} {ez : List Value} {x y : Operand} {rd : List Nat} (h : o.op = .binOp op t x y yt) (hop : op = .eql ∨ op = .neq)
    (ht : C.Γ.get t = some ti) (hk : ti.k = .slice et sz eb ez) (hy : ev s y = .val (.slice none 0 0)) (hx : NilT s (ev s x) rd n) (hd : dstOK C.n o = true) (hw : guardV C.n all o s = some true)
    (hg : ∀ b : Bool, (b = true → n = 0) → G C (.ops all rest :: k) (s.upd o.dst ⟨.val (.bool (if op = .eql then b else !b)), rd, []⟩)) : G C (.ops all (o :: rest) :: k) s := fun κ a w hs => by
  have h2 : Rd κ w (ev s y) (a.eval y) := hs.ev y
  rw [hy] at h2
  obtain ⟨ad, m, cap, e1, e2⟩ := hx.at hs
  obtain ⟨d, info, z, k1, k2, _⟩ := C.Γ.ok t ti ht
  rw [hk] at k2
  simp only [TK.ok] at k2
  have hrun := run_equal_slice_nil (P := C.P) w (t := t) (e := et) (by first | exact k2.1 ▸ k1 | (rw [k1, k2.1])) ad m cap 0 0
  have hG := hg ad.isNone e2
  have hv := h2.val
  refine wpList_step fun K hK => ?_
  rw [if_pos (want_ok hs (guardV_ok hw).2 (guardV_ok hw).1)]
  have hx' : (execOp a.eval o).run C.P w = .ok (.value (.bool (if op = .eql then ad.isNone else !ad.isNone))) w := by
    rcases hop with rfl | rfl <;> simp [execOp, h, e1, hv, eqGuard, binOp, hrun]
  simp only [Oper.wp, hx', Oper.upon]
  exact hK _ _ (hG κ _ w (hs.put (U := ⟨.val (.bool (if op = .eql then ad.isNone else !ad.isNone)), rd, []⟩) (dstOK_ok hd) (Step.refl _ κ w) hs.inv (by simp [Rd]) (fun p hp => by cases hp)))
def KeepL (s : SS) : List (Nat × Ob) → Prop
  | [] => True
  | (k, o) :: r => s.h k = o ∧ KeepL s r
theorem KeepL.all {s : SS} : ∀ {l : List (Nat × Ob)}, KeepL s l → ∀ p ∈ l, s.h p.1 = p.2
  | [], _, p, hp => by cases hp
  | (k, o) :: r, h, p, hp => by
    rcases List.mem_cons.1 hp with rfl | hp
    · exact h.1
    · exact KeepL.all h.2 p hp
end Go.Sy

namespace Go.Sy
theorem step_grew {κ : Ka} {w w' : World} (hi : Inv κ w) (g : Grew w w') : Step (fun _ => False) κ w κ w' ∧ Inv κ w' :=
  ⟨⟨g.size, g.os, g.tape, g.output, rfl, fun b hb => g.blk b (hi.mbnd b hb), fun b hb _ => g.blk b hb, fun k b _ hb => g.blk b (hi.bnd k b hb), fun _ _ => rfl, fun _ h => h.elim, fun _ h => .inl h⟩,
   ⟨hi.inj, fun k b h => Nat.lt_of_lt_of_le (hi.bnd k b h) g.size, hi.apart, fun b h => Nat.lt_of_lt_of_le (hi.mbnd b h) g.size⟩⟩
theorem good_min {P : Program} {o : Oper} {s : SS} {x y : Operand} {at_ : Array TypeId} {k k' : IntKind} {m n : Int} (h : o.op = .call ⟨.builtin .min, #[x, y], at_⟩)
    (hx : ev s x = .val (.int k m)) (hy : ev s y = .val (.int k' n)) : Good P o s ⟨.val (.int k (if n < m then n else m)), [], []⟩ :=
  Good.pure fun κ a w _ hr ho => by
    have h1 := hr x (by simp [h, Op.operands, Call.operands])
    have h2 := hr y (by simp [h, Op.operands, Call.operands])
    rw [hx] at h1
    rw [hy] at h2
    refine ⟨.int k (if n < m then n else m), ?_, by simp [Rd]⟩
    simp [execOp, h, resolve, invoke, builtin, Builtin.min_, Builtin.min2, h1.val, h2.val]
end Go.Sy



namespace Go.Sy.YtmelpejjondedaaGreat
open Go.Proofs
end Go.Sy.YtmelpejjondedaaGreat

namespace Go.Sy.YtmelpejjondedaaGreat
open Go.Proofs
attribute [local irreducible] Go.Sy.G Go.Sy.DR
set_option maxRecDepth 20000
set_option maxHeartbeats 4000000
theorem placeS_Device {α : Type} (sz : Nat) (e : α → SV) (l : List α) (i : Int) : Sy.Spec Tryz.prog 126 [.sl sz e l, intSV i] [] (boolSV (placeB i l.length)) [] := contract Γ hm 100 F126 Tryz.ntmps126 rfl fun F hF => by
  (conv=>whnf)
  (repeat' (first | (refine ⟨fun h => ?_, fun h => ?_⟩ <;> (repeat (first | simp only [decide_eq_true_eq] at h | simp only [decide_eq_false_iff_not] at h)) <;> ((refine rg ?_);(conv=>whnf))) | (refine done0 rfl (.cons .tmp .nil) ?_ rfl)))
  all_goals (refine congrArg boolSV ?_)
  all_goals grind [placeB]
theorem placeS_Irb {α : Type} (sz : Nat) (e : α → SV) (l : List α) (i : Int) : Sy.Spec Tryz.prog 190 [.sl sz e l, intSV i] [] (boolSV (placeB i l.length)) [] := contract Γ hm 100 F190 Tryz.ntmps190 rfl fun F hF => by
  (conv=>whnf)
  (repeat' (first | (refine ⟨fun h => ?_, fun h => ?_⟩ <;> (repeat (first | simp only [decide_eq_true_eq] at h | simp only [decide_eq_false_iff_not] at h)) <;> ((refine rg ?_);(conv=>whnf))) | (refine done0 rfl (.cons .tmp .nil) ?_ rfl)))
  all_goals (refine congrArg boolSV ?_)
  all_goals grind [placeB]
theorem placeS_Link {α : Type} (sz : Nat) (e : α → SV) (l : List α) (i : Int) : Sy.Spec Tryz.prog 195 [.sl sz e l, intSV i] [] (boolSV (placeB i l.length)) [] := contract Γ hm 100 F195 Tryz.ntmps195 rfl fun F hF => by
  (conv=>whnf)
  (repeat' (first | (refine ⟨fun h => ?_, fun h => ?_⟩ <;> (repeat (first | simp only [decide_eq_true_eq] at h | simp only [decide_eq_false_iff_not] at h)) <;> ((refine rg ?_);(conv=>whnf))) | (refine done0 rfl (.cons .tmp .nil) ?_ rfl)))
  all_goals (refine congrArg boolSV ?_)
  all_goals grind [placeB]
theorem placeS_Port {α : Type} (sz : Nat) (e : α → SV) (l : List α) (i : Int) : Sy.Spec Tryz.prog 196 [.sl sz e l, intSV i] [] (boolSV (placeB i l.length)) [] := contract Γ hm 100 F196 Tryz.ntmps196 rfl fun F hF => by
  (conv=>whnf)
  (repeat' (first | (refine ⟨fun h => ?_, fun h => ?_⟩ <;> (repeat (first | simp only [decide_eq_true_eq] at h | simp only [decide_eq_false_iff_not] at h)) <;> ((refine rg ?_);(conv=>whnf))) | (refine done0 rfl (.cons .tmp .nil) ?_ rfl)))
  all_goals (refine congrArg boolSV ?_)
  all_goals grind [placeB]
theorem placeS_Domain {α : Type} (sz : Nat) (e : α → SV) (l : List α) (i : Int) : Sy.Spec Tryz.prog 197 [.sl sz e l, intSV i] [] (boolSV (placeB i l.length)) [] := contract Γ hm 100 F197 Tryz.ntmps197 rfl fun F hF => by
  (conv=>whnf)
  (repeat' (first | (refine ⟨fun h => ?_, fun h => ?_⟩ <;> (repeat (first | simp only [decide_eq_true_eq] at h | simp only [decide_eq_false_iff_not] at h)) <;> ((refine rg ?_);(conv=>whnf))) | (refine done0 rfl (.cons .tmp .nil) ?_ rfl)))
  all_goals (refine congrArg boolSV ?_)
  all_goals grind [placeB]
theorem placeS_Vrf {α : Type} (sz : Nat) (e : α → SV) (l : List α) (i : Int) : Sy.Spec Tryz.prog 200 [.sl sz e l, intSV i] [] (boolSV (placeB i l.length)) [] := contract Γ hm 100 F200 Tryz.ntmps200 rfl fun F hF => by
  (conv=>whnf)
  (repeat' (first | (refine ⟨fun h => ?_, fun h => ?_⟩ <;> (repeat (first | simp only [decide_eq_true_eq] at h | simp only [decide_eq_false_iff_not] at h)) <;> ((refine rg ?_);(conv=>whnf))) | (refine done0 rfl (.cons .tmp .nil) ?_ rfl)))
  all_goals (refine congrArg boolSV ?_)
  all_goals grind [placeB]
theorem indexS (l : List Int) (x : Int) (hl : Short l) : Sy.Spec Tryz.prog 161 [.sl 1 intSV l, intSV x] [] (intSV (idxI (· == x) l)) [] := contract Γ hm 100 F161 Tryz.ntmps161 rfl fun F hF => by
  unfold Short at hl
  (conv=>whnf)
  refine G_countP l.length (fun j => ∀ i (h : i < l.length), i < j → (l[i] == x) = false) (fun j => [(0, .sl 1 intSV l), (1, intSV x), (7, intSV l.length), (8, intSV j)]) (fun _ => []) [] (fun i h hj => absurd hj (by omega)) ⟨⟨rfl, rfl, rfl, rfl, rfl, rfl, rfl, rfl, trivial⟩, trivial, rfl, rfl⟩ ?_
  intro j hj hI
  (refine rg ?_;(conv=>whnf))
  (repeat' (first | (refine ⟨fun h => ?_, fun h => ?_⟩ <;> (repeat (first | simp only [decide_eq_true_eq] at h | simp only [decide_eq_false_iff_not] at h | simp only [beq_iff_eq] at h | simp only [beq_eq_false_iff_ne] at h)) <;> ((refine rg ?_);(conv=>whnf))) | (refine done0 rfl (.cons .tmp .nil) ?_ rfl) | (refine ⟨(by kernel_rfl), ?_⟩; ((conv=>whnf))) | (refine ⟨by (omega), by (omega), ?_⟩; ((conv=>whnf))) | (refine ⟨by (unfold I64; omega), ?_⟩; ((conv=>whnf))) | refine G_nextP [] hI (by omega) ?_ ⟨⟨rfl, rfl, rfl, rfl, rfl, rfl, rfl, rfl, trivial⟩, trivial, rfl, rfl⟩))
  all_goals try (refine congrArg intSV ?_)
  · exact idxI_found (by omega) hI (by simpa using h.symm)
  · intro i hi hij
    rcases Nat.lt_or_ge i j with h1 | h1
    · exact hI i hi h1
    · have : i = j := by omega
      subst this
      simpa using Ne.symm h
  · exact idxI_none (fun i hi => hI i hi (by omega))
theorem containsS (l : List Int) (x : Int) (hl : Short l) : Sy.Spec Tryz.prog 86 [.sl 1 intSV l, intSV x] [] (boolSV (inB l x)) [] := contract Γ hm 100 F86 Tryz.ntmps86 rfl fun F hF => by
  (conv=>whnf)
  (repeat' (first | (refine done0 rfl (.cons .tmp .nil) ?_ rfl) | (refine call0 (indexS _ _ hl) F161 rfl rfl rfl rfl rfl ?_; ((refine rg ?_);(conv=>whnf)))))
  exact congrArg boolSV (idxI_any _ _).symm
def memberB (p : Port) (v : Int) : Bool := v != 0 && (v == p.native || inB p.tagged v)
theorem memberS (p : Port) (v : Int) (hl : Short p.tagged) : Sy.Spec Tryz.prog 198 [portSV p, intSV v] [] (boolSV (memberB p v)) [] := contract Γ hm 100 F198 Tryz.ntmps198 rfl fun F hF => by
  (conv=>whnf)
  (repeat' (first | (refine ⟨fun h => ?_, fun h => ?_⟩ <;> (repeat (first | simp only [beq_iff_eq] at h | simp only [beq_eq_false_iff_ne] at h | simp only [bne_iff_ne] at h | simp only [bne_eq_false_iff_eq] at h)) <;> ((refine rg ?_);(conv=>whnf))) | (refine done0 rfl (.cons .tmp .nil) ?_ rfl) | (refine call0 (containsS _ _ hl) F86 rfl rfl rfl rfl rfl ?_; ((refine rg ?_);(conv=>whnf)))))
  all_goals (refine congrArg boolSV ?_)
  all_goals grind [memberB]
def riseP (l : List Int) (least most : Int) (i : Nat) (x : Int) : Bool := decide (least ≤ x) && decide (x ≤ most) && (i == 0 || decide (nth l ((i : Int) - 1) < x))
def risingB (l : List Int) (least most : Int) : Bool := decide (0 < l.length) && decide (l.length ≤ 16) && allB (riseP l least most) l
theorem numRisingS (l : List Int) (least most : Int) (hl : Short l) : Sy.Spec Tryz.prog 199 [.sl 1 intSV l, intSV least, intSV most] [] (boolSV (risingB l least most)) [] := contract Γ hm 100 F199 Tryz.ntmps199 rfl fun F hF => by
  unfold Short at hl
  (conv=>whnf)
  refine G_countP l.length (fun j => Upto (riseP l least most) l j) (fun j => [(0, .sl 1 intSV l), (1, intSV least), (2, intSV most), (9, .sl 1 intSV l), (10, intSV l.length), (11, intSV j)]) (fun _ => []) [] (upto_zero _ _) ⟨⟨rfl, rfl, rfl, rfl, rfl, rfl, rfl, rfl, rfl, rfl, rfl, rfl, trivial⟩, trivial, rfl, rfl⟩ ?_
  intro j hj hI
  (refine rg ?_;(conv=>whnf))
  (repeat' (first | (refine ⟨fun h => ?_, fun h => ?_⟩ <;> (repeat (first | simp only [decide_eq_true_eq] at h | simp only [decide_eq_false_iff_not] at h)) <;> ((refine rg ?_);(conv=>whnf);repeat((first|refine aF ?_|refine aT ?_);(refine rg ?_);(conv=>whnf)))) | (refine done0 rfl (.cons .tmp .nil) ?_ rfl) | (refine ⟨(by kernel_rfl), ?_⟩; ((conv=>whnf))) | (refine ⟨by (first | (unfold I64; omega) | omega), by (omega), ?_⟩; ((conv=>whnf))) | (refine ⟨by (unfold I64; omega), ?_⟩; ((conv=>whnf))) | refine G_nextP [] hI (by omega) ?_ ⟨⟨rfl, rfl, rfl, rfl, rfl, rfl, rfl, rfl, rfl, rfl, rfl, rfl, trivial⟩, trivial, rfl, rfl⟩))
  all_goals try (refine congrArg boolSV ?_)
  all_goals try simp only [Int.toNat_natCast, Int.pred_toNat] at *
  · rw [risingB, allB_false (i := j) (by omega) (by simp [riseP]; omega)]; simp
  · rw [risingB, allB_false (i := j) (by omega) (by simp [riseP]; omega)]; simp
  · rw [risingB, allB_false (i := j) (by omega) (by simp only [riseP, nth_eq (show ((j : Int) - 1).toNat < l.length by omega), Int.pred_toNat, Int.toNat_natCast]; simp; omega)]; simp
  · exact upto_next hI (by omega) (by simp only [riseP, nth_eq (show ((j : Int) - 1).toNat < l.length by omega), Int.pred_toNat, Int.toNat_natCast]; simp; omega)
  · exact upto_next hI (by omega) (by simp [riseP]; omega)
  · rw [risingB, upto_all hI (by omega), Bool.eq_iff_iff]; simp; omega
  · rw [risingB]; simp; omega
theorem risingS (l : List Int) (most : Int) (hl : Short l) : Sy.Spec Tryz.prog 129 [.sl 1 intSV l, intSV most] [] (boolSV (decide (l.length = 0) || risingB l 1 most)) [] := contract Γ hm 100 F129 Tryz.ntmps129 rfl fun F hF => by
  (conv=>whnf)
  (repeat' (first | (refine ⟨fun h => ?_, fun h => ?_⟩ <;> (repeat (first | simp only [beq_iff_eq] at h | simp only [beq_eq_false_iff_ne] at h)) <;> ((refine rg ?_);(conv=>whnf))) | (refine done0 rfl (.cons .tmp .nil) ?_ rfl) | (refine call0 (numRisingS l 1 most hl) F199 rfl rfl rfl rfl rfl ?_; ((refine rg ?_);(conv=>whnf)))))
  all_goals (refine congrArg boolSV ?_)
  all_goals grind
end Go.Sy.YtmelpejjondedaaGreat

namespace Go.Sy.YtmelpejjondedaaGreat
open Go.Proofs
attribute [local irreducible] Go.Sy.G Go.Sy.DR
set_option maxRecDepth 20000
set_option maxHeartbeats 4000000
theorem innL_append {K : List Nat} : ∀ (a b : List SV), innL K (a ++ b) = (innL K a && innL K b)
  | [], b => by simp [innL]
  | x :: a, b => by simp [innL, innL_append a b, Bool.and_assoc]
theorem clo_inn {f : FuncId} {first cap xs : List SV} (hc : (SV.clo (.func f) first cap).inn [] = true) (hx : innL [] xs = true) : innL [] (first ++ xs ++ cap) = true := by
  simp only [SV.inn, Bool.and_eq_true] at hc
  rw [innL_append, innL_append, hc.1, hc.2, hx]
  rfl
theorem indexFuncS_Domain (l : List Domain) (p : Domain → Bool) (f : FuncId) (first cap : List SV) (hc : (SV.clo (.func f) first cap).inn [] = true) (hf : ∀ x ∈ l, FunS Tryz.prog f (first ++ [domainSV x] ++ cap) (boolSV (p x))) (hl : Short l) :
    Sy.Spec Tryz.prog 262 [.sl 6 domainSV l, .clo (.func f) first cap] [] (intSV (idxI p l)) [] := contract Γ hm 100 F262 Tryz.ntmps262 rfl fun F hF => by
  unfold Short at hl
  have hin : ∀ x : Domain, innL [] (first ++ [domainSV x] ++ cap) = true := fun x => clo_inn hc rfl
  (conv=>whnf)
  refine G_countP l.length (fun j => Upto (fun _ x => !(p x)) l j) (fun j => [(0, .sl 6 domainSV l), (1, .clo (.func f) first cap), (7, intSV l.length), (8, intSV j)]) (fun _ => []) [] (upto_zero _ _) ⟨⟨rfl, rfl, ren_id _, hc, rfl, rfl, rfl, rfl, trivial⟩, trivial, rfl, rfl⟩ ?_
  intro j hj hI
  (refine rg ?_;(conv=>whnf))
  refine ⟨fun h => ?_, fun h => ?_⟩
  · have h := of_decide_eq_true h
    have hj2 : j < l.length := by omega
    (refine rg ?_;(conv=>whnf))
    refine ⟨rfl, by omega, by omega, ?_⟩
    (conv=>whnf)
    refine callC (hf l[j] (List.getElem_mem hj2)) rfl rfl rfl (by simp only [hin]; rfl) rfl rfl ?_
    (refine rg ?_;(conv=>whnf))
    refine ⟨fun h2 => ?_, fun h2 => ?_⟩
    · (refine rg ?_;(conv=>whnf))
      refine done0 rfl (.cons .tmp .nil) (congrArg intSV ?_) rfl
      exact idxI_found hj2 (fun i hi hij => by simpa using hI i hi hij) h2
    · (refine rg ?_;(conv=>whnf))
      refine ⟨by unfold I64; omega, ?_⟩
      (conv=>whnf)
      exact G_nextP [] hI hj2 (upto_next hI hj2 (by simp [h2])) ⟨⟨rfl, rfl, ren_id _, hc, rfl, rfl, rfl, rfl, trivial⟩, trivial, rfl, rfl⟩
  · have h := of_decide_eq_false h
    (refine rg ?_;(conv=>whnf))
    refine done0 rfl (.cons .tmp .nil) (congrArg intSV ?_) rfl
    exact idxI_none (fun i hi => by simpa using hI i hi (by omega))
theorem indexFuncS_Port (l : List Port) (p : Port → Bool) (f : FuncId) (first cap : List SV) (hc : (SV.clo (.func f) first cap).inn [] = true) (hf : ∀ x ∈ l, FunS Tryz.prog f (first ++ [portSV x] ++ cap) (boolSV (p x))) (hl : Short l) :
    Sy.Spec Tryz.prog 281 [.sl 7 portSV l, .clo (.func f) first cap] [] (intSV (idxI p l)) [] := contract Γ hm 100 F281 Tryz.ntmps281 rfl fun F hF => by
  unfold Short at hl
  have hin : ∀ x : Port, innL [] (first ++ [portSV x] ++ cap) = true := fun x => clo_inn hc rfl
  (conv=>whnf)
  refine G_countP l.length (fun j => Upto (fun _ x => !(p x)) l j) (fun j => [(0, .sl 7 portSV l), (1, .clo (.func f) first cap), (7, intSV l.length), (8, intSV j)]) (fun _ => []) [] (upto_zero _ _) ⟨⟨rfl, rfl, ren_id _, hc, rfl, rfl, rfl, rfl, trivial⟩, trivial, rfl, rfl⟩ ?_
  intro j hj hI
  (refine rg ?_;(conv=>whnf))
  refine ⟨fun h => ?_, fun h => ?_⟩
  · have h := of_decide_eq_true h
    have hj2 : j < l.length := by omega
    (refine rg ?_;(conv=>whnf))
    refine ⟨rfl, by omega, by omega, ?_⟩
    (conv=>whnf)
    refine callC (hf l[j] (List.getElem_mem hj2)) rfl rfl rfl (by simp only [hin]; rfl) rfl rfl ?_
    (refine rg ?_;(conv=>whnf))
    refine ⟨fun h2 => ?_, fun h2 => ?_⟩
    · (refine rg ?_;(conv=>whnf))
      refine done0 rfl (.cons .tmp .nil) (congrArg intSV ?_) rfl
      exact idxI_found hj2 (fun i hi hij => by simpa using hI i hi hij) h2
    · (refine rg ?_;(conv=>whnf))
      refine ⟨by unfold I64; omega, ?_⟩
      (conv=>whnf)
      exact G_nextP [] hI hj2 (upto_next hI hj2 (by simp [h2])) ⟨⟨rfl, rfl, ren_id _, hc, rfl, rfl, rfl, rfl, trivial⟩, trivial, rfl, rfl⟩
  · have h := of_decide_eq_false h
    (refine rg ?_;(conv=>whnf))
    refine done0 rfl (.cons .tmp .nil) (congrArg intSV ?_) rfl
    exact idxI_none (fun i hi => by simpa using hI i hi (by omega))
theorem allS_Port (l : List Port) (p : Nat → Port → Bool) (f : FuncId) (first cap : List SV) (hc : (SV.clo (.func f) first cap).inn [] = true) (hf : ∀ i (h : i < l.length), FunS Tryz.prog f (first ++ [intSV i, portSV l[i]] ++ cap) (boolSV (p i l[i]))) (hl : Short l) :
    Sy.Spec Tryz.prog 118 [.sl 7 portSV l, .clo (.func f) first cap] [] (boolSV (allB p l)) [] := contract Γ hm 100 F118 Tryz.ntmps118 rfl fun F hF => by
  unfold Short at hl
  have hin : ∀ (i : Nat) (x : Port), innL [] (first ++ [intSV i, portSV x] ++ cap) = true := fun i x => clo_inn hc rfl
  (conv=>whnf)
  refine G_countP l.length (fun j => Upto p l j) (fun j => [(0, .sl 7 portSV l), (1, .clo (.func f) first cap), (7, .sl 7 portSV l), (8, intSV l.length), (9, intSV j)]) (fun _ => []) [] (upto_zero _ _) ⟨⟨rfl, rfl, ren_id _, hc, rfl, rfl, rfl, rfl, rfl, rfl, trivial⟩, trivial, rfl, rfl⟩ ?_
  intro j hj hI
  (refine rg ?_;(conv=>whnf))
  refine ⟨fun h => ?_, fun h => ?_⟩
  · have h := of_decide_eq_true h
    have hj2 : j < l.length := by omega
    (refine rg ?_;(conv=>whnf))
    refine ⟨rfl, by omega, by omega, ?_⟩
    (conv=>whnf)
    refine callC (hf j hj2) rfl rfl rfl (by simp only [hin]; rfl) rfl rfl ?_
    (refine rg ?_;(conv=>whnf))
    refine ⟨fun h2 => ?_, fun h2 => ?_⟩
    · (refine rg ?_;(conv=>whnf))
      refine done0 rfl (.cons .tmp .nil) (congrArg boolSV ?_) rfl
      exact allB_false hj2 (by simpa using h2)
    · (refine rg ?_;(conv=>whnf))
      refine ⟨by unfold I64; omega, ?_⟩
      (conv=>whnf)
      exact G_nextP [] hI hj2 (upto_next hI hj2 (by simpa using h2)) ⟨⟨rfl, rfl, ren_id _, hc, rfl, rfl, rfl, rfl, rfl, rfl, trivial⟩, trivial, rfl, rfl⟩
  · have h := of_decide_eq_false h
    (refine rg ?_;(conv=>whnf))
    refine done0 rfl (.cons .tmp .nil) (congrArg boolSV ?_) rfl
    exact upto_all hI (by omega)
theorem allS_Link (l : List Link) (p : Nat → Link → Bool) (f : FuncId) (first cap : List SV) (hc : (SV.clo (.func f) first cap).inn [] = true) (hf : ∀ i (h : i < l.length), FunS Tryz.prog f (first ++ [intSV i, linkSV l[i]] ++ cap) (boolSV (p i l[i]))) (hl : Short l) :
    Sy.Spec Tryz.prog 120 [.sl 3 linkSV l, .clo (.func f) first cap] [] (boolSV (allB p l)) [] := contract Γ hm 100 F120 Tryz.ntmps120 rfl fun F hF => by
  unfold Short at hl
  have hin : ∀ (i : Nat) (x : Link), innL [] (first ++ [intSV i, linkSV x] ++ cap) = true := fun i x => clo_inn hc rfl
  (conv=>whnf)
  refine G_countP l.length (fun j => Upto p l j) (fun j => [(0, .sl 3 linkSV l), (1, .clo (.func f) first cap), (7, .sl 3 linkSV l), (8, intSV l.length), (9, intSV j)]) (fun _ => []) [] (upto_zero _ _) ⟨⟨rfl, rfl, ren_id _, hc, rfl, rfl, rfl, rfl, rfl, rfl, trivial⟩, trivial, rfl, rfl⟩ ?_
  intro j hj hI
  (refine rg ?_;(conv=>whnf))
  refine ⟨fun h => ?_, fun h => ?_⟩
  · have h := of_decide_eq_true h
    have hj2 : j < l.length := by omega
    (refine rg ?_;(conv=>whnf))
    refine ⟨rfl, by omega, by omega, ?_⟩
    (conv=>whnf)
    refine callC (hf j hj2) rfl rfl rfl (by simp only [hin]; rfl) rfl rfl ?_
    (refine rg ?_;(conv=>whnf))
    refine ⟨fun h2 => ?_, fun h2 => ?_⟩
    · (refine rg ?_;(conv=>whnf))
      refine done0 rfl (.cons .tmp .nil) (congrArg boolSV ?_) rfl
      exact allB_false hj2 (by simpa using h2)
    · (refine rg ?_;(conv=>whnf))
      refine ⟨by unfold I64; omega, ?_⟩
      (conv=>whnf)
      exact G_nextP [] hI hj2 (upto_next hI hj2 (by simpa using h2)) ⟨⟨rfl, rfl, ren_id _, hc, rfl, rfl, rfl, rfl, rfl, rfl, trivial⟩, trivial, rfl, rfl⟩
  · have h := of_decide_eq_false h
    (refine rg ?_;(conv=>whnf))
    refine done0 rfl (.cons .tmp .nil) (congrArg boolSV ?_) rfl
    exact upto_all hI (by omega)
theorem allS_Domain (l : List Domain) (p : Nat → Domain → Bool) (f : FuncId) (first cap : List SV) (hc : (SV.clo (.func f) first cap).inn [] = true) (hf : ∀ i (h : i < l.length), FunS Tryz.prog f (first ++ [intSV i, domainSV l[i]] ++ cap) (boolSV (p i l[i]))) (hl : Short l) :
    Sy.Spec Tryz.prog 115 [.sl 6 domainSV l, .clo (.func f) first cap] [] (boolSV (allB p l)) [] := contract Γ hm 100 F115 Tryz.ntmps115 rfl fun F hF => by
  unfold Short at hl
  have hin : ∀ (i : Nat) (x : Domain), innL [] (first ++ [intSV i, domainSV x] ++ cap) = true := fun i x => clo_inn hc rfl
  (conv=>whnf)
  refine G_countP l.length (fun j => Upto p l j) (fun j => [(0, .sl 6 domainSV l), (1, .clo (.func f) first cap), (7, .sl 6 domainSV l), (8, intSV l.length), (9, intSV j)]) (fun _ => []) [] (upto_zero _ _) ⟨⟨rfl, rfl, ren_id _, hc, rfl, rfl, rfl, rfl, rfl, rfl, trivial⟩, trivial, rfl, rfl⟩ ?_
  intro j hj hI
  (refine rg ?_;(conv=>whnf))
  refine ⟨fun h => ?_, fun h => ?_⟩
  · have h := of_decide_eq_true h
    have hj2 : j < l.length := by omega
    (refine rg ?_;(conv=>whnf))
    refine ⟨rfl, by omega, by omega, ?_⟩
    (conv=>whnf)
    refine callC (hf j hj2) rfl rfl rfl (by simp only [hin]; rfl) rfl rfl ?_
    (refine rg ?_;(conv=>whnf))
    refine ⟨fun h2 => ?_, fun h2 => ?_⟩
    · (refine rg ?_;(conv=>whnf))
      refine done0 rfl (.cons .tmp .nil) (congrArg boolSV ?_) rfl
      exact allB_false hj2 (by simpa using h2)
    · (refine rg ?_;(conv=>whnf))
      refine ⟨by unfold I64; omega, ?_⟩
      (conv=>whnf)
      exact G_nextP [] hI hj2 (upto_next hI hj2 (by simpa using h2)) ⟨⟨rfl, rfl, ren_id _, hc, rfl, rfl, rfl, rfl, rfl, rfl, trivial⟩, trivial, rfl, rfl⟩
  · have h := of_decide_eq_false h
    (refine rg ?_;(conv=>whnf))
    refine done0 rfl (.cons .tmp .nil) (congrArg boolSV ?_) rfl
    exact upto_all hI (by omega)
theorem allS_Static (l : List Static) (p : Nat → Static → Bool) (f : FuncId) (first cap : List SV) (hc : (SV.clo (.func f) first cap).inn [] = true) (hf : ∀ i (h : i < l.length), FunS Tryz.prog f (first ++ [intSV i, staticSV l[i]] ++ cap) (boolSV (p i l[i]))) (hl : Short l) :
    Sy.Spec Tryz.prog 122 [.sl 4 staticSV l, .clo (.func f) first cap] [] (boolSV (allB p l)) [] := contract Γ hm 100 F122 Tryz.ntmps122 rfl fun F hF => by
  unfold Short at hl
  have hin : ∀ (i : Nat) (x : Static), innL [] (first ++ [intSV i, staticSV x] ++ cap) = true := fun i x => clo_inn hc rfl
  (conv=>whnf)
  refine G_countP l.length (fun j => Upto p l j) (fun j => [(0, .sl 4 staticSV l), (1, .clo (.func f) first cap), (7, .sl 4 staticSV l), (8, intSV l.length), (9, intSV j)]) (fun _ => []) [] (upto_zero _ _) ⟨⟨rfl, rfl, ren_id _, hc, rfl, rfl, rfl, rfl, rfl, rfl, trivial⟩, trivial, rfl, rfl⟩ ?_
  intro j hj hI
  (refine rg ?_;(conv=>whnf))
  refine ⟨fun h => ?_, fun h => ?_⟩
  · have h := of_decide_eq_true h
    have hj2 : j < l.length := by omega
    (refine rg ?_;(conv=>whnf))
    refine ⟨rfl, by omega, by omega, ?_⟩
    (conv=>whnf)
    refine callC (hf j hj2) rfl rfl rfl (by simp only [hin]; rfl) rfl rfl ?_
    (refine rg ?_;(conv=>whnf))
    refine ⟨fun h2 => ?_, fun h2 => ?_⟩
    · (refine rg ?_;(conv=>whnf))
      refine done0 rfl (.cons .tmp .nil) (congrArg boolSV ?_) rfl
      exact allB_false hj2 (by simpa using h2)
    · (refine rg ?_;(conv=>whnf))
      refine ⟨by unfold I64; omega, ?_⟩
      (conv=>whnf)
      exact G_nextP [] hI hj2 (upto_next hI hj2 (by simpa using h2)) ⟨⟨rfl, rfl, ren_id _, hc, rfl, rfl, rfl, rfl, rfl, rfl, trivial⟩, trivial, rfl, rfl⟩
  · have h := of_decide_eq_false h
    (refine rg ?_;(conv=>whnf))
    refine done0 rfl (.cons .tmp .nil) (congrArg boolSV ?_) rfl
    exact upto_all hI (by omega)
theorem allS_Flood (l : List Flood) (p : Nat → Flood → Bool) (f : FuncId) (first cap : List SV) (hc : (SV.clo (.func f) first cap).inn [] = true) (hf : ∀ i (h : i < l.length), FunS Tryz.prog f (first ++ [intSV i, floodSV l[i]] ++ cap) (boolSV (p i l[i]))) (hl : Short l) :
    Sy.Spec Tryz.prog 124 [.sl 4 floodSV l, .clo (.func f) first cap] [] (boolSV (allB p l)) [] := contract Γ hm 100 F124 Tryz.ntmps124 rfl fun F hF => by
  unfold Short at hl
  have hin : ∀ (i : Nat) (x : Flood), innL [] (first ++ [intSV i, floodSV x] ++ cap) = true := fun i x => clo_inn hc rfl
  (conv=>whnf)
  refine G_countP l.length (fun j => Upto p l j) (fun j => [(0, .sl 4 floodSV l), (1, .clo (.func f) first cap), (7, .sl 4 floodSV l), (8, intSV l.length), (9, intSV j)]) (fun _ => []) [] (upto_zero _ _) ⟨⟨rfl, rfl, ren_id _, hc, rfl, rfl, rfl, rfl, rfl, rfl, trivial⟩, trivial, rfl, rfl⟩ ?_
  intro j hj hI
  (refine rg ?_;(conv=>whnf))
  refine ⟨fun h => ?_, fun h => ?_⟩
  · have h := of_decide_eq_true h
    have hj2 : j < l.length := by omega
    (refine rg ?_;(conv=>whnf))
    refine ⟨rfl, by omega, by omega, ?_⟩
    (conv=>whnf)
    refine callC (hf j hj2) rfl rfl rfl (by simp only [hin]; rfl) rfl rfl ?_
    (refine rg ?_;(conv=>whnf))
    refine ⟨fun h2 => ?_, fun h2 => ?_⟩
    · (refine rg ?_;(conv=>whnf))
      refine done0 rfl (.cons .tmp .nil) (congrArg boolSV ?_) rfl
      exact allB_false hj2 (by simpa using h2)
    · (refine rg ?_;(conv=>whnf))
      refine ⟨by unfold I64; omega, ?_⟩
      (conv=>whnf)
      exact G_nextP [] hI hj2 (upto_next hI hj2 (by simpa using h2)) ⟨⟨rfl, rfl, ren_id _, hc, rfl, rfl, rfl, rfl, rfl, rfl, trivial⟩, trivial, rfl, rfl⟩
  · have h := of_decide_eq_false h
    (refine rg ?_;(conv=>whnf))
    refine done0 rfl (.cons .tmp .nil) (congrArg boolSV ?_) rfl
    exact upto_all hI (by omega)
theorem allS_Vrf (l : List Vrf) (p : Nat → Vrf → Bool) (f : FuncId) (first cap : List SV) (hc : (SV.clo (.func f) first cap).inn [] = true) (hf : ∀ i (h : i < l.length), FunS Tryz.prog f (first ++ [intSV i, vrfSV l[i]] ++ cap) (boolSV (p i l[i]))) (hl : Short l) :
    Sy.Spec Tryz.prog 127 [.sl 5 vrfSV l, .clo (.func f) first cap] [] (boolSV (allB p l)) [] := contract Γ hm 100 F127 Tryz.ntmps127 rfl fun F hF => by
  unfold Short at hl
  have hin : ∀ (i : Nat) (x : Vrf), innL [] (first ++ [intSV i, vrfSV x] ++ cap) = true := fun i x => clo_inn hc rfl
  (conv=>whnf)
  refine G_countP l.length (fun j => Upto p l j) (fun j => [(0, .sl 5 vrfSV l), (1, .clo (.func f) first cap), (7, .sl 5 vrfSV l), (8, intSV l.length), (9, intSV j)]) (fun _ => []) [] (upto_zero _ _) ⟨⟨rfl, rfl, ren_id _, hc, rfl, rfl, rfl, rfl, rfl, rfl, trivial⟩, trivial, rfl, rfl⟩ ?_
  intro j hj hI
  (refine rg ?_;(conv=>whnf))
  refine ⟨fun h => ?_, fun h => ?_⟩
  · have h := of_decide_eq_true h
    have hj2 : j < l.length := by omega
    (refine rg ?_;(conv=>whnf))
    refine ⟨rfl, by omega, by omega, ?_⟩
    (conv=>whnf)
    refine callC (hf j hj2) rfl rfl rfl (by simp only [hin]; rfl) rfl rfl ?_
    (refine rg ?_;(conv=>whnf))
    refine ⟨fun h2 => ?_, fun h2 => ?_⟩
    · (refine rg ?_;(conv=>whnf))
      refine done0 rfl (.cons .tmp .nil) (congrArg boolSV ?_) rfl
      exact allB_false hj2 (by simpa using h2)
    · (refine rg ?_;(conv=>whnf))
      refine ⟨by unfold I64; omega, ?_⟩
      (conv=>whnf)
      exact G_nextP [] hI hj2 (upto_next hI hj2 (by simpa using h2)) ⟨⟨rfl, rfl, ren_id _, hc, rfl, rfl, rfl, rfl, rfl, rfl, trivial⟩, trivial, rfl, rfl⟩
  · have h := of_decide_eq_false h
    (refine rg ?_;(conv=>whnf))
    refine done0 rfl (.cons .tmp .nil) (congrArg boolSV ?_) rfl
    exact upto_all hI (by omega)
theorem allS_Irb (l : List Irb) (p : Nat → Irb → Bool) (f : FuncId) (first cap : List SV) (hc : (SV.clo (.func f) first cap).inn [] = true) (hf : ∀ i (h : i < l.length), FunS Tryz.prog f (first ++ [intSV i, irbSV l[i]] ++ cap) (boolSV (p i l[i]))) (hl : Short l) :
    Sy.Spec Tryz.prog 130 [.sl 5 irbSV l, .clo (.func f) first cap] [] (boolSV (allB p l)) [] := contract Γ hm 100 F130 Tryz.ntmps130 rfl fun F hF => by
  unfold Short at hl
  have hin : ∀ (i : Nat) (x : Irb), innL [] (first ++ [intSV i, irbSV x] ++ cap) = true := fun i x => clo_inn hc rfl
  (conv=>whnf)
  refine G_countP l.length (fun j => Upto p l j) (fun j => [(0, .sl 5 irbSV l), (1, .clo (.func f) first cap), (7, .sl 5 irbSV l), (8, intSV l.length), (9, intSV j)]) (fun _ => []) [] (upto_zero _ _) ⟨⟨rfl, rfl, ren_id _, hc, rfl, rfl, rfl, rfl, rfl, rfl, trivial⟩, trivial, rfl, rfl⟩ ?_
  intro j hj hI
  (refine rg ?_;(conv=>whnf))
  refine ⟨fun h => ?_, fun h => ?_⟩
  · have h := of_decide_eq_true h
    have hj2 : j < l.length := by omega
    (refine rg ?_;(conv=>whnf))
    refine ⟨rfl, by omega, by omega, ?_⟩
    (conv=>whnf)
    refine callC (hf j hj2) rfl rfl rfl (by simp only [hin]; rfl) rfl rfl ?_
    (refine rg ?_;(conv=>whnf))
    refine ⟨fun h2 => ?_, fun h2 => ?_⟩
    · (refine rg ?_;(conv=>whnf))
      refine done0 rfl (.cons .tmp .nil) (congrArg boolSV ?_) rfl
      exact allB_false hj2 (by simpa using h2)
    · (refine rg ?_;(conv=>whnf))
      refine ⟨by unfold I64; omega, ?_⟩
      (conv=>whnf)
      exact G_nextP [] hI hj2 (upto_next hI hj2 (by simpa using h2)) ⟨⟨rfl, rfl, ren_id _, hc, rfl, rfl, rfl, rfl, rfl, rfl, trivial⟩, trivial, rfl, rfl⟩
  · have h := of_decide_eq_false h
    (refine rg ?_;(conv=>whnf))
    refine done0 rfl (.cons .tmp .nil) (congrArg boolSV ?_) rfl
    exact upto_all hI (by omega)
theorem allS_int (l : List Int) (p : Nat → Int → Bool) (f : FuncId) (first cap : List SV) (hc : (SV.clo (.func f) first cap).inn [] = true) (hf : ∀ i (h : i < l.length), FunS Tryz.prog f (first ++ [intSV i, intSV l[i]] ++ cap) (boolSV (p i l[i]))) (hl : Short l) :
    Sy.Spec Tryz.prog 192 [.sl 1 intSV l, .clo (.func f) first cap] [] (boolSV (allB p l)) [] := contract Γ hm 100 F192 Tryz.ntmps192 rfl fun F hF => by
  unfold Short at hl
  have hin : ∀ (i : Nat) (x : Int), innL [] (first ++ [intSV i, intSV x] ++ cap) = true := fun i x => clo_inn hc rfl
  (conv=>whnf)
  refine G_countP l.length (fun j => Upto p l j) (fun j => [(0, .sl 1 intSV l), (1, .clo (.func f) first cap), (7, .sl 1 intSV l), (8, intSV l.length), (9, intSV j)]) (fun _ => []) [] (upto_zero _ _) ⟨⟨rfl, rfl, ren_id _, hc, rfl, rfl, rfl, rfl, rfl, rfl, trivial⟩, trivial, rfl, rfl⟩ ?_
  intro j hj hI
  (refine rg ?_;(conv=>whnf))
  refine ⟨fun h => ?_, fun h => ?_⟩
  · have h := of_decide_eq_true h
    have hj2 : j < l.length := by omega
    (refine rg ?_;(conv=>whnf))
    refine ⟨rfl, by omega, by omega, ?_⟩
    (conv=>whnf)
    refine callC (hf j hj2) rfl rfl rfl (by simp only [hin]; rfl) rfl rfl ?_
    (refine rg ?_;(conv=>whnf))
    refine ⟨fun h2 => ?_, fun h2 => ?_⟩
    · (refine rg ?_;(conv=>whnf))
      refine done0 rfl (.cons .tmp .nil) (congrArg boolSV ?_) rfl
      exact allB_false hj2 (by simpa using h2)
    · (refine rg ?_;(conv=>whnf))
      refine ⟨by unfold I64; omega, ?_⟩
      (conv=>whnf)
      exact G_nextP [] hI hj2 (upto_next hI hj2 (by simpa using h2)) ⟨⟨rfl, rfl, ren_id _, hc, rfl, rfl, rfl, rfl, rfl, rfl, trivial⟩, trivial, rfl, rfl⟩
  · have h := of_decide_eq_false h
    (refine rg ?_;(conv=>whnf))
    refine done0 rfl (.cons .tmp .nil) (congrArg boolSV ?_) rfl
    exact upto_all hI (by omega)
end Go.Sy.YtmelpejjondedaaGreat

namespace Go.Sy.YtmelpejjondedaaGreat
open Go.Proofs
attribute [local irreducible] Go.Sy.G Go.Sy.DR
set_option maxRecDepth 20000
set_option maxHeartbeats 4000000
structure Net.Fin (n : Net) : Prop where
  devices : Short n.devices
  ports : Short n.ports
  links : Short n.links
  domains : Short n.domains
  statics : Short n.statics
  floods : Short n.floods
  vrfs : Short n.vrfs
  irbs : Short n.irbs
  tagged : ∀ p ∈ n.ports, Short p.tagged
  peers : ∀ d ∈ n.domains, Short d.peers
  addrs : ∀ f ∈ n.floods, Short f.addrs
  imports : ∀ v ∈ n.vrfs, Short v.imports
  exports : ∀ v ∈ n.vrfs, Short v.exports
def domI (n : Net) (dev vlan : Int) : Int := idxI (fun d => d.dev == dev && d.vlan == vlan) n.domains
theorem domainC (dev vlan : Int) (d : Domain) : Sy.Spec Tryz.prog 263 [domainSV d, .ref 1 (intSV dev) 0, .ref 1 (intSV vlan) 0] [] (boolSV (d.dev == dev && d.vlan == vlan)) [] := contract Γ hm 100 F263 Tryz.ntmps263 rfl fun F hF => by
  (conv=>whnf)
  (repeat' (first | (refine ⟨fun h => ?_, fun h => ?_⟩ <;> (repeat (first | simp only [beq_iff_eq] at h | simp only [beq_eq_false_iff_ne] at h)) <;> ((refine rg ?_);(conv=>whnf))) | (refine done0 rfl (.cons .tmp .nil) ?_ rfl)))
  all_goals (refine congrArg boolSV ?_)
  all_goals simp_all
theorem judgeDomainS (n : Net) (dev vlan : Int) (hl : Short n.domains) : Sy.Spec Tryz.prog 191 [netSV n, intSV dev, intSV vlan] [] (intSV (domI n dev vlan)) [] := contract Γ hm 100 F191 Tryz.ntmps191 rfl fun F hF => by
  (conv=>whnf)
  refine G_box 4 1 (intSV dev) rfl rfl rfl ?_
  refine G_box 5 1 (intSV vlan) rfl rfl rfl ?_
  refine call0 (indexFuncS_Domain n.domains (fun d => d.dev == dev && d.vlan == vlan) 263 [] [.ref 1 (intSV dev) 0, .ref 1 (intSV vlan) 0] rfl (fun d _ => ⟨⟨_, _, F263⟩, domainC dev vlan d⟩) hl) F262 rfl rfl rfl rfl rfl ?_
  (refine rg ?_;(conv=>whnf))
  exact done0 rfl (.cons .tmp .nil) rfl rfl
def fewB (n : Net) : Bool := decide (n.devices.length ≤ 8) && decide (n.ports.length ≤ 40) && decide (n.links.length ≤ 20) && decide (n.domains.length ≤ 48) && decide (n.statics.length ≤ 64) && decide (n.floods.length ≤ 48) && decide (n.vrfs.length ≤ 16) && decide (n.irbs.length ≤ 48)
theorem fewS (n : Net) : Sy.Spec Tryz.prog 114 [netSV n] [] (boolSV (fewB n)) [] := contract Γ hm 100 F114 Tryz.ntmps114 rfl fun F hF => by
  (conv=>whnf)
  (repeat' (first | (refine ⟨fun h => ?_, fun h => ?_⟩ <;> (repeat (first | simp only [decide_eq_true_eq] at h | simp only [decide_eq_false_iff_not] at h)) <;> ((refine rg ?_);(conv=>whnf);repeat((refine aF ?_);(refine rg ?_);(conv=>whnf)))) | (refine done0 rfl (.cons .tmp .nil) ?_ rfl)))
  all_goals (refine congrArg boolSV ?_)
  all_goals (unfold fewB; rw [Bool.eq_iff_iff]; simp; omega)
def bareB (n : Net) (i : Nat) (d : Domain) : Bool :=
  placeB d.dev n.devices.length && decide (1 ≤ d.vlan) && decide (d.vlan ≤ 4094) && decide (0 ≤ d.vni) && decide (d.vni ≤ 16777215) && (d.irb == -1 || placeB d.irb n.irbs.length && (nth n.irbs d.irb).domain == i) && domI n d.dev d.vlan == i
theorem bareS (n : Net) (i : Nat) (d : Domain) (hl : Short n.domains) : Sy.Spec Tryz.prog 116 [netSV n, intSV i, domainSV d] [] (boolSV (bareB n i d)) [] := contract Γ hm 100 F116 Tryz.ntmps116 rfl fun F hF => by
  (conv=>whnf)
  (repeat' (first | (refine ⟨fun h => ?_, fun h => ?_⟩ <;> (repeat (first | simp only [placeB] at h | simp only [decide_eq_true_eq] at h | simp only [decide_eq_false_iff_not] at h | simp only [beq_iff_eq] at h | simp only [beq_eq_false_iff_ne] at h | simp only [Bool.and_eq_true] at h | simp only [Bool.and_eq_false_iff] at h)) <;> ((refine rg ?_);(conv=>whnf);repeat((first|refine aF ?_|refine aT ?_);(refine rg ?_);(conv=>whnf)))) | (refine done0 rfl (.cons .tmp .nil) ?_ rfl) | (refine ⟨(by kernel_rfl), ?_⟩; ((conv=>whnf))) | (refine ⟨by (omega), by (omega), ?_⟩; ((conv=>whnf))) | (refine call0 (placeS_Device 5 deviceSV n.devices d.dev) F126 rfl rfl rfl rfl rfl ?_; ((refine rg ?_);(conv=>whnf))) | (refine call0 (placeS_Irb 5 irbSV n.irbs d.irb) F190 rfl rfl rfl rfl rfl ?_; ((refine rg ?_);(conv=>whnf))) | (refine call0 (judgeDomainS n d.dev d.vlan hl) F191 rfl rfl rfl rfl rfl ?_; ((refine rg ?_);(conv=>whnf)))))
  all_goals (refine congrArg boolSV ?_)
  all_goals (clear hF; grind [bareB, placeB, nth_eq])
def vtepB (n : Net) (d : Domain) : Bool := (nth n.devices d.dev).vtep != 0
theorem vtepS (n : Net) (d : Domain) (hd : placeB d.dev n.devices.length = true) : Sy.Spec Tryz.prog 264 [netSV n, domainSV d] [] (boolSV (vtepB n d)) [] := contract Γ hm 100 F264 Tryz.ntmps264 rfl fun F hF => by
  simp only [placeB, Bool.and_eq_true, decide_eq_true_eq] at hd
  (conv=>whnf)
  (repeat' (first | (refine done0 rfl (.cons .tmp .nil) ?_ rfl) | (refine ⟨(by kernel_rfl), ?_⟩; ((conv=>whnf))) | (refine ⟨by (omega), by (omega), ?_⟩; ((conv=>whnf)))))
  all_goals (refine congrArg boolSV ?_)
  all_goals (clear hF; grind [vtepB, nth_eq])
def peerB (n : Net) (i : Nat) (d : Domain) (k : Int) : Bool :=
  placeB k n.domains.length && k != i && placeB (nth n.domains k).dev n.devices.length && (nth n.domains k).dev != d.dev && (nth n.domains k).vni == d.vni && d.vni != 0 && vtepB n (nth n.domains k) && vtepB n d && inB (nth n.domains k).peers i
theorem peerS (n : Net) (i : Nat) (d : Domain) (k : Int) (hn : n.Fin) (hd : placeB d.dev n.devices.length = true) : Sy.Spec Tryz.prog 194 [netSV n, intSV i, domainSV d, intSV k] [] (boolSV (peerB n i d k)) [] := contract Γ hm 100 F194 Tryz.ntmps194 rfl fun F hF => by
  (conv=>whnf)
  (repeat' (first | (refine ⟨fun h => ?_, fun h => ?_⟩ <;> (repeat (first | simp only [placeB] at h | simp only [decide_eq_true_eq] at h | simp only [decide_eq_false_iff_not] at h | simp only [beq_iff_eq] at h | simp only [beq_eq_false_iff_ne] at h | simp only [bne_iff_ne] at h | simp only [bne_eq_false_iff_eq] at h | simp only [Bool.and_eq_true] at h | simp only [Bool.and_eq_false_iff] at h | simp only [Bool.not_eq_true'] at h | simp only [Bool.not_eq_false'] at h)) <;> ((refine rg ?_);(conv=>whnf);repeat((first|refine aF ?_|refine aT ?_);(refine rg ?_);(conv=>whnf)))) | (refine done0 rfl (.cons .tmp .nil) ?_ rfl) | (refine ⟨(by kernel_rfl), ?_⟩; ((conv=>whnf))) | (refine ⟨by (omega), by (omega), ?_⟩; ((conv=>whnf))) | (refine call0 (placeS_Domain 6 domainSV n.domains k) F197 rfl rfl rfl rfl rfl ?_; ((refine rg ?_);(conv=>whnf))) | (refine call0 (placeS_Device 5 deviceSV n.devices (n.domains[k.toNat]'(by omega)).dev) F126 rfl rfl rfl rfl rfl ?_; ((refine rg ?_);(conv=>whnf))) | (refine call0 (vtepS n (n.domains[k.toNat]'(by omega)) (by simp only [placeB, Bool.and_eq_true, decide_eq_true_eq]; omega)) F264 rfl rfl rfl rfl rfl ?_; ((refine rg ?_);(conv=>whnf))) | (refine call0 (vtepS n d hd) F264 rfl rfl rfl rfl rfl ?_; ((refine rg ?_);(conv=>whnf))) | (refine call0 (containsS (n.domains[k.toNat]'(by omega)).peers i (hn.peers _ (List.getElem_mem _))) F86 rfl rfl rfl rfl rfl ?_; ((refine rg ?_);(conv=>whnf)))))
  all_goals (refine congrArg boolSV ?_; clear hF; grind [peerB, placeB, nth_eq])
def peersB (n : Net) (i : Nat) (d : Domain) : Bool := allB (fun at_ k => peerB n i d k && idxI (· == k) d.peers == at_) d.peers
theorem peers1 (n : Net) (i : Nat) (d : Domain) (at_ : Nat) (k : Int) (hn : n.Fin) (hp : Short d.peers) (hd : placeB d.dev n.devices.length = true) :
    Sy.Spec Tryz.prog 193 [intSV at_, intSV k, .ref 8 (netSV n) 0, .ref 1 (intSV i) 0, .ref 6 (domainSV d) 0] [] (boolSV (peerB n i d k && idxI (· == k) d.peers == at_)) [] := contract Γ hm 100 F193 Tryz.ntmps193 rfl fun F hF => by
  (conv=>whnf)
  (repeat' (first | (refine ⟨fun h => ?_, fun h => ?_⟩ <;> ((refine rg ?_);(conv=>whnf))) | (refine done0 rfl (.cons .tmp .nil) ?_ rfl) | (refine call0 (peerS n i d k hn hd) F194 rfl rfl rfl rfl rfl ?_; ((refine rg ?_);(conv=>whnf))) | (refine call0 (indexS d.peers k hp) F161 rfl rfl rfl rfl rfl ?_; ((refine rg ?_);(conv=>whnf)))))
  all_goals (refine congrArg boolSV ?_; clear hF; grind)
theorem peersS (n : Net) (i : Nat) (d : Domain) (hn : n.Fin) (hp : Short d.peers) (hd : placeB d.dev n.devices.length = true) : Sy.Spec Tryz.prog 117 [netSV n, intSV i, domainSV d] [] (boolSV (peersB n i d)) [] := contract Γ hm 100 F117 Tryz.ntmps117 rfl fun F hF => by
  (conv=>whnf)
  refine G_box 3 8 (netSV n) rfl rfl rfl ?_
  refine G_box 4 1 (intSV i) rfl rfl rfl ?_
  refine G_box 5 6 (domainSV d) rfl rfl rfl ?_
  refine call0 (allS_int d.peers (fun at_ k => peerB n i d k && idxI (· == k) d.peers == at_) 193 [] [.ref 8 (netSV n) 0, .ref 1 (intSV i) 0, .ref 6 (domainSV d) 0] rfl (fun a ha => ⟨⟨_, _, F193⟩, peers1 n i d a d.peers[a] hn hp hd⟩) hp) F192 rfl rfl rfl rfl rfl ?_
  (refine rg ?_;(conv=>whnf))
  exact done0 rfl (.cons .tmp .nil) rfl rfl
end Go.Sy.YtmelpejjondedaaGreat

namespace Go.Sy.YtmelpejjondedaaGreat
open Go.Proofs
end Go.Sy.YtmelpejjondedaaGreat

namespace Go.Sy.YtmelpejjondedaaGreat
open Go.Proofs
end Go.Sy.YtmelpejjondedaaGreat

namespace Go.Sy.YtmelpejjondedaaGreat
open Go.Proofs
attribute [local irreducible] Go.Sy.G Go.Sy.DR
set_option maxRecDepth 20000
set_option maxHeartbeats 4000000
def netDomain (n : Net) (dev vlan : Int) : Bool := decide (0 ≤ domI n dev vlan)
def portB (n : Net) (i : Nat) (p : Port) : Bool :=
  placeB p.dev n.devices.length && decide (0 ≤ p.native) && decide (p.native ≤ 4094) && (decide (p.tagged.length = 0) || risingB p.tagged 1 4094) && !inB p.tagged p.native && !(p.native == 0 && decide (p.tagged.length = 0)) &&
    allB (fun _ v => netDomain n p.dev v) p.tagged && !(decide (0 < p.native) && !netDomain n p.dev p.native) &&
    (p.link == -1 || placeB p.link n.links.length && ((nth n.links p.link).a == i || (nth n.links p.link).b == i))
theorem judgePortS (n : Net) (i : Nat) (p : Port) (hn : n.Fin) (hp : Short p.tagged) : Sy.Spec Tryz.prog 119 [netSV n, intSV i, portSV p] [] (boolSV (portB n i p)) [] := contract Γ hm 100 F119 Tryz.ntmps119 rfl fun F hF => by
  (conv=>whnf)
  (repeat' (first | (refine ⟨fun h => ?_, fun h => ?_⟩ <;> (repeat (first | simp only [placeB] at h | simp only [decide_eq_true_eq] at h | simp only [decide_eq_false_iff_not] at h | simp only [beq_iff_eq] at h | simp only [beq_eq_false_iff_ne] at h | simp only [Bool.and_eq_true] at h | simp only [Bool.or_eq_true] at h | simp only [Bool.and_eq_false_iff] at h | simp only [Bool.or_eq_false_iff] at h | simp only [Bool.not_eq_true'] at h | simp only [Bool.not_eq_false'] at h)) <;> ((refine rg ?_);(conv=>whnf);repeat((first|refine aF ?_|refine aT ?_);(refine rg ?_);(conv=>whnf)))) | (refine done0 rfl (.cons .tmp .nil) ?_ rfl) | (refine call0 (placeS_Device 5 deviceSV n.devices p.dev) F126 rfl rfl rfl rfl rfl ?_; ((refine rg ?_);(conv=>whnf))) | (refine call0 (risingS p.tagged 4094 hp) F129 rfl rfl rfl rfl rfl ?_; ((refine rg ?_);(conv=>whnf))) | (refine call0 (containsS p.tagged p.native hp) F86 rfl rfl rfl rfl rfl ?_; ((refine rg ?_);(conv=>whnf)))))
  all_goals first | (refine congrArg boolSV ?_; clear hF; grind [portB, placeB]) | skip
  all_goals (
    refine G_box 3 8 (netSV n) rfl rfl rfl ?_
    refine G_box 5 7 (portSV p) rfl rfl rfl ?_
    refine G_countP p.tagged.length (fun j => Upto (fun _ v => netDomain n p.dev v) p.tagged j) (fun j => [(1, intSV i), (3, .ref 8 (netSV n) 0), (5, .ref 7 (portSV p) 0), (51, .sl 1 intSV p.tagged), (52, intSV p.tagged.length), (53, intSV j)]) (fun _ => []) [] (upto_zero _ _) ⟨⟨rfl, rfl, rfl, rfl, rfl, rfl, rfl, rfl, rfl, rfl, rfl, rfl, trivial⟩, trivial, rfl, rfl⟩ ?_
    intro j hj hI
    have hsh := hp
    unfold Short at hsh
    ((first|refine rG Γ hm ?_|refine rD Γ hm (by kernel_rfl) ?_);(conv=>whnf);repeat((first|refine aF ?_|refine aT ?_);(first|refine rG Γ hm ?_|refine rD Γ hm (by kernel_rfl) ?_);conv=>whnf)))
  all_goals (
    (repeat' (first | (refine ⟨fun h => ?_, fun h => ?_⟩ <;> (repeat (first | simp only [placeB] at h | simp only [decide_eq_true_eq] at h | simp only [decide_eq_false_iff_not] at h | simp only [beq_iff_eq] at h | simp only [beq_eq_false_iff_ne] at h | simp only [Bool.and_eq_true] at h | simp only [Bool.and_eq_false_iff] at h)) <;> ((refine rg ?_);(conv=>whnf);repeat((refine aF ?_);(refine rg ?_);(conv=>whnf)))) | (refine done0 rfl (.cons .tmp .nil) ?_ rfl) | (refine ⟨(by kernel_rfl), ?_⟩; ((conv=>whnf))) | (refine ⟨by (omega), by (omega), ?_⟩; ((conv=>whnf))) | (refine ⟨by (unfold I64; omega), ?_⟩; ((conv=>whnf))) | (refine call0 (judgeDomainS n p.dev (p.tagged[j]'(by omega)) hn.domains) F191 rfl rfl rfl rfl rfl ?_; ((refine rg ?_);(conv=>whnf))) | (refine call0 (judgeDomainS n p.dev p.native hn.domains) F191 rfl rfl rfl rfl rfl ?_; ((refine rg ?_);(conv=>whnf))) | (refine call0 (placeS_Link 3 linkSV n.links p.link) F195 rfl rfl rfl rfl rfl ?_; ((refine rg ?_);(conv=>whnf))) | refine G_nextP [] hI (by omega) ?_ ⟨⟨rfl, rfl, rfl, rfl, rfl, rfl, rfl, rfl, rfl, rfl, rfl, rfl, trivial⟩, trivial, rfl, rfl⟩)))
  all_goals first
    | exact upto_next hI (by omega) (by simp only [netDomain, decide_eq_true_eq]; omega)
    | (refine congrArg boolSV ?_
       have h0 : allB (fun _ v => netDomain n p.dev v) p.tagged = false := allB_false (i := j) (by omega) (by simp only [netDomain, decide_eq_false_iff_not]; omega)
       clear hF hI; grind [portB])
    | (refine congrArg boolSV ?_
       have h0 : allB (fun _ v => netDomain n p.dev v) p.tagged = true := upto_all hI (by omega)
       clear hF hI; grind [portB, placeB, netDomain, nth_eq])
end Go.Sy.YtmelpejjondedaaGreat

namespace Go.Sy.YtmelpejjondedaaGreat
open Go.Proofs
attribute [local irreducible] Go.Sy.G Go.Sy.DR
set_option maxRecDepth 20000
set_option maxHeartbeats 4000000
def linkB (n : Net) (i : Nat) (l : Link) : Bool :=
  placeB l.a n.ports.length && placeB l.b n.ports.length && (nth n.ports l.a).dev != (nth n.ports l.b).dev && (nth n.ports l.a).link == i && (nth n.ports l.b).link == i
theorem judgeLinkS (n : Net) (i : Nat) (l : Link) : Sy.Spec Tryz.prog 121 [netSV n, intSV i, linkSV l] [] (boolSV (linkB n i l)) [] := contract Γ hm 100 F121 Tryz.ntmps121 rfl fun F hF => by
  (conv=>whnf)
  (repeat' (first | (refine ⟨fun h => ?_, fun h => ?_⟩ <;> (repeat (first | simp only [placeB] at h | simp only [decide_eq_true_eq] at h | simp only [decide_eq_false_iff_not] at h | simp only [beq_iff_eq] at h | simp only [beq_eq_false_iff_ne] at h | simp only [bne_iff_ne] at h | simp only [bne_eq_false_iff_eq] at h | simp only [Bool.and_eq_true] at h | simp only [Bool.and_eq_false_iff] at h | simp only [Bool.not_eq_true'] at h | simp only [Bool.not_eq_false'] at h)) <;> ((refine rg ?_);(conv=>whnf);repeat((first|refine aF ?_|refine aT ?_);(refine rg ?_);(conv=>whnf)))) | (refine done0 rfl (.cons .tmp .nil) ?_ rfl) | (refine ⟨(by kernel_rfl), ?_⟩; ((conv=>whnf))) | (refine ⟨by (omega), by (omega), ?_⟩; ((conv=>whnf))) | (refine call0 (placeS_Port 7 portSV n.ports l.a) F196 rfl rfl rfl rfl rfl ?_; ((refine rg ?_);(conv=>whnf))) | (refine call0 (placeS_Port 7 portSV n.ports l.b) F196 rfl rfl rfl rfl rfl ?_; ((refine rg ?_);(conv=>whnf)))))
  all_goals (refine congrArg boolSV ?_; clear hF; grind [linkB, placeB, nth_eq])
def staticB (n : Net) (s : Static) : Bool :=
  placeB s.domain n.domains.length && placeB s.port n.ports.length && (nth n.ports s.port).dev == (nth n.domains s.domain).dev && memberB (nth n.ports s.port) (nth n.domains s.domain).vlan
theorem judgeStaticS (n : Net) (i : Nat) (s : Static) (hn : n.Fin) : Sy.Spec Tryz.prog 123 [netSV n, intSV i, staticSV s] [] (boolSV (staticB n s)) [] := contract Γ hm 100 F123 Tryz.ntmps123 rfl fun F hF => by
  (conv=>whnf)
  (repeat' (first | (refine ⟨fun h => ?_, fun h => ?_⟩ <;> (repeat (first | simp only [placeB] at h | simp only [decide_eq_true_eq] at h | simp only [decide_eq_false_iff_not] at h | simp only [beq_iff_eq] at h | simp only [beq_eq_false_iff_ne] at h | simp only [Bool.and_eq_true] at h | simp only [Bool.and_eq_false_iff] at h | simp only [Bool.not_eq_true'] at h | simp only [Bool.not_eq_false'] at h)) <;> ((refine rg ?_);(conv=>whnf);repeat((refine aT ?_);(refine rg ?_);(conv=>whnf)))) | (refine done0 rfl (.cons .tmp .nil) ?_ rfl) | (refine ⟨(by kernel_rfl), ?_⟩; ((conv=>whnf))) | (refine ⟨by (omega), by (omega), ?_⟩; ((conv=>whnf))) | (refine call0 (placeS_Domain 6 domainSV n.domains s.domain) F197 rfl rfl rfl rfl rfl ?_; ((refine rg ?_);(conv=>whnf))) | (refine call0 (placeS_Port 7 portSV n.ports s.port) F196 rfl rfl rfl rfl rfl ?_; ((refine rg ?_);(conv=>whnf))) | (refine call0 (memberS (n.ports[s.port.toNat]'(by omega)) (n.domains[s.domain.toNat]'(by omega)).vlan (hn.tagged _ (List.getElem_mem _))) F198 rfl rfl rfl rfl rfl ?_; ((refine rg ?_);(conv=>whnf)))))
  all_goals (refine congrArg boolSV ?_; clear hF; grind [staticB, placeB, nth_eq])
def irbB (n : Net) (i : Nat) (x : Irb) : Bool :=
  placeB x.domain n.domains.length && placeB x.vrf n.vrfs.length && (nth n.domains x.domain).dev == (nth n.vrfs x.vrf).dev && (nth n.domains x.domain).irb == i && decide (1 ≤ x.bits) && decide (x.bits ≤ 30)
theorem judgeIrbS (n : Net) (i : Nat) (x : Irb) : Sy.Spec Tryz.prog 131 [netSV n, intSV i, irbSV x] [] (boolSV (irbB n i x)) [] := contract Γ hm 100 F131 Tryz.ntmps131 rfl fun F hF => by
  (conv=>whnf)
  (repeat' (first | (refine ⟨fun h => ?_, fun h => ?_⟩ <;> (repeat (first | simp only [placeB] at h | simp only [decide_eq_true_eq] at h | simp only [decide_eq_false_iff_not] at h | simp only [beq_iff_eq] at h | simp only [beq_eq_false_iff_ne] at h | simp only [Bool.and_eq_true] at h | simp only [Bool.and_eq_false_iff] at h)) <;> ((refine rd (by kernel_rfl) ?_);(conv=>whnf);repeat((refine aF ?_);(refine rd (by kernel_rfl) ?_);(conv=>whnf)))) | (refine done0 rfl (.cons .tmp .nil) ?_ rfl) | (refine ⟨(by kernel_rfl), ?_⟩; ((conv=>whnf))) | (refine ⟨by (omega), by (omega), ?_⟩; ((conv=>whnf))) | (refine callD0 (placeS_Domain 6 domainSV n.domains x.domain) F197 rfl rfl rfl (by kernel_rfl) rfl ?_; ((refine rd (by kernel_rfl) ?_);(conv=>whnf))) | (refine callD0 (placeS_Vrf 5 vrfSV n.vrfs x.vrf) F200 rfl rfl rfl (by kernel_rfl) rfl ?_; ((refine rd (by kernel_rfl) ?_);(conv=>whnf)))))
  all_goals (refine congrArg boolSV ?_; clear hF; grind [irbB, placeB, nth_eq])
def floodB (n : Net) (f : Flood) : Bool := placeB f.dev n.devices.length && decide (f.addrs.length ≤ 16)
theorem right1 (n : Net) (i : Nat) (f : Flood) : Sy.Spec Tryz.prog 125 [intSV i, floodSV f, .ref 8 (netSV n) 0] [] (boolSV (floodB n f)) [] := contract Γ hm 100 F125 Tryz.ntmps125 rfl fun F hF => by
  (conv=>whnf)
  (repeat' (first | (refine ⟨fun h => ?_, fun h => ?_⟩ <;> (repeat (first | simp only [placeB] at h | simp only [decide_eq_true_eq] at h | simp only [decide_eq_false_iff_not] at h | simp only [Bool.and_eq_true] at h | simp only [Bool.and_eq_false_iff] at h)) <;> ((refine rg ?_);(conv=>whnf))) | (refine done0 rfl (.cons .tmp .nil) ?_ rfl) | (refine call0 (placeS_Device 5 deviceSV n.devices f.dev) F126 rfl rfl rfl rfl rfl ?_; ((refine rg ?_);(conv=>whnf)))))
  all_goals (refine congrArg boolSV ?_; clear hF; grind [floodB, placeB])
def riseB (l : List Int) (most : Int) : Bool := decide (l.length = 0) || risingB l 1 most
def vrfB (n : Net) (v : Vrf) : Bool := placeB v.dev n.devices.length && riseB v.imports 65535 && riseB v.exports 65535
theorem right2 (n : Net) (i : Nat) (v : Vrf) (h1 : Short v.imports) (h2 : Short v.exports) : Sy.Spec Tryz.prog 128 [intSV i, vrfSV v, .ref 8 (netSV n) 0] [] (boolSV (vrfB n v)) [] := contract Γ hm 100 F128 Tryz.ntmps128 rfl fun F hF => by
  (conv=>whnf)
  (repeat' (first | (refine ⟨fun h => ?_, fun h => ?_⟩ <;> (repeat (first | simp only [placeB] at h | simp only [decide_eq_true_eq] at h | simp only [decide_eq_false_iff_not] at h | simp only [Bool.and_eq_true] at h | simp only [Bool.or_eq_true] at h | simp only [Bool.and_eq_false_iff] at h | simp only [Bool.or_eq_false_iff] at h)) <;> ((refine rg ?_);(conv=>whnf);repeat((refine aF ?_);(refine rg ?_);(conv=>whnf)))) | (refine done0 rfl (.cons .tmp .nil) ?_ rfl) | (refine call0 (placeS_Device 5 deviceSV n.devices v.dev) F126 rfl rfl rfl rfl rfl ?_; ((refine rg ?_);(conv=>whnf))) | (refine call0 (risingS v.imports 65535 h1) F129 rfl rfl rfl rfl rfl ?_; ((refine rg ?_);(conv=>whnf))) | (refine call0 (risingS v.exports 65535 h2) F129 rfl rfl rfl rfl rfl ?_; ((refine rg ?_);(conv=>whnf)))))
  all_goals (refine congrArg boolSV ?_; clear hF; grind [vrfB, riseB, placeB])
end Go.Sy.YtmelpejjondedaaGreat

namespace Go.Sy.YtmelpejjondedaaGreat
open Go.Proofs
attribute [local irreducible] Go.Sy.G Go.Sy.DR
set_option maxRecDepth 20000
set_option maxHeartbeats 4000000
def netRightB (n : Net) : Bool :=
  fewB n && allB (bareB n) n.domains && allB (peersB n) n.domains && allB (portB n) n.ports && allB (linkB n) n.links && allB (fun _ => staticB n) n.statics && allB (fun _ => floodB n) n.floods && allB (fun _ => vrfB n) n.vrfs && allB (irbB n) n.irbs
theorem bare_dev {n : Net} (h : allB (bareB n) n.domains = true) {i : Nat} (hi : i < n.domains.length) : placeB n.domains[i].dev n.devices.length = true := by
  have := allB_iff.1 h i hi
  simp only [bareB, Bool.and_eq_true] at this
  exact this.1.1.1.1.1.1
theorem namesRightS (n : Net) (hn : n.Fin) : Sy.Spec Tryz.prog 67 [netSV n] [] (boolSV (netRightB n)) [] := contract Γ hm 100 F67 Tryz.ntmps67 rfl fun F hF => by
  (conv=>whnf)
  refine G_box 1 8 (netSV n) rfl rfl rfl ?_
  (repeat' (first | (refine ⟨fun h => ?_, fun h => ?_⟩ <;> ((refine rg ?_);(conv=>whnf);repeat((refine aF ?_);(refine rg ?_);(conv=>whnf)))) | (refine done0 rfl (.cons .tmp .nil) ?_ rfl) | (refine call0 (fewS n) F114 rfl rfl rfl rfl rfl ?_; ((refine rg ?_);(conv=>whnf))) | (refine call0 (allS_Domain n.domains (bareB n) 116 [netSV n] [] rfl (fun i h => ⟨⟨_, _, F116⟩, bareS n i n.domains[i] hn.domains⟩) hn.domains) F115 rfl rfl rfl rfl rfl ?_; ((refine rg ?_);(conv=>whnf))) | (refine call0 (allS_Domain n.domains (peersB n) 117 [netSV n] [] rfl (fun i h => ⟨⟨_, _, F117⟩, peersS n i n.domains[i] hn (hn.peers _ (List.getElem_mem _)) (bare_dev ‹_› h)⟩) hn.domains) F115 rfl rfl rfl rfl rfl ?_; ((refine rg ?_);(conv=>whnf))) | (refine call0 (allS_Port n.ports (portB n) 119 [netSV n] [] rfl (fun i h => ⟨⟨_, _, F119⟩, judgePortS n i n.ports[i] hn (hn.tagged _ (List.getElem_mem _))⟩) hn.ports) F118 rfl rfl rfl rfl rfl ?_; ((refine rg ?_);(conv=>whnf))) | (refine call0 (allS_Link n.links (linkB n) 121 [netSV n] [] rfl (fun i h => ⟨⟨_, _, F121⟩, judgeLinkS n i n.links[i]⟩) hn.links) F120 rfl rfl rfl rfl rfl ?_; ((refine rg ?_);(conv=>whnf))) | (refine call0 (allS_Static n.statics (fun _ => staticB n) 123 [netSV n] [] rfl (fun i h => ⟨⟨_, _, F123⟩, judgeStaticS n i n.statics[i] hn⟩) hn.statics) F122 rfl rfl rfl rfl rfl ?_; ((refine rg ?_);(conv=>whnf))) | (refine call0 (allS_Flood n.floods (fun _ => floodB n) 125 [] [.ref 8 (netSV n) 0] rfl (fun i h => ⟨⟨_, _, F125⟩, right1 n i n.floods[i]⟩) hn.floods) F124 rfl rfl rfl rfl rfl ?_; ((refine rg ?_);(conv=>whnf))) | (refine call0 (allS_Vrf n.vrfs (fun _ => vrfB n) 128 [] [.ref 8 (netSV n) 0] rfl (fun i h => ⟨⟨_, _, F128⟩, right2 n i n.vrfs[i] (hn.imports _ (List.getElem_mem _)) (hn.exports _ (List.getElem_mem _))⟩) hn.vrfs) F127 rfl rfl rfl rfl rfl ?_; ((refine rg ?_);(conv=>whnf))) | (refine call0 (allS_Irb n.irbs (irbB n) 131 [netSV n] [] rfl (fun i h => ⟨⟨_, _, F131⟩, judgeIrbS n i n.irbs[i]⟩) hn.irbs) F130 rfl rfl rfl rfl rfl ?_; ((refine rg ?_);(conv=>whnf)))))
  all_goals (refine congrArg boolSV ?_)
  all_goals (clear hF; simp_all [netRightB])
end Go.Sy.YtmelpejjondedaaGreat

namespace Go.Sy.YtmelpejjondedaaGreat
open Go.Proofs
attribute [local irreducible] Go.Sy.G Go.Sy.DR
set_option maxRecDepth 20000
set_option maxHeartbeats 4000000
theorem e_port {n : Net} (h : netRightB n = true) {i : Nat} (hi : i < n.ports.length) : portB n i n.ports[i] = true := by
  simp only [netRightB, Bool.and_eq_true] at h
  exact allB_iff.1 h.1.1.1.1.1.2 i hi
theorem e_dom {n : Net} (h : netRightB n = true) {i : Nat} (hi : i < n.domains.length) : bareB n i n.domains[i] = true := by
  simp only [netRightB, Bool.and_eq_true] at h
  exact allB_iff.1 h.1.1.1.1.1.1.1.2 i hi
theorem e_dom_facts {n : Net} (h : netRightB n = true) {i : Nat} (hi : i < n.domains.length) :
    (0 ≤ n.domains[i].dev ∧ n.domains[i].dev.toNat < n.devices.length) ∧ (1 ≤ n.domains[i].vlan ∧ n.domains[i].vlan ≤ 4094) ∧ (0 ≤ n.domains[i].vni ∧ n.domains[i].vni ≤ 16777215) ∧ (n.domains[i].irb = -1 ∨ 0 ≤ n.domains[i].irb ∧ n.domains[i].irb.toNat < n.irbs.length) := by
  have := e_dom h hi
  simp only [bareB, placeB, Bool.and_eq_true, Bool.or_eq_true, decide_eq_true_eq, beq_iff_eq] at this
  omega
end Go.Sy.YtmelpejjondedaaGreat

namespace Go.Sy.YtmelpejjondedaaGreat
open Go.Proofs
attribute [local irreducible] Go.Sy.G Go.Sy.DR
set_option maxRecDepth 20000
set_option maxHeartbeats 4000000
def filtI (p : Nat → Bool) (j : Nat) : List Int := ((List.range j).filter p).map Int.ofNat
theorem filtI_succ (p : Nat → Bool) (j : Nat) : filtI p (j + 1) = if p j = true then filtI p j ++ [(j : Int)] else filtI p j := by
  rw [filtI, List.range_succ, List.filter_append, List.map_append]
  split
  · rename_i h
    rw [List.filter_cons_of_pos (by exact h), List.filter_nil]; rfl
  · rename_i h
    rw [List.filter_cons_of_neg (by exact h), List.filter_nil, List.map_nil, List.append_nil]; rfl
theorem filtI_length (p : Nat → Bool) (j : Nat) : (filtI p j).length ≤ j := by
  have := List.length_filter_le p (List.range j)
  simpa [filtI] using this
theorem filtI_mem {p : Nat → Bool} {j : Nat} {x : Int} : x ∈ filtI p j ↔ 0 ≤ x ∧ x < j ∧ p x.toNat = true := by
  simp only [filtI, List.mem_map, List.mem_filter, List.mem_range]
  constructor
  · rintro ⟨i, h1, rfl⟩
    exact ⟨Int.natCast_nonneg i, by simp; omega, h1.2⟩
  · rintro ⟨h1, h2, h3⟩
    exact ⟨x.toNat, ⟨by omega, h3⟩, Int.toNat_of_nonneg h1⟩
def inDom (n : Net) (d : Domain) (i : Nat) : Bool := (nth n.ports i).dev == d.dev && memberB (nth n.ports i) d.vlan
def membersL (n : Net) (i : Int) : List Int := filtI (inDom n (nth n.domains i)) n.ports.length
def membersT (n : Net) (i : Int) : List Int := if (0 ≤ i ∧ i < n.domains.length) ∧ netRightB n = true then membersL n i else []
theorem membersT_short (n : Net) (hn : n.Fin) (i : Int) : Short (membersT n i) := by
  have := hn.ports
  unfold Short at this ⊢
  unfold membersT
  split
  · have := filtI_length (inDom n (nth n.domains i)) n.ports.length
    unfold membersL
    omega
  · simp
theorem namesMembersS (n : Net) (hn : n.Fin) (i : Int) : Sy.Spec Tryz.prog 288 [netSV n, intSV i] [] (.sl 1 intSV (membersT n i)) [] := contract Γ hm 100 F288 Tryz.ntmps288 rfl fun F hF => by
  have hr := namesRightS n hn
  have hpl := placeS_Domain 6 domainSV n.domains i
  have hsp := hn.ports
  unfold Short at hsp
  (conv=>whnf)
  refine call0 hr F67 rfl rfl rfl rfl rfl ?_
  cases hb : netRightB n
  · rw [membersT, if_neg (by simp [hb])]
    (refine rg ?_;(conv=>whnf);refine aT ?_;refine rg ?_;(conv=>whnf);refine aT ?_;refine rg ?_;(conv=>whnf))
    refine G_nilsl 4 1 intSV rfl ?_
    (refine rg ?_;(conv=>whnf))
    exact done0 rfl (.cons .tmp .nil) rfl rfl
  (refine rg ?_;(conv=>whnf);refine aF ?_;refine rg ?_;(conv=>whnf))
  refine call0 hpl F197 rfl rfl rfl rfl rfl ?_
  by_cases hi : 0 ≤ i ∧ i < n.domains.length
  rotate_left
  · have h0 : placeB i n.domains.length = false := by simp only [placeB, Bool.and_eq_false_iff, decide_eq_false_iff_not]; omega
    rw [membersT, if_neg (by simp [hb, hi]), h0]
    (refine rg ?_;(conv=>whnf);refine aT ?_;refine rg ?_;(conv=>whnf))
    refine G_nilsl 4 1 intSV rfl ?_
    (refine rg ?_;(conv=>whnf))
    exact done0 rfl (.cons .tmp .nil) rfl rfl
  have h0 : placeB i n.domains.length = true := by simp only [placeB, Bool.and_eq_true, decide_eq_true_eq]; exact hi
  rw [membersT, if_pos ⟨hi, hb⟩, h0]
  have hk : i.toNat < n.domains.length := by omega
  have hf := e_dom_facts hb hk
  have e1 : nth n.domains i = n.domains[i.toNat] := nth_eq hk
  rw [membersL, e1]
  obtain ⟨d, hd⟩ : ∃ d, n.domains[i.toNat] = d := ⟨_, rfl⟩
  rw [hd] at hf ⊢
  refine G_box 2 8 (netSV n) rfl rfl rfl ?_
  (refine rg ?_;(conv=>whnf);refine aF ?_;refine rg ?_;(conv=>whnf))
  refine G_adopt 5 1000 1 intSV rfl rfl ?_
  refine G_count n.ports.length (fun j => [(1, intSV i), (2, .ref 8 (netSV n) 0), (5, .osl 1000), (19, .sl 7 portSV n.ports), (20, intSV n.ports.length), (21, intSV j)]) (fun j => [(1000, .row 1 intSV (filtI (inDom n d) j))]) []
    ⟨⟨rfl, rfl, rfl, rfl, rfl, rfl, rfl, rfl, rfl, rfl, rfl, rfl, trivial⟩, ⟨.inl rfl, rfl, trivial⟩, rfl, rfl⟩ ?_
  intro j hj
  (refine rg ?_;(conv=>whnf))
  refine ⟨fun h => ?_, fun h => ?_⟩
  · have hlt : j < n.ports.length := by simpa using h
    have hsucc := filtI_succ (inDom n d) j
    have hfl := filtI_length (inDom n d) j
    have hin : inDom n d j = ((n.ports[j]).dev == d.dev && memberB n.ports[j] d.vlan) := by
      rw [inDom, nth_eq (l := n.ports) (i := (j : Int)) (by simpa using hlt)]; rfl
    rw [hin] at hsucc
    have e1 : n.ports[(j : Int).toNat]'(by omega) = n.ports[j] := rfl
    have hms := memberS n.ports[j] d.vlan (hn.tagged _ (List.getElem_mem _))
    obtain ⟨p, hp⟩ : ∃ p, n.ports[j] = p := ⟨_, rfl⟩
    rw [hp] at e1 hsucc hms
    obtain ⟨u, hu⟩ : ∃ u, filtI (inDom n d) j = u := ⟨_, rfl⟩
    rw [hu] at hsucc hfl ⊢
    (refine rg ?_;(conv=>whnf))
    refine ⟨rfl, by omega, by omega, ?_⟩
    rw [e1]
    (conv=>whnf)
    refine ⟨rfl, hi.1, hk, ?_⟩
    rw [hd]
    (conv=>whnf)
    refine ⟨fun h2 => ?_, fun h2 => ?_⟩
    · have h3 : ∃ k : Nat, (k : Int) = i := ⟨i.toNat, by omega⟩
      rw [h2, Bool.true_and] at hsucc
      (refine rd (by kernel_rfl) ?_;(conv=>whnf))
      refine ⟨rfl, hi.1, hk, ?_⟩
      rw [hd]
      (conv=>whnf)
      refine callD0 hms F198 rfl rfl rfl (by kernel_rfl) rfl ?_
      (refine rd (by kernel_rfl) ?_;(conv=>whnf))
      refine ⟨(by kernel_rfl), ?_⟩
      (conv=>whnf)
      refine ⟨fun h4 => ?_, fun h4 => ?_⟩
      · rw [if_pos h4] at hsucc
        (refine rg ?_;(conv=>whnf))
        refine stepOp (good_appendT Γ.toTy 48 rfl rfl rfl rfl rfl (.row rfl) (.lit (e := intSV) (l := [(j : Int)]) rfl rfl) (by simp) (by simp; omega) (by simp; omega)) rfl rfl ?_
        (refine rg ?_;(conv=>whnf))
        refine ⟨by unfold I64; omega, ?_⟩
        (conv=>whnf)
        exact G_next [(1000, 48)] hlt ⟨⟨rfl, rfl, rfl, rfl, rfl, rfl, rfl, rfl, rfl, rfl, rfl, rfl, trivial⟩, ⟨.inl (congrArg (Ob.row 1 intSV) hsucc), rfl, trivial⟩, rfl, rfl⟩
      · rw [if_neg (by simp [h4])] at hsucc
        (refine rg ?_;(conv=>whnf))
        refine ⟨by unfold I64; omega, ?_⟩
        (conv=>whnf)
        exact G_next [] hlt ⟨⟨rfl, rfl, rfl, rfl, rfl, rfl, rfl, rfl, rfl, rfl, rfl, rfl, trivial⟩, ⟨.inl (congrArg (Ob.row 1 intSV) hsucc), rfl, trivial⟩, rfl, rfl⟩
    · rw [if_neg (by simp [h2])] at hsucc
      (refine rd (by kernel_rfl) ?_;(conv=>whnf))
      refine ⟨(by kernel_rfl), ?_⟩
      ((conv=>whnf);refine aF ?_;refine rg ?_;(conv=>whnf))
      refine ⟨by unfold I64; omega, ?_⟩
      (conv=>whnf)
      exact G_next [] hlt ⟨⟨rfl, rfl, rfl, rfl, rfl, rfl, rfl, rfl, rfl, rfl, rfl, rfl, trivial⟩, ⟨.inl (congrArg (Ob.row 1 intSV) hsucc), rfl, trivial⟩, rfl, rfl⟩
  · have : j = n.ports.length := by have := of_decide_eq_false h; omega
    subst this
    refine G_data 1000 rfl ?_
    (refine rg ?_;(conv=>whnf))
    exact done0 rfl (.cons .tmp .nil) rfl rfl
end Go.Sy.YtmelpejjondedaaGreat

namespace Go.Sy.YtmelpejjondedaaGreat
open Go.Proofs
attribute [local irreducible] Go.Sy.G Go.Sy.DR
set_option maxRecDepth 20000
set_option maxHeartbeats 4000000
theorem findS_Domain (n : Net) (hn : n.Fin) (l : List Domain) (p : Domain → Bool) (f : FuncId) (first cap : List SV) (hc : (SV.clo (.func f) first cap).inn [] = true) (hf : ∀ x ∈ l, FunS Tryz.prog f (first ++ [domainSV x] ++ cap) (boolSV (p x))) (hl : Short l) :
    Sy.Spec Tryz.prog 238 [netSV n, .sl 6 domainSV l, .clo (.func f) first cap] [] (intSV (if netRightB n = true then idxI p l else -1)) [] := contract Γ hm 100 F238 Tryz.ntmps238 rfl fun F hF => by
  have hr := namesRightS n hn
  have q := indexFuncS_Domain l p f first cap hc hf hl
  (conv=>whnf)
  refine call0 hr F67 rfl rfl rfl rfl rfl ?_
  cases hb : netRightB n
  · rw [if_neg (by simp)]
    (refine rg ?_;(conv=>whnf);refine aT ?_;refine rg ?_;(conv=>whnf))
    exact done0 rfl (.cons .tmp .nil) rfl rfl
  rw [if_pos rfl]
  (refine rg ?_;(conv=>whnf);refine aF ?_;refine rg ?_;(conv=>whnf))
  refine call0 q F262 rfl rfl (by simp only [innL, hc, Bool.and_true]; rfl) rfl rfl ?_
  (refine rg ?_;(conv=>whnf))
  exact done0 rfl (.cons .tmp .nil) rfl rfl
theorem namesDomainC (dev vlan : Int) (d : Domain) : Sy.Spec Tryz.prog 239 [domainSV d, .ref 1 (intSV dev) 0, .ref 1 (intSV vlan) 0] [] (boolSV (d.dev == dev && d.vlan == vlan)) [] := contract Γ hm 100 F239 Tryz.ntmps239 rfl fun F hF => by
  (conv=>whnf)
  (repeat' (first | (refine ⟨fun h => ?_, fun h => ?_⟩ <;> (repeat (first | simp only [beq_iff_eq] at h | simp only [beq_eq_false_iff_ne] at h)) <;> ((refine rg ?_);(conv=>whnf))) | (refine done0 rfl (.cons .tmp .nil) ?_ rfl)))
  all_goals (refine congrArg boolSV ?_)
  all_goals simp_all
def domainT (n : Net) (dev vlan : Int) : Int := if netRightB n = true then domI n dev vlan else -1
theorem namesDomainS (n : Net) (hn : n.Fin) (dev vlan : Int) : Sy.Spec Tryz.prog 169 [netSV n, intSV dev, intSV vlan] [] (intSV (domainT n dev vlan)) [] := contract Γ hm 100 F169 Tryz.ntmps169 rfl fun F hF => by
  have q := findS_Domain n hn n.domains (fun d => d.dev == dev && d.vlan == vlan) 239 [] [.ref 1 (intSV dev) 0, .ref 1 (intSV vlan) 0] rfl (fun d _ => ⟨⟨_, _, F239⟩, namesDomainC dev vlan d⟩) hn.domains
  (conv=>whnf)
  refine G_box 4 1 (intSV dev) rfl rfl rfl ?_
  refine G_box 5 1 (intSV vlan) rfl rfl rfl ?_
  refine call0 q F238 rfl rfl rfl rfl rfl ?_
  (refine rg ?_;(conv=>whnf))
  exact done0 rfl (.cons .tmp .nil) rfl rfl
def otherT (n : Net) (i : Int) : Int :=
  if (0 ≤ i ∧ i < n.ports.length) ∧ 0 ≤ (nth n.ports i).link ∧ netRightB n = true then
    (if (nth n.links (nth n.ports i).link).a = i then (nth n.links (nth n.ports i).link).b else (nth n.links (nth n.ports i).link).a) else -1
theorem e_port_link {n : Net} (h : netRightB n = true) {i : Nat} (hi : i < n.ports.length) (hl : 0 ≤ n.ports[i].link) :
    n.ports[i].link.toNat < n.links.length ∧ ((nth n.links n.ports[i].link).a = i ∨ (nth n.links n.ports[i].link).b = i) := by
  have := e_port h hi
  simp only [portB, placeB, Bool.and_eq_true, Bool.or_eq_true, decide_eq_true_eq, beq_iff_eq] at this
  rcases this.2 with h1 | h1
  · omega
  · exact ⟨by omega, h1.2⟩
theorem linksOtherS2 (n : Net) (hn : n.Fin) (i : Int) : Sy.Spec Tryz.prog 258 [netSV n, intSV i] [] (intSV (otherT n i)) [] := contract Γ hm 100 F258 Tryz.ntmps258 rfl fun F hF => by
  have hr := namesRightS n hn
  (conv=>whnf)
  refine ⟨fun h => ?_, fun h => ?_⟩
  · have h1 : i < 0 := of_decide_eq_true h
    rw [otherT, if_neg (by omega)]
    (refine rg ?_;(conv=>whnf);refine aT ?_;refine rg ?_;(conv=>whnf);refine aT ?_;refine rg ?_;(conv=>whnf);refine aT ?_;refine rg ?_;(conv=>whnf))
    exact done0 rfl (.cons .tmp .nil) rfl rfl
  have h1 : 0 ≤ i := by have := of_decide_eq_false h; omega
  (refine rg ?_;(conv=>whnf))
  refine ⟨fun h => ?_, fun h => ?_⟩
  · have h2 : n.ports.length ≤ i := of_decide_eq_true h
    rw [otherT, if_neg (by omega)]
    (refine rg ?_;(conv=>whnf);refine aT ?_;refine rg ?_;(conv=>whnf);refine aT ?_;refine rg ?_;(conv=>whnf))
    exact done0 rfl (.cons .tmp .nil) rfl rfl
  have h2 : i < n.ports.length := by have := of_decide_eq_false h; omega
  have hk : i.toNat < n.ports.length := by omega
  have e1 : nth n.ports i = n.ports[i.toNat] := nth_eq hk
  have hlk := fun (hb : netRightB n = true) => e_port_link hb hk
  rw [otherT, e1]
  obtain ⟨p, hp⟩ : ∃ p, n.ports[i.toNat] = p := ⟨_, rfl⟩
  rw [hp] at hlk ⊢
  (refine rg ?_;(conv=>whnf))
  refine ⟨rfl, h1, hk, ?_⟩
  rw [hp]
  (conv=>whnf)
  refine ⟨fun h => ?_, fun h => ?_⟩
  · have h3 : p.link < 0 := of_decide_eq_true h
    rw [if_neg (by omega)]
    (refine rg ?_;(conv=>whnf);refine aT ?_;refine rg ?_;(conv=>whnf))
    exact done0 rfl (.cons .tmp .nil) rfl rfl
  have h3 : 0 ≤ p.link := by have := of_decide_eq_false h; omega
  (refine rg ?_;(conv=>whnf))
  refine call0 hr F67 rfl rfl rfl rfl rfl ?_
  cases hb : netRightB n
  · rw [if_neg (by simp)]
    (refine rg ?_;(conv=>whnf);refine aT ?_;refine rg ?_;(conv=>whnf))
    exact done0 rfl (.cons .tmp .nil) rfl rfl
  rw [if_pos ⟨⟨h1, h2⟩, h3, rfl⟩]
  have hq := hlk hb h3
  have e2 : nth n.links p.link = n.links[p.link.toNat] := nth_eq hq.1
  rw [e2]
  obtain ⟨l, hl⟩ : ∃ l, n.links[p.link.toNat]'hq.1 = l := ⟨_, rfl⟩
  rw [hl]
  (refine rg ?_;(conv=>whnf);refine aF ?_;refine rg ?_;(conv=>whnf))
  refine ⟨rfl, h1, hk, ?_⟩
  rw [hp]
  (conv=>whnf)
  refine ⟨rfl, h3, hq.1, ?_⟩
  rw [hl]
  (conv=>whnf)
  refine ⟨(by kernel_rfl), ?_⟩
  (conv=>whnf)
  refine ⟨fun h => ?_, fun h => ?_⟩
  · have h4 : l.a = i := by simpa using h
    rw [if_pos h4]
    (refine rg ?_;(conv=>whnf))
    exact done0 rfl (.cons .tmp .nil) rfl rfl
  · have h4 : ¬ l.a = i := by simpa using h
    rw [if_neg h4]
    (refine rg ?_;(conv=>whnf))
    exact done0 rfl (.cons .tmp .nil) rfl rfl
end Go.Sy.YtmelpejjondedaaGreat

namespace Go.Sy.YtmelpejjondedaaGreat
open Go.Proofs
attribute [local irreducible] Go.Sy.G Go.Sy.DR
set_option maxRecDepth 20000
set_option maxHeartbeats 4000000
end Go.Sy.YtmelpejjondedaaGreat

namespace Go.Sy.YtmelpejjondedaaGreat
open Go.Proofs
attribute [local irreducible] Go.Sy.G Go.Sy.DR
set_option maxRecDepth 20000
set_option maxHeartbeats 4000000
end Go.Sy.YtmelpejjondedaaGreat

namespace Go.Sy.YtmelpejjondedaaGreat
open Go.Proofs
attribute [local irreducible] Go.Sy.G Go.Sy.DR
set_option maxRecDepth 20000
set_option maxHeartbeats 4000000
theorem indexFuncS_Int (l : List Int) (p : Int → Bool) (f : FuncId) (first cap : List SV) (hc : (SV.clo (.func f) first cap).inn [] = true) (hf : ∀ x ∈ l, FunS Tryz.prog f (first ++ [intSV x] ++ cap) (boolSV (p x))) (hl : Short l) :
    Sy.Spec Tryz.prog 321 [.sl 1 intSV l, .clo (.func f) first cap] [] (intSV (idxI p l)) [] := contract Γ hm 100 F321 Tryz.ntmps321 rfl fun F hF => by
  unfold Short at hl
  have hin : ∀ x : Int, innL [] (first ++ [intSV x] ++ cap) = true := fun x => clo_inn hc rfl
  (conv=>whnf)
  refine G_countP l.length (fun j => Upto (fun _ x => !(p x)) l j) (fun j => [(0, .sl 1 intSV l), (1, .clo (.func f) first cap), (7, intSV l.length), (8, intSV j)]) (fun _ => []) [] (upto_zero _ _) ⟨⟨rfl, rfl, ren_id _, hc, rfl, rfl, rfl, rfl, trivial⟩, trivial, rfl, rfl⟩ ?_
  intro j hj hI
  (refine rg ?_;(conv=>whnf))
  refine ⟨fun h => ?_, fun h => ?_⟩
  · have h := of_decide_eq_true h
    have hj2 : j < l.length := by omega
    (refine rg ?_;(conv=>whnf))
    refine ⟨rfl, by omega, by omega, ?_⟩
    (conv=>whnf)
    refine callC (hf l[j] (List.getElem_mem hj2)) rfl rfl rfl (by simp only [hin]; rfl) rfl rfl ?_
    (refine rg ?_;(conv=>whnf))
    refine ⟨fun h2 => ?_, fun h2 => ?_⟩
    · (refine rg ?_;(conv=>whnf))
      refine done0 rfl (.cons .tmp .nil) (congrArg intSV ?_) rfl
      exact idxI_found hj2 (fun i hi hij => by simpa using hI i hi hij) h2
    · (refine rg ?_;(conv=>whnf))
      refine ⟨by unfold I64; omega, ?_⟩
      (conv=>whnf)
      exact G_nextP [] hI hj2 (upto_next hI hj2 (by simp [h2])) ⟨⟨rfl, rfl, ren_id _, hc, rfl, rfl, rfl, rfl, trivial⟩, trivial, rfl, rfl⟩
  · have h := of_decide_eq_false h
    (refine rg ?_;(conv=>whnf))
    refine done0 rfl (.cons .tmp .nil) (congrArg intSV ?_) rfl
    exact idxI_none (fun i hi => by simpa using hI i hi (by omega))
theorem containsFuncS_Int (l : List Int) (p : Int → Bool) (f : FuncId) (first cap : List SV) (hc : (SV.clo (.func f) first cap).inn [] = true) (hf : ∀ x ∈ l, FunS Tryz.prog f (first ++ [intSV x] ++ cap) (boolSV (p x))) (hl : Short l) :
    Sy.Spec Tryz.prog 345 [.sl 1 intSV l, .clo (.func f) first cap] [] (boolSV (decide (0 ≤ idxI p l))) [] := contract Γ hm 100 F345 Tryz.ntmps345 rfl fun F hF => by
  have h0 : innL [] [.sl 1 intSV l, .clo (.func f) first cap] = true := by simp only [innL, hc]; rfl
  (conv=>whnf)
  refine call0 (indexFuncS_Int l p f first cap hc hf hl) F321 rfl rfl (by simp only [h0]; rfl) rfl rfl ?_
  (refine rg ?_;(conv=>whnf))
  exact done0 rfl (.cons .tmp .nil) rfl rfl
theorem wantedC (v : Vrf) (hv : Short v.imports) (t : Int) : Sy.Spec Tryz.prog 344 [intSV t, .ref 5 (vrfSV v) 0] [] (boolSV (inB v.imports t)) [] := contract Γ hm 100 F344 Tryz.ntmps344 rfl fun F hF => by
  have q := containsS v.imports t hv
  (conv=>whnf)
  refine call0 q F86 rfl rfl rfl rfl rfl ?_
  (refine rg ?_;(conv=>whnf))
  exact done0 rfl (.cons .tmp .nil) rfl rfl
def leaksB (n : Net) (i k : Int) : Bool := i == k || (nth n.vrfs i).dev == (nth n.vrfs k).dev && decide (0 ≤ idxI (inB (nth n.vrfs k).imports) (nth n.vrfs i).exports)
theorem vrfsLeaksS (n : Net) (hn : n.Fin) (hb : netRightB n = true) (i k : Int) (hi : 0 ≤ i ∧ i.toNat < n.vrfs.length) (hk : 0 ≤ k ∧ k.toNat < n.vrfs.length) :
    Sy.Spec Tryz.prog 332 [netSV n, intSV i, intSV k] [] (boolSV (leaksB n i k)) [] := contract Γ hm 100 F332 Tryz.ntmps332 rfl fun F hF => by
  have hr := namesRightS n hn
  rw [hb] at hr
  have him := hn.imports _ (List.getElem_mem hk.2)
  have hex := hn.exports _ (List.getElem_mem hi.2)
  rw [leaksB, nth_eq hi.2, nth_eq hk.2]
  obtain ⟨a, ha⟩ : ∃ a, n.vrfs[i.toNat]'hi.2 = a := ⟨_, rfl⟩
  obtain ⟨b, hbb⟩ : ∃ b, n.vrfs[k.toNat]'hk.2 = b := ⟨_, rfl⟩
  rw [ha] at hex ⊢
  rw [hbb] at him ⊢
  have q := containsFuncS_Int a.exports (inB b.imports) 344 [] [.ref 5 (vrfSV b) 0] rfl (fun t _ => ⟨⟨_, _, F344⟩, wantedC b him t⟩) hex
  (conv=>whnf)
  refine ⟨fun h => absurd (of_decide_eq_true h) (by omega), fun _ => ?_⟩
  (refine rg ?_;(conv=>whnf))
  refine ⟨fun h => absurd (of_decide_eq_true h) (by omega), fun _ => ?_⟩
  (refine rg ?_;(conv=>whnf))
  refine ⟨fun h => absurd (of_decide_eq_true h) (by omega), fun _ => ?_⟩
  (refine rg ?_;(conv=>whnf))
  refine ⟨fun h => absurd (of_decide_eq_true h) (by omega), fun _ => ?_⟩
  (refine rg ?_;(conv=>whnf))
  refine call0 hr F67 rfl rfl rfl rfl rfl ?_
  (refine rg ?_;(conv=>whnf);refine aF ?_;refine rg ?_;(conv=>whnf))
  refine ⟨rfl, hi.1, hi.2, ?_⟩
  rw [ha]
  (conv=>whnf)
  refine ⟨rfl, hk.1, hk.2, ?_⟩
  rw [hbb]
  (conv=>whnf)
  refine ⟨(by kernel_rfl), ?_⟩
  (conv=>whnf)
  refine ⟨fun h => ?_, fun h => ?_⟩
  · rw [h, Bool.true_or]
    (refine rg ?_;(conv=>whnf))
    exact done0 rfl (.cons .tmp .nil) rfl rfl
  rw [h, Bool.false_or]
  (refine rg ?_;(conv=>whnf))
  refine ⟨fun h => ?_, fun h => ?_⟩
  · rw [h, Bool.true_and]
    refine G_box 8 5 (vrfSV b) rfl rfl rfl ?_
    (refine rg ?_;(conv=>whnf))
    refine call0 q F345 rfl rfl rfl rfl rfl ?_
    (refine rg ?_;(conv=>whnf))
    exact done0 rfl (.cons .tmp .nil) rfl rfl
  · rw [h, Bool.false_and]
    (refine rg ?_;(conv=>whnf))
    exact done0 rfl (.cons .tmp .nil) rfl rfl
def irbDev (n : Net) (i : Int) : Int := (nth n.domains (nth n.irbs i).domain).dev
theorem e_irb {n : Net} (h : netRightB n = true) {i : Nat} (hi : i < n.irbs.length) : irbB n i n.irbs[i] = true := by
  simp only [netRightB, Bool.and_eq_true] at h
  exact allB_iff.1 h.2 i hi
theorem e_irb_facts {n : Net} (h : netRightB n = true) {i : Nat} (hi : i < n.irbs.length) :
    (0 ≤ n.irbs[i].domain ∧ n.irbs[i].domain.toNat < n.domains.length) ∧ (0 ≤ n.irbs[i].vrf ∧ n.irbs[i].vrf.toNat < n.vrfs.length) ∧ (0 ≤ n.irbs[i].bits ∧ n.irbs[i].bits ≤ 32) := by
  have := e_irb h hi
  simp only [irbB, placeB, Bool.and_eq_true, decide_eq_true_eq] at this
  omega
theorem routeDeviceS (n : Net) (hb : netRightB n = true) (i : Int) (hi : 0 ≤ i ∧ i.toNat < n.irbs.length) : Sy.Spec Tryz.prog 297 [netSV n, intSV i] [] (intSV (irbDev n i)) [] := contract Γ hm 100 F297 Tryz.ntmps297 rfl fun F hF => by
  have hf := (e_irb_facts hb hi.2).1
  rw [irbDev, nth_eq hi.2]
  obtain ⟨x, hx⟩ : ∃ x, n.irbs[i.toNat]'hi.2 = x := ⟨_, rfl⟩
  rw [hx] at hf ⊢
  rw [nth_eq hf.2]
  obtain ⟨d, hd⟩ : ∃ d, n.domains[x.domain.toNat]'hf.2 = d := ⟨_, rfl⟩
  rw [hd]
  (conv=>whnf)
  refine ⟨rfl, hi.1, hi.2, ?_⟩
  rw [hx]
  (conv=>whnf)
  refine ⟨rfl, hf.1, hf.2, ?_⟩
  rw [hd]
  (conv=>whnf)
  refine ⟨(by kernel_rfl), ?_⟩
  (conv=>whnf)
  exact done0 rfl (.cons .tmp .nil) rfl rfl
def seesB (n : Net) (i k : Int) : Bool := irbDev n i == irbDev n k && leaksB n (nth n.irbs k).vrf (nth n.irbs i).vrf
theorem routeSeesS (n : Net) (hn : n.Fin) (hb : netRightB n = true) (i k : Int) (hi : 0 ≤ i ∧ i.toNat < n.irbs.length) (hk : 0 ≤ k ∧ k.toNat < n.irbs.length) :
    Sy.Spec Tryz.prog 299 [netSV n, intSV i, intSV k] [] (boolSV (seesB n i k)) [] := contract Γ hm 100 F299 Tryz.ntmps299 rfl fun F hF => by
  have q1 := routeDeviceS n hb i hi
  have q2 := routeDeviceS n hb k hk
  have f1 := (e_irb_facts hb hi.2).2.1
  have f2 := (e_irb_facts hb hk.2).2.1
  have q3 := vrfsLeaksS n hn hb _ _ f2 f1
  rw [seesB, nth_eq hi.2, nth_eq hk.2]
  obtain ⟨x, hx⟩ : ∃ x, n.irbs[i.toNat]'hi.2 = x := ⟨_, rfl⟩
  obtain ⟨y, hy⟩ : ∃ y, n.irbs[k.toNat]'hk.2 = y := ⟨_, rfl⟩
  rw [hx, hy] at q3
  rw [hx, hy]
  generalize irbDev n i = di at *
  generalize irbDev n k = dk at *
  (conv=>whnf)
  refine callD0 q1 F297 rfl rfl rfl (by kernel_rfl) rfl ?_
  (refine rd (by kernel_rfl) ?_;(conv=>whnf))
  refine callD0 q2 F297 rfl rfl rfl (by kernel_rfl) rfl ?_
  (refine rd (by kernel_rfl) ?_;(conv=>whnf))
  refine ⟨fun h => ?_, fun h => ?_⟩
  · rw [h, Bool.true_and]
    (refine rd (by kernel_rfl) ?_;(conv=>whnf))
    refine ⟨rfl, hk.1, hk.2, ?_⟩
    rw [hy]
    (conv=>whnf)
    refine ⟨rfl, hi.1, hi.2, ?_⟩
    rw [hx]
    (conv=>whnf)
    refine callD0 q3 F332 rfl rfl rfl (by kernel_rfl) rfl ?_
    (refine rd (by kernel_rfl) ?_;(conv=>whnf))
    refine ⟨(by kernel_rfl), ?_⟩
    (conv=>whnf)
    exact done0 rfl (.cons .tmp .nil) rfl rfl
  · rw [h, Bool.false_and]
    (refine rd (by kernel_rfl) ?_;(conv=>whnf))
    refine ⟨(by kernel_rfl), ?_⟩
    (conv=>whnf)
    exact done0 rfl (.cons .tmp .nil) rfl rfl
end Go.Sy.YtmelpejjondedaaGreat

namespace Go.Sy.YtmelpejjondedaaGreat
open Go.Proofs
attribute [local irreducible] Go.Sy.G Go.Sy.DR
set_option maxRecDepth 20000
set_option maxHeartbeats 4000000
abbrev pfxSV (a b : Int) : SV := .agg [u32SV a, intSV b]
theorem pfxRightS (a b : Int) (h : 0 ≤ b ∧ b ≤ 32) : Sy.Spec Tryz.prog 330 [pfxSV a b] [] (boolSV true) [] := contract Γ hm 100 F330 Tryz.ntmps330 rfl fun F hF => by
  (conv=>whnf)
  refine ⟨fun _ => ?_, fun h2 => absurd (of_decide_eq_false h2) (by omega)⟩
  (refine rg ?_;(conv=>whnf))
  refine done0 rfl (.cons .tmp .nil) (congrArg boolSV ?_) rfl
  simp; omega
def restI (b : Int) : Int := IntKind.u32.wrap (IntKind.u32.wrap (1 * 2 ^ (min (32 - b).toNat IntKind.u32.bits)) - 1)
theorem pfxRestS (a b : Int) (h : 0 ≤ b ∧ b ≤ 32) : Sy.Spec Tryz.prog 331 [pfxSV a b] [] (u32SV (restI b)) [] := contract Γ hm 100 F331 Tryz.ntmps331 rfl fun F hF => by
  (conv=>whnf)
  refine ⟨by unfold I64; omega, ?_⟩
  (conv=>whnf)
  refine ⟨by omega, ?_⟩
  (conv=>whnf)
  exact done0 rfl (.cons .tmp .nil) rfl rfl
def hasB (a b x : Int) : Bool := bits .andNot .u32 (bits .xor .u32 a x) (restI b) == 0
theorem addrHasS (a b x : Int) (h : 0 ≤ b ∧ b ≤ 32) : Sy.Spec Tryz.prog 298 [pfxSV a b, u32SV x] [] (boolSV (hasB a b x)) [] := contract Γ hm 100 F298 Tryz.ntmps298 rfl fun F hF => by
  have q1 := pfxRightS a b h
  have q2 := pfxRestS a b h
  rw [hasB]
  generalize restI b = r at *
  (conv=>whnf)
  refine callD0 q1 F330 rfl rfl rfl (by kernel_rfl) rfl ?_
  (refine rd (by kernel_rfl) ?_;(conv=>whnf);refine aT ?_;refine rd (by kernel_rfl) ?_;(conv=>whnf))
  refine callD0 q2 F331 rfl rfl rfl (by kernel_rfl) rfl ?_
  (refine rd (by kernel_rfl) ?_;(conv=>whnf))
  refine ⟨(by kernel_rfl), ?_⟩
  (conv=>whnf)
  exact done0 rfl (.cons .tmp .nil) rfl rfl
def maxI (c : Int → Int → Int) (l : List Int) (j : Nat) : Int := ((l.drop 1).take j).foldl (fun m x => if 0 < c x m then x else m) (nth l 0)
theorem maxI_succ (c : Int → Int → Int) (l : List Int) (j : Nat) (h : j + 1 < l.length) : maxI c l (j + 1) = if 0 < c l[j + 1] (maxI c l j) then l[j + 1] else maxI c l j := by
  have hl : j < (l.drop 1).length := by rw [List.length_drop]; omega
  rw [maxI, List.take_succ_eq_append_getElem hl, List.foldl_append]
  have e : (l.drop 1)[j] = l[j + 1] := by rw [List.getElem_drop]; congr 1; omega
  simp only [List.foldl_cons, List.foldl_nil, e]
  rfl
theorem maxI_mem (c : Int → Int → Int) (l : List Int) (h : 0 < l.length) : ∀ j, j + 1 ≤ l.length → maxI c l j ∈ l
  | 0, _ => by
    rw [maxI, List.take_zero, List.foldl_nil, nth_eq (l := l) (i := 0) (by simpa using h)]
    exact List.getElem_mem _
  | j + 1, hj => by
    rw [maxI_succ c l j (by omega)]
    split
    · exact List.getElem_mem _
    · exact maxI_mem c l h j (by omega)
theorem maxFuncS (l : List Int) (c : Int → Int → Int) (f : FuncId) (first cap : List SV) (hc : (SV.clo (.func f) first cap).inn [] = true) (h0 : 0 < l.length) (hl : Short l)
    (hf : ∀ x ∈ l, ∀ y ∈ l, FunS Tryz.prog f (first ++ [intSV x, intSV y] ++ cap) (intSV (c x y))) :
    Sy.Spec Tryz.prog 301 [.sl 1 intSV l, .clo (.func f) first cap] [] (intSV (maxI c l (l.length - 1))) [] := contract Γ hm 100 F301 Tryz.ntmps301 rfl fun F hF => by
  unfold Short at hl
  have hin : ∀ x y : Int, innL [] (first ++ [intSV x, intSV y] ++ cap) = true := fun x y => clo_inn hc rfl
  have hmem := maxI_mem c l h0
  have hsucc := maxI_succ c l
  have hz : maxI c l 0 = l[0] := by rw [maxI, List.take_zero, List.foldl_nil, nth_eq (l := l) (i := 0) (by simpa using h0)]; rfl
  generalize maxI c l = m at *
  (conv=>whnf)
  refine ⟨fun h => absurd (of_decide_eq_true h) (by omega), fun _ => ?_⟩
  (refine rg ?_;(conv=>whnf))
  refine ⟨rfl, by omega, by simpa using h0, ?_⟩
  (conv=>whnf)
  refine G_count (l.length - 1) (fun j => [(0, .sl 1 intSV l), (1, .clo (.func f) first cap), (5, intSV (m j)), (6, intSV ((j : Int) + 1))]) (fun _ => []) []
    ⟨⟨rfl, rfl, ren_id _, hc, congrArg intSV hz, rfl, rfl, rfl, trivial⟩, trivial, rfl, rfl⟩ ?_
  intro j hj
  have hmj := hmem j (by omega)
  have hsj := hsucc j
  (refine rg ?_;(conv=>whnf))
  refine ⟨fun h => ?_, fun h => ?_⟩
  · have hlt : j + 1 < l.length := by have := of_decide_eq_true h; omega
    have hsj := hsj hlt
    have hk : ((j : Int) + 1).toNat < l.length := by omega
    have e1 : l[((j : Int) + 1).toNat]'hk = l[j + 1] := by congr 1
    obtain ⟨x, hx⟩ : ∃ x, l[j + 1] = x := ⟨_, rfl⟩
    have hxm : x ∈ l := hx ▸ List.getElem_mem hlt
    rw [hx] at e1 hsj
    (refine rg ?_;(conv=>whnf))
    refine ⟨rfl, by omega, hk, ?_⟩
    rw [e1]
    (conv=>whnf)
    refine callC (hf x hxm (m j) hmj) rfl rfl rfl (by simp only [hin]; rfl) rfl rfl ?_
    (refine rg ?_;(conv=>whnf))
    refine ⟨fun h2 => ?_, fun h2 => ?_⟩
    · rw [if_pos (of_decide_eq_true h2)] at hsj
      (refine rg ?_;(conv=>whnf))
      refine ⟨rfl, by omega, hk, ?_⟩
      rw [e1]
      (conv=>whnf)
      refine ⟨by unfold I64; omega, ?_⟩
      (conv=>whnf)
      exact G_next [] (by omega) ⟨⟨rfl, rfl, ren_id _, hc, congrArg intSV hsj, rfl, congrArg intSV (by omega), rfl, trivial⟩, trivial, rfl, rfl⟩
    · rw [if_neg (of_decide_eq_false h2)] at hsj
      (refine rg ?_;(conv=>whnf))
      refine ⟨by unfold I64; omega, ?_⟩
      (conv=>whnf)
      exact G_next [] (by omega) ⟨⟨rfl, rfl, ren_id _, hc, congrArg intSV hsj, rfl, congrArg intSV (by omega), rfl, trivial⟩, trivial, rfl, rfl⟩
  · have : j = l.length - 1 := by have := of_decide_eq_false h; omega
    subst this
    (refine rg ?_;(conv=>whnf))
    exact done0 rfl (.cons .tmp .nil) rfl rfl
end Go.Sy.YtmelpejjondedaaGreat

namespace Go.Sy.YtmelpejjondedaaGreat
open Go.Proofs
attribute [local irreducible] Go.Sy.G Go.Sy.DR
set_option maxRecDepth 20000
set_option maxHeartbeats 4000000
def ownV (n : Net) (irb i : Int) : Int := if (nth n.irbs i).vrf = (nth n.irbs irb).vrf then 1 else 0
abbrev InIrbs (n : Net) (i : Int) : Prop := 0 ≤ i ∧ i.toNat < n.irbs.length
theorem lookOwnC (n : Net) (irb i : Int) (hi : InIrbs n i) (hk : InIrbs n irb) : Sy.Spec Tryz.prog 300 [intSV i, .ref 8 (netSV n) 0, .ref 1 (intSV irb) 0] [] (intSV (ownV n irb i)) [] := contract Γ hm 100 F300 Tryz.ntmps300 rfl fun F hF => by
  rw [ownV, nth_eq hi.2, nth_eq hk.2]
  obtain ⟨x, hx⟩ : ∃ x, n.irbs[i.toNat]'hi.2 = x := ⟨_, rfl⟩
  obtain ⟨y, hy⟩ : ∃ y, n.irbs[irb.toNat]'hk.2 = y := ⟨_, rfl⟩
  rw [hx, hy]
  (conv=>whnf)
  refine ⟨rfl, hi.1, hi.2, ?_⟩
  rw [hx]
  (conv=>whnf)
  refine ⟨rfl, hk.1, hk.2, ?_⟩
  rw [hy]
  (conv=>whnf)
  refine ⟨(by kernel_rfl), ?_⟩
  (conv=>whnf)
  refine ⟨fun h => ?_, fun h => ?_⟩
  · rw [if_pos (by simpa using h)]
    (refine rg ?_;(conv=>whnf))
    exact done0 rfl (.cons .tmp .nil) rfl rfl
  · rw [if_neg (by simpa using h)]
    (refine rg ?_;(conv=>whnf))
    exact done0 rfl (.cons .tmp .nil) rfl rfl
def cmpR (n : Net) (irb a b : Int) : Int := if (nth n.irbs a).bits ≠ (nth n.irbs b).bits then (nth n.irbs a).bits - (nth n.irbs b).bits else ownV n irb a - ownV n irb b
theorem ownV_le (n : Net) (irb i : Int) : 0 ≤ ownV n irb i ∧ ownV n irb i ≤ 1 := by
  unfold ownV; split <;> omega
theorem lookCmpC (n : Net) (hb : netRightB n = true) (irb a b : Int) (hk : InIrbs n irb) (ha : InIrbs n a) (hb2 : InIrbs n b) :
    Sy.Spec Tryz.prog 302 [intSV a, intSV b, .ref 8 (netSV n) 0, .ref 1 (.clo (.func 300) [] [.ref 8 (netSV n) 0, .ref 1 (intSV irb) 0]) 0] [] (intSV (cmpR n irb a b)) [] := contract Γ hm 100 F302 Tryz.ntmps302 rfl fun F hF => by
  have fa := (e_irb_facts hb ha.2).2.2
  have fb := (e_irb_facts hb hb2.2).2.2
  have q1 := lookOwnC n irb a ha hk
  have q2 := lookOwnC n irb b hb2 hk
  have l1 := ownV_le n irb a
  have l2 := ownV_le n irb b
  rw [cmpR, nth_eq ha.2, nth_eq hb2.2]
  obtain ⟨x, hx⟩ : ∃ x, n.irbs[a.toNat]'ha.2 = x := ⟨_, rfl⟩
  obtain ⟨y, hy⟩ : ∃ y, n.irbs[b.toNat]'hb2.2 = y := ⟨_, rfl⟩
  rw [hx] at fa ⊢
  rw [hy] at fb ⊢
  generalize ownV n irb a = oa at *
  generalize ownV n irb b = ob at *
  (conv=>whnf)
  refine ⟨rfl, ha.1, ha.2, ?_⟩
  rw [hx]
  (conv=>whnf)
  refine ⟨rfl, hb2.1, hb2.2, ?_⟩
  rw [hy]
  (conv=>whnf)
  refine ⟨(by kernel_rfl), ?_⟩
  (conv=>whnf)
  refine ⟨fun h => ?_, fun h => ?_⟩
  · rw [if_pos (by simpa using h)]
    (refine rg ?_;(conv=>whnf))
    refine ⟨by unfold I64; omega, ?_⟩
    (conv=>whnf)
    exact done0 rfl (.cons .tmp .nil) rfl rfl
  · rw [if_neg (by simpa using h)]
    (refine rg ?_;(conv=>whnf))
    refine callDC ⟨⟨_, _, F300⟩, q1⟩ rfl rfl rfl rfl (by kernel_rfl) rfl ?_
    (refine rd (by kernel_rfl) ?_;(conv=>whnf))
    refine callDC ⟨⟨_, _, F300⟩, q2⟩ rfl rfl rfl rfl (by kernel_rfl) rfl ?_
    (refine rd (by kernel_rfl) ?_;(conv=>whnf))
    refine ⟨by unfold I64; omega, ?_⟩
    (conv=>whnf)
    refine ⟨(by kernel_rfl), ?_⟩
    (conv=>whnf)
    exact done0 rfl (.cons .tmp .nil) rfl rfl
end Go.Sy.YtmelpejjondedaaGreat

namespace Go.Sy.YtmelpejjondedaaGreat
open Go.Proofs
attribute [local irreducible] Go.Sy.G Go.Sy.DR
set_option maxRecDepth 20000
set_option maxHeartbeats 4000000
def takenB (n : Net) (irb dst : Int) (i : Nat) : Bool := irbDev n i == irbDev n irb && (nth n.irbs i).addr == dst
def wayB (n : Net) (irb dst : Int) (i : Nat) : Bool := hasB (nth n.irbs i).addr (nth n.irbs i).bits dst && seesB n irb i
def waysL (n : Net) (irb dst : Int) : List Int := filtI (wayB n irb dst) n.irbs.length
def lookT (n : Net) (irb dst : Int) : Int × Bool :=
  if (List.range n.irbs.length).any (takenB n irb dst) = true then (0, false)
  else if waysL n irb dst = [] then (0, false) else (maxI (cmpR n irb) (waysL n irb dst) ((waysL n irb dst).length - 1), true)
theorem lookupS (n : Net) (hn : n.Fin) (hb : netRightB n = true) (irb dst : Int) (hk : InIrbs n irb) : Sy.Spec Tryz.prog 247 [netSV n, intSV irb, u32SV dst] [] (.tup [intSV (lookT n irb dst).1, boolSV (lookT n irb dst).2]) [] := contract Γ hm 100 F247 Tryz.ntmps247 rfl fun F hF => by
  have hlk := lookT.eq_1 n irb dst
  generalize lookT n irb dst = r at *
  have hsi := hn.irbs
  unfold Short at hsi
  have qk := routeDeviceS n hb irb hk
  (conv=>whnf)
  refine G_box 3 8 (netSV n) rfl rfl rfl ?_
  refine G_box 4 1 (intSV irb) rfl rfl rfl ?_
  refine G_adopt 8 1000 1 intSV rfl rfl ?_
  refine G_countP n.irbs.length (fun j => ∀ i, i < j → takenB n irb dst i = false) (fun j => [(2, u32SV dst), (3, .ref 8 (netSV n) 0), (4, .ref 1 (intSV irb) 0), (8, .osl 1000), (13, .sl 5 irbSV n.irbs), (14, intSV n.irbs.length), (15, intSV j)]) (fun j => [(1000, .row 1 intSV (filtI (wayB n irb dst) j))]) [] (fun i hi => absurd hi (by omega))
    ⟨⟨rfl, rfl, rfl, rfl, rfl, rfl, rfl, rfl, rfl, rfl, rfl, rfl, rfl, rfl, trivial⟩, ⟨.inl rfl, rfl, trivial⟩, rfl, rfl⟩ ?_
  intro j hj hI
  (refine rg ?_;(conv=>whnf))
  refine ⟨fun h => ?_, fun h => ?_⟩
  · have hlt : j < n.irbs.length := by simpa using h
    have hij : InIrbs n (j : Int) := ⟨by omega, by simpa using hlt⟩
    have qj := routeDeviceS n hb j hij
    have hsucc := filtI_succ (wayB n irb dst) j
    have hfl := filtI_length (wayB n irb dst) j
    have hta : takenB n irb dst j = (irbDev n j == irbDev n irb && (nth n.irbs j).addr == dst) := rfl
    have hwa : wayB n irb dst j = (hasB (nth n.irbs j).addr (nth n.irbs j).bits dst && seesB n irb j) := rfl
    have enj : nth n.irbs (j : Int) = n.irbs[j] := nth_eq (l := n.irbs) (i := (j : Int)) (by simpa using hlt)
    have hf := (e_irb_facts hb hlt).2.2
    have e1 : n.irbs[(j : Int).toNat]'(by omega) = n.irbs[j] := rfl
    rw [enj] at hta hwa
    obtain ⟨x, hx⟩ : ∃ x, n.irbs[j] = x := ⟨_, rfl⟩
    rw [hx] at e1 hta hwa hf
    have q1 := addrHasS x.addr x.bits dst hf
    have q2 := routeSeesS n hn hb irb j hk hij
    rw [hwa] at hsucc
    obtain ⟨u, hu⟩ : ∃ u, filtI (wayB n irb dst) j = u := ⟨_, rfl⟩
    rw [hu] at hsucc hfl ⊢
    (refine rg ?_;(conv=>whnf))
    refine ⟨rfl, by omega, by omega, ?_⟩
    rw [e1]
    (conv=>whnf)
    refine callD0 qj F297 rfl rfl rfl (by kernel_rfl) rfl ?_
    (refine rd (by kernel_rfl) ?_;(conv=>whnf))
    refine callD0 qk F297 rfl rfl rfl (by kernel_rfl) rfl ?_
    (refine rd (by kernel_rfl) ?_;(conv=>whnf))
    refine ⟨fun h2 => ?_, fun h2 => ?_⟩
    · rw [h2, Bool.true_and] at hta
      (refine rd (by kernel_rfl) ?_;(conv=>whnf))
      refine ⟨(by kernel_rfl), ?_⟩
      (conv=>whnf)
      refine ⟨fun h3 => ?_, fun h3 => ?_⟩
      · have : (List.range n.irbs.length).any (takenB n irb dst) = true := List.any_eq_true.2 ⟨j, by simpa using hlt, hta.trans h3⟩
        rw [if_pos this] at hlk
        subst hlk
        (refine rg ?_;(conv=>whnf))
        exact done0 rfl (.cons .tmp (.cons .tmp .nil)) rfl rfl
      · have hnt := hta.trans h3
        (refine rg ?_;(conv=>whnf))
        refine call0 q1 F298 rfl rfl rfl rfl rfl ?_
        (refine rg ?_;(conv=>whnf))
        refine ⟨fun h4 => ?_, fun h4 => ?_⟩
        · rw [h4, Bool.true_and] at hsucc
          (refine rg ?_;(conv=>whnf))
          refine call0 q2 F299 rfl rfl rfl rfl rfl ?_
          (refine rg ?_;(conv=>whnf))
          refine ⟨fun h5 => ?_, fun h5 => ?_⟩
          · rw [if_pos h5] at hsucc
            (refine rg ?_;(conv=>whnf))
            refine stepOp (good_appendT Γ.toTy 47 rfl rfl rfl rfl rfl (.row rfl) (.lit (e := intSV) (l := [(j : Int)]) rfl rfl) (by simp) (by simp; omega) (by simp; omega)) rfl rfl ?_
            (refine rg ?_;(conv=>whnf))
            refine ⟨by unfold I64; omega, ?_⟩
            (conv=>whnf)
            exact G_nextP [(1000, 47)] hI hlt (fun i hi => if e : i = j then (by rw [e]; exact hnt) else hI i (by omega)) ⟨⟨rfl, rfl, rfl, rfl, rfl, rfl, rfl, rfl, rfl, rfl, rfl, rfl, rfl, rfl, trivial⟩, ⟨.inl (congrArg (Ob.row 1 intSV) hsucc), rfl, trivial⟩, rfl, rfl⟩
          · rw [if_neg (by simp [h5])] at hsucc
            (refine rg ?_;(conv=>whnf))
            refine ⟨by unfold I64; omega, ?_⟩
            (conv=>whnf)
            exact G_nextP [] hI hlt (fun i hi => if e : i = j then (by rw [e]; exact hnt) else hI i (by omega)) ⟨⟨rfl, rfl, rfl, rfl, rfl, rfl, rfl, rfl, rfl, rfl, rfl, rfl, rfl, rfl, trivial⟩, ⟨.inl (congrArg (Ob.row 1 intSV) hsucc), rfl, trivial⟩, rfl, rfl⟩
        · rw [if_neg (by simp [h4])] at hsucc
          (refine rg ?_;(conv=>whnf);refine aF ?_;refine rg ?_;(conv=>whnf))
          refine ⟨by unfold I64; omega, ?_⟩
          (conv=>whnf)
          exact G_nextP [] hI hlt (fun i hi => if e : i = j then (by rw [e]; exact hnt) else hI i (by omega)) ⟨⟨rfl, rfl, rfl, rfl, rfl, rfl, rfl, rfl, rfl, rfl, rfl, rfl, rfl, rfl, trivial⟩, ⟨.inl (congrArg (Ob.row 1 intSV) hsucc), rfl, trivial⟩, rfl, rfl⟩
    · have hnt : takenB n irb dst j = false := by rw [hta, h2, Bool.false_and]
      (refine rd (by kernel_rfl) ?_;(conv=>whnf))
      refine ⟨(by kernel_rfl), ?_⟩
      ((conv=>whnf);refine aF ?_;refine rg ?_;(conv=>whnf))
      refine call0 q1 F298 rfl rfl rfl rfl rfl ?_
      (refine rg ?_;(conv=>whnf))
      refine ⟨fun h4 => ?_, fun h4 => ?_⟩
      · rw [h4, Bool.true_and] at hsucc
        (refine rg ?_;(conv=>whnf))
        refine call0 q2 F299 rfl rfl rfl rfl rfl ?_
        (refine rg ?_;(conv=>whnf))
        refine ⟨fun h5 => ?_, fun h5 => ?_⟩
        · rw [if_pos h5] at hsucc
          (refine rg ?_;(conv=>whnf))
          refine stepOp (good_appendT Γ.toTy 47 rfl rfl rfl rfl rfl (.row rfl) (.lit (e := intSV) (l := [(j : Int)]) rfl rfl) (by simp) (by simp; omega) (by simp; omega)) rfl rfl ?_
          (refine rg ?_;(conv=>whnf))
          refine ⟨by unfold I64; omega, ?_⟩
          (conv=>whnf)
          exact G_nextP [(1000, 47)] hI hlt (fun i hi => if e : i = j then (by rw [e]; exact hnt) else hI i (by omega)) ⟨⟨rfl, rfl, rfl, rfl, rfl, rfl, rfl, rfl, rfl, rfl, rfl, rfl, rfl, rfl, trivial⟩, ⟨.inl (congrArg (Ob.row 1 intSV) hsucc), rfl, trivial⟩, rfl, rfl⟩
        · rw [if_neg (by simp [h5])] at hsucc
          (refine rg ?_;(conv=>whnf))
          refine ⟨by unfold I64; omega, ?_⟩
          (conv=>whnf)
          exact G_nextP [] hI hlt (fun i hi => if e : i = j then (by rw [e]; exact hnt) else hI i (by omega)) ⟨⟨rfl, rfl, rfl, rfl, rfl, rfl, rfl, rfl, rfl, rfl, rfl, rfl, rfl, rfl, trivial⟩, ⟨.inl (congrArg (Ob.row 1 intSV) hsucc), rfl, trivial⟩, rfl, rfl⟩
      · rw [if_neg (by simp [h4])] at hsucc
        (refine rg ?_;(conv=>whnf);refine aF ?_;refine rg ?_;(conv=>whnf))
        refine ⟨by unfold I64; omega, ?_⟩
        (conv=>whnf)
        exact G_nextP [] hI hlt (fun i hi => if e : i = j then (by rw [e]; exact hnt) else hI i (by omega)) ⟨⟨rfl, rfl, rfl, rfl, rfl, rfl, rfl, rfl, rfl, rfl, rfl, rfl, rfl, rfl, trivial⟩, ⟨.inl (congrArg (Ob.row 1 intSV) hsucc), rfl, trivial⟩, rfl, rfl⟩
  · have : j = n.irbs.length := by have := of_decide_eq_false h; omega
    subst this
    have hno : ¬ (List.range n.irbs.length).any (takenB n irb dst) = true := fun h => by
      obtain ⟨i, h1, h2⟩ := List.any_eq_true.1 h
      rw [hI i (by simpa using h1)] at h2
      cases h2
    rw [if_neg hno] at hlk
    have hin : ∀ y ∈ waysL n irb dst, InIrbs n y := fun y hy => by
      have := (filtI_mem (p := wayB n irb dst) (j := n.irbs.length)).1 hy
      exact ⟨this.1, by omega⟩
    have hwl := filtI_length (wayB n irb dst) n.irbs.length
    have hwe : filtI (wayB n irb dst) n.irbs.length = waysL n irb dst := rfl
    rw [hwe] at hwl ⊢
    have q : ∀ h0 : 0 < (waysL n irb dst).length, _ := fun h0 => maxFuncS (waysL n irb dst) (cmpR n irb) 302 [] [.ref 8 (netSV n) 0, .ref 1 (.clo (.func 300) [] [.ref 8 (netSV n) 0, .ref 1 (intSV irb) 0]) 0] rfl h0 (by unfold Short; omega) (fun y hy z hz => ⟨⟨_, _, F302⟩, lookCmpC n hb irb y z hk (hin y hy) (hin z hz)⟩)
    generalize waysL n irb dst = l at *
    refine G_data 1000 rfl ?_
    (refine rg ?_;(conv=>whnf))
    refine ⟨fun h3 => ?_, fun h3 => ?_⟩
    · have h4 : l = [] := by simpa using h3
      rw [if_pos h4] at hlk
      subst hlk
      (refine rg ?_;(conv=>whnf))
      exact done0 rfl (.cons .tmp (.cons .tmp .nil)) rfl rfl
    · have h4 : ¬ l = [] := by simpa using h3
      rw [if_neg h4] at hlk
      have q := q (List.length_pos_iff.2 h4)
      subst hlk
      (refine rg ?_;(conv=>whnf))
      refine G_box 11 1 (.clo (.func 300) [] [.ref 8 (netSV n) 0, .ref 1 (intSV irb) 0]) rfl rfl rfl ?_
      (refine rg ?_;(conv=>whnf))
      refine call0 q F301 rfl rfl rfl rfl rfl ?_
      (refine rg ?_;(conv=>whnf))
      exact done0 rfl (.cons .tmp (.cons .tmp .nil)) rfl rfl
theorem lookT_there {n : Net} {irb dst : Int} (h : (lookT n irb dst).2 = true) : InIrbs n (lookT n irb dst).1 := by
  unfold lookT at h ⊢
  split at h
  · cases h
  rename_i h1
  rw [if_neg h1]
  split at h
  · cases h
  rename_i h2
  rw [if_neg h2]
  have hm := maxI_mem (cmpR n irb) (waysL n irb dst) (List.length_pos_iff.2 h2) ((waysL n irb dst).length - 1) (by have := List.length_pos_iff.2 h2; omega)
  have := (filtI_mem (p := wayB n irb dst) (j := n.irbs.length)).1 hm
  exact ⟨this.1, by omega⟩
end Go.Sy.YtmelpejjondedaaGreat

namespace Go.Sy
def WhileInv (C : Cx) {β : Type} (I : β → Prop) (L : β → List (Nat × SV)) (O : β → Obs) (μ : β → Nat) (x : β) (a : Act) (w : World) : Prop :=
  ∃ x' : {y : β // I y}, ∃ κ, μ x'.1 < μ x ∧ St C.F C.n (mkS (L x'.1) (O x'.1)) κ a w
theorem G_while {C : Cx} {k : List KI} {s : SS} {body : Code} {β : Type} (I : β → Prop) (L : β → List (Nat × SV)) (O : β → Obs) (μ : β → Nat) (x₀ : β) (ρ : List (Nat × Nat)) (h0 : I x₀) (hsub : Sub C s ρ (L x₀) (O x₀))
    (h : ∀ x, I x → G C (.code body :: .inv (WhileInv C I L O μ x) :: k) (mkS (L x) (O x))) : G C (.code (.loop body) :: k) s :=
  G_loop (α := {y : β // I y}) (fun x => L x.1) (fun x => O x.1) (fun x => μ x.1) ⟨x₀, h0⟩ ρ hsub (fun x => h x.1 x.2)
theorem G_whileN {C : Cx} {k : List KI} {s : SS} {β : Type} {I : β → Prop} {L : β → List (Nat × SV)} {O : β → Obs} {μ : β → Nat} {x : β} (x' : β) (ρ : List (Nat × Nat)) (h' : I x') (hμ : μ x' < μ x) (hsub : Sub C s ρ (L x') (O x')) :
    G C (.inv (WhileInv C I L O μ x) :: k) s := fun _ _ _ hs => ⟨⟨x', h'⟩, _, hμ, hsub.st hs⟩
theorem G_litR {C : Cx} {k : List KI} {s : SS} (d : Nat) {sz : Nat} {α : Type} (e : α → SV) (l : List α) {svs : List SV} (h : s.h d = .lit sz svs) (hl : l.map e = svs) (hg : G C k ⟨s.σ, upd s.h d (.row sz e l)⟩) : G C k s := fun κ a w hs => by
  refine hg κ a w ⟨hs.defers, hs.size, hs.inv, hs.ctx, hs.slot, fun j => ?_⟩
  show ObOK κ w j (upd s.h d (.row sz e l) j)
  by_cases hj : j = d
  · subst hj
    rw [upd_self]
    have hob := hs.obj j
    rw [h] at hob
    have hlen : l.length = svs.length := by rw [← hl, List.length_map]
    obtain ⟨b, cap, cs, T, fr, e1, e2, e3, e4, e5, e6⟩ := hob
    exact .inr ⟨b, cap, cs, T, fr, by rw [hlen]; exact e1, e2, e3, e4, by omega, fun i x hx => by rw [hlen]; exact e6 i x (rowF_lit hl i x hx)⟩
  · rw [upd_ne _ _ hj]; exact hs.obj j
end Go.Sy

namespace Go.Sy.YtmelpejjondedaaGreat
open Go.Proofs
end Go.Sy.YtmelpejjondedaaGreat

namespace Go.Sy.YtmelpejjondedaaGreat
open Go.Proofs
attribute [local irreducible] Go.Sy.G Go.Sy.DR
set_option maxRecDepth 20000
set_option maxHeartbeats 4000000
end Go.Sy.YtmelpejjondedaaGreat

namespace Go.Sy.YtmelpejjondedaaGreat
open Go.Proofs
attribute [local irreducible] Go.Sy.G Go.Sy.DR
set_option maxRecDepth 20000
set_option maxHeartbeats 4000000
theorem any_false {α : Type} {p : α → Bool} {l : List α} {j : Nat} (hI : Upto (fun _ x => !(p x)) l j) (hj : l.length ≤ j) : l.any p = false := by
  rw [List.any_eq_false]
  intro x hx
  obtain ⟨i, hi, rfl⟩ := List.mem_iff_getElem.1 hx
  simpa using hI i hi (by omega)
theorem any_true {α : Type} {p : α → Bool} {l : List α} {j : Nat} (hj : j < l.length) (h : p l[j] = true) : l.any p = true := List.any_eq_true.2 ⟨_, List.getElem_mem hj, h⟩
end Go.Sy.YtmelpejjondedaaGreat

namespace Go.Sy.YtmelpejjondedaaGreat
open Go.Proofs
attribute [local irreducible] Go.Sy.G Go.Sy.DR
set_option maxRecDepth 20000
set_option maxHeartbeats 4000000
end Go.Sy.YtmelpejjondedaaGreat

namespace Go.Sy.YtmelpejjondedaaGreat
open Go.Proofs
attribute [local irreducible] Go.Sy.G Go.Sy.DR
set_option maxRecDepth 20000
set_option maxHeartbeats 4000000
end Go.Sy.YtmelpejjondedaaGreat

namespace Go.Sy.YtmelpejjondedaaGreat
open Go.Proofs
attribute [local irreducible] Go.Sy.G Go.Sy.DR
set_option maxRecDepth 20000
set_option maxHeartbeats 4000000
end Go.Sy.YtmelpejjondedaaGreat

namespace Go.Sy.YtmelpejjondedaaGreat
open Go.Proofs
attribute [local irreducible] Go.Sy.G Go.Sy.DR
set_option maxRecDepth 20000
set_option maxHeartbeats 4000000
theorem isNaNintS (a : Int) : Sy.Spec Tryz.prog 283 [intSV a] [] (boolSV false) [] := contract Γ hm 100 F283 Tryz.ntmps283 rfl fun F hF => by
  (conv=>whnf)
  exact done0 rfl (.cons .tmp .nil) (congrArg boolSV (by simp)) rfl
theorem isNaNu64S (a : Int) : Sy.Spec Tryz.prog 284 [u64SV a] [] (boolSV false) [] := contract Γ hm 100 F284 Tryz.ntmps284 rfl fun F hF => by
  (conv=>whnf)
  exact done0 rfl (.cons .tmp .nil) (congrArg boolSV (by simp)) rfl
def cmpI (a b : Int) : Int := if a < b then -1 else if a > b then 1 else 0
theorem compareIntS (a b : Int) : Sy.Spec Tryz.prog 231 [intSV a, intSV b] [] (intSV (cmpI a b)) [] := contract Γ hm 100 F231 Tryz.ntmps231 rfl fun F hF => by
  (conv=>whnf)
  (repeat' (first | (refine ⟨fun h => ?_, fun h => ?_⟩ <;> (repeat (first | simp only [decide_eq_true_eq] at h | simp only [decide_eq_false_iff_not] at h)) <;> ((refine rg ?_);(conv=>whnf))) | (refine done0 rfl (.cons .tmp .nil) ?_ rfl) | (refine call0 (isNaNintS a) F283 rfl rfl rfl rfl rfl ?_; ((refine rg ?_);(conv=>whnf))) | (refine call0 (isNaNintS b) F283 rfl rfl rfl rfl rfl ?_; ((refine rg ?_);(conv=>whnf);repeat((refine aF ?_);(refine rg ?_);(conv=>whnf))))))
  all_goals (refine congrArg intSV ?_; clear hF; grind [cmpI])
theorem compareU64S (a b : Int) : Sy.Spec Tryz.prog 232 [u64SV a, u64SV b] [] (intSV (cmpI a b)) [] := contract Γ hm 100 F232 Tryz.ntmps232 rfl fun F hF => by
  (conv=>whnf)
  (repeat' (first | (refine ⟨fun h => ?_, fun h => ?_⟩ <;> (repeat (first | simp only [decide_eq_true_eq] at h | simp only [decide_eq_false_iff_not] at h)) <;> ((refine rg ?_);(conv=>whnf))) | (refine done0 rfl (.cons .tmp .nil) ?_ rfl) | (refine call0 (isNaNu64S a) F284 rfl rfl rfl rfl rfl ?_; ((refine rg ?_);(conv=>whnf))) | (refine call0 (isNaNu64S b) F284 rfl rfl rfl rfl rfl ?_; ((refine rg ?_);(conv=>whnf);repeat((refine aF ?_);(refine rg ?_);(conv=>whnf))))))
  all_goals (refine congrArg intSV ?_; clear hF; grind [cmpI])
def orI : List Int → Int
  | [] => 0
  | x :: l => if x = 0 then orI l else x
theorem orI_skip : ∀ {l : List Int} {j : Nat}, (∀ i (h : i < l.length), i < j → l[i] = 0) → orI l = orI (l.drop j)
  | l, 0, _ => rfl
  | [], j + 1, _ => rfl
  | x :: l, j + 1, h => by
    have h0 := h 0 (by simp) (by omega)
    simp only [List.getElem_cons_zero] at h0
    rw [orI, if_pos h0, List.drop_succ_cons]
    exact orI_skip fun i hi hij => h (i + 1) (by simp; omega) (by omega)
theorem orS (l : List Int) (hl : Short l) : Sy.Spec Tryz.prog 230 [.sl 1 intSV l] [] (intSV (orI l)) [] := contract Γ hm 100 F230 Tryz.ntmps230 rfl fun F hF => by
  unfold Short at hl
  (conv=>whnf)
  refine G_countP l.length (fun j => ∀ i (h : i < l.length), i < j → l[i] = 0) (fun j => [(3, intSV 0), (6, .sl 1 intSV l), (7, intSV l.length), (8, intSV j)]) (fun _ => []) [] (fun i h hj => absurd hj (by omega)) ⟨⟨rfl, rfl, rfl, rfl, rfl, rfl, rfl, rfl, trivial⟩, trivial, rfl, rfl⟩ ?_
  intro j hj hI
  (refine rg ?_;(conv=>whnf))
  (repeat' (first | (refine ⟨fun h => ?_, fun h => ?_⟩ <;> (repeat (first | simp only [decide_eq_true_eq] at h | simp only [decide_eq_false_iff_not] at h | simp only [bne_iff_ne] at h | simp only [bne_eq_false_iff_eq] at h)) <;> ((refine rg ?_);(conv=>whnf))) | (refine done0 rfl (.cons .tmp .nil) ?_ rfl) | (refine ⟨(by kernel_rfl), ?_⟩; ((conv=>whnf))) | (refine ⟨by (omega), by (omega), ?_⟩; ((conv=>whnf))) | (refine ⟨by (unfold I64; omega), ?_⟩; ((conv=>whnf))) | refine G_nextP [] hI (by omega) ?_ ⟨⟨rfl, rfl, rfl, rfl, rfl, rfl, rfl, rfl, trivial⟩, trivial, rfl, rfl⟩))
  all_goals try (refine congrArg intSV ?_)
  · have hj2 : j < l.length := by omega
    rw [orI_skip hI, List.drop_eq_getElem_cons hj2, orI, if_neg (by simpa using h)]
    rfl
  · intro i hi hij
    rcases Nat.lt_or_ge i j with h1 | h1
    · exact hI i hi h1
    · have : i = j := by omega
      subst this
      simpa using h
  · rw [orI_skip hI, List.drop_of_length_le (by omega)]
    rfl
theorem orI_cmp (a b : Int) (l : List Int) : decide (orI (cmpI a b :: l) < 0) = if a ≠ b then decide (a < b) else decide (orI l < 0) := by
  rw [orI, cmpI]
  by_cases h1 : a < b
  · simp [h1, show a ≠ b by omega]
  · by_cases h2 : a > b
    · simp [h1, h2, show a ≠ b by omega]
    · simp [show a = b by omega]
structure Vec where
  (root cost bridge port own : Int)
def vecSV (v : Vec) : SV := .agg [intSV v.root, intSV v.cost, intSV v.bridge, intSV v.port, intSV v.own]
def lessV (a b : Vec) : Bool :=
  if a.root ≠ b.root then decide (a.root < b.root) else if a.cost ≠ b.cost then decide (a.cost < b.cost) else if a.bridge ≠ b.bridge then decide (a.bridge < b.bridge) else
    if a.port ≠ b.port then decide (a.port < b.port) else decide (a.own < b.own)
theorem lessS (a b : Vec) : Sy.Spec Tryz.prog 287 [vecSV a, vecSV b] [] (boolSV (lessV a b)) [] := contract Γ hm 100 F287 Tryz.ntmps287 rfl fun F hF => by
  (conv=>whnf)
  (repeat' (first | (refine ⟨fun h => ?_, fun h => ?_⟩ <;> (repeat (first | simp only [beq_iff_eq] at h | simp only [beq_eq_false_iff_ne] at h | simp only [Bool.and_eq_true] at h | simp only [Bool.and_eq_false_iff] at h)) <;> ((refine rg ?_);(conv=>whnf))) | (refine done0 rfl (.cons .tmp .nil) ?_ rfl) | (refine ⟨(by kernel_rfl), ?_⟩; ((conv=>whnf))) | (refine callD0 (compareIntS a.root b.root) F231 rfl rfl rfl (by kernel_rfl) rfl ?_; ((refine rd (by kernel_rfl) ?_);(conv=>whnf))) | (refine callD0 (compareIntS a.cost b.cost) F231 rfl rfl rfl (by kernel_rfl) rfl ?_; ((refine rd (by kernel_rfl) ?_);(conv=>whnf))) | (refine callD0 (compareIntS a.bridge b.bridge) F231 rfl rfl rfl (by kernel_rfl) rfl ?_; ((refine rd (by kernel_rfl) ?_);(conv=>whnf))) | (refine callD0 (compareIntS a.port b.port) F231 rfl rfl rfl (by kernel_rfl) rfl ?_; ((refine rd (by kernel_rfl) ?_);(conv=>whnf))) | (refine callD0 (compareIntS a.own b.own) F231 rfl rfl rfl (by kernel_rfl) rfl ?_; ((refine rd (by kernel_rfl) ?_);(conv=>whnf))) | (refine callDK [33] (orS [cmpI a.root b.root, cmpI a.cost b.cost, cmpI a.bridge b.bridge, cmpI a.port b.port, cmpI a.own b.own] (by simp [Short])) F230 rfl (.cons (.lit rfl rfl rfl) .nil) rfl (by kernel_rfl) rfl ?_; ((refine rd (by kernel_rfl) ?_);(conv=>whnf)))))
  all_goals (refine congrArg boolSV ?_; clear hF)
  · grind [lessV]
  · rw [orI_cmp, orI_cmp, orI_cmp, orI_cmp, orI_cmp, lessV]
    by_cases h1 : a.own = b.own
    · simp [h1, orI]
    · simp [h1]
end Go.Sy.YtmelpejjondedaaGreat
