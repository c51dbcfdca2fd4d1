/-
  Contracts: packets put (ipv4, palingref07). Contracts: packets put (palingref07), addresses (addr, palingref02, mac, palingref01). Contracts: tags (tag, palingref05).
-/
import Derived.Test.YtnccojbdjjnoiaaB10

namespace Go.Sy.Ytnccojbdjjnoiaa
open Go.Proofs

attribute [local irreducible] Go.Sy.G Go.Sy.DR
set_option maxRecDepth 100000
set_option maxHeartbeats 4000000

def natSV (n : Nat) : SV := intSV n
def pairsL (l : List Nat) : List UInt8 := l.flatMap fun n => [UInt8.ofNat (n / 256), UInt8.ofNat n]
theorem pairsL_length (l : List Nat) : (pairsL l).length = 2 * l.length := by
  induction l with
  | nil => rfl
  | cons a l ih => simp only [pairsL, List.flatMap_cons, List.length_append, List.length_cons, List.length_nil] at ih ⊢; omega
theorem pairsL_snoc (l : List Nat) (n : Nat) : pairsL (l ++ [n]) = pairsL l ++ [UInt8.ofNat (n / 256), UInt8.ofNat n] := by simp [pairsL]

theorem smallS (a b : Int) (h : 0 ≤ a ∧ a ≤ b) : Sy.Spec Try.prog 89 [intSV a, intSV b] [] (boolSV true) [] := contract Γ hm 100 F89 Try.ntmps89 rfl fun F hF => by
  ((conv => whnf); repeat (first | (refine ⟨fun (h : false = true) => (Bool.false_ne_true h).elim, fun _ => ?_⟩; ((first | (refine run Γ hm 400 ?_) | (refine runD Γ hm 400 (by kernel_rfl) ?_)); (conv => whnf))) | (refine ⟨fun _ => ?_, fun (h : true = false) => (Bool.false_ne_true h.symm).elim⟩; ((first | (refine run Γ hm 400 ?_) | (refine runD Γ hm 400 (by kernel_rfl) ?_)); (conv => whnf)))))
  refine ⟨fun _ => ?_, fun h2 => absurd (of_decide_eq_false h2) (by omega)⟩
  (((first | (refine run Γ hm 400 ?_) | (refine runD Γ hm 400 (by kernel_rfl) ?_)); (conv => whnf)); repeat (first | (refine ⟨fun (h : false = true) => (Bool.false_ne_true h).elim, fun _ => ?_⟩; ((first | (refine run Γ hm 400 ?_) | (refine runD Γ hm 400 (by kernel_rfl) ?_)); (conv => whnf))) | (refine ⟨fun _ => ?_, fun (h : true = false) => (Bool.false_ne_true h.symm).elim⟩; ((first | (refine run Γ hm 400 ?_) | (refine runD Γ hm 400 (by kernel_rfl) ?_)); (conv => whnf)))))
  refine done0 rfl (.cons .tmp .nil) ?_ rfl
  exact congrArg boolSV (decide_eq_true h.2).symm
theorem outS (a b : Int) (h : 0 ≤ a ∧ a ≤ b) : Sy.Spec Try.prog 93 [intSV a, intSV b] [] (boolSV false) [] := contract Γ hm 100 F93 Try.ntmps93 rfl fun F hF => by
  ((conv => whnf); repeat (first | (refine ⟨fun (h : false = true) => (Bool.false_ne_true h).elim, fun _ => ?_⟩; ((first | (refine run Γ hm 400 ?_) | (refine runD Γ hm 400 (by kernel_rfl) ?_)); (conv => whnf))) | (refine ⟨fun _ => ?_, fun (h : true = false) => (Bool.false_ne_true h.symm).elim⟩; ((first | (refine run Γ hm 400 ?_) | (refine runD Γ hm 400 (by kernel_rfl) ?_)); (conv => whnf)))))
  refine ⟨fun h2 => absurd (of_decide_eq_true h2) (by omega), fun _ => ?_⟩
  (((first | (refine run Γ hm 400 ?_) | (refine runD Γ hm 400 (by kernel_rfl) ?_)); (conv => whnf)); repeat (first | (refine ⟨fun (h : false = true) => (Bool.false_ne_true h).elim, fun _ => ?_⟩; ((first | (refine run Γ hm 400 ?_) | (refine runD Γ hm 400 (by kernel_rfl) ?_)); (conv => whnf))) | (refine ⟨fun _ => ?_, fun (h : true = false) => (Bool.false_ne_true h.symm).elim⟩; ((first | (refine run Γ hm 400 ?_) | (refine runD Γ hm 400 (by kernel_rfl) ?_)); (conv => whnf)))))
  refine done0 rfl (.cons .tmp .nil) ?_ rfl
  exact congrArg boolSV (decide_eq_false (by omega)).symm

theorem ipPairsS (l : List Nat) (hl : l.length < 100000) : Sy.Spec Try.prog 90 [.val (.slice none 0 0), .sl 1 natSV l] [] (.osl 0) [(0, .row 1 byteSV (pairsL l))] := contract Γ hm 100 F90 Try.ntmps90 rfl fun F hF => by
  ((conv => whnf); repeat (first | (refine ⟨fun (h : false = true) => (Bool.false_ne_true h).elim, fun _ => ?_⟩; ((first | (refine run Γ hm 400 ?_) | (refine runD Γ hm 400 (by kernel_rfl) ?_)); (conv => whnf))) | (refine ⟨fun _ => ?_, fun (h : true = false) => (Bool.false_ne_true h.symm).elim⟩; ((first | (refine run Γ hm 400 ?_) | (refine runD Γ hm 400 (by kernel_rfl) ?_)); (conv => whnf)))))
  refine G_adopt 0 1000 1 byteSV rfl rfl ?_
  refine G_count l.length (fun j => [(0, .osl 1000), (7, .sl 1 natSV l), (8, intSV l.length), (9, intSV j)]) (fun j => [(1000, .row 1 byteSV (pairsL (l.take j)))]) [] ⟨⟨rfl, rfl, rfl, rfl, rfl, rfl, rfl, rfl, trivial⟩, ⟨.inl rfl, rfl, trivial⟩, rfl, rfl⟩ ?_
  intro j hj
  have hpl := pairsL_length (l.take j)
  (((first | (refine run Γ hm 400 ?_) | (refine runD Γ hm 400 (by kernel_rfl) ?_)); (conv => whnf)); repeat (first | (refine ⟨fun (h : false = true) => (Bool.false_ne_true h).elim, fun _ => ?_⟩; ((first | (refine run Γ hm 400 ?_) | (refine runD Γ hm 400 (by kernel_rfl) ?_)); (conv => whnf))) | (refine ⟨fun _ => ?_, fun (h : true = false) => (Bool.false_ne_true h.symm).elim⟩; ((first | (refine run Γ hm 400 ?_) | (refine runD Γ hm 400 (by kernel_rfl) ?_)); (conv => whnf)))))
  refine ⟨fun h => ?_, fun h => ?_⟩
  · have hlt : j < l.length := by simpa using h
    have e1 : l[(j : Int).toNat]'(by omega) = l[j] := rfl
    have hsucc : pairsL (l.take (j + 1)) = pairsL (l.take j) ++ [UInt8.ofNat (l[j] / 256), UInt8.ofNat l[j]] := by
      rw [List.take_succ_eq_append_getElem hlt, pairsL_snoc]
    obtain ⟨n, hn⟩ : ∃ n, l[j] = n := ⟨_, rfl⟩
    rw [hn] at e1 hsucc
    have htb := two_bytes n
    (((first | (refine run Γ hm 400 ?_) | (refine runD Γ hm 400 (by kernel_rfl) ?_)); (conv => whnf)); repeat (first | (refine ⟨fun (h : false = true) => (Bool.false_ne_true h).elim, fun _ => ?_⟩; ((first | (refine run Γ hm 400 ?_) | (refine runD Γ hm 400 (by kernel_rfl) ?_)); (conv => whnf))) | (refine ⟨fun _ => ?_, fun (h : true = false) => (Bool.false_ne_true h.symm).elim⟩; ((first | (refine run Γ hm 400 ?_) | (refine runD Γ hm 400 (by kernel_rfl) ?_)); (conv => whnf)))))
    refine ⟨rfl, by omega, by omega, ?_⟩
    rw [e1]
    ((conv => whnf); repeat (first | (refine ⟨fun (h : false = true) => (Bool.false_ne_true h).elim, fun _ => ?_⟩; ((first | (refine run Γ hm 400 ?_) | (refine runD Γ hm 400 (by kernel_rfl) ?_)); (conv => whnf))) | (refine ⟨fun _ => ?_, fun (h : true = false) => (Bool.false_ne_true h.symm).elim⟩; ((first | (refine run Γ hm 400 ?_) | (refine runD Γ hm 400 (by kernel_rfl) ?_)); (conv => whnf)))))
    refine ⟨by omega, ?_⟩
    ((conv => whnf); repeat (first | (refine ⟨fun (h : false = true) => (Bool.false_ne_true h).elim, fun _ => ?_⟩; ((first | (refine run Γ hm 400 ?_) | (refine runD Γ hm 400 (by kernel_rfl) ?_)); (conv => whnf))) | (refine ⟨fun _ => ?_, fun (h : true = false) => (Bool.false_ne_true h.symm).elim⟩; ((first | (refine run Γ hm 400 ?_) | (refine runD Γ hm 400 (by kernel_rfl) ?_)); (conv => whnf)))))
    refine stepOp (good_appendT Γ.toTy 20 rfl rfl rfl rfl rfl (.row rfl) (.lit (e := byteSV) (l := [UInt8.ofNat (n / 256), UInt8.ofNat n]) rfl htb) (by simp) (by simp [hpl]; omega) (by simp [hpl]; omega)) rfl rfl ?_
    (((first | (refine run Γ hm 400 ?_) | (refine runD Γ hm 400 (by kernel_rfl) ?_)); (conv => whnf)); repeat (first | (refine ⟨fun (h : false = true) => (Bool.false_ne_true h).elim, fun _ => ?_⟩; ((first | (refine run Γ hm 400 ?_) | (refine runD Γ hm 400 (by kernel_rfl) ?_)); (conv => whnf))) | (refine ⟨fun _ => ?_, fun (h : true = false) => (Bool.false_ne_true h.symm).elim⟩; ((first | (refine run Γ hm 400 ?_) | (refine runD Γ hm 400 (by kernel_rfl) ?_)); (conv => whnf)))))
    refine ⟨by unfold I64; omega, ?_⟩
    ((conv => whnf); repeat (first | (refine ⟨fun (h : false = true) => (Bool.false_ne_true h).elim, fun _ => ?_⟩; ((first | (refine run Γ hm 400 ?_) | (refine runD Γ hm 400 (by kernel_rfl) ?_)); (conv => whnf))) | (refine ⟨fun _ => ?_, fun (h : true = false) => (Bool.false_ne_true h.symm).elim⟩; ((first | (refine run Γ hm 400 ?_) | (refine runD Γ hm 400 (by kernel_rfl) ?_)); (conv => whnf)))))
    exact G_next [(1000, 20)] hlt ⟨⟨rfl, rfl, rfl, rfl, rfl, rfl, rfl, rfl, trivial⟩, ⟨.inl (congrArg (Ob.row 1 byteSV) hsucc), rfl, trivial⟩, rfl, rfl⟩
  · have hjl : j = l.length := by
      have : ¬ j < l.length := by simpa using h
      omega
    subst hjl
    rw [List.take_length]
    (((first | (refine run Γ hm 400 ?_) | (refine runD Γ hm 400 (by kernel_rfl) ?_)); (conv => whnf)); repeat (first | (refine ⟨fun (h : false = true) => (Bool.false_ne_true h).elim, fun _ => ?_⟩; ((first | (refine run Γ hm 400 ?_) | (refine runD Γ hm 400 (by kernel_rfl) ?_)); (conv => whnf))) | (refine ⟨fun _ => ?_, fun (h : true = false) => (Bool.false_ne_true h.symm).elim⟩; ((first | (refine run Γ hm 400 ?_) | (refine runD Γ hm 400 (by kernel_rfl) ?_)); (conv => whnf)))))
    exact done rfl (.cons .tmp .nil) [(0, 1000)] [(0, .row 1 byteSV (pairsL l))] (fun _ h => h) rfl rfl ⟨trivial, ⟨.inl rfl, rfl, trivial⟩, rfl, rfl⟩

theorem ip0_pairs (to : Nat) : pairsL [17664, 20, 0, 0, 16401, 0, 0, 1, to / 65536, to] = ip0 to := by
  simp only [pairsL, ip0, be, List.flatMap_cons, List.flatMap_nil, List.cons_append, List.nil_append, Nat.reducePow, Nat.pow_zero, Nat.pow_one, Nat.div_one, Nat.div_div_eq_div_mul, Nat.reduceMul, Nat.reduceDiv]

def pktSV (to : Nat) : SV := .agg [intSV 0, intSV 0, intSV 64, intSV 17, u32SV 1, u32SV to, .val (.slice none 0 0)]

theorem ipPutS (to : Nat) (hto : to < 4294967296) : Sy.Spec Try.prog 80 [pktSV to] [] (.tup [.osl 0, intSV 0]) [(0, .row 1 byteSV (ipL to))] := contract Γ hm 100 F80 Try.ntmps80 rfl fun F hF => by
  have hs := sumOfS (ip0 to) (by rw [ip0_length]; decide) (by rw [ip0_length])
  have hset := ipL_set to hto
  have hil := ip0_length to
  have hpp := ip0_pairs to
  have hput := ipPairsS [17664, 20, 0, 0, 16401, 0, 0, 1, to / 65536, to] (by simp)
  have hsl : sumOf (ip0 to) ≤ 65535 := Nat.sub_le _ _
  have htb := two_bytes (sumOf (ip0 to))
  rw [hpp] at hput
  generalize ip0 to = b at *
  generalize sumOf b = s at *
  ((conv => whnf); repeat (first | (refine ⟨fun (h : false = true) => (Bool.false_ne_true h).elim, fun _ => ?_⟩; ((first | (refine run Γ hm 400 ?_) | (refine runD Γ hm 400 (by kernel_rfl) ?_)); (conv => whnf))) | (refine ⟨fun _ => ?_, fun (h : true = false) => (Bool.false_ne_true h.symm).elim⟩; ((first | (refine run Γ hm 400 ?_) | (refine runD Γ hm 400 (by kernel_rfl) ?_)); (conv => whnf)))))
  refine callC ⟨⟨_, _, F89⟩, smallS 0 255 (by decide)⟩ rfl rfl rfl rfl rfl rfl ?_
  (((first | (refine run Γ hm 400 ?_) | (refine runD Γ hm 400 (by kernel_rfl) ?_)); (conv => whnf)); repeat (first | (refine ⟨fun (h : false = true) => (Bool.false_ne_true h).elim, fun _ => ?_⟩; ((first | (refine run Γ hm 400 ?_) | (refine runD Γ hm 400 (by kernel_rfl) ?_)); (conv => whnf))) | (refine ⟨fun _ => ?_, fun (h : true = false) => (Bool.false_ne_true h.symm).elim⟩; ((first | (refine run Γ hm 400 ?_) | (refine runD Γ hm 400 (by kernel_rfl) ?_)); (conv => whnf)))))
  refine callC ⟨⟨_, _, F89⟩, smallS 64 255 (by decide)⟩ rfl rfl rfl rfl rfl rfl ?_
  (((first | (refine run Γ hm 400 ?_) | (refine runD Γ hm 400 (by kernel_rfl) ?_)); (conv => whnf)); repeat (first | (refine ⟨fun (h : false = true) => (Bool.false_ne_true h).elim, fun _ => ?_⟩; ((first | (refine run Γ hm 400 ?_) | (refine runD Γ hm 400 (by kernel_rfl) ?_)); (conv => whnf))) | (refine ⟨fun _ => ?_, fun (h : true = false) => (Bool.false_ne_true h.symm).elim⟩; ((first | (refine run Γ hm 400 ?_) | (refine runD Γ hm 400 (by kernel_rfl) ?_)); (conv => whnf)))))
  refine callC ⟨⟨_, _, F89⟩, smallS 17 255 (by decide)⟩ rfl rfl rfl rfl rfl rfl ?_
  (((first | (refine run Γ hm 400 ?_) | (refine runD Γ hm 400 (by kernel_rfl) ?_)); (conv => whnf)); repeat (first | (refine ⟨fun (h : false = true) => (Bool.false_ne_true h).elim, fun _ => ?_⟩; ((first | (refine run Γ hm 400 ?_) | (refine runD Γ hm 400 (by kernel_rfl) ?_)); (conv => whnf))) | (refine ⟨fun _ => ?_, fun (h : true = false) => (Bool.false_ne_true h.symm).elim⟩; ((first | (refine run Γ hm 400 ?_) | (refine runD Γ hm 400 (by kernel_rfl) ?_)); (conv => whnf)))))
  refine callC ⟨⟨_, _, F89⟩, smallS 0 65535 (by decide)⟩ rfl rfl rfl rfl rfl rfl ?_
  (((first | (refine run Γ hm 400 ?_) | (refine runD Γ hm 400 (by kernel_rfl) ?_)); (conv => whnf)); repeat (first | (refine ⟨fun (h : false = true) => (Bool.false_ne_true h).elim, fun _ => ?_⟩; ((first | (refine run Γ hm 400 ?_) | (refine runD Γ hm 400 (by kernel_rfl) ?_)); (conv => whnf))) | (refine ⟨fun _ => ?_, fun (h : true = false) => (Bool.false_ne_true h.symm).elim⟩; ((first | (refine run Γ hm 400 ?_) | (refine runD Γ hm 400 (by kernel_rfl) ?_)); (conv => whnf)))))
  refine ⟨by unfold I64; decide, ?_⟩
  ((conv => whnf); repeat (first | (refine ⟨fun (h : false = true) => (Bool.false_ne_true h).elim, fun _ => ?_⟩; ((first | (refine run Γ hm 400 ?_) | (refine runD Γ hm 400 (by kernel_rfl) ?_)); (conv => whnf))) | (refine ⟨fun _ => ?_, fun (h : true = false) => (Bool.false_ne_true h.symm).elim⟩; ((first | (refine run Γ hm 400 ?_) | (refine runD Γ hm 400 (by kernel_rfl) ?_)); (conv => whnf)))))
  refine ⟨by omega, ?_⟩
  ((conv => whnf); repeat (first | (refine ⟨fun (h : false = true) => (Bool.false_ne_true h).elim, fun _ => ?_⟩; ((first | (refine run Γ hm 400 ?_) | (refine runD Γ hm 400 (by kernel_rfl) ?_)); (conv => whnf))) | (refine ⟨fun _ => ?_, fun (h : true = false) => (Bool.false_ne_true h.symm).elim⟩; ((first | (refine run Γ hm 400 ?_) | (refine runD Γ hm 400 (by kernel_rfl) ?_)); (conv => whnf)))))
  refine ⟨by omega, ?_⟩
  ((conv => whnf); repeat (first | (refine ⟨fun (h : false = true) => (Bool.false_ne_true h).elim, fun _ => ?_⟩; ((first | (refine run Γ hm 400 ?_) | (refine runD Γ hm 400 (by kernel_rfl) ?_)); (conv => whnf))) | (refine ⟨fun _ => ?_, fun (h : true = false) => (Bool.false_ne_true h.symm).elim⟩; ((first | (refine run Γ hm 400 ?_) | (refine runD Γ hm 400 (by kernel_rfl) ?_)); (conv => whnf)))))
  refine ⟨by omega, ?_⟩
  ((conv => whnf); repeat (first | (refine ⟨fun (h : false = true) => (Bool.false_ne_true h).elim, fun _ => ?_⟩; ((first | (refine run Γ hm 400 ?_) | (refine runD Γ hm 400 (by kernel_rfl) ?_)); (conv => whnf))) | (refine ⟨fun _ => ?_, fun (h : true = false) => (Bool.false_ne_true h.symm).elim⟩; ((first | (refine run Γ hm 400 ?_) | (refine runD Γ hm 400 (by kernel_rfl) ?_)); (conv => whnf)))))
  have w1 : IntKind.i64.wrap ((to : Int).fdiv (2 ^ (min (Int.toNat 16) IntKind.u32.bits))) = ((to / 65536 : Nat) : Int) := by
    show IntKind.i64.wrap ((to : Int).fdiv 65536) = _
    rw [Int.fdiv_eq_ediv_of_nonneg _ (by decide), IntKind.wrap_i64]
    omega
  have w2 : IntKind.i64.wrap (to : Int) = to := by rw [IntKind.wrap_i64]; omega
  refine G_retype 68 (e := natSV) (l := [17664, 20, 0, 0, 16401, 0, 0, 1, to / 65536, to]) rfl ?_ ?_
  · show _ = [SV.val _, SV.val _, SV.val _, SV.val _, SV.val _, SV.val _, SV.val _, SV.val _, SV.val (.int .i64 (IntKind.i64.wrap ((to : Int).fdiv (2 ^ (min (Int.toNat 16) IntKind.u32.bits))))), SV.val (.int .i64 (IntKind.i64.wrap (to : Int)))]
    rw [w1, w2]
    rfl
  refine G_data 68 rfl ?_
  refine stepOp (good_call [(0, 69)] rfl F90 hput rfl trivial rfl ⟨.inr rfl, trivial⟩) rfl rfl ?_
  (((first | (refine run Γ hm 400 ?_) | (refine runD Γ hm 400 (by kernel_rfl) ?_)); (conv => whnf)); repeat (first | (refine ⟨fun (h : false = true) => (Bool.false_ne_true h).elim, fun _ => ?_⟩; ((first | (refine run Γ hm 400 ?_) | (refine runD Γ hm 400 (by kernel_rfl) ?_)); (conv => whnf))) | (refine ⟨fun _ => ?_, fun (h : true = false) => (Bool.false_ne_true h.symm).elim⟩; ((first | (refine run Γ hm 400 ?_) | (refine runD Γ hm 400 (by kernel_rfl) ?_)); (conv => whnf)))))
  refine callK [69] hs F91 rfl (.cons (.row rfl rfl) .nil) rfl rfl rfl ?_
  (((first | (refine run Γ hm 400 ?_) | (refine runD Γ hm 400 (by kernel_rfl) ?_)); (conv => whnf)); repeat (first | (refine ⟨fun (h : false = true) => (Bool.false_ne_true h).elim, fun _ => ?_⟩; ((first | (refine run Γ hm 400 ?_) | (refine runD Γ hm 400 (by kernel_rfl) ?_)); (conv => whnf))) | (refine ⟨fun _ => ?_, fun (h : true = false) => (Bool.false_ne_true h.symm).elim⟩; ((first | (refine run Γ hm 400 ?_) | (refine runD Γ hm 400 (by kernel_rfl) ?_)); (conv => whnf)))))
  have hb1 := (List.cons.inj htb).1
  have hb2 := (List.cons.inj (List.cons.inj htb).2).1
  refine ⟨by omega, ?_⟩
  ((conv => whnf); repeat (first | (refine ⟨fun (h : false = true) => (Bool.false_ne_true h).elim, fun _ => ?_⟩; ((first | (refine run Γ hm 400 ?_) | (refine runD Γ hm 400 (by kernel_rfl) ?_)); (conv => whnf))) | (refine ⟨fun _ => ?_, fun (h : true = false) => (Bool.false_ne_true h.symm).elim⟩; ((first | (refine run Γ hm 400 ?_) | (refine runD Γ hm 400 (by kernel_rfl) ?_)); (conv => whnf)))))
  refine ⟨by decide, by rw [hil]; decide, ?_⟩
  ((conv => whnf); repeat (first | (refine ⟨fun (h : false = true) => (Bool.false_ne_true h).elim, fun _ => ?_⟩; ((first | (refine run Γ hm 400 ?_) | (refine runD Γ hm 400 (by kernel_rfl) ?_)); (conv => whnf))) | (refine ⟨fun _ => ?_, fun (h : true = false) => (Bool.false_ne_true h.symm).elim⟩; ((first | (refine run Γ hm 400 ?_) | (refine runD Γ hm 400 (by kernel_rfl) ?_)); (conv => whnf)))))
  refine ⟨rfl, by rw [hil]; decide, UInt8.ofNat (s / 256), congrArg (fun z => [z]) hb1, rfl, ?_⟩
  ((conv => whnf); repeat (first | (refine ⟨fun (h : false = true) => (Bool.false_ne_true h).elim, fun _ => ?_⟩; ((first | (refine run Γ hm 400 ?_) | (refine runD Γ hm 400 (by kernel_rfl) ?_)); (conv => whnf))) | (refine ⟨fun _ => ?_, fun (h : true = false) => (Bool.false_ne_true h.symm).elim⟩; ((first | (refine run Γ hm 400 ?_) | (refine runD Γ hm 400 (by kernel_rfl) ?_)); (conv => whnf)))))
  refine ⟨by decide, by simp [hil], ?_⟩
  ((conv => whnf); repeat (first | (refine ⟨fun (h : false = true) => (Bool.false_ne_true h).elim, fun _ => ?_⟩; ((first | (refine run Γ hm 400 ?_) | (refine runD Γ hm 400 (by kernel_rfl) ?_)); (conv => whnf))) | (refine ⟨fun _ => ?_, fun (h : true = false) => (Bool.false_ne_true h.symm).elim⟩; ((first | (refine run Γ hm 400 ?_) | (refine runD Γ hm 400 (by kernel_rfl) ?_)); (conv => whnf)))))
  refine ⟨rfl, by simp [hil], UInt8.ofNat s, congrArg (fun z => [z]) hb2, rfl, ?_⟩
  ((conv => whnf); repeat (first | (refine ⟨fun (h : false = true) => (Bool.false_ne_true h).elim, fun _ => ?_⟩; ((first | (refine run Γ hm 400 ?_) | (refine runD Γ hm 400 (by kernel_rfl) ?_)); (conv => whnf))) | (refine ⟨fun _ => ?_, fun (h : true = false) => (Bool.false_ne_true h.symm).elim⟩; ((first | (refine run Γ hm 400 ?_) | (refine runD Γ hm 400 (by kernel_rfl) ?_)); (conv => whnf)))))
  refine stepOp (good_appendT Γ.toTy 84 rfl rfl rfl rfl rfl (.row rfl) .nil (by decide) (by simp [hil]) (by simp [hil])) rfl rfl ?_
  (((first | (refine run Γ hm 400 ?_) | (refine runD Γ hm 400 (by kernel_rfl) ?_)); (conv => whnf)); repeat (first | (refine ⟨fun (h : false = true) => (Bool.false_ne_true h).elim, fun _ => ?_⟩; ((first | (refine run Γ hm 400 ?_) | (refine runD Γ hm 400 (by kernel_rfl) ?_)); (conv => whnf))) | (refine ⟨fun _ => ?_, fun (h : true = false) => (Bool.false_ne_true h.symm).elim⟩; ((first | (refine run Γ hm 400 ?_) | (refine runD Γ hm 400 (by kernel_rfl) ?_)); (conv => whnf)))))
  refine done rfl (.cons .tmp (.cons .tmp .nil)) [(0, 84)] [(0, .row 1 byteSV (ipL to))] (fun _ h => h) rfl rfl ⟨trivial, ⟨.inl (congrArg (Ob.row 1 byteSV) ?_), rfl, trivial⟩, rfl, rfl⟩
  rw [← hset, List.append_nil]
  rfl

theorem u8_of (n : Nat) : IntKind.u8.wrap (n : Int) = ((UInt8.ofNat n).toNat : Int) := by
  rw [IntKind.wrap_u8]
  simp

/-- A number's bytes, the lowest ones done. -/
def beU (k n j : Nat) : List UInt8 := List.replicate (k - j) 0 ++ be j n
theorem beU_length (k n j : Nat) (h : j ≤ k) : (beU k n j).length = k := by simp [beU, be_length]; omega
theorem beU_succ (k n j : Nat) (h : j < k) : beU k n (j + 1) = (beU k n j).set (k - 1 - j) (UInt8.ofNat (n / 256 ^ j)) := by
  have e : k - j = (k - (j + 1)) + 1 := by omega
  rw [beU, beU, e, List.replicate_succ', List.append_assoc, List.set_append_right _ _ (by simp; omega), List.length_replicate, show k - 1 - j - (k - (j + 1)) = 0 by omega]
  rfl

theorem refBytesS (n k : Nat) (hn : n < 9223372036854775808) (hk : k ≤ 8) : Sy.Spec Try.prog 94 [intSV n, intSV k] [] (.osl 0) [(0, .row 1 byteSV (be k n))] := contract Γ hm 100 F94 Try.ntmps94 rfl fun F hF => by
  ((conv => whnf); repeat (first | (refine ⟨fun (h : false = true) => (Bool.false_ne_true h).elim, fun _ => ?_⟩; ((first | (refine run Γ hm 400 ?_) | (refine runD Γ hm 400 (by kernel_rfl) ?_)); (conv => whnf))) | (refine ⟨fun _ => ?_, fun (h : true = false) => (Bool.false_ne_true h.symm).elim⟩; ((first | (refine run Γ hm 400 ?_) | (refine runD Γ hm 400 (by kernel_rfl) ?_)); (conv => whnf)))))
  refine stepOp (good_makeSlice Γ.toTy (d := 8) (n := k) byteSV 0 rfl rfl rfl rfl rfl rfl rfl rfl (by omega) (by omega) rfl rfl rfl) rfl rfl ?_
  (((first | (refine run Γ hm 400 ?_) | (refine runD Γ hm 400 (by kernel_rfl) ?_)); (conv => whnf)); repeat (first | (refine ⟨fun (h : false = true) => (Bool.false_ne_true h).elim, fun _ => ?_⟩; ((first | (refine run Γ hm 400 ?_) | (refine runD Γ hm 400 (by kernel_rfl) ?_)); (conv => whnf))) | (refine ⟨fun _ => ?_, fun (h : true = false) => (Bool.false_ne_true h.symm).elim⟩; ((first | (refine run Γ hm 400 ?_) | (refine runD Γ hm 400 (by kernel_rfl) ?_)); (conv => whnf)))))
  refine G_count k (fun j => [(0, intSV (n / 256 ^ j : Nat)), (1, intSV k), (5, .osl 8), (6, intSV j)]) (fun j => [(8, .row 1 byteSV (beU k n j))]) [] ⟨⟨congrArg (fun z : Nat => intSV z) (by simp), rfl, rfl, rfl, rfl, rfl, rfl, rfl, trivial⟩, ⟨.inl (congrArg (Ob.row 1 byteSV) (by simp [beU, be])), rfl, trivial⟩, rfl, rfl⟩ ?_
  intro j hj
  have hlen := beU_length k n j hj
  (((first | (refine run Γ hm 400 ?_) | (refine runD Γ hm 400 (by kernel_rfl) ?_)); (conv => whnf)); repeat (first | (refine ⟨fun (h : false = true) => (Bool.false_ne_true h).elim, fun _ => ?_⟩; ((first | (refine run Γ hm 400 ?_) | (refine runD Γ hm 400 (by kernel_rfl) ?_)); (conv => whnf))) | (refine ⟨fun _ => ?_, fun (h : true = false) => (Bool.false_ne_true h.symm).elim⟩; ((first | (refine run Γ hm 400 ?_) | (refine runD Γ hm 400 (by kernel_rfl) ?_)); (conv => whnf)))))
  refine ⟨fun h => ?_, fun h => ?_⟩
  · have hlt : j < k := by have := of_decide_eq_true h; omega
    have hsucc := beU_succ k n j hlt
    have hle := Nat.div_le_self n (256 ^ j)
    have hdiv := div_pow n j
    generalize n / 256 ^ j = q at *
    generalize beU k n j = u at *
    have e3 : IntKind.u8.wrap ((q : Int).tmod 256) = ((UInt8.ofNat q).toNat : Int) := by
      rw [Int.tmod_eq_emod_of_nonneg (by omega), IntKind.wrap_u8]
      simp
    (((first | (refine run Γ hm 400 ?_) | (refine runD Γ hm 400 (by kernel_rfl) ?_)); (conv => whnf)); repeat (first | (refine ⟨fun (h : false = true) => (Bool.false_ne_true h).elim, fun _ => ?_⟩; ((first | (refine run Γ hm 400 ?_) | (refine runD Γ hm 400 (by kernel_rfl) ?_)); (conv => whnf))) | (refine ⟨fun _ => ?_, fun (h : true = false) => (Bool.false_ne_true h.symm).elim⟩; ((first | (refine run Γ hm 400 ?_) | (refine runD Γ hm 400 (by kernel_rfl) ?_)); (conv => whnf)))))
    refine ⟨by unfold I64; omega, ?_⟩
    ((conv => whnf); repeat (first | (refine ⟨fun (h : false = true) => (Bool.false_ne_true h).elim, fun _ => ?_⟩; ((first | (refine run Γ hm 400 ?_) | (refine runD Γ hm 400 (by kernel_rfl) ?_)); (conv => whnf))) | (refine ⟨fun _ => ?_, fun (h : true = false) => (Bool.false_ne_true h.symm).elim⟩; ((first | (refine run Γ hm 400 ?_) | (refine runD Γ hm 400 (by kernel_rfl) ?_)); (conv => whnf)))))
    refine ⟨by unfold I64; omega, ?_⟩
    ((conv => whnf); repeat (first | (refine ⟨fun (h : false = true) => (Bool.false_ne_true h).elim, fun _ => ?_⟩; ((first | (refine run Γ hm 400 ?_) | (refine runD Γ hm 400 (by kernel_rfl) ?_)); (conv => whnf))) | (refine ⟨fun _ => ?_, fun (h : true = false) => (Bool.false_ne_true h.symm).elim⟩; ((first | (refine run Γ hm 400 ?_) | (refine runD Γ hm 400 (by kernel_rfl) ?_)); (conv => whnf)))))
    refine ⟨by decide, ?_⟩
    ((conv => whnf); repeat (first | (refine ⟨fun (h : false = true) => (Bool.false_ne_true h).elim, fun _ => ?_⟩; ((first | (refine run Γ hm 400 ?_) | (refine runD Γ hm 400 (by kernel_rfl) ?_)); (conv => whnf))) | (refine ⟨fun _ => ?_, fun (h : true = false) => (Bool.false_ne_true h.symm).elim⟩; ((first | (refine run Γ hm 400 ?_) | (refine runD Γ hm 400 (by kernel_rfl) ?_)); (conv => whnf)))))
    refine ⟨by omega, by omega, ?_⟩
    ((conv => whnf); repeat (first | (refine ⟨fun (h : false = true) => (Bool.false_ne_true h).elim, fun _ => ?_⟩; ((first | (refine run Γ hm 400 ?_) | (refine runD Γ hm 400 (by kernel_rfl) ?_)); (conv => whnf))) | (refine ⟨fun _ => ?_, fun (h : true = false) => (Bool.false_ne_true h.symm).elim⟩; ((first | (refine run Γ hm 400 ?_) | (refine runD Γ hm 400 (by kernel_rfl) ?_)); (conv => whnf)))))
    refine ⟨rfl, by omega, UInt8.ofNat q, congrArg (fun z => [SV.val (.int .u8 z)]) e3.symm, rfl, ?_⟩
    ((conv => whnf); repeat (first | (refine ⟨fun (h : false = true) => (Bool.false_ne_true h).elim, fun _ => ?_⟩; ((first | (refine run Γ hm 400 ?_) | (refine runD Γ hm 400 (by kernel_rfl) ?_)); (conv => whnf))) | (refine ⟨fun _ => ?_, fun (h : true = false) => (Bool.false_ne_true h.symm).elim⟩; ((first | (refine run Γ hm 400 ?_) | (refine runD Γ hm 400 (by kernel_rfl) ?_)); (conv => whnf)))))
    refine ⟨by decide, ?_⟩
    ((conv => whnf); repeat (first | (refine ⟨fun (h : false = true) => (Bool.false_ne_true h).elim, fun _ => ?_⟩; ((first | (refine run Γ hm 400 ?_) | (refine runD Γ hm 400 (by kernel_rfl) ?_)); (conv => whnf))) | (refine ⟨fun _ => ?_, fun (h : true = false) => (Bool.false_ne_true h.symm).elim⟩; ((first | (refine run Γ hm 400 ?_) | (refine runD Γ hm 400 (by kernel_rfl) ?_)); (conv => whnf)))))
    refine ⟨by unfold I64; omega, ?_⟩
    ((conv => whnf); repeat (first | (refine ⟨fun (h : false = true) => (Bool.false_ne_true h).elim, fun _ => ?_⟩; ((first | (refine run Γ hm 400 ?_) | (refine runD Γ hm 400 (by kernel_rfl) ?_)); (conv => whnf))) | (refine ⟨fun _ => ?_, fun (h : true = false) => (Bool.false_ne_true h.symm).elim⟩; ((first | (refine run Γ hm 400 ?_) | (refine runD Γ hm 400 (by kernel_rfl) ?_)); (conv => whnf)))))
    refine G_next [] hlt ⟨⟨congrArg (fun z => SV.val (.int .i64 z)) ?_, rfl, rfl, rfl, rfl, rfl, rfl, rfl, trivial⟩, ⟨.inl (congrArg (Ob.row 1 byteSV) ?_), rfl, trivial⟩, rfl, rfl⟩
    · rw [← hdiv, Int.tdiv_eq_ediv_of_nonneg (by omega), IntKind.wrap_i64]; omega
    · rw [hsucc]; congr 1; omega
  · have hjk : j = k := by have := of_decide_eq_false h; omega
    subst hjk
    (((first | (refine run Γ hm 400 ?_) | (refine runD Γ hm 400 (by kernel_rfl) ?_)); (conv => whnf)); repeat (first | (refine ⟨fun (h : false = true) => (Bool.false_ne_true h).elim, fun _ => ?_⟩; ((first | (refine run Γ hm 400 ?_) | (refine runD Γ hm 400 (by kernel_rfl) ?_)); (conv => whnf))) | (refine ⟨fun _ => ?_, fun (h : true = false) => (Bool.false_ne_true h.symm).elim⟩; ((first | (refine run Γ hm 400 ?_) | (refine runD Γ hm 400 (by kernel_rfl) ?_)); (conv => whnf)))))
    refine done rfl (.cons .tmp .nil) [(0, 8)] [(0, .row 1 byteSV (be j n))] (fun _ h => h) rfl rfl ⟨trivial, ⟨.inl (congrArg (Ob.row 1 byteSV) ?_), rfl, trivial⟩, rfl, rfl⟩
    simp [beU]
end Go.Sy.Ytnccojbdjjnoiaa

namespace Go.Sy.Ytnccojbdjjnoiaa
open Go.Proofs

attribute [local irreducible] Go.Sy.G Go.Sy.DR
set_option maxRecDepth 100000
set_option maxHeartbeats 4000000

def ipA : List UInt8 := [69, 0] ++ be 2 20 ++ be 2 0 ++ [0, 0, 64, 17]
def ipB (to : Nat) : List UInt8 := be 4 1 ++ be 4 to
theorem ipAB_sum (to : Nat) (h : to < 4294967296) : sumOf (ipA ++ ipB to) = sumOf (ip0 to) := by
  have e : wsum (ipA ++ ipB to) 9 = 0x4500 + 20 + 0x4011 + 1 + to / 65536 + to % 65536 := by
    simp only [wsum, ipA, ipB, be, List.cons_append, List.nil_append, List.getD_cons_zero, List.getD_cons_succ, Nat.reduceMul, Nat.reduceAdd, Nat.mul_zero, Nat.mul_one, ofNat_toNat, Nat.reducePow, Nat.pow_zero, Nat.pow_one, Nat.div_one]
    simp
    omega
  have hl : (ipA ++ ipB to).length = 18 := by simp [ipA, ipB, be_length]
  rw [ip0_sum to h, sumOf, hl, show 18 / 2 = 9 from rfl, e]
theorem ipAB_all (to : Nat) (h : to < 4294967296) : ipA ++ be 2 (sumOf (ip0 to)) ++ ipB to = ipL to := by
  rw [ip0_sum to h]
  simp [ipA, ipB, ipL, be]

theorem refIpPutS (to : Nat) (hto : to < 4294967296) : Sy.Spec Try.prog 84 [pktSV to] [] (.tup [.osl 0, intSV 0]) [(0, .row 1 byteSV (ipL to))] := contract Γ hm 100 F84 Try.ntmps84 rfl fun F hF => by
  have hil : (ipA ++ ipB to).length = 18 := by simp [ipA, ipB, be_length]
  have hs := refSumOfS (ipA ++ ipB to) (by rw [hil]; decide) (by rw [hil])
  have hall := ipAB_all to hto
  have hsum := ipAB_sum to hto
  have hsl : sumOf (ip0 to) ≤ 65535 := Nat.sub_le _ _
  rw [hsum] at hs
  generalize sumOf (ip0 to) = s at *
  have w2 : IntKind.i64.wrap (to : Int) = to := by rw [IntKind.wrap_i64]; omega
  have hby := refBytesS to 4 (by omega) (by decide)
  rw [← w2] at hby
  ((conv => whnf); repeat (first | (refine ⟨fun (h : false = true) => (Bool.false_ne_true h).elim, fun _ => ?_⟩; ((first | (refine run Γ hm 400 ?_) | (refine runD Γ hm 400 (by kernel_rfl) ?_)); (conv => whnf))) | (refine ⟨fun _ => ?_, fun (h : true = false) => (Bool.false_ne_true h.symm).elim⟩; ((first | (refine run Γ hm 400 ?_) | (refine runD Γ hm 400 (by kernel_rfl) ?_)); (conv => whnf)))))
  refine call0 (outS 0 255 (by decide)) F93 rfl rfl rfl rfl rfl ?_
  (((first | (refine run Γ hm 400 ?_) | (refine runD Γ hm 400 (by kernel_rfl) ?_)); (conv => whnf)); repeat (first | (refine ⟨fun (h : false = true) => (Bool.false_ne_true h).elim, fun _ => ?_⟩; ((first | (refine run Γ hm 400 ?_) | (refine runD Γ hm 400 (by kernel_rfl) ?_)); (conv => whnf))) | (refine ⟨fun _ => ?_, fun (h : true = false) => (Bool.false_ne_true h.symm).elim⟩; ((first | (refine run Γ hm 400 ?_) | (refine runD Γ hm 400 (by kernel_rfl) ?_)); (conv => whnf)))))
  refine call0 (outS 64 255 (by decide)) F93 rfl rfl rfl rfl rfl ?_
  (((first | (refine run Γ hm 400 ?_) | (refine runD Γ hm 400 (by kernel_rfl) ?_)); (conv => whnf)); repeat (first | (refine ⟨fun (h : false = true) => (Bool.false_ne_true h).elim, fun _ => ?_⟩; ((first | (refine run Γ hm 400 ?_) | (refine runD Γ hm 400 (by kernel_rfl) ?_)); (conv => whnf))) | (refine ⟨fun _ => ?_, fun (h : true = false) => (Bool.false_ne_true h.symm).elim⟩; ((first | (refine run Γ hm 400 ?_) | (refine runD Γ hm 400 (by kernel_rfl) ?_)); (conv => whnf)))))
  refine call0 (outS 17 255 (by decide)) F93 rfl rfl rfl rfl rfl ?_
  (((first | (refine run Γ hm 400 ?_) | (refine runD Γ hm 400 (by kernel_rfl) ?_)); (conv => whnf)); repeat (first | (refine ⟨fun (h : false = true) => (Bool.false_ne_true h).elim, fun _ => ?_⟩; ((first | (refine run Γ hm 400 ?_) | (refine runD Γ hm 400 (by kernel_rfl) ?_)); (conv => whnf))) | (refine ⟨fun _ => ?_, fun (h : true = false) => (Bool.false_ne_true h.symm).elim⟩; ((first | (refine run Γ hm 400 ?_) | (refine runD Γ hm 400 (by kernel_rfl) ?_)); (conv => whnf)))))
  refine call0 (outS 0 65535 (by decide)) F93 rfl rfl rfl rfl rfl ?_
  (((first | (refine run Γ hm 400 ?_) | (refine runD Γ hm 400 (by kernel_rfl) ?_)); (conv => whnf)); repeat (first | (refine ⟨fun (h : false = true) => (Bool.false_ne_true h).elim, fun _ => ?_⟩; ((first | (refine run Γ hm 400 ?_) | (refine runD Γ hm 400 (by kernel_rfl) ?_)); (conv => whnf))) | (refine ⟨fun _ => ?_, fun (h : true = false) => (Bool.false_ne_true h.symm).elim⟩; ((first | (refine run Γ hm 400 ?_) | (refine runD Γ hm 400 (by kernel_rfl) ?_)); (conv => whnf)))))
  refine ⟨by unfold I64; decide, ?_⟩
  ((conv => whnf); repeat (first | (refine ⟨fun (h : false = true) => (Bool.false_ne_true h).elim, fun _ => ?_⟩; ((first | (refine run Γ hm 400 ?_) | (refine runD Γ hm 400 (by kernel_rfl) ?_)); (conv => whnf))) | (refine ⟨fun _ => ?_, fun (h : true = false) => (Bool.false_ne_true h.symm).elim⟩; ((first | (refine run Γ hm 400 ?_) | (refine runD Γ hm 400 (by kernel_rfl) ?_)); (conv => whnf)))))
  refine stepOp (good_call [(0, 39)] rfl F94 (refBytesS 20 2 (by decide) (by decide)) rfl trivial rfl ⟨.inr rfl, trivial⟩) rfl rfl ?_
  (((first | (refine run Γ hm 400 ?_) | (refine runD Γ hm 400 (by kernel_rfl) ?_)); (conv => whnf)); repeat (first | (refine ⟨fun (h : false = true) => (Bool.false_ne_true h).elim, fun _ => ?_⟩; ((first | (refine run Γ hm 400 ?_) | (refine runD Γ hm 400 (by kernel_rfl) ?_)); (conv => whnf))) | (refine ⟨fun _ => ?_, fun (h : true = false) => (Bool.false_ne_true h.symm).elim⟩; ((first | (refine run Γ hm 400 ?_) | (refine runD Γ hm 400 (by kernel_rfl) ?_)); (conv => whnf)))))
  refine stepOp (good_appendT Γ.toTy 40 rfl rfl rfl rfl rfl (.lit (e := byteSV) (l := [69, 0]) rfl rfl) (.row rfl) (by decide) (by simp [be_length]) (by simp [be_length])) rfl rfl ?_
  (((first | (refine run Γ hm 400 ?_) | (refine runD Γ hm 400 (by kernel_rfl) ?_)); (conv => whnf)); repeat (first | (refine ⟨fun (h : false = true) => (Bool.false_ne_true h).elim, fun _ => ?_⟩; ((first | (refine run Γ hm 400 ?_) | (refine runD Γ hm 400 (by kernel_rfl) ?_)); (conv => whnf))) | (refine ⟨fun _ => ?_, fun (h : true = false) => (Bool.false_ne_true h.symm).elim⟩; ((first | (refine run Γ hm 400 ?_) | (refine runD Γ hm 400 (by kernel_rfl) ?_)); (conv => whnf)))))
  refine stepOp (good_call [(0, 44)] rfl F94 (refBytesS 0 2 (by decide) (by decide)) rfl trivial rfl ⟨.inr rfl, trivial⟩) rfl rfl ?_
  (((first | (refine run Γ hm 400 ?_) | (refine runD Γ hm 400 (by kernel_rfl) ?_)); (conv => whnf)); repeat (first | (refine ⟨fun (h : false = true) => (Bool.false_ne_true h).elim, fun _ => ?_⟩; ((first | (refine run Γ hm 400 ?_) | (refine runD Γ hm 400 (by kernel_rfl) ?_)); (conv => whnf))) | (refine ⟨fun _ => ?_, fun (h : true = false) => (Bool.false_ne_true h.symm).elim⟩; ((first | (refine run Γ hm 400 ?_) | (refine runD Γ hm 400 (by kernel_rfl) ?_)); (conv => whnf)))))
  refine stepOp (good_appendT Γ.toTy 45 rfl rfl rfl rfl rfl (.row rfl) (.row rfl) (by decide) (by simp [be_length]) (by simp [be_length])) rfl rfl ?_
  (((first | (refine run Γ hm 400 ?_) | (refine runD Γ hm 400 (by kernel_rfl) ?_)); (conv => whnf)); repeat (first | (refine ⟨fun (h : false = true) => (Bool.false_ne_true h).elim, fun _ => ?_⟩; ((first | (refine run Γ hm 400 ?_) | (refine runD Γ hm 400 (by kernel_rfl) ?_)); (conv => whnf))) | (refine ⟨fun _ => ?_, fun (h : true = false) => (Bool.false_ne_true h.symm).elim⟩; ((first | (refine run Γ hm 400 ?_) | (refine runD Γ hm 400 (by kernel_rfl) ?_)); (conv => whnf)))))
  refine stepOp (good_appendT Γ.toTy 54 rfl rfl rfl rfl rfl (.row rfl) (.lit (e := byteSV) (l := [0, 0, 64, 17]) rfl rfl) (by decide) (by simp [be_length]) (by simp [be_length])) rfl rfl ?_
  (((first | (refine run Γ hm 400 ?_) | (refine runD Γ hm 400 (by kernel_rfl) ?_)); (conv => whnf)); repeat (first | (refine ⟨fun (h : false = true) => (Bool.false_ne_true h).elim, fun _ => ?_⟩; ((first | (refine run Γ hm 400 ?_) | (refine runD Γ hm 400 (by kernel_rfl) ?_)); (conv => whnf))) | (refine ⟨fun _ => ?_, fun (h : true = false) => (Bool.false_ne_true h.symm).elim⟩; ((first | (refine run Γ hm 400 ?_) | (refine runD Γ hm 400 (by kernel_rfl) ?_)); (conv => whnf)))))
  refine stepD (good_call [(0, 58)] rfl F94 (refBytesS 1 4 (by decide) (by decide)) rfl trivial rfl ⟨.inr rfl, trivial⟩) (by kernel_rfl) rfl ?_
  (((first | (refine run Γ hm 400 ?_) | (refine runD Γ hm 400 (by kernel_rfl) ?_)); (conv => whnf)); repeat (first | (refine ⟨fun (h : false = true) => (Bool.false_ne_true h).elim, fun _ => ?_⟩; ((first | (refine run Γ hm 400 ?_) | (refine runD Γ hm 400 (by kernel_rfl) ?_)); (conv => whnf))) | (refine ⟨fun _ => ?_, fun (h : true = false) => (Bool.false_ne_true h.symm).elim⟩; ((first | (refine run Γ hm 400 ?_) | (refine runD Γ hm 400 (by kernel_rfl) ?_)); (conv => whnf)))))
  refine stepD (good_call [(0, 62)] rfl F94 hby rfl trivial rfl ⟨.inr rfl, trivial⟩) (by kernel_rfl) rfl ?_
  (((first | (refine run Γ hm 400 ?_) | (refine runD Γ hm 400 (by kernel_rfl) ?_)); (conv => whnf)); repeat (first | (refine ⟨fun (h : false = true) => (Bool.false_ne_true h).elim, fun _ => ?_⟩; ((first | (refine run Γ hm 400 ?_) | (refine runD Γ hm 400 (by kernel_rfl) ?_)); (conv => whnf))) | (refine ⟨fun _ => ?_, fun (h : true = false) => (Bool.false_ne_true h.symm).elim⟩; ((first | (refine run Γ hm 400 ?_) | (refine runD Γ hm 400 (by kernel_rfl) ?_)); (conv => whnf)))))
  refine stepD (good_appendT Γ.toTy 63 rfl rfl rfl rfl rfl (.row rfl) (.row rfl) (by decide) (by simp [be_length]) (by simp [be_length])) (by kernel_rfl) rfl ?_
  (((first | (refine run Γ hm 400 ?_) | (refine runD Γ hm 400 (by kernel_rfl) ?_)); (conv => whnf)); repeat (first | (refine ⟨fun (h : false = true) => (Bool.false_ne_true h).elim, fun _ => ?_⟩; ((first | (refine run Γ hm 400 ?_) | (refine runD Γ hm 400 (by kernel_rfl) ?_)); (conv => whnf))) | (refine ⟨fun _ => ?_, fun (h : true = false) => (Bool.false_ne_true h.symm).elim⟩; ((first | (refine run Γ hm 400 ?_) | (refine runD Γ hm 400 (by kernel_rfl) ?_)); (conv => whnf)))))
  refine ⟨(by kernel_rfl), ?_⟩
  ((conv => whnf); repeat (first | (refine ⟨fun (h : false = true) => (Bool.false_ne_true h).elim, fun _ => ?_⟩; ((first | (refine run Γ hm 400 ?_) | (refine runD Γ hm 400 (by kernel_rfl) ?_)); (conv => whnf))) | (refine ⟨fun _ => ?_, fun (h : true = false) => (Bool.false_ne_true h.symm).elim⟩; ((first | (refine run Γ hm 400 ?_) | (refine runD Γ hm 400 (by kernel_rfl) ?_)); (conv => whnf)))))
  refine stepOp (good_appendT Γ.toTy 66 rfl rfl rfl rfl rfl (.lit (e := byteSV) (l := []) rfl rfl) (.row rfl) (by decide) (by simp [be_length]) (by simp [be_length])) rfl rfl ?_
  (((first | (refine run Γ hm 400 ?_) | (refine runD Γ hm 400 (by kernel_rfl) ?_)); (conv => whnf)); repeat (first | (refine ⟨fun (h : false = true) => (Bool.false_ne_true h).elim, fun _ => ?_⟩; ((first | (refine run Γ hm 400 ?_) | (refine runD Γ hm 400 (by kernel_rfl) ?_)); (conv => whnf))) | (refine ⟨fun _ => ?_, fun (h : true = false) => (Bool.false_ne_true h.symm).elim⟩; ((first | (refine run Γ hm 400 ?_) | (refine runD Γ hm 400 (by kernel_rfl) ?_)); (conv => whnf)))))
  refine stepOp (good_appendT Γ.toTy 68 rfl rfl rfl rfl rfl (.row rfl) (.row rfl) (by decide) (by simp [be_length]) (by simp [be_length])) rfl rfl ?_
  (((first | (refine run Γ hm 400 ?_) | (refine runD Γ hm 400 (by kernel_rfl) ?_)); (conv => whnf)); repeat (first | (refine ⟨fun (h : false = true) => (Bool.false_ne_true h).elim, fun _ => ?_⟩; ((first | (refine run Γ hm 400 ?_) | (refine runD Γ hm 400 (by kernel_rfl) ?_)); (conv => whnf))) | (refine ⟨fun _ => ?_, fun (h : true = false) => (Bool.false_ne_true h.symm).elim⟩; ((first | (refine run Γ hm 400 ?_) | (refine runD Γ hm 400 (by kernel_rfl) ?_)); (conv => whnf)))))
  refine callK [68] hs F95 rfl (.cons (.row ?_ rfl) .nil) rfl rfl rfl ?_
  · rfl
  (((first | (refine run Γ hm 400 ?_) | (refine runD Γ hm 400 (by kernel_rfl) ?_)); (conv => whnf)); repeat (first | (refine ⟨fun (h : false = true) => (Bool.false_ne_true h).elim, fun _ => ?_⟩; ((first | (refine run Γ hm 400 ?_) | (refine runD Γ hm 400 (by kernel_rfl) ?_)); (conv => whnf))) | (refine ⟨fun _ => ?_, fun (h : true = false) => (Bool.false_ne_true h.symm).elim⟩; ((first | (refine run Γ hm 400 ?_) | (refine runD Γ hm 400 (by kernel_rfl) ?_)); (conv => whnf)))))
  refine stepOp (good_call [(0, 72)] rfl F94 (refBytesS s 2 (by omega) (by decide)) rfl trivial rfl ⟨.inr rfl, trivial⟩) rfl rfl ?_
  (((first | (refine run Γ hm 400 ?_) | (refine runD Γ hm 400 (by kernel_rfl) ?_)); (conv => whnf)); repeat (first | (refine ⟨fun (h : false = true) => (Bool.false_ne_true h).elim, fun _ => ?_⟩; ((first | (refine run Γ hm 400 ?_) | (refine runD Γ hm 400 (by kernel_rfl) ?_)); (conv => whnf))) | (refine ⟨fun _ => ?_, fun (h : true = false) => (Bool.false_ne_true h.symm).elim⟩; ((first | (refine run Γ hm 400 ?_) | (refine runD Γ hm 400 (by kernel_rfl) ?_)); (conv => whnf)))))
  refine stepOp (good_appendT Γ.toTy 73 rfl rfl rfl rfl rfl (.row rfl) (.row rfl) (by decide) (by simp [be_length]) (by simp [be_length])) rfl rfl ?_
  (((first | (refine run Γ hm 400 ?_) | (refine runD Γ hm 400 (by kernel_rfl) ?_)); (conv => whnf)); repeat (first | (refine ⟨fun (h : false = true) => (Bool.false_ne_true h).elim, fun _ => ?_⟩; ((first | (refine run Γ hm 400 ?_) | (refine runD Γ hm 400 (by kernel_rfl) ?_)); (conv => whnf))) | (refine ⟨fun _ => ?_, fun (h : true = false) => (Bool.false_ne_true h.symm).elim⟩; ((first | (refine run Γ hm 400 ?_) | (refine runD Γ hm 400 (by kernel_rfl) ?_)); (conv => whnf)))))
  refine stepOp (good_appendT Γ.toTy 75 rfl rfl rfl rfl rfl (.row rfl) (.row rfl) (by decide) (by simp [be_length]) (by simp [be_length])) rfl rfl ?_
  (((first | (refine run Γ hm 400 ?_) | (refine runD Γ hm 400 (by kernel_rfl) ?_)); (conv => whnf)); repeat (first | (refine ⟨fun (h : false = true) => (Bool.false_ne_true h).elim, fun _ => ?_⟩; ((first | (refine run Γ hm 400 ?_) | (refine runD Γ hm 400 (by kernel_rfl) ?_)); (conv => whnf))) | (refine ⟨fun _ => ?_, fun (h : true = false) => (Bool.false_ne_true h.symm).elim⟩; ((first | (refine run Γ hm 400 ?_) | (refine runD Γ hm 400 (by kernel_rfl) ?_)); (conv => whnf)))))
  refine stepOp (good_appendT Γ.toTy 79 rfl rfl rfl rfl rfl (.row rfl) .nil (by decide) (by simp [be_length]) (by simp [be_length])) rfl rfl ?_
  (((first | (refine run Γ hm 400 ?_) | (refine runD Γ hm 400 (by kernel_rfl) ?_)); (conv => whnf)); repeat (first | (refine ⟨fun (h : false = true) => (Bool.false_ne_true h).elim, fun _ => ?_⟩; ((first | (refine run Γ hm 400 ?_) | (refine runD Γ hm 400 (by kernel_rfl) ?_)); (conv => whnf))) | (refine ⟨fun _ => ?_, fun (h : true = false) => (Bool.false_ne_true h.symm).elim⟩; ((first | (refine run Γ hm 400 ?_) | (refine runD Γ hm 400 (by kernel_rfl) ?_)); (conv => whnf)))))
  refine done rfl (.cons .tmp (.cons .tmp .nil)) [(0, 79)] [(0, .row 1 byteSV (ipL to))] (fun _ h => h) rfl rfl ⟨trivial, ⟨.inl (congrArg (Ob.row 1 byteSV) ?_), rfl, trivial⟩, rfl, rfl⟩
  rw [← hall, List.append_nil]
  rfl

/-! Addresses. -/
theorem wrap_u64_small {x : Int} (h0 : 0 ≤ x) (h1 : x < 18446744073709551616) : IntKind.u64.wrap x = x := by rw [IntKind.wrap_u64]; omega

theorem hostS (ip : Nat) (h : ip < 4294967296) : Sy.Spec Try.prog 78 [u32SV ip] [] (u64SV (hostN ip)) [] := contract Γ hm 100 F78 Try.ntmps78 rfl fun F hF => by
  ((conv => whnf); repeat (first | (refine ⟨fun (h : false = true) => (Bool.false_ne_true h).elim, fun _ => ?_⟩; ((first | (refine run Γ hm 400 ?_) | (refine runD Γ hm 400 (by kernel_rfl) ?_)); (conv => whnf))) | (refine ⟨fun _ => ?_, fun (h : true = false) => (Bool.false_ne_true h.symm).elim⟩; ((first | (refine run Γ hm 400 ?_) | (refine runD Γ hm 400 (by kernel_rfl) ?_)); (conv => whnf)))))
  refine done0 rfl (.cons .tmp .nil) ?_ rfl
  refine congrArg (fun z => SV.val (.int .u64 z)) ?_
  have e : IntKind.u64.wrap (ip : Int) = ip := wrap_u64_small (by omega) (by omega)
  rw [e]
  have hb := bits_or_u64_nat 2199023255552 ip (by decide) (by omega)
  rw [show ((2199023255552 : Nat) : Int) = 2199023255552 from rfl] at hb
  rw [hb, hostN, Int.toNat_natCast]
  have h2 := Nat.two_pow_add_eq_or_of_lt (i := 32) (b := ip) (by omega) 512
  rw [show 2 ^ 32 * 512 = 2199023255552 from rfl] at h2
  rw [← h2]
theorem refHostS (ip : Nat) (h : ip < 4294967296) : Sy.Spec Try.prog 83 [u32SV ip] [] (u64SV (hostN ip)) [] := contract Γ hm 100 F83 Try.ntmps83 rfl fun F hF => by
  ((conv => whnf); repeat (first | (refine ⟨fun (h : false = true) => (Bool.false_ne_true h).elim, fun _ => ?_⟩; ((first | (refine run Γ hm 400 ?_) | (refine runD Γ hm 400 (by kernel_rfl) ?_)); (conv => whnf))) | (refine ⟨fun _ => ?_, fun (h : true = false) => (Bool.false_ne_true h.symm).elim⟩; ((first | (refine run Γ hm 400 ?_) | (refine runD Γ hm 400 (by kernel_rfl) ?_)); (conv => whnf)))))
  refine done0 rfl (.cons .tmp .nil) ?_ rfl
  refine congrArg (fun z => SV.val (.int .u64 z)) ?_
  have e : IntKind.u64.wrap (ip : Int) = ip := wrap_u64_small (by omega) (by omega)
  rw [e, wrap_u64_small (by omega) (by omega), hostN, Int.toNat_natCast]
  omega

def prefixSV (a bits : Int) : SV := .agg [u32SV a, intSV bits]
theorem addrRightS (a bits : Int) : Sy.Spec Try.prog 87 [prefixSV a bits] [] (boolSV (decide (0 ≤ bits ∧ bits ≤ 32))) [] := contract Γ hm 100 F87 Try.ntmps87 rfl fun F hF => by
  ((conv => whnf); repeat (first | (refine ⟨fun (h : false = true) => (Bool.false_ne_true h).elim, fun _ => ?_⟩; ((first | (refine run Γ hm 400 ?_) | (refine runD Γ hm 400 (by kernel_rfl) ?_)); (conv => whnf))) | (refine ⟨fun _ => ?_, fun (h : true = false) => (Bool.false_ne_true h.symm).elim⟩; ((first | (refine run Γ hm 400 ?_) | (refine runD Γ hm 400 (by kernel_rfl) ?_)); (conv => whnf)))))
  (repeat' (first | (refine ⟨fun h => ?_, fun h => ?_⟩ <;> (repeat (first | (simp only [decide_eq_true_eq] at h) | (simp only [decide_eq_false_iff_not] at h) | (simp only [beq_iff_eq] at h) | (simp only [beq_eq_false_iff_ne] at h) | (simp only [bne_iff_ne] at h) | (simp only [bne_eq_false_iff_eq] at h) | (simp only [Bool.and_eq_true] at h) | (simp only [Bool.or_eq_true] at h) | (simp only [Bool.and_eq_false_iff] at h) | (simp only [Bool.or_eq_false_iff] at h) | (simp only [Bool.not_eq_true'] at h) | (simp only [Bool.not_eq_false'] at h) | (simp only [Bool.not_eq_eq_eq_not] at h) | (simp only [Bool.not_true] at h) | (simp only [Bool.not_false] at h))) <;> (((first | (refine run Γ hm 400 ?_) | (refine runD Γ hm 400 (by kernel_rfl) ?_)); (conv => whnf)); repeat (first | (refine ⟨fun (h : false = true) => (Bool.false_ne_true h).elim, fun _ => ?_⟩; ((first | (refine run Γ hm 400 ?_) | (refine runD Γ hm 400 (by kernel_rfl) ?_)); (conv => whnf))) | (refine ⟨fun _ => ?_, fun (h : true = false) => (Bool.false_ne_true h.symm).elim⟩; ((first | (refine run Γ hm 400 ?_) | (refine runD Γ hm 400 (by kernel_rfl) ?_)); (conv => whnf)))))) | (refine done0 rfl (.cons .tmp .nil) ?_ rfl) | (refine ⟨(by kernel_rfl), ?_⟩; ((conv => whnf); repeat (first | (refine ⟨fun (h : false = true) => (Bool.false_ne_true h).elim, fun _ => ?_⟩; ((first | (refine run Γ hm 400 ?_) | (refine runD Γ hm 400 (by kernel_rfl) ?_)); (conv => whnf))) | (refine ⟨fun _ => ?_, fun (h : true = false) => (Bool.false_ne_true h.symm).elim⟩; ((first | (refine run Γ hm 400 ?_) | (refine runD Γ hm 400 (by kernel_rfl) ?_)); (conv => whnf)))))) | (refine ⟨by (first | (unfold I64; omega) | omega | (simp only [Int.toNat_natCast]; omega) | done), by (first | (unfold I64; omega) | omega | (simp only [Int.toNat_natCast]; omega) | done), ?_⟩; ((conv => whnf); repeat (first | (refine ⟨fun (h : false = true) => (Bool.false_ne_true h).elim, fun _ => ?_⟩; ((first | (refine run Γ hm 400 ?_) | (refine runD Γ hm 400 (by kernel_rfl) ?_)); (conv => whnf))) | (refine ⟨fun _ => ?_, fun (h : true = false) => (Bool.false_ne_true h.symm).elim⟩; ((first | (refine run Γ hm 400 ?_) | (refine runD Γ hm 400 (by kernel_rfl) ?_)); (conv => whnf)))))) | (refine ⟨by (first | (unfold I64; omega) | omega | (simp only [Int.toNat_natCast]; omega) | done), ?_⟩; ((conv => whnf); repeat (first | (refine ⟨fun (h : false = true) => (Bool.false_ne_true h).elim, fun _ => ?_⟩; ((first | (refine run Γ hm 400 ?_) | (refine runD Γ hm 400 (by kernel_rfl) ?_)); (conv => whnf))) | (refine ⟨fun _ => ?_, fun (h : true = false) => (Bool.false_ne_true h.symm).elim⟩; ((first | (refine run Γ hm 400 ?_) | (refine runD Γ hm 400 (by kernel_rfl) ?_)); (conv => whnf))))))))
  all_goals (refine congrArg boolSV ?_; clear hF; grind)
theorem refAddrRightS (a bits : Int) : Sy.Spec Try.prog 96 [prefixSV a bits] [] (boolSV (decide (0 ≤ bits ∧ bits ≤ 32))) [] := contract Γ hm 100 F96 Try.ntmps96 rfl fun F hF => by
  ((conv => whnf); repeat (first | (refine ⟨fun (h : false = true) => (Bool.false_ne_true h).elim, fun _ => ?_⟩; ((first | (refine run Γ hm 400 ?_) | (refine runD Γ hm 400 (by kernel_rfl) ?_)); (conv => whnf))) | (refine ⟨fun _ => ?_, fun (h : true = false) => (Bool.false_ne_true h.symm).elim⟩; ((first | (refine run Γ hm 400 ?_) | (refine runD Γ hm 400 (by kernel_rfl) ?_)); (conv => whnf)))))
  (repeat' (first | (refine ⟨fun h => ?_, fun h => ?_⟩ <;> (repeat (first | (simp only [decide_eq_true_eq] at h) | (simp only [decide_eq_false_iff_not] at h) | (simp only [beq_iff_eq] at h) | (simp only [beq_eq_false_iff_ne] at h) | (simp only [bne_iff_ne] at h) | (simp only [bne_eq_false_iff_eq] at h) | (simp only [Bool.and_eq_true] at h) | (simp only [Bool.or_eq_true] at h) | (simp only [Bool.and_eq_false_iff] at h) | (simp only [Bool.or_eq_false_iff] at h) | (simp only [Bool.not_eq_true'] at h) | (simp only [Bool.not_eq_false'] at h) | (simp only [Bool.not_eq_eq_eq_not] at h) | (simp only [Bool.not_true] at h) | (simp only [Bool.not_false] at h))) <;> (((first | (refine run Γ hm 400 ?_) | (refine runD Γ hm 400 (by kernel_rfl) ?_)); (conv => whnf)); repeat (first | (refine ⟨fun (h : false = true) => (Bool.false_ne_true h).elim, fun _ => ?_⟩; ((first | (refine run Γ hm 400 ?_) | (refine runD Γ hm 400 (by kernel_rfl) ?_)); (conv => whnf))) | (refine ⟨fun _ => ?_, fun (h : true = false) => (Bool.false_ne_true h.symm).elim⟩; ((first | (refine run Γ hm 400 ?_) | (refine runD Γ hm 400 (by kernel_rfl) ?_)); (conv => whnf)))))) | (refine done0 rfl (.cons .tmp .nil) ?_ rfl) | (refine ⟨(by kernel_rfl), ?_⟩; ((conv => whnf); repeat (first | (refine ⟨fun (h : false = true) => (Bool.false_ne_true h).elim, fun _ => ?_⟩; ((first | (refine run Γ hm 400 ?_) | (refine runD Γ hm 400 (by kernel_rfl) ?_)); (conv => whnf))) | (refine ⟨fun _ => ?_, fun (h : true = false) => (Bool.false_ne_true h.symm).elim⟩; ((first | (refine run Γ hm 400 ?_) | (refine runD Γ hm 400 (by kernel_rfl) ?_)); (conv => whnf)))))) | (refine ⟨by (first | (unfold I64; omega) | omega | (simp only [Int.toNat_natCast]; omega) | done), by (first | (unfold I64; omega) | omega | (simp only [Int.toNat_natCast]; omega) | done), ?_⟩; ((conv => whnf); repeat (first | (refine ⟨fun (h : false = true) => (Bool.false_ne_true h).elim, fun _ => ?_⟩; ((first | (refine run Γ hm 400 ?_) | (refine runD Γ hm 400 (by kernel_rfl) ?_)); (conv => whnf))) | (refine ⟨fun _ => ?_, fun (h : true = false) => (Bool.false_ne_true h.symm).elim⟩; ((first | (refine run Γ hm 400 ?_) | (refine runD Γ hm 400 (by kernel_rfl) ?_)); (conv => whnf)))))) | (refine ⟨by (first | (unfold I64; omega) | omega | (simp only [Int.toNat_natCast]; omega) | done), ?_⟩; ((conv => whnf); repeat (first | (refine ⟨fun (h : false = true) => (Bool.false_ne_true h).elim, fun _ => ?_⟩; ((first | (refine run Γ hm 400 ?_) | (refine runD Γ hm 400 (by kernel_rfl) ?_)); (conv => whnf))) | (refine ⟨fun _ => ?_, fun (h : true = false) => (Bool.false_ne_true h.symm).elim⟩; ((first | (refine run Γ hm 400 ?_) | (refine runD Γ hm 400 (by kernel_rfl) ?_)); (conv => whnf))))))))
  all_goals (refine congrArg boolSV ?_; clear hF; grind)

theorem addrRestS (a bits : Int) (h : 0 ≤ bits ∧ bits ≤ 32) : Sy.Spec Try.prog 88 [prefixSV a bits] [] (u32SV (2 ^ (32 - bits).toNat - 1)) [] := contract Γ hm 100 F88 Try.ntmps88 rfl fun F hF => by
  ((conv => whnf); repeat (first | (refine ⟨fun (h : false = true) => (Bool.false_ne_true h).elim, fun _ => ?_⟩; ((first | (refine run Γ hm 400 ?_) | (refine runD Γ hm 400 (by kernel_rfl) ?_)); (conv => whnf))) | (refine ⟨fun _ => ?_, fun (h : true = false) => (Bool.false_ne_true h.symm).elim⟩; ((first | (refine run Γ hm 400 ?_) | (refine runD Γ hm 400 (by kernel_rfl) ?_)); (conv => whnf)))))
  refine ⟨by unfold I64; omega, ?_⟩
  ((conv => whnf); repeat (first | (refine ⟨fun (h : false = true) => (Bool.false_ne_true h).elim, fun _ => ?_⟩; ((first | (refine run Γ hm 400 ?_) | (refine runD Γ hm 400 (by kernel_rfl) ?_)); (conv => whnf))) | (refine ⟨fun _ => ?_, fun (h : true = false) => (Bool.false_ne_true h.symm).elim⟩; ((first | (refine run Γ hm 400 ?_) | (refine runD Γ hm 400 (by kernel_rfl) ?_)); (conv => whnf)))))
  refine ⟨by omega, ?_⟩
  ((conv => whnf); repeat (first | (refine ⟨fun (h : false = true) => (Bool.false_ne_true h).elim, fun _ => ?_⟩; ((first | (refine run Γ hm 400 ?_) | (refine runD Γ hm 400 (by kernel_rfl) ?_)); (conv => whnf))) | (refine ⟨fun _ => ?_, fun (h : true = false) => (Bool.false_ne_true h.symm).elim⟩; ((first | (refine run Γ hm 400 ?_) | (refine runD Γ hm 400 (by kernel_rfl) ?_)); (conv => whnf)))))
  refine done0 rfl (.cons .tmp .nil) ?_ rfl
  refine congrArg (fun z => SV.val (.int .u32 z)) ?_
  obtain ⟨k, hk, hk2⟩ : ∃ k : Nat, (32 - bits).toNat = k ∧ k ≤ 32 := ⟨_, rfl, by omega⟩
  have h1 : min (32 - bits).toNat IntKind.u32.bits = k := by show min (32 - bits).toNat 32 = k; omega
  rw [h1, hk, IntKind.wrap_u32, IntKind.wrap_u32]
  have h2 : (2 : Int) ^ k ≤ 4294967296 := by
    have := Nat.pow_le_pow_right (n := 2) (by decide) hk2
    rw [show (2 : Int) ^ k = ((2 ^ k : Nat) : Int) by rw [Int.natCast_pow]; rfl]
    have e : (2 : Nat) ^ 32 = 4294967296 := rfl
    rw [e] at this
    omega
  have h0 : (1 : Int) ≤ 2 ^ k := by
    have := Nat.one_le_two_pow (n := k)
    rw [show (2 : Int) ^ k = ((2 ^ k : Nat) : Int) by rw [Int.natCast_pow]; rfl]
    omega
  generalize (2 : Int) ^ k = q at *
  omega

theorem andNot_low (a k : Nat) (ha : a < 4294967296) (hk : k ≤ 32) : bits .andNot .u32 (a : Int) ((2 ^ k - 1 : Nat) : Int) = ((a - a % 2 ^ k : Nat) : Int) := by
  have hp := Nat.pow_le_pow_right (n := 2) (by decide) hk
  have e32 : (2 : Nat) ^ 32 = 4294967296 := rfl
  rw [e32] at hp
  have h1 := Nat.one_le_two_pow (n := k)
  have x1 : (BitVec.ofInt 32 (a : Int)).toNat = a := by rw [BitVec.ofInt_natCast, BitVec.toNat_ofNat]; exact Nat.mod_eq_of_lt (by omega)
  have x2 : (BitVec.ofInt 32 ((2 ^ k - 1 : Nat) : Int)).toNat = 2 ^ k - 1 := by rw [BitVec.ofInt_natCast, BitVec.toNat_ofNat]; exact Nat.mod_eq_of_lt (by omega)
  have key : (BitVec.ofInt 32 (a : Int) &&& ~~~ BitVec.ofInt 32 ((2 ^ k - 1 : Nat) : Int)).toNat = a - a % 2 ^ k := by
    have hd : a - a % 2 ^ k = 2 ^ k * (a / 2 ^ k) := by have := Nat.div_add_mod a (2 ^ k); omega
    rw [hd]
    refine Nat.eq_of_testBit_eq fun i => ?_
    rw [BitVec.testBit_toNat, BitVec.getLsbD_and, BitVec.getLsbD_not, ← BitVec.testBit_toNat, ← BitVec.testBit_toNat, x1, x2, Nat.testBit_two_pow_sub_one, Nat.testBit_two_pow_mul, Nat.testBit_div_two_pow]
    by_cases hi : i < k
    · have : ¬ i ≥ k := by omega
      simp [hi, this]
    · have h2 : i ≥ k := by omega
      have h3 : i - k + k = i := by omega
      by_cases h4 : i < 32
      · simp [hi, h2, h4, h3]
      · have h5 : a.testBit i = false := Nat.testBit_lt_two_pow (Nat.lt_of_lt_of_le (by rw [← e32] at ha; exact ha) (Nat.pow_le_pow_right (by decide) (by omega)))
        rw [h3, h5]
        simp
  show IntKind.u32.wrap (((BitVec.ofInt 32 (a : Int) &&& ~~~ BitVec.ofInt 32 ((2 ^ k - 1 : Nat) : Int)).toNat : Nat) : Int) = _
  rw [key, IntKind.wrap_u32]
  omega

theorem firstI_nat (a k : Nat) (bits : Int) (h : 0 ≤ bits ∧ bits ≤ 32) (hk : (32 - bits).toNat = k) : firstI a bits = ((a - a % 2 ^ k : Nat) : Int) := by
  rw [firstI, if_pos h, hk]
  have h1 := Nat.mod_le a (2 ^ k)
  rw [show (2 : Int) ^ k = ((2 ^ k : Nat) : Int) by rw [Int.natCast_pow]; rfl]
  omega

theorem addrFirstS (a : Nat) (bits : Int) (ha : a < 4294967296) : Sy.Spec Try.prog 79 [prefixSV a bits] [] (u32SV (firstI a bits)) [] := contract Γ hm 100 F79 Try.ntmps79 rfl fun F hF => by
  have hr := addrRightS a bits
  by_cases hb : 0 ≤ bits ∧ bits ≤ 32
  · have hrest := addrRestS a bits hb
    rw [decide_eq_true hb] at hr
    obtain ⟨k, hk, hk2⟩ : ∃ k : Nat, (32 - bits).toNat = k ∧ k ≤ 32 := ⟨_, rfl, by omega⟩
    have hn := andNot_low a k ha hk2
    have hf := firstI_nat a k bits hb hk
    have h1 := Nat.one_le_two_pow (n := k)
    have e2 : (2 : Int) ^ k - 1 = ((2 ^ k - 1 : Nat) : Int) := by
      rw [show (2 : Int) ^ k = ((2 ^ k : Nat) : Int) by rw [Int.natCast_pow]; rfl]
      omega
    rw [hk, e2] at hrest
    rw [hf, ← hn]
    ((conv => whnf); repeat (first | (refine ⟨fun (h : false = true) => (Bool.false_ne_true h).elim, fun _ => ?_⟩; ((first | (refine run Γ hm 400 ?_) | (refine runD Γ hm 400 (by kernel_rfl) ?_)); (conv => whnf))) | (refine ⟨fun _ => ?_, fun (h : true = false) => (Bool.false_ne_true h.symm).elim⟩; ((first | (refine run Γ hm 400 ?_) | (refine runD Γ hm 400 (by kernel_rfl) ?_)); (conv => whnf)))))
    refine call0 hr F87 rfl rfl rfl rfl rfl ?_
    (((first | (refine run Γ hm 400 ?_) | (refine runD Γ hm 400 (by kernel_rfl) ?_)); (conv => whnf)); repeat (first | (refine ⟨fun (h : false = true) => (Bool.false_ne_true h).elim, fun _ => ?_⟩; ((first | (refine run Γ hm 400 ?_) | (refine runD Γ hm 400 (by kernel_rfl) ?_)); (conv => whnf))) | (refine ⟨fun _ => ?_, fun (h : true = false) => (Bool.false_ne_true h.symm).elim⟩; ((first | (refine run Γ hm 400 ?_) | (refine runD Γ hm 400 (by kernel_rfl) ?_)); (conv => whnf)))))
    first | refine callD0 hrest F88 rfl rfl rfl (by kernel_rfl) rfl ?_ | refine call0 hrest F88 rfl rfl rfl rfl rfl ?_
    (((first | (refine run Γ hm 400 ?_) | (refine runD Γ hm 400 (by kernel_rfl) ?_)); (conv => whnf)); repeat (first | (refine ⟨fun (h : false = true) => (Bool.false_ne_true h).elim, fun _ => ?_⟩; ((first | (refine run Γ hm 400 ?_) | (refine runD Γ hm 400 (by kernel_rfl) ?_)); (conv => whnf))) | (refine ⟨fun _ => ?_, fun (h : true = false) => (Bool.false_ne_true h.symm).elim⟩; ((first | (refine run Γ hm 400 ?_) | (refine runD Γ hm 400 (by kernel_rfl) ?_)); (conv => whnf)))))
    first | (refine ⟨(by kernel_rfl), ?_⟩; ((conv => whnf); repeat (first | (refine ⟨fun (h : false = true) => (Bool.false_ne_true h).elim, fun _ => ?_⟩; ((first | (refine run Γ hm 400 ?_) | (refine runD Γ hm 400 (by kernel_rfl) ?_)); (conv => whnf))) | (refine ⟨fun _ => ?_, fun (h : true = false) => (Bool.false_ne_true h.symm).elim⟩; ((first | (refine run Γ hm 400 ?_) | (refine runD Γ hm 400 (by kernel_rfl) ?_)); (conv => whnf)))))) | skip
    exact done0 rfl (.cons .tmp .nil) rfl rfl
  · rw [decide_eq_false hb] at hr
    have hf : firstI a bits = 0 := by rw [firstI, if_neg hb]
    rw [hf]
    ((conv => whnf); repeat (first | (refine ⟨fun (h : false = true) => (Bool.false_ne_true h).elim, fun _ => ?_⟩; ((first | (refine run Γ hm 400 ?_) | (refine runD Γ hm 400 (by kernel_rfl) ?_)); (conv => whnf))) | (refine ⟨fun _ => ?_, fun (h : true = false) => (Bool.false_ne_true h.symm).elim⟩; ((first | (refine run Γ hm 400 ?_) | (refine runD Γ hm 400 (by kernel_rfl) ?_)); (conv => whnf)))))
    refine call0 hr F87 rfl rfl rfl rfl rfl ?_
    (((first | (refine run Γ hm 400 ?_) | (refine runD Γ hm 400 (by kernel_rfl) ?_)); (conv => whnf)); repeat (first | (refine ⟨fun (h : false = true) => (Bool.false_ne_true h).elim, fun _ => ?_⟩; ((first | (refine run Γ hm 400 ?_) | (refine runD Γ hm 400 (by kernel_rfl) ?_)); (conv => whnf))) | (refine ⟨fun _ => ?_, fun (h : true = false) => (Bool.false_ne_true h.symm).elim⟩; ((first | (refine run Γ hm 400 ?_) | (refine runD Γ hm 400 (by kernel_rfl) ?_)); (conv => whnf)))))
    exact done0 rfl (.cons .tmp .nil) rfl rfl

theorem refSizeS (a bits : Int) (h : 0 ≤ bits ∧ bits ≤ 32) : Sy.Spec Try.prog 97 [prefixSV a bits] [] (intSV (2 ^ (32 - bits).toNat : Nat)) [] := contract Γ hm 100 F97 Try.ntmps97 rfl fun F hF => by
  obtain ⟨k, hk, hk2⟩ : ∃ k : Nat, (32 - bits).toNat = k ∧ k ≤ 32 := ⟨_, rfl, by omega⟩
  rw [hk]
  ((conv => whnf); repeat (first | (refine ⟨fun (h : false = true) => (Bool.false_ne_true h).elim, fun _ => ?_⟩; ((first | (refine run Γ hm 400 ?_) | (refine runD Γ hm 400 (by kernel_rfl) ?_)); (conv => whnf))) | (refine ⟨fun _ => ?_, fun (h : true = false) => (Bool.false_ne_true h.symm).elim⟩; ((first | (refine run Γ hm 400 ?_) | (refine runD Γ hm 400 (by kernel_rfl) ?_)); (conv => whnf)))))
  refine G_count k (fun j => [(1, .ptr 1 0), (3, intSV (2 ^ j : Nat)), (4, intSV (bits + j))]) (fun _ => [(1, .box [u32SV a, intSV bits])]) [] ⟨⟨rfl, rfl, rfl, rfl, congrArg (fun z => SV.val (.int .i64 z)) (by simp), rfl, trivial⟩, ⟨.inl rfl, rfl, trivial⟩, rfl, rfl⟩ ?_
  intro j hj
  have hp : 2 ^ j ≤ 2 ^ 32 := Nat.pow_le_pow_right (by decide) (by omega)
  have e32 : (2 : Nat) ^ 32 = 4294967296 := rfl
  have hs : 2 ^ (j + 1) = 2 ^ j * 2 := Nat.pow_succ ..
  rw [e32] at hp
  obtain ⟨q, hq⟩ : ∃ q : Nat, 2 ^ j = q := ⟨_, rfl⟩
  rw [hq] at hp hs ⊢
  (((first | (refine run Γ hm 400 ?_) | (refine runD Γ hm 400 (by kernel_rfl) ?_)); (conv => whnf)); repeat (first | (refine ⟨fun (h : false = true) => (Bool.false_ne_true h).elim, fun _ => ?_⟩; ((first | (refine run Γ hm 400 ?_) | (refine runD Γ hm 400 (by kernel_rfl) ?_)); (conv => whnf))) | (refine ⟨fun _ => ?_, fun (h : true = false) => (Bool.false_ne_true h.symm).elim⟩; ((first | (refine run Γ hm 400 ?_) | (refine runD Γ hm 400 (by kernel_rfl) ?_)); (conv => whnf)))))
  refine ⟨fun h2 => ?_, fun h2 => ?_⟩
  · have hlt : j < k := by have := of_decide_eq_true h2; omega
    (((first | (refine run Γ hm 400 ?_) | (refine runD Γ hm 400 (by kernel_rfl) ?_)); (conv => whnf)); repeat (first | (refine ⟨fun (h : false = true) => (Bool.false_ne_true h).elim, fun _ => ?_⟩; ((first | (refine run Γ hm 400 ?_) | (refine runD Γ hm 400 (by kernel_rfl) ?_)); (conv => whnf))) | (refine ⟨fun _ => ?_, fun (h : true = false) => (Bool.false_ne_true h.symm).elim⟩; ((first | (refine run Γ hm 400 ?_) | (refine runD Γ hm 400 (by kernel_rfl) ?_)); (conv => whnf)))))
    refine ⟨by unfold I64; omega, ?_⟩
    ((conv => whnf); repeat (first | (refine ⟨fun (h : false = true) => (Bool.false_ne_true h).elim, fun _ => ?_⟩; ((first | (refine run Γ hm 400 ?_) | (refine runD Γ hm 400 (by kernel_rfl) ?_)); (conv => whnf))) | (refine ⟨fun _ => ?_, fun (h : true = false) => (Bool.false_ne_true h.symm).elim⟩; ((first | (refine run Γ hm 400 ?_) | (refine runD Γ hm 400 (by kernel_rfl) ?_)); (conv => whnf)))))
    refine ⟨by unfold I64; omega, ?_⟩
    ((conv => whnf); repeat (first | (refine ⟨fun (h : false = true) => (Bool.false_ne_true h).elim, fun _ => ?_⟩; ((first | (refine run Γ hm 400 ?_) | (refine runD Γ hm 400 (by kernel_rfl) ?_)); (conv => whnf))) | (refine ⟨fun _ => ?_, fun (h : true = false) => (Bool.false_ne_true h.symm).elim⟩; ((first | (refine run Γ hm 400 ?_) | (refine runD Γ hm 400 (by kernel_rfl) ?_)); (conv => whnf)))))
    refine G_next [] hlt ⟨⟨rfl, rfl, congrArg (fun z => SV.val (.int .i64 z)) ?_, rfl, congrArg (fun z => SV.val (.int .i64 z)) ?_, rfl, trivial⟩, ⟨.inl rfl, rfl, trivial⟩, rfl, rfl⟩
    · rw [hs]; omega
    · omega
  · have hjk : j = k := by have := of_decide_eq_false h2; omega
    subst hjk
    rw [hq]
    (((first | (refine run Γ hm 400 ?_) | (refine runD Γ hm 400 (by kernel_rfl) ?_)); (conv => whnf)); repeat (first | (refine ⟨fun (h : false = true) => (Bool.false_ne_true h).elim, fun _ => ?_⟩; ((first | (refine run Γ hm 400 ?_) | (refine runD Γ hm 400 (by kernel_rfl) ?_)); (conv => whnf))) | (refine ⟨fun _ => ?_, fun (h : true = false) => (Bool.false_ne_true h.symm).elim⟩; ((first | (refine run Γ hm 400 ?_) | (refine runD Γ hm 400 (by kernel_rfl) ?_)); (conv => whnf)))))
    exact done0 rfl (.cons .tmp .nil) rfl rfl

theorem refFirstS (a : Nat) (bits : Int) (ha : a < 4294967296) : Sy.Spec Try.prog 85 [prefixSV a bits] [] (u32SV (firstI a bits)) [] := contract Γ hm 100 F85 Try.ntmps85 rfl fun F hF => by
  have hr := refAddrRightS a bits
  by_cases hb : 0 ≤ bits ∧ bits ≤ 32
  · have hsz := refSizeS a bits hb
    rw [decide_eq_true hb] at hr
    obtain ⟨k, hk, hk2⟩ : ∃ k : Nat, (32 - bits).toNat = k ∧ k ≤ 32 := ⟨_, rfl, by omega⟩
    have hf := firstI_nat a k bits hb hk
    have h1 := Nat.one_le_two_pow (n := k)
    have hp : 2 ^ k ≤ 2 ^ 32 := Nat.pow_le_pow_right (by decide) hk2
    have e32 : (2 : Nat) ^ 32 = 4294967296 := rfl
    have hdm := Nat.div_add_mod a (2 ^ k)
    have hml := Nat.mod_le a (2 ^ k)
    have hdl := Nat.div_le_self a (2 ^ k)
    rw [e32] at hp
    rw [hk] at hsz
    rw [hf]
    generalize 2 ^ k = q at *
    have w1 : IntKind.i64.wrap (a : Int) = a := by rw [IntKind.wrap_i64]; omega
    have w2 : IntKind.i64.wrap ((IntKind.i64.wrap (a : Int)).tdiv (q : Int)) = ((a / q : Nat) : Int) := by
      rw [w1, Int.tdiv_eq_ediv_of_nonneg (by omega), IntKind.wrap_i64]
      have : ((a : Int) / (q : Int)) = ((a / q : Nat) : Int) := by simp
      rw [this]
      obtain ⟨d, hd⟩ : ∃ d : Nat, a / q = d := ⟨_, rfl⟩
      rw [hd] at hdl ⊢
      omega
    have hmul : ((a / q : Nat) : Int) * (q : Int) = ((q * (a / q) : Nat) : Int) := by rw [Int.natCast_mul, Int.mul_comm]
    ((conv => whnf); repeat (first | (refine ⟨fun (h : false = true) => (Bool.false_ne_true h).elim, fun _ => ?_⟩; ((first | (refine run Γ hm 400 ?_) | (refine runD Γ hm 400 (by kernel_rfl) ?_)); (conv => whnf))) | (refine ⟨fun _ => ?_, fun (h : true = false) => (Bool.false_ne_true h.symm).elim⟩; ((first | (refine run Γ hm 400 ?_) | (refine runD Γ hm 400 (by kernel_rfl) ?_)); (conv => whnf)))))
    refine call0 hr F96 rfl rfl rfl rfl rfl ?_
    (((first | (refine run Γ hm 400 ?_) | (refine runD Γ hm 400 (by kernel_rfl) ?_)); (conv => whnf)); repeat (first | (refine ⟨fun (h : false = true) => (Bool.false_ne_true h).elim, fun _ => ?_⟩; ((first | (refine run Γ hm 400 ?_) | (refine runD Γ hm 400 (by kernel_rfl) ?_)); (conv => whnf))) | (refine ⟨fun _ => ?_, fun (h : true = false) => (Bool.false_ne_true h.symm).elim⟩; ((first | (refine run Γ hm 400 ?_) | (refine runD Γ hm 400 (by kernel_rfl) ?_)); (conv => whnf)))))
    refine callD0 hsz F97 rfl rfl rfl (by kernel_rfl) rfl ?_
    (((first | (refine run Γ hm 400 ?_) | (refine runD Γ hm 400 (by kernel_rfl) ?_)); (conv => whnf)); repeat (first | (refine ⟨fun (h : false = true) => (Bool.false_ne_true h).elim, fun _ => ?_⟩; ((first | (refine run Γ hm 400 ?_) | (refine runD Γ hm 400 (by kernel_rfl) ?_)); (conv => whnf))) | (refine ⟨fun _ => ?_, fun (h : true = false) => (Bool.false_ne_true h.symm).elim⟩; ((first | (refine run Γ hm 400 ?_) | (refine runD Γ hm 400 (by kernel_rfl) ?_)); (conv => whnf)))))
    refine ⟨by omega, ?_⟩
    ((conv => whnf); repeat (first | (refine ⟨fun (h : false = true) => (Bool.false_ne_true h).elim, fun _ => ?_⟩; ((first | (refine run Γ hm 400 ?_) | (refine runD Γ hm 400 (by kernel_rfl) ?_)); (conv => whnf))) | (refine ⟨fun _ => ?_, fun (h : true = false) => (Bool.false_ne_true h.symm).elim⟩; ((first | (refine run Γ hm 400 ?_) | (refine runD Γ hm 400 (by kernel_rfl) ?_)); (conv => whnf)))))
    refine callD0 hsz F97 rfl rfl rfl (by kernel_rfl) rfl ?_
    (((first | (refine run Γ hm 400 ?_) | (refine runD Γ hm 400 (by kernel_rfl) ?_)); (conv => whnf)); repeat (first | (refine ⟨fun (h : false = true) => (Bool.false_ne_true h).elim, fun _ => ?_⟩; ((first | (refine run Γ hm 400 ?_) | (refine runD Γ hm 400 (by kernel_rfl) ?_)); (conv => whnf))) | (refine ⟨fun _ => ?_, fun (h : true = false) => (Bool.false_ne_true h.symm).elim⟩; ((first | (refine run Γ hm 400 ?_) | (refine runD Γ hm 400 (by kernel_rfl) ?_)); (conv => whnf)))))
    refine ⟨(by rw [w2, hmul]; unfold I64; omega), ?_⟩
    ((conv => whnf); repeat (first | (refine ⟨fun (h : false = true) => (Bool.false_ne_true h).elim, fun _ => ?_⟩; ((first | (refine run Γ hm 400 ?_) | (refine runD Γ hm 400 (by kernel_rfl) ?_)); (conv => whnf))) | (refine ⟨fun _ => ?_, fun (h : true = false) => (Bool.false_ne_true h.symm).elim⟩; ((first | (refine run Γ hm 400 ?_) | (refine runD Γ hm 400 (by kernel_rfl) ?_)); (conv => whnf)))))
    refine ⟨(by kernel_rfl), ?_⟩
    ((conv => whnf); repeat (first | (refine ⟨fun (h : false = true) => (Bool.false_ne_true h).elim, fun _ => ?_⟩; ((first | (refine run Γ hm 400 ?_) | (refine runD Γ hm 400 (by kernel_rfl) ?_)); (conv => whnf))) | (refine ⟨fun _ => ?_, fun (h : true = false) => (Bool.false_ne_true h.symm).elim⟩; ((first | (refine run Γ hm 400 ?_) | (refine runD Γ hm 400 (by kernel_rfl) ?_)); (conv => whnf)))))
    refine done0 rfl (.cons .tmp .nil) ?_ rfl
    refine congrArg (fun z => SV.val (.int .u32 z)) ?_
    rw [w2, hmul, IntKind.wrap_u32]
    omega
  · rw [decide_eq_false hb] at hr
    have hf : firstI a bits = 0 := by rw [firstI, if_neg hb]
    rw [hf]
    ((conv => whnf); repeat (first | (refine ⟨fun (h : false = true) => (Bool.false_ne_true h).elim, fun _ => ?_⟩; ((first | (refine run Γ hm 400 ?_) | (refine runD Γ hm 400 (by kernel_rfl) ?_)); (conv => whnf))) | (refine ⟨fun _ => ?_, fun (h : true = false) => (Bool.false_ne_true h.symm).elim⟩; ((first | (refine run Γ hm 400 ?_) | (refine runD Γ hm 400 (by kernel_rfl) ?_)); (conv => whnf)))))
    refine call0 hr F96 rfl rfl rfl rfl rfl ?_
    (((first | (refine run Γ hm 400 ?_) | (refine runD Γ hm 400 (by kernel_rfl) ?_)); (conv => whnf)); repeat (first | (refine ⟨fun (h : false = true) => (Bool.false_ne_true h).elim, fun _ => ?_⟩; ((first | (refine run Γ hm 400 ?_) | (refine runD Γ hm 400 (by kernel_rfl) ?_)); (conv => whnf))) | (refine ⟨fun _ => ?_, fun (h : true = false) => (Bool.false_ne_true h.symm).elim⟩; ((first | (refine run Γ hm 400 ?_) | (refine runD Γ hm 400 (by kernel_rfl) ?_)); (conv => whnf)))))
    exact done0 rfl (.cons .tmp .nil) rfl rfl
end Go.Sy.Ytnccojbdjjnoiaa

namespace Go.Sy.Ytnccojbdjjnoiaa
open Go.Proofs

attribute [local irreducible] Go.Sy.G Go.Sy.DR
set_option maxRecDepth 100000
set_option maxHeartbeats 4000000

theorem tagIsS (d s : Nat) (t : Int) (body : List UInt8) (ht : t ≠ 33024) : Sy.Spec Try.prog 81 [frSV d s t body] [] (boolSV false) [] := contract Γ hm 100 F81 Try.ntmps81 rfl fun F hF => by
  ((conv => whnf); repeat (first | (refine ⟨fun (h : false = true) => (Bool.false_ne_true h).elim, fun _ => ?_⟩; ((first | (refine run Γ hm 400 ?_) | (refine runD Γ hm 400 (by kernel_rfl) ?_)); (conv => whnf))) | (refine ⟨fun _ => ?_, fun (h : true = false) => (Bool.false_ne_true h.symm).elim⟩; ((first | (refine run Γ hm 400 ?_) | (refine runD Γ hm 400 (by kernel_rfl) ?_)); (conv => whnf)))))
  refine done0 rfl (.cons .tmp .nil) ?_ rfl
  exact congrArg boolSV (beq_eq_false_iff_ne.2 ht).symm

theorem or_zero (v : Nat) (hv : v < 9223372036854775808) : bits .or .i64 (IntKind.i64.wrap (0 * 2 ^ min (Int.toNat 12) IntKind.i64.bits)) (v : Int) = v := by
  have h := bits_or_i64_nat 0 v (by decide) hv
  rw [Nat.zero_or] at h
  exact h

theorem tagAddS (d s t v : Nat) (body : List UInt8) (ht : t ≠ 33024) (ht2 : t ≤ 65535) (hv : v ≤ 4094) (hb : body.length ≤ 1500) :
    Sy.Spec Try.prog 72 [frSV d s t body, intSV v, intSV 0] [] (.tup [frSV d s 33024 ([UInt8.ofNat (v / 256), UInt8.ofNat v, UInt8.ofNat (t / 256), UInt8.ofNat t] ++ body), intSV 0]) [] := contract Γ hm 100 F72 Try.ntmps72 rfl fun F hF => by
  have hor := or_zero v (by omega)
  have tb1 := two_bytes v
  have tb2 := two_bytes t
  ((conv => whnf); repeat (first | (refine ⟨fun (h : false = true) => (Bool.false_ne_true h).elim, fun _ => ?_⟩; ((first | (refine run Γ hm 400 ?_) | (refine runD Γ hm 400 (by kernel_rfl) ?_)); (conv => whnf))) | (refine ⟨fun _ => ?_, fun (h : true = false) => (Bool.false_ne_true h.symm).elim⟩; ((first | (refine run Γ hm 400 ?_) | (refine runD Γ hm 400 (by kernel_rfl) ?_)); (conv => whnf)))))
  refine call0 (tagIsS d s t body (by omega)) F81 rfl rfl rfl rfl rfl ?_
  (((first | (refine run Γ hm 400 ?_) | (refine runD Γ hm 400 (by kernel_rfl) ?_)); (conv => whnf)); repeat (first | (refine ⟨fun (h : false = true) => (Bool.false_ne_true h).elim, fun _ => ?_⟩; ((first | (refine run Γ hm 400 ?_) | (refine runD Γ hm 400 (by kernel_rfl) ?_)); (conv => whnf))) | (refine ⟨fun _ => ?_, fun (h : true = false) => (Bool.false_ne_true h.symm).elim⟩; ((first | (refine run Γ hm 400 ?_) | (refine runD Γ hm 400 (by kernel_rfl) ?_)); (conv => whnf)))))
  refine ⟨fun h => absurd (of_decide_eq_true h) (by omega), fun _ => ?_⟩
  (((first | (refine run Γ hm 400 ?_) | (refine runD Γ hm 400 (by kernel_rfl) ?_)); (conv => whnf)); repeat (first | (refine ⟨fun (h : false = true) => (Bool.false_ne_true h).elim, fun _ => ?_⟩; ((first | (refine run Γ hm 400 ?_) | (refine runD Γ hm 400 (by kernel_rfl) ?_)); (conv => whnf))) | (refine ⟨fun _ => ?_, fun (h : true = false) => (Bool.false_ne_true h.symm).elim⟩; ((first | (refine run Γ hm 400 ?_) | (refine runD Γ hm 400 (by kernel_rfl) ?_)); (conv => whnf)))))
  refine ⟨fun h => absurd (of_decide_eq_true h) (by omega), fun _ => ?_⟩
  (((first | (refine run Γ hm 400 ?_) | (refine runD Γ hm 400 (by kernel_rfl) ?_)); (conv => whnf)); repeat (first | (refine ⟨fun (h : false = true) => (Bool.false_ne_true h).elim, fun _ => ?_⟩; ((first | (refine run Γ hm 400 ?_) | (refine runD Γ hm 400 (by kernel_rfl) ?_)); (conv => whnf))) | (refine ⟨fun _ => ?_, fun (h : true = false) => (Bool.false_ne_true h.symm).elim⟩; ((first | (refine run Γ hm 400 ?_) | (refine runD Γ hm 400 (by kernel_rfl) ?_)); (conv => whnf)))))
  refine ⟨fun h => absurd (of_decide_eq_true h) (by omega), fun _ => ?_⟩
  (((first | (refine run Γ hm 400 ?_) | (refine runD Γ hm 400 (by kernel_rfl) ?_)); (conv => whnf)); repeat (first | (refine ⟨fun (h : false = true) => (Bool.false_ne_true h).elim, fun _ => ?_⟩; ((first | (refine run Γ hm 400 ?_) | (refine runD Γ hm 400 (by kernel_rfl) ?_)); (conv => whnf))) | (refine ⟨fun _ => ?_, fun (h : true = false) => (Bool.false_ne_true h.symm).elim⟩; ((first | (refine run Γ hm 400 ?_) | (refine runD Γ hm 400 (by kernel_rfl) ?_)); (conv => whnf)))))
  refine ⟨by omega, ?_⟩
  ((conv => whnf); repeat (first | (refine ⟨fun (h : false = true) => (Bool.false_ne_true h).elim, fun _ => ?_⟩; ((first | (refine run Γ hm 400 ?_) | (refine runD Γ hm 400 (by kernel_rfl) ?_)); (conv => whnf))) | (refine ⟨fun _ => ?_, fun (h : true = false) => (Bool.false_ne_true h.symm).elim⟩; ((first | (refine run Γ hm 400 ?_) | (refine runD Γ hm 400 (by kernel_rfl) ?_)); (conv => whnf)))))
  rw [hor]
  refine ⟨by omega, ?_⟩
  ((conv => whnf); repeat (first | (refine ⟨fun (h : false = true) => (Bool.false_ne_true h).elim, fun _ => ?_⟩; ((first | (refine run Γ hm 400 ?_) | (refine runD Γ hm 400 (by kernel_rfl) ?_)); (conv => whnf))) | (refine ⟨fun _ => ?_, fun (h : true = false) => (Bool.false_ne_true h.symm).elim⟩; ((first | (refine run Γ hm 400 ?_) | (refine runD Γ hm 400 (by kernel_rfl) ?_)); (conv => whnf)))))
  refine ⟨by omega, ?_⟩
  ((conv => whnf); repeat (first | (refine ⟨fun (h : false = true) => (Bool.false_ne_true h).elim, fun _ => ?_⟩; ((first | (refine run Γ hm 400 ?_) | (refine runD Γ hm 400 (by kernel_rfl) ?_)); (conv => whnf))) | (refine ⟨fun _ => ?_, fun (h : true = false) => (Bool.false_ne_true h.symm).elim⟩; ((first | (refine run Γ hm 400 ?_) | (refine runD Γ hm 400 (by kernel_rfl) ?_)); (conv => whnf)))))
  refine stepD (good_appendT Γ.toTy 70 rfl rfl rfl rfl rfl (.lit (e := byteSV) (l := [UInt8.ofNat (v / 256), UInt8.ofNat v, UInt8.ofNat (t / 256), UInt8.ofNat t]) rfl ?_) .sl (by simp) (by simp; omega) (by simp; omega)) (by kernel_rfl) rfl ?_
  · have h1 := List.cons.inj tb1
    have h2 := List.cons.inj tb2
    have h3 := List.cons.inj h1.2
    have h4 := List.cons.inj h2.2
    simp only [List.map_cons, List.map_nil]
    rw [h1.1, h3.1, h2.1, h4.1]
  (((first | (refine run Γ hm 400 ?_) | (refine runD Γ hm 400 (by kernel_rfl) ?_)); (conv => whnf)); repeat (first | (refine ⟨fun (h : false = true) => (Bool.false_ne_true h).elim, fun _ => ?_⟩; ((first | (refine run Γ hm 400 ?_) | (refine runD Γ hm 400 (by kernel_rfl) ?_)); (conv => whnf))) | (refine ⟨fun _ => ?_, fun (h : true = false) => (Bool.false_ne_true h.symm).elim⟩; ((first | (refine run Γ hm 400 ?_) | (refine runD Γ hm 400 (by kernel_rfl) ?_)); (conv => whnf)))))
  refine ⟨(by kernel_rfl), ?_⟩
  ((conv => whnf); repeat (first | (refine ⟨fun (h : false = true) => (Bool.false_ne_true h).elim, fun _ => ?_⟩; ((first | (refine run Γ hm 400 ?_) | (refine runD Γ hm 400 (by kernel_rfl) ?_)); (conv => whnf))) | (refine ⟨fun _ => ?_, fun (h : true = false) => (Bool.false_ne_true h.symm).elim⟩; ((first | (refine run Γ hm 400 ?_) | (refine runD Γ hm 400 (by kernel_rfl) ?_)); (conv => whnf)))))
  refine G_data 70 rfl ?_
  exact done0 rfl (.cons (.cell rfl rfl rfl rfl) (.cons .tmp .nil)) rfl rfl

theorem refTagAddS (d s t v : Nat) (body : List UInt8) (ht : t ≠ 33024) (ht2 : t ≤ 65535) (hv : v ≤ 4094) (hb : body.length ≤ 1500) :
    Sy.Spec Try.prog 76 [frSV d s t body, intSV v, intSV 0] [] (.tup [frSV d s 33024 ([UInt8.ofNat (v / 256), UInt8.ofNat v, UInt8.ofNat (t / 256), UInt8.ofNat t] ++ body), intSV 0]) [] := contract Γ hm 100 F76 Try.ntmps76 rfl fun F hF => by
  have tb1 := two_bytes2 v (by omega)
  have tb2 := two_bytes2 t ht2
  ((conv => whnf); repeat (first | (refine ⟨fun (h : false = true) => (Bool.false_ne_true h).elim, fun _ => ?_⟩; ((first | (refine run Γ hm 400 ?_) | (refine runD Γ hm 400 (by kernel_rfl) ?_)); (conv => whnf))) | (refine ⟨fun _ => ?_, fun (h : true = false) => (Bool.false_ne_true h.symm).elim⟩; ((first | (refine run Γ hm 400 ?_) | (refine runD Γ hm 400 (by kernel_rfl) ?_)); (conv => whnf)))))
  refine ⟨fun h => absurd (by simpa using h) (show ¬ (t : Int) = 33024 by omega), fun _ => ?_⟩
  (((first | (refine run Γ hm 400 ?_) | (refine runD Γ hm 400 (by kernel_rfl) ?_)); (conv => whnf)); repeat (first | (refine ⟨fun (h : false = true) => (Bool.false_ne_true h).elim, fun _ => ?_⟩; ((first | (refine run Γ hm 400 ?_) | (refine runD Γ hm 400 (by kernel_rfl) ?_)); (conv => whnf))) | (refine ⟨fun _ => ?_, fun (h : true = false) => (Bool.false_ne_true h.symm).elim⟩; ((first | (refine run Γ hm 400 ?_) | (refine runD Γ hm 400 (by kernel_rfl) ?_)); (conv => whnf)))))
  refine ⟨fun h => absurd (of_decide_eq_true h) (by omega), fun _ => ?_⟩
  (((first | (refine run Γ hm 400 ?_) | (refine runD Γ hm 400 (by kernel_rfl) ?_)); (conv => whnf)); repeat (first | (refine ⟨fun (h : false = true) => (Bool.false_ne_true h).elim, fun _ => ?_⟩; ((first | (refine run Γ hm 400 ?_) | (refine runD Γ hm 400 (by kernel_rfl) ?_)); (conv => whnf))) | (refine ⟨fun _ => ?_, fun (h : true = false) => (Bool.false_ne_true h.symm).elim⟩; ((first | (refine run Γ hm 400 ?_) | (refine runD Γ hm 400 (by kernel_rfl) ?_)); (conv => whnf)))))
  refine ⟨fun h => absurd (of_decide_eq_true h) (by omega), fun _ => ?_⟩
  (((first | (refine run Γ hm 400 ?_) | (refine runD Γ hm 400 (by kernel_rfl) ?_)); (conv => whnf)); repeat (first | (refine ⟨fun (h : false = true) => (Bool.false_ne_true h).elim, fun _ => ?_⟩; ((first | (refine run Γ hm 400 ?_) | (refine runD Γ hm 400 (by kernel_rfl) ?_)); (conv => whnf))) | (refine ⟨fun _ => ?_, fun (h : true = false) => (Bool.false_ne_true h.symm).elim⟩; ((first | (refine run Γ hm 400 ?_) | (refine runD Γ hm 400 (by kernel_rfl) ?_)); (conv => whnf)))))
  refine ⟨fun h => absurd (of_decide_eq_true h) (by omega), fun _ => ?_⟩
  (((first | (refine run Γ hm 400 ?_) | (refine runD Γ hm 400 (by kernel_rfl) ?_)); (conv => whnf)); repeat (first | (refine ⟨fun (h : false = true) => (Bool.false_ne_true h).elim, fun _ => ?_⟩; ((first | (refine run Γ hm 400 ?_) | (refine runD Γ hm 400 (by kernel_rfl) ?_)); (conv => whnf))) | (refine ⟨fun _ => ?_, fun (h : true = false) => (Bool.false_ne_true h.symm).elim⟩; ((first | (refine run Γ hm 400 ?_) | (refine runD Γ hm 400 (by kernel_rfl) ?_)); (conv => whnf)))))
  refine ⟨by unfold I64; decide, ?_⟩
  ((conv => whnf); repeat (first | (refine ⟨fun (h : false = true) => (Bool.false_ne_true h).elim, fun _ => ?_⟩; ((first | (refine run Γ hm 400 ?_) | (refine runD Γ hm 400 (by kernel_rfl) ?_)); (conv => whnf))) | (refine ⟨fun _ => ?_, fun (h : true = false) => (Bool.false_ne_true h.symm).elim⟩; ((first | (refine run Γ hm 400 ?_) | (refine runD Γ hm 400 (by kernel_rfl) ?_)); (conv => whnf)))))
  refine ⟨by unfold I64; omega, ?_⟩
  ((conv => whnf); repeat (first | (refine ⟨fun (h : false = true) => (Bool.false_ne_true h).elim, fun _ => ?_⟩; ((first | (refine run Γ hm 400 ?_) | (refine runD Γ hm 400 (by kernel_rfl) ?_)); (conv => whnf))) | (refine ⟨fun _ => ?_, fun (h : true = false) => (Bool.false_ne_true h.symm).elim⟩; ((first | (refine run Γ hm 400 ?_) | (refine runD Γ hm 400 (by kernel_rfl) ?_)); (conv => whnf)))))
  rw [Int.zero_mul, Int.zero_add]
  refine ⟨by decide, ?_⟩
  ((conv => whnf); repeat (first | (refine ⟨fun (h : false = true) => (Bool.false_ne_true h).elim, fun _ => ?_⟩; ((first | (refine run Γ hm 400 ?_) | (refine runD Γ hm 400 (by kernel_rfl) ?_)); (conv => whnf))) | (refine ⟨fun _ => ?_, fun (h : true = false) => (Bool.false_ne_true h.symm).elim⟩; ((first | (refine run Γ hm 400 ?_) | (refine runD Γ hm 400 (by kernel_rfl) ?_)); (conv => whnf)))))
  refine ⟨by decide, ?_⟩
  ((conv => whnf); repeat (first | (refine ⟨fun (h : false = true) => (Bool.false_ne_true h).elim, fun _ => ?_⟩; ((first | (refine run Γ hm 400 ?_) | (refine runD Γ hm 400 (by kernel_rfl) ?_)); (conv => whnf))) | (refine ⟨fun _ => ?_, fun (h : true = false) => (Bool.false_ne_true h.symm).elim⟩; ((first | (refine run Γ hm 400 ?_) | (refine runD Γ hm 400 (by kernel_rfl) ?_)); (conv => whnf)))))
  refine ⟨by decide, ?_⟩
  ((conv => whnf); repeat (first | (refine ⟨fun (h : false = true) => (Bool.false_ne_true h).elim, fun _ => ?_⟩; ((first | (refine run Γ hm 400 ?_) | (refine runD Γ hm 400 (by kernel_rfl) ?_)); (conv => whnf))) | (refine ⟨fun _ => ?_, fun (h : true = false) => (Bool.false_ne_true h.symm).elim⟩; ((first | (refine run Γ hm 400 ?_) | (refine runD Γ hm 400 (by kernel_rfl) ?_)); (conv => whnf)))))
  refine ⟨by decide, ?_⟩
  ((conv => whnf); repeat (first | (refine ⟨fun (h : false = true) => (Bool.false_ne_true h).elim, fun _ => ?_⟩; ((first | (refine run Γ hm 400 ?_) | (refine runD Γ hm 400 (by kernel_rfl) ?_)); (conv => whnf))) | (refine ⟨fun _ => ?_, fun (h : true = false) => (Bool.false_ne_true h.symm).elim⟩; ((first | (refine run Γ hm 400 ?_) | (refine runD Γ hm 400 (by kernel_rfl) ?_)); (conv => whnf)))))
  refine stepD (good_appendT Γ.toTy 70 rfl rfl rfl rfl rfl (.lit (e := byteSV) (l := [UInt8.ofNat (v / 256), UInt8.ofNat v, UInt8.ofNat (t / 256), UInt8.ofNat t]) rfl ?_) .sl (by simp) (by simp; omega) (by simp; omega)) (by kernel_rfl) rfl ?_
  · have h1 := List.cons.inj tb1
    have h2 := List.cons.inj tb2
    have h3 := List.cons.inj h1.2
    have h4 := List.cons.inj h2.2
    simp only [List.map_cons, List.map_nil]
    rw [h1.1, h3.1, h2.1, h4.1]
  (((first | (refine run Γ hm 400 ?_) | (refine runD Γ hm 400 (by kernel_rfl) ?_)); (conv => whnf)); repeat (first | (refine ⟨fun (h : false = true) => (Bool.false_ne_true h).elim, fun _ => ?_⟩; ((first | (refine run Γ hm 400 ?_) | (refine runD Γ hm 400 (by kernel_rfl) ?_)); (conv => whnf))) | (refine ⟨fun _ => ?_, fun (h : true = false) => (Bool.false_ne_true h.symm).elim⟩; ((first | (refine run Γ hm 400 ?_) | (refine runD Γ hm 400 (by kernel_rfl) ?_)); (conv => whnf)))))
  refine ⟨(by kernel_rfl), ?_⟩
  ((conv => whnf); repeat (first | (refine ⟨fun (h : false = true) => (Bool.false_ne_true h).elim, fun _ => ?_⟩; ((first | (refine run Γ hm 400 ?_) | (refine runD Γ hm 400 (by kernel_rfl) ?_)); (conv => whnf))) | (refine ⟨fun _ => ?_, fun (h : true = false) => (Bool.false_ne_true h.symm).elim⟩; ((first | (refine run Γ hm 400 ?_) | (refine runD Γ hm 400 (by kernel_rfl) ?_)); (conv => whnf)))))
  refine G_data 70 rfl ?_
  exact done0 rfl (.cons (.cell rfl rfl rfl rfl) (.cons .tmp .nil)) rfl rfl
end Go.Sy.Ytnccojbdjjnoiaa
