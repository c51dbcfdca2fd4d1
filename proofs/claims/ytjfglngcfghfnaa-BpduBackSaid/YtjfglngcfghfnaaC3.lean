/-
  Contracts, 3: frames.
-/
import Derived.Test.YtjfglngcfghfnaaC2
namespace Go.Sy.Ytjfglngcfghfnaa
open Go.Proofs

attribute [local irreducible] Go.Sy.G Go.Sy.DR

def frSV (d s : Nat) (t : Int) (body : List UInt8) : SV := .agg [u64SV d, u64SV s, intSV t, .sl 1 byteSV body]
def noFr : SV := .agg [u64SV 0, u64SV 0, intSV 0, .val (.slice none 0 0)]

theorem bits_or_i64_nat (a b : Nat) (ha : a < 9223372036854775808) (hb : b < 9223372036854775808) :
    bits .or .i64 (a : Int) (b : Int) = ((a ||| b : Nat) : Int) := by
  have hx : a ||| b < 2 ^ 63 := Nat.or_lt_two_pow (by omega) (by omega)
  have h1 : (BitVec.ofInt 64 (a : Int)).toNat = a := by
    rw [BitVec.ofInt_natCast, BitVec.toNat_ofNat]; exact Nat.mod_eq_of_lt (by omega)
  have h2 : (BitVec.ofInt 64 (b : Int)).toNat = b := by
    rw [BitVec.ofInt_natCast, BitVec.toNat_ofNat]; exact Nat.mod_eq_of_lt (by omega)
  show IntKind.i64.wrap ((BitVec.ofInt 64 (a : Int) ||| BitVec.ofInt 64 (b : Int)).toNat : Int) = _
  rw [BitVec.toNat_or, h1, h2, IntKind.wrap_i64]
  omega

theorem wrap_byte (b : UInt8) : IntKind.i64.wrap (b.toNat : Int) = (b.toNat : Int) := by
  have := b.toNat_lt
  rw [IntKind.wrap_i64]
  omega

theorem or_i64 (a b : UInt8) : bits .or .i64 (IntKind.i64.wrap (IntKind.i64.wrap a.toNat * 2 ^ min (Int.toNat 8) IntKind.i64.bits)) (IntKind.i64.wrap b.toNat) = ((a.toNat * 256 + b.toNat : Nat) : Int) := by
  have h1 := a.toNat_lt
  have h2 := b.toNat_lt
  rw [wrap_byte, wrap_byte]
  have h3 : IntKind.i64.wrap ((a.toNat : Int) * 2 ^ min (Int.toNat 8) IntKind.i64.bits) = ((a.toNat * 256 : Nat) : Int) := by
    show IntKind.i64.wrap ((a.toNat : Int) * 256) = _
    rw [IntKind.wrap_i64]
    omega
  rw [h3, bits_or_i64_nat _ _ (by omega) (by omega)]
  congr 1
  have h := Nat.two_pow_add_eq_or_of_lt (i := 8) (b := b.toNat) (by omega) a.toNat
  rw [Nat.mul_comm a.toNat 256]
  exact h.symm

theorem etherTake_long (l : List UInt8) (h2 : 1518 < l.length) : Sy.Spec Try.prog 18 [.sl 1 byteSV l] [] (.tup [noFr, intSV 14]) [] := contract Γ hm 100 F18 Try.ntmps18 rfl fun F hF => by
  ((conv => whnf); repeat (first | (refine ⟨fun (h : false = true) => (Bool.false_ne_true h).elim, fun _ => ?_⟩; (conv => whnf)) | (refine ⟨fun _ => ?_, fun (h : true = false) => (Bool.false_ne_true h.symm).elim⟩; (conv => whnf))))
  refine ⟨fun h => absurd (of_decide_eq_true h) (by omega), fun _ => ?_⟩
  ((conv => whnf); repeat (first | (refine ⟨fun (h : false = true) => (Bool.false_ne_true h).elim, fun _ => ?_⟩; (conv => whnf)) | (refine ⟨fun _ => ?_, fun (h : true = false) => (Bool.false_ne_true h.symm).elim⟩; (conv => whnf))))
  refine ⟨fun _ => ?_, fun h => absurd (of_decide_eq_false h) (by omega)⟩
  ((conv => whnf); repeat (first | (refine ⟨fun (h : false = true) => (Bool.false_ne_true h).elim, fun _ => ?_⟩; (conv => whnf)) | (refine ⟨fun _ => ?_, fun (h : true = false) => (Bool.false_ne_true h.symm).elim⟩; (conv => whnf))))
  exact done rfl (.cons (.cell rfl rfl rfl rfl) (.cons .tmp .nil)) [] [] (fun _ h => h) rfl rfl ⟨trivial, trivial, rfl, rfl⟩

theorem etherTake_short (l : List UInt8) (h : l.length < 14) : Sy.Spec Try.prog 18 [.sl 1 byteSV l] [] (.tup [noFr, intSV 10]) [] := contract Γ hm 100 F18 Try.ntmps18 rfl fun F hF => by
  ((conv => whnf); repeat (first | (refine ⟨fun (h : false = true) => (Bool.false_ne_true h).elim, fun _ => ?_⟩; (conv => whnf)) | (refine ⟨fun _ => ?_, fun (h : true = false) => (Bool.false_ne_true h.symm).elim⟩; (conv => whnf))))
  refine ⟨fun _ => ?_, fun h => absurd (of_decide_eq_false h) (by omega)⟩
  ((conv => whnf); repeat (first | (refine ⟨fun (h : false = true) => (Bool.false_ne_true h).elim, fun _ => ?_⟩; (conv => whnf)) | (refine ⟨fun _ => ?_, fun (h : true = false) => (Bool.false_ne_true h.symm).elim⟩; (conv => whnf))))
  exact done rfl (.cons (.cell rfl rfl rfl rfl) (.cons .tmp .nil)) [] [] (fun _ h => h) rfl rfl ⟨trivial, trivial, rfl, rfl⟩

theorem etherTake_ok (l : List UInt8) (h : 14 ≤ l.length) (h2 : l.length ≤ 1518) : Sy.Spec Try.prog 18 [.sl 1 byteSV l] [] (.tup [frSV (num (l.take 6)) (num ((l.drop 6).take 6)) (l[12].toNat * 256 + l[13].toNat : Nat) (l.drop 14), intSV 0]) [] := contract Γ hm 100 F18 Try.ntmps18 rfl fun F hF => by
  ((conv => whnf); repeat (first | (refine ⟨fun (h : false = true) => (Bool.false_ne_true h).elim, fun _ => ?_⟩; (conv => whnf)) | (refine ⟨fun _ => ?_, fun (h : true = false) => (Bool.false_ne_true h.symm).elim⟩; (conv => whnf))))
  refine ⟨fun h => absurd (of_decide_eq_true h) (by omega), fun _ => ?_⟩
  ((conv => whnf); repeat (first | (refine ⟨fun (h : false = true) => (Bool.false_ne_true h).elim, fun _ => ?_⟩; (conv => whnf)) | (refine ⟨fun _ => ?_, fun (h : true = false) => (Bool.false_ne_true h.symm).elim⟩; (conv => whnf))))
  refine ⟨fun h => absurd (of_decide_eq_true h) (by omega), fun _ => ?_⟩
  ((conv => whnf); repeat (first | (refine ⟨fun (h : false = true) => (Bool.false_ne_true h).elim, fun _ => ?_⟩; (conv => whnf)) | (refine ⟨fun _ => ?_, fun (h : true = false) => (Bool.false_ne_true h.symm).elim⟩; (conv => whnf))))
  refine call0 (take2 l (by omega) 0 (by omega)) F31 rfl rfl rfl rfl rfl (run Γ hm 400 ?_)
  ((conv => whnf); repeat (first | (refine ⟨fun (h : false = true) => (Bool.false_ne_true h).elim, fun _ => ?_⟩; (conv => whnf)) | (refine ⟨fun _ => ?_, fun (h : true = false) => (Bool.false_ne_true h.symm).elim⟩; (conv => whnf))))
  refine call0 (take2 l (by omega) 6 (by omega)) F31 rfl rfl rfl rfl rfl (run Γ hm 400 ?_)
  ((conv => whnf); repeat (first | (refine ⟨fun (h : false = true) => (Bool.false_ne_true h).elim, fun _ => ?_⟩; (conv => whnf)) | (refine ⟨fun _ => ?_, fun (h : true = false) => (Bool.false_ne_true h.symm).elim⟩; (conv => whnf))))
  refine ⟨by unfold I64; omega, ?_⟩
  ((conv => whnf); repeat (first | (refine ⟨fun (h : false = true) => (Bool.false_ne_true h).elim, fun _ => ?_⟩; (conv => whnf)) | (refine ⟨fun _ => ?_, fun (h : true = false) => (Bool.false_ne_true h.symm).elim⟩; (conv => whnf))))
  have hlen : (l.length : Int) - 14 = ((l.length - 14 : Nat) : Int) := by omega
  refine stepOp (good_makeSlice Γ.toTy (d := 32) (n := l.length - 14) byteSV 0 rfl rfl rfl rfl rfl rfl (congrArg (fun z => SV.val (.int .i64 z)) hlen) (congrArg (fun z => SV.val (.int .i64 z)) hlen) (by omega) (by omega) rfl rfl rfl) rfl rfl (run Γ hm 400 ?_)
  ((conv => whnf); repeat (first | (refine ⟨fun (h : false = true) => (Bool.false_ne_true h).elim, fun _ => ?_⟩; (conv => whnf)) | (refine ⟨fun _ => ?_, fun (h : true = false) => (Bool.false_ne_true h.symm).elim⟩; (conv => whnf))))
  refine stepOp (good_slice_sl Γ.toTy (lo := 14) (hi := l.length) rfl rfl rfl rfl (.inr ⟨_, _, rfl, rfl⟩) (.inl ⟨rfl, rfl⟩) (by omega) (by omega)) rfl rfl (run Γ hm 400 ?_)
  ((conv => whnf); repeat (first | (refine ⟨fun (h : false = true) => (Bool.false_ne_true h).elim, fun _ => ?_⟩; (conv => whnf)) | (refine ⟨fun _ => ?_, fun (h : true = false) => (Bool.false_ne_true h.symm).elim⟩; (conv => whnf))))
  refine stepOp (good_copy Γ.toTy rfl rfl rfl rfl rfl .sl) rfl rfl ?_
  refine G_data 32 rfl ?_
  have hb : ((l.take l.length).drop 14).take (List.replicate (l.length - 14) (0 : UInt8)).length ++ (List.replicate (l.length - 14) (0 : UInt8)).drop ((l.take l.length).drop 14).length = l.drop 14 := by simp; exact List.take_of_length_le (by simp)
  rw [hb]
  refine (run Γ hm 400 ?_)
  ((conv => whnf); repeat (first | (refine ⟨fun (h : false = true) => (Bool.false_ne_true h).elim, fun _ => ?_⟩; (conv => whnf)) | (refine ⟨fun _ => ?_, fun (h : true = false) => (Bool.false_ne_true h.symm).elim⟩; (conv => whnf))))
  refine ⟨rfl, by omega, by omega, ?_⟩
  ((conv => whnf); repeat (first | (refine ⟨fun (h : false = true) => (Bool.false_ne_true h).elim, fun _ => ?_⟩; (conv => whnf)) | (refine ⟨fun _ => ?_, fun (h : true = false) => (Bool.false_ne_true h.symm).elim⟩; (conv => whnf))))
  refine ⟨by omega, ?_⟩
  ((conv => whnf); repeat (first | (refine ⟨fun (h : false = true) => (Bool.false_ne_true h).elim, fun _ => ?_⟩; (conv => whnf)) | (refine ⟨fun _ => ?_, fun (h : true = false) => (Bool.false_ne_true h.symm).elim⟩; (conv => whnf))))
  refine ⟨rfl, by omega, by omega, ?_⟩
  ((conv => whnf); repeat (first | (refine ⟨fun (h : false = true) => (Bool.false_ne_true h).elim, fun _ => ?_⟩; (conv => whnf)) | (refine ⟨fun _ => ?_, fun (h : true = false) => (Bool.false_ne_true h.symm).elim⟩; (conv => whnf))))
  refine ⟨by kernel_rfl, ?_⟩
  ((conv => whnf); repeat (first | (refine ⟨fun (h : false = true) => (Bool.false_ne_true h).elim, fun _ => ?_⟩; (conv => whnf)) | (refine ⟨fun _ => ?_, fun (h : true = false) => (Bool.false_ne_true h.symm).elim⟩; (conv => whnf))))
  refine done rfl (.cons (.cell rfl rfl rfl rfl) (.cons .tmp .nil)) [] [] (fun _ h => h) ?_ rfl ⟨trivial, trivial, rfl, rfl⟩
  exact congrArg (fun z => SV.tup [.agg [u64SV (num (l.take 6)), u64SV (num ((l.drop 6).take 6)), .val (.int .i64 z), .sl 1 byteSV (l.drop 14)], intSV 0]) (or_i64 l[12] l[13]).symm

theorem refTake_short (l : List UInt8) (h : l.length < 14) : Sy.Spec Try.prog 20 [.sl 1 byteSV l] [] (.tup [noFr, intSV 10]) [] := contract Γ hm 100 F20 Try.ntmps20 rfl fun F hF => by
  ((conv => whnf); repeat (first | (refine ⟨fun (h : false = true) => (Bool.false_ne_true h).elim, fun _ => ?_⟩; (conv => whnf)) | (refine ⟨fun _ => ?_, fun (h : true = false) => (Bool.false_ne_true h.symm).elim⟩; (conv => whnf))))
  refine ⟨fun _ => ?_, fun h => absurd (of_decide_eq_false h) (by omega)⟩
  ((conv => whnf); repeat (first | (refine ⟨fun (h : false = true) => (Bool.false_ne_true h).elim, fun _ => ?_⟩; (conv => whnf)) | (refine ⟨fun _ => ?_, fun (h : true = false) => (Bool.false_ne_true h.symm).elim⟩; (conv => whnf))))
  exact done rfl (.cons (.cell rfl rfl rfl rfl) (.cons .tmp .nil)) [] [] (fun _ h => h) rfl rfl ⟨trivial, trivial, rfl, rfl⟩

theorem refTake_long (l : List UInt8) (h2 : 1518 < l.length) : Sy.Spec Try.prog 20 [.sl 1 byteSV l] [] (.tup [noFr, intSV 14]) [] := contract Γ hm 100 F20 Try.ntmps20 rfl fun F hF => by
  ((conv => whnf); repeat (first | (refine ⟨fun (h : false = true) => (Bool.false_ne_true h).elim, fun _ => ?_⟩; (conv => whnf)) | (refine ⟨fun _ => ?_, fun (h : true = false) => (Bool.false_ne_true h.symm).elim⟩; (conv => whnf))))
  refine ⟨fun h => absurd (of_decide_eq_true h) (by omega), fun _ => ?_⟩
  ((conv => whnf); repeat (first | (refine ⟨fun (h : false = true) => (Bool.false_ne_true h).elim, fun _ => ?_⟩; (conv => whnf)) | (refine ⟨fun _ => ?_, fun (h : true = false) => (Bool.false_ne_true h.symm).elim⟩; (conv => whnf))))
  refine ⟨fun _ => ?_, fun h => absurd (of_decide_eq_false h) (by omega)⟩
  ((conv => whnf); repeat (first | (refine ⟨fun (h : false = true) => (Bool.false_ne_true h).elim, fun _ => ?_⟩; (conv => whnf)) | (refine ⟨fun _ => ?_, fun (h : true = false) => (Bool.false_ne_true h.symm).elim⟩; (conv => whnf))))
  exact done rfl (.cons (.cell rfl rfl rfl rfl) (.cons .tmp .nil)) [] [] (fun _ h => h) rfl rfl ⟨trivial, trivial, rfl, rfl⟩

theorem refTake_ok (l : List UInt8) (h : 14 ≤ l.length) (h2 : l.length ≤ 1518) : Sy.Spec Try.prog 20 [.sl 1 byteSV l] [] (.tup [frSV (num (l.take 6)) (num ((l.drop 6).take 6)) (l[12].toNat * 256 + l[13].toNat : Nat) (l.drop 14), intSV 0]) [] := contract Γ hm 100 F20 Try.ntmps20 rfl fun F hF => by
  ((conv => whnf); repeat (first | (refine ⟨fun (h : false = true) => (Bool.false_ne_true h).elim, fun _ => ?_⟩; (conv => whnf)) | (refine ⟨fun _ => ?_, fun (h : true = false) => (Bool.false_ne_true h.symm).elim⟩; (conv => whnf))))
  refine ⟨fun h => absurd (of_decide_eq_true h) (by omega), fun _ => ?_⟩
  ((conv => whnf); repeat (first | (refine ⟨fun (h : false = true) => (Bool.false_ne_true h).elim, fun _ => ?_⟩; (conv => whnf)) | (refine ⟨fun _ => ?_, fun (h : true = false) => (Bool.false_ne_true h.symm).elim⟩; (conv => whnf))))
  refine ⟨fun h => absurd (of_decide_eq_true h) (by omega), fun _ => ?_⟩
  ((conv => whnf); repeat (first | (refine ⟨fun (h : false = true) => (Bool.false_ne_true h).elim, fun _ => ?_⟩; (conv => whnf)) | (refine ⟨fun _ => ?_, fun (h : true = false) => (Bool.false_ne_true h.symm).elim⟩; (conv => whnf))))
  refine call0 (take1 l (by omega) 0 (by omega)) F34 rfl rfl rfl rfl rfl (run Γ hm 400 ?_)
  ((conv => whnf); repeat (first | (refine ⟨fun (h : false = true) => (Bool.false_ne_true h).elim, fun _ => ?_⟩; (conv => whnf)) | (refine ⟨fun _ => ?_, fun (h : true = false) => (Bool.false_ne_true h.symm).elim⟩; (conv => whnf))))
  refine call0 (take1 l (by omega) 6 (by omega)) F34 rfl rfl rfl rfl rfl (run Γ hm 400 ?_)
  have b1 := l[12].toNat_lt
  have b2 := l[13].toNat_lt
  ((conv => whnf); repeat (first | (refine ⟨fun (h : false = true) => (Bool.false_ne_true h).elim, fun _ => ?_⟩; (conv => whnf)) | (refine ⟨fun _ => ?_, fun (h : true = false) => (Bool.false_ne_true h.symm).elim⟩; (conv => whnf))))
  refine ⟨rfl, by omega, by omega, ?_⟩
  ((conv => whnf); repeat (first | (refine ⟨fun (h : false = true) => (Bool.false_ne_true h).elim, fun _ => ?_⟩; (conv => whnf)) | (refine ⟨fun _ => ?_, fun (h : true = false) => (Bool.false_ne_true h.symm).elim⟩; (conv => whnf))))
  refine ⟨by rw [wrap_byte]; show I64 ((l[12].toNat : Int) * 256); unfold I64; omega, ?_⟩
  ((conv => whnf); repeat (first | (refine ⟨fun (h : false = true) => (Bool.false_ne_true h).elim, fun _ => ?_⟩; (conv => whnf)) | (refine ⟨fun _ => ?_, fun (h : true = false) => (Bool.false_ne_true h.symm).elim⟩; (conv => whnf))))
  refine ⟨rfl, by omega, by omega, ?_⟩
  ((conv => whnf); repeat (first | (refine ⟨fun (h : false = true) => (Bool.false_ne_true h).elim, fun _ => ?_⟩; (conv => whnf)) | (refine ⟨fun _ => ?_, fun (h : true = false) => (Bool.false_ne_true h.symm).elim⟩; (conv => whnf))))
  refine ⟨by rw [wrap_byte, wrap_byte]; show I64 ((l[12].toNat : Int) * 256 + (l[13].toNat : Int)); unfold I64; omega, ?_⟩
  ((conv => whnf); repeat (first | (refine ⟨fun (h : false = true) => (Bool.false_ne_true h).elim, fun _ => ?_⟩; (conv => whnf)) | (refine ⟨fun _ => ?_, fun (h : true = false) => (Bool.false_ne_true h.symm).elim⟩; (conv => whnf))))
  refine stepD (good_slice_sl Γ.toTy (lo := 14) (hi := l.length) rfl rfl rfl rfl (.inr ⟨_, _, rfl, rfl⟩) (.inl ⟨rfl, rfl⟩) (by omega) (by omega)) (by kernel_rfl) rfl (runD Γ hm 400 (by kernel_rfl) ?_)
  ((conv => whnf); repeat (first | (refine ⟨fun (h : false = true) => (Bool.false_ne_true h).elim, fun _ => ?_⟩; (conv => whnf)) | (refine ⟨fun _ => ?_, fun (h : true = false) => (Bool.false_ne_true h.symm).elim⟩; (conv => whnf))))
  refine stepD (good_appendT Γ.toTy 41 rfl rfl rfl rfl rfl (.lit (l := []) rfl rfl) .sl (by simp) (by simp; omega) (by simp; omega)) (by kernel_rfl) rfl (runD Γ hm 400 (by kernel_rfl) ?_)
  ((conv => whnf); repeat (first | (refine ⟨fun (h : false = true) => (Bool.false_ne_true h).elim, fun _ => ?_⟩; (conv => whnf)) | (refine ⟨fun _ => ?_, fun (h : true = false) => (Bool.false_ne_true h.symm).elim⟩; (conv => whnf))))
  refine ⟨by kernel_rfl, ?_⟩
  ((conv => whnf); repeat (first | (refine ⟨fun (h : false = true) => (Bool.false_ne_true h).elim, fun _ => ?_⟩; (conv => whnf)) | (refine ⟨fun _ => ?_, fun (h : true = false) => (Bool.false_ne_true h.symm).elim⟩; (conv => whnf))))
  refine G_data 41 rfl ?_
  have hb : [] ++ (l.take l.length).drop 14 = l.drop 14 := by simp
  rw [hb]
  refine done rfl (.cons (.cell rfl rfl rfl rfl) (.cons .tmp .nil)) [] [] (fun _ h => h) ?_ rfl ⟨trivial, trivial, rfl, rfl⟩
  refine congrArg (fun z => SV.tup [.agg [u64SV (num (l.take 6)), u64SV (num ((l.drop 6).take 6)), .val (.int .i64 z), .sl 1 byteSV (l.drop 14)], intSV 0]) ?_
  rw [wrap_byte, wrap_byte]
  show _ = (l[12].toNat : Int) * 256 + (l[13].toNat : Int)
  omega
end Go.Sy.Ytjfglngcfghfnaa
