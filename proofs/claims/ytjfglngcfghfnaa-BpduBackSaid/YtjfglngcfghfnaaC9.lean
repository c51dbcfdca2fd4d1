/-
  Contracts, 9: messages read.
-/
import Derived.Test.YtjfglngcfghfnaaC8
namespace Go.Sy.Ytjfglngcfghfnaa
open Go.Proofs

attribute [local irreducible] Go.Sy.G Go.Sy.DR

theorem num_take_lt (l : List UInt8) (k : Nat) : num (l.take k) < 256 ^ k := by
  have := num_lt (l.take k)
  have h2 : (l.take k).length ≤ k := by simp; omega
  have h3 := Nat.pow_le_pow_right (n := 256) (by omega) h2
  omega

theorem nextS (l : List UInt8) (hl : l.length < 1000000) (at_ k : Nat) (hk : k ≤ 8) (h : at_ + k ≤ l.length) : Sy.Spec Try.prog 32 [.ptr 0 0, intSV k] [(0, .box [.sl 1 byteSV l, intSV at_])] (u64SV (num ((l.drop at_).take k))) [(0, .box [.sl 1 byteSV l, intSV (at_ + k : Nat)])] := contract Γ hm 100 F32 Try.ntmps32 rfl fun F hF => by
  ((conv => whnf); repeat (first | (refine ⟨fun (h : false = true) => (Bool.false_ne_true h).elim, fun _ => ?_⟩; (conv => whnf)) | (refine ⟨fun _ => ?_, fun (h : true = false) => (Bool.false_ne_true h.symm).elim⟩; (conv => whnf))))
  refine G_count k (fun j => [(0, .ptr 0 0), (5, u64SV (num ((l.drop at_).take j))), (6, intSV k), (7, intSV j)]) (fun j => [(0, .box [.sl 1 byteSV l, intSV (at_ + j : Nat)])]) [(0, 0)] ⟨⟨rfl, rfl, rfl, rfl, rfl, rfl, rfl, rfl, trivial⟩, ⟨.inl rfl, rfl, trivial⟩, rfl, rfl⟩ ?_
  intro j hj
  refine (run Γ hm 400 ?_)
  ((conv => whnf); repeat (first | (refine ⟨fun (h : false = true) => (Bool.false_ne_true h).elim, fun _ => ?_⟩; (conv => whnf)) | (refine ⟨fun _ => ?_, fun (h : true = false) => (Bool.false_ne_true h.symm).elim⟩; (conv => whnf))))
  refine ⟨fun h1 => ?_, fun h1 => ?_⟩
  · have hlt : j < k := by have := of_decide_eq_true h1; omega
    ((conv => whnf); repeat (first | (refine ⟨fun (h : false = true) => (Bool.false_ne_true h).elim, fun _ => ?_⟩; (conv => whnf)) | (refine ⟨fun _ => ?_, fun (h : true = false) => (Bool.false_ne_true h.symm).elim⟩; (conv => whnf))))
    refine ⟨by decide, ?_⟩
    ((conv => whnf); repeat (first | (refine ⟨fun (h : false = true) => (Bool.false_ne_true h).elim, fun _ => ?_⟩; (conv => whnf)) | (refine ⟨fun _ => ?_, fun (h : true = false) => (Bool.false_ne_true h.symm).elim⟩; (conv => whnf))))
    refine ⟨rfl, by omega, by omega, ?_⟩
    ((conv => whnf); repeat (first | (refine ⟨fun (h : false = true) => (Bool.false_ne_true h).elim, fun _ => ?_⟩; (conv => whnf)) | (refine ⟨fun _ => ?_, fun (h : true = false) => (Bool.false_ne_true h.symm).elim⟩; (conv => whnf))))
    refine ⟨(by kernel_rfl), ?_⟩
    ((conv => whnf); repeat (first | (refine ⟨fun (h : false = true) => (Bool.false_ne_true h).elim, fun _ => ?_⟩; (conv => whnf)) | (refine ⟨fun _ => ?_, fun (h : true = false) => (Bool.false_ne_true h.symm).elim⟩; (conv => whnf))))
    refine ⟨by unfold I64; omega, ?_⟩
    ((conv => whnf); repeat (first | (refine ⟨fun (h : false = true) => (Bool.false_ne_true h).elim, fun _ => ?_⟩; (conv => whnf)) | (refine ⟨fun _ => ?_, fun (h : true = false) => (Bool.false_ne_true h.symm).elim⟩; (conv => whnf))))
    refine ⟨by unfold I64; omega, ?_⟩
    ((conv => whnf); repeat (first | (refine ⟨fun (h : false = true) => (Bool.false_ne_true h).elim, fun _ => ?_⟩; (conv => whnf)) | (refine ⟨fun _ => ?_, fun (h : true = false) => (Bool.false_ne_true h.symm).elim⟩; (conv => whnf))))
    refine G_next [(0, 0)] hlt ⟨⟨rfl, rfl, congrArg (fun z => SV.val (.int .u64 z)) ?_, rfl, rfl, rfl, rfl, rfl, trivial⟩, ⟨.inl rfl, rfl, trivial⟩, rfl, rfl⟩
    have h1 := num_take (l.drop at_) j (by simp; omega)
    have h2 : num ((l.drop at_).take j) < 72057594037927936 := by
      have := num_take_lt (l.drop at_) j
      have h3 := Nat.pow_le_pow_right (n := 256) (by omega) (show j ≤ 7 by omega)
      omega
    have h3 : (l.drop at_)[j]'(by simp; omega) = l[((at_ + j : Nat) : Int).toNat]'(by omega) := by
      rw [List.getElem_drop]
      congr 1
    rw [h1, h3, ← or_shift _ _ (by omega)]
    have h4 : IntKind.u64.wrap (l[((at_ + j : Nat) : Int).toNat]'(by omega)).toNat = (l[((at_ + j : Nat) : Int).toNat]'(by omega)).toNat := by
      have := (l[((at_ + j : Nat) : Int).toNat]'(by omega)).toNat_lt
      rw [IntKind.wrap_u64]
      omega
    exact congrArg (bits .or .u64 _) h4.symm
  · have : j = k := by have := of_decide_eq_false h1; omega
    subst this
    ((conv => whnf); repeat (first | (refine ⟨fun (h : false = true) => (Bool.false_ne_true h).elim, fun _ => ?_⟩; (conv => whnf)) | (refine ⟨fun _ => ?_, fun (h : true = false) => (Bool.false_ne_true h.symm).elim⟩; (conv => whnf))))
    exact done rfl (.cons .tmp .nil) [(0, 0)] _ (fun _ h => h) rfl rfl ⟨trivial, ⟨.inl rfl, rfl, trivial⟩, rfl, rfl⟩

theorem i64_small (n : Nat) (h : n < 9223372036854775808) : (n : Int) = IntKind.i64.wrap n := by
  rw [IntKind.wrap_i64]
  omega

theorem pairS (l : List UInt8) (hl : l.length < 1000000) (at_ : Nat) (h : at_ + 2 ≤ l.length) : Sy.Spec Try.prog 33 [.ptr 0 0] [(0, .box [.sl 1 byteSV l, intSV at_])] (intSV (num ((l.drop at_).take 2))) [(0, .box [.sl 1 byteSV l, intSV (at_ + 2 : Nat)])] := contract Γ hm 100 F33 Try.ntmps33 rfl fun F hF => by
  ((conv => whnf); repeat (first | (refine ⟨fun (h : false = true) => (Bool.false_ne_true h).elim, fun _ => ?_⟩; (conv => whnf)) | (refine ⟨fun _ => ?_, fun (h : true = false) => (Bool.false_ne_true h.symm).elim⟩; (conv => whnf))))
  refine stepOp (good_call [(0, 0)] rfl F32 (nextS l hl at_ 2 (by decide) h) rfl ⟨rfl, trivial⟩ rfl ⟨.inl rfl, trivial⟩) rfl rfl (run Γ hm 400 ?_)
  ((conv => whnf); repeat (first | (refine ⟨fun (h : false = true) => (Bool.false_ne_true h).elim, fun _ => ?_⟩; (conv => whnf)) | (refine ⟨fun _ => ?_, fun (h : true = false) => (Bool.false_ne_true h.symm).elim⟩; (conv => whnf))))
  exact done rfl (.cons .tmp .nil) [(0, 0)] _ (fun _ h => h) (congrArg intSV (i64_small _ (by have := num_take_lt (l.drop at_) 2; omega))) rfl ⟨trivial, ⟨.inl rfl, rfl, trivial⟩, rfl, rfl⟩

def zeroMsg : Msg := ⟨false, false, 0, 0, 0, 0, 0, 0, 0, 0⟩

def parsedX (x : List UInt8) : Msg := ⟨false, decide ((x.getD 0 0).toNat = 128), num ((x.drop 1).take 8), num ((x.drop 13).take 8), num ((x.drop 9).take 4), num ((x.drop 21).take 2), num ((x.drop 23).take 2), num ((x.drop 25).take 2), num ((x.drop 27).take 2), num ((x.drop 29).take 2)⟩

theorem parse_bad (x : List UInt8) (hx : x.length = 31) (h0 : (x.getD 0 0).toNat ≠ 0) (h1 : (x.getD 0 0).toNat ≠ 128) : Sy.Spec Try.prog 19 [.sl 1 byteSV x] [] (.tup [msgSV zeroMsg, intSV 11]) [] := contract Γ hm 100 F19 Try.ntmps19 rfl fun F hF => by
  have he : x.getD 0 0 = x[0] := by simp [List.getD, hx]
  rw [he] at h0 h1
  ((conv => whnf); repeat (first | (refine ⟨fun (h : false = true) => (Bool.false_ne_true h).elim, fun _ => ?_⟩; (conv => whnf)) | (refine ⟨fun _ => ?_, fun (h : true = false) => (Bool.false_ne_true h.symm).elim⟩; (conv => whnf))))
  refine ⟨rfl, by omega, by omega, ?_⟩
  ((conv => whnf); repeat (first | (refine ⟨fun (h : false = true) => (Bool.false_ne_true h).elim, fun _ => ?_⟩; (conv => whnf)) | (refine ⟨fun _ => ?_, fun (h : true = false) => (Bool.false_ne_true h.symm).elim⟩; (conv => whnf))))
  refine ⟨fun h => ?_, fun h => ?_⟩
  · ((conv => whnf); repeat (first | (refine ⟨fun (h : false = true) => (Bool.false_ne_true h).elim, fun _ => ?_⟩; (conv => whnf)) | (refine ⟨fun _ => ?_, fun (h : true = false) => (Bool.false_ne_true h.symm).elim⟩; (conv => whnf))))
    refine ⟨rfl, by omega, by omega, ?_⟩
    ((conv => whnf); repeat (first | (refine ⟨fun (h : false = true) => (Bool.false_ne_true h).elim, fun _ => ?_⟩; (conv => whnf)) | (refine ⟨fun _ => ?_, fun (h : true = false) => (Bool.false_ne_true h.symm).elim⟩; (conv => whnf))))
    refine ⟨fun h => ?_, fun h => ?_⟩
    · ((conv => whnf); repeat (first | (refine ⟨fun (h : false = true) => (Bool.false_ne_true h).elim, fun _ => ?_⟩; (conv => whnf)) | (refine ⟨fun _ => ?_, fun (h : true = false) => (Bool.false_ne_true h.symm).elim⟩; (conv => whnf))))
      exact done rfl (.cons (.cell rfl rfl rfl rfl) (.cons .tmp .nil)) [] [] (fun _ h => h) rfl rfl ⟨trivial, trivial, rfl, rfl⟩
    · refine absurd ?_ h1
      have := (bne_eq_false_iff_eq).1 h
      exact Int.ofNat.inj this
  · refine absurd ?_ h0
    have := (bne_eq_false_iff_eq).1 h
    exact Int.ofNat.inj this

theorem parse_ok (x : List UInt8) (hx : x.length = 31) (h0 : (x.getD 0 0).toNat = 0 ∨ (x.getD 0 0).toNat = 128) : Sy.Spec Try.prog 19 [.sl 1 byteSV x] [] (.tup [msgSV (parsedX x), intSV 0]) [] := contract Γ hm 100 F19 Try.ntmps19 rfl fun F hF => by
  have he : x.getD 0 0 = x[0] := by simp [List.getD, hx]
  have e1 : decide ((x.getD 0 0).toNat = 128) = ((x[0].toNat : Int) == 128) := by
    rw [he]
    by_cases h : x[0].toNat = 128 <;> simp [h]
    omega
  have e2 : ((num ((x.drop 9).take 4) : Nat) : Int) = IntKind.i64.wrap (num ((x.drop 9).take 4) : Nat) := i64_small _ (by have := num_take_lt (x.drop 9) 4; omega)
  rw [he] at h0
  ((conv => whnf); repeat (first | (refine ⟨fun (h : false = true) => (Bool.false_ne_true h).elim, fun _ => ?_⟩; (conv => whnf)) | (refine ⟨fun _ => ?_, fun (h : true = false) => (Bool.false_ne_true h.symm).elim⟩; (conv => whnf))))
  refine ⟨rfl, by omega, by omega, ?_⟩
  ((conv => whnf); repeat (first | (refine ⟨fun (h : false = true) => (Bool.false_ne_true h).elim, fun _ => ?_⟩; (conv => whnf)) | (refine ⟨fun _ => ?_, fun (h : true = false) => (Bool.false_ne_true h.symm).elim⟩; (conv => whnf))))
  refine ⟨fun h => ?_, fun h => ?_⟩
  · ((conv => whnf); repeat (first | (refine ⟨fun (h : false = true) => (Bool.false_ne_true h).elim, fun _ => ?_⟩; (conv => whnf)) | (refine ⟨fun _ => ?_, fun (h : true = false) => (Bool.false_ne_true h.symm).elim⟩; (conv => whnf))))
    refine ⟨rfl, by omega, by omega, ?_⟩
    ((conv => whnf); repeat (first | (refine ⟨fun (h : false = true) => (Bool.false_ne_true h).elim, fun _ => ?_⟩; (conv => whnf)) | (refine ⟨fun _ => ?_, fun (h : true = false) => (Bool.false_ne_true h.symm).elim⟩; (conv => whnf))))
    refine ⟨fun h' => ?_, fun h' => ?_⟩
    · exfalso
      have a1 : (x[0].toNat : Int) ≠ 0 := by simpa using h
      have a2 : (x[0].toNat : Int) ≠ 128 := by simpa using h'
      omega
    · ((conv => whnf); repeat (first | (refine ⟨fun (h : false = true) => (Bool.false_ne_true h).elim, fun _ => ?_⟩; (conv => whnf)) | (refine ⟨fun _ => ?_, fun (h : true = false) => (Bool.false_ne_true h.symm).elim⟩; (conv => whnf))))
      refine ⟨rfl, by omega, by omega, ?_⟩
      ((conv => whnf); repeat (first | (refine ⟨fun (h : false = true) => (Bool.false_ne_true h).elim, fun _ => ?_⟩; (conv => whnf)) | (refine ⟨fun _ => ?_, fun (h : true = false) => (Bool.false_ne_true h.symm).elim⟩; (conv => whnf))))
      refine stepOp (good_call [(0, 19)] rfl F32 (nextS x (by omega) 1 8 (by decide) (by omega)) rfl ⟨rfl, trivial⟩ rfl ⟨.inl rfl, trivial⟩) rfl rfl (run Γ hm 400 ?_)
      ((conv => whnf); repeat (first | (refine ⟨fun (h : false = true) => (Bool.false_ne_true h).elim, fun _ => ?_⟩; (conv => whnf)) | (refine ⟨fun _ => ?_, fun (h : true = false) => (Bool.false_ne_true h.symm).elim⟩; (conv => whnf))))
      refine stepOp (good_call [(0, 19)] rfl F32 (nextS x (by omega) 9 4 (by decide) (by omega)) rfl ⟨rfl, trivial⟩ rfl ⟨.inl rfl, trivial⟩) rfl rfl (run Γ hm 400 ?_)
      ((conv => whnf); repeat (first | (refine ⟨fun (h : false = true) => (Bool.false_ne_true h).elim, fun _ => ?_⟩; (conv => whnf)) | (refine ⟨fun _ => ?_, fun (h : true = false) => (Bool.false_ne_true h.symm).elim⟩; (conv => whnf))))
      refine stepOp (good_call [(0, 19)] rfl F32 (nextS x (by omega) 13 8 (by decide) (by omega)) rfl ⟨rfl, trivial⟩ rfl ⟨.inl rfl, trivial⟩) rfl rfl (run Γ hm 400 ?_)
      ((conv => whnf); repeat (first | (refine ⟨fun (h : false = true) => (Bool.false_ne_true h).elim, fun _ => ?_⟩; (conv => whnf)) | (refine ⟨fun _ => ?_, fun (h : true = false) => (Bool.false_ne_true h.symm).elim⟩; (conv => whnf))))
      refine stepOp (good_call [(0, 19)] rfl F33 (pairS x (by omega) 21 (by omega)) rfl ⟨rfl, trivial⟩ rfl ⟨.inl rfl, trivial⟩) rfl rfl (run Γ hm 400 ?_)
      ((conv => whnf); repeat (first | (refine ⟨fun (h : false = true) => (Bool.false_ne_true h).elim, fun _ => ?_⟩; (conv => whnf)) | (refine ⟨fun _ => ?_, fun (h : true = false) => (Bool.false_ne_true h.symm).elim⟩; (conv => whnf))))
      refine stepOp (good_call [(0, 19)] rfl F33 (pairS x (by omega) 23 (by omega)) rfl ⟨rfl, trivial⟩ rfl ⟨.inl rfl, trivial⟩) rfl rfl (run Γ hm 400 ?_)
      ((conv => whnf); repeat (first | (refine ⟨fun (h : false = true) => (Bool.false_ne_true h).elim, fun _ => ?_⟩; (conv => whnf)) | (refine ⟨fun _ => ?_, fun (h : true = false) => (Bool.false_ne_true h.symm).elim⟩; (conv => whnf))))
      refine stepOp (good_call [(0, 19)] rfl F33 (pairS x (by omega) 25 (by omega)) rfl ⟨rfl, trivial⟩ rfl ⟨.inl rfl, trivial⟩) rfl rfl (run Γ hm 400 ?_)
      ((conv => whnf); repeat (first | (refine ⟨fun (h : false = true) => (Bool.false_ne_true h).elim, fun _ => ?_⟩; (conv => whnf)) | (refine ⟨fun _ => ?_, fun (h : true = false) => (Bool.false_ne_true h.symm).elim⟩; (conv => whnf))))
      refine stepOp (good_call [(0, 19)] rfl F33 (pairS x (by omega) 27 (by omega)) rfl ⟨rfl, trivial⟩ rfl ⟨.inl rfl, trivial⟩) rfl rfl (run Γ hm 400 ?_)
      ((conv => whnf); repeat (first | (refine ⟨fun (h : false = true) => (Bool.false_ne_true h).elim, fun _ => ?_⟩; (conv => whnf)) | (refine ⟨fun _ => ?_, fun (h : true = false) => (Bool.false_ne_true h.symm).elim⟩; (conv => whnf))))
      refine stepOp (good_call [(0, 19)] rfl F33 (pairS x (by omega) 29 (by omega)) rfl ⟨rfl, trivial⟩ rfl ⟨.inl rfl, trivial⟩) rfl rfl (run Γ hm 400 ?_)
      ((conv => whnf); repeat (first | (refine ⟨fun (h : false = true) => (Bool.false_ne_true h).elim, fun _ => ?_⟩; (conv => whnf)) | (refine ⟨fun _ => ?_, fun (h : true = false) => (Bool.false_ne_true h.symm).elim⟩; (conv => whnf))))
      refine done rfl (.cons (.cell rfl rfl rfl rfl) (.cons .tmp .nil)) [] [] (fun _ h => h) ?_ rfl ⟨trivial, trivial, rfl, rfl⟩
      exact congr (congrArg (fun (p1 : Bool) (p2 : Int) => SV.tup [.agg [boolSV false, .val (.bool p1), u64SV (num ((x.drop 1).take 8)), u64SV (num ((x.drop 13).take 8)), .val (.int .i64 p2), intSV (num ((x.drop 21).take 2)), intSV (num ((x.drop 23).take 2)), intSV (num ((x.drop 25).take 2)), intSV (num ((x.drop 27).take 2)), intSV (num ((x.drop 29).take 2))], intSV 0]) e1) e2
  · ((conv => whnf); repeat (first | (refine ⟨fun (h : false = true) => (Bool.false_ne_true h).elim, fun _ => ?_⟩; (conv => whnf)) | (refine ⟨fun _ => ?_, fun (h : true = false) => (Bool.false_ne_true h.symm).elim⟩; (conv => whnf))))
    refine ⟨rfl, by omega, by omega, ?_⟩
    ((conv => whnf); repeat (first | (refine ⟨fun (h : false = true) => (Bool.false_ne_true h).elim, fun _ => ?_⟩; (conv => whnf)) | (refine ⟨fun _ => ?_, fun (h : true = false) => (Bool.false_ne_true h.symm).elim⟩; (conv => whnf))))
    refine stepOp (good_call [(0, 19)] rfl F32 (nextS x (by omega) 1 8 (by decide) (by omega)) rfl ⟨rfl, trivial⟩ rfl ⟨.inl rfl, trivial⟩) rfl rfl (run Γ hm 400 ?_)
    ((conv => whnf); repeat (first | (refine ⟨fun (h : false = true) => (Bool.false_ne_true h).elim, fun _ => ?_⟩; (conv => whnf)) | (refine ⟨fun _ => ?_, fun (h : true = false) => (Bool.false_ne_true h.symm).elim⟩; (conv => whnf))))
    refine stepOp (good_call [(0, 19)] rfl F32 (nextS x (by omega) 9 4 (by decide) (by omega)) rfl ⟨rfl, trivial⟩ rfl ⟨.inl rfl, trivial⟩) rfl rfl (run Γ hm 400 ?_)
    ((conv => whnf); repeat (first | (refine ⟨fun (h : false = true) => (Bool.false_ne_true h).elim, fun _ => ?_⟩; (conv => whnf)) | (refine ⟨fun _ => ?_, fun (h : true = false) => (Bool.false_ne_true h.symm).elim⟩; (conv => whnf))))
    refine stepOp (good_call [(0, 19)] rfl F32 (nextS x (by omega) 13 8 (by decide) (by omega)) rfl ⟨rfl, trivial⟩ rfl ⟨.inl rfl, trivial⟩) rfl rfl (run Γ hm 400 ?_)
    ((conv => whnf); repeat (first | (refine ⟨fun (h : false = true) => (Bool.false_ne_true h).elim, fun _ => ?_⟩; (conv => whnf)) | (refine ⟨fun _ => ?_, fun (h : true = false) => (Bool.false_ne_true h.symm).elim⟩; (conv => whnf))))
    refine stepOp (good_call [(0, 19)] rfl F33 (pairS x (by omega) 21 (by omega)) rfl ⟨rfl, trivial⟩ rfl ⟨.inl rfl, trivial⟩) rfl rfl (run Γ hm 400 ?_)
    ((conv => whnf); repeat (first | (refine ⟨fun (h : false = true) => (Bool.false_ne_true h).elim, fun _ => ?_⟩; (conv => whnf)) | (refine ⟨fun _ => ?_, fun (h : true = false) => (Bool.false_ne_true h.symm).elim⟩; (conv => whnf))))
    refine stepOp (good_call [(0, 19)] rfl F33 (pairS x (by omega) 23 (by omega)) rfl ⟨rfl, trivial⟩ rfl ⟨.inl rfl, trivial⟩) rfl rfl (run Γ hm 400 ?_)
    ((conv => whnf); repeat (first | (refine ⟨fun (h : false = true) => (Bool.false_ne_true h).elim, fun _ => ?_⟩; (conv => whnf)) | (refine ⟨fun _ => ?_, fun (h : true = false) => (Bool.false_ne_true h.symm).elim⟩; (conv => whnf))))
    refine stepOp (good_call [(0, 19)] rfl F33 (pairS x (by omega) 25 (by omega)) rfl ⟨rfl, trivial⟩ rfl ⟨.inl rfl, trivial⟩) rfl rfl (run Γ hm 400 ?_)
    ((conv => whnf); repeat (first | (refine ⟨fun (h : false = true) => (Bool.false_ne_true h).elim, fun _ => ?_⟩; (conv => whnf)) | (refine ⟨fun _ => ?_, fun (h : true = false) => (Bool.false_ne_true h.symm).elim⟩; (conv => whnf))))
    refine stepOp (good_call [(0, 19)] rfl F33 (pairS x (by omega) 27 (by omega)) rfl ⟨rfl, trivial⟩ rfl ⟨.inl rfl, trivial⟩) rfl rfl (run Γ hm 400 ?_)
    ((conv => whnf); repeat (first | (refine ⟨fun (h : false = true) => (Bool.false_ne_true h).elim, fun _ => ?_⟩; (conv => whnf)) | (refine ⟨fun _ => ?_, fun (h : true = false) => (Bool.false_ne_true h.symm).elim⟩; (conv => whnf))))
    refine stepOp (good_call [(0, 19)] rfl F33 (pairS x (by omega) 29 (by omega)) rfl ⟨rfl, trivial⟩ rfl ⟨.inl rfl, trivial⟩) rfl rfl (run Γ hm 400 ?_)
    ((conv => whnf); repeat (first | (refine ⟨fun (h : false = true) => (Bool.false_ne_true h).elim, fun _ => ?_⟩; (conv => whnf)) | (refine ⟨fun _ => ?_, fun (h : true = false) => (Bool.false_ne_true h.symm).elim⟩; (conv => whnf))))
    refine done rfl (.cons (.cell rfl rfl rfl rfl) (.cons .tmp .nil)) [] [] (fun _ h => h) ?_ rfl ⟨trivial, trivial, rfl, rfl⟩
    exact congr (congrArg (fun (p1 : Bool) (p2 : Int) => SV.tup [.agg [boolSV false, .val (.bool p1), u64SV (num ((x.drop 1).take 8)), u64SV (num ((x.drop 13).take 8)), .val (.int .i64 p2), intSV (num ((x.drop 21).take 2)), intSV (num ((x.drop 23).take 2)), intSV (num ((x.drop 25).take 2)), intSV (num ((x.drop 27).take 2)), intSV (num ((x.drop 29).take 2))], intSV 0]) e1) e2

theorem parsedX_len (m : List UInt8) : (parsedX m).ch = false := rfl
end Go.Sy.Ytjfglngcfghfnaa
