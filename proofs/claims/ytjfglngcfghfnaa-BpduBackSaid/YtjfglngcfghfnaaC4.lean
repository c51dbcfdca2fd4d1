/-
  Contracts, 4: frames put.
-/
import Derived.Test.YtjfglngcfghfnaaC3
namespace Go.Sy.Ytjfglngcfghfnaa
open Go.Proofs

attribute [local irreducible] Go.Sy.G Go.Sy.DR

def frame (d s t : Nat) (body : List UInt8) : List UInt8 := be 6 d ++ be 6 s ++ [UInt8.ofNat (t / 256), UInt8.ofNat t] ++ body

theorem two_bytes (t : Nat) : [UInt8.ofNat (t / 256), UInt8.ofNat t].map byteSV = [SV.val (.int .u8 (IntKind.u8.wrap ((t : Int).fdiv (2 ^ (min (Int.toNat 8) IntKind.i64.bits))))), SV.val (.int .u8 (IntKind.u8.wrap (t : Int)))] := by
  have h1 : IntKind.u8.wrap ((t : Int).fdiv (2 ^ (min (Int.toNat 8) IntKind.i64.bits))) = ((UInt8.ofNat (t / 256)).toNat : Int) := by
    show IntKind.u8.wrap ((t : Int).fdiv 256) = _
    rw [Int.fdiv_eq_ediv_of_nonneg _ (by decide), IntKind.wrap_u8]
    simp
  have h2 : IntKind.u8.wrap (t : Int) = ((UInt8.ofNat t).toNat : Int) := by
    rw [IntKind.wrap_u8]
    simp
  rw [h1, h2]
  rfl

theorem two_bytes2 (t : Nat) (ht : t ≤ 65535) : [UInt8.ofNat (t / 256), UInt8.ofNat t].map byteSV = [SV.val (.int .u8 (IntKind.u8.wrap (IntKind.i64.wrap ((t : Int).tdiv 256)))), SV.val (.int .u8 (IntKind.u8.wrap ((t : Int).tmod 256)))] := by
  have h1 : IntKind.u8.wrap (IntKind.i64.wrap ((t : Int).tdiv 256)) = ((UInt8.ofNat (t / 256)).toNat : Int) := by
    rw [Int.tdiv_eq_ediv_of_nonneg (by omega), IntKind.wrap_u8, IntKind.wrap_i64]
    simp
    omega
  have h2 : IntKind.u8.wrap ((t : Int).tmod 256) = ((UInt8.ofNat t).toNat : Int) := by
    rw [Int.tmod_eq_emod_of_nonneg (by omega), IntKind.wrap_u8]
    simp
  rw [h1, h2]
  rfl

theorem etherPut_bad (d s : Nat) (t : Int) (body : List UInt8) (hd : d < 281474976710656) (hs : 281474976710656 ≤ s) : Sy.Spec Try.prog 24 [frSV d s t body] [] (.tup [.val (.slice none 0 0), intSV 11]) [] := contract Γ hm 100 F24 Try.ntmps24 rfl fun F hF => by
  ((conv => whnf); repeat (first | (refine ⟨fun (h : false = true) => (Bool.false_ne_true h).elim, fun _ => ?_⟩; (conv => whnf)) | (refine ⟨fun _ => ?_, fun (h : true = false) => (Bool.false_ne_true h.symm).elim⟩; (conv => whnf))))
  refine ⟨fun h => absurd (of_decide_eq_true h) (by omega), fun _ => ?_⟩
  ((conv => whnf); repeat (first | (refine ⟨fun (h : false = true) => (Bool.false_ne_true h).elim, fun _ => ?_⟩; (conv => whnf)) | (refine ⟨fun _ => ?_, fun (h : true = false) => (Bool.false_ne_true h.symm).elim⟩; (conv => whnf))))
  refine ⟨fun _ => ?_, fun h => absurd (of_decide_eq_false h) (by omega)⟩
  ((conv => whnf); repeat (first | (refine ⟨fun (h : false = true) => (Bool.false_ne_true h).elim, fun _ => ?_⟩; (conv => whnf)) | (refine ⟨fun _ => ?_, fun (h : true = false) => (Bool.false_ne_true h.symm).elim⟩; (conv => whnf))))
  exact done0 rfl (.cons .tmp (.cons .tmp .nil)) rfl rfl

theorem etherPut_ok (d s t : Nat) (body : List UInt8) (hd : d < 281474976710656) (hs : s < 281474976710656) (ht : t ≤ 65535) (hb : body.length ≤ 1504) : Sy.Spec Try.prog 24 [frSV d s t body] [] (.tup [.osl 0, intSV 0]) [(0, .row 1 byteSV (frame d s t body))] := contract Γ hm 100 F24 Try.ntmps24 rfl fun F hF => by
  ((conv => whnf); repeat (first | (refine ⟨fun (h : false = true) => (Bool.false_ne_true h).elim, fun _ => ?_⟩; (conv => whnf)) | (refine ⟨fun _ => ?_, fun (h : true = false) => (Bool.false_ne_true h.symm).elim⟩; (conv => whnf))))
  refine ⟨fun h => absurd (of_decide_eq_true h) (by omega), fun _ => ?_⟩
  ((conv => whnf); repeat (first | (refine ⟨fun (h : false = true) => (Bool.false_ne_true h).elim, fun _ => ?_⟩; (conv => whnf)) | (refine ⟨fun _ => ?_, fun (h : true = false) => (Bool.false_ne_true h.symm).elim⟩; (conv => whnf))))
  refine ⟨fun h => absurd (of_decide_eq_true h) (by omega), fun _ => ?_⟩
  ((conv => whnf); repeat (first | (refine ⟨fun (h : false = true) => (Bool.false_ne_true h).elim, fun _ => ?_⟩; (conv => whnf)) | (refine ⟨fun _ => ?_, fun (h : true = false) => (Bool.false_ne_true h.symm).elim⟩; (conv => whnf))))
  refine ⟨fun h => absurd (of_decide_eq_true h) (by omega), fun _ => ?_⟩
  ((conv => whnf); repeat (first | (refine ⟨fun (h : false = true) => (Bool.false_ne_true h).elim, fun _ => ?_⟩; (conv => whnf)) | (refine ⟨fun _ => ?_, fun (h : true = false) => (Bool.false_ne_true h.symm).elim⟩; (conv => whnf))))
  refine ⟨fun h => absurd (of_decide_eq_true h) (by omega), fun _ => ?_⟩
  ((conv => whnf); repeat (first | (refine ⟨fun (h : false = true) => (Bool.false_ne_true h).elim, fun _ => ?_⟩; (conv => whnf)) | (refine ⟨fun _ => ?_, fun (h : true = false) => (Bool.false_ne_true h.symm).elim⟩; (conv => whnf))))
  refine stepD (good_call [(0, 31)] rfl F35 (put2n d) rfl trivial rfl ⟨.inr rfl, trivial⟩) (by kernel_rfl) rfl (runD Γ hm 400 (by kernel_rfl) ?_)
  ((conv => whnf); repeat (first | (refine ⟨fun (h : false = true) => (Bool.false_ne_true h).elim, fun _ => ?_⟩; (conv => whnf)) | (refine ⟨fun _ => ?_, fun (h : true = false) => (Bool.false_ne_true h.symm).elim⟩; (conv => whnf))))
  refine stepD (good_call [(0, 31), (1, 34)] rfl F35 (put2 (be 6 d) (by simp [be_length]) s) rfl ⟨rfl, trivial⟩ rfl ⟨.inl rfl, .inr rfl, trivial⟩) (by kernel_rfl) rfl (runD Γ hm 400 (by kernel_rfl) ?_)
  ((conv => whnf); repeat (first | (refine ⟨fun (h : false = true) => (Bool.false_ne_true h).elim, fun _ => ?_⟩; (conv => whnf)) | (refine ⟨fun _ => ?_, fun (h : true = false) => (Bool.false_ne_true h.symm).elim⟩; (conv => whnf))))
  refine ⟨by kernel_rfl, ?_⟩
  ((conv => whnf); repeat (first | (refine ⟨fun (h : false = true) => (Bool.false_ne_true h).elim, fun _ => ?_⟩; (conv => whnf)) | (refine ⟨fun _ => ?_, fun (h : true = false) => (Bool.false_ne_true h.symm).elim⟩; (conv => whnf))))
  refine ⟨by decide, ?_⟩
  ((conv => whnf); repeat (first | (refine ⟨fun (h : false = true) => (Bool.false_ne_true h).elim, fun _ => ?_⟩; (conv => whnf)) | (refine ⟨fun _ => ?_, fun (h : true = false) => (Bool.false_ne_true h.symm).elim⟩; (conv => whnf))))
  refine stepD (good_appendT Γ.toTy 44 rfl rfl rfl rfl rfl (.row rfl) (.lit (l := [UInt8.ofNat (t / 256), UInt8.ofNat t]) rfl (two_bytes t)) (by decide) ?_ ?_) (by kernel_rfl) rfl (runD Γ hm 400 (by kernel_rfl) ?_)
  · simp [be_length]
  · simp [be_length]
  ((conv => whnf); repeat (first | (refine ⟨fun (h : false = true) => (Bool.false_ne_true h).elim, fun _ => ?_⟩; (conv => whnf)) | (refine ⟨fun _ => ?_, fun (h : true = false) => (Bool.false_ne_true h.symm).elim⟩; (conv => whnf))))
  refine stepD (good_appendT Γ.toTy 47 rfl rfl rfl rfl rfl (.row rfl) .sl (by decide) ?_ ?_) (by kernel_rfl) rfl (runD Γ hm 400 (by kernel_rfl) ?_)
  · simp [be_length]; omega
  · simp [be_length]; omega
  ((conv => whnf); repeat (first | (refine ⟨fun (h : false = true) => (Bool.false_ne_true h).elim, fun _ => ?_⟩; (conv => whnf)) | (refine ⟨fun _ => ?_, fun (h : true = false) => (Bool.false_ne_true h.symm).elim⟩; (conv => whnf))))
  refine ⟨by kernel_rfl, ?_⟩
  ((conv => whnf); repeat (first | (refine ⟨fun (h : false = true) => (Bool.false_ne_true h).elim, fun _ => ?_⟩; (conv => whnf)) | (refine ⟨fun _ => ?_, fun (h : true = false) => (Bool.false_ne_true h.symm).elim⟩; (conv => whnf))))
  exact done rfl (.cons .tmp (.cons .tmp .nil)) [(0, 47)] _ (fun _ h => h) rfl rfl ⟨trivial, ⟨.inl rfl, rfl, trivial⟩, rfl, rfl⟩

theorem refPut_bad (d s : Nat) (t : Int) (body : List UInt8) (hd : d < 281474976710656) (hs : 281474976710656 ≤ s) : Sy.Spec Try.prog 25 [frSV d s t body] [] (.tup [.val (.slice none 0 0), intSV 11]) [] := contract Γ hm 100 F25 Try.ntmps25 rfl fun F hF => by
  ((conv => whnf); repeat (first | (refine ⟨fun (h : false = true) => (Bool.false_ne_true h).elim, fun _ => ?_⟩; (conv => whnf)) | (refine ⟨fun _ => ?_, fun (h : true = false) => (Bool.false_ne_true h.symm).elim⟩; (conv => whnf))))
  refine ⟨fun h => absurd (of_decide_eq_true h) (by omega), fun _ => ?_⟩
  ((conv => whnf); repeat (first | (refine ⟨fun (h : false = true) => (Bool.false_ne_true h).elim, fun _ => ?_⟩; (conv => whnf)) | (refine ⟨fun _ => ?_, fun (h : true = false) => (Bool.false_ne_true h.symm).elim⟩; (conv => whnf))))
  refine ⟨fun _ => ?_, fun h => absurd (of_decide_eq_false h) (by omega)⟩
  ((conv => whnf); repeat (first | (refine ⟨fun (h : false = true) => (Bool.false_ne_true h).elim, fun _ => ?_⟩; (conv => whnf)) | (refine ⟨fun _ => ?_, fun (h : true = false) => (Bool.false_ne_true h.symm).elim⟩; (conv => whnf))))
  exact done0 rfl (.cons .tmp (.cons .tmp .nil)) rfl rfl

theorem refPut_ok (d s t : Nat) (body : List UInt8) (hd : d < 281474976710656) (hs : s < 281474976710656) (ht : t ≤ 65535) (hb : body.length ≤ 1504) : Sy.Spec Try.prog 25 [frSV d s t body] [] (.tup [.osl 0, intSV 0]) [(0, .row 1 byteSV (frame d s t body))] := contract Γ hm 100 F25 Try.ntmps25 rfl fun F hF => by
  ((conv => whnf); repeat (first | (refine ⟨fun (h : false = true) => (Bool.false_ne_true h).elim, fun _ => ?_⟩; (conv => whnf)) | (refine ⟨fun _ => ?_, fun (h : true = false) => (Bool.false_ne_true h.symm).elim⟩; (conv => whnf))))
  refine ⟨fun h => absurd (of_decide_eq_true h) (by omega), fun _ => ?_⟩
  ((conv => whnf); repeat (first | (refine ⟨fun (h : false = true) => (Bool.false_ne_true h).elim, fun _ => ?_⟩; (conv => whnf)) | (refine ⟨fun _ => ?_, fun (h : true = false) => (Bool.false_ne_true h.symm).elim⟩; (conv => whnf))))
  refine ⟨fun h => absurd (of_decide_eq_true h) (by omega), fun _ => ?_⟩
  ((conv => whnf); repeat (first | (refine ⟨fun (h : false = true) => (Bool.false_ne_true h).elim, fun _ => ?_⟩; (conv => whnf)) | (refine ⟨fun _ => ?_, fun (h : true = false) => (Bool.false_ne_true h.symm).elim⟩; (conv => whnf))))
  refine ⟨fun h => absurd (of_decide_eq_true h) (by omega), fun _ => ?_⟩
  ((conv => whnf); repeat (first | (refine ⟨fun (h : false = true) => (Bool.false_ne_true h).elim, fun _ => ?_⟩; (conv => whnf)) | (refine ⟨fun _ => ?_, fun (h : true = false) => (Bool.false_ne_true h.symm).elim⟩; (conv => whnf))))
  refine ⟨fun h => absurd (of_decide_eq_true h) (by omega), fun _ => ?_⟩
  ((conv => whnf); repeat (first | (refine ⟨fun (h : false = true) => (Bool.false_ne_true h).elim, fun _ => ?_⟩; (conv => whnf)) | (refine ⟨fun _ => ?_, fun (h : true = false) => (Bool.false_ne_true h.symm).elim⟩; (conv => whnf))))
  refine stepD (good_call [(0, 29)] rfl F36 (bytes1 d (by omega)) rfl trivial rfl ⟨.inr rfl, trivial⟩) (by kernel_rfl) rfl (runD Γ hm 400 (by kernel_rfl) ?_)
  ((conv => whnf); repeat (first | (refine ⟨fun (h : false = true) => (Bool.false_ne_true h).elim, fun _ => ?_⟩; (conv => whnf)) | (refine ⟨fun _ => ?_, fun (h : true = false) => (Bool.false_ne_true h.symm).elim⟩; (conv => whnf))))
  refine stepD (good_call [(0, 32)] rfl F36 (bytes1 s (by omega)) rfl trivial rfl ⟨.inr rfl, trivial⟩) (by kernel_rfl) rfl (runD Γ hm 400 (by kernel_rfl) ?_)
  ((conv => whnf); repeat (first | (refine ⟨fun (h : false = true) => (Bool.false_ne_true h).elim, fun _ => ?_⟩; (conv => whnf)) | (refine ⟨fun _ => ?_, fun (h : true = false) => (Bool.false_ne_true h.symm).elim⟩; (conv => whnf))))
  refine stepD (good_appendT Γ.toTy 33 rfl rfl rfl rfl rfl (.row rfl) (.row rfl) (by decide) ?_ ?_) (by kernel_rfl) rfl (runD Γ hm 400 (by kernel_rfl) ?_)
  · simp [be_length]
  · simp [be_length]
  ((conv => whnf); repeat (first | (refine ⟨fun (h : false = true) => (Bool.false_ne_true h).elim, fun _ => ?_⟩; (conv => whnf)) | (refine ⟨fun _ => ?_, fun (h : true = false) => (Bool.false_ne_true h.symm).elim⟩; (conv => whnf))))
  refine ⟨by kernel_rfl, ?_⟩
  ((conv => whnf); repeat (first | (refine ⟨fun (h : false = true) => (Bool.false_ne_true h).elim, fun _ => ?_⟩; (conv => whnf)) | (refine ⟨fun _ => ?_, fun (h : true = false) => (Bool.false_ne_true h.symm).elim⟩; (conv => whnf))))
  refine ⟨by decide, ?_⟩
  ((conv => whnf); repeat (first | (refine ⟨fun (h : false = true) => (Bool.false_ne_true h).elim, fun _ => ?_⟩; (conv => whnf)) | (refine ⟨fun _ => ?_, fun (h : true = false) => (Bool.false_ne_true h.symm).elim⟩; (conv => whnf))))
  refine ⟨by decide, ?_⟩
  ((conv => whnf); repeat (first | (refine ⟨fun (h : false = true) => (Bool.false_ne_true h).elim, fun _ => ?_⟩; (conv => whnf)) | (refine ⟨fun _ => ?_, fun (h : true = false) => (Bool.false_ne_true h.symm).elim⟩; (conv => whnf))))
  refine stepOp (good_appendT Γ.toTy 44 rfl rfl rfl rfl rfl (.row rfl) (.lit (l := [UInt8.ofNat (t / 256), UInt8.ofNat t]) rfl (two_bytes2 t ht)) (by decide) ?_ ?_) rfl rfl (run Γ hm 400 ?_)
  · simp [be_length]
  · simp [be_length]
  ((conv => whnf); repeat (first | (refine ⟨fun (h : false = true) => (Bool.false_ne_true h).elim, fun _ => ?_⟩; (conv => whnf)) | (refine ⟨fun _ => ?_, fun (h : true = false) => (Bool.false_ne_true h.symm).elim⟩; (conv => whnf))))
  refine stepOp (good_appendT Γ.toTy 48 rfl rfl rfl rfl rfl (.row rfl) .sl (by decide) ?_ ?_) rfl rfl (run Γ hm 400 ?_)
  · simp [be_length]; omega
  · simp [be_length]; omega
  ((conv => whnf); repeat (first | (refine ⟨fun (h : false = true) => (Bool.false_ne_true h).elim, fun _ => ?_⟩; (conv => whnf)) | (refine ⟨fun _ => ?_, fun (h : true = false) => (Bool.false_ne_true h.symm).elim⟩; (conv => whnf))))
  exact done rfl (.cons .tmp (.cons .tmp .nil)) [(0, 48)] _ (fun _ h => h) rfl rfl ⟨trivial, ⟨.inl rfl, rfl, trivial⟩, rfl, rfl⟩
end Go.Sy.Ytjfglngcfghfnaa
