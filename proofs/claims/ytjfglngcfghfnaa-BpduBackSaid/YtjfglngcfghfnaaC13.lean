/-
  Contracts, 13: the law of what is put.
-/
import Derived.Test.YtjfglngcfghfnaaC12
namespace Go.Sy.Ytjfglngcfghfnaa
open Go.Proofs

attribute [local irreducible] Go.Sy.G Go.Sy.DR
set_option maxRecDepth 8000
set_option maxHeartbeats 1000000

theorem bytes_self (x : ByteArray) : (x == x) = true := (Go.MapKept.bytes_beq x x).2 rfl

theorem putsS (src : Nat) (m n : Msg) (pr : Int) (hs64 : src < 18446744073709551616) (hm1 : m.InRange) : Sy.Spec Try.prog 5 [u64SV src, msgSV m, msgSV n, intSV pr] [] (boolSV true) [] := contract Γ hm 100 F5 Try.ntmps5 rfl fun F hF => by
  by_cases hI : pr < 0 ∨ 65536 ≤ pr ∨ 281474976710656 ≤ src
  · cases hr : rightB m with
    | false =>
      ((conv => whnf); repeat (first | (refine ⟨fun (h : false = true) => (Bool.false_ne_true h).elim, fun _ => ?_⟩; (conv => whnf)) | (refine ⟨fun _ => ?_, fun (h : true = false) => (Bool.false_ne_true h.symm).elim⟩; (conv => whnf))))
      refine call0 (put_no src m hr) F10 rfl rfl rfl rfl rfl (run Γ hm 400 ?_)
      ((conv => whnf); repeat (first | (refine ⟨fun (h : false = true) => (Bool.false_ne_true h).elim, fun _ => ?_⟩; (conv => whnf)) | (refine ⟨fun _ => ?_, fun (h : true = false) => (Bool.false_ne_true h.symm).elim⟩; (conv => whnf))))
      refine call0 (refPut_no src m hr) F12 rfl rfl rfl rfl rfl (run Γ hm 400 ?_)
      ((conv => whnf); repeat (first | (refine ⟨fun (h : false = true) => (Bool.false_ne_true h).elim, fun _ => ?_⟩; (conv => whnf)) | (refine ⟨fun _ => ?_, fun (h : true = false) => (Bool.false_ne_true h.symm).elim⟩; (conv => whnf))))
      refine call0 (id_no pr src hI) F13 rfl rfl rfl rfl rfl (run Γ hm 400 ?_)
      ((conv => whnf); repeat (first | (refine ⟨fun (h : false = true) => (Bool.false_ne_true h).elim, fun _ => ?_⟩; (conv => whnf)) | (refine ⟨fun _ => ?_, fun (h : true = false) => (Bool.false_ne_true h.symm).elim⟩; (conv => whnf))))
      refine call0 (refId_no pr src hI) F14 rfl rfl rfl rfl rfl (run Γ hm 400 ?_)
      ((conv => whnf); repeat (first | (refine ⟨fun (h : false = true) => (Bool.false_ne_true h).elim, fun _ => ?_⟩; (conv => whnf)) | (refine ⟨fun _ => ?_, fun (h : true = false) => (Bool.false_ne_true h.symm).elim⟩; (conv => whnf))))
      refine stepD (good_stringT Γ.toTy rfl rfl rfl rfl rfl rfl rfl .nil) (by kernel_rfl) rfl (runD Γ hm 400 (by kernel_rfl) ?_)
      ((conv => whnf); repeat (first | (refine ⟨fun (h : false = true) => (Bool.false_ne_true h).elim, fun _ => ?_⟩; (conv => whnf)) | (refine ⟨fun _ => ?_, fun (h : true = false) => (Bool.false_ne_true h.symm).elim⟩; (conv => whnf))))
      refine stepD (good_stringT Γ.toTy rfl rfl rfl rfl rfl rfl rfl .nil) (by kernel_rfl) rfl (runD Γ hm 400 (by kernel_rfl) ?_)
      ((conv => whnf); repeat (first | (refine ⟨fun (h : false = true) => (Bool.false_ne_true h).elim, fun _ => ?_⟩; (conv => whnf)) | (refine ⟨fun _ => ?_, fun (h : true = false) => (Bool.false_ne_true h.symm).elim⟩; (conv => whnf))))
      refine callD0 (rightS m) F11 rfl rfl rfl (by kernel_rfl) rfl (runD Γ hm 400 (by kernel_rfl) ?_)
      rw [hr]
      ((conv => whnf); repeat (first | (refine ⟨fun (h : false = true) => (Bool.false_ne_true h).elim, fun _ => ?_⟩; (conv => whnf)) | (refine ⟨fun _ => ?_, fun (h : true = false) => (Bool.false_ne_true h.symm).elim⟩; (conv => whnf))))
      refine callD0 (refRightS m) F15 rfl rfl rfl (by kernel_rfl) rfl (runD Γ hm 400 (by kernel_rfl) ?_)
      rw [hr]
      ((conv => whnf); repeat (first | (refine ⟨fun (h : false = true) => (Bool.false_ne_true h).elim, fun _ => ?_⟩; (conv => whnf)) | (refine ⟨fun _ => ?_, fun (h : true = false) => (Bool.false_ne_true h.symm).elim⟩; (conv => whnf))))
      refine callD0 (betterS m n) F16 rfl rfl rfl (by kernel_rfl) rfl (runD Γ hm 400 (by kernel_rfl) ?_)
      ((conv => whnf); repeat (first | (refine ⟨fun (h : false = true) => (Bool.false_ne_true h).elim, fun _ => ?_⟩; (conv => whnf)) | (refine ⟨fun _ => ?_, fun (h : true = false) => (Bool.false_ne_true h.symm).elim⟩; (conv => whnf))))
      refine callD0 (refBetterS m n) F17 rfl rfl rfl (by kernel_rfl) rfl (runD Γ hm 400 (by kernel_rfl) ?_)
      ((conv => whnf); repeat (first | (refine ⟨fun (h : false = true) => (Bool.false_ne_true h).elim, fun _ => ?_⟩; (conv => whnf)) | (refine ⟨fun _ => ?_, fun (h : true = false) => (Bool.false_ne_true h.symm).elim⟩; (conv => whnf))))
      refine ⟨fun _ => ?_, fun h => absurd h (by simp)⟩
      ((conv => whnf); repeat (first | (refine ⟨fun (h : false = true) => (Bool.false_ne_true h).elim, fun _ => ?_⟩; (conv => whnf)) | (refine ⟨fun _ => ?_, fun (h : true = false) => (Bool.false_ne_true h.symm).elim⟩; (conv => whnf))))
      refine callD0 worksS F7 rfl rfl rfl (by kernel_rfl) rfl (runD Γ hm 400 (by kernel_rfl) ?_)
      ((conv => whnf); repeat (first | (refine ⟨fun (h : false = true) => (Bool.false_ne_true h).elim, fun _ => ?_⟩; (conv => whnf)) | (refine ⟨fun _ => ?_, fun (h : true = false) => (Bool.false_ne_true h.symm).elim⟩; (conv => whnf))))
      refine ⟨(by kernel_rfl), ?_⟩
      ((conv => whnf); repeat (first | (refine ⟨fun (h : false = true) => (Bool.false_ne_true h).elim, fun _ => ?_⟩; (conv => whnf)) | (refine ⟨fun _ => ?_, fun (h : true = false) => (Bool.false_ne_true h.symm).elim⟩; (conv => whnf))))
      exact done rfl (.cons .tmp .nil) [] [] (fun _ h => h) rfl rfl ⟨trivial, trivial, rfl, rfl⟩
    | true =>
      by_cases hsrc : 281474976710656 ≤ src
      · skip
        ((conv => whnf); repeat (first | (refine ⟨fun (h : false = true) => (Bool.false_ne_true h).elim, fun _ => ?_⟩; (conv => whnf)) | (refine ⟨fun _ => ?_, fun (h : true = false) => (Bool.false_ne_true h.symm).elim⟩; (conv => whnf))))
        refine call0 (put_bad src m hr hsrc) F10 rfl rfl rfl rfl rfl (run Γ hm 400 ?_)
        ((conv => whnf); repeat (first | (refine ⟨fun (h : false = true) => (Bool.false_ne_true h).elim, fun _ => ?_⟩; (conv => whnf)) | (refine ⟨fun _ => ?_, fun (h : true = false) => (Bool.false_ne_true h.symm).elim⟩; (conv => whnf))))
        refine call0 (refPutM_bad src m hm1 hr hsrc) F12 rfl rfl rfl rfl rfl (run Γ hm 400 ?_)
        ((conv => whnf); repeat (first | (refine ⟨fun (h : false = true) => (Bool.false_ne_true h).elim, fun _ => ?_⟩; (conv => whnf)) | (refine ⟨fun _ => ?_, fun (h : true = false) => (Bool.false_ne_true h.symm).elim⟩; (conv => whnf))))
        refine call0 (id_no pr src hI) F13 rfl rfl rfl rfl rfl (run Γ hm 400 ?_)
        ((conv => whnf); repeat (first | (refine ⟨fun (h : false = true) => (Bool.false_ne_true h).elim, fun _ => ?_⟩; (conv => whnf)) | (refine ⟨fun _ => ?_, fun (h : true = false) => (Bool.false_ne_true h.symm).elim⟩; (conv => whnf))))
        refine call0 (refId_no pr src hI) F14 rfl rfl rfl rfl rfl (run Γ hm 400 ?_)
        ((conv => whnf); repeat (first | (refine ⟨fun (h : false = true) => (Bool.false_ne_true h).elim, fun _ => ?_⟩; (conv => whnf)) | (refine ⟨fun _ => ?_, fun (h : true = false) => (Bool.false_ne_true h.symm).elim⟩; (conv => whnf))))
        refine stepD (good_stringT Γ.toTy rfl rfl rfl rfl rfl rfl rfl .nil) (by kernel_rfl) rfl (runD Γ hm 400 (by kernel_rfl) ?_)
        ((conv => whnf); repeat (first | (refine ⟨fun (h : false = true) => (Bool.false_ne_true h).elim, fun _ => ?_⟩; (conv => whnf)) | (refine ⟨fun _ => ?_, fun (h : true = false) => (Bool.false_ne_true h.symm).elim⟩; (conv => whnf))))
        refine stepD (good_stringT Γ.toTy rfl rfl rfl rfl rfl rfl rfl .nil) (by kernel_rfl) rfl (runD Γ hm 400 (by kernel_rfl) ?_)
        ((conv => whnf); repeat (first | (refine ⟨fun (h : false = true) => (Bool.false_ne_true h).elim, fun _ => ?_⟩; (conv => whnf)) | (refine ⟨fun _ => ?_, fun (h : true = false) => (Bool.false_ne_true h.symm).elim⟩; (conv => whnf))))
        refine callD0 (rightS m) F11 rfl rfl rfl (by kernel_rfl) rfl (runD Γ hm 400 (by kernel_rfl) ?_)
        rw [hr]
        ((conv => whnf); repeat (first | (refine ⟨fun (h : false = true) => (Bool.false_ne_true h).elim, fun _ => ?_⟩; (conv => whnf)) | (refine ⟨fun _ => ?_, fun (h : true = false) => (Bool.false_ne_true h.symm).elim⟩; (conv => whnf))))
        refine callD0 (refRightS m) F15 rfl rfl rfl (by kernel_rfl) rfl (runD Γ hm 400 (by kernel_rfl) ?_)
        rw [hr]
        ((conv => whnf); repeat (first | (refine ⟨fun (h : false = true) => (Bool.false_ne_true h).elim, fun _ => ?_⟩; (conv => whnf)) | (refine ⟨fun _ => ?_, fun (h : true = false) => (Bool.false_ne_true h.symm).elim⟩; (conv => whnf))))
        refine callD0 (betterS m n) F16 rfl rfl rfl (by kernel_rfl) rfl (runD Γ hm 400 (by kernel_rfl) ?_)
        ((conv => whnf); repeat (first | (refine ⟨fun (h : false = true) => (Bool.false_ne_true h).elim, fun _ => ?_⟩; (conv => whnf)) | (refine ⟨fun _ => ?_, fun (h : true = false) => (Bool.false_ne_true h.symm).elim⟩; (conv => whnf))))
        refine callD0 (refBetterS m n) F17 rfl rfl rfl (by kernel_rfl) rfl (runD Γ hm 400 (by kernel_rfl) ?_)
        ((conv => whnf); repeat (first | (refine ⟨fun (h : false = true) => (Bool.false_ne_true h).elim, fun _ => ?_⟩; (conv => whnf)) | (refine ⟨fun _ => ?_, fun (h : true = false) => (Bool.false_ne_true h.symm).elim⟩; (conv => whnf))))
        refine ⟨fun _ => ?_, fun h => absurd h (by simp)⟩
        ((conv => whnf); repeat (first | (refine ⟨fun (h : false = true) => (Bool.false_ne_true h).elim, fun _ => ?_⟩; (conv => whnf)) | (refine ⟨fun _ => ?_, fun (h : true = false) => (Bool.false_ne_true h.symm).elim⟩; (conv => whnf))))
        refine callD0 worksS F7 rfl rfl rfl (by kernel_rfl) rfl (runD Γ hm 400 (by kernel_rfl) ?_)
        ((conv => whnf); repeat (first | (refine ⟨fun (h : false = true) => (Bool.false_ne_true h).elim, fun _ => ?_⟩; (conv => whnf)) | (refine ⟨fun _ => ?_, fun (h : true = false) => (Bool.false_ne_true h.symm).elim⟩; (conv => whnf))))
        refine ⟨(by kernel_rfl), ?_⟩
        ((conv => whnf); repeat (first | (refine ⟨fun (h : false = true) => (Bool.false_ne_true h).elim, fun _ => ?_⟩; (conv => whnf)) | (refine ⟨fun _ => ?_, fun (h : true = false) => (Bool.false_ne_true h.symm).elim⟩; (conv => whnf))))
        exact done rfl (.cons .tmp .nil) [] [] (fun _ h => h) rfl rfl ⟨trivial, trivial, rfl, rfl⟩
      have hsrc : src < 281474976710656 := by omega
      ((conv => whnf); repeat (first | (refine ⟨fun (h : false = true) => (Bool.false_ne_true h).elim, fun _ => ?_⟩; (conv => whnf)) | (refine ⟨fun _ => ?_, fun (h : true = false) => (Bool.false_ne_true h.symm).elim⟩; (conv => whnf))))
      refine stepOp (good_call [(0, 20)] rfl F10 (put_ok src m hr hsrc) rfl trivial rfl ⟨.inr rfl, trivial⟩) rfl rfl (run Γ hm 400 ?_)
      ((conv => whnf); repeat (first | (refine ⟨fun (h : false = true) => (Bool.false_ne_true h).elim, fun _ => ?_⟩; (conv => whnf)) | (refine ⟨fun _ => ?_, fun (h : true = false) => (Bool.false_ne_true h.symm).elim⟩; (conv => whnf))))
      refine stepOp (good_call [(0, 26)] rfl F12 (refPutM_ok src m hm1 hr hsrc) rfl trivial rfl ⟨.inr rfl, trivial⟩) rfl rfl (run Γ hm 400 ?_)
      ((conv => whnf); repeat (first | (refine ⟨fun (h : false = true) => (Bool.false_ne_true h).elim, fun _ => ?_⟩; (conv => whnf)) | (refine ⟨fun _ => ?_, fun (h : true = false) => (Bool.false_ne_true h.symm).elim⟩; (conv => whnf))))
      refine call0 (id_no pr src hI) F13 rfl rfl rfl rfl rfl (run Γ hm 400 ?_)
      ((conv => whnf); repeat (first | (refine ⟨fun (h : false = true) => (Bool.false_ne_true h).elim, fun _ => ?_⟩; (conv => whnf)) | (refine ⟨fun _ => ?_, fun (h : true = false) => (Bool.false_ne_true h.symm).elim⟩; (conv => whnf))))
      refine call0 (refId_no pr src hI) F14 rfl rfl rfl rfl rfl (run Γ hm 400 ?_)
      ((conv => whnf); repeat (first | (refine ⟨fun (h : false = true) => (Bool.false_ne_true h).elim, fun _ => ?_⟩; (conv => whnf)) | (refine ⟨fun _ => ?_, fun (h : true = false) => (Bool.false_ne_true h.symm).elim⟩; (conv => whnf))))
      refine stepD (good_stringT Γ.toTy rfl rfl rfl rfl rfl rfl rfl (.row rfl)) (by kernel_rfl) rfl (runD Γ hm 400 (by kernel_rfl) ?_)
      ((conv => whnf); repeat (first | (refine ⟨fun (h : false = true) => (Bool.false_ne_true h).elim, fun _ => ?_⟩; (conv => whnf)) | (refine ⟨fun _ => ?_, fun (h : true = false) => (Bool.false_ne_true h.symm).elim⟩; (conv => whnf))))
      refine stepD (good_stringT Γ.toTy rfl rfl rfl rfl rfl rfl rfl (.row rfl)) (by kernel_rfl) rfl (runD Γ hm 400 (by kernel_rfl) ?_)
      ((conv => whnf); repeat (first | (refine ⟨fun (h : false = true) => (Bool.false_ne_true h).elim, fun _ => ?_⟩; (conv => whnf)) | (refine ⟨fun _ => ?_, fun (h : true = false) => (Bool.false_ne_true h.symm).elim⟩; (conv => whnf))))
      refine ⟨fun _ => ?_, fun h => (Bool.false_ne_true (h.symm.trans (bytes_self _))).elim⟩
      ((conv => whnf); repeat (first | (refine ⟨fun (h : false = true) => (Bool.false_ne_true h).elim, fun _ => ?_⟩; (conv => whnf)) | (refine ⟨fun _ => ?_, fun (h : true = false) => (Bool.false_ne_true h.symm).elim⟩; (conv => whnf))))
      refine callD0 (rightS m) F11 rfl rfl rfl (by kernel_rfl) rfl (runD Γ hm 400 (by kernel_rfl) ?_)
      rw [hr]
      ((conv => whnf); repeat (first | (refine ⟨fun (h : false = true) => (Bool.false_ne_true h).elim, fun _ => ?_⟩; (conv => whnf)) | (refine ⟨fun _ => ?_, fun (h : true = false) => (Bool.false_ne_true h.symm).elim⟩; (conv => whnf))))
      refine callD0 (refRightS m) F15 rfl rfl rfl (by kernel_rfl) rfl (runD Γ hm 400 (by kernel_rfl) ?_)
      rw [hr]
      ((conv => whnf); repeat (first | (refine ⟨fun (h : false = true) => (Bool.false_ne_true h).elim, fun _ => ?_⟩; (conv => whnf)) | (refine ⟨fun _ => ?_, fun (h : true = false) => (Bool.false_ne_true h.symm).elim⟩; (conv => whnf))))
      refine callD0 (betterS m n) F16 rfl rfl rfl (by kernel_rfl) rfl (runD Γ hm 400 (by kernel_rfl) ?_)
      ((conv => whnf); repeat (first | (refine ⟨fun (h : false = true) => (Bool.false_ne_true h).elim, fun _ => ?_⟩; (conv => whnf)) | (refine ⟨fun _ => ?_, fun (h : true = false) => (Bool.false_ne_true h.symm).elim⟩; (conv => whnf))))
      refine callD0 (refBetterS m n) F17 rfl rfl rfl (by kernel_rfl) rfl (runD Γ hm 400 (by kernel_rfl) ?_)
      ((conv => whnf); repeat (first | (refine ⟨fun (h : false = true) => (Bool.false_ne_true h).elim, fun _ => ?_⟩; (conv => whnf)) | (refine ⟨fun _ => ?_, fun (h : true = false) => (Bool.false_ne_true h.symm).elim⟩; (conv => whnf))))
      refine ⟨fun _ => ?_, fun h => absurd h (by simp)⟩
      ((conv => whnf); repeat (first | (refine ⟨fun (h : false = true) => (Bool.false_ne_true h).elim, fun _ => ?_⟩; (conv => whnf)) | (refine ⟨fun _ => ?_, fun (h : true = false) => (Bool.false_ne_true h.symm).elim⟩; (conv => whnf))))
      refine callD0 worksS F7 rfl rfl rfl (by kernel_rfl) rfl (runD Γ hm 400 (by kernel_rfl) ?_)
      ((conv => whnf); repeat (first | (refine ⟨fun (h : false = true) => (Bool.false_ne_true h).elim, fun _ => ?_⟩; (conv => whnf)) | (refine ⟨fun _ => ?_, fun (h : true = false) => (Bool.false_ne_true h.symm).elim⟩; (conv => whnf))))
      refine ⟨(by kernel_rfl), ?_⟩
      ((conv => whnf); repeat (first | (refine ⟨fun (h : false = true) => (Bool.false_ne_true h).elim, fun _ => ?_⟩; (conv => whnf)) | (refine ⟨fun _ => ?_, fun (h : true = false) => (Bool.false_ne_true h.symm).elim⟩; (conv => whnf))))
      exact done rfl (.cons .tmp .nil) [] [] (fun _ h => h) rfl rfl ⟨trivial, trivial, rfl, rfl⟩
  obtain ⟨p, rfl⟩ : ∃ p : Nat, pr = p := ⟨pr.toNat, by omega⟩
  have hI : p < 65536 ∧ src < 281474976710656 := by omega
  cases hr : rightB m with
  | false =>
    ((conv => whnf); repeat (first | (refine ⟨fun (h : false = true) => (Bool.false_ne_true h).elim, fun _ => ?_⟩; (conv => whnf)) | (refine ⟨fun _ => ?_, fun (h : true = false) => (Bool.false_ne_true h.symm).elim⟩; (conv => whnf))))
    refine call0 (put_no src m hr) F10 rfl rfl rfl rfl rfl (run Γ hm 400 ?_)
    ((conv => whnf); repeat (first | (refine ⟨fun (h : false = true) => (Bool.false_ne_true h).elim, fun _ => ?_⟩; (conv => whnf)) | (refine ⟨fun _ => ?_, fun (h : true = false) => (Bool.false_ne_true h.symm).elim⟩; (conv => whnf))))
    refine call0 (refPut_no src m hr) F12 rfl rfl rfl rfl rfl (run Γ hm 400 ?_)
    ((conv => whnf); repeat (first | (refine ⟨fun (h : false = true) => (Bool.false_ne_true h).elim, fun _ => ?_⟩; (conv => whnf)) | (refine ⟨fun _ => ?_, fun (h : true = false) => (Bool.false_ne_true h.symm).elim⟩; (conv => whnf))))
    refine call0 (id_ok p src hI.1 hI.2) F13 rfl rfl rfl rfl rfl (run Γ hm 400 ?_)
    ((conv => whnf); repeat (first | (refine ⟨fun (h : false = true) => (Bool.false_ne_true h).elim, fun _ => ?_⟩; (conv => whnf)) | (refine ⟨fun _ => ?_, fun (h : true = false) => (Bool.false_ne_true h.symm).elim⟩; (conv => whnf))))
    refine call0 (refId_ok p src hI.1 hI.2) F14 rfl rfl rfl rfl rfl (run Γ hm 400 ?_)
    ((conv => whnf); repeat (first | (refine ⟨fun (h : false = true) => (Bool.false_ne_true h).elim, fun _ => ?_⟩; (conv => whnf)) | (refine ⟨fun _ => ?_, fun (h : true = false) => (Bool.false_ne_true h.symm).elim⟩; (conv => whnf))))
    refine stepD (good_stringT Γ.toTy rfl rfl rfl rfl rfl rfl rfl .nil) (by kernel_rfl) rfl (runD Γ hm 400 (by kernel_rfl) ?_)
    ((conv => whnf); repeat (first | (refine ⟨fun (h : false = true) => (Bool.false_ne_true h).elim, fun _ => ?_⟩; (conv => whnf)) | (refine ⟨fun _ => ?_, fun (h : true = false) => (Bool.false_ne_true h.symm).elim⟩; (conv => whnf))))
    refine stepD (good_stringT Γ.toTy rfl rfl rfl rfl rfl rfl rfl .nil) (by kernel_rfl) rfl (runD Γ hm 400 (by kernel_rfl) ?_)
    ((conv => whnf); repeat (first | (refine ⟨fun (h : false = true) => (Bool.false_ne_true h).elim, fun _ => ?_⟩; (conv => whnf)) | (refine ⟨fun _ => ?_, fun (h : true = false) => (Bool.false_ne_true h.symm).elim⟩; (conv => whnf))))
    refine callD0 (rightS m) F11 rfl rfl rfl (by kernel_rfl) rfl (runD Γ hm 400 (by kernel_rfl) ?_)
    rw [hr]
    ((conv => whnf); repeat (first | (refine ⟨fun (h : false = true) => (Bool.false_ne_true h).elim, fun _ => ?_⟩; (conv => whnf)) | (refine ⟨fun _ => ?_, fun (h : true = false) => (Bool.false_ne_true h.symm).elim⟩; (conv => whnf))))
    refine callD0 (refRightS m) F15 rfl rfl rfl (by kernel_rfl) rfl (runD Γ hm 400 (by kernel_rfl) ?_)
    rw [hr]
    ((conv => whnf); repeat (first | (refine ⟨fun (h : false = true) => (Bool.false_ne_true h).elim, fun _ => ?_⟩; (conv => whnf)) | (refine ⟨fun _ => ?_, fun (h : true = false) => (Bool.false_ne_true h.symm).elim⟩; (conv => whnf))))
    refine ⟨fun _ => ?_, fun h => absurd h (by simp)⟩
    ((conv => whnf); repeat (first | (refine ⟨fun (h : false = true) => (Bool.false_ne_true h).elim, fun _ => ?_⟩; (conv => whnf)) | (refine ⟨fun _ => ?_, fun (h : true = false) => (Bool.false_ne_true h.symm).elim⟩; (conv => whnf))))
    refine callD0 (betterS m n) F16 rfl rfl rfl (by kernel_rfl) rfl (runD Γ hm 400 (by kernel_rfl) ?_)
    ((conv => whnf); repeat (first | (refine ⟨fun (h : false = true) => (Bool.false_ne_true h).elim, fun _ => ?_⟩; (conv => whnf)) | (refine ⟨fun _ => ?_, fun (h : true = false) => (Bool.false_ne_true h.symm).elim⟩; (conv => whnf))))
    refine callD0 (refBetterS m n) F17 rfl rfl rfl (by kernel_rfl) rfl (runD Γ hm 400 (by kernel_rfl) ?_)
    ((conv => whnf); repeat (first | (refine ⟨fun (h : false = true) => (Bool.false_ne_true h).elim, fun _ => ?_⟩; (conv => whnf)) | (refine ⟨fun _ => ?_, fun (h : true = false) => (Bool.false_ne_true h.symm).elim⟩; (conv => whnf))))
    refine ⟨fun _ => ?_, fun h => absurd h (by simp)⟩
    ((conv => whnf); repeat (first | (refine ⟨fun (h : false = true) => (Bool.false_ne_true h).elim, fun _ => ?_⟩; (conv => whnf)) | (refine ⟨fun _ => ?_, fun (h : true = false) => (Bool.false_ne_true h.symm).elim⟩; (conv => whnf))))
    refine callD0 worksS F7 rfl rfl rfl (by kernel_rfl) rfl (runD Γ hm 400 (by kernel_rfl) ?_)
    ((conv => whnf); repeat (first | (refine ⟨fun (h : false = true) => (Bool.false_ne_true h).elim, fun _ => ?_⟩; (conv => whnf)) | (refine ⟨fun _ => ?_, fun (h : true = false) => (Bool.false_ne_true h.symm).elim⟩; (conv => whnf))))
    refine ⟨(by kernel_rfl), ?_⟩
    ((conv => whnf); repeat (first | (refine ⟨fun (h : false = true) => (Bool.false_ne_true h).elim, fun _ => ?_⟩; (conv => whnf)) | (refine ⟨fun _ => ?_, fun (h : true = false) => (Bool.false_ne_true h.symm).elim⟩; (conv => whnf))))
    exact done rfl (.cons .tmp .nil) [] [] (fun _ h => h) rfl rfl ⟨trivial, trivial, rfl, rfl⟩
  | true =>
    have hsrc := hI.2
    ((conv => whnf); repeat (first | (refine ⟨fun (h : false = true) => (Bool.false_ne_true h).elim, fun _ => ?_⟩; (conv => whnf)) | (refine ⟨fun _ => ?_, fun (h : true = false) => (Bool.false_ne_true h.symm).elim⟩; (conv => whnf))))
    refine stepOp (good_call [(0, 20)] rfl F10 (put_ok src m hr hsrc) rfl trivial rfl ⟨.inr rfl, trivial⟩) rfl rfl (run Γ hm 400 ?_)
    ((conv => whnf); repeat (first | (refine ⟨fun (h : false = true) => (Bool.false_ne_true h).elim, fun _ => ?_⟩; (conv => whnf)) | (refine ⟨fun _ => ?_, fun (h : true = false) => (Bool.false_ne_true h.symm).elim⟩; (conv => whnf))))
    refine stepOp (good_call [(0, 26)] rfl F12 (refPutM_ok src m hm1 hr hsrc) rfl trivial rfl ⟨.inr rfl, trivial⟩) rfl rfl (run Γ hm 400 ?_)
    ((conv => whnf); repeat (first | (refine ⟨fun (h : false = true) => (Bool.false_ne_true h).elim, fun _ => ?_⟩; (conv => whnf)) | (refine ⟨fun _ => ?_, fun (h : true = false) => (Bool.false_ne_true h.symm).elim⟩; (conv => whnf))))
    refine call0 (id_ok p src hI.1 hI.2) F13 rfl rfl rfl rfl rfl (run Γ hm 400 ?_)
    ((conv => whnf); repeat (first | (refine ⟨fun (h : false = true) => (Bool.false_ne_true h).elim, fun _ => ?_⟩; (conv => whnf)) | (refine ⟨fun _ => ?_, fun (h : true = false) => (Bool.false_ne_true h.symm).elim⟩; (conv => whnf))))
    refine call0 (refId_ok p src hI.1 hI.2) F14 rfl rfl rfl rfl rfl (run Γ hm 400 ?_)
    ((conv => whnf); repeat (first | (refine ⟨fun (h : false = true) => (Bool.false_ne_true h).elim, fun _ => ?_⟩; (conv => whnf)) | (refine ⟨fun _ => ?_, fun (h : true = false) => (Bool.false_ne_true h.symm).elim⟩; (conv => whnf))))
    refine stepD (good_stringT Γ.toTy rfl rfl rfl rfl rfl rfl rfl (.row rfl)) (by kernel_rfl) rfl (runD Γ hm 400 (by kernel_rfl) ?_)
    ((conv => whnf); repeat (first | (refine ⟨fun (h : false = true) => (Bool.false_ne_true h).elim, fun _ => ?_⟩; (conv => whnf)) | (refine ⟨fun _ => ?_, fun (h : true = false) => (Bool.false_ne_true h.symm).elim⟩; (conv => whnf))))
    refine stepD (good_stringT Γ.toTy rfl rfl rfl rfl rfl rfl rfl (.row rfl)) (by kernel_rfl) rfl (runD Γ hm 400 (by kernel_rfl) ?_)
    ((conv => whnf); repeat (first | (refine ⟨fun (h : false = true) => (Bool.false_ne_true h).elim, fun _ => ?_⟩; (conv => whnf)) | (refine ⟨fun _ => ?_, fun (h : true = false) => (Bool.false_ne_true h.symm).elim⟩; (conv => whnf))))
    refine ⟨fun _ => ?_, fun h => (Bool.false_ne_true (h.symm.trans (bytes_self _))).elim⟩
    ((conv => whnf); repeat (first | (refine ⟨fun (h : false = true) => (Bool.false_ne_true h).elim, fun _ => ?_⟩; (conv => whnf)) | (refine ⟨fun _ => ?_, fun (h : true = false) => (Bool.false_ne_true h.symm).elim⟩; (conv => whnf))))
    refine callD0 (rightS m) F11 rfl rfl rfl (by kernel_rfl) rfl (runD Γ hm 400 (by kernel_rfl) ?_)
    rw [hr]
    ((conv => whnf); repeat (first | (refine ⟨fun (h : false = true) => (Bool.false_ne_true h).elim, fun _ => ?_⟩; (conv => whnf)) | (refine ⟨fun _ => ?_, fun (h : true = false) => (Bool.false_ne_true h.symm).elim⟩; (conv => whnf))))
    refine callD0 (refRightS m) F15 rfl rfl rfl (by kernel_rfl) rfl (runD Γ hm 400 (by kernel_rfl) ?_)
    rw [hr]
    ((conv => whnf); repeat (first | (refine ⟨fun (h : false = true) => (Bool.false_ne_true h).elim, fun _ => ?_⟩; (conv => whnf)) | (refine ⟨fun _ => ?_, fun (h : true = false) => (Bool.false_ne_true h.symm).elim⟩; (conv => whnf))))
    refine ⟨fun _ => ?_, fun h => absurd h (by simp)⟩
    ((conv => whnf); repeat (first | (refine ⟨fun (h : false = true) => (Bool.false_ne_true h).elim, fun _ => ?_⟩; (conv => whnf)) | (refine ⟨fun _ => ?_, fun (h : true = false) => (Bool.false_ne_true h.symm).elim⟩; (conv => whnf))))
    refine callD0 (betterS m n) F16 rfl rfl rfl (by kernel_rfl) rfl (runD Γ hm 400 (by kernel_rfl) ?_)
    ((conv => whnf); repeat (first | (refine ⟨fun (h : false = true) => (Bool.false_ne_true h).elim, fun _ => ?_⟩; (conv => whnf)) | (refine ⟨fun _ => ?_, fun (h : true = false) => (Bool.false_ne_true h.symm).elim⟩; (conv => whnf))))
    refine callD0 (refBetterS m n) F17 rfl rfl rfl (by kernel_rfl) rfl (runD Γ hm 400 (by kernel_rfl) ?_)
    ((conv => whnf); repeat (first | (refine ⟨fun (h : false = true) => (Bool.false_ne_true h).elim, fun _ => ?_⟩; (conv => whnf)) | (refine ⟨fun _ => ?_, fun (h : true = false) => (Bool.false_ne_true h.symm).elim⟩; (conv => whnf))))
    refine ⟨fun _ => ?_, fun h => absurd h (by simp)⟩
    ((conv => whnf); repeat (first | (refine ⟨fun (h : false = true) => (Bool.false_ne_true h).elim, fun _ => ?_⟩; (conv => whnf)) | (refine ⟨fun _ => ?_, fun (h : true = false) => (Bool.false_ne_true h.symm).elim⟩; (conv => whnf))))
    refine callD0 worksS F7 rfl rfl rfl (by kernel_rfl) rfl (runD Γ hm 400 (by kernel_rfl) ?_)
    ((conv => whnf); repeat (first | (refine ⟨fun (h : false = true) => (Bool.false_ne_true h).elim, fun _ => ?_⟩; (conv => whnf)) | (refine ⟨fun _ => ?_, fun (h : true = false) => (Bool.false_ne_true h.symm).elim⟩; (conv => whnf))))
    refine ⟨(by kernel_rfl), ?_⟩
    ((conv => whnf); repeat (first | (refine ⟨fun (h : false = true) => (Bool.false_ne_true h).elim, fun _ => ?_⟩; (conv => whnf)) | (refine ⟨fun _ => ?_, fun (h : true = false) => (Bool.false_ne_true h.symm).elim⟩; (conv => whnf))))
    exact done rfl (.cons .tmp .nil) [] [] (fun _ h => h) rfl rfl ⟨trivial, trivial, rfl, rfl⟩
end Go.Sy.Ytjfglngcfghfnaa
