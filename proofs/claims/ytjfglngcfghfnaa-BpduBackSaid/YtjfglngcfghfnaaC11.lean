/-
  Contracts, 11: the laws' own code.
-/
import Derived.Test.YtjfglngcfghfnaaC10
namespace Go.Sy.Ytjfglngcfghfnaa
open Go.Proofs

attribute [local irreducible] Go.Sy.G Go.Sy.DR
set_option maxRecDepth 8000

theorem take_example : takeM (outL 1 chMsg) = (1, chMsg, 0) := by decide +kernel

theorem worksS : Sy.Spec Try.prog 7 [] [] (boolSV true) [] := contract Γ hm 100 F7 Try.ntmps7 rfl fun F hF => by
  ((conv => whnf); repeat (first | (refine ⟨fun (h : false = true) => (Bool.false_ne_true h).elim, fun _ => ?_⟩; (conv => whnf)) | (refine ⟨fun _ => ?_, fun (h : true = false) => (Bool.false_ne_true h.symm).elim⟩; (conv => whnf))))
  refine stepOp (good_call [(0, 8)] rfl F10 (put_ok 1 chMsg rfl (by decide)) rfl trivial rfl ⟨.inr rfl, trivial⟩) rfl rfl (run Γ hm 400 ?_)
  ((conv => whnf); repeat (first | (refine ⟨fun (h : false = true) => (Bool.false_ne_true h).elim, fun _ => ?_⟩; (conv => whnf)) | (refine ⟨fun _ => ?_, fun (h : true = false) => (Bool.false_ne_true h.symm).elim⟩; (conv => whnf))))
  refine callK [8] (takeS (outL 1 chMsg)) F8 rfl (.cons (.row rfl rfl) .nil) rfl rfl rfl (run Γ hm 400 ?_)
  rw [take_example]
  ((conv => whnf); repeat (first | (refine ⟨fun (h : false = true) => (Bool.false_ne_true h).elim, fun _ => ?_⟩; (conv => whnf)) | (refine ⟨fun _ => ?_, fun (h : true = false) => (Bool.false_ne_true h.symm).elim⟩; (conv => whnf))))
  refine stepOp (good_stringT Γ.toTy rfl rfl rfl rfl rfl rfl rfl (.row rfl)) rfl rfl (run Γ hm 400 ?_)
  ((conv => whnf); repeat (first | (refine ⟨fun (h : false = true) => (Bool.false_ne_true h).elim, fun _ => ?_⟩; (conv => whnf)) | (refine ⟨fun _ => ?_, fun (h : true = false) => (Bool.false_ne_true h.symm).elim⟩; (conv => whnf))))
  refine call0 (rightS ⟨false, false, 0, 0, -1, 0, 0, 0, 0, 0⟩) F11 rfl rfl rfl rfl rfl (run Γ hm 400 ?_)
  rw [show rightB ⟨false, false, 0, 0, -1, 0, 0, 0, 0, 0⟩ = false from rfl]
  ((conv => whnf); repeat (first | (refine ⟨fun (h : false = true) => (Bool.false_ne_true h).elim, fun _ => ?_⟩; (conv => whnf)) | (refine ⟨fun _ => ?_, fun (h : true = false) => (Bool.false_ne_true h.symm).elim⟩; (conv => whnf))))
  exact done rfl (.cons .tmp .nil) [] [] (fun _ h => h) rfl rfl ⟨trivial, trivial, rfl, rfl⟩

theorem takesS (l : List UInt8) : Sy.Spec Try.prog 3 [.sl 1 byteSV l] [] (boolSV true) [] := contract Γ hm 100 F3 Try.ntmps3 rfl fun F hF => by
  ((conv => whnf); repeat (first | (refine ⟨fun (h : false = true) => (Bool.false_ne_true h).elim, fun _ => ?_⟩; (conv => whnf)) | (refine ⟨fun _ => ?_, fun (h : true = false) => (Bool.false_ne_true h.symm).elim⟩; (conv => whnf))))
  refine ⟨fun _ => ?_, fun _ => ?_⟩
  · ((conv => whnf); repeat (first | (refine ⟨fun (h : false = true) => (Bool.false_ne_true h).elim, fun _ => ?_⟩; (conv => whnf)) | (refine ⟨fun _ => ?_, fun (h : true = false) => (Bool.false_ne_true h.symm).elim⟩; (conv => whnf))))
    refine call0 worksS F7 rfl rfl rfl rfl rfl (run Γ hm 400 ?_)
    ((conv => whnf); repeat (first | (refine ⟨fun (h : false = true) => (Bool.false_ne_true h).elim, fun _ => ?_⟩; (conv => whnf)) | (refine ⟨fun _ => ?_, fun (h : true = false) => (Bool.false_ne_true h.symm).elim⟩; (conv => whnf))))
    exact done0 rfl (.cons .tmp .nil) rfl rfl
  · ((conv => whnf); repeat (first | (refine ⟨fun (h : false = true) => (Bool.false_ne_true h).elim, fun _ => ?_⟩; (conv => whnf)) | (refine ⟨fun _ => ?_, fun (h : true = false) => (Bool.false_ne_true h.symm).elim⟩; (conv => whnf))))
    refine call0 (takeS l) F8 rfl rfl rfl rfl rfl (run Γ hm 400 ?_)
    ((conv => whnf); repeat (first | (refine ⟨fun (h : false = true) => (Bool.false_ne_true h).elim, fun _ => ?_⟩; (conv => whnf)) | (refine ⟨fun _ => ?_, fun (h : true = false) => (Bool.false_ne_true h.symm).elim⟩; (conv => whnf))))
    refine call0 (refTakeS l) F9 rfl rfl rfl rfl rfl (run Γ hm 400 ?_)
    generalize takeM l = p
    obtain ⟨s, ⟨b1, b2, n1, n2, i1, i2, i3, i4, i5, i6⟩, e⟩ := p
    ((conv => whnf); repeat (first | (refine ⟨fun (h : false = true) => (Bool.false_ne_true h).elim, fun _ => ?_⟩; (conv => whnf)) | (refine ⟨fun _ => ?_, fun (h : true = false) => (Bool.false_ne_true h.symm).elim⟩; (conv => whnf))))
    refine ⟨fun _ => ?_, fun h => absurd h (by simp)⟩
    ((conv => whnf); repeat (first | (refine ⟨fun (h : false = true) => (Bool.false_ne_true h).elim, fun _ => ?_⟩; (conv => whnf)) | (refine ⟨fun _ => ?_, fun (h : true = false) => (Bool.false_ne_true h.symm).elim⟩; (conv => whnf))))
    refine ⟨fun _ => ?_, fun h => absurd h (by simp)⟩
    ((conv => whnf); repeat (first | (refine ⟨fun (h : false = true) => (Bool.false_ne_true h).elim, fun _ => ?_⟩; (conv => whnf)) | (refine ⟨fun _ => ?_, fun (h : true = false) => (Bool.false_ne_true h.symm).elim⟩; (conv => whnf))))
    refine ⟨fun _ => ?_, fun h => absurd h (by simp)⟩
    ((conv => whnf); repeat (first | (refine ⟨fun (h : false = true) => (Bool.false_ne_true h).elim, fun _ => ?_⟩; (conv => whnf)) | (refine ⟨fun _ => ?_, fun (h : true = false) => (Bool.false_ne_true h.symm).elim⟩; (conv => whnf))))
    refine call0 worksS F7 rfl rfl rfl rfl rfl (run Γ hm 400 ?_)
    ((conv => whnf); repeat (first | (refine ⟨fun (h : false = true) => (Bool.false_ne_true h).elim, fun _ => ?_⟩; (conv => whnf)) | (refine ⟨fun _ => ?_, fun (h : true = false) => (Bool.false_ne_true h.symm).elim⟩; (conv => whnf))))
    exact done rfl (.cons .tmp .nil) [] [] (fun _ h => h) rfl rfl ⟨trivial, trivial, rfl, rfl⟩
end Go.Sy.Ytjfglngcfghfnaa
