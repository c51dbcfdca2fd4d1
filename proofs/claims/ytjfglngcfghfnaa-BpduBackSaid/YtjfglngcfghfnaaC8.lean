/-
  Contracts, 8: messages put, whole.
-/
import Derived.Test.YtjfglngcfghfnaaC7
namespace Go.Sy.Ytjfglngcfghfnaa
open Go.Proofs

attribute [local irreducible] Go.Sy.G Go.Sy.DR

def toN : Nat := 1652522221568

theorem flag_lit (b : Bool) : [(0 : UInt8), flagB b].map byteSV = [SV.val (.int .u8 0), SV.val (.int .u8 (flagB b).toNat)] := rfl

theorem put_no (src : Nat) (m : Msg) (hr : rightB m = false) : Sy.Spec Try.prog 10 [u64SV src, msgSV m] [] (.tup [.val (.slice none 0 0), intSV 2]) [] := contract Γ hm 100 F10 Try.ntmps10 rfl fun F hF => by
  ((conv => whnf); repeat (first | (refine ⟨fun (h : false = true) => (Bool.false_ne_true h).elim, fun _ => ?_⟩; (conv => whnf)) | (refine ⟨fun _ => ?_, fun (h : true = false) => (Bool.false_ne_true h.symm).elim⟩; (conv => whnf))))
  refine call0 (rightS m) F11 rfl rfl rfl rfl rfl (run Γ hm 400 ?_)
  rw [hr]
  ((conv => whnf); repeat (first | (refine ⟨fun (h : false = true) => (Bool.false_ne_true h).elim, fun _ => ?_⟩; (conv => whnf)) | (refine ⟨fun _ => ?_, fun (h : true = false) => (Bool.false_ne_true h.symm).elim⟩; (conv => whnf))))
  exact done0 rfl (.cons .tmp (.cons .tmp .nil)) rfl rfl

theorem refPut_no (src : Nat) (m : Msg) (hr : rightB m = false) : Sy.Spec Try.prog 12 [u64SV src, msgSV m] [] (.tup [.val (.slice none 0 0), intSV 2]) [] := contract Γ hm 100 F12 Try.ntmps12 rfl fun F hF => by
  ((conv => whnf); repeat (first | (refine ⟨fun (h : false = true) => (Bool.false_ne_true h).elim, fun _ => ?_⟩; (conv => whnf)) | (refine ⟨fun _ => ?_, fun (h : true = false) => (Bool.false_ne_true h.symm).elim⟩; (conv => whnf))))
  refine call0 (refRightS m) F15 rfl rfl rfl rfl rfl (run Γ hm 400 ?_)
  rw [hr]
  ((conv => whnf); repeat (first | (refine ⟨fun (h : false = true) => (Bool.false_ne_true h).elim, fun _ => ?_⟩; (conv => whnf)) | (refine ⟨fun _ => ?_, fun (h : true = false) => (Bool.false_ne_true h.symm).elim⟩; (conv => whnf))))
  exact done0 rfl (.cons .tmp (.cons .tmp .nil)) rfl rfl

theorem ch_or (m : Msg) (hr : rightB m = true) : m.ch = true ∨ m.Small := by
  cases h : m.ch with
  | true => exact .inl rfl
  | false => exact .inr (rightB_smalls m h hr)

def outL (src : Nat) (m : Msg) : List UInt8 := frame toN src (bodyL m).length (bodyL m)

theorem put_bad (src : Nat) (m : Msg) (hr : rightB m = true) (hs : 281474976710656 ≤ src) : Sy.Spec Try.prog 10 [u64SV src, msgSV m] [] (.tup [.val (.slice none 0 0), intSV 11]) [] := contract Γ hm 100 F10 Try.ntmps10 rfl fun F hF => by
  ((conv => whnf); repeat (first | (refine ⟨fun (h : false = true) => (Bool.false_ne_true h).elim, fun _ => ?_⟩; (conv => whnf)) | (refine ⟨fun _ => ?_, fun (h : true = false) => (Bool.false_ne_true h.symm).elim⟩; (conv => whnf))))
  refine call0 (rightS m) F11 rfl rfl rfl rfl rfl (run Γ hm 400 ?_)
  rw [hr]
  ((conv => whnf); repeat (first | (refine ⟨fun (h : false = true) => (Bool.false_ne_true h).elim, fun _ => ?_⟩; (conv => whnf)) | (refine ⟨fun _ => ?_, fun (h : true = false) => (Bool.false_ne_true h.symm).elim⟩; (conv => whnf))))
  refine stepOp (good_convert_mark Γ.toTy rfl rfl rfl rfl rfl rfl rfl) rfl rfl (run Γ hm 400 ?_)
  ((conv => whnf); repeat (first | (refine ⟨fun (h : false = true) => (Bool.false_ne_true h).elim, fun _ => ?_⟩; (conv => whnf)) | (refine ⟨fun _ => ?_, fun (h : true = false) => (Bool.false_ne_true h.symm).elim⟩; (conv => whnf))))
  refine ⟨fun h1 => ?_, fun h1 => ?_⟩
  · have hch := h1
    ((conv => whnf); repeat (first | (refine ⟨fun (h : false = true) => (Bool.false_ne_true h).elim, fun _ => ?_⟩; (conv => whnf)) | (refine ⟨fun _ => ?_, fun (h : true = false) => (Bool.false_ne_true h.symm).elim⟩; (conv => whnf))))
    refine stepOp (good_appendT (e := byteSV) Γ.toTy 17 rfl rfl rfl rfl rfl (.lit (l := headL) rfl rfl) (.lit (l := [(128 : UInt8)]) rfl rfl) (by decide) (by decide) (by decide)) rfl rfl (run Γ hm 400 ?_)
    ((conv => whnf); repeat (first | (refine ⟨fun (h : false = true) => (Bool.false_ne_true h).elim, fun _ => ?_⟩; (conv => whnf)) | (refine ⟨fun _ => ?_, fun (h : true = false) => (Bool.false_ne_true h.symm).elim⟩; (conv => whnf))))
    have hb : headL ++ [128] = bodyL m := by rw [bodyL, if_pos h1]
    rw [hb]
    have hl : (bodyL m).length = 7 := by rw [bodyL_length, hch]; rfl
    refine stepOp (good_callV [] [17] rfl F24 (etherPut_bad toN src (bodyL m).length (bodyL m) (by decide) hs) (.cons (.agg (.cons (.refl _) (.cons (.refl _) (.cons (.refl _) (.cons (.row rfl rfl) .nil))))) .nil) trivial rfl trivial rfl) rfl rfl (run Γ hm 400 ?_)
    ((conv => whnf); repeat (first | (refine ⟨fun (h : false = true) => (Bool.false_ne_true h).elim, fun _ => ?_⟩; (conv => whnf)) | (refine ⟨fun _ => ?_, fun (h : true = false) => (Bool.false_ne_true h.symm).elim⟩; (conv => whnf))))
    exact done0 rfl (.cons .tmp (.cons .tmp .nil)) rfl rfl
  · have hch := h1
    obtain ⟨hc, ha⟩ := (ch_or m hr).resolve_left (by rw [h1]; decide)
    ((conv => whnf); repeat (first | (refine ⟨fun (h : false = true) => (Bool.false_ne_true h).elim, fun _ => ?_⟩; (conv => whnf)) | (refine ⟨fun _ => ?_, fun (h : true = false) => (Bool.false_ne_true h.symm).elim⟩; (conv => whnf))))
    refine ⟨fun h2 => ?_, fun h2 => ?_⟩
    · ((conv => whnf); repeat (first | (refine ⟨fun (h : false = true) => (Bool.false_ne_true h).elim, fun _ => ?_⟩; (conv => whnf)) | (refine ⟨fun _ => ?_, fun (h : true = false) => (Bool.false_ne_true h.symm).elim⟩; (conv => whnf))))
      refine stepOp (good_appendT (e := byteSV) Γ.toTy 23 rfl rfl rfl rfl rfl (.lit (l := headL) rfl rfl) (.lit (l := [(0 : UInt8), 128]) rfl rfl) (by decide) (by decide) (by decide)) rfl rfl (run Γ hm 400 ?_)
      ((conv => whnf); repeat (first | (refine ⟨fun (h : false = true) => (Bool.false_ne_true h).elim, fun _ => ?_⟩; (conv => whnf)) | (refine ⟨fun _ => ?_, fun (h : true = false) => (Bool.false_ne_true h.symm).elim⟩; (conv => whnf))))
      refine stepOp (good_call [(0, 23), (1, 27)] rfl F22 (numberS _ (by simp [be_length, headL]) m.root 8 (by decide)) rfl ⟨rfl, trivial⟩ rfl ⟨.inl rfl, .inr rfl, trivial⟩) rfl rfl (run Γ hm 400 ?_)
      ((conv => whnf); repeat (first | (refine ⟨fun (h : false = true) => (Bool.false_ne_true h).elim, fun _ => ?_⟩; (conv => whnf)) | (refine ⟨fun _ => ?_, fun (h : true = false) => (Bool.false_ne_true h.symm).elim⟩; (conv => whnf))))
      refine stepOp (good_call [(0, 27), (1, 32)] rfl F22 (numberS _ (by simp [be_length, headL]) m.cost.toNat 4 (by decide)) (congrArg (fun z => [SV.osl 27, .val (.int .u64 z), intSV 4]) (u64_small m.cost hc.1 (by omega))) ⟨rfl, trivial⟩ rfl ⟨.inl rfl, .inr rfl, trivial⟩) rfl rfl (run Γ hm 400 ?_)
      ((conv => whnf); repeat (first | (refine ⟨fun (h : false = true) => (Bool.false_ne_true h).elim, fun _ => ?_⟩; (conv => whnf)) | (refine ⟨fun _ => ?_, fun (h : true = false) => (Bool.false_ne_true h.symm).elim⟩; (conv => whnf))))
      refine stepOp (good_call [(0, 32), (1, 36)] rfl F22 (numberS _ (by simp [be_length, headL]) m.bridge 8 (by decide)) rfl ⟨rfl, trivial⟩ rfl ⟨.inl rfl, .inr rfl, trivial⟩) rfl rfl (run Γ hm 400 ?_)
      ((conv => whnf); repeat (first | (refine ⟨fun (h : false = true) => (Bool.false_ne_true h).elim, fun _ => ?_⟩; (conv => whnf)) | (refine ⟨fun _ => ?_, fun (h : true = false) => (Bool.false_ne_true h.symm).elim⟩; (conv => whnf))))
      refine stepOp (good_callV [(0, 36), (1, 49)] [48] rfl F23 (pairsS _ (by simp [be_length, headL]) (ports m) (by simp [ports]) ha) (.cons (.refl _) (.cons (.lit rfl rfl rfl) .nil)) ⟨rfl, trivial⟩ rfl ⟨.inl rfl, .inr rfl, trivial⟩ rfl) rfl rfl (run Γ hm 400 ?_)
      ((conv => whnf); repeat (first | (refine ⟨fun (h : false = true) => (Bool.false_ne_true h).elim, fun _ => ?_⟩; (conv => whnf)) | (refine ⟨fun _ => ?_, fun (h : true = false) => (Bool.false_ne_true h.symm).elim⟩; (conv => whnf))))
      have hb : (((((headL ++ [0, 128]) ++ be 8 m.root) ++ be 4 m.cost.toNat) ++ be 8 m.bridge) ++ pairsL (ports m)) = bodyL m := by simp [bodyL, hch, flagB, h2, restL, ports]
      rw [hb]
      have hl : (bodyL m).length = 38 := by rw [bodyL_length, hch]; rfl
      refine stepOp (good_callV [] [49] rfl F24 (etherPut_bad toN src (bodyL m).length (bodyL m) (by decide) hs) (.cons (.agg (.cons (.refl _) (.cons (.refl _) (.cons (.refl _) (.cons (.row rfl rfl) .nil))))) .nil) trivial rfl trivial rfl) rfl rfl (run Γ hm 400 ?_)
      ((conv => whnf); repeat (first | (refine ⟨fun (h : false = true) => (Bool.false_ne_true h).elim, fun _ => ?_⟩; (conv => whnf)) | (refine ⟨fun _ => ?_, fun (h : true = false) => (Bool.false_ne_true h.symm).elim⟩; (conv => whnf))))
      exact done0 rfl (.cons .tmp (.cons .tmp .nil)) rfl rfl
    · ((conv => whnf); repeat (first | (refine ⟨fun (h : false = true) => (Bool.false_ne_true h).elim, fun _ => ?_⟩; (conv => whnf)) | (refine ⟨fun _ => ?_, fun (h : true = false) => (Bool.false_ne_true h.symm).elim⟩; (conv => whnf))))
      refine stepOp (good_appendT (e := byteSV) Γ.toTy 23 rfl rfl rfl rfl rfl (.lit (l := headL) rfl rfl) (.lit (l := [(0 : UInt8), 0]) rfl rfl) (by decide) (by decide) (by decide)) rfl rfl (run Γ hm 400 ?_)
      ((conv => whnf); repeat (first | (refine ⟨fun (h : false = true) => (Bool.false_ne_true h).elim, fun _ => ?_⟩; (conv => whnf)) | (refine ⟨fun _ => ?_, fun (h : true = false) => (Bool.false_ne_true h.symm).elim⟩; (conv => whnf))))
      refine stepOp (good_call [(0, 23), (1, 27)] rfl F22 (numberS _ (by simp [be_length, headL]) m.root 8 (by decide)) rfl ⟨rfl, trivial⟩ rfl ⟨.inl rfl, .inr rfl, trivial⟩) rfl rfl (run Γ hm 400 ?_)
      ((conv => whnf); repeat (first | (refine ⟨fun (h : false = true) => (Bool.false_ne_true h).elim, fun _ => ?_⟩; (conv => whnf)) | (refine ⟨fun _ => ?_, fun (h : true = false) => (Bool.false_ne_true h.symm).elim⟩; (conv => whnf))))
      refine stepOp (good_call [(0, 27), (1, 32)] rfl F22 (numberS _ (by simp [be_length, headL]) m.cost.toNat 4 (by decide)) (congrArg (fun z => [SV.osl 27, .val (.int .u64 z), intSV 4]) (u64_small m.cost hc.1 (by omega))) ⟨rfl, trivial⟩ rfl ⟨.inl rfl, .inr rfl, trivial⟩) rfl rfl (run Γ hm 400 ?_)
      ((conv => whnf); repeat (first | (refine ⟨fun (h : false = true) => (Bool.false_ne_true h).elim, fun _ => ?_⟩; (conv => whnf)) | (refine ⟨fun _ => ?_, fun (h : true = false) => (Bool.false_ne_true h.symm).elim⟩; (conv => whnf))))
      refine stepOp (good_call [(0, 32), (1, 36)] rfl F22 (numberS _ (by simp [be_length, headL]) m.bridge 8 (by decide)) rfl ⟨rfl, trivial⟩ rfl ⟨.inl rfl, .inr rfl, trivial⟩) rfl rfl (run Γ hm 400 ?_)
      ((conv => whnf); repeat (first | (refine ⟨fun (h : false = true) => (Bool.false_ne_true h).elim, fun _ => ?_⟩; (conv => whnf)) | (refine ⟨fun _ => ?_, fun (h : true = false) => (Bool.false_ne_true h.symm).elim⟩; (conv => whnf))))
      refine stepOp (good_callV [(0, 36), (1, 49)] [48] rfl F23 (pairsS _ (by simp [be_length, headL]) (ports m) (by simp [ports]) ha) (.cons (.refl _) (.cons (.lit rfl rfl rfl) .nil)) ⟨rfl, trivial⟩ rfl ⟨.inl rfl, .inr rfl, trivial⟩ rfl) rfl rfl (run Γ hm 400 ?_)
      ((conv => whnf); repeat (first | (refine ⟨fun (h : false = true) => (Bool.false_ne_true h).elim, fun _ => ?_⟩; (conv => whnf)) | (refine ⟨fun _ => ?_, fun (h : true = false) => (Bool.false_ne_true h.symm).elim⟩; (conv => whnf))))
      have hb : (((((headL ++ [0, 0]) ++ be 8 m.root) ++ be 4 m.cost.toNat) ++ be 8 m.bridge) ++ pairsL (ports m)) = bodyL m := by simp [bodyL, hch, flagB, h2, restL, ports]
      rw [hb]
      have hl : (bodyL m).length = 38 := by rw [bodyL_length, hch]; rfl
      refine stepOp (good_callV [] [49] rfl F24 (etherPut_bad toN src (bodyL m).length (bodyL m) (by decide) hs) (.cons (.agg (.cons (.refl _) (.cons (.refl _) (.cons (.refl _) (.cons (.row rfl rfl) .nil))))) .nil) trivial rfl trivial rfl) rfl rfl (run Γ hm 400 ?_)
      ((conv => whnf); repeat (first | (refine ⟨fun (h : false = true) => (Bool.false_ne_true h).elim, fun _ => ?_⟩; (conv => whnf)) | (refine ⟨fun _ => ?_, fun (h : true = false) => (Bool.false_ne_true h.symm).elim⟩; (conv => whnf))))
      exact done0 rfl (.cons .tmp (.cons .tmp .nil)) rfl rfl

theorem refPutM_bad (src : Nat) (m : Msg) (hi : m.InRange) (hr : rightB m = true) (hs : 281474976710656 ≤ src) : Sy.Spec Try.prog 12 [u64SV src, msgSV m] [] (.tup [.val (.slice none 0 0), intSV 11]) [] := contract Γ hm 100 F12 Try.ntmps12 rfl fun F hF => by
  have hl : (bodyL m).length ≤ 38 := by rw [bodyL_length]; split <;> omega
  ((conv => whnf); repeat (first | (refine ⟨fun (h : false = true) => (Bool.false_ne_true h).elim, fun _ => ?_⟩; (conv => whnf)) | (refine ⟨fun _ => ?_, fun (h : true = false) => (Bool.false_ne_true h.symm).elim⟩; (conv => whnf))))
  refine call0 (refRightS m) F15 rfl rfl rfl rfl rfl (run Γ hm 400 ?_)
  rw [hr]
  ((conv => whnf); repeat (first | (refine ⟨fun (h : false = true) => (Bool.false_ne_true h).elim, fun _ => ?_⟩; (conv => whnf)) | (refine ⟨fun _ => ?_, fun (h : true = false) => (Bool.false_ne_true h.symm).elim⟩; (conv => whnf))))
  refine stepD (good_call [(0, 11)] rfl F26 (bodyS m hi (ch_or m hr)) rfl trivial rfl ⟨.inr rfl, trivial⟩) (by kernel_rfl) rfl (runD Γ hm 400 (by kernel_rfl) ?_)
  ((conv => whnf); repeat (first | (refine ⟨fun (h : false = true) => (Bool.false_ne_true h).elim, fun _ => ?_⟩; (conv => whnf)) | (refine ⟨fun _ => ?_, fun (h : true = false) => (Bool.false_ne_true h.symm).elim⟩; (conv => whnf))))
  refine stepD (good_call [(0, 14)] rfl F26 (bodyS m hi (ch_or m hr)) rfl trivial rfl ⟨.inr rfl, trivial⟩) (by kernel_rfl) rfl (runD Γ hm 400 (by kernel_rfl) ?_)
  ((conv => whnf); repeat (first | (refine ⟨fun (h : false = true) => (Bool.false_ne_true h).elim, fun _ => ?_⟩; (conv => whnf)) | (refine ⟨fun _ => ?_, fun (h : true = false) => (Bool.false_ne_true h.symm).elim⟩; (conv => whnf))))
  refine stepD (good_callV [] [14] rfl F25 (refPut_bad toN src (bodyL m).length (bodyL m) (by decide) hs) (.cons (.agg (.cons (.refl _) (.cons (.refl _) (.cons (.refl _) (.cons (.row rfl rfl) .nil))))) .nil) trivial rfl trivial rfl) (by kernel_rfl) rfl (runD Γ hm 400 (by kernel_rfl) ?_)
  ((conv => whnf); repeat (first | (refine ⟨fun (h : false = true) => (Bool.false_ne_true h).elim, fun _ => ?_⟩; (conv => whnf)) | (refine ⟨fun _ => ?_, fun (h : true = false) => (Bool.false_ne_true h.symm).elim⟩; (conv => whnf))))
  refine ⟨(by kernel_rfl), ?_⟩
  ((conv => whnf); repeat (first | (refine ⟨fun (h : false = true) => (Bool.false_ne_true h).elim, fun _ => ?_⟩; (conv => whnf)) | (refine ⟨fun _ => ?_, fun (h : true = false) => (Bool.false_ne_true h.symm).elim⟩; (conv => whnf))))
  exact done0 rfl (.cons .tmp (.cons .tmp .nil)) rfl rfl

theorem put_ok (src : Nat) (m : Msg) (hr : rightB m = true) (hs : src < 281474976710656) : Sy.Spec Try.prog 10 [u64SV src, msgSV m] [] (.tup [.osl 0, intSV 0]) [(0, .row 1 byteSV (outL src m))] := contract Γ hm 100 F10 Try.ntmps10 rfl fun F hF => by
  ((conv => whnf); repeat (first | (refine ⟨fun (h : false = true) => (Bool.false_ne_true h).elim, fun _ => ?_⟩; (conv => whnf)) | (refine ⟨fun _ => ?_, fun (h : true = false) => (Bool.false_ne_true h.symm).elim⟩; (conv => whnf))))
  refine call0 (rightS m) F11 rfl rfl rfl rfl rfl (run Γ hm 400 ?_)
  rw [hr]
  ((conv => whnf); repeat (first | (refine ⟨fun (h : false = true) => (Bool.false_ne_true h).elim, fun _ => ?_⟩; (conv => whnf)) | (refine ⟨fun _ => ?_, fun (h : true = false) => (Bool.false_ne_true h.symm).elim⟩; (conv => whnf))))
  refine stepOp (good_convert_mark Γ.toTy rfl rfl rfl rfl rfl rfl rfl) rfl rfl (run Γ hm 400 ?_)
  ((conv => whnf); repeat (first | (refine ⟨fun (h : false = true) => (Bool.false_ne_true h).elim, fun _ => ?_⟩; (conv => whnf)) | (refine ⟨fun _ => ?_, fun (h : true = false) => (Bool.false_ne_true h.symm).elim⟩; (conv => whnf))))
  refine ⟨fun h1 => ?_, fun h1 => ?_⟩
  · have hch := h1
    ((conv => whnf); repeat (first | (refine ⟨fun (h : false = true) => (Bool.false_ne_true h).elim, fun _ => ?_⟩; (conv => whnf)) | (refine ⟨fun _ => ?_, fun (h : true = false) => (Bool.false_ne_true h.symm).elim⟩; (conv => whnf))))
    refine stepOp (good_appendT (e := byteSV) Γ.toTy 17 rfl rfl rfl rfl rfl (.lit (l := headL) rfl rfl) (.lit (l := [(128 : UInt8)]) rfl rfl) (by decide) (by decide) (by decide)) rfl rfl (run Γ hm 400 ?_)
    ((conv => whnf); repeat (first | (refine ⟨fun (h : false = true) => (Bool.false_ne_true h).elim, fun _ => ?_⟩; (conv => whnf)) | (refine ⟨fun _ => ?_, fun (h : true = false) => (Bool.false_ne_true h.symm).elim⟩; (conv => whnf))))
    have hb : headL ++ [128] = bodyL m := by rw [bodyL, if_pos h1]
    rw [hb]
    have hl : (bodyL m).length = 7 := by rw [bodyL_length, hch]; rfl
    refine stepOp (good_callV [(0, 55)] [17] rfl F24 (etherPut_ok toN src (bodyL m).length (bodyL m) (by decide) hs (by omega) (by omega)) (.cons (.agg (.cons (.refl _) (.cons (.refl _) (.cons (.refl _) (.cons (.row rfl rfl) .nil))))) .nil) trivial rfl ⟨.inr rfl, trivial⟩ rfl) rfl rfl (run Γ hm 400 ?_)
    ((conv => whnf); repeat (first | (refine ⟨fun (h : false = true) => (Bool.false_ne_true h).elim, fun _ => ?_⟩; (conv => whnf)) | (refine ⟨fun _ => ?_, fun (h : true = false) => (Bool.false_ne_true h.symm).elim⟩; (conv => whnf))))
    exact done rfl (.cons .tmp (.cons .tmp .nil)) [(0, 55)] _ (fun _ h => h) rfl rfl ⟨trivial, ⟨.inl rfl, rfl, trivial⟩, rfl, rfl⟩
  · have hch := h1
    obtain ⟨hc, ha⟩ := (ch_or m hr).resolve_left (by rw [h1]; decide)
    ((conv => whnf); repeat (first | (refine ⟨fun (h : false = true) => (Bool.false_ne_true h).elim, fun _ => ?_⟩; (conv => whnf)) | (refine ⟨fun _ => ?_, fun (h : true = false) => (Bool.false_ne_true h.symm).elim⟩; (conv => whnf))))
    refine ⟨fun h2 => ?_, fun h2 => ?_⟩
    · ((conv => whnf); repeat (first | (refine ⟨fun (h : false = true) => (Bool.false_ne_true h).elim, fun _ => ?_⟩; (conv => whnf)) | (refine ⟨fun _ => ?_, fun (h : true = false) => (Bool.false_ne_true h.symm).elim⟩; (conv => whnf))))
      refine stepOp (good_appendT (e := byteSV) Γ.toTy 23 rfl rfl rfl rfl rfl (.lit (l := headL) rfl rfl) (.lit (l := [(0 : UInt8), 128]) rfl rfl) (by decide) (by decide) (by decide)) rfl rfl (run Γ hm 400 ?_)
      ((conv => whnf); repeat (first | (refine ⟨fun (h : false = true) => (Bool.false_ne_true h).elim, fun _ => ?_⟩; (conv => whnf)) | (refine ⟨fun _ => ?_, fun (h : true = false) => (Bool.false_ne_true h.symm).elim⟩; (conv => whnf))))
      refine stepOp (good_call [(0, 23), (1, 27)] rfl F22 (numberS _ (by simp [be_length, headL]) m.root 8 (by decide)) rfl ⟨rfl, trivial⟩ rfl ⟨.inl rfl, .inr rfl, trivial⟩) rfl rfl (run Γ hm 400 ?_)
      ((conv => whnf); repeat (first | (refine ⟨fun (h : false = true) => (Bool.false_ne_true h).elim, fun _ => ?_⟩; (conv => whnf)) | (refine ⟨fun _ => ?_, fun (h : true = false) => (Bool.false_ne_true h.symm).elim⟩; (conv => whnf))))
      refine stepOp (good_call [(0, 27), (1, 32)] rfl F22 (numberS _ (by simp [be_length, headL]) m.cost.toNat 4 (by decide)) (congrArg (fun z => [SV.osl 27, .val (.int .u64 z), intSV 4]) (u64_small m.cost hc.1 (by omega))) ⟨rfl, trivial⟩ rfl ⟨.inl rfl, .inr rfl, trivial⟩) rfl rfl (run Γ hm 400 ?_)
      ((conv => whnf); repeat (first | (refine ⟨fun (h : false = true) => (Bool.false_ne_true h).elim, fun _ => ?_⟩; (conv => whnf)) | (refine ⟨fun _ => ?_, fun (h : true = false) => (Bool.false_ne_true h.symm).elim⟩; (conv => whnf))))
      refine stepOp (good_call [(0, 32), (1, 36)] rfl F22 (numberS _ (by simp [be_length, headL]) m.bridge 8 (by decide)) rfl ⟨rfl, trivial⟩ rfl ⟨.inl rfl, .inr rfl, trivial⟩) rfl rfl (run Γ hm 400 ?_)
      ((conv => whnf); repeat (first | (refine ⟨fun (h : false = true) => (Bool.false_ne_true h).elim, fun _ => ?_⟩; (conv => whnf)) | (refine ⟨fun _ => ?_, fun (h : true = false) => (Bool.false_ne_true h.symm).elim⟩; (conv => whnf))))
      refine stepOp (good_callV [(0, 36), (1, 49)] [48] rfl F23 (pairsS _ (by simp [be_length, headL]) (ports m) (by simp [ports]) ha) (.cons (.refl _) (.cons (.lit rfl rfl rfl) .nil)) ⟨rfl, trivial⟩ rfl ⟨.inl rfl, .inr rfl, trivial⟩ rfl) rfl rfl (run Γ hm 400 ?_)
      ((conv => whnf); repeat (first | (refine ⟨fun (h : false = true) => (Bool.false_ne_true h).elim, fun _ => ?_⟩; (conv => whnf)) | (refine ⟨fun _ => ?_, fun (h : true = false) => (Bool.false_ne_true h.symm).elim⟩; (conv => whnf))))
      have hb : (((((headL ++ [0, 128]) ++ be 8 m.root) ++ be 4 m.cost.toNat) ++ be 8 m.bridge) ++ pairsL (ports m)) = bodyL m := by simp [bodyL, hch, flagB, h2, restL, ports]
      rw [hb]
      have hl : (bodyL m).length = 38 := by rw [bodyL_length, hch]; rfl
      refine stepOp (good_callV [(0, 55)] [49] rfl F24 (etherPut_ok toN src (bodyL m).length (bodyL m) (by decide) hs (by omega) (by omega)) (.cons (.agg (.cons (.refl _) (.cons (.refl _) (.cons (.refl _) (.cons (.row rfl rfl) .nil))))) .nil) trivial rfl ⟨.inr rfl, trivial⟩ rfl) rfl rfl (run Γ hm 400 ?_)
      ((conv => whnf); repeat (first | (refine ⟨fun (h : false = true) => (Bool.false_ne_true h).elim, fun _ => ?_⟩; (conv => whnf)) | (refine ⟨fun _ => ?_, fun (h : true = false) => (Bool.false_ne_true h.symm).elim⟩; (conv => whnf))))
      exact done rfl (.cons .tmp (.cons .tmp .nil)) [(0, 55)] _ (fun _ h => h) rfl rfl ⟨trivial, ⟨.inl rfl, rfl, trivial⟩, rfl, rfl⟩
    · ((conv => whnf); repeat (first | (refine ⟨fun (h : false = true) => (Bool.false_ne_true h).elim, fun _ => ?_⟩; (conv => whnf)) | (refine ⟨fun _ => ?_, fun (h : true = false) => (Bool.false_ne_true h.symm).elim⟩; (conv => whnf))))
      refine stepOp (good_appendT (e := byteSV) Γ.toTy 23 rfl rfl rfl rfl rfl (.lit (l := headL) rfl rfl) (.lit (l := [(0 : UInt8), 0]) rfl rfl) (by decide) (by decide) (by decide)) rfl rfl (run Γ hm 400 ?_)
      ((conv => whnf); repeat (first | (refine ⟨fun (h : false = true) => (Bool.false_ne_true h).elim, fun _ => ?_⟩; (conv => whnf)) | (refine ⟨fun _ => ?_, fun (h : true = false) => (Bool.false_ne_true h.symm).elim⟩; (conv => whnf))))
      refine stepOp (good_call [(0, 23), (1, 27)] rfl F22 (numberS _ (by simp [be_length, headL]) m.root 8 (by decide)) rfl ⟨rfl, trivial⟩ rfl ⟨.inl rfl, .inr rfl, trivial⟩) rfl rfl (run Γ hm 400 ?_)
      ((conv => whnf); repeat (first | (refine ⟨fun (h : false = true) => (Bool.false_ne_true h).elim, fun _ => ?_⟩; (conv => whnf)) | (refine ⟨fun _ => ?_, fun (h : true = false) => (Bool.false_ne_true h.symm).elim⟩; (conv => whnf))))
      refine stepOp (good_call [(0, 27), (1, 32)] rfl F22 (numberS _ (by simp [be_length, headL]) m.cost.toNat 4 (by decide)) (congrArg (fun z => [SV.osl 27, .val (.int .u64 z), intSV 4]) (u64_small m.cost hc.1 (by omega))) ⟨rfl, trivial⟩ rfl ⟨.inl rfl, .inr rfl, trivial⟩) rfl rfl (run Γ hm 400 ?_)
      ((conv => whnf); repeat (first | (refine ⟨fun (h : false = true) => (Bool.false_ne_true h).elim, fun _ => ?_⟩; (conv => whnf)) | (refine ⟨fun _ => ?_, fun (h : true = false) => (Bool.false_ne_true h.symm).elim⟩; (conv => whnf))))
      refine stepOp (good_call [(0, 32), (1, 36)] rfl F22 (numberS _ (by simp [be_length, headL]) m.bridge 8 (by decide)) rfl ⟨rfl, trivial⟩ rfl ⟨.inl rfl, .inr rfl, trivial⟩) rfl rfl (run Γ hm 400 ?_)
      ((conv => whnf); repeat (first | (refine ⟨fun (h : false = true) => (Bool.false_ne_true h).elim, fun _ => ?_⟩; (conv => whnf)) | (refine ⟨fun _ => ?_, fun (h : true = false) => (Bool.false_ne_true h.symm).elim⟩; (conv => whnf))))
      refine stepOp (good_callV [(0, 36), (1, 49)] [48] rfl F23 (pairsS _ (by simp [be_length, headL]) (ports m) (by simp [ports]) ha) (.cons (.refl _) (.cons (.lit rfl rfl rfl) .nil)) ⟨rfl, trivial⟩ rfl ⟨.inl rfl, .inr rfl, trivial⟩ rfl) rfl rfl (run Γ hm 400 ?_)
      ((conv => whnf); repeat (first | (refine ⟨fun (h : false = true) => (Bool.false_ne_true h).elim, fun _ => ?_⟩; (conv => whnf)) | (refine ⟨fun _ => ?_, fun (h : true = false) => (Bool.false_ne_true h.symm).elim⟩; (conv => whnf))))
      have hb : (((((headL ++ [0, 0]) ++ be 8 m.root) ++ be 4 m.cost.toNat) ++ be 8 m.bridge) ++ pairsL (ports m)) = bodyL m := by simp [bodyL, hch, flagB, h2, restL, ports]
      rw [hb]
      have hl : (bodyL m).length = 38 := by rw [bodyL_length, hch]; rfl
      refine stepOp (good_callV [(0, 55)] [49] rfl F24 (etherPut_ok toN src (bodyL m).length (bodyL m) (by decide) hs (by omega) (by omega)) (.cons (.agg (.cons (.refl _) (.cons (.refl _) (.cons (.refl _) (.cons (.row rfl rfl) .nil))))) .nil) trivial rfl ⟨.inr rfl, trivial⟩ rfl) rfl rfl (run Γ hm 400 ?_)
      ((conv => whnf); repeat (first | (refine ⟨fun (h : false = true) => (Bool.false_ne_true h).elim, fun _ => ?_⟩; (conv => whnf)) | (refine ⟨fun _ => ?_, fun (h : true = false) => (Bool.false_ne_true h.symm).elim⟩; (conv => whnf))))
      exact done rfl (.cons .tmp (.cons .tmp .nil)) [(0, 55)] _ (fun _ h => h) rfl rfl ⟨trivial, ⟨.inl rfl, rfl, trivial⟩, rfl, rfl⟩

theorem refPutM_ok (src : Nat) (m : Msg) (hi : m.InRange) (hr : rightB m = true) (hs : src < 281474976710656) : Sy.Spec Try.prog 12 [u64SV src, msgSV m] [] (.tup [.osl 0, intSV 0]) [(0, .row 1 byteSV (outL src m))] := contract Γ hm 100 F12 Try.ntmps12 rfl fun F hF => by
  have hl : (bodyL m).length ≤ 38 := by rw [bodyL_length]; split <;> omega
  ((conv => whnf); repeat (first | (refine ⟨fun (h : false = true) => (Bool.false_ne_true h).elim, fun _ => ?_⟩; (conv => whnf)) | (refine ⟨fun _ => ?_, fun (h : true = false) => (Bool.false_ne_true h.symm).elim⟩; (conv => whnf))))
  refine call0 (refRightS m) F15 rfl rfl rfl rfl rfl (run Γ hm 400 ?_)
  rw [hr]
  ((conv => whnf); repeat (first | (refine ⟨fun (h : false = true) => (Bool.false_ne_true h).elim, fun _ => ?_⟩; (conv => whnf)) | (refine ⟨fun _ => ?_, fun (h : true = false) => (Bool.false_ne_true h.symm).elim⟩; (conv => whnf))))
  refine stepD (good_call [(0, 11)] rfl F26 (bodyS m hi (ch_or m hr)) rfl trivial rfl ⟨.inr rfl, trivial⟩) (by kernel_rfl) rfl (runD Γ hm 400 (by kernel_rfl) ?_)
  ((conv => whnf); repeat (first | (refine ⟨fun (h : false = true) => (Bool.false_ne_true h).elim, fun _ => ?_⟩; (conv => whnf)) | (refine ⟨fun _ => ?_, fun (h : true = false) => (Bool.false_ne_true h.symm).elim⟩; (conv => whnf))))
  refine stepD (good_call [(0, 14)] rfl F26 (bodyS m hi (ch_or m hr)) rfl trivial rfl ⟨.inr rfl, trivial⟩) (by kernel_rfl) rfl (runD Γ hm 400 (by kernel_rfl) ?_)
  ((conv => whnf); repeat (first | (refine ⟨fun (h : false = true) => (Bool.false_ne_true h).elim, fun _ => ?_⟩; (conv => whnf)) | (refine ⟨fun _ => ?_, fun (h : true = false) => (Bool.false_ne_true h.symm).elim⟩; (conv => whnf))))
  refine stepD (good_callV [(0, 16)] [14] rfl F25 (refPut_ok toN src (bodyL m).length (bodyL m) (by decide) hs (by omega) (by omega)) (.cons (.agg (.cons (.refl _) (.cons (.refl _) (.cons (.refl _) (.cons (.row rfl rfl) .nil))))) .nil) trivial rfl ⟨.inr rfl, trivial⟩ rfl) (by kernel_rfl) rfl (runD Γ hm 400 (by kernel_rfl) ?_)
  ((conv => whnf); repeat (first | (refine ⟨fun (h : false = true) => (Bool.false_ne_true h).elim, fun _ => ?_⟩; (conv => whnf)) | (refine ⟨fun _ => ?_, fun (h : true = false) => (Bool.false_ne_true h.symm).elim⟩; (conv => whnf))))
  refine ⟨(by kernel_rfl), ?_⟩
  ((conv => whnf); repeat (first | (refine ⟨fun (h : false = true) => (Bool.false_ne_true h).elim, fun _ => ?_⟩; (conv => whnf)) | (refine ⟨fun _ => ?_, fun (h : true = false) => (Bool.false_ne_true h.symm).elim⟩; (conv => whnf))))
  exact done rfl (.cons .tmp (.cons .tmp .nil)) [(0, 16)] _ (fun _ h => h) rfl rfl ⟨trivial, ⟨.inl rfl, rfl, trivial⟩, rfl, rfl⟩

end Go.Sy.Ytjfglngcfghfnaa
