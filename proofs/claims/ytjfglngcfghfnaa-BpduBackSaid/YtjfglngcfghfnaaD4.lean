/-
  Plain laws of messages' bytes, the fourth part: a frame that is taken is the frame that is put.
-/
import Derived.Test.YtjfglngcfghfnaaD3
namespace Go.Sy.Ytjfglngcfghfnaa

theorem frame_take (b : List UInt8) (n : Msg) (hlen : 14 + (bodyL n).length ≤ b.length) (hd : num (b.take 6) = toN) (ht : fT b = (bodyL n).length) (hy : (b.drop 14).take (bodyL n).length = bodyL n) :
    outL (num ((b.drop 6).take 6)) n = b.take (14 + (bodyL n).length) := by
  have e := out_eq (num ((b.drop 6).take 6)) n []
  rw [List.append_nil, List.append_nil] at e
  rw [e]
  have e1 : be 6 toN = b.take 6 := by rw [← hd]; exact be_num' _ _ (by simp; omega)
  have e2 : be 6 (num ((b.drop 6).take 6)) = (b.drop 6).take 6 := be_num' _ _ (by simp; omega)
  have e3 : (b.drop 12).take 2 = [b.getD 12 0, b.getD 13 0] := by
    rw [List.drop_eq_getElem_cons (by omega), List.drop_eq_getElem_cons (by omega), getD_get _ _ (by omega), getD_get _ _ (by omega)]
    rfl
  have e4 : [UInt8.ofNat ((bodyL n).length / 256), UInt8.ofNat (bodyL n).length] = (b.drop 12).take 2 := by
    have h1 := be_num' ((b.drop 12).take 2) 2 (by simp; omega)
    have h2 : num ((b.drop 12).take 2) = (bodyL n).length := by
      rw [e3, ← ht, fT]
      simp [num]
    rw [h2] at h1
    rw [← h1]
    simp [be]
  have f1 : b.take (14 + (bodyL n).length) = b.take 6 ++ (b.drop 6).take (8 + (bodyL n).length) := by
    rw [show 14 + (bodyL n).length = 6 + (8 + (bodyL n).length) by omega, List.take_add]
  have f2 : (b.drop 6).take (8 + (bodyL n).length) = (b.drop 6).take 6 ++ (b.drop 12).take (2 + (bodyL n).length) := by
    rw [show 8 + (bodyL n).length = 6 + (2 + (bodyL n).length) by omega, List.take_add, List.drop_drop]
  have f3 : (b.drop 12).take (2 + (bodyL n).length) = (b.drop 12).take 2 ++ (b.drop 14).take (bodyL n).length := by
    rw [List.take_add, List.drop_drop]
  rw [f1, f2, f3, hy, ← e4, e1, e2]
  rfl
end Go.Sy.Ytjfglngcfghfnaa
