/-
  Plain laws of messages' bytes, the third part: what is taken is put as it was.
-/
import Derived.Test.YtjfglngcfghfnaaD2
namespace Go.Sy.Ytjfglngcfghfnaa

theorem num_lt_of (l : List UInt8) (k : Nat) (h : l.length ≤ k) : num l < 256 ^ k := Nat.lt_of_lt_of_le (num_lt l) (Nat.pow_le_pow_right (by decide) h)

theorem u8_eq {x : UInt8} {n : Nat} (h : x.toNat = n) : x = UInt8.ofNat n := by subst h; simp

theorem split_at (l : List UInt8) (k : Nat) : l = l.take k ++ l.drop k := (List.take_append_drop k l).symm

theorem rest_parsed (x : List UInt8) (hx : x.length = 31) : restL (parsedX x) = x.drop 1 := by
  rw [restL_eq]
  simp only [parsedX, Int.toNat_natCast]
  have e : ∀ j k, j + k ≤ 31 → be k (num ((x.drop j).take k)) = (x.drop j).take k := fun j k h => be_num' _ _ (by simp; omega)
  rw [e 1 8 (by decide), e 9 4 (by decide), e 13 8 (by decide), e 21 2 (by decide), e 23 2 (by decide), e 25 2 (by decide), e 27 2 (by decide), e 29 2 (by decide)]
  have s : ∀ j k, x.drop j = (x.drop j).take k ++ x.drop (j + k) := fun j k => by rw [← List.drop_drop]; exact split_at _ _
  have s1 : x.drop 1 = (x.drop 1).take 8 ++ x.drop 9 := s 1 8
  have s2 : x.drop 9 = (x.drop 9).take 4 ++ x.drop 13 := s 9 4
  have s3 : x.drop 13 = (x.drop 13).take 8 ++ x.drop 21 := s 13 8
  have s4 : x.drop 21 = (x.drop 21).take 2 ++ x.drop 23 := s 21 2
  have s5 : x.drop 23 = (x.drop 23).take 2 ++ x.drop 25 := s 23 2
  have s6 : x.drop 25 = (x.drop 25).take 2 ++ x.drop 27 := s 25 2
  have s7 : x.drop 27 = (x.drop 27).take 2 ++ x.drop 29 := s 27 2
  have s8 : x.drop 29 = (x.drop 29).take 2 := (List.take_of_length_le (by simp; omega)).symm
  refine (s1.trans ?_).symm
  refine congrArg (_ ++ ·) (s2.trans ?_)
  refine congrArg (_ ++ ·) (s3.trans ?_)
  refine congrArg (_ ++ ·) (s4.trans ?_)
  refine congrArg (_ ++ ·) (s5.trans ?_)
  refine congrArg (_ ++ ·) (s6.trans ?_)
  exact congrArg (_ ++ ·) (s7.trans (congrArg (_ ++ ·) s8))

theorem parsed_small (x : List UInt8) : (parsedX x).Small := by
  have e : ∀ j k, num ((x.drop j).take k) < 256 ^ k := fun j k => num_take_lt _ _
  refine ⟨⟨Int.natCast_nonneg _, ?_⟩, fun n hn => ?_⟩
  · have := e 9 4
    simp only [parsedX]
    omega
  · have h1 := e 21 2
    have h2 := e 23 2
    have h3 := e 25 2
    have h4 := e 27 2
    have h5 := e 29 2
    simp only [parsedX, List.mem_cons, List.not_mem_nil, or_false] at hn
    rcases hn with rfl | rfl | rfl | rfl | rfl <;> omega

theorem small_right (m : Msg) (h : m.ch = false) (hs : m.Small) : rightB m = true := by
  rw [rightB_small m h]
  simp only [Bool.and_eq_true, decide_eq_true_eq, List.all_eq_true]
  exact ⟨hs.1, fun n hn => (smallB_iff n).2 (hs.2 n hn)⟩

theorem parsed_range (x : List UInt8) : (parsedX x).InRange := ⟨by have := num_take_lt (x.drop 1) 8; simpa [parsedX] using this, by have := num_take_lt (x.drop 13) 8; simpa [parsedX] using this⟩
end Go.Sy.Ytjfglngcfghfnaa
