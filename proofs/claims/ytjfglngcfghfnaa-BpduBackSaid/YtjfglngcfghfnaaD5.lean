/-
  Plain laws of messages' bytes, the fifth part: what is taken may be put, and is then as it was.
-/
import Derived.Test.YtjfglngcfghfnaaD4
namespace Go.Sy.Ytjfglngcfghfnaa

theorem y_split (y : List UInt8) (h : 7 ≤ y.length) (h6 : y.take 6 = headL) : y = headL ++ (y.getD 6 0 :: y.drop 7) := by
  have h1 := split_at y 6
  rw [h6, List.drop_eq_getElem_cons (by omega)] at h1
  rw [getD_get _ _ (by omega)]
  exact h1

theorem take_put (b : List UInt8) (s : Nat) (n : Msg) (h : takeM b = (s, n, 0)) : rightB n = true ∧ s < 281474976710656 ∧ n.InRange ∧ (outL s n).length ≤ b.length ∧ b.take (outL s n).length = outL s n := by
  have fin : ∀ n : Msg, 14 + (bodyL n).length ≤ b.length → num (b.take 6) = toN → fT b = (bodyL n).length → (b.drop 14).take (bodyL n).length = bodyL n → s = num ((b.drop 6).take 6) → rightB n = true → n.InRange →
      rightB n = true ∧ s < 281474976710656 ∧ n.InRange ∧ (outL s n).length ≤ b.length ∧ b.take (outL s n).length = outL s n := by
    intro n g1 g2 g3 g4 g5 g6 g7
    subst g5
    have e := frame_take b n g1 g2 g3 g4
    have hl : (outL (num ((b.drop 6).take 6)) n).length = 14 + (bodyL n).length := by rw [e]; simp; omega
    exact ⟨g6, num6_lt _, g7, by rw [hl]; exact g1, by rw [hl]; exact e.symm⟩
  unfold takeM at h
  split at h
  · simp at h
  split at h
  · simp at h
  rename_i a1 a2
  unfold takeY at h
  split at h
  · simp at h
  split at h
  · simp at h
  split at h
  · simp at h
  rename_i a3 a4 a5
  have a3 : num (b.take 6) = toN := Decidable.not_not.1 a3
  have a5 : (b.drop 14).take 6 = headL := Decidable.not_not.1 a5
  have hy : (b.drop 14).length = b.length - 14 := by simp
  have hsp := y_split (b.drop 14) (by omega) a5
  unfold takeK at h
  split at h
  · rename_i a6
    split at h
    · simp at h
    split at h
    · simp at h
    rename_i a7 a8
    simp only [Prod.mk.injEq] at h
    obtain ⟨h1, rfl, _⟩ := h
    have hx : (b.drop 14).getD 6 0 = 128 := u8_eq a6
    rw [hx] at hsp
    refine fin chMsg (by show 14 + 7 ≤ b.length; omega) a3 (by show fT b = 7; omega) ?_ h1.symm rfl ⟨by decide, by decide⟩
    rw [hsp]
    rfl
  · split at h
    · simp at h
    split at h
    · simp at h
    split at h
    · simp at h
    split at h
    · simp at h
    rename_i a6 a7 a8 a9 a10
    simp only [Prod.mk.injEq] at h
    obtain ⟨h1, rfl, _⟩ := h
    have a7 : kB (b.drop 14) = 0 := Decidable.not_not.1 a7
    have hx : (b.drop 14).getD 6 0 = 0 := u8_eq a7
    have hx31 : (((b.drop 14).take 38).drop 7).length = 31 := by simp; omega
    have hch : (parsed (b.drop 14)).ch = false := rfl
    have hlb : (bodyL (parsed (b.drop 14))).length = 38 := by rw [bodyL_length, hch]; rfl
    have hf := fB_x (b.drop 14) (by omega)
    refine fin (parsed (b.drop 14)) (by omega) a3 (by omega) ?_ h1.symm (small_right _ hch (parsed_small _)) (parsed_range _)
    rw [hlb]
    have hb : bodyL (parsed (b.drop 14)) = headL ++ (0 :: flagB (parsed (b.drop 14)).ak :: restL (parsed (b.drop 14))) := by rw [bodyL, if_neg (by rw [hch]; decide)]; rfl
    rw [hb, parsed, rest_parsed _ hx31]
    have hflag : flagB (parsedX (((b.drop 14).take 38).drop 7)).ak = (((b.drop 14).take 38).drop 7).getD 0 0 := by
      apply UInt8.toNat_inj.1
      rw [flag_nat, hf]
      simp only [parsedX, hf]
      by_cases h128 : fB (b.drop 14) = 128
      · simp [h128]
      · simp [h128]; omega
    rw [hflag]
    have hc : ((b.drop 14).take 38).drop 7 = (((b.drop 14).take 38).drop 7).getD 0 0 :: (((b.drop 14).take 38).drop 7).drop 1 := by
      rw [getD_get _ _ (by omega)]
      have := List.drop_eq_getElem_cons (l := ((b.drop 14).take 38).drop 7) (i := 0) (by omega)
      rw [List.drop_zero] at this
      exact this
    rw [← hc]
    have h7 : ((b.drop 14).take 38).take 7 = headL ++ [0] := by
      rw [List.take_take, hsp, hx]
      rfl
    exact (split_at ((b.drop 14).take 38) 7).trans (by rw [h7, List.append_assoc]; rfl)
end Go.Sy.Ytjfglngcfghfnaa
