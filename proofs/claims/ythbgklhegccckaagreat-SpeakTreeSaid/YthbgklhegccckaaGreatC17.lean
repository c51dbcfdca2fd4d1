/-
  Contracts (bpdu): messages taken. Messages: what is put is taken as it was.
-/
import Derived.Test.YthbgklhegccckaaGreatC16
import Derived.MapKept

namespace Go.Sy.YthbgklhegccckaaGreat
open Go.Proofs

attribute [local irreducible] Go.Sy.G Go.Sy.DR
set_option maxRecDepth 100000
set_option maxHeartbeats 4000000

def fT (l : List UInt8) : Nat := (l.getD 12 0).toNat * 256 + (l.getD 13 0).toNat

def kB (y : List UInt8) : Nat := (y.getD 6 0).toNat

def fB (y : List UInt8) : Nat := (y.getD 7 0).toNat

def parsed (y : List UInt8) : Msg := parsedX ((y.take 38).drop 7)

def takeK (s : Nat) (t : Nat) (y : List UInt8) : Nat × Msg × Nat :=
  if kB y = 128 then (if t < 7 then (0, zeroMsg, 10) else if 7 < t then (0, zeroMsg, 11) else (s, chMsg, 0))
  else if kB y ≠ 0 then (0, zeroMsg, 11)
  else if t < 38 then (0, zeroMsg, 10) else if 38 < t then (0, zeroMsg, 11) else if fB y ≠ 0 ∧ fB y ≠ 128 then (0, zeroMsg, 11) else (s, parsed y, 0)

def takeY (d s : Nat) (t : Nat) (y : List UInt8) : Nat × Msg × Nat :=
  if d ≠ toN then (0, zeroMsg, 11) else if y.length < t ∨ y.length < 7 then (0, zeroMsg, 10) else if y.take 6 ≠ headL then (0, zeroMsg, 11) else takeK s t y

def takeM (l : List UInt8) : Nat × Msg × Nat :=
  if l.length < 14 then (0, zeroMsg, 10) else if 1518 < l.length then (0, zeroMsg, 14)
  else takeY (num (l.take 6)) (num ((l.drop 6).take 6)) (fT l) (l.drop 14)

def takeSV (p : Nat × Msg × Nat) : SV := .tup [u64SV p.1, msgSV p.2.1, intSV p.2.2]

theorem getD_get (l : List UInt8) (i : Nat) (h : i < l.length) : l.getD i 0 = l[i] := by simp [List.getD, h]

theorem bytes_eq (a b : List UInt8) : ((⟨a.toArray⟩ : ByteArray) == (⟨b.toArray⟩ : ByteArray)) = decide (a = b) := by
  have key := Go.MapKept.bytes_beq (⟨a.toArray⟩ : ByteArray) ⟨b.toArray⟩
  by_cases h : a = b
  · subst h
    rw [decide_eq_true rfl]
    exact key.2 rfl
  · rw [decide_eq_false h]
    cases hb : ((⟨a.toArray⟩ : ByteArray) == (⟨b.toArray⟩ : ByteArray)) with
    | false => rfl
    | true =>
      have := congrArg (fun z : ByteArray => z.data.toList) (key.1 hb)
      exact absurd (by simpa using this) h

theorem fB_x (y : List UInt8) (h : 38 ≤ y.length) : (((y.take 38).drop 7).getD 0 0).toNat = fB y := by
  rw [fB, getD_get _ _ (by simp; omega), getD_get _ _ (by omega)]
  simp

theorem takeS (l : List UInt8) : Sy.Spec Tryz.prog 26 [.sl 1 byteSV l] [] (takeSV (takeM l)) [] := contract Γ hm 100 F26 Tryz.ntmps26 rfl fun F hF => by
  by_cases a1 : l.length < 14
  · have e : takeM l = (0, zeroMsg, 10) := by rw [takeM, if_pos a1]
    ((first | refine run Γ hm 400 ?_ | refine runD Γ hm 400 (by kernel_rfl) ?_ | skip); (conv => whnf); repeat ((first | refine aF ?_ | refine aT ?_); (first | refine run Γ hm 400 ?_ | refine runD Γ hm 400 (by kernel_rfl) ?_); conv => whnf))
    refine call0 (etherTake_short l a1) F66 rfl rfl rfl rfl rfl ?_
    ((first | refine run Γ hm 400 ?_ | refine runD Γ hm 400 (by kernel_rfl) ?_ | skip); (conv => whnf); repeat ((first | refine aF ?_ | refine aT ?_); (first | refine run Γ hm 400 ?_ | refine runD Γ hm 400 (by kernel_rfl) ?_); conv => whnf))
    refine done rfl (.cons .tmp (.cons (.cell rfl rfl rfl rfl) (.cons .tmp .nil))) [] [] (fun _ h => h) (by rw [e]; rfl) rfl ⟨trivial, trivial, rfl, rfl⟩
  by_cases a2 : 1518 < l.length
  · have e : takeM l = (0, zeroMsg, 14) := by rw [takeM, if_neg a1, if_pos a2]
    ((first | refine run Γ hm 400 ?_ | refine runD Γ hm 400 (by kernel_rfl) ?_ | skip); (conv => whnf); repeat ((first | refine aF ?_ | refine aT ?_); (first | refine run Γ hm 400 ?_ | refine runD Γ hm 400 (by kernel_rfl) ?_); conv => whnf))
    refine call0 (etherTake_long l a2) F66 rfl rfl rfl rfl rfl ?_
    ((first | refine run Γ hm 400 ?_ | refine runD Γ hm 400 (by kernel_rfl) ?_ | skip); (conv => whnf); repeat ((first | refine aF ?_ | refine aT ?_); (first | refine run Γ hm 400 ?_ | refine runD Γ hm 400 (by kernel_rfl) ?_); conv => whnf))
    refine done rfl (.cons .tmp (.cons (.cell rfl rfl rfl rfl) (.cons .tmp .nil))) [] [] (fun _ h => h) (by rw [e]; rfl) rfl ⟨trivial, trivial, rfl, rfl⟩
  have hc := etherTake_ok l (by omega) (by omega)
  have ht : l[12].toNat * 256 + l[13].toNat = fT l := by rw [fT, getD_get, getD_get]
  rw [ht] at hc
  have e0 : takeM l = takeY (num (l.take 6)) (num ((l.drop 6).take 6)) (fT l) (l.drop 14) := by rw [takeM, if_neg a1, if_neg a2]
  rw [e0]
  have hy : (l.drop 14).length < 1000000 := by simp; omega
  have hs6 := num6_lt (l.drop 6)
  have hlt12 : fT l < 65536 := by have := (l.getD 12 0).toNat_lt; have := (l.getD 13 0).toNat_lt; unfold fT; omega
  clear e0 ht
  generalize num (l.take 6) = d at *
  generalize num ((l.drop 6).take 6) = s at *
  generalize fT l = t at *
  generalize l.drop 14 = y at *
  ((first | refine run Γ hm 400 ?_ | refine runD Γ hm 400 (by kernel_rfl) ?_ | skip); (conv => whnf); repeat ((first | refine aF ?_ | refine aT ?_); (first | refine run Γ hm 400 ?_ | refine runD Γ hm 400 (by kernel_rfl) ?_); conv => whnf))
  refine call0 hc F66 rfl rfl rfl rfl rfl ?_
  ((first | refine run Γ hm 400 ?_ | refine runD Γ hm 400 (by kernel_rfl) ?_ | skip); (conv => whnf); repeat ((first | refine aF ?_ | refine aT ?_); (first | refine run Γ hm 400 ?_ | refine runD Γ hm 400 (by kernel_rfl) ?_); conv => whnf))
  refine ⟨fun h => ?_, fun h => ?_⟩
  · have h3 : d ≠ toN := by
        have : (d : Int) ≠ 1652522221568 := by simpa using h
        unfold toN; omega
    ((first | refine run Γ hm 400 ?_ | refine runD Γ hm 400 (by kernel_rfl) ?_ | skip); (conv => whnf); repeat ((first | refine aF ?_ | refine aT ?_); (first | refine run Γ hm 400 ?_ | refine runD Γ hm 400 (by kernel_rfl) ?_); conv => whnf))
    refine done rfl (.cons .tmp (.cons (.cell rfl rfl rfl rfl) (.cons .tmp .nil))) [] [] (fun _ h => h) (by rw [takeY, if_pos h3]; rfl) rfl ⟨trivial, trivial, rfl, rfl⟩
  have h3 : ¬ d ≠ toN := by
        have : (d : Int) = 1652522221568 := by simpa using h
        unfold toN; omega
  ((first | refine run Γ hm 400 ?_ | refine runD Γ hm 400 (by kernel_rfl) ?_ | skip); (conv => whnf); repeat ((first | refine aF ?_ | refine aT ?_); (first | refine run Γ hm 400 ?_ | refine runD Γ hm 400 (by kernel_rfl) ?_); conv => whnf))
  refine ⟨fun h => ?_, fun h => ?_⟩
  · have h4 : y.length < t := by have := of_decide_eq_true h; omega
    ((first | refine run Γ hm 400 ?_ | refine runD Γ hm 400 (by kernel_rfl) ?_ | skip); (conv => whnf); repeat ((first | refine aF ?_ | refine aT ?_); (first | refine run Γ hm 400 ?_ | refine runD Γ hm 400 (by kernel_rfl) ?_); conv => whnf))
    refine done rfl (.cons .tmp (.cons (.cell rfl rfl rfl rfl) (.cons .tmp .nil))) [] [] (fun _ h => h) (by rw [takeY, if_neg h3, if_pos (.inl h4)]; rfl) rfl ⟨trivial, trivial, rfl, rfl⟩
  have h4 : ¬ y.length < t := by have := of_decide_eq_false h; omega
  ((first | refine run Γ hm 400 ?_ | refine runD Γ hm 400 (by kernel_rfl) ?_ | skip); (conv => whnf); repeat ((first | refine aF ?_ | refine aT ?_); (first | refine run Γ hm 400 ?_ | refine runD Γ hm 400 (by kernel_rfl) ?_); conv => whnf))
  refine ⟨fun h => ?_, fun h => ?_⟩
  · have h5 : y.length < 7 := by have := of_decide_eq_true h; omega
    ((first | refine run Γ hm 400 ?_ | refine runD Γ hm 400 (by kernel_rfl) ?_ | skip); (conv => whnf); repeat ((first | refine aF ?_ | refine aT ?_); (first | refine run Γ hm 400 ?_ | refine runD Γ hm 400 (by kernel_rfl) ?_); conv => whnf))
    refine done rfl (.cons .tmp (.cons (.cell rfl rfl rfl rfl) (.cons .tmp .nil))) [] [] (fun _ h => h) (by rw [takeY, if_neg h3, if_pos (.inr h5)]; rfl) rfl ⟨trivial, trivial, rfl, rfl⟩
  have h5 : ¬ y.length < 7 := by have := of_decide_eq_false h; omega
  have h45 : ¬ (y.length < t ∨ y.length < 7) := by omega
  have hk : y.getD 6 0 = y[6] := getD_get _ _ (by omega)
  ((first | refine run Γ hm 400 ?_ | refine runD Γ hm 400 (by kernel_rfl) ?_ | skip); (conv => whnf); repeat ((first | refine aF ?_ | refine aT ?_); (first | refine run Γ hm 400 ?_ | refine runD Γ hm 400 (by kernel_rfl) ?_); conv => whnf))
  refine stepOp (good_slice_sl Γ.toTy (lo := 0) (hi := 6) rfl rfl rfl rfl (.inl ⟨rfl, rfl⟩) (.inr ⟨_, _, rfl, rfl⟩) (by omega) (by omega)) rfl rfl ?_
  ((first | refine run Γ hm 400 ?_ | refine runD Γ hm 400 (by kernel_rfl) ?_ | skip); (conv => whnf); repeat ((first | refine aF ?_ | refine aT ?_); (first | refine run Γ hm 400 ?_ | refine runD Γ hm 400 (by kernel_rfl) ?_); conv => whnf))
  refine stepOp (good_stringT Γ.toTy rfl rfl rfl rfl rfl rfl rfl .sl) rfl rfl ?_
  rw [List.drop_zero]
  have hq : ((⟨(y.take 6).toArray⟩ : ByteArray) == (⟨#[66, 66, 3, 0, 0, 0]⟩ : ByteArray)) = decide (y.take 6 = headL) := bytes_eq _ headL
  ((first | refine run Γ hm 400 ?_ | refine runD Γ hm 400 (by kernel_rfl) ?_ | skip); (conv => whnf); repeat ((first | refine aF ?_ | refine aT ?_); (first | refine run Γ hm 400 ?_ | refine runD Γ hm 400 (by kernel_rfl) ?_); conv => whnf))
  refine ⟨fun h => ?_, fun h => ?_⟩
  · have h6 : y.take 6 ≠ headL := by
      have h := h
      rw [hq] at h
      simpa using h
    ((first | refine run Γ hm 400 ?_ | refine runD Γ hm 400 (by kernel_rfl) ?_ | skip); (conv => whnf); repeat ((first | refine aF ?_ | refine aT ?_); (first | refine run Γ hm 400 ?_ | refine runD Γ hm 400 (by kernel_rfl) ?_); conv => whnf))
    refine done rfl (.cons .tmp (.cons (.cell rfl rfl rfl rfl) (.cons .tmp .nil))) [] [] (fun _ h => h) (by rw [takeY, if_neg h3, if_neg h45, if_pos h6]; rfl) rfl ⟨trivial, trivial, rfl, rfl⟩
  have h6 : ¬ y.take 6 ≠ headL := by
    have h := h
    rw [hq] at h
    simpa using h
  have e1 : takeY d s t y = takeK s t y := by rw [takeY, if_neg h3, if_neg h45, if_neg h6]
  rw [e1]
  ((first | refine run Γ hm 400 ?_ | refine runD Γ hm 400 (by kernel_rfl) ?_ | skip); (conv => whnf); repeat ((first | refine aF ?_ | refine aT ?_); (first | refine run Γ hm 400 ?_ | refine runD Γ hm 400 (by kernel_rfl) ?_); conv => whnf))
  refine ⟨rfl, by omega, by omega, ?_⟩
  ((first | refine run Γ hm 400 ?_ | refine runD Γ hm 400 (by kernel_rfl) ?_ | skip); (conv => whnf); repeat ((first | refine aF ?_ | refine aT ?_); (first | refine run Γ hm 400 ?_ | refine runD Γ hm 400 (by kernel_rfl) ?_); conv => whnf))
  refine ⟨fun h => ?_, fun h => ?_⟩
  · have h7 : kB y = 128 := by
      have : (y[6].toNat : Int) = 128 := by simpa using h
      rw [kB, hk]; omega
    ((first | refine run Γ hm 400 ?_ | refine runD Γ hm 400 (by kernel_rfl) ?_ | skip); (conv => whnf); repeat ((first | refine aF ?_ | refine aT ?_); (first | refine run Γ hm 400 ?_ | refine runD Γ hm 400 (by kernel_rfl) ?_); conv => whnf))
    refine ⟨fun h8 => ?_, fun h8 => ?_⟩
    · have h8 : t < 7 := by have := of_decide_eq_true h8; omega
      ((first | refine run Γ hm 400 ?_ | refine runD Γ hm 400 (by kernel_rfl) ?_ | skip); (conv => whnf); repeat ((first | refine aF ?_ | refine aT ?_); (first | refine run Γ hm 400 ?_ | refine runD Γ hm 400 (by kernel_rfl) ?_); conv => whnf))
      refine done rfl (.cons .tmp (.cons (.cell rfl rfl rfl rfl) (.cons .tmp .nil))) [] [] (fun _ h => h) (by rw [takeK, if_pos h7, if_pos h8]; rfl) rfl ⟨trivial, trivial, rfl, rfl⟩
    have h8 : ¬ t < 7 := by have := of_decide_eq_false h8; omega
    ((first | refine run Γ hm 400 ?_ | refine runD Γ hm 400 (by kernel_rfl) ?_ | skip); (conv => whnf); repeat ((first | refine aF ?_ | refine aT ?_); (first | refine run Γ hm 400 ?_ | refine runD Γ hm 400 (by kernel_rfl) ?_); conv => whnf))
    refine ⟨fun h9 => ?_, fun h9 => ?_⟩
    · have h9 : 7 < t := by have := of_decide_eq_true h9; omega
      ((first | refine run Γ hm 400 ?_ | refine runD Γ hm 400 (by kernel_rfl) ?_ | skip); (conv => whnf); repeat ((first | refine aF ?_ | refine aT ?_); (first | refine run Γ hm 400 ?_ | refine runD Γ hm 400 (by kernel_rfl) ?_); conv => whnf))
      refine done rfl (.cons .tmp (.cons (.cell rfl rfl rfl rfl) (.cons .tmp .nil))) [] [] (fun _ h => h) (by rw [takeK, if_pos h7, if_neg h8, if_pos h9]; rfl) rfl ⟨trivial, trivial, rfl, rfl⟩
    have h9 : ¬ 7 < t := by have := of_decide_eq_false h9; omega
    ((first | refine run Γ hm 400 ?_ | refine runD Γ hm 400 (by kernel_rfl) ?_ | skip); (conv => whnf); repeat ((first | refine aF ?_ | refine aT ?_); (first | refine run Γ hm 400 ?_ | refine runD Γ hm 400 (by kernel_rfl) ?_); conv => whnf))
    refine ⟨fun _ => ?_, fun h' => absurd (h.symm.trans h') (by decide)⟩
    ((first | refine run Γ hm 400 ?_ | refine runD Γ hm 400 (by kernel_rfl) ?_ | skip); (conv => whnf); repeat ((first | refine aF ?_ | refine aT ?_); (first | refine run Γ hm 400 ?_ | refine runD Γ hm 400 (by kernel_rfl) ?_); conv => whnf))
    refine done rfl (.cons .tmp (.cons (.cell rfl rfl rfl rfl) (.cons .tmp .nil))) [] [] (fun _ h => h) (by rw [takeK, if_pos h7, if_neg h8, if_neg h9]; rfl) rfl ⟨trivial, trivial, rfl, rfl⟩
  have h7 : ¬ kB y = 128 := by
    have : (y[6].toNat : Int) ≠ 128 := by simpa using h
    rw [kB, hk]; omega
  ((first | refine run Γ hm 400 ?_ | refine runD Γ hm 400 (by kernel_rfl) ?_ | skip); (conv => whnf); repeat ((first | refine aF ?_ | refine aT ?_); (first | refine run Γ hm 400 ?_ | refine runD Γ hm 400 (by kernel_rfl) ?_); conv => whnf))
  refine ⟨fun h' => ?_, fun h' => ?_⟩
  rotate_left
  · have h8 : kB y ≠ 0 := by
      have : (y[6].toNat : Int) ≠ 0 := by simpa using h'
      rw [kB, hk]; omega
    ((first | refine run Γ hm 400 ?_ | refine runD Γ hm 400 (by kernel_rfl) ?_ | skip); (conv => whnf); repeat ((first | refine aF ?_ | refine aT ?_); (first | refine run Γ hm 400 ?_ | refine runD Γ hm 400 (by kernel_rfl) ?_); conv => whnf))
    refine done rfl (.cons .tmp (.cons (.cell rfl rfl rfl rfl) (.cons .tmp .nil))) [] [] (fun _ h => h) (by rw [takeK, if_neg h7, if_pos h8]; rfl) rfl ⟨trivial, trivial, rfl, rfl⟩
  have h8 : ¬ kB y ≠ 0 := by
    have : (y[6].toNat : Int) = 0 := by simpa using h'
    rw [kB, hk]; omega
  ((first | refine run Γ hm 400 ?_ | refine runD Γ hm 400 (by kernel_rfl) ?_ | skip); (conv => whnf); repeat ((first | refine aF ?_ | refine aT ?_); (first | refine run Γ hm 400 ?_ | refine runD Γ hm 400 (by kernel_rfl) ?_); conv => whnf))
  refine ⟨fun h9 => ?_, fun h9 => ?_⟩
  · have h9 : t < 38 := by have := of_decide_eq_true h9; omega
    ((first | refine run Γ hm 400 ?_ | refine runD Γ hm 400 (by kernel_rfl) ?_ | skip); (conv => whnf); repeat ((first | refine aF ?_ | refine aT ?_); (first | refine run Γ hm 400 ?_ | refine runD Γ hm 400 (by kernel_rfl) ?_); conv => whnf))
    refine done rfl (.cons .tmp (.cons (.cell rfl rfl rfl rfl) (.cons .tmp .nil))) [] [] (fun _ h => h) (by rw [takeK, if_neg h7, if_neg h8, if_pos h9]; rfl) rfl ⟨trivial, trivial, rfl, rfl⟩
  have h9 : ¬ t < 38 := by have := of_decide_eq_false h9; omega
  ((first | refine run Γ hm 400 ?_ | refine runD Γ hm 400 (by kernel_rfl) ?_ | skip); (conv => whnf); repeat ((first | refine aF ?_ | refine aT ?_); (first | refine run Γ hm 400 ?_ | refine runD Γ hm 400 (by kernel_rfl) ?_); conv => whnf))
  refine ⟨fun h10 => ?_, fun h10 => ?_⟩
  · have h10 : 38 < t := by have := of_decide_eq_true h10; omega
    ((first | refine run Γ hm 400 ?_ | refine runD Γ hm 400 (by kernel_rfl) ?_ | skip); (conv => whnf); repeat ((first | refine aF ?_ | refine aT ?_); (first | refine run Γ hm 400 ?_ | refine runD Γ hm 400 (by kernel_rfl) ?_); conv => whnf))
    refine done rfl (.cons .tmp (.cons (.cell rfl rfl rfl rfl) (.cons .tmp .nil))) [] [] (fun _ h => h) (by rw [takeK, if_neg h7, if_neg h8, if_neg h9, if_pos h10]; rfl) rfl ⟨trivial, trivial, rfl, rfl⟩
  have h10 : ¬ 38 < t := by have := of_decide_eq_false h10; omega
  ((first | refine run Γ hm 400 ?_ | refine runD Γ hm 400 (by kernel_rfl) ?_ | skip); (conv => whnf); repeat ((first | refine aF ?_ | refine aT ?_); (first | refine run Γ hm 400 ?_ | refine runD Γ hm 400 (by kernel_rfl) ?_); conv => whnf))
  refine ⟨fun h' => absurd (h.symm.trans h') (by decide), fun _ => ?_⟩
  ((first | refine run Γ hm 400 ?_ | refine runD Γ hm 400 (by kernel_rfl) ?_ | skip); (conv => whnf); repeat ((first | refine aF ?_ | refine aT ?_); (first | refine run Γ hm 400 ?_ | refine runD Γ hm 400 (by kernel_rfl) ?_); conv => whnf))
  refine stepOp (good_slice_sl Γ.toTy (lo := 7) (hi := 38) rfl rfl rfl rfl (.inr ⟨_, _, rfl, rfl⟩) (.inr ⟨_, _, rfl, rfl⟩) (by omega) (by omega)) rfl rfl ?_
  ((first | refine run Γ hm 400 ?_ | refine runD Γ hm 400 (by kernel_rfl) ?_ | skip); (conv => whnf); repeat ((first | refine aF ?_ | refine aT ?_); (first | refine run Γ hm 400 ?_ | refine runD Γ hm 400 (by kernel_rfl) ?_); conv => whnf))
  have hx : ((y.take 38).drop 7).length = 31 := by simp; omega
  have hf := fB_x y (by omega)
  by_cases h11 : fB y ≠ 0 ∧ fB y ≠ 128
  · refine call0 (parse_bad _ hx (by rw [hf]; exact h11.1) (by rw [hf]; exact h11.2)) F67 rfl rfl rfl rfl rfl ?_
    ((first | refine run Γ hm 400 ?_ | refine runD Γ hm 400 (by kernel_rfl) ?_ | skip); (conv => whnf); repeat ((first | refine aF ?_ | refine aT ?_); (first | refine run Γ hm 400 ?_ | refine runD Γ hm 400 (by kernel_rfl) ?_); conv => whnf))
    refine done rfl (.cons .tmp (.cons (.cell rfl rfl rfl rfl) (.cons .tmp .nil))) [] [] (fun _ h => h) (by rw [takeK, if_neg h7, if_neg h8, if_neg h9, if_neg h10, if_pos h11]; rfl) rfl ⟨trivial, trivial, rfl, rfl⟩
  refine call0 (parse_ok _ hx (by rw [hf]; omega)) F67 rfl rfl rfl rfl rfl ?_
  ((first | refine run Γ hm 400 ?_ | refine runD Γ hm 400 (by kernel_rfl) ?_ | skip); (conv => whnf); repeat ((first | refine aF ?_ | refine aT ?_); (first | refine run Γ hm 400 ?_ | refine runD Γ hm 400 (by kernel_rfl) ?_); conv => whnf))
  refine ⟨(by kernel_rfl), ?_⟩
  ((first | refine run Γ hm 400 ?_ | refine runD Γ hm 400 (by kernel_rfl) ?_ | skip); (conv => whnf); repeat ((first | refine aF ?_ | refine aT ?_); (first | refine run Γ hm 400 ?_ | refine runD Γ hm 400 (by kernel_rfl) ?_); conv => whnf))
  refine done rfl (.cons .tmp (.cons (.cell rfl rfl rfl rfl) (.cons .tmp .nil))) [] [] (fun _ h => h) (by rw [takeK, if_neg h7, if_neg h8, if_neg h9, if_neg h10, if_neg h11]; rfl) rfl ⟨trivial, trivial, rfl, rfl⟩

theorem cutL (y : List UInt8) (lo k : Nat) (h7 : 7 ≤ lo) (h : lo + k ≤ 38) : (y.take (lo + k)).drop lo = (((y.take 38).drop 7).drop (lo - 7)).take k := by
  rw [List.drop_drop, show 7 + (lo - 7) = lo by omega, List.drop_take, List.drop_take, List.take_take, show lo + k - lo = k by omega, Nat.min_eq_left (by omega)]

theorem refMsg_eq (s : Nat) (x : List UInt8) (b : Bool) (c p1 p2 p3 p4 p5 : Int) (hb : b = decide ((x.getD 0 0).toNat = 128)) (hc : c = IntKind.i64.wrap (num ((x.drop 9).take 4))) (h1 : p1 = IntKind.i64.wrap (num ((x.drop 21).take 2))) (h2 : p2 = IntKind.i64.wrap (num ((x.drop 23).take 2)))
    (h3 : p3 = IntKind.i64.wrap (num ((x.drop 25).take 2))) (h4 : p4 = IntKind.i64.wrap (num ((x.drop 27).take 2))) (h5 : p5 = IntKind.i64.wrap (num ((x.drop 29).take 2))) :
    (takeSV (s, parsedX x, 0)) = .tup [u64SV s, .agg [boolSV false, boolSV b, u64SV (num ((x.drop 1).take 8)), u64SV (num ((x.drop 13).take 8)), intSV c, intSV p1, intSV p2, intSV p3, intSV p4, intSV p5], intSV 0] := by
  have key : ∀ k j : Nat, k ≤ 4 → IntKind.i64.wrap (num ((x.drop j).take k)) = (num ((x.drop j).take k) : Int) := fun k j hk => by
    have := num_take_lt (x.drop j) k
    have h3 := Nat.pow_le_pow_right (n := 256) (by omega) hk
    exact (i64_small _ (by omega)).symm
  rw [hb, hc, h1, h2, h3, h4, h5, key 4 9 (by decide), key 2 21 (by decide), key 2 23 (by decide), key 2 25 (by decide), key 2 27 (by decide), key 2 29 (by decide)]
  rfl

end Go.Sy.YthbgklhegccckaaGreat

namespace Go.Sy.YthbgklhegccckaaGreat
open Go.Proofs

attribute [local irreducible] Go.Sy.G Go.Sy.DR
set_option maxRecDepth 100000
set_option maxHeartbeats 4000000

theorem num_cons (x : UInt8) (l : List UInt8) : num (x :: l) = x.toNat * 256 ^ l.length + num l := by
  have key : ∀ (l : List UInt8) (n : Nat), l.foldl (fun n b => n * 256 + b.toNat) n = n * 256 ^ l.length + l.foldl (fun n b => n * 256 + b.toNat) 0 := by
    intro l
    induction l with
    | nil => intro n; simp
    | cons b l ih =>
      intro n
      simp only [List.foldl_cons, List.length_cons]
      rw [ih (n * 256 + b.toNat), ih (0 * 256 + b.toNat), Nat.pow_succ, Nat.add_mul, Nat.zero_mul, Nat.zero_add, Nat.mul_assoc, Nat.mul_comm 256 (256 ^ l.length)]
      omega
  unfold num
  rw [List.foldl_cons, key l (0 * 256 + x.toNat)]
  simp

theorem num_be (m : Nat) : ∀ k, num (be k m) = m % 256 ^ k
  | 0 => by simp [be, num, Nat.mod_one]
  | k + 1 => by
    rw [be, num_cons, be_length, num_be m k, Nat.mod_pow_succ]
    have : (UInt8.ofNat (m / 256 ^ k)).toNat = m / 256 ^ k % 256 := by simp
    rw [this, Nat.mul_comm, Nat.add_comm]

theorem be_congr (m m' : Nat) : ∀ k, m % 256 ^ k = m' % 256 ^ k → be k m = be k m'
  | 0, _ => rfl
  | k + 1, h => by
    have h1 := Nat.mod_pow_succ (x := m) (b := 256) (k := k)
    have h2 := Nat.mod_pow_succ (x := m') (b := 256) (k := k)
    have hp : 0 < 256 ^ k := Nat.pow_pos (by decide)
    have hm := Nat.mod_lt m hp
    have hm' := Nat.mod_lt m' hp
    rw [h1, h2] at h
    have e1 : m % 256 ^ k = m' % 256 ^ k := by
      have := congrArg (· % 256 ^ k) h
      simpa [Nat.add_mul_mod_self_left, Nat.mod_eq_of_lt] using this
    have e2 : m / 256 ^ k % 256 = m' / 256 ^ k % 256 := by
      rw [e1] at h
      exact Nat.eq_of_mul_eq_mul_left hp (by omega)
    rw [be, be, be_congr m m' k e1]
    congr 1
    apply UInt8.toNat_inj.1
    simpa using e2

theorem be_num : ∀ l : List UInt8, be l.length (num l) = l
  | [] => rfl
  | x :: l => by
    have hp : 0 < 256 ^ l.length := Nat.pow_pos (by decide)
    have hl := num_lt l
    rw [List.length_cons, be, num_cons]
    have e1 : (x.toNat * 256 ^ l.length + num l) / 256 ^ l.length = x.toNat := by
      rw [Nat.mul_comm, Nat.mul_add_div hp, Nat.div_eq_of_lt hl, Nat.add_zero]
    have e2 : be l.length (x.toNat * 256 ^ l.length + num l) = be l.length (num l) := be_congr _ _ _ (by rw [Nat.mul_comm, Nat.mul_add_mod])
    rw [e1, e2, be_num l]
    congr 1
    simp

theorem be_num' (l : List UInt8) (k : Nat) (h : l.length = k) : be k (num l) = l := by subst h; exact be_num l

theorem right_ch (m : Msg) (h : m.ch = true) (hr : rightB m = true) : m = chMsg := by
  obtain ⟨b1, b2, n1, n2, i1, i2, i3, i4, i5, i6⟩ := m
  simp only at h
  subst h
  simp [rightB] at hr
  obtain ⟨h1, h2, h3, h4, h5, h6, h7, h8, h9⟩ := hr
  simp only [chMsg, Msg.mk.injEq]
  refine ⟨trivial, ?_, ?_, ?_, ?_, ?_, ?_, ?_, ?_, ?_⟩ <;> first | assumption | omega

theorem out_eq (src : Nat) (m : Msg) (tail : List UInt8) : outL src m ++ tail = be 6 toN ++ (be 6 src ++ (UInt8.ofNat ((bodyL m).length / 256) :: UInt8.ofNat (bodyL m).length :: (bodyL m ++ tail))) := by
  simp [outL, frame]

theorem take_out (src : Nat) (m : Msg) (tail : List UInt8) (hs : src < 281474976710656) (ht : tail.length ≤ 1000) : takeM (outL src m ++ tail) = takeY toN src (bodyL m).length (bodyL m ++ tail) := by
  have hl : (bodyL m).length ≤ 38 := by rw [bodyL_length]; split <;> omega
  rw [out_eq]
  have h6 := be_length toN 6
  have h6s := be_length src 6
  rw [takeM, if_neg (by simp [h6, h6s]; omega), if_neg (by simp [h6, h6s]; omega)]
  have e1 : (be 6 toN ++ (be 6 src ++ (UInt8.ofNat ((bodyL m).length / 256) :: UInt8.ofNat (bodyL m).length :: (bodyL m ++ tail)))).take 6 = be 6 toN := by rw [List.take_left' h6]
  have e2 : (be 6 toN ++ (be 6 src ++ (UInt8.ofNat ((bodyL m).length / 256) :: UInt8.ofNat (bodyL m).length :: (bodyL m ++ tail)))).drop 6 = be 6 src ++ (UInt8.ofNat ((bodyL m).length / 256) :: UInt8.ofNat (bodyL m).length :: (bodyL m ++ tail)) := by rw [List.drop_left' h6]
  have e3 : (be 6 toN ++ (be 6 src ++ (UInt8.ofNat ((bodyL m).length / 256) :: UInt8.ofNat (bodyL m).length :: (bodyL m ++ tail)))).drop 14 = bodyL m ++ tail := by
    rw [show 14 = 6 + 8 from rfl, ← List.drop_drop, e2, show 8 = 6 + 2 from rfl, ← List.drop_drop, List.drop_left' h6s]
    rfl
  have e4 : fT (be 6 toN ++ (be 6 src ++ (UInt8.ofNat ((bodyL m).length / 256) :: UInt8.ofNat (bodyL m).length :: (bodyL m ++ tail)))) = (bodyL m).length := by
    have d12 : ∀ (l : List UInt8) (i : Nat), l.getD i 0 = (l.drop i).getD 0 0 := fun l i => by simp [List.getD]
    have c12 : (be 6 toN ++ (be 6 src ++ (UInt8.ofNat ((bodyL m).length / 256) :: UInt8.ofNat (bodyL m).length :: (bodyL m ++ tail)))).drop 12 = (UInt8.ofNat ((bodyL m).length / 256) :: UInt8.ofNat (bodyL m).length :: (bodyL m ++ tail)) := by
      rw [show 12 = 6 + 6 from rfl, ← List.drop_drop, e2, List.drop_left' h6s]
    have c13 : (be 6 toN ++ (be 6 src ++ (UInt8.ofNat ((bodyL m).length / 256) :: UInt8.ofNat (bodyL m).length :: (bodyL m ++ tail)))).drop 13 = (UInt8.ofNat (bodyL m).length :: (bodyL m ++ tail)) := by
      rw [show 13 = 12 + 1 from rfl, ← List.drop_drop, c12]; rfl
    rw [fT, d12 _ 12, d12 _ 13, c12, c13]
    simp only [List.getD_cons_zero]
    generalize (bodyL m).length = q at *
    simp
    omega
  rw [e1, e2, e3, e4, List.take_left' h6s, num_be, num_be]
  have : src % 256 ^ 6 = src := Nat.mod_eq_of_lt (by omega)
  rw [this]
  rfl

theorem take_err (b : List UInt8) (h : (takeM b).2.2 ≠ 0) : (takeM b).1 = 0 ∧ (takeM b).2.1 = zeroMsg := by
  revert h
  unfold takeM takeY takeK
  (repeat' split) <;> simp

theorem kB_of (y : List UInt8) (x : UInt8) (r : List UInt8) (h : y = headL ++ (x :: r)) : kB y = x.toNat := by subst h; rfl

theorem fB_of (y : List UInt8) (x z : UInt8) (r : List UInt8) (h : y = headL ++ (x :: z :: r)) : fB y = z.toNat := by subst h; rfl

theorem flag_nat (b : Bool) : (flagB b).toNat = if b then 128 else 0 := by cases b <;> rfl

theorem num_be_small (n k : Nat) (h : n < 256 ^ k) : num (be k n) = n := by rw [num_be, Nat.mod_eq_of_lt h]

theorem restL_eq (m : Msg) : restL m = be 8 m.root ++ (be 4 m.cost.toNat ++ (be 8 m.bridge ++ (be 2 m.port.toNat ++ (be 2 m.age.toNat ++ (be 2 m.mx.toNat ++ (be 2 m.hello.toNat ++ be 2 m.wait.toNat)))))) := by
  simp [restL, pairsL]

theorem parsed_back (m : Msg) (hi : m.InRange) (hch : m.ch = false) (hs : m.Small) : parsedX (flagB m.ak :: restL m) = m := by
  obtain ⟨ch, ak, root, bridge, cost, port, age, mx, hello, wait⟩ := m
  obtain ⟨hc, ha⟩ := hs
  simp only at hch hc
  subst hch
  have h1 := ha port (by simp)
  have h2 := ha age (by simp)
  have h3 := ha mx (by simp)
  have h4 := ha hello (by simp)
  have h5 := ha wait (by simp)
  have hr := hi.root
  have hb := hi.bridge
  simp only at hr hb
  rw [restL_eq, parsedX]
  simp only
  have l8 := be_length root 8
  have c4 := be_length cost.toNat 4
  have b8 := be_length bridge 8
  have p2 := be_length port.toNat 2
  have a2 := be_length age.toNat 2
  have m2 := be_length mx.toNat 2
  have e2 := be_length hello.toNat 2
  have w2 := be_length wait.toNat 2
  have d1 : ∀ (x : UInt8) (l : List UInt8) (k : Nat), (x :: l).drop (k + 1) = l.drop k := fun _ _ _ => rfl
  have dr : ∀ (a l : List UInt8) (j k : Nat), a.length = j → (a ++ l).drop (j + k) = l.drop k := fun a l j k h => by rw [← List.drop_drop, List.drop_left' h]
  have q1 : ((flagB ak :: (be 8 root ++ (be 4 cost.toNat ++ (be 8 bridge ++ (be 2 port.toNat ++ (be 2 age.toNat ++ (be 2 mx.toNat ++ (be 2 hello.toNat ++ be 2 wait.toNat)))))))).drop 1).take 8 = be 8 root := by
    rw [d1 _ _ 0, List.drop_zero, List.take_left' l8]
  have q9 : ((flagB ak :: (be 8 root ++ (be 4 cost.toNat ++ (be 8 bridge ++ (be 2 port.toNat ++ (be 2 age.toNat ++ (be 2 mx.toNat ++ (be 2 hello.toNat ++ be 2 wait.toNat)))))))).drop 9).take 4 = be 4 cost.toNat := by
    rw [d1 _ _ 8, dr _ _ 8 0 l8, List.drop_zero, List.take_left' c4]
  have q13 : ((flagB ak :: (be 8 root ++ (be 4 cost.toNat ++ (be 8 bridge ++ (be 2 port.toNat ++ (be 2 age.toNat ++ (be 2 mx.toNat ++ (be 2 hello.toNat ++ be 2 wait.toNat)))))))).drop 13).take 8 = be 8 bridge := by
    rw [d1 _ _ 12, dr _ _ 8 4 l8, dr _ _ 4 0 c4, List.drop_zero, List.take_left' b8]
  have q21 : ((flagB ak :: (be 8 root ++ (be 4 cost.toNat ++ (be 8 bridge ++ (be 2 port.toNat ++ (be 2 age.toNat ++ (be 2 mx.toNat ++ (be 2 hello.toNat ++ be 2 wait.toNat)))))))).drop 21).take 2 = be 2 port.toNat := by
    rw [d1 _ _ 20, dr _ _ 8 12 l8, dr _ _ 4 8 c4, dr _ _ 8 0 b8, List.drop_zero, List.take_left' p2]
  have q23 : ((flagB ak :: (be 8 root ++ (be 4 cost.toNat ++ (be 8 bridge ++ (be 2 port.toNat ++ (be 2 age.toNat ++ (be 2 mx.toNat ++ (be 2 hello.toNat ++ be 2 wait.toNat)))))))).drop 23).take 2 = be 2 age.toNat := by
    rw [d1 _ _ 22, dr _ _ 8 14 l8, dr _ _ 4 10 c4, dr _ _ 8 2 b8, dr _ _ 2 0 p2, List.drop_zero, List.take_left' a2]
  have q25 : ((flagB ak :: (be 8 root ++ (be 4 cost.toNat ++ (be 8 bridge ++ (be 2 port.toNat ++ (be 2 age.toNat ++ (be 2 mx.toNat ++ (be 2 hello.toNat ++ be 2 wait.toNat)))))))).drop 25).take 2 = be 2 mx.toNat := by
    rw [d1 _ _ 24, dr _ _ 8 16 l8, dr _ _ 4 12 c4, dr _ _ 8 4 b8, dr _ _ 2 2 p2, dr _ _ 2 0 a2, List.drop_zero, List.take_left' m2]
  have q27 : ((flagB ak :: (be 8 root ++ (be 4 cost.toNat ++ (be 8 bridge ++ (be 2 port.toNat ++ (be 2 age.toNat ++ (be 2 mx.toNat ++ (be 2 hello.toNat ++ be 2 wait.toNat)))))))).drop 27).take 2 = be 2 hello.toNat := by
    rw [d1 _ _ 26, dr _ _ 8 18 l8, dr _ _ 4 14 c4, dr _ _ 8 6 b8, dr _ _ 2 4 p2, dr _ _ 2 2 a2, dr _ _ 2 0 m2, List.drop_zero, List.take_left' e2]
  have q29 : ((flagB ak :: (be 8 root ++ (be 4 cost.toNat ++ (be 8 bridge ++ (be 2 port.toNat ++ (be 2 age.toNat ++ (be 2 mx.toNat ++ (be 2 hello.toNat ++ be 2 wait.toNat)))))))).drop 29).take 2 = be 2 wait.toNat := by
    rw [d1 _ _ 28, dr _ _ 8 20 l8, dr _ _ 4 16 c4, dr _ _ 8 8 b8, dr _ _ 2 6 p2, dr _ _ 2 4 a2, dr _ _ 2 2 m2, dr _ _ 2 0 e2, List.drop_zero, List.take_of_length_le (by omega)]
  rw [q1, q9, q13, q21, q23, q25, q27, q29, num_be_small _ _ (by omega), num_be_small _ _ (by omega), num_be_small _ _ (by omega), num_be_small _ _ (by omega), num_be_small _ _ (by omega), num_be_small _ _ (by omega), num_be_small _ _ (by omega), num_be_small _ _ (by omega)]
  simp only [List.getD_cons_zero, flag_nat, Msg.mk.injEq]
  refine ⟨trivial, ?_, trivial, trivial, ?_, ?_, ?_, ?_, ?_, ?_⟩
  · cases ak <;> rfl
  all_goals omega

theorem put_take (src : Nat) (m : Msg) (tail : List UInt8) (hi : m.InRange) (hr : rightB m = true) (hs : src < 281474976710656) (ht : tail.length ≤ 1000) : takeM (outL src m ++ tail) = (src, m, 0) := by
  rw [take_out src m tail hs ht]
  cases hch : m.ch with
  | true =>
    have hm := right_ch m hch hr
    subst hm
    have hb : bodyL chMsg = headL ++ [128] := rfl
    rw [takeY, if_neg (by simp), if_neg (by rw [hb]; simp [headL]), if_neg (by rw [hb]; simp [headL]), takeK, if_pos (by rw [hb]; exact kB_of _ 128 tail (by simp)), if_neg (by decide), if_neg (by decide)]
  | false =>
    have hsm := rightB_smalls m hch hr
    have hb : bodyL m = headL ++ (0 :: flagB m.ak :: restL m) := by rw [bodyL, if_neg (by rw [hch]; decide)]; rfl
    have hl : (bodyL m).length = 38 := by rw [bodyL_length, hch]; rfl
    have hk : kB (bodyL m ++ tail) = 0 := by rw [hb]; exact kB_of _ 0 (flagB m.ak :: restL m ++ tail) (by simp)
    have hf : fB (bodyL m ++ tail) = (flagB m.ak).toNat := by rw [hb]; exact fB_of _ 0 (flagB m.ak) (restL m ++ tail) (by simp)
    have hp : parsed (bodyL m ++ tail) = m := by
      rw [parsed, List.take_left' hl, hb]
      exact parsed_back m hi hch hsm
    rw [takeY, if_neg (by simp), if_neg (by simp; omega), if_neg (by rw [hb]; simp [headL]), takeK, if_neg (by rw [hk]; decide), if_neg (by rw [hk]; decide), if_neg (by omega), if_neg (by omega), if_neg (by rw [hf, flag_nat]; split <;> omega), hp]

end Go.Sy.YthbgklhegccckaaGreat
