/-
  Contracts, 10: messages taken.
-/
import Derived.Test.YtjfglngcfghfnaaC9
import Derived.MapKept
namespace Go.Sy.Ytjfglngcfghfnaa
open Go.Proofs

attribute [local irreducible] Go.Sy.G Go.Sy.DR

set_option maxRecDepth 8000

def fT (l : List UInt8) : Nat := (l.getD 12 0).toNat * 256 + (l.getD 13 0).toNat
def kB (y : List UInt8) : Nat := (y.getD 6 0).toNat
def fB (y : List UInt8) : Nat := (y.getD 7 0).toNat

def parsed (y : List UInt8) : Msg := parsedX ((y.take 38).drop 7)

def takeK (s : Nat) (t : Nat) (y : List UInt8) : Nat × Msg × Nat :=
  if kB y = 128 then (if t < 7 then (0, zeroMsg, 10) else if 7 < t then (0, zeroMsg, 11) else (s, chMsg, 0))
  else if kB y ≠ 0 then (0, zeroMsg, 11)
  else if t < 38 then (0, zeroMsg, 10) else if 38 < t then (0, zeroMsg, 11) else if fB y ≠ 0 ∧ fB y ≠ 128 then (0, zeroMsg, 11) else (s, parsed y, 0)

def takeY (d s : Nat) (t : Nat) (y : List UInt8) : Nat × Msg × Nat :=
  if d ≠ toN then (0, zeroMsg, 11) else if y.length < t ∨ y.length < 7 then (0, zeroMsg, 10) else if y.take 6 ≠ headL then (0, zeroMsg, 11) else takeK s t y

def takeM (l : List UInt8) : Nat × Msg × Nat :=
  if l.length < 14 then (0, zeroMsg, 10) else if 1518 < l.length then (0, zeroMsg, 14)
  else takeY (num (l.take 6)) (num ((l.drop 6).take 6)) (fT l) (l.drop 14)

def takeSV (p : Nat × Msg × Nat) : SV := .tup [u64SV p.1, msgSV p.2.1, intSV p.2.2]

theorem getD_get (l : List UInt8) (i : Nat) (h : i < l.length) : l.getD i 0 = l[i] := by simp [List.getD, h]

theorem bytes_eq (a b : List UInt8) : ((⟨a.toArray⟩ : ByteArray) == (⟨b.toArray⟩ : ByteArray)) = decide (a = b) := by
  have key := Go.MapKept.bytes_beq (⟨a.toArray⟩ : ByteArray) ⟨b.toArray⟩
  by_cases h : a = b
  · subst h
    rw [decide_eq_true rfl]
    exact key.2 rfl
  · rw [decide_eq_false h]
    cases hb : ((⟨a.toArray⟩ : ByteArray) == (⟨b.toArray⟩ : ByteArray)) with
    | false => rfl
    | true =>
      have := congrArg (fun z : ByteArray => z.data.toList) (key.1 hb)
      exact absurd (by simpa using this) h

theorem fB_x (y : List UInt8) (h : 38 ≤ y.length) : (((y.take 38).drop 7).getD 0 0).toNat = fB y := by
  rw [fB, getD_get _ _ (by simp; omega), getD_get _ _ (by omega)]
  simp

theorem takeS (l : List UInt8) : Sy.Spec Try.prog 8 [.sl 1 byteSV l] [] (takeSV (takeM l)) [] := contract Γ hm 100 F8 Try.ntmps8 rfl fun F hF => by
  by_cases a1 : l.length < 14
  · have e : takeM l = (0, zeroMsg, 10) := by rw [takeM, if_pos a1]
    ((conv => whnf); repeat (first | (refine ⟨fun (h : false = true) => (Bool.false_ne_true h).elim, fun _ => ?_⟩; (conv => whnf)) | (refine ⟨fun _ => ?_, fun (h : true = false) => (Bool.false_ne_true h.symm).elim⟩; (conv => whnf))))
    refine call0 (etherTake_short l a1) F18 rfl rfl rfl rfl rfl (run Γ hm 400 ?_)
    ((conv => whnf); repeat (first | (refine ⟨fun (h : false = true) => (Bool.false_ne_true h).elim, fun _ => ?_⟩; (conv => whnf)) | (refine ⟨fun _ => ?_, fun (h : true = false) => (Bool.false_ne_true h.symm).elim⟩; (conv => whnf))))
    refine done rfl (.cons .tmp (.cons (.cell rfl rfl rfl rfl) (.cons .tmp .nil))) [] [] (fun _ h => h) (by rw [e]; rfl) rfl ⟨trivial, trivial, rfl, rfl⟩
  by_cases a2 : 1518 < l.length
  · have e : takeM l = (0, zeroMsg, 14) := by rw [takeM, if_neg a1, if_pos a2]
    ((conv => whnf); repeat (first | (refine ⟨fun (h : false = true) => (Bool.false_ne_true h).elim, fun _ => ?_⟩; (conv => whnf)) | (refine ⟨fun _ => ?_, fun (h : true = false) => (Bool.false_ne_true h.symm).elim⟩; (conv => whnf))))
    refine call0 (etherTake_long l a2) F18 rfl rfl rfl rfl rfl (run Γ hm 400 ?_)
    ((conv => whnf); repeat (first | (refine ⟨fun (h : false = true) => (Bool.false_ne_true h).elim, fun _ => ?_⟩; (conv => whnf)) | (refine ⟨fun _ => ?_, fun (h : true = false) => (Bool.false_ne_true h.symm).elim⟩; (conv => whnf))))
    refine done rfl (.cons .tmp (.cons (.cell rfl rfl rfl rfl) (.cons .tmp .nil))) [] [] (fun _ h => h) (by rw [e]; rfl) rfl ⟨trivial, trivial, rfl, rfl⟩
  have hc := etherTake_ok l (by omega) (by omega)
  have ht : l[12].toNat * 256 + l[13].toNat = fT l := by rw [fT, getD_get, getD_get]
  rw [ht] at hc
  have e0 : takeM l = takeY (num (l.take 6)) (num ((l.drop 6).take 6)) (fT l) (l.drop 14) := by rw [takeM, if_neg a1, if_neg a2]
  rw [e0]
  have hy : (l.drop 14).length < 1000000 := by simp; omega
  have hs6 := num6_lt (l.drop 6)
  have hlt12 : fT l < 65536 := by have := (l.getD 12 0).toNat_lt; have := (l.getD 13 0).toNat_lt; unfold fT; omega
  clear e0 ht
  generalize num (l.take 6) = d at *
  generalize num ((l.drop 6).take 6) = s at *
  generalize fT l = t at *
  generalize l.drop 14 = y at *
  ((conv => whnf); repeat (first | (refine ⟨fun (h : false = true) => (Bool.false_ne_true h).elim, fun _ => ?_⟩; (conv => whnf)) | (refine ⟨fun _ => ?_, fun (h : true = false) => (Bool.false_ne_true h.symm).elim⟩; (conv => whnf))))
  refine call0 hc F18 rfl rfl rfl rfl rfl (run Γ hm 400 ?_)
  ((conv => whnf); repeat (first | (refine ⟨fun (h : false = true) => (Bool.false_ne_true h).elim, fun _ => ?_⟩; (conv => whnf)) | (refine ⟨fun _ => ?_, fun (h : true = false) => (Bool.false_ne_true h.symm).elim⟩; (conv => whnf))))
  refine ⟨fun h => ?_, fun h => ?_⟩
  · have h3 : d ≠ toN := by
        have : (d : Int) ≠ 1652522221568 := by simpa using h
        unfold toN; omega
    ((conv => whnf); repeat (first | (refine ⟨fun (h : false = true) => (Bool.false_ne_true h).elim, fun _ => ?_⟩; (conv => whnf)) | (refine ⟨fun _ => ?_, fun (h : true = false) => (Bool.false_ne_true h.symm).elim⟩; (conv => whnf))))
    refine done rfl (.cons .tmp (.cons (.cell rfl rfl rfl rfl) (.cons .tmp .nil))) [] [] (fun _ h => h) (by rw [takeY, if_pos h3]; rfl) rfl ⟨trivial, trivial, rfl, rfl⟩
  have h3 : ¬ d ≠ toN := by
        have : (d : Int) = 1652522221568 := by simpa using h
        unfold toN; omega
  ((conv => whnf); repeat (first | (refine ⟨fun (h : false = true) => (Bool.false_ne_true h).elim, fun _ => ?_⟩; (conv => whnf)) | (refine ⟨fun _ => ?_, fun (h : true = false) => (Bool.false_ne_true h.symm).elim⟩; (conv => whnf))))
  refine ⟨fun h => ?_, fun h => ?_⟩
  · have h4 : y.length < t := by have := of_decide_eq_true h; omega
    ((conv => whnf); repeat (first | (refine ⟨fun (h : false = true) => (Bool.false_ne_true h).elim, fun _ => ?_⟩; (conv => whnf)) | (refine ⟨fun _ => ?_, fun (h : true = false) => (Bool.false_ne_true h.symm).elim⟩; (conv => whnf))))
    refine done rfl (.cons .tmp (.cons (.cell rfl rfl rfl rfl) (.cons .tmp .nil))) [] [] (fun _ h => h) (by rw [takeY, if_neg h3, if_pos (.inl h4)]; rfl) rfl ⟨trivial, trivial, rfl, rfl⟩
  have h4 : ¬ y.length < t := by have := of_decide_eq_false h; omega
  ((conv => whnf); repeat (first | (refine ⟨fun (h : false = true) => (Bool.false_ne_true h).elim, fun _ => ?_⟩; (conv => whnf)) | (refine ⟨fun _ => ?_, fun (h : true = false) => (Bool.false_ne_true h.symm).elim⟩; (conv => whnf))))
  refine ⟨fun h => ?_, fun h => ?_⟩
  · have h5 : y.length < 7 := by have := of_decide_eq_true h; omega
    ((conv => whnf); repeat (first | (refine ⟨fun (h : false = true) => (Bool.false_ne_true h).elim, fun _ => ?_⟩; (conv => whnf)) | (refine ⟨fun _ => ?_, fun (h : true = false) => (Bool.false_ne_true h.symm).elim⟩; (conv => whnf))))
    refine done rfl (.cons .tmp (.cons (.cell rfl rfl rfl rfl) (.cons .tmp .nil))) [] [] (fun _ h => h) (by rw [takeY, if_neg h3, if_pos (.inr h5)]; rfl) rfl ⟨trivial, trivial, rfl, rfl⟩
  have h5 : ¬ y.length < 7 := by have := of_decide_eq_false h; omega
  have h45 : ¬ (y.length < t ∨ y.length < 7) := by omega
  have hk : y.getD 6 0 = y[6] := getD_get _ _ (by omega)
  ((conv => whnf); repeat (first | (refine ⟨fun (h : false = true) => (Bool.false_ne_true h).elim, fun _ => ?_⟩; (conv => whnf)) | (refine ⟨fun _ => ?_, fun (h : true = false) => (Bool.false_ne_true h.symm).elim⟩; (conv => whnf))))
  refine stepOp (good_slice_sl Γ.toTy (lo := 0) (hi := 6) rfl rfl rfl rfl (.inl ⟨rfl, rfl⟩) (.inr ⟨_, _, rfl, rfl⟩) (by omega) (by omega)) rfl rfl (run Γ hm 400 ?_)
  ((conv => whnf); repeat (first | (refine ⟨fun (h : false = true) => (Bool.false_ne_true h).elim, fun _ => ?_⟩; (conv => whnf)) | (refine ⟨fun _ => ?_, fun (h : true = false) => (Bool.false_ne_true h.symm).elim⟩; (conv => whnf))))
  refine stepOp (good_stringT Γ.toTy rfl rfl rfl rfl rfl rfl rfl .sl) rfl rfl (run Γ hm 400 ?_)
  rw [List.drop_zero]
  have hq : ((⟨(y.take 6).toArray⟩ : ByteArray) == (⟨#[66, 66, 3, 0, 0, 0]⟩ : ByteArray)) = decide (y.take 6 = headL) := bytes_eq _ headL
  ((conv => whnf); repeat (first | (refine ⟨fun (h : false = true) => (Bool.false_ne_true h).elim, fun _ => ?_⟩; (conv => whnf)) | (refine ⟨fun _ => ?_, fun (h : true = false) => (Bool.false_ne_true h.symm).elim⟩; (conv => whnf))))
  refine ⟨fun h => ?_, fun h => ?_⟩
  · have h6 : y.take 6 ≠ headL := by
      have h := h
      rw [hq] at h
      simpa using h
    ((conv => whnf); repeat (first | (refine ⟨fun (h : false = true) => (Bool.false_ne_true h).elim, fun _ => ?_⟩; (conv => whnf)) | (refine ⟨fun _ => ?_, fun (h : true = false) => (Bool.false_ne_true h.symm).elim⟩; (conv => whnf))))
    refine done rfl (.cons .tmp (.cons (.cell rfl rfl rfl rfl) (.cons .tmp .nil))) [] [] (fun _ h => h) (by rw [takeY, if_neg h3, if_neg h45, if_pos h6]; rfl) rfl ⟨trivial, trivial, rfl, rfl⟩
  have h6 : ¬ y.take 6 ≠ headL := by
    have h := h
    rw [hq] at h
    simpa using h
  have e1 : takeY d s t y = takeK s t y := by rw [takeY, if_neg h3, if_neg h45, if_neg h6]
  rw [e1]
  ((conv => whnf); repeat (first | (refine ⟨fun (h : false = true) => (Bool.false_ne_true h).elim, fun _ => ?_⟩; (conv => whnf)) | (refine ⟨fun _ => ?_, fun (h : true = false) => (Bool.false_ne_true h.symm).elim⟩; (conv => whnf))))
  refine ⟨rfl, by omega, by omega, ?_⟩
  ((conv => whnf); repeat (first | (refine ⟨fun (h : false = true) => (Bool.false_ne_true h).elim, fun _ => ?_⟩; (conv => whnf)) | (refine ⟨fun _ => ?_, fun (h : true = false) => (Bool.false_ne_true h.symm).elim⟩; (conv => whnf))))
  refine ⟨fun h => ?_, fun h => ?_⟩
  · have h7 : kB y = 128 := by
      have : (y[6].toNat : Int) = 128 := by simpa using h
      rw [kB, hk]; omega
    ((conv => whnf); repeat (first | (refine ⟨fun (h : false = true) => (Bool.false_ne_true h).elim, fun _ => ?_⟩; (conv => whnf)) | (refine ⟨fun _ => ?_, fun (h : true = false) => (Bool.false_ne_true h.symm).elim⟩; (conv => whnf))))
    refine ⟨fun h8 => ?_, fun h8 => ?_⟩
    · have h8 : t < 7 := by have := of_decide_eq_true h8; omega
      ((conv => whnf); repeat (first | (refine ⟨fun (h : false = true) => (Bool.false_ne_true h).elim, fun _ => ?_⟩; (conv => whnf)) | (refine ⟨fun _ => ?_, fun (h : true = false) => (Bool.false_ne_true h.symm).elim⟩; (conv => whnf))))
      refine done rfl (.cons .tmp (.cons (.cell rfl rfl rfl rfl) (.cons .tmp .nil))) [] [] (fun _ h => h) (by rw [takeK, if_pos h7, if_pos h8]; rfl) rfl ⟨trivial, trivial, rfl, rfl⟩
    have h8 : ¬ t < 7 := by have := of_decide_eq_false h8; omega
    ((conv => whnf); repeat (first | (refine ⟨fun (h : false = true) => (Bool.false_ne_true h).elim, fun _ => ?_⟩; (conv => whnf)) | (refine ⟨fun _ => ?_, fun (h : true = false) => (Bool.false_ne_true h.symm).elim⟩; (conv => whnf))))
    refine ⟨fun h9 => ?_, fun h9 => ?_⟩
    · have h9 : 7 < t := by have := of_decide_eq_true h9; omega
      ((conv => whnf); repeat (first | (refine ⟨fun (h : false = true) => (Bool.false_ne_true h).elim, fun _ => ?_⟩; (conv => whnf)) | (refine ⟨fun _ => ?_, fun (h : true = false) => (Bool.false_ne_true h.symm).elim⟩; (conv => whnf))))
      refine done rfl (.cons .tmp (.cons (.cell rfl rfl rfl rfl) (.cons .tmp .nil))) [] [] (fun _ h => h) (by rw [takeK, if_pos h7, if_neg h8, if_pos h9]; rfl) rfl ⟨trivial, trivial, rfl, rfl⟩
    have h9 : ¬ 7 < t := by have := of_decide_eq_false h9; omega
    ((conv => whnf); repeat (first | (refine ⟨fun (h : false = true) => (Bool.false_ne_true h).elim, fun _ => ?_⟩; (conv => whnf)) | (refine ⟨fun _ => ?_, fun (h : true = false) => (Bool.false_ne_true h.symm).elim⟩; (conv => whnf))))
    refine ⟨fun _ => ?_, fun h' => absurd (h.symm.trans h') (by decide)⟩
    ((conv => whnf); repeat (first | (refine ⟨fun (h : false = true) => (Bool.false_ne_true h).elim, fun _ => ?_⟩; (conv => whnf)) | (refine ⟨fun _ => ?_, fun (h : true = false) => (Bool.false_ne_true h.symm).elim⟩; (conv => whnf))))
    refine done rfl (.cons .tmp (.cons (.cell rfl rfl rfl rfl) (.cons .tmp .nil))) [] [] (fun _ h => h) (by rw [takeK, if_pos h7, if_neg h8, if_neg h9]; rfl) rfl ⟨trivial, trivial, rfl, rfl⟩
  have h7 : ¬ kB y = 128 := by
    have : (y[6].toNat : Int) ≠ 128 := by simpa using h
    rw [kB, hk]; omega
  ((conv => whnf); repeat (first | (refine ⟨fun (h : false = true) => (Bool.false_ne_true h).elim, fun _ => ?_⟩; (conv => whnf)) | (refine ⟨fun _ => ?_, fun (h : true = false) => (Bool.false_ne_true h.symm).elim⟩; (conv => whnf))))
  refine ⟨fun h' => ?_, fun h' => ?_⟩
  rotate_left
  · have h8 : kB y ≠ 0 := by
      have : (y[6].toNat : Int) ≠ 0 := by simpa using h'
      rw [kB, hk]; omega
    ((conv => whnf); repeat (first | (refine ⟨fun (h : false = true) => (Bool.false_ne_true h).elim, fun _ => ?_⟩; (conv => whnf)) | (refine ⟨fun _ => ?_, fun (h : true = false) => (Bool.false_ne_true h.symm).elim⟩; (conv => whnf))))
    refine done rfl (.cons .tmp (.cons (.cell rfl rfl rfl rfl) (.cons .tmp .nil))) [] [] (fun _ h => h) (by rw [takeK, if_neg h7, if_pos h8]; rfl) rfl ⟨trivial, trivial, rfl, rfl⟩
  have h8 : ¬ kB y ≠ 0 := by
    have : (y[6].toNat : Int) = 0 := by simpa using h'
    rw [kB, hk]; omega
  ((conv => whnf); repeat (first | (refine ⟨fun (h : false = true) => (Bool.false_ne_true h).elim, fun _ => ?_⟩; (conv => whnf)) | (refine ⟨fun _ => ?_, fun (h : true = false) => (Bool.false_ne_true h.symm).elim⟩; (conv => whnf))))
  refine ⟨fun h9 => ?_, fun h9 => ?_⟩
  · have h9 : t < 38 := by have := of_decide_eq_true h9; omega
    ((conv => whnf); repeat (first | (refine ⟨fun (h : false = true) => (Bool.false_ne_true h).elim, fun _ => ?_⟩; (conv => whnf)) | (refine ⟨fun _ => ?_, fun (h : true = false) => (Bool.false_ne_true h.symm).elim⟩; (conv => whnf))))
    refine done rfl (.cons .tmp (.cons (.cell rfl rfl rfl rfl) (.cons .tmp .nil))) [] [] (fun _ h => h) (by rw [takeK, if_neg h7, if_neg h8, if_pos h9]; rfl) rfl ⟨trivial, trivial, rfl, rfl⟩
  have h9 : ¬ t < 38 := by have := of_decide_eq_false h9; omega
  ((conv => whnf); repeat (first | (refine ⟨fun (h : false = true) => (Bool.false_ne_true h).elim, fun _ => ?_⟩; (conv => whnf)) | (refine ⟨fun _ => ?_, fun (h : true = false) => (Bool.false_ne_true h.symm).elim⟩; (conv => whnf))))
  refine ⟨fun h10 => ?_, fun h10 => ?_⟩
  · have h10 : 38 < t := by have := of_decide_eq_true h10; omega
    ((conv => whnf); repeat (first | (refine ⟨fun (h : false = true) => (Bool.false_ne_true h).elim, fun _ => ?_⟩; (conv => whnf)) | (refine ⟨fun _ => ?_, fun (h : true = false) => (Bool.false_ne_true h.symm).elim⟩; (conv => whnf))))
    refine done rfl (.cons .tmp (.cons (.cell rfl rfl rfl rfl) (.cons .tmp .nil))) [] [] (fun _ h => h) (by rw [takeK, if_neg h7, if_neg h8, if_neg h9, if_pos h10]; rfl) rfl ⟨trivial, trivial, rfl, rfl⟩
  have h10 : ¬ 38 < t := by have := of_decide_eq_false h10; omega
  ((conv => whnf); repeat (first | (refine ⟨fun (h : false = true) => (Bool.false_ne_true h).elim, fun _ => ?_⟩; (conv => whnf)) | (refine ⟨fun _ => ?_, fun (h : true = false) => (Bool.false_ne_true h.symm).elim⟩; (conv => whnf))))
  refine ⟨fun h' => absurd (h.symm.trans h') (by decide), fun _ => ?_⟩
  ((conv => whnf); repeat (first | (refine ⟨fun (h : false = true) => (Bool.false_ne_true h).elim, fun _ => ?_⟩; (conv => whnf)) | (refine ⟨fun _ => ?_, fun (h : true = false) => (Bool.false_ne_true h.symm).elim⟩; (conv => whnf))))
  refine stepOp (good_slice_sl Γ.toTy (lo := 7) (hi := 38) rfl rfl rfl rfl (.inr ⟨_, _, rfl, rfl⟩) (.inr ⟨_, _, rfl, rfl⟩) (by omega) (by omega)) rfl rfl (run Γ hm 400 ?_)
  ((conv => whnf); repeat (first | (refine ⟨fun (h : false = true) => (Bool.false_ne_true h).elim, fun _ => ?_⟩; (conv => whnf)) | (refine ⟨fun _ => ?_, fun (h : true = false) => (Bool.false_ne_true h.symm).elim⟩; (conv => whnf))))
  have hx : ((y.take 38).drop 7).length = 31 := by simp; omega
  have hf := fB_x y (by omega)
  by_cases h11 : fB y ≠ 0 ∧ fB y ≠ 128
  · refine call0 (parse_bad _ hx (by rw [hf]; exact h11.1) (by rw [hf]; exact h11.2)) F19 rfl rfl rfl rfl rfl (run Γ hm 400 ?_)
    ((conv => whnf); repeat (first | (refine ⟨fun (h : false = true) => (Bool.false_ne_true h).elim, fun _ => ?_⟩; (conv => whnf)) | (refine ⟨fun _ => ?_, fun (h : true = false) => (Bool.false_ne_true h.symm).elim⟩; (conv => whnf))))
    refine done rfl (.cons .tmp (.cons (.cell rfl rfl rfl rfl) (.cons .tmp .nil))) [] [] (fun _ h => h) (by rw [takeK, if_neg h7, if_neg h8, if_neg h9, if_neg h10, if_pos h11]; rfl) rfl ⟨trivial, trivial, rfl, rfl⟩
  refine call0 (parse_ok _ hx (by rw [hf]; omega)) F19 rfl rfl rfl rfl rfl (run Γ hm 400 ?_)
  ((conv => whnf); repeat (first | (refine ⟨fun (h : false = true) => (Bool.false_ne_true h).elim, fun _ => ?_⟩; (conv => whnf)) | (refine ⟨fun _ => ?_, fun (h : true = false) => (Bool.false_ne_true h.symm).elim⟩; (conv => whnf))))
  refine ⟨(by kernel_rfl), ?_⟩
  ((conv => whnf); repeat (first | (refine ⟨fun (h : false = true) => (Bool.false_ne_true h).elim, fun _ => ?_⟩; (conv => whnf)) | (refine ⟨fun _ => ?_, fun (h : true = false) => (Bool.false_ne_true h.symm).elim⟩; (conv => whnf))))
  refine done rfl (.cons .tmp (.cons (.cell rfl rfl rfl rfl) (.cons .tmp .nil))) [] [] (fun _ h => h) (by rw [takeK, if_neg h7, if_neg h8, if_neg h9, if_neg h10, if_neg h11]; rfl) rfl ⟨trivial, trivial, rfl, rfl⟩

theorem cutL (y : List UInt8) (lo k : Nat) (h7 : 7 ≤ lo) (h : lo + k ≤ 38) : (y.take (lo + k)).drop lo = (((y.take 38).drop 7).drop (lo - 7)).take k := by
  rw [List.drop_drop, show 7 + (lo - 7) = lo by omega, List.drop_take, List.drop_take, List.take_take, show lo + k - lo = k by omega, Nat.min_eq_left (by omega)]

theorem refMsg_eq (s : Nat) (x : List UInt8) (b : Bool) (c p1 p2 p3 p4 p5 : Int) (hb : b = decide ((x.getD 0 0).toNat = 128)) (hc : c = IntKind.i64.wrap (num ((x.drop 9).take 4))) (h1 : p1 = IntKind.i64.wrap (num ((x.drop 21).take 2))) (h2 : p2 = IntKind.i64.wrap (num ((x.drop 23).take 2)))
    (h3 : p3 = IntKind.i64.wrap (num ((x.drop 25).take 2))) (h4 : p4 = IntKind.i64.wrap (num ((x.drop 27).take 2))) (h5 : p5 = IntKind.i64.wrap (num ((x.drop 29).take 2))) :
    (takeSV (s, parsedX x, 0)) = .tup [u64SV s, .agg [boolSV false, boolSV b, u64SV (num ((x.drop 1).take 8)), u64SV (num ((x.drop 13).take 8)), intSV c, intSV p1, intSV p2, intSV p3, intSV p4, intSV p5], intSV 0] := by
  have key : ∀ k j : Nat, k ≤ 4 → IntKind.i64.wrap (num ((x.drop j).take k)) = (num ((x.drop j).take k) : Int) := fun k j hk => by
    have := num_take_lt (x.drop j) k
    have h3 := Nat.pow_le_pow_right (n := 256) (by omega) hk
    exact (i64_small _ (by omega)).symm
  rw [hb, hc, h1, h2, h3, h4, h5, key 4 9 (by decide), key 2 21 (by decide), key 2 23 (by decide), key 2 25 (by decide), key 2 27 (by decide), key 2 29 (by decide)]
  rfl

theorem refTakeS (l : List UInt8) : Sy.Spec Try.prog 9 [.sl 1 byteSV l] [] (takeSV (takeM l)) [] := contract Γ hm 100 F9 Try.ntmps9 rfl fun F hF => by
  by_cases a1 : l.length < 14
  · have e : takeM l = (0, zeroMsg, 10) := by rw [takeM, if_pos a1]
    ((conv => whnf); repeat (first | (refine ⟨fun (h : false = true) => (Bool.false_ne_true h).elim, fun _ => ?_⟩; (conv => whnf)) | (refine ⟨fun _ => ?_, fun (h : true = false) => (Bool.false_ne_true h.symm).elim⟩; (conv => whnf))))
    refine call0 (refTake_short l a1) F20 rfl rfl rfl rfl rfl (run Γ hm 400 ?_)
    ((conv => whnf); repeat (first | (refine ⟨fun (h : false = true) => (Bool.false_ne_true h).elim, fun _ => ?_⟩; (conv => whnf)) | (refine ⟨fun _ => ?_, fun (h : true = false) => (Bool.false_ne_true h.symm).elim⟩; (conv => whnf))))
    refine done rfl (.cons .tmp (.cons (.cell rfl rfl rfl rfl) (.cons .tmp .nil))) [] [] (fun _ h => h) (by rw [e]; rfl) rfl ⟨trivial, trivial, rfl, rfl⟩
  by_cases a2 : 1518 < l.length
  · have e : takeM l = (0, zeroMsg, 14) := by rw [takeM, if_neg a1, if_pos a2]
    ((conv => whnf); repeat (first | (refine ⟨fun (h : false = true) => (Bool.false_ne_true h).elim, fun _ => ?_⟩; (conv => whnf)) | (refine ⟨fun _ => ?_, fun (h : true = false) => (Bool.false_ne_true h.symm).elim⟩; (conv => whnf))))
    refine call0 (refTake_long l a2) F20 rfl rfl rfl rfl rfl (run Γ hm 400 ?_)
    ((conv => whnf); repeat (first | (refine ⟨fun (h : false = true) => (Bool.false_ne_true h).elim, fun _ => ?_⟩; (conv => whnf)) | (refine ⟨fun _ => ?_, fun (h : true = false) => (Bool.false_ne_true h.symm).elim⟩; (conv => whnf))))
    refine done rfl (.cons .tmp (.cons (.cell rfl rfl rfl rfl) (.cons .tmp .nil))) [] [] (fun _ h => h) (by rw [e]; rfl) rfl ⟨trivial, trivial, rfl, rfl⟩
  have hc := refTake_ok l (by omega) (by omega)
  have ht : l[12].toNat * 256 + l[13].toNat = fT l := by rw [fT, getD_get, getD_get]
  rw [ht] at hc
  have e0 : takeM l = takeY (num (l.take 6)) (num ((l.drop 6).take 6)) (fT l) (l.drop 14) := by rw [takeM, if_neg a1, if_neg a2]
  rw [e0]
  have hy : (l.drop 14).length < 1000000 := by simp; omega
  have hs6 := num6_lt (l.drop 6)
  have hlt12 : fT l < 65536 := by have := (l.getD 12 0).toNat_lt; have := (l.getD 13 0).toNat_lt; unfold fT; omega
  clear e0 ht
  generalize num (l.take 6) = d at *
  generalize num ((l.drop 6).take 6) = s at *
  generalize fT l = t at *
  generalize l.drop 14 = y at *
  ((conv => whnf); repeat (first | (refine ⟨fun (h : false = true) => (Bool.false_ne_true h).elim, fun _ => ?_⟩; (conv => whnf)) | (refine ⟨fun _ => ?_, fun (h : true = false) => (Bool.false_ne_true h.symm).elim⟩; (conv => whnf))))
  refine call0 hc F20 rfl rfl rfl rfl rfl (run Γ hm 400 ?_)
  ((conv => whnf); repeat (first | (refine ⟨fun (h : false = true) => (Bool.false_ne_true h).elim, fun _ => ?_⟩; (conv => whnf)) | (refine ⟨fun _ => ?_, fun (h : true = false) => (Bool.false_ne_true h.symm).elim⟩; (conv => whnf))))
  refine ⟨fun h => ?_, fun h => ?_⟩
  · have h3 : d ≠ toN := by
        have : (d : Int) ≠ 1652522221568 := by simpa using h
        unfold toN; omega
    ((conv => whnf); repeat (first | (refine ⟨fun (h : false = true) => (Bool.false_ne_true h).elim, fun _ => ?_⟩; (conv => whnf)) | (refine ⟨fun _ => ?_, fun (h : true = false) => (Bool.false_ne_true h.symm).elim⟩; (conv => whnf))))
    refine done rfl (.cons .tmp (.cons (.cell rfl rfl rfl rfl) (.cons .tmp .nil))) [] [] (fun _ h => h) (by rw [takeY, if_pos h3]; rfl) rfl ⟨trivial, trivial, rfl, rfl⟩
  have h3 : ¬ d ≠ toN := by
        have : (d : Int) = 1652522221568 := by simpa using h
        unfold toN; omega
  ((conv => whnf); repeat (first | (refine ⟨fun (h : false = true) => (Bool.false_ne_true h).elim, fun _ => ?_⟩; (conv => whnf)) | (refine ⟨fun _ => ?_, fun (h : true = false) => (Bool.false_ne_true h.symm).elim⟩; (conv => whnf))))
  refine ⟨fun h => ?_, fun h => ?_⟩
  · have h4 : y.length < t := by have := of_decide_eq_true h; omega
    ((conv => whnf); repeat (first | (refine ⟨fun (h : false = true) => (Bool.false_ne_true h).elim, fun _ => ?_⟩; (conv => whnf)) | (refine ⟨fun _ => ?_, fun (h : true = false) => (Bool.false_ne_true h.symm).elim⟩; (conv => whnf))))
    refine done rfl (.cons .tmp (.cons (.cell rfl rfl rfl rfl) (.cons .tmp .nil))) [] [] (fun _ h => h) (by rw [takeY, if_neg h3, if_pos (.inl h4)]; rfl) rfl ⟨trivial, trivial, rfl, rfl⟩
  have h4 : ¬ y.length < t := by have := of_decide_eq_false h; omega
  ((conv => whnf); repeat (first | (refine ⟨fun (h : false = true) => (Bool.false_ne_true h).elim, fun _ => ?_⟩; (conv => whnf)) | (refine ⟨fun _ => ?_, fun (h : true = false) => (Bool.false_ne_true h.symm).elim⟩; (conv => whnf))))
  refine ⟨fun h => ?_, fun h => ?_⟩
  · have h5 : y.length < 7 := by have := of_decide_eq_true h; omega
    ((conv => whnf); repeat (first | (refine ⟨fun (h : false = true) => (Bool.false_ne_true h).elim, fun _ => ?_⟩; (conv => whnf)) | (refine ⟨fun _ => ?_, fun (h : true = false) => (Bool.false_ne_true h.symm).elim⟩; (conv => whnf))))
    refine done rfl (.cons .tmp (.cons (.cell rfl rfl rfl rfl) (.cons .tmp .nil))) [] [] (fun _ h => h) (by rw [takeY, if_neg h3, if_pos (.inr h5)]; rfl) rfl ⟨trivial, trivial, rfl, rfl⟩
  have h5 : ¬ y.length < 7 := by have := of_decide_eq_false h; omega
  have h45 : ¬ (y.length < t ∨ y.length < 7) := by omega
  have hk : y.getD 6 0 = y[6] := getD_get _ _ (by omega)
  ((conv => whnf); repeat (first | (refine ⟨fun (h : false = true) => (Bool.false_ne_true h).elim, fun _ => ?_⟩; (conv => whnf)) | (refine ⟨fun _ => ?_, fun (h : true = false) => (Bool.false_ne_true h.symm).elim⟩; (conv => whnf))))
  refine stepOp (good_slice_sl Γ.toTy (lo := 0) (hi := 6) rfl rfl rfl rfl (.inl ⟨rfl, rfl⟩) (.inr ⟨_, _, rfl, rfl⟩) (by omega) (by omega)) rfl rfl (run Γ hm 400 ?_)
  ((conv => whnf); repeat (first | (refine ⟨fun (h : false = true) => (Bool.false_ne_true h).elim, fun _ => ?_⟩; (conv => whnf)) | (refine ⟨fun _ => ?_, fun (h : true = false) => (Bool.false_ne_true h.symm).elim⟩; (conv => whnf))))
  refine stepOp (good_stringT Γ.toTy rfl rfl rfl rfl rfl rfl rfl .sl) rfl rfl (run Γ hm 400 ?_)
  rw [List.drop_zero]
  have hq : ((⟨(y.take 6).toArray⟩ : ByteArray) == (⟨#[66, 66, 3, 0, 0, 0]⟩ : ByteArray)) = decide (y.take 6 = headL) := bytes_eq _ headL
  ((conv => whnf); repeat (first | (refine ⟨fun (h : false = true) => (Bool.false_ne_true h).elim, fun _ => ?_⟩; (conv => whnf)) | (refine ⟨fun _ => ?_, fun (h : true = false) => (Bool.false_ne_true h.symm).elim⟩; (conv => whnf))))
  refine ⟨fun h => ?_, fun h => ?_⟩
  · have h6 : y.take 6 ≠ headL := by
      have h := h
      rw [hq] at h
      simpa using h
    ((conv => whnf); repeat (first | (refine ⟨fun (h : false = true) => (Bool.false_ne_true h).elim, fun _ => ?_⟩; (conv => whnf)) | (refine ⟨fun _ => ?_, fun (h : true = false) => (Bool.false_ne_true h.symm).elim⟩; (conv => whnf))))
    refine done rfl (.cons .tmp (.cons (.cell rfl rfl rfl rfl) (.cons .tmp .nil))) [] [] (fun _ h => h) (by rw [takeY, if_neg h3, if_neg h45, if_pos h6]; rfl) rfl ⟨trivial, trivial, rfl, rfl⟩
  have h6 : ¬ y.take 6 ≠ headL := by
    have h := h
    rw [hq] at h
    simpa using h
  have e1 : takeY d s t y = takeK s t y := by rw [takeY, if_neg h3, if_neg h45, if_neg h6]
  rw [e1]
  ((conv => whnf); repeat (first | (refine ⟨fun (h : false = true) => (Bool.false_ne_true h).elim, fun _ => ?_⟩; (conv => whnf)) | (refine ⟨fun _ => ?_, fun (h : true = false) => (Bool.false_ne_true h.symm).elim⟩; (conv => whnf))))
  refine ⟨rfl, by omega, by omega, ?_⟩
  ((conv => whnf); repeat (first | (refine ⟨fun (h : false = true) => (Bool.false_ne_true h).elim, fun _ => ?_⟩; (conv => whnf)) | (refine ⟨fun _ => ?_, fun (h : true = false) => (Bool.false_ne_true h.symm).elim⟩; (conv => whnf))))
  refine ⟨fun h => ?_, fun h => ?_⟩
  · have hn0 : kB y ≠ 0 := by
      have : (y[6].toNat : Int) ≠ 0 := by simpa using h
      rw [kB, hk]; omega
    ((conv => whnf); repeat (first | (refine ⟨fun (h : false = true) => (Bool.false_ne_true h).elim, fun _ => ?_⟩; (conv => whnf)) | (refine ⟨fun _ => ?_, fun (h : true = false) => (Bool.false_ne_true h.symm).elim⟩; (conv => whnf))))
    refine ⟨rfl, by omega, by omega, ?_⟩
    ((conv => whnf); repeat (first | (refine ⟨fun (h : false = true) => (Bool.false_ne_true h).elim, fun _ => ?_⟩; (conv => whnf)) | (refine ⟨fun _ => ?_, fun (h : true = false) => (Bool.false_ne_true h.symm).elim⟩; (conv => whnf))))
    refine ⟨fun h1 => ?_, fun h1 => ?_⟩
    · have h7 : ¬ kB y = 128 := by
        have : (y[6].toNat : Int) ≠ 128 := by simpa using h1
        rw [kB, hk]; omega
      ((conv => whnf); repeat (first | (refine ⟨fun (h : false = true) => (Bool.false_ne_true h).elim, fun _ => ?_⟩; (conv => whnf)) | (refine ⟨fun _ => ?_, fun (h : true = false) => (Bool.false_ne_true h.symm).elim⟩; (conv => whnf))))
      refine done rfl (.cons .tmp (.cons (.cell rfl rfl rfl rfl) (.cons .tmp .nil))) [] [] (fun _ h => h) (by rw [takeK, if_neg h7, if_pos hn0]; rfl) rfl ⟨trivial, trivial, rfl, rfl⟩
    have h7 : kB y = 128 := by
      have : (y[6].toNat : Int) = 128 := by simpa using h1
      rw [kB, hk]; omega
    ((conv => whnf); repeat (first | (refine ⟨fun (h : false = true) => (Bool.false_ne_true h).elim, fun _ => ?_⟩; (conv => whnf)) | (refine ⟨fun _ => ?_, fun (h : true = false) => (Bool.false_ne_true h.symm).elim⟩; (conv => whnf))))
    refine ⟨rfl, by omega, by omega, ?_⟩
    ((conv => whnf); repeat (first | (refine ⟨fun (h : false = true) => (Bool.false_ne_true h).elim, fun _ => ?_⟩; (conv => whnf)) | (refine ⟨fun _ => ?_, fun (h : true = false) => (Bool.false_ne_true h.symm).elim⟩; (conv => whnf))))
    refine ⟨fun _ => ?_, fun h' => absurd h' (by rw [kB, hk] at h7; simp [h7])⟩
    ((conv => whnf); repeat (first | (refine ⟨fun (h : false = true) => (Bool.false_ne_true h).elim, fun _ => ?_⟩; (conv => whnf)) | (refine ⟨fun _ => ?_, fun (h : true = false) => (Bool.false_ne_true h.symm).elim⟩; (conv => whnf))))
    refine ⟨fun h8 => ?_, fun h8 => ?_⟩
    · have h8 : t < 7 := by have := of_decide_eq_true h8; omega
      ((conv => whnf); repeat (first | (refine ⟨fun (h : false = true) => (Bool.false_ne_true h).elim, fun _ => ?_⟩; (conv => whnf)) | (refine ⟨fun _ => ?_, fun (h : true = false) => (Bool.false_ne_true h.symm).elim⟩; (conv => whnf))))
      refine done rfl (.cons .tmp (.cons (.cell rfl rfl rfl rfl) (.cons .tmp .nil))) [] [] (fun _ h => h) (by rw [takeK, if_pos h7, if_pos h8]; rfl) rfl ⟨trivial, trivial, rfl, rfl⟩
    have h8 : ¬ t < 7 := by have := of_decide_eq_false h8; omega
    ((conv => whnf); repeat (first | (refine ⟨fun (h : false = true) => (Bool.false_ne_true h).elim, fun _ => ?_⟩; (conv => whnf)) | (refine ⟨fun _ => ?_, fun (h : true = false) => (Bool.false_ne_true h.symm).elim⟩; (conv => whnf))))
    refine ⟨fun h9 => ?_, fun h9 => ?_⟩
    · have h9 : 7 < t := by have := of_decide_eq_true h9; omega
      ((conv => whnf); repeat (first | (refine ⟨fun (h : false = true) => (Bool.false_ne_true h).elim, fun _ => ?_⟩; (conv => whnf)) | (refine ⟨fun _ => ?_, fun (h : true = false) => (Bool.false_ne_true h.symm).elim⟩; (conv => whnf))))
      refine done rfl (.cons .tmp (.cons (.cell rfl rfl rfl rfl) (.cons .tmp .nil))) [] [] (fun _ h => h) (by rw [takeK, if_pos h7, if_neg h8, if_pos h9]; rfl) rfl ⟨trivial, trivial, rfl, rfl⟩
    have h9 : ¬ 7 < t := by have := of_decide_eq_false h9; omega
    ((conv => whnf); repeat (first | (refine ⟨fun (h : false = true) => (Bool.false_ne_true h).elim, fun _ => ?_⟩; (conv => whnf)) | (refine ⟨fun _ => ?_, fun (h : true = false) => (Bool.false_ne_true h.symm).elim⟩; (conv => whnf))))
    refine done rfl (.cons .tmp (.cons (.cell rfl rfl rfl rfl) (.cons .tmp .nil))) [] [] (fun _ h => h) (by rw [takeK, if_pos h7, if_neg h8, if_neg h9]; rfl) rfl ⟨trivial, trivial, rfl, rfl⟩
  have h8 : ¬ kB y ≠ 0 := by
    have : (y[6].toNat : Int) = 0 := by simpa using h
    rw [kB, hk]; omega
  have h7 : ¬ kB y = 128 := by omega
  ((conv => whnf); repeat (first | (refine ⟨fun (h : false = true) => (Bool.false_ne_true h).elim, fun _ => ?_⟩; (conv => whnf)) | (refine ⟨fun _ => ?_, fun (h : true = false) => (Bool.false_ne_true h.symm).elim⟩; (conv => whnf))))
  refine ⟨rfl, by omega, by omega, ?_⟩
  ((conv => whnf); repeat (first | (refine ⟨fun (h : false = true) => (Bool.false_ne_true h).elim, fun _ => ?_⟩; (conv => whnf)) | (refine ⟨fun _ => ?_, fun (h : true = false) => (Bool.false_ne_true h.symm).elim⟩; (conv => whnf))))
  have hz : kB y = 0 := by omega
  refine ⟨fun h' => absurd h' (by rw [kB, hk] at hz; simp [hz]), fun _ => ?_⟩
  ((conv => whnf); repeat (first | (refine ⟨fun (h : false = true) => (Bool.false_ne_true h).elim, fun _ => ?_⟩; (conv => whnf)) | (refine ⟨fun _ => ?_, fun (h : true = false) => (Bool.false_ne_true h.symm).elim⟩; (conv => whnf))))
  refine ⟨fun h9 => ?_, fun h9 => ?_⟩
  · have h9 : t < 38 := by have := of_decide_eq_true h9; omega
    ((conv => whnf); repeat (first | (refine ⟨fun (h : false = true) => (Bool.false_ne_true h).elim, fun _ => ?_⟩; (conv => whnf)) | (refine ⟨fun _ => ?_, fun (h : true = false) => (Bool.false_ne_true h.symm).elim⟩; (conv => whnf))))
    refine done rfl (.cons .tmp (.cons (.cell rfl rfl rfl rfl) (.cons .tmp .nil))) [] [] (fun _ h => h) (by rw [takeK, if_neg h7, if_neg h8, if_pos h9]; rfl) rfl ⟨trivial, trivial, rfl, rfl⟩
  have h9 : ¬ t < 38 := by have := of_decide_eq_false h9; omega
  ((conv => whnf); repeat (first | (refine ⟨fun (h : false = true) => (Bool.false_ne_true h).elim, fun _ => ?_⟩; (conv => whnf)) | (refine ⟨fun _ => ?_, fun (h : true = false) => (Bool.false_ne_true h.symm).elim⟩; (conv => whnf))))
  refine ⟨fun h10 => ?_, fun h10 => ?_⟩
  · have h10 : 38 < t := by have := of_decide_eq_true h10; omega
    ((conv => whnf); repeat (first | (refine ⟨fun (h : false = true) => (Bool.false_ne_true h).elim, fun _ => ?_⟩; (conv => whnf)) | (refine ⟨fun _ => ?_, fun (h : true = false) => (Bool.false_ne_true h.symm).elim⟩; (conv => whnf))))
    refine done rfl (.cons .tmp (.cons (.cell rfl rfl rfl rfl) (.cons .tmp .nil))) [] [] (fun _ h => h) (by rw [takeK, if_neg h7, if_neg h8, if_neg h9, if_pos h10]; rfl) rfl ⟨trivial, trivial, rfl, rfl⟩
  have h10 : ¬ 38 < t := by have := of_decide_eq_false h10; omega
  have h7g : y.getD 7 0 = y[7] := getD_get _ _ (by omega)
  ((conv => whnf); repeat (first | (refine ⟨fun (h : false = true) => (Bool.false_ne_true h).elim, fun _ => ?_⟩; (conv => whnf)) | (refine ⟨fun _ => ?_, fun (h : true = false) => (Bool.false_ne_true h.symm).elim⟩; (conv => whnf))))
  refine ⟨rfl, by omega, by omega, ?_⟩
  ((conv => whnf); repeat (first | (refine ⟨fun (h : false = true) => (Bool.false_ne_true h).elim, fun _ => ?_⟩; (conv => whnf)) | (refine ⟨fun _ => ?_, fun (h : true = false) => (Bool.false_ne_true h.symm).elim⟩; (conv => whnf))))
  refine ⟨fun h => ?_, fun h => ?_⟩
  · have hn0 : fB y ≠ 0 := by
      have : (y[7].toNat : Int) ≠ 0 := by simpa using h
      rw [fB, h7g]; omega
    ((conv => whnf); repeat (first | (refine ⟨fun (h : false = true) => (Bool.false_ne_true h).elim, fun _ => ?_⟩; (conv => whnf)) | (refine ⟨fun _ => ?_, fun (h : true = false) => (Bool.false_ne_true h.symm).elim⟩; (conv => whnf))))
    refine ⟨rfl, by omega, by omega, ?_⟩
    ((conv => whnf); repeat (first | (refine ⟨fun (h : false = true) => (Bool.false_ne_true h).elim, fun _ => ?_⟩; (conv => whnf)) | (refine ⟨fun _ => ?_, fun (h : true = false) => (Bool.false_ne_true h.symm).elim⟩; (conv => whnf))))
    refine ⟨fun h1 => ?_, fun h1 => ?_⟩
    · have hn1 : fB y ≠ 128 := by
        have : (y[7].toNat : Int) ≠ 128 := by simpa using h1
        rw [fB, h7g]; omega
      ((conv => whnf); repeat (first | (refine ⟨fun (h : false = true) => (Bool.false_ne_true h).elim, fun _ => ?_⟩; (conv => whnf)) | (refine ⟨fun _ => ?_, fun (h : true = false) => (Bool.false_ne_true h.symm).elim⟩; (conv => whnf))))
      refine done rfl (.cons .tmp (.cons (.cell rfl rfl rfl rfl) (.cons .tmp .nil))) [] [] (fun _ h => h) (by rw [takeK, if_neg h7, if_neg h8, if_neg h9, if_neg h10, if_pos ⟨hn0, hn1⟩]; rfl) rfl ⟨trivial, trivial, rfl, rfl⟩
    have hn1 : fB y = 128 := by
      have : (y[7].toNat : Int) = 128 := by simpa using h1
      rw [fB, h7g]; omega
    have h11 : ¬ (fB y ≠ 0 ∧ fB y ≠ 128) := by omega
    have hak : ((y[7].toNat : Int) == 128) = decide ((((y.take 38).drop 7).getD 0 0).toNat = 128) := by
      rw [fB_x y (by omega), fB, h7g]
      by_cases hh : y[7].toNat = 128 <;> simp [hh]
      omega
    ((conv => whnf); repeat (first | (refine ⟨fun (h : false = true) => (Bool.false_ne_true h).elim, fun _ => ?_⟩; (conv => whnf)) | (refine ⟨fun _ => ?_, fun (h : true = false) => (Bool.false_ne_true h.symm).elim⟩; (conv => whnf))))
    refine ⟨rfl, by omega, by omega, ?_⟩
    ((conv => whnf); repeat (first | (refine ⟨fun (h : false = true) => (Bool.false_ne_true h).elim, fun _ => ?_⟩; (conv => whnf)) | (refine ⟨fun _ => ?_, fun (h : true = false) => (Bool.false_ne_true h.symm).elim⟩; (conv => whnf))))
    have hc8 := number21 ((y.take 16).drop 8) (by simp; omega)
    rw [show (y.take 16).drop 8 = (((y.take 38).drop 7).drop 1).take 8 from cutL y 8 8 (by omega) (by omega), Int.emod_eq_of_lt (by omega) (by have := num_take_lt (((y.take 38).drop 7).drop 1) 8; omega)] at hc8
    refine stepD (good_slice_sl Γ.toTy (lo := 8) (hi := 16) rfl rfl rfl rfl (.inr ⟨_, _, rfl, rfl⟩) (.inr ⟨_, _, rfl, rfl⟩) (by omega) (by omega)) (by kernel_rfl) rfl (runD Γ hm 400 (by kernel_rfl) ?_)
    rw [show (y.take 16).drop 8 = (((y.take 38).drop 7).drop 1).take 8 from cutL y 8 8 (by omega) (by omega)]
    ((conv => whnf); repeat (first | (refine ⟨fun (h : false = true) => (Bool.false_ne_true h).elim, fun _ => ?_⟩; (conv => whnf)) | (refine ⟨fun _ => ?_, fun (h : true = false) => (Bool.false_ne_true h.symm).elim⟩; (conv => whnf))))
    refine callD0 hc8 F21 rfl rfl rfl (by kernel_rfl) rfl (runD Γ hm 400 (by kernel_rfl) ?_)
    ((conv => whnf); repeat (first | (refine ⟨fun (h : false = true) => (Bool.false_ne_true h).elim, fun _ => ?_⟩; (conv => whnf)) | (refine ⟨fun _ => ?_, fun (h : true = false) => (Bool.false_ne_true h.symm).elim⟩; (conv => whnf))))
    have hc16 := number21 ((y.take 20).drop 16) (by simp; omega)
    rw [show (y.take 20).drop 16 = (((y.take 38).drop 7).drop 9).take 4 from cutL y 16 4 (by omega) (by omega), Int.emod_eq_of_lt (by omega) (by have := num_take_lt (((y.take 38).drop 7).drop 9) 4; omega)] at hc16
    refine stepD (good_slice_sl Γ.toTy (lo := 16) (hi := 20) rfl rfl rfl rfl (.inr ⟨_, _, rfl, rfl⟩) (.inr ⟨_, _, rfl, rfl⟩) (by omega) (by omega)) (by kernel_rfl) rfl (runD Γ hm 400 (by kernel_rfl) ?_)
    rw [show (y.take 20).drop 16 = (((y.take 38).drop 7).drop 9).take 4 from cutL y 16 4 (by omega) (by omega)]
    ((conv => whnf); repeat (first | (refine ⟨fun (h : false = true) => (Bool.false_ne_true h).elim, fun _ => ?_⟩; (conv => whnf)) | (refine ⟨fun _ => ?_, fun (h : true = false) => (Bool.false_ne_true h.symm).elim⟩; (conv => whnf))))
    refine callD0 hc16 F21 rfl rfl rfl (by kernel_rfl) rfl (runD Γ hm 400 (by kernel_rfl) ?_)
    ((conv => whnf); repeat (first | (refine ⟨fun (h : false = true) => (Bool.false_ne_true h).elim, fun _ => ?_⟩; (conv => whnf)) | (refine ⟨fun _ => ?_, fun (h : true = false) => (Bool.false_ne_true h.symm).elim⟩; (conv => whnf))))
    have hc20 := number21 ((y.take 28).drop 20) (by simp; omega)
    rw [show (y.take 28).drop 20 = (((y.take 38).drop 7).drop 13).take 8 from cutL y 20 8 (by omega) (by omega), Int.emod_eq_of_lt (by omega) (by have := num_take_lt (((y.take 38).drop 7).drop 13) 8; omega)] at hc20
    refine stepD (good_slice_sl Γ.toTy (lo := 20) (hi := 28) rfl rfl rfl rfl (.inr ⟨_, _, rfl, rfl⟩) (.inr ⟨_, _, rfl, rfl⟩) (by omega) (by omega)) (by kernel_rfl) rfl (runD Γ hm 400 (by kernel_rfl) ?_)
    rw [show (y.take 28).drop 20 = (((y.take 38).drop 7).drop 13).take 8 from cutL y 20 8 (by omega) (by omega)]
    ((conv => whnf); repeat (first | (refine ⟨fun (h : false = true) => (Bool.false_ne_true h).elim, fun _ => ?_⟩; (conv => whnf)) | (refine ⟨fun _ => ?_, fun (h : true = false) => (Bool.false_ne_true h.symm).elim⟩; (conv => whnf))))
    refine callD0 hc20 F21 rfl rfl rfl (by kernel_rfl) rfl (runD Γ hm 400 (by kernel_rfl) ?_)
    ((conv => whnf); repeat (first | (refine ⟨fun (h : false = true) => (Bool.false_ne_true h).elim, fun _ => ?_⟩; (conv => whnf)) | (refine ⟨fun _ => ?_, fun (h : true = false) => (Bool.false_ne_true h.symm).elim⟩; (conv => whnf))))
    refine ⟨(by kernel_rfl), ?_⟩
    ((conv => whnf); repeat (first | (refine ⟨fun (h : false = true) => (Bool.false_ne_true h).elim, fun _ => ?_⟩; (conv => whnf)) | (refine ⟨fun _ => ?_, fun (h : true = false) => (Bool.false_ne_true h.symm).elim⟩; (conv => whnf))))
    have hc28 := number21 ((y.take 30).drop 28) (by simp; omega)
    rw [show (y.take 30).drop 28 = (((y.take 38).drop 7).drop 21).take 2 from cutL y 28 2 (by omega) (by omega), Int.emod_eq_of_lt (by omega) (by have := num_take_lt (((y.take 38).drop 7).drop 21) 2; omega)] at hc28
    refine stepOp (good_slice_sl Γ.toTy (lo := 28) (hi := 30) rfl rfl rfl rfl (.inr ⟨_, _, rfl, rfl⟩) (.inr ⟨_, _, rfl, rfl⟩) (by omega) (by omega)) rfl rfl (run Γ hm 400 ?_)
    rw [show (y.take 30).drop 28 = (((y.take 38).drop 7).drop 21).take 2 from cutL y 28 2 (by omega) (by omega)]
    ((conv => whnf); repeat (first | (refine ⟨fun (h : false = true) => (Bool.false_ne_true h).elim, fun _ => ?_⟩; (conv => whnf)) | (refine ⟨fun _ => ?_, fun (h : true = false) => (Bool.false_ne_true h.symm).elim⟩; (conv => whnf))))
    refine call0 hc28 F21 rfl rfl rfl rfl rfl (run Γ hm 400 ?_)
    ((conv => whnf); repeat (first | (refine ⟨fun (h : false = true) => (Bool.false_ne_true h).elim, fun _ => ?_⟩; (conv => whnf)) | (refine ⟨fun _ => ?_, fun (h : true = false) => (Bool.false_ne_true h.symm).elim⟩; (conv => whnf))))
    have hc30 := number21 ((y.take 32).drop 30) (by simp; omega)
    rw [show (y.take 32).drop 30 = (((y.take 38).drop 7).drop 23).take 2 from cutL y 30 2 (by omega) (by omega), Int.emod_eq_of_lt (by omega) (by have := num_take_lt (((y.take 38).drop 7).drop 23) 2; omega)] at hc30
    refine stepOp (good_slice_sl Γ.toTy (lo := 30) (hi := 32) rfl rfl rfl rfl (.inr ⟨_, _, rfl, rfl⟩) (.inr ⟨_, _, rfl, rfl⟩) (by omega) (by omega)) rfl rfl (run Γ hm 400 ?_)
    rw [show (y.take 32).drop 30 = (((y.take 38).drop 7).drop 23).take 2 from cutL y 30 2 (by omega) (by omega)]
    ((conv => whnf); repeat (first | (refine ⟨fun (h : false = true) => (Bool.false_ne_true h).elim, fun _ => ?_⟩; (conv => whnf)) | (refine ⟨fun _ => ?_, fun (h : true = false) => (Bool.false_ne_true h.symm).elim⟩; (conv => whnf))))
    refine call0 hc30 F21 rfl rfl rfl rfl rfl (run Γ hm 400 ?_)
    ((conv => whnf); repeat (first | (refine ⟨fun (h : false = true) => (Bool.false_ne_true h).elim, fun _ => ?_⟩; (conv => whnf)) | (refine ⟨fun _ => ?_, fun (h : true = false) => (Bool.false_ne_true h.symm).elim⟩; (conv => whnf))))
    have hc32 := number21 ((y.take 34).drop 32) (by simp; omega)
    rw [show (y.take 34).drop 32 = (((y.take 38).drop 7).drop 25).take 2 from cutL y 32 2 (by omega) (by omega), Int.emod_eq_of_lt (by omega) (by have := num_take_lt (((y.take 38).drop 7).drop 25) 2; omega)] at hc32
    refine stepOp (good_slice_sl Γ.toTy (lo := 32) (hi := 34) rfl rfl rfl rfl (.inr ⟨_, _, rfl, rfl⟩) (.inr ⟨_, _, rfl, rfl⟩) (by omega) (by omega)) rfl rfl (run Γ hm 400 ?_)
    rw [show (y.take 34).drop 32 = (((y.take 38).drop 7).drop 25).take 2 from cutL y 32 2 (by omega) (by omega)]
    ((conv => whnf); repeat (first | (refine ⟨fun (h : false = true) => (Bool.false_ne_true h).elim, fun _ => ?_⟩; (conv => whnf)) | (refine ⟨fun _ => ?_, fun (h : true = false) => (Bool.false_ne_true h.symm).elim⟩; (conv => whnf))))
    refine call0 hc32 F21 rfl rfl rfl rfl rfl (run Γ hm 400 ?_)
    ((conv => whnf); repeat (first | (refine ⟨fun (h : false = true) => (Bool.false_ne_true h).elim, fun _ => ?_⟩; (conv => whnf)) | (refine ⟨fun _ => ?_, fun (h : true = false) => (Bool.false_ne_true h.symm).elim⟩; (conv => whnf))))
    have hc34 := number21 ((y.take 36).drop 34) (by simp; omega)
    rw [show (y.take 36).drop 34 = (((y.take 38).drop 7).drop 27).take 2 from cutL y 34 2 (by omega) (by omega), Int.emod_eq_of_lt (by omega) (by have := num_take_lt (((y.take 38).drop 7).drop 27) 2; omega)] at hc34
    refine stepOp (good_slice_sl Γ.toTy (lo := 34) (hi := 36) rfl rfl rfl rfl (.inr ⟨_, _, rfl, rfl⟩) (.inr ⟨_, _, rfl, rfl⟩) (by omega) (by omega)) rfl rfl (run Γ hm 400 ?_)
    rw [show (y.take 36).drop 34 = (((y.take 38).drop 7).drop 27).take 2 from cutL y 34 2 (by omega) (by omega)]
    ((conv => whnf); repeat (first | (refine ⟨fun (h : false = true) => (Bool.false_ne_true h).elim, fun _ => ?_⟩; (conv => whnf)) | (refine ⟨fun _ => ?_, fun (h : true = false) => (Bool.false_ne_true h.symm).elim⟩; (conv => whnf))))
    refine call0 hc34 F21 rfl rfl rfl rfl rfl (run Γ hm 400 ?_)
    ((conv => whnf); repeat (first | (refine ⟨fun (h : false = true) => (Bool.false_ne_true h).elim, fun _ => ?_⟩; (conv => whnf)) | (refine ⟨fun _ => ?_, fun (h : true = false) => (Bool.false_ne_true h.symm).elim⟩; (conv => whnf))))
    have hc36 := number21 ((y.take 38).drop 36) (by simp; omega)
    rw [show (y.take 38).drop 36 = (((y.take 38).drop 7).drop 29).take 2 from cutL y 36 2 (by omega) (by omega), Int.emod_eq_of_lt (by omega) (by have := num_take_lt (((y.take 38).drop 7).drop 29) 2; omega)] at hc36
    refine stepOp (good_slice_sl Γ.toTy (lo := 36) (hi := 38) rfl rfl rfl rfl (.inr ⟨_, _, rfl, rfl⟩) (.inr ⟨_, _, rfl, rfl⟩) (by omega) (by omega)) rfl rfl (run Γ hm 400 ?_)
    rw [show (y.take 38).drop 36 = (((y.take 38).drop 7).drop 29).take 2 from cutL y 36 2 (by omega) (by omega)]
    ((conv => whnf); repeat (first | (refine ⟨fun (h : false = true) => (Bool.false_ne_true h).elim, fun _ => ?_⟩; (conv => whnf)) | (refine ⟨fun _ => ?_, fun (h : true = false) => (Bool.false_ne_true h.symm).elim⟩; (conv => whnf))))
    refine call0 hc36 F21 rfl rfl rfl rfl rfl (run Γ hm 400 ?_)
    ((conv => whnf); repeat (first | (refine ⟨fun (h : false = true) => (Bool.false_ne_true h).elim, fun _ => ?_⟩; (conv => whnf)) | (refine ⟨fun _ => ?_, fun (h : true = false) => (Bool.false_ne_true h.symm).elim⟩; (conv => whnf))))
    refine ⟨(by kernel_rfl), ?_⟩
    ((conv => whnf); repeat (first | (refine ⟨fun (h : false = true) => (Bool.false_ne_true h).elim, fun _ => ?_⟩; (conv => whnf)) | (refine ⟨fun _ => ?_, fun (h : true = false) => (Bool.false_ne_true h.symm).elim⟩; (conv => whnf))))
    refine done rfl (.cons .tmp (.cons (.cell rfl rfl rfl rfl) (.cons .tmp .nil))) [] [] (fun _ h => h) ?_ rfl ⟨trivial, trivial, rfl, rfl⟩
    rw [takeK, if_neg h7, if_neg h8, if_neg h9, if_neg h10, if_neg h11]
    exact refMsg_eq s ((y.take 38).drop 7) _ _ _ _ _ _ _ hak rfl rfl rfl rfl rfl rfl
  have hn0 : fB y = 0 := by
    have : (y[7].toNat : Int) = 0 := by simpa using h
    rw [fB, h7g]; omega
  have h11 : ¬ (fB y ≠ 0 ∧ fB y ≠ 128) := by omega
  have hak : ((y[7].toNat : Int) == 128) = decide ((((y.take 38).drop 7).getD 0 0).toNat = 128) := by
    rw [fB_x y (by omega), fB, h7g]
    by_cases hh : y[7].toNat = 128 <;> simp [hh]
    omega
  ((conv => whnf); repeat (first | (refine ⟨fun (h : false = true) => (Bool.false_ne_true h).elim, fun _ => ?_⟩; (conv => whnf)) | (refine ⟨fun _ => ?_, fun (h : true = false) => (Bool.false_ne_true h.symm).elim⟩; (conv => whnf))))
  refine ⟨rfl, by omega, by omega, ?_⟩
  ((conv => whnf); repeat (first | (refine ⟨fun (h : false = true) => (Bool.false_ne_true h).elim, fun _ => ?_⟩; (conv => whnf)) | (refine ⟨fun _ => ?_, fun (h : true = false) => (Bool.false_ne_true h.symm).elim⟩; (conv => whnf))))
  have hc8 := number21 ((y.take 16).drop 8) (by simp; omega)
  rw [show (y.take 16).drop 8 = (((y.take 38).drop 7).drop 1).take 8 from cutL y 8 8 (by omega) (by omega), Int.emod_eq_of_lt (by omega) (by have := num_take_lt (((y.take 38).drop 7).drop 1) 8; omega)] at hc8
  refine stepD (good_slice_sl Γ.toTy (lo := 8) (hi := 16) rfl rfl rfl rfl (.inr ⟨_, _, rfl, rfl⟩) (.inr ⟨_, _, rfl, rfl⟩) (by omega) (by omega)) (by kernel_rfl) rfl (runD Γ hm 400 (by kernel_rfl) ?_)
  rw [show (y.take 16).drop 8 = (((y.take 38).drop 7).drop 1).take 8 from cutL y 8 8 (by omega) (by omega)]
  ((conv => whnf); repeat (first | (refine ⟨fun (h : false = true) => (Bool.false_ne_true h).elim, fun _ => ?_⟩; (conv => whnf)) | (refine ⟨fun _ => ?_, fun (h : true = false) => (Bool.false_ne_true h.symm).elim⟩; (conv => whnf))))
  refine callD0 hc8 F21 rfl rfl rfl (by kernel_rfl) rfl (runD Γ hm 400 (by kernel_rfl) ?_)
  ((conv => whnf); repeat (first | (refine ⟨fun (h : false = true) => (Bool.false_ne_true h).elim, fun _ => ?_⟩; (conv => whnf)) | (refine ⟨fun _ => ?_, fun (h : true = false) => (Bool.false_ne_true h.symm).elim⟩; (conv => whnf))))
  have hc16 := number21 ((y.take 20).drop 16) (by simp; omega)
  rw [show (y.take 20).drop 16 = (((y.take 38).drop 7).drop 9).take 4 from cutL y 16 4 (by omega) (by omega), Int.emod_eq_of_lt (by omega) (by have := num_take_lt (((y.take 38).drop 7).drop 9) 4; omega)] at hc16
  refine stepD (good_slice_sl Γ.toTy (lo := 16) (hi := 20) rfl rfl rfl rfl (.inr ⟨_, _, rfl, rfl⟩) (.inr ⟨_, _, rfl, rfl⟩) (by omega) (by omega)) (by kernel_rfl) rfl (runD Γ hm 400 (by kernel_rfl) ?_)
  rw [show (y.take 20).drop 16 = (((y.take 38).drop 7).drop 9).take 4 from cutL y 16 4 (by omega) (by omega)]
  ((conv => whnf); repeat (first | (refine ⟨fun (h : false = true) => (Bool.false_ne_true h).elim, fun _ => ?_⟩; (conv => whnf)) | (refine ⟨fun _ => ?_, fun (h : true = false) => (Bool.false_ne_true h.symm).elim⟩; (conv => whnf))))
  refine callD0 hc16 F21 rfl rfl rfl (by kernel_rfl) rfl (runD Γ hm 400 (by kernel_rfl) ?_)
  ((conv => whnf); repeat (first | (refine ⟨fun (h : false = true) => (Bool.false_ne_true h).elim, fun _ => ?_⟩; (conv => whnf)) | (refine ⟨fun _ => ?_, fun (h : true = false) => (Bool.false_ne_true h.symm).elim⟩; (conv => whnf))))
  have hc20 := number21 ((y.take 28).drop 20) (by simp; omega)
  rw [show (y.take 28).drop 20 = (((y.take 38).drop 7).drop 13).take 8 from cutL y 20 8 (by omega) (by omega), Int.emod_eq_of_lt (by omega) (by have := num_take_lt (((y.take 38).drop 7).drop 13) 8; omega)] at hc20
  refine stepD (good_slice_sl Γ.toTy (lo := 20) (hi := 28) rfl rfl rfl rfl (.inr ⟨_, _, rfl, rfl⟩) (.inr ⟨_, _, rfl, rfl⟩) (by omega) (by omega)) (by kernel_rfl) rfl (runD Γ hm 400 (by kernel_rfl) ?_)
  rw [show (y.take 28).drop 20 = (((y.take 38).drop 7).drop 13).take 8 from cutL y 20 8 (by omega) (by omega)]
  ((conv => whnf); repeat (first | (refine ⟨fun (h : false = true) => (Bool.false_ne_true h).elim, fun _ => ?_⟩; (conv => whnf)) | (refine ⟨fun _ => ?_, fun (h : true = false) => (Bool.false_ne_true h.symm).elim⟩; (conv => whnf))))
  refine callD0 hc20 F21 rfl rfl rfl (by kernel_rfl) rfl (runD Γ hm 400 (by kernel_rfl) ?_)
  ((conv => whnf); repeat (first | (refine ⟨fun (h : false = true) => (Bool.false_ne_true h).elim, fun _ => ?_⟩; (conv => whnf)) | (refine ⟨fun _ => ?_, fun (h : true = false) => (Bool.false_ne_true h.symm).elim⟩; (conv => whnf))))
  refine ⟨(by kernel_rfl), ?_⟩
  ((conv => whnf); repeat (first | (refine ⟨fun (h : false = true) => (Bool.false_ne_true h).elim, fun _ => ?_⟩; (conv => whnf)) | (refine ⟨fun _ => ?_, fun (h : true = false) => (Bool.false_ne_true h.symm).elim⟩; (conv => whnf))))
  have hc28 := number21 ((y.take 30).drop 28) (by simp; omega)
  rw [show (y.take 30).drop 28 = (((y.take 38).drop 7).drop 21).take 2 from cutL y 28 2 (by omega) (by omega), Int.emod_eq_of_lt (by omega) (by have := num_take_lt (((y.take 38).drop 7).drop 21) 2; omega)] at hc28
  refine stepOp (good_slice_sl Γ.toTy (lo := 28) (hi := 30) rfl rfl rfl rfl (.inr ⟨_, _, rfl, rfl⟩) (.inr ⟨_, _, rfl, rfl⟩) (by omega) (by omega)) rfl rfl (run Γ hm 400 ?_)
  rw [show (y.take 30).drop 28 = (((y.take 38).drop 7).drop 21).take 2 from cutL y 28 2 (by omega) (by omega)]
  ((conv => whnf); repeat (first | (refine ⟨fun (h : false = true) => (Bool.false_ne_true h).elim, fun _ => ?_⟩; (conv => whnf)) | (refine ⟨fun _ => ?_, fun (h : true = false) => (Bool.false_ne_true h.symm).elim⟩; (conv => whnf))))
  refine call0 hc28 F21 rfl rfl rfl rfl rfl (run Γ hm 400 ?_)
  ((conv => whnf); repeat (first | (refine ⟨fun (h : false = true) => (Bool.false_ne_true h).elim, fun _ => ?_⟩; (conv => whnf)) | (refine ⟨fun _ => ?_, fun (h : true = false) => (Bool.false_ne_true h.symm).elim⟩; (conv => whnf))))
  have hc30 := number21 ((y.take 32).drop 30) (by simp; omega)
  rw [show (y.take 32).drop 30 = (((y.take 38).drop 7).drop 23).take 2 from cutL y 30 2 (by omega) (by omega), Int.emod_eq_of_lt (by omega) (by have := num_take_lt (((y.take 38).drop 7).drop 23) 2; omega)] at hc30
  refine stepOp (good_slice_sl Γ.toTy (lo := 30) (hi := 32) rfl rfl rfl rfl (.inr ⟨_, _, rfl, rfl⟩) (.inr ⟨_, _, rfl, rfl⟩) (by omega) (by omega)) rfl rfl (run Γ hm 400 ?_)
  rw [show (y.take 32).drop 30 = (((y.take 38).drop 7).drop 23).take 2 from cutL y 30 2 (by omega) (by omega)]
  ((conv => whnf); repeat (first | (refine ⟨fun (h : false = true) => (Bool.false_ne_true h).elim, fun _ => ?_⟩; (conv => whnf)) | (refine ⟨fun _ => ?_, fun (h : true = false) => (Bool.false_ne_true h.symm).elim⟩; (conv => whnf))))
  refine call0 hc30 F21 rfl rfl rfl rfl rfl (run Γ hm 400 ?_)
  ((conv => whnf); repeat (first | (refine ⟨fun (h : false = true) => (Bool.false_ne_true h).elim, fun _ => ?_⟩; (conv => whnf)) | (refine ⟨fun _ => ?_, fun (h : true = false) => (Bool.false_ne_true h.symm).elim⟩; (conv => whnf))))
  have hc32 := number21 ((y.take 34).drop 32) (by simp; omega)
  rw [show (y.take 34).drop 32 = (((y.take 38).drop 7).drop 25).take 2 from cutL y 32 2 (by omega) (by omega), Int.emod_eq_of_lt (by omega) (by have := num_take_lt (((y.take 38).drop 7).drop 25) 2; omega)] at hc32
  refine stepOp (good_slice_sl Γ.toTy (lo := 32) (hi := 34) rfl rfl rfl rfl (.inr ⟨_, _, rfl, rfl⟩) (.inr ⟨_, _, rfl, rfl⟩) (by omega) (by omega)) rfl rfl (run Γ hm 400 ?_)
  rw [show (y.take 34).drop 32 = (((y.take 38).drop 7).drop 25).take 2 from cutL y 32 2 (by omega) (by omega)]
  ((conv => whnf); repeat (first | (refine ⟨fun (h : false = true) => (Bool.false_ne_true h).elim, fun _ => ?_⟩; (conv => whnf)) | (refine ⟨fun _ => ?_, fun (h : true = false) => (Bool.false_ne_true h.symm).elim⟩; (conv => whnf))))
  refine call0 hc32 F21 rfl rfl rfl rfl rfl (run Γ hm 400 ?_)
  ((conv => whnf); repeat (first | (refine ⟨fun (h : false = true) => (Bool.false_ne_true h).elim, fun _ => ?_⟩; (conv => whnf)) | (refine ⟨fun _ => ?_, fun (h : true = false) => (Bool.false_ne_true h.symm).elim⟩; (conv => whnf))))
  have hc34 := number21 ((y.take 36).drop 34) (by simp; omega)
  rw [show (y.take 36).drop 34 = (((y.take 38).drop 7).drop 27).take 2 from cutL y 34 2 (by omega) (by omega), Int.emod_eq_of_lt (by omega) (by have := num_take_lt (((y.take 38).drop 7).drop 27) 2; omega)] at hc34
  refine stepOp (good_slice_sl Γ.toTy (lo := 34) (hi := 36) rfl rfl rfl rfl (.inr ⟨_, _, rfl, rfl⟩) (.inr ⟨_, _, rfl, rfl⟩) (by omega) (by omega)) rfl rfl (run Γ hm 400 ?_)
  rw [show (y.take 36).drop 34 = (((y.take 38).drop 7).drop 27).take 2 from cutL y 34 2 (by omega) (by omega)]
  ((conv => whnf); repeat (first | (refine ⟨fun (h : false = true) => (Bool.false_ne_true h).elim, fun _ => ?_⟩; (conv => whnf)) | (refine ⟨fun _ => ?_, fun (h : true = false) => (Bool.false_ne_true h.symm).elim⟩; (conv => whnf))))
  refine call0 hc34 F21 rfl rfl rfl rfl rfl (run Γ hm 400 ?_)
  ((conv => whnf); repeat (first | (refine ⟨fun (h : false = true) => (Bool.false_ne_true h).elim, fun _ => ?_⟩; (conv => whnf)) | (refine ⟨fun _ => ?_, fun (h : true = false) => (Bool.false_ne_true h.symm).elim⟩; (conv => whnf))))
  have hc36 := number21 ((y.take 38).drop 36) (by simp; omega)
  rw [show (y.take 38).drop 36 = (((y.take 38).drop 7).drop 29).take 2 from cutL y 36 2 (by omega) (by omega), Int.emod_eq_of_lt (by omega) (by have := num_take_lt (((y.take 38).drop 7).drop 29) 2; omega)] at hc36
  refine stepOp (good_slice_sl Γ.toTy (lo := 36) (hi := 38) rfl rfl rfl rfl (.inr ⟨_, _, rfl, rfl⟩) (.inr ⟨_, _, rfl, rfl⟩) (by omega) (by omega)) rfl rfl (run Γ hm 400 ?_)
  rw [show (y.take 38).drop 36 = (((y.take 38).drop 7).drop 29).take 2 from cutL y 36 2 (by omega) (by omega)]
  ((conv => whnf); repeat (first | (refine ⟨fun (h : false = true) => (Bool.false_ne_true h).elim, fun _ => ?_⟩; (conv => whnf)) | (refine ⟨fun _ => ?_, fun (h : true = false) => (Bool.false_ne_true h.symm).elim⟩; (conv => whnf))))
  refine call0 hc36 F21 rfl rfl rfl rfl rfl (run Γ hm 400 ?_)
  ((conv => whnf); repeat (first | (refine ⟨fun (h : false = true) => (Bool.false_ne_true h).elim, fun _ => ?_⟩; (conv => whnf)) | (refine ⟨fun _ => ?_, fun (h : true = false) => (Bool.false_ne_true h.symm).elim⟩; (conv => whnf))))
  refine ⟨(by kernel_rfl), ?_⟩
  ((conv => whnf); repeat (first | (refine ⟨fun (h : false = true) => (Bool.false_ne_true h).elim, fun _ => ?_⟩; (conv => whnf)) | (refine ⟨fun _ => ?_, fun (h : true = false) => (Bool.false_ne_true h.symm).elim⟩; (conv => whnf))))
  refine done rfl (.cons .tmp (.cons (.cell rfl rfl rfl rfl) (.cons .tmp .nil))) [] [] (fun _ h => h) ?_ rfl ⟨trivial, trivial, rfl, rfl⟩
  rw [takeK, if_neg h7, if_neg h8, if_neg h9, if_neg h10, if_neg h11]
  exact refMsg_eq s ((y.take 38).drop 7) _ _ _ _ _ _ _ hak rfl rfl rfl rfl rfl rfl

end Go.Sy.Ytjfglngcfghfnaa
