/-
  Plain laws of messages' bytes: what is put is taken as it was, and what is taken is put as it was.
-/
import Derived.Test.YtjfglngcfghfnaaC12
namespace Go.Sy.Ytjfglngcfghfnaa

theorem num_cons (x : UInt8) (l : List UInt8) : num (x :: l) = x.toNat * 256 ^ l.length + num l := by
  have key : ∀ (l : List UInt8) (n : Nat), l.foldl (fun n b => n * 256 + b.toNat) n = n * 256 ^ l.length + l.foldl (fun n b => n * 256 + b.toNat) 0 := by
    intro l
    induction l with
    | nil => intro n; simp
    | cons b l ih =>
      intro n
      simp only [List.foldl_cons, List.length_cons]
      rw [ih (n * 256 + b.toNat), ih (0 * 256 + b.toNat), Nat.pow_succ, Nat.add_mul, Nat.zero_mul, Nat.zero_add, Nat.mul_assoc, Nat.mul_comm 256 (256 ^ l.length)]
      omega
  unfold num
  rw [List.foldl_cons, key l (0 * 256 + x.toNat)]
  simp

theorem num_be (m : Nat) : ∀ k, num (be k m) = m % 256 ^ k
  | 0 => by simp [be, num, Nat.mod_one]
  | k + 1 => by
    rw [be, num_cons, be_length, num_be m k, Nat.mod_pow_succ]
    have : (UInt8.ofNat (m / 256 ^ k)).toNat = m / 256 ^ k % 256 := by simp
    rw [this, Nat.mul_comm, Nat.add_comm]

theorem be_congr (m m' : Nat) : ∀ k, m % 256 ^ k = m' % 256 ^ k → be k m = be k m'
  | 0, _ => rfl
  | k + 1, h => by
    have h1 := Nat.mod_pow_succ (x := m) (b := 256) (k := k)
    have h2 := Nat.mod_pow_succ (x := m') (b := 256) (k := k)
    have hp : 0 < 256 ^ k := Nat.pow_pos (by decide)
    have hm := Nat.mod_lt m hp
    have hm' := Nat.mod_lt m' hp
    rw [h1, h2] at h
    have e1 : m % 256 ^ k = m' % 256 ^ k := by
      have := congrArg (· % 256 ^ k) h
      simpa [Nat.add_mul_mod_self_left, Nat.mod_eq_of_lt] using this
    have e2 : m / 256 ^ k % 256 = m' / 256 ^ k % 256 := by
      rw [e1] at h
      exact Nat.eq_of_mul_eq_mul_left hp (by omega)
    rw [be, be, be_congr m m' k e1]
    congr 1
    apply UInt8.toNat_inj.1
    simpa using e2

theorem be_num : ∀ l : List UInt8, be l.length (num l) = l
  | [] => rfl
  | x :: l => by
    have hp : 0 < 256 ^ l.length := Nat.pow_pos (by decide)
    have hl := num_lt l
    rw [List.length_cons, be, num_cons]
    have e1 : (x.toNat * 256 ^ l.length + num l) / 256 ^ l.length = x.toNat := by
      rw [Nat.mul_comm, Nat.mul_add_div hp, Nat.div_eq_of_lt hl, Nat.add_zero]
    have e2 : be l.length (x.toNat * 256 ^ l.length + num l) = be l.length (num l) := be_congr _ _ _ (by rw [Nat.mul_comm, Nat.mul_add_mod])
    rw [e1, e2, be_num l]
    congr 1
    simp

theorem be_num' (l : List UInt8) (k : Nat) (h : l.length = k) : be k (num l) = l := by subst h; exact be_num l

theorem right_ch (m : Msg) (h : m.ch = true) (hr : rightB m = true) : m = chMsg := by
  obtain ⟨b1, b2, n1, n2, i1, i2, i3, i4, i5, i6⟩ := m
  simp only at h
  subst h
  simp [rightB] at hr
  obtain ⟨h1, h2, h3, h4, h5, h6, h7, h8, h9⟩ := hr
  simp only [chMsg, Msg.mk.injEq]
  refine ⟨trivial, ?_, ?_, ?_, ?_, ?_, ?_, ?_, ?_, ?_⟩ <;> first | assumption | omega

theorem out_eq (src : Nat) (m : Msg) (tail : List UInt8) : outL src m ++ tail = be 6 toN ++ (be 6 src ++ (UInt8.ofNat ((bodyL m).length / 256) :: UInt8.ofNat (bodyL m).length :: (bodyL m ++ tail))) := by
  simp [outL, frame]

theorem take_out (src : Nat) (m : Msg) (tail : List UInt8) (hs : src < 281474976710656) (ht : tail.length ≤ 1000) : takeM (outL src m ++ tail) = takeY toN src (bodyL m).length (bodyL m ++ tail) := by
  have hl : (bodyL m).length ≤ 38 := by rw [bodyL_length]; split <;> omega
  rw [out_eq]
  have h6 := be_length toN 6
  have h6s := be_length src 6
  rw [takeM, if_neg (by simp [h6, h6s]; omega), if_neg (by simp [h6, h6s]; omega)]
  have e1 : (be 6 toN ++ (be 6 src ++ (UInt8.ofNat ((bodyL m).length / 256) :: UInt8.ofNat (bodyL m).length :: (bodyL m ++ tail)))).take 6 = be 6 toN := by rw [List.take_left' h6]
  have e2 : (be 6 toN ++ (be 6 src ++ (UInt8.ofNat ((bodyL m).length / 256) :: UInt8.ofNat (bodyL m).length :: (bodyL m ++ tail)))).drop 6 = be 6 src ++ (UInt8.ofNat ((bodyL m).length / 256) :: UInt8.ofNat (bodyL m).length :: (bodyL m ++ tail)) := by rw [List.drop_left' h6]
  have e3 : (be 6 toN ++ (be 6 src ++ (UInt8.ofNat ((bodyL m).length / 256) :: UInt8.ofNat (bodyL m).length :: (bodyL m ++ tail)))).drop 14 = bodyL m ++ tail := by
    rw [show 14 = 6 + 8 from rfl, ← List.drop_drop, e2, show 8 = 6 + 2 from rfl, ← List.drop_drop, List.drop_left' h6s]
    rfl
  have e4 : fT (be 6 toN ++ (be 6 src ++ (UInt8.ofNat ((bodyL m).length / 256) :: UInt8.ofNat (bodyL m).length :: (bodyL m ++ tail)))) = (bodyL m).length := by
    have d12 : ∀ (l : List UInt8) (i : Nat), l.getD i 0 = (l.drop i).getD 0 0 := fun l i => by simp [List.getD]
    have c12 : (be 6 toN ++ (be 6 src ++ (UInt8.ofNat ((bodyL m).length / 256) :: UInt8.ofNat (bodyL m).length :: (bodyL m ++ tail)))).drop 12 = (UInt8.ofNat ((bodyL m).length / 256) :: UInt8.ofNat (bodyL m).length :: (bodyL m ++ tail)) := by
      rw [show 12 = 6 + 6 from rfl, ← List.drop_drop, e2, List.drop_left' h6s]
    have c13 : (be 6 toN ++ (be 6 src ++ (UInt8.ofNat ((bodyL m).length / 256) :: UInt8.ofNat (bodyL m).length :: (bodyL m ++ tail)))).drop 13 = (UInt8.ofNat (bodyL m).length :: (bodyL m ++ tail)) := by
      rw [show 13 = 12 + 1 from rfl, ← List.drop_drop, c12]; rfl
    rw [fT, d12 _ 12, d12 _ 13, c12, c13]
    simp only [List.getD_cons_zero]
    generalize (bodyL m).length = q at *
    simp
    omega
  rw [e1, e2, e3, e4, List.take_left' h6s, num_be, num_be]
  have : src % 256 ^ 6 = src := Nat.mod_eq_of_lt (by omega)
  rw [this]
  rfl
end Go.Sy.Ytjfglngcfghfnaa
