/-
  Plain laws of messages' bytes, the second part.
-/
import Derived.Test.YtjfglngcfghfnaaD1
namespace Go.Sy.Ytjfglngcfghfnaa

theorem take_err (b : List UInt8) (h : (takeM b).2.2 ≠ 0) : (takeM b).1 = 0 ∧ (takeM b).2.1 = zeroMsg := by
  revert h
  unfold takeM takeY takeK
  (repeat' split) <;> simp

theorem kB_of (y : List UInt8) (x : UInt8) (r : List UInt8) (h : y = headL ++ (x :: r)) : kB y = x.toNat := by subst h; rfl
theorem fB_of (y : List UInt8) (x z : UInt8) (r : List UInt8) (h : y = headL ++ (x :: z :: r)) : fB y = z.toNat := by subst h; rfl

theorem flag_nat (b : Bool) : (flagB b).toNat = if b then 128 else 0 := by cases b <;> rfl

theorem num_be_small (n k : Nat) (h : n < 256 ^ k) : num (be k n) = n := by rw [num_be, Nat.mod_eq_of_lt h]

theorem restL_eq (m : Msg) : restL m = be 8 m.root ++ (be 4 m.cost.toNat ++ (be 8 m.bridge ++ (be 2 m.port.toNat ++ (be 2 m.age.toNat ++ (be 2 m.mx.toNat ++ (be 2 m.hello.toNat ++ be 2 m.wait.toNat)))))) := by
  simp [restL, pairsL]

theorem parsed_back (m : Msg) (hi : m.InRange) (hch : m.ch = false) (hs : m.Small) : parsedX (flagB m.ak :: restL m) = m := by
  obtain ⟨ch, ak, root, bridge, cost, port, age, mx, hello, wait⟩ := m
  obtain ⟨hc, ha⟩ := hs
  simp only at hch hc
  subst hch
  have h1 := ha port (by simp)
  have h2 := ha age (by simp)
  have h3 := ha mx (by simp)
  have h4 := ha hello (by simp)
  have h5 := ha wait (by simp)
  have hr := hi.root
  have hb := hi.bridge
  simp only at hr hb
  rw [restL_eq, parsedX]
  simp only
  have l8 := be_length root 8
  have c4 := be_length cost.toNat 4
  have b8 := be_length bridge 8
  have p2 := be_length port.toNat 2
  have a2 := be_length age.toNat 2
  have m2 := be_length mx.toNat 2
  have e2 := be_length hello.toNat 2
  have w2 := be_length wait.toNat 2
  have d1 : ∀ (x : UInt8) (l : List UInt8) (k : Nat), (x :: l).drop (k + 1) = l.drop k := fun _ _ _ => rfl
  have dr : ∀ (a l : List UInt8) (j k : Nat), a.length = j → (a ++ l).drop (j + k) = l.drop k := fun a l j k h => by rw [← List.drop_drop, List.drop_left' h]
  have q1 : ((flagB ak :: (be 8 root ++ (be 4 cost.toNat ++ (be 8 bridge ++ (be 2 port.toNat ++ (be 2 age.toNat ++ (be 2 mx.toNat ++ (be 2 hello.toNat ++ be 2 wait.toNat)))))))).drop 1).take 8 = be 8 root := by
    rw [d1 _ _ 0, List.drop_zero, List.take_left' l8]
  have q9 : ((flagB ak :: (be 8 root ++ (be 4 cost.toNat ++ (be 8 bridge ++ (be 2 port.toNat ++ (be 2 age.toNat ++ (be 2 mx.toNat ++ (be 2 hello.toNat ++ be 2 wait.toNat)))))))).drop 9).take 4 = be 4 cost.toNat := by
    rw [d1 _ _ 8, dr _ _ 8 0 l8, List.drop_zero, List.take_left' c4]
  have q13 : ((flagB ak :: (be 8 root ++ (be 4 cost.toNat ++ (be 8 bridge ++ (be 2 port.toNat ++ (be 2 age.toNat ++ (be 2 mx.toNat ++ (be 2 hello.toNat ++ be 2 wait.toNat)))))))).drop 13).take 8 = be 8 bridge := by
    rw [d1 _ _ 12, dr _ _ 8 4 l8, dr _ _ 4 0 c4, List.drop_zero, List.take_left' b8]
  have q21 : ((flagB ak :: (be 8 root ++ (be 4 cost.toNat ++ (be 8 bridge ++ (be 2 port.toNat ++ (be 2 age.toNat ++ (be 2 mx.toNat ++ (be 2 hello.toNat ++ be 2 wait.toNat)))))))).drop 21).take 2 = be 2 port.toNat := by
    rw [d1 _ _ 20, dr _ _ 8 12 l8, dr _ _ 4 8 c4, dr _ _ 8 0 b8, List.drop_zero, List.take_left' p2]
  have q23 : ((flagB ak :: (be 8 root ++ (be 4 cost.toNat ++ (be 8 bridge ++ (be 2 port.toNat ++ (be 2 age.toNat ++ (be 2 mx.toNat ++ (be 2 hello.toNat ++ be 2 wait.toNat)))))))).drop 23).take 2 = be 2 age.toNat := by
    rw [d1 _ _ 22, dr _ _ 8 14 l8, dr _ _ 4 10 c4, dr _ _ 8 2 b8, dr _ _ 2 0 p2, List.drop_zero, List.take_left' a2]
  have q25 : ((flagB ak :: (be 8 root ++ (be 4 cost.toNat ++ (be 8 bridge ++ (be 2 port.toNat ++ (be 2 age.toNat ++ (be 2 mx.toNat ++ (be 2 hello.toNat ++ be 2 wait.toNat)))))))).drop 25).take 2 = be 2 mx.toNat := by
    rw [d1 _ _ 24, dr _ _ 8 16 l8, dr _ _ 4 12 c4, dr _ _ 8 4 b8, dr _ _ 2 2 p2, dr _ _ 2 0 a2, List.drop_zero, List.take_left' m2]
  have q27 : ((flagB ak :: (be 8 root ++ (be 4 cost.toNat ++ (be 8 bridge ++ (be 2 port.toNat ++ (be 2 age.toNat ++ (be 2 mx.toNat ++ (be 2 hello.toNat ++ be 2 wait.toNat)))))))).drop 27).take 2 = be 2 hello.toNat := by
    rw [d1 _ _ 26, dr _ _ 8 18 l8, dr _ _ 4 14 c4, dr _ _ 8 6 b8, dr _ _ 2 4 p2, dr _ _ 2 2 a2, dr _ _ 2 0 m2, List.drop_zero, List.take_left' e2]
  have q29 : ((flagB ak :: (be 8 root ++ (be 4 cost.toNat ++ (be 8 bridge ++ (be 2 port.toNat ++ (be 2 age.toNat ++ (be 2 mx.toNat ++ (be 2 hello.toNat ++ be 2 wait.toNat)))))))).drop 29).take 2 = be 2 wait.toNat := by
    rw [d1 _ _ 28, dr _ _ 8 20 l8, dr _ _ 4 16 c4, dr _ _ 8 8 b8, dr _ _ 2 6 p2, dr _ _ 2 4 a2, dr _ _ 2 2 m2, dr _ _ 2 0 e2, List.drop_zero, List.take_of_length_le (by omega)]
  rw [q1, q9, q13, q21, q23, q25, q27, q29, num_be_small _ _ (by omega), num_be_small _ _ (by omega), num_be_small _ _ (by omega), num_be_small _ _ (by omega), num_be_small _ _ (by omega), num_be_small _ _ (by omega), num_be_small _ _ (by omega), num_be_small _ _ (by omega)]
  simp only [List.getD_cons_zero, flag_nat, Msg.mk.injEq]
  refine ⟨trivial, ?_, trivial, trivial, ?_, ?_, ?_, ?_, ?_, ?_⟩
  · cases ak <;> rfl
  all_goals omega

theorem put_take (src : Nat) (m : Msg) (tail : List UInt8) (hi : m.InRange) (hr : rightB m = true) (hs : src < 281474976710656) (ht : tail.length ≤ 1000) : takeM (outL src m ++ tail) = (src, m, 0) := by
  rw [take_out src m tail hs ht]
  cases hch : m.ch with
  | true =>
    have hm := right_ch m hch hr
    subst hm
    have hb : bodyL chMsg = headL ++ [128] := rfl
    rw [takeY, if_neg (by simp), if_neg (by rw [hb]; simp [headL]), if_neg (by rw [hb]; simp [headL]), takeK, if_pos (by rw [hb]; exact kB_of _ 128 tail (by simp)), if_neg (by decide), if_neg (by decide)]
  | false =>
    have hsm := rightB_smalls m hch hr
    have hb : bodyL m = headL ++ (0 :: flagB m.ak :: restL m) := by rw [bodyL, if_neg (by rw [hch]; decide)]; rfl
    have hl : (bodyL m).length = 38 := by rw [bodyL_length, hch]; rfl
    have hk : kB (bodyL m ++ tail) = 0 := by rw [hb]; exact kB_of _ 0 (flagB m.ak :: restL m ++ tail) (by simp)
    have hf : fB (bodyL m ++ tail) = (flagB m.ak).toNat := by rw [hb]; exact fB_of _ 0 (flagB m.ak) (restL m ++ tail) (by simp)
    have hp : parsed (bodyL m ++ tail) = m := by
      rw [parsed, List.take_left' hl, hb]
      exact parsed_back m hi hch hsm
    rw [takeY, if_neg (by simp), if_neg (by simp; omega), if_neg (by rw [hb]; simp [headL]), takeK, if_neg (by rw [hk]; decide), if_neg (by rw [hk]; decide), if_neg (by omega), if_neg (by omega), if_neg (by rw [hf, flag_nat]; split <;> omega), hp]
end Go.Sy.Ytjfglngcfghfnaa
