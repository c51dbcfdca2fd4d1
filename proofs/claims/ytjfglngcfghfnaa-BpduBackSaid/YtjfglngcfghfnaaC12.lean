/-
  Contracts, 12: the order's law.
-/
import Derived.Test.YtjfglngcfghfnaaC11
namespace Go.Sy.Ytjfglngcfghfnaa
open Go.Proofs

attribute [local irreducible] Go.Sy.G Go.Sy.DR
set_option maxRecDepth 8000

def sameM (a b : Msg) : Prop := (a.root : Int) = b.root ∧ a.cost = b.cost ∧ (a.bridge : Int) = b.bridge ∧ a.port = b.port

theorem cmp3_neg (x y : Int) : cmp3 y x = - cmp3 x y := by unfold cmp3; repeat' split <;> omega
theorem cmp3_zero (x y : Int) : cmp3 x y = 0 ↔ x = y := by unfold cmp3; repeat' split <;> omega

theorem firstN4_neg (a b c d : Int) : firstN [-a, -b, -c, -d] = - firstN [a, b, c, d] := by
  simp only [firstN]
  repeat' split <;> omega

theorem firstN4_zero (a b c d : Int) : firstN [a, b, c, d] = 0 ↔ a = 0 ∧ b = 0 ∧ c = 0 ∧ d = 0 := by
  simp only [firstN]
  repeat' split <;> omega

theorem better_swap (a b : Msg) : betterB b a = decide (0 < firstN [cmp3 a.root b.root, cmp3 a.cost b.cost, cmp3 a.bridge b.bridge, cmp3 a.port b.port]) := by
  unfold betterB
  rw [cmp3_neg a.root b.root, cmp3_neg a.cost b.cost, cmp3_neg a.bridge b.bridge, cmp3_neg a.port b.port, firstN4_neg]
  exact decide_eq_decide.2 (by omega)

theorem better_same (a b : Msg) (h : sameM a b) : betterB a b = false ∧ betterB b a = false := by
  obtain ⟨h1, h2, h3, h4⟩ := h
  have hz : firstN [cmp3 a.root b.root, cmp3 a.cost b.cost, cmp3 a.bridge b.bridge, cmp3 a.port b.port] = 0 := (firstN4_zero _ _ _ _).2 ⟨(cmp3_zero _ _).2 h1, (cmp3_zero _ _).2 h2, (cmp3_zero _ _).2 h3, (cmp3_zero _ _).2 h4⟩
  rw [better_swap a b, betterB, hz]
  exact ⟨rfl, rfl⟩

theorem better_other (a b : Msg) (h : ¬ sameM a b) : (betterB a b = true ∧ betterB b a = false) ∨ (betterB a b = false ∧ betterB b a = true) := by
  have hz : firstN [cmp3 a.root b.root, cmp3 a.cost b.cost, cmp3 a.bridge b.bridge, cmp3 a.port b.port] ≠ 0 := fun hz => by
    obtain ⟨h1, h2, h3, h4⟩ := (firstN4_zero _ _ _ _).1 hz
    exact h ⟨(cmp3_zero _ _).1 h1, (cmp3_zero _ _).1 h2, (cmp3_zero _ _).1 h3, (cmp3_zero _ _).1 h4⟩
  rw [better_swap a b, betterB]
  generalize firstN [cmp3 a.root b.root, cmp3 a.cost b.cost, cmp3 a.bridge b.bridge, cmp3 a.port b.port] = x at *
  rcases Int.lt_or_gt_of_ne hz with h | h
  · left; exact ⟨decide_eq_true h, decide_eq_false (by omega)⟩
  · right; exact ⟨decide_eq_false (by omega), decide_eq_true h⟩

theorem and48 (m : Nat) (h : m < 18446744073709551616) : ((m % 281474976710656 : Nat) : Int) = bits .and .u64 (m : Int) 281474976710655 := by
  have := bits_and_u64_nat m 281474976710655 h (by decide)
  rw [show ((281474976710655 : Nat) : Int) = 281474976710655 from rfl] at this
  rw [this]
  congr 1
  exact (Nat.and_two_pow_sub_one_eq_mod m 48).symm

theorem pair_eq {x x' y y' : Int} (hx : x = x') (hy : y = y') : [intSV x, u64SV y] = [SV.val (.int .i64 x'), SV.val (.int .u64 y')] := by rw [hx, hy]; rfl

theorem i64_u16 (p : Nat) (h : p < 65536) : (p : Int) = IntKind.i64.wrap p := i64_small p (by omega)

theorem orderS (a b : Msg) (p q m n : Nat) (hp : p < 65536) (hq : q < 65536) (hm1 : m < 18446744073709551616) (hn1 : n < 18446744073709551616) : Sy.Spec Try.prog 6 [msgSV a, msgSV b, .val (.int .u16 p), .val (.int .u16 q), u64SV m, u64SV n] [] (boolSV true) [] := contract Γ hm 100 F6 Try.ntmps6 rfl fun F hF => by
  have hid : ¬ (p : Int) ≥ q → ((idN p (m % 281474976710656) : Nat) : Int) < (idN q (n % 281474976710656) : Nat) := fun h => by unfold idN; omega
  ((conv => whnf); repeat (first | (refine ⟨fun (h : false = true) => (Bool.false_ne_true h).elim, fun _ => ?_⟩; (conv => whnf)) | (refine ⟨fun _ => ?_, fun (h : true = false) => (Bool.false_ne_true h.symm).elim⟩; (conv => whnf))))
  refine call0 (id_ok p (m % 281474976710656) hp (Nat.mod_lt _ (by decide))) F13 rfl (pair_eq (i64_u16 p hp) (and48 m hm1)) rfl rfl rfl (run Γ hm 400 ?_)
  ((conv => whnf); repeat (first | (refine ⟨fun (h : false = true) => (Bool.false_ne_true h).elim, fun _ => ?_⟩; (conv => whnf)) | (refine ⟨fun _ => ?_, fun (h : true = false) => (Bool.false_ne_true h.symm).elim⟩; (conv => whnf))))
  refine call0 (id_ok q (n % 281474976710656) hq (Nat.mod_lt _ (by decide))) F13 rfl (pair_eq (i64_u16 q hq) (and48 n hn1)) rfl rfl rfl (run Γ hm 400 ?_)
  ((conv => whnf); repeat (first | (refine ⟨fun (h : false = true) => (Bool.false_ne_true h).elim, fun _ => ?_⟩; (conv => whnf)) | (refine ⟨fun _ => ?_, fun (h : true = false) => (Bool.false_ne_true h.symm).elim⟩; (conv => whnf))))
  by_cases hs : sameM a b
  · obtain ⟨hX, hY⟩ := better_same a b hs
    obtain ⟨h1, h2, h3, h4⟩ := hs
    refine ⟨fun _ => ?_, fun h => absurd (h1 : (a.root : Int) = b.root) (by simpa using h)⟩
    ((conv => whnf); repeat (first | (refine ⟨fun (h : false = true) => (Bool.false_ne_true h).elim, fun _ => ?_⟩; (conv => whnf)) | (refine ⟨fun _ => ?_, fun (h : true = false) => (Bool.false_ne_true h.symm).elim⟩; (conv => whnf))))
    refine ⟨fun _ => ?_, fun h => absurd (h2 : a.cost = b.cost) (by simpa using h)⟩
    ((conv => whnf); repeat (first | (refine ⟨fun (h : false = true) => (Bool.false_ne_true h).elim, fun _ => ?_⟩; (conv => whnf)) | (refine ⟨fun _ => ?_, fun (h : true = false) => (Bool.false_ne_true h.symm).elim⟩; (conv => whnf))))
    refine ⟨fun _ => ?_, fun h => absurd (h3 : (a.bridge : Int) = b.bridge) (by simpa using h)⟩
    ((conv => whnf); repeat (first | (refine ⟨fun (h : false = true) => (Bool.false_ne_true h).elim, fun _ => ?_⟩; (conv => whnf)) | (refine ⟨fun _ => ?_, fun (h : true = false) => (Bool.false_ne_true h.symm).elim⟩; (conv => whnf))))
    rw [show (a.port == b.port) = true from by simpa using h4]
    refine call0 worksS F7 rfl rfl rfl rfl rfl (run Γ hm 400 ?_)
    ((conv => whnf); repeat (first | (refine ⟨fun (h : false = true) => (Bool.false_ne_true h).elim, fun _ => ?_⟩; (conv => whnf)) | (refine ⟨fun _ => ?_, fun (h : true = false) => (Bool.false_ne_true h.symm).elim⟩; (conv => whnf))))
    refine call0 (betterS a b) F16 rfl rfl rfl rfl rfl (run Γ hm 400 ?_)
    rw [hX]
    ((conv => whnf); repeat (first | (refine ⟨fun (h : false = true) => (Bool.false_ne_true h).elim, fun _ => ?_⟩; (conv => whnf)) | (refine ⟨fun _ => ?_, fun (h : true = false) => (Bool.false_ne_true h.symm).elim⟩; (conv => whnf))))
    refine call0 (betterS a b) F16 rfl rfl rfl rfl rfl (run Γ hm 400 ?_)
    rw [hX]
    ((conv => whnf); repeat (first | (refine ⟨fun (h : false = true) => (Bool.false_ne_true h).elim, fun _ => ?_⟩; (conv => whnf)) | (refine ⟨fun _ => ?_, fun (h : true = false) => (Bool.false_ne_true h.symm).elim⟩; (conv => whnf))))
    refine call0 (betterS b a) F16 rfl rfl rfl rfl rfl (run Γ hm 400 ?_)
    rw [hY]
    ((conv => whnf); repeat (first | (refine ⟨fun (h : false = true) => (Bool.false_ne_true h).elim, fun _ => ?_⟩; (conv => whnf)) | (refine ⟨fun _ => ?_, fun (h : true = false) => (Bool.false_ne_true h.symm).elim⟩; (conv => whnf))))
    refine ⟨fun h => ?_, fun h => ?_⟩
    · ((conv => whnf); repeat (first | (refine ⟨fun (h : false = true) => (Bool.false_ne_true h).elim, fun _ => ?_⟩; (conv => whnf)) | (refine ⟨fun _ => ?_, fun (h : true = false) => (Bool.false_ne_true h.symm).elim⟩; (conv => whnf))))
      exact done rfl (.cons .tmp .nil) [] [] (fun _ h => h) rfl rfl ⟨trivial, trivial, rfl, rfl⟩
    · ((conv => whnf); repeat (first | (refine ⟨fun (h : false = true) => (Bool.false_ne_true h).elim, fun _ => ?_⟩; (conv => whnf)) | (refine ⟨fun _ => ?_, fun (h : true = false) => (Bool.false_ne_true h.symm).elim⟩; (conv => whnf))))
      exact done rfl (.cons .tmp .nil) [] [] (fun _ h => h) (congrArg boolSV (decide_eq_true (hid (of_decide_eq_false h))).symm) rfl ⟨trivial, trivial, rfl, rfl⟩
  refine ⟨fun h1 => ?_, fun h1 => ?_⟩
  rotate_left
  · ((conv => whnf); repeat (first | (refine ⟨fun (h : false = true) => (Bool.false_ne_true h).elim, fun _ => ?_⟩; (conv => whnf)) | (refine ⟨fun _ => ?_, fun (h : true = false) => (Bool.false_ne_true h.symm).elim⟩; (conv => whnf))))
    rcases better_other a b hs with ⟨hX, hY⟩ | ⟨hX, hY⟩
    · skip
      refine call0 worksS F7 rfl rfl rfl rfl rfl (run Γ hm 400 ?_)
      ((conv => whnf); repeat (first | (refine ⟨fun (h : false = true) => (Bool.false_ne_true h).elim, fun _ => ?_⟩; (conv => whnf)) | (refine ⟨fun _ => ?_, fun (h : true = false) => (Bool.false_ne_true h.symm).elim⟩; (conv => whnf))))
      refine call0 (betterS a b) F16 rfl rfl rfl rfl rfl (run Γ hm 400 ?_)
      rw [hX]
      ((conv => whnf); repeat (first | (refine ⟨fun (h : false = true) => (Bool.false_ne_true h).elim, fun _ => ?_⟩; (conv => whnf)) | (refine ⟨fun _ => ?_, fun (h : true = false) => (Bool.false_ne_true h.symm).elim⟩; (conv => whnf))))
      refine call0 (betterS b a) F16 rfl rfl rfl rfl rfl (run Γ hm 400 ?_)
      rw [hY]
      ((conv => whnf); repeat (first | (refine ⟨fun (h : false = true) => (Bool.false_ne_true h).elim, fun _ => ?_⟩; (conv => whnf)) | (refine ⟨fun _ => ?_, fun (h : true = false) => (Bool.false_ne_true h.symm).elim⟩; (conv => whnf))))
      refine call0 (betterS a b) F16 rfl rfl rfl rfl rfl (run Γ hm 400 ?_)
      rw [hX]
      ((conv => whnf); repeat (first | (refine ⟨fun (h : false = true) => (Bool.false_ne_true h).elim, fun _ => ?_⟩; (conv => whnf)) | (refine ⟨fun _ => ?_, fun (h : true = false) => (Bool.false_ne_true h.symm).elim⟩; (conv => whnf))))
      refine ⟨fun h => ?_, fun h => ?_⟩
      · ((conv => whnf); repeat (first | (refine ⟨fun (h : false = true) => (Bool.false_ne_true h).elim, fun _ => ?_⟩; (conv => whnf)) | (refine ⟨fun _ => ?_, fun (h : true = false) => (Bool.false_ne_true h.symm).elim⟩; (conv => whnf))))
        exact done rfl (.cons .tmp .nil) [] [] (fun _ h => h) rfl rfl ⟨trivial, trivial, rfl, rfl⟩
      · ((conv => whnf); repeat (first | (refine ⟨fun (h : false = true) => (Bool.false_ne_true h).elim, fun _ => ?_⟩; (conv => whnf)) | (refine ⟨fun _ => ?_, fun (h : true = false) => (Bool.false_ne_true h.symm).elim⟩; (conv => whnf))))
        exact done rfl (.cons .tmp .nil) [] [] (fun _ h => h) (congrArg boolSV (decide_eq_true (hid (of_decide_eq_false h))).symm) rfl ⟨trivial, trivial, rfl, rfl⟩
    · skip
      refine call0 worksS F7 rfl rfl rfl rfl rfl (run Γ hm 400 ?_)
      ((conv => whnf); repeat (first | (refine ⟨fun (h : false = true) => (Bool.false_ne_true h).elim, fun _ => ?_⟩; (conv => whnf)) | (refine ⟨fun _ => ?_, fun (h : true = false) => (Bool.false_ne_true h.symm).elim⟩; (conv => whnf))))
      refine call0 (betterS a b) F16 rfl rfl rfl rfl rfl (run Γ hm 400 ?_)
      rw [hX]
      ((conv => whnf); repeat (first | (refine ⟨fun (h : false = true) => (Bool.false_ne_true h).elim, fun _ => ?_⟩; (conv => whnf)) | (refine ⟨fun _ => ?_, fun (h : true = false) => (Bool.false_ne_true h.symm).elim⟩; (conv => whnf))))
      refine call0 (betterS a b) F16 rfl rfl rfl rfl rfl (run Γ hm 400 ?_)
      rw [hX]
      ((conv => whnf); repeat (first | (refine ⟨fun (h : false = true) => (Bool.false_ne_true h).elim, fun _ => ?_⟩; (conv => whnf)) | (refine ⟨fun _ => ?_, fun (h : true = false) => (Bool.false_ne_true h.symm).elim⟩; (conv => whnf))))
      refine call0 (betterS b a) F16 rfl rfl rfl rfl rfl (run Γ hm 400 ?_)
      rw [hY]
      ((conv => whnf); repeat (first | (refine ⟨fun (h : false = true) => (Bool.false_ne_true h).elim, fun _ => ?_⟩; (conv => whnf)) | (refine ⟨fun _ => ?_, fun (h : true = false) => (Bool.false_ne_true h.symm).elim⟩; (conv => whnf))))
      refine ⟨fun h => ?_, fun h => ?_⟩
      · ((conv => whnf); repeat (first | (refine ⟨fun (h : false = true) => (Bool.false_ne_true h).elim, fun _ => ?_⟩; (conv => whnf)) | (refine ⟨fun _ => ?_, fun (h : true = false) => (Bool.false_ne_true h.symm).elim⟩; (conv => whnf))))
        exact done rfl (.cons .tmp .nil) [] [] (fun _ h => h) rfl rfl ⟨trivial, trivial, rfl, rfl⟩
      · ((conv => whnf); repeat (first | (refine ⟨fun (h : false = true) => (Bool.false_ne_true h).elim, fun _ => ?_⟩; (conv => whnf)) | (refine ⟨fun _ => ?_, fun (h : true = false) => (Bool.false_ne_true h.symm).elim⟩; (conv => whnf))))
        exact done rfl (.cons .tmp .nil) [] [] (fun _ h => h) (congrArg boolSV (decide_eq_true (hid (of_decide_eq_false h))).symm) rfl ⟨trivial, trivial, rfl, rfl⟩
  ((conv => whnf); repeat (first | (refine ⟨fun (h : false = true) => (Bool.false_ne_true h).elim, fun _ => ?_⟩; (conv => whnf)) | (refine ⟨fun _ => ?_, fun (h : true = false) => (Bool.false_ne_true h.symm).elim⟩; (conv => whnf))))
  refine ⟨fun h2 => ?_, fun h2 => ?_⟩
  rotate_left
  · ((conv => whnf); repeat (first | (refine ⟨fun (h : false = true) => (Bool.false_ne_true h).elim, fun _ => ?_⟩; (conv => whnf)) | (refine ⟨fun _ => ?_, fun (h : true = false) => (Bool.false_ne_true h.symm).elim⟩; (conv => whnf))))
    rcases better_other a b hs with ⟨hX, hY⟩ | ⟨hX, hY⟩
    · skip
      refine call0 worksS F7 rfl rfl rfl rfl rfl (run Γ hm 400 ?_)
      ((conv => whnf); repeat (first | (refine ⟨fun (h : false = true) => (Bool.false_ne_true h).elim, fun _ => ?_⟩; (conv => whnf)) | (refine ⟨fun _ => ?_, fun (h : true = false) => (Bool.false_ne_true h.symm).elim⟩; (conv => whnf))))
      refine call0 (betterS a b) F16 rfl rfl rfl rfl rfl (run Γ hm 400 ?_)
      rw [hX]
      ((conv => whnf); repeat (first | (refine ⟨fun (h : false = true) => (Bool.false_ne_true h).elim, fun _ => ?_⟩; (conv => whnf)) | (refine ⟨fun _ => ?_, fun (h : true = false) => (Bool.false_ne_true h.symm).elim⟩; (conv => whnf))))
      refine call0 (betterS b a) F16 rfl rfl rfl rfl rfl (run Γ hm 400 ?_)
      rw [hY]
      ((conv => whnf); repeat (first | (refine ⟨fun (h : false = true) => (Bool.false_ne_true h).elim, fun _ => ?_⟩; (conv => whnf)) | (refine ⟨fun _ => ?_, fun (h : true = false) => (Bool.false_ne_true h.symm).elim⟩; (conv => whnf))))
      refine call0 (betterS a b) F16 rfl rfl rfl rfl rfl (run Γ hm 400 ?_)
      rw [hX]
      ((conv => whnf); repeat (first | (refine ⟨fun (h : false = true) => (Bool.false_ne_true h).elim, fun _ => ?_⟩; (conv => whnf)) | (refine ⟨fun _ => ?_, fun (h : true = false) => (Bool.false_ne_true h.symm).elim⟩; (conv => whnf))))
      refine ⟨fun h => ?_, fun h => ?_⟩
      · ((conv => whnf); repeat (first | (refine ⟨fun (h : false = true) => (Bool.false_ne_true h).elim, fun _ => ?_⟩; (conv => whnf)) | (refine ⟨fun _ => ?_, fun (h : true = false) => (Bool.false_ne_true h.symm).elim⟩; (conv => whnf))))
        exact done rfl (.cons .tmp .nil) [] [] (fun _ h => h) rfl rfl ⟨trivial, trivial, rfl, rfl⟩
      · ((conv => whnf); repeat (first | (refine ⟨fun (h : false = true) => (Bool.false_ne_true h).elim, fun _ => ?_⟩; (conv => whnf)) | (refine ⟨fun _ => ?_, fun (h : true = false) => (Bool.false_ne_true h.symm).elim⟩; (conv => whnf))))
        exact done rfl (.cons .tmp .nil) [] [] (fun _ h => h) (congrArg boolSV (decide_eq_true (hid (of_decide_eq_false h))).symm) rfl ⟨trivial, trivial, rfl, rfl⟩
    · skip
      refine call0 worksS F7 rfl rfl rfl rfl rfl (run Γ hm 400 ?_)
      ((conv => whnf); repeat (first | (refine ⟨fun (h : false = true) => (Bool.false_ne_true h).elim, fun _ => ?_⟩; (conv => whnf)) | (refine ⟨fun _ => ?_, fun (h : true = false) => (Bool.false_ne_true h.symm).elim⟩; (conv => whnf))))
      refine call0 (betterS a b) F16 rfl rfl rfl rfl rfl (run Γ hm 400 ?_)
      rw [hX]
      ((conv => whnf); repeat (first | (refine ⟨fun (h : false = true) => (Bool.false_ne_true h).elim, fun _ => ?_⟩; (conv => whnf)) | (refine ⟨fun _ => ?_, fun (h : true = false) => (Bool.false_ne_true h.symm).elim⟩; (conv => whnf))))
      refine call0 (betterS a b) F16 rfl rfl rfl rfl rfl (run Γ hm 400 ?_)
      rw [hX]
      ((conv => whnf); repeat (first | (refine ⟨fun (h : false = true) => (Bool.false_ne_true h).elim, fun _ => ?_⟩; (conv => whnf)) | (refine ⟨fun _ => ?_, fun (h : true = false) => (Bool.false_ne_true h.symm).elim⟩; (conv => whnf))))
      refine call0 (betterS b a) F16 rfl rfl rfl rfl rfl (run Γ hm 400 ?_)
      rw [hY]
      ((conv => whnf); repeat (first | (refine ⟨fun (h : false = true) => (Bool.false_ne_true h).elim, fun _ => ?_⟩; (conv => whnf)) | (refine ⟨fun _ => ?_, fun (h : true = false) => (Bool.false_ne_true h.symm).elim⟩; (conv => whnf))))
      refine ⟨fun h => ?_, fun h => ?_⟩
      · ((conv => whnf); repeat (first | (refine ⟨fun (h : false = true) => (Bool.false_ne_true h).elim, fun _ => ?_⟩; (conv => whnf)) | (refine ⟨fun _ => ?_, fun (h : true = false) => (Bool.false_ne_true h.symm).elim⟩; (conv => whnf))))
        exact done rfl (.cons .tmp .nil) [] [] (fun _ h => h) rfl rfl ⟨trivial, trivial, rfl, rfl⟩
      · ((conv => whnf); repeat (first | (refine ⟨fun (h : false = true) => (Bool.false_ne_true h).elim, fun _ => ?_⟩; (conv => whnf)) | (refine ⟨fun _ => ?_, fun (h : true = false) => (Bool.false_ne_true h.symm).elim⟩; (conv => whnf))))
        exact done rfl (.cons .tmp .nil) [] [] (fun _ h => h) (congrArg boolSV (decide_eq_true (hid (of_decide_eq_false h))).symm) rfl ⟨trivial, trivial, rfl, rfl⟩
  ((conv => whnf); repeat (first | (refine ⟨fun (h : false = true) => (Bool.false_ne_true h).elim, fun _ => ?_⟩; (conv => whnf)) | (refine ⟨fun _ => ?_, fun (h : true = false) => (Bool.false_ne_true h.symm).elim⟩; (conv => whnf))))
  refine ⟨fun h3 => ?_, fun h3 => ?_⟩
  rotate_left
  · ((conv => whnf); repeat (first | (refine ⟨fun (h : false = true) => (Bool.false_ne_true h).elim, fun _ => ?_⟩; (conv => whnf)) | (refine ⟨fun _ => ?_, fun (h : true = false) => (Bool.false_ne_true h.symm).elim⟩; (conv => whnf))))
    rcases better_other a b hs with ⟨hX, hY⟩ | ⟨hX, hY⟩
    · skip
      refine call0 worksS F7 rfl rfl rfl rfl rfl (run Γ hm 400 ?_)
      ((conv => whnf); repeat (first | (refine ⟨fun (h : false = true) => (Bool.false_ne_true h).elim, fun _ => ?_⟩; (conv => whnf)) | (refine ⟨fun _ => ?_, fun (h : true = false) => (Bool.false_ne_true h.symm).elim⟩; (conv => whnf))))
      refine call0 (betterS a b) F16 rfl rfl rfl rfl rfl (run Γ hm 400 ?_)
      rw [hX]
      ((conv => whnf); repeat (first | (refine ⟨fun (h : false = true) => (Bool.false_ne_true h).elim, fun _ => ?_⟩; (conv => whnf)) | (refine ⟨fun _ => ?_, fun (h : true = false) => (Bool.false_ne_true h.symm).elim⟩; (conv => whnf))))
      refine call0 (betterS b a) F16 rfl rfl rfl rfl rfl (run Γ hm 400 ?_)
      rw [hY]
      ((conv => whnf); repeat (first | (refine ⟨fun (h : false = true) => (Bool.false_ne_true h).elim, fun _ => ?_⟩; (conv => whnf)) | (refine ⟨fun _ => ?_, fun (h : true = false) => (Bool.false_ne_true h.symm).elim⟩; (conv => whnf))))
      refine call0 (betterS a b) F16 rfl rfl rfl rfl rfl (run Γ hm 400 ?_)
      rw [hX]
      ((conv => whnf); repeat (first | (refine ⟨fun (h : false = true) => (Bool.false_ne_true h).elim, fun _ => ?_⟩; (conv => whnf)) | (refine ⟨fun _ => ?_, fun (h : true = false) => (Bool.false_ne_true h.symm).elim⟩; (conv => whnf))))
      refine ⟨fun h => ?_, fun h => ?_⟩
      · ((conv => whnf); repeat (first | (refine ⟨fun (h : false = true) => (Bool.false_ne_true h).elim, fun _ => ?_⟩; (conv => whnf)) | (refine ⟨fun _ => ?_, fun (h : true = false) => (Bool.false_ne_true h.symm).elim⟩; (conv => whnf))))
        exact done rfl (.cons .tmp .nil) [] [] (fun _ h => h) rfl rfl ⟨trivial, trivial, rfl, rfl⟩
      · ((conv => whnf); repeat (first | (refine ⟨fun (h : false = true) => (Bool.false_ne_true h).elim, fun _ => ?_⟩; (conv => whnf)) | (refine ⟨fun _ => ?_, fun (h : true = false) => (Bool.false_ne_true h.symm).elim⟩; (conv => whnf))))
        exact done rfl (.cons .tmp .nil) [] [] (fun _ h => h) (congrArg boolSV (decide_eq_true (hid (of_decide_eq_false h))).symm) rfl ⟨trivial, trivial, rfl, rfl⟩
    · skip
      refine call0 worksS F7 rfl rfl rfl rfl rfl (run Γ hm 400 ?_)
      ((conv => whnf); repeat (first | (refine ⟨fun (h : false = true) => (Bool.false_ne_true h).elim, fun _ => ?_⟩; (conv => whnf)) | (refine ⟨fun _ => ?_, fun (h : true = false) => (Bool.false_ne_true h.symm).elim⟩; (conv => whnf))))
      refine call0 (betterS a b) F16 rfl rfl rfl rfl rfl (run Γ hm 400 ?_)
      rw [hX]
      ((conv => whnf); repeat (first | (refine ⟨fun (h : false = true) => (Bool.false_ne_true h).elim, fun _ => ?_⟩; (conv => whnf)) | (refine ⟨fun _ => ?_, fun (h : true = false) => (Bool.false_ne_true h.symm).elim⟩; (conv => whnf))))
      refine call0 (betterS a b) F16 rfl rfl rfl rfl rfl (run Γ hm 400 ?_)
      rw [hX]
      ((conv => whnf); repeat (first | (refine ⟨fun (h : false = true) => (Bool.false_ne_true h).elim, fun _ => ?_⟩; (conv => whnf)) | (refine ⟨fun _ => ?_, fun (h : true = false) => (Bool.false_ne_true h.symm).elim⟩; (conv => whnf))))
      refine call0 (betterS b a) F16 rfl rfl rfl rfl rfl (run Γ hm 400 ?_)
      rw [hY]
      ((conv => whnf); repeat (first | (refine ⟨fun (h : false = true) => (Bool.false_ne_true h).elim, fun _ => ?_⟩; (conv => whnf)) | (refine ⟨fun _ => ?_, fun (h : true = false) => (Bool.false_ne_true h.symm).elim⟩; (conv => whnf))))
      refine ⟨fun h => ?_, fun h => ?_⟩
      · ((conv => whnf); repeat (first | (refine ⟨fun (h : false = true) => (Bool.false_ne_true h).elim, fun _ => ?_⟩; (conv => whnf)) | (refine ⟨fun _ => ?_, fun (h : true = false) => (Bool.false_ne_true h.symm).elim⟩; (conv => whnf))))
        exact done rfl (.cons .tmp .nil) [] [] (fun _ h => h) rfl rfl ⟨trivial, trivial, rfl, rfl⟩
      · ((conv => whnf); repeat (first | (refine ⟨fun (h : false = true) => (Bool.false_ne_true h).elim, fun _ => ?_⟩; (conv => whnf)) | (refine ⟨fun _ => ?_, fun (h : true = false) => (Bool.false_ne_true h.symm).elim⟩; (conv => whnf))))
        exact done rfl (.cons .tmp .nil) [] [] (fun _ h => h) (congrArg boolSV (decide_eq_true (hid (of_decide_eq_false h))).symm) rfl ⟨trivial, trivial, rfl, rfl⟩
  ((conv => whnf); repeat (first | (refine ⟨fun (h : false = true) => (Bool.false_ne_true h).elim, fun _ => ?_⟩; (conv => whnf)) | (refine ⟨fun _ => ?_, fun (h : true = false) => (Bool.false_ne_true h.symm).elim⟩; (conv => whnf))))
  have h4 : ¬ a.port = b.port := fun h4 => hs ⟨by simpa using h1, by simpa using h2, by simpa using h3, h4⟩
  rw [show (a.port == b.port) = false from by simpa using h4]
  rcases better_other a b hs with ⟨hX, hY⟩ | ⟨hX, hY⟩
  · skip
    refine call0 worksS F7 rfl rfl rfl rfl rfl (run Γ hm 400 ?_)
    ((conv => whnf); repeat (first | (refine ⟨fun (h : false = true) => (Bool.false_ne_true h).elim, fun _ => ?_⟩; (conv => whnf)) | (refine ⟨fun _ => ?_, fun (h : true = false) => (Bool.false_ne_true h.symm).elim⟩; (conv => whnf))))
    refine call0 (betterS a b) F16 rfl rfl rfl rfl rfl (run Γ hm 400 ?_)
    rw [hX]
    ((conv => whnf); repeat (first | (refine ⟨fun (h : false = true) => (Bool.false_ne_true h).elim, fun _ => ?_⟩; (conv => whnf)) | (refine ⟨fun _ => ?_, fun (h : true = false) => (Bool.false_ne_true h.symm).elim⟩; (conv => whnf))))
    refine call0 (betterS b a) F16 rfl rfl rfl rfl rfl (run Γ hm 400 ?_)
    rw [hY]
    ((conv => whnf); repeat (first | (refine ⟨fun (h : false = true) => (Bool.false_ne_true h).elim, fun _ => ?_⟩; (conv => whnf)) | (refine ⟨fun _ => ?_, fun (h : true = false) => (Bool.false_ne_true h.symm).elim⟩; (conv => whnf))))
    refine call0 (betterS a b) F16 rfl rfl rfl rfl rfl (run Γ hm 400 ?_)
    rw [hX]
    ((conv => whnf); repeat (first | (refine ⟨fun (h : false = true) => (Bool.false_ne_true h).elim, fun _ => ?_⟩; (conv => whnf)) | (refine ⟨fun _ => ?_, fun (h : true = false) => (Bool.false_ne_true h.symm).elim⟩; (conv => whnf))))
    refine ⟨fun h => ?_, fun h => ?_⟩
    · ((conv => whnf); repeat (first | (refine ⟨fun (h : false = true) => (Bool.false_ne_true h).elim, fun _ => ?_⟩; (conv => whnf)) | (refine ⟨fun _ => ?_, fun (h : true = false) => (Bool.false_ne_true h.symm).elim⟩; (conv => whnf))))
      exact done rfl (.cons .tmp .nil) [] [] (fun _ h => h) rfl rfl ⟨trivial, trivial, rfl, rfl⟩
    · ((conv => whnf); repeat (first | (refine ⟨fun (h : false = true) => (Bool.false_ne_true h).elim, fun _ => ?_⟩; (conv => whnf)) | (refine ⟨fun _ => ?_, fun (h : true = false) => (Bool.false_ne_true h.symm).elim⟩; (conv => whnf))))
      exact done rfl (.cons .tmp .nil) [] [] (fun _ h => h) (congrArg boolSV (decide_eq_true (hid (of_decide_eq_false h))).symm) rfl ⟨trivial, trivial, rfl, rfl⟩
  · skip
    refine call0 worksS F7 rfl rfl rfl rfl rfl (run Γ hm 400 ?_)
    ((conv => whnf); repeat (first | (refine ⟨fun (h : false = true) => (Bool.false_ne_true h).elim, fun _ => ?_⟩; (conv => whnf)) | (refine ⟨fun _ => ?_, fun (h : true = false) => (Bool.false_ne_true h.symm).elim⟩; (conv => whnf))))
    refine call0 (betterS a b) F16 rfl rfl rfl rfl rfl (run Γ hm 400 ?_)
    rw [hX]
    ((conv => whnf); repeat (first | (refine ⟨fun (h : false = true) => (Bool.false_ne_true h).elim, fun _ => ?_⟩; (conv => whnf)) | (refine ⟨fun _ => ?_, fun (h : true = false) => (Bool.false_ne_true h.symm).elim⟩; (conv => whnf))))
    refine call0 (betterS a b) F16 rfl rfl rfl rfl rfl (run Γ hm 400 ?_)
    rw [hX]
    ((conv => whnf); repeat (first | (refine ⟨fun (h : false = true) => (Bool.false_ne_true h).elim, fun _ => ?_⟩; (conv => whnf)) | (refine ⟨fun _ => ?_, fun (h : true = false) => (Bool.false_ne_true h.symm).elim⟩; (conv => whnf))))
    refine call0 (betterS b a) F16 rfl rfl rfl rfl rfl (run Γ hm 400 ?_)
    rw [hY]
    ((conv => whnf); repeat (first | (refine ⟨fun (h : false = true) => (Bool.false_ne_true h).elim, fun _ => ?_⟩; (conv => whnf)) | (refine ⟨fun _ => ?_, fun (h : true = false) => (Bool.false_ne_true h.symm).elim⟩; (conv => whnf))))
    refine ⟨fun h => ?_, fun h => ?_⟩
    · ((conv => whnf); repeat (first | (refine ⟨fun (h : false = true) => (Bool.false_ne_true h).elim, fun _ => ?_⟩; (conv => whnf)) | (refine ⟨fun _ => ?_, fun (h : true = false) => (Bool.false_ne_true h.symm).elim⟩; (conv => whnf))))
      exact done rfl (.cons .tmp .nil) [] [] (fun _ h => h) rfl rfl ⟨trivial, trivial, rfl, rfl⟩
    · ((conv => whnf); repeat (first | (refine ⟨fun (h : false = true) => (Bool.false_ne_true h).elim, fun _ => ?_⟩; (conv => whnf)) | (refine ⟨fun _ => ?_, fun (h : true = false) => (Bool.false_ne_true h.symm).elim⟩; (conv => whnf))))
      exact done rfl (.cons .tmp .nil) [] [] (fun _ h => h) (congrArg boolSV (decide_eq_true (hid (of_decide_eq_false h))).symm) rfl ⟨trivial, trivial, rfl, rfl⟩
end Go.Sy.Ytjfglngcfghfnaa
