/-
  Contracts, 5: messages' own laws.
-/
import Derived.Test.YtjfglngcfghfnaaC4
namespace Go.Sy.Ytjfglngcfghfnaa
open Go.Proofs

attribute [local irreducible] Go.Sy.G Go.Sy.DR

structure Msg where
  ch : Bool
  ak : Bool
  root : Nat
  bridge : Nat
  cost : Int
  port : Int
  age : Int
  mx : Int
  hello : Int
  wait : Int
  deriving DecidableEq

def msgSV (m : Msg) : SV := .agg [boolSV m.ch, boolSV m.ak, u64SV m.root, u64SV m.bridge, intSV m.cost, intSV m.port, intSV m.age, intSV m.mx, intSV m.hello, intSV m.wait]

def chMsg : Msg := ⟨true, false, 0, 0, 0, 0, 0, 0, 0, 0⟩

def smallB (n : Int) : Bool := decide (0 ≤ n) && decide (n < 65536)

def rightB (m : Msg) : Bool := if m.ch then
    (m.ch == true && (m.ak == false && (((m.root : Int) == 0) && (((m.bridge : Int) == 0) && ((m.cost == 0) && ((m.port == 0) && ((m.age == 0) && ((m.mx == 0) && ((m.hello == 0) && ((m.wait == 0) && true))))))))))
  else decide (0 ≤ m.cost) && decide (m.cost < 4294967296) && smallB m.port && smallB m.age && smallB m.mx && smallB m.hello && smallB m.wait

theorem smallS (n : Int) : Sy.Spec Try.prog 27 [intSV n] [] (boolSV (smallB n)) [] := contract Γ hm 100 F27 Try.ntmps27 rfl fun F hF => by
  ((conv => whnf); repeat (first | (refine ⟨fun (h : false = true) => (Bool.false_ne_true h).elim, fun _ => ?_⟩; (conv => whnf)) | (refine ⟨fun _ => ?_, fun (h : true = false) => (Bool.false_ne_true h.symm).elim⟩; (conv => whnf))))
  refine ⟨fun h => ?_, fun h => ?_⟩
  · ((conv => whnf); repeat (first | (refine ⟨fun (h : false = true) => (Bool.false_ne_true h).elim, fun _ => ?_⟩; (conv => whnf)) | (refine ⟨fun _ => ?_, fun (h : true = false) => (Bool.false_ne_true h.symm).elim⟩; (conv => whnf))))
    refine done0 rfl (.cons .tmp .nil) (congrArg boolSV ?_) rfl
    have := of_decide_eq_true h
    simp only [smallB, decide_eq_true (show 0 ≤ n from this), Bool.true_and]
  · ((conv => whnf); repeat (first | (refine ⟨fun (h : false = true) => (Bool.false_ne_true h).elim, fun _ => ?_⟩; (conv => whnf)) | (refine ⟨fun _ => ?_, fun (h : true = false) => (Bool.false_ne_true h.symm).elim⟩; (conv => whnf))))
    refine done0 rfl (.cons .tmp .nil) (congrArg boolSV ?_) rfl
    have := of_decide_eq_false h
    simp only [smallB, decide_eq_false (show ¬ 0 ≤ n from this), Bool.false_and]

def idN (p m : Nat) : Nat := p * 281474976710656 + m

theorem refId_ok (p m : Nat) (hp : p < 65536) (hm' : m < 281474976710656) : Sy.Spec Try.prog 14 [intSV p, u64SV m] [] (.tup [u64SV (idN p m), boolSV true]) [] := contract Γ hm 100 F14 Try.ntmps14 rfl fun F hF => by
  ((conv => whnf); repeat (first | (refine ⟨fun (h : false = true) => (Bool.false_ne_true h).elim, fun _ => ?_⟩; (conv => whnf)) | (refine ⟨fun _ => ?_, fun (h : true = false) => (Bool.false_ne_true h.symm).elim⟩; (conv => whnf))))
  refine call0 (smallS p) F27 rfl rfl rfl rfl rfl (run Γ hm 400 ?_)
  have h1 : smallB p = true := by simp only [smallB, Bool.and_eq_true, decide_eq_true_eq]; omega
  rw [h1]
  ((conv => whnf); repeat (first | (refine ⟨fun (h : false = true) => (Bool.false_ne_true h).elim, fun _ => ?_⟩; (conv => whnf)) | (refine ⟨fun _ => ?_, fun (h : true = false) => (Bool.false_ne_true h.symm).elim⟩; (conv => whnf))))
  refine ⟨fun h => absurd (of_decide_eq_true h) (by omega), fun _ => ?_⟩
  ((conv => whnf); repeat (first | (refine ⟨fun (h : false = true) => (Bool.false_ne_true h).elim, fun _ => ?_⟩; (conv => whnf)) | (refine ⟨fun _ => ?_, fun (h : true = false) => (Bool.false_ne_true h.symm).elim⟩; (conv => whnf))))
  refine done0 rfl (.cons .tmp (.cons .tmp .nil)) (congrArg (fun z => SV.tup [.val (.int .u64 z), boolSV true]) ?_) rfl
  simp only [IntKind.wrap_u64, idN]
  omega

theorem refId_no (p : Int) (m : Nat) (h : p < 0 ∨ 65536 ≤ p ∨ 281474976710656 ≤ m) : Sy.Spec Try.prog 14 [intSV p, u64SV m] [] (.tup [u64SV (0 : Nat), boolSV false]) [] := contract Γ hm 100 F14 Try.ntmps14 rfl fun F hF => by
  ((conv => whnf); repeat (first | (refine ⟨fun (h : false = true) => (Bool.false_ne_true h).elim, fun _ => ?_⟩; (conv => whnf)) | (refine ⟨fun _ => ?_, fun (h : true = false) => (Bool.false_ne_true h.symm).elim⟩; (conv => whnf))))
  refine call0 (smallS p) F27 rfl rfl rfl rfl rfl (run Γ hm 400 ?_)
  cases h1 : smallB p with
  | false =>
    ((conv => whnf); repeat (first | (refine ⟨fun (h : false = true) => (Bool.false_ne_true h).elim, fun _ => ?_⟩; (conv => whnf)) | (refine ⟨fun _ => ?_, fun (h : true = false) => (Bool.false_ne_true h.symm).elim⟩; (conv => whnf))))
    exact done0 rfl (.cons .tmp (.cons .tmp .nil)) rfl rfl
  | true =>
    simp only [smallB, Bool.and_eq_true, decide_eq_true_eq] at h1
    ((conv => whnf); repeat (first | (refine ⟨fun (h : false = true) => (Bool.false_ne_true h).elim, fun _ => ?_⟩; (conv => whnf)) | (refine ⟨fun _ => ?_, fun (h : true = false) => (Bool.false_ne_true h.symm).elim⟩; (conv => whnf))))
    refine ⟨fun _ => ?_, fun h => absurd (of_decide_eq_false h) (by omega)⟩
    ((conv => whnf); repeat (first | (refine ⟨fun (h : false = true) => (Bool.false_ne_true h).elim, fun _ => ?_⟩; (conv => whnf)) | (refine ⟨fun _ => ?_, fun (h : true = false) => (Bool.false_ne_true h.symm).elim⟩; (conv => whnf))))
    exact done0 rfl (.cons .tmp (.cons .tmp .nil)) rfl rfl

theorem idN_or (p m : Nat) (hp : p < 65536) (hm' : m < 281474976710656) : bits .or .u64 (IntKind.u64.wrap (IntKind.u64.wrap (p : Int) * 2 ^ min (Int.toNat 48) IntKind.u64.bits)) (m : Int) = (idN p m : Int) := by
  have h1 : IntKind.u64.wrap (IntKind.u64.wrap (p : Int) * 2 ^ min (Int.toNat 48) IntKind.u64.bits) = ((p * 281474976710656 : Nat) : Int) := by
    show IntKind.u64.wrap (IntKind.u64.wrap (p : Int) * 281474976710656) = _
    simp only [IntKind.wrap_u64]
    omega
  rw [h1, bits_or_u64_nat _ _ (by omega) (by omega)]
  congr 1
  have h := Nat.two_pow_add_eq_or_of_lt (i := 48) (b := m) (by omega) p
  rw [idN, Nat.mul_comm p 281474976710656]
  exact h.symm

theorem id_ok (p m : Nat) (hp : p < 65536) (hm' : m < 281474976710656) : Sy.Spec Try.prog 13 [intSV p, u64SV m] [] (.tup [u64SV (idN p m), boolSV true]) [] := contract Γ hm 100 F13 Try.ntmps13 rfl fun F hF => by
  ((conv => whnf); repeat (first | (refine ⟨fun (h : false = true) => (Bool.false_ne_true h).elim, fun _ => ?_⟩; (conv => whnf)) | (refine ⟨fun _ => ?_, fun (h : true = false) => (Bool.false_ne_true h.symm).elim⟩; (conv => whnf))))
  refine ⟨fun h => absurd (of_decide_eq_true h) (by omega), fun _ => ?_⟩
  ((conv => whnf); repeat (first | (refine ⟨fun (h : false = true) => (Bool.false_ne_true h).elim, fun _ => ?_⟩; (conv => whnf)) | (refine ⟨fun _ => ?_, fun (h : true = false) => (Bool.false_ne_true h.symm).elim⟩; (conv => whnf))))
  refine ⟨fun h => absurd (of_decide_eq_true h) (by omega), fun _ => ?_⟩
  ((conv => whnf); repeat (first | (refine ⟨fun (h : false = true) => (Bool.false_ne_true h).elim, fun _ => ?_⟩; (conv => whnf)) | (refine ⟨fun _ => ?_, fun (h : true = false) => (Bool.false_ne_true h.symm).elim⟩; (conv => whnf))))
  refine ⟨by decide, ?_⟩
  ((conv => whnf); repeat (first | (refine ⟨fun (h : false = true) => (Bool.false_ne_true h).elim, fun _ => ?_⟩; (conv => whnf)) | (refine ⟨fun _ => ?_, fun (h : true = false) => (Bool.false_ne_true h.symm).elim⟩; (conv => whnf))))
  exact done0 rfl (.cons .tmp (.cons .tmp .nil)) (congrArg (fun z => SV.tup [.val (.int .u64 z), boolSV true]) (idN_or p m hp hm').symm) rfl

theorem id_no (p : Int) (m : Nat) (h : p < 0 ∨ 65536 ≤ p ∨ 281474976710656 ≤ m) : Sy.Spec Try.prog 13 [intSV p, u64SV m] [] (.tup [u64SV (0 : Nat), boolSV false]) [] := contract Γ hm 100 F13 Try.ntmps13 rfl fun F hF => by
  ((conv => whnf); repeat (first | (refine ⟨fun (h : false = true) => (Bool.false_ne_true h).elim, fun _ => ?_⟩; (conv => whnf)) | (refine ⟨fun _ => ?_, fun (h : true = false) => (Bool.false_ne_true h.symm).elim⟩; (conv => whnf))))
  refine ⟨fun h1 => ?_, fun h1 => ?_⟩
  · ((conv => whnf); repeat (first | (refine ⟨fun (h : false = true) => (Bool.false_ne_true h).elim, fun _ => ?_⟩; (conv => whnf)) | (refine ⟨fun _ => ?_, fun (h : true = false) => (Bool.false_ne_true h.symm).elim⟩; (conv => whnf))))
    exact done0 rfl (.cons .tmp (.cons .tmp .nil)) rfl rfl
  · have h1 := of_decide_eq_false h1
    ((conv => whnf); repeat (first | (refine ⟨fun (h : false = true) => (Bool.false_ne_true h).elim, fun _ => ?_⟩; (conv => whnf)) | (refine ⟨fun _ => ?_, fun (h : true = false) => (Bool.false_ne_true h.symm).elim⟩; (conv => whnf))))
    refine ⟨fun h2 => ?_, fun h2 => ?_⟩
    · ((conv => whnf); repeat (first | (refine ⟨fun (h : false = true) => (Bool.false_ne_true h).elim, fun _ => ?_⟩; (conv => whnf)) | (refine ⟨fun _ => ?_, fun (h : true = false) => (Bool.false_ne_true h.symm).elim⟩; (conv => whnf))))
      exact done0 rfl (.cons .tmp (.cons .tmp .nil)) rfl rfl
    · have h2 := of_decide_eq_false h2
      ((conv => whnf); repeat (first | (refine ⟨fun (h : false = true) => (Bool.false_ne_true h).elim, fun _ => ?_⟩; (conv => whnf)) | (refine ⟨fun _ => ?_, fun (h : true = false) => (Bool.false_ne_true h.symm).elim⟩; (conv => whnf))))
      refine ⟨fun _ => ?_, fun h => absurd (of_decide_eq_false h) (by omega)⟩
      ((conv => whnf); repeat (first | (refine ⟨fun (h : false = true) => (Bool.false_ne_true h).elim, fun _ => ?_⟩; (conv => whnf)) | (refine ⟨fun _ => ?_, fun (h : true = false) => (Bool.false_ne_true h.symm).elim⟩; (conv => whnf))))
      exact done0 rfl (.cons .tmp (.cons .tmp .nil)) rfl rfl

/-- cmp.Or of four. -/
def or4 (a b c d : Int) : Int := if a ≠ 0 then a else if b ≠ 0 then b else if c ≠ 0 then c else d

def firstN : List Int → Int
  | [] => 0
  | a :: l => if a ≠ 0 then a else firstN l

theorem firstN_drop (l : List Int) (i : Nat) (h : i < l.length) : firstN (l.drop i) = if l[i] ≠ 0 then l[i] else firstN (l.drop (i + 1)) := by
  rw [List.drop_eq_getElem_cons h]
  rfl

theorem orS (l : List Int) (hl : l.length < 1000000) : Sy.Spec Try.prog 28 [.sl 1 intSV l] [] (intSV (firstN l)) [] := contract Γ hm 100 F28 Try.ntmps28 rfl fun F hF => by
  ((conv => whnf); repeat (first | (refine ⟨fun (h : false = true) => (Bool.false_ne_true h).elim, fun _ => ?_⟩; (conv => whnf)) | (refine ⟨fun _ => ?_, fun (h : true = false) => (Bool.false_ne_true h.symm).elim⟩; (conv => whnf))))
  refine G_countP l.length (fun i => firstN (l.drop i) = firstN l) (fun i => [(3, intSV 0), (6, .sl 1 intSV l), (7, intSV l.length), (8, intSV i)]) (fun _ => []) [] rfl ⟨⟨rfl, rfl, rfl, rfl, rfl, rfl, rfl, rfl, trivial⟩, trivial, rfl, rfl⟩ ?_
  intro i hi hf
  refine (run Γ hm 400 ?_)
  ((conv => whnf); repeat (first | (refine ⟨fun (h : false = true) => (Bool.false_ne_true h).elim, fun _ => ?_⟩; (conv => whnf)) | (refine ⟨fun _ => ?_, fun (h : true = false) => (Bool.false_ne_true h.symm).elim⟩; (conv => whnf))))
  refine ⟨fun h => ?_, fun h => ?_⟩
  · have hlt : i < l.length := by have := of_decide_eq_true h; omega
    have hd := firstN_drop l i hlt
    ((conv => whnf); repeat (first | (refine ⟨fun (h : false = true) => (Bool.false_ne_true h).elim, fun _ => ?_⟩; (conv => whnf)) | (refine ⟨fun _ => ?_, fun (h : true = false) => (Bool.false_ne_true h.symm).elim⟩; (conv => whnf))))
    refine ⟨rfl, by omega, by omega, ?_⟩
    ((conv => whnf); repeat (first | (refine ⟨fun (h : false = true) => (Bool.false_ne_true h).elim, fun _ => ?_⟩; (conv => whnf)) | (refine ⟨fun _ => ?_, fun (h : true = false) => (Bool.false_ne_true h.symm).elim⟩; (conv => whnf))))
    refine ⟨fun h2 => ?_, fun h2 => ?_⟩
    · ((conv => whnf); repeat (first | (refine ⟨fun (h : false = true) => (Bool.false_ne_true h).elim, fun _ => ?_⟩; (conv => whnf)) | (refine ⟨fun _ => ?_, fun (h : true = false) => (Bool.false_ne_true h.symm).elim⟩; (conv => whnf))))
      refine done0 rfl (.cons .tmp .nil) (congrArg intSV ?_) rfl
      have h3 : l[i] ≠ 0 := by simpa using h2
      rw [← hf, hd, if_pos h3]
      rfl
    · have h3 : ¬ l[i] ≠ 0 := by simpa using h2
      ((conv => whnf); repeat (first | (refine ⟨fun (h : false = true) => (Bool.false_ne_true h).elim, fun _ => ?_⟩; (conv => whnf)) | (refine ⟨fun _ => ?_, fun (h : true = false) => (Bool.false_ne_true h.symm).elim⟩; (conv => whnf))))
      refine ⟨by unfold I64; omega, ?_⟩
      ((conv => whnf); repeat (first | (refine ⟨fun (h : false = true) => (Bool.false_ne_true h).elim, fun _ => ?_⟩; (conv => whnf)) | (refine ⟨fun _ => ?_, fun (h : true = false) => (Bool.false_ne_true h.symm).elim⟩; (conv => whnf))))
      exact G_nextP [] hf hlt (by rw [← hf, hd, if_neg h3]) ⟨⟨rfl, rfl, rfl, rfl, rfl, rfl, rfl, rfl, trivial⟩, trivial, rfl, rfl⟩
  · have : i = l.length := by have := of_decide_eq_false h; omega
    subst this
    ((conv => whnf); repeat (first | (refine ⟨fun (h : false = true) => (Bool.false_ne_true h).elim, fun _ => ?_⟩; (conv => whnf)) | (refine ⟨fun _ => ?_, fun (h : true = false) => (Bool.false_ne_true h.symm).elim⟩; (conv => whnf))))
    exact done0 rfl (.cons .tmp .nil) (congrArg intSV (by rw [← hf, List.drop_length]; rfl)) rfl

def betterB (a b : Msg) : Bool := decide (firstN [cmp3 a.root b.root, cmp3 a.cost b.cost, cmp3 a.bridge b.bridge, cmp3 a.port b.port] < 0)

theorem betterS (a b : Msg) : Sy.Spec Try.prog 16 [msgSV a, msgSV b] [] (boolSV (betterB a b)) [] := contract Γ hm 100 F16 Try.ntmps16 rfl fun F hF => by
  ((conv => whnf); repeat (first | (refine ⟨fun (h : false = true) => (Bool.false_ne_true h).elim, fun _ => ?_⟩; (conv => whnf)) | (refine ⟨fun _ => ?_, fun (h : true = false) => (Bool.false_ne_true h.symm).elim⟩; (conv => whnf))))
  refine callD0 (cmpu a.root b.root) F29 rfl rfl rfl (by kernel_rfl) rfl (runD Γ hm 400 (by kernel_rfl) ?_)
  ((conv => whnf); repeat (first | (refine ⟨fun (h : false = true) => (Bool.false_ne_true h).elim, fun _ => ?_⟩; (conv => whnf)) | (refine ⟨fun _ => ?_, fun (h : true = false) => (Bool.false_ne_true h.symm).elim⟩; (conv => whnf))))
  refine callD0 (cmpi a.cost b.cost) F30 rfl rfl rfl (by kernel_rfl) rfl (runD Γ hm 400 (by kernel_rfl) ?_)
  ((conv => whnf); repeat (first | (refine ⟨fun (h : false = true) => (Bool.false_ne_true h).elim, fun _ => ?_⟩; (conv => whnf)) | (refine ⟨fun _ => ?_, fun (h : true = false) => (Bool.false_ne_true h.symm).elim⟩; (conv => whnf))))
  refine callD0 (cmpu a.bridge b.bridge) F29 rfl rfl rfl (by kernel_rfl) rfl (runD Γ hm 400 (by kernel_rfl) ?_)
  ((conv => whnf); repeat (first | (refine ⟨fun (h : false = true) => (Bool.false_ne_true h).elim, fun _ => ?_⟩; (conv => whnf)) | (refine ⟨fun _ => ?_, fun (h : true = false) => (Bool.false_ne_true h.symm).elim⟩; (conv => whnf))))
  refine callD0 (cmpi a.port b.port) F30 rfl rfl rfl (by kernel_rfl) rfl (runD Γ hm 400 (by kernel_rfl) ?_)
  ((conv => whnf); repeat (first | (refine ⟨fun (h : false = true) => (Bool.false_ne_true h).elim, fun _ => ?_⟩; (conv => whnf)) | (refine ⟨fun _ => ?_, fun (h : true = false) => (Bool.false_ne_true h.symm).elim⟩; (conv => whnf))))
  refine stepD (good_callK [25] rfl F28 (orS [cmp3 a.root b.root, cmp3 a.cost b.cost, cmp3 a.bridge b.bridge, cmp3 a.port b.port] (by simp)) (.cons (.lit rfl rfl rfl) .nil) rfl rfl) (by kernel_rfl) rfl (runD Γ hm 400 (by kernel_rfl) ?_)
  ((conv => whnf); repeat (first | (refine ⟨fun (h : false = true) => (Bool.false_ne_true h).elim, fun _ => ?_⟩; (conv => whnf)) | (refine ⟨fun _ => ?_, fun (h : true = false) => (Bool.false_ne_true h.symm).elim⟩; (conv => whnf))))
  refine ⟨(by kernel_rfl), ?_⟩
  ((conv => whnf); repeat (first | (refine ⟨fun (h : false = true) => (Bool.false_ne_true h).elim, fun _ => ?_⟩; (conv => whnf)) | (refine ⟨fun _ => ?_, fun (h : true = false) => (Bool.false_ne_true h.symm).elim⟩; (conv => whnf))))
  exact done0 rfl (.cons .tmp .nil) rfl rfl

theorem refBetterS (a b : Msg) : Sy.Spec Try.prog 17 [msgSV a, msgSV b] [] (boolSV (betterB a b)) [] := contract Γ hm 100 F17 Try.ntmps17 rfl fun F hF => by
  have hne : ∀ x y : Int, (x != y) = true → x ≠ y := fun x y h => by simpa using h
  have heq : ∀ x y : Int, (x != y) = false → x = y := fun x y h => by simpa using h
  have h3 : ∀ x y : Int, cmp3 x y = 0 ↔ x = y := fun x y => by unfold cmp3; repeat' split <;> omega
  have h4 : ∀ x y : Int, cmp3 x y < 0 ↔ x < y := fun x y => by unfold cmp3; repeat' split <;> omega
  ((conv => whnf); repeat (first | (refine ⟨fun (h : false = true) => (Bool.false_ne_true h).elim, fun _ => ?_⟩; (conv => whnf)) | (refine ⟨fun _ => ?_, fun (h : true = false) => (Bool.false_ne_true h.symm).elim⟩; (conv => whnf))))
  refine ⟨fun h => ?_, fun h => ?_⟩
  · have h := hne _ _ h
    ((conv => whnf); repeat (first | (refine ⟨fun (h : false = true) => (Bool.false_ne_true h).elim, fun _ => ?_⟩; (conv => whnf)) | (refine ⟨fun _ => ?_, fun (h : true = false) => (Bool.false_ne_true h.symm).elim⟩; (conv => whnf))))
    refine done0 rfl (.cons .tmp .nil) (congrArg boolSV (decide_eq_decide.2 ?_)) rfl
    rw [firstN, if_pos (by rw [Ne, h3]; exact h)]
    exact h4 _ _
  · have e1 := (h3 _ _).2 (heq _ _ h)
    ((conv => whnf); repeat (first | (refine ⟨fun (h : false = true) => (Bool.false_ne_true h).elim, fun _ => ?_⟩; (conv => whnf)) | (refine ⟨fun _ => ?_, fun (h : true = false) => (Bool.false_ne_true h.symm).elim⟩; (conv => whnf))))
    refine ⟨fun h => ?_, fun h => ?_⟩
    · have h := hne _ _ h
      ((conv => whnf); repeat (first | (refine ⟨fun (h : false = true) => (Bool.false_ne_true h).elim, fun _ => ?_⟩; (conv => whnf)) | (refine ⟨fun _ => ?_, fun (h : true = false) => (Bool.false_ne_true h.symm).elim⟩; (conv => whnf))))
      refine done0 rfl (.cons .tmp .nil) (congrArg boolSV (decide_eq_decide.2 ?_)) rfl
      rw [firstN, if_neg (by rw [e1]; decide), firstN, if_pos (by rw [Ne, h3]; exact h)]
      exact h4 _ _
    · have e2 := (h3 _ _).2 (heq _ _ h)
      ((conv => whnf); repeat (first | (refine ⟨fun (h : false = true) => (Bool.false_ne_true h).elim, fun _ => ?_⟩; (conv => whnf)) | (refine ⟨fun _ => ?_, fun (h : true = false) => (Bool.false_ne_true h.symm).elim⟩; (conv => whnf))))
      refine ⟨fun h => ?_, fun h => ?_⟩
      · have h := hne _ _ h
        ((conv => whnf); repeat (first | (refine ⟨fun (h : false = true) => (Bool.false_ne_true h).elim, fun _ => ?_⟩; (conv => whnf)) | (refine ⟨fun _ => ?_, fun (h : true = false) => (Bool.false_ne_true h.symm).elim⟩; (conv => whnf))))
        refine done0 rfl (.cons .tmp .nil) (congrArg boolSV (decide_eq_decide.2 ?_)) rfl
        rw [firstN, if_neg (by rw [e1]; decide), firstN, if_neg (by rw [e2]; decide), firstN, if_pos (by rw [Ne, h3]; exact h)]
        exact h4 _ _
      · have e3 := (h3 _ _).2 (heq _ _ h)
        ((conv => whnf); repeat (first | (refine ⟨fun (h : false = true) => (Bool.false_ne_true h).elim, fun _ => ?_⟩; (conv => whnf)) | (refine ⟨fun _ => ?_, fun (h : true = false) => (Bool.false_ne_true h.symm).elim⟩; (conv => whnf))))
        refine done0 rfl (.cons .tmp .nil) (congrArg boolSV (decide_eq_decide.2 ?_)) rfl
        rw [firstN, if_neg (by rw [e1]; decide), firstN, if_neg (by rw [e2]; decide), firstN, if_neg (by rw [e3]; decide), firstN]
        by_cases h : cmp3 a.port b.port = 0
        · rw [if_neg (by rw [h]; decide)]
          have := (h3 _ _).1 h
          simp [firstN]
          omega
        · rw [if_pos h]
          exact h4 _ _
end Go.Sy.Ytjfglngcfghfnaa
