/-
  Contracts, 1: trial.
-/
import Derived.Test.YtjfglngcfghfnaaTy
namespace Go.Sy.Ytjfglngcfghfnaa
open Go.Proofs

attribute [local irreducible] Go.Sy.G Go.Sy.DR

theorem isNaNu (n : Int) : Sy.Spec Try.prog 38 [u64SV n] [] (boolSV false) [] := contract Γ hm 100 F38 Try.ntmps38 rfl fun F hF => by
  ((conv => whnf); repeat (first | (refine ⟨fun (h : false = true) => (Bool.false_ne_true h).elim, fun _ => ?_⟩; (conv => whnf)) | (refine ⟨fun _ => ?_, fun (h : true = false) => (Bool.false_ne_true h.symm).elim⟩; (conv => whnf))))
  exact done0 rfl (.cons .tmp .nil) (by simp [comb, boolSV]; rfl) rfl
theorem isNaNi (n : Int) : Sy.Spec Try.prog 39 [intSV n] [] (boolSV false) [] := contract Γ hm 100 F39 Try.ntmps39 rfl fun F hF => by
  ((conv => whnf); repeat (first | (refine ⟨fun (h : false = true) => (Bool.false_ne_true h).elim, fun _ => ?_⟩; (conv => whnf)) | (refine ⟨fun _ => ?_, fun (h : true = false) => (Bool.false_ne_true h.symm).elim⟩; (conv => whnf))))
  exact done0 rfl (.cons .tmp .nil) (by simp [comb, boolSV]; rfl) rfl

def cmp3 (n m : Int) : Int := if n < m then -1 else if n > m then 1 else 0

theorem cmpu (n m : Int) : Sy.Spec Try.prog 29 [u64SV n, u64SV m] [] (intSV (cmp3 n m)) [] := contract Γ hm 100 F29 Try.ntmps29 rfl fun F hF => by
  ((conv => whnf); repeat (first | (refine ⟨fun (h : false = true) => (Bool.false_ne_true h).elim, fun _ => ?_⟩; (conv => whnf)) | (refine ⟨fun _ => ?_, fun (h : true = false) => (Bool.false_ne_true h.symm).elim⟩; (conv => whnf))))
  refine call0 (isNaNu n) F38 rfl rfl rfl rfl rfl (run Γ hm 400 ?_)
  ((conv => whnf); repeat (first | (refine ⟨fun (h : false = true) => (Bool.false_ne_true h).elim, fun _ => ?_⟩; (conv => whnf)) | (refine ⟨fun _ => ?_, fun (h : true = false) => (Bool.false_ne_true h.symm).elim⟩; (conv => whnf))))
  refine call0 (isNaNu m) F38 rfl rfl rfl rfl rfl (run Γ hm 400 ?_)
  ((conv => whnf); repeat (first | (refine ⟨fun (h : false = true) => (Bool.false_ne_true h).elim, fun _ => ?_⟩; (conv => whnf)) | (refine ⟨fun _ => ?_, fun (h : true = false) => (Bool.false_ne_true h.symm).elim⟩; (conv => whnf))))
  refine ⟨fun h => ?_, fun h => ?_⟩
  · ((conv => whnf); repeat (first | (refine ⟨fun (h : false = true) => (Bool.false_ne_true h).elim, fun _ => ?_⟩; (conv => whnf)) | (refine ⟨fun _ => ?_, fun (h : true = false) => (Bool.false_ne_true h.symm).elim⟩; (conv => whnf))))
    exact done0 rfl (.cons .tmp .nil) (by rw [cmp3, if_pos (of_decide_eq_true h)]; rfl) rfl
  · ((conv => whnf); repeat (first | (refine ⟨fun (h : false = true) => (Bool.false_ne_true h).elim, fun _ => ?_⟩; (conv => whnf)) | (refine ⟨fun _ => ?_, fun (h : true = false) => (Bool.false_ne_true h.symm).elim⟩; (conv => whnf))))
    refine ⟨fun h' => ?_, fun h' => ?_⟩
    · ((conv => whnf); repeat (first | (refine ⟨fun (h : false = true) => (Bool.false_ne_true h).elim, fun _ => ?_⟩; (conv => whnf)) | (refine ⟨fun _ => ?_, fun (h : true = false) => (Bool.false_ne_true h.symm).elim⟩; (conv => whnf))))
      exact done0 rfl (.cons .tmp .nil) (by rw [cmp3, if_neg (of_decide_eq_false h), if_pos (of_decide_eq_true h')]; rfl) rfl
    · ((conv => whnf); repeat (first | (refine ⟨fun (h : false = true) => (Bool.false_ne_true h).elim, fun _ => ?_⟩; (conv => whnf)) | (refine ⟨fun _ => ?_, fun (h : true = false) => (Bool.false_ne_true h.symm).elim⟩; (conv => whnf))))
      exact done0 rfl (.cons .tmp .nil) (by rw [cmp3, if_neg (of_decide_eq_false h), if_neg (of_decide_eq_false h')]; rfl) rfl
theorem cmpi (n m : Int) : Sy.Spec Try.prog 30 [intSV n, intSV m] [] (intSV (cmp3 n m)) [] := contract Γ hm 100 F30 Try.ntmps30 rfl fun F hF => by
  ((conv => whnf); repeat (first | (refine ⟨fun (h : false = true) => (Bool.false_ne_true h).elim, fun _ => ?_⟩; (conv => whnf)) | (refine ⟨fun _ => ?_, fun (h : true = false) => (Bool.false_ne_true h.symm).elim⟩; (conv => whnf))))
  refine call0 (isNaNi n) F39 rfl rfl rfl rfl rfl (run Γ hm 400 ?_)
  ((conv => whnf); repeat (first | (refine ⟨fun (h : false = true) => (Bool.false_ne_true h).elim, fun _ => ?_⟩; (conv => whnf)) | (refine ⟨fun _ => ?_, fun (h : true = false) => (Bool.false_ne_true h.symm).elim⟩; (conv => whnf))))
  refine call0 (isNaNi m) F39 rfl rfl rfl rfl rfl (run Γ hm 400 ?_)
  ((conv => whnf); repeat (first | (refine ⟨fun (h : false = true) => (Bool.false_ne_true h).elim, fun _ => ?_⟩; (conv => whnf)) | (refine ⟨fun _ => ?_, fun (h : true = false) => (Bool.false_ne_true h.symm).elim⟩; (conv => whnf))))
  refine ⟨fun h => ?_, fun h => ?_⟩
  · ((conv => whnf); repeat (first | (refine ⟨fun (h : false = true) => (Bool.false_ne_true h).elim, fun _ => ?_⟩; (conv => whnf)) | (refine ⟨fun _ => ?_, fun (h : true = false) => (Bool.false_ne_true h.symm).elim⟩; (conv => whnf))))
    exact done0 rfl (.cons .tmp .nil) (by rw [cmp3, if_pos (of_decide_eq_true h)]; rfl) rfl
  · ((conv => whnf); repeat (first | (refine ⟨fun (h : false = true) => (Bool.false_ne_true h).elim, fun _ => ?_⟩; (conv => whnf)) | (refine ⟨fun _ => ?_, fun (h : true = false) => (Bool.false_ne_true h.symm).elim⟩; (conv => whnf))))
    refine ⟨fun h' => ?_, fun h' => ?_⟩
    · ((conv => whnf); repeat (first | (refine ⟨fun (h : false = true) => (Bool.false_ne_true h).elim, fun _ => ?_⟩; (conv => whnf)) | (refine ⟨fun _ => ?_, fun (h : true = false) => (Bool.false_ne_true h.symm).elim⟩; (conv => whnf))))
      exact done0 rfl (.cons .tmp .nil) (by rw [cmp3, if_neg (of_decide_eq_false h), if_pos (of_decide_eq_true h')]; rfl) rfl
    · ((conv => whnf); repeat (first | (refine ⟨fun (h : false = true) => (Bool.false_ne_true h).elim, fun _ => ?_⟩; (conv => whnf)) | (refine ⟨fun _ => ?_, fun (h : true = false) => (Bool.false_ne_true h.symm).elim⟩; (conv => whnf))))
      exact done0 rfl (.cons .tmp .nil) (by rw [cmp3, if_neg (of_decide_eq_false h), if_neg (of_decide_eq_false h')]; rfl) rfl

/-- mac.shift. -/
theorem shiftS (i : Int) (h0 : 0 ≤ i) (h5 : i ≤ 5) : Sy.Spec Try.prog 41 [intSV i] [] (u64SV (8 * (5 - i))) [] := contract Γ hm 100 F41 Try.ntmps41 rfl fun F hF => by
  ((conv => whnf); repeat (first | (refine ⟨fun (h : false = true) => (Bool.false_ne_true h).elim, fun _ => ?_⟩; (conv => whnf)) | (refine ⟨fun _ => ?_, fun (h : true = false) => (Bool.false_ne_true h.symm).elim⟩; (conv => whnf))))
  refine ⟨by unfold I64; omega, ?_⟩
  ((conv => whnf); repeat (first | (refine ⟨fun (h : false = true) => (Bool.false_ne_true h).elim, fun _ => ?_⟩; (conv => whnf)) | (refine ⟨fun _ => ?_, fun (h : true = false) => (Bool.false_ne_true h.symm).elim⟩; (conv => whnf))))
  refine ⟨by unfold I64; omega, ?_⟩
  ((conv => whnf); repeat (first | (refine ⟨fun (h : false = true) => (Bool.false_ne_true h).elim, fun _ => ?_⟩; (conv => whnf)) | (refine ⟨fun _ => ?_, fun (h : true = false) => (Bool.false_ne_true h.symm).elim⟩; (conv => whnf))))
  refine done0 rfl (.cons .tmp .nil) (congrArg (fun z => SV.val (.int .u64 z)) ?_) rfl
  rw [IntKind.wrap_u64]
  omega

/-- palingref01.number. -/
def num (l : List UInt8) : Nat := l.foldl (fun n b => n * 256 + b.toNat) 0

theorem num_snoc (l : List UInt8) (b : UInt8) : num (l ++ [b]) = num l * 256 + b.toNat := by simp [num]

theorem num_take (l : List UInt8) (i : Nat) (h : i < l.length) : num (l.take (i + 1)) = num (l.take i) * 256 + l[i].toNat := by
  rw [List.take_succ_eq_append_getElem h, num_snoc]

theorem number1 (l : List UInt8) (hl : l.length < 1000000) : Sy.Spec Try.prog 40 [.sl 1 byteSV l] [] (u64SV (num l % 18446744073709551616)) [] := contract Γ hm 100 F40 Try.ntmps40 rfl fun F hF => by
  ((conv => whnf); repeat (first | (refine ⟨fun (h : false = true) => (Bool.false_ne_true h).elim, fun _ => ?_⟩; (conv => whnf)) | (refine ⟨fun _ => ?_, fun (h : true = false) => (Bool.false_ne_true h.symm).elim⟩; (conv => whnf))))
  refine G_count l.length (fun i => [(0, .sl 1 byteSV l), (3, u64SV (num (l.take i) % 18446744073709551616)), (4, intSV i)]) (fun _ => []) [] ⟨⟨rfl, rfl, rfl, rfl, rfl, rfl, trivial⟩, trivial, rfl, rfl⟩ ?_
  intro i hi
  refine (run Γ hm 400 ?_)
  ((conv => whnf); repeat (first | (refine ⟨fun (h : false = true) => (Bool.false_ne_true h).elim, fun _ => ?_⟩; (conv => whnf)) | (refine ⟨fun _ => ?_, fun (h : true = false) => (Bool.false_ne_true h.symm).elim⟩; (conv => whnf))))
  refine ⟨fun h => ?_, fun h => ?_⟩
  · have hlt : i < l.length := by have := of_decide_eq_true h; omega
    ((conv => whnf); repeat (first | (refine ⟨fun (h : false = true) => (Bool.false_ne_true h).elim, fun _ => ?_⟩; (conv => whnf)) | (refine ⟨fun _ => ?_, fun (h : true = false) => (Bool.false_ne_true h.symm).elim⟩; (conv => whnf))))
    refine ⟨rfl, by omega, by omega, ?_⟩
    ((conv => whnf); repeat (first | (refine ⟨fun (h : false = true) => (Bool.false_ne_true h).elim, fun _ => ?_⟩; (conv => whnf)) | (refine ⟨fun _ => ?_, fun (h : true = false) => (Bool.false_ne_true h.symm).elim⟩; (conv => whnf))))
    refine ⟨by unfold I64; omega, ?_⟩
    ((conv => whnf); repeat (first | (refine ⟨fun (h : false = true) => (Bool.false_ne_true h).elim, fun _ => ?_⟩; (conv => whnf)) | (refine ⟨fun _ => ?_, fun (h : true = false) => (Bool.false_ne_true h.symm).elim⟩; (conv => whnf))))
    refine G_next [] hlt ⟨⟨rfl, rfl, congrArg (fun z => SV.val (.int .u64 z)) ?_, rfl, rfl, rfl, trivial⟩, trivial, rfl, rfl⟩
    simp only [IntKind.wrap_u64, num_take l i hlt, Int.toNat_natCast]
    omega
  · have : i = l.length := by have := of_decide_eq_false h; omega
    subst this
    ((conv => whnf); repeat (first | (refine ⟨fun (h : false = true) => (Bool.false_ne_true h).elim, fun _ => ?_⟩; (conv => whnf)) | (refine ⟨fun _ => ?_, fun (h : true = false) => (Bool.false_ne_true h.symm).elim⟩; (conv => whnf))))
    exact done0 rfl (.cons .tmp .nil) (by rw [← congrArg num (List.take_length (l := l))]; rfl) rfl

theorem num_lt : ∀ (l : List UInt8), num l < 256 ^ l.length := by
  have key : ∀ (l : List UInt8) (n k : Nat), n < 256 ^ k → l.foldl (fun n b => n * 256 + b.toNat) n < 256 ^ (k + l.length) := by
    intro l
    induction l with
    | nil => intro n k h; simpa using h
    | cons b l ih =>
      intro n k h
      have hb : b.toNat < 256 := b.toNat_lt
      have := ih (n * 256 + b.toNat) (k + 1) (by rw [Nat.pow_succ]; omega)
      simp only [List.foldl_cons, List.length_cons]
      rw [show k + (l.length + 1) = k + 1 + l.length by omega]
      exact this
  intro l
  have := key l 0 0 (by simp)
  simpa [num] using this

end Go.Sy.Ytjfglngcfghfnaa
