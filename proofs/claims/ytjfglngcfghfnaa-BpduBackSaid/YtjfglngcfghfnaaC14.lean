/-
  Contracts, 14: the law of the way back.
-/
import Derived.Test.YtjfglngcfghfnaaC13
import Derived.Test.YtjfglngcfghfnaaD5
namespace Go.Sy.Ytjfglngcfghfnaa
open Go.Proofs

attribute [local irreducible] Go.Sy.G Go.Sy.DR outL takeM rightB
set_option maxRecDepth 8000
set_option maxHeartbeats 1000000

theorem good_slice_eq {P : Program} (Γ : Ty P) {o : Oper} {s : SS} {t : TypeId} {ti : TI} {et : TypeId} {sz eb lo hi : Nat} {ez : List Value} {x : Operand} {lx hx : Option Operand} {α : Type} {e : α → SV} {l : List α} (r : List α)
    (h : o.op = .slice t x lx hx none) (ht : Γ.get t = some ti) (hk : ti.k = .slice et sz eb ez) (hxe : ev s x = .sl sz e l) (hlo : BoundIs s lx 0 lo) (hhi : BoundIs s hx l.length hi) (h1 : lo ≤ hi) (h2 : hi ≤ l.length) (hr : (l.take hi).drop lo = r) :
    Good P o s ⟨.sl sz e r, [], []⟩ := by
  subst hr
  exact good_slice_sl Γ h ht hk hxe hlo hhi h1 h2

set_option linter.unusedVariables false in
theorem backS (src : Nat) (m : Msg) (tail b : List UInt8) (hi : m.InRange) : Sy.Spec Try.prog 4 [u64SV src, msgSV m, .sl 1 byteSV tail, .sl 1 byteSV b] [] (boolSV true) [] := contract Γ hm 100 F4 Try.ntmps4 rfl fun F hF => by
  ((conv => whnf); repeat (first | (refine ⟨fun (h : false = true) => (Bool.false_ne_true h).elim, fun _ => ?_⟩; (conv => whnf)) | (refine ⟨fun _ => ?_, fun (h : true = false) => (Bool.false_ne_true h.symm).elim⟩; (conv => whnf))))
  refine call0 worksS F7 rfl rfl rfl rfl rfl (run Γ hm 400 ?_)
  ((conv => whnf); repeat (first | (refine ⟨fun (h : false = true) => (Bool.false_ne_true h).elim, fun _ => ?_⟩; (conv => whnf)) | (refine ⟨fun _ => ?_, fun (h : true = false) => (Bool.false_ne_true h.symm).elim⟩; (conv => whnf))))
  refine ⟨fun _ => ?_, fun ht => ?_⟩
  · ((conv => whnf); repeat (first | (refine ⟨fun (h : false = true) => (Bool.false_ne_true h).elim, fun _ => ?_⟩; (conv => whnf)) | (refine ⟨fun _ => ?_, fun (h : true = false) => (Bool.false_ne_true h.symm).elim⟩; (conv => whnf))))
    exact done rfl (.cons .tmp .nil) [] [] (fun _ h => h) rfl rfl ⟨trivial, trivial, rfl, rfl⟩
  have ht : tail.length ≤ 1000 := by have := of_decide_eq_false ht; omega
  ((conv => whnf); repeat (first | (refine ⟨fun (h : false = true) => (Bool.false_ne_true h).elim, fun _ => ?_⟩; (conv => whnf)) | (refine ⟨fun _ => ?_, fun (h : true = false) => (Bool.false_ne_true h.symm).elim⟩; (conv => whnf))))
  refine ⟨fun _ => ?_, fun hb4 => ?_⟩
  · ((conv => whnf); repeat (first | (refine ⟨fun (h : false = true) => (Bool.false_ne_true h).elim, fun _ => ?_⟩; (conv => whnf)) | (refine ⟨fun _ => ?_, fun (h : true = false) => (Bool.false_ne_true h.symm).elim⟩; (conv => whnf))))
    exact done rfl (.cons .tmp .nil) [] [] (fun _ h => h) rfl rfl ⟨trivial, trivial, rfl, rfl⟩
  have hb4 : b.length ≤ 4000 := by have := of_decide_eq_false hb4; omega
  ((conv => whnf); repeat (first | (refine ⟨fun (h : false = true) => (Bool.false_ne_true h).elim, fun _ => ?_⟩; (conv => whnf)) | (refine ⟨fun _ => ?_, fun (h : true = false) => (Bool.false_ne_true h.symm).elim⟩; (conv => whnf))))
  cases hr : rightB m with
  | false =>
    refine call0 (put_no src m hr) F10 rfl rfl rfl rfl rfl (run Γ hm 400 ?_)
    ((conv => whnf); repeat (first | (refine ⟨fun (h : false = true) => (Bool.false_ne_true h).elim, fun _ => ?_⟩; (conv => whnf)) | (refine ⟨fun _ => ?_, fun (h : true = false) => (Bool.false_ne_true h.symm).elim⟩; (conv => whnf))))
    refine call0 (takeS b) F8 rfl rfl rfl rfl rfl (run Γ hm 400 ?_)
    have herr := take_err b
    have hput := take_put b
    generalize takeM b = p at *
    obtain ⟨s, n, e⟩ := p
    simp only at herr
    ((conv => whnf); repeat (first | (refine ⟨fun (h : false = true) => (Bool.false_ne_true h).elim, fun _ => ?_⟩; (conv => whnf)) | (refine ⟨fun _ => ?_, fun (h : true = false) => (Bool.false_ne_true h.symm).elim⟩; (conv => whnf))))
    refine ⟨fun he => ?_, fun he => ?_⟩
    · have he : e ≠ 0 := by intro h0; subst h0; simp at he
      obtain ⟨rfl, rfl⟩ := herr he
      ((conv => whnf); repeat (first | (refine ⟨fun (h : false = true) => (Bool.false_ne_true h).elim, fun _ => ?_⟩; (conv => whnf)) | (refine ⟨fun _ => ?_, fun (h : true = false) => (Bool.false_ne_true h.symm).elim⟩; (conv => whnf))))
      exact done rfl (.cons .tmp .nil) [] [] (fun _ h => h) rfl rfl ⟨trivial, trivial, rfl, rfl⟩
    have he : e = 0 := by simpa using he
    subst he
    obtain ⟨hrn, hsn, hin, hle, htk⟩ := hput s n rfl
    have hpo := put_ok s n hrn hsn
    have hRn := rightS n
    rw [hrn] at hRn
    clear hput herr
    generalize outL s n = o at hle htk hpo
    ((conv => whnf); repeat (first | (refine ⟨fun (h : false = true) => (Bool.false_ne_true h).elim, fun _ => ?_⟩; (conv => whnf)) | (refine ⟨fun _ => ?_, fun (h : true = false) => (Bool.false_ne_true h.symm).elim⟩; (conv => whnf))))
    refine stepOp (good_call [(0, 75)] rfl F10 hpo rfl trivial rfl ⟨.inr rfl, trivial⟩) rfl rfl (run Γ hm 400 ?_)
    ((conv => whnf); repeat (first | (refine ⟨fun (h : false = true) => (Bool.false_ne_true h).elim, fun _ => ?_⟩; (conv => whnf)) | (refine ⟨fun _ => ?_, fun (h : true = false) => (Bool.false_ne_true h.symm).elim⟩; (conv => whnf))))
    refine callD0 hRn F11 rfl rfl rfl (by kernel_rfl) rfl (runD Γ hm 400 (by kernel_rfl) ?_)
    ((conv => whnf); repeat (first | (refine ⟨fun (h : false = true) => (Bool.false_ne_true h).elim, fun _ => ?_⟩; (conv => whnf)) | (refine ⟨fun _ => ?_, fun (h : true = false) => (Bool.false_ne_true h.symm).elim⟩; (conv => whnf))))
    refine ⟨fun _ => ?_, fun h => absurd (of_decide_eq_false h) (by omega)⟩
    ((conv => whnf); repeat (first | (refine ⟨fun (h : false = true) => (Bool.false_ne_true h).elim, fun _ => ?_⟩; (conv => whnf)) | (refine ⟨fun _ => ?_, fun (h : true = false) => (Bool.false_ne_true h.symm).elim⟩; (conv => whnf))))
    refine stepD (good_stringT Γ.toTy rfl rfl rfl rfl rfl rfl rfl (.row rfl)) (by kernel_rfl) rfl (runD Γ hm 400 (by kernel_rfl) ?_)
    ((conv => whnf); repeat (first | (refine ⟨fun (h : false = true) => (Bool.false_ne_true h).elim, fun _ => ?_⟩; (conv => whnf)) | (refine ⟨fun _ => ?_, fun (h : true = false) => (Bool.false_ne_true h.symm).elim⟩; (conv => whnf))))
    refine stepD (good_slice_eq Γ.toTy (lo := 0) (hi := o.length) o rfl rfl rfl rfl (.inl ⟨rfl, rfl⟩) (.inr ⟨_, _, rfl, rfl⟩) (by omega) hle htk) (by kernel_rfl) rfl (runD Γ hm 400 (by kernel_rfl) ?_)
    ((conv => whnf); repeat (first | (refine ⟨fun (h : false = true) => (Bool.false_ne_true h).elim, fun _ => ?_⟩; (conv => whnf)) | (refine ⟨fun _ => ?_, fun (h : true = false) => (Bool.false_ne_true h.symm).elim⟩; (conv => whnf))))
    refine stepD (good_stringT Γ.toTy rfl rfl rfl rfl rfl rfl rfl .sl) (by kernel_rfl) rfl (runD Γ hm 400 (by kernel_rfl) ?_)
    ((conv => whnf); repeat (first | (refine ⟨fun (h : false = true) => (Bool.false_ne_true h).elim, fun _ => ?_⟩; (conv => whnf)) | (refine ⟨fun _ => ?_, fun (h : true = false) => (Bool.false_ne_true h.symm).elim⟩; (conv => whnf))))
    refine ⟨(by kernel_rfl), ?_⟩
    ((conv => whnf); repeat (first | (refine ⟨fun (h : false = true) => (Bool.false_ne_true h).elim, fun _ => ?_⟩; (conv => whnf)) | (refine ⟨fun _ => ?_, fun (h : true = false) => (Bool.false_ne_true h.symm).elim⟩; (conv => whnf))))
    exact done rfl (.cons .tmp .nil) [] [] (fun _ h => h) (congrArg boolSV (bytes_self _).symm) rfl ⟨trivial, trivial, rfl, rfl⟩
  | true =>
    by_cases hs : 281474976710656 ≤ src
    · refine call0 (put_bad src m hr hs) F10 rfl rfl rfl rfl rfl (run Γ hm 400 ?_)
      ((conv => whnf); repeat (first | (refine ⟨fun (h : false = true) => (Bool.false_ne_true h).elim, fun _ => ?_⟩; (conv => whnf)) | (refine ⟨fun _ => ?_, fun (h : true = false) => (Bool.false_ne_true h.symm).elim⟩; (conv => whnf))))
      refine call0 (takeS b) F8 rfl rfl rfl rfl rfl (run Γ hm 400 ?_)
      have herr := take_err b
      have hput := take_put b
      generalize takeM b = p at *
      obtain ⟨s, n, e⟩ := p
      simp only at herr
      ((conv => whnf); repeat (first | (refine ⟨fun (h : false = true) => (Bool.false_ne_true h).elim, fun _ => ?_⟩; (conv => whnf)) | (refine ⟨fun _ => ?_, fun (h : true = false) => (Bool.false_ne_true h.symm).elim⟩; (conv => whnf))))
      refine ⟨fun he => ?_, fun he => ?_⟩
      · have he : e ≠ 0 := by intro h0; subst h0; simp at he
        obtain ⟨rfl, rfl⟩ := herr he
        ((conv => whnf); repeat (first | (refine ⟨fun (h : false = true) => (Bool.false_ne_true h).elim, fun _ => ?_⟩; (conv => whnf)) | (refine ⟨fun _ => ?_, fun (h : true = false) => (Bool.false_ne_true h.symm).elim⟩; (conv => whnf))))
        exact done rfl (.cons .tmp .nil) [] [] (fun _ h => h) rfl rfl ⟨trivial, trivial, rfl, rfl⟩
      have he : e = 0 := by simpa using he
      subst he
      obtain ⟨hrn, hsn, hin, hle, htk⟩ := hput s n rfl
      have hpo := put_ok s n hrn hsn
      have hRn := rightS n
      rw [hrn] at hRn
      clear hput herr
      generalize outL s n = o at hle htk hpo
      ((conv => whnf); repeat (first | (refine ⟨fun (h : false = true) => (Bool.false_ne_true h).elim, fun _ => ?_⟩; (conv => whnf)) | (refine ⟨fun _ => ?_, fun (h : true = false) => (Bool.false_ne_true h.symm).elim⟩; (conv => whnf))))
      refine stepOp (good_call [(0, 75)] rfl F10 hpo rfl trivial rfl ⟨.inr rfl, trivial⟩) rfl rfl (run Γ hm 400 ?_)
      ((conv => whnf); repeat (first | (refine ⟨fun (h : false = true) => (Bool.false_ne_true h).elim, fun _ => ?_⟩; (conv => whnf)) | (refine ⟨fun _ => ?_, fun (h : true = false) => (Bool.false_ne_true h.symm).elim⟩; (conv => whnf))))
      refine callD0 hRn F11 rfl rfl rfl (by kernel_rfl) rfl (runD Γ hm 400 (by kernel_rfl) ?_)
      ((conv => whnf); repeat (first | (refine ⟨fun (h : false = true) => (Bool.false_ne_true h).elim, fun _ => ?_⟩; (conv => whnf)) | (refine ⟨fun _ => ?_, fun (h : true = false) => (Bool.false_ne_true h.symm).elim⟩; (conv => whnf))))
      refine ⟨fun _ => ?_, fun h => absurd (of_decide_eq_false h) (by omega)⟩
      ((conv => whnf); repeat (first | (refine ⟨fun (h : false = true) => (Bool.false_ne_true h).elim, fun _ => ?_⟩; (conv => whnf)) | (refine ⟨fun _ => ?_, fun (h : true = false) => (Bool.false_ne_true h.symm).elim⟩; (conv => whnf))))
      refine stepD (good_stringT Γ.toTy rfl rfl rfl rfl rfl rfl rfl (.row rfl)) (by kernel_rfl) rfl (runD Γ hm 400 (by kernel_rfl) ?_)
      ((conv => whnf); repeat (first | (refine ⟨fun (h : false = true) => (Bool.false_ne_true h).elim, fun _ => ?_⟩; (conv => whnf)) | (refine ⟨fun _ => ?_, fun (h : true = false) => (Bool.false_ne_true h.symm).elim⟩; (conv => whnf))))
      refine stepD (good_slice_eq Γ.toTy (lo := 0) (hi := o.length) o rfl rfl rfl rfl (.inl ⟨rfl, rfl⟩) (.inr ⟨_, _, rfl, rfl⟩) (by omega) hle htk) (by kernel_rfl) rfl (runD Γ hm 400 (by kernel_rfl) ?_)
      ((conv => whnf); repeat (first | (refine ⟨fun (h : false = true) => (Bool.false_ne_true h).elim, fun _ => ?_⟩; (conv => whnf)) | (refine ⟨fun _ => ?_, fun (h : true = false) => (Bool.false_ne_true h.symm).elim⟩; (conv => whnf))))
      refine stepD (good_stringT Γ.toTy rfl rfl rfl rfl rfl rfl rfl .sl) (by kernel_rfl) rfl (runD Γ hm 400 (by kernel_rfl) ?_)
      ((conv => whnf); repeat (first | (refine ⟨fun (h : false = true) => (Bool.false_ne_true h).elim, fun _ => ?_⟩; (conv => whnf)) | (refine ⟨fun _ => ?_, fun (h : true = false) => (Bool.false_ne_true h.symm).elim⟩; (conv => whnf))))
      refine ⟨(by kernel_rfl), ?_⟩
      ((conv => whnf); repeat (first | (refine ⟨fun (h : false = true) => (Bool.false_ne_true h).elim, fun _ => ?_⟩; (conv => whnf)) | (refine ⟨fun _ => ?_, fun (h : true = false) => (Bool.false_ne_true h.symm).elim⟩; (conv => whnf))))
      exact done rfl (.cons .tmp .nil) [] [] (fun _ h => h) (congrArg boolSV (bytes_self _).symm) rfl ⟨trivial, trivial, rfl, rfl⟩
    have hs : src < 281474976710656 := by omega
    have hol : (outL src m).length ≤ 60 := by
      have h1 : (bodyL m).length ≤ 38 := by rw [bodyL_length]; split <;> omega
      simp [outL, frame, be_length]; omega
    have hpo1 := put_ok src m hr hs
    have htake1 := takeS (outL src m ++ tail)
    rw [put_take src m tail hi hr hs ht] at htake1
    generalize outL src m = o1 at hol hpo1 htake1
    refine stepOp (good_call [(0, 32)] rfl F10 hpo1 rfl trivial rfl ⟨.inr rfl, trivial⟩) rfl rfl (run Γ hm 24 ?_)
    ((conv => whnf); repeat (first | (refine ⟨fun (h : false = true) => (Bool.false_ne_true h).elim, fun _ => ?_⟩; (conv => whnf)) | (refine ⟨fun _ => ?_, fun (h : true = false) => (Bool.false_ne_true h.symm).elim⟩; (conv => whnf))))
    refine (run Γ hm 400 ?_)
    ((conv => whnf); repeat (first | (refine ⟨fun (h : false = true) => (Bool.false_ne_true h).elim, fun _ => ?_⟩; (conv => whnf)) | (refine ⟨fun _ => ?_, fun (h : true = false) => (Bool.false_ne_true h.symm).elim⟩; (conv => whnf))))
    refine stepOp (good_appendT Γ.toTy 40 rfl rfl rfl rfl rfl (.row rfl) .sl (by decide) (by omega) (by omega)) rfl rfl (run Γ hm 400 ?_)
    ((conv => whnf); repeat (first | (refine ⟨fun (h : false = true) => (Bool.false_ne_true h).elim, fun _ => ?_⟩; (conv => whnf)) | (refine ⟨fun _ => ?_, fun (h : true = false) => (Bool.false_ne_true h.symm).elim⟩; (conv => whnf))))
    refine callK [40] htake1 F8 rfl (.cons (.row rfl rfl) .nil) rfl rfl rfl (run Γ hm 400 ?_)
    ((conv => whnf); repeat (first | (refine ⟨fun (h : false = true) => (Bool.false_ne_true h).elim, fun _ => ?_⟩; (conv => whnf)) | (refine ⟨fun _ => ?_, fun (h : true = false) => (Bool.false_ne_true h.symm).elim⟩; (conv => whnf))))
    refine ⟨fun h => absurd h (by simp), fun _ => ?_⟩
    ((conv => whnf); repeat (first | (refine ⟨fun (h : false = true) => (Bool.false_ne_true h).elim, fun _ => ?_⟩; (conv => whnf)) | (refine ⟨fun _ => ?_, fun (h : true = false) => (Bool.false_ne_true h.symm).elim⟩; (conv => whnf))))
    refine ⟨fun h => absurd h (by simp), fun _ => ?_⟩
    ((conv => whnf); repeat (first | (refine ⟨fun (h : false = true) => (Bool.false_ne_true h).elim, fun _ => ?_⟩; (conv => whnf)) | (refine ⟨fun _ => ?_, fun (h : true = false) => (Bool.false_ne_true h.symm).elim⟩; (conv => whnf))))
    refine call0 (takeS b) F8 rfl rfl rfl rfl rfl (run Γ hm 400 ?_)
    have herr := take_err b
    have hput := take_put b
    generalize takeM b = p at *
    obtain ⟨s, n, e⟩ := p
    simp only at herr
    ((conv => whnf); repeat (first | (refine ⟨fun (h : false = true) => (Bool.false_ne_true h).elim, fun _ => ?_⟩; (conv => whnf)) | (refine ⟨fun _ => ?_, fun (h : true = false) => (Bool.false_ne_true h.symm).elim⟩; (conv => whnf))))
    refine ⟨fun he => ?_, fun he => ?_⟩
    · have he : e ≠ 0 := by intro h0; subst h0; simp at he
      obtain ⟨rfl, rfl⟩ := herr he
      ((conv => whnf); repeat (first | (refine ⟨fun (h : false = true) => (Bool.false_ne_true h).elim, fun _ => ?_⟩; (conv => whnf)) | (refine ⟨fun _ => ?_, fun (h : true = false) => (Bool.false_ne_true h.symm).elim⟩; (conv => whnf))))
      exact done rfl (.cons .tmp .nil) [] [] (fun _ h => h) rfl rfl ⟨trivial, trivial, rfl, rfl⟩
    have he : e = 0 := by simpa using he
    subst he
    obtain ⟨hrn, hsn, hin, hle, htk⟩ := hput s n rfl
    have hpo := put_ok s n hrn hsn
    have hRn := rightS n
    rw [hrn] at hRn
    clear hput herr
    generalize outL s n = o at hle htk hpo
    ((conv => whnf); repeat (first | (refine ⟨fun (h : false = true) => (Bool.false_ne_true h).elim, fun _ => ?_⟩; (conv => whnf)) | (refine ⟨fun _ => ?_, fun (h : true = false) => (Bool.false_ne_true h.symm).elim⟩; (conv => whnf))))
    refine stepOp (good_call [(0, 75)] rfl F10 hpo rfl trivial rfl ⟨.inr rfl, trivial⟩) rfl rfl (run Γ hm 400 ?_)
    ((conv => whnf); repeat (first | (refine ⟨fun (h : false = true) => (Bool.false_ne_true h).elim, fun _ => ?_⟩; (conv => whnf)) | (refine ⟨fun _ => ?_, fun (h : true = false) => (Bool.false_ne_true h.symm).elim⟩; (conv => whnf))))
    refine callD0 hRn F11 rfl rfl rfl (by kernel_rfl) rfl (runD Γ hm 400 (by kernel_rfl) ?_)
    ((conv => whnf); repeat (first | (refine ⟨fun (h : false = true) => (Bool.false_ne_true h).elim, fun _ => ?_⟩; (conv => whnf)) | (refine ⟨fun _ => ?_, fun (h : true = false) => (Bool.false_ne_true h.symm).elim⟩; (conv => whnf))))
    refine ⟨fun _ => ?_, fun h => absurd (of_decide_eq_false h) (by omega)⟩
    ((conv => whnf); repeat (first | (refine ⟨fun (h : false = true) => (Bool.false_ne_true h).elim, fun _ => ?_⟩; (conv => whnf)) | (refine ⟨fun _ => ?_, fun (h : true = false) => (Bool.false_ne_true h.symm).elim⟩; (conv => whnf))))
    refine stepD (good_stringT Γ.toTy rfl rfl rfl rfl rfl rfl rfl (.row rfl)) (by kernel_rfl) rfl (runD Γ hm 400 (by kernel_rfl) ?_)
    ((conv => whnf); repeat (first | (refine ⟨fun (h : false = true) => (Bool.false_ne_true h).elim, fun _ => ?_⟩; (conv => whnf)) | (refine ⟨fun _ => ?_, fun (h : true = false) => (Bool.false_ne_true h.symm).elim⟩; (conv => whnf))))
    refine stepD (good_slice_eq Γ.toTy (lo := 0) (hi := o.length) o rfl rfl rfl rfl (.inl ⟨rfl, rfl⟩) (.inr ⟨_, _, rfl, rfl⟩) (by omega) hle htk) (by kernel_rfl) rfl (runD Γ hm 400 (by kernel_rfl) ?_)
    ((conv => whnf); repeat (first | (refine ⟨fun (h : false = true) => (Bool.false_ne_true h).elim, fun _ => ?_⟩; (conv => whnf)) | (refine ⟨fun _ => ?_, fun (h : true = false) => (Bool.false_ne_true h.symm).elim⟩; (conv => whnf))))
    refine stepD (good_stringT Γ.toTy rfl rfl rfl rfl rfl rfl rfl .sl) (by kernel_rfl) rfl (runD Γ hm 400 (by kernel_rfl) ?_)
    ((conv => whnf); repeat (first | (refine ⟨fun (h : false = true) => (Bool.false_ne_true h).elim, fun _ => ?_⟩; (conv => whnf)) | (refine ⟨fun _ => ?_, fun (h : true = false) => (Bool.false_ne_true h.symm).elim⟩; (conv => whnf))))
    refine ⟨(by kernel_rfl), ?_⟩
    ((conv => whnf); repeat (first | (refine ⟨fun (h : false = true) => (Bool.false_ne_true h).elim, fun _ => ?_⟩; (conv => whnf)) | (refine ⟨fun _ => ?_, fun (h : true = false) => (Bool.false_ne_true h.symm).elim⟩; (conv => whnf))))
    exact done rfl (.cons .tmp .nil) [] [] (fun _ h => h) (congrArg boolSV (bytes_self _).symm) rfl ⟨trivial, trivial, rfl, rfl⟩
end Go.Sy.Ytjfglngcfghfnaa
