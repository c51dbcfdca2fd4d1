/-
  Contracts, 7: messages put.
-/
import Derived.Test.YtjfglngcfghfnaaC6
namespace Go.Sy.Ytjfglngcfghfnaa
open Go.Proofs

attribute [local irreducible] Go.Sy.G Go.Sy.DR

theorem refRightS (m : Msg) : Sy.Spec Try.prog 15 [msgSV m] [] (boolSV (rightB m)) [] := contract Γ hm 100 F15 Try.ntmps15 rfl fun F hF => by
  ((conv => whnf); repeat (first | (refine ⟨fun (h : false = true) => (Bool.false_ne_true h).elim, fun _ => ?_⟩; (conv => whnf)) | (refine ⟨fun _ => ?_, fun (h : true = false) => (Bool.false_ne_true h.symm).elim⟩; (conv => whnf))))
  refine ⟨fun h => ?_, fun h => ?_⟩
  · ((conv => whnf); repeat (first | (refine ⟨fun (h : false = true) => (Bool.false_ne_true h).elim, fun _ => ?_⟩; (conv => whnf)) | (refine ⟨fun _ => ?_, fun (h : true = false) => (Bool.false_ne_true h.symm).elim⟩; (conv => whnf))))
    refine done0 rfl (.cons .tmp .nil) (congrArg boolSV ?_) rfl
    simp only [rightB, h, if_true]
  · ((conv => whnf); repeat (first | (refine ⟨fun (h : false = true) => (Bool.false_ne_true h).elim, fun _ => ?_⟩; (conv => whnf)) | (refine ⟨fun _ => ?_, fun (h : true = false) => (Bool.false_ne_true h.symm).elim⟩; (conv => whnf))))
    refine ⟨fun h1 => ?_, fun h1 => ?_⟩
    · have h1' : 0 ≤ m.cost := of_decide_eq_true h1
      ((conv => whnf); repeat (first | (refine ⟨fun (h : false = true) => (Bool.false_ne_true h).elim, fun _ => ?_⟩; (conv => whnf)) | (refine ⟨fun _ => ?_, fun (h : true = false) => (Bool.false_ne_true h.symm).elim⟩; (conv => whnf))))
      refine ⟨fun h2 => ?_, fun h2 => ?_⟩
      · have h2' : m.cost < 4294967296 := of_decide_eq_true h2
        ((conv => whnf); repeat (first | (refine ⟨fun (h : false = true) => (Bool.false_ne_true h).elim, fun _ => ?_⟩; (conv => whnf)) | (refine ⟨fun _ => ?_, fun (h : true = false) => (Bool.false_ne_true h.symm).elim⟩; (conv => whnf))))
        refine call0 (smallS m.port) F27 rfl rfl rfl rfl rfl (run Γ hm 400 ?_)
        ((conv => whnf); repeat (first | (refine ⟨fun (h : false = true) => (Bool.false_ne_true h).elim, fun _ => ?_⟩; (conv => whnf)) | (refine ⟨fun _ => ?_, fun (h : true = false) => (Bool.false_ne_true h.symm).elim⟩; (conv => whnf))))
        refine ⟨fun h3 => ?_, fun h3 => ?_⟩
        · ((conv => whnf); repeat (first | (refine ⟨fun (h : false = true) => (Bool.false_ne_true h).elim, fun _ => ?_⟩; (conv => whnf)) | (refine ⟨fun _ => ?_, fun (h : true = false) => (Bool.false_ne_true h.symm).elim⟩; (conv => whnf))))
          refine call0 (smallS m.age) F27 rfl rfl rfl rfl rfl (run Γ hm 400 ?_)
          ((conv => whnf); repeat (first | (refine ⟨fun (h : false = true) => (Bool.false_ne_true h).elim, fun _ => ?_⟩; (conv => whnf)) | (refine ⟨fun _ => ?_, fun (h : true = false) => (Bool.false_ne_true h.symm).elim⟩; (conv => whnf))))
          refine ⟨fun h4 => ?_, fun h4 => ?_⟩
          · ((conv => whnf); repeat (first | (refine ⟨fun (h : false = true) => (Bool.false_ne_true h).elim, fun _ => ?_⟩; (conv => whnf)) | (refine ⟨fun _ => ?_, fun (h : true = false) => (Bool.false_ne_true h.symm).elim⟩; (conv => whnf))))
            refine call0 (smallS m.mx) F27 rfl rfl rfl rfl rfl (run Γ hm 400 ?_)
            ((conv => whnf); repeat (first | (refine ⟨fun (h : false = true) => (Bool.false_ne_true h).elim, fun _ => ?_⟩; (conv => whnf)) | (refine ⟨fun _ => ?_, fun (h : true = false) => (Bool.false_ne_true h.symm).elim⟩; (conv => whnf))))
            refine ⟨fun h5 => ?_, fun h5 => ?_⟩
            · ((conv => whnf); repeat (first | (refine ⟨fun (h : false = true) => (Bool.false_ne_true h).elim, fun _ => ?_⟩; (conv => whnf)) | (refine ⟨fun _ => ?_, fun (h : true = false) => (Bool.false_ne_true h.symm).elim⟩; (conv => whnf))))
              refine call0 (smallS m.hello) F27 rfl rfl rfl rfl rfl (run Γ hm 400 ?_)
              ((conv => whnf); repeat (first | (refine ⟨fun (h : false = true) => (Bool.false_ne_true h).elim, fun _ => ?_⟩; (conv => whnf)) | (refine ⟨fun _ => ?_, fun (h : true = false) => (Bool.false_ne_true h.symm).elim⟩; (conv => whnf))))
              refine ⟨fun h6 => ?_, fun h6 => ?_⟩
              · ((conv => whnf); repeat (first | (refine ⟨fun (h : false = true) => (Bool.false_ne_true h).elim, fun _ => ?_⟩; (conv => whnf)) | (refine ⟨fun _ => ?_, fun (h : true = false) => (Bool.false_ne_true h.symm).elim⟩; (conv => whnf))))
                refine call0 (smallS m.wait) F27 rfl rfl rfl rfl rfl (run Γ hm 400 ?_)
                ((conv => whnf); repeat (first | (refine ⟨fun (h : false = true) => (Bool.false_ne_true h).elim, fun _ => ?_⟩; (conv => whnf)) | (refine ⟨fun _ => ?_, fun (h : true = false) => (Bool.false_ne_true h.symm).elim⟩; (conv => whnf))))
                exact done0 rfl (.cons .tmp .nil) (congrArg boolSV (by simp [rightB, h, h1', h2', h3, h4, h5, h6])) rfl
              · ((conv => whnf); repeat (first | (refine ⟨fun (h : false = true) => (Bool.false_ne_true h).elim, fun _ => ?_⟩; (conv => whnf)) | (refine ⟨fun _ => ?_, fun (h : true = false) => (Bool.false_ne_true h.symm).elim⟩; (conv => whnf))))
                exact done0 rfl (.cons .tmp .nil) (congrArg boolSV (by simp [rightB, h, h6])) rfl
            · ((conv => whnf); repeat (first | (refine ⟨fun (h : false = true) => (Bool.false_ne_true h).elim, fun _ => ?_⟩; (conv => whnf)) | (refine ⟨fun _ => ?_, fun (h : true = false) => (Bool.false_ne_true h.symm).elim⟩; (conv => whnf))))
              exact done0 rfl (.cons .tmp .nil) (congrArg boolSV (by simp [rightB, h, h5])) rfl
          · ((conv => whnf); repeat (first | (refine ⟨fun (h : false = true) => (Bool.false_ne_true h).elim, fun _ => ?_⟩; (conv => whnf)) | (refine ⟨fun _ => ?_, fun (h : true = false) => (Bool.false_ne_true h.symm).elim⟩; (conv => whnf))))
            exact done0 rfl (.cons .tmp .nil) (congrArg boolSV (by simp [rightB, h, h4])) rfl
        · ((conv => whnf); repeat (first | (refine ⟨fun (h : false = true) => (Bool.false_ne_true h).elim, fun _ => ?_⟩; (conv => whnf)) | (refine ⟨fun _ => ?_, fun (h : true = false) => (Bool.false_ne_true h.symm).elim⟩; (conv => whnf))))
          exact done0 rfl (.cons .tmp .nil) (congrArg boolSV (by simp [rightB, h, h3])) rfl
      · have h2' : ¬ m.cost < 4294967296 := of_decide_eq_false h2
        ((conv => whnf); repeat (first | (refine ⟨fun (h : false = true) => (Bool.false_ne_true h).elim, fun _ => ?_⟩; (conv => whnf)) | (refine ⟨fun _ => ?_, fun (h : true = false) => (Bool.false_ne_true h.symm).elim⟩; (conv => whnf))))
        exact done0 rfl (.cons .tmp .nil) (congrArg boolSV (by simp [rightB, h, h2'])) rfl
    · have h1' : ¬ 0 ≤ m.cost := of_decide_eq_false h1
      ((conv => whnf); repeat (first | (refine ⟨fun (h : false = true) => (Bool.false_ne_true h).elim, fun _ => ?_⟩; (conv => whnf)) | (refine ⟨fun _ => ?_, fun (h : true = false) => (Bool.false_ne_true h.symm).elim⟩; (conv => whnf))))
      exact done0 rfl (.cons .tmp .nil) (congrArg boolSV (by simp [rightB, h, h1'])) rfl

theorem number21 (l : List UInt8) (hl : l.length < 1000000) : Sy.Spec Try.prog 21 [.sl 1 byteSV l] [] (u64SV (num l % 18446744073709551616)) [] := contract Γ hm 100 F21 Try.ntmps21 rfl fun F hF => by
  ((conv => whnf); repeat (first | (refine ⟨fun (h : false = true) => (Bool.false_ne_true h).elim, fun _ => ?_⟩; (conv => whnf)) | (refine ⟨fun _ => ?_, fun (h : true = false) => (Bool.false_ne_true h.symm).elim⟩; (conv => whnf))))
  refine G_count l.length (fun i => [(0, .sl 1 byteSV l), (3, u64SV (num (l.take i) % 18446744073709551616)), (4, intSV i)]) (fun _ => []) [] ⟨⟨rfl, rfl, rfl, rfl, rfl, rfl, trivial⟩, trivial, rfl, rfl⟩ ?_
  intro i hi
  refine (run Γ hm 400 ?_)
  ((conv => whnf); repeat (first | (refine ⟨fun (h : false = true) => (Bool.false_ne_true h).elim, fun _ => ?_⟩; (conv => whnf)) | (refine ⟨fun _ => ?_, fun (h : true = false) => (Bool.false_ne_true h.symm).elim⟩; (conv => whnf))))
  refine ⟨fun h => ?_, fun h => ?_⟩
  · have hlt : i < l.length := by have := of_decide_eq_true h; omega
    ((conv => whnf); repeat (first | (refine ⟨fun (h : false = true) => (Bool.false_ne_true h).elim, fun _ => ?_⟩; (conv => whnf)) | (refine ⟨fun _ => ?_, fun (h : true = false) => (Bool.false_ne_true h.symm).elim⟩; (conv => whnf))))
    refine ⟨rfl, by omega, by omega, ?_⟩
    ((conv => whnf); repeat (first | (refine ⟨fun (h : false = true) => (Bool.false_ne_true h).elim, fun _ => ?_⟩; (conv => whnf)) | (refine ⟨fun _ => ?_, fun (h : true = false) => (Bool.false_ne_true h.symm).elim⟩; (conv => whnf))))
    refine ⟨by unfold I64; omega, ?_⟩
    ((conv => whnf); repeat (first | (refine ⟨fun (h : false = true) => (Bool.false_ne_true h).elim, fun _ => ?_⟩; (conv => whnf)) | (refine ⟨fun _ => ?_, fun (h : true = false) => (Bool.false_ne_true h.symm).elim⟩; (conv => whnf))))
    refine G_next [] hlt ⟨⟨rfl, rfl, congrArg (fun z => SV.val (.int .u64 z)) ?_, rfl, rfl, rfl, trivial⟩, trivial, rfl, rfl⟩
    simp only [IntKind.wrap_u64, num_take l i hlt, Int.toNat_natCast]
    omega
  · have : i = l.length := by have := of_decide_eq_false h; omega
    subst this
    ((conv => whnf); repeat (first | (refine ⟨fun (h : false = true) => (Bool.false_ne_true h).elim, fun _ => ?_⟩; (conv => whnf)) | (refine ⟨fun _ => ?_, fun (h : true = false) => (Bool.false_ne_true h.symm).elim⟩; (conv => whnf))))
    exact done0 rfl (.cons .tmp .nil) (by rw [← congrArg num (List.take_length (l := l))]; rfl) rfl

def pairsL (l : List Int) : List UInt8 := l.flatMap fun n => be 2 n.toNat

theorem pairsL_length (l : List Int) : (pairsL l).length = 2 * l.length := by
  induction l with
  | nil => rfl
  | cons a l ih =>
    have : pairsL (a :: l) = be 2 a.toNat ++ pairsL l := by simp [pairsL]
    rw [this, List.length_append, ih, be_length]
    simp; omega

theorem pairsL_take (l : List Int) (i : Nat) (h : i < l.length) : pairsL (l.take (i + 1)) = pairsL (l.take i) ++ be 2 (l[i]).toNat := by
  rw [List.take_succ_eq_append_getElem h]
  simp only [pairsL, List.flatMap_append, List.flatMap_cons, List.flatMap_nil, List.append_nil]

theorem u64_small (n : Int) (h0 : 0 ≤ n) (h1 : n < 18446744073709551616) : ((n.toNat : Nat) : Int) = IntKind.u64.wrap n := by
  rw [IntKind.wrap_u64]
  omega

theorem pairsS (b : List UInt8) (hb : b.length < 100000) (l : List Int) (hl : l.length < 100000) (h : ∀ n ∈ l, 0 ≤ n ∧ n < 65536) : Sy.Spec Try.prog 23 [.osl 0, .sl 1 intSV l] [(0, .row 1 byteSV b)] (.osl 1) [(0, .non), (1, .row 1 byteSV (b ++ pairsL l))] := contract Γ hm 100 F23 Try.ntmps23 rfl fun F hF => by
  ((conv => whnf); repeat (first | (refine ⟨fun (h : false = true) => (Bool.false_ne_true h).elim, fun _ => ?_⟩; (conv => whnf)) | (refine ⟨fun _ => ?_, fun (h : true = false) => (Bool.false_ne_true h.symm).elim⟩; (conv => whnf))))
  refine G_move 0 1 [0] rfl rfl (by decide) (by simp; rfl) ?_
  refine G_count l.length (fun i => [(0, .osl 1), (7, .sl 1 intSV l), (8, intSV l.length), (9, intSV i)]) (fun i => [(0, .non), (1, .row 1 byteSV (b ++ pairsL (l.take i)))]) [(0, 0), (1, 1)] ⟨⟨rfl, rfl, rfl, rfl, rfl, rfl, rfl, rfl, trivial⟩, ⟨.inl rfl, rfl, .inl (congrArg (Ob.row 1 byteSV) (List.append_nil b)), rfl, trivial⟩, rfl, rfl⟩ ?_
  intro i hi
  refine (run Γ hm 400 ?_)
  ((conv => whnf); repeat (first | (refine ⟨fun (h : false = true) => (Bool.false_ne_true h).elim, fun _ => ?_⟩; (conv => whnf)) | (refine ⟨fun _ => ?_, fun (h : true = false) => (Bool.false_ne_true h.symm).elim⟩; (conv => whnf))))
  refine ⟨fun h1 => ?_, fun h1 => ?_⟩
  · have hlt : i < l.length := by have := of_decide_eq_true h1; omega
    have hn := h l[i] (List.getElem_mem hlt)
    ((conv => whnf); repeat (first | (refine ⟨fun (h : false = true) => (Bool.false_ne_true h).elim, fun _ => ?_⟩; (conv => whnf)) | (refine ⟨fun _ => ?_, fun (h : true = false) => (Bool.false_ne_true h.symm).elim⟩; (conv => whnf))))
    refine ⟨rfl, by omega, by omega, ?_⟩
    ((conv => whnf); repeat (first | (refine ⟨fun (h : false = true) => (Bool.false_ne_true h).elim, fun _ => ?_⟩; (conv => whnf)) | (refine ⟨fun _ => ?_, fun (h : true = false) => (Bool.false_ne_true h.symm).elim⟩; (conv => whnf))))
    have hlen : (b ++ pairsL (l.take i)).length < 1000000 := by rw [List.length_append, pairsL_length, List.length_take]; omega
    refine stepOp (good_call [(0, 1), (1, 16)] rfl F22 (numberS _ hlen (l[i]).toNat 2 (by decide)) (congrArg (fun z => [SV.osl 1, .val (.int .u64 z), intSV 2]) (u64_small l[i] hn.1 (by omega))) ⟨rfl, trivial⟩ rfl ⟨.inl rfl, .inr rfl, trivial⟩) rfl rfl (run Γ hm 400 ?_)
    ((conv => whnf); repeat (first | (refine ⟨fun (h : false = true) => (Bool.false_ne_true h).elim, fun _ => ?_⟩; (conv => whnf)) | (refine ⟨fun _ => ?_, fun (h : true = false) => (Bool.false_ne_true h.symm).elim⟩; (conv => whnf))))
    refine ⟨by unfold I64; omega, ?_⟩
    ((conv => whnf); repeat (first | (refine ⟨fun (h : false = true) => (Bool.false_ne_true h).elim, fun _ => ?_⟩; (conv => whnf)) | (refine ⟨fun _ => ?_, fun (h : true = false) => (Bool.false_ne_true h.symm).elim⟩; (conv => whnf))))
    exact G_next [(0, 0), (1, 16)] hlt ⟨⟨rfl, rfl, rfl, rfl, rfl, rfl, rfl, rfl, trivial⟩, ⟨.inl rfl, rfl, .inl (congrArg (Ob.row 1 byteSV) (by rw [pairsL_take _ _ hlt, List.append_assoc])), rfl, trivial⟩, rfl, rfl⟩
  · have : i = l.length := by have := of_decide_eq_false h1; omega
    subst this
    ((conv => whnf); repeat (first | (refine ⟨fun (h : false = true) => (Bool.false_ne_true h).elim, fun _ => ?_⟩; (conv => whnf)) | (refine ⟨fun _ => ?_, fun (h : true = false) => (Bool.false_ne_true h.symm).elim⟩; (conv => whnf))))
    exact done rfl (.cons .tmp .nil) [(0, 0), (1, 1)] _ (fun _ h => h) rfl rfl ⟨trivial, ⟨.inl rfl, rfl, .inl (congrArg (Ob.row 1 byteSV) (by rw [List.take_length])), rfl, trivial⟩, rfl, rfl⟩

def headL : List UInt8 := [66, 66, 3, 0, 0, 0]
def flagB (b : Bool) : UInt8 := if b then 128 else 0
def restL (m : Msg) : List UInt8 := be 8 m.root ++ (be 4 m.cost.toNat ++ (be 8 m.bridge ++ pairsL [m.port, m.age, m.mx, m.hello, m.wait]))
def bodyL (m : Msg) : List UInt8 := if m.ch then headL ++ [128] else headL ++ ([0, flagB m.ak] ++ restL m)

/-- What a message's fields are. -/
structure Msg.InRange (m : Msg) : Prop where
  root : m.root < 18446744073709551616
  bridge : m.bridge < 18446744073709551616

structure Msg.Small (m : Msg) : Prop where
  cost : 0 ≤ m.cost ∧ m.cost < 4294967296
  all : ∀ n ∈ [m.port, m.age, m.mx, m.hello, m.wait], 0 ≤ n ∧ n < 65536

theorem rightB_smalls (m : Msg) (h : m.ch = false) (hr : rightB m = true) : m.Small := by
  rw [rightB_small m h] at hr
  simp only [Bool.and_eq_true, decide_eq_true_eq, List.all_eq_true] at hr
  exact ⟨hr.1, fun n hn => (smallB_iff n).1 (hr.2 n hn)⟩

theorem bodyL_length (m : Msg) : (bodyL m).length = if m.ch then 7 else 38 := by
  unfold bodyL
  split
  · rfl
  · simp [headL, restL, be_length, pairsL_length]

def ports (m : Msg) : List Int := [m.port, m.age, m.mx, m.hello, m.wait]

theorem bodyS (m : Msg) (hr : m.InRange) (h : m.ch = true ∨ m.Small) : Sy.Spec Try.prog 26 [msgSV m] [] (.osl 0) [(0, .row 1 byteSV (bodyL m))] := contract Γ hm 100 F26 Try.ntmps26 rfl fun F hF => by
  ((conv => whnf); repeat (first | (refine ⟨fun (h : false = true) => (Bool.false_ne_true h).elim, fun _ => ?_⟩; (conv => whnf)) | (refine ⟨fun _ => ?_, fun (h : true = false) => (Bool.false_ne_true h.symm).elim⟩; (conv => whnf))))
  refine ⟨fun h1 => ?_, fun h1 => ?_⟩
  · ((conv => whnf); repeat (first | (refine ⟨fun (h : false = true) => (Bool.false_ne_true h).elim, fun _ => ?_⟩; (conv => whnf)) | (refine ⟨fun _ => ?_, fun (h : true = false) => (Bool.false_ne_true h.symm).elim⟩; (conv => whnf))))
    refine stepOp (good_appendT (e := byteSV) Γ.toTy 11 rfl rfl rfl rfl rfl (.lit (l := headL) rfl rfl) (.lit (l := [(128 : UInt8)]) rfl rfl) (by decide) (by decide) (by decide)) rfl rfl (run Γ hm 400 ?_)
    ((conv => whnf); repeat (first | (refine ⟨fun (h : false = true) => (Bool.false_ne_true h).elim, fun _ => ?_⟩; (conv => whnf)) | (refine ⟨fun _ => ?_, fun (h : true = false) => (Bool.false_ne_true h.symm).elim⟩; (conv => whnf))))
    exact done rfl (.cons .tmp .nil) [(0, 11)] _ (fun _ h => h) rfl rfl ⟨trivial, ⟨.inl (congrArg (Ob.row 1 byteSV) (by rw [bodyL, if_pos h1])), rfl, trivial⟩, rfl, rfl⟩
  · have hch := h1
    have hs : m.Small := h.resolve_left (by rw [h1]; decide)
    obtain ⟨hc, ha⟩ := hs
    ((conv => whnf); repeat (first | (refine ⟨fun (h : false = true) => (Bool.false_ne_true h).elim, fun _ => ?_⟩; (conv => whnf)) | (refine ⟨fun _ => ?_, fun (h : true = false) => (Bool.false_ne_true h.symm).elim⟩; (conv => whnf))))
    refine stepOp (good_appendT (e := byteSV) Γ.toTy 14 rfl rfl rfl rfl rfl (.lit (l := headL) rfl rfl) (.lit (l := [(0 : UInt8)]) rfl rfl) (by decide) (by decide) (by decide)) rfl rfl (run Γ hm 400 ?_)
    ((conv => whnf); repeat (first | (refine ⟨fun (h : false = true) => (Bool.false_ne_true h).elim, fun _ => ?_⟩; (conv => whnf)) | (refine ⟨fun _ => ?_, fun (h : true = false) => (Bool.false_ne_true h.symm).elim⟩; (conv => whnf))))
    refine ⟨fun h2 => ?_, fun h2 => ?_⟩
    · ((conv => whnf); repeat (first | (refine ⟨fun (h : false = true) => (Bool.false_ne_true h).elim, fun _ => ?_⟩; (conv => whnf)) | (refine ⟨fun _ => ?_, fun (h : true = false) => (Bool.false_ne_true h.symm).elim⟩; (conv => whnf))))
      refine stepOp (good_appendT (e := byteSV) Γ.toTy 19 rfl rfl rfl rfl rfl (.row rfl) (.lit (l := [(128 : UInt8)]) rfl rfl) (by decide) ?_ ?_) rfl rfl (run Γ hm 400 ?_)
      · simp [be_length, headL]
      · simp [be_length, headL]
      ((conv => whnf); repeat (first | (refine ⟨fun (h : false = true) => (Bool.false_ne_true h).elim, fun _ => ?_⟩; (conv => whnf)) | (refine ⟨fun _ => ?_, fun (h : true = false) => (Bool.false_ne_true h.symm).elim⟩; (conv => whnf))))
      refine stepOp (good_call [(0, 26)] rfl F37 (bytesS m.root 8 hr.root (by decide)) rfl trivial rfl ⟨.inr rfl, trivial⟩) rfl rfl (run Γ hm 400 ?_)
      ((conv => whnf); repeat (first | (refine ⟨fun (h : false = true) => (Bool.false_ne_true h).elim, fun _ => ?_⟩; (conv => whnf)) | (refine ⟨fun _ => ?_, fun (h : true = false) => (Bool.false_ne_true h.symm).elim⟩; (conv => whnf))))
      refine stepOp (good_appendT (e := byteSV) Γ.toTy 27 rfl rfl rfl rfl rfl (.row rfl) (.row rfl) (by decide) ?_ ?_) rfl rfl (run Γ hm 400 ?_)
      · simp [be_length, headL]
      · simp [be_length, headL]
      ((conv => whnf); repeat (first | (refine ⟨fun (h : false = true) => (Bool.false_ne_true h).elim, fun _ => ?_⟩; (conv => whnf)) | (refine ⟨fun _ => ?_, fun (h : true = false) => (Bool.false_ne_true h.symm).elim⟩; (conv => whnf))))
      refine stepOp (good_call [(0, 32)] rfl F37 (bytesS m.cost.toNat 4 (by omega) (by decide)) (congrArg (fun z => [SV.val (.int .u64 z), intSV 4]) (u64_small m.cost hc.1 (by omega))) trivial rfl ⟨.inr rfl, trivial⟩) rfl rfl (run Γ hm 400 ?_)
      ((conv => whnf); repeat (first | (refine ⟨fun (h : false = true) => (Bool.false_ne_true h).elim, fun _ => ?_⟩; (conv => whnf)) | (refine ⟨fun _ => ?_, fun (h : true = false) => (Bool.false_ne_true h.symm).elim⟩; (conv => whnf))))
      refine stepOp (good_appendT (e := byteSV) Γ.toTy 33 rfl rfl rfl rfl rfl (.row rfl) (.row rfl) (by decide) ?_ ?_) rfl rfl (run Γ hm 400 ?_)
      · simp [be_length, headL]
      · simp [be_length, headL]
      ((conv => whnf); repeat (first | (refine ⟨fun (h : false = true) => (Bool.false_ne_true h).elim, fun _ => ?_⟩; (conv => whnf)) | (refine ⟨fun _ => ?_, fun (h : true = false) => (Bool.false_ne_true h.symm).elim⟩; (conv => whnf))))
      refine stepOp (good_call [(0, 37)] rfl F37 (bytesS m.bridge 8 hr.bridge (by decide)) rfl trivial rfl ⟨.inr rfl, trivial⟩) rfl rfl (run Γ hm 400 ?_)
      ((conv => whnf); repeat (first | (refine ⟨fun (h : false = true) => (Bool.false_ne_true h).elim, fun _ => ?_⟩; (conv => whnf)) | (refine ⟨fun _ => ?_, fun (h : true = false) => (Bool.false_ne_true h.symm).elim⟩; (conv => whnf))))
      refine stepOp (good_appendT (e := byteSV) Γ.toTy 38 rfl rfl rfl rfl rfl (.row rfl) (.row rfl) (by decide) ?_ ?_) rfl rfl (run Γ hm 400 ?_)
      · simp [be_length, headL]
      · simp [be_length, headL]
      ((conv => whnf); repeat (first | (refine ⟨fun (h : false = true) => (Bool.false_ne_true h).elim, fun _ => ?_⟩; (conv => whnf)) | (refine ⟨fun _ => ?_, fun (h : true = false) => (Bool.false_ne_true h.symm).elim⟩; (conv => whnf))))
      refine G_retype 49 (e := intSV) (l := ports m) rfl rfl ?_
      refine G_count 5 (fun i => [(3, .osl 38), (4, .osl 49), (5, intSV i)]) (fun i => [(38, .row 1 byteSV (((((headL ++ [0]) ++ [128]) ++ be 8 m.root) ++ be 4 m.cost.toNat ++ be 8 m.bridge) ++ pairsL ((ports m).take i))), (49, .row 1 intSV (ports m))]) [] ⟨⟨rfl, rfl, rfl, rfl, rfl, rfl, trivial⟩, ⟨.inl (congrArg (Ob.row 1 byteSV) (List.append_nil _)), rfl, .inl rfl, rfl, trivial⟩, rfl, rfl⟩ ?_
      intro i hi
      refine (run Γ hm 400 ?_)
      ((conv => whnf); repeat (first | (refine ⟨fun (h : false = true) => (Bool.false_ne_true h).elim, fun _ => ?_⟩; (conv => whnf)) | (refine ⟨fun _ => ?_, fun (h : true = false) => (Bool.false_ne_true h.symm).elim⟩; (conv => whnf))))
      have hpl : (ports m).length = 5 := rfl
      refine ⟨fun h1 => ?_, fun h1 => ?_⟩
      · have hlt : i < 5 := by have := of_decide_eq_true h1; omega
        have hlt' : i < (ports m).length := hlt
        have hn := ha (ports m)[i] (List.getElem_mem hlt')
        ((conv => whnf); repeat (first | (refine ⟨fun (h : false = true) => (Bool.false_ne_true h).elim, fun _ => ?_⟩; (conv => whnf)) | (refine ⟨fun _ => ?_, fun (h : true = false) => (Bool.false_ne_true h.symm).elim⟩; (conv => whnf))))
        refine ⟨by omega, by simpa using hlt', ?_⟩
        ((conv => whnf); repeat (first | (refine ⟨fun (h : false = true) => (Bool.false_ne_true h).elim, fun _ => ?_⟩; (conv => whnf)) | (refine ⟨fun _ => ?_, fun (h : true = false) => (Bool.false_ne_true h.symm).elim⟩; (conv => whnf))))
        refine ⟨rfl, hlt', ?_⟩
        ((conv => whnf); repeat (first | (refine ⟨fun (h : false = true) => (Bool.false_ne_true h).elim, fun _ => ?_⟩; (conv => whnf)) | (refine ⟨fun _ => ?_, fun (h : true = false) => (Bool.false_ne_true h.symm).elim⟩; (conv => whnf))))
        refine stepOp (good_call [(0, 62)] rfl F37 (bytesS ((ports m)[i]).toNat 2 (by omega) (by decide)) (congrArg (fun z => [SV.val (.int .u64 z), intSV 2]) (u64_small (ports m)[i] hn.1 (by omega))) trivial rfl ⟨.inr rfl, trivial⟩) rfl rfl (run Γ hm 400 ?_)
        ((conv => whnf); repeat (first | (refine ⟨fun (h : false = true) => (Bool.false_ne_true h).elim, fun _ => ?_⟩; (conv => whnf)) | (refine ⟨fun _ => ?_, fun (h : true = false) => (Bool.false_ne_true h.symm).elim⟩; (conv => whnf))))
        refine stepOp (good_appendT (e := byteSV) Γ.toTy 63 rfl rfl rfl rfl rfl (.row rfl) (.row rfl) (by decide) ?_ ?_) rfl rfl (run Γ hm 400 ?_)
        · simp [be_length, headL, pairsL_length, ports]; omega
        · simp [be_length, headL, pairsL_length, ports]; omega
        ((conv => whnf); repeat (first | (refine ⟨fun (h : false = true) => (Bool.false_ne_true h).elim, fun _ => ?_⟩; (conv => whnf)) | (refine ⟨fun _ => ?_, fun (h : true = false) => (Bool.false_ne_true h.symm).elim⟩; (conv => whnf))))
        refine ⟨by unfold I64; omega, ?_⟩
        ((conv => whnf); repeat (first | (refine ⟨fun (h : false = true) => (Bool.false_ne_true h).elim, fun _ => ?_⟩; (conv => whnf)) | (refine ⟨fun _ => ?_, fun (h : true = false) => (Bool.false_ne_true h.symm).elim⟩; (conv => whnf))))
        exact G_next [(38, 63), (49, 49)] hlt ⟨⟨rfl, rfl, rfl, rfl, rfl, rfl, trivial⟩, ⟨.inl (congrArg (Ob.row 1 byteSV) (by rw [pairsL_take _ _ hlt', ← List.append_assoc])), rfl, .inl rfl, rfl, trivial⟩, rfl, rfl⟩
      · have : i = 5 := by have := of_decide_eq_false h1; omega
        subst this
        ((conv => whnf); repeat (first | (refine ⟨fun (h : false = true) => (Bool.false_ne_true h).elim, fun _ => ?_⟩; (conv => whnf)) | (refine ⟨fun _ => ?_, fun (h : true = false) => (Bool.false_ne_true h.symm).elim⟩; (conv => whnf))))
        exact done rfl (.cons .tmp .nil) [(0, 38)] _ (fun _ h => h) rfl rfl ⟨trivial, ⟨.inl (congrArg (Ob.row 1 byteSV) (by simp [bodyL, hch, flagB, h2, restL, ports])), rfl, trivial⟩, rfl, rfl⟩
    · ((conv => whnf); repeat (first | (refine ⟨fun (h : false = true) => (Bool.false_ne_true h).elim, fun _ => ?_⟩; (conv => whnf)) | (refine ⟨fun _ => ?_, fun (h : true = false) => (Bool.false_ne_true h.symm).elim⟩; (conv => whnf))))
      refine stepOp (good_appendT (e := byteSV) Γ.toTy 22 rfl rfl rfl rfl rfl (.row rfl) (.lit (l := [(0 : UInt8)]) rfl rfl) (by decide) ?_ ?_) rfl rfl (run Γ hm 400 ?_)
      · simp [be_length, headL]
      · simp [be_length, headL]
      ((conv => whnf); repeat (first | (refine ⟨fun (h : false = true) => (Bool.false_ne_true h).elim, fun _ => ?_⟩; (conv => whnf)) | (refine ⟨fun _ => ?_, fun (h : true = false) => (Bool.false_ne_true h.symm).elim⟩; (conv => whnf))))
      refine stepOp (good_call [(0, 26)] rfl F37 (bytesS m.root 8 hr.root (by decide)) rfl trivial rfl ⟨.inr rfl, trivial⟩) rfl rfl (run Γ hm 400 ?_)
      ((conv => whnf); repeat (first | (refine ⟨fun (h : false = true) => (Bool.false_ne_true h).elim, fun _ => ?_⟩; (conv => whnf)) | (refine ⟨fun _ => ?_, fun (h : true = false) => (Bool.false_ne_true h.symm).elim⟩; (conv => whnf))))
      refine stepOp (good_appendT (e := byteSV) Γ.toTy 27 rfl rfl rfl rfl rfl (.row rfl) (.row rfl) (by decide) ?_ ?_) rfl rfl (run Γ hm 400 ?_)
      · simp [be_length, headL]
      · simp [be_length, headL]
      ((conv => whnf); repeat (first | (refine ⟨fun (h : false = true) => (Bool.false_ne_true h).elim, fun _ => ?_⟩; (conv => whnf)) | (refine ⟨fun _ => ?_, fun (h : true = false) => (Bool.false_ne_true h.symm).elim⟩; (conv => whnf))))
      refine stepOp (good_call [(0, 32)] rfl F37 (bytesS m.cost.toNat 4 (by omega) (by decide)) (congrArg (fun z => [SV.val (.int .u64 z), intSV 4]) (u64_small m.cost hc.1 (by omega))) trivial rfl ⟨.inr rfl, trivial⟩) rfl rfl (run Γ hm 400 ?_)
      ((conv => whnf); repeat (first | (refine ⟨fun (h : false = true) => (Bool.false_ne_true h).elim, fun _ => ?_⟩; (conv => whnf)) | (refine ⟨fun _ => ?_, fun (h : true = false) => (Bool.false_ne_true h.symm).elim⟩; (conv => whnf))))
      refine stepOp (good_appendT (e := byteSV) Γ.toTy 33 rfl rfl rfl rfl rfl (.row rfl) (.row rfl) (by decide) ?_ ?_) rfl rfl (run Γ hm 400 ?_)
      · simp [be_length, headL]
      · simp [be_length, headL]
      ((conv => whnf); repeat (first | (refine ⟨fun (h : false = true) => (Bool.false_ne_true h).elim, fun _ => ?_⟩; (conv => whnf)) | (refine ⟨fun _ => ?_, fun (h : true = false) => (Bool.false_ne_true h.symm).elim⟩; (conv => whnf))))
      refine stepOp (good_call [(0, 37)] rfl F37 (bytesS m.bridge 8 hr.bridge (by decide)) rfl trivial rfl ⟨.inr rfl, trivial⟩) rfl rfl (run Γ hm 400 ?_)
      ((conv => whnf); repeat (first | (refine ⟨fun (h : false = true) => (Bool.false_ne_true h).elim, fun _ => ?_⟩; (conv => whnf)) | (refine ⟨fun _ => ?_, fun (h : true = false) => (Bool.false_ne_true h.symm).elim⟩; (conv => whnf))))
      refine stepOp (good_appendT (e := byteSV) Γ.toTy 38 rfl rfl rfl rfl rfl (.row rfl) (.row rfl) (by decide) ?_ ?_) rfl rfl (run Γ hm 400 ?_)
      · simp [be_length, headL]
      · simp [be_length, headL]
      ((conv => whnf); repeat (first | (refine ⟨fun (h : false = true) => (Bool.false_ne_true h).elim, fun _ => ?_⟩; (conv => whnf)) | (refine ⟨fun _ => ?_, fun (h : true = false) => (Bool.false_ne_true h.symm).elim⟩; (conv => whnf))))
      refine G_retype 49 (e := intSV) (l := ports m) rfl rfl ?_
      refine G_count 5 (fun i => [(3, .osl 38), (4, .osl 49), (5, intSV i)]) (fun i => [(38, .row 1 byteSV (((((headL ++ [0]) ++ [0]) ++ be 8 m.root) ++ be 4 m.cost.toNat ++ be 8 m.bridge) ++ pairsL ((ports m).take i))), (49, .row 1 intSV (ports m))]) [] ⟨⟨rfl, rfl, rfl, rfl, rfl, rfl, trivial⟩, ⟨.inl (congrArg (Ob.row 1 byteSV) (List.append_nil _)), rfl, .inl rfl, rfl, trivial⟩, rfl, rfl⟩ ?_
      intro i hi
      refine (run Γ hm 400 ?_)
      ((conv => whnf); repeat (first | (refine ⟨fun (h : false = true) => (Bool.false_ne_true h).elim, fun _ => ?_⟩; (conv => whnf)) | (refine ⟨fun _ => ?_, fun (h : true = false) => (Bool.false_ne_true h.symm).elim⟩; (conv => whnf))))
      have hpl : (ports m).length = 5 := rfl
      refine ⟨fun h1 => ?_, fun h1 => ?_⟩
      · have hlt : i < 5 := by have := of_decide_eq_true h1; omega
        have hlt' : i < (ports m).length := hlt
        have hn := ha (ports m)[i] (List.getElem_mem hlt')
        ((conv => whnf); repeat (first | (refine ⟨fun (h : false = true) => (Bool.false_ne_true h).elim, fun _ => ?_⟩; (conv => whnf)) | (refine ⟨fun _ => ?_, fun (h : true = false) => (Bool.false_ne_true h.symm).elim⟩; (conv => whnf))))
        refine ⟨by omega, by simpa using hlt', ?_⟩
        ((conv => whnf); repeat (first | (refine ⟨fun (h : false = true) => (Bool.false_ne_true h).elim, fun _ => ?_⟩; (conv => whnf)) | (refine ⟨fun _ => ?_, fun (h : true = false) => (Bool.false_ne_true h.symm).elim⟩; (conv => whnf))))
        refine ⟨rfl, hlt', ?_⟩
        ((conv => whnf); repeat (first | (refine ⟨fun (h : false = true) => (Bool.false_ne_true h).elim, fun _ => ?_⟩; (conv => whnf)) | (refine ⟨fun _ => ?_, fun (h : true = false) => (Bool.false_ne_true h.symm).elim⟩; (conv => whnf))))
        refine stepOp (good_call [(0, 62)] rfl F37 (bytesS ((ports m)[i]).toNat 2 (by omega) (by decide)) (congrArg (fun z => [SV.val (.int .u64 z), intSV 2]) (u64_small (ports m)[i] hn.1 (by omega))) trivial rfl ⟨.inr rfl, trivial⟩) rfl rfl (run Γ hm 400 ?_)
        ((conv => whnf); repeat (first | (refine ⟨fun (h : false = true) => (Bool.false_ne_true h).elim, fun _ => ?_⟩; (conv => whnf)) | (refine ⟨fun _ => ?_, fun (h : true = false) => (Bool.false_ne_true h.symm).elim⟩; (conv => whnf))))
        refine stepOp (good_appendT (e := byteSV) Γ.toTy 63 rfl rfl rfl rfl rfl (.row rfl) (.row rfl) (by decide) ?_ ?_) rfl rfl (run Γ hm 400 ?_)
        · simp [be_length, headL, pairsL_length, ports]; omega
        · simp [be_length, headL, pairsL_length, ports]; omega
        ((conv => whnf); repeat (first | (refine ⟨fun (h : false = true) => (Bool.false_ne_true h).elim, fun _ => ?_⟩; (conv => whnf)) | (refine ⟨fun _ => ?_, fun (h : true = false) => (Bool.false_ne_true h.symm).elim⟩; (conv => whnf))))
        refine ⟨by unfold I64; omega, ?_⟩
        ((conv => whnf); repeat (first | (refine ⟨fun (h : false = true) => (Bool.false_ne_true h).elim, fun _ => ?_⟩; (conv => whnf)) | (refine ⟨fun _ => ?_, fun (h : true = false) => (Bool.false_ne_true h.symm).elim⟩; (conv => whnf))))
        exact G_next [(38, 63), (49, 49)] hlt ⟨⟨rfl, rfl, rfl, rfl, rfl, rfl, trivial⟩, ⟨.inl (congrArg (Ob.row 1 byteSV) (by rw [pairsL_take _ _ hlt', ← List.append_assoc])), rfl, .inl rfl, rfl, trivial⟩, rfl, rfl⟩
      · have : i = 5 := by have := of_decide_eq_false h1; omega
        subst this
        ((conv => whnf); repeat (first | (refine ⟨fun (h : false = true) => (Bool.false_ne_true h).elim, fun _ => ?_⟩; (conv => whnf)) | (refine ⟨fun _ => ?_, fun (h : true = false) => (Bool.false_ne_true h.symm).elim⟩; (conv => whnf))))
        exact done rfl (.cons .tmp .nil) [(0, 38)] _ (fun _ h => h) rfl rfl ⟨trivial, ⟨.inl (congrArg (Ob.row 1 byteSV) (by simp [bodyL, hch, flagB, h2, restL, ports])), rfl, trivial⟩, rfl, rfl⟩
end Go.Sy.Ytjfglngcfghfnaa
