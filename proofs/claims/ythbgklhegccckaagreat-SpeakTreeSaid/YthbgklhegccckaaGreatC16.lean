/-
  Contracts (bpdu): the document's right messages and bodies; numbers of two bytes. Contracts (bpdu): messages put. Contracts (bpdu): messages read.
-/
import Derived.Test.YthbgklhegccckaaGreatC15
import Derived.Test.YthbgklhegccckaaGreatC4

namespace Go.Sy.YthbgklhegccckaaGreat
open Go.Proofs

attribute [local irreducible] Go.Sy.G Go.Sy.DR
set_option maxRecDepth 100000
set_option maxHeartbeats 4000000

def pairsL (l : List Int) : List UInt8 := l.flatMap fun n => be 2 n.toNat

theorem pairsL_length (l : List Int) : (pairsL l).length = 2 * l.length := by
  induction l with
  | nil => rfl
  | cons a l ih =>
    have : pairsL (a :: l) = be 2 a.toNat ++ pairsL l := by simp [pairsL]
    rw [this, List.length_append, ih, be_length]
    simp; omega

theorem pairsL_take (l : List Int) (i : Nat) (h : i < l.length) : pairsL (l.take (i + 1)) = pairsL (l.take i) ++ be 2 (l[i]).toNat := by
  rw [List.take_succ_eq_append_getElem h]
  simp only [pairsL, List.flatMap_append, List.flatMap_cons, List.flatMap_nil, List.append_nil]

theorem u64_small (n : Int) (h0 : 0 ≤ n) (h1 : n < 18446744073709551616) : ((n.toNat : Nat) : Int) = IntKind.u64.wrap n := by
  rw [IntKind.wrap_u64]
  omega

theorem pairsS (b : List UInt8) (hb : b.length < 100000) (l : List Int) (hl : l.length < 100000) (h : ∀ n ∈ l, 0 ≤ n ∧ n < 65536) : Sy.Spec Tryz.prog 121 [.osl 0, .sl 1 intSV l] [(0, .row 1 byteSV b)] (.osl 1) [(0, .non), (1, .row 1 byteSV (b ++ pairsL l))] := contract Γ hm 100 F121 Tryz.ntmps121 rfl fun F hF => by
  ((first | refine run Γ hm 400 ?_ | refine runD Γ hm 400 (by kernel_rfl) ?_ | skip); (conv => whnf); repeat ((first | refine aF ?_ | refine aT ?_); (first | refine run Γ hm 400 ?_ | refine runD Γ hm 400 (by kernel_rfl) ?_); conv => whnf))
  refine G_move 0 1 [0] rfl rfl (by decide) (by simp; rfl) ?_
  refine G_count l.length (fun i => [(0, .osl 1), (7, .sl 1 intSV l), (8, intSV l.length), (9, intSV i)]) (fun i => [(0, .non), (1, .row 1 byteSV (b ++ pairsL (l.take i)))]) [(0, 0), (1, 1)] ⟨⟨rfl, rfl, rfl, rfl, rfl, rfl, rfl, rfl, trivial⟩, ⟨.inl rfl, rfl, .inl (congrArg (Ob.row 1 byteSV) (List.append_nil b)), rfl, trivial⟩, rfl, rfl⟩ ?_
  intro i hi
  ((first | refine run Γ hm 400 ?_ | refine runD Γ hm 400 (by kernel_rfl) ?_ | skip); (conv => whnf); repeat ((first | refine aF ?_ | refine aT ?_); (first | refine run Γ hm 400 ?_ | refine runD Γ hm 400 (by kernel_rfl) ?_); conv => whnf))
  refine ⟨fun h1 => ?_, fun h1 => ?_⟩
  · have hlt : i < l.length := by have := of_decide_eq_true h1; omega
    have hn := h l[i] (List.getElem_mem hlt)
    ((first | refine run Γ hm 400 ?_ | refine runD Γ hm 400 (by kernel_rfl) ?_ | skip); (conv => whnf); repeat ((first | refine aF ?_ | refine aT ?_); (first | refine run Γ hm 400 ?_ | refine runD Γ hm 400 (by kernel_rfl) ?_); conv => whnf))
    refine ⟨rfl, by omega, by omega, ?_⟩
    ((first | refine run Γ hm 400 ?_ | refine runD Γ hm 400 (by kernel_rfl) ?_ | skip); (conv => whnf); repeat ((first | refine aF ?_ | refine aT ?_); (first | refine run Γ hm 400 ?_ | refine runD Γ hm 400 (by kernel_rfl) ?_); conv => whnf))
    have hlen : (b ++ pairsL (l.take i)).length < 1000000 := by rw [List.length_append, pairsL_length, List.length_take]; omega
    refine stepOp (good_call [(0, 1), (1, 16)] rfl F120 (numberS _ hlen (l[i]).toNat 2 (by decide)) (congrArg (fun z => [SV.osl 1, .val (.int .u64 z), intSV 2]) (u64_small l[i] hn.1 (by omega))) ⟨rfl, trivial⟩ rfl ⟨.inl rfl, .inr rfl, trivial⟩) rfl rfl ?_
    ((first | refine run Γ hm 400 ?_ | refine runD Γ hm 400 (by kernel_rfl) ?_ | skip); (conv => whnf); repeat ((first | refine aF ?_ | refine aT ?_); (first | refine run Γ hm 400 ?_ | refine runD Γ hm 400 (by kernel_rfl) ?_); conv => whnf))
    refine ⟨by unfold I64; omega, ?_⟩
    ((first | refine run Γ hm 400 ?_ | refine runD Γ hm 400 (by kernel_rfl) ?_ | skip); (conv => whnf); repeat ((first | refine aF ?_ | refine aT ?_); (first | refine run Γ hm 400 ?_ | refine runD Γ hm 400 (by kernel_rfl) ?_); conv => whnf))
    exact G_next [(0, 0), (1, 16)] hlt ⟨⟨rfl, rfl, rfl, rfl, rfl, rfl, rfl, rfl, trivial⟩, ⟨.inl rfl, rfl, .inl (congrArg (Ob.row 1 byteSV) (by rw [pairsL_take _ _ hlt, List.append_assoc])), rfl, trivial⟩, rfl, rfl⟩
  · have : i = l.length := by have := of_decide_eq_false h1; omega
    subst this
    ((first | refine run Γ hm 400 ?_ | refine runD Γ hm 400 (by kernel_rfl) ?_ | skip); (conv => whnf); repeat ((first | refine aF ?_ | refine aT ?_); (first | refine run Γ hm 400 ?_ | refine runD Γ hm 400 (by kernel_rfl) ?_); conv => whnf))
    exact done rfl (.cons .tmp .nil) [(0, 0), (1, 1)] _ (fun _ h => h) rfl rfl ⟨trivial, ⟨.inl rfl, rfl, .inl (congrArg (Ob.row 1 byteSV) (by rw [List.take_length])), rfl, trivial⟩, rfl, rfl⟩

def headL : List UInt8 := [66, 66, 3, 0, 0, 0]

def flagB (b : Bool) : UInt8 := if b then 128 else 0

def restL (m : Msg) : List UInt8 := be 8 m.root ++ (be 4 m.cost.toNat ++ (be 8 m.bridge ++ pairsL [m.port, m.age, m.mx, m.hello, m.wait]))

def bodyL (m : Msg) : List UInt8 := if m.ch then headL ++ [128] else headL ++ ([0, flagB m.ak] ++ restL m)

structure Msg.InRange (m : Msg) : Prop where
  root : m.root < 18446744073709551616
  bridge : m.bridge < 18446744073709551616

structure Msg.Small (m : Msg) : Prop where
  cost : 0 ≤ m.cost ∧ m.cost < 4294967296
  all : ∀ n ∈ [m.port, m.age, m.mx, m.hello, m.wait], 0 ≤ n ∧ n < 65536

theorem rightB_smalls (m : Msg) (h : m.ch = false) (hr : rightB m = true) : m.Small := by
  rw [rightB_small m h] at hr
  simp only [Bool.and_eq_true, decide_eq_true_eq, List.all_eq_true] at hr
  exact ⟨hr.1, fun n hn => (smallB_iff n).1 (hr.2 n hn)⟩

theorem bodyL_length (m : Msg) : (bodyL m).length = if m.ch then 7 else 38 := by
  unfold bodyL
  split
  · rfl
  · simp [headL, restL, be_length, pairsL_length]

def ports (m : Msg) : List Int := [m.port, m.age, m.mx, m.hello, m.wait]

end Go.Sy.YthbgklhegccckaaGreat

namespace Go.Sy.YthbgklhegccckaaGreat
open Go.Proofs

attribute [local irreducible] Go.Sy.G Go.Sy.DR
set_option maxRecDepth 100000
set_option maxHeartbeats 4000000

def toN : Nat := 1652522221568

theorem flag_lit (b : Bool) : [(0 : UInt8), flagB b].map byteSV = [SV.val (.int .u8 0), SV.val (.int .u8 (flagB b).toNat)] := rfl

theorem put_no (src : Nat) (m : Msg) (hr : rightB m = false) : Sy.Spec Tryz.prog 71 [u64SV src, msgSV m] [] (.tup [.val (.slice none 0 0), intSV 2]) [] := contract Γ hm 100 F71 Tryz.ntmps71 rfl fun F hF => by
  ((first | refine run Γ hm 400 ?_ | refine runD Γ hm 400 (by kernel_rfl) ?_ | skip); (conv => whnf); repeat ((first | refine aF ?_ | refine aT ?_); (first | refine run Γ hm 400 ?_ | refine runD Γ hm 400 (by kernel_rfl) ?_); conv => whnf))
  refine call0 (rightS m) F119 rfl rfl rfl rfl rfl ?_
  rw [hr]
  ((first | refine run Γ hm 400 ?_ | refine runD Γ hm 400 (by kernel_rfl) ?_ | skip); (conv => whnf); repeat ((first | refine aF ?_ | refine aT ?_); (first | refine run Γ hm 400 ?_ | refine runD Γ hm 400 (by kernel_rfl) ?_); conv => whnf))
  exact done0 rfl (.cons .tmp (.cons .tmp .nil)) rfl rfl

theorem ch_or (m : Msg) (hr : rightB m = true) : m.ch = true ∨ m.Small := by
  cases h : m.ch with
  | true => exact .inl rfl
  | false => exact .inr (rightB_smalls m h hr)

def outL (src : Nat) (m : Msg) : List UInt8 := frame toN src (bodyL m).length (bodyL m)

theorem put_bad (src : Nat) (m : Msg) (hr : rightB m = true) (hs : 281474976710656 ≤ src) : Sy.Spec Tryz.prog 71 [u64SV src, msgSV m] [] (.tup [.val (.slice none 0 0), intSV 11]) [] := contract Γ hm 100 F71 Tryz.ntmps71 rfl fun F hF => by
  ((first | refine run Γ hm 400 ?_ | refine runD Γ hm 400 (by kernel_rfl) ?_ | skip); (conv => whnf); repeat ((first | refine aF ?_ | refine aT ?_); (first | refine run Γ hm 400 ?_ | refine runD Γ hm 400 (by kernel_rfl) ?_); conv => whnf))
  refine call0 (rightS m) F119 rfl rfl rfl rfl rfl ?_
  rw [hr]
  ((first | refine run Γ hm 400 ?_ | refine runD Γ hm 400 (by kernel_rfl) ?_ | skip); (conv => whnf); repeat ((first | refine aF ?_ | refine aT ?_); (first | refine run Γ hm 400 ?_ | refine runD Γ hm 400 (by kernel_rfl) ?_); conv => whnf))
  refine stepOp (good_convert_mark Γ.toTy rfl rfl rfl rfl rfl rfl rfl) rfl rfl ?_
  ((first | refine run Γ hm 400 ?_ | refine runD Γ hm 400 (by kernel_rfl) ?_ | skip); (conv => whnf); repeat ((first | refine aF ?_ | refine aT ?_); (first | refine run Γ hm 400 ?_ | refine runD Γ hm 400 (by kernel_rfl) ?_); conv => whnf))
  refine ⟨fun h1 => ?_, fun h1 => ?_⟩
  · have hch := h1
    ((first | refine run Γ hm 400 ?_ | refine runD Γ hm 400 (by kernel_rfl) ?_ | skip); (conv => whnf); repeat ((first | refine aF ?_ | refine aT ?_); (first | refine run Γ hm 400 ?_ | refine runD Γ hm 400 (by kernel_rfl) ?_); conv => whnf))
    refine stepOp (good_appendT (e := byteSV) Γ.toTy 17 rfl rfl rfl rfl rfl (.lit (l := headL) rfl rfl) (.lit (l := [(128 : UInt8)]) rfl rfl) (by decide) (by decide) (by decide)) rfl rfl ?_
    ((first | refine run Γ hm 400 ?_ | refine runD Γ hm 400 (by kernel_rfl) ?_ | skip); (conv => whnf); repeat ((first | refine aF ?_ | refine aT ?_); (first | refine run Γ hm 400 ?_ | refine runD Γ hm 400 (by kernel_rfl) ?_); conv => whnf))
    have hb : headL ++ [128] = bodyL m := by rw [bodyL, if_pos h1]
    rw [hb]
    have hl : (bodyL m).length = 7 := by rw [bodyL_length, hch]; rfl
    refine stepOp (good_callV [] [17] rfl F122 (etherPut_bad toN src (bodyL m).length (bodyL m) (by decide) hs) (.cons (.agg (.cons (.refl _) (.cons (.refl _) (.cons (.refl _) (.cons (.row rfl rfl) .nil))))) .nil) trivial rfl trivial rfl) rfl rfl ?_
    ((first | refine run Γ hm 400 ?_ | refine runD Γ hm 400 (by kernel_rfl) ?_ | skip); (conv => whnf); repeat ((first | refine aF ?_ | refine aT ?_); (first | refine run Γ hm 400 ?_ | refine runD Γ hm 400 (by kernel_rfl) ?_); conv => whnf))
    exact done0 rfl (.cons .tmp (.cons .tmp .nil)) rfl rfl
  · have hch := h1
    obtain ⟨hc, ha⟩ := (ch_or m hr).resolve_left (by rw [h1]; decide)
    ((first | refine run Γ hm 400 ?_ | refine runD Γ hm 400 (by kernel_rfl) ?_ | skip); (conv => whnf); repeat ((first | refine aF ?_ | refine aT ?_); (first | refine run Γ hm 400 ?_ | refine runD Γ hm 400 (by kernel_rfl) ?_); conv => whnf))
    refine ⟨fun h2 => ?_, fun h2 => ?_⟩
    · ((first | refine run Γ hm 400 ?_ | refine runD Γ hm 400 (by kernel_rfl) ?_ | skip); (conv => whnf); repeat ((first | refine aF ?_ | refine aT ?_); (first | refine run Γ hm 400 ?_ | refine runD Γ hm 400 (by kernel_rfl) ?_); conv => whnf))
      refine stepOp (good_appendT (e := byteSV) Γ.toTy 23 rfl rfl rfl rfl rfl (.lit (l := headL) rfl rfl) (.lit (l := [(0 : UInt8), 128]) rfl rfl) (by decide) (by decide) (by decide)) rfl rfl ?_
      ((first | refine run Γ hm 400 ?_ | refine runD Γ hm 400 (by kernel_rfl) ?_ | skip); (conv => whnf); repeat ((first | refine aF ?_ | refine aT ?_); (first | refine run Γ hm 400 ?_ | refine runD Γ hm 400 (by kernel_rfl) ?_); conv => whnf))
      refine stepOp (good_call [(0, 23), (1, 27)] rfl F120 (numberS _ (by simp [be_length, headL]) m.root 8 (by decide)) rfl ⟨rfl, trivial⟩ rfl ⟨.inl rfl, .inr rfl, trivial⟩) rfl rfl ?_
      ((first | refine run Γ hm 400 ?_ | refine runD Γ hm 400 (by kernel_rfl) ?_ | skip); (conv => whnf); repeat ((first | refine aF ?_ | refine aT ?_); (first | refine run Γ hm 400 ?_ | refine runD Γ hm 400 (by kernel_rfl) ?_); conv => whnf))
      refine stepOp (good_call [(0, 27), (1, 32)] rfl F120 (numberS _ (by simp [be_length, headL]) m.cost.toNat 4 (by decide)) (congrArg (fun z => [SV.osl 27, .val (.int .u64 z), intSV 4]) (u64_small m.cost hc.1 (by omega))) ⟨rfl, trivial⟩ rfl ⟨.inl rfl, .inr rfl, trivial⟩) rfl rfl ?_
      ((first | refine run Γ hm 400 ?_ | refine runD Γ hm 400 (by kernel_rfl) ?_ | skip); (conv => whnf); repeat ((first | refine aF ?_ | refine aT ?_); (first | refine run Γ hm 400 ?_ | refine runD Γ hm 400 (by kernel_rfl) ?_); conv => whnf))
      refine stepOp (good_call [(0, 32), (1, 36)] rfl F120 (numberS _ (by simp [be_length, headL]) m.bridge 8 (by decide)) rfl ⟨rfl, trivial⟩ rfl ⟨.inl rfl, .inr rfl, trivial⟩) rfl rfl ?_
      ((first | refine run Γ hm 400 ?_ | refine runD Γ hm 400 (by kernel_rfl) ?_ | skip); (conv => whnf); repeat ((first | refine aF ?_ | refine aT ?_); (first | refine run Γ hm 400 ?_ | refine runD Γ hm 400 (by kernel_rfl) ?_); conv => whnf))
      refine stepOp (good_callV [(0, 36), (1, 49)] [48] rfl F121 (pairsS _ (by simp [be_length, headL]) (ports m) (by simp [ports]) ha) (.cons (.refl _) (.cons (.lit rfl rfl rfl) .nil)) ⟨rfl, trivial⟩ rfl ⟨.inl rfl, .inr rfl, trivial⟩ rfl) rfl rfl ?_
      ((first | refine run Γ hm 400 ?_ | refine runD Γ hm 400 (by kernel_rfl) ?_ | skip); (conv => whnf); repeat ((first | refine aF ?_ | refine aT ?_); (first | refine run Γ hm 400 ?_ | refine runD Γ hm 400 (by kernel_rfl) ?_); conv => whnf))
      have hb : (((((headL ++ [0, 128]) ++ be 8 m.root) ++ be 4 m.cost.toNat) ++ be 8 m.bridge) ++ pairsL (ports m)) = bodyL m := by simp [bodyL, hch, flagB, h2, restL, ports]
      rw [hb]
      have hl : (bodyL m).length = 38 := by rw [bodyL_length, hch]; rfl
      refine stepOp (good_callV [] [49] rfl F122 (etherPut_bad toN src (bodyL m).length (bodyL m) (by decide) hs) (.cons (.agg (.cons (.refl _) (.cons (.refl _) (.cons (.refl _) (.cons (.row rfl rfl) .nil))))) .nil) trivial rfl trivial rfl) rfl rfl ?_
      ((first | refine run Γ hm 400 ?_ | refine runD Γ hm 400 (by kernel_rfl) ?_ | skip); (conv => whnf); repeat ((first | refine aF ?_ | refine aT ?_); (first | refine run Γ hm 400 ?_ | refine runD Γ hm 400 (by kernel_rfl) ?_); conv => whnf))
      exact done0 rfl (.cons .tmp (.cons .tmp .nil)) rfl rfl
    · ((first | refine run Γ hm 400 ?_ | refine runD Γ hm 400 (by kernel_rfl) ?_ | skip); (conv => whnf); repeat ((first | refine aF ?_ | refine aT ?_); (first | refine run Γ hm 400 ?_ | refine runD Γ hm 400 (by kernel_rfl) ?_); conv => whnf))
      refine stepOp (good_appendT (e := byteSV) Γ.toTy 23 rfl rfl rfl rfl rfl (.lit (l := headL) rfl rfl) (.lit (l := [(0 : UInt8), 0]) rfl rfl) (by decide) (by decide) (by decide)) rfl rfl ?_
      ((first | refine run Γ hm 400 ?_ | refine runD Γ hm 400 (by kernel_rfl) ?_ | skip); (conv => whnf); repeat ((first | refine aF ?_ | refine aT ?_); (first | refine run Γ hm 400 ?_ | refine runD Γ hm 400 (by kernel_rfl) ?_); conv => whnf))
      refine stepOp (good_call [(0, 23), (1, 27)] rfl F120 (numberS _ (by simp [be_length, headL]) m.root 8 (by decide)) rfl ⟨rfl, trivial⟩ rfl ⟨.inl rfl, .inr rfl, trivial⟩) rfl rfl ?_
      ((first | refine run Γ hm 400 ?_ | refine runD Γ hm 400 (by kernel_rfl) ?_ | skip); (conv => whnf); repeat ((first | refine aF ?_ | refine aT ?_); (first | refine run Γ hm 400 ?_ | refine runD Γ hm 400 (by kernel_rfl) ?_); conv => whnf))
      refine stepOp (good_call [(0, 27), (1, 32)] rfl F120 (numberS _ (by simp [be_length, headL]) m.cost.toNat 4 (by decide)) (congrArg (fun z => [SV.osl 27, .val (.int .u64 z), intSV 4]) (u64_small m.cost hc.1 (by omega))) ⟨rfl, trivial⟩ rfl ⟨.inl rfl, .inr rfl, trivial⟩) rfl rfl ?_
      ((first | refine run Γ hm 400 ?_ | refine runD Γ hm 400 (by kernel_rfl) ?_ | skip); (conv => whnf); repeat ((first | refine aF ?_ | refine aT ?_); (first | refine run Γ hm 400 ?_ | refine runD Γ hm 400 (by kernel_rfl) ?_); conv => whnf))
      refine stepOp (good_call [(0, 32), (1, 36)] rfl F120 (numberS _ (by simp [be_length, headL]) m.bridge 8 (by decide)) rfl ⟨rfl, trivial⟩ rfl ⟨.inl rfl, .inr rfl, trivial⟩) rfl rfl ?_
      ((first | refine run Γ hm 400 ?_ | refine runD Γ hm 400 (by kernel_rfl) ?_ | skip); (conv => whnf); repeat ((first | refine aF ?_ | refine aT ?_); (first | refine run Γ hm 400 ?_ | refine runD Γ hm 400 (by kernel_rfl) ?_); conv => whnf))
      refine stepOp (good_callV [(0, 36), (1, 49)] [48] rfl F121 (pairsS _ (by simp [be_length, headL]) (ports m) (by simp [ports]) ha) (.cons (.refl _) (.cons (.lit rfl rfl rfl) .nil)) ⟨rfl, trivial⟩ rfl ⟨.inl rfl, .inr rfl, trivial⟩ rfl) rfl rfl ?_
      ((first | refine run Γ hm 400 ?_ | refine runD Γ hm 400 (by kernel_rfl) ?_ | skip); (conv => whnf); repeat ((first | refine aF ?_ | refine aT ?_); (first | refine run Γ hm 400 ?_ | refine runD Γ hm 400 (by kernel_rfl) ?_); conv => whnf))
      have hb : (((((headL ++ [0, 0]) ++ be 8 m.root) ++ be 4 m.cost.toNat) ++ be 8 m.bridge) ++ pairsL (ports m)) = bodyL m := by simp [bodyL, hch, flagB, h2, restL, ports]
      rw [hb]
      have hl : (bodyL m).length = 38 := by rw [bodyL_length, hch]; rfl
      refine stepOp (good_callV [] [49] rfl F122 (etherPut_bad toN src (bodyL m).length (bodyL m) (by decide) hs) (.cons (.agg (.cons (.refl _) (.cons (.refl _) (.cons (.refl _) (.cons (.row rfl rfl) .nil))))) .nil) trivial rfl trivial rfl) rfl rfl ?_
      ((first | refine run Γ hm 400 ?_ | refine runD Γ hm 400 (by kernel_rfl) ?_ | skip); (conv => whnf); repeat ((first | refine aF ?_ | refine aT ?_); (first | refine run Γ hm 400 ?_ | refine runD Γ hm 400 (by kernel_rfl) ?_); conv => whnf))
      exact done0 rfl (.cons .tmp (.cons .tmp .nil)) rfl rfl

theorem put_ok (src : Nat) (m : Msg) (hr : rightB m = true) (hs : src < 281474976710656) : Sy.Spec Tryz.prog 71 [u64SV src, msgSV m] [] (.tup [.osl 0, intSV 0]) [(0, .row 1 byteSV (outL src m))] := contract Γ hm 100 F71 Tryz.ntmps71 rfl fun F hF => by
  ((first | refine run Γ hm 400 ?_ | refine runD Γ hm 400 (by kernel_rfl) ?_ | skip); (conv => whnf); repeat ((first | refine aF ?_ | refine aT ?_); (first | refine run Γ hm 400 ?_ | refine runD Γ hm 400 (by kernel_rfl) ?_); conv => whnf))
  refine call0 (rightS m) F119 rfl rfl rfl rfl rfl ?_
  rw [hr]
  ((first | refine run Γ hm 400 ?_ | refine runD Γ hm 400 (by kernel_rfl) ?_ | skip); (conv => whnf); repeat ((first | refine aF ?_ | refine aT ?_); (first | refine run Γ hm 400 ?_ | refine runD Γ hm 400 (by kernel_rfl) ?_); conv => whnf))
  refine stepOp (good_convert_mark Γ.toTy rfl rfl rfl rfl rfl rfl rfl) rfl rfl ?_
  ((first | refine run Γ hm 400 ?_ | refine runD Γ hm 400 (by kernel_rfl) ?_ | skip); (conv => whnf); repeat ((first | refine aF ?_ | refine aT ?_); (first | refine run Γ hm 400 ?_ | refine runD Γ hm 400 (by kernel_rfl) ?_); conv => whnf))
  refine ⟨fun h1 => ?_, fun h1 => ?_⟩
  · have hch := h1
    ((first | refine run Γ hm 400 ?_ | refine runD Γ hm 400 (by kernel_rfl) ?_ | skip); (conv => whnf); repeat ((first | refine aF ?_ | refine aT ?_); (first | refine run Γ hm 400 ?_ | refine runD Γ hm 400 (by kernel_rfl) ?_); conv => whnf))
    refine stepOp (good_appendT (e := byteSV) Γ.toTy 17 rfl rfl rfl rfl rfl (.lit (l := headL) rfl rfl) (.lit (l := [(128 : UInt8)]) rfl rfl) (by decide) (by decide) (by decide)) rfl rfl ?_
    ((first | refine run Γ hm 400 ?_ | refine runD Γ hm 400 (by kernel_rfl) ?_ | skip); (conv => whnf); repeat ((first | refine aF ?_ | refine aT ?_); (first | refine run Γ hm 400 ?_ | refine runD Γ hm 400 (by kernel_rfl) ?_); conv => whnf))
    have hb : headL ++ [128] = bodyL m := by rw [bodyL, if_pos h1]
    rw [hb]
    have hl : (bodyL m).length = 7 := by rw [bodyL_length, hch]; rfl
    refine stepOp (good_callV [(0, 55)] [17] rfl F122 (etherPut_ok toN src (bodyL m).length (bodyL m) (by decide) hs (by omega) (by omega)) (.cons (.agg (.cons (.refl _) (.cons (.refl _) (.cons (.refl _) (.cons (.row rfl rfl) .nil))))) .nil) trivial rfl ⟨.inr rfl, trivial⟩ rfl) rfl rfl ?_
    ((first | refine run Γ hm 400 ?_ | refine runD Γ hm 400 (by kernel_rfl) ?_ | skip); (conv => whnf); repeat ((first | refine aF ?_ | refine aT ?_); (first | refine run Γ hm 400 ?_ | refine runD Γ hm 400 (by kernel_rfl) ?_); conv => whnf))
    exact done rfl (.cons .tmp (.cons .tmp .nil)) [(0, 55)] _ (fun _ h => h) rfl rfl ⟨trivial, ⟨.inl rfl, rfl, trivial⟩, rfl, rfl⟩
  · have hch := h1
    obtain ⟨hc, ha⟩ := (ch_or m hr).resolve_left (by rw [h1]; decide)
    ((first | refine run Γ hm 400 ?_ | refine runD Γ hm 400 (by kernel_rfl) ?_ | skip); (conv => whnf); repeat ((first | refine aF ?_ | refine aT ?_); (first | refine run Γ hm 400 ?_ | refine runD Γ hm 400 (by kernel_rfl) ?_); conv => whnf))
    refine ⟨fun h2 => ?_, fun h2 => ?_⟩
    · ((first | refine run Γ hm 400 ?_ | refine runD Γ hm 400 (by kernel_rfl) ?_ | skip); (conv => whnf); repeat ((first | refine aF ?_ | refine aT ?_); (first | refine run Γ hm 400 ?_ | refine runD Γ hm 400 (by kernel_rfl) ?_); conv => whnf))
      refine stepOp (good_appendT (e := byteSV) Γ.toTy 23 rfl rfl rfl rfl rfl (.lit (l := headL) rfl rfl) (.lit (l := [(0 : UInt8), 128]) rfl rfl) (by decide) (by decide) (by decide)) rfl rfl ?_
      ((first | refine run Γ hm 400 ?_ | refine runD Γ hm 400 (by kernel_rfl) ?_ | skip); (conv => whnf); repeat ((first | refine aF ?_ | refine aT ?_); (first | refine run Γ hm 400 ?_ | refine runD Γ hm 400 (by kernel_rfl) ?_); conv => whnf))
      refine stepOp (good_call [(0, 23), (1, 27)] rfl F120 (numberS _ (by simp [be_length, headL]) m.root 8 (by decide)) rfl ⟨rfl, trivial⟩ rfl ⟨.inl rfl, .inr rfl, trivial⟩) rfl rfl ?_
      ((first | refine run Γ hm 400 ?_ | refine runD Γ hm 400 (by kernel_rfl) ?_ | skip); (conv => whnf); repeat ((first | refine aF ?_ | refine aT ?_); (first | refine run Γ hm 400 ?_ | refine runD Γ hm 400 (by kernel_rfl) ?_); conv => whnf))
      refine stepOp (good_call [(0, 27), (1, 32)] rfl F120 (numberS _ (by simp [be_length, headL]) m.cost.toNat 4 (by decide)) (congrArg (fun z => [SV.osl 27, .val (.int .u64 z), intSV 4]) (u64_small m.cost hc.1 (by omega))) ⟨rfl, trivial⟩ rfl ⟨.inl rfl, .inr rfl, trivial⟩) rfl rfl ?_
      ((first | refine run Γ hm 400 ?_ | refine runD Γ hm 400 (by kernel_rfl) ?_ | skip); (conv => whnf); repeat ((first | refine aF ?_ | refine aT ?_); (first | refine run Γ hm 400 ?_ | refine runD Γ hm 400 (by kernel_rfl) ?_); conv => whnf))
      refine stepOp (good_call [(0, 32), (1, 36)] rfl F120 (numberS _ (by simp [be_length, headL]) m.bridge 8 (by decide)) rfl ⟨rfl, trivial⟩ rfl ⟨.inl rfl, .inr rfl, trivial⟩) rfl rfl ?_
      ((first | refine run Γ hm 400 ?_ | refine runD Γ hm 400 (by kernel_rfl) ?_ | skip); (conv => whnf); repeat ((first | refine aF ?_ | refine aT ?_); (first | refine run Γ hm 400 ?_ | refine runD Γ hm 400 (by kernel_rfl) ?_); conv => whnf))
      refine stepOp (good_callV [(0, 36), (1, 49)] [48] rfl F121 (pairsS _ (by simp [be_length, headL]) (ports m) (by simp [ports]) ha) (.cons (.refl _) (.cons (.lit rfl rfl rfl) .nil)) ⟨rfl, trivial⟩ rfl ⟨.inl rfl, .inr rfl, trivial⟩ rfl) rfl rfl ?_
      ((first | refine run Γ hm 400 ?_ | refine runD Γ hm 400 (by kernel_rfl) ?_ | skip); (conv => whnf); repeat ((first | refine aF ?_ | refine aT ?_); (first | refine run Γ hm 400 ?_ | refine runD Γ hm 400 (by kernel_rfl) ?_); conv => whnf))
      have hb : (((((headL ++ [0, 128]) ++ be 8 m.root) ++ be 4 m.cost.toNat) ++ be 8 m.bridge) ++ pairsL (ports m)) = bodyL m := by simp [bodyL, hch, flagB, h2, restL, ports]
      rw [hb]
      have hl : (bodyL m).length = 38 := by rw [bodyL_length, hch]; rfl
      refine stepOp (good_callV [(0, 55)] [49] rfl F122 (etherPut_ok toN src (bodyL m).length (bodyL m) (by decide) hs (by omega) (by omega)) (.cons (.agg (.cons (.refl _) (.cons (.refl _) (.cons (.refl _) (.cons (.row rfl rfl) .nil))))) .nil) trivial rfl ⟨.inr rfl, trivial⟩ rfl) rfl rfl ?_
      ((first | refine run Γ hm 400 ?_ | refine runD Γ hm 400 (by kernel_rfl) ?_ | skip); (conv => whnf); repeat ((first | refine aF ?_ | refine aT ?_); (first | refine run Γ hm 400 ?_ | refine runD Γ hm 400 (by kernel_rfl) ?_); conv => whnf))
      exact done rfl (.cons .tmp (.cons .tmp .nil)) [(0, 55)] _ (fun _ h => h) rfl rfl ⟨trivial, ⟨.inl rfl, rfl, trivial⟩, rfl, rfl⟩
    · ((first | refine run Γ hm 400 ?_ | refine runD Γ hm 400 (by kernel_rfl) ?_ | skip); (conv => whnf); repeat ((first | refine aF ?_ | refine aT ?_); (first | refine run Γ hm 400 ?_ | refine runD Γ hm 400 (by kernel_rfl) ?_); conv => whnf))
      refine stepOp (good_appendT (e := byteSV) Γ.toTy 23 rfl rfl rfl rfl rfl (.lit (l := headL) rfl rfl) (.lit (l := [(0 : UInt8), 0]) rfl rfl) (by decide) (by decide) (by decide)) rfl rfl ?_
      ((first | refine run Γ hm 400 ?_ | refine runD Γ hm 400 (by kernel_rfl) ?_ | skip); (conv => whnf); repeat ((first | refine aF ?_ | refine aT ?_); (first | refine run Γ hm 400 ?_ | refine runD Γ hm 400 (by kernel_rfl) ?_); conv => whnf))
      refine stepOp (good_call [(0, 23), (1, 27)] rfl F120 (numberS _ (by simp [be_length, headL]) m.root 8 (by decide)) rfl ⟨rfl, trivial⟩ rfl ⟨.inl rfl, .inr rfl, trivial⟩) rfl rfl ?_
      ((first | refine run Γ hm 400 ?_ | refine runD Γ hm 400 (by kernel_rfl) ?_ | skip); (conv => whnf); repeat ((first | refine aF ?_ | refine aT ?_); (first | refine run Γ hm 400 ?_ | refine runD Γ hm 400 (by kernel_rfl) ?_); conv => whnf))
      refine stepOp (good_call [(0, 27), (1, 32)] rfl F120 (numberS _ (by simp [be_length, headL]) m.cost.toNat 4 (by decide)) (congrArg (fun z => [SV.osl 27, .val (.int .u64 z), intSV 4]) (u64_small m.cost hc.1 (by omega))) ⟨rfl, trivial⟩ rfl ⟨.inl rfl, .inr rfl, trivial⟩) rfl rfl ?_
      ((first | refine run Γ hm 400 ?_ | refine runD Γ hm 400 (by kernel_rfl) ?_ | skip); (conv => whnf); repeat ((first | refine aF ?_ | refine aT ?_); (first | refine run Γ hm 400 ?_ | refine runD Γ hm 400 (by kernel_rfl) ?_); conv => whnf))
      refine stepOp (good_call [(0, 32), (1, 36)] rfl F120 (numberS _ (by simp [be_length, headL]) m.bridge 8 (by decide)) rfl ⟨rfl, trivial⟩ rfl ⟨.inl rfl, .inr rfl, trivial⟩) rfl rfl ?_
      ((first | refine run Γ hm 400 ?_ | refine runD Γ hm 400 (by kernel_rfl) ?_ | skip); (conv => whnf); repeat ((first | refine aF ?_ | refine aT ?_); (first | refine run Γ hm 400 ?_ | refine runD Γ hm 400 (by kernel_rfl) ?_); conv => whnf))
      refine stepOp (good_callV [(0, 36), (1, 49)] [48] rfl F121 (pairsS _ (by simp [be_length, headL]) (ports m) (by simp [ports]) ha) (.cons (.refl _) (.cons (.lit rfl rfl rfl) .nil)) ⟨rfl, trivial⟩ rfl ⟨.inl rfl, .inr rfl, trivial⟩ rfl) rfl rfl ?_
      ((first | refine run Γ hm 400 ?_ | refine runD Γ hm 400 (by kernel_rfl) ?_ | skip); (conv => whnf); repeat ((first | refine aF ?_ | refine aT ?_); (first | refine run Γ hm 400 ?_ | refine runD Γ hm 400 (by kernel_rfl) ?_); conv => whnf))
      have hb : (((((headL ++ [0, 0]) ++ be 8 m.root) ++ be 4 m.cost.toNat) ++ be 8 m.bridge) ++ pairsL (ports m)) = bodyL m := by simp [bodyL, hch, flagB, h2, restL, ports]
      rw [hb]
      have hl : (bodyL m).length = 38 := by rw [bodyL_length, hch]; rfl
      refine stepOp (good_callV [(0, 55)] [49] rfl F122 (etherPut_ok toN src (bodyL m).length (bodyL m) (by decide) hs (by omega) (by omega)) (.cons (.agg (.cons (.refl _) (.cons (.refl _) (.cons (.refl _) (.cons (.row rfl rfl) .nil))))) .nil) trivial rfl ⟨.inr rfl, trivial⟩ rfl) rfl rfl ?_
      ((first | refine run Γ hm 400 ?_ | refine runD Γ hm 400 (by kernel_rfl) ?_ | skip); (conv => whnf); repeat ((first | refine aF ?_ | refine aT ?_); (first | refine run Γ hm 400 ?_ | refine runD Γ hm 400 (by kernel_rfl) ?_); conv => whnf))
      exact done rfl (.cons .tmp (.cons .tmp .nil)) [(0, 55)] _ (fun _ h => h) rfl rfl ⟨trivial, ⟨.inl rfl, rfl, trivial⟩, rfl, rfl⟩

end Go.Sy.YthbgklhegccckaaGreat

namespace Go.Sy.YthbgklhegccckaaGreat
open Go.Proofs

attribute [local irreducible] Go.Sy.G Go.Sy.DR
set_option maxRecDepth 100000
set_option maxHeartbeats 4000000

theorem num_take_lt (l : List UInt8) (k : Nat) : num (l.take k) < 256 ^ k := by
  have := num_lt (l.take k)
  have h2 : (l.take k).length ≤ k := by simp; omega
  have h3 := Nat.pow_le_pow_right (n := 256) (by omega) h2
  omega

theorem nextS (l : List UInt8) (hl : l.length < 1000000) (at_ k : Nat) (hk : k ≤ 8) (h : at_ + k ≤ l.length) : Sy.Spec Tryz.prog 115 [.ptr 0 0, intSV k] [(0, .box [.sl 1 byteSV l, intSV at_])] (u64SV (num ((l.drop at_).take k))) [(0, .box [.sl 1 byteSV l, intSV (at_ + k : Nat)])] := contract Γ hm 100 F115 Tryz.ntmps115 rfl fun F hF => by
  ((first | refine run Γ hm 400 ?_ | refine runD Γ hm 400 (by kernel_rfl) ?_ | skip); (conv => whnf); repeat ((first | refine aF ?_ | refine aT ?_); (first | refine run Γ hm 400 ?_ | refine runD Γ hm 400 (by kernel_rfl) ?_); conv => whnf))
  refine G_count k (fun j => [(0, .ptr 0 0), (5, u64SV (num ((l.drop at_).take j))), (6, intSV k), (7, intSV j)]) (fun j => [(0, .box [.sl 1 byteSV l, intSV (at_ + j : Nat)])]) [(0, 0)] ⟨⟨rfl, rfl, rfl, rfl, rfl, rfl, rfl, rfl, trivial⟩, ⟨.inl rfl, rfl, trivial⟩, rfl, rfl⟩ ?_
  intro j hj
  ((first | refine run Γ hm 400 ?_ | refine runD Γ hm 400 (by kernel_rfl) ?_ | skip); (conv => whnf); repeat ((first | refine aF ?_ | refine aT ?_); (first | refine run Γ hm 400 ?_ | refine runD Γ hm 400 (by kernel_rfl) ?_); conv => whnf))
  refine ⟨fun h1 => ?_, fun h1 => ?_⟩
  · have hlt : j < k := by have := of_decide_eq_true h1; omega
    ((first | refine run Γ hm 400 ?_ | refine runD Γ hm 400 (by kernel_rfl) ?_ | skip); (conv => whnf); repeat ((first | refine aF ?_ | refine aT ?_); (first | refine run Γ hm 400 ?_ | refine runD Γ hm 400 (by kernel_rfl) ?_); conv => whnf))
    refine ⟨by decide, ?_⟩
    ((first | refine run Γ hm 400 ?_ | refine runD Γ hm 400 (by kernel_rfl) ?_ | skip); (conv => whnf); repeat ((first | refine aF ?_ | refine aT ?_); (first | refine run Γ hm 400 ?_ | refine runD Γ hm 400 (by kernel_rfl) ?_); conv => whnf))
    refine ⟨rfl, by omega, by omega, ?_⟩
    ((first | refine run Γ hm 400 ?_ | refine runD Γ hm 400 (by kernel_rfl) ?_ | skip); (conv => whnf); repeat ((first | refine aF ?_ | refine aT ?_); (first | refine run Γ hm 400 ?_ | refine runD Γ hm 400 (by kernel_rfl) ?_); conv => whnf))
    refine ⟨(by kernel_rfl), ?_⟩
    ((first | refine run Γ hm 400 ?_ | refine runD Γ hm 400 (by kernel_rfl) ?_ | skip); (conv => whnf); repeat ((first | refine aF ?_ | refine aT ?_); (first | refine run Γ hm 400 ?_ | refine runD Γ hm 400 (by kernel_rfl) ?_); conv => whnf))
    refine ⟨by unfold I64; omega, ?_⟩
    ((first | refine run Γ hm 400 ?_ | refine runD Γ hm 400 (by kernel_rfl) ?_ | skip); (conv => whnf); repeat ((first | refine aF ?_ | refine aT ?_); (first | refine run Γ hm 400 ?_ | refine runD Γ hm 400 (by kernel_rfl) ?_); conv => whnf))
    refine ⟨by unfold I64; omega, ?_⟩
    ((first | refine run Γ hm 400 ?_ | refine runD Γ hm 400 (by kernel_rfl) ?_ | skip); (conv => whnf); repeat ((first | refine aF ?_ | refine aT ?_); (first | refine run Γ hm 400 ?_ | refine runD Γ hm 400 (by kernel_rfl) ?_); conv => whnf))
    refine G_next [(0, 0)] hlt ⟨⟨rfl, rfl, congrArg (fun z => SV.val (.int .u64 z)) ?_, rfl, rfl, rfl, rfl, rfl, trivial⟩, ⟨.inl rfl, rfl, trivial⟩, rfl, rfl⟩
    have h1 := num_take (l.drop at_) j (by simp; omega)
    have h2 : num ((l.drop at_).take j) < 72057594037927936 := by
      have := num_take_lt (l.drop at_) j
      have h3 := Nat.pow_le_pow_right (n := 256) (by omega) (show j ≤ 7 by omega)
      omega
    have h3 : (l.drop at_)[j]'(by simp; omega) = l[((at_ + j : Nat) : Int).toNat]'(by omega) := by
      rw [List.getElem_drop]
      congr 1
    rw [h1, h3, ← or_shift _ _ (by omega)]
    have h4 : IntKind.u64.wrap (l[((at_ + j : Nat) : Int).toNat]'(by omega)).toNat = (l[((at_ + j : Nat) : Int).toNat]'(by omega)).toNat := by
      have := (l[((at_ + j : Nat) : Int).toNat]'(by omega)).toNat_lt
      rw [IntKind.wrap_u64]
      omega
    exact congrArg (bits .or .u64 _) h4.symm
  · have : j = k := by have := of_decide_eq_false h1; omega
    subst this
    ((first | refine run Γ hm 400 ?_ | refine runD Γ hm 400 (by kernel_rfl) ?_ | skip); (conv => whnf); repeat ((first | refine aF ?_ | refine aT ?_); (first | refine run Γ hm 400 ?_ | refine runD Γ hm 400 (by kernel_rfl) ?_); conv => whnf))
    exact done rfl (.cons .tmp .nil) [(0, 0)] _ (fun _ h => h) rfl rfl ⟨trivial, ⟨.inl rfl, rfl, trivial⟩, rfl, rfl⟩

theorem i64_small (n : Nat) (h : n < 9223372036854775808) : (n : Int) = IntKind.i64.wrap n := by
  rw [IntKind.wrap_i64]
  omega

theorem pairS (l : List UInt8) (hl : l.length < 1000000) (at_ : Nat) (h : at_ + 2 ≤ l.length) : Sy.Spec Tryz.prog 116 [.ptr 0 0] [(0, .box [.sl 1 byteSV l, intSV at_])] (intSV (num ((l.drop at_).take 2))) [(0, .box [.sl 1 byteSV l, intSV (at_ + 2 : Nat)])] := contract Γ hm 100 F116 Tryz.ntmps116 rfl fun F hF => by
  ((first | refine run Γ hm 400 ?_ | refine runD Γ hm 400 (by kernel_rfl) ?_ | skip); (conv => whnf); repeat ((first | refine aF ?_ | refine aT ?_); (first | refine run Γ hm 400 ?_ | refine runD Γ hm 400 (by kernel_rfl) ?_); conv => whnf))
  refine stepOp (good_call [(0, 0)] rfl F115 (nextS l hl at_ 2 (by decide) h) rfl ⟨rfl, trivial⟩ rfl ⟨.inl rfl, trivial⟩) rfl rfl ?_
  ((first | refine run Γ hm 400 ?_ | refine runD Γ hm 400 (by kernel_rfl) ?_ | skip); (conv => whnf); repeat ((first | refine aF ?_ | refine aT ?_); (first | refine run Γ hm 400 ?_ | refine runD Γ hm 400 (by kernel_rfl) ?_); conv => whnf))
  exact done rfl (.cons .tmp .nil) [(0, 0)] _ (fun _ h => h) (congrArg intSV (i64_small _ (by have := num_take_lt (l.drop at_) 2; omega))) rfl ⟨trivial, ⟨.inl rfl, rfl, trivial⟩, rfl, rfl⟩

def zeroMsg : Msg := ⟨false, false, 0, 0, 0, 0, 0, 0, 0, 0⟩

def parsedX (x : List UInt8) : Msg := ⟨false, decide ((x.getD 0 0).toNat = 128), num ((x.drop 1).take 8), num ((x.drop 13).take 8), num ((x.drop 9).take 4), num ((x.drop 21).take 2), num ((x.drop 23).take 2), num ((x.drop 25).take 2), num ((x.drop 27).take 2), num ((x.drop 29).take 2)⟩

theorem parse_bad (x : List UInt8) (hx : x.length = 31) (h0 : (x.getD 0 0).toNat ≠ 0) (h1 : (x.getD 0 0).toNat ≠ 128) : Sy.Spec Tryz.prog 67 [.sl 1 byteSV x] [] (.tup [msgSV zeroMsg, intSV 11]) [] := contract Γ hm 100 F67 Tryz.ntmps67 rfl fun F hF => by
  have he : x.getD 0 0 = x[0] := by simp [List.getD, hx]
  rw [he] at h0 h1
  ((first | refine run Γ hm 400 ?_ | refine runD Γ hm 400 (by kernel_rfl) ?_ | skip); (conv => whnf); repeat ((first | refine aF ?_ | refine aT ?_); (first | refine run Γ hm 400 ?_ | refine runD Γ hm 400 (by kernel_rfl) ?_); conv => whnf))
  refine ⟨rfl, by omega, by omega, ?_⟩
  ((first | refine run Γ hm 400 ?_ | refine runD Γ hm 400 (by kernel_rfl) ?_ | skip); (conv => whnf); repeat ((first | refine aF ?_ | refine aT ?_); (first | refine run Γ hm 400 ?_ | refine runD Γ hm 400 (by kernel_rfl) ?_); conv => whnf))
  refine ⟨fun h => ?_, fun h => ?_⟩
  · ((first | refine run Γ hm 400 ?_ | refine runD Γ hm 400 (by kernel_rfl) ?_ | skip); (conv => whnf); repeat ((first | refine aF ?_ | refine aT ?_); (first | refine run Γ hm 400 ?_ | refine runD Γ hm 400 (by kernel_rfl) ?_); conv => whnf))
    refine ⟨rfl, by omega, by omega, ?_⟩
    ((first | refine run Γ hm 400 ?_ | refine runD Γ hm 400 (by kernel_rfl) ?_ | skip); (conv => whnf); repeat ((first | refine aF ?_ | refine aT ?_); (first | refine run Γ hm 400 ?_ | refine runD Γ hm 400 (by kernel_rfl) ?_); conv => whnf))
    refine ⟨fun h => ?_, fun h => ?_⟩
    · ((first | refine run Γ hm 400 ?_ | refine runD Γ hm 400 (by kernel_rfl) ?_ | skip); (conv => whnf); repeat ((first | refine aF ?_ | refine aT ?_); (first | refine run Γ hm 400 ?_ | refine runD Γ hm 400 (by kernel_rfl) ?_); conv => whnf))
      exact done rfl (.cons (.cell rfl rfl rfl rfl) (.cons .tmp .nil)) [] [] (fun _ h => h) rfl rfl ⟨trivial, trivial, rfl, rfl⟩
    · refine absurd ?_ h1
      have := (bne_eq_false_iff_eq).1 h
      exact Int.ofNat.inj this
  · refine absurd ?_ h0
    have := (bne_eq_false_iff_eq).1 h
    exact Int.ofNat.inj this

theorem parse_ok (x : List UInt8) (hx : x.length = 31) (h0 : (x.getD 0 0).toNat = 0 ∨ (x.getD 0 0).toNat = 128) : Sy.Spec Tryz.prog 67 [.sl 1 byteSV x] [] (.tup [msgSV (parsedX x), intSV 0]) [] := contract Γ hm 100 F67 Tryz.ntmps67 rfl fun F hF => by
  have he : x.getD 0 0 = x[0] := by simp [List.getD, hx]
  have e1 : decide ((x.getD 0 0).toNat = 128) = ((x[0].toNat : Int) == 128) := by
    rw [he]
    by_cases h : x[0].toNat = 128 <;> simp [h]
    omega
  have e2 : ((num ((x.drop 9).take 4) : Nat) : Int) = IntKind.i64.wrap (num ((x.drop 9).take 4) : Nat) := i64_small _ (by have := num_take_lt (x.drop 9) 4; omega)
  rw [he] at h0
  ((first | refine run Γ hm 400 ?_ | refine runD Γ hm 400 (by kernel_rfl) ?_ | skip); (conv => whnf); repeat ((first | refine aF ?_ | refine aT ?_); (first | refine run Γ hm 400 ?_ | refine runD Γ hm 400 (by kernel_rfl) ?_); conv => whnf))
  refine ⟨rfl, by omega, by omega, ?_⟩
  ((first | refine run Γ hm 400 ?_ | refine runD Γ hm 400 (by kernel_rfl) ?_ | skip); (conv => whnf); repeat ((first | refine aF ?_ | refine aT ?_); (first | refine run Γ hm 400 ?_ | refine runD Γ hm 400 (by kernel_rfl) ?_); conv => whnf))
  refine ⟨fun h => ?_, fun h => ?_⟩
  · ((first | refine run Γ hm 400 ?_ | refine runD Γ hm 400 (by kernel_rfl) ?_ | skip); (conv => whnf); repeat ((first | refine aF ?_ | refine aT ?_); (first | refine run Γ hm 400 ?_ | refine runD Γ hm 400 (by kernel_rfl) ?_); conv => whnf))
    refine ⟨rfl, by omega, by omega, ?_⟩
    ((first | refine run Γ hm 400 ?_ | refine runD Γ hm 400 (by kernel_rfl) ?_ | skip); (conv => whnf); repeat ((first | refine aF ?_ | refine aT ?_); (first | refine run Γ hm 400 ?_ | refine runD Γ hm 400 (by kernel_rfl) ?_); conv => whnf))
    refine ⟨fun h' => ?_, fun h' => ?_⟩
    · exfalso
      have a1 : (x[0].toNat : Int) ≠ 0 := by simpa using h
      have a2 : (x[0].toNat : Int) ≠ 128 := by simpa using h'
      omega
    · ((first | refine run Γ hm 400 ?_ | refine runD Γ hm 400 (by kernel_rfl) ?_ | skip); (conv => whnf); repeat ((first | refine aF ?_ | refine aT ?_); (first | refine run Γ hm 400 ?_ | refine runD Γ hm 400 (by kernel_rfl) ?_); conv => whnf))
      refine ⟨rfl, by omega, by omega, ?_⟩
      ((first | refine run Γ hm 400 ?_ | refine runD Γ hm 400 (by kernel_rfl) ?_ | skip); (conv => whnf); repeat ((first | refine aF ?_ | refine aT ?_); (first | refine run Γ hm 400 ?_ | refine runD Γ hm 400 (by kernel_rfl) ?_); conv => whnf))
      refine stepOp (good_call [(0, 19)] rfl F115 (nextS x (by omega) 1 8 (by decide) (by omega)) rfl ⟨rfl, trivial⟩ rfl ⟨.inl rfl, trivial⟩) rfl rfl ?_
      ((first | refine run Γ hm 400 ?_ | refine runD Γ hm 400 (by kernel_rfl) ?_ | skip); (conv => whnf); repeat ((first | refine aF ?_ | refine aT ?_); (first | refine run Γ hm 400 ?_ | refine runD Γ hm 400 (by kernel_rfl) ?_); conv => whnf))
      refine stepOp (good_call [(0, 19)] rfl F115 (nextS x (by omega) 9 4 (by decide) (by omega)) rfl ⟨rfl, trivial⟩ rfl ⟨.inl rfl, trivial⟩) rfl rfl ?_
      ((first | refine run Γ hm 400 ?_ | refine runD Γ hm 400 (by kernel_rfl) ?_ | skip); (conv => whnf); repeat ((first | refine aF ?_ | refine aT ?_); (first | refine run Γ hm 400 ?_ | refine runD Γ hm 400 (by kernel_rfl) ?_); conv => whnf))
      refine stepOp (good_call [(0, 19)] rfl F115 (nextS x (by omega) 13 8 (by decide) (by omega)) rfl ⟨rfl, trivial⟩ rfl ⟨.inl rfl, trivial⟩) rfl rfl ?_
      ((first | refine run Γ hm 400 ?_ | refine runD Γ hm 400 (by kernel_rfl) ?_ | skip); (conv => whnf); repeat ((first | refine aF ?_ | refine aT ?_); (first | refine run Γ hm 400 ?_ | refine runD Γ hm 400 (by kernel_rfl) ?_); conv => whnf))
      refine stepOp (good_call [(0, 19)] rfl F116 (pairS x (by omega) 21 (by omega)) rfl ⟨rfl, trivial⟩ rfl ⟨.inl rfl, trivial⟩) rfl rfl ?_
      ((first | refine run Γ hm 400 ?_ | refine runD Γ hm 400 (by kernel_rfl) ?_ | skip); (conv => whnf); repeat ((first | refine aF ?_ | refine aT ?_); (first | refine run Γ hm 400 ?_ | refine runD Γ hm 400 (by kernel_rfl) ?_); conv => whnf))
      refine stepOp (good_call [(0, 19)] rfl F116 (pairS x (by omega) 23 (by omega)) rfl ⟨rfl, trivial⟩ rfl ⟨.inl rfl, trivial⟩) rfl rfl ?_
      ((first | refine run Γ hm 400 ?_ | refine runD Γ hm 400 (by kernel_rfl) ?_ | skip); (conv => whnf); repeat ((first | refine aF ?_ | refine aT ?_); (first | refine run Γ hm 400 ?_ | refine runD Γ hm 400 (by kernel_rfl) ?_); conv => whnf))
      refine stepOp (good_call [(0, 19)] rfl F116 (pairS x (by omega) 25 (by omega)) rfl ⟨rfl, trivial⟩ rfl ⟨.inl rfl, trivial⟩) rfl rfl ?_
      ((first | refine run Γ hm 400 ?_ | refine runD Γ hm 400 (by kernel_rfl) ?_ | skip); (conv => whnf); repeat ((first | refine aF ?_ | refine aT ?_); (first | refine run Γ hm 400 ?_ | refine runD Γ hm 400 (by kernel_rfl) ?_); conv => whnf))
      refine stepOp (good_call [(0, 19)] rfl F116 (pairS x (by omega) 27 (by omega)) rfl ⟨rfl, trivial⟩ rfl ⟨.inl rfl, trivial⟩) rfl rfl ?_
      ((first | refine run Γ hm 400 ?_ | refine runD Γ hm 400 (by kernel_rfl) ?_ | skip); (conv => whnf); repeat ((first | refine aF ?_ | refine aT ?_); (first | refine run Γ hm 400 ?_ | refine runD Γ hm 400 (by kernel_rfl) ?_); conv => whnf))
      refine stepOp (good_call [(0, 19)] rfl F116 (pairS x (by omega) 29 (by omega)) rfl ⟨rfl, trivial⟩ rfl ⟨.inl rfl, trivial⟩) rfl rfl ?_
      ((first | refine run Γ hm 400 ?_ | refine runD Γ hm 400 (by kernel_rfl) ?_ | skip); (conv => whnf); repeat ((first | refine aF ?_ | refine aT ?_); (first | refine run Γ hm 400 ?_ | refine runD Γ hm 400 (by kernel_rfl) ?_); conv => whnf))
      refine done rfl (.cons (.cell rfl rfl rfl rfl) (.cons .tmp .nil)) [] [] (fun _ h => h) ?_ rfl ⟨trivial, trivial, rfl, rfl⟩
      exact congr (congrArg (fun (p1 : Bool) (p2 : Int) => SV.tup [.agg [boolSV false, .val (.bool p1), u64SV (num ((x.drop 1).take 8)), u64SV (num ((x.drop 13).take 8)), .val (.int .i64 p2), intSV (num ((x.drop 21).take 2)), intSV (num ((x.drop 23).take 2)), intSV (num ((x.drop 25).take 2)), intSV (num ((x.drop 27).take 2)), intSV (num ((x.drop 29).take 2))], intSV 0]) e1) e2
  · ((first | refine run Γ hm 400 ?_ | refine runD Γ hm 400 (by kernel_rfl) ?_ | skip); (conv => whnf); repeat ((first | refine aF ?_ | refine aT ?_); (first | refine run Γ hm 400 ?_ | refine runD Γ hm 400 (by kernel_rfl) ?_); conv => whnf))
    refine ⟨rfl, by omega, by omega, ?_⟩
    ((first | refine run Γ hm 400 ?_ | refine runD Γ hm 400 (by kernel_rfl) ?_ | skip); (conv => whnf); repeat ((first | refine aF ?_ | refine aT ?_); (first | refine run Γ hm 400 ?_ | refine runD Γ hm 400 (by kernel_rfl) ?_); conv => whnf))
    refine stepOp (good_call [(0, 19)] rfl F115 (nextS x (by omega) 1 8 (by decide) (by omega)) rfl ⟨rfl, trivial⟩ rfl ⟨.inl rfl, trivial⟩) rfl rfl ?_
    ((first | refine run Γ hm 400 ?_ | refine runD Γ hm 400 (by kernel_rfl) ?_ | skip); (conv => whnf); repeat ((first | refine aF ?_ | refine aT ?_); (first | refine run Γ hm 400 ?_ | refine runD Γ hm 400 (by kernel_rfl) ?_); conv => whnf))
    refine stepOp (good_call [(0, 19)] rfl F115 (nextS x (by omega) 9 4 (by decide) (by omega)) rfl ⟨rfl, trivial⟩ rfl ⟨.inl rfl, trivial⟩) rfl rfl ?_
    ((first | refine run Γ hm 400 ?_ | refine runD Γ hm 400 (by kernel_rfl) ?_ | skip); (conv => whnf); repeat ((first | refine aF ?_ | refine aT ?_); (first | refine run Γ hm 400 ?_ | refine runD Γ hm 400 (by kernel_rfl) ?_); conv => whnf))
    refine stepOp (good_call [(0, 19)] rfl F115 (nextS x (by omega) 13 8 (by decide) (by omega)) rfl ⟨rfl, trivial⟩ rfl ⟨.inl rfl, trivial⟩) rfl rfl ?_
    ((first | refine run Γ hm 400 ?_ | refine runD Γ hm 400 (by kernel_rfl) ?_ | skip); (conv => whnf); repeat ((first | refine aF ?_ | refine aT ?_); (first | refine run Γ hm 400 ?_ | refine runD Γ hm 400 (by kernel_rfl) ?_); conv => whnf))
    refine stepOp (good_call [(0, 19)] rfl F116 (pairS x (by omega) 21 (by omega)) rfl ⟨rfl, trivial⟩ rfl ⟨.inl rfl, trivial⟩) rfl rfl ?_
    ((first | refine run Γ hm 400 ?_ | refine runD Γ hm 400 (by kernel_rfl) ?_ | skip); (conv => whnf); repeat ((first | refine aF ?_ | refine aT ?_); (first | refine run Γ hm 400 ?_ | refine runD Γ hm 400 (by kernel_rfl) ?_); conv => whnf))
    refine stepOp (good_call [(0, 19)] rfl F116 (pairS x (by omega) 23 (by omega)) rfl ⟨rfl, trivial⟩ rfl ⟨.inl rfl, trivial⟩) rfl rfl ?_
    ((first | refine run Γ hm 400 ?_ | refine runD Γ hm 400 (by kernel_rfl) ?_ | skip); (conv => whnf); repeat ((first | refine aF ?_ | refine aT ?_); (first | refine run Γ hm 400 ?_ | refine runD Γ hm 400 (by kernel_rfl) ?_); conv => whnf))
    refine stepOp (good_call [(0, 19)] rfl F116 (pairS x (by omega) 25 (by omega)) rfl ⟨rfl, trivial⟩ rfl ⟨.inl rfl, trivial⟩) rfl rfl ?_
    ((first | refine run Γ hm 400 ?_ | refine runD Γ hm 400 (by kernel_rfl) ?_ | skip); (conv => whnf); repeat ((first | refine aF ?_ | refine aT ?_); (first | refine run Γ hm 400 ?_ | refine runD Γ hm 400 (by kernel_rfl) ?_); conv => whnf))
    refine stepOp (good_call [(0, 19)] rfl F116 (pairS x (by omega) 27 (by omega)) rfl ⟨rfl, trivial⟩ rfl ⟨.inl rfl, trivial⟩) rfl rfl ?_
    ((first | refine run Γ hm 400 ?_ | refine runD Γ hm 400 (by kernel_rfl) ?_ | skip); (conv => whnf); repeat ((first | refine aF ?_ | refine aT ?_); (first | refine run Γ hm 400 ?_ | refine runD Γ hm 400 (by kernel_rfl) ?_); conv => whnf))
    refine stepOp (good_call [(0, 19)] rfl F116 (pairS x (by omega) 29 (by omega)) rfl ⟨rfl, trivial⟩ rfl ⟨.inl rfl, trivial⟩) rfl rfl ?_
    ((first | refine run Γ hm 400 ?_ | refine runD Γ hm 400 (by kernel_rfl) ?_ | skip); (conv => whnf); repeat ((first | refine aF ?_ | refine aT ?_); (first | refine run Γ hm 400 ?_ | refine runD Γ hm 400 (by kernel_rfl) ?_); conv => whnf))
    refine done rfl (.cons (.cell rfl rfl rfl rfl) (.cons .tmp .nil)) [] [] (fun _ h => h) ?_ rfl ⟨trivial, trivial, rfl, rfl⟩
    exact congr (congrArg (fun (p1 : Bool) (p2 : Int) => SV.tup [.agg [boolSV false, .val (.bool p1), u64SV (num ((x.drop 1).take 8)), u64SV (num ((x.drop 13).take 8)), .val (.int .i64 p2), intSV (num ((x.drop 21).take 2)), intSV (num ((x.drop 23).take 2)), intSV (num ((x.drop 25).take 2)), intSV (num ((x.drop 27).take 2)), intSV (num ((x.drop 29).take 2))], intSV 0]) e1) e2

theorem parsedX_len (m : List UInt8) : (parsedX m).ch = false := rfl

end Go.Sy.YthbgklhegccckaaGreat
