/-
  The document's way, written; rows the same.
-/
import Derived.Test.YtlfopmhekhifoaaGreatDoorC31
import Derived.Test.YtlfopmhekhifoaaGreatDoorC23
import Derived.Test.YtlfopmhekhifoaaGreatDoorC24

namespace Go.Sy.YtlfopmhekhifoaaGreatDoor
open Go.Proofs
-- SIMP: placeB

attribute [local irreducible] Go.Sy.G Go.Sy.DR
set_option maxRecDepth 20000
set_option maxHeartbeats 8000000

theorem textsS (a b : List ByteArray) (ha : Short a) : Sy.Spec Tryz.prog 28 [.sl 1 strSV a, .sl 1 strSV b] [] (boolSV (decide (a = b))) [] := contract Γ hm 100 F28 Tryz.ntmps28 rfl fun F hF => by
  unfold Short at ha
  ((conv=>whnf);repeat((first|refine aF ?_|refine aT ?_);(first|refine rG Γ hm ?_|refine rD Γ hm (by kernel_rfl) ?_);conv=>whnf))
  refine ⟨fun h => ?_, fun h => ?_⟩
  · have hne : a ≠ b := fun e => by subst e; simp at h
    rw [decide_eq_false hne]
    ((first|refine rG Γ hm ?_|refine rD Γ hm (by kernel_rfl) ?_);(conv=>whnf);repeat((first|refine aF ?_|refine aT ?_);(first|refine rG Γ hm ?_|refine rD Γ hm (by kernel_rfl) ?_);conv=>whnf))
    exact done0 rfl (.cons .tmp .nil) rfl rfl
  have hlen : a.length = b.length := by have : (a.length : Int) = b.length := by simpa using h
                                        omega
  ((first|refine rG Γ hm ?_|refine rD Γ hm (by kernel_rfl) ?_);(conv=>whnf);repeat((first|refine aF ?_|refine aT ?_);(first|refine rG Γ hm ?_|refine rD Γ hm (by kernel_rfl) ?_);conv=>whnf))
  refine G_countP a.length (fun j => ∀ i (h : i < a.length), i < j → a[i] = b[i]) (fun j => [(0, .sl 1 strSV a), (1, .sl 1 strSV b), (5, intSV j)]) (fun _ => []) [] (fun i h hj => absurd hj (by omega)) ⟨⟨rfl, rfl, rfl, rfl, rfl, rfl, trivial⟩, trivial, rfl, rfl⟩ ?_
  intro j hj hI
  ((first|refine rG Γ hm ?_|refine rD Γ hm (by kernel_rfl) ?_);(conv=>whnf);repeat((first|refine aF ?_|refine aT ?_);(first|refine rG Γ hm ?_|refine rD Γ hm (by kernel_rfl) ?_);conv=>whnf))
  refine ⟨fun h => ?_, fun h => ?_⟩
  · have hlt : j < a.length := by simpa using h
    have hj0 : ((j : Nat) : Int).toNat < a.length := by simpa using hlt
    have hj1 : ((j : Nat) : Int).toNat < b.length := by omega
    ((first|refine rG Γ hm ?_|refine rD Γ hm (by kernel_rfl) ?_);(conv=>whnf);repeat((first|refine aF ?_|refine aT ?_);(first|refine rG Γ hm ?_|refine rD Γ hm (by kernel_rfl) ?_);conv=>whnf))
    refine ⟨rfl, by omega, hj0, ?_⟩
    ((conv=>whnf);repeat((first|refine aF ?_|refine aT ?_);(first|refine rG Γ hm ?_|refine rD Γ hm (by kernel_rfl) ?_);conv=>whnf))
    refine ⟨rfl, by omega, hj1, ?_⟩
    ((conv=>whnf);repeat((first|refine aF ?_|refine aT ?_);(first|refine rG Γ hm ?_|refine rD Γ hm (by kernel_rfl) ?_);conv=>whnf))
    refine ⟨(by kernel_rfl), ?_⟩
    ((conv=>whnf);repeat((first|refine aF ?_|refine aT ?_);(first|refine rG Γ hm ?_|refine rD Γ hm (by kernel_rfl) ?_);conv=>whnf))
    refine ⟨fun h => ?_, fun h => ?_⟩
    · have h0 : (a[((j : Nat) : Int).toNat]'hj0 == b[((j : Nat) : Int).toNat]'hj1) = false := by simpa using h
      have h1 : a[((j : Nat) : Int).toNat]'hj0 ≠ b[((j : Nat) : Int).toNat]'hj1 := fun e => by rw [(ba_beq _ _).2 e] at h0; cases h0
      have hne : a ≠ b := fun e => by subst e; exact h1 rfl
      rw [decide_eq_false hne]
      ((first|refine rG Γ hm ?_|refine rD Γ hm (by kernel_rfl) ?_);(conv=>whnf);repeat((first|refine aF ?_|refine aT ?_);(first|refine rG Γ hm ?_|refine rD Γ hm (by kernel_rfl) ?_);conv=>whnf))
      exact done0 rfl (.cons .tmp .nil) rfl rfl
    · have h0 : (a[((j : Nat) : Int).toNat]'hj0 == b[((j : Nat) : Int).toNat]'hj1) = true := by simpa using h
      have h1 : a[((j : Nat) : Int).toNat]'hj0 = b[((j : Nat) : Int).toNat]'hj1 := (ba_beq _ _).1 h0
      ((first|refine rG Γ hm ?_|refine rD Γ hm (by kernel_rfl) ?_);(conv=>whnf);repeat((first|refine aF ?_|refine aT ?_);(first|refine rG Γ hm ?_|refine rD Γ hm (by kernel_rfl) ?_);conv=>whnf))
      refine ⟨by unfold I64; omega, ?_⟩
      ((conv=>whnf);repeat((first|refine aF ?_|refine aT ?_);(first|refine rG Γ hm ?_|refine rD Γ hm (by kernel_rfl) ?_);conv=>whnf))
      refine G_nextP [] hI (by omega) (fun i h hi => ?_) ⟨⟨rfl, rfl, rfl, rfl, rfl, rfl, trivial⟩, trivial, rfl, rfl⟩
      rcases Nat.lt_or_ge i j with h2 | h2
      · exact hI i h h2
      · have : i = j := by omega
        subst this; exact h1
  · have hje : j = a.length := by have := of_decide_eq_false h; omega
    subst hje
    have heq : a = b := List.ext_getElem hlen (fun i h1 h2 => hI i h1 h1)
    rw [decide_eq_true heq]
    ((first|refine rG Γ hm ?_|refine rD Γ hm (by kernel_rfl) ?_);(conv=>whnf);repeat((first|refine aF ?_|refine aT ?_);(first|refine rG Γ hm ?_|refine rD Γ hm (by kernel_rfl) ?_);conv=>whnf))
    exact done0 rfl (.cons .tmp .nil) rfl rfl

theorem same44S (a b : List ByteArray) (ha : Short a) : Sy.Spec Tryz.prog 11 [.sl 1 strSV a, .sl 1 strSV b] [] (boolSV (decide (a = b))) [] := contract Γ hm 100 F11 Tryz.ntmps11 rfl fun F hF => by
  have q := textsS a b ha
  ((conv=>whnf);repeat((first|refine aF ?_|refine aT ?_);(first|refine rG Γ hm ?_|refine rD Γ hm (by kernel_rfl) ?_);conv=>whnf))
  refine call0 q F28 rfl rfl rfl rfl rfl ?_
  ((first|refine rG Γ hm ?_|refine rD Γ hm (by kernel_rfl) ?_);(conv=>whnf);repeat((first|refine aF ?_|refine aT ?_);(first|refine rG Γ hm ?_|refine rD Γ hm (by kernel_rfl) ?_);conv=>whnf))
  exact done0 rfl (.cons .tmp .nil) rfl rfl

theorem join2 (a b : ByteArray) : joinT [a, b] ⟨#[32]⟩ = a ++ ⟨#[32]⟩ ++ b := by
  apply ext_list
  simp [joinT, Lib.join]

theorem refExplainS (n : Net) (hn : n.Fin) (hu : Addrs n) (hnm : Named n) (f t : Int) :
    Sy.Spec Tryz.prog 8 [netSV n, intSV f, intSV t] [] (.tup [.sl 1 strSV (explainT n f t).1, intSV (explainT n f t).2]) [] := contract Γ hm 100 F8 Tryz.ntmps8 rfl fun F hF => by
  have hlk := explainT.eq_1 n f t
  generalize explainT n f t = res at *
  have hr := ref15RightS n hn
  have hfa := wayT_facts (n := n) hu (from_ := f) (to := t)
  ((conv=>whnf);repeat((first|refine aF ?_|refine aT ?_);(first|refine rG Γ hm ?_|refine rD Γ hm (by kernel_rfl) ?_);conv=>whnf))
  refine G_box 3 8 (netSV n) rfl rfl rfl ?_
  ((first|refine rG Γ hm ?_|refine rD Γ hm (by kernel_rfl) ?_);(conv=>whnf);repeat((first|refine aF ?_|refine aT ?_);(first|refine rG Γ hm ?_|refine rD Γ hm (by kernel_rfl) ?_);conv=>whnf))
  refine call0 hr F9 rfl rfl rfl rfl rfl ?_
  cases hb : netRightB n
  · rw [if_pos hb] at hlk
    subst hlk
    ((first|refine rG Γ hm ?_|refine rD Γ hm (by kernel_rfl) ?_);(conv=>whnf);repeat((first|refine aF ?_|refine aT ?_);(first|refine rG Γ hm ?_|refine rD Γ hm (by kernel_rfl) ?_);conv=>whnf))
    refine G_nilsl 6 1 strSV rfl ?_
    ((first|refine rG Γ hm ?_|refine rD Γ hm (by kernel_rfl) ?_);(conv=>whnf);repeat((first|refine aF ?_|refine aT ?_);(first|refine rG Γ hm ?_|refine rD Γ hm (by kernel_rfl) ?_);conv=>whnf))
    exact done0 rfl (.cons .tmp (.cons .tmp .nil)) rfl rfl
  rw [if_neg (by simp [hb])] at hlk
  have hD := (e_few hb).2.2.2.1
  have q0 := refWayS n hn hu hb f t
  generalize wayT n f t = wy at *
  obtain ⟨l, ok⟩ := wy
  dsimp only at hlk q0 hfa
  ((first|refine rG Γ hm ?_|refine rD Γ hm (by kernel_rfl) ?_);(conv=>whnf);repeat((first|refine aF ?_|refine aT ?_);(first|refine rG Γ hm ?_|refine rD Γ hm (by kernel_rfl) ?_);conv=>whnf))
  refine call0 q0 F20 rfl rfl rfl rfl rfl ?_
  cases ok
  · rw [if_pos rfl] at hlk
    subst hlk
    ((first|refine rG Γ hm ?_|refine rD Γ hm (by kernel_rfl) ?_);(conv=>whnf);repeat((first|refine aF ?_|refine aT ?_);(first|refine rG Γ hm ?_|refine rD Γ hm (by kernel_rfl) ?_);conv=>whnf))
    refine G_nilsl 6 1 strSV rfl ?_
    ((first|refine rG Γ hm ?_|refine rD Γ hm (by kernel_rfl) ?_);(conv=>whnf);repeat((first|refine aF ?_|refine aT ?_);(first|refine rG Γ hm ?_|refine rD Γ hm (by kernel_rfl) ?_);conv=>whnf))
    exact done0 rfl (.cons .tmp (.cons .tmp .nil)) rfl rfl
  rw [if_neg (by simp)] at hlk
  obtain ⟨h1, h2, h3, _⟩ := hfa rfl
  have hl1 := List.length_pos_iff.2 h3
  have hl0 : (0 : Int).toNat < l.length := by simpa using hl1
  rw [nth_eq hl0] at hlk
  obtain ⟨x, hx⟩ : ∃ x, l[(0 : Int).toNat]'hl0 = x := ⟨_, rfl⟩
  rw [hx] at hlk
  have q1 := refPortTextS n hnm hb f
  have q2 := refDomTextS n hnm hb x.domain
  have q3 := refPortTextS n hnm hb t
  have s1 := portT_size hnm f
  have s2 := domT_size hnm x.domain
  have s3 := portT_size hnm t
  have qr := fun h hh => refRowS n hn hnm hb h hh
  rw [fromT, toT, join3, join2] at hlk
  generalize portT n f = pf at *
  generalize domT n x.domain = dx at *
  generalize portT n t = pt at *
  have z1 : (tFrom ++ ⟨#[32]⟩ : ByteArray).size = 5 := rfl
  have z2 : (tFrom ++ ⟨#[32]⟩ ++ pf : ByteArray).size = 5 + pf.size := by rw [size_app, z1]
  have z3 : (tFrom ++ ⟨#[32]⟩ ++ pf ++ ⟨#[32]⟩ : ByteArray).size = 5 + pf.size + 1 := by rw [size_app, z2]; rfl
  ((first|refine rG Γ hm ?_|refine rD Γ hm (by kernel_rfl) ?_);(conv=>whnf);repeat((first|refine aF ?_|refine aT ?_);(first|refine rG Γ hm ?_|refine rD Γ hm (by kernel_rfl) ?_);conv=>whnf))
  refine callD0 q1 F10 rfl rfl rfl (by kernel_rfl) rfl ?_
  ((first|refine rG Γ hm ?_|refine rD Γ hm (by kernel_rfl) ?_);(conv=>whnf);repeat((first|refine aF ?_|refine aT ?_);(first|refine rG Γ hm ?_|refine rD Γ hm (by kernel_rfl) ?_);conv=>whnf))
  refine ⟨by show 5 + _ ≤ _; omega, ?_⟩
  ((conv=>whnf);repeat((first|refine aF ?_|refine aT ?_);(first|refine rG Γ hm ?_|refine rD Γ hm (by kernel_rfl) ?_);conv=>whnf))
  refine ⟨by show (tFrom ++ ⟨#[32]⟩ ++ pf : ByteArray).size + 1 ≤ _; omega, ?_⟩
  ((conv=>whnf);repeat((first|refine aF ?_|refine aT ?_);(first|refine rG Γ hm ?_|refine rD Γ hm (by kernel_rfl) ?_);conv=>whnf))
  refine ⟨rfl, by decide, hl0, ?_⟩
  rw [hx]
  ((conv=>whnf);repeat((first|refine aF ?_|refine aT ?_);(first|refine rG Γ hm ?_|refine rD Γ hm (by kernel_rfl) ?_);conv=>whnf))
  refine callD0 q2 F21 rfl rfl rfl (by kernel_rfl) rfl ?_
  ((first|refine rG Γ hm ?_|refine rD Γ hm (by kernel_rfl) ?_);(conv=>whnf);repeat((first|refine aF ?_|refine aT ?_);(first|refine rG Γ hm ?_|refine rD Γ hm (by kernel_rfl) ?_);conv=>whnf))
  refine ⟨by show (tFrom ++ ⟨#[32]⟩ ++ pf ++ ⟨#[32]⟩ : ByteArray).size + _ ≤ _; omega, ?_⟩
  ((conv=>whnf);repeat((first|refine aF ?_|refine aT ?_);(first|refine rG Γ hm ?_|refine rD Γ hm (by kernel_rfl) ?_);conv=>whnf))
  refine ⟨(by kernel_rfl), ?_⟩
  ((conv=>whnf);repeat((first|refine aF ?_|refine aT ?_);(first|refine rG Γ hm ?_|refine rD Γ hm (by kernel_rfl) ?_);conv=>whnf))
  obtain ⟨r1, hr1⟩ : ∃ r1, tFrom ++ ⟨#[32]⟩ ++ pf ++ ⟨#[32]⟩ ++ dx = r1 := ⟨_, rfl⟩
  rw [hr1] at hlk
  refine G_litR 36 strSV [r1] rfl (by rw [← hr1]; rfl) ?_
  have hdl : (l.drop 1).length = l.length - 1 := List.length_drop
  refine G_count (l.length - 1) (fun j => [(2, intSV t), (3, .ref 8 (netSV n) 0), (8, .sl 4 hopSV l), (10, .osl 1000), (11, intSV ((j : Int) + 1))]) (fun j => [(1000, .row 1 strSV (r1 :: ((l.drop 1).take j).map (rowT n)))]) [(1000, 36)]
    ⟨⟨rfl, rfl, rfl, rfl, rfl, rfl, rfl, rfl, rfl, rfl, trivial⟩, ⟨.inl rfl, rfl, trivial⟩, rfl, rfl⟩ ?_
  intro j hj
  ((first|refine rG Γ hm ?_|refine rD Γ hm (by kernel_rfl) ?_);(conv=>whnf);repeat((first|refine aF ?_|refine aT ?_);(first|refine rG Γ hm ?_|refine rD Γ hm (by kernel_rfl) ?_);conv=>whnf))
  refine ⟨fun h => ?_, fun h => ?_⟩
  · have hlt : j + 1 < l.length := by have := of_decide_eq_true h; omega
    have hj0 : (((j : Nat) : Int) + 1).toNat < l.length := by omega
    have hjd : j < (l.drop 1).length := by omega
    obtain ⟨hp, hhp⟩ : ∃ hp, l[(((j : Nat) : Int) + 1).toNat]'hj0 = hp := ⟨_, rfl⟩
    have hpd : (l.drop 1)[j]'hjd = hp := by rw [← hhp, List.getElem_drop]; congr 1; omega
    have q := qr hp (by rw [← hhp]; exact h1 _ (List.getElem_mem _))
    have hs : r1 :: ((l.drop 1).take j).map (rowT n) ++ [rowT n hp] = r1 :: ((l.drop 1).take (j + 1)).map (rowT n) := by
      rw [List.take_add_one, List.getElem?_eq_getElem hjd, List.map_append, List.cons_append, hpd]
      rfl
    have htl : ((l.drop 1).take j).length ≤ 100 := by rw [List.length_take]; omega
    generalize (l.drop 1).take j = u at *
    generalize rowT n hp = rw_ at *
    ((first|refine rG Γ hm ?_|refine rD Γ hm (by kernel_rfl) ?_);(conv=>whnf);repeat((first|refine aF ?_|refine aT ?_);(first|refine rG Γ hm ?_|refine rD Γ hm (by kernel_rfl) ?_);conv=>whnf))
    refine ⟨rfl, by omega, hj0, ?_⟩
    rw [hhp]
    ((conv=>whnf);repeat((first|refine aF ?_|refine aT ?_);(first|refine rG Γ hm ?_|refine rD Γ hm (by kernel_rfl) ?_);conv=>whnf))
    refine callD0 q F22 rfl rfl rfl (by kernel_rfl) rfl ?_
    ((first|refine rG Γ hm ?_|refine rD Γ hm (by kernel_rfl) ?_);(conv=>whnf);repeat((first|refine aF ?_|refine aT ?_);(first|refine rG Γ hm ?_|refine rD Γ hm (by kernel_rfl) ?_);conv=>whnf))
    refine stepD (good_appendT Γ.toTy 51 rfl rfl rfl rfl rfl (.row rfl) (.lit (e := strSV) (l := [rw_]) rfl rfl) (by simp) (by simp; omega) (by simp; omega)) (by kernel_rfl) rfl ?_
    ((first|refine rG Γ hm ?_|refine rD Γ hm (by kernel_rfl) ?_);(conv=>whnf);repeat((first|refine aF ?_|refine aT ?_);(first|refine rG Γ hm ?_|refine rD Γ hm (by kernel_rfl) ?_);conv=>whnf))
    refine ⟨(by kernel_rfl), ?_⟩
    ((conv=>whnf);repeat((first|refine aF ?_|refine aT ?_);(first|refine rG Γ hm ?_|refine rD Γ hm (by kernel_rfl) ?_);conv=>whnf))
    refine ⟨by unfold I64; omega, ?_⟩
    ((conv=>whnf);repeat((first|refine aF ?_|refine aT ?_);(first|refine rG Γ hm ?_|refine rD Γ hm (by kernel_rfl) ?_);conv=>whnf))
    exact G_next [(1000, 51)] (by omega) ⟨⟨rfl, rfl, rfl, rfl, rfl, rfl, rfl, rfl, rfl, rfl, trivial⟩, ⟨.inl (congrArg (Ob.row 1 strSV) hs.symm), rfl, trivial⟩, rfl, rfl⟩
  · have hje : j = l.length - 1 := by have := of_decide_eq_false h; omega
    subst hje
    rw [show (l.drop 1).take (l.length - 1) = l.drop 1 by rw [← hdl]; exact List.take_length]
    generalize l.drop 1 = m at *
    subst hlk
    have z4 : (tTo ++ ⟨#[32]⟩ : ByteArray).size = 3 := rfl
    ((first|refine rG Γ hm ?_|refine rD Γ hm (by kernel_rfl) ?_);(conv=>whnf);repeat((first|refine aF ?_|refine aT ?_);(first|refine rG Γ hm ?_|refine rD Γ hm (by kernel_rfl) ?_);conv=>whnf))
    refine call0 q3 F10 rfl rfl rfl rfl rfl ?_
    ((first|refine rG Γ hm ?_|refine rD Γ hm (by kernel_rfl) ?_);(conv=>whnf);repeat((first|refine aF ?_|refine aT ?_);(first|refine rG Γ hm ?_|refine rD Γ hm (by kernel_rfl) ?_);conv=>whnf))
    refine ⟨by show 3 + _ ≤ _; omega, ?_⟩
    ((conv=>whnf);repeat((first|refine aF ?_|refine aT ?_);(first|refine rG Γ hm ?_|refine rD Γ hm (by kernel_rfl) ?_);conv=>whnf))
    refine stepOp (good_appendT Γ.toTy 58 rfl rfl rfl rfl rfl (.row rfl) (.lit (e := strSV) (l := [tTo ++ ⟨#[32]⟩ ++ pt]) rfl rfl) (by simp) (by simp; omega) (by simp; omega)) rfl rfl ?_
    ((first|refine rG Γ hm ?_|refine rD Γ hm (by kernel_rfl) ?_);(conv=>whnf);repeat((first|refine aF ?_|refine aT ?_);(first|refine rG Γ hm ?_|refine rD Γ hm (by kernel_rfl) ?_);conv=>whnf))
    refine G_data 58 rfl ?_
    ((first|refine rG Γ hm ?_|refine rD Γ hm (by kernel_rfl) ?_);(conv=>whnf);repeat((first|refine aF ?_|refine aT ?_);(first|refine rG Γ hm ?_|refine rD Γ hm (by kernel_rfl) ?_);conv=>whnf))
    exact done0 rfl (.cons .tmp (.cons .tmp .nil)) rfl rfl

end Go.Sy.YtlfopmhekhifoaaGreatDoor
