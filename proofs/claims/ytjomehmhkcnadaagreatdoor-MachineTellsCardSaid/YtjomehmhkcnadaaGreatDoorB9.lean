/-
  The document's step of a row. Machine: scripts parsed. Contracts: vectors, 5: great nets, the least vector, the example. Machine: the chapter's example; both laws. Package variables that are laid: arrays of numbers, of texts. Machine: the package's variables, laid. The symbolic layer, 23: arguments that are data are opened, type by type.
-/
import Derived.Test.YtjomehmhkcnadaaGreatDoorB8
import Derived.Test.YtjomehmhkcnadaaGreatDoorB5
import Derived.Test.YtjomehmhkcnadaaGreatDoorB3
import Derived.Test.YtjomehmhkcnadaaGreatDoorB6
import Derived.Test.YtjomehmhkcnadaaGreatDoorB7
import Derived.ProofKit
import Derived.OpenShut
import Derived.LaidMore
import Derived.Lay
import Derived.SevenTiedAt
import Derived.Stop.Joined

namespace Go.Sy.YtjomehmhkcnadaaGreatDoor
open Go.Proofs

attribute [local irreducible] Go.Sy.G Go.Sy.DR
set_option maxRecDepth 100000
set_option maxHeartbeats 4000000

theorem ba_comm (a b : ByteArray) : (a == b) = (b == a) := by
  rw [Bool.eq_iff_iff, beq_ba, beq_ba]
  exact eq_comm

theorem upL_length (w : ByteArray) : (upL w).length ≤ w.size := by
  unfold upL
  split
  · exact Nat.zero_le _
  · rw [List.length_map]; exact Nat.le_refl _

theorem ref39StepS (n : Net) (hn : n.Fin) (hb : netRightB n = true) (hnm : Named n) (s : ByteArray) (hs : s.size < 100000) :
    Sy.Spec Tryz.prog 25 [netSV n, strSV s] [] (.tup [stepSV (stepT n s).1, intSV (stepT n s).2]) [] := contract Γ hm 100 F25 Tryz.ntmps25 rfl fun F hF => by
  have hres := stepT.eq_1 n s
  generalize stepT n s = res at *
  have q0 := ref39WordsS s (by omega)
  have hWl := splitT_length 32 s
  have hWs := splitT_sizes 32 s
  have hcl := cntT_le 32 s
  have hsn := hn.ports
  unfold Short at hsn
  have hfw := e_few hb
  generalize splitT 32 s = W at *
  have h00 : (0 : Int).toNat < W.length := by show 0 < _; omega
  have hw0 : nth W 0 = W[(0 : Int).toNat] := nth_eq h00
  obtain ⟨w0, hw0'⟩ : ∃ w0, W[(0 : Int).toNat]'h00 = w0 := ⟨_, rfl⟩
  rw [hw0, hw0'] at hres
  have hkc := kindI_cases w0
  obtain ⟨kd, hkd⟩ : ∃ kd, kindI w0 = kd := ⟨_, rfl⟩
  rw [hkd] at hres hkc
  ((conv=>whnf);repeat((first|refine aF ?_|refine aT ?_);(first|refine rG Γ hm ?_|refine rD Γ hm (by kernel_rfl) ?_);conv=>whnf))
  refine call0 q0 F72 rfl rfl rfl rfl rfl ?_
  refine G_box 2 8 (netSV n) rfl rfl rfl ?_
  ((first|refine rG Γ hm ?_|refine rD Γ hm (by kernel_rfl) ?_);(conv=>whnf);repeat((first|refine aF ?_|refine aT ?_);(first|refine rG Γ hm ?_|refine rD Γ hm (by kernel_rfl) ?_);conv=>whnf))
  refine ⟨rfl, by decide, h00, ?_⟩
  rw [hw0']
  rcases hkc with ⟨rfl, c1, c2, c3, c4, c5⟩ | ⟨rfl, rfl⟩ | ⟨rfl, rfl⟩ | ⟨rfl, rfl⟩ | ⟨rfl, rfl⟩ | ⟨rfl, rfl⟩
  · rw [if_pos rfl] at hres
    rw [ba_comm] at c1 c2 c3 c4 c5
    subst hres
    ((conv=>whnf);repeat((first|refine aF ?_|refine aT ?_);(first|refine rG Γ hm ?_|refine rD Γ hm (by kernel_rfl) ?_);conv=>whnf))
    refine ⟨fun h => absurd h (by rw [c4]; simp), fun _ => ?_⟩
    ((first|refine rG Γ hm ?_|refine rD Γ hm (by kernel_rfl) ?_);(conv=>whnf);repeat((first|refine aF ?_|refine aT ?_);(first|refine rG Γ hm ?_|refine rD Γ hm (by kernel_rfl) ?_);conv=>whnf))
    refine ⟨fun h => absurd h (by rw [c5]; simp), fun _ => ?_⟩
    ((first|refine rG Γ hm ?_|refine rD Γ hm (by kernel_rfl) ?_);(conv=>whnf);repeat((first|refine aF ?_|refine aT ?_);(first|refine rG Γ hm ?_|refine rD Γ hm (by kernel_rfl) ?_);conv=>whnf))
    refine ⟨fun h => absurd h (by rw [c1]; simp), fun _ => ?_⟩
    ((first|refine rG Γ hm ?_|refine rD Γ hm (by kernel_rfl) ?_);(conv=>whnf);repeat((first|refine aF ?_|refine aT ?_);(first|refine rG Γ hm ?_|refine rD Γ hm (by kernel_rfl) ?_);conv=>whnf))
    refine ⟨fun h => absurd h (by rw [c2]; simp), fun _ => ?_⟩
    ((first|refine rG Γ hm ?_|refine rD Γ hm (by kernel_rfl) ?_);(conv=>whnf);repeat((first|refine aF ?_|refine aT ?_);(first|refine rG Γ hm ?_|refine rD Γ hm (by kernel_rfl) ?_);conv=>whnf))
    refine ⟨fun h => absurd h (by rw [c3]; simp), fun _ => ?_⟩
    ((first|refine rG Γ hm ?_|refine rD Γ hm (by kernel_rfl) ?_);(conv=>whnf);repeat((first|refine aF ?_|refine aT ?_);(first|refine rG Γ hm ?_|refine rD Γ hm (by kernel_rfl) ?_);conv=>whnf))
    refine G_boxV 4 [intSV 0, intSV 0, intSV 0, intSV 0, .sl 1 byteSV [], .sl 1 boolSV []] rfl (.cons (.refl _) (.cons (.refl _) (.cons (.refl _) (.cons (.refl _) (.cons .nil (.cons .nil .nil)))))) ?_
    exact done rfl (.cons (.cell rfl rfl rfl rfl) (.cons .tmp .nil)) [] [] (fun _ h => h) rfl rfl ⟨trivial, trivial, rfl, rfl⟩
  · rw [if_neg (by decide)] at hres
    ((conv=>whnf);repeat((first|refine aF ?_|refine aT ?_);(first|refine rG Γ hm ?_|refine rD Γ hm (by kernel_rfl) ?_);conv=>whnf))
    (repeat (first | (refine ⟨fun h => False.elim (by first | (exact absurd h (by decide)) | (simp at h; done) | (simp at h; omega)), fun _ => ?_⟩; ((first|refine rG Γ hm ?_|refine rD Γ hm (by kernel_rfl) ?_);(conv=>whnf);repeat((first|refine aF ?_|refine aT ?_);(first|refine rG Γ hm ?_|refine rD Γ hm (by kernel_rfl) ?_);conv=>whnf))) | (refine ⟨fun _ => ?_, fun h => False.elim (by first | (exact absurd h (by decide)) | (simp at h; done) | (simp at h; omega))⟩; ((first|refine rG Γ hm ?_|refine rD Γ hm (by kernel_rfl) ?_);(conv=>whnf);repeat((first|refine aF ?_|refine aT ?_);(first|refine rG Γ hm ?_|refine rD Γ hm (by kernel_rfl) ?_);conv=>whnf)))))
    refine ⟨fun h => ?_, fun h => ?_⟩
    · have hne : (W.length : Int) ≠ 3 := by simpa using h
      rw [if_pos (by exact hne)] at hres
      subst hres
      ((first|refine rG Γ hm ?_|refine rD Γ hm (by kernel_rfl) ?_);(conv=>whnf);repeat((first|refine aF ?_|refine aT ?_);(first|refine rG Γ hm ?_|refine rD Γ hm (by kernel_rfl) ?_);conv=>whnf))
      refine G_boxV 4 [intSV 0, intSV 0, intSV 0, intSV 0, .sl 1 byteSV [], .sl 1 boolSV []] rfl (.cons (.refl _) (.cons (.refl _) (.cons (.refl _) (.cons (.refl _) (.cons .nil (.cons .nil .nil)))))) ?_
      exact done rfl (.cons (.cell rfl rfl rfl rfl) (.cons .tmp .nil)) [] [] (fun _ h => h) rfl rfl ⟨trivial, trivial, rfl, rfl⟩
    have hle : (W.length : Int) = 3 := by simpa using h
    rw [if_neg (by rw [hle]; simp [manyN])] at hres
    rw [if_pos rfl] at hres
    have h01 : (1 : Int).toNat < W.length := by show 1 < _; omega
    have h02 : (2 : Int).toNat < W.length := by show 2 < _; omega
    have hw1 : nth W 1 = W[(1 : Int).toNat] := nth_eq h01
    have hw2 : nth W 2 = W[(2 : Int).toNat] := nth_eq h02
    have hz2 := hWs _ (List.getElem_mem h02)
    rw [hw1, hw2] at hres
    obtain ⟨w1, hw1'⟩ : ∃ w1, W[(1 : Int).toNat]'h01 = w1 := ⟨_, rfl⟩
    rw [hw1'] at hres
    have q3 := ref39ReadBytesS (W[(2 : Int).toNat]'h02) (by omega)
    ((first|refine rG Γ hm ?_|refine rD Γ hm (by kernel_rfl) ?_);(conv=>whnf);repeat((first|refine aF ?_|refine aT ?_);(first|refine rG Γ hm ?_|refine rD Γ hm (by kernel_rfl) ?_);conv=>whnf))
    refine G_countP n.ports.length (fun j => Upto (fun _ p => !(portP n w1 p)) n.ports j) (fun j => [(2, .ref 8 (netSV n) 0), (4, .ptr 4 0), (6, .ptr 6 0), (7, .sl 1 strSV W), (10, intSV j)]) (fun _ => [(4, .box [intSV 0, intSV 0, intSV 0, intSV 0, .val (.slice none 0 0), .val (.slice none 0 0)]), (6, .box [intSV 0, intSV 0, intSV 0, intSV 0, .val (.slice none 0 0), .val (.slice none 0 0)])]) [] (upto_zero _ _)
      ⟨⟨rfl, rfl, rfl, rfl, rfl, rfl, rfl, rfl, rfl, rfl, trivial⟩, ⟨.inl rfl, rfl, .inl rfl, rfl, trivial⟩, rfl, rfl⟩ ?_
    intro j hj hI
    ((first|refine rG Γ hm ?_|refine rD Γ hm (by kernel_rfl) ?_);(conv=>whnf);repeat((first|refine aF ?_|refine aT ?_);(first|refine rG Γ hm ?_|refine rD Γ hm (by kernel_rfl) ?_);conv=>whnf))
    refine ⟨fun h => ?_, fun h => ?_⟩
    · have hlt : j < n.ports.length := by have := of_decide_eq_true h; omega
      have q4 := ref39PortS n hb hnm (j : Int) (by omega)
      have hpt : (portText n (j : Int) == w1) = portP n w1 n.ports[j] := by
        rw [portText, nth_eq (l := n.ports) (i := (j : Int)) (by simpa using hlt)]; rfl
      have hfound := fun h2 => @idxI_found _ (portP n w1) n.ports j hlt (fun i hi hij => by simpa using hI i hi hij) h2
      have hnx := fun h => upto_next (p := fun _ p => !(portP n w1 p)) hI hlt h
      generalize portP n w1 n.ports[j] = fnd at *
      ((first|refine rG Γ hm ?_|refine rD Γ hm (by kernel_rfl) ?_);(conv=>whnf);repeat((first|refine aF ?_|refine aT ?_);(first|refine rG Γ hm ?_|refine rD Γ hm (by kernel_rfl) ?_);conv=>whnf))
      refine callD0 q4 F32 rfl rfl rfl (by kernel_rfl) rfl ?_
      ((first|refine rG Γ hm ?_|refine rD Γ hm (by kernel_rfl) ?_);(conv=>whnf);repeat((first|refine aF ?_|refine aT ?_);(first|refine rG Γ hm ?_|refine rD Γ hm (by kernel_rfl) ?_);conv=>whnf))
      refine ⟨rfl, by decide, h01, ?_⟩
      rw [hw1']
      ((conv=>whnf);repeat((first|refine aF ?_|refine aT ?_);(first|refine rG Γ hm ?_|refine rD Γ hm (by kernel_rfl) ?_);conv=>whnf))
      refine ⟨(by kernel_rfl), ?_⟩
      ((conv=>whnf);repeat((first|refine aF ?_|refine aT ?_);(first|refine rG Γ hm ?_|refine rD Γ hm (by kernel_rfl) ?_);conv=>whnf))
      rw [hpt]
      cases fnd
      · refine ⟨fun h => absurd h (by simp), fun _ => ?_⟩
        ((first|refine rG Γ hm ?_|refine rD Γ hm (by kernel_rfl) ?_);(conv=>whnf);repeat((first|refine aF ?_|refine aT ?_);(first|refine rG Γ hm ?_|refine rD Γ hm (by kernel_rfl) ?_);conv=>whnf))
        refine ⟨by unfold I64; omega, ?_⟩
        ((conv=>whnf);repeat((first|refine aF ?_|refine aT ?_);(first|refine rG Γ hm ?_|refine rD Γ hm (by kernel_rfl) ?_);conv=>whnf))
        exact G_nextP [] hI (by omega) (hnx rfl) ⟨⟨rfl, rfl, rfl, rfl, rfl, rfl, rfl, rfl, rfl, rfl, trivial⟩, ⟨.inl rfl, rfl, .inl rfl, rfl, trivial⟩, rfl, rfl⟩
      · rw [hfound rfl, if_neg (by omega)] at hres
        refine ⟨fun _ => ?_, fun h => absurd h (by simp)⟩
        ((first|refine rG Γ hm ?_|refine rD Γ hm (by kernel_rfl) ?_);(conv=>whnf);repeat((first|refine aF ?_|refine aT ?_);(first|refine rG Γ hm ?_|refine rD Γ hm (by kernel_rfl) ?_);conv=>whnf))
        refine ⟨rfl, by decide, h02, ?_⟩
        ((conv=>whnf);repeat((first|refine aF ?_|refine aT ?_);(first|refine rG Γ hm ?_|refine rD Γ hm (by kernel_rfl) ?_);conv=>whnf))
        refine call0 q3 F73 rfl rfl rfl rfl rfl ?_
        obtain ⟨⟨bs, ok⟩, hbo⟩ : ∃ p, readBR (W[(2 : Int).toNat]'h02) = p := ⟨_, rfl⟩
        rw [hbo] at hres ⊢
        dsimp only at hres ⊢
        cases ok
        · rw [if_pos rfl] at hres
          subst hres
          ((first|refine rG Γ hm ?_|refine rD Γ hm (by kernel_rfl) ?_);(conv=>whnf);repeat((first|refine aF ?_|refine aT ?_);(first|refine rG Γ hm ?_|refine rD Γ hm (by kernel_rfl) ?_);conv=>whnf))
          refine G_boxV 4 [intSV 0, intSV 0, intSV 0, intSV 0, .sl 1 byteSV [], .sl 1 boolSV []] rfl (.cons (.refl _) (.cons (.refl _) (.cons (.refl _) (.cons (.refl _) (.cons .nil (.cons .nil .nil)))))) ?_
          exact done rfl (.cons (.cell rfl rfl rfl rfl) (.cons .tmp .nil)) [] [] (fun _ h => h) rfl rfl ⟨trivial, trivial, rfl, rfl⟩
        · rw [if_neg (by simp)] at hres
          subst hres
          ((first|refine rG Γ hm ?_|refine rD Γ hm (by kernel_rfl) ?_);(conv=>whnf);repeat((first|refine aF ?_|refine aT ?_);(first|refine rG Γ hm ?_|refine rD Γ hm (by kernel_rfl) ?_);conv=>whnf))
          refine G_boxV 4 [intSV 1, intSV (j : Int), intSV 0, intSV 0, .sl 1 byteSV bs, .sl 1 boolSV []] rfl (.cons (.refl _) (.cons (.refl _) (.cons (.refl _) (.cons (.refl _) (.cons (.refl _) (.cons .nil .nil)))))) ?_
          exact done rfl (.cons (.cell rfl rfl rfl rfl) (.cons .tmp .nil)) [] [] (fun _ h => h) rfl rfl ⟨trivial, trivial, rfl, rfl⟩
    · have hje : j = n.ports.length := by have := of_decide_eq_false h; omega
      subst hje
      rw [if_pos (by rw [idxI_none (fun i hi => by simpa using hI i hi hi)]; decide)] at hres
      subst hres
      ((first|refine rG Γ hm ?_|refine rD Γ hm (by kernel_rfl) ?_);(conv=>whnf);repeat((first|refine aF ?_|refine aT ?_);(first|refine rG Γ hm ?_|refine rD Γ hm (by kernel_rfl) ?_);conv=>whnf))
      refine G_boxV 4 [intSV 0, intSV 0, intSV 0, intSV 0, .sl 1 byteSV [], .sl 1 boolSV []] rfl (.cons (.refl _) (.cons (.refl _) (.cons (.refl _) (.cons (.refl _) (.cons .nil (.cons .nil .nil)))))) ?_
      exact done rfl (.cons (.cell rfl rfl rfl rfl) (.cons .tmp .nil)) [] [] (fun _ h => h) rfl rfl ⟨trivial, trivial, rfl, rfl⟩
  · rw [if_neg (by decide)] at hres
    ((conv=>whnf);repeat((first|refine aF ?_|refine aT ?_);(first|refine rG Γ hm ?_|refine rD Γ hm (by kernel_rfl) ?_);conv=>whnf))
    (repeat (first | (refine ⟨fun h => False.elim (by first | (exact absurd h (by decide)) | (simp at h; done) | (simp at h; omega)), fun _ => ?_⟩; ((first|refine rG Γ hm ?_|refine rD Γ hm (by kernel_rfl) ?_);(conv=>whnf);repeat((first|refine aF ?_|refine aT ?_);(first|refine rG Γ hm ?_|refine rD Γ hm (by kernel_rfl) ?_);conv=>whnf))) | (refine ⟨fun _ => ?_, fun h => False.elim (by first | (exact absurd h (by decide)) | (simp at h; done) | (simp at h; omega))⟩; ((first|refine rG Γ hm ?_|refine rD Γ hm (by kernel_rfl) ?_);(conv=>whnf);repeat((first|refine aF ?_|refine aT ?_);(first|refine rG Γ hm ?_|refine rD Γ hm (by kernel_rfl) ?_);conv=>whnf)))))
    refine ⟨fun h => ?_, fun h => ?_⟩
    · have hne : (W.length : Int) ≠ 3 := by simpa using h
      rw [if_pos (by exact hne)] at hres
      subst hres
      ((first|refine rG Γ hm ?_|refine rD Γ hm (by kernel_rfl) ?_);(conv=>whnf);repeat((first|refine aF ?_|refine aT ?_);(first|refine rG Γ hm ?_|refine rD Γ hm (by kernel_rfl) ?_);conv=>whnf))
      refine G_boxV 4 [intSV 0, intSV 0, intSV 0, intSV 0, .sl 1 byteSV [], .sl 1 boolSV []] rfl (.cons (.refl _) (.cons (.refl _) (.cons (.refl _) (.cons (.refl _) (.cons .nil (.cons .nil .nil)))))) ?_
      exact done rfl (.cons (.cell rfl rfl rfl rfl) (.cons .tmp .nil)) [] [] (fun _ h => h) rfl rfl ⟨trivial, trivial, rfl, rfl⟩
    have hle : (W.length : Int) = 3 := by simpa using h
    rw [if_neg (by rw [hle]; simp [manyN])] at hres
    rw [if_neg (by decide), if_pos (by decide)] at hres
    have h01 : (1 : Int).toNat < W.length := by show 1 < _; omega
    have h02 : (2 : Int).toNat < W.length := by show 2 < _; omega
    have hw1 : nth W 1 = W[(1 : Int).toNat] := nth_eq h01
    have hw2 : nth W 2 = W[(2 : Int).toNat] := nth_eq h02
    have hz2 := hWs _ (List.getElem_mem h02)
    rw [hw1, hw2] at hres
    obtain ⟨w1, hw1'⟩ : ∃ w1, W[(1 : Int).toNat]'h01 = w1 := ⟨_, rfl⟩
    rw [hw1'] at hres
    have q3 := ref03ReadS (W[(2 : Int).toNat]'h02) 0 999999999 (by omega)
    ((first|refine rG Γ hm ?_|refine rD Γ hm (by kernel_rfl) ?_);(conv=>whnf);repeat((first|refine aF ?_|refine aT ?_);(first|refine rG Γ hm ?_|refine rD Γ hm (by kernel_rfl) ?_);conv=>whnf))
    refine G_countP n.domains.length (fun j => ∀ i, i < j → (domT n (i : Int) == w1) = false) (fun j => [(2, .ref 8 (netSV n) 0), (4, .ptr 4 0), (6, .ptr 6 0), (7, .sl 1 strSV W), (13, intSV j)]) (fun _ => [(4, .box [intSV 0, intSV 0, intSV 0, intSV 0, .val (.slice none 0 0), .val (.slice none 0 0)]), (6, .box [intSV 0, intSV 0, intSV 0, intSV 0, .val (.slice none 0 0), .val (.slice none 0 0)])]) [] (fun i hi => absurd hi (by omega))
      ⟨⟨rfl, rfl, rfl, rfl, rfl, rfl, rfl, rfl, rfl, rfl, trivial⟩, ⟨.inl rfl, rfl, .inl rfl, rfl, trivial⟩, rfl, rfl⟩ ?_
    intro j hj hI
    ((first|refine rG Γ hm ?_|refine rD Γ hm (by kernel_rfl) ?_);(conv=>whnf);repeat((first|refine aF ?_|refine aT ?_);(first|refine rG Γ hm ?_|refine rD Γ hm (by kernel_rfl) ?_);conv=>whnf))
    refine ⟨fun h => ?_, fun h => ?_⟩
    · have hlt : j < n.domains.length := by have := of_decide_eq_true h; omega
      have q4 := refDomTextS n hnm hb (j : Int)
      have hsome := @findD_some n w1 j hlt hI
      obtain ⟨td, htd⟩ : ∃ td, domT n (j : Int) = td := ⟨_, rfl⟩
      rw [htd] at q4 hsome
      ((first|refine rG Γ hm ?_|refine rD Γ hm (by kernel_rfl) ?_);(conv=>whnf);repeat((first|refine aF ?_|refine aT ?_);(first|refine rG Γ hm ?_|refine rD Γ hm (by kernel_rfl) ?_);conv=>whnf))
      refine callD0 q4 F62 rfl rfl rfl (by kernel_rfl) rfl ?_
      ((first|refine rG Γ hm ?_|refine rD Γ hm (by kernel_rfl) ?_);(conv=>whnf);repeat((first|refine aF ?_|refine aT ?_);(first|refine rG Γ hm ?_|refine rD Γ hm (by kernel_rfl) ?_);conv=>whnf))
      refine ⟨rfl, by decide, h01, ?_⟩
      rw [hw1']
      ((conv=>whnf);repeat((first|refine aF ?_|refine aT ?_);(first|refine rG Γ hm ?_|refine rD Γ hm (by kernel_rfl) ?_);conv=>whnf))
      refine ⟨(by kernel_rfl), ?_⟩
      cases htw : (td == w1)
      · ((conv=>whnf);repeat((first|refine aF ?_|refine aT ?_);(first|refine rG Γ hm ?_|refine rD Γ hm (by kernel_rfl) ?_);conv=>whnf))
        refine ⟨by unfold I64; omega, ?_⟩
        ((conv=>whnf);repeat((first|refine aF ?_|refine aT ?_);(first|refine rG Γ hm ?_|refine rD Γ hm (by kernel_rfl) ?_);conv=>whnf))
        refine G_nextP [] hI (by omega) (fun i hi => ?_) ⟨⟨rfl, rfl, rfl, rfl, rfl, rfl, rfl, rfl, rfl, rfl, trivial⟩, ⟨.inl rfl, rfl, .inl rfl, rfl, trivial⟩, rfl, rfl⟩
        rcases Nat.lt_or_ge i j with h2 | h2
        · exact hI i h2
        · obtain rfl : i = j := by omega
          rw [htd]; exact htw
      · rw [hsome htw, if_neg (by omega)] at hres
        ((conv=>whnf);repeat((first|refine aF ?_|refine aT ?_);(first|refine rG Γ hm ?_|refine rD Γ hm (by kernel_rfl) ?_);conv=>whnf))
        refine ⟨rfl, by decide, h02, ?_⟩
        ((conv=>whnf);repeat((first|refine aF ?_|refine aT ?_);(first|refine rG Γ hm ?_|refine rD Γ hm (by kernel_rfl) ?_);conv=>whnf))
        refine call0 q3 F74 rfl rfl rfl rfl rfl ?_
        obtain ⟨⟨av, aok⟩, hav⟩ : ∃ p, numR (W[(2 : Int).toNat]'h02) 0 999999999 = p := ⟨_, rfl⟩
        rw [hav] at hres ⊢
        dsimp only at hres ⊢
        cases aok
        · rw [if_pos rfl] at hres
          subst hres
          ((first|refine rG Γ hm ?_|refine rD Γ hm (by kernel_rfl) ?_);(conv=>whnf);repeat((first|refine aF ?_|refine aT ?_);(first|refine rG Γ hm ?_|refine rD Γ hm (by kernel_rfl) ?_);conv=>whnf))
          refine G_boxV 4 [intSV 0, intSV 0, intSV 0, intSV 0, .sl 1 byteSV [], .sl 1 boolSV []] rfl (.cons (.refl _) (.cons (.refl _) (.cons (.refl _) (.cons (.refl _) (.cons .nil (.cons .nil .nil)))))) ?_
          exact done rfl (.cons (.cell rfl rfl rfl rfl) (.cons .tmp .nil)) [] [] (fun _ h => h) rfl rfl ⟨trivial, trivial, rfl, rfl⟩
        · rw [if_neg (by simp)] at hres
          subst hres
          ((first|refine rG Γ hm ?_|refine rD Γ hm (by kernel_rfl) ?_);(conv=>whnf);repeat((first|refine aF ?_|refine aT ?_);(first|refine rG Γ hm ?_|refine rD Γ hm (by kernel_rfl) ?_);conv=>whnf))
          refine ⟨rfl, by decide, h00, ?_⟩
          rw [hw0']
          ((conv=>whnf);repeat((first|refine aF ?_|refine aT ?_);(first|refine rG Γ hm ?_|refine rD Γ hm (by kernel_rfl) ?_);conv=>whnf))
          (repeat (first | (refine ⟨fun h => False.elim (by first | (exact absurd h (by decide)) | (simp at h; done) | (simp at h; omega)), fun _ => ?_⟩; ((first|refine rG Γ hm ?_|refine rD Γ hm (by kernel_rfl) ?_);(conv=>whnf);repeat((first|refine aF ?_|refine aT ?_);(first|refine rG Γ hm ?_|refine rD Γ hm (by kernel_rfl) ?_);conv=>whnf))) | (refine ⟨fun _ => ?_, fun h => False.elim (by first | (exact absurd h (by decide)) | (simp at h; done) | (simp at h; omega))⟩; ((first|refine rG Γ hm ?_|refine rD Γ hm (by kernel_rfl) ?_);(conv=>whnf);repeat((first|refine aF ?_|refine aT ?_);(first|refine rG Γ hm ?_|refine rD Γ hm (by kernel_rfl) ?_);conv=>whnf)))))
          refine G_boxV 4 [intSV 2, intSV 0, intSV (j : Int), intSV av, .sl 1 byteSV [], .sl 1 boolSV []] rfl (.cons (.refl _) (.cons (.refl _) (.cons (.refl _) (.cons (.refl _) (.cons .nil (.cons .nil .nil)))))) ?_
          exact done rfl (.cons (.cell rfl rfl rfl rfl) (.cons .tmp .nil)) [] [] (fun _ h => h) rfl rfl ⟨trivial, trivial, rfl, rfl⟩
    · have hje : j = n.domains.length := by have := of_decide_eq_false h; omega
      subst hje
      rw [if_pos (findD_none hI)] at hres
      subst hres
      ((first|refine rG Γ hm ?_|refine rD Γ hm (by kernel_rfl) ?_);(conv=>whnf);repeat((first|refine aF ?_|refine aT ?_);(first|refine rG Γ hm ?_|refine rD Γ hm (by kernel_rfl) ?_);conv=>whnf))
      refine G_boxV 4 [intSV 0, intSV 0, intSV 0, intSV 0, .sl 1 byteSV [], .sl 1 boolSV []] rfl (.cons (.refl _) (.cons (.refl _) (.cons (.refl _) (.cons (.refl _) (.cons .nil (.cons .nil .nil)))))) ?_
      exact done rfl (.cons (.cell rfl rfl rfl rfl) (.cons .tmp .nil)) [] [] (fun _ h => h) rfl rfl ⟨trivial, trivial, rfl, rfl⟩
  · rw [if_neg (by decide)] at hres
    ((conv=>whnf);repeat((first|refine aF ?_|refine aT ?_);(first|refine rG Γ hm ?_|refine rD Γ hm (by kernel_rfl) ?_);conv=>whnf))
    (repeat (first | (refine ⟨fun h => False.elim (by first | (exact absurd h (by decide)) | (simp at h; done) | (simp at h; omega)), fun _ => ?_⟩; ((first|refine rG Γ hm ?_|refine rD Γ hm (by kernel_rfl) ?_);(conv=>whnf);repeat((first|refine aF ?_|refine aT ?_);(first|refine rG Γ hm ?_|refine rD Γ hm (by kernel_rfl) ?_);conv=>whnf))) | (refine ⟨fun _ => ?_, fun h => False.elim (by first | (exact absurd h (by decide)) | (simp at h; done) | (simp at h; omega))⟩; ((first|refine rG Γ hm ?_|refine rD Γ hm (by kernel_rfl) ?_);(conv=>whnf);repeat((first|refine aF ?_|refine aT ?_);(first|refine rG Γ hm ?_|refine rD Γ hm (by kernel_rfl) ?_);conv=>whnf)))))
    refine ⟨fun h => ?_, fun h => ?_⟩
    · have hne : (W.length : Int) ≠ 3 := by simpa using h
      rw [if_pos (by exact hne)] at hres
      subst hres
      ((first|refine rG Γ hm ?_|refine rD Γ hm (by kernel_rfl) ?_);(conv=>whnf);repeat((first|refine aF ?_|refine aT ?_);(first|refine rG Γ hm ?_|refine rD Γ hm (by kernel_rfl) ?_);conv=>whnf))
      refine G_boxV 4 [intSV 0, intSV 0, intSV 0, intSV 0, .sl 1 byteSV [], .sl 1 boolSV []] rfl (.cons (.refl _) (.cons (.refl _) (.cons (.refl _) (.cons (.refl _) (.cons .nil (.cons .nil .nil)))))) ?_
      exact done rfl (.cons (.cell rfl rfl rfl rfl) (.cons .tmp .nil)) [] [] (fun _ h => h) rfl rfl ⟨trivial, trivial, rfl, rfl⟩
    have hle : (W.length : Int) = 3 := by simpa using h
    rw [if_neg (by rw [hle]; simp [manyN])] at hres
    rw [if_neg (by decide), if_pos (by decide)] at hres
    have h01 : (1 : Int).toNat < W.length := by show 1 < _; omega
    have h02 : (2 : Int).toNat < W.length := by show 2 < _; omega
    have hw1 : nth W 1 = W[(1 : Int).toNat] := nth_eq h01
    have hw2 : nth W 2 = W[(2 : Int).toNat] := nth_eq h02
    have hz2 := hWs _ (List.getElem_mem h02)
    rw [hw1, hw2] at hres
    obtain ⟨w1, hw1'⟩ : ∃ w1, W[(1 : Int).toNat]'h01 = w1 := ⟨_, rfl⟩
    rw [hw1'] at hres
    have q3 := ref03ReadS (W[(2 : Int).toNat]'h02) 0 999999999 (by omega)
    ((first|refine rG Γ hm ?_|refine rD Γ hm (by kernel_rfl) ?_);(conv=>whnf);repeat((first|refine aF ?_|refine aT ?_);(first|refine rG Γ hm ?_|refine rD Γ hm (by kernel_rfl) ?_);conv=>whnf))
    refine G_countP n.domains.length (fun j => ∀ i, i < j → (domT n (i : Int) == w1) = false) (fun j => [(2, .ref 8 (netSV n) 0), (4, .ptr 4 0), (6, .ptr 6 0), (7, .sl 1 strSV W), (13, intSV j)]) (fun _ => [(4, .box [intSV 0, intSV 0, intSV 0, intSV 0, .val (.slice none 0 0), .val (.slice none 0 0)]), (6, .box [intSV 0, intSV 0, intSV 0, intSV 0, .val (.slice none 0 0), .val (.slice none 0 0)])]) [] (fun i hi => absurd hi (by omega))
      ⟨⟨rfl, rfl, rfl, rfl, rfl, rfl, rfl, rfl, rfl, rfl, trivial⟩, ⟨.inl rfl, rfl, .inl rfl, rfl, trivial⟩, rfl, rfl⟩ ?_
    intro j hj hI
    ((first|refine rG Γ hm ?_|refine rD Γ hm (by kernel_rfl) ?_);(conv=>whnf);repeat((first|refine aF ?_|refine aT ?_);(first|refine rG Γ hm ?_|refine rD Γ hm (by kernel_rfl) ?_);conv=>whnf))
    refine ⟨fun h => ?_, fun h => ?_⟩
    · have hlt : j < n.domains.length := by have := of_decide_eq_true h; omega
      have q4 := refDomTextS n hnm hb (j : Int)
      have hsome := @findD_some n w1 j hlt hI
      obtain ⟨td, htd⟩ : ∃ td, domT n (j : Int) = td := ⟨_, rfl⟩
      rw [htd] at q4 hsome
      ((first|refine rG Γ hm ?_|refine rD Γ hm (by kernel_rfl) ?_);(conv=>whnf);repeat((first|refine aF ?_|refine aT ?_);(first|refine rG Γ hm ?_|refine rD Γ hm (by kernel_rfl) ?_);conv=>whnf))
      refine callD0 q4 F62 rfl rfl rfl (by kernel_rfl) rfl ?_
      ((first|refine rG Γ hm ?_|refine rD Γ hm (by kernel_rfl) ?_);(conv=>whnf);repeat((first|refine aF ?_|refine aT ?_);(first|refine rG Γ hm ?_|refine rD Γ hm (by kernel_rfl) ?_);conv=>whnf))
      refine ⟨rfl, by decide, h01, ?_⟩
      rw [hw1']
      ((conv=>whnf);repeat((first|refine aF ?_|refine aT ?_);(first|refine rG Γ hm ?_|refine rD Γ hm (by kernel_rfl) ?_);conv=>whnf))
      refine ⟨(by kernel_rfl), ?_⟩
      cases htw : (td == w1)
      · ((conv=>whnf);repeat((first|refine aF ?_|refine aT ?_);(first|refine rG Γ hm ?_|refine rD Γ hm (by kernel_rfl) ?_);conv=>whnf))
        refine ⟨by unfold I64; omega, ?_⟩
        ((conv=>whnf);repeat((first|refine aF ?_|refine aT ?_);(first|refine rG Γ hm ?_|refine rD Γ hm (by kernel_rfl) ?_);conv=>whnf))
        refine G_nextP [] hI (by omega) (fun i hi => ?_) ⟨⟨rfl, rfl, rfl, rfl, rfl, rfl, rfl, rfl, rfl, rfl, trivial⟩, ⟨.inl rfl, rfl, .inl rfl, rfl, trivial⟩, rfl, rfl⟩
        rcases Nat.lt_or_ge i j with h2 | h2
        · exact hI i h2
        · obtain rfl : i = j := by omega
          rw [htd]; exact htw
      · rw [hsome htw, if_neg (by omega)] at hres
        ((conv=>whnf);repeat((first|refine aF ?_|refine aT ?_);(first|refine rG Γ hm ?_|refine rD Γ hm (by kernel_rfl) ?_);conv=>whnf))
        refine ⟨rfl, by decide, h02, ?_⟩
        ((conv=>whnf);repeat((first|refine aF ?_|refine aT ?_);(first|refine rG Γ hm ?_|refine rD Γ hm (by kernel_rfl) ?_);conv=>whnf))
        refine call0 q3 F74 rfl rfl rfl rfl rfl ?_
        obtain ⟨⟨av, aok⟩, hav⟩ : ∃ p, numR (W[(2 : Int).toNat]'h02) 0 999999999 = p := ⟨_, rfl⟩
        rw [hav] at hres ⊢
        dsimp only at hres ⊢
        cases aok
        · rw [if_pos rfl] at hres
          subst hres
          ((first|refine rG Γ hm ?_|refine rD Γ hm (by kernel_rfl) ?_);(conv=>whnf);repeat((first|refine aF ?_|refine aT ?_);(first|refine rG Γ hm ?_|refine rD Γ hm (by kernel_rfl) ?_);conv=>whnf))
          refine G_boxV 4 [intSV 0, intSV 0, intSV 0, intSV 0, .sl 1 byteSV [], .sl 1 boolSV []] rfl (.cons (.refl _) (.cons (.refl _) (.cons (.refl _) (.cons (.refl _) (.cons .nil (.cons .nil .nil)))))) ?_
          exact done rfl (.cons (.cell rfl rfl rfl rfl) (.cons .tmp .nil)) [] [] (fun _ h => h) rfl rfl ⟨trivial, trivial, rfl, rfl⟩
        · rw [if_neg (by simp)] at hres
          subst hres
          ((first|refine rG Γ hm ?_|refine rD Γ hm (by kernel_rfl) ?_);(conv=>whnf);repeat((first|refine aF ?_|refine aT ?_);(first|refine rG Γ hm ?_|refine rD Γ hm (by kernel_rfl) ?_);conv=>whnf))
          refine ⟨rfl, by decide, h00, ?_⟩
          rw [hw0']
          ((conv=>whnf);repeat((first|refine aF ?_|refine aT ?_);(first|refine rG Γ hm ?_|refine rD Γ hm (by kernel_rfl) ?_);conv=>whnf))
          (repeat (first | (refine ⟨fun h => False.elim (by first | (exact absurd h (by decide)) | (simp at h; done) | (simp at h; omega)), fun _ => ?_⟩; ((first|refine rG Γ hm ?_|refine rD Γ hm (by kernel_rfl) ?_);(conv=>whnf);repeat((first|refine aF ?_|refine aT ?_);(first|refine rG Γ hm ?_|refine rD Γ hm (by kernel_rfl) ?_);conv=>whnf))) | (refine ⟨fun _ => ?_, fun h => False.elim (by first | (exact absurd h (by decide)) | (simp at h; done) | (simp at h; omega))⟩; ((first|refine rG Γ hm ?_|refine rD Γ hm (by kernel_rfl) ?_);(conv=>whnf);repeat((first|refine aF ?_|refine aT ?_);(first|refine rG Γ hm ?_|refine rD Γ hm (by kernel_rfl) ?_);conv=>whnf)))))
          refine G_boxV 4 [intSV 3, intSV 0, intSV (j : Int), intSV av, .sl 1 byteSV [], .sl 1 boolSV []] rfl (.cons (.refl _) (.cons (.refl _) (.cons (.refl _) (.cons (.refl _) (.cons .nil (.cons .nil .nil)))))) ?_
          exact done rfl (.cons (.cell rfl rfl rfl rfl) (.cons .tmp .nil)) [] [] (fun _ h => h) rfl rfl ⟨trivial, trivial, rfl, rfl⟩
    · have hje : j = n.domains.length := by have := of_decide_eq_false h; omega
      subst hje
      rw [if_pos (findD_none hI)] at hres
      subst hres
      ((first|refine rG Γ hm ?_|refine rD Γ hm (by kernel_rfl) ?_);(conv=>whnf);repeat((first|refine aF ?_|refine aT ?_);(first|refine rG Γ hm ?_|refine rD Γ hm (by kernel_rfl) ?_);conv=>whnf))
      refine G_boxV 4 [intSV 0, intSV 0, intSV 0, intSV 0, .sl 1 byteSV [], .sl 1 boolSV []] rfl (.cons (.refl _) (.cons (.refl _) (.cons (.refl _) (.cons (.refl _) (.cons .nil (.cons .nil .nil)))))) ?_
      exact done rfl (.cons (.cell rfl rfl rfl rfl) (.cons .tmp .nil)) [] [] (fun _ h => h) rfl rfl ⟨trivial, trivial, rfl, rfl⟩
  · rw [if_neg (by decide)] at hres
    ((conv=>whnf);repeat((first|refine aF ?_|refine aT ?_);(first|refine rG Γ hm ?_|refine rD Γ hm (by kernel_rfl) ?_);conv=>whnf))
    refine ⟨fun h => ?_, fun h => ?_⟩
    · have hle : (W.length : Int) = 1 := by simpa using h
      rw [if_neg (by rw [hle]; simp [manyN]), if_neg (by decide), if_neg (by decide), if_pos rfl] at hres
      subst hres
      ((first|refine rG Γ hm ?_|refine rD Γ hm (by kernel_rfl) ?_);(conv=>whnf);repeat((first|refine aF ?_|refine aT ?_);(first|refine rG Γ hm ?_|refine rD Γ hm (by kernel_rfl) ?_);conv=>whnf))
      refine G_boxV 4 [intSV 4, intSV 0, intSV 0, intSV 0, .sl 1 byteSV [], .sl 1 boolSV []] rfl (.cons (.refl _) (.cons (.refl _) (.cons (.refl _) (.cons (.refl _) (.cons .nil (.cons .nil .nil)))))) ?_
      exact done rfl (.cons (.cell rfl rfl rfl rfl) (.cons .tmp .nil)) [] [] (fun _ h => h) rfl rfl ⟨trivial, trivial, rfl, rfl⟩
    · have hle : (W.length : Int) ≠ 1 := by simpa using h
      rw [if_pos (by exact hle)] at hres
      subst hres
      ((first|refine rG Γ hm ?_|refine rD Γ hm (by kernel_rfl) ?_);(conv=>whnf);repeat((first|refine aF ?_|refine aT ?_);(first|refine rG Γ hm ?_|refine rD Γ hm (by kernel_rfl) ?_);conv=>whnf))
      refine G_boxV 4 [intSV 0, intSV 0, intSV 0, intSV 0, .sl 1 byteSV [], .sl 1 boolSV []] rfl (.cons (.refl _) (.cons (.refl _) (.cons (.refl _) (.cons (.refl _) (.cons .nil (.cons .nil .nil)))))) ?_
      exact done rfl (.cons (.cell rfl rfl rfl rfl) (.cons .tmp .nil)) [] [] (fun _ h => h) rfl rfl ⟨trivial, trivial, rfl, rfl⟩
  · rw [if_neg (by decide)] at hres
    ((conv=>whnf);repeat((first|refine aF ?_|refine aT ?_);(first|refine rG Γ hm ?_|refine rD Γ hm (by kernel_rfl) ?_);conv=>whnf))
    (repeat (first | (refine ⟨fun h => False.elim (by first | (exact absurd h (by decide)) | (simp at h; done) | (simp at h; omega)), fun _ => ?_⟩; ((first|refine rG Γ hm ?_|refine rD Γ hm (by kernel_rfl) ?_);(conv=>whnf);repeat((first|refine aF ?_|refine aT ?_);(first|refine rG Γ hm ?_|refine rD Γ hm (by kernel_rfl) ?_);conv=>whnf))) | (refine ⟨fun _ => ?_, fun h => False.elim (by first | (exact absurd h (by decide)) | (simp at h; done) | (simp at h; omega))⟩; ((first|refine rG Γ hm ?_|refine rD Γ hm (by kernel_rfl) ?_);(conv=>whnf);repeat((first|refine aF ?_|refine aT ?_);(first|refine rG Γ hm ?_|refine rD Γ hm (by kernel_rfl) ?_);conv=>whnf)))))
    refine ⟨fun h => ?_, fun h => ?_⟩
    · have hne : (W.length : Int) ≠ 2 := by simpa using h
      rw [if_pos (by exact hne)] at hres
      subst hres
      ((first|refine rG Γ hm ?_|refine rD Γ hm (by kernel_rfl) ?_);(conv=>whnf);repeat((first|refine aF ?_|refine aT ?_);(first|refine rG Γ hm ?_|refine rD Γ hm (by kernel_rfl) ?_);conv=>whnf))
      refine G_boxV 4 [intSV 0, intSV 0, intSV 0, intSV 0, .sl 1 byteSV [], .sl 1 boolSV []] rfl (.cons (.refl _) (.cons (.refl _) (.cons (.refl _) (.cons (.refl _) (.cons .nil (.cons .nil .nil)))))) ?_
      exact done rfl (.cons (.cell rfl rfl rfl rfl) (.cons .tmp .nil)) [] [] (fun _ h => h) rfl rfl ⟨trivial, trivial, rfl, rfl⟩
    have hle : (W.length : Int) = 2 := by simpa using h
    rw [if_neg (by rw [hle]; simp [manyN])] at hres
    rw [if_neg (by decide), if_neg (by decide), if_neg (by decide)] at hres
    have h01 : (1 : Int).toNat < W.length := by show 1 < _; omega
    have hw1 : nth W 1 = W[(1 : Int).toNat] := nth_eq h01
    have hz1 := hWs _ (List.getElem_mem h01)
    rw [hw1] at hres
    obtain ⟨w1, hw1'⟩ : ∃ w1, W[(1 : Int).toNat]'h01 = w1 := ⟨_, rfl⟩
    rw [hw1'] at hres hz1
    have hul := upL_length w1
    have hsz : w1.data.toList.length = w1.size := rfl
    have h45 := eq45 w1
    ((first|refine rG Γ hm ?_|refine rD Γ hm (by kernel_rfl) ?_);(conv=>whnf);repeat((first|refine aF ?_|refine aT ?_);(first|refine rG Γ hm ?_|refine rD Γ hm (by kernel_rfl) ?_);conv=>whnf))
    refine G_adoptB 8 5 1000 1 boolSV rfl rfl rfl rfl ?_
    refine G_count (upL w1).length (fun j => [(2, .ref 8 (netSV n) 0), (4, .ptr 4 0), (6, .ptr 6 0), (7, .sl 1 strSV W), (8, .ptr 8 0), (9, intSV j)]) (fun j => [(4, .box [intSV 0, intSV 0, intSV 0, intSV 0, .val (.slice none 0 0), .val (.slice none 0 0)]), (6, .box [intSV 0, intSV 0, intSV 0, intSV 0, .val (.slice none 0 0), .val (.slice none 0 0)]), (8, .box [intSV 5, intSV 0, intSV 0, intSV 0, .val (.slice none 0 0), .osl 1000]), (1000, .row 1 boolSV ((upL w1).take j))]) []
      ⟨⟨rfl, rfl, rfl, rfl, rfl, rfl, rfl, rfl, rfl, rfl, rfl, rfl, trivial⟩, ⟨.inl rfl, rfl, .inl rfl, rfl, .inl rfl, rfl, .inl rfl, rfl, trivial⟩, rfl, rfl⟩ ?_
    intro j hj
    have hll : ((upL w1).take j).length = j := by rw [List.length_take]; omega
    have hfin : ∀ P : Prop, ((w1 == ⟨#[]⟩) = true → P) → ((w1 == ⟨#[]⟩) = false → P) → P := fun P h1 h2 => by
      cases h : (w1 == (⟨#[]⟩ : ByteArray))
      · exact h2 h
      · exact h1 h
    ((first|refine rG Γ hm ?_|refine rD Γ hm (by kernel_rfl) ?_);(conv=>whnf);repeat((first|refine aF ?_|refine aT ?_);(first|refine rG Γ hm ?_|refine rD Γ hm (by kernel_rfl) ?_);conv=>whnf))
    refine ⟨rfl, by decide, h01, ?_⟩
    rw [hw1']
    ((conv=>whnf);repeat((first|refine aF ?_|refine aT ?_);(first|refine rG Γ hm ?_|refine rD Γ hm (by kernel_rfl) ?_);conv=>whnf))
    by_cases hgo : j < (upL w1).length
    · have hn45 : ¬ w1.data.toList = [45] := fun e => by rw [upL, if_pos e] at hgo; exact absurd hgo (Nat.not_lt_zero _)
      have hup : upL w1 = w1.data.toList.map bitV := by rw [upL, if_neg hn45]
      have hlt : j < w1.data.toList.length := by rw [hup, List.length_map] at hgo; exact hgo
      rw [decide_eq_false hn45] at h45
      have hb : bget w1 ((j : Nat) : Int).toNat = w1.data.toList[j] := by rw [Int.toNat_natCast]; exact bget_eq hlt
      have hsucc : (upL w1).take (j + 1) = (upL w1).take j ++ [bitV w1.data.toList[j]] := by
        rw [List.take_succ_eq_append_getElem hgo]
        congr 2
        simp [hup]
      generalize w1.data.toList[j] = c at *
      generalize (upL w1).take j = v at *
      have hv : bitV c = ((c.toNat : Int) == 49) := by rw [bitV, Bool.eq_iff_iff]; simp; omega
      rw [hv] at hsucc
      have hc2 := c.toNat_lt
      refine ⟨fun _ => ?_, fun h => absurd (of_decide_eq_false h) (by omega)⟩
      ((first|refine rG Γ hm ?_|refine rD Γ hm (by kernel_rfl) ?_);(conv=>whnf);repeat((first|refine aF ?_|refine aT ?_);(first|refine rG Γ hm ?_|refine rD Γ hm (by kernel_rfl) ?_);conv=>whnf))
      refine ⟨rfl, by decide, h01, ?_⟩
      rw [hw1']
      ((conv=>whnf);repeat((first|refine aF ?_|refine aT ?_);(first|refine rG Γ hm ?_|refine rD Γ hm (by kernel_rfl) ?_);conv=>whnf))
      rw [h45]
      ((conv=>whnf);repeat((first|refine aF ?_|refine aT ?_);(first|refine rG Γ hm ?_|refine rD Γ hm (by kernel_rfl) ?_);conv=>whnf))
      refine ⟨rfl, by decide, h01, ?_⟩
      rw [hw1']
      ((conv=>whnf);repeat((first|refine aF ?_|refine aT ?_);(first|refine rG Γ hm ?_|refine rD Γ hm (by kernel_rfl) ?_);conv=>whnf))
      refine ⟨by omega, by omega, ?_⟩
      rw [hb]
      ((conv=>whnf);repeat((first|refine aF ?_|refine aT ?_);(first|refine rG Γ hm ?_|refine rD Γ hm (by kernel_rfl) ?_);conv=>whnf))
      refine stepD (good_appendT Γ.toTy 59 rfl rfl rfl rfl rfl (.row rfl) (.lit (e := boolSV) (l := [(c.toNat : Int) == 49]) rfl rfl) (by simp) (by simp; omega) (by simp; omega)) (by kernel_rfl) rfl ?_
      ((first|refine rG Γ hm ?_|refine rD Γ hm (by kernel_rfl) ?_);(conv=>whnf);repeat((first|refine aF ?_|refine aT ?_);(first|refine rG Γ hm ?_|refine rD Γ hm (by kernel_rfl) ?_);conv=>whnf))
      refine ⟨(by kernel_rfl), ?_⟩
      ((conv=>whnf);repeat((first|refine aF ?_|refine aT ?_);(first|refine rG Γ hm ?_|refine rD Γ hm (by kernel_rfl) ?_);conv=>whnf))
      refine ⟨by unfold I64; omega, ?_⟩
      ((conv=>whnf);repeat((first|refine aF ?_|refine aT ?_);(first|refine rG Γ hm ?_|refine rD Γ hm (by kernel_rfl) ?_);conv=>whnf))
      exact G_next [(1000, 59)] hgo ⟨⟨rfl, rfl, rfl, rfl, rfl, rfl, rfl, rfl, rfl, rfl, rfl, rfl, trivial⟩, ⟨.inl rfl, rfl, .inl rfl, rfl, .inl rfl, rfl, .inl (congrArg (Ob.row 1 boolSV) hsucc), rfl, trivial⟩, rfl, rfl⟩
    · have hje : j = (upL w1).length := by omega
      subst hje
      rw [List.take_length] at hll ⊢
      have ext : ∀ X : Prop, X → X := fun _ h => h
      have q5 := refTruthsS (upL w1) (by omega)
      have hok := okTr.eq_1 n.links.length w1
      have hup := upL.eq_1 w1
      generalize okTr n.links.length w1 = okb at *
      have hend : ¬ ((w1.data.toList = [45]) ∨ (upL w1).length = w1.size) → False := fun h => by
        rw [not_or] at h
        rw [if_neg h.1] at hup
        exact h.2 (by rw [hup, List.length_map]; rfl)
      generalize upL w1 = U at *
      obtain ⟨tt, htt⟩ : ∃ tt, truthsT U = tt := ⟨_, rfl⟩
      rw [htt] at hok q5
      refine ⟨fun h => ?_, fun h => ?_⟩
      · have h45b : (w1 == ⟨#[45]⟩) = true := by
          rw [h45]
          refine decide_eq_true (Classical.byContradiction fun hc => hend fun h7 => ?_)
          rcases h7 with h7 | h7
          · exact hc h7
          · have := of_decide_eq_true h; omega
        refine G_data 1000 rfl ?_
        ((first|refine rG Γ hm ?_|refine rD Γ hm (by kernel_rfl) ?_);(conv=>whnf);repeat((first|refine aF ?_|refine aT ?_);(first|refine rG Γ hm ?_|refine rD Γ hm (by kernel_rfl) ?_);conv=>whnf))
        refine ⟨rfl, by decide, h01, ?_⟩
        rw [hw1']
        ((conv=>whnf);repeat((first|refine aF ?_|refine aT ?_);(first|refine rG Γ hm ?_|refine rD Γ hm (by kernel_rfl) ?_);conv=>whnf))
        rw [h45b]
        ((conv=>whnf);repeat((first|refine aF ?_|refine aT ?_);(first|refine rG Γ hm ?_|refine rD Γ hm (by kernel_rfl) ?_);conv=>whnf))
        refine ⟨rfl, by decide, h01, ?_⟩
        rw [hw1']
        ((conv=>whnf);repeat((first|refine aF ?_|refine aT ?_);(first|refine rG Γ hm ?_|refine rD Γ hm (by kernel_rfl) ?_);conv=>whnf))
        cases he : (w1 == (⟨#[]⟩ : ByteArray))
        rotate_left
        · rw [he] at hok
          rw [hok, if_pos (by rfl)] at hres
          subst hres
          ((conv=>whnf);repeat((first|refine aF ?_|refine aT ?_);(first|refine rG Γ hm ?_|refine rD Γ hm (by kernel_rfl) ?_);conv=>whnf))
          refine ⟨(by kernel_rfl), ?_⟩
          ((conv=>whnf);repeat((first|refine aF ?_|refine aT ?_);(first|refine rG Γ hm ?_|refine rD Γ hm (by kernel_rfl) ?_);conv=>whnf))
          refine G_boxV 4 [intSV 0, intSV 0, intSV 0, intSV 0, .sl 1 byteSV [], .sl 1 boolSV []] rfl (.cons (.refl _) (.cons (.refl _) (.cons (.refl _) (.cons (.refl _) (.cons .nil (.cons .nil .nil)))))) ?_
          exact done rfl (.cons (.cell rfl rfl rfl rfl) (.cons .tmp .nil)) [] [] (fun _ h => h) rfl rfl ⟨trivial, trivial, rfl, rfl⟩
        · ((conv=>whnf);repeat((first|refine aF ?_|refine aT ?_);(first|refine rG Γ hm ?_|refine rD Γ hm (by kernel_rfl) ?_);conv=>whnf))
          refine callD0 q5 F63 rfl rfl rfl (by kernel_rfl) rfl ?_
          ((first|refine rG Γ hm ?_|refine rD Γ hm (by kernel_rfl) ?_);(conv=>whnf);repeat((first|refine aF ?_|refine aT ?_);(first|refine rG Γ hm ?_|refine rD Γ hm (by kernel_rfl) ?_);conv=>whnf))
          refine ⟨rfl, by decide, h01, ?_⟩
          rw [hw1']
          ((conv=>whnf);repeat((first|refine aF ?_|refine aT ?_);(first|refine rG Γ hm ?_|refine rD Γ hm (by kernel_rfl) ?_);conv=>whnf))
          cases ht : (tt == w1)
          · rw [he, ht] at hok
            rw [hok, if_pos (by rfl)] at hres
            subst hres
            ((conv=>whnf);repeat((first|refine aF ?_|refine aT ?_);(first|refine rG Γ hm ?_|refine rD Γ hm (by kernel_rfl) ?_);conv=>whnf))
            refine ⟨(by kernel_rfl), ?_⟩
            ((conv=>whnf);repeat((first|refine aF ?_|refine aT ?_);(first|refine rG Γ hm ?_|refine rD Γ hm (by kernel_rfl) ?_);conv=>whnf))
            refine G_boxV 4 [intSV 0, intSV 0, intSV 0, intSV 0, .sl 1 byteSV [], .sl 1 boolSV []] rfl (.cons (.refl _) (.cons (.refl _) (.cons (.refl _) (.cons (.refl _) (.cons .nil (.cons .nil .nil)))))) ?_
            exact done rfl (.cons (.cell rfl rfl rfl rfl) (.cons .tmp .nil)) [] [] (fun _ h => h) rfl rfl ⟨trivial, trivial, rfl, rfl⟩
          · ((conv=>whnf);repeat((first|refine aF ?_|refine aT ?_);(first|refine rG Γ hm ?_|refine rD Γ hm (by kernel_rfl) ?_);conv=>whnf))
            refine ⟨(by kernel_rfl), ?_⟩
            rw [he, ht] at hok
            by_cases hle2 : U.length = n.links.length
            · rw [decide_eq_true hle2] at hok
              rw [hok, if_neg (by decide)] at hres
              subst hres
              ((conv=>whnf);repeat((first|refine aF ?_|refine aT ?_);(first|refine rG Γ hm ?_|refine rD Γ hm (by kernel_rfl) ?_);conv=>whnf))
              (refine ⟨fun h => False.elim (by first | (exact absurd h (by decide)) | (simp at h; done) | (simp at h; omega)), fun _ => ?_⟩; ((first|refine rG Γ hm ?_|refine rD Γ hm (by kernel_rfl) ?_);(conv=>whnf);repeat((first|refine aF ?_|refine aT ?_);(first|refine rG Γ hm ?_|refine rD Γ hm (by kernel_rfl) ?_);conv=>whnf)))
              refine G_boxV 4 [intSV 5, intSV 0, intSV 0, intSV 0, .sl 1 byteSV [], .sl 1 boolSV U] rfl (.cons (.refl _) (.cons (.refl _) (.cons (.refl _) (.cons (.refl _) (.cons .nil (.cons (.refl _) .nil)))))) ?_
              exact done rfl (.cons (.cell rfl rfl rfl rfl) (.cons .tmp .nil)) [] [] (fun _ h => h) rfl rfl ⟨trivial, trivial, rfl, rfl⟩
            · rw [decide_eq_false hle2] at hok
              rw [hok, if_pos (by rfl)] at hres
              subst hres
              ((conv=>whnf);repeat((first|refine aF ?_|refine aT ?_);(first|refine rG Γ hm ?_|refine rD Γ hm (by kernel_rfl) ?_);conv=>whnf))
              (refine ⟨fun _ => ?_, fun h => False.elim (by first | (exact absurd h (by decide)) | (simp at h; done) | (simp at h; omega))⟩; ((first|refine rG Γ hm ?_|refine rD Γ hm (by kernel_rfl) ?_);(conv=>whnf);repeat((first|refine aF ?_|refine aT ?_);(first|refine rG Γ hm ?_|refine rD Γ hm (by kernel_rfl) ?_);conv=>whnf)))
              refine G_boxV 4 [intSV 0, intSV 0, intSV 0, intSV 0, .sl 1 byteSV [], .sl 1 boolSV []] rfl (.cons (.refl _) (.cons (.refl _) (.cons (.refl _) (.cons (.refl _) (.cons .nil (.cons .nil .nil)))))) ?_
              exact done rfl (.cons (.cell rfl rfl rfl rfl) (.cons .tmp .nil)) [] [] (fun _ h => h) rfl rfl ⟨trivial, trivial, rfl, rfl⟩
      · refine G_data 1000 rfl ?_
        ((first|refine rG Γ hm ?_|refine rD Γ hm (by kernel_rfl) ?_);(conv=>whnf);repeat((first|refine aF ?_|refine aT ?_);(first|refine rG Γ hm ?_|refine rD Γ hm (by kernel_rfl) ?_);conv=>whnf))
        refine ⟨rfl, by decide, h01, ?_⟩
        rw [hw1']
        ((conv=>whnf);repeat((first|refine aF ?_|refine aT ?_);(first|refine rG Γ hm ?_|refine rD Γ hm (by kernel_rfl) ?_);conv=>whnf))
        cases he : (w1 == (⟨#[]⟩ : ByteArray))
        rotate_left
        · rw [he] at hok
          rw [hok, if_pos (by rfl)] at hres
          subst hres
          ((conv=>whnf);repeat((first|refine aF ?_|refine aT ?_);(first|refine rG Γ hm ?_|refine rD Γ hm (by kernel_rfl) ?_);conv=>whnf))
          refine ⟨(by kernel_rfl), ?_⟩
          ((conv=>whnf);repeat((first|refine aF ?_|refine aT ?_);(first|refine rG Γ hm ?_|refine rD Γ hm (by kernel_rfl) ?_);conv=>whnf))
          refine G_boxV 4 [intSV 0, intSV 0, intSV 0, intSV 0, .sl 1 byteSV [], .sl 1 boolSV []] rfl (.cons (.refl _) (.cons (.refl _) (.cons (.refl _) (.cons (.refl _) (.cons .nil (.cons .nil .nil)))))) ?_
          exact done rfl (.cons (.cell rfl rfl rfl rfl) (.cons .tmp .nil)) [] [] (fun _ h => h) rfl rfl ⟨trivial, trivial, rfl, rfl⟩
        · ((conv=>whnf);repeat((first|refine aF ?_|refine aT ?_);(first|refine rG Γ hm ?_|refine rD Γ hm (by kernel_rfl) ?_);conv=>whnf))
          refine callD0 q5 F63 rfl rfl rfl (by kernel_rfl) rfl ?_
          ((first|refine rG Γ hm ?_|refine rD Γ hm (by kernel_rfl) ?_);(conv=>whnf);repeat((first|refine aF ?_|refine aT ?_);(first|refine rG Γ hm ?_|refine rD Γ hm (by kernel_rfl) ?_);conv=>whnf))
          refine ⟨rfl, by decide, h01, ?_⟩
          rw [hw1']
          ((conv=>whnf);repeat((first|refine aF ?_|refine aT ?_);(first|refine rG Γ hm ?_|refine rD Γ hm (by kernel_rfl) ?_);conv=>whnf))
          cases ht : (tt == w1)
          · rw [he, ht] at hok
            rw [hok, if_pos (by rfl)] at hres
            subst hres
            ((conv=>whnf);repeat((first|refine aF ?_|refine aT ?_);(first|refine rG Γ hm ?_|refine rD Γ hm (by kernel_rfl) ?_);conv=>whnf))
            refine ⟨(by kernel_rfl), ?_⟩
            ((conv=>whnf);repeat((first|refine aF ?_|refine aT ?_);(first|refine rG Γ hm ?_|refine rD Γ hm (by kernel_rfl) ?_);conv=>whnf))
            refine G_boxV 4 [intSV 0, intSV 0, intSV 0, intSV 0, .sl 1 byteSV [], .sl 1 boolSV []] rfl (.cons (.refl _) (.cons (.refl _) (.cons (.refl _) (.cons (.refl _) (.cons .nil (.cons .nil .nil)))))) ?_
            exact done rfl (.cons (.cell rfl rfl rfl rfl) (.cons .tmp .nil)) [] [] (fun _ h => h) rfl rfl ⟨trivial, trivial, rfl, rfl⟩
          · ((conv=>whnf);repeat((first|refine aF ?_|refine aT ?_);(first|refine rG Γ hm ?_|refine rD Γ hm (by kernel_rfl) ?_);conv=>whnf))
            refine ⟨(by kernel_rfl), ?_⟩
            rw [he, ht] at hok
            by_cases hle2 : U.length = n.links.length
            · rw [decide_eq_true hle2] at hok
              rw [hok, if_neg (by decide)] at hres
              subst hres
              ((conv=>whnf);repeat((first|refine aF ?_|refine aT ?_);(first|refine rG Γ hm ?_|refine rD Γ hm (by kernel_rfl) ?_);conv=>whnf))
              (refine ⟨fun h => False.elim (by first | (exact absurd h (by decide)) | (simp at h; done) | (simp at h; omega)), fun _ => ?_⟩; ((first|refine rG Γ hm ?_|refine rD Γ hm (by kernel_rfl) ?_);(conv=>whnf);repeat((first|refine aF ?_|refine aT ?_);(first|refine rG Γ hm ?_|refine rD Γ hm (by kernel_rfl) ?_);conv=>whnf)))
              refine G_boxV 4 [intSV 5, intSV 0, intSV 0, intSV 0, .sl 1 byteSV [], .sl 1 boolSV U] rfl (.cons (.refl _) (.cons (.refl _) (.cons (.refl _) (.cons (.refl _) (.cons .nil (.cons (.refl _) .nil)))))) ?_
              exact done rfl (.cons (.cell rfl rfl rfl rfl) (.cons .tmp .nil)) [] [] (fun _ h => h) rfl rfl ⟨trivial, trivial, rfl, rfl⟩
            · rw [decide_eq_false hle2] at hok
              rw [hok, if_pos (by rfl)] at hres
              subst hres
              ((conv=>whnf);repeat((first|refine aF ?_|refine aT ?_);(first|refine rG Γ hm ?_|refine rD Γ hm (by kernel_rfl) ?_);conv=>whnf))
              (refine ⟨fun _ => ?_, fun h => False.elim (by first | (exact absurd h (by decide)) | (simp at h; done) | (simp at h; omega))⟩; ((first|refine rG Γ hm ?_|refine rD Γ hm (by kernel_rfl) ?_);(conv=>whnf);repeat((first|refine aF ?_|refine aT ?_);(first|refine rG Γ hm ?_|refine rD Γ hm (by kernel_rfl) ?_);conv=>whnf)))
              refine G_boxV 4 [intSV 0, intSV 0, intSV 0, intSV 0, .sl 1 byteSV [], .sl 1 boolSV []] rfl (.cons (.refl _) (.cons (.refl _) (.cons (.refl _) (.cons (.refl _) (.cons .nil (.cons .nil .nil)))))) ?_
              exact done rfl (.cons (.cell rfl rfl rfl rfl) (.cons .tmp .nil)) [] [] (fun _ h => h) rfl rfl ⟨trivial, trivial, rfl, rfl⟩

end Go.Sy.YtjomehmhkcnadaaGreatDoor

namespace Go.Sy.YtjomehmhkcnadaaGreatDoor
open Go.Proofs

attribute [local irreducible] Go.Sy.G Go.Sy.DR
set_option maxRecDepth 100000
set_option maxHeartbeats 4000000

def parseGo (n : Net) : Nat → List StepM → List ByteArray → List StepM × Int × Int
  | _, out, [] => (out, 0, 0)
  | i, out, r :: rs => if (stepT n r).2 = 0 then parseGo n (i + 1) (out ++ [(stepT n r).1]) rs else ([], (i : Int) + 1, (stepT n r).2)
def parseT (n : Net) (b : List UInt8) : List StepM × Int × Int :=
  if netRightB n = false then ([], 0, 2) else if (rowsT b).2 ≠ 0 then ([], 0, (rowsT b).2) else parseGo n 0 [] (rowsT b).1

theorem rowsGo_sizes : ∀ (l cur : List UInt8), ∀ w ∈ rowsGo cur l, w.size ≤ cur.length + l.length
  | [], cur, w, hw => by
    rw [rowsGo] at hw
    split at hw
    · cases hw
    · simp only [List.mem_singleton] at hw
      subst hw
      rw [mkT_size]; simp
  | c :: l, cur, w, hw => by
    rw [rowsGo] at hw
    split at hw
    · rcases List.mem_cons.1 hw with rfl | hw
      · rw [mkT_size]; simp
      · have := rowsGo_sizes l [] w hw
        simp at this ⊢; omega
    · have := rowsGo_sizes l _ w hw
      simp at this ⊢; omega

theorem rowsT_facts (b : List UInt8) : (∀ w ∈ (rowsT b).1, w.size ≤ b.length) ∧ (rowsT b).1.length ≤ 400 ∧ (0 ≤ (rowsT b).2 ∧ (rowsT b).2 ≤ 3) := by
  unfold rowsT
  split
  · exact ⟨fun w hw => (by cases hw), (by decide), (by decide)⟩
  split
  · exact ⟨fun w hw => (by cases hw), (by decide), (by decide)⟩
  · rename_i h1 h2
    refine ⟨fun w hw => ?_, by dsimp only; omega, by dsimp only; omega⟩
    have := rowsGo_sizes b [] w hw
    simpa using this

theorem stepT_code (n : Net) (s : ByteArray) : 0 ≤ (stepT n s).2 ∧ (stepT n s).2 ≤ 31 := by
  unfold stepT
  repeat' (first | split | (show _ ∧ _; dsimp only; omega))

theorem parseGo_code (n : Net) : ∀ (rs : List ByteArray) (i : Nat) (out : List StepM), (0 ≤ (parseGo n i out rs).2.2 ∧ (parseGo n i out rs).2.2 ≤ 31) ∧ (parseGo n i out rs).1.length ≤ out.length + rs.length
  | [], i, out => by simp [parseGo]
  | r :: rs, i, out => by
    rw [parseGo]
    split
    · have := parseGo_code n rs (i + 1) (out ++ [(stepT n r).1])
      refine ⟨this.1, ?_⟩
      have h2 := this.2
      simp only [List.length_append, List.length_cons, List.length_nil] at h2 ⊢
      omega
    · exact ⟨stepT_code n r, by simp⟩

theorem machineParseS (n : Net) (hn : n.Fin) (hnm : Named n) (b : List UInt8) (hbl : b.length < 100000) :
    Sy.Spec Tryz.prog 11 [netSV n, .sl 1 byteSV b] [verbsO 900, manyO 901] (.tup [.sl 6 stepSV (parseT n b).1, intSV (parseT n b).2.1, intSV (parseT n b).2.2]) [verbsO 900, manyO 901] := contract Γ hm 100 F11 Tryz.ntmps11 rfl fun F hF => by
  have hres := parseT.eq_1 n b
  generalize parseT n b = res at *
  have hr := namesRightS n hn
  have q0 := lineRowsS b (by omega)
  have hrf := rowsT_facts b
  generalize rowsT b = rt at *
  obtain ⟨rows, re⟩ := rt
  dsimp only at hres q0 hrf
  obtain ⟨hrs, hrl, hre⟩ := hrf
  ((conv=>whnf);repeat((first|refine aF ?_|refine aT ?_);(first|refine rG Γ hm ?_|refine rD Γ hm (by kernel_rfl) ?_);conv=>whnf))
  refine call0 hr F18 rfl rfl rfl rfl rfl ?_
  cases hb : netRightB n
  · rw [if_pos hb] at hres
    subst hres
    ((first|refine rG Γ hm ?_|refine rD Γ hm (by kernel_rfl) ?_);(conv=>whnf);repeat((first|refine aF ?_|refine aT ?_);(first|refine rG Γ hm ?_|refine rD Γ hm (by kernel_rfl) ?_);conv=>whnf))
    refine G_nilsl 4 6 stepSV rfl ?_
    ((first|refine rG Γ hm ?_|refine rD Γ hm (by kernel_rfl) ?_);(conv=>whnf);repeat((first|refine aF ?_|refine aT ?_);(first|refine rG Γ hm ?_|refine rD Γ hm (by kernel_rfl) ?_);conv=>whnf))
    exact done rfl (.cons .tmp (.cons .tmp (.cons .tmp .nil))) [] [verbsO 900, manyO 901] (fun _ h => h) rfl rfl ⟨trivial, ⟨.inl rfl, rfl, .inl rfl, rfl, trivial⟩, rfl, rfl⟩
  rw [if_neg (by simp [hb])] at hres
  ((first|refine rG Γ hm ?_|refine rD Γ hm (by kernel_rfl) ?_);(conv=>whnf);repeat((first|refine aF ?_|refine aT ?_);(first|refine rG Γ hm ?_|refine rD Γ hm (by kernel_rfl) ?_);conv=>whnf))
  refine call0 q0 F22 rfl rfl rfl rfl rfl ?_
  refine G_box 2 8 (netSV n) rfl rfl rfl ?_
  ((first|refine rG Γ hm ?_|refine rD Γ hm (by kernel_rfl) ?_);(conv=>whnf);repeat((first|refine aF ?_|refine aT ?_);(first|refine rG Γ hm ?_|refine rD Γ hm (by kernel_rfl) ?_);conv=>whnf))
  refine ⟨fun h => ?_, fun h => ?_⟩
  · have h1 : re ≠ 0 := by simpa using h
    rw [if_pos h1] at hres
    subst hres
    ((first|refine rG Γ hm ?_|refine rD Γ hm (by kernel_rfl) ?_);(conv=>whnf);repeat((first|refine aF ?_|refine aT ?_);(first|refine rG Γ hm ?_|refine rD Γ hm (by kernel_rfl) ?_);conv=>whnf))
    refine G_nilsl 4 6 stepSV rfl ?_
    ((first|refine rG Γ hm ?_|refine rD Γ hm (by kernel_rfl) ?_);(conv=>whnf);repeat((first|refine aF ?_|refine aT ?_);(first|refine rG Γ hm ?_|refine rD Γ hm (by kernel_rfl) ?_);conv=>whnf))
    exact done rfl (.cons .tmp (.cons .tmp (.cons .tmp .nil))) [] [verbsO 900, manyO 901] (fun _ h => h) rfl rfl ⟨trivial, ⟨.inl rfl, rfl, .inl rfl, rfl, trivial⟩, rfl, rfl⟩
  have h1 : re = 0 := by simpa using h
  rw [if_neg (by simp [h1])] at hres
  ((first|refine rG Γ hm ?_|refine rD Γ hm (by kernel_rfl) ?_);(conv=>whnf);repeat((first|refine aF ?_|refine aT ?_);(first|refine rG Γ hm ?_|refine rD Γ hm (by kernel_rfl) ?_);conv=>whnf))
  refine G_adopt 4 1000 6 stepSV rfl rfl ?_
  refine G_countP rows.length (fun j => parseGo n 0 [] rows = parseGo n j ((rows.take j).map (fun r => (stepT n r).1)) (rows.drop j)) (fun j => [(2, .ref 8 (netSV n) 0), (4, .osl 1000), (23, .sl 1 strSV rows), (24, intSV rows.length), (25, intSV j)])
    (fun j => [(1000, .row 6 stepSV ((rows.take j).map (fun r => (stepT n r).1))), verbsO 900, manyO 901]) [] rfl
    ⟨⟨rfl, rfl, rfl, rfl, rfl, rfl, rfl, rfl, rfl, rfl, trivial⟩, ⟨.inl rfl, rfl, .inl rfl, rfl, .inl rfl, rfl, trivial⟩, rfl, rfl⟩ ?_
  intro j hj hI
  have hll : ((rows.take j).map (fun r => (stepT n r).1)).length = j := by rw [List.length_map, List.length_take]; omega
  ((first|refine rG Γ hm ?_|refine rD Γ hm (by kernel_rfl) ?_);(conv=>whnf);repeat((first|refine aF ?_|refine aT ?_);(first|refine rG Γ hm ?_|refine rD Γ hm (by kernel_rfl) ?_);conv=>whnf))
  refine ⟨fun h => ?_, fun h => ?_⟩
  · have hlt : j < rows.length := by have := of_decide_eq_true h; omega
    have hj0 : ((j : Nat) : Int).toNat < rows.length := by simpa using hlt
    have hdr : rows.drop j = rows[j] :: rows.drop (j + 1) := List.drop_eq_getElem_cons hlt
    have hsucc : (rows.take (j + 1)).map (fun r => (stepT n r).1) = (rows.take j).map (fun r => (stepT n r).1) ++ [(stepT n rows[j]).1] := by rw [List.take_succ_eq_append_getElem hlt, List.map_append]; rfl
    have hsz := hrs _ (List.getElem_mem hlt)
    have hI0 := hI
    rw [hdr, parseGo] at hI
    rw [← hsucc] at hI
    obtain ⟨r, hx⟩ : ∃ r, rows[((j : Nat) : Int).toNat]'hj0 = r := ⟨_, rfl⟩
    have hx' : rows[j] = r := hx
    rw [hx'] at hsucc hI hsz
    have q := siteStepS n hn hb hnm r (by omega)
    obtain ⟨out, ho⟩ : ∃ out, (rows.take j).map (fun r => (stepT n r).1) = out := ⟨_, rfl⟩
    rw [ho] at hsucc hll ⊢
    obtain ⟨⟨x, e⟩, hxe⟩ : ∃ p, stepT n r = p := ⟨_, rfl⟩
    rw [hxe] at hsucc hI q
    dsimp only at hsucc hI q
    ((first|refine rG Γ hm ?_|refine rD Γ hm (by kernel_rfl) ?_);(conv=>whnf);repeat((first|refine aF ?_|refine aT ?_);(first|refine rG Γ hm ?_|refine rD Γ hm (by kernel_rfl) ?_);conv=>whnf))
    refine ⟨rfl, by omega, hj0, ?_⟩
    rw [hx]
    ((conv=>whnf);repeat((first|refine aF ?_|refine aT ?_);(first|refine rG Γ hm ?_|refine rD Γ hm (by kernel_rfl) ?_);conv=>whnf))
    refine stepOp (good_call [(900, 900), (901, 901)] rfl F23 q rfl ⟨rfl, rfl, trivial⟩ rfl ⟨.inl rfl, .inl rfl, trivial⟩) rfl rfl ?_
    ((first|refine rG Γ hm ?_|refine rD Γ hm (by kernel_rfl) ?_);(conv=>whnf);repeat((first|refine aF ?_|refine aT ?_);(first|refine rG Γ hm ?_|refine rD Γ hm (by kernel_rfl) ?_);conv=>whnf))
    refine ⟨fun h2 => ?_, fun h2 => ?_⟩
    · have h3 : e ≠ 0 := by simpa using h2
      rw [if_neg h3] at hI
      rw [hI] at hres
      subst hres
      ((first|refine rG Γ hm ?_|refine rD Γ hm (by kernel_rfl) ?_);(conv=>whnf);repeat((first|refine aF ?_|refine aT ?_);(first|refine rG Γ hm ?_|refine rD Γ hm (by kernel_rfl) ?_);conv=>whnf))
      refine ⟨by unfold I64; omega, ?_⟩
      ((conv=>whnf);repeat((first|refine aF ?_|refine aT ?_);(first|refine rG Γ hm ?_|refine rD Γ hm (by kernel_rfl) ?_);conv=>whnf))
      refine G_nilsl 4 6 stepSV rfl ?_
      exact done rfl (.cons .tmp (.cons .tmp (.cons .tmp .nil))) [] [verbsO 900, manyO 901] (fun _ h => h) rfl rfl ⟨trivial, ⟨.inl rfl, rfl, .inl rfl, rfl, trivial⟩, rfl, rfl⟩
    · have h3 : e = 0 := by simpa using h2
      rw [if_pos h3] at hI
      ((first|refine rG Γ hm ?_|refine rD Γ hm (by kernel_rfl) ?_);(conv=>whnf);repeat((first|refine aF ?_|refine aT ?_);(first|refine rG Γ hm ?_|refine rD Γ hm (by kernel_rfl) ?_);conv=>whnf))
      refine stepOp (good_appendT Γ.toTy 45 rfl rfl rfl rfl rfl (.row rfl) (.lit (e := stepSV) (l := [x]) rfl rfl) (by simp) (by simp; omega) (by simp; omega)) rfl rfl ?_
      ((first|refine rG Γ hm ?_|refine rD Γ hm (by kernel_rfl) ?_);(conv=>whnf);repeat((first|refine aF ?_|refine aT ?_);(first|refine rG Γ hm ?_|refine rD Γ hm (by kernel_rfl) ?_);conv=>whnf))
      refine ⟨by unfold I64; omega, ?_⟩
      ((conv=>whnf);repeat((first|refine aF ?_|refine aT ?_);(first|refine rG Γ hm ?_|refine rD Γ hm (by kernel_rfl) ?_);conv=>whnf))
      exact G_nextP [(1000, 45)] hI0 (by omega) hI ⟨⟨rfl, rfl, rfl, rfl, rfl, rfl, rfl, rfl, rfl, rfl, trivial⟩, ⟨.inl (congrArg (Ob.row 6 stepSV) hsucc), rfl, .inl rfl, rfl, .inl rfl, rfl, trivial⟩, rfl, rfl⟩
  · have hje : j = rows.length := by have := of_decide_eq_false h; omega
    subst hje
    rw [List.drop_length, parseGo] at hI
    rw [hI] at hres
    generalize (rows.take rows.length).map (fun r => (stepT n r).1) = out at *
    subst hres
    refine G_data 1000 rfl ?_
    ((first|refine rG Γ hm ?_|refine rD Γ hm (by kernel_rfl) ?_);(conv=>whnf);repeat((first|refine aF ?_|refine aT ?_);(first|refine rG Γ hm ?_|refine rD Γ hm (by kernel_rfl) ?_);conv=>whnf))
    exact done rfl (.cons .tmp (.cons .tmp (.cons .tmp .nil))) [] [verbsO 900, manyO 901] (fun _ h => h) rfl rfl ⟨trivial, ⟨.inl rfl, rfl, .inl rfl, rfl, trivial⟩, rfl, rfl⟩

theorem ref39ParseS (n : Net) (hn : n.Fin) (hnm : Named n) (b : List UInt8) (hbl : b.length < 100000) :
    Sy.Spec Tryz.prog 12 [netSV n, .sl 1 byteSV b] [] (.tup [.sl 6 stepSV (parseT n b).1, intSV (parseT n b).2.1, intSV (parseT n b).2.2]) [] := contract Γ hm 100 F12 Tryz.ntmps12 rfl fun F hF => by
  have hres := parseT.eq_1 n b
  generalize parseT n b = res at *
  have hr := ref15RightS n hn
  have q0 := refRowsS b (by omega)
  have hrf := rowsT_facts b
  generalize rowsT b = rt at *
  obtain ⟨rows, re⟩ := rt
  dsimp only at hres q0 hrf
  obtain ⟨hrs, hrl, hre⟩ := hrf
  ((conv=>whnf);repeat((first|refine aF ?_|refine aT ?_);(first|refine rG Γ hm ?_|refine rD Γ hm (by kernel_rfl) ?_);conv=>whnf))
  refine call0 hr F20 rfl rfl rfl rfl rfl ?_
  cases hb : netRightB n
  · rw [if_pos hb] at hres
    subst hres
    ((first|refine rG Γ hm ?_|refine rD Γ hm (by kernel_rfl) ?_);(conv=>whnf);repeat((first|refine aF ?_|refine aT ?_);(first|refine rG Γ hm ?_|refine rD Γ hm (by kernel_rfl) ?_);conv=>whnf))
    refine G_nilsl 4 6 stepSV rfl ?_
    ((first|refine rG Γ hm ?_|refine rD Γ hm (by kernel_rfl) ?_);(conv=>whnf);repeat((first|refine aF ?_|refine aT ?_);(first|refine rG Γ hm ?_|refine rD Γ hm (by kernel_rfl) ?_);conv=>whnf))
    exact done0 rfl (.cons .tmp (.cons .tmp (.cons .tmp .nil))) rfl rfl
  rw [if_neg (by simp [hb])] at hres
  ((first|refine rG Γ hm ?_|refine rD Γ hm (by kernel_rfl) ?_);(conv=>whnf);repeat((first|refine aF ?_|refine aT ?_);(first|refine rG Γ hm ?_|refine rD Γ hm (by kernel_rfl) ?_);conv=>whnf))
  refine call0 q0 F24 rfl rfl rfl rfl rfl ?_
  refine G_box 2 8 (netSV n) rfl rfl rfl ?_
  ((first|refine rG Γ hm ?_|refine rD Γ hm (by kernel_rfl) ?_);(conv=>whnf);repeat((first|refine aF ?_|refine aT ?_);(first|refine rG Γ hm ?_|refine rD Γ hm (by kernel_rfl) ?_);conv=>whnf))
  refine ⟨fun h => ?_, fun h => ?_⟩
  · have h1 : re ≠ 0 := by simpa using h
    rw [if_pos h1] at hres
    subst hres
    ((first|refine rG Γ hm ?_|refine rD Γ hm (by kernel_rfl) ?_);(conv=>whnf);repeat((first|refine aF ?_|refine aT ?_);(first|refine rG Γ hm ?_|refine rD Γ hm (by kernel_rfl) ?_);conv=>whnf))
    refine G_nilsl 4 6 stepSV rfl ?_
    ((first|refine rG Γ hm ?_|refine rD Γ hm (by kernel_rfl) ?_);(conv=>whnf);repeat((first|refine aF ?_|refine aT ?_);(first|refine rG Γ hm ?_|refine rD Γ hm (by kernel_rfl) ?_);conv=>whnf))
    exact done0 rfl (.cons .tmp (.cons .tmp (.cons .tmp .nil))) rfl rfl
  have h1 : re = 0 := by simpa using h
  rw [if_neg (by simp [h1])] at hres
  ((first|refine rG Γ hm ?_|refine rD Γ hm (by kernel_rfl) ?_);(conv=>whnf);repeat((first|refine aF ?_|refine aT ?_);(first|refine rG Γ hm ?_|refine rD Γ hm (by kernel_rfl) ?_);conv=>whnf))
  refine G_adopt 9 1000 6 stepSV rfl rfl ?_
  refine G_countP rows.length (fun j => parseGo n 0 [] rows = parseGo n j ((rows.take j).map (fun r => (stepT n r).1)) (rows.drop j)) (fun j => [(2, .ref 8 (netSV n) 0), (7, .sl 1 strSV rows), (9, .osl 1000), (10, intSV j)])
    (fun j => [(1000, .row 6 stepSV ((rows.take j).map (fun r => (stepT n r).1)))]) [] rfl
    ⟨⟨rfl, rfl, rfl, rfl, rfl, rfl, rfl, rfl, trivial⟩, ⟨.inl rfl, rfl, trivial⟩, rfl, rfl⟩ ?_
  intro j hj hI
  have hll : ((rows.take j).map (fun r => (stepT n r).1)).length = j := by rw [List.length_map, List.length_take]; omega
  ((first|refine rG Γ hm ?_|refine rD Γ hm (by kernel_rfl) ?_);(conv=>whnf);repeat((first|refine aF ?_|refine aT ?_);(first|refine rG Γ hm ?_|refine rD Γ hm (by kernel_rfl) ?_);conv=>whnf))
  refine ⟨fun h => ?_, fun h => ?_⟩
  · have hlt : j < rows.length := by have := of_decide_eq_true h; omega
    have hj0 : ((j : Nat) : Int).toNat < rows.length := by simpa using hlt
    have hdr : rows.drop j = rows[j] :: rows.drop (j + 1) := List.drop_eq_getElem_cons hlt
    have hsucc : (rows.take (j + 1)).map (fun r => (stepT n r).1) = (rows.take j).map (fun r => (stepT n r).1) ++ [(stepT n rows[j]).1] := by rw [List.take_succ_eq_append_getElem hlt, List.map_append]; rfl
    have hsz := hrs _ (List.getElem_mem hlt)
    have hI0 := hI
    rw [hdr, parseGo] at hI
    rw [← hsucc] at hI
    obtain ⟨r, hx⟩ : ∃ r, rows[((j : Nat) : Int).toNat]'hj0 = r := ⟨_, rfl⟩
    have hx' : rows[j] = r := hx
    rw [hx'] at hsucc hI hsz
    have q := ref39StepS n hn hb hnm r (by omega)
    obtain ⟨out, ho⟩ : ∃ out, (rows.take j).map (fun r => (stepT n r).1) = out := ⟨_, rfl⟩
    rw [ho] at hsucc hll ⊢
    obtain ⟨⟨x, e⟩, hxe⟩ : ∃ p, stepT n r = p := ⟨_, rfl⟩
    rw [hxe] at hsucc hI q
    dsimp only at hsucc hI q
    ((first|refine rG Γ hm ?_|refine rD Γ hm (by kernel_rfl) ?_);(conv=>whnf);repeat((first|refine aF ?_|refine aT ?_);(first|refine rG Γ hm ?_|refine rD Γ hm (by kernel_rfl) ?_);conv=>whnf))
    refine ⟨rfl, by omega, hj0, ?_⟩
    rw [hx]
    ((conv=>whnf);repeat((first|refine aF ?_|refine aT ?_);(first|refine rG Γ hm ?_|refine rD Γ hm (by kernel_rfl) ?_);conv=>whnf))
    refine callD0 q F25 rfl rfl rfl (by kernel_rfl) rfl ?_
    ((first|refine rG Γ hm ?_|refine rD Γ hm (by kernel_rfl) ?_);(conv=>whnf);repeat((first|refine aF ?_|refine aT ?_);(first|refine rG Γ hm ?_|refine rD Γ hm (by kernel_rfl) ?_);conv=>whnf))
    refine ⟨(by kernel_rfl), ?_⟩
    ((conv=>whnf);repeat((first|refine aF ?_|refine aT ?_);(first|refine rG Γ hm ?_|refine rD Γ hm (by kernel_rfl) ?_);conv=>whnf))
    refine ⟨fun h2 => ?_, fun h2 => ?_⟩
    · have h3 : e ≠ 0 := by simpa using h2
      rw [if_neg h3] at hI
      rw [hI] at hres
      subst hres
      ((first|refine rG Γ hm ?_|refine rD Γ hm (by kernel_rfl) ?_);(conv=>whnf);repeat((first|refine aF ?_|refine aT ?_);(first|refine rG Γ hm ?_|refine rD Γ hm (by kernel_rfl) ?_);conv=>whnf))
      refine ⟨by unfold I64; omega, ?_⟩
      ((conv=>whnf);repeat((first|refine aF ?_|refine aT ?_);(first|refine rG Γ hm ?_|refine rD Γ hm (by kernel_rfl) ?_);conv=>whnf))
      refine G_nilsl 4 6 stepSV rfl ?_
      exact done0 rfl (.cons .tmp (.cons .tmp (.cons .tmp .nil))) rfl rfl
    · have h3 : e = 0 := by simpa using h2
      rw [if_pos h3] at hI
      ((first|refine rG Γ hm ?_|refine rD Γ hm (by kernel_rfl) ?_);(conv=>whnf);repeat((first|refine aF ?_|refine aT ?_);(first|refine rG Γ hm ?_|refine rD Γ hm (by kernel_rfl) ?_);conv=>whnf))
      refine stepOp (good_appendT Γ.toTy 47 rfl rfl rfl rfl rfl (.row rfl) (.lit (e := stepSV) (l := [x]) rfl rfl) (by simp) (by simp; omega) (by simp; omega)) rfl rfl ?_
      ((first|refine rG Γ hm ?_|refine rD Γ hm (by kernel_rfl) ?_);(conv=>whnf);repeat((first|refine aF ?_|refine aT ?_);(first|refine rG Γ hm ?_|refine rD Γ hm (by kernel_rfl) ?_);conv=>whnf))
      refine ⟨by unfold I64; omega, ?_⟩
      ((conv=>whnf);repeat((first|refine aF ?_|refine aT ?_);(first|refine rG Γ hm ?_|refine rD Γ hm (by kernel_rfl) ?_);conv=>whnf))
      exact G_nextP [(1000, 47)] hI0 (by omega) hI ⟨⟨rfl, rfl, rfl, rfl, rfl, rfl, rfl, rfl, trivial⟩, ⟨.inl (congrArg (Ob.row 6 stepSV) hsucc), rfl, trivial⟩, rfl, rfl⟩
  · have hje : j = rows.length := by have := of_decide_eq_false h; omega
    subst hje
    rw [List.drop_length, parseGo] at hI
    rw [hI] at hres
    generalize (rows.take rows.length).map (fun r => (stepT n r).1) = out at *
    subst hres
    refine G_data 1000 rfl ?_
    ((first|refine rG Γ hm ?_|refine rD Γ hm (by kernel_rfl) ?_);(conv=>whnf);repeat((first|refine aF ?_|refine aT ?_);(first|refine rG Γ hm ?_|refine rD Γ hm (by kernel_rfl) ?_);conv=>whnf))
    exact done0 rfl (.cons .tmp (.cons .tmp (.cons .tmp .nil))) rfl rfl

def great33X (x : StepM) : Bool := decide (2000 < x.bytes.length) || decide (60 < x.up.length)
def great33B (l : List StepM) : Bool := decide (60 < l.length) || l.any great33X

theorem great33S (l : List StepM) : Sy.Spec Tryz.prog 7 [.sl 6 stepSV l] [] (boolSV (great33B l)) [] := contract Γ hm 100 F7 Tryz.ntmps7 rfl fun F hF => by
  have hres := great33B.eq_1 l
  generalize great33B l = res at *
  ((conv=>whnf);repeat((first|refine aF ?_|refine aT ?_);(first|refine rG Γ hm ?_|refine rD Γ hm (by kernel_rfl) ?_);conv=>whnf))
  refine ⟨fun h => ?_, fun h => ?_⟩
  · rw [decide_eq_true (by have := of_decide_eq_true h; omega), Bool.true_or] at hres
    subst hres
    ((first|refine rG Γ hm ?_|refine rD Γ hm (by kernel_rfl) ?_);(conv=>whnf);repeat((first|refine aF ?_|refine aT ?_);(first|refine rG Γ hm ?_|refine rD Γ hm (by kernel_rfl) ?_);conv=>whnf))
    exact done0 rfl (.cons .tmp .nil) rfl rfl
  have hl : l.length ≤ 60 := by have := of_decide_eq_false h; omega
  rw [decide_eq_false (by omega), Bool.false_or] at hres
  ((first|refine rG Γ hm ?_|refine rD Γ hm (by kernel_rfl) ?_);(conv=>whnf);repeat((first|refine aF ?_|refine aT ?_);(first|refine rG Γ hm ?_|refine rD Γ hm (by kernel_rfl) ?_);conv=>whnf))
  refine G_countP l.length (fun j => Upto (fun _ x => !(great33X x)) l j) (fun j => [(0, .sl 6 stepSV l), (3, intSV j)]) (fun _ => []) [] (upto_zero _ _) ⟨⟨rfl, rfl, rfl, rfl, trivial⟩, trivial, rfl, rfl⟩ ?_
  intro j hj hI
  ((first|refine rG Γ hm ?_|refine rD Γ hm (by kernel_rfl) ?_);(conv=>whnf);repeat((first|refine aF ?_|refine aT ?_);(first|refine rG Γ hm ?_|refine rD Γ hm (by kernel_rfl) ?_);conv=>whnf))
  refine ⟨fun h => ?_, fun h => ?_⟩
  · have hlt : j < l.length := by have := of_decide_eq_true h; omega
    have hj0 : ((j : Nat) : Int).toNat < l.length := by simpa using hlt
    have hat := fun h => @any_at2 _ great33X l j hlt h
    have hnx := fun h => upto_next (p := fun _ x => !(great33X x)) hI hlt h
    obtain ⟨x, hx⟩ : ∃ x, l[((j : Nat) : Int).toNat]'hj0 = x := ⟨_, rfl⟩
    have hx' : l[j] = x := hx
    rw [hx'] at hat hnx
    ((first|refine rG Γ hm ?_|refine rD Γ hm (by kernel_rfl) ?_);(conv=>whnf);repeat((first|refine aF ?_|refine aT ?_);(first|refine rG Γ hm ?_|refine rD Γ hm (by kernel_rfl) ?_);conv=>whnf))
    refine ⟨rfl, by omega, hj0, ?_⟩
    rw [hx]
    ((conv=>whnf);repeat((first|refine aF ?_|refine aT ?_);(first|refine rG Γ hm ?_|refine rD Γ hm (by kernel_rfl) ?_);conv=>whnf))
    refine ⟨fun h => ?_, fun h => ?_⟩
    · rw [hat (by rw [great33X, decide_eq_true (by have := of_decide_eq_true h; omega), Bool.true_or])] at hres
      subst hres
      ((first|refine rG Γ hm ?_|refine rD Γ hm (by kernel_rfl) ?_);(conv=>whnf);repeat((first|refine aF ?_|refine aT ?_);(first|refine rG Γ hm ?_|refine rD Γ hm (by kernel_rfl) ?_);conv=>whnf))
      exact done0 rfl (.cons .tmp .nil) rfl rfl
    have h1 := of_decide_eq_false h
    ((first|refine rG Γ hm ?_|refine rD Γ hm (by kernel_rfl) ?_);(conv=>whnf);repeat((first|refine aF ?_|refine aT ?_);(first|refine rG Γ hm ?_|refine rD Γ hm (by kernel_rfl) ?_);conv=>whnf))
    refine ⟨rfl, by omega, hj0, ?_⟩
    rw [hx]
    ((conv=>whnf);repeat((first|refine aF ?_|refine aT ?_);(first|refine rG Γ hm ?_|refine rD Γ hm (by kernel_rfl) ?_);conv=>whnf))
    refine ⟨fun h => ?_, fun h => ?_⟩
    · rw [hat (by rw [great33X, decide_eq_true (by have := of_decide_eq_true h; omega : 60 < x.up.length), Bool.or_true])] at hres
      subst hres
      ((first|refine rG Γ hm ?_|refine rD Γ hm (by kernel_rfl) ?_);(conv=>whnf);repeat((first|refine aF ?_|refine aT ?_);(first|refine rG Γ hm ?_|refine rD Γ hm (by kernel_rfl) ?_);conv=>whnf))
      exact done0 rfl (.cons .tmp .nil) rfl rfl
    have h2 := of_decide_eq_false h
    ((first|refine rG Γ hm ?_|refine rD Γ hm (by kernel_rfl) ?_);(conv=>whnf);repeat((first|refine aF ?_|refine aT ?_);(first|refine rG Γ hm ?_|refine rD Γ hm (by kernel_rfl) ?_);conv=>whnf))
    refine ⟨by unfold I64; omega, ?_⟩
    ((conv=>whnf);repeat((first|refine aF ?_|refine aT ?_);(first|refine rG Γ hm ?_|refine rD Γ hm (by kernel_rfl) ?_);conv=>whnf))
    exact G_nextP [] hI (by omega) (hnx (by rw [great33X, decide_eq_false (by omega), decide_eq_false (by omega)]; rfl)) ⟨⟨rfl, rfl, rfl, rfl, trivial⟩, trivial, rfl, rfl⟩
  · have hje : j = l.length := by have := of_decide_eq_false h; omega
    subst hje
    rw [any_upto2 hI (Nat.le_refl _)] at hres
    subst hres
    ((first|refine rG Γ hm ?_|refine rD Γ hm (by kernel_rfl) ?_);(conv=>whnf);repeat((first|refine aF ?_|refine aT ?_);(first|refine rG Γ hm ?_|refine rD Γ hm (by kernel_rfl) ?_);conv=>whnf))
    exact done0 rfl (.cons .tmp .nil) rfl rfl

theorem great33_facts {l : List StepM} (h : great33B l = false) : l.length ≤ 60 ∧ ∀ x ∈ l, x.bytes.length ≤ 2000 ∧ x.up.length ≤ 60 := by
  simp only [great33B, great33X, Bool.or_eq_false_iff, decide_eq_false_iff_not, List.any_eq_false, Bool.or_eq_true, decide_eq_true_eq] at h
  refine ⟨by omega, fun x hx => ?_⟩
  have := h.2 x hx
  omega

end Go.Sy.YtjomehmhkcnadaaGreatDoor

namespace Go.Sy.YtjomehmhkcnadaaGreatDoor
open Go.Proofs
-- SIMP: placeB
-- OM: decide

attribute [local irreducible] Go.Sy.G Go.Sy.DR
set_option maxRecDepth 20000
set_option maxHeartbeats 4000000

theorem great1 {n : Net} (h : n.ports.any (fun p => decide (100 < p.tagged.length)) = true) : greatB n = true := by simp only [greatB, h, Bool.or_true, Bool.true_or]
theorem great2 {n : Net} (h : n.domains.any (fun p => decide (100 < p.peers.length)) = true) : greatB n = true := by simp only [greatB, h, Bool.or_true, Bool.true_or]
theorem great3 {n : Net} (h : n.floods.any (fun p => decide (100 < p.addrs.length)) = true) : greatB n = true := by simp only [greatB, h, Bool.or_true, Bool.true_or]
theorem great4 {n : Net} (h : n.vrfs.any (fun v => decide (100 < v.imports.length) || decide (100 < v.exports.length)) = true) : greatB n = true := by simp only [greatB, h, Bool.or_true]

theorem greatS (n : Net) : Sy.Spec Tryz.prog 5 [netSV n] [] (boolSV (greatB n)) [] := contract Γ hm 100 F5 Tryz.ntmps5 rfl fun F hF => by
  ((conv=>whnf);repeat((first|refine aF ?_|refine aT ?_);(first|refine rG Γ hm ?_|refine rD Γ hm (by kernel_rfl) ?_);conv=>whnf))
  (repeat' (first | (refine ⟨fun h => ?_, fun h => ?_⟩ <;> (repeat (first | (simp only [placeB] at h) | (simp only [decide_eq_true_eq] at h) | (simp only [decide_eq_false_iff_not] at h) | (simp only [beq_iff_eq] at h) | (simp only [beq_eq_false_iff_ne] at h) | (simp only [bne_iff_ne] at h) | (simp only [bne_eq_false_iff_eq] at h) | (simp only [Bool.and_eq_true] at h) | (simp only [Bool.or_eq_true] at h) | (simp only [Bool.and_eq_false_iff] at h) | (simp only [Bool.or_eq_false_iff] at h) | (simp only [Bool.not_eq_true'] at h) | (simp only [Bool.not_eq_false'] at h) | (simp only [Bool.not_eq_eq_eq_not] at h) | (simp only [Bool.not_true] at h) | (simp only [Bool.not_false] at h))) <;> ((first|refine rG Γ hm ?_|refine rD Γ hm (by kernel_rfl) ?_);(conv=>whnf);repeat((first|refine aF ?_|refine aT ?_);(first|refine rG Γ hm ?_|refine rD Γ hm (by kernel_rfl) ?_);conv=>whnf))) | (refine done0 rfl (.cons .tmp .nil) ?_ rfl) | (refine ⟨(by kernel_rfl), ?_⟩; ((conv=>whnf);repeat((first|refine aF ?_|refine aT ?_);(first|refine rG Γ hm ?_|refine rD Γ hm (by kernel_rfl) ?_);conv=>whnf))) | (refine ⟨by (first | (unfold I64; omega) | omega | (simp only [Int.toNat_natCast]; omega) | decide), by (first | (unfold I64; omega) | omega | (simp only [Int.toNat_natCast]; omega) | decide), ?_⟩; ((conv=>whnf);repeat((first|refine aF ?_|refine aT ?_);(first|refine rG Γ hm ?_|refine rD Γ hm (by kernel_rfl) ?_);conv=>whnf))) | (refine ⟨by (first | (unfold I64; omega) | omega | (simp only [Int.toNat_natCast]; omega) | decide), ?_⟩; ((conv=>whnf);repeat((first|refine aF ?_|refine aT ?_);(first|refine rG Γ hm ?_|refine rD Γ hm (by kernel_rfl) ?_);conv=>whnf)))))
  all_goals first
    | (refine congrArg boolSV ?_; clear hF; grind [greatB])
    | skip
  have l1 : n.ports.length ≤ 200 := by omega
  have l2 : n.domains.length ≤ 200 := by omega
  have l3 : n.floods.length ≤ 200 := by omega
  have l4 : n.vrfs.length ≤ 200 := by omega
  refine G_box 1 8 (netSV n) rfl rfl rfl ?_
  refine G_countP n.ports.length (fun j => Upto (fun _ p => !(decide (100 < p.tagged.length))) n.ports j) (fun j => [(1, .ref 8 (netSV n) 0), (3, intSV j)]) (fun _ => []) [] (upto_zero _ _) ⟨⟨rfl, rfl, rfl, rfl, trivial⟩, trivial, rfl, rfl⟩ ?_
  intro j hj hI
  ((first|refine rG Γ hm ?_|refine rD Γ hm (by kernel_rfl) ?_);(conv=>whnf);repeat((first|refine aF ?_|refine aT ?_);(first|refine rG Γ hm ?_|refine rD Γ hm (by kernel_rfl) ?_);conv=>whnf))
  refine ⟨fun h => ?_, fun h => ?_⟩
  · have hjl : j < n.ports.length := by simpa using h
    ((first|refine rG Γ hm ?_|refine rD Γ hm (by kernel_rfl) ?_);(conv=>whnf);repeat((first|refine aF ?_|refine aT ?_);(first|refine rG Γ hm ?_|refine rD Γ hm (by kernel_rfl) ?_);conv=>whnf))
    (repeat' (first | (refine ⟨fun h => ?_, fun h => ?_⟩ <;> (repeat (first | (simp only [placeB] at h) | (simp only [decide_eq_true_eq] at h) | (simp only [decide_eq_false_iff_not] at h) | (simp only [beq_iff_eq] at h) | (simp only [beq_eq_false_iff_ne] at h) | (simp only [bne_iff_ne] at h) | (simp only [bne_eq_false_iff_eq] at h) | (simp only [Bool.and_eq_true] at h) | (simp only [Bool.or_eq_true] at h) | (simp only [Bool.and_eq_false_iff] at h) | (simp only [Bool.or_eq_false_iff] at h) | (simp only [Bool.not_eq_true'] at h) | (simp only [Bool.not_eq_false'] at h) | (simp only [Bool.not_eq_eq_eq_not] at h) | (simp only [Bool.not_true] at h) | (simp only [Bool.not_false] at h))) <;> ((first|refine rG Γ hm ?_|refine rD Γ hm (by kernel_rfl) ?_);(conv=>whnf);repeat((first|refine aF ?_|refine aT ?_);(first|refine rG Γ hm ?_|refine rD Γ hm (by kernel_rfl) ?_);conv=>whnf))) | (refine done0 rfl (.cons .tmp .nil) ?_ rfl) | (refine ⟨(by kernel_rfl), ?_⟩; ((conv=>whnf);repeat((first|refine aF ?_|refine aT ?_);(first|refine rG Γ hm ?_|refine rD Γ hm (by kernel_rfl) ?_);conv=>whnf))) | (refine ⟨by (first | (unfold I64; omega) | omega | (simp only [Int.toNat_natCast]; omega) | decide), by (first | (unfold I64; omega) | omega | (simp only [Int.toNat_natCast]; omega) | decide), ?_⟩; ((conv=>whnf);repeat((first|refine aF ?_|refine aT ?_);(first|refine rG Γ hm ?_|refine rD Γ hm (by kernel_rfl) ?_);conv=>whnf))) | (refine ⟨by (first | (unfold I64; omega) | omega | (simp only [Int.toNat_natCast]; omega) | decide), ?_⟩; ((conv=>whnf);repeat((first|refine aF ?_|refine aT ?_);(first|refine rG Γ hm ?_|refine rD Γ hm (by kernel_rfl) ?_);conv=>whnf))) | (refine G_nextP [] hI hjl ?_ ⟨⟨rfl, rfl, rfl, rfl, trivial⟩, trivial, rfl, rfl⟩)))
    all_goals (simp only [Int.toNat_natCast] at *)
    · refine congrArg boolSV ?_
      exact great1 (any_true hjl (by simp; omega))
    · exact upto_next hI hjl (by simp; omega)
  have a1 : n.ports.any (fun p => decide (100 < p.tagged.length)) = false := any_false hI (by simpa using h)
  clear hI hj h
  ((first|refine rG Γ hm ?_|refine rD Γ hm (by kernel_rfl) ?_);(conv=>whnf);repeat((first|refine aF ?_|refine aT ?_);(first|refine rG Γ hm ?_|refine rD Γ hm (by kernel_rfl) ?_);conv=>whnf))
  refine G_countP n.domains.length (fun j => Upto (fun _ p => !(decide (100 < p.peers.length))) n.domains j) (fun j => [(1, .ref 8 (netSV n) 0), (4, intSV j)]) (fun _ => []) [] (upto_zero _ _) ⟨⟨rfl, rfl, rfl, rfl, trivial⟩, trivial, rfl, rfl⟩ ?_
  intro j hj hI
  ((first|refine rG Γ hm ?_|refine rD Γ hm (by kernel_rfl) ?_);(conv=>whnf);repeat((first|refine aF ?_|refine aT ?_);(first|refine rG Γ hm ?_|refine rD Γ hm (by kernel_rfl) ?_);conv=>whnf))
  refine ⟨fun h => ?_, fun h => ?_⟩
  · have hjl : j < n.domains.length := by simpa using h
    ((first|refine rG Γ hm ?_|refine rD Γ hm (by kernel_rfl) ?_);(conv=>whnf);repeat((first|refine aF ?_|refine aT ?_);(first|refine rG Γ hm ?_|refine rD Γ hm (by kernel_rfl) ?_);conv=>whnf))
    (repeat' (first | (refine ⟨fun h => ?_, fun h => ?_⟩ <;> (repeat (first | (simp only [placeB] at h) | (simp only [decide_eq_true_eq] at h) | (simp only [decide_eq_false_iff_not] at h) | (simp only [beq_iff_eq] at h) | (simp only [beq_eq_false_iff_ne] at h) | (simp only [bne_iff_ne] at h) | (simp only [bne_eq_false_iff_eq] at h) | (simp only [Bool.and_eq_true] at h) | (simp only [Bool.or_eq_true] at h) | (simp only [Bool.and_eq_false_iff] at h) | (simp only [Bool.or_eq_false_iff] at h) | (simp only [Bool.not_eq_true'] at h) | (simp only [Bool.not_eq_false'] at h) | (simp only [Bool.not_eq_eq_eq_not] at h) | (simp only [Bool.not_true] at h) | (simp only [Bool.not_false] at h))) <;> ((first|refine rG Γ hm ?_|refine rD Γ hm (by kernel_rfl) ?_);(conv=>whnf);repeat((first|refine aF ?_|refine aT ?_);(first|refine rG Γ hm ?_|refine rD Γ hm (by kernel_rfl) ?_);conv=>whnf))) | (refine done0 rfl (.cons .tmp .nil) ?_ rfl) | (refine ⟨(by kernel_rfl), ?_⟩; ((conv=>whnf);repeat((first|refine aF ?_|refine aT ?_);(first|refine rG Γ hm ?_|refine rD Γ hm (by kernel_rfl) ?_);conv=>whnf))) | (refine ⟨by (first | (unfold I64; omega) | omega | (simp only [Int.toNat_natCast]; omega) | decide), by (first | (unfold I64; omega) | omega | (simp only [Int.toNat_natCast]; omega) | decide), ?_⟩; ((conv=>whnf);repeat((first|refine aF ?_|refine aT ?_);(first|refine rG Γ hm ?_|refine rD Γ hm (by kernel_rfl) ?_);conv=>whnf))) | (refine ⟨by (first | (unfold I64; omega) | omega | (simp only [Int.toNat_natCast]; omega) | decide), ?_⟩; ((conv=>whnf);repeat((first|refine aF ?_|refine aT ?_);(first|refine rG Γ hm ?_|refine rD Γ hm (by kernel_rfl) ?_);conv=>whnf))) | (refine G_nextP [] hI hjl ?_ ⟨⟨rfl, rfl, rfl, rfl, trivial⟩, trivial, rfl, rfl⟩)))
    all_goals (simp only [Int.toNat_natCast] at *)
    · refine congrArg boolSV ?_
      exact great2 (any_true hjl (by simp; omega))
    · exact upto_next hI hjl (by simp; omega)
  have a2 : n.domains.any (fun p => decide (100 < p.peers.length)) = false := any_false hI (by simpa using h)
  clear hI hj h
  ((first|refine rG Γ hm ?_|refine rD Γ hm (by kernel_rfl) ?_);(conv=>whnf);repeat((first|refine aF ?_|refine aT ?_);(first|refine rG Γ hm ?_|refine rD Γ hm (by kernel_rfl) ?_);conv=>whnf))
  refine G_countP n.floods.length (fun j => Upto (fun _ p => !(decide (100 < p.addrs.length))) n.floods j) (fun j => [(1, .ref 8 (netSV n) 0), (5, intSV j)]) (fun _ => []) [] (upto_zero _ _) ⟨⟨rfl, rfl, rfl, rfl, trivial⟩, trivial, rfl, rfl⟩ ?_
  intro j hj hI
  ((first|refine rG Γ hm ?_|refine rD Γ hm (by kernel_rfl) ?_);(conv=>whnf);repeat((first|refine aF ?_|refine aT ?_);(first|refine rG Γ hm ?_|refine rD Γ hm (by kernel_rfl) ?_);conv=>whnf))
  refine ⟨fun h => ?_, fun h => ?_⟩
  · have hjl : j < n.floods.length := by simpa using h
    ((first|refine rG Γ hm ?_|refine rD Γ hm (by kernel_rfl) ?_);(conv=>whnf);repeat((first|refine aF ?_|refine aT ?_);(first|refine rG Γ hm ?_|refine rD Γ hm (by kernel_rfl) ?_);conv=>whnf))
    (repeat' (first | (refine ⟨fun h => ?_, fun h => ?_⟩ <;> (repeat (first | (simp only [placeB] at h) | (simp only [decide_eq_true_eq] at h) | (simp only [decide_eq_false_iff_not] at h) | (simp only [beq_iff_eq] at h) | (simp only [beq_eq_false_iff_ne] at h) | (simp only [bne_iff_ne] at h) | (simp only [bne_eq_false_iff_eq] at h) | (simp only [Bool.and_eq_true] at h) | (simp only [Bool.or_eq_true] at h) | (simp only [Bool.and_eq_false_iff] at h) | (simp only [Bool.or_eq_false_iff] at h) | (simp only [Bool.not_eq_true'] at h) | (simp only [Bool.not_eq_false'] at h) | (simp only [Bool.not_eq_eq_eq_not] at h) | (simp only [Bool.not_true] at h) | (simp only [Bool.not_false] at h))) <;> ((first|refine rG Γ hm ?_|refine rD Γ hm (by kernel_rfl) ?_);(conv=>whnf);repeat((first|refine aF ?_|refine aT ?_);(first|refine rG Γ hm ?_|refine rD Γ hm (by kernel_rfl) ?_);conv=>whnf))) | (refine done0 rfl (.cons .tmp .nil) ?_ rfl) | (refine ⟨(by kernel_rfl), ?_⟩; ((conv=>whnf);repeat((first|refine aF ?_|refine aT ?_);(first|refine rG Γ hm ?_|refine rD Γ hm (by kernel_rfl) ?_);conv=>whnf))) | (refine ⟨by (first | (unfold I64; omega) | omega | (simp only [Int.toNat_natCast]; omega) | decide), by (first | (unfold I64; omega) | omega | (simp only [Int.toNat_natCast]; omega) | decide), ?_⟩; ((conv=>whnf);repeat((first|refine aF ?_|refine aT ?_);(first|refine rG Γ hm ?_|refine rD Γ hm (by kernel_rfl) ?_);conv=>whnf))) | (refine ⟨by (first | (unfold I64; omega) | omega | (simp only [Int.toNat_natCast]; omega) | decide), ?_⟩; ((conv=>whnf);repeat((first|refine aF ?_|refine aT ?_);(first|refine rG Γ hm ?_|refine rD Γ hm (by kernel_rfl) ?_);conv=>whnf))) | (refine G_nextP [] hI hjl ?_ ⟨⟨rfl, rfl, rfl, rfl, trivial⟩, trivial, rfl, rfl⟩)))
    all_goals (simp only [Int.toNat_natCast] at *)
    · refine congrArg boolSV ?_
      exact great3 (any_true hjl (by simp; omega))
    · exact upto_next hI hjl (by simp; omega)
  have a3 : n.floods.any (fun p => decide (100 < p.addrs.length)) = false := any_false hI (by simpa using h)
  clear hI hj h
  ((first|refine rG Γ hm ?_|refine rD Γ hm (by kernel_rfl) ?_);(conv=>whnf);repeat((first|refine aF ?_|refine aT ?_);(first|refine rG Γ hm ?_|refine rD Γ hm (by kernel_rfl) ?_);conv=>whnf))
  refine G_countP n.vrfs.length (fun j => Upto (fun _ v => !(decide (100 < v.imports.length) || decide (100 < v.exports.length))) n.vrfs j) (fun j => [(1, .ref 8 (netSV n) 0), (6, intSV j)]) (fun _ => []) [] (upto_zero _ _) ⟨⟨rfl, rfl, rfl, rfl, trivial⟩, trivial, rfl, rfl⟩ ?_
  intro j hj hI
  ((first|refine rG Γ hm ?_|refine rD Γ hm (by kernel_rfl) ?_);(conv=>whnf);repeat((first|refine aF ?_|refine aT ?_);(first|refine rG Γ hm ?_|refine rD Γ hm (by kernel_rfl) ?_);conv=>whnf))
  refine ⟨fun h => ?_, fun h => ?_⟩
  · have hjl : j < n.vrfs.length := by simpa using h
    ((first|refine rG Γ hm ?_|refine rD Γ hm (by kernel_rfl) ?_);(conv=>whnf);repeat((first|refine aF ?_|refine aT ?_);(first|refine rG Γ hm ?_|refine rD Γ hm (by kernel_rfl) ?_);conv=>whnf))
    (repeat' (first | (refine ⟨fun h => ?_, fun h => ?_⟩ <;> (repeat (first | (simp only [placeB] at h) | (simp only [decide_eq_true_eq] at h) | (simp only [decide_eq_false_iff_not] at h) | (simp only [beq_iff_eq] at h) | (simp only [beq_eq_false_iff_ne] at h) | (simp only [bne_iff_ne] at h) | (simp only [bne_eq_false_iff_eq] at h) | (simp only [Bool.and_eq_true] at h) | (simp only [Bool.or_eq_true] at h) | (simp only [Bool.and_eq_false_iff] at h) | (simp only [Bool.or_eq_false_iff] at h) | (simp only [Bool.not_eq_true'] at h) | (simp only [Bool.not_eq_false'] at h) | (simp only [Bool.not_eq_eq_eq_not] at h) | (simp only [Bool.not_true] at h) | (simp only [Bool.not_false] at h))) <;> ((first|refine rG Γ hm ?_|refine rD Γ hm (by kernel_rfl) ?_);(conv=>whnf);repeat((first|refine aF ?_|refine aT ?_);(first|refine rG Γ hm ?_|refine rD Γ hm (by kernel_rfl) ?_);conv=>whnf))) | (refine done0 rfl (.cons .tmp .nil) ?_ rfl) | (refine ⟨(by kernel_rfl), ?_⟩; ((conv=>whnf);repeat((first|refine aF ?_|refine aT ?_);(first|refine rG Γ hm ?_|refine rD Γ hm (by kernel_rfl) ?_);conv=>whnf))) | (refine ⟨by (first | (unfold I64; omega) | omega | (simp only [Int.toNat_natCast]; omega) | decide), by (first | (unfold I64; omega) | omega | (simp only [Int.toNat_natCast]; omega) | decide), ?_⟩; ((conv=>whnf);repeat((first|refine aF ?_|refine aT ?_);(first|refine rG Γ hm ?_|refine rD Γ hm (by kernel_rfl) ?_);conv=>whnf))) | (refine ⟨by (first | (unfold I64; omega) | omega | (simp only [Int.toNat_natCast]; omega) | decide), ?_⟩; ((conv=>whnf);repeat((first|refine aF ?_|refine aT ?_);(first|refine rG Γ hm ?_|refine rD Γ hm (by kernel_rfl) ?_);conv=>whnf))) | (refine G_nextP [] hI hjl ?_ ⟨⟨rfl, rfl, rfl, rfl, trivial⟩, trivial, rfl, rfl⟩)))
    all_goals (simp only [Int.toNat_natCast] at *)
    all_goals first
      | exact upto_next hI hjl (by simp; omega)
      | (refine congrArg boolSV ?_; exact great4 (any_true hjl (by simp; omega)))
  have a4 : n.vrfs.any (fun v => decide (100 < v.imports.length) || decide (100 < v.exports.length)) = false := any_false hI (by simpa using h)
  clear hI hj h
  ((first|refine rG Γ hm ?_|refine rD Γ hm (by kernel_rfl) ?_);(conv=>whnf);repeat((first|refine aF ?_|refine aT ?_);(first|refine rG Γ hm ?_|refine rD Γ hm (by kernel_rfl) ?_);conv=>whnf))
  refine done0 rfl (.cons .tmp .nil) (congrArg boolSV ?_) rfl
  rw [greatB, a1, a2, a3, a4]
  simp
  omega

def noNet : Net := ⟨[], [], [], [], [], [], [], []⟩
def dev1 (p : Int) : Device := ⟨0, p, .empty, 0, 0⟩
def exNet : Net := ⟨[dev1 32768, dev1 4096], [], [], [], [], [], [], []⟩

theorem fin_small (n : Net) (h : greatB n = false) : n.Fin := fin_of_great h
theorem exNet_fin : exNet.Fin := fin_of_great (by decide +kernel)
theorem noNet_fin : noNet.Fin := fin_of_great (by decide +kernel)

def leastV : Vec → List Vec → Vec
  | v, [] => v
  | v, x :: l => leastV (if lessV x v then x else v) l

def zeroV : Vec := ⟨0, 0, 0, 0, 0⟩
def leastR : List Vec → Vec × Bool
  | [] => (zeroV, false)
  | v :: l => (leastV v (v :: l), true)
end Go.Sy.YtjomehmhkcnadaaGreatDoor

namespace Go.Sy.YtjomehmhkcnadaaGreatDoor
open Go.Proofs

attribute [local irreducible] Go.Sy.G Go.Sy.DR
set_option maxRecDepth 100000
set_option maxHeartbeats 4000000

theorem bytes_beq (b : ByteArray) : (b == b) = true := by
  show (b.data == b.data) = true
  simp

def StepShort (x : StepM) : Prop := x.up.length < 100000

theorem stepsS (l : List StepM) (hl : l.length < 100000) (hs : ∀ x ∈ l, StepShort x) : Sy.Spec Tryz.prog 13 [.sl 6 stepSV l, .sl 6 stepSV l] [] (boolSV true) [] := contract Γ hm 100 F13 Tryz.ntmps13 rfl fun F hF => by
  ((conv=>whnf);repeat((first|refine aF ?_|refine aT ?_);(first|refine rG Γ hm ?_|refine rD Γ hm (by kernel_rfl) ?_);conv=>whnf))
  refine ⟨fun h => False.elim (by simp at h), fun _ => ?_⟩
  ((first|refine rG Γ hm ?_|refine rD Γ hm (by kernel_rfl) ?_);(conv=>whnf);repeat((first|refine aF ?_|refine aT ?_);(first|refine rG Γ hm ?_|refine rD Γ hm (by kernel_rfl) ?_);conv=>whnf))
  refine G_count l.length (fun j => [(0, .sl 6 stepSV l), (1, .sl 6 stepSV l), (5, intSV j)]) (fun _ => []) []
    ⟨⟨rfl, rfl, rfl, rfl, rfl, rfl, trivial⟩, trivial, rfl, rfl⟩ ?_
  intro j hj
  ((first|refine rG Γ hm ?_|refine rD Γ hm (by kernel_rfl) ?_);(conv=>whnf);repeat((first|refine aF ?_|refine aT ?_);(first|refine rG Γ hm ?_|refine rD Γ hm (by kernel_rfl) ?_);conv=>whnf))
  refine ⟨fun h => ?_, fun h => ?_⟩
  · have hlt : j < l.length := by simpa using h
    obtain ⟨x, hx⟩ : ∃ x, l[(j : Int).toNat]'(by omega) = x := ⟨_, rfl⟩
    have hxs : x.up.length < 100000 := by rw [← hx]; exact hs _ (List.getElem_mem _)
    ((first|refine rG Γ hm ?_|refine rD Γ hm (by kernel_rfl) ?_);(conv=>whnf);repeat((first|refine aF ?_|refine aT ?_);(first|refine rG Γ hm ?_|refine rD Γ hm (by kernel_rfl) ?_);conv=>whnf))
    refine ⟨rfl, by omega, by omega, ?_⟩
    rw [hx]
    ((conv=>whnf);repeat((first|refine aF ?_|refine aT ?_);(first|refine rG Γ hm ?_|refine rD Γ hm (by kernel_rfl) ?_);conv=>whnf))
    refine ⟨rfl, by omega, by omega, ?_⟩
    rw [hx]
    ((conv=>whnf);repeat((first|refine aF ?_|refine aT ?_);(first|refine rG Γ hm ?_|refine rD Γ hm (by kernel_rfl) ?_);conv=>whnf))
    refine ⟨(by kernel_rfl), ?_⟩
    ((conv=>whnf);repeat((first|refine aF ?_|refine aT ?_);(first|refine rG Γ hm ?_|refine rD Γ hm (by kernel_rfl) ?_);conv=>whnf))
    refine ⟨fun h => False.elim (by simp at h), fun _ => ?_⟩
    ((first|refine rG Γ hm ?_|refine rD Γ hm (by kernel_rfl) ?_);(conv=>whnf);repeat((first|refine aF ?_|refine aT ?_);(first|refine rG Γ hm ?_|refine rD Γ hm (by kernel_rfl) ?_);conv=>whnf))
    refine ⟨fun h => False.elim (by simp at h), fun _ => ?_⟩
    ((first|refine rG Γ hm ?_|refine rD Γ hm (by kernel_rfl) ?_);(conv=>whnf);repeat((first|refine aF ?_|refine aT ?_);(first|refine rG Γ hm ?_|refine rD Γ hm (by kernel_rfl) ?_);conv=>whnf))
    refine ⟨fun h => False.elim (by simp at h), fun _ => ?_⟩
    ((first|refine rG Γ hm ?_|refine rD Γ hm (by kernel_rfl) ?_);(conv=>whnf);repeat((first|refine aF ?_|refine aT ?_);(first|refine rG Γ hm ?_|refine rD Γ hm (by kernel_rfl) ?_);conv=>whnf))
    refine ⟨fun h => False.elim (by simp at h), fun _ => ?_⟩
    ((first|refine rG Γ hm ?_|refine rD Γ hm (by kernel_rfl) ?_);(conv=>whnf);repeat((first|refine aF ?_|refine aT ?_);(first|refine rG Γ hm ?_|refine rD Γ hm (by kernel_rfl) ?_);conv=>whnf))
    refine stepOp (good_stringT Γ.toTy (bs := x.bytes) rfl rfl rfl rfl rfl rfl rfl .sl) rfl rfl ?_
    ((first|refine rG Γ hm ?_|refine rD Γ hm (by kernel_rfl) ?_);(conv=>whnf);repeat((first|refine aF ?_|refine aT ?_);(first|refine rG Γ hm ?_|refine rD Γ hm (by kernel_rfl) ?_);conv=>whnf))
    refine stepOp (good_stringT Γ.toTy (bs := x.bytes) rfl rfl rfl rfl rfl rfl rfl .sl) rfl rfl ?_
    ((first|refine rG Γ hm ?_|refine rD Γ hm (by kernel_rfl) ?_);(conv=>whnf);repeat((first|refine aF ?_|refine aT ?_);(first|refine rG Γ hm ?_|refine rD Γ hm (by kernel_rfl) ?_);conv=>whnf))
    refine ⟨fun h => False.elim (by simp [bytes_beq] at h), fun _ => ?_⟩
    ((first|refine rG Γ hm ?_|refine rD Γ hm (by kernel_rfl) ?_);(conv=>whnf);repeat((first|refine aF ?_|refine aT ?_);(first|refine rG Γ hm ?_|refine rD Γ hm (by kernel_rfl) ?_);conv=>whnf))
    refine ⟨fun h => False.elim (by simp at h), fun _ => ?_⟩
    ((first|refine rG Γ hm ?_|refine rD Γ hm (by kernel_rfl) ?_);(conv=>whnf);repeat((first|refine aF ?_|refine aT ?_);(first|refine rG Γ hm ?_|refine rD Γ hm (by kernel_rfl) ?_);conv=>whnf))
    refine G_count x.up.length (fun k => [(0, .sl 6 stepSV l), (1, .sl 6 stepSV l), (5, intSV j), (6, .ptr 6 0), (7, .ptr 7 0), (8, intSV k)]) (fun _ => [(6, .box [intSV x.kind, intSV x.port, intSV x.domain, intSV x.at_, .sl 1 byteSV x.bytes, .sl 1 boolSV x.up]), (7, .box [intSV x.kind, intSV x.port, intSV x.domain, intSV x.at_, .sl 1 byteSV x.bytes, .sl 1 boolSV x.up])]) []
      ⟨⟨rfl, rfl, rfl, rfl, rfl, rfl, rfl, rfl, rfl, rfl, rfl, rfl, trivial⟩, ⟨.inl rfl, rfl, .inl rfl, rfl, trivial⟩, rfl, rfl⟩ ?_
    intro k hk
    ((first|refine rG Γ hm ?_|refine rD Γ hm (by kernel_rfl) ?_);(conv=>whnf);repeat((first|refine aF ?_|refine aT ?_);(first|refine rG Γ hm ?_|refine rD Γ hm (by kernel_rfl) ?_);conv=>whnf))
    refine ⟨fun h => ?_, fun h => ?_⟩
    · have hlt2 : k < x.up.length := by simpa using h
      obtain ⟨b, hb⟩ : ∃ b, x.up[(k : Int).toNat]'(by omega) = b := ⟨_, rfl⟩
      ((first|refine rG Γ hm ?_|refine rD Γ hm (by kernel_rfl) ?_);(conv=>whnf);repeat((first|refine aF ?_|refine aT ?_);(first|refine rG Γ hm ?_|refine rD Γ hm (by kernel_rfl) ?_);conv=>whnf))
      refine ⟨rfl, by omega, by omega, ?_⟩
      rw [hb]
      ((conv=>whnf);repeat((first|refine aF ?_|refine aT ?_);(first|refine rG Γ hm ?_|refine rD Γ hm (by kernel_rfl) ?_);conv=>whnf))
      refine ⟨rfl, by omega, by omega, ?_⟩
      rw [hb]
      ((conv=>whnf);repeat((first|refine aF ?_|refine aT ?_);(first|refine rG Γ hm ?_|refine rD Γ hm (by kernel_rfl) ?_);conv=>whnf))
      refine ⟨(by kernel_rfl), ?_⟩
      ((conv=>whnf);repeat((first|refine aF ?_|refine aT ?_);(first|refine rG Γ hm ?_|refine rD Γ hm (by kernel_rfl) ?_);conv=>whnf))
      refine ⟨fun h => False.elim (by simp at h), fun _ => ?_⟩
      ((first|refine rG Γ hm ?_|refine rD Γ hm (by kernel_rfl) ?_);(conv=>whnf);repeat((first|refine aF ?_|refine aT ?_);(first|refine rG Γ hm ?_|refine rD Γ hm (by kernel_rfl) ?_);conv=>whnf))
      refine ⟨by unfold I64; omega, ?_⟩
      ((conv=>whnf);repeat((first|refine aF ?_|refine aT ?_);(first|refine rG Γ hm ?_|refine rD Γ hm (by kernel_rfl) ?_);conv=>whnf))
      exact G_next [] hlt2 ⟨⟨rfl, rfl, rfl, rfl, rfl, rfl, rfl, rfl, rfl, rfl, rfl, rfl, trivial⟩, ⟨.inl rfl, rfl, .inl rfl, rfl, trivial⟩, rfl, rfl⟩
    · ((first|refine rG Γ hm ?_|refine rD Γ hm (by kernel_rfl) ?_);(conv=>whnf);repeat((first|refine aF ?_|refine aT ?_);(first|refine rG Γ hm ?_|refine rD Γ hm (by kernel_rfl) ?_);conv=>whnf))
      refine ⟨by unfold I64; omega, ?_⟩
      ((conv=>whnf);repeat((first|refine aF ?_|refine aT ?_);(first|refine rG Γ hm ?_|refine rD Γ hm (by kernel_rfl) ?_);conv=>whnf))
      exact G_next [] hlt ⟨⟨rfl, rfl, rfl, rfl, rfl, rfl, trivial⟩, trivial, rfl, rfl⟩
  · ((first|refine rG Γ hm ?_|refine rD Γ hm (by kernel_rfl) ?_);(conv=>whnf);repeat((first|refine aF ?_|refine aT ?_);(first|refine rG Γ hm ?_|refine rD Γ hm (by kernel_rfl) ?_);conv=>whnf))
    exact done0 rfl (.cons .tmp .nil) rfl rfl

def netM : Net := ⟨[⟨0, 0, ⟨#[97]⟩, 0, 0⟩], [⟨0, 0, 10, 0, -1, ⟨#[112]⟩, []⟩], [], [⟨0, 10, 0, -1, 0, []⟩], [], [], [], []⟩
theorem finM : netM.Fin := by
  constructor <;> first | (unfold Short; decide) | (intro x hx; unfold Short; simp only [netM, List.mem_cons, List.not_mem_nil, or_false] at hx; first | (subst hx; decide) | exact hx.elim)
theorem namedM : Named netM := by
  refine ⟨fun d hd => ?_, fun p hp => ?_⟩
  · simp only [netM, List.mem_cons, List.not_mem_nil, or_false] at hd
    subst hd
    decide
  · simp only [netM, List.mem_cons, List.not_mem_nil, or_false] at hp
    subst hp
    decide
def textM1 : List UInt8 := [105, 110, 106, 101, 99, 116, 32, 97, 46, 112, 32, 102, 102, 10, 112, 105, 99, 107, 32, 97, 47, 49, 48, 32, 48]
def textM2 : List UInt8 := [116, 105, 99, 107, 10, 119, 104, 97, 116]
def textM3 : List UInt8 := [105, 110, 106, 101, 99, 116, 32, 97, 46, 112, 32, 102, 102, 10, 112, 105, 99, 107, 32, 97, 47, 49, 48, 32, 48, 10]
def stepsM : List StepM := [⟨1, 0, 0, 0, [255], []⟩, ⟨2, 0, 0, 0, [], []⟩]
theorem parse_M1 : parseT netM textM1 = (stepsM, 0, 0) := by kernel_rfl
theorem parse_M2 : parseT netM textM2 = ([], 2, 22) := by kernel_rfl
theorem print_M : printT netM stepsM = (textM3, 0) := by kernel_rfl

theorem works39S : Sy.Spec Tryz.prog 8 [] [verbsO 900, manyO 901] (boolSV true) [verbsO 900, manyO 901] := contract Γ hm 100 F8 Tryz.ntmps8 rfl fun F hF => by
  have q1 := machineParseS netM finM namedM textM1 (by decide)
  have q2 := machinePrintS netM finM namedM stepsM (by decide) (fun x hx => by
    simp only [stepsM, List.mem_cons, List.not_mem_nil, or_false] at hx
    rcases hx with rfl | rfl <;> exact ⟨by unfold Word64; decide, by decide, by decide⟩)
  have q3 := machineParseS netM finM namedM textM2 (by decide)
  rw [parse_M1] at q1
  rw [print_M] at q2
  rw [parse_M2] at q3
  dsimp only at q1 q2 q3
  ((conv=>whnf);repeat((first|refine aF ?_|refine aT ?_);(first|refine rG Γ hm ?_|refine rD Γ hm (by kernel_rfl) ?_);conv=>whnf))
  refine G_retype 11 (e := deviceSV) (l := netM.devices) rfl rfl ?_
  refine G_data 11 rfl ?_
  refine G_retype 13 (e := portNil) (l := netM.ports) rfl rfl ?_
  refine G_recode 13 (e' := portSV) (l' := netM.ports) rfl rfl (fun M w i h1 h2 v hv => ?_) ?_
  · show RdD M w (portSV netM.ports[i]) v
    have hv : RdD M w (portNil netM.ports[i]) v := hv
    refine portNil_rd (netM.ports[i]) ?_ hv
    exact (by decide : ∀ p ∈ netM.ports, p.tagged = []) _ (List.getElem_mem _)
  refine G_data 13 rfl ?_
  refine G_retype 15 (e := domNil) (l := netM.domains) rfl rfl ?_
  refine G_recode 15 (e' := domainSV) (l' := netM.domains) rfl rfl (fun M w i h1 h2 v hv => ?_) ?_
  · show RdD M w (domainSV netM.domains[i]) v
    have hv : RdD M w (domNil netM.domains[i]) v := hv
    refine domNil_rd (netM.domains[i]) ?_ hv
    exact (by decide : ∀ p ∈ netM.domains, p.peers = []) _ (List.getElem_mem _)
  refine G_data 15 rfl ?_
  refine stepOp (good_convert_mark Γ.toTy rfl rfl rfl rfl rfl rfl rfl) rfl rfl ?_
  refine G_retype 19 (e := byteSV) (l := textM1) rfl rfl ?_
  refine G_data 19 rfl ?_
  refine G_vw 18 (netSV netM) (.agg (.cons (.refl _) (.cons (.refl _) (.cons .nil (.cons (.refl _) (.cons .nil (.cons .nil (.cons .nil (.cons .nil .nil))))))))) ?_
  ((first|refine rG Γ hm ?_|refine rD Γ hm (by kernel_rfl) ?_);(conv=>whnf);repeat((first|refine aF ?_|refine aT ?_);(first|refine rG Γ hm ?_|refine rD Γ hm (by kernel_rfl) ?_);conv=>whnf))
  refine stepOp (good_call [(900, 900), (901, 901)] rfl F11 q1 rfl ⟨rfl, rfl, trivial⟩ rfl ⟨.inl rfl, .inl rfl, trivial⟩) rfl rfl ?_
  ((first|refine rG Γ hm ?_|refine rD Γ hm (by kernel_rfl) ?_);(conv=>whnf);repeat((first|refine aF ?_|refine aT ?_);(first|refine rG Γ hm ?_|refine rD Γ hm (by kernel_rfl) ?_);conv=>whnf))
  refine G_vw 26 (netSV netM) (.agg (.cons (.refl _) (.cons (.refl _) (.cons .nil (.cons (.refl _) (.cons .nil (.cons .nil (.cons .nil (.cons .nil .nil))))))))) ?_
  refine stepOp (good_call [(900, 900)] rfl F9 q2 rfl ⟨rfl, trivial⟩ rfl ⟨.inl rfl, trivial⟩) rfl rfl ?_
  ((first|refine rG Γ hm ?_|refine rD Γ hm (by kernel_rfl) ?_);(conv=>whnf);repeat((first|refine aF ?_|refine aT ?_);(first|refine rG Γ hm ?_|refine rD Γ hm (by kernel_rfl) ?_);conv=>whnf))
  refine stepOp (good_convert_mark Γ.toTy rfl rfl rfl rfl rfl rfl rfl) rfl rfl ?_
  refine G_retype 33 (e := byteSV) (l := textM2) rfl rfl ?_
  refine G_data 33 rfl ?_
  refine G_vw 32 (netSV netM) (.agg (.cons (.refl _) (.cons (.refl _) (.cons .nil (.cons (.refl _) (.cons .nil (.cons .nil (.cons .nil (.cons .nil .nil))))))))) ?_
  ((first|refine rG Γ hm ?_|refine rD Γ hm (by kernel_rfl) ?_);(conv=>whnf);repeat((first|refine aF ?_|refine aT ?_);(first|refine rG Γ hm ?_|refine rD Γ hm (by kernel_rfl) ?_);conv=>whnf))
  refine stepOp (good_call [(900, 900), (901, 901)] rfl F11 q3 rfl ⟨rfl, rfl, trivial⟩ rfl ⟨.inl rfl, .inl rfl, trivial⟩) rfl rfl ?_
  ((first|refine rG Γ hm ?_|refine rD Γ hm (by kernel_rfl) ?_);(conv=>whnf);repeat((first|refine aF ?_|refine aT ?_);(first|refine rG Γ hm ?_|refine rD Γ hm (by kernel_rfl) ?_);conv=>whnf))
  repeat (first | (refine ⟨rfl, by decide, by decide, ?_⟩; ((conv=>whnf);repeat((first|refine aF ?_|refine aT ?_);(first|refine rG Γ hm ?_|refine rD Γ hm (by kernel_rfl) ?_);conv=>whnf))) | (refine stepOp (good_stringT Γ.toTy (bs := textM3) rfl rfl rfl rfl rfl rfl rfl .sl) rfl rfl ?_; ((first|refine rG Γ hm ?_|refine rD Γ hm (by kernel_rfl) ?_);(conv=>whnf);repeat((first|refine aF ?_|refine aT ?_);(first|refine rG Γ hm ?_|refine rD Γ hm (by kernel_rfl) ?_);conv=>whnf))) | (refine ⟨fun _ => ?_, fun h => absurd h (by decide)⟩; ((first|refine rG Γ hm ?_|refine rD Γ hm (by kernel_rfl) ?_);(conv=>whnf);repeat((first|refine aF ?_|refine aT ?_);(first|refine rG Γ hm ?_|refine rD Γ hm (by kernel_rfl) ?_);conv=>whnf))) | (refine ⟨fun h => absurd h (by decide), fun _ => ?_⟩; ((first|refine rG Γ hm ?_|refine rD Γ hm (by kernel_rfl) ?_);(conv=>whnf);repeat((first|refine aF ?_|refine aT ?_);(first|refine rG Γ hm ?_|refine rD Γ hm (by kernel_rfl) ?_);conv=>whnf))))
  exact done rfl (.cons .tmp .nil) [] [verbsO 900, manyO 901] (fun _ h => h) rfl rfl ⟨trivial, ⟨.inl rfl, rfl, .inl rfl, rfl, trivial⟩, rfl, rfl⟩

theorem stepT_up (n : Net) (s : ByteArray) : (stepT n s).1.up.length ≤ s.size := by
  have hd : (nth (splitT 32 s) 1).size ≤ s.size := by
    by_cases h : 1 < (splitT 32 s).length
    · rw [nth_eq (l := splitT 32 s) (i := 1) h]
      exact splitT_sizes 32 s _ (List.getElem_mem h)
    · have : nth (splitT 32 s) 1 = default := by
        simp [nth, List.getElem?_eq_none (by omega : (splitT 32 s).length ≤ 1)]
      rw [this]; exact Nat.zero_le _
  have hu := upL_length (nth (splitT 32 s) 1)
  unfold stepT
  split
  · exact Nat.zero_le _
  split
  · exact Nat.zero_le _
  split
  · split
    · exact Nat.zero_le _
    split
    · exact Nat.zero_le _
    · exact Nat.zero_le _
  split
  · split
    · exact Nat.zero_le _
    split
    · exact Nat.zero_le _
    · exact Nat.zero_le _
  split
  · exact Nat.zero_le _
  split
  · exact Nat.zero_le _
  · exact Nat.le_trans hu hd

theorem parseGo_up (n : Net) (k : Nat) : ∀ (rs : List ByteArray) (i : Nat) (out : List StepM), (∀ x ∈ out, x.up.length ≤ k) → (∀ r ∈ rs, r.size ≤ k) → ∀ x ∈ (parseGo n i out rs).1, x.up.length ≤ k
  | [], i, out, h, _, x, hx => by rw [parseGo] at hx; exact h x hx
  | r :: rs, i, out, h, hr, x, hx => by
    rw [parseGo] at hx
    split at hx
    · refine parseGo_up n k rs (i + 1) _ (fun y hy => ?_) (fun y hy => hr y (by simp [hy])) x hx
      simp only [List.mem_append, List.mem_singleton] at hy
      rcases hy with hy | rfl
      · exact h y hy
      · exact Nat.le_trans (stepT_up n r) (hr r (by simp))
    · cases hx

theorem parseT_facts (n : Net) (b : List UInt8) : (parseT n b).1.length ≤ 400 ∧ ∀ x ∈ (parseT n b).1, x.up.length ≤ b.length := by
  have h := rowsT_facts b
  unfold parseT
  split
  · exact ⟨by simp, fun x hx => (by cases hx)⟩
  split
  · exact ⟨by simp, fun x hx => (by cases hx)⟩
  · have h1 := (parseGo_code n (rowsT b).1 0 []).2
    refine ⟨by simp at h1 ⊢; omega, parseGo_up n b.length _ _ _ (fun x hx => (by cases hx)) h.1⟩

theorem long_named {n : Net} (h : longB n = false) : Named n := by
  simp only [longB, Bool.or_eq_false_iff, List.any_eq_false, longD, longP, decide_eq_true_eq] at h
  exact ⟨fun d hd => by have := h.1 d hd; omega, fun p hp => by have := h.2 p hp; omega⟩

theorem machineScriptsS (n : Net) (l : List StepM) (b : List UInt8) (hw : ∀ x ∈ l, Word64 x.at_) :
    Sy.Spec Tryz.prog 3 [netSV n, .sl 6 stepSV l, .sl 1 byteSV b] [verbsO 900, manyO 901] (boolSV true) [verbsO 900, manyO 901] := contract Γ hm 100 F3 Tryz.ntmps3 rfl fun F hF => by
  ((conv=>whnf);repeat((first|refine aF ?_|refine aT ?_);(first|refine rG Γ hm ?_|refine rD Γ hm (by kernel_rfl) ?_);conv=>whnf))
  refine call0 (greatS n) F5 rfl rfl rfl rfl rfl ?_
  cases hg : greatB n
  rotate_left
  · ((first|refine rG Γ hm ?_|refine rD Γ hm (by kernel_rfl) ?_);(conv=>whnf);repeat((first|refine aF ?_|refine aT ?_);(first|refine rG Γ hm ?_|refine rD Γ hm (by kernel_rfl) ?_);conv=>whnf))
    refine stepOp (good_call [(900, 900), (901, 901)] rfl F8 works39S rfl ⟨rfl, rfl, trivial⟩ rfl ⟨.inl rfl, .inl rfl, trivial⟩) rfl rfl ?_
    ((first|refine rG Γ hm ?_|refine rD Γ hm (by kernel_rfl) ?_);(conv=>whnf);repeat((first|refine aF ?_|refine aT ?_);(first|refine rG Γ hm ?_|refine rD Γ hm (by kernel_rfl) ?_);conv=>whnf))
    exact done rfl (.cons .tmp .nil) [] [verbsO 900, manyO 901] (fun _ h => h) rfl rfl ⟨trivial, ⟨.inl rfl, rfl, .inl rfl, rfl, trivial⟩, rfl, rfl⟩
  have hn := fin_of_great hg
  ((first|refine rG Γ hm ?_|refine rD Γ hm (by kernel_rfl) ?_);(conv=>whnf);repeat((first|refine aF ?_|refine aT ?_);(first|refine rG Γ hm ?_|refine rD Γ hm (by kernel_rfl) ?_);conv=>whnf))
  refine call0 (long39S n hn) F6 rfl rfl rfl rfl rfl ?_
  cases hlg : longB n
  rotate_left
  · ((first|refine rG Γ hm ?_|refine rD Γ hm (by kernel_rfl) ?_);(conv=>whnf);repeat((first|refine aF ?_|refine aT ?_);(first|refine rG Γ hm ?_|refine rD Γ hm (by kernel_rfl) ?_);conv=>whnf))
    refine stepOp (good_call [(900, 900), (901, 901)] rfl F8 works39S rfl ⟨rfl, rfl, trivial⟩ rfl ⟨.inl rfl, .inl rfl, trivial⟩) rfl rfl ?_
    ((first|refine rG Γ hm ?_|refine rD Γ hm (by kernel_rfl) ?_);(conv=>whnf);repeat((first|refine aF ?_|refine aT ?_);(first|refine rG Γ hm ?_|refine rD Γ hm (by kernel_rfl) ?_);conv=>whnf))
    exact done rfl (.cons .tmp .nil) [] [verbsO 900, manyO 901] (fun _ h => h) rfl rfl ⟨trivial, ⟨.inl rfl, rfl, .inl rfl, rfl, trivial⟩, rfl, rfl⟩
  have hnm := long_named hlg
  ((first|refine rG Γ hm ?_|refine rD Γ hm (by kernel_rfl) ?_);(conv=>whnf);repeat((first|refine aF ?_|refine aT ?_);(first|refine rG Γ hm ?_|refine rD Γ hm (by kernel_rfl) ?_);conv=>whnf))
  refine call0 (great33S l) F7 rfl rfl rfl rfl rfl ?_
  cases h33 : great33B l
  rotate_left
  · ((first|refine rG Γ hm ?_|refine rD Γ hm (by kernel_rfl) ?_);(conv=>whnf);repeat((first|refine aF ?_|refine aT ?_);(first|refine rG Γ hm ?_|refine rD Γ hm (by kernel_rfl) ?_);conv=>whnf))
    refine stepOp (good_call [(900, 900), (901, 901)] rfl F8 works39S rfl ⟨rfl, rfl, trivial⟩ rfl ⟨.inl rfl, .inl rfl, trivial⟩) rfl rfl ?_
    ((first|refine rG Γ hm ?_|refine rD Γ hm (by kernel_rfl) ?_);(conv=>whnf);repeat((first|refine aF ?_|refine aT ?_);(first|refine rG Γ hm ?_|refine rD Γ hm (by kernel_rfl) ?_);conv=>whnf))
    exact done rfl (.cons .tmp .nil) [] [verbsO 900, manyO 901] (fun _ h => h) rfl rfl ⟨trivial, ⟨.inl rfl, rfl, .inl rfl, rfl, trivial⟩, rfl, rfl⟩
  have hf := great33_facts h33
  ((first|refine rG Γ hm ?_|refine rD Γ hm (by kernel_rfl) ?_);(conv=>whnf);repeat((first|refine aF ?_|refine aT ?_);(first|refine rG Γ hm ?_|refine rD Γ hm (by kernel_rfl) ?_);conv=>whnf))
  refine ⟨fun h => ?_, fun h => ?_⟩
  · ((first|refine rG Γ hm ?_|refine rD Γ hm (by kernel_rfl) ?_);(conv=>whnf);repeat((first|refine aF ?_|refine aT ?_);(first|refine rG Γ hm ?_|refine rD Γ hm (by kernel_rfl) ?_);conv=>whnf))
    refine stepOp (good_call [(900, 900), (901, 901)] rfl F8 works39S rfl ⟨rfl, rfl, trivial⟩ rfl ⟨.inl rfl, .inl rfl, trivial⟩) rfl rfl ?_
    ((first|refine rG Γ hm ?_|refine rD Γ hm (by kernel_rfl) ?_);(conv=>whnf);repeat((first|refine aF ?_|refine aT ?_);(first|refine rG Γ hm ?_|refine rD Γ hm (by kernel_rfl) ?_);conv=>whnf))
    exact done rfl (.cons .tmp .nil) [] [verbsO 900, manyO 901] (fun _ h => h) rfl rfl ⟨trivial, ⟨.inl rfl, rfl, .inl rfl, rfl, trivial⟩, rfl, rfl⟩
  have hbl : b.length ≤ 6000 := by have := of_decide_eq_false h; omega
  have hs : ∀ x ∈ l, StepOK x := fun x hx => ⟨hw x hx, by have := (hf.2 x hx).1; omega, by have := (hf.2 x hx).2; omega⟩
  have q1 := machinePrintS n hn hnm l (by omega) hs
  have q2 := ref39PrintS n hn hnm l (by omega) hs
  have q3 := machineParseS n hn hnm b (by omega)
  have q4 := ref39ParseS n hn hnm b (by omega)
  have hpf := parseT_facts n b
  have q5 := stepsS (parseT n b).1 (by omega) (fun x hx => by have := hpf.2 x hx; unfold StepShort; omega)
  generalize parseT n b = pr at *
  generalize printT n l = pt at *
  obtain ⟨ps, pr1, pr2⟩ := pr
  obtain ⟨pt, pe⟩ := pt
  dsimp only at q1 q2 q3 q4 q5
  have e1 : ((⟨pt.toArray⟩ : ByteArray) == mkT pt) = true := (beq_ba _ _).2 rfl
  ((first|refine rG Γ hm ?_|refine rD Γ hm (by kernel_rfl) ?_);(conv=>whnf);repeat((first|refine aF ?_|refine aT ?_);(first|refine rG Γ hm ?_|refine rD Γ hm (by kernel_rfl) ?_);conv=>whnf))
  refine stepOp (good_call [(900, 900)] rfl F9 q1 rfl ⟨rfl, trivial⟩ rfl ⟨.inl rfl, trivial⟩) rfl rfl ?_
  ((first|refine rG Γ hm ?_|refine rD Γ hm (by kernel_rfl) ?_);(conv=>whnf);repeat((first|refine aF ?_|refine aT ?_);(first|refine rG Γ hm ?_|refine rD Γ hm (by kernel_rfl) ?_);conv=>whnf))
  refine call0 q2 F10 rfl rfl rfl rfl rfl ?_
  ((first|refine rG Γ hm ?_|refine rD Γ hm (by kernel_rfl) ?_);(conv=>whnf);repeat((first|refine aF ?_|refine aT ?_);(first|refine rG Γ hm ?_|refine rD Γ hm (by kernel_rfl) ?_);conv=>whnf))
  refine stepOp (good_call [(900, 900), (901, 901)] rfl F11 q3 rfl ⟨rfl, rfl, trivial⟩ rfl ⟨.inl rfl, .inl rfl, trivial⟩) rfl rfl ?_
  ((first|refine rG Γ hm ?_|refine rD Γ hm (by kernel_rfl) ?_);(conv=>whnf);repeat((first|refine aF ?_|refine aT ?_);(first|refine rG Γ hm ?_|refine rD Γ hm (by kernel_rfl) ?_);conv=>whnf))
  refine call0 q4 F12 rfl rfl rfl rfl rfl ?_
  ((first|refine rG Γ hm ?_|refine rD Γ hm (by kernel_rfl) ?_);(conv=>whnf);repeat((first|refine aF ?_|refine aT ?_);(first|refine rG Γ hm ?_|refine rD Γ hm (by kernel_rfl) ?_);conv=>whnf))
  refine stepOp (good_stringT Γ.toTy (bs := pt) rfl rfl rfl rfl rfl rfl rfl .sl) rfl rfl ?_
  ((first|refine rG Γ hm ?_|refine rD Γ hm (by kernel_rfl) ?_);(conv=>whnf);repeat((first|refine aF ?_|refine aT ?_);(first|refine rG Γ hm ?_|refine rD Γ hm (by kernel_rfl) ?_);conv=>whnf))
  refine ⟨fun _ => ?_, fun h => absurd h (by rw [e1]; simp)⟩
  ((first|refine rG Γ hm ?_|refine rD Γ hm (by kernel_rfl) ?_);(conv=>whnf);repeat((first|refine aF ?_|refine aT ?_);(first|refine rG Γ hm ?_|refine rD Γ hm (by kernel_rfl) ?_);conv=>whnf))
  refine ⟨fun _ => ?_, fun h => absurd h (by simp)⟩
  ((first|refine rG Γ hm ?_|refine rD Γ hm (by kernel_rfl) ?_);(conv=>whnf);repeat((first|refine aF ?_|refine aT ?_);(first|refine rG Γ hm ?_|refine rD Γ hm (by kernel_rfl) ?_);conv=>whnf))
  refine call0 q5 F13 rfl rfl rfl rfl rfl ?_
  ((first|refine rG Γ hm ?_|refine rD Γ hm (by kernel_rfl) ?_);(conv=>whnf);repeat((first|refine aF ?_|refine aT ?_);(first|refine rG Γ hm ?_|refine rD Γ hm (by kernel_rfl) ?_);conv=>whnf))
  refine ⟨fun _ => ?_, fun h => absurd h (by simp)⟩
  ((first|refine rG Γ hm ?_|refine rD Γ hm (by kernel_rfl) ?_);(conv=>whnf);repeat((first|refine aF ?_|refine aT ?_);(first|refine rG Γ hm ?_|refine rD Γ hm (by kernel_rfl) ?_);conv=>whnf))
  refine ⟨fun _ => ?_, fun h => absurd h (by simp)⟩
  ((first|refine rG Γ hm ?_|refine rD Γ hm (by kernel_rfl) ?_);(conv=>whnf);repeat((first|refine aF ?_|refine aT ?_);(first|refine rG Γ hm ?_|refine rD Γ hm (by kernel_rfl) ?_);conv=>whnf))
  refine stepOp (good_call [(900, 900), (901, 901)] rfl F8 works39S rfl ⟨rfl, rfl, trivial⟩ rfl ⟨.inl rfl, .inl rfl, trivial⟩) rfl rfl ?_
  ((first|refine rG Γ hm ?_|refine rD Γ hm (by kernel_rfl) ?_);(conv=>whnf);repeat((first|refine aF ?_|refine aT ?_);(first|refine rG Γ hm ?_|refine rD Γ hm (by kernel_rfl) ?_);conv=>whnf))
  exact done rfl (.cons .tmp .nil) [] [verbsO 900, manyO 901] (fun _ h => h) rfl rfl ⟨trivial, ⟨.inl rfl, rfl, .inl rfl, rfl, trivial⟩, rfl, rfl⟩

theorem machineTellsS (n : Net) (l : List SeenM) (r : ReportM) (hw : ∀ x ∈ r.script, Word64 x.at_) (hso : ∀ x ∈ l, Word64 x.origin) (hrow : Word64 r.row) (her : Word64 r.error) :
    Sy.Spec Tryz.prog 4 [netSV n, .sl 3 seenSV l, reportSV r] [verbsO 900, manyO 901] (boolSV true) [verbsO 900, manyO 901] := contract Γ hm 100 F4 Tryz.ntmps4 rfl fun F hF => by
  ((conv=>whnf);repeat((first|refine aF ?_|refine aT ?_);(first|refine rG Γ hm ?_|refine rD Γ hm (by kernel_rfl) ?_);conv=>whnf))
  refine call0 (greatS n) F5 rfl rfl rfl rfl rfl ?_
  cases hg : greatB n
  rotate_left
  · ((first|refine rG Γ hm ?_|refine rD Γ hm (by kernel_rfl) ?_);(conv=>whnf);repeat((first|refine aF ?_|refine aT ?_);(first|refine rG Γ hm ?_|refine rD Γ hm (by kernel_rfl) ?_);conv=>whnf))
    refine stepOp (good_call [(900, 900), (901, 901)] rfl F8 works39S rfl ⟨rfl, rfl, trivial⟩ rfl ⟨.inl rfl, .inl rfl, trivial⟩) rfl rfl ?_
    ((first|refine rG Γ hm ?_|refine rD Γ hm (by kernel_rfl) ?_);(conv=>whnf);repeat((first|refine aF ?_|refine aT ?_);(first|refine rG Γ hm ?_|refine rD Γ hm (by kernel_rfl) ?_);conv=>whnf))
    exact done rfl (.cons .tmp .nil) [] [verbsO 900, manyO 901] (fun _ h => h) rfl rfl ⟨trivial, ⟨.inl rfl, rfl, .inl rfl, rfl, trivial⟩, rfl, rfl⟩
  have hn := fin_of_great hg
  ((first|refine rG Γ hm ?_|refine rD Γ hm (by kernel_rfl) ?_);(conv=>whnf);repeat((first|refine aF ?_|refine aT ?_);(first|refine rG Γ hm ?_|refine rD Γ hm (by kernel_rfl) ?_);conv=>whnf))
  refine call0 (long39S n hn) F6 rfl rfl rfl rfl rfl ?_
  cases hlg : longB n
  rotate_left
  · ((first|refine rG Γ hm ?_|refine rD Γ hm (by kernel_rfl) ?_);(conv=>whnf);repeat((first|refine aF ?_|refine aT ?_);(first|refine rG Γ hm ?_|refine rD Γ hm (by kernel_rfl) ?_);conv=>whnf))
    refine stepOp (good_call [(900, 900), (901, 901)] rfl F8 works39S rfl ⟨rfl, rfl, trivial⟩ rfl ⟨.inl rfl, .inl rfl, trivial⟩) rfl rfl ?_
    ((first|refine rG Γ hm ?_|refine rD Γ hm (by kernel_rfl) ?_);(conv=>whnf);repeat((first|refine aF ?_|refine aT ?_);(first|refine rG Γ hm ?_|refine rD Γ hm (by kernel_rfl) ?_);conv=>whnf))
    exact done rfl (.cons .tmp .nil) [] [verbsO 900, manyO 901] (fun _ h => h) rfl rfl ⟨trivial, ⟨.inl rfl, rfl, .inl rfl, rfl, trivial⟩, rfl, rfl⟩
  have hnm := long_named hlg
  ((first|refine rG Γ hm ?_|refine rD Γ hm (by kernel_rfl) ?_);(conv=>whnf);repeat((first|refine aF ?_|refine aT ?_);(first|refine rG Γ hm ?_|refine rD Γ hm (by kernel_rfl) ?_);conv=>whnf))
  refine call0 (great33S r.script) F7 rfl rfl rfl rfl rfl ?_
  cases h33 : great33B r.script
  rotate_left
  · ((first|refine rG Γ hm ?_|refine rD Γ hm (by kernel_rfl) ?_);(conv=>whnf);repeat((first|refine aF ?_|refine aT ?_);(first|refine rG Γ hm ?_|refine rD Γ hm (by kernel_rfl) ?_);conv=>whnf))
    refine stepOp (good_call [(900, 900), (901, 901)] rfl F8 works39S rfl ⟨rfl, rfl, trivial⟩ rfl ⟨.inl rfl, .inl rfl, trivial⟩) rfl rfl ?_
    ((first|refine rG Γ hm ?_|refine rD Γ hm (by kernel_rfl) ?_);(conv=>whnf);repeat((first|refine aF ?_|refine aT ?_);(first|refine rG Γ hm ?_|refine rD Γ hm (by kernel_rfl) ?_);conv=>whnf))
    exact done rfl (.cons .tmp .nil) [] [verbsO 900, manyO 901] (fun _ h => h) rfl rfl ⟨trivial, ⟨.inl rfl, rfl, .inl rfl, rfl, trivial⟩, rfl, rfl⟩
  have hf := great33_facts h33
  ((first|refine rG Γ hm ?_|refine rD Γ hm (by kernel_rfl) ?_);(conv=>whnf);repeat((first|refine aF ?_|refine aT ?_);(first|refine rG Γ hm ?_|refine rD Γ hm (by kernel_rfl) ?_);conv=>whnf))
  refine ⟨fun h => ?_, fun h => ?_⟩
  · ((first|refine rG Γ hm ?_|refine rD Γ hm (by kernel_rfl) ?_);(conv=>whnf);repeat((first|refine aF ?_|refine aT ?_);(first|refine rG Γ hm ?_|refine rD Γ hm (by kernel_rfl) ?_);conv=>whnf))
    refine stepOp (good_call [(900, 900), (901, 901)] rfl F8 works39S rfl ⟨rfl, rfl, trivial⟩ rfl ⟨.inl rfl, .inl rfl, trivial⟩) rfl rfl ?_
    ((first|refine rG Γ hm ?_|refine rD Γ hm (by kernel_rfl) ?_);(conv=>whnf);repeat((first|refine aF ?_|refine aT ?_);(first|refine rG Γ hm ?_|refine rD Γ hm (by kernel_rfl) ?_);conv=>whnf))
    exact done rfl (.cons .tmp .nil) [] [verbsO 900, manyO 901] (fun _ h => h) rfl rfl ⟨trivial, ⟨.inl rfl, rfl, .inl rfl, rfl, trivial⟩, rfl, rfl⟩
  have hll : l.length ≤ 60 := by have := of_decide_eq_false h; omega
  refine G_box 3 8 (netSV n) rfl rfl rfl ?_
  refine G_box 5 7 (reportSV r) rfl rfl rfl ?_
  ((first|refine rG Γ hm ?_|refine rD Γ hm (by kernel_rfl) ?_);(conv=>whnf);repeat((first|refine aF ?_|refine aT ?_);(first|refine rG Γ hm ?_|refine rD Γ hm (by kernel_rfl) ?_);conv=>whnf))
  refine G_countP l.length (fun j => ∀ i (h : i < l.length), i < j → (l[i]).bytes.length ≤ 2000) (fun j => [(1, .sl 3 seenSV l), (3, .ref 8 (netSV n) 0), (5, .ref 7 (reportSV r) 0), (7, intSV j)]) (fun _ => [verbsO 900, manyO 901]) [] (fun i h hj => absurd hj (by omega))
    ⟨⟨rfl, rfl, rfl, rfl, rfl, rfl, rfl, rfl, trivial⟩, ⟨.inl rfl, rfl, .inl rfl, rfl, trivial⟩, rfl, rfl⟩ ?_
  intro j hj hI
  ((first|refine rG Γ hm ?_|refine rD Γ hm (by kernel_rfl) ?_);(conv=>whnf);repeat((first|refine aF ?_|refine aT ?_);(first|refine rG Γ hm ?_|refine rD Γ hm (by kernel_rfl) ?_);conv=>whnf))
  refine ⟨fun h => ?_, fun h => ?_⟩
  · have hlt : j < l.length := by have := of_decide_eq_true h; omega
    have hj0 : ((j : Nat) : Int).toNat < l.length := by simpa using hlt
    ((first|refine rG Γ hm ?_|refine rD Γ hm (by kernel_rfl) ?_);(conv=>whnf);repeat((first|refine aF ?_|refine aT ?_);(first|refine rG Γ hm ?_|refine rD Γ hm (by kernel_rfl) ?_);conv=>whnf))
    refine ⟨rfl, by omega, hj0, ?_⟩
    ((conv=>whnf);repeat((first|refine aF ?_|refine aT ?_);(first|refine rG Γ hm ?_|refine rD Γ hm (by kernel_rfl) ?_);conv=>whnf))
    refine ⟨fun h => ?_, fun h => ?_⟩
    · ((first|refine rG Γ hm ?_|refine rD Γ hm (by kernel_rfl) ?_);(conv=>whnf);repeat((first|refine aF ?_|refine aT ?_);(first|refine rG Γ hm ?_|refine rD Γ hm (by kernel_rfl) ?_);conv=>whnf))
      refine stepOp (good_call [(900, 900), (901, 901)] rfl F8 works39S rfl ⟨rfl, rfl, trivial⟩ rfl ⟨.inl rfl, .inl rfl, trivial⟩) rfl rfl ?_
      ((first|refine rG Γ hm ?_|refine rD Γ hm (by kernel_rfl) ?_);(conv=>whnf);repeat((first|refine aF ?_|refine aT ?_);(first|refine rG Γ hm ?_|refine rD Γ hm (by kernel_rfl) ?_);conv=>whnf))
      exact done rfl (.cons .tmp .nil) [] [verbsO 900, manyO 901] (fun _ h => h) rfl rfl ⟨trivial, ⟨.inl rfl, rfl, .inl rfl, rfl, trivial⟩, rfl, rfl⟩
    · have h1 := of_decide_eq_false h
      ((first|refine rG Γ hm ?_|refine rD Γ hm (by kernel_rfl) ?_);(conv=>whnf);repeat((first|refine aF ?_|refine aT ?_);(first|refine rG Γ hm ?_|refine rD Γ hm (by kernel_rfl) ?_);conv=>whnf))
      refine ⟨by unfold I64; omega, ?_⟩
      ((conv=>whnf);repeat((first|refine aF ?_|refine aT ?_);(first|refine rG Γ hm ?_|refine rD Γ hm (by kernel_rfl) ?_);conv=>whnf))
      refine G_nextP [] hI (by omega) (fun i hi hij => ?_) ⟨⟨rfl, rfl, rfl, rfl, rfl, rfl, rfl, rfl, trivial⟩, ⟨.inl rfl, rfl, .inl rfl, rfl, trivial⟩, rfl, rfl⟩
      rcases Nat.lt_or_ge i j with h2 | h2
      · exact hI i hi h2
      · obtain rfl : i = j := by omega
        have : (l[((i : Nat) : Int).toNat]'hj0).bytes = (l[i]).bytes := rfl
        rw [this] at h1
        omega
  have hje : j = l.length := by have := of_decide_eq_false h; omega
  subst hje
  have hsb : ∀ x ∈ l, SeenOK x := fun x hx => by
    obtain ⟨i, hi, rfl⟩ := List.mem_iff_getElem.1 hx
    exact ⟨hso _ (List.getElem_mem hi), by have := hI i hi hi; omega⟩
  have hs : ∀ x ∈ r.script, StepOK x := fun x hx => ⟨hw x hx, by have := (hf.2 x hx).1; omega, by have := (hf.2 x hx).2; omega⟩
  have q1 := machineShowS n hn hnm l (by omega) hsb
  have q2 := ref39ShowS n hn hnm l (by omega) hsb
  have q3 := machineReportS n hn hnm r (by omega) hs hrow her
  have q4 := ref39ReportS n hn hnm r (by omega) hs hrow her
  generalize showT n l = sh at *
  generalize reportT n r = rp at *
  have e1 : ((⟨sh.toArray⟩ : ByteArray) == mkT sh) = true := (beq_ba _ _).2 rfl
  have e2 : ((⟨rp.toArray⟩ : ByteArray) == mkT rp) = true := (beq_ba _ _).2 rfl
  ((first|refine rG Γ hm ?_|refine rD Γ hm (by kernel_rfl) ?_);(conv=>whnf);repeat((first|refine aF ?_|refine aT ?_);(first|refine rG Γ hm ?_|refine rD Γ hm (by kernel_rfl) ?_);conv=>whnf))
  refine callD0 q1 F14 rfl rfl rfl (by kernel_rfl) rfl ?_
  ((first|refine rG Γ hm ?_|refine rD Γ hm (by kernel_rfl) ?_);(conv=>whnf);repeat((first|refine aF ?_|refine aT ?_);(first|refine rG Γ hm ?_|refine rD Γ hm (by kernel_rfl) ?_);conv=>whnf))
  refine stepD (good_stringT Γ.toTy (bs := sh) rfl rfl rfl rfl rfl rfl rfl .sl) (by kernel_rfl) rfl ?_
  ((first|refine rG Γ hm ?_|refine rD Γ hm (by kernel_rfl) ?_);(conv=>whnf);repeat((first|refine aF ?_|refine aT ?_);(first|refine rG Γ hm ?_|refine rD Γ hm (by kernel_rfl) ?_);conv=>whnf))
  refine callD0 q2 F15 rfl rfl rfl (by kernel_rfl) rfl ?_
  ((first|refine rG Γ hm ?_|refine rD Γ hm (by kernel_rfl) ?_);(conv=>whnf);repeat((first|refine aF ?_|refine aT ?_);(first|refine rG Γ hm ?_|refine rD Γ hm (by kernel_rfl) ?_);conv=>whnf))
  refine ⟨fun _ => ?_, fun h => absurd h (by rw [e1]; simp)⟩
  ((first|refine rG Γ hm ?_|refine rD Γ hm (by kernel_rfl) ?_);(conv=>whnf);repeat((first|refine aF ?_|refine aT ?_);(first|refine rG Γ hm ?_|refine rD Γ hm (by kernel_rfl) ?_);conv=>whnf))
  refine stepD2 (good_call [(900, 900)] rfl F16 q3 rfl ⟨rfl, trivial⟩ rfl ⟨.inl rfl, trivial⟩) ⟨rfl, trivial⟩ (by kernel_rfl) rfl ?_
  ((first|refine rG Γ hm ?_|refine rD Γ hm (by kernel_rfl) ?_);(conv=>whnf);repeat((first|refine aF ?_|refine aT ?_);(first|refine rG Γ hm ?_|refine rD Γ hm (by kernel_rfl) ?_);conv=>whnf))
  refine stepD (good_stringT Γ.toTy (bs := rp) rfl rfl rfl rfl rfl rfl rfl .sl) (by kernel_rfl) rfl ?_
  ((first|refine rG Γ hm ?_|refine rD Γ hm (by kernel_rfl) ?_);(conv=>whnf);repeat((first|refine aF ?_|refine aT ?_);(first|refine rG Γ hm ?_|refine rD Γ hm (by kernel_rfl) ?_);conv=>whnf))
  refine callD0 q4 F17 rfl rfl rfl (by kernel_rfl) rfl ?_
  ((first|refine rG Γ hm ?_|refine rD Γ hm (by kernel_rfl) ?_);(conv=>whnf);repeat((first|refine aF ?_|refine aT ?_);(first|refine rG Γ hm ?_|refine rD Γ hm (by kernel_rfl) ?_);conv=>whnf))
  refine ⟨fun _ => ?_, fun h => absurd h (by rw [e2]; simp)⟩
  ((first|refine rG Γ hm ?_|refine rD Γ hm (by kernel_rfl) ?_);(conv=>whnf);repeat((first|refine aF ?_|refine aT ?_);(first|refine rG Γ hm ?_|refine rD Γ hm (by kernel_rfl) ?_);conv=>whnf))
  refine stepD2 (good_call [(900, 900), (901, 901)] rfl F8 works39S rfl ⟨rfl, rfl, trivial⟩ rfl ⟨.inl rfl, .inl rfl, trivial⟩) ⟨rfl, rfl, trivial⟩ (by kernel_rfl) rfl ?_
  ((first|refine rG Γ hm ?_|refine rD Γ hm (by kernel_rfl) ?_);(conv=>whnf);repeat((first|refine aF ?_|refine aT ?_);(first|refine rG Γ hm ?_|refine rD Γ hm (by kernel_rfl) ?_);conv=>whnf))
  refine ⟨(by kernel_rfl), ?_⟩
  ((conv=>whnf);repeat((first|refine aF ?_|refine aT ?_);(first|refine rG Γ hm ?_|refine rD Γ hm (by kernel_rfl) ?_);conv=>whnf))
  exact done rfl (.cons .tmp .nil) [] [verbsO 900, manyO 901] (fun _ h => h) rfl rfl ⟨trivial, ⟨.inl rfl, rfl, .inl rfl, rfl, trivial⟩, rfl, rfl⟩

end Go.Sy.YtjomehmhkcnadaaGreatDoor

namespace Go.Sy
open Go.ChangeShapes Go.WideShapes Go.ChangeAt Go.RowKit

theorem laid_get {P : Program} {w : World} : ∀ {laid : List (String × DataW Unit)} {ps : List MemPlace}, DataW.LaidVars P w laid ps → ∀ {n : String} {d : DataW Unit}, (n, d) ∈ laid →
    ∃ g t cs fuel p, P.globalNamed n = some g ∧ (P.globals[g]?).map (·.type) = some t ∧ w.var? P n = some cs ∧ DataW.trod (fun _ => ()) P w 0 (fun _ => true) false fuel t cs.toList = some (d, p)
  | [], _, _, _, _, h => by cases h
  | (n, d) :: r, ps, ⟨g, t, cs, fuel, p, q, e1, e2, e3, e4, hr, _⟩, m, d', h => by
    rcases List.mem_cons.1 h with h | h
    · cases h
      exact ⟨g, t, cs, fuel, p, e1, e2, e3, e4⟩
    · exact laid_get hr h

theorem glob_laid {P : Program} {W : World} {laid : List (String × DataW Unit)} (h : laidMetH P laid W) (hp : (laid.all fun x => x.2.handleName?.isNone) = true) {α : Type} (f : α → DataW Unit) (val : α → Value) {n : String} {l : List α} (hx : (n, .agg (l.map f)) ∈ laid) (hl : l ≠ [])
    {g : Nat} {t et : TypeId} (hg : P.globalNamed n = some g) (ht : (P.globals[g]?).map (·.type) = some t) (hu : P.underlying t = some (.array l.length et)) (hc : P.cellsOf et = 1)
    (hT : ∀ (a : α) (fuel : Nat) (cs : List Value) (x : DataW Unit × List MemPlace), DataW.trod (fun _ => ()) P W 0 (fun _ => true) false fuel et cs = some x → x.1 = f a → cs = [val a]) (hv : ∀ a, (val a).oneCell' = true) (k : Nat) :
    ObOK κ0 W k (.glob l.length (.agg ((l.map val).map .val)) g) := by
  rw [MakeChecks.laidMetH_plain _ _ _ hp] at h
  obtain ⟨ps, hlv, _, _⟩ := h
  obtain ⟨g', t', cs, fuel, p, hg', ht', hvv, hd⟩ := laid_get hlv hx
  obtain rfl := Option.some.inj (hg.symm.trans hg')
  obtain rfl := Option.some.inj (ht.symm.trans ht')
  obtain ⟨xs, m, _, ex, hcl, hxl, hel⟩ := DataW.trod_array hu hd
  have e3 : xs.map (·.1) = l.map f := (DataW.agg.inj (Prod.mk.inj ex).1).symm
  have hcell : ∀ j, j < l.length → W.cell? ⟨g, j, none⟩ = (l.map val)[j]? := fun j hj => by
    have hE := hel j hj
    rw [hc, Nat.mul_one, List.getElem?_eq_getElem (by omega)] at hE
    have e4 : (xs.map (·.1))[j]? = (l.map f)[j]? := by rw [e3]
    rw [List.getElem?_map, List.getElem?_map, List.getElem?_eq_getElem (by omega : j < xs.length), List.getElem?_eq_getElem hj] at e4
    simp only [Option.map_some, Option.some.injEq] at e4
    have e5 := hT l[j] m _ _ hE e4
    rw [World.var?_cell hg hvv j]
    have h0 : ((cs.toList.drop j).take 1)[0]? = some (val l[j]) := by rw [e5]; rfl
    rw [List.getElem?_map, List.getElem?_eq_getElem hj]
    simpa using h0
  have hpos := List.length_pos_iff.2 hl
  have h0 := hcell 0 hpos
  rw [List.getElem?_eq_getElem (by rw [List.length_map]; exact hpos)] at h0
  have hgl : g < W.heap.size := World.block_lt_of_cell? W ⟨g, 0, none⟩ h0
  have := glob_ok (W := W) (k := k) (g := g) (l.map val) (fun c hc => by
    obtain ⟨a, _, rfl⟩ := List.mem_map.1 hc
    exact hv a) hgl (fun j hj => hcell j (by rw [List.length_map] at hj; exact hj))
  rw [List.length_map] at this
  exact this

theorem trod_int_val {P : Program} {W : World} {et : TypeId} {k : IntKind} (he : P.underlying et = some (.int k)) (a : Int) (fuel : Nat) (cs : List Value) (x : DataW Unit × List MemPlace) (h : DataW.trod (fun _ => ()) P W 0 (fun _ => true) false fuel et cs = some x) (hx : x.1 = .lit (.int k a)) :
    cs = [.int k a] := by
  obtain ⟨n, e1, e2, _⟩ := DataW.trod_int he h
  rw [e2] at hx
  simp only [DataW.lit.injEq, Lit.int.injEq, true_and] at hx
  rw [e1, hx]
theorem trod_str_val {P : Program} {W : World} {et : TypeId} (he : P.underlying et = some .string) (a : List UInt8) (fuel : Nat) (cs : List Value) (x : DataW Unit × List MemPlace) (h : DataW.trod (fun _ => ()) P W 0 (fun _ => true) false fuel et cs = some x) (hx : x.1 = .lit (.string a)) :
    cs = [.string ⟨a.toArray⟩] := by
  obtain ⟨s, e1, e2, _⟩ := DataW.trod_string he h
  rw [e2] at hx
  simp only [DataW.lit.injEq, Lit.string.injEq] at hx
  rw [e1, ← hx]

end Go.Sy

namespace Go.Sy.YtjomehmhkcnadaaGreatDoor
open Go.Proofs

set_option maxRecDepth 100000

theorem verbs_laid {W : World} {laid : List (String × DataW Unit)} (h : laidMetH Tryz.prog laid W) (hp : (laid.all fun x => x.2.handleName?.isNone) = true)
    (hx : ("paling/machine.verbs", .agg ([[], [105, 110, 106, 101, 99, 116], [112, 105, 99, 107], [100, 114, 111, 112], [116, 105, 99, 107], [108, 105, 110, 107, 115]].map fun s => .lit (.string s))) ∈ laid) : ObOK κ0 W 900 (verbsO 900).2 :=
  glob_laid h hp (fun s => .lit (.string s)) (fun s : List UInt8 => .string ⟨s.toArray⟩) hx (by simp) (t := 123) (by kernel_rfl) (by kernel_rfl) Tryz.underlying123 (et := 9) (by kernel_rfl) (trod_str_val Tryz.underlying9) (fun _ => rfl) 900
theorem many_laid {W : World} {laid : List (String × DataW Unit)} (h : laidMetH Tryz.prog laid W) (hp : (laid.all fun x => x.2.handleName?.isNone) = true)
    (hx : ("paling/machine.many", .agg ([0, 3, 3, 3, 1, 2].map fun z => .lit (.int .i64 z))) ∈ laid) : ObOK κ0 W 901 (manyO 901).2 :=
  glob_laid h hp (fun z => .lit (.int .i64 z)) (fun z : Int => .int .i64 z) hx (by simp) (t := 129) (by kernel_rfl) (by kernel_rfl) Tryz.underlying129 (et := 3) (by kernel_rfl) (trod_int_val Tryz.underlying3) (fun _ => rfl) 901
theorem machine_globs {W : World} {laid : List (String × DataW Unit)} (h : laidMetH Tryz.prog laid W) (hp : (laid.all fun x => x.2.handleName?.isNone) = true)
    (h1 : ("paling/machine.verbs", .agg ([[], [105, 110, 106, 101, 99, 116], [112, 105, 99, 107], [100, 114, 111, 112], [116, 105, 99, 107], [108, 105, 110, 107, 115]].map fun s => .lit (.string s))) ∈ laid)
    (h2 : ("paling/machine.many", .agg ([0, 3, 3, 3, 1, 2].map fun z => .lit (.int .i64 z))) ∈ laid) : Obs.ok κ0 W [verbsO 900, manyO 901] := by
  intro p hp'
  simp only [List.mem_cons, List.not_mem_nil, or_false] at hp'
  rcases hp' with rfl | rfl
  · exact verbs_laid h hp h1
  · exact many_laid h hp h2

end Go.Sy.YtjomehmhkcnadaaGreatDoor

namespace Go.Sy
open Go.ChangeShapes Go.WideShapes Go.ChangeAt Go.RowKit

section
variable {H : Type} (enc : TypeId × Value → H) (P : Program) (W : World)

/-- Whatever one cell reads as data of type t is some e x (with p x). -/
def Op1 (t : TypeId) {α : Type} (e : α → SV) (p : α → Prop) : Prop :=
  ∀ n c y, DataW.trod enc P W 0 (fun _ => true) true n t [c] = some y → ∃ x, p x ∧ Rd κ0 W (e x) c ∧ c.oneCell' = true

/-- .. sz cells. -/
def OpN (t : TypeId) {α : Type} (e : α → SV) (p : α → Prop) (sz : Nat) : Prop :=
  ∀ n cs y, DataW.trod enc P W 0 (fun _ => true) true n t cs = some y → ∃ x, p x ∧ cs.length = sz ∧ Ones cs ∧ RdL κ0 W (cellsOf (e x)) cs

variable {enc P W}

theorem op_int {t : TypeId} {k : IntKind} (ht : P.underlying t = some (.int k)) : Op1 enc P W t (fun z => .val (.int k z)) (fun z => (Lit.int k z).wf = true) := fun n c y h => by
  obtain ⟨z, e, _, hw⟩ := DataW.trod_int ht h
  have e : c = .int k z := by simpa using e
  subst e
  exact ⟨z, hw, by simp [Rd], rfl⟩
theorem op_bool {t : TypeId} (ht : P.underlying t = some .bool) : Op1 enc P W t boolSV (fun _ => True) := fun n c y h => by
  obtain ⟨z, e, _⟩ := DataW.trod_bool ht h
  have e : c = .bool z := by simpa using e
  subst e
  exact ⟨z, trivial, by simp [boolSV, Rd], rfl⟩
theorem op_str {t : TypeId} (ht : P.underlying t = some .string) : Op1 enc P W t strSV (fun s => s.size ≤ maxLen) := fun n c y h => by
  obtain ⟨z, e, _, hw⟩ := DataW.trod_string ht h
  have e : c = .string z := by simpa using e
  subst e
  exact ⟨z, hw, by simp [strSV, Rd], rfl⟩

theorem opN_int {t : TypeId} {k : IntKind} (ht : P.underlying t = some (.int k)) : OpN enc P W t (fun z => .val (.int k z)) (fun z => (Lit.int k z).wf = true) 1 := fun n cs y h => by
  obtain ⟨z, rfl, _, hw⟩ := DataW.trod_int ht h
  refine ⟨z, hw, rfl, fun c hc => by simp at hc; subst hc; rfl, ?_⟩
  simp [cellsOf, RdL, Rd]
theorem opN_bool {t : TypeId} (ht : P.underlying t = some .bool) : OpN enc P W t boolSV (fun _ => True) 1 := fun n cs y h => by
  obtain ⟨z, rfl, _⟩ := DataW.trod_bool ht h
  refine ⟨z, trivial, rfl, fun c hc => by simp at hc; subst hc; rfl, ?_⟩
  simp [boolSV, cellsOf, RdL, Rd]
theorem opN_str {t : TypeId} (ht : P.underlying t = some .string) : OpN enc P W t strSV (fun s => s.size ≤ maxLen) 1 := fun n cs y h => by
  obtain ⟨z, rfl, _, hw⟩ := DataW.trod_string ht h
  refine ⟨z, hw, rfl, fun c hc => by simp at hc; subst hc; rfl, ?_⟩
  simp [strSV, cellsOf, RdL, Rd]

theorem cells_get {base : Nat} {a : Addr} {n : Nat} {cs : List Value} (h : W.cells? base a n = some cs) : cs.length = n ∧ ∀ j (_ : j < n), W.cell? (a.add j) = cs[j]? := by
  unfold World.cells? at h
  split at h
  · refine ⟨by simpa using mapM_some_length h, fun j hj => ?_⟩
    exact mapM_some_get h j j (by simp [hj])
  · cases h

theorem op_slice {t et : TypeId} {α : Type} {e : α → SV} {p : α → Prop} {sz : Nat} (ht : P.underlying t = some (.slice et)) (hsz : P.cellsOf et = sz) (h0 : 0 < sz) (hb : ∀ x, (e x).boxed = true) (hd : ∀ x, (e x).data = true) (hO : OpN enc P W et e p sz) :
    Op1 enc P W t (fun l : List α => .sl sz e l) (fun l => (∀ x ∈ l, p x) ∧ l.length ≤ maxLen) := fun n c y h => by
  rcases DataW.trod_slice ht h with ⟨hcs, _⟩ | ⟨a, len, cap, elems, rest, m, rfl, hcs, _, _, hlc, hcm, hel, hget, _⟩
  · have hc : c = .slice none 0 0 := by simpa using hcs
    subst hc
    refine ⟨[], ⟨by simp, Nat.zero_le _⟩, ?_, rfl⟩
    simp only [Rd, RdD]
    exact .inl ⟨trivial, none, 0, rfl⟩
  · have hc : c = .slice (some a) len cap := by simpa using hcs
    subst hc
    rw [hsz] at hget
    have hall : ∀ i : Fin len, ∃ x, p x ∧ ∃ cs, W.cells? 0 (a.add (i * sz)) sz = some cs ∧ cs.length = sz ∧ Ones cs ∧ RdL κ0 W (cellsOf (e x)) cs := fun i => by
      have h1 := hget i.1 i.2
      rw [List.getElem?_eq_getElem (by omega)] at h1
      obtain ⟨cs, h2, h3⟩ := Option.bind_eq_some_iff.1 h1
      obtain ⟨x, h4, h5, h6, h7⟩ := hO _ _ _ h3
      exact ⟨x, h4, cs, h2, h5, h6, h7⟩
    let xs : Fin len → α := fun i => Classical.choose (hall i)
    have hxs : ∀ i, p (xs i) ∧ ∃ cs, W.cells? 0 (a.add (i.1 * sz)) sz = some cs ∧ cs.length = sz ∧ Ones cs ∧ RdL κ0 W (cellsOf (e (xs i))) cs := fun i => Classical.choose_spec (hall i)
    refine ⟨List.ofFn xs, ⟨fun x hx => ?_, by simp; omega⟩, ?_, rfl⟩
    · obtain ⟨i, rfl⟩ := List.mem_ofFn.1 hx
      exact (hxs i).1
    · simp only [Rd, RdD]
      by_cases hl : len = 0
      · subst hl
        exact .inl ⟨by simp, _, _, rfl⟩
      · have hcell : ∀ i : Fin len, ∀ j, j < sz → ∃ v, W.cell? ((a.add (i.1 * sz)).add j) = some v := fun i j hj => by
          obtain ⟨_, cs, h1, h2, _⟩ := hxs i
          have := (cells_get h1).2 j hj
          rw [List.getElem?_eq_getElem (by omega)] at this
          exact ⟨_, this⟩
        obtain ⟨b, off, spot⟩ := a
        have hspot : spot = none := by
          obtain ⟨v, hv⟩ := hcell ⟨0, by omega⟩ 0 h0
          simpa [Addr.add] using World.cell?_spot hv
        subst hspot
        have hadd : ∀ i j, ((⟨b, off, none⟩ : Addr).add i).add j = ⟨b, off + i + j, none⟩ := fun i j => by rw [Addr.add_lit, Addr.add_lit]
        refine .inr ⟨b, off, cap, by simp, by simpa using hlc, ?_, ?_, fun i hi => ?_⟩
        · rintro (⟨k, hk⟩ | hk)
          · cases hk
          · exact hk
        · obtain ⟨v, hv⟩ := hcell ⟨0, by omega⟩ 0 h0
          rw [hadd] at hv
          rcases Nat.lt_or_ge b W.heap.size with h | h
          · exact h
          · simp [World.cell?, Array.getElem?_eq_none h] at hv
        · simp only [List.length_ofFn] at hi
          obtain ⟨_, cs, h1, h2, h3, h4⟩ := hxs ⟨i, hi⟩
          obtain ⟨u, g1, g2⟩ := Rd.of_cells (hb _) h3 h4
          refine ⟨u, ?_, ?_, by rw [g2]; exact h3, fun j hj => ?_⟩
          · rw [List.getElem_ofFn]
            exact Rd.data _ _ (hd _) g1
          · have : u.cells.toList.length = sz := by rw [g2, h2]
            simpa using this
          · have := (cells_get h1).2 j hj
            rw [hadd] at this
            rw [this, ← g2]
            simp

end
end Go.Sy
