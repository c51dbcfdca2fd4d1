/-
  Contracts: the document's talk (palingref41), 3. speak.Settle is the document's.
-/
import Derived.Test.YthbgklhegccckaaGreatB16
import Derived.Test.YthbgklhegccckaaGreatB8

namespace Go.Sy.YthbgklhegccckaaGreat
open Go.Proofs

attribute [local irreducible] Go.Sy.G Go.Sy.DR
set_option maxRecDepth 100000
set_option maxHeartbeats 4000000

section
variable {n : Net} {up : List Bool} {hs : List Heard}

theorem refHearS (T : Talk n up hs) (i : Int) (b : List UInt8) (m : Msg) (hb : TellsOK b m) : Sy.Spec Tryz.prog 37 [.ptr 0 0, intSV i, .sl 1 byteSV b] (refO n up hs) (intSV (if liveB n up i then 0 else 2)) (refO n up (hearL n up hs i m)) := by
  obtain ⟨src, hb1, hm1⟩ := hb
  have ql := refLivesS T i
  have qt := refTakeS b
  rw [hb1] at qt
  cases hlv : liveB n up i with
  | false =>
    have e : hearL n up hs i m = hs := by unfold hearL; rw [if_neg (by rw [hlv]; simp)]
    rw [hlv] at ql
    rw [e]
    refine contract Γ hm 100 F37 Tryz.ntmps37 rfl fun F hF => by
      ((conv => whnf); repeat ((first | refine aF ?_ | refine aT ?_); (first | refine run Γ hm 400 ?_ | refine runD Γ hm 400 (by kernel_rfl) ?_); conv => whnf))
      refine stepOp (good_call [] rfl F88 ql rfl ⟨rfl, rfl, rfl, trivial⟩ rfl ⟨.inl rfl, .inl rfl, .inl rfl, trivial⟩) rfl rfl ?_
      ((first | refine run Γ hm 400 ?_ | refine runD Γ hm 400 (by kernel_rfl) ?_); (conv => whnf); repeat ((first | refine aF ?_ | refine aT ?_); (first | refine run Γ hm 400 ?_ | refine runD Γ hm 400 (by kernel_rfl) ?_); conv => whnf))
      exact done rfl (.cons .tmp .nil) [] (refO n up hs) (fun _ h => h) rfl rfl ⟨trivial, ⟨.inl rfl, rfl, .inl rfl, rfl, .inl rfl, rfl, trivial⟩, rfl, rfl⟩
  | true =>
    have hir := live_range hlv
    have hlh := T.len
    have hI : (hs.map Heard.is).length = n.ports.length := by rw [List.length_map]; exact hlh
    have hM : (hs.map Heard.msg).length = n.ports.length := by rw [List.length_map]; exact hlh
    have hh0 : nth hs i = hs[i.toNat]'(by omega) := nth_eq (by omega)
    have e : hearL n up hs i m = if takesB (hs[i.toNat]'(by omega)) m = true then hs.set i.toNat ⟨true, m⟩ else hs := by
      unfold hearL
      rw [hlv, hh0]
      simp only [true_and]
    rw [hlv] at ql
    obtain ⟨hh, hhh⟩ : ∃ x, hs[i.toNat]'(by omega) = x := ⟨_, rfl⟩
    have e2 : (hs.map Heard.is)[i.toNat]'(by omega) = hh.is := by rw [List.getElem_map]; exact congrArg Heard.is hhh
    have e3 : (hs.map Heard.msg)[i.toNat]'(by omega) = hh.msg := by rw [List.getElem_map]; exact congrArg Heard.msg hhh
    have s1 : ((hs.set i.toNat ⟨true, m⟩).map Heard.is) = (hs.map Heard.is).set i.toNat true := by rw [List.map_set]
    have s2 : ((hs.set i.toNat ⟨true, m⟩).map Heard.msg) = (hs.map Heard.msg).set i.toNat m := by rw [List.map_set]
    rw [hhh] at e
    rw [e]
    have qb := refBetterS m hh.msg
    have hch := hm1.ch
    refine contract Γ hm 100 F37 Tryz.ntmps37 rfl fun F hF => by
      ((conv => whnf); repeat ((first | refine aF ?_ | refine aT ?_); (first | refine run Γ hm 400 ?_ | refine runD Γ hm 400 (by kernel_rfl) ?_); conv => whnf))
      refine stepOp (good_call [] rfl F88 ql rfl ⟨rfl, rfl, rfl, trivial⟩ rfl ⟨.inl rfl, .inl rfl, .inl rfl, trivial⟩) rfl rfl ?_
      ((first | refine run Γ hm 400 ?_ | refine runD Γ hm 400 (by kernel_rfl) ?_); (conv => whnf); repeat ((first | refine aF ?_ | refine aT ?_); (first | refine run Γ hm 400 ?_ | refine runD Γ hm 400 (by kernel_rfl) ?_); conv => whnf))
      refine call0 qt F91 rfl rfl rfl rfl rfl ?_
      ((first | refine run Γ hm 400 ?_ | refine runD Γ hm 400 (by kernel_rfl) ?_); (conv => whnf); repeat ((first | refine aF ?_ | refine aT ?_); (first | refine run Γ hm 400 ?_ | refine runD Γ hm 400 (by kernel_rfl) ?_); conv => whnf))
      refine ⟨fun h => absurd (h.symm.trans hch) (by decide), fun _ => ?_⟩
      ((first | refine run Γ hm 400 ?_ | refine runD Γ hm 400 (by kernel_rfl) ?_); (conv => whnf); repeat ((first | refine aF ?_ | refine aT ?_); (first | refine run Γ hm 400 ?_ | refine runD Γ hm 400 (by kernel_rfl) ?_); conv => whnf))
      refine ⟨hir.1, (by show _ < (hs.map Heard.msg).length; omega), ?_⟩
      ((conv => whnf); repeat ((first | refine aF ?_ | refine aT ?_); (first | refine run Γ hm 400 ?_ | refine runD Γ hm 400 (by kernel_rfl) ?_); conv => whnf))
      refine ⟨rfl, (by show _ < (hs.map Heard.msg).length; omega), ?_⟩
      rw [e3]
      ((conv => whnf); repeat ((first | refine aF ?_ | refine aT ?_); (first | refine run Γ hm 400 ?_ | refine runD Γ hm 400 (by kernel_rfl) ?_); conv => whnf))
      refine ⟨hir.1, (by show _ < (hs.map Heard.is).length; omega), ?_⟩
      ((conv => whnf); repeat ((first | refine aF ?_ | refine aT ?_); (first | refine run Γ hm 400 ?_ | refine runD Γ hm 400 (by kernel_rfl) ?_); conv => whnf))
      refine ⟨rfl, (by show _ < (hs.map Heard.is).length; omega), ?_⟩
      rw [e2]
      ((conv => whnf); repeat ((first | refine aF ?_ | refine aT ?_); (first | refine run Γ hm 400 ?_ | refine runD Γ hm 400 (by kernel_rfl) ?_); conv => whnf))
      refine ⟨fun h => ?_, fun h => ?_⟩
      · have h1 : hh.is = false := by simpa using h
        have h2 : takesB hh m = true := by simp only [takesB, h1, Bool.not_false, Bool.true_or]
        rw [if_pos h2]
        ((first | refine run Γ hm 400 ?_ | refine runD Γ hm 400 (by kernel_rfl) ?_); (conv => whnf); repeat ((first | refine aF ?_ | refine aT ?_); (first | refine run Γ hm 400 ?_ | refine runD Γ hm 400 (by kernel_rfl) ?_); conv => whnf))
        refine ⟨hir.1, (by show _ < (hs.map Heard.is).length; omega), ?_⟩
        ((conv => whnf); repeat ((first | refine aF ?_ | refine aT ?_); (first | refine run Γ hm 400 ?_ | refine runD Γ hm 400 (by kernel_rfl) ?_); conv => whnf))
        refine ⟨rfl, (by show _ < (hs.map Heard.is).length; omega), true, (by rw [e2]; rfl), (by rw [e2]; rfl), ?_⟩
        ((conv => whnf); repeat ((first | refine aF ?_ | refine aT ?_); (first | refine run Γ hm 400 ?_ | refine runD Γ hm 400 (by kernel_rfl) ?_); conv => whnf))
        refine ⟨hir.1, (by show _ < (hs.map Heard.msg).length; omega), ?_⟩
        ((conv => whnf); repeat ((first | refine aF ?_ | refine aT ?_); (first | refine run Γ hm 400 ?_ | refine runD Γ hm 400 (by kernel_rfl) ?_); conv => whnf))
        refine ⟨rfl, (by show _ < (hs.map Heard.msg).length; omega), m, (by rw [e3]; rfl), (by rw [e3]; rfl), ?_⟩
        ((conv => whnf); repeat ((first | refine aF ?_ | refine aT ?_); (first | refine run Γ hm 400 ?_ | refine runD Γ hm 400 (by kernel_rfl) ?_); conv => whnf))
        refine ⟨(by kernel_rfl), ?_⟩
        ((conv => whnf); repeat ((first | refine aF ?_ | refine aT ?_); (first | refine run Γ hm 400 ?_ | refine runD Γ hm 400 (by kernel_rfl) ?_); conv => whnf))
        exact done rfl (.cons .tmp .nil) [] (refO n up (hs.set i.toNat ⟨true, m⟩)) (fun _ h => h) rfl rfl ⟨trivial, ⟨.inl rfl, rfl, .inl (congrArg (Ob.row 1 boolSV) s1), rfl, .inl (congrArg (Ob.row 10 msgSV) s2), rfl, trivial⟩, rfl, rfl⟩
      have h1 : hh.is = true := by simpa using h
      ((first | refine run Γ hm 400 ?_ | refine runD Γ hm 400 (by kernel_rfl) ?_); (conv => whnf); repeat ((first | refine aF ?_ | refine aT ?_); (first | refine run Γ hm 400 ?_ | refine runD Γ hm 400 (by kernel_rfl) ?_); conv => whnf))
      refine call0 qb F92 rfl rfl rfl rfl rfl ?_
      ((first | refine run Γ hm 400 ?_ | refine runD Γ hm 400 (by kernel_rfl) ?_); (conv => whnf); repeat ((first | refine aF ?_ | refine aT ?_); (first | refine run Γ hm 400 ?_ | refine runD Γ hm 400 (by kernel_rfl) ?_); conv => whnf))
      refine ⟨fun h => ?_, fun h => ?_⟩
      · have h2 : takesB hh m = true := by simp only [takesB, h, Bool.or_true, Bool.true_or]
        rw [if_pos h2]
        ((first | refine run Γ hm 400 ?_ | refine runD Γ hm 400 (by kernel_rfl) ?_); (conv => whnf); repeat ((first | refine aF ?_ | refine aT ?_); (first | refine run Γ hm 400 ?_ | refine runD Γ hm 400 (by kernel_rfl) ?_); conv => whnf))
        refine ⟨hir.1, (by show _ < (hs.map Heard.is).length; omega), ?_⟩
        ((conv => whnf); repeat ((first | refine aF ?_ | refine aT ?_); (first | refine run Γ hm 400 ?_ | refine runD Γ hm 400 (by kernel_rfl) ?_); conv => whnf))
        refine ⟨rfl, (by show _ < (hs.map Heard.is).length; omega), true, (by rw [e2]; rfl), (by rw [e2]; rfl), ?_⟩
        ((conv => whnf); repeat ((first | refine aF ?_ | refine aT ?_); (first | refine run Γ hm 400 ?_ | refine runD Γ hm 400 (by kernel_rfl) ?_); conv => whnf))
        refine ⟨hir.1, (by show _ < (hs.map Heard.msg).length; omega), ?_⟩
        ((conv => whnf); repeat ((first | refine aF ?_ | refine aT ?_); (first | refine run Γ hm 400 ?_ | refine runD Γ hm 400 (by kernel_rfl) ?_); conv => whnf))
        refine ⟨rfl, (by show _ < (hs.map Heard.msg).length; omega), m, (by rw [e3]; rfl), (by rw [e3]; rfl), ?_⟩
        ((conv => whnf); repeat ((first | refine aF ?_ | refine aT ?_); (first | refine run Γ hm 400 ?_ | refine runD Γ hm 400 (by kernel_rfl) ?_); conv => whnf))
        refine ⟨(by kernel_rfl), ?_⟩
        ((conv => whnf); repeat ((first | refine aF ?_ | refine aT ?_); (first | refine run Γ hm 400 ?_ | refine runD Γ hm 400 (by kernel_rfl) ?_); conv => whnf))
        exact done rfl (.cons .tmp .nil) [] (refO n up (hs.set i.toNat ⟨true, m⟩)) (fun _ h => h) rfl rfl ⟨trivial, ⟨.inl rfl, rfl, .inl (congrArg (Ob.row 1 boolSV) s1), rfl, .inl (congrArg (Ob.row 10 msgSV) s2), rfl, trivial⟩, rfl, rfl⟩
      have h2 : betterB m hh.msg = false := h
      ((first | refine run Γ hm 400 ?_ | refine runD Γ hm 400 (by kernel_rfl) ?_); (conv => whnf); repeat ((first | refine aF ?_ | refine aT ?_); (first | refine run Γ hm 400 ?_ | refine runD Γ hm 400 (by kernel_rfl) ?_); conv => whnf))
      refine ⟨fun h => ?_, fun h => ?_⟩
      · have h3 : m.bridge = hh.msg.bridge := by simp only [beq_iff_eq] at h; omega
        ((first | refine run Γ hm 400 ?_ | refine runD Γ hm 400 (by kernel_rfl) ?_); (conv => whnf); repeat ((first | refine aF ?_ | refine aT ?_); (first | refine run Γ hm 400 ?_ | refine runD Γ hm 400 (by kernel_rfl) ?_); conv => whnf))
        refine ⟨fun h => ?_, fun h => ?_⟩
        · have h4 : m.port = hh.msg.port := by simpa using h
          have h5 : takesB hh m = true := by simp [takesB, h3, h4]
          rw [if_pos h5]
          ((first | refine run Γ hm 400 ?_ | refine runD Γ hm 400 (by kernel_rfl) ?_); (conv => whnf); repeat ((first | refine aF ?_ | refine aT ?_); (first | refine run Γ hm 400 ?_ | refine runD Γ hm 400 (by kernel_rfl) ?_); conv => whnf))
          refine ⟨hir.1, (by show _ < (hs.map Heard.is).length; omega), ?_⟩
          ((conv => whnf); repeat ((first | refine aF ?_ | refine aT ?_); (first | refine run Γ hm 400 ?_ | refine runD Γ hm 400 (by kernel_rfl) ?_); conv => whnf))
          refine ⟨rfl, (by show _ < (hs.map Heard.is).length; omega), true, (by rw [e2]; rfl), (by rw [e2]; rfl), ?_⟩
          ((conv => whnf); repeat ((first | refine aF ?_ | refine aT ?_); (first | refine run Γ hm 400 ?_ | refine runD Γ hm 400 (by kernel_rfl) ?_); conv => whnf))
          refine ⟨hir.1, (by show _ < (hs.map Heard.msg).length; omega), ?_⟩
          ((conv => whnf); repeat ((first | refine aF ?_ | refine aT ?_); (first | refine run Γ hm 400 ?_ | refine runD Γ hm 400 (by kernel_rfl) ?_); conv => whnf))
          refine ⟨rfl, (by show _ < (hs.map Heard.msg).length; omega), m, (by rw [e3]; rfl), (by rw [e3]; rfl), ?_⟩
          ((conv => whnf); repeat ((first | refine aF ?_ | refine aT ?_); (first | refine run Γ hm 400 ?_ | refine runD Γ hm 400 (by kernel_rfl) ?_); conv => whnf))
          refine ⟨(by kernel_rfl), ?_⟩
          ((conv => whnf); repeat ((first | refine aF ?_ | refine aT ?_); (first | refine run Γ hm 400 ?_ | refine runD Γ hm 400 (by kernel_rfl) ?_); conv => whnf))
          exact done rfl (.cons .tmp .nil) [] (refO n up (hs.set i.toNat ⟨true, m⟩)) (fun _ h => h) rfl rfl ⟨trivial, ⟨.inl rfl, rfl, .inl (congrArg (Ob.row 1 boolSV) s1), rfl, .inl (congrArg (Ob.row 10 msgSV) s2), rfl, trivial⟩, rfl, rfl⟩
        · have h4 : ¬ m.port = hh.msg.port := by simpa using h
          have h5 : ¬ takesB hh m = true := by simp [takesB, h1, h2, h4]
          rw [if_neg h5]
          ((first | refine run Γ hm 400 ?_ | refine runD Γ hm 400 (by kernel_rfl) ?_); (conv => whnf); repeat ((first | refine aF ?_ | refine aT ?_); (first | refine run Γ hm 400 ?_ | refine runD Γ hm 400 (by kernel_rfl) ?_); conv => whnf))
          exact done rfl (.cons .tmp .nil) [] (refO n up hs) (fun _ h => h) rfl rfl ⟨trivial, ⟨.inl rfl, rfl, .inl rfl, rfl, .inl rfl, rfl, trivial⟩, rfl, rfl⟩
      · have h3 : ¬ m.bridge = hh.msg.bridge := fun e => by rw [e] at h; simp at h
        have h5 : ¬ takesB hh m = true := by simp [takesB, h1, h2, h3]
        rw [if_neg h5]
        ((first | refine run Γ hm 400 ?_ | refine runD Γ hm 400 (by kernel_rfl) ?_); (conv => whnf); repeat ((first | refine aF ?_ | refine aT ?_); (first | refine run Γ hm 400 ?_ | refine runD Γ hm 400 (by kernel_rfl) ?_); conv => whnf))
        exact done rfl (.cons .tmp .nil) [] (refO n up hs) (fun _ h => h) rfl rfl ⟨trivial, ⟨.inl rfl, rfl, .inl rfl, rfl, .inl rfl, rfl, trivial⟩, rfl, rfl⟩

theorem toldB_take {j : Nat} (hj : j < n.ports.length) : (toldB n up hs).take (j + 1) = (toldB n up hs).take j ++ [(tellO n up hs j).map (outM n j)] := by
  rw [List.take_succ_eq_append_getElem (by rw [toldB_length]; exact hj), toldB_get hj]

theorem msgEq_iff (a b : Msg) : msgEq a b = decide (a = b) := by
  have := heardEq ⟨true, a⟩ ⟨true, b⟩
  rw [Bool.eq_iff_iff] at this ⊢
  simpa [Heard.mk.injEq] using this

theorem out_len (i : Int) (m : Msg) : 0 < (outM n i m).length := List.length_pos_iff.2 (out_ne i m)

theorem refRoundS (T : Talk n up hs) (hn : n.Fin) : Sy.Spec Tryz.prog 17 [.ptr 0 0] (refO n up hs) (boolSV (!(decide (hs = roundL n up hs)))) (refO n up (roundL n up hs)) := by
 have hf := T.few
 have hlh := T.len
 have hrl : (roundL n up hs).length = hs.length := hearN_length ..
 obtain ⟨r, hr⟩ : ∃ r, roundL n up hs = r := ⟨_, rfl⟩
 have htl := toldB_length (n := n) (up := up) (hs := hs)
 rw [hr] at hrl ⊢
 have hI : (hs.map Heard.is).length = n.ports.length := by rw [List.length_map]; exact hlh
 have hM : (hs.map Heard.msg).length = n.ports.length := by rw [List.length_map]; exact hlh
 refine contract Γ hm 100 F17 Tryz.ntmps17 rfl fun F hF => by
  ((conv => whnf); repeat ((first | refine aF ?_ | refine aT ?_); (first | refine run Γ hm 400 ?_ | refine runD Γ hm 400 (by kernel_rfl) ?_); conv => whnf))
  refine G_adopt 3 1000 1 optSV rfl rfl ?_
  refine G_count n.ports.length (fun j => [(0, .ptr 0 0), (3, .osl 1000), (4, intSV j)]) (fun j => [(0, .box (refL n up)), (1, .row 1 boolSV (hs.map Heard.is)), (2, .row 10 msgSV (hs.map Heard.msg)), (1000, .row 1 optSV ((toldB n up hs).take j))]) []
    ⟨⟨rfl, rfl, rfl, rfl, rfl, rfl, trivial⟩, ⟨.inl rfl, rfl, .inl rfl, rfl, .inl rfl, rfl, .inl rfl, rfl, trivial⟩, rfl, rfl⟩ ?_
  intro j hj
  ((first | refine run Γ hm 400 ?_ | refine runD Γ hm 400 (by kernel_rfl) ?_); (conv => whnf); repeat ((first | refine aF ?_ | refine aT ?_); (first | refine run Γ hm 400 ?_ | refine runD Γ hm 400 (by kernel_rfl) ?_); conv => whnf))
  refine ⟨fun h => ?_, fun h => ?_⟩
  · have hlt : j < n.ports.length := by simpa using h
    obtain ⟨u, hu, hul, hsucc⟩ : ∃ u, (toldB n up hs).take j = u ∧ u.length ≤ n.ports.length ∧ (toldB n up hs).take (j + 1) = u ++ [(tellO n up hs j).map (outM n j)] := ⟨_, rfl, by simp; omega, toldB_take hlt⟩
    rw [hu]
    have qt := refTellS T j hlt
    cases ht : tellO n up hs j with
    | none =>
      rw [ht] at qt hsucc
      simp only [Option.map_none] at hsucc
      ((first | refine run Γ hm 400 ?_ | refine runD Γ hm 400 (by kernel_rfl) ?_); (conv => whnf); repeat ((first | refine aF ?_ | refine aT ?_); (first | refine run Γ hm 400 ?_ | refine runD Γ hm 400 (by kernel_rfl) ?_); conv => whnf))
      refine stepOp (good_call [] rfl F36 qt rfl ⟨rfl, rfl, rfl, trivial⟩ rfl ⟨.inl rfl, .inl rfl, .inl rfl, trivial⟩) rfl rfl ?_
      ((first | refine run Γ hm 400 ?_ | refine runD Γ hm 400 (by kernel_rfl) ?_); (conv => whnf); repeat ((first | refine aF ?_ | refine aT ?_); (first | refine run Γ hm 400 ?_ | refine runD Γ hm 400 (by kernel_rfl) ?_); conv => whnf))
      refine stepOp (good_appendT Γ.toTy 30 rfl rfl rfl rfl rfl (.row rfl) (.lit (e := optSV) (l := [none]) rfl rfl) (by simp) (by simp; omega) (by simp; omega)) rfl rfl ?_
      ((first | refine run Γ hm 400 ?_ | refine runD Γ hm 400 (by kernel_rfl) ?_); (conv => whnf); repeat ((first | refine aF ?_ | refine aT ?_); (first | refine run Γ hm 400 ?_ | refine runD Γ hm 400 (by kernel_rfl) ?_); conv => whnf))
      refine ⟨by unfold I64; omega, ?_⟩
      ((conv => whnf); repeat ((first | refine aF ?_ | refine aT ?_); (first | refine run Γ hm 400 ?_ | refine runD Γ hm 400 (by kernel_rfl) ?_); conv => whnf))
      exact G_next [(1000, 30)] hlt ⟨⟨rfl, rfl, rfl, rfl, rfl, rfl, trivial⟩, ⟨.inl rfl, rfl, .inl rfl, rfl, .inl rfl, rfl, .inl (congrArg (Ob.row 1 optSV) hsucc), rfl, trivial⟩, rfl, rfl⟩
    | some m =>
      rw [ht] at qt hsucc
      simp only [Option.map_some] at hsucc
      ((first | refine run Γ hm 400 ?_ | refine runD Γ hm 400 (by kernel_rfl) ?_); (conv => whnf); repeat ((first | refine aF ?_ | refine aT ?_); (first | refine run Γ hm 400 ?_ | refine runD Γ hm 400 (by kernel_rfl) ?_); conv => whnf))
      refine stepOp (good_call [] rfl F36 qt rfl ⟨rfl, rfl, rfl, trivial⟩ rfl ⟨.inl rfl, .inl rfl, .inl rfl, trivial⟩) rfl rfl ?_
      ((first | refine run Γ hm 400 ?_ | refine runD Γ hm 400 (by kernel_rfl) ?_); (conv => whnf); repeat ((first | refine aF ?_ | refine aT ?_); (first | refine run Γ hm 400 ?_ | refine runD Γ hm 400 (by kernel_rfl) ?_); conv => whnf))
      refine stepOp (good_appendT Γ.toTy 30 rfl rfl rfl rfl rfl (.row rfl) (.lit (e := optSV) (l := [some (outM n j m)]) rfl rfl) (by simp) (by simp; omega) (by simp; omega)) rfl rfl ?_
      ((first | refine run Γ hm 400 ?_ | refine runD Γ hm 400 (by kernel_rfl) ?_); (conv => whnf); repeat ((first | refine aF ?_ | refine aT ?_); (first | refine run Γ hm 400 ?_ | refine runD Γ hm 400 (by kernel_rfl) ?_); conv => whnf))
      refine ⟨by unfold I64; omega, ?_⟩
      ((conv => whnf); repeat ((first | refine aF ?_ | refine aT ?_); (first | refine run Γ hm 400 ?_ | refine runD Γ hm 400 (by kernel_rfl) ?_); conv => whnf))
      exact G_next [(1000, 30)] hlt ⟨⟨rfl, rfl, rfl, rfl, rfl, rfl, trivial⟩, ⟨.inl rfl, rfl, .inl rfl, rfl, .inl rfl, rfl, .inl (congrArg (Ob.row 1 optSV) hsucc), rfl, trivial⟩, rfl, rfl⟩
  have hjl : j = n.ports.length := by
    have : ¬ j < n.ports.length := by simpa using h
    omega
  subst hjl
  have eT : (toldB n up hs).take n.ports.length = toldB n up hs := by rw [← htl, List.take_length]
  rw [eT]
  clear hj h
  ((first | refine run Γ hm 400 ?_ | refine runD Γ hm 400 (by kernel_rfl) ?_); (conv => whnf); repeat ((first | refine aF ?_ | refine aT ?_); (first | refine run Γ hm 400 ?_ | refine runD Γ hm 400 (by kernel_rfl) ?_); conv => whnf))
  refine stepOp (good_appendT Γ.toTy 36 rfl rfl rfl rfl rfl (.lit (e := boolSV) (l := []) rfl rfl) (.row rfl) (by simp) (by simp; omega) (by simp; omega)) rfl rfl ?_
  ((first | refine run Γ hm 400 ?_ | refine runD Γ hm 400 (by kernel_rfl) ?_); (conv => whnf); repeat ((first | refine aF ?_ | refine aT ?_); (first | refine run Γ hm 400 ?_ | refine runD Γ hm 400 (by kernel_rfl) ?_); conv => whnf))
  refine stepOp (good_appendT Γ.toTy 42 rfl rfl rfl rfl rfl (.lit (e := msgSV) (l := []) rfl rfl) (.row rfl) (by simp) (by simp; omega) (by simp; omega)) rfl rfl ?_
  ((first | refine run Γ hm 400 ?_ | refine runD Γ hm 400 (by kernel_rfl) ?_); (conv => whnf); repeat ((first | refine aF ?_ | refine aT ?_); (first | refine run Γ hm 400 ?_ | refine runD Γ hm 400 (by kernel_rfl) ?_); conv => whnf))
  refine G_count n.ports.length (fun j => [(0, .ptr 0 0), (3, .osl 1000), (7, .osl 36), (8, .osl 42), (9, intSV j)]) (fun j => [(0, .box (refL n up)), (1, .row 1 boolSV ((hearN n up (toldL n up hs) hs j).map Heard.is)), (2, .row 10 msgSV ((hearN n up (toldL n up hs) hs j).map Heard.msg)), (36, .row 1 boolSV (hs.map Heard.is)), (42, .row 10 msgSV (hs.map Heard.msg)), (1000, .row 1 optSV (toldB n up hs))]) []
    ⟨⟨rfl, rfl, rfl, rfl, rfl, rfl, rfl, rfl, rfl, rfl, trivial⟩, ⟨.inl rfl, rfl, .inl rfl, rfl, .inl rfl, rfl, .inl rfl, rfl, .inl rfl, rfl, .inl rfl, rfl, trivial⟩, rfl, rfl⟩ ?_
  intro j hj
  have hnl := hearN_length n up (toldL n up hs) hs j
  have Tj := hearN_ok T j hj
  ((first | refine run Γ hm 400 ?_ | refine runD Γ hm 400 (by kernel_rfl) ?_); (conv => whnf); repeat ((first | refine aF ?_ | refine aT ?_); (first | refine run Γ hm 400 ?_ | refine runD Γ hm 400 (by kernel_rfl) ?_); conv => whnf))
  refine ⟨fun h => ?_, fun h => ?_⟩
  · have hlt : j < n.ports.length := by have := of_decide_eq_true h; omega
    obtain ⟨u, hu, hnl, Tj, hsucc⟩ : ∃ u, hearN n up (toldL n up hs) hs j = u ∧ u.length = hs.length ∧ Talk n up u ∧ hearN n up (toldL n up hs) hs (j + 1) = hearO n up (toldL n up hs) u j := ⟨_, rfl, hnl, Tj, hearN_succ n up (toldL n up hs) hs j⟩
    rw [hu]
    have hget := toldB_get (up := up) (hs := hs) hlt
    have hget' : (toldB n up hs)[(j : Int).toNat]'(by simp; omega) = (tellO n up hs j).map (outM n j) := hget
    unfold hearO at hsucc
    rw [told_get hlt] at hsucc
    cases ht : tellO n up hs j with
    | none =>
      rw [ht] at hsucc hget'
      ((first | refine run Γ hm 400 ?_ | refine runD Γ hm 400 (by kernel_rfl) ?_); (conv => whnf); repeat ((first | refine aF ?_ | refine aT ?_); (first | refine run Γ hm 400 ?_ | refine runD Γ hm 400 (by kernel_rfl) ?_); conv => whnf))
      refine ⟨by omega, by show _ < (toldB n up hs).length; omega, ?_⟩
      ((conv => whnf); repeat ((first | refine aF ?_ | refine aT ?_); (first | refine run Γ hm 400 ?_ | refine runD Γ hm 400 (by kernel_rfl) ?_); conv => whnf))
      refine ⟨rfl, by show _ < (toldB n up hs).length; omega, ?_⟩
      rw [hget']
      ((conv => whnf); repeat ((first | refine aF ?_ | refine aT ?_); (first | refine run Γ hm 400 ?_ | refine runD Γ hm 400 (by kernel_rfl) ?_); conv => whnf))
      refine ⟨by unfold I64; omega, ?_⟩
      ((conv => whnf); repeat ((first | refine aF ?_ | refine aT ?_); (first | refine run Γ hm 400 ?_ | refine runD Γ hm 400 (by kernel_rfl) ?_); conv => whnf))
      exact G_next [] hlt ⟨⟨rfl, rfl, rfl, rfl, rfl, rfl, rfl, rfl, rfl, rfl, trivial⟩, ⟨.inl rfl, rfl, .inl (congrArg (fun z : List Heard => Ob.row 1 boolSV (z.map Heard.is)) hsucc), rfl, .inl (congrArg (fun z : List Heard => Ob.row 10 msgSV (z.map Heard.msg)) hsucc), rfl, .inl rfl, rfl, .inl rfl, rfl, .inl rfl, rfl, trivial⟩, rfl, rfl⟩
    | some m =>
      rw [ht] at hsucc hget'
      simp only [Option.map_some] at hget'
      have hlv := tell_live ht
      have hok := tells_ok T hlt ht
      have qo := otherS n j hn.links
      have qh := refHearS Tj (otherI n.links j) (outM n j m) m hok.1
      have hne := out_len (n := n) (j : Int) m
      generalize outM n (j : Int) m = b at *
      ((first | refine run Γ hm 400 ?_ | refine runD Γ hm 400 (by kernel_rfl) ?_); (conv => whnf); repeat ((first | refine aF ?_ | refine aT ?_); (first | refine run Γ hm 400 ?_ | refine runD Γ hm 400 (by kernel_rfl) ?_); conv => whnf))
      refine ⟨by omega, by show _ < (toldB n up hs).length; omega, ?_⟩
      ((conv => whnf); repeat ((first | refine aF ?_ | refine aT ?_); (first | refine run Γ hm 400 ?_ | refine runD Γ hm 400 (by kernel_rfl) ?_); conv => whnf))
      refine ⟨rfl, by show _ < (toldB n up hs).length; omega, ?_⟩
      rw [hget']
      ((conv => whnf); repeat ((first | refine aF ?_ | refine aT ?_); (first | refine run Γ hm 400 ?_ | refine runD Γ hm 400 (by kernel_rfl) ?_); conv => whnf))
      refine ⟨fun _ => ?_, fun h => absurd (of_decide_eq_false h) (by omega)⟩
      ((first | refine run Γ hm 400 ?_ | refine runD Γ hm 400 (by kernel_rfl) ?_); (conv => whnf); repeat ((first | refine aF ?_ | refine aT ?_); (first | refine run Γ hm 400 ?_ | refine runD Γ hm 400 (by kernel_rfl) ?_); conv => whnf))
      refine callD0 qo F38 rfl rfl rfl (by kernel_rfl) rfl ?_
      ((first | refine run Γ hm 400 ?_ | refine runD Γ hm 400 (by kernel_rfl) ?_); (conv => whnf); repeat ((first | refine aF ?_ | refine aT ?_); (first | refine run Γ hm 400 ?_ | refine runD Γ hm 400 (by kernel_rfl) ?_); conv => whnf))
      refine ⟨by omega, by show _ < (toldB n up hs).length; omega, ?_⟩
      ((conv => whnf); repeat ((first | refine aF ?_ | refine aT ?_); (first | refine run Γ hm 400 ?_ | refine runD Γ hm 400 (by kernel_rfl) ?_); conv => whnf))
      refine ⟨rfl, by show _ < (toldB n up hs).length; omega, ?_⟩
      rw [hget']
      ((conv => whnf); repeat ((first | refine aF ?_ | refine aT ?_); (first | refine run Γ hm 400 ?_ | refine runD Γ hm 400 (by kernel_rfl) ?_); conv => whnf))
      refine stepD (good_call [] rfl F37 qh rfl ⟨rfl, rfl, rfl, trivial⟩ rfl ⟨.inl rfl, .inl rfl, .inl rfl, trivial⟩) (by kernel_rfl) rfl ?_
      ((first | refine run Γ hm 400 ?_ | refine runD Γ hm 400 (by kernel_rfl) ?_); (conv => whnf); repeat ((first | refine aF ?_ | refine aT ?_); (first | refine run Γ hm 400 ?_ | refine runD Γ hm 400 (by kernel_rfl) ?_); conv => whnf))
      refine ⟨(by kernel_rfl), ?_⟩
      ((conv => whnf); repeat ((first | refine aF ?_ | refine aT ?_); (first | refine run Γ hm 400 ?_ | refine runD Γ hm 400 (by kernel_rfl) ?_); conv => whnf))
      refine ⟨by unfold I64; omega, ?_⟩
      ((conv => whnf); repeat ((first | refine aF ?_ | refine aT ?_); (first | refine run Γ hm 400 ?_ | refine runD Γ hm 400 (by kernel_rfl) ?_); conv => whnf))
      exact G_next [] hlt ⟨⟨rfl, rfl, rfl, rfl, rfl, rfl, rfl, rfl, rfl, rfl, trivial⟩, ⟨.inl rfl, rfl, .inl (congrArg (fun z : List Heard => Ob.row 1 boolSV (z.map Heard.is)) hsucc), rfl, .inl (congrArg (fun z : List Heard => Ob.row 10 msgSV (z.map Heard.msg)) hsucc), rfl, .inl rfl, rfl, .inl rfl, rfl, .inl rfl, rfl, trivial⟩, rfl, rfl⟩
  have hjl : j = n.ports.length := by
    have : ¬ j < n.ports.length := by have := of_decide_eq_false h; omega
    omega
  subst hjl
  have e : hearN n up (toldL n up hs) hs n.ports.length = r := hr
  rw [e]
  clear hj h hnl Tj e
  have hRI : (r.map Heard.is).length = n.ports.length := by rw [List.length_map]; omega
  have hRM : (r.map Heard.msg).length = n.ports.length := by rw [List.length_map]; omega
  ((first | refine run Γ hm 400 ?_ | refine runD Γ hm 400 (by kernel_rfl) ?_); (conv => whnf); repeat ((first | refine aF ?_ | refine aT ?_); (first | refine run Γ hm 400 ?_ | refine runD Γ hm 400 (by kernel_rfl) ?_); conv => whnf))
  refine G_countP n.ports.length (fun j => ∀ i (h : i < hs.length), i < j → hs[i] = r[i]'(by omega)) (fun j => [(0, .ptr 0 0), (7, .osl 36), (8, .osl 42), (10, intSV j)]) (fun _ => [(0, .box (refL n up)), (1, .row 1 boolSV (r.map Heard.is)), (2, .row 10 msgSV (r.map Heard.msg)), (36, .row 1 boolSV (hs.map Heard.is)), (42, .row 10 msgSV (hs.map Heard.msg))]) [] (fun i h hj => absurd hj (by omega))
    ⟨⟨rfl, rfl, rfl, rfl, rfl, rfl, rfl, rfl, trivial⟩, ⟨.inl rfl, rfl, .inl rfl, rfl, .inl rfl, rfl, .inl rfl, rfl, .inl rfl, rfl, trivial⟩, rfl, rfl⟩ ?_
  intro j hj hP
  ((first | refine run Γ hm 400 ?_ | refine runD Γ hm 400 (by kernel_rfl) ?_); (conv => whnf); repeat ((first | refine aF ?_ | refine aT ?_); (first | refine run Γ hm 400 ?_ | refine runD Γ hm 400 (by kernel_rfl) ?_); conv => whnf))
  refine ⟨fun h => ?_, fun h => ?_⟩
  · have hlt : j < n.ports.length := by have := of_decide_eq_true h; omega
    obtain ⟨x, hx⟩ : ∃ x, hs[j]'(by omega) = x := ⟨_, rfl⟩
    obtain ⟨y, hy⟩ : ∃ y, r[j]'(by omega) = y := ⟨_, rfl⟩
    have i1 : (hs.map Heard.is)[(j : Int).toNat]'(by simp; omega) = x.is := by rw [List.getElem_map]; exact congrArg Heard.is hx
    have i2 : (r.map Heard.is)[(j : Int).toNat]'(by simp; omega) = y.is := by rw [List.getElem_map]; exact congrArg Heard.is hy
    have i3 : (hs.map Heard.msg)[(j : Int).toNat]'(by simp; omega) = x.msg := by rw [List.getElem_map]; exact congrArg Heard.msg hx
    have i4 : (r.map Heard.msg)[(j : Int).toNat]'(by simp; omega) = y.msg := by rw [List.getElem_map]; exact congrArg Heard.msg hy
    have hno : x ≠ y → ¬ hs = r := fun hxy e => hxy (by subst e; exact hx.symm.trans hy)
    ((first | refine run Γ hm 400 ?_ | refine runD Γ hm 400 (by kernel_rfl) ?_); (conv => whnf); repeat ((first | refine aF ?_ | refine aT ?_); (first | refine run Γ hm 400 ?_ | refine runD Γ hm 400 (by kernel_rfl) ?_); conv => whnf))
    refine ⟨by omega, by show _ < (hs.map Heard.is).length; omega, ?_⟩
    ((conv => whnf); repeat ((first | refine aF ?_ | refine aT ?_); (first | refine run Γ hm 400 ?_ | refine runD Γ hm 400 (by kernel_rfl) ?_); conv => whnf))
    refine ⟨rfl, by show _ < (hs.map Heard.is).length; omega, ?_⟩
    rw [i1]
    ((conv => whnf); repeat ((first | refine aF ?_ | refine aT ?_); (first | refine run Γ hm 400 ?_ | refine runD Γ hm 400 (by kernel_rfl) ?_); conv => whnf))
    refine ⟨by omega, by show _ < (r.map Heard.is).length; omega, ?_⟩
    ((conv => whnf); repeat ((first | refine aF ?_ | refine aT ?_); (first | refine run Γ hm 400 ?_ | refine runD Γ hm 400 (by kernel_rfl) ?_); conv => whnf))
    refine ⟨rfl, by show _ < (r.map Heard.is).length; omega, ?_⟩
    rw [i2]
    ((conv => whnf); repeat ((first | refine aF ?_ | refine aT ?_); (first | refine run Γ hm 400 ?_ | refine runD Γ hm 400 (by kernel_rfl) ?_); conv => whnf))
    refine ⟨fun h => ?_, fun h => ?_⟩
    · have hne : x.is ≠ y.is := by simpa using h
      have hd : (!decide (hs = r)) = true := by rw [decide_eq_false (hno fun e => hne (by rw [e]))]; rfl
      ((first | refine run Γ hm 400 ?_ | refine runD Γ hm 400 (by kernel_rfl) ?_); (conv => whnf); repeat ((first | refine aF ?_ | refine aT ?_); (first | refine run Γ hm 400 ?_ | refine runD Γ hm 400 (by kernel_rfl) ?_); conv => whnf))
      refine ⟨(by kernel_rfl), ?_⟩
      ((conv => whnf); repeat ((first | refine aF ?_ | refine aT ?_); (first | refine run Γ hm 400 ?_ | refine runD Γ hm 400 (by kernel_rfl) ?_); conv => whnf))
      exact done rfl (.cons .tmp .nil) [] (refO n up r) (fun _ h => h) (congrArg boolSV hd) rfl ⟨trivial, ⟨.inl rfl, rfl, .inl rfl, rfl, .inl rfl, rfl, trivial⟩, rfl, rfl⟩
    have his : x.is = y.is := by simpa using h
    ((first | refine run Γ hm 400 ?_ | refine runD Γ hm 400 (by kernel_rfl) ?_); (conv => whnf); repeat ((first | refine aF ?_ | refine aT ?_); (first | refine run Γ hm 400 ?_ | refine runD Γ hm 400 (by kernel_rfl) ?_); conv => whnf))
    refine ⟨by omega, by show _ < (hs.map Heard.msg).length; omega, ?_⟩
    ((conv => whnf); repeat ((first | refine aF ?_ | refine aT ?_); (first | refine run Γ hm 400 ?_ | refine runD Γ hm 400 (by kernel_rfl) ?_); conv => whnf))
    refine ⟨rfl, by show _ < (hs.map Heard.msg).length; omega, ?_⟩
    ((conv => whnf); repeat ((first | refine aF ?_ | refine aT ?_); (first | refine run Γ hm 400 ?_ | refine runD Γ hm 400 (by kernel_rfl) ?_); conv => whnf))
    refine ⟨by omega, by show _ < (r.map Heard.msg).length; omega, ?_⟩
    ((conv => whnf); repeat ((first | refine aF ?_ | refine aT ?_); (first | refine run Γ hm 400 ?_ | refine runD Γ hm 400 (by kernel_rfl) ?_); conv => whnf))
    refine ⟨rfl, by show _ < (r.map Heard.msg).length; omega, ?_⟩
    ((conv => whnf); repeat ((first | refine aF ?_ | refine aT ?_); (first | refine run Γ hm 400 ?_ | refine runD Γ hm 400 (by kernel_rfl) ?_); conv => whnf))
    refine ⟨(by kernel_rfl), ?_⟩
    ((conv => whnf); repeat ((first | refine aF ?_ | refine aT ?_); (first | refine run Γ hm 400 ?_ | refine runD Γ hm 400 (by kernel_rfl) ?_); conv => whnf))
    refine ⟨fun h => ?_, fun h => ?_⟩
    · have h' : (!(msgEq ((hs.map Heard.msg)[(j : Int).toNat]'(by simp; omega)) ((r.map Heard.msg)[(j : Int).toNat]'(by simp; omega)))) = true := h
      rw [i3, i4, msgEq_iff] at h'
      have hne : x.msg ≠ y.msg := by simpa using h'
      have hd : (!decide (hs = r)) = true := by rw [decide_eq_false (hno fun e => hne (by rw [e]))]; rfl
      ((first | refine run Γ hm 400 ?_ | refine runD Γ hm 400 (by kernel_rfl) ?_); (conv => whnf); repeat ((first | refine aF ?_ | refine aT ?_); (first | refine run Γ hm 400 ?_ | refine runD Γ hm 400 (by kernel_rfl) ?_); conv => whnf))
      exact done rfl (.cons .tmp .nil) [] (refO n up r) (fun _ h => h) (congrArg boolSV hd) rfl ⟨trivial, ⟨.inl rfl, rfl, .inl rfl, rfl, .inl rfl, rfl, trivial⟩, rfl, rfl⟩
    · have h' : (!(msgEq ((hs.map Heard.msg)[(j : Int).toNat]'(by simp; omega)) ((r.map Heard.msg)[(j : Int).toNat]'(by simp; omega)))) = false := h
      rw [i3, i4, msgEq_iff] at h'
      have hme : x.msg = y.msg := by simpa using h'
      have hxy : x = y := by
        obtain ⟨a, b⟩ := x
        obtain ⟨c, d⟩ := y
        simp only at his hme
        rw [his, hme]
      ((first | refine run Γ hm 400 ?_ | refine runD Γ hm 400 (by kernel_rfl) ?_); (conv => whnf); repeat ((first | refine aF ?_ | refine aT ?_); (first | refine run Γ hm 400 ?_ | refine runD Γ hm 400 (by kernel_rfl) ?_); conv => whnf))
      refine ⟨by unfold I64; omega, ?_⟩
      ((conv => whnf); repeat ((first | refine aF ?_ | refine aT ?_); (first | refine run Γ hm 400 ?_ | refine runD Γ hm 400 (by kernel_rfl) ?_); conv => whnf))
      refine G_nextP [] hP hlt (fun i hi hij => ?_) ⟨⟨rfl, rfl, rfl, rfl, rfl, rfl, rfl, rfl, trivial⟩, ⟨.inl rfl, rfl, .inl rfl, rfl, .inl rfl, rfl, .inl rfl, rfl, .inl rfl, rfl, trivial⟩, rfl, rfl⟩
      rcases Nat.lt_or_ge i j with h3 | h3
      · exact hP i hi h3
      · have : i = j := by omega
        subst this
        rw [hx, hy, hxy]
  · have hjl : j = n.ports.length := by
      have : ¬ j < n.ports.length := by have := of_decide_eq_false h; omega
      omega
    have he : hs = r := List.ext_getElem (by omega) fun i h1 _ => hP i h1 (by omega)
    have hd : (!decide (hs = r)) = false := by rw [decide_eq_true he]; rfl
    ((first | refine run Γ hm 400 ?_ | refine runD Γ hm 400 (by kernel_rfl) ?_); (conv => whnf); repeat ((first | refine aF ?_ | refine aT ?_); (first | refine run Γ hm 400 ?_ | refine runD Γ hm 400 (by kernel_rfl) ?_); conv => whnf))
    exact done rfl (.cons .tmp .nil) [] (refO n up r) (fun _ h => h) (congrArg boolSV hd) rfl ⟨trivial, ⟨.inl rfl, rfl, .inl rfl, rfl, .inl rfl, rfl, trivial⟩, rfl, rfl⟩
end
end Go.Sy.YthbgklhegccckaaGreat

namespace Go.Sy.YthbgklhegccckaaGreat
open Go.Proofs

attribute [local irreducible] Go.Sy.G Go.Sy.DR
set_option maxRecDepth 100000
set_option maxHeartbeats 4000000

theorem refNewBadS (n : Net) (up : List Bool) (hn : n.Fin) (hm1 : MacsIn n) (h : speakB n up = false) : Sy.Spec Tryz.prog 16 [netSV n, .sl 1 boolSV up] [] (.tup [.val (.pointer none), intSV 2]) [] := by
  have qu := refUnlikeS n hn hm1
  cases hu : unlikeB n with
  | false =>
    rw [hu] at qu
    refine contract Γ hm 100 F16 Tryz.ntmps16 rfl fun F hF => by
      ((conv => whnf); repeat ((first | refine aF ?_ | refine aT ?_); (first | refine run Γ hm 400 ?_ | refine runD Γ hm 400 (by kernel_rfl) ?_); conv => whnf))
      refine call0 qu F35 rfl rfl rfl rfl rfl ?_
      ((first | refine run Γ hm 400 ?_ | refine runD Γ hm 400 (by kernel_rfl) ?_); (conv => whnf); repeat ((first | refine aF ?_ | refine aT ?_); (first | refine run Γ hm 400 ?_ | refine runD Γ hm 400 (by kernel_rfl) ?_); conv => whnf))
      exact done0 rfl (.cons .tmp (.cons .tmp .nil)) rfl rfl
  | true =>
    rw [hu] at qu
    have hl : ¬ up.length = n.links.length := fun e => by simp [speakB, hu, e] at h
    refine contract Γ hm 100 F16 Tryz.ntmps16 rfl fun F hF => by
      ((conv => whnf); repeat ((first | refine aF ?_ | refine aT ?_); (first | refine run Γ hm 400 ?_ | refine runD Γ hm 400 (by kernel_rfl) ?_); conv => whnf))
      refine call0 qu F35 rfl rfl rfl rfl rfl ?_
      ((first | refine run Γ hm 400 ?_ | refine runD Γ hm 400 (by kernel_rfl) ?_); (conv => whnf); repeat ((first | refine aF ?_ | refine aT ?_); (first | refine run Γ hm 400 ?_ | refine runD Γ hm 400 (by kernel_rfl) ?_); conv => whnf))
      refine ⟨fun _ => ?_, fun h => absurd (show up.length = n.links.length by simp at h; omega) hl⟩
      ((first | refine run Γ hm 400 ?_ | refine runD Γ hm 400 (by kernel_rfl) ?_); (conv => whnf); repeat ((first | refine aF ?_ | refine aT ?_); (first | refine run Γ hm 400 ?_ | refine runD Γ hm 400 (by kernel_rfl) ?_); conv => whnf))
      exact done0 rfl (.cons .tmp (.cons .tmp .nil)) rfl rfl

theorem start_is (n : Net) : (start n).map Heard.is = List.replicate n.ports.length false := by simp [start]
theorem start_msg (n : Net) : (start n).map Heard.msg = List.replicate n.ports.length zeroMsg := by simp [start]

theorem refNewOKS (n : Net) (up : List Bool) (hn : n.Fin) (hm1 : MacsIn n) (h : speakB n up = true) : Sy.Spec Tryz.prog 16 [netSV n, .sl 1 boolSV up] [] (.tup [.ptr 0 0, intSV 0]) (refO n up (start n)) := contract Γ hm 100 F16 Tryz.ntmps16 rfl fun F hF => by
  have T := Talk.start h hm1
  have qu := refUnlikeS n hn hm1
  rw [T.unlike] at qu
  have hf := T.few
  have hups := T.ups
  ((conv => whnf); repeat ((first | refine aF ?_ | refine aT ?_); (first | refine run Γ hm 400 ?_ | refine runD Γ hm 400 (by kernel_rfl) ?_); conv => whnf))
  refine call0 qu F35 rfl rfl rfl rfl rfl ?_
  ((first | refine run Γ hm 400 ?_ | refine runD Γ hm 400 (by kernel_rfl) ?_); (conv => whnf); repeat ((first | refine aF ?_ | refine aT ?_); (first | refine run Γ hm 400 ?_ | refine runD Γ hm 400 (by kernel_rfl) ?_); conv => whnf))
  refine ⟨fun h => False.elim (by simp [hups] at h), fun _ => ?_⟩
  ((first | refine run Γ hm 400 ?_ | refine runD Γ hm 400 (by kernel_rfl) ?_); (conv => whnf); repeat ((first | refine aF ?_ | refine aT ?_); (first | refine run Γ hm 400 ?_ | refine runD Γ hm 400 (by kernel_rfl) ?_); conv => whnf))
  refine stepD (good_makeSlice Γ.toTy (d := 22) (n := n.ports.length) boolSV false rfl rfl rfl rfl rfl rfl rfl rfl (by omega) (by omega) rfl rfl rfl) (by kernel_rfl) rfl ?_
  ((first | refine run Γ hm 400 ?_ | refine runD Γ hm 400 (by kernel_rfl) ?_); (conv => whnf); repeat ((first | refine aF ?_ | refine aT ?_); (first | refine run Γ hm 400 ?_ | refine runD Γ hm 400 (by kernel_rfl) ?_); conv => whnf))
  refine stepD (good_makeSlice Γ.toTy (d := 26) (n := n.ports.length) msgSV zeroMsg rfl rfl rfl rfl rfl rfl rfl rfl (by omega) (by omega) rfl rfl rfl) (by kernel_rfl) rfl ?_
  ((first | refine run Γ hm 400 ?_ | refine runD Γ hm 400 (by kernel_rfl) ?_); (conv => whnf); repeat ((first | refine aF ?_ | refine aT ?_); (first | refine run Γ hm 400 ?_ | refine runD Γ hm 400 (by kernel_rfl) ?_); conv => whnf))
  refine ⟨(by kernel_rfl), ?_⟩
  ((conv => whnf); repeat ((first | refine aF ?_ | refine aT ?_); (first | refine run Γ hm 400 ?_ | refine runD Γ hm 400 (by kernel_rfl) ?_); conv => whnf))
  exact done rfl (.cons .tmp (.cons .tmp .nil)) [(0, 28), (1, 22), (2, 26)] (refO n up (start n)) (fun _ h => h) rfl rfl ⟨trivial, ⟨.inl rfl, rfl, .inl (congrArg (Ob.row 1 boolSV) (start_is n)), rfl, .inl (congrArg (Ob.row 10 msgSV) (start_msg n)), rfl, trivial⟩, rfl, rfl⟩

theorem refRolesTS {n : Net} {up : List Bool} {hs : List Heard} (T : Talk n up hs) : Sy.Spec Tryz.prog 18 [.ptr 0 0] (refO n up hs) (.sl 1 intSV (rolesH n up hs)) (refO n up hs) := contract Γ hm 100 F18 Tryz.ntmps18 rfl fun F hF => by
  have hf := T.few
  ((conv => whnf); repeat ((first | refine aF ?_ | refine aT ?_); (first | refine run Γ hm 400 ?_ | refine runD Γ hm 400 (by kernel_rfl) ?_); conv => whnf))
  refine G_adopt 3 1000 1 intSV rfl rfl ?_
  refine G_count n.ports.length (fun j => [(0, .ptr 0 0), (3, .osl 1000), (4, intSV j)]) (fun j => [(0, .box (refL n up)), (1, .row 1 boolSV (hs.map Heard.is)), (2, .row 10 msgSV (hs.map Heard.msg)), (1000, .row 1 intSV ((List.range j).map fun i : Nat => roleI n up hs i))]) []
    ⟨⟨rfl, rfl, rfl, rfl, rfl, rfl, trivial⟩, ⟨.inl rfl, rfl, .inl rfl, rfl, .inl rfl, rfl, .inl rfl, rfl, trivial⟩, rfl, rfl⟩ ?_
  intro j hj
  ((first | refine run Γ hm 400 ?_ | refine runD Γ hm 400 (by kernel_rfl) ?_); (conv => whnf); repeat ((first | refine aF ?_ | refine aT ?_); (first | refine run Γ hm 400 ?_ | refine runD Γ hm 400 (by kernel_rfl) ?_); conv => whnf))
  refine ⟨fun h => ?_, fun h => ?_⟩
  · have hlt : j < n.ports.length := by simpa using h
    obtain ⟨u, hu, hul, hsucc⟩ : ∃ u, ((List.range j).map fun i : Nat => roleI n up hs i) = u ∧ u.length = j ∧ ((List.range (j + 1)).map fun i : Nat => roleI n up hs i) = u ++ [roleI n up hs j] := ⟨_, rfl, by simp, by rw [List.range_succ, List.map_append]; rfl⟩
    rw [hu]
    have qr := refRoleS T j hlt
    generalize roleI n up hs (j : Int) = r at *
    ((first | refine run Γ hm 400 ?_ | refine runD Γ hm 400 (by kernel_rfl) ?_); (conv => whnf); repeat ((first | refine aF ?_ | refine aT ?_); (first | refine run Γ hm 400 ?_ | refine runD Γ hm 400 (by kernel_rfl) ?_); conv => whnf))
    refine stepOp (good_call [] rfl F39 qr rfl ⟨rfl, rfl, rfl, trivial⟩ rfl ⟨.inl rfl, .inl rfl, .inl rfl, trivial⟩) rfl rfl ?_
    ((first | refine run Γ hm 400 ?_ | refine runD Γ hm 400 (by kernel_rfl) ?_); (conv => whnf); repeat ((first | refine aF ?_ | refine aT ?_); (first | refine run Γ hm 400 ?_ | refine runD Γ hm 400 (by kernel_rfl) ?_); conv => whnf))
    refine stepOp (good_appendT Γ.toTy 20 rfl rfl rfl rfl rfl (.row rfl) (.lit (e := intSV) (l := [r]) rfl rfl) (by simp) (by simp; omega) (by simp; omega)) rfl rfl ?_
    ((first | refine run Γ hm 400 ?_ | refine runD Γ hm 400 (by kernel_rfl) ?_); (conv => whnf); repeat ((first | refine aF ?_ | refine aT ?_); (first | refine run Γ hm 400 ?_ | refine runD Γ hm 400 (by kernel_rfl) ?_); conv => whnf))
    refine ⟨by unfold I64; omega, ?_⟩
    ((conv => whnf); repeat ((first | refine aF ?_ | refine aT ?_); (first | refine run Γ hm 400 ?_ | refine runD Γ hm 400 (by kernel_rfl) ?_); conv => whnf))
    exact G_next [(1000, 20)] hlt ⟨⟨rfl, rfl, rfl, rfl, rfl, rfl, trivial⟩, ⟨.inl rfl, rfl, .inl rfl, rfl, .inl rfl, rfl, .inl (congrArg (Ob.row 1 intSV) hsucc), rfl, trivial⟩, rfl, rfl⟩
  · have hjl : j = n.ports.length := by
      have : ¬ j < n.ports.length := by simpa using h
      omega
    subst hjl
    ((first | refine run Γ hm 400 ?_ | refine runD Γ hm 400 (by kernel_rfl) ?_); (conv => whnf); repeat ((first | refine aF ?_ | refine aT ?_); (first | refine run Γ hm 400 ?_ | refine runD Γ hm 400 (by kernel_rfl) ?_); conv => whnf))
    refine G_data 1000 rfl ?_
    exact done rfl (.cons .tmp .nil) [] (refO n up hs) (fun _ h => h) rfl rfl ⟨trivial, ⟨.inl rfl, rfl, .inl rfl, rfl, .inl rfl, rfl, trivial⟩, rfl, rfl⟩

theorem refSettleBadS (n : Net) (up : List Bool) (hn : n.Fin) (hm1 : MacsIn n) (h : speakB n up = false) : Sy.Spec Tryz.prog 8 [netSV n, .sl 1 boolSV up] [] (.tup [.sl 1 intSV [], intSV 0, intSV 2]) [] := contract Γ hm 100 F8 Tryz.ntmps8 rfl fun F hF => by
  ((conv => whnf); repeat ((first | refine aF ?_ | refine aT ?_); (first | refine run Γ hm 400 ?_ | refine runD Γ hm 400 (by kernel_rfl) ?_); conv => whnf))
  refine call0 (refNewBadS n up hn hm1 h) F16 rfl rfl rfl rfl rfl ?_
  ((first | refine run Γ hm 400 ?_ | refine runD Γ hm 400 (by kernel_rfl) ?_); (conv => whnf); repeat ((first | refine aF ?_ | refine aT ?_); (first | refine run Γ hm 400 ?_ | refine runD Γ hm 400 (by kernel_rfl) ?_); conv => whnf))
  refine G_nilsl 4 1 intSV rfl ?_
  exact done0 rfl (.cons .tmp (.cons .tmp (.cons .tmp .nil))) rfl rfl

theorem refSettleOKS (n : Net) (up : List Bool) (hn : n.Fin) (hm1 : MacsIn n) (h : speakB n up = true) : Sy.Spec Tryz.prog 8 [netSV n, .sl 1 boolSV up] [] (.tup [.sl 1 intSV (settledR n up), intSV (settleJ n up), intSV 0]) [] := by
 obtain ⟨R, hR⟩ : ∃ R, settledR n up = R := ⟨_, rfl⟩
 obtain ⟨J, hJ⟩ : ∃ J, settleJ n up = J := ⟨_, rfl⟩
 rw [hR, hJ]
 refine contract Γ hm 100 F8 Tryz.ntmps8 rfl fun F hF => by
  ((conv => whnf); repeat ((first | refine aF ?_ | refine aT ?_); (first | refine run Γ hm 400 ?_ | refine runD Γ hm 400 (by kernel_rfl) ?_); conv => whnf))
  refine stepOp (good_call [(0, 13), (1, 14), (2, 15)] rfl F16 (refNewOKS n up hn hm1 h) rfl trivial rfl ⟨.inr rfl, .inr rfl, .inr rfl, trivial⟩) rfl rfl ?_
  ((first | refine run Γ hm 400 ?_ | refine runD Γ hm 400 (by kernel_rfl) ?_); (conv => whnf); repeat ((first | refine aF ?_ | refine aT ?_); (first | refine run Γ hm 400 ?_ | refine runD Γ hm 400 (by kernel_rfl) ?_); conv => whnf))
  refine G_countP 100 (fun j => ∀ i, i < j → ¬ roundN n up i = roundN n up (i + 1)) (fun j => [(7, .ptr 0 0), (9, intSV j)]) (fun j => refO n up (roundN n up j)) [(0, 13), (1, 14), (2, 15)] (fun i h => absurd h (by omega))
    ⟨⟨rfl, rfl, rfl, rfl, trivial⟩, ⟨.inl rfl, rfl, .inl rfl, rfl, .inl rfl, rfl, trivial⟩, rfl, rfl⟩ ?_
  intro j hj hI
  have T := Talk.roundN h hm1 j
  have T2 := Talk.roundN h hm1 (j + 1)
  have qr := refRoundS T hn
  have ql2 := refRolesTS T2
  have ql := refRolesTS T
  have e : roundL n up (roundN n up j) = roundN n up (j + 1) := rfl
  rw [e] at qr
  ((first | refine run Γ hm 400 ?_ | refine runD Γ hm 400 (by kernel_rfl) ?_); (conv => whnf); repeat ((first | refine aF ?_ | refine aT ?_); (first | refine run Γ hm 400 ?_ | refine runD Γ hm 400 (by kernel_rfl) ?_); conv => whnf))
  refine ⟨fun h => ?_, fun h => ?_⟩
  · have hlt : j < 100 := by have := of_decide_eq_true h; omega
    ((first | refine run Γ hm 400 ?_ | refine runD Γ hm 400 (by kernel_rfl) ?_); (conv => whnf); repeat ((first | refine aF ?_ | refine aT ?_); (first | refine run Γ hm 400 ?_ | refine runD Γ hm 400 (by kernel_rfl) ?_); conv => whnf))
    refine stepOp (good_call [] rfl F17 qr rfl ⟨rfl, rfl, rfl, trivial⟩ rfl ⟨.inl rfl, .inl rfl, .inl rfl, trivial⟩) rfl rfl ?_
    ((first | refine run Γ hm 400 ?_ | refine runD Γ hm 400 (by kernel_rfl) ?_); (conv => whnf); repeat ((first | refine aF ?_ | refine aT ?_); (first | refine run Γ hm 400 ?_ | refine runD Γ hm 400 (by kernel_rfl) ?_); conv => whnf))
    refine ⟨fun h => ?_, fun h => ?_⟩
    · have hne : ¬ roundN n up j = roundN n up (j + 1) := by simpa using h
      ((first | refine run Γ hm 400 ?_ | refine runD Γ hm 400 (by kernel_rfl) ?_); (conv => whnf); repeat ((first | refine aF ?_ | refine aT ?_); (first | refine run Γ hm 400 ?_ | refine runD Γ hm 400 (by kernel_rfl) ?_); conv => whnf))
      refine ⟨by unfold I64; omega, ?_⟩
      ((conv => whnf); repeat ((first | refine aF ?_ | refine aT ?_); (first | refine run Γ hm 400 ?_ | refine runD Γ hm 400 (by kernel_rfl) ?_); conv => whnf))
      refine G_nextP [] hI hlt (fun i hi => ?_) ⟨⟨rfl, rfl, rfl, rfl, trivial⟩, ⟨.inl rfl, rfl, .inl rfl, rfl, .inl rfl, rfl, trivial⟩, rfl, rfl⟩
      rcases Nat.lt_or_ge i j with h3 | h3
      · exact hI i h3
      · have : i = j := by omega
        subst this
        exact hne
    · have he : roundN n up j = roundN n up (j + 1) := by simpa using h
      have hJ2 : J = j := by rw [← hJ]; exact settle_at hlt hI he
      have hR2 : R = rolesH n up (roundN n up (j + 1)) := by rw [← hR, settledR, hJ, hJ2, ← he]
      rw [hJ2, hR2]
      ((first | refine run Γ hm 400 ?_ | refine runD Γ hm 400 (by kernel_rfl) ?_); (conv => whnf); repeat ((first | refine aF ?_ | refine aT ?_); (first | refine run Γ hm 400 ?_ | refine runD Γ hm 400 (by kernel_rfl) ?_); conv => whnf))
      refine stepOp (good_call [] rfl F18 ql2 rfl ⟨rfl, rfl, rfl, trivial⟩ rfl ⟨.inl rfl, .inl rfl, .inl rfl, trivial⟩) rfl rfl ?_
      ((first | refine run Γ hm 400 ?_ | refine runD Γ hm 400 (by kernel_rfl) ?_); (conv => whnf); repeat ((first | refine aF ?_ | refine aT ?_); (first | refine run Γ hm 400 ?_ | refine runD Γ hm 400 (by kernel_rfl) ?_); conv => whnf))
      exact done0 rfl (.cons .tmp (.cons .tmp (.cons .tmp .nil))) rfl rfl
  · have hj1 : j = 100 := by have := of_decide_eq_false h; omega
    subst hj1
    have hJ2 : J = 100 := by rw [← hJ]; exact settle_end hI
    have hR2 : R = rolesH n up (roundN n up 100) := by rw [← hR, settledR, hJ, hJ2]
    rw [hJ2, hR2]
    ((first | refine run Γ hm 400 ?_ | refine runD Γ hm 400 (by kernel_rfl) ?_); (conv => whnf); repeat ((first | refine aF ?_ | refine aT ?_); (first | refine run Γ hm 400 ?_ | refine runD Γ hm 400 (by kernel_rfl) ?_); conv => whnf))
    refine stepOp (good_call [] rfl F18 ql rfl ⟨rfl, rfl, rfl, trivial⟩ rfl ⟨.inl rfl, .inl rfl, .inl rfl, trivial⟩) rfl rfl ?_
    ((first | refine run Γ hm 400 ?_ | refine runD Γ hm 400 (by kernel_rfl) ?_); (conv => whnf); repeat ((first | refine aF ?_ | refine aT ?_); (first | refine run Γ hm 400 ?_ | refine runD Γ hm 400 (by kernel_rfl) ?_); conv => whnf))
    exact done0 rfl (.cons .tmp (.cons .tmp (.cons .tmp .nil))) rfl rfl

theorem settled_length (n : Net) (up : List Bool) : (settledR n up).length = n.ports.length := by simp [settledR, rolesH]

theorem speakSettlesS (n : Net) (up : List Bool) (hin : n.In) : Sy.Spec Tryz.prog 3 [netSV n, .sl 1 boolSV up] [] (boolSV true) [] := contract Γ hm 100 F3 Tryz.ntmps3 rfl fun F hF => by
  ((conv => whnf); repeat ((first | refine aF ?_ | refine aT ?_); (first | refine run Γ hm 400 ?_ | refine runD Γ hm 400 (by kernel_rfl) ?_); conv => whnf))
  refine call0 (greatS n) F5 rfl rfl rfl rfl rfl ?_
  ((first | refine run Γ hm 400 ?_ | refine runD Γ hm 400 (by kernel_rfl) ?_); (conv => whnf); repeat ((first | refine aF ?_ | refine aT ?_); (first | refine run Γ hm 400 ?_ | refine runD Γ hm 400 (by kernel_rfl) ?_); conv => whnf))
  refine ⟨fun h => ?_, fun h => ?_⟩
  · ((first | refine run Γ hm 400 ?_ | refine runD Γ hm 400 (by kernel_rfl) ?_); (conv => whnf); repeat ((first | refine aF ?_ | refine aT ?_); (first | refine run Γ hm 400 ?_ | refine runD Γ hm 400 (by kernel_rfl) ?_); conv => whnf))
    refine call0 speakWorksS F6 rfl rfl rfl rfl rfl ?_
    ((first | refine run Γ hm 400 ?_ | refine runD Γ hm 400 (by kernel_rfl) ?_); (conv => whnf); repeat ((first | refine aF ?_ | refine aT ?_); (first | refine run Γ hm 400 ?_ | refine runD Γ hm 400 (by kernel_rfl) ?_); conv => whnf))
    exact done0 rfl (.cons .tmp .nil) rfl rfl
  have hfin := fin_of_great h
  have hm1 := macs_in hin
  ((first | refine run Γ hm 400 ?_ | refine runD Γ hm 400 (by kernel_rfl) ?_); (conv => whnf); repeat ((first | refine aF ?_ | refine aT ?_); (first | refine run Γ hm 400 ?_ | refine runD Γ hm 400 (by kernel_rfl) ?_); conv => whnf))
  refine ⟨fun h => ?_, fun h => ?_⟩
  · ((first | refine run Γ hm 400 ?_ | refine runD Γ hm 400 (by kernel_rfl) ?_); (conv => whnf); repeat ((first | refine aF ?_ | refine aT ?_); (first | refine run Γ hm 400 ?_ | refine runD Γ hm 400 (by kernel_rfl) ?_); conv => whnf))
    refine call0 speakWorksS F6 rfl rfl rfl rfl rfl ?_
    ((first | refine run Γ hm 400 ?_ | refine runD Γ hm 400 (by kernel_rfl) ?_); (conv => whnf); repeat ((first | refine aF ?_ | refine aT ?_); (first | refine run Γ hm 400 ?_ | refine runD Γ hm 400 (by kernel_rfl) ?_); conv => whnf))
    exact done0 rfl (.cons .tmp .nil) rfl rfl
  cases hb : speakB n up with
  | false =>
    have q1 := settleBadS n up hfin hm1 hb
    have q2 := refSettleBadS n up hfin hm1 hb
    have q3 := intsS [] [] (by simp [Short])
    ((first | refine run Γ hm 400 ?_ | refine runD Γ hm 400 (by kernel_rfl) ?_); (conv => whnf); repeat ((first | refine aF ?_ | refine aT ?_); (first | refine run Γ hm 400 ?_ | refine runD Γ hm 400 (by kernel_rfl) ?_); conv => whnf))
    refine call0 q1 F7 rfl rfl rfl rfl rfl ?_
    ((first | refine run Γ hm 400 ?_ | refine runD Γ hm 400 (by kernel_rfl) ?_); (conv => whnf); repeat ((first | refine aF ?_ | refine aT ?_); (first | refine run Γ hm 400 ?_ | refine runD Γ hm 400 (by kernel_rfl) ?_); conv => whnf))
    refine call0 q2 F8 rfl rfl rfl rfl rfl ?_
    ((first | refine run Γ hm 400 ?_ | refine runD Γ hm 400 (by kernel_rfl) ?_); (conv => whnf); repeat ((first | refine aF ?_ | refine aT ?_); (first | refine run Γ hm 400 ?_ | refine runD Γ hm 400 (by kernel_rfl) ?_); conv => whnf))
    refine call0 q3 F9 rfl rfl rfl rfl rfl ?_
    ((first | refine run Γ hm 400 ?_ | refine runD Γ hm 400 (by kernel_rfl) ?_); (conv => whnf); repeat ((first | refine aF ?_ | refine aT ?_); (first | refine run Γ hm 400 ?_ | refine runD Γ hm 400 (by kernel_rfl) ?_); conv => whnf))
    refine call0 speakWorksS F6 rfl rfl rfl rfl rfl ?_
    ((first | refine run Γ hm 400 ?_ | refine runD Γ hm 400 (by kernel_rfl) ?_); (conv => whnf); repeat ((first | refine aF ?_ | refine aT ?_); (first | refine run Γ hm 400 ?_ | refine runD Γ hm 400 (by kernel_rfl) ?_); conv => whnf))
    exact done0 rfl (.cons .tmp .nil) rfl rfl
  | true =>
    have T := Talk.start hb hm1
    have hf := T.few
    have q1 := settleOKS n up hfin hm1 hb
    have q2 := refSettleOKS n up hfin hm1 hb
    have q3 := intsS (settledR n up) (settledR n up) (by unfold Short; rw [settled_length]; omega)
    rw [decide_eq_true rfl] at q3
    generalize settledR n up = R at *
    generalize settleJ n up = J at *
    ((first | refine run Γ hm 400 ?_ | refine runD Γ hm 400 (by kernel_rfl) ?_); (conv => whnf); repeat ((first | refine aF ?_ | refine aT ?_); (first | refine run Γ hm 400 ?_ | refine runD Γ hm 400 (by kernel_rfl) ?_); conv => whnf))
    refine call0 q1 F7 rfl rfl rfl rfl rfl ?_
    ((first | refine run Γ hm 400 ?_ | refine runD Γ hm 400 (by kernel_rfl) ?_); (conv => whnf); repeat ((first | refine aF ?_ | refine aT ?_); (first | refine run Γ hm 400 ?_ | refine runD Γ hm 400 (by kernel_rfl) ?_); conv => whnf))
    refine call0 q2 F8 rfl rfl rfl rfl rfl ?_
    ((first | refine run Γ hm 400 ?_ | refine runD Γ hm 400 (by kernel_rfl) ?_); (conv => whnf); repeat ((first | refine aF ?_ | refine aT ?_); (first | refine run Γ hm 400 ?_ | refine runD Γ hm 400 (by kernel_rfl) ?_); conv => whnf))
    refine call0 q3 F9 rfl rfl rfl rfl rfl ?_
    ((first | refine run Γ hm 400 ?_ | refine runD Γ hm 400 (by kernel_rfl) ?_); (conv => whnf); repeat ((first | refine aF ?_ | refine aT ?_); (first | refine run Γ hm 400 ?_ | refine runD Γ hm 400 (by kernel_rfl) ?_); conv => whnf))
    refine ⟨fun _ => ?_, fun h => False.elim (by simp at h)⟩
    ((first | refine run Γ hm 400 ?_ | refine runD Γ hm 400 (by kernel_rfl) ?_); (conv => whnf); repeat ((first | refine aF ?_ | refine aT ?_); (first | refine run Γ hm 400 ?_ | refine runD Γ hm 400 (by kernel_rfl) ?_); conv => whnf))
    refine call0 speakWorksS F6 rfl rfl rfl rfl rfl ?_
    ((first | refine run Γ hm 400 ?_ | refine runD Γ hm 400 (by kernel_rfl) ?_); (conv => whnf); repeat ((first | refine aF ?_ | refine aT ?_); (first | refine run Γ hm 400 ?_ | refine runD Γ hm 400 (by kernel_rfl) ?_); conv => whnf))
    exact done0 rfl (.cons .tmp .nil) rfl rfl
end Go.Sy.YthbgklhegccckaaGreat
