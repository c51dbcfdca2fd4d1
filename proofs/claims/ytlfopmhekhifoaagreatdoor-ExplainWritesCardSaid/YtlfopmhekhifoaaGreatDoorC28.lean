/-
  The document's lookup of a route. Plain law: the address that is chosen is the least one of the document's candidates.
-/
import Derived.Test.YtlfopmhekhifoaaGreatDoorC27

namespace Go.Sy.YtlfopmhekhifoaaGreatDoor
open Go.Proofs
-- SIMP: placeB

attribute [local irreducible] Go.Sy.G Go.Sy.DR
set_option maxRecDepth 20000
set_option maxHeartbeats 8000000

theorem refBetterS (n : Net) (irb a b : Int) (hk : InIrbs n irb) (ha : InIrbs n a) (hb : InIrbs n b) :
    Sy.Spec Tryz.prog 169 [netSV n, intSV irb, intSV a, intSV b] [] (boolSV (decide (0 < cmpR n irb a b))) [] := contract Γ hm 100 F169 Tryz.ntmps169 rfl fun F hF => by
  have hc := cmpR.eq_1 n irb a b
  unfold ownV at hc
  rw [nth_eq hk.2, nth_eq ha.2, nth_eq hb.2] at hc
  generalize cmpR n irb a b = r at *
  ((conv=>whnf);repeat((first|refine aF ?_|refine aT ?_);(first|refine rG Γ hm ?_|refine rD Γ hm (by kernel_rfl) ?_);conv=>whnf))
  refine ⟨rfl, ha.1, ha.2, ?_⟩
  ((conv=>whnf);repeat((first|refine aF ?_|refine aT ?_);(first|refine rG Γ hm ?_|refine rD Γ hm (by kernel_rfl) ?_);conv=>whnf))
  refine ⟨rfl, hb.1, hb.2, ?_⟩
  ((conv=>whnf);repeat((first|refine aF ?_|refine aT ?_);(first|refine rG Γ hm ?_|refine rD Γ hm (by kernel_rfl) ?_);conv=>whnf))
  refine ⟨(by kernel_rfl), ?_⟩
  ((conv=>whnf);repeat((first|refine aF ?_|refine aT ?_);(first|refine rG Γ hm ?_|refine rD Γ hm (by kernel_rfl) ?_);conv=>whnf))
  refine ⟨fun h => ?_, fun h => ?_⟩
  · have h1 : (n.irbs[a.toNat]'ha.2).bits ≠ (n.irbs[b.toNat]'hb.2).bits := by simpa using h
    rw [if_pos h1] at hc
    subst hc
    ((first|refine rG Γ hm ?_|refine rD Γ hm (by kernel_rfl) ?_);(conv=>whnf);repeat((first|refine aF ?_|refine aT ?_);(first|refine rG Γ hm ?_|refine rD Γ hm (by kernel_rfl) ?_);conv=>whnf))
    refine ⟨rfl, ha.1, ha.2, ?_⟩
    ((conv=>whnf);repeat((first|refine aF ?_|refine aT ?_);(first|refine rG Γ hm ?_|refine rD Γ hm (by kernel_rfl) ?_);conv=>whnf))
    refine ⟨rfl, hb.1, hb.2, ?_⟩
    ((conv=>whnf);repeat((first|refine aF ?_|refine aT ?_);(first|refine rG Γ hm ?_|refine rD Γ hm (by kernel_rfl) ?_);conv=>whnf))
    refine ⟨(by kernel_rfl), ?_⟩
    ((conv=>whnf);repeat((first|refine aF ?_|refine aT ?_);(first|refine rG Γ hm ?_|refine rD Γ hm (by kernel_rfl) ?_);conv=>whnf))
    refine done0 rfl (.cons .tmp .nil) (congrArg boolSV ?_) rfl
    refine decide_eq_decide.2 ?_
    omega
  · have h1 : ¬ (n.irbs[a.toNat]'ha.2).bits ≠ (n.irbs[b.toNat]'hb.2).bits := by simpa using h
    rw [if_neg h1] at hc
    ((first|refine rG Γ hm ?_|refine rD Γ hm (by kernel_rfl) ?_);(conv=>whnf);repeat((first|refine aF ?_|refine aT ?_);(first|refine rG Γ hm ?_|refine rD Γ hm (by kernel_rfl) ?_);conv=>whnf))
    refine ⟨rfl, ha.1, ha.2, ?_⟩
    ((conv=>whnf);repeat((first|refine aF ?_|refine aT ?_);(first|refine rG Γ hm ?_|refine rD Γ hm (by kernel_rfl) ?_);conv=>whnf))
    refine ⟨rfl, hk.1, hk.2, ?_⟩
    ((conv=>whnf);repeat((first|refine aF ?_|refine aT ?_);(first|refine rG Γ hm ?_|refine rD Γ hm (by kernel_rfl) ?_);conv=>whnf))
    refine ⟨fun h => ?_, fun h => ?_⟩
    · have h2 : (n.irbs[a.toNat]'ha.2).vrf = (n.irbs[irb.toNat]'hk.2).vrf := by simpa using h
      rw [if_pos h2] at hc
      ((first|refine rG Γ hm ?_|refine rD Γ hm (by kernel_rfl) ?_);(conv=>whnf);repeat((first|refine aF ?_|refine aT ?_);(first|refine rG Γ hm ?_|refine rD Γ hm (by kernel_rfl) ?_);conv=>whnf))
      refine ⟨rfl, hb.1, hb.2, ?_⟩
      ((conv=>whnf);repeat((first|refine aF ?_|refine aT ?_);(first|refine rG Γ hm ?_|refine rD Γ hm (by kernel_rfl) ?_);conv=>whnf))
      refine ⟨rfl, hk.1, hk.2, ?_⟩
      ((conv=>whnf);repeat((first|refine aF ?_|refine aT ?_);(first|refine rG Γ hm ?_|refine rD Γ hm (by kernel_rfl) ?_);conv=>whnf))
      refine ⟨(by kernel_rfl), ?_⟩
      ((conv=>whnf);repeat((first|refine aF ?_|refine aT ?_);(first|refine rG Γ hm ?_|refine rD Γ hm (by kernel_rfl) ?_);conv=>whnf))
      refine done0 rfl (.cons .tmp .nil) (congrArg boolSV ?_) rfl
      subst hc
      split <;> simp_all
    · have h2 : ¬ (n.irbs[a.toNat]'ha.2).vrf = (n.irbs[irb.toNat]'hk.2).vrf := by simpa using h
      rw [if_neg h2] at hc
      ((first|refine rG Γ hm ?_|refine rD Γ hm (by kernel_rfl) ?_);(conv=>whnf);repeat((first|refine aF ?_|refine aT ?_);(first|refine rG Γ hm ?_|refine rD Γ hm (by kernel_rfl) ?_);conv=>whnf))
      refine ⟨(by kernel_rfl), ?_⟩
      ((conv=>whnf);repeat((first|refine aF ?_|refine aT ?_);(first|refine rG Γ hm ?_|refine rD Γ hm (by kernel_rfl) ?_);conv=>whnf))
      refine done0 rfl (.cons .tmp .nil) (congrArg boolSV ?_) rfl
      subst hc
      split <;> simp_all

/-- The best one of a list; -1 of none. -/
def bestI (c : Int → Int → Int) (l : List Int) : Int := if l = [] then -1 else maxI c l (l.length - 1)

theorem maxI_append (c : Int → Int → Int) (l : List Int) (x : Int) (j : Nat) (h : j + 1 ≤ l.length) : maxI c (l ++ [x]) j = maxI c l j := by
  rw [maxI, maxI, List.drop_append_of_le_length (by omega), List.take_append_of_le_length (by simp; omega)]
  congr 1
  cases l with
  | nil => simp at h
  | cons a l => rfl

theorem bestI_snoc (c : Int → Int → Int) (l : List Int) (x : Int) (h : l ≠ []) : bestI c (l ++ [x]) = if 0 < c x (bestI c l) then x else bestI c l := by
  have hl : 0 < l.length := List.length_pos_iff.2 h
  rw [bestI, if_neg (by simp), bestI, if_neg h]
  have e : (l ++ [x]).length - 1 = (l.length - 1) + 1 := by simp; omega
  rw [e, maxI_succ c (l ++ [x]) (l.length - 1) (by simp; omega), maxI_append c l x (l.length - 1) (by omega)]
  have e2 : (l ++ [x])[l.length - 1 + 1]'(by simp; omega) = x := by
    have : l.length - 1 + 1 = l.length := by omega
    simp [this]
  rw [e2]

theorem bestI_one (c : Int → Int → Int) (x : Int) : bestI c [x] = x := by
  rw [bestI, if_neg (by simp)]; rfl

theorem bestI_mem (c : Int → Int → Int) (l : List Int) (h : l ≠ []) : bestI c l ∈ l := by
  have hl : 0 < l.length := List.length_pos_iff.2 h
  rw [bestI, if_neg h]
  exact maxI_mem c l hl _ (by omega)

theorem filtI_in {p : Nat → Bool} {j : Nat} {x : Int} (h : x ∈ filtI p j) : 0 ≤ x ∧ x < j := by
  have := filtI_mem.1 h
  omega

theorem lookT_best {n : Net} {irb dst : Int} (h : ∀ i, i < n.irbs.length → takenB n irb dst i = false) :
    lookT n irb dst = if waysL n irb dst = [] then (0, false) else (bestI (cmpR n irb) (waysL n irb dst), true) := by
  have : ¬ (List.range n.irbs.length).any (takenB n irb dst) = true := fun ha => by
    obtain ⟨i, hi, ht⟩ := List.any_eq_true.1 ha
    rw [h i (List.mem_range.1 hi)] at ht
    cases ht
  rw [lookT, if_neg this]
  split
  · rfl
  · rename_i hw
    rw [bestI, if_neg hw]

set_option maxHeartbeats 16000000 in
theorem refLookupS (n : Net) (hn : n.Fin) (hb : netRightB n = true) (hu : Addrs n) (irb dst : Int) (hk : InIrbs n irb) (hd : 0 ≤ dst ∧ dst < 4294967296) :
    Sy.Spec Tryz.prog 149 [netSV n, intSV irb, u32SV dst] [] (.tup [intSV (lookT n irb dst).1, boolSV (lookT n irb dst).2]) [] := contract Γ hm 100 F149 Tryz.ntmps149 rfl fun F hF => by
  have hp := ref15PlaceS irb n.irbs.length
  rw [placeB_true ⟨hk.1, by have := hk.2; omega⟩] at hp
  have hlk := lookT_best (n := n) (irb := irb) (dst := dst)
  have hlk0 := lookT.eq_1 n irb dst
  have hwl : waysL n irb dst = filtI (wayB n irb dst) n.irbs.length := rfl
  generalize lookT n irb dst = res at *
  have hsi := hn.irbs
  unfold Short at hsi
  have qk := refDeviceS n hb irb hk
  have hfk := (e_irb_facts hb hk.2).2.1
  ((conv=>whnf);repeat((first|refine aF ?_|refine aT ?_);(first|refine rG Γ hm ?_|refine rD Γ hm (by kernel_rfl) ?_);conv=>whnf))
  refine G_box 3 8 (netSV n) rfl rfl rfl ?_
  ((first|refine rG Γ hm ?_|refine rD Γ hm (by kernel_rfl) ?_);(conv=>whnf);repeat((first|refine aF ?_|refine aT ?_);(first|refine rG Γ hm ?_|refine rD Γ hm (by kernel_rfl) ?_);conv=>whnf))
  refine call0 hp F27 rfl rfl rfl rfl rfl ?_
  ((first|refine rG Γ hm ?_|refine rD Γ hm (by kernel_rfl) ?_);(conv=>whnf);repeat((first|refine aF ?_|refine aT ?_);(first|refine rG Γ hm ?_|refine rD Γ hm (by kernel_rfl) ?_);conv=>whnf))
  refine G_countP n.irbs.length (fun j => ∀ i, i < j → takenB n irb dst i = false) (fun j => [(1, intSV irb), (2, u32SV dst), (3, .ref 8 (netSV n) 0), (8, intSV (bestI (cmpR n irb) (filtI (wayB n irb dst) j))), (9, intSV j)]) (fun _ => []) [] (fun i hi => absurd hi (by omega)) ⟨⟨rfl, rfl, rfl, rfl, rfl, rfl, rfl, rfl, rfl, rfl, trivial⟩, trivial, rfl, rfl⟩ ?_
  intro j hj hI
  ((first|refine rG Γ hm ?_|refine rD Γ hm (by kernel_rfl) ?_);(conv=>whnf);repeat((first|refine aF ?_|refine aT ?_);(first|refine rG Γ hm ?_|refine rD Γ hm (by kernel_rfl) ?_);conv=>whnf))
  refine ⟨fun h => ?_, fun h => ?_⟩
  · have hlt : j < n.irbs.length := by simpa using h
    have hj0 : ((j : Nat) : Int).toNat < n.irbs.length := by simpa using hlt
    have hij : InIrbs n (j : Int) := ⟨by omega, hj0⟩
    have qj := refDeviceS n hb j hij
    have hsucc := filtI_succ (wayB n irb dst) j
    have hta : takenB n irb dst j = (irbDev n j == irbDev n irb && (nth n.irbs j).addr == dst) := rfl
    have hwa : wayB n irb dst j = (hasB (nth n.irbs j).addr (nth n.irbs j).bits dst && seesB n irb j) := rfl
    have hse : seesB n irb j = (irbDev n irb == irbDev n j && leaksB n (nth n.irbs j).vrf (nth n.irbs irb).vrf) := rfl
    have enj : nth n.irbs (j : Int) = n.irbs[((j : Nat) : Int).toNat]'hj0 := nth_eq (l := n.irbs) (i := (j : Int)) hj0
    rw [enj] at hta hwa hse
    rw [nth_eq hk.2] at hse
    have hfj := e_irb_facts hb hj0
    have hua := hu _ (List.getElem_mem hj0)
    have q1 := refHasS (n.irbs[((j : Nat) : Int).toNat]'hj0).addr (n.irbs[((j : Nat) : Int).toNat]'hj0).bits dst hfj.2.2 hua hd
    have q2 := refLeaksS n hn (n.irbs[((j : Nat) : Int).toNat]'hj0).vrf (n.irbs[irb.toNat]'hk.2).vrf hfj.2.1 hfk
    have hnx : takenB n irb dst j = false → ∀ i, i < j + 1 → takenB n irb dst i = false := fun hz i hi => by
      rcases Nat.lt_or_ge i j with h1 | h1
      · exact hI i h1
      · have : i = j := by omega
        subst this; exact hz
    have hbs := bestI_snoc (cmpR n irb) (filtI (wayB n irb dst) j) j
    have hbm := bestI_mem (cmpR n irb) (filtI (wayB n irb dst) j)
    have hbi := fun x => @filtI_in (wayB n irb dst) j x
    have hbo := bestI_one (cmpR n irb) j
    have hbn : bestI (cmpR n irb) [] = -1 := rfl
    generalize filtI (wayB n irb dst) j = u at *
    ((first|refine rG Γ hm ?_|refine rD Γ hm (by kernel_rfl) ?_);(conv=>whnf);repeat((first|refine aF ?_|refine aT ?_);(first|refine rG Γ hm ?_|refine rD Γ hm (by kernel_rfl) ?_);conv=>whnf))
    refine callD0 qj F166 rfl rfl rfl (by kernel_rfl) rfl ?_
    ((first|refine rG Γ hm ?_|refine rD Γ hm (by kernel_rfl) ?_);(conv=>whnf);repeat((first|refine aF ?_|refine aT ?_);(first|refine rG Γ hm ?_|refine rD Γ hm (by kernel_rfl) ?_);conv=>whnf))
    refine callD0 qk F166 rfl rfl rfl (by kernel_rfl) rfl ?_
    ((first|refine rG Γ hm ?_|refine rD Γ hm (by kernel_rfl) ?_);(conv=>whnf);repeat((first|refine aF ?_|refine aT ?_);(first|refine rG Γ hm ?_|refine rD Γ hm (by kernel_rfl) ?_);conv=>whnf))
    refine ⟨(by kernel_rfl), ?_⟩
    ((conv=>whnf);repeat((first|refine aF ?_|refine aT ?_);(first|refine rG Γ hm ?_|refine rD Γ hm (by kernel_rfl) ?_);conv=>whnf))
    refine ⟨fun h2 => ?_, fun h2 => ?_⟩
    · have h3 : irbDev n j ≠ irbDev n irb := by simpa using h2
      have e1 : takenB n irb dst j = false := by rw [hta]; simp [h3]
      have e2 : wayB n irb dst j = false := by rw [hwa, hse]; simp [Ne.symm h3]
      rw [if_neg (by rw [e2]; simp)] at hsucc
      ((first|refine rG Γ hm ?_|refine rD Γ hm (by kernel_rfl) ?_);(conv=>whnf);repeat((first|refine aF ?_|refine aT ?_);(first|refine rG Γ hm ?_|refine rD Γ hm (by kernel_rfl) ?_);conv=>whnf))
      refine ⟨by unfold I64; omega, ?_⟩
      ((conv=>whnf);repeat((first|refine aF ?_|refine aT ?_);(first|refine rG Γ hm ?_|refine rD Γ hm (by kernel_rfl) ?_);conv=>whnf))
      exact G_nextP [] hI (by omega) (hnx e1) ⟨⟨rfl, rfl, rfl, rfl, rfl, rfl, congrArg (fun z => intSV (bestI (cmpR n irb) z)) hsucc, rfl, rfl, rfl, trivial⟩, trivial, rfl, rfl⟩
    have h3 : irbDev n j = irbDev n irb := by simpa using h2
    ((first|refine rG Γ hm ?_|refine rD Γ hm (by kernel_rfl) ?_);(conv=>whnf);repeat((first|refine aF ?_|refine aT ?_);(first|refine rG Γ hm ?_|refine rD Γ hm (by kernel_rfl) ?_);conv=>whnf))
    refine ⟨rfl, hij.1, hj0, ?_⟩
    ((conv=>whnf);repeat((first|refine aF ?_|refine aT ?_);(first|refine rG Γ hm ?_|refine rD Γ hm (by kernel_rfl) ?_);conv=>whnf))
    refine ⟨fun h4 => ?_, fun h4 => ?_⟩
    · have e1 : takenB n irb dst j = true := by rw [hta, h3, h4]; simp
      rw [if_pos (List.any_eq_true.2 ⟨j, List.mem_range.2 hlt, e1⟩)] at hlk0
      subst hlk0
      ((first|refine rG Γ hm ?_|refine rD Γ hm (by kernel_rfl) ?_);(conv=>whnf);repeat((first|refine aF ?_|refine aT ?_);(first|refine rG Γ hm ?_|refine rD Γ hm (by kernel_rfl) ?_);conv=>whnf))
      exact done0 rfl (.cons .tmp (.cons .tmp .nil)) rfl rfl
    have e1 : takenB n irb dst j = false := by rw [hta, h4]; simp
    obtain ⟨hv, hhv⟩ : ∃ hv, hasB (n.irbs[((j : Nat) : Int).toNat]'hj0).addr (n.irbs[((j : Nat) : Int).toNat]'hj0).bits dst = hv := ⟨_, rfl⟩
    obtain ⟨lv, hlv⟩ : ∃ lv, leaksB n (n.irbs[((j : Nat) : Int).toNat]'hj0).vrf (n.irbs[irb.toNat]'hk.2).vrf = lv := ⟨_, rfl⟩
    rw [hhv] at q1 hwa
    rw [hlv] at q2 hse
    cases hv
    · rw [if_neg (by rw [hwa]; simp)] at hsucc
      ((first|refine rG Γ hm ?_|refine rD Γ hm (by kernel_rfl) ?_);(conv=>whnf);repeat((first|refine aF ?_|refine aT ?_);(first|refine rG Γ hm ?_|refine rD Γ hm (by kernel_rfl) ?_);conv=>whnf))
      refine ⟨rfl, hij.1, hj0, ?_⟩
      ((conv=>whnf);repeat((first|refine aF ?_|refine aT ?_);(first|refine rG Γ hm ?_|refine rD Γ hm (by kernel_rfl) ?_);conv=>whnf))
      refine callD0 q1 F167 rfl rfl rfl (by kernel_rfl) rfl ?_
      ((first|refine rG Γ hm ?_|refine rD Γ hm (by kernel_rfl) ?_);(conv=>whnf);repeat((first|refine aF ?_|refine aT ?_);(first|refine rG Γ hm ?_|refine rD Γ hm (by kernel_rfl) ?_);conv=>whnf))
      refine ⟨(by kernel_rfl), ?_⟩
      ((conv=>whnf);repeat((first|refine aF ?_|refine aT ?_);(first|refine rG Γ hm ?_|refine rD Γ hm (by kernel_rfl) ?_);conv=>whnf))
      refine ⟨by unfold I64; omega, ?_⟩
      ((conv=>whnf);repeat((first|refine aF ?_|refine aT ?_);(first|refine rG Γ hm ?_|refine rD Γ hm (by kernel_rfl) ?_);conv=>whnf))
      exact G_nextP [] hI (by omega) (hnx e1) ⟨⟨rfl, rfl, rfl, rfl, rfl, rfl, congrArg (fun z => intSV (bestI (cmpR n irb) z)) hsucc, rfl, rfl, rfl, trivial⟩, trivial, rfl, rfl⟩
    cases lv
    · rw [if_neg (by rw [hwa, hse]; simp)] at hsucc
      ((first|refine rG Γ hm ?_|refine rD Γ hm (by kernel_rfl) ?_);(conv=>whnf);repeat((first|refine aF ?_|refine aT ?_);(first|refine rG Γ hm ?_|refine rD Γ hm (by kernel_rfl) ?_);conv=>whnf))
      refine ⟨rfl, hij.1, hj0, ?_⟩
      ((conv=>whnf);repeat((first|refine aF ?_|refine aT ?_);(first|refine rG Γ hm ?_|refine rD Γ hm (by kernel_rfl) ?_);conv=>whnf))
      refine callD0 q1 F167 rfl rfl rfl (by kernel_rfl) rfl ?_
      ((first|refine rG Γ hm ?_|refine rD Γ hm (by kernel_rfl) ?_);(conv=>whnf);repeat((first|refine aF ?_|refine aT ?_);(first|refine rG Γ hm ?_|refine rD Γ hm (by kernel_rfl) ?_);conv=>whnf))
      refine ⟨rfl, hij.1, hj0, ?_⟩
      ((conv=>whnf);repeat((first|refine aF ?_|refine aT ?_);(first|refine rG Γ hm ?_|refine rD Γ hm (by kernel_rfl) ?_);conv=>whnf))
      refine ⟨rfl, hk.1, hk.2, ?_⟩
      ((conv=>whnf);repeat((first|refine aF ?_|refine aT ?_);(first|refine rG Γ hm ?_|refine rD Γ hm (by kernel_rfl) ?_);conv=>whnf))
      refine callD0 q2 F168 rfl rfl rfl (by kernel_rfl) rfl ?_
      ((first|refine rG Γ hm ?_|refine rD Γ hm (by kernel_rfl) ?_);(conv=>whnf);repeat((first|refine aF ?_|refine aT ?_);(first|refine rG Γ hm ?_|refine rD Γ hm (by kernel_rfl) ?_);conv=>whnf))
      refine ⟨(by kernel_rfl), ?_⟩
      ((conv=>whnf);repeat((first|refine aF ?_|refine aT ?_);(first|refine rG Γ hm ?_|refine rD Γ hm (by kernel_rfl) ?_);conv=>whnf))
      refine ⟨by unfold I64; omega, ?_⟩
      ((conv=>whnf);repeat((first|refine aF ?_|refine aT ?_);(first|refine rG Γ hm ?_|refine rD Γ hm (by kernel_rfl) ?_);conv=>whnf))
      exact G_nextP [] hI (by omega) (hnx e1) ⟨⟨rfl, rfl, rfl, rfl, rfl, rfl, congrArg (fun z => intSV (bestI (cmpR n irb) z)) hsucc, rfl, rfl, rfl, trivial⟩, trivial, rfl, rfl⟩
    rw [if_pos (by rw [hwa, hse, h3]; simp)] at hsucc
    ((first|refine rG Γ hm ?_|refine rD Γ hm (by kernel_rfl) ?_);(conv=>whnf);repeat((first|refine aF ?_|refine aT ?_);(first|refine rG Γ hm ?_|refine rD Γ hm (by kernel_rfl) ?_);conv=>whnf))
    refine ⟨rfl, hij.1, hj0, ?_⟩
    ((conv=>whnf);repeat((first|refine aF ?_|refine aT ?_);(first|refine rG Γ hm ?_|refine rD Γ hm (by kernel_rfl) ?_);conv=>whnf))
    refine callD0 q1 F167 rfl rfl rfl (by kernel_rfl) rfl ?_
    ((first|refine rG Γ hm ?_|refine rD Γ hm (by kernel_rfl) ?_);(conv=>whnf);repeat((first|refine aF ?_|refine aT ?_);(first|refine rG Γ hm ?_|refine rD Γ hm (by kernel_rfl) ?_);conv=>whnf))
    refine ⟨rfl, hij.1, hj0, ?_⟩
    ((conv=>whnf);repeat((first|refine aF ?_|refine aT ?_);(first|refine rG Γ hm ?_|refine rD Γ hm (by kernel_rfl) ?_);conv=>whnf))
    refine ⟨rfl, hk.1, hk.2, ?_⟩
    ((conv=>whnf);repeat((first|refine aF ?_|refine aT ?_);(first|refine rG Γ hm ?_|refine rD Γ hm (by kernel_rfl) ?_);conv=>whnf))
    refine callD0 q2 F168 rfl rfl rfl (by kernel_rfl) rfl ?_
    ((first|refine rG Γ hm ?_|refine rD Γ hm (by kernel_rfl) ?_);(conv=>whnf);repeat((first|refine aF ?_|refine aT ?_);(first|refine rG Γ hm ?_|refine rD Γ hm (by kernel_rfl) ?_);conv=>whnf))
    refine ⟨(by kernel_rfl), ?_⟩
    ((conv=>whnf);repeat((first|refine aF ?_|refine aT ?_);(first|refine rG Γ hm ?_|refine rD Γ hm (by kernel_rfl) ?_);conv=>whnf))
    refine ⟨fun h => ?_, fun h => ?_⟩
    · have hlt0 : bestI (cmpR n irb) u < 0 := of_decide_eq_true h
      have hne : u = [] := Classical.byContradiction fun hne => by have := hbi _ (hbm hne); omega
      subst hne
      ((first|refine rG Γ hm ?_|refine rD Γ hm (by kernel_rfl) ?_);(conv=>whnf);repeat((first|refine aF ?_|refine aT ?_);(first|refine rG Γ hm ?_|refine rD Γ hm (by kernel_rfl) ?_);conv=>whnf))
      refine ⟨by unfold I64; omega, ?_⟩
      ((conv=>whnf);repeat((first|refine aF ?_|refine aT ?_);(first|refine rG Γ hm ?_|refine rD Γ hm (by kernel_rfl) ?_);conv=>whnf))
      exact G_nextP [] hI (by omega) (hnx e1) ⟨⟨rfl, rfl, rfl, rfl, rfl, rfl, congrArg intSV (by rw [hsucc]; exact hbo), rfl, rfl, rfl, trivial⟩, trivial, rfl, rfl⟩
    have hge0 : ¬ bestI (cmpR n irb) u < 0 := of_decide_eq_false h
    have hne : u ≠ [] := fun e => by rw [e] at hge0; exact hge0 (by rw [hbn]; omega)
    have hbe := hbi _ (hbm hne)
    have hbs2 := hbs hne
    rw [← hsucc] at hbs2
    have hbI : InIrbs n (bestI (cmpR n irb) u) := ⟨hbe.1, by omega⟩
    have q3 := refBetterS n irb j (bestI (cmpR n irb) u) hk hij hbI
    generalize bestI (cmpR n irb) u = b at *
    ((first|refine rG Γ hm ?_|refine rD Γ hm (by kernel_rfl) ?_);(conv=>whnf);repeat((first|refine aF ?_|refine aT ?_);(first|refine rG Γ hm ?_|refine rD Γ hm (by kernel_rfl) ?_);conv=>whnf))
    refine call0 q3 F169 rfl rfl rfl rfl rfl ?_
    by_cases hc : 0 < cmpR n irb j b
    · rw [if_pos hc] at hbs2
      rw [decide_eq_true hc]
      ((first|refine rG Γ hm ?_|refine rD Γ hm (by kernel_rfl) ?_);(conv=>whnf);repeat((first|refine aF ?_|refine aT ?_);(first|refine rG Γ hm ?_|refine rD Γ hm (by kernel_rfl) ?_);conv=>whnf))
      refine ⟨by unfold I64; omega, ?_⟩
      ((conv=>whnf);repeat((first|refine aF ?_|refine aT ?_);(first|refine rG Γ hm ?_|refine rD Γ hm (by kernel_rfl) ?_);conv=>whnf))
      exact G_nextP [] hI (by omega) (hnx e1) ⟨⟨rfl, rfl, rfl, rfl, rfl, rfl, congrArg intSV hbs2, rfl, rfl, rfl, trivial⟩, trivial, rfl, rfl⟩
    · rw [if_neg hc] at hbs2
      rw [decide_eq_false hc]
      ((first|refine rG Γ hm ?_|refine rD Γ hm (by kernel_rfl) ?_);(conv=>whnf);repeat((first|refine aF ?_|refine aT ?_);(first|refine rG Γ hm ?_|refine rD Γ hm (by kernel_rfl) ?_);conv=>whnf))
      refine ⟨by unfold I64; omega, ?_⟩
      ((conv=>whnf);repeat((first|refine aF ?_|refine aT ?_);(first|refine rG Γ hm ?_|refine rD Γ hm (by kernel_rfl) ?_);conv=>whnf))
      exact G_nextP [] hI (by omega) (hnx e1) ⟨⟨rfl, rfl, rfl, rfl, rfl, rfl, congrArg intSV hbs2, rfl, rfl, rfl, trivial⟩, trivial, rfl, rfl⟩
  · have hje : j = n.irbs.length := by have := of_decide_eq_false h; omega
    subst hje
    have hlk2 := hlk (fun i hi => hI i hi)
    rw [hwl] at hlk2
    have hbm := bestI_mem (cmpR n irb) (filtI (wayB n irb dst) n.irbs.length)
    have hbi := fun x => @filtI_in (wayB n irb dst) n.irbs.length x
    have hbn : bestI (cmpR n irb) [] = -1 := rfl
    generalize filtI (wayB n irb dst) n.irbs.length = u at *
    by_cases hne : u = []
    · rw [if_pos hne] at hlk2
      subst hlk2 hne
      rw [hbn]
      ((first|refine rG Γ hm ?_|refine rD Γ hm (by kernel_rfl) ?_);(conv=>whnf);repeat((first|refine aF ?_|refine aT ?_);(first|refine rG Γ hm ?_|refine rD Γ hm (by kernel_rfl) ?_);conv=>whnf))
      exact done0 rfl (.cons .tmp (.cons .tmp .nil)) rfl rfl
    rw [if_neg hne] at hlk2
    have hbe := hbi _ (hbm hne)
    generalize bestI (cmpR n irb) u = b at *
    subst hlk2
    ((first|refine rG Γ hm ?_|refine rD Γ hm (by kernel_rfl) ?_);(conv=>whnf);repeat((first|refine aF ?_|refine aT ?_);(first|refine rG Γ hm ?_|refine rD Γ hm (by kernel_rfl) ?_);conv=>whnf))
    refine ⟨fun h => absurd (of_decide_eq_true h) (by omega), fun _ => ?_⟩
    ((first|refine rG Γ hm ?_|refine rD Γ hm (by kernel_rfl) ?_);(conv=>whnf);repeat((first|refine aF ?_|refine aT ?_);(first|refine rG Γ hm ?_|refine rD Γ hm (by kernel_rfl) ?_);conv=>whnf))
    exact done0 rfl (.cons .tmp (.cons .tmp .nil)) rfl rfl

end Go.Sy.YtlfopmhekhifoaaGreatDoor

namespace Go.Sy.YtlfopmhekhifoaaGreatDoor
open Go.Proofs

/-- How good a route is. -/
def keyR (n : Net) (irb a : Int) : Int := (nth n.irbs a).bits * 2 + ownV n irb a

theorem cmpR_key (n : Net) (irb a b : Int) : 0 < cmpR n irb a b ↔ keyR n irb b < keyR n irb a := by
  have h1 := ownV_le n irb a
  have h2 := ownV_le n irb b
  rw [cmpR, keyR, keyR]
  split <;> omega

theorem best_filt (n : Net) (irb : Int) (p : Nat → Bool) : ∀ j, filtI p j ≠ [] →
    ∀ y ∈ filtI p j, keyR n irb y ≤ keyR n irb (bestI (cmpR n irb) (filtI p j)) ∧ (y < bestI (cmpR n irb) (filtI p j) → keyR n irb y < keyR n irb (bestI (cmpR n irb) (filtI p j)))
  | 0, h => absurd rfl h
  | j + 1, h => by
    have ih := best_filt n irb p j
    have hm := bestI_mem (cmpR n irb) (filtI p j)
    have hin := fun x => @filtI_in p j x
    have hs := bestI_snoc (cmpR n irb) (filtI p j) j
    have ho := bestI_one (cmpR n irb) j
    rw [filtI_succ] at h ⊢
    split
    · generalize filtI p j = u at *
      by_cases hu : u = []
      · subst hu
        intro y hy
        rw [List.nil_append] at hy ⊢
        rw [ho]
        have : y = j := by simpa using hy
        subst this
        omega
      · have hs2 := hs hu
        have ih2 := ih hu
        have hmi := hin _ (hm hu)
        rw [hs2]
        split
        · rename_i hc
          rw [cmpR_key] at hc
          intro y hy
          rcases List.mem_append.1 hy with h1 | h1
          · have := (ih2 y h1).1
            omega
          · have : y = j := by simpa using h1
            subst this
            omega
        · rename_i hc
          rw [cmpR_key] at hc
          intro y hy
          rcases List.mem_append.1 hy with h1 | h1
          · exact ih2 y h1
          · have : y = j := by simpa using h1
            subst this
            omega
    · rename_i hp
      rw [if_neg hp] at h
      exact ih h

theorem lookT_is {n : Net} {irb dst : Int} (h : (lookT n irb dst).2 = true) : waysL n irb dst ≠ [] ∧ (lookT n irb dst).1 = bestI (cmpR n irb) (waysL n irb dst) := by
  rw [lookT] at h ⊢
  split at h
  · cases h
  · rename_i h1
    rw [if_neg h1]
    split at h
    · cases h
    · rename_i h2
      rw [if_neg h2]
      exact ⟨h2, by rw [bestI, if_neg h2]⟩

theorem lookT_no {n : Net} {irb dst : Int} (h : (lookT n irb dst).2 = false) : (∃ i, i < n.irbs.length ∧ takenB n irb dst i = true) ∨ waysL n irb dst = [] := by
  rw [lookT] at h
  split at h
  · rename_i h1
    obtain ⟨i, hi, ht⟩ := List.any_eq_true.1 h1
    exact .inl ⟨i, List.mem_range.1 hi, ht⟩
  · split at h
    · rename_i h2; exact .inr h2
    · cases h

theorem lookT_max {n : Net} {irb dst : Int} (h : (lookT n irb dst).2 = true) : (lookT n irb dst).1 ∈ waysL n irb dst ∧ ∀ y ∈ waysL n irb dst, keyR n irb y ≤ keyR n irb (lookT n irb dst).1 ∧ (y < (lookT n irb dst).1 → keyR n irb y < keyR n irb (lookT n irb dst).1) := by
  obtain ⟨h1, h2⟩ := lookT_is h
  rw [h2]
  exact ⟨bestI_mem _ _ h1, best_filt n irb _ _ h1⟩

theorem mem_ways {n : Net} {irb dst i : Int} : i ∈ waysL n irb dst ↔ InIrbs n i ∧ hasB (nth n.irbs i).addr (nth n.irbs i).bits dst = true ∧ seesB n irb i = true := by
  rw [waysL, filtI_mem]
  constructor
  · rintro ⟨h1, h2, h3⟩
    have e : (i.toNat : Int) = i := by omega
    rw [wayB, e, Bool.and_eq_true] at h3
    exact ⟨⟨h1, by omega⟩, h3⟩
  · rintro ⟨⟨h1, h2⟩, h3, h4⟩
    have e : (i.toNat : Int) = i := by omega
    refine ⟨h1, by omega, ?_⟩
    rw [wayB, e, h3, h4]; rfl

theorem takenA_iff {n : Net} {a : Int} : takenA n a = true ↔ ∃ i, ∃ h : i < n.irbs.length, n.irbs[i].addr = a := by
  rw [takenA, idxI_any, List.any_eq_true]
  constructor
  · rintro ⟨x, hx, hxa⟩
    obtain ⟨i, hi, rfl⟩ := List.getElem_of_mem hx
    exact ⟨i, hi, by simpa using hxa⟩
  · rintro ⟨i, hi, he⟩
    exact ⟨_, List.getElem_mem hi, by simpa using he⟩

def leadsB (n : Net) (irb to a : Int) : Bool := (lookT n irb a).2 && (lookT n irb a).1 == to && !takenA n a
theorem leadsB_iff {n : Net} {irb to a : Int} : leadsB n irb to a = true ↔ (lookT n irb a).2 = true ∧ (lookT n irb a).1 = to ∧ takenA n a = false := by
  simp [leadsB, and_assoc]

/-- The document's candidates. -/
def candU (n : Net) (to : Int) (j : Nat) : List Int := [firstI (nth n.irbs to).addr (nth n.irbs to).bits] ++ (n.irbs.take j).flatMap fun x => [x.addr + 1, lastI x.addr x.bits + 1]
def candL (n : Net) (to : Int) : List Int := candU n to n.irbs.length

theorem cand_in {n : Net} {to : Int} {i : Nat} (h : i < n.irbs.length) : n.irbs[i].addr + 1 ∈ candL n to ∧ lastI n.irbs[i].addr n.irbs[i].bits + 1 ∈ candL n to := by
  rw [candL, candU, List.take_length]
  constructor
  · exact List.mem_append_right _ (List.mem_flatMap.2 ⟨_, List.getElem_mem h, by simp⟩)
  · exact List.mem_append_right _ (List.mem_flatMap.2 ⟨_, List.getElem_mem h, by simp⟩)

theorem addrGo_spec {n : Net} (hu : Addrs n) (hb : netRightB n = true) {irb to : Int} (hti : InIrbs n to) : ∀ x, x ∈ candL n to → firstI (nth n.irbs to).addr (nth n.irbs to).bits ≤ x →
    (∀ a, firstI (nth n.irbs to).addr (nth n.irbs to).bits ≤ a → a < x → leadsB n irb to a = false) →
    ((addrGo n irb to (lastI (nth n.irbs to).addr (nth n.irbs to).bits) x).2 = true ∧ (addrGo n irb to (lastI (nth n.irbs to).addr (nth n.irbs to).bits) x).1 ∈ candL n to ∧
        leadsB n irb to (addrGo n irb to (lastI (nth n.irbs to).addr (nth n.irbs to).bits) x).1 = true ∧
        ∀ a, firstI (nth n.irbs to).addr (nth n.irbs to).bits ≤ a → a < (addrGo n irb to (lastI (nth n.irbs to).addr (nth n.irbs to).bits) x).1 → leadsB n irb to a = false) ∨
      (addrGo n irb to (lastI (nth n.irbs to).addr (nth n.irbs to).bits) x) = (0, false) ∧ ∀ a, firstI (nth n.irbs to).addr (nth n.irbs to).bits ≤ a → a ≤ lastI (nth n.irbs to).addr (nth n.irbs to).bits → leadsB n irb to a = false := by
  have hnt : nth n.irbs to = n.irbs[to.toNat]'hti.2 := nth_eq hti.2
  have hut := hu _ (List.getElem_mem hti.2)
  have hbt := (e_irb_facts hb hti.2).2.2
  rw [hnt]
  have hf := firstI_le _ (n.irbs[to.toNat]'hti.2).bits hut
  have hl := lastI_le _ (n.irbs[to.toNat]'hti.2).bits hut
  have hht : ∀ a, 0 ≤ a ∧ a < 4294967296 → (hasB (nth n.irbs to).addr (nth n.irbs to).bits a = true ↔ firstI (n.irbs[to.toNat]'hti.2).addr (n.irbs[to.toNat]'hti.2).bits ≤ a ∧ a ≤ lastI (n.irbs[to.toNat]'hti.2).addr (n.irbs[to.toNat]'hti.2).bits) := fun a ha => by
    rw [hnt]; exact hasB_iff _ _ _ hbt hut ha
  generalize firstI (n.irbs[to.toNat]'hti.2).addr (n.irbs[to.toNat]'hti.2).bits = f at *
  generalize lastI (n.irbs[to.toNat]'hti.2).addr (n.irbs[to.toNat]'hti.2).bits = e at *
  -- what leads at an address is a way there, and at all others of the prefix
  have hway : ∀ a b, f ≤ a → a ≤ e → f ≤ b → b ≤ e → leadsB n irb to a = true → to ∈ waysL n irb b := fun a b ha1 ha2 hb1 hb2 h => by
    obtain ⟨h1, h2, _⟩ := leadsB_iff.1 h
    have h3 := (lookT_max h1).1
    rw [h2] at h3
    have h4 := mem_ways.1 h3
    exact mem_ways.2 ⟨h4.1, (hht b (by omega)).2 ⟨hb1, hb2⟩, h4.2.2⟩
  intro x
  induction x using addrGo.induct n irb to e with
  | case1 x h1 h2 =>
    intro hc hfx hno
    rw [addrGo, if_pos h1, if_pos h2]
    exact .inl ⟨rfl, hc, leadsB_iff.2 h2, hno⟩
  | case2 x h1 h2 h3 =>
    intro hc hfx hno
    rw [addrGo, if_pos h1, if_neg h2, if_pos h3]
    refine .inr ⟨rfl, fun a ha1 ha2 => ?_⟩
    cases hla : leadsB n irb to a
    · rfl
    have hw := hway a x ha1 ha2 hfx h1 hla
    rcases lookT_no h3.1 with ⟨i, hi, ht⟩ | h
    · rw [takenB, nth_eq (l := n.irbs) (i := (i : Int)) (by simpa using hi), Bool.and_eq_true] at ht
      have : takenA n x = true := takenA_iff.2 ⟨i, hi, by simpa using ht.2⟩
      rw [h3.2] at this
      cases this
    · rw [h] at hw
      cases hw
  | case3 x h1 h2 h3 h4 ih =>
    intro hc hfx hno
    rw [addrGo, if_pos h1, if_neg h2, if_neg h3, if_pos h4]
    rw [pastI] at h4 ih ⊢
    cases ht : takenA n x
    · rw [ht] at h2 h3 h4 ih
      rw [if_neg (by simp)] at h4 ih ⊢
      have hl2 : (lookT n irb x).2 = true := by cases h : (lookT n irb x).2 with | true => rfl | false => exact absurd ⟨h, rfl⟩ h3
      have hne : (lookT n irb x).1 ≠ to := fun h => h2 ⟨hl2, h, rfl⟩
      have hmx := lookT_max hl2
      have hwl := mem_ways.1 hmx.1
      have hul := hu _ (List.getElem_mem hwl.1.2)
      have hbl := (e_irb_facts hb hwl.1.2).2.2
      have hln : nth n.irbs (lookT n irb x).1 = n.irbs[(lookT n irb x).1.toNat]'hwl.1.2 := nth_eq hwl.1.2
      refine ih ?_ (by omega) (fun a ha1 ha2 => ?_)
      · rw [hln]; exact (cand_in hwl.1.2).2
      · rcases Int.lt_or_le a x with hax | hax
        · exact hno a ha1 hax
        cases hla : leadsB n irb to a
        · rfl
        have hlb := leadsB_iff.1 hla
        have hma := lookT_max hlb.1
        rw [hlb.2.1] at hma
        have hta := mem_ways.1 hma.1
        rw [hln] at ha2 hwl
        have hr := lastI_le _ (n.irbs[(lookT n irb x).1.toNat]'hwl.1.2).bits hul
        have ha : 0 ≤ a ∧ a < 4294967296 := by omega
        have hae := ((hht a ha).1 hta.2.1).2
        have hx := (hasB_iff _ _ _ hbl hul (by omega : 0 ≤ x ∧ x < 4294967296)).1 hwl.2.1
        have hla2 : (lookT n irb x).1 ∈ waysL n irb a := mem_ways.2 ⟨hwl.1, by rw [hln]; exact (hasB_iff _ _ _ hbl hul ha).2 ⟨by omega, by omega⟩, hwl.2.2⟩
        have k1 := hmx.2 to (hway a x ha1 hae hfx h1 hla)
        have k2 := hma.2 _ hla2
        exact absurd (by omega) hne
    · rw [ht] at h4 ih
      rw [if_pos rfl] at h4 ih ⊢
      obtain ⟨i, hi, he⟩ := takenA_iff.1 ht
      refine ih (by rw [← he]; exact (cand_in hi).1) (by omega) (fun a ha1 ha2 => ?_)
      rcases Int.lt_or_le a x with hax | hax
      · exact hno a ha1 hax
      · have : a = x := by omega
        subst this
        simp [leadsB, ht]
  | case4 x h1 h2 h3 h4 =>
    intro hc hfx hno
    refine absurd (pastI_gt hu hb (irb := irb) (a := x) (by omega) (fun ht => ?_)).1 h4
    cases h : (lookT n irb x).2 with
    | true => rfl
    | false => exact absurd ⟨h, ht⟩ h3
  | case5 x h1 =>
    intro hc hfx hno
    rw [addrGo, if_neg h1]
    exact .inr ⟨rfl, fun a ha1 ha2 => hno a ha1 (by omega)⟩

/-- The least candidate that leads; -1. -/
def leastS (n : Net) (irb to : Int) (b a : Int) : Int := if a < 4294967296 ∧ (b < 0 ∨ a < b) ∧ leadsB n irb to a = true then a else b
def leastI (n : Net) (irb to : Int) (l : List Int) : Int := l.foldl (leastS n irb to) (-1)

theorem leastI_snoc (n : Net) (irb to : Int) (l : List Int) (a : Int) : leastI n irb to (l ++ [a]) = leastS n irb to (leastI n irb to l) a := by
  rw [leastI, List.foldl_append]; rfl

theorem rev_ind {α : Type} {p : List α → Prop} (h0 : p []) (h1 : ∀ l a, p l → p (l ++ [a])) : ∀ l, p l := by
  intro l
  have : ∀ k (l : List α), l.length = k → p l := by
    intro k
    induction k with
    | zero => intro l h; rw [List.length_eq_zero_iff.1 h]; exact h0
    | succ k ih =>
      intro l h
      rcases List.eq_nil_or_concat l with rfl | ⟨l', a, rfl⟩
      · cases h
      · rw [List.concat_eq_append] at h ⊢
        exact h1 l' a (ih l' (by simpa using h))
  exact this _ l rfl

theorem leastI_spec (n : Net) (irb to : Int) (l : List Int) : (∀ a ∈ l, 0 ≤ a) →
    (leastI n irb to l = -1 ∧ ∀ a ∈ l, a < 4294967296 → leadsB n irb to a = false) ∨
    ((0 ≤ leastI n irb to l ∧ leastI n irb to l < 4294967296) ∧ leadsB n irb to (leastI n irb to l) = true ∧ leastI n irb to l ∈ l ∧ ∀ a ∈ l, a < 4294967296 → leadsB n irb to a = true → leastI n irb to l ≤ a) := by
  induction l using rev_ind with
  | h0 => intro _; exact .inl ⟨rfl, fun a h => by cases h⟩
  | h1 l a ih =>
    intro h0
    have ih := ih (fun x hx => h0 x (List.mem_append_left _ hx))
    have ha := h0 a (by simp)
    rw [leastI_snoc, leastS]
    generalize leastI n irb to l = b at *
    rcases ih with ⟨rfl, h⟩ | ⟨h1, h2, h3, h4⟩
    · split
      · rename_i hc
        refine .inr ⟨⟨ha, hc.1⟩, hc.2.2, by simp, fun x hx hx2 hx3 => ?_⟩
        rcases List.mem_append.1 hx with h5 | h5
        · rw [h x h5 hx2] at hx3; cases hx3
        · have : x = a := by simpa using h5
          omega
      · rename_i hc
        refine .inl ⟨rfl, fun x hx hx2 => ?_⟩
        rcases List.mem_append.1 hx with h5 | h5
        · exact h x h5 hx2
        · have : x = a := by simpa using h5
          subst this
          cases hl : leadsB n irb to x
          · rfl
          · exact absurd ⟨hx2, .inl (by omega), hl⟩ hc
    · split
      · rename_i hc
        refine .inr ⟨⟨ha, hc.1⟩, hc.2.2, by simp, fun x hx hx2 hx3 => ?_⟩
        rcases List.mem_append.1 hx with h5 | h5
        · have := h4 x h5 hx2 hx3
          omega
        · have : x = a := by simpa using h5
          omega
      · rename_i hc
        refine .inr ⟨h1, h2, List.mem_append_left _ h3, fun x hx hx2 hx3 => ?_⟩
        rcases List.mem_append.1 hx with h5 | h5
        · exact h4 x h5 hx2 hx3
        · have : x = a := by simpa using h5
          subst this
          rcases Int.lt_or_le x b with h6 | h6
          · exact absurd ⟨hx2, .inr h6, hx3⟩ hc
          · exact h6

theorem cand_nonneg {n : Net} (hu : Addrs n) {to : Int} (hti : InIrbs n to) : ∀ j, ∀ a ∈ candU n to j, 0 ≤ a ∧ a ≤ 4294967296 := by
  intro j a ha
  rw [candU] at ha
  rcases List.mem_append.1 ha with h | h
  · have : a = firstI (nth n.irbs to).addr (nth n.irbs to).bits := by simpa using h
    rw [this, nth_eq hti.2]
    have := firstI_le _ (n.irbs[to.toNat]'hti.2).bits (hu _ (List.getElem_mem hti.2))
    omega
  · obtain ⟨x, hx, h⟩ := List.mem_flatMap.1 h
    have hx2 := hu x (List.mem_of_mem_take hx)
    have hl := lastI_le _ x.bits hx2
    have : a = x.addr + 1 ∨ a = lastI x.addr x.bits + 1 := by simpa using h
    omega

theorem addr_same {n : Net} (hu : Addrs n) (hb : netRightB n = true) {irb to : Int} (hk : InIrbs n irb) (hti : InIrbs n to) :
    addrT n irb to = if leastI n irb to (candL n to) < 0 then (0, false) else (leastI n irb to (candL n to), true) := by
  have hnt : nth n.irbs to = n.irbs[to.toNat]'hti.2 := nth_eq hti.2
  have hut := hu _ (List.getElem_mem hti.2)
  have hbt := (e_irb_facts hb hti.2).2.2
  have hl := lastI_le _ (n.irbs[to.toNat]'hti.2).bits hut
  have hin : ∀ a, 0 ≤ a ∧ a < 4294967296 → leadsB n irb to a = true → firstI (nth n.irbs to).addr (nth n.irbs to).bits ≤ a ∧ a ≤ lastI (nth n.irbs to).addr (nth n.irbs to).bits := fun a ha h => by
    obtain ⟨h1, h2, _⟩ := leadsB_iff.1 h
    have h3 := (lookT_max h1).1
    rw [h2] at h3
    have h4 := (mem_ways.1 h3).2.1
    rw [hnt] at h4 ⊢
    exact (hasB_iff _ _ _ hbt hut ha).1 h4
  have hsp := addrGo_spec hu hb (irb := irb) hti _ (show firstI (nth n.irbs to).addr (nth n.irbs to).bits ∈ candL n to by rw [candL, candU]; simp) (Int.le_refl _) (fun a h1 h2 => by omega)
  have hls := leastI_spec n irb to (candL n to) (fun a ha => (cand_nonneg hu hti _ a ha).1)
  have hcn := cand_nonneg hu hti n.irbs.length
  have hf0 := firstI_le _ (n.irbs[to.toNat]'hti.2).bits hut
  rw [← hnt] at hf0
  rw [addrT, if_pos ⟨⟨hk.1, by have := hk.2; omega⟩, ⟨hti.1, by have := hti.2; omega⟩, hb⟩]
  rw [← hnt] at hl
  have hgo := (addrGo_in (n := n) (irb := irb) (to := to) hl.2 hf0.1).2
  generalize firstI (nth n.irbs to).addr (nth n.irbs to).bits = f at *
  generalize lastI (nth n.irbs to).addr (nth n.irbs to).bits = e at *
  generalize addrGo n irb to e f = r at *
  change ∀ a ∈ candL n to, 0 ≤ a ∧ a ≤ 4294967296 at hcn
  generalize candL n to = l at *
  generalize leastI n irb to l = b at *
  rcases hsp with ⟨h1, h2, h3, h4⟩ | ⟨rfl, h1⟩
  · have hr := hcn _ h2
    have hr2 := hgo
    rcases hls with ⟨_, h5⟩ | ⟨h5, h6, h7, h8⟩
    · rw [h5 _ h2 hr2] at h3; cases h3
    · rw [if_neg (by omega)]
      have h9 := h8 _ h2 hr2 h3
      have h10 := hin b h5 h6
      have : r.1 = b := by
        rcases Int.lt_or_le b r.1 with h | h
        · rw [h4 b h10.1 h] at h6; cases h6
        · omega
      rw [← this, ← h1]
  · rcases hls with ⟨h5, _⟩ | ⟨h5, h6, _, _⟩
    · rw [if_pos (by omega)]
    · have h10 := hin b h5 h6
      rw [h1 b h10.1 h10.2] at h6; cases h6

end Go.Sy.YtlfopmhekhifoaaGreatDoor
