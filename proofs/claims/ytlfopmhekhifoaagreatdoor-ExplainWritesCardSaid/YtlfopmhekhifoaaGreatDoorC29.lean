/-
  The document's address and routes. The document's ways: states met.
-/
import Derived.Test.YtlfopmhekhifoaaGreatDoorC28
import Derived.Test.YtlfopmhekhifoaaGreatDoorC23
import Derived.Test.YtlfopmhekhifoaaGreatDoorC4

namespace Go.Sy.YtlfopmhekhifoaaGreatDoor
open Go.Proofs
-- SIMP: placeB

attribute [local irreducible] Go.Sy.G Go.Sy.DR
set_option maxRecDepth 20000
set_option maxHeartbeats 8000000

theorem refTakenS (n : Net) (hn : n.Fin) (a : Int) : Sy.Spec Tryz.prog 150 [netSV n, u32SV a] [] (boolSV (takenA n a)) [] := contract Γ hm 100 F150 Tryz.ntmps150 rfl fun F hF => by
  have hsi := hn.irbs
  unfold Short at hsi
  have hlk := @takenA_iff n a
  generalize takenA n a = res at *
  ((conv=>whnf);repeat((first|refine aF ?_|refine aT ?_);(first|refine rG Γ hm ?_|refine rD Γ hm (by kernel_rfl) ?_);conv=>whnf))
  refine G_box 2 8 (netSV n) rfl rfl rfl ?_
  ((first|refine rG Γ hm ?_|refine rD Γ hm (by kernel_rfl) ?_);(conv=>whnf);repeat((first|refine aF ?_|refine aT ?_);(first|refine rG Γ hm ?_|refine rD Γ hm (by kernel_rfl) ?_);conv=>whnf))
  refine G_countP n.irbs.length (fun j => ∀ i (h : i < n.irbs.length), i < j → n.irbs[i].addr ≠ a) (fun j => [(1, u32SV a), (2, .ref 8 (netSV n) 0), (5, intSV j)]) (fun _ => []) [] (fun i h hi => absurd hi (by omega)) ⟨⟨rfl, rfl, rfl, rfl, rfl, rfl, trivial⟩, trivial, rfl, rfl⟩ ?_
  intro j hj hI
  ((first|refine rG Γ hm ?_|refine rD Γ hm (by kernel_rfl) ?_);(conv=>whnf);repeat((first|refine aF ?_|refine aT ?_);(first|refine rG Γ hm ?_|refine rD Γ hm (by kernel_rfl) ?_);conv=>whnf))
  refine ⟨fun h => ?_, fun h => ?_⟩
  · have hlt : j < n.irbs.length := by simpa using h
    have hj0 : ((j : Nat) : Int).toNat < n.irbs.length := by simpa using hlt
    ((first|refine rG Γ hm ?_|refine rD Γ hm (by kernel_rfl) ?_);(conv=>whnf);repeat((first|refine aF ?_|refine aT ?_);(first|refine rG Γ hm ?_|refine rD Γ hm (by kernel_rfl) ?_);conv=>whnf))
    refine ⟨rfl, by omega, hj0, ?_⟩
    ((conv=>whnf);repeat((first|refine aF ?_|refine aT ?_);(first|refine rG Γ hm ?_|refine rD Γ hm (by kernel_rfl) ?_);conv=>whnf))
    refine ⟨fun h2 => ?_, fun h2 => ?_⟩
    · have h3 : (n.irbs[((j : Nat) : Int).toNat]'hj0).addr = a := by simpa using h2
      rw [show res = true from hlk.2 ⟨j, hlt, h3⟩]
      ((first|refine rG Γ hm ?_|refine rD Γ hm (by kernel_rfl) ?_);(conv=>whnf);repeat((first|refine aF ?_|refine aT ?_);(first|refine rG Γ hm ?_|refine rD Γ hm (by kernel_rfl) ?_);conv=>whnf))
      exact done0 rfl (.cons .tmp .nil) rfl rfl
    · have h3 : (n.irbs[((j : Nat) : Int).toNat]'hj0).addr ≠ a := by simpa using h2
      ((first|refine rG Γ hm ?_|refine rD Γ hm (by kernel_rfl) ?_);(conv=>whnf);repeat((first|refine aF ?_|refine aT ?_);(first|refine rG Γ hm ?_|refine rD Γ hm (by kernel_rfl) ?_);conv=>whnf))
      refine ⟨by unfold I64; omega, ?_⟩
      ((conv=>whnf);repeat((first|refine aF ?_|refine aT ?_);(first|refine rG Γ hm ?_|refine rD Γ hm (by kernel_rfl) ?_);conv=>whnf))
      refine G_nextP [] hI (by omega) (fun i h hi => ?_) ⟨⟨rfl, rfl, rfl, rfl, rfl, rfl, trivial⟩, trivial, rfl, rfl⟩
      rcases Nat.lt_or_ge i j with h1 | h1
      · exact hI i h h1
      · have : i = j := by omega
        subst this; exact h3
  · have hje : j = n.irbs.length := by have := of_decide_eq_false h; omega
    subst hje
    cases res
    · ((first|refine rG Γ hm ?_|refine rD Γ hm (by kernel_rfl) ?_);(conv=>whnf);repeat((first|refine aF ?_|refine aT ?_);(first|refine rG Γ hm ?_|refine rD Γ hm (by kernel_rfl) ?_);conv=>whnf))
      exact done0 rfl (.cons .tmp .nil) rfl rfl
    · obtain ⟨i, hi, he⟩ := hlk.1 rfl
      exact absurd he (hI i hi hi)

theorem refLeadsS (n : Net) (hn : n.Fin) (hb : netRightB n = true) (hu : Addrs n) (irb to a : Int) (hk : InIrbs n irb) (ha : 0 ≤ a ∧ a < 4294967296) :
    Sy.Spec Tryz.prog 131 [netSV n, intSV irb, intSV to, u32SV a] [] (boolSV (leadsB n irb to a)) [] := contract Γ hm 100 F131 Tryz.ntmps131 rfl fun F hF => by
  have q1 := refLookupS n hn hb hu irb a hk ha
  have q2 := refTakenS n hn a
  rw [leadsB]
  generalize lookT n irb a = r at *
  generalize takenA n a = tk at *
  obtain ⟨led, ok⟩ := r
  ((conv=>whnf);repeat((first|refine aF ?_|refine aT ?_);(first|refine rG Γ hm ?_|refine rD Γ hm (by kernel_rfl) ?_);conv=>whnf))
  refine G_box 4 8 (netSV n) rfl rfl rfl ?_
  ((first|refine rG Γ hm ?_|refine rD Γ hm (by kernel_rfl) ?_);(conv=>whnf);repeat((first|refine aF ?_|refine aT ?_);(first|refine rG Γ hm ?_|refine rD Γ hm (by kernel_rfl) ?_);conv=>whnf))
  refine call0 q1 F149 rfl rfl rfl rfl rfl ?_
  cases ok
  · ((first|refine rG Γ hm ?_|refine rD Γ hm (by kernel_rfl) ?_);(conv=>whnf);repeat((first|refine aF ?_|refine aT ?_);(first|refine rG Γ hm ?_|refine rD Γ hm (by kernel_rfl) ?_);conv=>whnf))
    exact done0 rfl (.cons .tmp .nil) rfl rfl
  ((first|refine rG Γ hm ?_|refine rD Γ hm (by kernel_rfl) ?_);(conv=>whnf);repeat((first|refine aF ?_|refine aT ?_);(first|refine rG Γ hm ?_|refine rD Γ hm (by kernel_rfl) ?_);conv=>whnf))
  refine ⟨fun h => ?_, fun h => ?_⟩
  · dsimp only at h ⊢
    rw [show (led == to) = true from h]
    ((first|refine rG Γ hm ?_|refine rD Γ hm (by kernel_rfl) ?_);(conv=>whnf);repeat((first|refine aF ?_|refine aT ?_);(first|refine rG Γ hm ?_|refine rD Γ hm (by kernel_rfl) ?_);conv=>whnf))
    refine call0 q2 F150 rfl rfl rfl rfl rfl ?_
    cases tk
    · ((first|refine rG Γ hm ?_|refine rD Γ hm (by kernel_rfl) ?_);(conv=>whnf);repeat((first|refine aF ?_|refine aT ?_);(first|refine rG Γ hm ?_|refine rD Γ hm (by kernel_rfl) ?_);conv=>whnf))
      exact done0 rfl (.cons .tmp .nil) rfl rfl
    · ((first|refine rG Γ hm ?_|refine rD Γ hm (by kernel_rfl) ?_);(conv=>whnf);repeat((first|refine aF ?_|refine aT ?_);(first|refine rG Γ hm ?_|refine rD Γ hm (by kernel_rfl) ?_);conv=>whnf))
      exact done0 rfl (.cons .tmp .nil) rfl rfl
  · dsimp only at h ⊢
    rw [show (led == to) = false from h]
    ((first|refine rG Γ hm ?_|refine rD Γ hm (by kernel_rfl) ?_);(conv=>whnf);repeat((first|refine aF ?_|refine aT ?_);(first|refine rG Γ hm ?_|refine rD Γ hm (by kernel_rfl) ?_);conv=>whnf))
    exact done0 rfl (.cons .tmp .nil) rfl rfl

theorem candU_succ {n : Net} {to : Int} {j : Nat} (h : j < n.irbs.length) : candU n to (j + 1) = candU n to j ++ [n.irbs[j].addr + 1, lastI n.irbs[j].addr n.irbs[j].bits + 1] := by
  rw [candU, candU, List.take_add_one, List.getElem?_eq_getElem h, List.flatMap_append, List.append_assoc]
  congr 1
theorem candU_length (n : Net) (to : Int) : ∀ j, j ≤ n.irbs.length → (candU n to j).length = 1 + 2 * j
  | 0, _ => rfl
  | j + 1, h => by
    rw [candU_succ (by omega), List.length_append, candU_length n to j (by omega)]
    show 1 + 2 * j + 2 = _
    omega

theorem refAddressS (n : Net) (hn : n.Fin) (hb : netRightB n = true) (hu : Addrs n) (irb to : Int) (hk : InIrbs n irb) (hti : InIrbs n to) :
    Sy.Spec Tryz.prog 107 [netSV n, intSV irb, intSV to] [] (.tup [u32SV (addrT n irb to).1, boolSV (addrT n irb to).2]) [] := contract Γ hm 100 F107 Tryz.ntmps107 rfl fun F hF => by
  have hsame := addr_same hu hb hk hti
  generalize addrT n irb to = res at *
  have hp1 := ref15PlaceS irb n.irbs.length
  have hp2 := ref15PlaceS to n.irbs.length
  rw [placeB_true ⟨hk.1, by have := hk.2; omega⟩] at hp1
  rw [placeB_true ⟨hti.1, by have := hti.2; omega⟩] at hp2
  have hsi := hn.irbs
  unfold Short at hsi
  have hut := hu _ (List.getElem_mem hti.2)
  have hcn := cand_nonneg hu hti
  have hc0 : candU n to 0 = [firstI (n.irbs[to.toNat]'hti.2).addr (n.irbs[to.toNat]'hti.2).bits] := by rw [candU, nth_eq hti.2]; rfl
  have hcs := fun j => @candU_succ n to j
  have hcl := candU_length n to
  have hce : candL n to = candU n to n.irbs.length := rfl
  obtain ⟨x, hx⟩ : ∃ x, n.irbs[to.toNat]'hti.2 = x := ⟨_, rfl⟩
  rw [hx] at hut hc0
  obtain ⟨y, hy⟩ := Int.eq_ofNat_of_zero_le hut.1
  have q1 := refFirstS y x.bits (by omega)
  rw [← hy] at q1
  have hf := firstI_le x.addr x.bits hut
  ((conv=>whnf);repeat((first|refine aF ?_|refine aT ?_);(first|refine rG Γ hm ?_|refine rD Γ hm (by kernel_rfl) ?_);conv=>whnf))
  refine G_box 3 8 (netSV n) rfl rfl rfl ?_
  ((first|refine rG Γ hm ?_|refine rD Γ hm (by kernel_rfl) ?_);(conv=>whnf);repeat((first|refine aF ?_|refine aT ?_);(first|refine rG Γ hm ?_|refine rD Γ hm (by kernel_rfl) ?_);conv=>whnf))
  refine call0 hp1 F27 rfl rfl rfl rfl rfl ?_
  ((first|refine rG Γ hm ?_|refine rD Γ hm (by kernel_rfl) ?_);(conv=>whnf);repeat((first|refine aF ?_|refine aT ?_);(first|refine rG Γ hm ?_|refine rD Γ hm (by kernel_rfl) ?_);conv=>whnf))
  refine call0 hp2 F27 rfl rfl rfl rfl rfl ?_
  ((first|refine rG Γ hm ?_|refine rD Γ hm (by kernel_rfl) ?_);(conv=>whnf);repeat((first|refine aF ?_|refine aT ?_);(first|refine rG Γ hm ?_|refine rD Γ hm (by kernel_rfl) ?_);conv=>whnf))
  refine ⟨rfl, hti.1, hti.2, ?_⟩
  rw [hx]
  ((conv=>whnf);repeat((first|refine aF ?_|refine aT ?_);(first|refine rG Γ hm ?_|refine rD Γ hm (by kernel_rfl) ?_);conv=>whnf))
  refine call0 q1 F129 rfl rfl rfl rfl rfl ?_
  generalize firstI x.addr x.bits = f at *
  rw [← i64_small hf.1 (by omega : f < 4294967297)] at hc0
  ((first|refine rG Γ hm ?_|refine rD Γ hm (by kernel_rfl) ?_);(conv=>whnf);repeat((first|refine aF ?_|refine aT ?_);(first|refine rG Γ hm ?_|refine rD Γ hm (by kernel_rfl) ?_);conv=>whnf))
  refine G_litR 35 intSV (candU n to 0) rfl (by rw [hc0]; rfl) ?_
  refine G_count n.irbs.length (fun j => [(1, intSV irb), (2, intSV to), (3, .ref 8 (netSV n) 0), (8, intSV (-1)), (9, .osl 1000), (10, intSV j)]) (fun j => [(1000, .row 1 intSV (candU n to j))]) [(1000, 35)]
    ⟨⟨rfl, rfl, rfl, rfl, rfl, rfl, rfl, rfl, rfl, rfl, rfl, rfl, trivial⟩, ⟨.inl rfl, rfl, trivial⟩, rfl, rfl⟩ ?_
  intro j hj
  have hclj := hcl j hj
  ((first|refine rG Γ hm ?_|refine rD Γ hm (by kernel_rfl) ?_);(conv=>whnf);repeat((first|refine aF ?_|refine aT ?_);(first|refine rG Γ hm ?_|refine rD Γ hm (by kernel_rfl) ?_);conv=>whnf))
  refine ⟨fun h => ?_, fun h => ?_⟩
  · have hlt : j < n.irbs.length := by simpa using h
    have hj0 : ((j : Nat) : Int).toNat < n.irbs.length := by simpa using hlt
    have huj := hu _ (List.getElem_mem hj0)
    obtain ⟨z, hz⟩ := Int.eq_ofNat_of_zero_le huj.1
    have q2 := refLastS z (n.irbs[((j : Nat) : Int).toNat]'hj0).bits (by omega)
    rw [← hz] at q2
    have hl := lastI_le (n.irbs[((j : Nat) : Int).toNat]'hj0).addr (n.irbs[((j : Nat) : Int).toNat]'hj0).bits huj
    have w1 := i64_small huj.1 (by omega : (n.irbs[((j : Nat) : Int).toNat]'hj0).addr < 4294967297)
    have w2 := i64_small hl.1 (by omega : lastI (n.irbs[((j : Nat) : Int).toNat]'hj0).addr (n.irbs[((j : Nat) : Int).toNat]'hj0).bits < 4294967297)
    have hs : candU n to (j + 1) = candU n to j ++ [IntKind.i64.wrap (n.irbs[((j : Nat) : Int).toNat]'hj0).addr + 1, IntKind.i64.wrap (lastI (n.irbs[((j : Nat) : Int).toNat]'hj0).addr (n.irbs[((j : Nat) : Int).toNat]'hj0).bits) + 1] := by
      rw [w1, w2]; exact hcs j hlt
    ((first|refine rG Γ hm ?_|refine rD Γ hm (by kernel_rfl) ?_);(conv=>whnf);repeat((first|refine aF ?_|refine aT ?_);(first|refine rG Γ hm ?_|refine rD Γ hm (by kernel_rfl) ?_);conv=>whnf))
    refine ⟨rfl, by omega, hj0, ?_⟩
    ((conv=>whnf);repeat((first|refine aF ?_|refine aT ?_);(first|refine rG Γ hm ?_|refine rD Γ hm (by kernel_rfl) ?_);conv=>whnf))
    refine ⟨by unfold I64; omega, ?_⟩
    ((conv=>whnf);repeat((first|refine aF ?_|refine aT ?_);(first|refine rG Γ hm ?_|refine rD Γ hm (by kernel_rfl) ?_);conv=>whnf))
    refine ⟨rfl, by omega, hj0, ?_⟩
    ((conv=>whnf);repeat((first|refine aF ?_|refine aT ?_);(first|refine rG Γ hm ?_|refine rD Γ hm (by kernel_rfl) ?_);conv=>whnf))
    refine callD0 q2 F130 rfl rfl rfl (by kernel_rfl) rfl ?_
    ((first|refine rG Γ hm ?_|refine rD Γ hm (by kernel_rfl) ?_);(conv=>whnf);repeat((first|refine aF ?_|refine aT ?_);(first|refine rG Γ hm ?_|refine rD Γ hm (by kernel_rfl) ?_);conv=>whnf))
    refine ⟨by unfold I64; omega, ?_⟩
    ((conv=>whnf);repeat((first|refine aF ?_|refine aT ?_);(first|refine rG Γ hm ?_|refine rD Γ hm (by kernel_rfl) ?_);conv=>whnf))
    refine stepD (good_appendT Γ.toTy 63 rfl rfl rfl rfl rfl (.row rfl) (.lit (e := intSV) (l := [IntKind.i64.wrap (n.irbs[((j : Nat) : Int).toNat]'hj0).addr + 1, IntKind.i64.wrap (lastI (n.irbs[((j : Nat) : Int).toNat]'hj0).addr (n.irbs[((j : Nat) : Int).toNat]'hj0).bits) + 1]) rfl rfl) (by simp) (by simp; omega) (by simp; omega)) (by kernel_rfl) rfl ?_
    ((first|refine rG Γ hm ?_|refine rD Γ hm (by kernel_rfl) ?_);(conv=>whnf);repeat((first|refine aF ?_|refine aT ?_);(first|refine rG Γ hm ?_|refine rD Γ hm (by kernel_rfl) ?_);conv=>whnf))
    refine ⟨(by kernel_rfl), ?_⟩
    ((conv=>whnf);repeat((first|refine aF ?_|refine aT ?_);(first|refine rG Γ hm ?_|refine rD Γ hm (by kernel_rfl) ?_);conv=>whnf))
    refine ⟨by unfold I64; omega, ?_⟩
    ((conv=>whnf);repeat((first|refine aF ?_|refine aT ?_);(first|refine rG Γ hm ?_|refine rD Γ hm (by kernel_rfl) ?_);conv=>whnf))
    exact G_next [(1000, 63)] hlt ⟨⟨rfl, rfl, rfl, rfl, rfl, rfl, rfl, rfl, rfl, rfl, rfl, rfl, trivial⟩, ⟨.inl (congrArg (Ob.row 1 intSV) hs), rfl, trivial⟩, rfl, rfl⟩
  · have hje : j = n.irbs.length := by have := of_decide_eq_false h; omega
    subst hje
    have hcl2 := hcl n.irbs.length (Nat.le_refl _)
    have hcn2 := hcn n.irbs.length
    have hls := fun l a => leastI_snoc n irb to l a
    have hl0 : leastI n irb to [] = -1 := rfl
    have hsp := fun l => leastI_spec n irb to l
    rw [hce] at hsame
    generalize candU n to n.irbs.length = l at *
    ((first|refine rG Γ hm ?_|refine rD Γ hm (by kernel_rfl) ?_);(conv=>whnf);repeat((first|refine aF ?_|refine aT ?_);(first|refine rG Γ hm ?_|refine rD Γ hm (by kernel_rfl) ?_);conv=>whnf))
    refine G_data 1000 rfl ?_
    refine G_count l.length (fun j => [(1, intSV irb), (2, intSV to), (3, .ref 8 (netSV n) 0), (8, intSV (leastI n irb to (l.take j))), (9, .sl 1 intSV l), (11, intSV j)]) (fun _ => []) [] ⟨⟨rfl, rfl, rfl, rfl, rfl, rfl, rfl, rfl, rfl, rfl, rfl, rfl, trivial⟩, trivial, rfl, rfl⟩ ?_
    intro j hj
    ((first|refine rG Γ hm ?_|refine rD Γ hm (by kernel_rfl) ?_);(conv=>whnf);repeat((first|refine aF ?_|refine aT ?_);(first|refine rG Γ hm ?_|refine rD Γ hm (by kernel_rfl) ?_);conv=>whnf))
    refine ⟨fun h => ?_, fun h => ?_⟩
    · have hlt : j < l.length := by simpa using h
      have hj0 : ((j : Nat) : Int).toNat < l.length := by simpa using hlt
      obtain ⟨a, ha⟩ : ∃ a, l[((j : Nat) : Int).toNat]'hj0 = a := ⟨_, rfl⟩
      have ha' : l[j] = a := ha
      have hta : l.take (j + 1) = l.take j ++ [a] := by rw [List.take_succ_eq_append_getElem hlt, ha']
      have hmem : a ∈ l := by rw [← ha']; exact List.getElem_mem hlt
      have han := hcn2 a hmem
      have hsj := hls (l.take j) a
      rw [← hta, leastS] at hsj
      have hbj := hsp (l.take j) (fun x hx => (hcn2 x (List.mem_of_mem_take hx)).1)
      have hbr : leastI n irb to (l.take j) < 4294967296 := by
        rcases hbj with h | h
        · omega
        · exact h.1.2
      clear hbj
      generalize leastI n irb to (l.take j) = b at *
      ((first|refine rG Γ hm ?_|refine rD Γ hm (by kernel_rfl) ?_);(conv=>whnf);repeat((first|refine aF ?_|refine aT ?_);(first|refine rG Γ hm ?_|refine rD Γ hm (by kernel_rfl) ?_);conv=>whnf))
      refine ⟨rfl, by omega, hj0, ?_⟩
      rw [ha]
      ((conv=>whnf);repeat((first|refine aF ?_|refine aT ?_);(first|refine rG Γ hm ?_|refine rD Γ hm (by kernel_rfl) ?_);conv=>whnf))
      refine ⟨fun h1 => ?_, fun h1 => ?_⟩
      rotate_left
      · have h1 : ¬ a < 4294967296 := of_decide_eq_false h1
        rw [if_neg (fun hh => h1 hh.1)] at hsj
        ((first|refine rG Γ hm ?_|refine rD Γ hm (by kernel_rfl) ?_);(conv=>whnf);repeat((first|refine aF ?_|refine aT ?_);(first|refine rG Γ hm ?_|refine rD Γ hm (by kernel_rfl) ?_);conv=>whnf))
        refine ⟨by unfold I64; omega, ?_⟩
        ((conv=>whnf);repeat((first|refine aF ?_|refine aT ?_);(first|refine rG Γ hm ?_|refine rD Γ hm (by kernel_rfl) ?_);conv=>whnf))
        exact G_next [] hlt ⟨⟨rfl, rfl, rfl, rfl, rfl, rfl, congrArg intSV hsj, rfl, rfl, rfl, rfl, rfl, trivial⟩, trivial, rfl, rfl⟩
      have h1 : a < 4294967296 := of_decide_eq_true h1
      have q3 := refLeadsS n hn hb hu irb to a hk ⟨han.1, h1⟩
      have hw := u32_small han.1 h1
      generalize leadsB n irb to a = lv at *
      ((first|refine rG Γ hm ?_|refine rD Γ hm (by kernel_rfl) ?_);(conv=>whnf);repeat((first|refine aF ?_|refine aT ?_);(first|refine rG Γ hm ?_|refine rD Γ hm (by kernel_rfl) ?_);conv=>whnf))
      refine ⟨fun h2 => ?_, fun h2 => ?_⟩
      · have h2 : b < 0 := of_decide_eq_true h2
        ((first|refine rG Γ hm ?_|refine rD Γ hm (by kernel_rfl) ?_);(conv=>whnf);repeat((first|refine aF ?_|refine aT ?_);(first|refine rG Γ hm ?_|refine rD Γ hm (by kernel_rfl) ?_);conv=>whnf))
        rw [hw]
        refine call0 q3 F131 rfl rfl rfl rfl rfl ?_
        cases lv
        · rw [if_neg (by simp)] at hsj
          ((first|refine rG Γ hm ?_|refine rD Γ hm (by kernel_rfl) ?_);(conv=>whnf);repeat((first|refine aF ?_|refine aT ?_);(first|refine rG Γ hm ?_|refine rD Γ hm (by kernel_rfl) ?_);conv=>whnf))
          refine ⟨by unfold I64; omega, ?_⟩
          ((conv=>whnf);repeat((first|refine aF ?_|refine aT ?_);(first|refine rG Γ hm ?_|refine rD Γ hm (by kernel_rfl) ?_);conv=>whnf))
          exact G_next [] hlt ⟨⟨rfl, rfl, rfl, rfl, rfl, rfl, congrArg intSV hsj, rfl, rfl, rfl, rfl, rfl, trivial⟩, trivial, rfl, rfl⟩
        · rw [if_pos ⟨h1, .inl h2, rfl⟩] at hsj
          ((first|refine rG Γ hm ?_|refine rD Γ hm (by kernel_rfl) ?_);(conv=>whnf);repeat((first|refine aF ?_|refine aT ?_);(first|refine rG Γ hm ?_|refine rD Γ hm (by kernel_rfl) ?_);conv=>whnf))
          refine ⟨by unfold I64; omega, ?_⟩
          ((conv=>whnf);repeat((first|refine aF ?_|refine aT ?_);(first|refine rG Γ hm ?_|refine rD Γ hm (by kernel_rfl) ?_);conv=>whnf))
          exact G_next [] hlt ⟨⟨rfl, rfl, rfl, rfl, rfl, rfl, congrArg intSV hsj, rfl, rfl, rfl, rfl, rfl, trivial⟩, trivial, rfl, rfl⟩
      · have h2 : ¬ b < 0 := of_decide_eq_false h2
        ((first|refine rG Γ hm ?_|refine rD Γ hm (by kernel_rfl) ?_);(conv=>whnf);repeat((first|refine aF ?_|refine aT ?_);(first|refine rG Γ hm ?_|refine rD Γ hm (by kernel_rfl) ?_);conv=>whnf))
        refine ⟨fun h3 => ?_, fun h3 => ?_⟩
        · have h3 : a < b := of_decide_eq_true h3
          ((first|refine rG Γ hm ?_|refine rD Γ hm (by kernel_rfl) ?_);(conv=>whnf);repeat((first|refine aF ?_|refine aT ?_);(first|refine rG Γ hm ?_|refine rD Γ hm (by kernel_rfl) ?_);conv=>whnf))
          rw [hw]
          refine call0 q3 F131 rfl rfl rfl rfl rfl ?_
          cases lv
          · rw [if_neg (by simp)] at hsj
            ((first|refine rG Γ hm ?_|refine rD Γ hm (by kernel_rfl) ?_);(conv=>whnf);repeat((first|refine aF ?_|refine aT ?_);(first|refine rG Γ hm ?_|refine rD Γ hm (by kernel_rfl) ?_);conv=>whnf))
            refine ⟨by unfold I64; omega, ?_⟩
            ((conv=>whnf);repeat((first|refine aF ?_|refine aT ?_);(first|refine rG Γ hm ?_|refine rD Γ hm (by kernel_rfl) ?_);conv=>whnf))
            exact G_next [] hlt ⟨⟨rfl, rfl, rfl, rfl, rfl, rfl, congrArg intSV hsj, rfl, rfl, rfl, rfl, rfl, trivial⟩, trivial, rfl, rfl⟩
          · rw [if_pos ⟨h1, .inr h3, rfl⟩] at hsj
            ((first|refine rG Γ hm ?_|refine rD Γ hm (by kernel_rfl) ?_);(conv=>whnf);repeat((first|refine aF ?_|refine aT ?_);(first|refine rG Γ hm ?_|refine rD Γ hm (by kernel_rfl) ?_);conv=>whnf))
            refine ⟨by unfold I64; omega, ?_⟩
            ((conv=>whnf);repeat((first|refine aF ?_|refine aT ?_);(first|refine rG Γ hm ?_|refine rD Γ hm (by kernel_rfl) ?_);conv=>whnf))
            exact G_next [] hlt ⟨⟨rfl, rfl, rfl, rfl, rfl, rfl, congrArg intSV hsj, rfl, rfl, rfl, rfl, rfl, trivial⟩, trivial, rfl, rfl⟩
        · have h3 : ¬ a < b := of_decide_eq_false h3
          rw [if_neg (fun hh => by have := hh.2.1; omega)] at hsj
          ((first|refine rG Γ hm ?_|refine rD Γ hm (by kernel_rfl) ?_);(conv=>whnf);repeat((first|refine aF ?_|refine aT ?_);(first|refine rG Γ hm ?_|refine rD Γ hm (by kernel_rfl) ?_);conv=>whnf))
          refine ⟨by unfold I64; omega, ?_⟩
          ((conv=>whnf);repeat((first|refine aF ?_|refine aT ?_);(first|refine rG Γ hm ?_|refine rD Γ hm (by kernel_rfl) ?_);conv=>whnf))
          exact G_next [] hlt ⟨⟨rfl, rfl, rfl, rfl, rfl, rfl, congrArg intSV hsj, rfl, rfl, rfl, rfl, rfl, trivial⟩, trivial, rfl, rfl⟩
    · have hje : j = l.length := by have := of_decide_eq_false h; omega
      subst hje
      rw [List.take_length]
      have hbj := hsp l (fun x hx => (hcn2 x hx).1)
      have hbr : leastI n irb to l < 4294967296 := by
        rcases hbj with h | h
        · omega
        · exact h.1.2
      clear hbj
      generalize leastI n irb to l = b at *
      ((first|refine rG Γ hm ?_|refine rD Γ hm (by kernel_rfl) ?_);(conv=>whnf);repeat((first|refine aF ?_|refine aT ?_);(first|refine rG Γ hm ?_|refine rD Γ hm (by kernel_rfl) ?_);conv=>whnf))
      refine ⟨fun h2 => ?_, fun h2 => ?_⟩
      · have h2 : b < 0 := of_decide_eq_true h2
        rw [if_pos h2] at hsame
        subst hsame
        ((first|refine rG Γ hm ?_|refine rD Γ hm (by kernel_rfl) ?_);(conv=>whnf);repeat((first|refine aF ?_|refine aT ?_);(first|refine rG Γ hm ?_|refine rD Γ hm (by kernel_rfl) ?_);conv=>whnf))
        exact done0 rfl (.cons .tmp (.cons .tmp .nil)) rfl rfl
      · have h2 : ¬ b < 0 := of_decide_eq_false h2
        rw [if_neg h2] at hsame
        subst hsame
        ((first|refine rG Γ hm ?_|refine rD Γ hm (by kernel_rfl) ?_);(conv=>whnf);repeat((first|refine aF ?_|refine aT ?_);(first|refine rG Γ hm ?_|refine rD Γ hm (by kernel_rfl) ?_);conv=>whnf))
        refine done0 rfl (.cons .tmp (.cons .tmp .nil)) ?_ rfl
        show SV.tup [.val (.int .u32 b), _] = SV.tup [.val (.int .u32 _), _]
        rw [u32_small (by omega) hbr]
        rfl

theorem e_dom_irb {n : Net} (h : netRightB n = true) {i : Nat} (hi : i < n.domains.length) : n.domains[i].irb = -1 ∨ InIrbs n n.domains[i].irb := by
  have := e_dom h hi
  simp only [bareB, placeB, Bool.and_eq_true, Bool.or_eq_true, beq_iff_eq, decide_eq_true_eq] at this
  rcases this.1.2 with h1 | h1
  · exact .inl h1
  · exact .inr ⟨h1.1.1, by omega⟩

theorem refRoutesS (n : Net) (hn : n.Fin) (hb : netRightB n = true) (hu : Addrs n) (d : Int) (hd : 0 ≤ d ∧ d < n.domains.length) : Sy.Spec Tryz.prog 71 [netSV n, intSV d] [] (.sl 3 leadSV (routesT n d)) [] := contract Γ hm 100 F71 Tryz.ntmps71 rfl fun F hF => by
  have hlk := routesT.eq_1 n d
  generalize routesT n d = res at *
  have hsi := hn.irbs
  unfold Short at hsi
  have hp := ref15PlaceS d n.domains.length
  rw [placeB_true hd] at hp
  have hk : d.toNat < n.domains.length := by omega
  have hdi := e_dom_irb hb hk
  rw [nth_eq hk] at hlk
  obtain ⟨x, hx⟩ : ∃ x, n.domains[d.toNat]'hk = x := ⟨_, rfl⟩
  rw [hx] at hlk hdi
  ((conv=>whnf);repeat((first|refine aF ?_|refine aT ?_);(first|refine rG Γ hm ?_|refine rD Γ hm (by kernel_rfl) ?_);conv=>whnf))
  refine G_box 2 8 (netSV n) rfl rfl rfl ?_
  ((first|refine rG Γ hm ?_|refine rD Γ hm (by kernel_rfl) ?_);(conv=>whnf);repeat((first|refine aF ?_|refine aT ?_);(first|refine rG Γ hm ?_|refine rD Γ hm (by kernel_rfl) ?_);conv=>whnf))
  refine call0 hp F27 rfl rfl rfl rfl rfl ?_
  ((first|refine rG Γ hm ?_|refine rD Γ hm (by kernel_rfl) ?_);(conv=>whnf);repeat((first|refine aF ?_|refine aT ?_);(first|refine rG Γ hm ?_|refine rD Γ hm (by kernel_rfl) ?_);conv=>whnf))
  refine ⟨rfl, hd.1, hk, ?_⟩
  rw [hx]
  ((conv=>whnf);repeat((first|refine aF ?_|refine aT ?_);(first|refine rG Γ hm ?_|refine rD Γ hm (by kernel_rfl) ?_);conv=>whnf))
  refine ⟨fun h => ?_, fun h => ?_⟩
  · have h1 : x.irb = -1 := by simpa using h
    rw [if_neg (by omega)] at hlk
    subst hlk
    ((first|refine rG Γ hm ?_|refine rD Γ hm (by kernel_rfl) ?_);(conv=>whnf);repeat((first|refine aF ?_|refine aT ?_);(first|refine rG Γ hm ?_|refine rD Γ hm (by kernel_rfl) ?_);conv=>whnf))
    refine G_nilsl 4 3 leadSV rfl ?_
    ((first|refine rG Γ hm ?_|refine rD Γ hm (by kernel_rfl) ?_);(conv=>whnf);repeat((first|refine aF ?_|refine aT ?_);(first|refine rG Γ hm ?_|refine rD Γ hm (by kernel_rfl) ?_);conv=>whnf))
    exact done0 rfl (.cons .tmp .nil) rfl rfl
  have h1 : x.irb ≠ -1 := by simpa using h
  have hir : InIrbs n x.irb := hdi.resolve_left h1
  rw [if_pos ⟨hd, hir.1, hb⟩] at hlk
  subst hlk
  ((first|refine rG Γ hm ?_|refine rD Γ hm (by kernel_rfl) ?_);(conv=>whnf);repeat((first|refine aF ?_|refine aT ?_);(first|refine rG Γ hm ?_|refine rD Γ hm (by kernel_rfl) ?_);conv=>whnf))
  refine G_adopt 5 1000 3 leadSV rfl rfl ?_
  refine G_count n.irbs.length (fun j => [(1, intSV d), (2, .ref 8 (netSV n) 0), (5, .osl 1000), (6, intSV j)]) (fun j => [(1000, .row 3 leadSV (leadsL n x.irb j))]) []
    ⟨⟨rfl, rfl, rfl, rfl, rfl, rfl, rfl, rfl, trivial⟩, ⟨.inl rfl, rfl, trivial⟩, rfl, rfl⟩ ?_
  intro j hj
  have hll := leadsL_length n x.irb j
  ((first|refine rG Γ hm ?_|refine rD Γ hm (by kernel_rfl) ?_);(conv=>whnf);repeat((first|refine aF ?_|refine aT ?_);(first|refine rG Γ hm ?_|refine rD Γ hm (by kernel_rfl) ?_);conv=>whnf))
  refine ⟨fun h => ?_, fun h => ?_⟩
  · have hlt : j < n.irbs.length := by simpa using h
    have hj0 : ((j : Nat) : Int).toNat < n.irbs.length := by simpa using hlt
    have hs := leadsL_succ n x.irb j
    have hlf : leadF n x.irb j = if (addrT n x.irb j).2 = true then some ⟨j, (nth n.irbs j).domain, (addrT n x.irb j).1⟩ else none := rfl
    have q := refAddressS n hn hb hu x.irb j hir ⟨by omega, hj0⟩
    rw [nth_eq (l := n.irbs) (i := (j : Int)) hj0] at hlf
    rw [hlf] at hs
    generalize leadsL n x.irb j = u at *
    generalize addrT n x.irb j = r at *
    obtain ⟨a, ok⟩ := r
    dsimp only at hs
    ((first|refine rG Γ hm ?_|refine rD Γ hm (by kernel_rfl) ?_);(conv=>whnf);repeat((first|refine aF ?_|refine aT ?_);(first|refine rG Γ hm ?_|refine rD Γ hm (by kernel_rfl) ?_);conv=>whnf))
    refine ⟨rfl, hd.1, hk, ?_⟩
    rw [hx]
    ((conv=>whnf);repeat((first|refine aF ?_|refine aT ?_);(first|refine rG Γ hm ?_|refine rD Γ hm (by kernel_rfl) ?_);conv=>whnf))
    refine callD0 q F107 rfl rfl rfl (by kernel_rfl) rfl ?_
    ((first|refine rG Γ hm ?_|refine rD Γ hm (by kernel_rfl) ?_);(conv=>whnf);repeat((first|refine aF ?_|refine aT ?_);(first|refine rG Γ hm ?_|refine rD Γ hm (by kernel_rfl) ?_);conv=>whnf))
    refine ⟨(by kernel_rfl), ?_⟩
    ((conv=>whnf);repeat((first|refine aF ?_|refine aT ?_);(first|refine rG Γ hm ?_|refine rD Γ hm (by kernel_rfl) ?_);conv=>whnf))
    refine ⟨fun h => ?_, fun h => ?_⟩ <;> (have h : ok = _ := h; subst h)
    · rw [if_pos rfl] at hs
      ((first|refine rG Γ hm ?_|refine rD Γ hm (by kernel_rfl) ?_);(conv=>whnf);repeat((first|refine aF ?_|refine aT ?_);(first|refine rG Γ hm ?_|refine rD Γ hm (by kernel_rfl) ?_);conv=>whnf))
      refine ⟨rfl, by omega, hj0, ?_⟩
      ((conv=>whnf);repeat((first|refine aF ?_|refine aT ?_);(first|refine rG Γ hm ?_|refine rD Γ hm (by kernel_rfl) ?_);conv=>whnf))
      refine stepOp (good_appendT Γ.toTy 55 rfl rfl rfl rfl rfl (.row rfl) (.lit (e := leadSV) (l := [⟨j, (n.irbs[((j : Nat) : Int).toNat]'hj0).domain, a⟩]) rfl rfl) (by simp) (by simp; omega) (by simp; omega)) rfl rfl ?_
      ((first|refine rG Γ hm ?_|refine rD Γ hm (by kernel_rfl) ?_);(conv=>whnf);repeat((first|refine aF ?_|refine aT ?_);(first|refine rG Γ hm ?_|refine rD Γ hm (by kernel_rfl) ?_);conv=>whnf))
      refine ⟨by unfold I64; omega, ?_⟩
      ((conv=>whnf);repeat((first|refine aF ?_|refine aT ?_);(first|refine rG Γ hm ?_|refine rD Γ hm (by kernel_rfl) ?_);conv=>whnf))
      exact G_next [(1000, 55)] hlt ⟨⟨rfl, rfl, rfl, rfl, rfl, rfl, rfl, rfl, trivial⟩, ⟨.inl (congrArg (Ob.row 3 leadSV) hs), rfl, trivial⟩, rfl, rfl⟩
    · rw [if_neg (by simp)] at hs
      ((first|refine rG Γ hm ?_|refine rD Γ hm (by kernel_rfl) ?_);(conv=>whnf);repeat((first|refine aF ?_|refine aT ?_);(first|refine rG Γ hm ?_|refine rD Γ hm (by kernel_rfl) ?_);conv=>whnf))
      refine ⟨by unfold I64; omega, ?_⟩
      ((conv=>whnf);repeat((first|refine aF ?_|refine aT ?_);(first|refine rG Γ hm ?_|refine rD Γ hm (by kernel_rfl) ?_);conv=>whnf))
      exact G_next [] hlt ⟨⟨rfl, rfl, rfl, rfl, rfl, rfl, rfl, rfl, trivial⟩, ⟨.inl (congrArg (Ob.row 3 leadSV) (hs.trans (List.append_nil _))), rfl, trivial⟩, rfl, rfl⟩
  · have hje : j = n.irbs.length := by have := of_decide_eq_false h; omega
    subst hje
    ((first|refine rG Γ hm ?_|refine rD Γ hm (by kernel_rfl) ?_);(conv=>whnf);repeat((first|refine aF ?_|refine aT ?_);(first|refine rG Γ hm ?_|refine rD Γ hm (by kernel_rfl) ?_);conv=>whnf))
    refine G_data 1000 rfl ?_
    ((first|refine rG Γ hm ?_|refine rD Γ hm (by kernel_rfl) ?_);(conv=>whnf);repeat((first|refine aF ?_|refine aT ?_);(first|refine rG Γ hm ?_|refine rD Γ hm (by kernel_rfl) ?_);conv=>whnf))
    exact done0 rfl (.cons .tmp .nil) rfl rfl

end Go.Sy.YtlfopmhekhifoaaGreatDoor

namespace Go.Sy.YtlfopmhekhifoaaGreatDoor
open Go.Proofs
-- SIMP: placeB

attribute [local irreducible] Go.Sy.G Go.Sy.DR
set_option maxRecDepth 20000
set_option maxHeartbeats 8000000

theorem hostP_iff {n : Net} (hb : netRightB n = true) (i : Int) : hostP n i = (placeB i n.ports.length && (nth n.ports i).link == -1) := by
  rw [hostP, placeB]
  by_cases hi : 0 ≤ i ∧ i < n.ports.length
  · rw [decide_eq_true hi.1, decide_eq_true hi.2, Bool.true_and]
    have hk : i.toNat < n.ports.length := by omega
    rw [nth_eq hk]
    have := e_port hb hk
    simp only [portB, placeB, Bool.and_eq_true, Bool.or_eq_true, beq_iff_eq, decide_eq_true_eq] at this
    have h2 := this.2
    by_cases hl : (n.ports[i.toNat]'hk).link = -1
    · simp [hl]
    · have : 0 ≤ (n.ports[i.toNat]'hk).link := by omega
      rw [decide_eq_false (by omega)]; simp [hl]
  · have h1 : (decide (0 ≤ i) && decide (i < (n.ports.length : Int))) = false := by simp only [Bool.and_eq_false_iff, decide_eq_false_iff_not]; omega
    rw [h1, Bool.false_and]; simp

theorem refHostPS (n : Net) (hb : netRightB n = true) (i : Int) : Sy.Spec Tryz.prog 64 [netSV n, intSV i] [] (boolSV (hostP n i)) [] := contract Γ hm 100 F64 Tryz.ntmps64 rfl fun F hF => by
  have hp := ref15PlaceS i n.ports.length
  have hlk := hostP_iff hb i
  generalize hostP n i = res at *
  ((conv=>whnf);repeat((first|refine aF ?_|refine aT ?_);(first|refine rG Γ hm ?_|refine rD Γ hm (by kernel_rfl) ?_);conv=>whnf))
  refine G_box 2 8 (netSV n) rfl rfl rfl ?_
  ((first|refine rG Γ hm ?_|refine rD Γ hm (by kernel_rfl) ?_);(conv=>whnf);repeat((first|refine aF ?_|refine aT ?_);(first|refine rG Γ hm ?_|refine rD Γ hm (by kernel_rfl) ?_);conv=>whnf))
  refine call0 hp F27 rfl rfl rfl rfl rfl ?_
  by_cases hi : 0 ≤ i ∧ i < n.ports.length
  · rw [placeB_true hi, Bool.true_and] at hlk
    rw [placeB_true hi]
    have hk : i.toNat < n.ports.length := by omega
    rw [nth_eq hk] at hlk
    ((first|refine rG Γ hm ?_|refine rD Γ hm (by kernel_rfl) ?_);(conv=>whnf);repeat((first|refine aF ?_|refine aT ?_);(first|refine rG Γ hm ?_|refine rD Γ hm (by kernel_rfl) ?_);conv=>whnf))
    refine ⟨rfl, hi.1, hk, ?_⟩
    ((conv=>whnf);repeat((first|refine aF ?_|refine aT ?_);(first|refine rG Γ hm ?_|refine rD Γ hm (by kernel_rfl) ?_);conv=>whnf))
    exact done0 rfl (.cons .tmp .nil) (congrArg boolSV hlk) rfl
  · rw [placeB_false hi, Bool.false_and] at hlk
    subst hlk
    rw [placeB_false hi]
    ((first|refine rG Γ hm ?_|refine rD Γ hm (by kernel_rfl) ?_);(conv=>whnf);repeat((first|refine aF ?_|refine aT ?_);(first|refine rG Γ hm ?_|refine rD Γ hm (by kernel_rfl) ?_);conv=>whnf))
    exact done0 rfl (.cons .tmp .nil) rfl rfl

/-- A way that was found. -/
structure WayD where
  (hops : List Hop) (routed : Bool)
abbrev waySV (w : WayD) : SV := .agg [.sl 4 hopSV w.hops, boolSV w.routed]
instance : Inhabited WayD := ⟨⟨[], false⟩⟩
def WayD.end_ (w : WayD) : Int := (nth w.hops ((w.hops.length : Int) - 1)).domain

theorem wayEndS (w : WayD) (h0 : w.hops ≠ []) (hl : w.hops.length < 4294967296) : Sy.Spec Tryz.prog 69 [waySV w] [] (intSV w.end_) [] := contract Γ hm 100 F69 Tryz.ntmps69 rfl fun F hF => by
  have hp : 0 < w.hops.length := List.length_pos_iff.2 h0
  have hk : ((w.hops.length : Int) - 1).toNat < w.hops.length := by omega
  have hlk : w.end_ = (w.hops[((w.hops.length : Int) - 1).toNat]'hk).domain := by rw [WayD.end_, nth_eq hk]
  rw [hlk]
  ((conv=>whnf);repeat((first|refine aF ?_|refine aT ?_);(first|refine rG Γ hm ?_|refine rD Γ hm (by kernel_rfl) ?_);conv=>whnf))
  refine ⟨by unfold I64; omega, ?_⟩
  ((conv=>whnf);repeat((first|refine aF ?_|refine aT ?_);(first|refine rG Γ hm ?_|refine rD Γ hm (by kernel_rfl) ?_);conv=>whnf))
  refine ⟨rfl, by omega, hk, ?_⟩
  ((conv=>whnf);repeat((first|refine aF ?_|refine aT ?_);(first|refine rG Γ hm ?_|refine rD Γ hm (by kernel_rfl) ?_);conv=>whnf))
  exact done0 rfl (.cons .tmp .nil) rfl rfl

def sameW (d : Int) (r : Bool) (w : WayD) : Bool := w.end_ == d && w.routed == r
def metW (l : List WayD) (d : Int) (r : Bool) : Bool := l.any (sameW d r)
/-- Ways that are some, of not too many hops. -/
def WaysOK (l : List WayD) : Prop := ∀ w ∈ l, w.hops ≠ [] ∧ w.hops.length < 1000000

theorem metS (l : List WayD) (d : Int) (r : Bool) (hw : WaysOK l) (hl : l.length < 4294967296) : Sy.Spec Tryz.prog 105 [.sl 2 waySV l, intSV d, boolSV r] [] (boolSV (metW l d r)) [] := contract Γ hm 100 F105 Tryz.ntmps105 rfl fun F hF => by
  have hlk := metW.eq_1 l d r
  generalize metW l d r = res at *
  ((conv=>whnf);repeat((first|refine aF ?_|refine aT ?_);(first|refine rG Γ hm ?_|refine rD Γ hm (by kernel_rfl) ?_);conv=>whnf))
  refine G_countP l.length (fun j => ∀ i (h : i < l.length), i < j → sameW d r l[i] = false) (fun j => [(0, .sl 2 waySV l), (1, intSV d), (2, boolSV r), (7, intSV j)]) (fun _ => []) [] (fun i h hi => absurd hi (by omega)) ⟨⟨rfl, rfl, rfl, rfl, rfl, rfl, rfl, rfl, trivial⟩, trivial, rfl, rfl⟩ ?_
  intro j hj hI
  ((first|refine rG Γ hm ?_|refine rD Γ hm (by kernel_rfl) ?_);(conv=>whnf);repeat((first|refine aF ?_|refine aT ?_);(first|refine rG Γ hm ?_|refine rD Γ hm (by kernel_rfl) ?_);conv=>whnf))
  refine ⟨fun h => ?_, fun h => ?_⟩
  · have hlt : j < l.length := by simpa using h
    have hj0 : ((j : Nat) : Int).toNat < l.length := by simpa using hlt
    obtain ⟨w, hwj⟩ : ∃ w, l[((j : Nat) : Int).toNat]'hj0 = w := ⟨_, rfl⟩
    have hwj' : l[j] = w := hwj
    have hww := hw w (by rw [← hwj']; exact List.getElem_mem hlt)
    have q := wayEndS w hww.1 (by omega)
    have hyes : sameW d r w = true → res = true := fun hs => by rw [hlk]; exact List.any_eq_true.2 ⟨w, by rw [← hwj']; exact List.getElem_mem hlt, hs⟩
    have hnx : sameW d r w = false → ∀ i (h : i < l.length), i < j + 1 → sameW d r l[i] = false := fun hz i h hi => by
      rcases Nat.lt_or_ge i j with h1 | h1
      · exact hI i h h1
      · have : i = j := by omega
        subst this; rw [hwj']; exact hz
    rw [sameW] at hyes hnx
    ((first|refine rG Γ hm ?_|refine rD Γ hm (by kernel_rfl) ?_);(conv=>whnf);repeat((first|refine aF ?_|refine aT ?_);(first|refine rG Γ hm ?_|refine rD Γ hm (by kernel_rfl) ?_);conv=>whnf))
    refine ⟨rfl, by omega, hj0, ?_⟩
    rw [hwj]
    ((conv=>whnf);repeat((first|refine aF ?_|refine aT ?_);(first|refine rG Γ hm ?_|refine rD Γ hm (by kernel_rfl) ?_);conv=>whnf))
    refine call0 q F69 rfl rfl rfl rfl rfl ?_
    generalize w.end_ = en at *
    ((first|refine rG Γ hm ?_|refine rD Γ hm (by kernel_rfl) ?_);(conv=>whnf);repeat((first|refine aF ?_|refine aT ?_);(first|refine rG Γ hm ?_|refine rD Γ hm (by kernel_rfl) ?_);conv=>whnf))
    refine ⟨fun h1 => ?_, fun h1 => ?_⟩
    · rw [show (en == d) = true from h1, Bool.true_and] at hyes hnx
      ((first|refine rG Γ hm ?_|refine rD Γ hm (by kernel_rfl) ?_);(conv=>whnf);repeat((first|refine aF ?_|refine aT ?_);(first|refine rG Γ hm ?_|refine rD Γ hm (by kernel_rfl) ?_);conv=>whnf))
      refine ⟨rfl, by omega, hj0, ?_⟩
      rw [hwj]
      ((conv=>whnf);repeat((first|refine aF ?_|refine aT ?_);(first|refine rG Γ hm ?_|refine rD Γ hm (by kernel_rfl) ?_);conv=>whnf))
      refine ⟨fun h2 => ?_, fun h2 => ?_⟩
      · rw [hyes (by simpa using h2)]
        ((first|refine rG Γ hm ?_|refine rD Γ hm (by kernel_rfl) ?_);(conv=>whnf);repeat((first|refine aF ?_|refine aT ?_);(first|refine rG Γ hm ?_|refine rD Γ hm (by kernel_rfl) ?_);conv=>whnf))
        exact done0 rfl (.cons .tmp .nil) rfl rfl
      · ((first|refine rG Γ hm ?_|refine rD Γ hm (by kernel_rfl) ?_);(conv=>whnf);repeat((first|refine aF ?_|refine aT ?_);(first|refine rG Γ hm ?_|refine rD Γ hm (by kernel_rfl) ?_);conv=>whnf))
        refine ⟨by unfold I64; omega, ?_⟩
        ((conv=>whnf);repeat((first|refine aF ?_|refine aT ?_);(first|refine rG Γ hm ?_|refine rD Γ hm (by kernel_rfl) ?_);conv=>whnf))
        exact G_nextP [] hI (by omega) (hnx (by simpa using h2)) ⟨⟨rfl, rfl, rfl, rfl, rfl, rfl, rfl, rfl, trivial⟩, trivial, rfl, rfl⟩
    · rw [show (en == d) = false from h1, Bool.false_and] at hyes hnx
      ((first|refine rG Γ hm ?_|refine rD Γ hm (by kernel_rfl) ?_);(conv=>whnf);repeat((first|refine aF ?_|refine aT ?_);(first|refine rG Γ hm ?_|refine rD Γ hm (by kernel_rfl) ?_);conv=>whnf))
      refine ⟨by unfold I64; omega, ?_⟩
      ((conv=>whnf);repeat((first|refine aF ?_|refine aT ?_);(first|refine rG Γ hm ?_|refine rD Γ hm (by kernel_rfl) ?_);conv=>whnf))
      exact G_nextP [] hI (by omega) (hnx rfl) ⟨⟨rfl, rfl, rfl, rfl, rfl, rfl, rfl, rfl, trivial⟩, trivial, rfl, rfl⟩
  · have hje : j = l.length := by have := of_decide_eq_false h; omega
    subst hje
    rw [show res = false from by
      rw [hlk, List.any_eq_false]
      intro w hw
      obtain ⟨i, hi, rfl⟩ := List.getElem_of_mem hw
      rw [hI i hi hi]; simp]
    ((first|refine rG Γ hm ?_|refine rD Γ hm (by kernel_rfl) ?_);(conv=>whnf);repeat((first|refine aF ?_|refine aT ?_);(first|refine rG Γ hm ?_|refine rD Γ hm (by kernel_rfl) ?_);conv=>whnf))
    exact done0 rfl (.cons .tmp .nil) rfl rfl

def moreT (l : List WayD) (w : WayD) (h : Hop) (r : Bool) : List WayD := if metW l h.domain r = true then l else l ++ [⟨w.hops ++ [h], r⟩]

theorem moreS (l : List WayD) (w : WayD) (h : Hop) (r : Bool) (hw : WaysOK l) (hl : l.length < 1000000) (hwl : w.hops.length < 1000000) :
    Sy.Spec Tryz.prog 65 [.osl 0, waySV w, hopSV h, boolSV r] [(0, .row 2 waySV l)] (.osl 1) [(0, .non), (1, .row 2 waySV (moreT l w h r))] := contract Γ hm 100 F65 Tryz.ntmps65 rfl fun F hF => by
  have q := metS l h.domain r hw (by omega)
  have hlk := moreT.eq_1 l w h r
  generalize moreT l w h r = res at *
  generalize metW l h.domain r = mt at *
  ((conv=>whnf);repeat((first|refine aF ?_|refine aT ?_);(first|refine rG Γ hm ?_|refine rD Γ hm (by kernel_rfl) ?_);conv=>whnf))
  refine callK [0] q F105 rfl (.cons (.row rfl rfl) (.cons (.refl _) (.cons (.refl _) .nil))) rfl rfl rfl ?_
  cases mt
  rotate_left
  · rw [if_pos rfl] at hlk
    subst hlk
    ((first|refine rG Γ hm ?_|refine rD Γ hm (by kernel_rfl) ?_);(conv=>whnf);repeat((first|refine aF ?_|refine aT ?_);(first|refine rG Γ hm ?_|refine rD Γ hm (by kernel_rfl) ?_);conv=>whnf))
    refine G_rename 0 1000 rfl rfl (by decide) ?_
    ((first|refine rG Γ hm ?_|refine rD Γ hm (by kernel_rfl) ?_);(conv=>whnf);repeat((first|refine aF ?_|refine aT ?_);(first|refine rG Γ hm ?_|refine rD Γ hm (by kernel_rfl) ?_);conv=>whnf))
    exact done rfl (.cons .tmp .nil) [(1, 1000)] [(0, .non), (1, .row 2 waySV res)] (fun _ h => h) rfl rfl ⟨trivial, ⟨.inl rfl, rfl, .inl rfl, rfl, trivial⟩, rfl, rfl⟩
  rw [if_neg (by simp)] at hlk
  subst hlk
  ((first|refine rG Γ hm ?_|refine rD Γ hm (by kernel_rfl) ?_);(conv=>whnf);repeat((first|refine aF ?_|refine aT ?_);(first|refine rG Γ hm ?_|refine rD Γ hm (by kernel_rfl) ?_);conv=>whnf))
  refine stepD (good_appendT Γ.toTy 19 rfl rfl rfl rfl rfl (.lit (e := hopSV) (l := []) rfl rfl) .sl (by simp) (by simp; omega) (by simp; omega)) (by kernel_rfl) rfl ?_
  ((first|refine rG Γ hm ?_|refine rD Γ hm (by kernel_rfl) ?_);(conv=>whnf);repeat((first|refine aF ?_|refine aT ?_);(first|refine rG Γ hm ?_|refine rD Γ hm (by kernel_rfl) ?_);conv=>whnf))
  refine stepD (Good.dataT (good_appendT Γ.toTy 22 rfl rfl rfl rfl rfl (.row rfl) (.lit (e := hopSV) (l := [h]) rfl rfl) (by simp) (by simp; omega) (by simp; omega))) (by kernel_rfl) rfl ?_
  ((first|refine rG Γ hm ?_|refine rD Γ hm (by kernel_rfl) ?_);(conv=>whnf);repeat((first|refine aF ?_|refine aT ?_);(first|refine rG Γ hm ?_|refine rD Γ hm (by kernel_rfl) ?_);conv=>whnf))
  refine stepD (good_appendT Γ.toTy 26 rfl rfl rfl rfl rfl (.row rfl) (.lit (e := waySV) (l := [⟨w.hops ++ [h], r⟩]) rfl rfl) (by simp) (by simp; omega) (by simp; omega)) (by kernel_rfl) rfl ?_
  ((first|refine rG Γ hm ?_|refine rD Γ hm (by kernel_rfl) ?_);(conv=>whnf);repeat((first|refine aF ?_|refine aT ?_);(first|refine rG Γ hm ?_|refine rD Γ hm (by kernel_rfl) ?_);conv=>whnf))
  refine ⟨(by kernel_rfl), ?_⟩
  ((conv=>whnf);repeat((first|refine aF ?_|refine aT ?_);(first|refine rG Γ hm ?_|refine rD Γ hm (by kernel_rfl) ?_);conv=>whnf))
  exact done rfl (.cons .tmp .nil) [(1, 26)] [(0, .non), (1, .row 2 waySV (l ++ [⟨w.hops ++ [h], r⟩]))] (fun _ h => h) rfl rfl ⟨trivial, ⟨.inl rfl, rfl, .inl rfl, rfl, trivial⟩, rfl, rfl⟩

end Go.Sy.YtlfopmhekhifoaaGreatDoor
