/-
  Contracts: the document's answer of layer 15 (palingref15), 3. Rows of a text, by the program and by the document. Contracts: the document's answer of layer 15 (palingref15), 4; it is the program's. Contracts: vectors (package vector, palingref24), 1. Contracts: vectors (package vector, palingref24), 2: sorting. Contracts: vectors (package vector, palingref24), 3: ranks. The plain law of ranks: the program's are the document's. Contracts: vectors, 4: costs, great nets, lists of numbers, the least vector. What nets that may be are; a link's other end; rows that are made with nil in them. The document's texts of addresses, domains, ports. Machine: bytes and truths as texts. Machine: bytes as texts. The document's words of a row; hexadecimal digits; bytes read. Machine: ports as texts. Machine: ends. Machine: the document's bytes as texts; places.
-/
import Derived.Test.YtjomehmhkcnadaaGreatDoorB5
import Derived.Test.YtjomehmhkcnadaaGreatDoorB3

namespace Go.Sy.YtjomehmhkcnadaaGreatDoor
open Go.Proofs
-- SIMP: placeB
-- OM: first | (simp only [ha]; omega) | (have hq := bare_dev hb (i := k.toNat) (by omega); simp only [placeB, Bool.and_eq_true, decide_eq_true_eq] at hq; omega)

attribute [local irreducible] Go.Sy.G Go.Sy.DR
set_option maxRecDepth 20000
set_option maxHeartbeats 4000000

theorem ref15PeerS (n : Net) (i : Nat) (k : Int) (hn : n.Fin) (hi : i < n.domains.length) (hb : allB (bareB n) n.domains = true) : Sy.Spec Tryz.prog 92 [netSV n, intSV i, intSV k] [] (boolSV (peerB n i n.domains[i] k)) [] := contract Γ hm 100 F92 Tryz.ntmps92 rfl fun F hF => by
  have hd := bare_dev hb hi
  have ha : n.domains[(i : Int).toNat]'(by omega) = n.domains[i] := rfl
  have hr : ∀ x : Bool, peerB n i n.domains[i] k = x → peerB n i (n.domains[(i : Int).toNat]'(by omega)) k = x := fun x h => h
  generalize n.domains[i] = d at *
  simp only [placeB, Bool.and_eq_true, decide_eq_true_eq] at hd
  ((conv=>whnf);repeat((first|refine aF ?_|refine aT ?_);(first|refine rG Γ hm ?_|refine rD Γ hm (by kernel_rfl) ?_);conv=>whnf))
  (repeat' (first | (refine ⟨fun h => ?_, fun h => ?_⟩ <;> (repeat (first | (simp only [placeB] at h) | (simp only [decide_eq_true_eq] at h) | (simp only [decide_eq_false_iff_not] at h) | (simp only [beq_iff_eq] at h) | (simp only [beq_eq_false_iff_ne] at h) | (simp only [bne_iff_ne] at h) | (simp only [bne_eq_false_iff_eq] at h) | (simp only [Bool.and_eq_true] at h) | (simp only [Bool.or_eq_true] at h) | (simp only [Bool.and_eq_false_iff] at h) | (simp only [Bool.or_eq_false_iff] at h) | (simp only [Bool.not_eq_true'] at h) | (simp only [Bool.not_eq_false'] at h) | (simp only [Bool.not_eq_eq_eq_not] at h) | (simp only [Bool.not_true] at h) | (simp only [Bool.not_false] at h))) <;> ((first|refine rG Γ hm ?_|refine rD Γ hm (by kernel_rfl) ?_);(conv=>whnf);repeat((first|refine aF ?_|refine aT ?_);(first|refine rG Γ hm ?_|refine rD Γ hm (by kernel_rfl) ?_);conv=>whnf))) | (refine done0 rfl (.cons .tmp .nil) ?_ rfl) | (refine ⟨(by kernel_rfl), ?_⟩; ((conv=>whnf);repeat((first|refine aF ?_|refine aT ?_);(first|refine rG Γ hm ?_|refine rD Γ hm (by kernel_rfl) ?_);conv=>whnf))) | (refine ⟨by (first | (unfold I64; omega) | omega | (simp only [Int.toNat_natCast]; omega) | first | (simp only [ha]; omega) | (have hq := bare_dev hb (i := k.toNat) (by omega); simp only [placeB, Bool.and_eq_true, decide_eq_true_eq] at hq; omega)), by (first | (unfold I64; omega) | omega | (simp only [Int.toNat_natCast]; omega) | first | (simp only [ha]; omega) | (have hq := bare_dev hb (i := k.toNat) (by omega); simp only [placeB, Bool.and_eq_true, decide_eq_true_eq] at hq; omega)), ?_⟩; ((conv=>whnf);repeat((first|refine aF ?_|refine aT ?_);(first|refine rG Γ hm ?_|refine rD Γ hm (by kernel_rfl) ?_);conv=>whnf))) | (refine ⟨by (first | (unfold I64; omega) | omega | (simp only [Int.toNat_natCast]; omega) | first | (simp only [ha]; omega) | (have hq := bare_dev hb (i := k.toNat) (by omega); simp only [placeB, Bool.and_eq_true, decide_eq_true_eq] at hq; omega)), ?_⟩; ((conv=>whnf);repeat((first|refine aF ?_|refine aT ?_);(first|refine rG Γ hm ?_|refine rD Γ hm (by kernel_rfl) ?_);conv=>whnf))) | (refine call0 (ref15PlaceS k n.domains.length) F31 rfl rfl rfl rfl rfl ?_; ((first|refine rG Γ hm ?_|refine rD Γ hm (by kernel_rfl) ?_);(conv=>whnf);repeat((first|refine aF ?_|refine aT ?_);(first|refine rG Γ hm ?_|refine rD Γ hm (by kernel_rfl) ?_);conv=>whnf))) | (refine callD0 (ref15PlaceS k n.domains.length) F31 rfl rfl rfl (by kernel_rfl) rfl ?_; ((first|refine rG Γ hm ?_|refine rD Γ hm (by kernel_rfl) ?_);(conv=>whnf);repeat((first|refine aF ?_|refine aT ?_);(first|refine rG Γ hm ?_|refine rD Γ hm (by kernel_rfl) ?_);conv=>whnf))) | ((refine ⟨by omega, by omega, ?_⟩; rw [ha]; ((conv=>whnf);repeat((first|refine aF ?_|refine aT ?_);(first|refine rG Γ hm ?_|refine rD Γ hm (by kernel_rfl) ?_);conv=>whnf)))) | (refine call0 (ref15InS (n.domains[k.toNat]'(by omega)).peers i (hn.peers _ (List.getElem_mem _))) F93 rfl rfl rfl rfl rfl ?_; ((first|refine rG Γ hm ?_|refine rD Γ hm (by kernel_rfl) ?_);(conv=>whnf);repeat((first|refine aF ?_|refine aT ?_);(first|refine rG Γ hm ?_|refine rD Γ hm (by kernel_rfl) ?_);conv=>whnf))) | (refine callD0 (ref15InS (n.domains[k.toNat]'(by omega)).peers i (hn.peers _ (List.getElem_mem _))) F93 rfl rfl rfl (by kernel_rfl) rfl ?_; ((first|refine rG Γ hm ?_|refine rD Γ hm (by kernel_rfl) ?_);(conv=>whnf);repeat((first|refine aF ?_|refine aT ?_);(first|refine rG Γ hm ?_|refine rD Γ hm (by kernel_rfl) ?_);conv=>whnf)))))
  all_goals (
    refine congrArg boolSV ?_
    have hq : ∀ h : k.toNat < n.domains.length, 0 ≤ n.domains[k.toNat].dev ∧ n.domains[k.toNat].dev < n.devices.length := fun h => by
      have := bare_dev hb h
      simpa only [placeB, Bool.and_eq_true, decide_eq_true_eq] using this
    clear hF hr; grind [peerB, vtepB, placeB, nth_eq])

theorem in_take (l : List Int) (k : Nat) (hk : k < l.length) : inB (l.take k) l[k] = !(idxI (· == l[k]) l == (k : Int)) := by
  have h0 : ∀ x, idxI (· == l[k]) l = x → inB (l.take k) l[k] = !(x == (k : Int)) := by
    intro x hx
    subst hx
    unfold idxI
    split
    · rename_i i h
      rw [List.findIdx?_eq_some_iff_getElem] at h
      obtain ⟨hi, h1, h2⟩ := h
      have hle : i ≤ k := by
        rcases Nat.lt_or_ge k i with h3 | h3
        · exact absurd (h2 k h3) (by simp)
        · exact h3
      by_cases he : i = k
      · subst he
        simp only [inB, beq_self_eq_true, Bool.not_true]
        rw [List.any_eq_false]
        intro x hx
        obtain ⟨m, hm, rfl⟩ := List.mem_iff_getElem.1 hx
        simp only [List.length_take] at hm
        rw [List.getElem_take]
        have := h2 m (by omega)
        simpa using this
      · have : ((i : Int) == (k : Int)) = false := by simp; omega
        rw [this]
        simp only [inB, Bool.not_false]
        refine List.any_eq_true.2 ⟨l[i], ?_, h1⟩
        exact List.mem_iff_getElem.2 ⟨i, by simp; omega, by simp⟩
    · rename_i h
      rw [List.findIdx?_eq_none_iff] at h
      have := h l[k] (List.getElem_mem hk)
      simp at this
  exact h0 _ rfl

theorem good_slice_eq {P : Program} (Γ : Ty P) {o : Oper} {s : SS} {t : TypeId} {ti : TI} {et : TypeId} {sz eb lo hi : Nat} {ez : List Value} {x : Operand} {lx hx : Option Operand} {α : Type} {e : α → SV} {l : List α} (r : List α)
    (h : o.op = .slice t x lx hx none) (ht : Γ.get t = some ti) (hk : ti.k = .slice et sz eb ez) (hxe : ev s x = .sl sz e l) (hlo : BoundIs s lx 0 lo) (hhi : BoundIs s hx l.length hi) (h1 : lo ≤ hi) (h2 : hi ≤ l.length) (hr : (l.take hi).drop lo = r) :
    Good P o s ⟨.sl sz e r, [], []⟩ := by
  subst hr
  exact good_slice_sl Γ h ht hk hxe hlo hhi h1 h2

theorem ref15DomainsS (n : Net) (hn : n.Fin) : Sy.Spec Tryz.prog 58 [netSV n] [] (boolSV (allB (bareB n) n.domains && allB (peersB n) n.domains)) [] := contract Γ hm 100 F58 Tryz.ntmps58 rfl fun F hF => by
  have hl := hn.domains
  unfold Short at hl
  ((conv=>whnf);repeat((first|refine aF ?_|refine aT ?_);(first|refine rG Γ hm ?_|refine rD Γ hm (by kernel_rfl) ?_);conv=>whnf))
  refine G_box 1 8 (netSV n) rfl rfl rfl ?_
  refine G_countP n.domains.length (fun j => Upto (bareB n) n.domains j) (fun j => [(1, .ref 8 (netSV n) 0), (3, intSV j)]) (fun _ => []) [] (upto_zero _ _) ⟨⟨rfl, rfl, rfl, rfl, trivial⟩, trivial, rfl, rfl⟩ ?_
  intro j hj hI
  ((first|refine rG Γ hm ?_|refine rD Γ hm (by kernel_rfl) ?_);(conv=>whnf);repeat((first|refine aF ?_|refine aT ?_);(first|refine rG Γ hm ?_|refine rD Γ hm (by kernel_rfl) ?_);conv=>whnf))
  refine ⟨fun h => ?_, fun h => ?_⟩
  · have hjl : j < n.domains.length := by simpa using h
    generalize hp : n.domains[j] = p
    have hp' : n.domains[(j : Int).toNat]'(by omega) = p := hp
    ((first|refine rG Γ hm ?_|refine rD Γ hm (by kernel_rfl) ?_);(conv=>whnf);repeat((first|refine aF ?_|refine aT ?_);(first|refine rG Γ hm ?_|refine rD Γ hm (by kernel_rfl) ?_);conv=>whnf))
    refine ⟨rfl, by omega, by omega, ?_⟩
    rw [hp']
    ((conv=>whnf);repeat((first|refine aF ?_|refine aT ?_);(first|refine rG Γ hm ?_|refine rD Γ hm (by kernel_rfl) ?_);conv=>whnf))
    (repeat' (first | (refine ⟨fun h => ?_, fun h => ?_⟩ <;> (repeat (first | (simp only [placeB] at h) | (simp only [decide_eq_true_eq] at h) | (simp only [decide_eq_false_iff_not] at h) | (simp only [beq_iff_eq] at h) | (simp only [beq_eq_false_iff_ne] at h) | (simp only [bne_iff_ne] at h) | (simp only [bne_eq_false_iff_eq] at h) | (simp only [Bool.and_eq_true] at h) | (simp only [Bool.or_eq_true] at h) | (simp only [Bool.and_eq_false_iff] at h) | (simp only [Bool.or_eq_false_iff] at h) | (simp only [Bool.not_eq_true'] at h) | (simp only [Bool.not_eq_false'] at h) | (simp only [Bool.not_eq_eq_eq_not] at h) | (simp only [Bool.not_true] at h) | (simp only [Bool.not_false] at h))) <;> ((first|refine rG Γ hm ?_|refine rD Γ hm (by kernel_rfl) ?_);(conv=>whnf);repeat((first|refine aF ?_|refine aT ?_);(first|refine rG Γ hm ?_|refine rD Γ hm (by kernel_rfl) ?_);conv=>whnf))) | (refine done0 rfl (.cons .tmp .nil) ?_ rfl) | (refine ⟨(by kernel_rfl), ?_⟩; ((conv=>whnf);repeat((first|refine aF ?_|refine aT ?_);(first|refine rG Γ hm ?_|refine rD Γ hm (by kernel_rfl) ?_);conv=>whnf))) | (refine ⟨by (first | (unfold I64; omega) | omega | (simp only [Int.toNat_natCast]; omega) | first | (simp only [ha]; omega) | (have hq := bare_dev hb (i := k.toNat) (by omega); simp only [placeB, Bool.and_eq_true, decide_eq_true_eq] at hq; omega)), by (first | (unfold I64; omega) | omega | (simp only [Int.toNat_natCast]; omega) | first | (simp only [ha]; omega) | (have hq := bare_dev hb (i := k.toNat) (by omega); simp only [placeB, Bool.and_eq_true, decide_eq_true_eq] at hq; omega)), ?_⟩; ((conv=>whnf);repeat((first|refine aF ?_|refine aT ?_);(first|refine rG Γ hm ?_|refine rD Γ hm (by kernel_rfl) ?_);conv=>whnf))) | (refine ⟨by (first | (unfold I64; omega) | omega | (simp only [Int.toNat_natCast]; omega) | first | (simp only [ha]; omega) | (have hq := bare_dev hb (i := k.toNat) (by omega); simp only [placeB, Bool.and_eq_true, decide_eq_true_eq] at hq; omega)), ?_⟩; ((conv=>whnf);repeat((first|refine aF ?_|refine aT ?_);(first|refine rG Γ hm ?_|refine rD Γ hm (by kernel_rfl) ?_);conv=>whnf))) | (refine call0 (ref15PlaceS p.dev n.devices.length) F31 rfl rfl rfl rfl rfl ?_; ((first|refine rG Γ hm ?_|refine rD Γ hm (by kernel_rfl) ?_);(conv=>whnf);repeat((first|refine aF ?_|refine aT ?_);(first|refine rG Γ hm ?_|refine rD Γ hm (by kernel_rfl) ?_);conv=>whnf))) | (refine callD0 (ref15PlaceS p.dev n.devices.length) F31 rfl rfl rfl (by kernel_rfl) rfl ?_; ((first|refine rG Γ hm ?_|refine rD Γ hm (by kernel_rfl) ?_);(conv=>whnf);repeat((first|refine aF ?_|refine aT ?_);(first|refine rG Γ hm ?_|refine rD Γ hm (by kernel_rfl) ?_);conv=>whnf))) | (refine call0 (ref15PlaceS p.irb n.irbs.length) F31 rfl rfl rfl rfl rfl ?_; ((first|refine rG Γ hm ?_|refine rD Γ hm (by kernel_rfl) ?_);(conv=>whnf);repeat((first|refine aF ?_|refine aT ?_);(first|refine rG Γ hm ?_|refine rD Γ hm (by kernel_rfl) ?_);conv=>whnf))) | (refine callD0 (ref15PlaceS p.irb n.irbs.length) F31 rfl rfl rfl (by kernel_rfl) rfl ?_; ((first|refine rG Γ hm ?_|refine rD Γ hm (by kernel_rfl) ?_);(conv=>whnf);repeat((first|refine aF ?_|refine aT ?_);(first|refine rG Γ hm ?_|refine rD Γ hm (by kernel_rfl) ?_);conv=>whnf))) | (refine call0 (ref15AtS n p.dev p.vlan hn.domains) F91 rfl rfl rfl rfl rfl ?_; ((first|refine rG Γ hm ?_|refine rD Γ hm (by kernel_rfl) ?_);(conv=>whnf);repeat((first|refine aF ?_|refine aT ?_);(first|refine rG Γ hm ?_|refine rD Γ hm (by kernel_rfl) ?_);conv=>whnf))) | (refine callD0 (ref15AtS n p.dev p.vlan hn.domains) F91 rfl rfl rfl (by kernel_rfl) rfl ?_; ((first|refine rG Γ hm ?_|refine rD Γ hm (by kernel_rfl) ?_);(conv=>whnf);repeat((first|refine aF ?_|refine aT ?_);(first|refine rG Γ hm ?_|refine rD Γ hm (by kernel_rfl) ?_);conv=>whnf))) | (refine G_nextP [] hI (by omega) ?_ ⟨⟨rfl, rfl, rfl, rfl, trivial⟩, trivial, rfl, rfl⟩)))
    all_goals first
      | exact upto_next hI hjl (by rw [hp]; clear hI hF hp'; grind [bareB, placeB, nth_eq])
      | (refine congrArg boolSV ?_; rw [allB_false (p := bareB n) hjl (by rw [hp]; clear hI hF hp'; grind [bareB, placeB, nth_eq])]; rfl)
  have hb : allB (bareB n) n.domains = true := upto_all hI (by simpa using h)
  clear hI
  ((first|refine rG Γ hm ?_|refine rD Γ hm (by kernel_rfl) ?_);(conv=>whnf);repeat((first|refine aF ?_|refine aT ?_);(first|refine rG Γ hm ?_|refine rD Γ hm (by kernel_rfl) ?_);conv=>whnf))
  refine G_countP n.domains.length (fun j => Upto (peersB n) n.domains j) (fun j => [(1, .ref 8 (netSV n) 0), (5, intSV j)]) (fun _ => []) [] (upto_zero _ _) ⟨⟨rfl, rfl, rfl, rfl, trivial⟩, trivial, rfl, rfl⟩ ?_
  clear hj h
  intro j hj hI
  ((first|refine rG Γ hm ?_|refine rD Γ hm (by kernel_rfl) ?_);(conv=>whnf);repeat((first|refine aF ?_|refine aT ?_);(first|refine rG Γ hm ?_|refine rD Γ hm (by kernel_rfl) ?_);conv=>whnf))
  refine ⟨fun h => ?_, fun h => ?_⟩
  · have hjl : j < n.domains.length := by simpa using h
    have hpe := fun k => ref15PeerS n j k hn hjl hb
    have hsh := hn.peers _ (List.getElem_mem hjl)
    generalize hp : n.domains[j] = p at hpe hsh
    have hp' : n.domains[(j : Int).toNat]'(by omega) = p := hp
    ((first|refine rG Γ hm ?_|refine rD Γ hm (by kernel_rfl) ?_);(conv=>whnf);repeat((first|refine aF ?_|refine aT ?_);(first|refine rG Γ hm ?_|refine rD Γ hm (by kernel_rfl) ?_);conv=>whnf))
    refine ⟨rfl, by omega, by omega, ?_⟩
    rw [hp']
    ((conv=>whnf);repeat((first|refine aF ?_|refine aT ?_);(first|refine rG Γ hm ?_|refine rD Γ hm (by kernel_rfl) ?_);conv=>whnf))
    refine G_box 6 6 (domainSV p) rfl rfl rfl ?_
    refine G_countP p.peers.length (fun k => Upto (fun at_ k => peerB n j p k && idxI (· == k) p.peers == at_) p.peers k) (fun k => [(1, .ref 8 (netSV n) 0), (5, intSV j), (6, .ref 6 (domainSV p) 0), (7, intSV k)]) (fun _ => []) [] (upto_zero _ _) ⟨⟨rfl, rfl, rfl, rfl, rfl, rfl, rfl, rfl, trivial⟩, trivial, rfl, rfl⟩ ?_
    intro k hk hI2
    unfold Short at hsh
    ((first|refine rG Γ hm ?_|refine rD Γ hm (by kernel_rfl) ?_);(conv=>whnf);repeat((first|refine aF ?_|refine aT ?_);(first|refine rG Γ hm ?_|refine rD Γ hm (by kernel_rfl) ?_);conv=>whnf))
    refine ⟨fun h2 => ?_, fun h2 => ?_⟩
    · have hkl : k < p.peers.length := by simpa using h2
      have hkk : p.peers[(k : Int).toNat]'(by omega) = p.peers[k] := rfl
      have hty := in_take p.peers k hkl
      ((first|refine rG Γ hm ?_|refine rD Γ hm (by kernel_rfl) ?_);(conv=>whnf);repeat((first|refine aF ?_|refine aT ?_);(first|refine rG Γ hm ?_|refine rD Γ hm (by kernel_rfl) ?_);conv=>whnf))
      refine ⟨(by kernel_rfl), ?_⟩
      refine ⟨by omega, by omega, ?_⟩
      rw [hkk]
      generalize p.peers[k] = x at *
      ((conv=>whnf);repeat((first|refine aF ?_|refine aT ?_);(first|refine rG Γ hm ?_|refine rD Γ hm (by kernel_rfl) ?_);conv=>whnf))
      (repeat' (first | (refine ⟨fun h => ?_, fun h => ?_⟩ <;> (repeat (first | (simp only [placeB] at h) | (simp only [decide_eq_true_eq] at h) | (simp only [decide_eq_false_iff_not] at h) | (simp only [beq_iff_eq] at h) | (simp only [beq_eq_false_iff_ne] at h) | (simp only [bne_iff_ne] at h) | (simp only [bne_eq_false_iff_eq] at h) | (simp only [Bool.and_eq_true] at h) | (simp only [Bool.or_eq_true] at h) | (simp only [Bool.and_eq_false_iff] at h) | (simp only [Bool.or_eq_false_iff] at h) | (simp only [Bool.not_eq_true'] at h) | (simp only [Bool.not_eq_false'] at h) | (simp only [Bool.not_eq_eq_eq_not] at h) | (simp only [Bool.not_true] at h) | (simp only [Bool.not_false] at h))) <;> ((first|refine rG Γ hm ?_|refine rD Γ hm (by kernel_rfl) ?_);(conv=>whnf);repeat((first|refine aF ?_|refine aT ?_);(first|refine rG Γ hm ?_|refine rD Γ hm (by kernel_rfl) ?_);conv=>whnf))) | (refine done0 rfl (.cons .tmp .nil) ?_ rfl) | (refine ⟨(by kernel_rfl), ?_⟩; ((conv=>whnf);repeat((first|refine aF ?_|refine aT ?_);(first|refine rG Γ hm ?_|refine rD Γ hm (by kernel_rfl) ?_);conv=>whnf))) | (refine ⟨by (first | (unfold I64; omega) | omega | (simp only [Int.toNat_natCast]; omega) | first | (simp only [ha]; omega) | (have hq := bare_dev hb (i := k.toNat) (by omega); simp only [placeB, Bool.and_eq_true, decide_eq_true_eq] at hq; omega)), by (first | (unfold I64; omega) | omega | (simp only [Int.toNat_natCast]; omega) | first | (simp only [ha]; omega) | (have hq := bare_dev hb (i := k.toNat) (by omega); simp only [placeB, Bool.and_eq_true, decide_eq_true_eq] at hq; omega)), ?_⟩; ((conv=>whnf);repeat((first|refine aF ?_|refine aT ?_);(first|refine rG Γ hm ?_|refine rD Γ hm (by kernel_rfl) ?_);conv=>whnf))) | (refine ⟨by (first | (unfold I64; omega) | omega | (simp only [Int.toNat_natCast]; omega) | first | (simp only [ha]; omega) | (have hq := bare_dev hb (i := k.toNat) (by omega); simp only [placeB, Bool.and_eq_true, decide_eq_true_eq] at hq; omega)), ?_⟩; ((conv=>whnf);repeat((first|refine aF ?_|refine aT ?_);(first|refine rG Γ hm ?_|refine rD Γ hm (by kernel_rfl) ?_);conv=>whnf))) | (refine call0 (hpe x) F92 rfl rfl rfl rfl rfl ?_; ((first|refine rG Γ hm ?_|refine rD Γ hm (by kernel_rfl) ?_);(conv=>whnf);repeat((first|refine aF ?_|refine aT ?_);(first|refine rG Γ hm ?_|refine rD Γ hm (by kernel_rfl) ?_);conv=>whnf))) | (refine callD0 (hpe x) F92 rfl rfl rfl (by kernel_rfl) rfl ?_; ((first|refine rG Γ hm ?_|refine rD Γ hm (by kernel_rfl) ?_);(conv=>whnf);repeat((first|refine aF ?_|refine aT ?_);(first|refine rG Γ hm ?_|refine rD Γ hm (by kernel_rfl) ?_);conv=>whnf))) | (refine call0 (ref15InS (p.peers.take k) (p.peers[(k : Int).toNat]'(by omega)) (by unfold Short; simp; omega)) F93 rfl rfl rfl rfl rfl ?_; ((first|refine rG Γ hm ?_|refine rD Γ hm (by kernel_rfl) ?_);(conv=>whnf);repeat((first|refine aF ?_|refine aT ?_);(first|refine rG Γ hm ?_|refine rD Γ hm (by kernel_rfl) ?_);conv=>whnf))) | (refine callD0 (ref15InS (p.peers.take k) (p.peers[(k : Int).toNat]'(by omega)) (by unfold Short; simp; omega)) F93 rfl rfl rfl (by kernel_rfl) rfl ?_; ((first|refine rG Γ hm ?_|refine rD Γ hm (by kernel_rfl) ?_);(conv=>whnf);repeat((first|refine aF ?_|refine aT ?_);(first|refine rG Γ hm ?_|refine rD Γ hm (by kernel_rfl) ?_);conv=>whnf))) | (refine G_nextP [] hI2 (by omega) ?_ ⟨⟨rfl, rfl, rfl, rfl, rfl, rfl, rfl, rfl, trivial⟩, trivial, rfl, rfl⟩) | ((refine stepD (good_slice_eq Γ.toTy (lo := 0) (hi := k) (p.peers.take k) rfl rfl rfl rfl (.inl ⟨rfl, rfl⟩) (.inr ⟨_, _, rfl, rfl⟩) (by omega) (by omega) rfl) (by kernel_rfl) rfl ?_; ((first|refine rG Γ hm ?_|refine rD Γ hm (by kernel_rfl) ?_);(conv=>whnf);repeat((first|refine aF ?_|refine aT ?_);(first|refine rG Γ hm ?_|refine rD Γ hm (by kernel_rfl) ?_);conv=>whnf)))) | ((refine ⟨by omega, by omega, ?_⟩; rw [hkk]; ((conv=>whnf);repeat((first|refine aF ?_|refine aT ?_);(first|refine rG Γ hm ?_|refine rD Γ hm (by kernel_rfl) ?_);conv=>whnf))))))
      all_goals first
        | exact upto_next hI2 hkl (by clear hF; grind)
        | (refine congrArg boolSV ?_
           have h0 : peersB n j p = false := allB_false hkl (by clear hF; grind)
           rw [hb, allB_false (p := peersB n) hjl (by rw [hp]; exact h0)]; rfl)
    · have h0 : peersB n j p = true := upto_all hI2 (by simpa using h2)
      ((first|refine rG Γ hm ?_|refine rD Γ hm (by kernel_rfl) ?_);(conv=>whnf);repeat((first|refine aF ?_|refine aT ?_);(first|refine rG Γ hm ?_|refine rD Γ hm (by kernel_rfl) ?_);conv=>whnf))
      (repeat' (first | (refine ⟨fun h => ?_, fun h => ?_⟩ <;> (repeat (first | (simp only [placeB] at h) | (simp only [decide_eq_true_eq] at h) | (simp only [decide_eq_false_iff_not] at h) | (simp only [beq_iff_eq] at h) | (simp only [beq_eq_false_iff_ne] at h) | (simp only [bne_iff_ne] at h) | (simp only [bne_eq_false_iff_eq] at h) | (simp only [Bool.and_eq_true] at h) | (simp only [Bool.or_eq_true] at h) | (simp only [Bool.and_eq_false_iff] at h) | (simp only [Bool.or_eq_false_iff] at h) | (simp only [Bool.not_eq_true'] at h) | (simp only [Bool.not_eq_false'] at h) | (simp only [Bool.not_eq_eq_eq_not] at h) | (simp only [Bool.not_true] at h) | (simp only [Bool.not_false] at h))) <;> ((first|refine rG Γ hm ?_|refine rD Γ hm (by kernel_rfl) ?_);(conv=>whnf);repeat((first|refine aF ?_|refine aT ?_);(first|refine rG Γ hm ?_|refine rD Γ hm (by kernel_rfl) ?_);conv=>whnf))) | (refine done0 rfl (.cons .tmp .nil) ?_ rfl) | (refine ⟨(by kernel_rfl), ?_⟩; ((conv=>whnf);repeat((first|refine aF ?_|refine aT ?_);(first|refine rG Γ hm ?_|refine rD Γ hm (by kernel_rfl) ?_);conv=>whnf))) | (refine ⟨by (first | (unfold I64; omega) | omega | (simp only [Int.toNat_natCast]; omega) | first | (simp only [ha]; omega) | (have hq := bare_dev hb (i := k.toNat) (by omega); simp only [placeB, Bool.and_eq_true, decide_eq_true_eq] at hq; omega)), by (first | (unfold I64; omega) | omega | (simp only [Int.toNat_natCast]; omega) | first | (simp only [ha]; omega) | (have hq := bare_dev hb (i := k.toNat) (by omega); simp only [placeB, Bool.and_eq_true, decide_eq_true_eq] at hq; omega)), ?_⟩; ((conv=>whnf);repeat((first|refine aF ?_|refine aT ?_);(first|refine rG Γ hm ?_|refine rD Γ hm (by kernel_rfl) ?_);conv=>whnf))) | (refine ⟨by (first | (unfold I64; omega) | omega | (simp only [Int.toNat_natCast]; omega) | first | (simp only [ha]; omega) | (have hq := bare_dev hb (i := k.toNat) (by omega); simp only [placeB, Bool.and_eq_true, decide_eq_true_eq] at hq; omega)), ?_⟩; ((conv=>whnf);repeat((first|refine aF ?_|refine aT ?_);(first|refine rG Γ hm ?_|refine rD Γ hm (by kernel_rfl) ?_);conv=>whnf))) | (refine G_nextP [] hI (by omega) ?_ ⟨⟨rfl, rfl, rfl, rfl, trivial⟩, trivial, rfl, rfl⟩)))
      exact upto_next hI hjl (by rw [hp]; exact h0)
  · ((first|refine rG Γ hm ?_|refine rD Γ hm (by kernel_rfl) ?_);(conv=>whnf);repeat((first|refine aF ?_|refine aT ?_);(first|refine rG Γ hm ?_|refine rD Γ hm (by kernel_rfl) ?_);conv=>whnf))
    refine done0 rfl (.cons .tmp .nil) (congrArg boolSV ?_) rfl
    rw [hb, upto_all hI (by simpa using h)]
    rfl
end Go.Sy.YtjomehmhkcnadaaGreatDoor

namespace Go.Sy.YtjomehmhkcnadaaGreatDoor
open Go.Proofs

attribute [local irreducible] Go.Sy.G Go.Sy.DR
set_option maxRecDepth 100000
set_option maxHeartbeats 4000000

theorem indexByte_ge : ∀ (l : List UInt8) (c : UInt8), -1 ≤ Lib.indexByte l c
  | [], _ => by simp [Lib.indexByte]
  | b :: l, c => by
    unfold Lib.indexByte
    have := indexByte_ge l c
    split
    · omega
    split
    · omega
    · omega

def rowsGo : List UInt8 → List UInt8 → List ByteArray
  | cur, [] => if cur = [] then [] else [mkT cur]
  | cur, c :: r => if c = 10 then mkT cur :: rowsGo [] r else rowsGo (cur ++ [c]) r

def rowsT (b : List UInt8) : List ByteArray × Int :=
  if 20000 < b.length then ([], 3) else if 400 < (rowsGo [] b).length then ([], 3) else (rowsGo [] b, 0)

theorem rowsGo_none : ∀ (l cur : List UInt8), Lib.indexByte l 10 = -1 → rowsGo cur l = if cur ++ l = [] then [] else [mkT (cur ++ l)]
  | [], cur, _ => by rw [rowsGo, List.append_nil]
  | c :: l, cur, h => by
    unfold Lib.indexByte at h
    by_cases hc : (c == 10) = true
    · rw [if_pos hc] at h; omega
    rw [if_neg hc] at h
    have hi : Lib.indexByte l 10 = -1 := by
      by_cases h1 : (Lib.indexByte l 10 == -1) = true
      · simpa using h1
      · rw [if_neg h1] at h
        have := indexByte_ge l 10
        omega
    rw [rowsGo, if_neg (by simpa using hc), rowsGo_none l _ hi]
    simp
theorem rowsGo_some : ∀ (l cur : List UInt8), 0 ≤ Lib.indexByte l 10 → rowsGo cur l = mkT (cur ++ l.take (Lib.indexByte l 10).toNat) :: rowsGo [] (l.drop ((Lib.indexByte l 10).toNat + 1))
  | [], cur, h => by simp [Lib.indexByte] at h
  | c :: l, cur, h => by
    unfold Lib.indexByte at h ⊢
    by_cases hc : (c == 10) = true
    · rw [if_pos hc, rowsGo, if_pos (by simpa using hc)]
      simp
    rw [if_neg hc] at h ⊢
    by_cases h1 : (Lib.indexByte l 10 == -1) = true
    · rw [if_pos h1] at h; omega
    rw [if_neg h1] at h ⊢
    have := indexByte_ge l 10
    have h2 : 0 ≤ Lib.indexByte l 10 := by
      have h3 : Lib.indexByte l 10 ≠ -1 := by simpa using h1
      omega
    have e : (Lib.indexByte l 10 + 1).toNat = (Lib.indexByte l 10).toNat + 1 := by omega
    rw [rowsGo, if_neg (by simpa using hc), rowsGo_some l _ h2, e]
    simp

theorem rowsGo_cut {l : List UInt8} (h : l ≠ []) : rowsGo [] l = (cutT 10 (mkT l)).1 :: rowsGo [] (cutT 10 (mkT l)).2.1.data.toList ∧ (cutT 10 (mkT l)).2.1.data.toList.length < l.length := by
  have hpos := List.length_pos_iff.2 h
  have hlt := indexByte_lt l 10
  have hge := indexByte_ge l 10
  have e0 : (mkT l).size = l.length := mkT_size l
  rw [cutT, mkT_list]
  split
  · rename_i h0
    dsimp only
    rw [rowsGo_some l [] h0, mkT_extract, mkT_extract, mkT_list, e0, List.take_length]
    refine ⟨rfl, ?_⟩
    rw [List.length_drop]
    omega
  · rename_i h0
    dsimp only
    rw [rowsGo_none l [] (by omega), List.nil_append, if_neg h]
    exact ⟨rfl, hpos⟩

theorem rowsGo_length : ∀ (l cur : List UInt8), (rowsGo cur l).length ≤ l.length + 1
  | [], cur => by rw [rowsGo]; split <;> simp
  | c :: l, cur => by
    rw [rowsGo]
    split
    · have := rowsGo_length l []
      simp only [List.length_cons]; omega
    · have := rowsGo_length l (cur ++ [c])
      simp only [List.length_cons]; omega

theorem mkT_empty (l : List UInt8) : (mkT l == ⟨#[]⟩) = decide (l = []) := by
  cases l with
  | nil => rfl
  | cons c l =>
    rw [decide_eq_false (by simp)]
    cases he : (mkT (c :: l) == (⟨#[]⟩ : ByteArray))
    · rfl
    · have e : (mkT (c :: l)).data = (⟨#[]⟩ : ByteArray).data := by simpa using (show ((mkT (c :: l)).data == (⟨#[]⟩ : ByteArray).data) = true from he)
      have := congrArg Array.size e
      simp [mkT] at this

theorem lineRowsS (b : List UInt8) (hb : b.length ≤ 1000000) : Sy.Spec Tryz.prog 22 [.sl 1 byteSV b] [] (.tup [.sl 1 strSV (rowsT b).1, intSV (rowsT b).2]) [] := contract Γ hm 100 F22 Tryz.ntmps22 rfl fun F hF => by
  have hres := rowsT.eq_1 b
  generalize rowsT b = res at *
  ((conv=>whnf);repeat((first|refine aF ?_|refine aT ?_);(first|refine rG Γ hm ?_|refine rD Γ hm (by kernel_rfl) ?_);conv=>whnf))
  refine ⟨fun h => ?_, fun h => ?_⟩
  · rw [if_pos (by have := of_decide_eq_true h; omega)] at hres
    subst hres
    ((first|refine rG Γ hm ?_|refine rD Γ hm (by kernel_rfl) ?_);(conv=>whnf);repeat((first|refine aF ?_|refine aT ?_);(first|refine rG Γ hm ?_|refine rD Γ hm (by kernel_rfl) ?_);conv=>whnf))
    refine G_nilsl 2 1 strSV rfl ?_
    ((first|refine rG Γ hm ?_|refine rD Γ hm (by kernel_rfl) ?_);(conv=>whnf);repeat((first|refine aF ?_|refine aT ?_);(first|refine rG Γ hm ?_|refine rD Γ hm (by kernel_rfl) ?_);conv=>whnf))
    exact done0 rfl (.cons .tmp (.cons .tmp .nil)) rfl rfl
  rw [if_neg (by have := of_decide_eq_false h; omega)] at hres
  ((first|refine rG Γ hm ?_|refine rD Γ hm (by kernel_rfl) ?_);(conv=>whnf);repeat((first|refine aF ?_|refine aT ?_);(first|refine rG Γ hm ?_|refine rD Γ hm (by kernel_rfl) ?_);conv=>whnf))
  refine stepOp (good_stringT Γ.toTy (bs := b) rfl rfl rfl rfl rfl rfl rfl .sl) rfl rfl ?_
  refine G_adopt 4 1000 1 strSV rfl rfl ?_
  ((first|refine rG Γ hm ?_|refine rD Γ hm (by kernel_rfl) ?_);(conv=>whnf);repeat((first|refine aF ?_|refine aT ?_);(first|refine rG Γ hm ?_|refine rD Γ hm (by kernel_rfl) ?_);conv=>whnf))
  refine G_while (fun x : List ByteArray × List UInt8 => rowsGo [] b = x.1 ++ rowsGo [] x.2 ∧ x.1.length + x.2.length ≤ b.length) (fun x => [(4, .osl 1000), (5, strSV (mkT x.2))]) (fun x => [(1000, .row 1 strSV x.1)]) (fun x => x.2.length) ([], b) [] ⟨rfl, by simp⟩
    ⟨⟨rfl, rfl, rfl, rfl, trivial⟩, ⟨.inl rfl, rfl, trivial⟩, rfl, rfl⟩ ?_
  rintro ⟨out, rest⟩ ⟨hI, hlen⟩
  dsimp only at hI hlen ⊢
  have hemp := mkT_empty rest
  ((first|refine rG Γ hm ?_|refine rD Γ hm (by kernel_rfl) ?_);(conv=>whnf);repeat((first|refine aF ?_|refine aT ?_);(first|refine rG Γ hm ?_|refine rD Γ hm (by kernel_rfl) ?_);conv=>whnf))
  by_cases hr : rest = []
  · rw [decide_eq_true hr] at hemp
    refine ⟨fun h => absurd h (by rw [hemp]; simp), fun _ => ?_⟩
    have hro : rowsGo [] b = out := by rw [hI, hr]; simp [rowsGo]
    rw [hro] at hres
    ((first|refine rG Γ hm ?_|refine rD Γ hm (by kernel_rfl) ?_);(conv=>whnf);repeat((first|refine aF ?_|refine aT ?_);(first|refine rG Γ hm ?_|refine rD Γ hm (by kernel_rfl) ?_);conv=>whnf))
    refine ⟨fun h => ?_, fun h => ?_⟩
    · rw [if_pos (by have := of_decide_eq_true h; omega)] at hres
      subst hres
      ((first|refine rG Γ hm ?_|refine rD Γ hm (by kernel_rfl) ?_);(conv=>whnf);repeat((first|refine aF ?_|refine aT ?_);(first|refine rG Γ hm ?_|refine rD Γ hm (by kernel_rfl) ?_);conv=>whnf))
      refine G_nilsl 2 1 strSV rfl ?_
      ((first|refine rG Γ hm ?_|refine rD Γ hm (by kernel_rfl) ?_);(conv=>whnf);repeat((first|refine aF ?_|refine aT ?_);(first|refine rG Γ hm ?_|refine rD Γ hm (by kernel_rfl) ?_);conv=>whnf))
      exact done0 rfl (.cons .tmp (.cons .tmp .nil)) rfl rfl
    · rw [if_neg (by have := of_decide_eq_false h; omega)] at hres
      subst hres
      refine G_data 1000 rfl ?_
      ((first|refine rG Γ hm ?_|refine rD Γ hm (by kernel_rfl) ?_);(conv=>whnf);repeat((first|refine aF ?_|refine aT ?_);(first|refine rG Γ hm ?_|refine rD Γ hm (by kernel_rfl) ?_);conv=>whnf))
      exact done0 rfl (.cons .tmp (.cons .tmp .nil)) rfl rfl
  · rw [decide_eq_false hr] at hemp
    refine ⟨fun _ => ?_, fun h => absurd h (by rw [hemp]; simp)⟩
    obtain ⟨hc, hlt⟩ := rowsGo_cut hr
    have q := strCutS (mkT rest) 10 (by rw [mkT_size]; omega)
    obtain ⟨⟨row, rs, more⟩, hct⟩ : ∃ p, cutT 10 (mkT rest) = p := ⟨_, rfl⟩
    rw [hct] at q hc hlt
    dsimp only at q hc hlt
    have hrz : rs.data.toList.length = rs.size := rfl
    ((first|refine rG Γ hm ?_|refine rD Γ hm (by kernel_rfl) ?_);(conv=>whnf);repeat((first|refine aF ?_|refine aT ?_);(first|refine rG Γ hm ?_|refine rD Γ hm (by kernel_rfl) ?_);conv=>whnf))
    refine call0 q F64 rfl rfl rfl rfl rfl ?_
    ((first|refine rG Γ hm ?_|refine rD Γ hm (by kernel_rfl) ?_);(conv=>whnf);repeat((first|refine aF ?_|refine aT ?_);(first|refine rG Γ hm ?_|refine rD Γ hm (by kernel_rfl) ?_);conv=>whnf))
    refine stepOp (good_appendT Γ.toTy 23 rfl rfl rfl rfl rfl (.row rfl) (.lit (e := strSV) (l := [row]) rfl rfl) (by simp) (by simp; omega) (by simp; omega)) rfl rfl ?_
    ((first|refine rG Γ hm ?_|refine rD Γ hm (by kernel_rfl) ?_);(conv=>whnf);repeat((first|refine aF ?_|refine aT ?_);(first|refine rG Γ hm ?_|refine rD Γ hm (by kernel_rfl) ?_);conv=>whnf))
    refine G_whileN (out ++ [row], rs.data.toList) [(1000, 23)] ⟨by rw [hI, hc]; simp, by simp; omega⟩ (by dsimp only; omega) ⟨⟨rfl, rfl, congrArg strSV (mkT_self rs), rfl, trivial⟩, ⟨.inl rfl, rfl, trivial⟩, rfl, rfl⟩

theorem refRowsS (b : List UInt8) (hb : b.length ≤ 1000000) : Sy.Spec Tryz.prog 24 [.sl 1 byteSV b] [] (.tup [.sl 1 strSV (rowsT b).1, intSV (rowsT b).2]) [] := contract Γ hm 100 F24 Tryz.ntmps24 rfl fun F hF => by
  have hres := rowsT.eq_1 b
  generalize rowsT b = res at *
  ((conv=>whnf);repeat((first|refine aF ?_|refine aT ?_);(first|refine rG Γ hm ?_|refine rD Γ hm (by kernel_rfl) ?_);conv=>whnf))
  refine ⟨fun h => ?_, fun h => ?_⟩
  · rw [if_pos (by have := of_decide_eq_true h; omega)] at hres
    subst hres
    ((first|refine rG Γ hm ?_|refine rD Γ hm (by kernel_rfl) ?_);(conv=>whnf);repeat((first|refine aF ?_|refine aT ?_);(first|refine rG Γ hm ?_|refine rD Γ hm (by kernel_rfl) ?_);conv=>whnf))
    refine G_nilsl 2 1 strSV rfl ?_
    ((first|refine rG Γ hm ?_|refine rD Γ hm (by kernel_rfl) ?_);(conv=>whnf);repeat((first|refine aF ?_|refine aT ?_);(first|refine rG Γ hm ?_|refine rD Γ hm (by kernel_rfl) ?_);conv=>whnf))
    exact done0 rfl (.cons .tmp (.cons .tmp .nil)) rfl rfl
  rw [if_neg (by have := of_decide_eq_false h; omega)] at hres
  ((first|refine rG Γ hm ?_|refine rD Γ hm (by kernel_rfl) ?_);(conv=>whnf);repeat((first|refine aF ?_|refine aT ?_);(first|refine rG Γ hm ?_|refine rD Γ hm (by kernel_rfl) ?_);conv=>whnf))
  refine G_adopt 4 1000 1 strSV rfl rfl ?_
  ((first|refine rG Γ hm ?_|refine rD Γ hm (by kernel_rfl) ?_);(conv=>whnf);repeat((first|refine aF ?_|refine aT ?_);(first|refine rG Γ hm ?_|refine rD Γ hm (by kernel_rfl) ?_);conv=>whnf))
  refine G_while (fun x : List ByteArray × Nat × Nat => rowsGo [] b = x.1 ++ rowsGo ((b.take x.2.2).drop x.2.1) (b.drop x.2.2) ∧ x.2.1 ≤ x.2.2 ∧ x.2.2 ≤ b.length ∧ x.1.length ≤ x.2.2) (fun x => [(0, .sl 1 byteSV b), (4, .osl 1000), (5, intSV x.2.1), (6, intSV x.2.2)]) (fun x => [(1000, .row 1 strSV x.1)]) (fun x => b.length - x.2.2) ([], 0, 0) [] ⟨rfl, by simp, by simp, by simp⟩
    ⟨⟨rfl, rfl, rfl, rfl, rfl, rfl, rfl, rfl, trivial⟩, ⟨.inl rfl, rfl, trivial⟩, rfl, rfl⟩ ?_
  rintro ⟨out, f, i⟩ ⟨hI, hfi, hib, hlen⟩
  dsimp only at hI hfi hib hlen ⊢
  ((first|refine rG Γ hm ?_|refine rD Γ hm (by kernel_rfl) ?_);(conv=>whnf);repeat((first|refine aF ?_|refine aT ?_);(first|refine rG Γ hm ?_|refine rD Γ hm (by kernel_rfl) ?_);conv=>whnf))
  refine ⟨fun h => ?_, fun h => ?_⟩
  · have hlt : i < b.length := by have := of_decide_eq_true h; omega
    have hi0 : ((i : Nat) : Int).toNat < b.length := by omega
    have hdr : b.drop i = b[i] :: b.drop (i + 1) := List.drop_eq_getElem_cons hlt
    have htk : (b.take (i + 1)).drop f = (b.take i).drop f ++ [b[i]] := by
      rw [List.take_succ_eq_append_getElem hlt, List.drop_append_of_le_length (by rw [List.length_take]; omega)]
    rw [hdr, rowsGo] at hI
    obtain ⟨c, hc⟩ : ∃ c, b[((i : Nat) : Int).toNat]'hi0 = c := ⟨_, rfl⟩
    have hc' : b[i] = c := hc
    rw [hc'] at hI htk
    have hcn := c.toNat_lt
    ((first|refine rG Γ hm ?_|refine rD Γ hm (by kernel_rfl) ?_);(conv=>whnf);repeat((first|refine aF ?_|refine aT ?_);(first|refine rG Γ hm ?_|refine rD Γ hm (by kernel_rfl) ?_);conv=>whnf))
    refine ⟨rfl, by omega, hi0, ?_⟩
    rw [hc]
    ((conv=>whnf);repeat((first|refine aF ?_|refine aT ?_);(first|refine rG Γ hm ?_|refine rD Γ hm (by kernel_rfl) ?_);conv=>whnf))
    refine ⟨fun h2 => ?_, fun h2 => ?_⟩
    · have h3 : c = 10 := UInt8.toNat_inj.1 (by have h8 : (c.toNat : Int) = 10 := by simpa using h2
                                                show c.toNat = 10; omega)
      rw [if_pos h3] at hI
      ((first|refine rG Γ hm ?_|refine rD Γ hm (by kernel_rfl) ?_);(conv=>whnf);repeat((first|refine aF ?_|refine aT ?_);(first|refine rG Γ hm ?_|refine rD Γ hm (by kernel_rfl) ?_);conv=>whnf))
      refine stepOp (good_slice_sl (lo := f) (hi := i) Γ.toTy rfl rfl rfl rfl (.inr ⟨_, _, rfl, rfl⟩) (.inr ⟨_, _, rfl, rfl⟩) hfi hib) rfl rfl ?_
      ((first|refine rG Γ hm ?_|refine rD Γ hm (by kernel_rfl) ?_);(conv=>whnf);repeat((first|refine aF ?_|refine aT ?_);(first|refine rG Γ hm ?_|refine rD Γ hm (by kernel_rfl) ?_);conv=>whnf))
      refine stepOp (good_stringT Γ.toTy (bs := (b.take i).drop f) rfl rfl rfl rfl rfl rfl rfl .sl) rfl rfl ?_
      ((first|refine rG Γ hm ?_|refine rD Γ hm (by kernel_rfl) ?_);(conv=>whnf);repeat((first|refine aF ?_|refine aT ?_);(first|refine rG Γ hm ?_|refine rD Γ hm (by kernel_rfl) ?_);conv=>whnf))
      refine stepOp (good_appendT Γ.toTy 28 rfl rfl rfl rfl rfl (.row rfl) (.lit (e := strSV) (l := [mkT ((b.take i).drop f)]) rfl rfl) (by simp) (by simp; omega) (by simp; omega)) rfl rfl ?_
      ((first|refine rG Γ hm ?_|refine rD Γ hm (by kernel_rfl) ?_);(conv=>whnf);repeat((first|refine aF ?_|refine aT ?_);(first|refine rG Γ hm ?_|refine rD Γ hm (by kernel_rfl) ?_);conv=>whnf))
      refine ⟨by unfold I64; omega, ?_⟩
      ((conv=>whnf);repeat((first|refine aF ?_|refine aT ?_);(first|refine rG Γ hm ?_|refine rD Γ hm (by kernel_rfl) ?_);conv=>whnf))
      refine ⟨by unfold I64; omega, ?_⟩
      ((conv=>whnf);repeat((first|refine aF ?_|refine aT ?_);(first|refine rG Γ hm ?_|refine rD Γ hm (by kernel_rfl) ?_);conv=>whnf))
      refine G_whileN (out ++ [mkT ((b.take i).drop f)], i + 1, i + 1) [(1000, 28)] ⟨?_, Nat.le_refl _, hlt, by simp; omega⟩ (by dsimp only; omega) ⟨⟨rfl, rfl, rfl, rfl, rfl, rfl, rfl, rfl, trivial⟩, ⟨.inl rfl, rfl, trivial⟩, rfl, rfl⟩
      dsimp only
      have e0 : (b.take (i + 1)).drop (i + 1) = [] := List.drop_eq_nil_of_le (by rw [List.length_take]; omega)
      rw [hI, e0, List.append_assoc]
      rfl
    · have h3 : c ≠ 10 := fun e => by subst e; simp at h2
      rw [if_neg h3] at hI
      ((first|refine rG Γ hm ?_|refine rD Γ hm (by kernel_rfl) ?_);(conv=>whnf);repeat((first|refine aF ?_|refine aT ?_);(first|refine rG Γ hm ?_|refine rD Γ hm (by kernel_rfl) ?_);conv=>whnf))
      refine ⟨by unfold I64; omega, ?_⟩
      ((conv=>whnf);repeat((first|refine aF ?_|refine aT ?_);(first|refine rG Γ hm ?_|refine rD Γ hm (by kernel_rfl) ?_);conv=>whnf))
      refine G_whileN (out, f, i + 1) [] ⟨by dsimp only; rw [hI, htk], by dsimp only; omega, hlt, by dsimp only; omega⟩ (by dsimp only; omega) ⟨⟨rfl, rfl, rfl, rfl, rfl, rfl, rfl, rfl, trivial⟩, ⟨.inl rfl, rfl, trivial⟩, rfl, rfl⟩
  · have hie : i = b.length := by have := of_decide_eq_false h; omega
    rw [hie, List.take_length, List.drop_length, rowsGo] at hI
    ((first|refine rG Γ hm ?_|refine rD Γ hm (by kernel_rfl) ?_);(conv=>whnf);repeat((first|refine aF ?_|refine aT ?_);(first|refine rG Γ hm ?_|refine rD Γ hm (by kernel_rfl) ?_);conv=>whnf))
    refine ⟨fun h2 => ?_, fun h2 => ?_⟩
    · have h3 : f < b.length := by have := of_decide_eq_true h2; omega
      rw [if_neg (by intro e; have := congrArg List.length e; rw [List.length_drop] at this; simp at this; omega)] at hI
      ((first|refine rG Γ hm ?_|refine rD Γ hm (by kernel_rfl) ?_);(conv=>whnf);repeat((first|refine aF ?_|refine aT ?_);(first|refine rG Γ hm ?_|refine rD Γ hm (by kernel_rfl) ?_);conv=>whnf))
      refine stepOp (good_slice_sl (lo := f) (hi := b.length) Γ.toTy rfl rfl rfl rfl (.inr ⟨_, _, rfl, rfl⟩) (.inl ⟨rfl, rfl⟩) (by omega) (Nat.le_refl _)) rfl rfl ?_
      rw [List.take_length]
      ((first|refine rG Γ hm ?_|refine rD Γ hm (by kernel_rfl) ?_);(conv=>whnf);repeat((first|refine aF ?_|refine aT ?_);(first|refine rG Γ hm ?_|refine rD Γ hm (by kernel_rfl) ?_);conv=>whnf))
      refine stepOp (good_stringT Γ.toTy (bs := b.drop f) rfl rfl rfl rfl rfl rfl rfl .sl) rfl rfl ?_
      ((first|refine rG Γ hm ?_|refine rD Γ hm (by kernel_rfl) ?_);(conv=>whnf);repeat((first|refine aF ?_|refine aT ?_);(first|refine rG Γ hm ?_|refine rD Γ hm (by kernel_rfl) ?_);conv=>whnf))
      refine stepOp (good_appendT Γ.toTy 41 rfl rfl rfl rfl rfl (.row rfl) (.lit (e := strSV) (l := [mkT (b.drop f)]) rfl rfl) (by simp) (by simp; omega) (by simp; omega)) rfl rfl ?_
      rw [← hI]
      rw [hI] at hres
      ((first|refine rG Γ hm ?_|refine rD Γ hm (by kernel_rfl) ?_);(conv=>whnf);repeat((first|refine aF ?_|refine aT ?_);(first|refine rG Γ hm ?_|refine rD Γ hm (by kernel_rfl) ?_);conv=>whnf))
      refine ⟨fun h => ?_, fun h => ?_⟩
      · rw [if_pos (by rw [← hI]; have := of_decide_eq_true h; omega)] at hres
        subst hres
        ((first|refine rG Γ hm ?_|refine rD Γ hm (by kernel_rfl) ?_);(conv=>whnf);repeat((first|refine aF ?_|refine aT ?_);(first|refine rG Γ hm ?_|refine rD Γ hm (by kernel_rfl) ?_);conv=>whnf))
        refine G_nilsl 2 1 strSV rfl ?_
        ((first|refine rG Γ hm ?_|refine rD Γ hm (by kernel_rfl) ?_);(conv=>whnf);repeat((first|refine aF ?_|refine aT ?_);(first|refine rG Γ hm ?_|refine rD Γ hm (by kernel_rfl) ?_);conv=>whnf))
        exact done0 rfl (.cons .tmp (.cons .tmp .nil)) rfl rfl
      · rw [if_neg (by rw [← hI]; have := of_decide_eq_false h; omega), ← hI] at hres
        subst hres
        refine G_data 41 rfl ?_
        ((first|refine rG Γ hm ?_|refine rD Γ hm (by kernel_rfl) ?_);(conv=>whnf);repeat((first|refine aF ?_|refine aT ?_);(first|refine rG Γ hm ?_|refine rD Γ hm (by kernel_rfl) ?_);conv=>whnf))
        exact done0 rfl (.cons .tmp (.cons .tmp .nil)) rfl rfl
    · have h3 : ¬ f < b.length := by have := of_decide_eq_false h2; omega
      rw [if_pos (List.drop_eq_nil_of_le (by omega)), List.append_nil] at hI
      rw [hI] at hres
      ((first|refine rG Γ hm ?_|refine rD Γ hm (by kernel_rfl) ?_);(conv=>whnf);repeat((first|refine aF ?_|refine aT ?_);(first|refine rG Γ hm ?_|refine rD Γ hm (by kernel_rfl) ?_);conv=>whnf))
      refine ⟨fun h => ?_, fun h => ?_⟩
      · rw [if_pos (by have := of_decide_eq_true h; omega)] at hres
        subst hres
        ((first|refine rG Γ hm ?_|refine rD Γ hm (by kernel_rfl) ?_);(conv=>whnf);repeat((first|refine aF ?_|refine aT ?_);(first|refine rG Γ hm ?_|refine rD Γ hm (by kernel_rfl) ?_);conv=>whnf))
        refine G_nilsl 2 1 strSV rfl ?_
        ((first|refine rG Γ hm ?_|refine rD Γ hm (by kernel_rfl) ?_);(conv=>whnf);repeat((first|refine aF ?_|refine aT ?_);(first|refine rG Γ hm ?_|refine rD Γ hm (by kernel_rfl) ?_);conv=>whnf))
        exact done0 rfl (.cons .tmp (.cons .tmp .nil)) rfl rfl
      · rw [if_neg (by have := of_decide_eq_false h; omega)] at hres
        subst hres
        refine G_data 1000 rfl ?_
        ((first|refine rG Γ hm ?_|refine rD Γ hm (by kernel_rfl) ?_);(conv=>whnf);repeat((first|refine aF ?_|refine aT ?_);(first|refine rG Γ hm ?_|refine rD Γ hm (by kernel_rfl) ?_);conv=>whnf))
        exact done0 rfl (.cons .tmp (.cons .tmp .nil)) rfl rfl

end Go.Sy.YtjomehmhkcnadaaGreatDoor

namespace Go.Sy.YtjomehmhkcnadaaGreatDoor
open Go.Proofs
-- SIMP: placeB

attribute [local irreducible] Go.Sy.G Go.Sy.DR
set_option maxRecDepth 20000
set_option maxHeartbeats 4000000

def restB (n : Net) : Bool := allB (fun _ => staticB n) n.statics && allB (fun _ => floodB n) n.floods && allB (fun _ => vrfB n) n.vrfs && allB (irbB n) n.irbs

theorem rest1 {n : Net} (h : allB (fun _ => staticB n) n.statics = false) : restB n = false := by simp [restB, h]
theorem rest2 {n : Net} (h : allB (fun _ => floodB n) n.floods = false) : restB n = false := by simp [restB, h]
theorem rest3 {n : Net} (h : allB (fun _ => vrfB n) n.vrfs = false) : restB n = false := by simp [restB, h]
theorem rest4 {n : Net} (h : allB (irbB n) n.irbs = false) : restB n = false := by simp [restB, h]

theorem ref15RestS (n : Net) (hn : n.Fin) : Sy.Spec Tryz.prog 61 [netSV n] [] (boolSV (restB n)) [] := contract Γ hm 100 F61 Tryz.ntmps61 rfl fun F hF => by
  have hl1 := hn.statics
  have hl2 := hn.floods
  have hl3 := hn.vrfs
  have hl4 := hn.irbs
  unfold Short at hl1 hl2 hl3 hl4
  ((conv=>whnf);repeat((first|refine aF ?_|refine aT ?_);(first|refine rG Γ hm ?_|refine rD Γ hm (by kernel_rfl) ?_);conv=>whnf))
  refine G_box 1 8 (netSV n) rfl rfl rfl ?_
  refine G_countP n.statics.length (fun j => Upto (fun _ => staticB n) n.statics j) (fun j => [(1, .ref 8 (netSV n) 0), (3, intSV j)]) (fun _ => []) [] (upto_zero _ _) ⟨⟨rfl, rfl, rfl, rfl, trivial⟩, trivial, rfl, rfl⟩ ?_
  intro j hj hI
  ((first|refine rG Γ hm ?_|refine rD Γ hm (by kernel_rfl) ?_);(conv=>whnf);repeat((first|refine aF ?_|refine aT ?_);(first|refine rG Γ hm ?_|refine rD Γ hm (by kernel_rfl) ?_);conv=>whnf))
  refine ⟨fun h => ?_, fun h => ?_⟩
  · have hjl : j < n.statics.length := by simpa using h
    generalize hp : n.statics[j] = s
    have hp' : n.statics[(j : Int).toNat]'(by omega) = s := hp
    ((first|refine rG Γ hm ?_|refine rD Γ hm (by kernel_rfl) ?_);(conv=>whnf);repeat((first|refine aF ?_|refine aT ?_);(first|refine rG Γ hm ?_|refine rD Γ hm (by kernel_rfl) ?_);conv=>whnf))
    refine ⟨rfl, by omega, by omega, ?_⟩
    rw [hp']
    ((conv=>whnf);repeat((first|refine aF ?_|refine aT ?_);(first|refine rG Γ hm ?_|refine rD Γ hm (by kernel_rfl) ?_);conv=>whnf))
    (repeat' (first | (refine ⟨fun h => ?_, fun h => ?_⟩ <;> (repeat (first | (simp only [placeB] at h) | (simp only [decide_eq_true_eq] at h) | (simp only [decide_eq_false_iff_not] at h) | (simp only [beq_iff_eq] at h) | (simp only [beq_eq_false_iff_ne] at h) | (simp only [bne_iff_ne] at h) | (simp only [bne_eq_false_iff_eq] at h) | (simp only [Bool.and_eq_true] at h) | (simp only [Bool.or_eq_true] at h) | (simp only [Bool.and_eq_false_iff] at h) | (simp only [Bool.or_eq_false_iff] at h) | (simp only [Bool.not_eq_true'] at h) | (simp only [Bool.not_eq_false'] at h) | (simp only [Bool.not_eq_eq_eq_not] at h) | (simp only [Bool.not_true] at h) | (simp only [Bool.not_false] at h))) <;> ((first|refine rG Γ hm ?_|refine rD Γ hm (by kernel_rfl) ?_);(conv=>whnf);repeat((first|refine aF ?_|refine aT ?_);(first|refine rG Γ hm ?_|refine rD Γ hm (by kernel_rfl) ?_);conv=>whnf))) | (refine done0 rfl (.cons .tmp .nil) ?_ rfl) | (refine ⟨(by kernel_rfl), ?_⟩; ((conv=>whnf);repeat((first|refine aF ?_|refine aT ?_);(first|refine rG Γ hm ?_|refine rD Γ hm (by kernel_rfl) ?_);conv=>whnf))) | (refine ⟨by (first | (unfold I64; omega) | omega | (simp only [Int.toNat_natCast]; omega) | done), by (first | (unfold I64; omega) | omega | (simp only [Int.toNat_natCast]; omega) | done), ?_⟩; ((conv=>whnf);repeat((first|refine aF ?_|refine aT ?_);(first|refine rG Γ hm ?_|refine rD Γ hm (by kernel_rfl) ?_);conv=>whnf))) | (refine ⟨by (first | (unfold I64; omega) | omega | (simp only [Int.toNat_natCast]; omega) | done), ?_⟩; ((conv=>whnf);repeat((first|refine aF ?_|refine aT ?_);(first|refine rG Γ hm ?_|refine rD Γ hm (by kernel_rfl) ?_);conv=>whnf))) | (refine call0 (ref15PlaceS s.domain n.domains.length) F31 rfl rfl rfl rfl rfl ?_; ((first|refine rG Γ hm ?_|refine rD Γ hm (by kernel_rfl) ?_);(conv=>whnf);repeat((first|refine aF ?_|refine aT ?_);(first|refine rG Γ hm ?_|refine rD Γ hm (by kernel_rfl) ?_);conv=>whnf))) | (refine callD0 (ref15PlaceS s.domain n.domains.length) F31 rfl rfl rfl (by kernel_rfl) rfl ?_; ((first|refine rG Γ hm ?_|refine rD Γ hm (by kernel_rfl) ?_);(conv=>whnf);repeat((first|refine aF ?_|refine aT ?_);(first|refine rG Γ hm ?_|refine rD Γ hm (by kernel_rfl) ?_);conv=>whnf))) | (refine call0 (ref15PlaceS s.port n.ports.length) F31 rfl rfl rfl rfl rfl ?_; ((first|refine rG Γ hm ?_|refine rD Γ hm (by kernel_rfl) ?_);(conv=>whnf);repeat((first|refine aF ?_|refine aT ?_);(first|refine rG Γ hm ?_|refine rD Γ hm (by kernel_rfl) ?_);conv=>whnf))) | (refine callD0 (ref15PlaceS s.port n.ports.length) F31 rfl rfl rfl (by kernel_rfl) rfl ?_; ((first|refine rG Γ hm ?_|refine rD Γ hm (by kernel_rfl) ?_);(conv=>whnf);repeat((first|refine aF ?_|refine aT ?_);(first|refine rG Γ hm ?_|refine rD Γ hm (by kernel_rfl) ?_);conv=>whnf))) | (refine call0 (ref15MemberS (n.ports[s.port.toNat]'(by omega)) (n.domains[s.domain.toNat]'(by omega)).vlan (hn.tagged _ (List.getElem_mem _))) F95 rfl rfl rfl rfl rfl ?_; ((first|refine rG Γ hm ?_|refine rD Γ hm (by kernel_rfl) ?_);(conv=>whnf);repeat((first|refine aF ?_|refine aT ?_);(first|refine rG Γ hm ?_|refine rD Γ hm (by kernel_rfl) ?_);conv=>whnf))) | (refine callD0 (ref15MemberS (n.ports[s.port.toNat]'(by omega)) (n.domains[s.domain.toNat]'(by omega)).vlan (hn.tagged _ (List.getElem_mem _))) F95 rfl rfl rfl (by kernel_rfl) rfl ?_; ((first|refine rG Γ hm ?_|refine rD Γ hm (by kernel_rfl) ?_);(conv=>whnf);repeat((first|refine aF ?_|refine aT ?_);(first|refine rG Γ hm ?_|refine rD Γ hm (by kernel_rfl) ?_);conv=>whnf))) | (refine G_nextP [] hI (by omega) ?_ ⟨⟨rfl, rfl, rfl, rfl, trivial⟩, trivial, rfl, rfl⟩)))
    all_goals first
      | exact upto_next hI hjl (by rw [hp]; clear hI hF hp'; grind [staticB, placeB, nth_eq])
      | (refine congrArg boolSV ?_; exact rest1 (allB_false hjl (by rw [hp]; clear hI hF hp'; grind [staticB, placeB, nth_eq])))
  have a1 : allB (fun _ => staticB n) n.statics = true := upto_all hI (by simpa using h)
  clear hI
  ((first|refine rG Γ hm ?_|refine rD Γ hm (by kernel_rfl) ?_);(conv=>whnf);repeat((first|refine aF ?_|refine aT ?_);(first|refine rG Γ hm ?_|refine rD Γ hm (by kernel_rfl) ?_);conv=>whnf))
  refine G_countP n.floods.length (fun j => Upto (fun _ => floodB n) n.floods j) (fun j => [(1, .ref 8 (netSV n) 0), (6, intSV j)]) (fun _ => []) [] (upto_zero _ _) ⟨⟨rfl, rfl, rfl, rfl, trivial⟩, trivial, rfl, rfl⟩ ?_
  clear hj h
  intro j hj hI
  ((first|refine rG Γ hm ?_|refine rD Γ hm (by kernel_rfl) ?_);(conv=>whnf);repeat((first|refine aF ?_|refine aT ?_);(first|refine rG Γ hm ?_|refine rD Γ hm (by kernel_rfl) ?_);conv=>whnf))
  refine ⟨fun h => ?_, fun h => ?_⟩
  · have hjl : j < n.floods.length := by simpa using h
    ((first|refine rG Γ hm ?_|refine rD Γ hm (by kernel_rfl) ?_);(conv=>whnf);repeat((first|refine aF ?_|refine aT ?_);(first|refine rG Γ hm ?_|refine rD Γ hm (by kernel_rfl) ?_);conv=>whnf))
    (repeat' (first | (refine ⟨fun h => ?_, fun h => ?_⟩ <;> (repeat (first | (simp only [placeB] at h) | (simp only [decide_eq_true_eq] at h) | (simp only [decide_eq_false_iff_not] at h) | (simp only [beq_iff_eq] at h) | (simp only [beq_eq_false_iff_ne] at h) | (simp only [bne_iff_ne] at h) | (simp only [bne_eq_false_iff_eq] at h) | (simp only [Bool.and_eq_true] at h) | (simp only [Bool.or_eq_true] at h) | (simp only [Bool.and_eq_false_iff] at h) | (simp only [Bool.or_eq_false_iff] at h) | (simp only [Bool.not_eq_true'] at h) | (simp only [Bool.not_eq_false'] at h) | (simp only [Bool.not_eq_eq_eq_not] at h) | (simp only [Bool.not_true] at h) | (simp only [Bool.not_false] at h))) <;> ((first|refine rG Γ hm ?_|refine rD Γ hm (by kernel_rfl) ?_);(conv=>whnf);repeat((first|refine aF ?_|refine aT ?_);(first|refine rG Γ hm ?_|refine rD Γ hm (by kernel_rfl) ?_);conv=>whnf))) | (refine done0 rfl (.cons .tmp .nil) ?_ rfl) | (refine ⟨(by kernel_rfl), ?_⟩; ((conv=>whnf);repeat((first|refine aF ?_|refine aT ?_);(first|refine rG Γ hm ?_|refine rD Γ hm (by kernel_rfl) ?_);conv=>whnf))) | (refine ⟨by (first | (unfold I64; omega) | omega | (simp only [Int.toNat_natCast]; omega) | done), by (first | (unfold I64; omega) | omega | (simp only [Int.toNat_natCast]; omega) | done), ?_⟩; ((conv=>whnf);repeat((first|refine aF ?_|refine aT ?_);(first|refine rG Γ hm ?_|refine rD Γ hm (by kernel_rfl) ?_);conv=>whnf))) | (refine ⟨by (first | (unfold I64; omega) | omega | (simp only [Int.toNat_natCast]; omega) | done), ?_⟩; ((conv=>whnf);repeat((first|refine aF ?_|refine aT ?_);(first|refine rG Γ hm ?_|refine rD Γ hm (by kernel_rfl) ?_);conv=>whnf))) | (refine call0 (ref15PlaceS (n.floods[(j : Int).toNat]'(by omega)).dev n.devices.length) F31 rfl rfl rfl rfl rfl ?_; ((first|refine rG Γ hm ?_|refine rD Γ hm (by kernel_rfl) ?_);(conv=>whnf);repeat((first|refine aF ?_|refine aT ?_);(first|refine rG Γ hm ?_|refine rD Γ hm (by kernel_rfl) ?_);conv=>whnf))) | (refine callD0 (ref15PlaceS (n.floods[(j : Int).toNat]'(by omega)).dev n.devices.length) F31 rfl rfl rfl (by kernel_rfl) rfl ?_; ((first|refine rG Γ hm ?_|refine rD Γ hm (by kernel_rfl) ?_);(conv=>whnf);repeat((first|refine aF ?_|refine aT ?_);(first|refine rG Γ hm ?_|refine rD Γ hm (by kernel_rfl) ?_);conv=>whnf))) | (refine G_nextP [] hI (by omega) ?_ ⟨⟨rfl, rfl, rfl, rfl, trivial⟩, trivial, rfl, rfl⟩)))
    all_goals (simp only [Int.toNat_natCast] at *)
    all_goals first
      | exact upto_next hI hjl (by clear hI hF; grind [floodB, placeB])
      | (refine congrArg boolSV ?_; exact rest2 (allB_false hjl (by clear hI hF; grind [floodB, placeB])))
  have a2 : allB (fun _ => floodB n) n.floods = true := upto_all hI (by simpa using h)
  clear hI
  ((first|refine rG Γ hm ?_|refine rD Γ hm (by kernel_rfl) ?_);(conv=>whnf);repeat((first|refine aF ?_|refine aT ?_);(first|refine rG Γ hm ?_|refine rD Γ hm (by kernel_rfl) ?_);conv=>whnf))
  refine G_countP n.vrfs.length (fun j => Upto (fun _ => vrfB n) n.vrfs j) (fun j => [(1, .ref 8 (netSV n) 0), (7, intSV j)]) (fun _ => []) [] (upto_zero _ _) ⟨⟨rfl, rfl, rfl, rfl, trivial⟩, trivial, rfl, rfl⟩ ?_
  clear hj h
  intro j hj hI
  ((first|refine rG Γ hm ?_|refine rD Γ hm (by kernel_rfl) ?_);(conv=>whnf);repeat((first|refine aF ?_|refine aT ?_);(first|refine rG Γ hm ?_|refine rD Γ hm (by kernel_rfl) ?_);conv=>whnf))
  refine ⟨fun h => ?_, fun h => ?_⟩
  · have hjl : j < n.vrfs.length := by simpa using h
    have h1 := hn.imports _ (List.getElem_mem hjl)
    have h2 := hn.exports _ (List.getElem_mem hjl)
    generalize hp : n.vrfs[j] = v at h1 h2
    have hp' : n.vrfs[(j : Int).toNat]'(by omega) = v := hp
    ((first|refine rG Γ hm ?_|refine rD Γ hm (by kernel_rfl) ?_);(conv=>whnf);repeat((first|refine aF ?_|refine aT ?_);(first|refine rG Γ hm ?_|refine rD Γ hm (by kernel_rfl) ?_);conv=>whnf))
    refine ⟨rfl, by omega, by omega, ?_⟩
    rw [hp']
    ((conv=>whnf);repeat((first|refine aF ?_|refine aT ?_);(first|refine rG Γ hm ?_|refine rD Γ hm (by kernel_rfl) ?_);conv=>whnf))
    (repeat' (first | (refine ⟨fun h => ?_, fun h => ?_⟩ <;> (repeat (first | (simp only [placeB] at h) | (simp only [decide_eq_true_eq] at h) | (simp only [decide_eq_false_iff_not] at h) | (simp only [beq_iff_eq] at h) | (simp only [beq_eq_false_iff_ne] at h) | (simp only [bne_iff_ne] at h) | (simp only [bne_eq_false_iff_eq] at h) | (simp only [Bool.and_eq_true] at h) | (simp only [Bool.or_eq_true] at h) | (simp only [Bool.and_eq_false_iff] at h) | (simp only [Bool.or_eq_false_iff] at h) | (simp only [Bool.not_eq_true'] at h) | (simp only [Bool.not_eq_false'] at h) | (simp only [Bool.not_eq_eq_eq_not] at h) | (simp only [Bool.not_true] at h) | (simp only [Bool.not_false] at h))) <;> ((first|refine rG Γ hm ?_|refine rD Γ hm (by kernel_rfl) ?_);(conv=>whnf);repeat((first|refine aF ?_|refine aT ?_);(first|refine rG Γ hm ?_|refine rD Γ hm (by kernel_rfl) ?_);conv=>whnf))) | (refine done0 rfl (.cons .tmp .nil) ?_ rfl) | (refine ⟨(by kernel_rfl), ?_⟩; ((conv=>whnf);repeat((first|refine aF ?_|refine aT ?_);(first|refine rG Γ hm ?_|refine rD Γ hm (by kernel_rfl) ?_);conv=>whnf))) | (refine ⟨by (first | (unfold I64; omega) | omega | (simp only [Int.toNat_natCast]; omega) | done), by (first | (unfold I64; omega) | omega | (simp only [Int.toNat_natCast]; omega) | done), ?_⟩; ((conv=>whnf);repeat((first|refine aF ?_|refine aT ?_);(first|refine rG Γ hm ?_|refine rD Γ hm (by kernel_rfl) ?_);conv=>whnf))) | (refine ⟨by (first | (unfold I64; omega) | omega | (simp only [Int.toNat_natCast]; omega) | done), ?_⟩; ((conv=>whnf);repeat((first|refine aF ?_|refine aT ?_);(first|refine rG Γ hm ?_|refine rD Γ hm (by kernel_rfl) ?_);conv=>whnf))) | (refine call0 (ref15PlaceS v.dev n.devices.length) F31 rfl rfl rfl rfl rfl ?_; ((first|refine rG Γ hm ?_|refine rD Γ hm (by kernel_rfl) ?_);(conv=>whnf);repeat((first|refine aF ?_|refine aT ?_);(first|refine rG Γ hm ?_|refine rD Γ hm (by kernel_rfl) ?_);conv=>whnf))) | (refine callD0 (ref15PlaceS v.dev n.devices.length) F31 rfl rfl rfl (by kernel_rfl) rfl ?_; ((first|refine rG Γ hm ?_|refine rD Γ hm (by kernel_rfl) ?_);(conv=>whnf);repeat((first|refine aF ?_|refine aT ?_);(first|refine rG Γ hm ?_|refine rD Γ hm (by kernel_rfl) ?_);conv=>whnf))) | (refine call0 (ref15RisingS v.imports 65535 h1) F94 rfl rfl rfl rfl rfl ?_; ((first|refine rG Γ hm ?_|refine rD Γ hm (by kernel_rfl) ?_);(conv=>whnf);repeat((first|refine aF ?_|refine aT ?_);(first|refine rG Γ hm ?_|refine rD Γ hm (by kernel_rfl) ?_);conv=>whnf))) | (refine callD0 (ref15RisingS v.imports 65535 h1) F94 rfl rfl rfl (by kernel_rfl) rfl ?_; ((first|refine rG Γ hm ?_|refine rD Γ hm (by kernel_rfl) ?_);(conv=>whnf);repeat((first|refine aF ?_|refine aT ?_);(first|refine rG Γ hm ?_|refine rD Γ hm (by kernel_rfl) ?_);conv=>whnf))) | (refine call0 (ref15RisingS v.exports 65535 h2) F94 rfl rfl rfl rfl rfl ?_; ((first|refine rG Γ hm ?_|refine rD Γ hm (by kernel_rfl) ?_);(conv=>whnf);repeat((first|refine aF ?_|refine aT ?_);(first|refine rG Γ hm ?_|refine rD Γ hm (by kernel_rfl) ?_);conv=>whnf))) | (refine callD0 (ref15RisingS v.exports 65535 h2) F94 rfl rfl rfl (by kernel_rfl) rfl ?_; ((first|refine rG Γ hm ?_|refine rD Γ hm (by kernel_rfl) ?_);(conv=>whnf);repeat((first|refine aF ?_|refine aT ?_);(first|refine rG Γ hm ?_|refine rD Γ hm (by kernel_rfl) ?_);conv=>whnf))) | (refine G_nextP [] hI (by omega) ?_ ⟨⟨rfl, rfl, rfl, rfl, trivial⟩, trivial, rfl, rfl⟩)))
    all_goals first
      | exact upto_next hI hjl (by rw [hp]; clear hI hF hp'; grind [vrfB, riseB, placeB])
      | (refine congrArg boolSV ?_; exact rest3 (allB_false hjl (by rw [hp]; clear hI hF hp'; grind [vrfB, riseB, placeB])))
  have a3 : allB (fun _ => vrfB n) n.vrfs = true := upto_all hI (by simpa using h)
  clear hI
  ((first|refine rG Γ hm ?_|refine rD Γ hm (by kernel_rfl) ?_);(conv=>whnf);repeat((first|refine aF ?_|refine aT ?_);(first|refine rG Γ hm ?_|refine rD Γ hm (by kernel_rfl) ?_);conv=>whnf))
  refine G_countP n.irbs.length (fun j => Upto (irbB n) n.irbs j) (fun j => [(1, .ref 8 (netSV n) 0), (9, intSV j)]) (fun _ => []) [] (upto_zero _ _) ⟨⟨rfl, rfl, rfl, rfl, trivial⟩, trivial, rfl, rfl⟩ ?_
  clear hj h
  intro j hj hI
  ((first|refine rG Γ hm ?_|refine rD Γ hm (by kernel_rfl) ?_);(conv=>whnf);repeat((first|refine aF ?_|refine aT ?_);(first|refine rG Γ hm ?_|refine rD Γ hm (by kernel_rfl) ?_);conv=>whnf))
  refine ⟨fun h => ?_, fun h => ?_⟩
  · have hjl : j < n.irbs.length := by simpa using h
    generalize hp : n.irbs[j] = x
    have hp' : n.irbs[(j : Int).toNat]'(by omega) = x := hp
    ((first|refine rG Γ hm ?_|refine rD Γ hm (by kernel_rfl) ?_);(conv=>whnf);repeat((first|refine aF ?_|refine aT ?_);(first|refine rG Γ hm ?_|refine rD Γ hm (by kernel_rfl) ?_);conv=>whnf))
    refine ⟨rfl, by omega, by omega, ?_⟩
    rw [hp']
    ((conv=>whnf);repeat((first|refine aF ?_|refine aT ?_);(first|refine rG Γ hm ?_|refine rD Γ hm (by kernel_rfl) ?_);conv=>whnf))
    (repeat' (first | (refine ⟨fun h => ?_, fun h => ?_⟩ <;> (repeat (first | (simp only [placeB] at h) | (simp only [decide_eq_true_eq] at h) | (simp only [decide_eq_false_iff_not] at h) | (simp only [beq_iff_eq] at h) | (simp only [beq_eq_false_iff_ne] at h) | (simp only [bne_iff_ne] at h) | (simp only [bne_eq_false_iff_eq] at h) | (simp only [Bool.and_eq_true] at h) | (simp only [Bool.or_eq_true] at h) | (simp only [Bool.and_eq_false_iff] at h) | (simp only [Bool.or_eq_false_iff] at h) | (simp only [Bool.not_eq_true'] at h) | (simp only [Bool.not_eq_false'] at h) | (simp only [Bool.not_eq_eq_eq_not] at h) | (simp only [Bool.not_true] at h) | (simp only [Bool.not_false] at h))) <;> ((first|refine rG Γ hm ?_|refine rD Γ hm (by kernel_rfl) ?_);(conv=>whnf);repeat((first|refine aF ?_|refine aT ?_);(first|refine rG Γ hm ?_|refine rD Γ hm (by kernel_rfl) ?_);conv=>whnf))) | (refine done0 rfl (.cons .tmp .nil) ?_ rfl) | (refine ⟨(by kernel_rfl), ?_⟩; ((conv=>whnf);repeat((first|refine aF ?_|refine aT ?_);(first|refine rG Γ hm ?_|refine rD Γ hm (by kernel_rfl) ?_);conv=>whnf))) | (refine ⟨by (first | (unfold I64; omega) | omega | (simp only [Int.toNat_natCast]; omega) | done), by (first | (unfold I64; omega) | omega | (simp only [Int.toNat_natCast]; omega) | done), ?_⟩; ((conv=>whnf);repeat((first|refine aF ?_|refine aT ?_);(first|refine rG Γ hm ?_|refine rD Γ hm (by kernel_rfl) ?_);conv=>whnf))) | (refine ⟨by (first | (unfold I64; omega) | omega | (simp only [Int.toNat_natCast]; omega) | done), ?_⟩; ((conv=>whnf);repeat((first|refine aF ?_|refine aT ?_);(first|refine rG Γ hm ?_|refine rD Γ hm (by kernel_rfl) ?_);conv=>whnf))) | (refine call0 (ref15PlaceS x.domain n.domains.length) F31 rfl rfl rfl rfl rfl ?_; ((first|refine rG Γ hm ?_|refine rD Γ hm (by kernel_rfl) ?_);(conv=>whnf);repeat((first|refine aF ?_|refine aT ?_);(first|refine rG Γ hm ?_|refine rD Γ hm (by kernel_rfl) ?_);conv=>whnf))) | (refine callD0 (ref15PlaceS x.domain n.domains.length) F31 rfl rfl rfl (by kernel_rfl) rfl ?_; ((first|refine rG Γ hm ?_|refine rD Γ hm (by kernel_rfl) ?_);(conv=>whnf);repeat((first|refine aF ?_|refine aT ?_);(first|refine rG Γ hm ?_|refine rD Γ hm (by kernel_rfl) ?_);conv=>whnf))) | (refine call0 (ref15PlaceS x.vrf n.vrfs.length) F31 rfl rfl rfl rfl rfl ?_; ((first|refine rG Γ hm ?_|refine rD Γ hm (by kernel_rfl) ?_);(conv=>whnf);repeat((first|refine aF ?_|refine aT ?_);(first|refine rG Γ hm ?_|refine rD Γ hm (by kernel_rfl) ?_);conv=>whnf))) | (refine callD0 (ref15PlaceS x.vrf n.vrfs.length) F31 rfl rfl rfl (by kernel_rfl) rfl ?_; ((first|refine rG Γ hm ?_|refine rD Γ hm (by kernel_rfl) ?_);(conv=>whnf);repeat((first|refine aF ?_|refine aT ?_);(first|refine rG Γ hm ?_|refine rD Γ hm (by kernel_rfl) ?_);conv=>whnf))) | (refine G_nextP [] hI (by omega) ?_ ⟨⟨rfl, rfl, rfl, rfl, trivial⟩, trivial, rfl, rfl⟩)))
    all_goals first
      | exact upto_next hI hjl (by rw [hp]; clear hI hF hp'; grind [irbB, placeB, nth_eq])
      | (refine congrArg boolSV ?_; exact rest4 (allB_false hjl (by rw [hp]; clear hI hF hp'; grind [irbB, placeB, nth_eq])))
  have a4 : allB (irbB n) n.irbs = true := upto_all hI (by simpa using h)
  ((first|refine rG Γ hm ?_|refine rD Γ hm (by kernel_rfl) ?_);(conv=>whnf);repeat((first|refine aF ?_|refine aT ?_);(first|refine rG Γ hm ?_|refine rD Γ hm (by kernel_rfl) ?_);conv=>whnf))
  exact done0 rfl (.cons .tmp .nil) (congrArg boolSV (by simp [restB, a1, a2, a3, a4])) rfl

theorem ref15RightS (n : Net) (hn : n.Fin) : Sy.Spec Tryz.prog 20 [netSV n] [] (boolSV (netRightB n)) [] := contract Γ hm 100 F20 Tryz.ntmps20 rfl fun F hF => by
  ((conv=>whnf);repeat((first|refine aF ?_|refine aT ?_);(first|refine rG Γ hm ?_|refine rD Γ hm (by kernel_rfl) ?_);conv=>whnf))
  (repeat' (first | (refine ⟨fun h => ?_, fun h => ?_⟩ <;> (repeat (first | (simp only [placeB] at h) | (simp only [decide_eq_true_eq] at h) | (simp only [decide_eq_false_iff_not] at h) | (simp only [beq_iff_eq] at h) | (simp only [beq_eq_false_iff_ne] at h) | (simp only [bne_iff_ne] at h) | (simp only [bne_eq_false_iff_eq] at h) | (simp only [Bool.and_eq_true] at h) | (simp only [Bool.or_eq_true] at h) | (simp only [Bool.and_eq_false_iff] at h) | (simp only [Bool.or_eq_false_iff] at h) | (simp only [Bool.not_eq_true'] at h) | (simp only [Bool.not_eq_false'] at h) | (simp only [Bool.not_eq_eq_eq_not] at h) | (simp only [Bool.not_true] at h) | (simp only [Bool.not_false] at h))) <;> ((first|refine rG Γ hm ?_|refine rD Γ hm (by kernel_rfl) ?_);(conv=>whnf);repeat((first|refine aF ?_|refine aT ?_);(first|refine rG Γ hm ?_|refine rD Γ hm (by kernel_rfl) ?_);conv=>whnf))) | (refine done0 rfl (.cons .tmp .nil) ?_ rfl) | (refine ⟨(by kernel_rfl), ?_⟩; ((conv=>whnf);repeat((first|refine aF ?_|refine aT ?_);(first|refine rG Γ hm ?_|refine rD Γ hm (by kernel_rfl) ?_);conv=>whnf))) | (refine ⟨by (first | (unfold I64; omega) | omega | (simp only [Int.toNat_natCast]; omega) | done), by (first | (unfold I64; omega) | omega | (simp only [Int.toNat_natCast]; omega) | done), ?_⟩; ((conv=>whnf);repeat((first|refine aF ?_|refine aT ?_);(first|refine rG Γ hm ?_|refine rD Γ hm (by kernel_rfl) ?_);conv=>whnf))) | (refine ⟨by (first | (unfold I64; omega) | omega | (simp only [Int.toNat_natCast]; omega) | done), ?_⟩; ((conv=>whnf);repeat((first|refine aF ?_|refine aT ?_);(first|refine rG Γ hm ?_|refine rD Γ hm (by kernel_rfl) ?_);conv=>whnf))) | (refine call0 (ref15DomainsS n hn) F58 rfl rfl rfl rfl rfl ?_; ((first|refine rG Γ hm ?_|refine rD Γ hm (by kernel_rfl) ?_);(conv=>whnf);repeat((first|refine aF ?_|refine aT ?_);(first|refine rG Γ hm ?_|refine rD Γ hm (by kernel_rfl) ?_);conv=>whnf))) | (refine callD0 (ref15DomainsS n hn) F58 rfl rfl rfl (by kernel_rfl) rfl ?_; ((first|refine rG Γ hm ?_|refine rD Γ hm (by kernel_rfl) ?_);(conv=>whnf);repeat((first|refine aF ?_|refine aT ?_);(first|refine rG Γ hm ?_|refine rD Γ hm (by kernel_rfl) ?_);conv=>whnf))) | (refine call0 (ref15PortsS n hn) F59 rfl rfl rfl rfl rfl ?_; ((first|refine rG Γ hm ?_|refine rD Γ hm (by kernel_rfl) ?_);(conv=>whnf);repeat((first|refine aF ?_|refine aT ?_);(first|refine rG Γ hm ?_|refine rD Γ hm (by kernel_rfl) ?_);conv=>whnf))) | (refine callD0 (ref15PortsS n hn) F59 rfl rfl rfl (by kernel_rfl) rfl ?_; ((first|refine rG Γ hm ?_|refine rD Γ hm (by kernel_rfl) ?_);(conv=>whnf);repeat((first|refine aF ?_|refine aT ?_);(first|refine rG Γ hm ?_|refine rD Γ hm (by kernel_rfl) ?_);conv=>whnf))) | (refine call0 (ref15LinksS n hn) F60 rfl rfl rfl rfl rfl ?_; ((first|refine rG Γ hm ?_|refine rD Γ hm (by kernel_rfl) ?_);(conv=>whnf);repeat((first|refine aF ?_|refine aT ?_);(first|refine rG Γ hm ?_|refine rD Γ hm (by kernel_rfl) ?_);conv=>whnf))) | (refine callD0 (ref15LinksS n hn) F60 rfl rfl rfl (by kernel_rfl) rfl ?_; ((first|refine rG Γ hm ?_|refine rD Γ hm (by kernel_rfl) ?_);(conv=>whnf);repeat((first|refine aF ?_|refine aT ?_);(first|refine rG Γ hm ?_|refine rD Γ hm (by kernel_rfl) ?_);conv=>whnf))) | (refine call0 (ref15RestS n hn) F61 rfl rfl rfl rfl rfl ?_; ((first|refine rG Γ hm ?_|refine rD Γ hm (by kernel_rfl) ?_);(conv=>whnf);repeat((first|refine aF ?_|refine aT ?_);(first|refine rG Γ hm ?_|refine rD Γ hm (by kernel_rfl) ?_);conv=>whnf))) | (refine callD0 (ref15RestS n hn) F61 rfl rfl rfl (by kernel_rfl) rfl ?_; ((first|refine rG Γ hm ?_|refine rD Γ hm (by kernel_rfl) ?_);(conv=>whnf);repeat((first|refine aF ?_|refine aT ?_);(first|refine rG Γ hm ?_|refine rD Γ hm (by kernel_rfl) ?_);conv=>whnf)))))
  all_goals (refine congrArg boolSV ?_; clear hF)
  all_goals (first | grind [netRightB, fewB, restB] | trace_state)
end Go.Sy.YtjomehmhkcnadaaGreatDoor

namespace Go.Sy.YtjomehmhkcnadaaGreatDoor
open Go.Proofs
-- SIMP: placeB

attribute [local irreducible] Go.Sy.G Go.Sy.DR
set_option maxRecDepth 20000
set_option maxHeartbeats 4000000

def cmpI (a b : Int) : Int := if a < b then -1 else if a > b then 1 else 0

/-- cmp.Or. -/
def orI : List Int → Int
  | [] => 0
  | x :: l => if x = 0 then orI l else x

theorem orI_skip : ∀ {l : List Int} {j : Nat}, (∀ i (h : i < l.length), i < j → l[i] = 0) → orI l = orI (l.drop j)
  | l, 0, _ => rfl
  | [], j + 1, _ => rfl
  | x :: l, j + 1, h => by
    have h0 := h 0 (by simp) (by omega)
    simp only [List.getElem_cons_zero] at h0
    rw [orI, if_pos h0, List.drop_succ_cons]
    exact orI_skip fun i hi hij => h (i + 1) (by simp; omega) (by omega)

theorem orI_cmp (a b : Int) (l : List Int) : decide (orI (cmpI a b :: l) < 0) = if a ≠ b then decide (a < b) else decide (orI l < 0) := by
  rw [orI, cmpI]
  by_cases h1 : a < b
  · simp [h1, show a ≠ b by omega]
  · by_cases h2 : a > b
    · simp [h1, h2, show a ≠ b by omega]
    · simp [show a = b by omega]

structure Vec where
  (root cost bridge port own : Int)
def vecSV (v : Vec) : SV := .agg [intSV v.root, intSV v.cost, intSV v.bridge, intSV v.port, intSV v.own]
def lessV (a b : Vec) : Bool :=
  if a.root ≠ b.root then decide (a.root < b.root) else if a.cost ≠ b.cost then decide (a.cost < b.cost) else if a.bridge ≠ b.bridge then decide (a.bridge < b.bridge) else
    if a.port ≠ b.port then decide (a.port < b.port) else decide (a.own < b.own)
end Go.Sy.YtjomehmhkcnadaaGreatDoor

namespace Go.Sy.YtjomehmhkcnadaaGreatDoor
open Go.Proofs
-- SIMP: placeB

attribute [local irreducible] Go.Sy.G Go.Sy.DR
set_option maxRecDepth 20000
set_option maxHeartbeats 4000000

/-- Put into a list that is sorted from its end on. -/
def insR (lt : Int → Int → Bool) (x : Int) : List Int → List Int
  | [] => [x]
  | y :: r => if lt x y then y :: insR lt x r else x :: y :: r
def isortR (lt : Int → Int → Bool) (l : List Int) : List Int := l.foldl (fun r x => insR lt x r) []
def isort (lt : Int → Int → Bool) (l : List Int) : List Int := (isortR lt l).reverse

theorem insR_perm (lt : Int → Int → Bool) (x : Int) : ∀ r, (insR lt x r).Perm (x :: r)
  | [] => .refl _
  | y :: r => by
    rw [insR]
    split
    · exact ((insR_perm lt x r).cons y).trans (.swap x y r)
    · exact .refl _
theorem foldl_insR_perm (lt : Int → Int → Bool) : ∀ (l r : List Int), (l.foldl (fun r x => insR lt x r) r).Perm (l ++ r)
  | [], r => .refl _
  | x :: l, r => by
    rw [List.foldl_cons]
    refine (foldl_insR_perm lt l _).trans ?_
    refine ((insR_perm lt x r).append_left l).trans ?_
    simp
theorem isortR_perm (lt : Int → Int → Bool) (l : List Int) : (isortR lt l).Perm l := by
  have := foldl_insR_perm lt l []
  simpa [isortR] using this
theorem isort_perm (lt : Int → Int → Bool) (l : List Int) : (isort lt l).Perm l := (List.reverse_perm _).trans (isortR_perm lt l)

theorem isortR_take (lt : Int → Int → Bool) (l : List Int) (i : Nat) (h : i < l.length) : isortR lt (l.take (i + 1)) = insR lt l[i] (isortR lt (l.take i)) := by
  rw [List.take_succ_eq_append_getElem h, isortR, List.foldl_append]
  rfl

theorem swap_eq (A B : List Int) (x y : Int) : ((A.reverse ++ y :: x :: B).set (A.length + 1) y).set A.length x = A.reverse ++ x :: y :: B := by
  rw [List.set_append_right _ _ (by simp), List.set_append_right _ _ (by simp)]
  simp

mutual
theorem inn_nil {K : List Nat} : ∀ x : SV, x.inn [] = true → x.inn K = true
  | .ptr _ _, h => by simp [SV.inn, memN] at h
  | .rpt _ _ _ _, h => by simp [SV.inn, memN] at h
  | .osl _, h => by simp [SV.inn, memN] at h
  | .agg l, h => by simp only [SV.inn] at h ⊢; exact innL_nil l h
  | .tup l, h => by simp only [SV.inn] at h ⊢; exact innL_nil l h
  | .ifc _ x, h => by simp only [SV.inn] at h ⊢; exact inn_nil x h
  | .clo _ f l, h => by simp only [SV.inn, Bool.and_eq_true] at h ⊢; exact ⟨innL_nil f h.1, innL_nil l h.2⟩
  | .top, _ => rfl
  | .val _, _ => rfl
  | .sl _ _ _, _ => rfl
  | .ref _ _ _, _ => rfl
theorem innL_nil {K : List Nat} : ∀ l : List SV, innL [] l = true → innL K l = true
  | [], _ => rfl
  | x :: l, h => by simp only [innL, Bool.and_eq_true] at h ⊢; exact ⟨inn_nil x h.1, innL_nil l h.2⟩
end
end Go.Sy.YtjomehmhkcnadaaGreatDoor

namespace Go.Sy.YtjomehmhkcnadaaGreatDoor
open Go.Proofs
-- SIMP: placeB

attribute [local irreducible] Go.Sy.G Go.Sy.DR
set_option maxRecDepth 20000
set_option maxHeartbeats 4000000

def keyC (n : Net) (a b : Int) : Int := orI [cmpI (nth n.devices a).prio (nth n.devices b).prio, cmpI (nth n.devices a).mac (nth n.devices b).mac]

def ordL (m : Nat) : List Int := (List.range m).map fun (i : Nat) => (i : Int)
theorem ordL_succ (m : Nat) : ordL (m + 1) = ordL m ++ [(m : Int)] := by simp [ordL, List.range_succ]
theorem ordL_length (m : Nat) : (ordL m).length = m := by simp [ordL]

def rankFill (ord : List Int) : Nat → List Int
  | 0 => List.replicate ord.length 0
  | j + 1 => (rankFill ord j).set (nth ord j).toNat j
theorem rankFill_length (ord : List Int) : ∀ j, (rankFill ord j).length = ord.length
  | 0 => by simp [rankFill]
  | j + 1 => by simp [rankFill, rankFill_length ord j]

def sortedL (n : Net) : List Int := isort (fun a b => decide (keyC n a b < 0)) (ordL n.devices.length)
def ranksL (n : Net) : List Int := rankFill (sortedL n) n.devices.length

/-- The document's ranks. -/
def aheadB (n : Net) (a b : Int) : Bool :=
  if (nth n.devices a).prio ≠ (nth n.devices b).prio then decide ((nth n.devices a).prio < (nth n.devices b).prio) else
    if (nth n.devices a).mac ≠ (nth n.devices b).mac then decide ((nth n.devices a).mac < (nth n.devices b).mac) else decide (a < b)

def refRanksL (n : Net) : List Int := (List.range n.devices.length).map fun (i : Nat) => (((List.range n.devices.length).countP fun k => aheadB n (k : Nat) i : Nat) : Int)
end Go.Sy.YtjomehmhkcnadaaGreatDoor

namespace Go.Sy.YtjomehmhkcnadaaGreatDoor

theorem key_lt (n : Net) (a b : Int) : decide (keyC n a b < 0) = if (nth n.devices a).prio ≠ (nth n.devices b).prio then decide ((nth n.devices a).prio < (nth n.devices b).prio) else
    if (nth n.devices a).mac ≠ (nth n.devices b).mac then decide ((nth n.devices a).mac < (nth n.devices b).mac) else false := by
  rw [keyC, orI_cmp, orI_cmp]
  rfl

theorem ahead_irrefl (n : Net) (a : Int) : aheadB n a a = false := by simp [aheadB]
theorem ahead_trans (n : Net) {a b c : Int} (h1 : aheadB n a b = true) (h2 : aheadB n b c = true) : aheadB n a c = true := by
  unfold aheadB at *
  generalize nth n.devices a = x at *
  generalize nth n.devices b = y at *
  generalize nth n.devices c = z at *
  grind
theorem ahead_asymm (n : Net) {a b : Int} (h1 : aheadB n a b = true) : aheadB n b a = false := by
  cases h : aheadB n b a with
  | false => rfl
  | true => have := ahead_trans n h1 h; rw [ahead_irrefl] at this; cases this

theorem key_ahead (n : Net) {x y : Int} (h : y < x) : decide (keyC n x y < 0) = aheadB n x y := by
  rw [key_lt]
  unfold aheadB
  generalize nth n.devices x = p at *
  generalize nth n.devices y = q at *
  grind
theorem key_not (n : Net) {x y : Int} (h : y < x) (hk : aheadB n x y = false) : aheadB n y x = true := by
  unfold aheadB at *
  generalize nth n.devices x = p at *
  generalize nth n.devices y = q at *
  grind

theorem insR_desc (n : Net) (x : Int) : ∀ (r : List Int), (∀ y ∈ r, y < x) → r.Pairwise (fun a b => aheadB n b a = true) → (insR (fun a b => decide (keyC n a b < 0)) x r).Pairwise (fun a b => aheadB n b a = true)
  | [], _, _ => by simp [insR]
  | y :: r, hx, hp => by
    have hy := hx y (by simp)
    rw [List.pairwise_cons] at hp
    rw [insR]
    split
    · rename_i hlt
      rw [key_ahead n hy] at hlt
      rw [List.pairwise_cons]
      refine ⟨fun z hz => ?_, insR_desc n x r (fun z hz => hx z (by simp [hz])) hp.2⟩
      rcases List.mem_cons.1 ((insR_perm _ x r).mem_iff.1 hz) with rfl | hz
      · exact hlt
      · exact hp.1 z hz
    · rename_i hlt
      rw [key_ahead n hy] at hlt
      have hyx := key_not n hy (by simpa using hlt)
      rw [List.pairwise_cons, List.pairwise_cons]
      refine ⟨fun z hz => ?_, hp⟩
      rcases List.mem_cons.1 hz with rfl | hz
      · exact hyx
      · exact ahead_trans n (hp.1 z hz) hyx

theorem isortR_desc (n : Net) : ∀ m, (isortR (fun a b => decide (keyC n a b < 0)) (ordL m)).Pairwise (fun a b => aheadB n b a = true)
  | 0 => by simp [isortR, ordL]
  | m + 1 => by
    rw [ordL_succ, isortR, List.foldl_append]
    refine insR_desc n m _ (fun y hy => ?_) (isortR_desc n m)
    have := (isortR_perm _ _).mem_iff.1 hy
    obtain ⟨i, hi, rfl⟩ := List.mem_map.1 this
    have := List.mem_range.1 hi
    omega

theorem sortedL_pairwise (n : Net) : (sortedL n).Pairwise (fun a b => aheadB n a b = true) := by
  rw [sortedL, isort, List.pairwise_reverse]
  exact isortR_desc n _

theorem sortedL_perm (n : Net) : (sortedL n).Perm (ordL n.devices.length) := isort_perm _ _

theorem count_place (n : Net) {l : List Int} (hp : l.Pairwise (fun a b => aheadB n a b = true)) (r : Nat) (hr : r < l.length) : l.countP (fun k => aheadB n k l[r]) = r := by
  have hsplit : l = l.take r ++ l[r] :: l.drop (r + 1) := by
    rw [← List.drop_eq_getElem_cons hr, List.take_append_drop]
  have h1 : (l.take r).countP (fun k => aheadB n k l[r]) = r := by
    rw [List.countP_eq_length.2 (fun k hk => ?_), List.length_take]
    · omega
    · obtain ⟨i, hi, rfl⟩ := List.mem_iff_getElem.1 hk
      simp only [List.length_take] at hi
      rw [List.getElem_take]
      exact List.pairwise_iff_getElem.1 hp i r (by omega) hr (by omega)
  have h2 : (l.drop (r + 1)).countP (fun k => aheadB n k l[r]) = 0 := by
    rw [List.countP_eq_zero]
    intro k hk
    obtain ⟨i, hi, rfl⟩ := List.mem_iff_getElem.1 hk
    simp only [List.length_drop] at hi
    rw [List.getElem_drop]
    have := List.pairwise_iff_getElem.1 hp r (r + 1 + i) hr (by omega) (by omega)
    simp [ahead_asymm n this]
  calc l.countP (fun k => aheadB n k l[r]) = (l.take r ++ l[r] :: l.drop (r + 1)).countP (fun k => aheadB n k l[r]) := congrArg _ hsplit
    _ = r := by rw [List.countP_append, List.countP_cons, h1, h2, ahead_irrefl]; simp

theorem rankFill_get (L : List Int) (hn : L.Nodup) (hm : ∀ a ∈ L, 0 ≤ a ∧ a < L.length) : ∀ (j : Nat), j ≤ L.length → ∀ (r : Nat) (hr : r < L.length), r < j → (rankFill L j)[L[r].toNat]? = some (r : Int)
  | 0, _, r, _, h => by omega
  | j + 1, hj, r, hr, h => by
    have hmr := hm _ (List.getElem_mem hr)
    have hlen := rankFill_length L j
    have hnth : nth L (j : Int) = L[j] := nth_eq (by simp; omega)
    rw [rankFill, hnth, List.getElem?_set]
    split
    · rename_i he
      have hmj := hm _ (List.getElem_mem (show j < L.length by omega))
      have hjr : L[j] = L[r] := by omega
      have : j = r := by
        have := (List.getElem_inj (i := j) (j := r) (h₀ := by omega) (h₁ := hr) hn).1 hjr
        exact this
      subst this
      rw [if_pos (by omega)]
    · rename_i he
      have hne : r ≠ j := fun e => he (by subst e; rfl)
      exact rankFill_get L hn hm j (by omega) r hr (by omega)

theorem ordL_nodup (m : Nat) : (ordL m).Nodup := by
  rw [ordL]
  exact List.Pairwise.map _ (fun (a b : Nat) (h : a ≠ b) => by intro e; exact h (by omega)) List.nodup_range

theorem ranks_eq (n : Net) : ranksL n = refRanksL n := by
  have hp := sortedL_perm n
  have hlen : (sortedL n).length = n.devices.length := by rw [hp.length_eq, ordL_length]
  have hnd : (sortedL n).Nodup := hp.nodup_iff.2 (ordL_nodup _)
  have hm : ∀ a ∈ sortedL n, 0 ≤ a ∧ a < (sortedL n).length := fun a ha => by
    obtain ⟨i, hi, rfl⟩ := List.mem_map.1 (hp.mem_iff.1 ha)
    have := List.mem_range.1 hi
    omega
  refine List.ext_getElem? fun i => ?_
  rcases Nat.lt_or_ge i n.devices.length with hi | hi
  · have hin : (i : Int) ∈ sortedL n := hp.mem_iff.2 (List.mem_map.2 ⟨i, List.mem_range.2 hi, rfl⟩)
    obtain ⟨r, hr, he⟩ := List.mem_iff_getElem.1 hin
    have h1 := rankFill_get (sortedL n) hnd hm n.devices.length (by omega) r hr (by omega)
    rw [he] at h1
    have h2 := count_place n (sortedL_pairwise n) r hr
    rw [he, hp.countP_eq] at h2
    rw [ranksL, refRanksL, List.getElem?_map, List.getElem?_range hi]
    simp only [Int.toNat_natCast] at h1
    rw [h1]
    simp only [Option.map_some]
    congr 2
    rw [← h2, ordL, List.countP_map]
    rfl
  · rw [List.getElem?_eq_none, List.getElem?_eq_none]
    · simp [refRanksL]; omega
    · rw [ranksL, rankFill_length]; omega
theorem G_vw {C : Cx} {k : List KI} {s : SS} (d : Nat) (x : SV) (h : Vw s [] (s.σ d) x) (hg : G C k ⟨upd s.σ d x, s.h⟩) : G C k s := fun κ a w hs =>
  hg κ a w ⟨hs.defers, hs.size, hs.inv, hs.ctx, fun i => by
    show Rd κ w (upd s.σ d x i) _
    by_cases hi : i = d
    · subst hi; rw [upd_self]; exact Vw.rd hs.inv (fun _ hn => by cases hn) h (hs.slot i)
    · rw [upd_ne _ _ hi]; exact hs.slot i, hs.obj⟩

end Go.Sy.YtjomehmhkcnadaaGreatDoor

namespace Go.Sy.YtjomehmhkcnadaaGreatDoor
open Go.Proofs
-- SIMP: placeB

attribute [local irreducible] Go.Sy.G Go.Sy.DR
set_option maxRecDepth 20000
set_option maxHeartbeats 4000000

def badCost (p : Port) : Bool := decide (p.cost < 1) || decide (p.cost > 65535)

def costsB (n : Net) : Bool := !(n.ports.any badCost)

def greatB (n : Net) : Bool :=
  decide (200 < n.devices.length) || decide (200 < n.ports.length) || decide (200 < n.links.length) || decide (200 < n.domains.length) || decide (200 < n.statics.length) || decide (200 < n.floods.length) || decide (200 < n.vrfs.length) || decide (200 < n.irbs.length) ||
    n.ports.any (fun p => decide (100 < p.tagged.length)) || n.domains.any (fun d => decide (100 < d.peers.length)) || n.floods.any (fun f => decide (100 < f.addrs.length)) || n.vrfs.any (fun v => decide (100 < v.imports.length) || decide (100 < v.exports.length))

theorem fin_of_great {n : Net} (h : greatB n = false) : n.Fin := by
  simp only [greatB, Bool.or_eq_false_iff, decide_eq_false_iff_not, List.any_eq_false, decide_eq_true_eq, Bool.or_eq_true, not_or] at h
  obtain ⟨⟨⟨⟨⟨⟨⟨⟨⟨⟨⟨h1, h2⟩, h3⟩, h4⟩, h5⟩, h6⟩, h7⟩, h8⟩, h9⟩, h10⟩, h11⟩, h12⟩ := h
  exact ⟨by unfold Short; omega, by unfold Short; omega, by unfold Short; omega, by unfold Short; omega, by unfold Short; omega, by unfold Short; omega, by unfold Short; omega, by unfold Short; omega,
    fun p hp => by have := h9 p hp; unfold Short; omega, fun p hp => by have := h10 p hp; unfold Short; omega, fun p hp => by have := h11 p hp; unfold Short; omega, fun p hp => by have := h12 p hp; unfold Short; omega, fun p hp => by have := h12 p hp; unfold Short; omega⟩
end Go.Sy.YtjomehmhkcnadaaGreatDoor

namespace Go.Sy.YtjomehmhkcnadaaGreatDoor
open Go.Proofs

attribute [local irreducible] Go.Sy.G Go.Sy.DR
set_option maxRecDepth 100000
set_option maxHeartbeats 4000000

theorem getD_at {α : Type} {l : List α} {i : Nat} {d : α} (h : i < l.length) : l.getD i d = l[i] := by simp [List.getD, h]

theorem right_port {n : Net} (h : netRightB n = true) {i : Nat} (hi : i < n.ports.length) : portB n i n.ports[i] = true := by
  simp only [netRightB, Bool.and_eq_true] at h
  exact allB_iff.1 h.1.1.1.1.1.2 i hi
theorem right_link {n : Net} (h : netRightB n = true) {i : Nat} (hi : i < n.links.length) : linkB n i n.links[i] = true := by
  simp only [netRightB, Bool.and_eq_true] at h
  exact allB_iff.1 h.1.1.1.1.2 i hi
theorem right_few {n : Net} (h : netRightB n = true) : n.devices.length ≤ 8 ∧ n.ports.length ≤ 40 ∧ n.links.length ≤ 20 := by
  simp only [netRightB, fewB, Bool.and_eq_true, decide_eq_true_eq] at h
  omega

theorem port_link {n : Net} (h : netRightB n = true) {i : Nat} (hi : i < n.ports.length) : n.ports[i].link = -1 ∨ (0 ≤ n.ports[i].link ∧ n.ports[i].link < n.links.length) := by
  have := right_port h hi
  simp only [portB, placeB, Bool.and_eq_true, Bool.or_eq_true, beq_iff_eq, decide_eq_true_eq] at this
  rcases this.2 with h1 | h1
  · exact .inl h1
  · exact .inr h1.1
theorem port_dev {n : Net} (h : netRightB n = true) {i : Nat} (hi : i < n.ports.length) : 0 ≤ n.ports[i].dev ∧ n.ports[i].dev < n.devices.length := by
  have := right_port h hi
  simp only [portB, placeB, Bool.and_eq_true, decide_eq_true_eq] at this
  exact this.1.1.1.1.1.1.1.1
theorem link_ends {n : Net} (h : netRightB n = true) {i : Nat} (hi : i < n.links.length) : (0 ≤ n.links[i].a ∧ n.links[i].a < n.ports.length) ∧ 0 ≤ n.links[i].b ∧ n.links[i].b < n.ports.length := by
  have := right_link h hi
  simp only [linkB, placeB, Bool.and_eq_true, decide_eq_true_eq] at this
  exact ⟨this.1.1.1.1, this.1.1.1.2⟩

def pdev (n : Net) (i : Nat) : Int := (nth n.ports i).dev
def pcost (n : Net) (i : Nat) : Int := (nth n.ports i).cost

theorem pcost_le {n : Net} (hcost : costsB n = true) {i : Nat} (hi : i < n.ports.length) : 1 ≤ pcost n i ∧ pcost n i ≤ 65535 := by
  rw [pcost, nth_eq (l := n.ports) (i := (i : Int)) (by simpa using hi)]
  simp only [costsB, Bool.not_eq_true', List.any_eq_false] at hcost
  have := hcost _ (List.getElem_mem hi)
  simp only [badCost, Bool.or_eq_true, decide_eq_true_eq, not_or] at this
  simp only [Int.toNat_natCast]
  omega

/-- The other end of the first link that has this one. -/
def otherI (ls : List Link) (i : Int) : Int := match ls.find? (fun l => l.a == i || l.b == i) with | some l => if l.a = i then l.b else l.a | none => -1

/-- As they are made: with nothing tagged, and no peers. -/
def portNil (p : Port) : SV := .agg [intSV p.row, intSV p.dev, intSV p.native, intSV p.cost, intSV p.link, strSV p.name, .val (.slice none 0 0)]
def domNil (d : Domain) : SV := .agg [intSV d.dev, intSV d.vlan, intSV d.vni, intSV d.irb, intSV d.row, .val (.slice none 0 0)]
def nilV : SV := .val (.slice none 0 0)

theorem portNil_rd {M : Nat → Prop} {w : World} (p : Port) (hp : p.tagged = []) {v : Value} (h : RdD M w (portNil p) v) : RdD M w (portSV p) v := by
  simp only [portNil, portSV, RdD, RdDL, hp] at h ⊢
  obtain ⟨cs, h1, h2, v0, r0, h3, h4, v1, r1, h5, h6, v2, r2, h7, h8, v3, r3, h9, h10, v4, r4, h11, h12, v5, r5, h13, h14, v6, r6, h15, h16, h17⟩ := h
  exact ⟨cs, h1, h2, v0, r0, h3, h4, v1, r1, h5, h6, v2, r2, h7, h8, v3, r3, h9, h10, v4, r4, h11, h12, v5, r5, h13, h14, v6, r6, h15, .inl ⟨trivial, none, 0, h16⟩, h17⟩
theorem domNil_rd {M : Nat → Prop} {w : World} (p : Domain) (hp : p.peers = []) {v : Value} (h : RdD M w (domNil p) v) : RdD M w (domainSV p) v := by
  simp only [domNil, domainSV, RdD, RdDL, hp] at h ⊢
  obtain ⟨cs, h1, h2, v0, r0, h3, h4, v1, r1, h5, h6, v2, r2, h7, h8, v3, r3, h9, h10, v4, r4, h11, h12, v5, r5, h13, h14, h15⟩ := h
  exact ⟨cs, h1, h2, v0, r0, h3, h4, v1, r1, h5, h6, v2, r2, h7, h8, v3, r3, h9, h10, v4, r4, h11, h12, v5, r5, h13, .inl ⟨trivial, none, 0, h14⟩, h15⟩

end Go.Sy.YtjomehmhkcnadaaGreatDoor

namespace Go.Sy.YtjomehmhkcnadaaGreatDoor
open Go.Proofs
-- SIMP: placeB

attribute [local irreducible] Go.Sy.G Go.Sy.DR
set_option maxRecDepth 20000
set_option maxHeartbeats 4000000

/-- The document finds the same other side of a link, in a net that may be. -/
theorem otherI_eq {n : Net} (hb : netRightB n = true) (i : Int) : otherI n.links i = otherT n i := by
  have hlr : ∀ (k : Nat) (hk : k < n.links.length), linkB n k n.links[k] = true := fun k hk => by
    have h := hb
    simp only [netRightB, Bool.and_eq_true] at h
    exact allB_iff.1 h.1.1.1.1.2 k hk
  have hin : ∀ (k : Nat) (hk : k < n.links.length), (n.links[k].a = i ∨ n.links[k].b = i) → (0 ≤ i ∧ i.toNat < n.ports.length) ∧ (nth n.ports i).link = k := fun k hk h => by
    have := hlr k hk
    simp only [linkB, placeB, Bool.and_eq_true, decide_eq_true_eq, beq_iff_eq] at this
    rcases h with h | h <;> rw [h] at this
    · exact ⟨by omega, this.1.2⟩
    · exact ⟨by omega, this.2⟩
  rw [otherI, otherT]
  cases hf : n.links.find? (fun l => l.a == i || l.b == i) with
  | none =>
    rw [List.find?_eq_none] at hf
    dsimp only
    split
    · rename_i hc
      have hk : i.toNat < n.ports.length := by omega
      have e1 : nth n.ports i = n.ports[i.toNat] := nth_eq hk
      rw [e1] at hc
      have hq := e_port_link hb hk hc.2.1
      have e2 : nth n.links n.ports[i.toNat].link = n.links[n.ports[i.toNat].link.toNat] := nth_eq hq.1
      rw [e2] at hq
      have := hf _ (List.getElem_mem hq.1)
      have e3 : ((i.toNat : Nat) : Int) = i := by omega
      rw [e3] at hq
      simp at this
      rcases hq.2 with h | h
      · exact absurd h this.1
      · exact absurd h this.2
    · rfl
  | some l =>
    rw [List.find?_eq_some_iff_getElem] at hf
    obtain ⟨hl, k, hk, rfl, _⟩ := hf
    have h2 := hin k hk (by simpa using hl)
    have e2 : nth n.links (nth n.ports i).link = n.links[k] := by rw [h2.2]; exact nth_eq (l := n.links) (i := (k : Int)) (by simpa using hk)
    rw [if_pos ⟨by omega, by omega, hb⟩, e2]

theorem refDomTextS (n : Net) (hnm : Named n) (hb : netRightB n = true) (i : Int) : Sy.Spec Tryz.prog 62 [netSV n, intSV i] [] (strSV (domT n i)) [] := contract Γ hm 100 F62 Tryz.ntmps62 rfl fun F hF => by
  have hp := ref15PlaceS i n.domains.length
  ((conv=>whnf);repeat((first|refine aF ?_|refine aT ?_);(first|refine rG Γ hm ?_|refine rD Γ hm (by kernel_rfl) ?_);conv=>whnf))
  refine G_box 2 8 (netSV n) rfl rfl rfl ?_
  ((first|refine rG Γ hm ?_|refine rD Γ hm (by kernel_rfl) ?_);(conv=>whnf);repeat((first|refine aF ?_|refine aT ?_);(first|refine rG Γ hm ?_|refine rD Γ hm (by kernel_rfl) ?_);conv=>whnf))
  refine call0 hp F31 rfl rfl rfl rfl rfl ?_
  cases hpl : placeB i n.domains.length
  · have hno : ¬ (0 ≤ i ∧ i < n.domains.length) := by simp [placeB] at hpl; omega
    rw [domT, if_neg (fun h => hno h.1)]
    ((first|refine rG Γ hm ?_|refine rD Γ hm (by kernel_rfl) ?_);(conv=>whnf);repeat((first|refine aF ?_|refine aT ?_);(first|refine rG Γ hm ?_|refine rD Γ hm (by kernel_rfl) ?_);conv=>whnf))
    exact done0 rfl (.cons .tmp .nil) rfl rfl
  have hin : 0 ≤ i ∧ i < n.domains.length := by simp [placeB] at hpl; omega
  rw [domT, if_pos ⟨hin, hb⟩]
  have hk : i.toNat < n.domains.length := by omega
  have hf := e_dom_facts hb hk
  have e1 : nth n.domains i = n.domains[i.toNat] := nth_eq hk
  rw [domText, e1]
  obtain ⟨d, hd⟩ : ∃ d, n.domains[i.toNat] = d := ⟨_, rfl⟩
  rw [hd] at hf ⊢
  have e2 : nth n.devices d.dev = n.devices[d.dev.toNat] := nth_eq hf.1.2
  rw [e2]
  have hdn := hnm.1 _ (List.getElem_mem hf.1.2)
  obtain ⟨x, hx⟩ : ∃ x, n.devices[d.dev.toNat]'hf.1.2 = x := ⟨_, rfl⟩
  rw [hx] at hdn ⊢
  obtain ⟨v, hv⟩ : ∃ v : Nat, d.vlan = v := ⟨d.vlan.toNat, by omega⟩
  have q := refNumTextS v (by omega)
  have hsz := numT_size (n := (v : Int)) (by omega)
  rw [← hv] at q hsz
  have hj : joinT [x.name, ⟨#[47]⟩, numT d.vlan] ⟨#[]⟩ = x.name ++ ⟨#[47]⟩ ++ numT d.vlan := by
    apply ext_list
    simp [joinT, Lib.join]
  rw [hj]
  generalize numT d.vlan = nv at *
  have hs2 : (x.name ++ ⟨#[47]⟩ : ByteArray).size = x.name.size + 1 := size_app x.name ⟨#[47]⟩
  ((first|refine rG Γ hm ?_|refine rD Γ hm (by kernel_rfl) ?_);(conv=>whnf);repeat((first|refine aF ?_|refine aT ?_);(first|refine rG Γ hm ?_|refine rD Γ hm (by kernel_rfl) ?_);conv=>whnf))
  refine ⟨rfl, hin.1, hk, ?_⟩
  rw [hd]
  ((conv=>whnf);repeat((first|refine aF ?_|refine aT ?_);(first|refine rG Γ hm ?_|refine rD Γ hm (by kernel_rfl) ?_);conv=>whnf))
  refine ⟨rfl, hf.1.1, hf.1.2, ?_⟩
  rw [hx]
  ((conv=>whnf);repeat((first|refine aF ?_|refine aT ?_);(first|refine rG Γ hm ?_|refine rD Γ hm (by kernel_rfl) ?_);conv=>whnf))
  refine ⟨by show _ + 1 ≤ _; omega, ?_⟩
  ((conv=>whnf);repeat((first|refine aF ?_|refine aT ?_);(first|refine rG Γ hm ?_|refine rD Γ hm (by kernel_rfl) ?_);conv=>whnf))
  refine callD0 q F33 rfl rfl rfl (by kernel_rfl) rfl ?_
  ((first|refine rG Γ hm ?_|refine rD Γ hm (by kernel_rfl) ?_);(conv=>whnf);repeat((first|refine aF ?_|refine aT ?_);(first|refine rG Γ hm ?_|refine rD Γ hm (by kernel_rfl) ?_);conv=>whnf))
  refine ⟨by omega, ?_⟩
  ((conv=>whnf);repeat((first|refine aF ?_|refine aT ?_);(first|refine rG Γ hm ?_|refine rD Γ hm (by kernel_rfl) ?_);conv=>whnf))
  refine ⟨(by kernel_rfl), ?_⟩
  ((conv=>whnf);repeat((first|refine aF ?_|refine aT ?_);(first|refine rG Γ hm ?_|refine rD Γ hm (by kernel_rfl) ?_);conv=>whnf))
  exact done0 rfl (.cons .tmp .nil) rfl rfl

end Go.Sy.YtjomehmhkcnadaaGreatDoor

namespace Go.Sy.YtjomehmhkcnadaaGreatDoor
open Go.Proofs

attribute [local irreducible] Go.Sy.G Go.Sy.DR
set_option maxRecDepth 20000
set_option maxHeartbeats 4000000

def truthL (l : List Bool) : List UInt8 := l.map fun b => if b then 49 else 48
def truthsT (l : List Bool) : ByteArray := if l = [] then ⟨#[45]⟩ else mkT (truthL l)

theorem truthsS (l : List Bool) (hl : l.length < 1000000) : Sy.Spec Tryz.prog 57 [.sl 1 boolSV l] [] (strSV (truthsT l)) [] := contract Γ hm 100 F57 Tryz.ntmps57 rfl fun F hF => by
  ((conv=>whnf);repeat((first|refine aF ?_|refine aT ?_);(first|refine rG Γ hm ?_|refine rD Γ hm (by kernel_rfl) ?_);conv=>whnf))
  refine ⟨fun h => ?_, fun h => ?_⟩
  · have h0 : l = [] := List.length_eq_zero_iff.1 (by have : (l.length : Int) = 0 := by simpa using h
                                                      omega)
    rw [truthsT, if_pos h0]
    ((first|refine rG Γ hm ?_|refine rD Γ hm (by kernel_rfl) ?_);(conv=>whnf);repeat((first|refine aF ?_|refine aT ?_);(first|refine rG Γ hm ?_|refine rD Γ hm (by kernel_rfl) ?_);conv=>whnf))
    exact done0 rfl (.cons .tmp .nil) rfl rfl
  have h0 : l ≠ [] := fun e => by subst e; simp at h
  rw [truthsT, if_neg h0]
  ((first|refine rG Γ hm ?_|refine rD Γ hm (by kernel_rfl) ?_);(conv=>whnf);repeat((first|refine aF ?_|refine aT ?_);(first|refine rG Γ hm ?_|refine rD Γ hm (by kernel_rfl) ?_);conv=>whnf))
  refine G_adopt 3 1000 1 byteSV rfl rfl ?_
  refine G_count l.length (fun j => [(3, .osl 1000), (10, .sl 1 boolSV l), (11, intSV l.length), (12, intSV j)]) (fun j => [(1000, .row 1 byteSV (truthL (l.take j)))]) []
    ⟨⟨rfl, rfl, rfl, rfl, rfl, rfl, rfl, rfl, trivial⟩, ⟨.inl rfl, rfl, trivial⟩, rfl, rfl⟩ ?_
  intro j hj
  have htl : (truthL (l.take j)).length ≤ l.length := by rw [truthL, List.length_map, List.length_take]; omega
  ((first|refine rG Γ hm ?_|refine rD Γ hm (by kernel_rfl) ?_);(conv=>whnf);repeat((first|refine aF ?_|refine aT ?_);(first|refine rG Γ hm ?_|refine rD Γ hm (by kernel_rfl) ?_);conv=>whnf))
  refine ⟨fun h => ?_, fun h => ?_⟩
  · have hlt : j < l.length := by simpa using h
    have hj0 : ((j : Nat) : Int).toNat < l.length := by simpa using hlt
    have hs : truthL (l.take (j + 1)) = truthL (l.take j) ++ [if l[((j : Nat) : Int).toNat]'hj0 then 49 else 48] := by
      rw [truthL, truthL, List.take_succ_eq_append_getElem hlt, List.map_append]; rfl
    obtain ⟨b, hb⟩ : ∃ b, l[((j : Nat) : Int).toNat]'hj0 = b := ⟨_, rfl⟩
    rw [hb] at hs
    generalize truthL (l.take j) = u at *
    ((first|refine rG Γ hm ?_|refine rD Γ hm (by kernel_rfl) ?_);(conv=>whnf);repeat((first|refine aF ?_|refine aT ?_);(first|refine rG Γ hm ?_|refine rD Γ hm (by kernel_rfl) ?_);conv=>whnf))
    refine ⟨rfl, by omega, hj0, ?_⟩
    rw [hb]
    cases b
    · ((conv=>whnf);repeat((first|refine aF ?_|refine aT ?_);(first|refine rG Γ hm ?_|refine rD Γ hm (by kernel_rfl) ?_);conv=>whnf))
      refine stepOp (good_appendT Γ.toTy 20 rfl rfl rfl rfl rfl (.row rfl) (.lit (e := byteSV) (l := [48]) rfl rfl) (by simp) (by simp; omega) (by simp; omega)) rfl rfl ?_
      ((first|refine rG Γ hm ?_|refine rD Γ hm (by kernel_rfl) ?_);(conv=>whnf);repeat((first|refine aF ?_|refine aT ?_);(first|refine rG Γ hm ?_|refine rD Γ hm (by kernel_rfl) ?_);conv=>whnf))
      refine ⟨by unfold I64; omega, ?_⟩
      ((conv=>whnf);repeat((first|refine aF ?_|refine aT ?_);(first|refine rG Γ hm ?_|refine rD Γ hm (by kernel_rfl) ?_);conv=>whnf))
      exact G_next [(1000, 20)] hlt ⟨⟨rfl, rfl, rfl, rfl, rfl, rfl, rfl, rfl, trivial⟩, ⟨.inl (congrArg (Ob.row 1 byteSV) hs), rfl, trivial⟩, rfl, rfl⟩
    · ((conv=>whnf);repeat((first|refine aF ?_|refine aT ?_);(first|refine rG Γ hm ?_|refine rD Γ hm (by kernel_rfl) ?_);conv=>whnf))
      refine stepOp (good_appendT Γ.toTy 20 rfl rfl rfl rfl rfl (.row rfl) (.lit (e := byteSV) (l := [49]) rfl rfl) (by simp) (by simp; omega) (by simp; omega)) rfl rfl ?_
      ((first|refine rG Γ hm ?_|refine rD Γ hm (by kernel_rfl) ?_);(conv=>whnf);repeat((first|refine aF ?_|refine aT ?_);(first|refine rG Γ hm ?_|refine rD Γ hm (by kernel_rfl) ?_);conv=>whnf))
      refine ⟨by unfold I64; omega, ?_⟩
      ((conv=>whnf);repeat((first|refine aF ?_|refine aT ?_);(first|refine rG Γ hm ?_|refine rD Γ hm (by kernel_rfl) ?_);conv=>whnf))
      exact G_next [(1000, 20)] hlt ⟨⟨rfl, rfl, rfl, rfl, rfl, rfl, rfl, rfl, trivial⟩, ⟨.inl (congrArg (Ob.row 1 byteSV) hs), rfl, trivial⟩, rfl, rfl⟩
  · have hje : j = l.length := by have := of_decide_eq_false h; omega
    subst hje
    rw [List.take_length]
    ((first|refine rG Γ hm ?_|refine rD Γ hm (by kernel_rfl) ?_);(conv=>whnf);repeat((first|refine aF ?_|refine aT ?_);(first|refine rG Γ hm ?_|refine rD Γ hm (by kernel_rfl) ?_);conv=>whnf))
    refine stepOp (good_stringT Γ.toTy (bs := truthL l) rfl rfl rfl rfl rfl rfl rfl (.row rfl)) rfl rfl ?_
    ((first|refine rG Γ hm ?_|refine rD Γ hm (by kernel_rfl) ?_);(conv=>whnf);repeat((first|refine aF ?_|refine aT ?_);(first|refine rG Γ hm ?_|refine rD Γ hm (by kernel_rfl) ?_);conv=>whnf))
    exact done0 rfl (.cons .tmp .nil) rfl rfl

theorem refTruthsS (l : List Bool) (hl : l.length < 1000000) : Sy.Spec Tryz.prog 63 [.sl 1 boolSV l] [] (strSV (truthsT l)) [] := contract Γ hm 100 F63 Tryz.ntmps63 rfl fun F hF => by
  ((conv=>whnf);repeat((first|refine aF ?_|refine aT ?_);(first|refine rG Γ hm ?_|refine rD Γ hm (by kernel_rfl) ?_);conv=>whnf))
  refine ⟨fun h => ?_, fun h => ?_⟩
  · have h0 : l = [] := List.length_eq_zero_iff.1 (by have : (l.length : Int) = 0 := by simpa using h
                                                      omega)
    rw [truthsT, if_pos h0]
    ((first|refine rG Γ hm ?_|refine rD Γ hm (by kernel_rfl) ?_);(conv=>whnf);repeat((first|refine aF ?_|refine aT ?_);(first|refine rG Γ hm ?_|refine rD Γ hm (by kernel_rfl) ?_);conv=>whnf))
    exact done0 rfl (.cons .tmp .nil) rfl rfl
  have h0 : l ≠ [] := fun e => by subst e; simp at h
  rw [truthsT, if_neg h0]
  ((first|refine rG Γ hm ?_|refine rD Γ hm (by kernel_rfl) ?_);(conv=>whnf);repeat((first|refine aF ?_|refine aT ?_);(first|refine rG Γ hm ?_|refine rD Γ hm (by kernel_rfl) ?_);conv=>whnf))
  refine G_count l.length (fun j => [(0, .sl 1 boolSV l), (3, strSV (mkT (truthL (l.take j)))), (4, intSV j)]) (fun _ => []) [] ⟨⟨rfl, rfl, rfl, rfl, rfl, rfl, trivial⟩, trivial, rfl, rfl⟩ ?_
  intro j hj
  have htl : (truthL (l.take j)).length ≤ l.length := by rw [truthL, List.length_map, List.length_take]; omega
  have hts : (mkT (truthL (l.take j))).size ≤ l.length := by rw [mkT_size]; exact htl
  ((first|refine rG Γ hm ?_|refine rD Γ hm (by kernel_rfl) ?_);(conv=>whnf);repeat((first|refine aF ?_|refine aT ?_);(first|refine rG Γ hm ?_|refine rD Γ hm (by kernel_rfl) ?_);conv=>whnf))
  refine ⟨fun h => ?_, fun h => ?_⟩
  · have hlt : j < l.length := by simpa using h
    have hj0 : ((j : Nat) : Int).toNat < l.length := by simpa using hlt
    have hs : mkT (truthL (l.take (j + 1))) = mkT (truthL (l.take j)) ++ mkT [if l[((j : Nat) : Int).toNat]'hj0 then 49 else 48] := by
      rw [mkT_append, truthL, truthL, List.take_succ_eq_append_getElem hlt, List.map_append]; rfl
    obtain ⟨b, hb⟩ : ∃ b, l[((j : Nat) : Int).toNat]'hj0 = b := ⟨_, rfl⟩
    rw [hb] at hs
    generalize mkT (truthL (l.take j)) = u at *
    ((first|refine rG Γ hm ?_|refine rD Γ hm (by kernel_rfl) ?_);(conv=>whnf);repeat((first|refine aF ?_|refine aT ?_);(first|refine rG Γ hm ?_|refine rD Γ hm (by kernel_rfl) ?_);conv=>whnf))
    refine ⟨rfl, by omega, hj0, ?_⟩
    rw [hb]
    cases b
    · ((conv=>whnf);repeat((first|refine aF ?_|refine aT ?_);(first|refine rG Γ hm ?_|refine rD Γ hm (by kernel_rfl) ?_);conv=>whnf))
      refine ⟨by show u.size + 1 ≤ _; omega, ?_⟩
      ((conv=>whnf);repeat((first|refine aF ?_|refine aT ?_);(first|refine rG Γ hm ?_|refine rD Γ hm (by kernel_rfl) ?_);conv=>whnf))
      refine ⟨by unfold I64; omega, ?_⟩
      ((conv=>whnf);repeat((first|refine aF ?_|refine aT ?_);(first|refine rG Γ hm ?_|refine rD Γ hm (by kernel_rfl) ?_);conv=>whnf))
      exact G_next [] hlt ⟨⟨rfl, rfl, congrArg strSV hs, rfl, rfl, rfl, trivial⟩, trivial, rfl, rfl⟩
    · ((conv=>whnf);repeat((first|refine aF ?_|refine aT ?_);(first|refine rG Γ hm ?_|refine rD Γ hm (by kernel_rfl) ?_);conv=>whnf))
      refine ⟨by show u.size + 1 ≤ _; omega, ?_⟩
      ((conv=>whnf);repeat((first|refine aF ?_|refine aT ?_);(first|refine rG Γ hm ?_|refine rD Γ hm (by kernel_rfl) ?_);conv=>whnf))
      refine ⟨by unfold I64; omega, ?_⟩
      ((conv=>whnf);repeat((first|refine aF ?_|refine aT ?_);(first|refine rG Γ hm ?_|refine rD Γ hm (by kernel_rfl) ?_);conv=>whnf))
      exact G_next [] hlt ⟨⟨rfl, rfl, congrArg strSV hs, rfl, rfl, rfl, trivial⟩, trivial, rfl, rfl⟩
  · have hje : j = l.length := by have := of_decide_eq_false h; omega
    subst hje
    rw [List.take_length]
    ((first|refine rG Γ hm ?_|refine rD Γ hm (by kernel_rfl) ?_);(conv=>whnf);repeat((first|refine aF ?_|refine aT ?_);(first|refine rG Γ hm ?_|refine rD Γ hm (by kernel_rfl) ?_);conv=>whnf))
    exact done0 rfl (.cons .tmp .nil) rfl rfl

def hexD (c : Nat) : UInt8 := if c < 10 then UInt8.ofNat (48 + c) else UInt8.ofNat (87 + c)
def hexL (l : List UInt8) : List UInt8 := l.flatMap fun c => [hexD (c.toNat / 16), hexD (c.toNat % 16)]
def hexT (l : List UInt8) : ByteArray := if l = [] then ⟨#[45]⟩ else mkT (hexL l)

end Go.Sy.YtjomehmhkcnadaaGreatDoor

namespace Go.Sy.YtjomehmhkcnadaaGreatDoor
open Go.Proofs

attribute [local irreducible] Go.Sy.G Go.Sy.DR
set_option maxRecDepth 20000
set_option maxHeartbeats 4000000

theorem hexL_length : ∀ l : List UInt8, (hexL l).length = 2 * l.length
  | [] => rfl
  | c :: l => by
    have := hexL_length l
    rw [hexL] at this ⊢
    rw [List.flatMap_cons, List.length_append, this]
    simp only [List.length_cons, List.length_nil]
    omega

def hexC : ByteArray := ⟨#[48, 49, 50, 51, 52, 53, 54, 55, 56, 57, 97, 98, 99, 100, 101, 102]⟩
theorem hex_get : ∀ k, k < 16 → bget hexC k = hexD k := by decide

theorem hex_hi (c : UInt8) : ((c.toNat : Int).fdiv (2 ^ min (Int.toNat 4) IntKind.u8.bits)) = ((c.toNat / 16 : Nat) : Int) := by
  show ((c.toNat : Int).fdiv 16) = _
  rw [Int.fdiv_eq_ediv_of_nonneg _ (by omega)]; omega

theorem hex_lo_all : ∀ k : Fin 256, bits .and .u8 (k.1 : Int) 15 = ((k.1 % 16 : Nat) : Int) := by decide +kernel
theorem hex_lo (c : UInt8) : bits .and .u8 (c.toNat : Int) 15 = ((c.toNat % 16 : Nat) : Int) := hex_lo_all ⟨c.toNat, c.toNat_lt⟩

theorem bytesTextS (l : List UInt8) (hl : l.length < 1000000) : Sy.Spec Tryz.prog 30 [.sl 1 byteSV l] [] (strSV (hexT l)) [] := contract Γ hm 100 F30 Tryz.ntmps30 rfl fun F hF => by
  ((conv=>whnf);repeat((first|refine aF ?_|refine aT ?_);(first|refine rG Γ hm ?_|refine rD Γ hm (by kernel_rfl) ?_);conv=>whnf))
  refine ⟨fun h => ?_, fun h => ?_⟩
  · have h0 : l = [] := List.length_eq_zero_iff.1 (by have : (l.length : Int) = 0 := by simpa using h
                                                      omega)
    rw [hexT, if_pos h0]
    ((first|refine rG Γ hm ?_|refine rD Γ hm (by kernel_rfl) ?_);(conv=>whnf);repeat((first|refine aF ?_|refine aT ?_);(first|refine rG Γ hm ?_|refine rD Γ hm (by kernel_rfl) ?_);conv=>whnf))
    exact done0 rfl (.cons .tmp .nil) rfl rfl
  have h0 : l ≠ [] := fun e => by subst e; simp at h
  rw [hexT, if_neg h0]
  ((first|refine rG Γ hm ?_|refine rD Γ hm (by kernel_rfl) ?_);(conv=>whnf);repeat((first|refine aF ?_|refine aT ?_);(first|refine rG Γ hm ?_|refine rD Γ hm (by kernel_rfl) ?_);conv=>whnf))
  refine G_adopt 3 1000 1 byteSV rfl rfl ?_
  refine G_count l.length (fun j => [(3, .osl 1000), (9, .sl 1 byteSV l), (10, intSV l.length), (11, intSV j)]) (fun j => [(1000, .row 1 byteSV (hexL (l.take j)))]) []
    ⟨⟨rfl, rfl, rfl, rfl, rfl, rfl, rfl, rfl, trivial⟩, ⟨.inl rfl, rfl, trivial⟩, rfl, rfl⟩ ?_
  intro j hj
  ((first|refine rG Γ hm ?_|refine rD Γ hm (by kernel_rfl) ?_);(conv=>whnf);repeat((first|refine aF ?_|refine aT ?_);(first|refine rG Γ hm ?_|refine rD Γ hm (by kernel_rfl) ?_);conv=>whnf))
  refine ⟨fun h => ?_, fun h => ?_⟩
  · have hlt : j < l.length := by simpa using h
    have hj0 : ((j : Nat) : Int).toNat < l.length := by simpa using hlt
    obtain ⟨c, hc⟩ : ∃ c, l[((j : Nat) : Int).toNat]'hj0 = c := ⟨_, rfl⟩
    have hs : hexL (l.take (j + 1)) = hexL (l.take j) ++ [hexD (c.toNat / 16), hexD (c.toNat % 16)] := by
      rw [hexL, hexL, List.take_succ_eq_append_getElem hlt, List.flatMap_append]
      rw [show l[j] = c from hc]; rfl
    have hul : (hexL (l.take j)).length ≤ 2 * l.length := by
      rw [hexL_length, List.length_take]; omega
    generalize hexL (l.take j) = u at *
    ((first|refine rG Γ hm ?_|refine rD Γ hm (by kernel_rfl) ?_);(conv=>whnf);repeat((first|refine aF ?_|refine aT ?_);(first|refine rG Γ hm ?_|refine rD Γ hm (by kernel_rfl) ?_);conv=>whnf))
    refine ⟨rfl, by omega, hj0, ?_⟩
    rw [hc]
    ((conv=>whnf);repeat((first|refine aF ?_|refine aT ?_);(first|refine rG Γ hm ?_|refine rD Γ hm (by kernel_rfl) ?_);conv=>whnf))
    refine ⟨by decide, ?_⟩
    ((conv=>whnf);repeat((first|refine aF ?_|refine aT ?_);(first|refine rG Γ hm ?_|refine rD Γ hm (by kernel_rfl) ?_);conv=>whnf))
    have hc2 := c.toNat_lt
    have e1 := hex_hi c
    have g1 := hex_get (c.toNat / 16) (by omega)
    refine ⟨by rw [e1]; omega, by rw [e1]; show _ < 16; omega, ?_⟩
    ((conv=>whnf);repeat((first|refine aF ?_|refine aT ?_);(first|refine rG Γ hm ?_|refine rD Γ hm (by kernel_rfl) ?_);conv=>whnf))
    have e2 := hex_lo c
    have g2 := hex_get (c.toNat % 16) (by omega)
    refine ⟨by rw [e2]; omega, by rw [e2]; show _ < 16; omega, ?_⟩
    ((conv=>whnf);repeat((first|refine aF ?_|refine aT ?_);(first|refine rG Γ hm ?_|refine rD Γ hm (by kernel_rfl) ?_);conv=>whnf))
    have v1 : bget hexC ((c.toNat : Int).fdiv (2 ^ min (Int.toNat 4) IntKind.u8.bits)).toNat = hexD (c.toNat / 16) := by rw [e1]; exact g1
    have v2 : bget hexC (bits .and .u8 (c.toNat : Int) 15).toNat = hexD (c.toNat % 16) := by rw [e2]; exact g2
    refine stepD (good_appendT Γ.toTy 23 rfl rfl rfl rfl rfl (.row rfl) (.lit (e := byteSV) (l := [bget hexC ((c.toNat : Int).fdiv (2 ^ min (Int.toNat 4) IntKind.u8.bits)).toNat, bget hexC (bits .and .u8 (c.toNat : Int) 15).toNat]) rfl rfl) (by simp) (by simp; omega) (by simp; omega)) (by kernel_rfl) rfl ?_
    ((first|refine rG Γ hm ?_|refine rD Γ hm (by kernel_rfl) ?_);(conv=>whnf);repeat((first|refine aF ?_|refine aT ?_);(first|refine rG Γ hm ?_|refine rD Γ hm (by kernel_rfl) ?_);conv=>whnf))
    refine ⟨(by kernel_rfl), ?_⟩
    ((conv=>whnf);repeat((first|refine aF ?_|refine aT ?_);(first|refine rG Γ hm ?_|refine rD Γ hm (by kernel_rfl) ?_);conv=>whnf))
    refine ⟨by unfold I64; omega, ?_⟩
    ((conv=>whnf);repeat((first|refine aF ?_|refine aT ?_);(first|refine rG Γ hm ?_|refine rD Γ hm (by kernel_rfl) ?_);conv=>whnf))
    exact G_next [(1000, 23)] hlt ⟨⟨rfl, rfl, rfl, rfl, rfl, rfl, rfl, rfl, trivial⟩, ⟨.inl (congrArg (Ob.row 1 byteSV) (by rw [hs, v1, v2])), rfl, trivial⟩, rfl, rfl⟩
  · have hje : j = l.length := by have := of_decide_eq_false h; omega
    subst hje
    rw [List.take_length]
    ((first|refine rG Γ hm ?_|refine rD Γ hm (by kernel_rfl) ?_);(conv=>whnf);repeat((first|refine aF ?_|refine aT ?_);(first|refine rG Γ hm ?_|refine rD Γ hm (by kernel_rfl) ?_);conv=>whnf))
    refine stepOp (good_stringT Γ.toTy (bs := hexL l) rfl rfl rfl rfl rfl rfl rfl (.row rfl)) rfl rfl ?_
    ((first|refine rG Γ hm ?_|refine rD Γ hm (by kernel_rfl) ?_);(conv=>whnf);repeat((first|refine aF ?_|refine aT ?_);(first|refine rG Γ hm ?_|refine rD Γ hm (by kernel_rfl) ?_);conv=>whnf))
    exact done0 rfl (.cons .tmp .nil) rfl rfl

end Go.Sy.YtjomehmhkcnadaaGreatDoor

namespace Go.Sy.YtjomehmhkcnadaaGreatDoor
open Go.Proofs

attribute [local irreducible] Go.Sy.G Go.Sy.DR
set_option maxRecDepth 100000
set_option maxHeartbeats 4000000

def splitGo (d : UInt8) : List UInt8 → List UInt8 → List ByteArray
  | cur, [] => [mkT cur]
  | cur, c :: r => if c = d then mkT cur :: splitGo d [] r else splitGo d (cur ++ [c]) r

theorem splitGo_none (d : UInt8) : ∀ (l cur : List UInt8), d ∉ l → splitGo d cur l = [mkT (cur ++ l)]
  | [], cur, _ => by rw [splitGo, List.append_nil]
  | c :: l, cur, h => by
    simp only [List.mem_cons, not_or] at h
    rw [splitGo, if_neg (Ne.symm h.1), splitGo_none d l _ h.2]
    simp

theorem splitGo_some (d : UInt8) : ∀ (l cur : List UInt8), d ∈ l → splitGo d cur l = mkT (cur ++ l.take (idxN d l)) :: splitGo d [] (l.drop (idxN d l + 1))
  | [], cur, h => by simp at h
  | c :: l, cur, h => by
    by_cases hc : c = d
    · subst hc
      rw [splitGo, if_pos rfl, idxN]
      simp [Lib.indexByte]
    · have h2 : d ∈ l := by
        simp only [List.mem_cons] at h
        exact h.resolve_left (Ne.symm hc)
      have h3 := (index_there h2).1
      have e : idxN d (c :: l) = idxN d l + 1 := by
        have e1 : Lib.indexByte (c :: l) d = Lib.indexByte l d + 1 := by
          rw [Lib.indexByte.eq_def]
          dsimp only
          rw [if_neg (by simpa using hc), if_neg (by simp; omega)]
        rw [idxN, idxN, e1]
        omega
      rw [splitGo, if_neg hc, splitGo_some d l _ h2, e]
      simp

theorem restL_shift (d : UInt8) (l : List UInt8) : ∀ j, restL d l (j + 1) = restL d (l.drop (idxN d l + 1)) j
  | 0 => rfl
  | j + 1 => by
    rw [restL, restL_shift d l j]
    rfl

theorem splitT_go (d : UInt8) : ∀ (k : Nat) (l : List UInt8), l.length ≤ k → splitT d (mkT l) = splitGo d [] l
  | 0, l, h => by
    rw [List.length_eq_zero_iff.1 (by omega : l.length = 0)]
    simp [splitT, splitGo, restL, mkT]
  | k + 1, l, h => by
    by_cases hd : d ∈ l
    · have h1 := count_behind hd
      have h2 := (index_there hd).2
      have h3 : (l.drop (idxN d l + 1)).length ≤ k := by rw [List.length_drop]; omega
      rw [splitGo_some d l [] hd, ← splitT_go d k _ h3]
      simp only [splitT, mkT_list]
      rw [← h1, List.range_succ_eq_map, List.map_cons, List.map_map, List.cons_append, List.nil_append, restL_shift]
      congr 2
      apply List.map_congr_left
      intro j _
      show mkT (pieceL d l (j + 1)) = _
      rw [pieceL, pieceL, restL_shift]
    · have h1 : l.count d = 0 := List.count_eq_zero.2 hd
      rw [splitGo_none d l [] hd]
      simp [splitT, mkT_list, h1, restL]

theorem splitT_is (d : UInt8) (s : ByteArray) : splitT d s = splitGo d [] s.data.toList := by
  rw [← splitT_go d _ _ (Nat.le_refl _), mkT_self]

theorem ref39WordsS (s : ByteArray) (hs : s.size ≤ 1000000) : Sy.Spec Tryz.prog 72 [strSV s] [] (.sl 1 strSV (splitT 32 s)) [] := contract Γ hm 100 F72 Tryz.ntmps72 rfl fun F hF => by
  have hsz : s.data.toList.length = s.size := rfl
  rw [splitT_is]
  ((conv=>whnf);repeat((first|refine aF ?_|refine aT ?_);(first|refine rG Γ hm ?_|refine rD Γ hm (by kernel_rfl) ?_);conv=>whnf))
  refine G_litR 6 strSV [⟨#[]⟩] rfl rfl ?_
  refine G_while (fun x : List ByteArray × Nat × Nat => splitGo 32 [] s.data.toList = x.1 ++ splitGo 32 ((s.data.toList.take x.2.2).drop x.2.1) (s.data.toList.drop x.2.2) ∧ x.2.1 ≤ x.2.2 ∧ x.2.2 ≤ s.size ∧ x.1.length ≤ x.2.2)
    (fun x => [(0, strSV s), (3, .osl 1000), (4, intSV x.2.1), (5, intSV x.2.2)]) (fun x => [(1000, .row 1 strSV (x.1 ++ [mkT ((s.data.toList.take x.2.2).drop x.2.1)]))]) (fun x => s.size - x.2.2) ([], 0, 0) [(1000, 6)] ⟨rfl, by simp, by simp, by simp⟩
    ⟨⟨rfl, rfl, rfl, rfl, rfl, rfl, rfl, rfl, trivial⟩, ⟨.inl rfl, rfl, trivial⟩, rfl, rfl⟩ ?_
  rintro ⟨D, f, i⟩ ⟨hI, hfi, his, hlen⟩
  dsimp only at hI hfi his hlen ⊢
  have hl1 : (D ++ [mkT ((s.data.toList.take i).drop f)]).length = D.length + 1 := by simp
  ((first|refine rG Γ hm ?_|refine rD Γ hm (by kernel_rfl) ?_);(conv=>whnf);repeat((first|refine aF ?_|refine aT ?_);(first|refine rG Γ hm ?_|refine rD Γ hm (by kernel_rfl) ?_);conv=>whnf))
  refine ⟨fun h => ?_, fun h => ?_⟩
  · have hlt : i < s.size := by have := of_decide_eq_true h; omega
    have hi0 : ((i : Nat) : Int).toNat < s.size := by omega
    have hlt' : i < s.data.toList.length := hlt
    have hdr : s.data.toList.drop i = s.data.toList[i] :: s.data.toList.drop (i + 1) := List.drop_eq_getElem_cons hlt'
    have htk : (s.data.toList.take (i + 1)).drop f = (s.data.toList.take i).drop f ++ [s.data.toList[i]] := by
      rw [List.take_succ_eq_append_getElem hlt', List.drop_append_of_le_length (by rw [List.length_take]; omega)]
    have hbg : bget s ((i : Nat) : Int).toNat = s.data.toList[i] := by rw [Int.toNat_natCast]; exact bget_eq hlt'
    rw [hdr, splitGo] at hI
    have hx1 : s.extract f (i + 1) = mkT ((s.data.toList.take (i + 1)).drop f) := by rw [← mkT_extract, mkT_self]
    have hx2 : s.extract (i + 1) (i + 1) = ⟨#[]⟩ := by
      have : s.extract (i + 1) (i + 1) = mkT ((s.data.toList.take (i + 1)).drop (i + 1)) := by rw [← mkT_extract, mkT_self]
      rw [this, List.drop_eq_nil_of_le (by rw [List.length_take]; omega)]; rfl
    have e0 : (s.data.toList.take (i + 1)).drop (i + 1) = [] := List.drop_eq_nil_of_le (by rw [List.length_take]; omega)
    generalize s.data.toList[i] = c at *
    have hcn := c.toNat_lt
    have n1 : ((i : Int) + 1).toNat = i + 1 := by omega
    ((first|refine rG Γ hm ?_|refine rD Γ hm (by kernel_rfl) ?_);(conv=>whnf);repeat((first|refine aF ?_|refine aT ?_);(first|refine rG Γ hm ?_|refine rD Γ hm (by kernel_rfl) ?_);conv=>whnf))
    refine ⟨by omega, hi0, ?_⟩
    rw [hbg]
    ((conv=>whnf);repeat((first|refine aF ?_|refine aT ?_);(first|refine rG Γ hm ?_|refine rD Γ hm (by kernel_rfl) ?_);conv=>whnf))
    refine ⟨fun h2 => ?_, fun h2 => ?_⟩
    · have h3 : c = 32 := UInt8.toNat_inj.1 (by have h8 : (c.toNat : Int) = 32 := by simpa using h2
                                                show c.toNat = 32; omega)
      rw [if_pos h3] at hI
      ((first|refine rG Γ hm ?_|refine rD Γ hm (by kernel_rfl) ?_);(conv=>whnf);repeat((first|refine aF ?_|refine aT ?_);(first|refine rG Γ hm ?_|refine rD Γ hm (by kernel_rfl) ?_);conv=>whnf))
      refine stepOp (good_appendT Γ.toTy 19 rfl rfl rfl rfl rfl (.row rfl) (.lit (e := strSV) (l := [⟨#[]⟩]) rfl rfl) (by simp) (by simp; omega) (by simp; omega)) rfl rfl ?_
      have hl2 : (D ++ [mkT ((s.data.toList.take i).drop f)] ++ [(⟨#[]⟩ : ByteArray)]).length = D.length + 2 := by simp
      obtain ⟨R, hR⟩ : ∃ R, D ++ [mkT ((s.data.toList.take i).drop f)] ++ [(⟨#[]⟩ : ByteArray)] = R := ⟨_, rfl⟩
      rw [hR] at hl2 ⊢
      ((first|refine rG Γ hm ?_|refine rD Γ hm (by kernel_rfl) ?_);(conv=>whnf);repeat((first|refine aF ?_|refine aT ?_);(first|refine rG Γ hm ?_|refine rD Γ hm (by kernel_rfl) ?_);conv=>whnf))
      refine ⟨by unfold I64; omega, ?_⟩
      ((conv=>whnf);repeat((first|refine aF ?_|refine aT ?_);(first|refine rG Γ hm ?_|refine rD Γ hm (by kernel_rfl) ?_);conv=>whnf))
      refine ⟨by unfold I64; omega, ?_⟩
      ((conv=>whnf);repeat((first|refine aF ?_|refine aT ?_);(first|refine rG Γ hm ?_|refine rD Γ hm (by kernel_rfl) ?_);conv=>whnf))
      refine ⟨by unfold I64; omega, ?_⟩
      ((conv=>whnf);repeat((first|refine aF ?_|refine aT ?_);(first|refine rG Γ hm ?_|refine rD Γ hm (by kernel_rfl) ?_);conv=>whnf))
      refine ⟨⟨by omega, by omega, by omega⟩, ?_⟩
      ((conv=>whnf);repeat((first|refine aF ?_|refine aT ?_);(first|refine rG Γ hm ?_|refine rD Γ hm (by kernel_rfl) ?_);conv=>whnf))
      rw [n1, hx2]
      refine ⟨by omega, by omega, ?_⟩
      ((conv=>whnf);repeat((first|refine aF ?_|refine aT ?_);(first|refine rG Γ hm ?_|refine rD Γ hm (by kernel_rfl) ?_);conv=>whnf))
      refine ⟨rfl, by omega, (⟨#[]⟩ : ByteArray), rfl, rfl, ?_⟩
      ((conv=>whnf);repeat((first|refine aF ?_|refine aT ?_);(first|refine rG Γ hm ?_|refine rD Γ hm (by kernel_rfl) ?_);conv=>whnf))
      refine ⟨by omega, hi0, ?_⟩
      rw [hbg]
      ((conv=>whnf);repeat((first|refine aF ?_|refine aT ?_);(first|refine rG Γ hm ?_|refine rD Γ hm (by kernel_rfl) ?_);conv=>whnf))
      refine ⟨fun _ => ?_, fun h4 => absurd h4 (by rw [h3]; simp)⟩
      ((first|refine rG Γ hm ?_|refine rD Γ hm (by kernel_rfl) ?_);(conv=>whnf);repeat((first|refine aF ?_|refine aT ?_);(first|refine rG Γ hm ?_|refine rD Γ hm (by kernel_rfl) ?_);conv=>whnf))
      refine ⟨by unfold I64; simp; omega, ?_⟩
      ((conv=>whnf);repeat((first|refine aF ?_|refine aT ?_);(first|refine rG Γ hm ?_|refine rD Γ hm (by kernel_rfl) ?_);conv=>whnf))
      refine ⟨by simp; omega, by simp; omega, ?_⟩
      ((conv=>whnf);repeat((first|refine aF ?_|refine aT ?_);(first|refine rG Γ hm ?_|refine rD Γ hm (by kernel_rfl) ?_);conv=>whnf))
      refine ⟨rfl, by simp; omega, (⟨#[]⟩ : ByteArray), rfl, rfl, ?_⟩
      ((conv=>whnf);repeat((first|refine aF ?_|refine aT ?_);(first|refine rG Γ hm ?_|refine rD Γ hm (by kernel_rfl) ?_);conv=>whnf))
      refine ⟨by unfold I64; omega, ?_⟩
      ((conv=>whnf);repeat((first|refine aF ?_|refine aT ?_);(first|refine rG Γ hm ?_|refine rD Γ hm (by kernel_rfl) ?_);conv=>whnf))
      refine G_whileN (D ++ [mkT ((s.data.toList.take i).drop f)], i + 1, i + 1) [(1000, 19)] ⟨?_, Nat.le_refl _, hlt, by simp; omega⟩ (by dsimp only; omega) ⟨⟨rfl, rfl, rfl, rfl, rfl, rfl, rfl, rfl, trivial⟩, ⟨.inl (congrArg (Ob.row 1 strSV) ?_), rfl, trivial⟩, rfl, rfl⟩
      · dsimp only
        rw [hI, e0, List.append_assoc]
        rfl
      · dsimp only
        rw [e0]
        have e5 : ((R.length : Int) - 1).toNat = R.length - 1 := by omega
        have hset : ∀ k, k = R.length - 1 → R.set k ⟨#[]⟩ = R := fun k hk => by
          subst hk
          rw [← hR]
          simp
        simp only [List.length_set]
        rw [e5, hset _ rfl, hset _ rfl, ← hR]
        rfl
    · have h3 : c ≠ 32 := fun e => by subst e; simp at h2
      rw [if_neg h3] at hI
      obtain ⟨R, hR⟩ : ∃ R, D ++ [mkT ((s.data.toList.take i).drop f)] = R := ⟨_, rfl⟩
      rw [hR] at hl1 ⊢
      ((first|refine rG Γ hm ?_|refine rD Γ hm (by kernel_rfl) ?_);(conv=>whnf);repeat((first|refine aF ?_|refine aT ?_);(first|refine rG Γ hm ?_|refine rD Γ hm (by kernel_rfl) ?_);conv=>whnf))
      refine ⟨by unfold I64; omega, ?_⟩
      ((conv=>whnf);repeat((first|refine aF ?_|refine aT ?_);(first|refine rG Γ hm ?_|refine rD Γ hm (by kernel_rfl) ?_);conv=>whnf))
      refine ⟨by unfold I64; omega, ?_⟩
      ((conv=>whnf);repeat((first|refine aF ?_|refine aT ?_);(first|refine rG Γ hm ?_|refine rD Γ hm (by kernel_rfl) ?_);conv=>whnf))
      refine ⟨⟨by omega, by omega, by omega⟩, ?_⟩
      ((conv=>whnf);repeat((first|refine aF ?_|refine aT ?_);(first|refine rG Γ hm ?_|refine rD Γ hm (by kernel_rfl) ?_);conv=>whnf))
      rw [n1, Int.toNat_natCast, hx1]
      refine ⟨by omega, by omega, ?_⟩
      ((conv=>whnf);repeat((first|refine aF ?_|refine aT ?_);(first|refine rG Γ hm ?_|refine rD Γ hm (by kernel_rfl) ?_);conv=>whnf))
      refine ⟨rfl, by omega, mkT ((s.data.toList.take (i + 1)).drop f), rfl, rfl, ?_⟩
      ((conv=>whnf);repeat((first|refine aF ?_|refine aT ?_);(first|refine rG Γ hm ?_|refine rD Γ hm (by kernel_rfl) ?_);conv=>whnf))
      refine ⟨by omega, hi0, ?_⟩
      rw [hbg]
      ((conv=>whnf);repeat((first|refine aF ?_|refine aT ?_);(first|refine rG Γ hm ?_|refine rD Γ hm (by kernel_rfl) ?_);conv=>whnf))
      refine ⟨fun h4 => absurd h4 (by rw [show ((c.toNat : Int) == 32) = false from h2]; simp), fun _ => ?_⟩
      ((first|refine rG Γ hm ?_|refine rD Γ hm (by kernel_rfl) ?_);(conv=>whnf);repeat((first|refine aF ?_|refine aT ?_);(first|refine rG Γ hm ?_|refine rD Γ hm (by kernel_rfl) ?_);conv=>whnf))
      refine ⟨by unfold I64; omega, ?_⟩
      ((conv=>whnf);repeat((first|refine aF ?_|refine aT ?_);(first|refine rG Γ hm ?_|refine rD Γ hm (by kernel_rfl) ?_);conv=>whnf))
      refine G_whileN (D, f, i + 1) [] ⟨by dsimp only; rw [hI, htk], by dsimp only; omega, hlt, by dsimp only; omega⟩ (by dsimp only; omega) ⟨⟨rfl, rfl, rfl, rfl, rfl, rfl, rfl, rfl, trivial⟩, ⟨.inl (congrArg (Ob.row 1 strSV) ?_), rfl, trivial⟩, rfl, rfl⟩
      dsimp only
      have e5 : ((R.length : Int) - 1).toNat = D.length := by omega
      rw [e5, ← hR, List.set_append_right _ _ (Nat.le_refl _), Nat.sub_self]
      rfl
  · have hie : i = s.data.toList.length := by have := of_decide_eq_false h; omega
    have hfin : D ++ [mkT ((s.data.toList.take i).drop f)] = splitGo 32 [] s.data.toList := by
      rw [hI, hie, List.take_length, List.drop_length, splitGo]
    rw [hfin]
    refine G_data 1000 rfl ?_
    ((first|refine rG Γ hm ?_|refine rD Γ hm (by kernel_rfl) ?_);(conv=>whnf);repeat((first|refine aF ?_|refine aT ?_);(first|refine rG Γ hm ?_|refine rD Γ hm (by kernel_rfl) ?_);conv=>whnf))
    exact done0 rfl (.cons .tmp .nil) rfl rfl

def digI (c : UInt8) : Int := if 48 ≤ c.toNat ∧ c.toNat ≤ 57 then (c.toNat : Int) - 48 else if 97 ≤ c.toNat ∧ c.toNat ≤ 102 then (c.toNat : Int) - 87 else 16

theorem digI_le (c : UInt8) : 0 ≤ digI c ∧ digI c ≤ 16 := by
  unfold digI
  split
  · omega
  split
  · omega
  · omega

theorem ref39DigitS (c : UInt8) : Sy.Spec Tryz.prog 100 [byteSV c] [] (intSV (digI c)) [] := contract Γ hm 100 F100 Tryz.ntmps100 rfl fun F hF => by
  have hres := digI.eq_1 c
  generalize digI c = res at *
  have hcn := c.toNat_lt
  have hu : IntKind.i64.wrap (c.toNat : Int) = c.toNat := by rw [IntKind.wrap_i64]; omega
  ((conv=>whnf);repeat((first|refine aF ?_|refine aT ?_);(first|refine rG Γ hm ?_|refine rD Γ hm (by kernel_rfl) ?_);conv=>whnf))
  refine ⟨fun h => ?_, fun h => ?_⟩
  · have h1 := of_decide_eq_true h
    ((first|refine rG Γ hm ?_|refine rD Γ hm (by kernel_rfl) ?_);(conv=>whnf);repeat((first|refine aF ?_|refine aT ?_);(first|refine rG Γ hm ?_|refine rD Γ hm (by kernel_rfl) ?_);conv=>whnf))
    refine ⟨fun h => ?_, fun h => ?_⟩
    · have h2 := of_decide_eq_true h
      rw [if_pos (by omega)] at hres
      subst hres
      ((first|refine rG Γ hm ?_|refine rD Γ hm (by kernel_rfl) ?_);(conv=>whnf);repeat((first|refine aF ?_|refine aT ?_);(first|refine rG Γ hm ?_|refine rD Γ hm (by kernel_rfl) ?_);conv=>whnf))
      rw [hu]
      refine ⟨by unfold I64; omega, ?_⟩
      ((conv=>whnf);repeat((first|refine aF ?_|refine aT ?_);(first|refine rG Γ hm ?_|refine rD Γ hm (by kernel_rfl) ?_);conv=>whnf))
      exact done0 rfl (.cons .tmp .nil) rfl rfl
    · have h2 := of_decide_eq_false h
      rw [if_neg (by omega)] at hres
      ((first|refine rG Γ hm ?_|refine rD Γ hm (by kernel_rfl) ?_);(conv=>whnf);repeat((first|refine aF ?_|refine aT ?_);(first|refine rG Γ hm ?_|refine rD Γ hm (by kernel_rfl) ?_);conv=>whnf))
      refine ⟨fun h => ?_, fun h => ?_⟩
      · have h3 := of_decide_eq_true h
        ((first|refine rG Γ hm ?_|refine rD Γ hm (by kernel_rfl) ?_);(conv=>whnf);repeat((first|refine aF ?_|refine aT ?_);(first|refine rG Γ hm ?_|refine rD Γ hm (by kernel_rfl) ?_);conv=>whnf))
        refine ⟨fun h => ?_, fun h => ?_⟩
        · have h4 := of_decide_eq_true h
          rw [if_pos (by omega)] at hres
          subst hres
          ((first|refine rG Γ hm ?_|refine rD Γ hm (by kernel_rfl) ?_);(conv=>whnf);repeat((first|refine aF ?_|refine aT ?_);(first|refine rG Γ hm ?_|refine rD Γ hm (by kernel_rfl) ?_);conv=>whnf))
          rw [hu]
          refine ⟨by unfold I64; omega, ?_⟩
          ((conv=>whnf);repeat((first|refine aF ?_|refine aT ?_);(first|refine rG Γ hm ?_|refine rD Γ hm (by kernel_rfl) ?_);conv=>whnf))
          exact done0 rfl (.cons .tmp .nil) rfl rfl
        · have h4 := of_decide_eq_false h
          rw [if_neg (by omega)] at hres
          subst hres
          ((first|refine rG Γ hm ?_|refine rD Γ hm (by kernel_rfl) ?_);(conv=>whnf);repeat((first|refine aF ?_|refine aT ?_);(first|refine rG Γ hm ?_|refine rD Γ hm (by kernel_rfl) ?_);conv=>whnf))
          exact done0 rfl (.cons .tmp .nil) rfl rfl
      · have h3 := of_decide_eq_false h
        rw [if_neg (by omega)] at hres
        subst hres
        ((first|refine rG Γ hm ?_|refine rD Γ hm (by kernel_rfl) ?_);(conv=>whnf);repeat((first|refine aF ?_|refine aT ?_);(first|refine rG Γ hm ?_|refine rD Γ hm (by kernel_rfl) ?_);conv=>whnf))
        exact done0 rfl (.cons .tmp .nil) rfl rfl
  · have h1 := of_decide_eq_false h
    rw [if_neg (by omega), if_neg (by omega)] at hres
    subst hres
    ((first|refine rG Γ hm ?_|refine rD Γ hm (by kernel_rfl) ?_);(conv=>whnf);repeat((first|refine aF ?_|refine aT ?_);(first|refine rG Γ hm ?_|refine rD Γ hm (by kernel_rfl) ?_);conv=>whnf))
    refine ⟨fun h => absurd (of_decide_eq_true h) (by omega), fun _ => ?_⟩
    ((first|refine rG Γ hm ?_|refine rD Γ hm (by kernel_rfl) ?_);(conv=>whnf);repeat((first|refine aF ?_|refine aT ?_);(first|refine rG Γ hm ?_|refine rD Γ hm (by kernel_rfl) ?_);conv=>whnf))
    exact done0 rfl (.cons .tmp .nil) rfl rfl

theorem hex_all : ∀ k : Fin 256, Lib.indexByte hexC.data.toList (UInt8.ofNat k.1) = if digI (UInt8.ofNat k.1) = 16 then -1 else digI (UInt8.ofNat k.1) := by decide +kernel
theorem hex_index (c : UInt8) : Lib.indexByte hexC.data.toList c = if digI c = 16 then -1 else digI c := by
  have := hex_all ⟨c.toNat, c.toNat_lt⟩
  simpa using this

def hexV (a b : UInt8) : UInt8 := UInt8.ofNat ((digI a).toNat * 16 + (digI b).toNat)
theorem or_all : ∀ x y : Fin 16, IntKind.u8.wrap (bits .or .i64 (IntKind.i64.wrap ((x.1 : Int) * 2 ^ (min (Int.toNat 4) IntKind.i64.bits))) (y.1 : Int)) = ((UInt8.ofNat (x.1 * 16 + y.1)).toNat : Int) := by decide +kernel

theorem hexV_or {a b : UInt8} (ha : digI a ≤ 15) (hb : digI b ≤ 15) : IntKind.u8.wrap (bits .or .i64 (IntKind.i64.wrap (digI a * 2 ^ (min (Int.toNat 4) IntKind.i64.bits))) (digI b)) = ((hexV a b).toNat : Int) := by
  have h1 := digI_le a
  have h2 := digI_le b
  have := or_all ⟨(digI a).toNat, by omega⟩ ⟨(digI b).toNat, by omega⟩
  dsimp only at this
  rw [Int.toNat_of_nonneg h1.1, Int.toNat_of_nonneg h2.1] at this
  exact this

theorem hexV_add {a b : UInt8} (ha : digI a ≤ 15) (hb : digI b ≤ 15) : IntKind.u8.wrap (digI a * 16 + digI b) = ((hexV a b).toNat : Int) := by
  have h1 := digI_le a
  have h2 := digI_le b
  rw [IntKind.wrap_u8, hexV, UInt8.toNat_ofNat_of_lt' (by show _ < 256; omega)]
  omega

def pairsL : List UInt8 → Option (List UInt8)
  | a :: b :: r => if digI a ≤ 15 ∧ digI b ≤ 15 then (pairsL r).map (hexV a b :: ·) else none
  | _ => some []

def readBP (s : ByteArray) : List UInt8 × Bool :=
  if s.data.toList = [45] then ([], true) else match pairsL s.data.toList with
    | none => ([], false)
    | some b => (b, decide (0 < s.size) && decide (s.size % 2 = 0) && decide (b.length ≤ 1600))
def readBR (s : ByteArray) : List UInt8 × Bool :=
  if s.data.toList = [45] then ([], true) else if s.size = 0 ∨ s.size % 2 = 1 ∨ 3200 < s.size then ([], false) else match pairsL s.data.toList with
    | none => ([], false)
    | some b => (b, true)

theorem pairsL_length : ∀ (k : Nat) (l : List UInt8), l.length ≤ k → ∀ b, pairsL l = some b → b.length = l.length / 2
  | 0, [], _, b, hb => by simp only [pairsL, Option.some.injEq] at hb; subst hb; rfl
  | 0, _ :: _, h, _, _ => by simp at h
  | k + 1, [], _, b, hb => by simp only [pairsL, Option.some.injEq] at hb; subst hb; rfl
  | k + 1, [x], _, b, hb => by simp only [pairsL, Option.some.injEq] at hb; subst hb; simp
  | k + 1, x :: y :: r, h, b, hb => by
    rw [pairsL] at hb
    split at hb
    · cases hr : pairsL r with
      | none => rw [hr] at hb; cases hb
      | some c =>
        rw [hr] at hb
        simp only [Option.map_some, Option.some.injEq] at hb
        subst hb
        have := pairsL_length k r (by simp at h; omega) c hr
        simp only [List.length_cons]; omega
    · cases hb

/-- Both read alike. -/
theorem readB_eq (s : ByteArray) : (readBP s).2 = (readBR s).2 ∧ ((readBR s).2 = true → (readBP s).1 = (readBR s).1) := by
  have hsz : s.data.toList.length = s.size := rfl
  unfold readBP readBR
  split
  · exact ⟨rfl, fun _ => rfl⟩
  cases hp : pairsL s.data.toList with
  | none =>
    dsimp only
    split
    · exact ⟨rfl, fun h => rfl⟩
    · exact ⟨rfl, fun h => rfl⟩
  | some b =>
    have hb := pairsL_length _ _ (Nat.le_refl _) b hp
    dsimp only
    split
    · refine ⟨?_, fun h => by cases h⟩
      dsimp only
      rw [← Bool.not_eq_true]
      intro h
      simp only [Bool.and_eq_true, decide_eq_true_eq] at h
      omega
    · refine ⟨?_, fun _ => rfl⟩
      dsimp only
      simp only [Bool.and_eq_true, decide_eq_true_eq]
      omega

theorem eq45 (s : ByteArray) : (s == ⟨#[45]⟩) = decide (s.data.toList = [45]) := by
  cases h : (s == (⟨#[45]⟩ : ByteArray))
  · rw [decide_eq_false]
    intro e
    have : s = ⟨#[45]⟩ := ext_list e
    subst this
    cases h
  · rw [decide_eq_true]
    have e : s.data = (⟨#[45]⟩ : ByteArray).data := by simpa using (show (s.data == (⟨#[45]⟩ : ByteArray).data) = true from h)
    rw [e]

end Go.Sy.YtjomehmhkcnadaaGreatDoor

namespace Go.Sy.YtjomehmhkcnadaaGreatDoor
open Go.Proofs

attribute [local irreducible] Go.Sy.G Go.Sy.DR
set_option maxRecDepth 20000
set_option maxHeartbeats 4000000

theorem sitePortedS (n : Net) (i : Int) : Sy.Spec Tryz.prog 26 [netSV n, intSV i] [] (boolSV (placeB i n.ports.length)) [] := contract Γ hm 100 F26 Tryz.ntmps26 rfl fun F hF => by
  ((conv=>whnf);repeat((first|refine aF ?_|refine aT ?_);(first|refine rG Γ hm ?_|refine rD Γ hm (by kernel_rfl) ?_);conv=>whnf))
  refine ⟨fun h => ?_, fun h => ?_⟩
  · have h1 : 0 ≤ i := of_decide_eq_true h
    ((first|refine rG Γ hm ?_|refine rD Γ hm (by kernel_rfl) ?_);(conv=>whnf);repeat((first|refine aF ?_|refine aT ?_);(first|refine rG Γ hm ?_|refine rD Γ hm (by kernel_rfl) ?_);conv=>whnf))
    refine done0 rfl (.cons .tmp .nil) (congrArg boolSV ?_) rfl
    rw [placeB, decide_eq_true h1, Bool.true_and]
  · have h1 : ¬ 0 ≤ i := of_decide_eq_false h
    ((first|refine rG Γ hm ?_|refine rD Γ hm (by kernel_rfl) ?_);(conv=>whnf);repeat((first|refine aF ?_|refine aT ?_);(first|refine rG Γ hm ?_|refine rD Γ hm (by kernel_rfl) ?_);conv=>whnf))
    refine done0 rfl (.cons .tmp .nil) (congrArg boolSV ?_) rfl
    rw [placeB, decide_eq_false h1, Bool.false_and]

theorem sitePortS (n : Net) (hb : netRightB n = true) (hnm : Named n) (i : Int) (hi : 0 ≤ i ∧ i < n.ports.length) : Sy.Spec Tryz.prog 28 [netSV n, intSV i] [] (strSV (portText n i)) [] := contract Γ hm 100 F28 Tryz.ntmps28 rfl fun F hF => by
  have hk : i.toNat < n.ports.length := by omega
  have hf := e_port_dev hb hk
  have e1 : nth n.ports i = n.ports[i.toNat] := nth_eq hk
  have hpn := hnm.2 _ (List.getElem_mem hk)
  rw [portText, e1]
  obtain ⟨p, hp⟩ : ∃ p, n.ports[i.toNat] = p := ⟨_, rfl⟩
  rw [hp] at hf hpn ⊢
  have e2 : nth n.devices p.dev = n.devices[p.dev.toNat] := nth_eq hf.2
  rw [e2]
  have hdn := hnm.1 _ (List.getElem_mem hf.2)
  obtain ⟨x, hx⟩ : ∃ x, n.devices[p.dev.toNat]'hf.2 = x := ⟨_, rfl⟩
  rw [hx] at hdn ⊢
  have hs1 : (⟨#[46]⟩ : ByteArray).size = 1 := rfl
  have hs2 := size_app x.name ⟨#[46]⟩
  ((conv=>whnf);repeat((first|refine aF ?_|refine aT ?_);(first|refine rG Γ hm ?_|refine rD Γ hm (by kernel_rfl) ?_);conv=>whnf))
  refine ⟨rfl, hi.1, hk, ?_⟩
  rw [hp]
  ((conv=>whnf);repeat((first|refine aF ?_|refine aT ?_);(first|refine rG Γ hm ?_|refine rD Γ hm (by kernel_rfl) ?_);conv=>whnf))
  refine ⟨rfl, hf.1, hf.2, ?_⟩
  rw [hx]
  ((conv=>whnf);repeat((first|refine aF ?_|refine aT ?_);(first|refine rG Γ hm ?_|refine rD Γ hm (by kernel_rfl) ?_);conv=>whnf))
  refine ⟨by omega, ?_⟩
  ((conv=>whnf);repeat((first|refine aF ?_|refine aT ?_);(first|refine rG Γ hm ?_|refine rD Γ hm (by kernel_rfl) ?_);conv=>whnf))
  refine ⟨by omega, ?_⟩
  ((conv=>whnf);repeat((first|refine aF ?_|refine aT ?_);(first|refine rG Γ hm ?_|refine rD Γ hm (by kernel_rfl) ?_);conv=>whnf))
  refine ⟨(by kernel_rfl), ?_⟩
  ((conv=>whnf);repeat((first|refine aF ?_|refine aT ?_);(first|refine rG Γ hm ?_|refine rD Γ hm (by kernel_rfl) ?_);conv=>whnf))
  exact done0 rfl (.cons .tmp .nil) rfl rfl

theorem ref39PortS (n : Net) (hb : netRightB n = true) (hnm : Named n) (i : Int) (hi : 0 ≤ i ∧ i < n.ports.length) : Sy.Spec Tryz.prog 32 [netSV n, intSV i] [] (strSV (portText n i)) [] := contract Γ hm 100 F32 Tryz.ntmps32 rfl fun F hF => by
  have hk : i.toNat < n.ports.length := by omega
  have hf := e_port_dev hb hk
  have e1 : nth n.ports i = n.ports[i.toNat] := nth_eq hk
  have hpn := hnm.2 _ (List.getElem_mem hk)
  rw [portText, e1]
  obtain ⟨p, hp⟩ : ∃ p, n.ports[i.toNat] = p := ⟨_, rfl⟩
  rw [hp] at hf hpn ⊢
  have e2 : nth n.devices p.dev = n.devices[p.dev.toNat] := nth_eq hf.2
  rw [e2]
  have hdn := hnm.1 _ (List.getElem_mem hf.2)
  obtain ⟨x, hx⟩ : ∃ x, n.devices[p.dev.toNat]'hf.2 = x := ⟨_, rfl⟩
  rw [hx] at hdn ⊢
  have hs1 : (⟨#[46]⟩ : ByteArray).size = 1 := rfl
  have hs2 := size_app x.name ⟨#[46]⟩
  ((conv=>whnf);repeat((first|refine aF ?_|refine aT ?_);(first|refine rG Γ hm ?_|refine rD Γ hm (by kernel_rfl) ?_);conv=>whnf))
  refine ⟨rfl, hi.1, hk, ?_⟩
  rw [hp]
  ((conv=>whnf);repeat((first|refine aF ?_|refine aT ?_);(first|refine rG Γ hm ?_|refine rD Γ hm (by kernel_rfl) ?_);conv=>whnf))
  refine ⟨rfl, hf.1, hf.2, ?_⟩
  rw [hx]
  ((conv=>whnf);repeat((first|refine aF ?_|refine aT ?_);(first|refine rG Γ hm ?_|refine rD Γ hm (by kernel_rfl) ?_);conv=>whnf))
  refine ⟨by omega, ?_⟩
  ((conv=>whnf);repeat((first|refine aF ?_|refine aT ?_);(first|refine rG Γ hm ?_|refine rD Γ hm (by kernel_rfl) ?_);conv=>whnf))
  refine ⟨rfl, hi.1, hk, ?_⟩
  rw [hp]
  ((conv=>whnf);repeat((first|refine aF ?_|refine aT ?_);(first|refine rG Γ hm ?_|refine rD Γ hm (by kernel_rfl) ?_);conv=>whnf))
  refine ⟨by omega, ?_⟩
  ((conv=>whnf);repeat((first|refine aF ?_|refine aT ?_);(first|refine rG Γ hm ?_|refine rD Γ hm (by kernel_rfl) ?_);conv=>whnf))
  refine ⟨(by kernel_rfl), ?_⟩
  ((conv=>whnf);repeat((first|refine aF ?_|refine aT ?_);(first|refine rG Γ hm ?_|refine rD Γ hm (by kernel_rfl) ?_);conv=>whnf))
  exact done0 rfl (.cons .tmp .nil) rfl rfl

end Go.Sy.YtjomehmhkcnadaaGreatDoor

namespace Go.Sy.YtjomehmhkcnadaaGreatDoor
open Go.Proofs

attribute [local irreducible] Go.Sy.G Go.Sy.DR
set_option maxRecDepth 20000
set_option maxHeartbeats 4000000

def endT (n : Net) (i : Int) : ByteArray := if placeB i n.ports.length = true ∧ netRightB n = true then portText n i else ⟨#[45]⟩

theorem placeB_in {i : Int} {n : Nat} (h : placeB i n = true) : 0 ≤ i ∧ i < n := by simpa [placeB] using h

theorem machineEndS (n : Net) (hn : n.Fin) (hnm : Named n) (i : Int) : Sy.Spec Tryz.prog 35 [netSV n, intSV i] [] (strSV (endT n i)) [] := contract Γ hm 100 F35 Tryz.ntmps35 rfl fun F hF => by
  have q1 := sitePortedS n i
  have q2 := namesRightS n hn
  have q3 := fun hb hi => sitePortS n hb hnm i hi
  have he := endT.eq_1 n i
  generalize endT n i = r at *
  ((conv=>whnf);repeat((first|refine aF ?_|refine aT ?_);(first|refine rG Γ hm ?_|refine rD Γ hm (by kernel_rfl) ?_);conv=>whnf))
  refine call0 q1 F26 rfl rfl rfl rfl rfl ?_
  cases hp : placeB i n.ports.length
  · rw [if_neg (by simp [hp])] at he
    subst he
    ((first|refine rG Γ hm ?_|refine rD Γ hm (by kernel_rfl) ?_);(conv=>whnf);repeat((first|refine aF ?_|refine aT ?_);(first|refine rG Γ hm ?_|refine rD Γ hm (by kernel_rfl) ?_);conv=>whnf))
    exact done0 rfl (.cons .tmp .nil) rfl rfl
  ((first|refine rG Γ hm ?_|refine rD Γ hm (by kernel_rfl) ?_);(conv=>whnf);repeat((first|refine aF ?_|refine aT ?_);(first|refine rG Γ hm ?_|refine rD Γ hm (by kernel_rfl) ?_);conv=>whnf))
  refine call0 q2 F18 rfl rfl rfl rfl rfl ?_
  cases hb : netRightB n
  · rw [if_neg (by simp [hb])] at he
    subst he
    ((first|refine rG Γ hm ?_|refine rD Γ hm (by kernel_rfl) ?_);(conv=>whnf);repeat((first|refine aF ?_|refine aT ?_);(first|refine rG Γ hm ?_|refine rD Γ hm (by kernel_rfl) ?_);conv=>whnf))
    exact done0 rfl (.cons .tmp .nil) rfl rfl
  rw [if_pos ⟨hp, hb⟩] at he
  subst he
  ((first|refine rG Γ hm ?_|refine rD Γ hm (by kernel_rfl) ?_);(conv=>whnf);repeat((first|refine aF ?_|refine aT ?_);(first|refine rG Γ hm ?_|refine rD Γ hm (by kernel_rfl) ?_);conv=>whnf))
  refine call0 (q3 hb (placeB_in hp)) F28 rfl rfl rfl rfl rfl ?_
  ((first|refine rG Γ hm ?_|refine rD Γ hm (by kernel_rfl) ?_);(conv=>whnf);repeat((first|refine aF ?_|refine aT ?_);(first|refine rG Γ hm ?_|refine rD Γ hm (by kernel_rfl) ?_);conv=>whnf))
  exact done0 rfl (.cons .tmp .nil) rfl rfl

theorem ref39EndS (n : Net) (hn : n.Fin) (hnm : Named n) (i : Int) : Sy.Spec Tryz.prog 37 [netSV n, intSV i] [] (strSV (endT n i)) [] := contract Γ hm 100 F37 Tryz.ntmps37 rfl fun F hF => by
  have q1 := ref15PlaceS i n.ports.length
  have q2 := ref15RightS n hn
  have q3 := fun hb hi => ref39PortS n hb hnm i hi
  have he := endT.eq_1 n i
  generalize endT n i = r at *
  ((conv=>whnf);repeat((first|refine aF ?_|refine aT ?_);(first|refine rG Γ hm ?_|refine rD Γ hm (by kernel_rfl) ?_);conv=>whnf))
  refine call0 q2 F20 rfl rfl rfl rfl rfl ?_
  cases hb : netRightB n
  · rw [if_neg (by simp [hb])] at he
    subst he
    ((first|refine rG Γ hm ?_|refine rD Γ hm (by kernel_rfl) ?_);(conv=>whnf);repeat((first|refine aF ?_|refine aT ?_);(first|refine rG Γ hm ?_|refine rD Γ hm (by kernel_rfl) ?_);conv=>whnf))
    exact done0 rfl (.cons .tmp .nil) rfl rfl
  ((first|refine rG Γ hm ?_|refine rD Γ hm (by kernel_rfl) ?_);(conv=>whnf);repeat((first|refine aF ?_|refine aT ?_);(first|refine rG Γ hm ?_|refine rD Γ hm (by kernel_rfl) ?_);conv=>whnf))
  refine call0 q1 F31 rfl rfl rfl rfl rfl ?_
  cases hp : placeB i n.ports.length
  · rw [if_neg (by simp [hp])] at he
    subst he
    ((first|refine rG Γ hm ?_|refine rD Γ hm (by kernel_rfl) ?_);(conv=>whnf);repeat((first|refine aF ?_|refine aT ?_);(first|refine rG Γ hm ?_|refine rD Γ hm (by kernel_rfl) ?_);conv=>whnf))
    exact done0 rfl (.cons .tmp .nil) rfl rfl
  rw [if_pos ⟨hp, hb⟩] at he
  subst he
  ((first|refine rG Γ hm ?_|refine rD Γ hm (by kernel_rfl) ?_);(conv=>whnf);repeat((first|refine aF ?_|refine aT ?_);(first|refine rG Γ hm ?_|refine rD Γ hm (by kernel_rfl) ?_);conv=>whnf))
  refine call0 (q3 hb (placeB_in hp)) F32 rfl rfl rfl rfl rfl ?_
  ((first|refine rG Γ hm ?_|refine rD Γ hm (by kernel_rfl) ?_);(conv=>whnf);repeat((first|refine aF ?_|refine aT ?_);(first|refine rG Γ hm ?_|refine rD Γ hm (by kernel_rfl) ?_);conv=>whnf))
  exact done0 rfl (.cons .tmp .nil) rfl rfl

end Go.Sy.YtjomehmhkcnadaaGreatDoor

namespace Go.Sy.YtjomehmhkcnadaaGreatDoor
open Go.Proofs

attribute [local irreducible] Go.Sy.G Go.Sy.DR
set_option maxRecDepth 20000
set_option maxHeartbeats 4000000

def placeT (w : Int) : ByteArray := if w = 1 then ⟨#[99, 111, 110, 102, 105, 103]⟩ else if w = 2 then ⟨#[112, 111, 108, 105, 99, 121]⟩ else ⟨#[45]⟩

theorem machinePlaceS (w : Int) : Sy.Spec Tryz.prog 36 [intSV w] [] (strSV (placeT w)) [] := contract Γ hm 100 F36 Tryz.ntmps36 rfl fun F hF => by
  have he := placeT.eq_1 w
  generalize placeT w = r at *
  ((conv=>whnf);repeat((first|refine aF ?_|refine aT ?_);(first|refine rG Γ hm ?_|refine rD Γ hm (by kernel_rfl) ?_);conv=>whnf))
  refine ⟨fun h => ?_, fun h => ?_⟩
  · rw [if_pos (by simpa using h)] at he
    subst he
    ((first|refine rG Γ hm ?_|refine rD Γ hm (by kernel_rfl) ?_);(conv=>whnf);repeat((first|refine aF ?_|refine aT ?_);(first|refine rG Γ hm ?_|refine rD Γ hm (by kernel_rfl) ?_);conv=>whnf))
    exact done0 rfl (.cons .tmp .nil) rfl rfl
  rw [if_neg (by simpa using h)] at he
  ((first|refine rG Γ hm ?_|refine rD Γ hm (by kernel_rfl) ?_);(conv=>whnf);repeat((first|refine aF ?_|refine aT ?_);(first|refine rG Γ hm ?_|refine rD Γ hm (by kernel_rfl) ?_);conv=>whnf))
  refine ⟨fun h => ?_, fun h => ?_⟩
  · rw [if_pos (by simpa using h)] at he
    subst he
    ((first|refine rG Γ hm ?_|refine rD Γ hm (by kernel_rfl) ?_);(conv=>whnf);repeat((first|refine aF ?_|refine aT ?_);(first|refine rG Γ hm ?_|refine rD Γ hm (by kernel_rfl) ?_);conv=>whnf))
    exact done0 rfl (.cons .tmp .nil) rfl rfl
  · rw [if_neg (by simpa using h)] at he
    subst he
    ((first|refine rG Γ hm ?_|refine rD Γ hm (by kernel_rfl) ?_);(conv=>whnf);repeat((first|refine aF ?_|refine aT ?_);(first|refine rG Γ hm ?_|refine rD Γ hm (by kernel_rfl) ?_);conv=>whnf))
    exact done0 rfl (.cons .tmp .nil) rfl rfl

/-- The first digits written, zeros behind. -/
def hexU (l : List UInt8) (j : Nat) : List UInt8 := hexL (l.take j) ++ List.replicate (2 * l.length - 2 * j) 0

theorem hexU_length (l : List UInt8) (j : Nat) (h : j ≤ l.length) : (hexU l j).length = 2 * l.length := by
  rw [hexU, List.length_append, hexL_length, List.length_take, List.length_replicate]; omega

theorem hexU_next (l : List UInt8) (j : Nat) (h : j < l.length) : ((hexU l j).set (2 * j) (hexD (l[j].toNat / 16))).set (2 * j + 1) (hexD (l[j].toNat % 16)) = hexU l (j + 1) := by
  have hl : (hexL (l.take j)).length = 2 * j := by rw [hexL_length, List.length_take]; omega
  have hs : hexL (l.take (j + 1)) = hexL (l.take j) ++ [hexD (l[j].toNat / 16), hexD (l[j].toNat % 16)] := by
    rw [hexL, hexL, List.take_succ_eq_append_getElem h, List.flatMap_append]; rfl
  rw [hexU, hexU, hs]
  obtain ⟨k, hk⟩ : ∃ k, 2 * l.length - 2 * j = k + 2 := ⟨2 * l.length - 2 * j - 2, by omega⟩
  rw [hk, show 2 * l.length - 2 * (j + 1) = k by omega, List.replicate_succ, List.replicate_succ]
  generalize hexL (l.take j) = u at *
  rw [List.set_append_right _ _ (by omega), show 2 * j - u.length = 0 by omega, List.set_cons_zero, List.set_append_right _ _ (by omega), show 2 * j + 1 - u.length = 1 by omega]
  simp

theorem ref39BytesS (l : List UInt8) (hl : l.length < 1000000) : Sy.Spec Tryz.prog 34 [.sl 1 byteSV l] [] (strSV (hexT l)) [] := contract Γ hm 100 F34 Tryz.ntmps34 rfl fun F hF => by
  ((conv=>whnf);repeat((first|refine aF ?_|refine aT ?_);(first|refine rG Γ hm ?_|refine rD Γ hm (by kernel_rfl) ?_);conv=>whnf))
  refine ⟨fun h => ?_, fun h => ?_⟩
  · have h0 : l = [] := List.length_eq_zero_iff.1 (by have : (l.length : Int) = 0 := by simpa using h
                                                      omega)
    rw [hexT, if_pos h0]
    ((first|refine rG Γ hm ?_|refine rD Γ hm (by kernel_rfl) ?_);(conv=>whnf);repeat((first|refine aF ?_|refine aT ?_);(first|refine rG Γ hm ?_|refine rD Γ hm (by kernel_rfl) ?_);conv=>whnf))
    exact done0 rfl (.cons .tmp .nil) rfl rfl
  have h0 : l ≠ [] := fun e => by subst e; simp at h
  rw [hexT, if_neg h0]
  have h2 : (2 * (l.length : Int)) = ((2 * l.length : Nat) : Int) := by omega
  ((first|refine rG Γ hm ?_|refine rD Γ hm (by kernel_rfl) ?_);(conv=>whnf);repeat((first|refine aF ?_|refine aT ?_);(first|refine rG Γ hm ?_|refine rD Γ hm (by kernel_rfl) ?_);conv=>whnf))
  refine ⟨by unfold I64; omega, ?_⟩
  ((conv=>whnf);repeat((first|refine aF ?_|refine aT ?_);(first|refine rG Γ hm ?_|refine rD Γ hm (by kernel_rfl) ?_);conv=>whnf))
  refine stepOp (good_makeSlice Γ.toTy (d := 12) (n := 2 * l.length) byteSV 0 rfl rfl rfl rfl rfl rfl (congrArg (fun z => SV.val (.int .i64 z)) h2) (congrArg (fun z => SV.val (.int .i64 z)) h2) (by omega) (by omega) rfl rfl rfl) rfl rfl ?_
  ((first|refine rG Γ hm ?_|refine rD Γ hm (by kernel_rfl) ?_);(conv=>whnf);repeat((first|refine aF ?_|refine aT ?_);(first|refine rG Γ hm ?_|refine rD Γ hm (by kernel_rfl) ?_);conv=>whnf))
  refine G_count l.length (fun j => [(0, .sl 1 byteSV l), (3, strSV hexC), (4, .osl 1000), (5, intSV j)]) (fun j => [(1000, .row 1 byteSV (hexU l j))]) [(1000, 12)]
    ⟨⟨rfl, rfl, rfl, rfl, rfl, rfl, rfl, rfl, trivial⟩, ⟨.inl rfl, rfl, trivial⟩, rfl, rfl⟩ ?_
  intro j hj
  have hul := hexU_length l j hj
  ((first|refine rG Γ hm ?_|refine rD Γ hm (by kernel_rfl) ?_);(conv=>whnf);repeat((first|refine aF ?_|refine aT ?_);(first|refine rG Γ hm ?_|refine rD Γ hm (by kernel_rfl) ?_);conv=>whnf))
  refine ⟨fun h => ?_, fun h => ?_⟩
  · have hlt : j < l.length := by simpa using h
    have hj0 : ((j : Nat) : Int).toNat < l.length := by simpa using hlt
    have hnx := hexU_next l j hlt
    obtain ⟨c, hc⟩ : ∃ c, l[((j : Nat) : Int).toNat]'hj0 = c := ⟨_, rfl⟩
    have hc' : l[j] = c := hc
    rw [hc'] at hnx
    generalize hexU l j = u at *
    ((first|refine rG Γ hm ?_|refine rD Γ hm (by kernel_rfl) ?_);(conv=>whnf);repeat((first|refine aF ?_|refine aT ?_);(first|refine rG Γ hm ?_|refine rD Γ hm (by kernel_rfl) ?_);conv=>whnf))
    have hc2 := c.toNat_lt
    refine ⟨by unfold I64; omega, ?_⟩
    ((conv=>whnf);repeat((first|refine aF ?_|refine aT ?_);(first|refine rG Γ hm ?_|refine rD Γ hm (by kernel_rfl) ?_);conv=>whnf))
    refine ⟨rfl, by omega, hj0, ?_⟩
    rw [hc]
    ((conv=>whnf);repeat((first|refine aF ?_|refine aT ?_);(first|refine rG Γ hm ?_|refine rD Γ hm (by kernel_rfl) ?_);conv=>whnf))
    refine ⟨by decide, ?_⟩
    ((conv=>whnf);repeat((first|refine aF ?_|refine aT ?_);(first|refine rG Γ hm ?_|refine rD Γ hm (by kernel_rfl) ?_);conv=>whnf))
    have d1 : IntKind.u8.wrap ((c.toNat : Int).tdiv 16) = ((c.toNat / 16 : Nat) : Int) := by
      rw [Int.tdiv_eq_ediv_of_nonneg (by omega), IntKind.wrap_u8]; omega
    have d2 : (c.toNat : Int).tmod 16 = ((c.toNat % 16 : Nat) : Int) := by
      rw [Int.tmod_eq_emod_of_nonneg (by omega)]; omega
    rw [d1]
    refine ⟨by omega, by show _ < 16; omega, ?_⟩
    ((conv=>whnf);repeat((first|refine aF ?_|refine aT ?_);(first|refine rG Γ hm ?_|refine rD Γ hm (by kernel_rfl) ?_);conv=>whnf))
    refine ⟨by omega, by omega, ?_⟩
    ((conv=>whnf);repeat((first|refine aF ?_|refine aT ?_);(first|refine rG Γ hm ?_|refine rD Γ hm (by kernel_rfl) ?_);conv=>whnf))
    refine ⟨rfl, by omega, bget hexC (c.toNat / 16), rfl, rfl, ?_⟩
    ((conv=>whnf);repeat((first|refine aF ?_|refine aT ?_);(first|refine rG Γ hm ?_|refine rD Γ hm (by kernel_rfl) ?_);conv=>whnf))
    refine ⟨by unfold I64; omega, ?_⟩
    ((conv=>whnf);repeat((first|refine aF ?_|refine aT ?_);(first|refine rG Γ hm ?_|refine rD Γ hm (by kernel_rfl) ?_);conv=>whnf))
    refine ⟨by unfold I64; omega, ?_⟩
    ((conv=>whnf);repeat((first|refine aF ?_|refine aT ?_);(first|refine rG Γ hm ?_|refine rD Γ hm (by kernel_rfl) ?_);conv=>whnf))
    refine ⟨rfl, by omega, hj0, ?_⟩
    rw [hc]
    ((conv=>whnf);repeat((first|refine aF ?_|refine aT ?_);(first|refine rG Γ hm ?_|refine rD Γ hm (by kernel_rfl) ?_);conv=>whnf))
    refine ⟨by decide, ?_⟩
    ((conv=>whnf);repeat((first|refine aF ?_|refine aT ?_);(first|refine rG Γ hm ?_|refine rD Γ hm (by kernel_rfl) ?_);conv=>whnf))
    rw [d2]
    refine ⟨by omega, by show _ < 16; omega, ?_⟩
    ((conv=>whnf);repeat((first|refine aF ?_|refine aT ?_);(first|refine rG Γ hm ?_|refine rD Γ hm (by kernel_rfl) ?_);conv=>whnf))
    refine ⟨by omega, by simp; omega, ?_⟩
    ((conv=>whnf);repeat((first|refine aF ?_|refine aT ?_);(first|refine rG Γ hm ?_|refine rD Γ hm (by kernel_rfl) ?_);conv=>whnf))
    refine ⟨rfl, by simp; omega, bget hexC (c.toNat % 16), rfl, rfl, ?_⟩
    ((conv=>whnf);repeat((first|refine aF ?_|refine aT ?_);(first|refine rG Γ hm ?_|refine rD Γ hm (by kernel_rfl) ?_);conv=>whnf))
    refine ⟨by unfold I64; omega, ?_⟩
    ((conv=>whnf);repeat((first|refine aF ?_|refine aT ?_);(first|refine rG Γ hm ?_|refine rD Γ hm (by kernel_rfl) ?_);conv=>whnf))
    refine G_next [] hlt ⟨⟨rfl, rfl, rfl, rfl, rfl, rfl, rfl, rfl, trivial⟩, ⟨.inl (congrArg (Ob.row 1 byteSV) ?_), rfl, trivial⟩, rfl, rfl⟩
    rw [← hnx, ← hex_get (c.toNat / 16) (by omega), ← hex_get (c.toNat % 16) (by omega)]
    rw [show (2 * (j : Int)).toNat = 2 * j by omega, show (2 * (j : Int) + 1).toNat = 2 * j + 1 by omega]
  · have hje : j = l.length := by have := of_decide_eq_false h; omega
    subst hje
    have e : hexU l l.length = hexL l := by rw [hexU, List.take_length, Nat.sub_self]; simp
    rw [e]
    ((first|refine rG Γ hm ?_|refine rD Γ hm (by kernel_rfl) ?_);(conv=>whnf);repeat((first|refine aF ?_|refine aT ?_);(first|refine rG Γ hm ?_|refine rD Γ hm (by kernel_rfl) ?_);conv=>whnf))
    refine stepOp (good_stringT Γ.toTy (bs := hexL l) rfl rfl rfl rfl rfl rfl rfl (.row rfl)) rfl rfl ?_
    ((first|refine rG Γ hm ?_|refine rD Γ hm (by kernel_rfl) ?_);(conv=>whnf);repeat((first|refine aF ?_|refine aT ?_);(first|refine rG Γ hm ?_|refine rD Γ hm (by kernel_rfl) ?_);conv=>whnf))
    exact done0 rfl (.cons .tmp .nil) rfl rfl

end Go.Sy.YtjomehmhkcnadaaGreatDoor
