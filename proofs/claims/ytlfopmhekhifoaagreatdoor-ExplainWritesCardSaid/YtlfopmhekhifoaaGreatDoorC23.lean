/-
  Contracts: addresses as texts. What ways are like: their hops are in the net. Contracts: explain.Way. Contracts: explain.Way, 2.
-/
import Derived.Test.YtlfopmhekhifoaaGreatDoorC12
import Derived.Test.YtlfopmhekhifoaaGreatDoorC20
import Derived.Test.YtlfopmhekhifoaaGreatDoorC22
import Derived.Test.YtlfopmhekhifoaaGreatDoorC14

namespace Go.Sy.YtlfopmhekhifoaaGreatDoor
open Go.Proofs
-- SIMP: placeB

attribute [local irreducible] Go.Sy.G Go.Sy.DR
set_option maxRecDepth 20000
set_option maxHeartbeats 8000000

theorem tdiv10 (n : Nat) (h : n < 1000000000000000000) : IntKind.i64.wrap ((n : Int).tdiv 10) = ((n / 10 : Nat) : Int) := by
  rw [Int.tdiv_eq_ediv_of_nonneg (by omega), IntKind.wrap_i64]; omega
theorem tmod10 (n : Nat) : (n : Int).tmod 10 = ((n % 10 : Nat) : Int) := by
  rw [Int.tmod_eq_emod_of_nonneg (by omega)]; omega
theorem dig8 (n : Nat) : IntKind.u8.wrap (48 + ((n % 10 : Nat) : Int)) = ((UInt8.ofNat (48 + n % 10)).toNat : Int) := by
  rw [IntKind.wrap_u8]
  simp

theorem revDigs_rev (n : Nat) : (revDigs n).reverse = (if n < 10 then [] else (revDigs (n / 10)).reverse) ++ [UInt8.ofNat (48 + n % 10)] := by
  rw [revDigs.eq_1 n]
  split
  · rw [Nat.mod_eq_of_lt (by assumption)]; rfl
  · rw [List.reverse_cons]

theorem addrPutS : ∀ (n : Nat) (l : List UInt8), n < 1000000000000000000 → l.length + (revDigs n).length < 1000000 →
    Sy.Spec Tryz.prog 104 [.osl 0, intSV n] [(0, .row 1 byteSV l)] (.osl 1) [(0, .non), (1, .row 1 byteSV (l ++ (revDigs n).reverse))] := by
  intro n
  induction n using Nat.strongRecOn with
  | ind n ih =>
    intro l hn hl
    have hpos := revDigs_pos n
    have hrev := revDigs_rev n
    have hlr : (revDigs n).reverse.length = (revDigs n).length := List.length_reverse
    refine contract Γ hm 100 F104 Tryz.ntmps104 rfl fun F hF => by
      ((conv=>whnf);repeat((first|refine aF ?_|refine aT ?_);(first|refine rG Γ hm ?_|refine rD Γ hm (by kernel_rfl) ?_);conv=>whnf))
      refine ⟨fun h => ?_, fun h => ?_⟩
      · have h1 : ¬ n < 10 := by have := of_decide_eq_true h; omega
        rw [if_neg h1] at hrev
        have hlen : (revDigs (n / 10)).length + 1 = (revDigs n).length := by
          rw [← hlr, hrev]; simp
        have q := ih (n / 10) (by omega) l (by omega) (by omega)
        ((first|refine rG Γ hm ?_|refine rD Γ hm (by kernel_rfl) ?_);(conv=>whnf);repeat((first|refine aF ?_|refine aT ?_);(first|refine rG Γ hm ?_|refine rD Γ hm (by kernel_rfl) ?_);conv=>whnf))
        refine ⟨by decide, ?_⟩
        ((conv=>whnf);repeat((first|refine aF ?_|refine aT ?_);(first|refine rG Γ hm ?_|refine rD Γ hm (by kernel_rfl) ?_);conv=>whnf))
        rw [tdiv10 n hn]
        refine stepOp (good_call [(0, 0), (1, 1000)] rfl F104 q rfl ⟨rfl, trivial⟩ rfl ⟨.inl rfl, .inr rfl, trivial⟩) rfl rfl ?_
        ((first|refine rG Γ hm ?_|refine rD Γ hm (by kernel_rfl) ?_);(conv=>whnf);repeat((first|refine aF ?_|refine aT ?_);(first|refine rG Γ hm ?_|refine rD Γ hm (by kernel_rfl) ?_);conv=>whnf))
        refine ⟨by decide, ?_⟩
        ((conv=>whnf);repeat((first|refine aF ?_|refine aT ?_);(first|refine rG Γ hm ?_|refine rD Γ hm (by kernel_rfl) ?_);conv=>whnf))
        rw [tmod10 n]
        refine ⟨by unfold I64; omega, ?_⟩
        ((conv=>whnf);repeat((first|refine aF ?_|refine aT ?_);(first|refine rG Γ hm ?_|refine rD Γ hm (by kernel_rfl) ?_);conv=>whnf))
        rw [dig8 n]
        refine stepOp (good_appendT Γ.toTy 17 rfl rfl rfl rfl rfl (.row rfl) (.lit (e := byteSV) (l := [UInt8.ofNat (48 + n % 10)]) rfl rfl) (fun j hj => by cases hj; decide) (by simp; omega) (by simp; omega)) rfl rfl ?_
        ((first|refine rG Γ hm ?_|refine rD Γ hm (by kernel_rfl) ?_);(conv=>whnf);repeat((first|refine aF ?_|refine aT ?_);(first|refine rG Γ hm ?_|refine rD Γ hm (by kernel_rfl) ?_);conv=>whnf))

        exact done rfl (.cons .tmp .nil) [(1, 17)] [(0, .non), (1, .row 1 byteSV (l ++ (revDigs n).reverse))] (fun _ h => h) rfl rfl ⟨trivial, ⟨.inl rfl, rfl, .inl (by rw [hrev, ← List.append_assoc]; rfl), rfl, trivial⟩, rfl, rfl⟩
      · have h1 : n < 10 := by have := of_decide_eq_false h; omega
        rw [if_pos h1, List.nil_append] at hrev
        ((first|refine rG Γ hm ?_|refine rD Γ hm (by kernel_rfl) ?_);(conv=>whnf);repeat((first|refine aF ?_|refine aT ?_);(first|refine rG Γ hm ?_|refine rD Γ hm (by kernel_rfl) ?_);conv=>whnf))
        refine ⟨by decide, ?_⟩
        ((conv=>whnf);repeat((first|refine aF ?_|refine aT ?_);(first|refine rG Γ hm ?_|refine rD Γ hm (by kernel_rfl) ?_);conv=>whnf))
        rw [tmod10 n]
        refine ⟨by unfold I64; omega, ?_⟩
        ((conv=>whnf);repeat((first|refine aF ?_|refine aT ?_);(first|refine rG Γ hm ?_|refine rD Γ hm (by kernel_rfl) ?_);conv=>whnf))
        rw [dig8 n]
        refine stepOp (good_appendT Γ.toTy 17 rfl rfl rfl rfl rfl (.row rfl) (.lit (e := byteSV) (l := [UInt8.ofNat (48 + n % 10)]) rfl rfl) (by simp) (by simp; omega) (by simp; omega)) rfl rfl ?_
        ((first|refine rG Γ hm ?_|refine rD Γ hm (by kernel_rfl) ?_);(conv=>whnf);repeat((first|refine aF ?_|refine aT ?_);(first|refine rG Γ hm ?_|refine rD Γ hm (by kernel_rfl) ?_);conv=>whnf))

        exact done rfl (.cons .tmp .nil) [(1, 17)] [(0, .non), (1, .row 1 byteSV (l ++ (revDigs n).reverse))] (fun _ h => h) rfl rfl ⟨trivial, ⟨.inl rfl, rfl, .inl (by rw [hrev]; rfl), rfl, trivial⟩, rfl, rfl⟩

/-- An address's part. -/
def octN (a i : Nat) : Nat := a / 256 ^ (3 - i) % 256
/-- The first parts, with dots between. -/
def addrU (a : Nat) : Nat → List UInt8
  | 0 => []
  | j + 1 => addrU a j ++ (if 0 < j then [46] else []) ++ (revDigs (octN a j)).reverse
def addrTx (a : Int) : ByteArray := mkT (addrU a.toNat 4)

theorem revDigs_oct (a i : Nat) : (revDigs (octN a i)).length ≤ 4 := revDigs_short 3 _ (by unfold octN; omega)
theorem addrU_length (a : Nat) : ∀ j, (addrU a j).length ≤ 5 * j
  | 0 => by simp [addrU]
  | j + 1 => by
    have := addrU_length a j
    have h2 := revDigs_oct a j
    rw [addrU, List.length_append, List.length_append, List.length_reverse]
    split <;> simp <;> omega

theorem oct_shift (a j : Nat) (ha : a < 4294967296) (hj : j < 4) : IntKind.i64.wrap (IntKind.u8.wrap ((a : Int).fdiv (2 ^ (min (8 * (3 - (j : Int))).toNat IntKind.u32.bits)))) = ((octN a j : Nat) : Int) := by
  have h : (8 * (3 - (j : Int))).toNat = 8 * (3 - j) := by omega
  have hb : min (8 * (3 - j)) IntKind.u32.bits = 8 * (3 - j) := by show min _ 32 = _; omega
  have hp : (2 : Nat) ^ (8 * (3 - j)) = 256 ^ (3 - j) := by rw [Nat.pow_mul]
  rw [h, hb, show (2 : Int) ^ (8 * (3 - j)) = ((2 ^ (8 * (3 - j)) : Nat) : Int) by rw [Int.natCast_pow]; rfl, hp, Int.fdiv_eq_ediv_of_nonneg _ (Int.natCast_nonneg _), ← Int.natCast_ediv, octN, IntKind.wrap_u8, IntKind.wrap_i64]
  have : a / 256 ^ (3 - j) ≤ a := Nat.div_le_self _ _
  omega

theorem addrTextS (a : Nat) (ha : a < 4294967296) : Sy.Spec Tryz.prog 63 [u32SV a] [] (strSV (addrTx a)) [] := contract Γ hm 100 F63 Tryz.ntmps63 rfl fun F hF => by
  ((conv=>whnf);repeat((first|refine aF ?_|refine aT ?_);(first|refine rG Γ hm ?_|refine rD Γ hm (by kernel_rfl) ?_);conv=>whnf))
  refine G_adopt 3 1000 1 byteSV rfl rfl ?_
  refine G_count 4 (fun j => [(0, u32SV a), (3, .osl 1000), (5, intSV j)]) (fun j => [(1000, .row 1 byteSV (addrU a j))]) []
    ⟨⟨rfl, rfl, rfl, rfl, rfl, rfl, trivial⟩, ⟨.inl rfl, rfl, trivial⟩, rfl, rfl⟩ ?_
  intro j hj
  have hlu := addrU_length a j
  have hsu : addrU a (j + 1) = addrU a j ++ (if 0 < j then [46] else []) ++ (revDigs (octN a j)).reverse := rfl
  have hro := revDigs_oct a j
  generalize hu : addrU a j = u at *
  ((first|refine rG Γ hm ?_|refine rD Γ hm (by kernel_rfl) ?_);(conv=>whnf);repeat((first|refine aF ?_|refine aT ?_);(first|refine rG Γ hm ?_|refine rD Γ hm (by kernel_rfl) ?_);conv=>whnf))
  refine ⟨fun h => ?_, fun h => ?_⟩
  · have hlt : j < 4 := by have := of_decide_eq_true h; omega
    have hsh := oct_shift a j ha hlt
    have hob : octN a j < 1000000000000000000 := by unfold octN; omega
    ((first|refine rG Γ hm ?_|refine rD Γ hm (by kernel_rfl) ?_);(conv=>whnf);repeat((first|refine aF ?_|refine aT ?_);(first|refine rG Γ hm ?_|refine rD Γ hm (by kernel_rfl) ?_);conv=>whnf))
    refine ⟨fun h => ?_, fun h => ?_⟩
    · have h0 : 0 < j := by have := of_decide_eq_true h; omega
      rw [if_pos h0] at hsu
      have q := addrPutS (octN a j) (u ++ [46]) hob (by simp; omega)
      ((first|refine rG Γ hm ?_|refine rD Γ hm (by kernel_rfl) ?_);(conv=>whnf);repeat((first|refine aF ?_|refine aT ?_);(first|refine rG Γ hm ?_|refine rD Γ hm (by kernel_rfl) ?_);conv=>whnf))
      refine stepOp (good_appendT Γ.toTy 12 rfl rfl rfl rfl rfl (.row rfl) (.lit (e := byteSV) (l := [46]) rfl rfl) (by decide) (by simp; omega) (by simp; omega)) rfl rfl ?_
      ((first|refine rG Γ hm ?_|refine rD Γ hm (by kernel_rfl) ?_);(conv=>whnf);repeat((first|refine aF ?_|refine aT ?_);(first|refine rG Γ hm ?_|refine rD Γ hm (by kernel_rfl) ?_);conv=>whnf))
      refine ⟨by unfold I64; omega, ?_⟩
      ((conv=>whnf);repeat((first|refine aF ?_|refine aT ?_);(first|refine rG Γ hm ?_|refine rD Γ hm (by kernel_rfl) ?_);conv=>whnf))
      refine ⟨by unfold I64; omega, ?_⟩
      ((conv=>whnf);repeat((first|refine aF ?_|refine aT ?_);(first|refine rG Γ hm ?_|refine rD Γ hm (by kernel_rfl) ?_);conv=>whnf))
      refine ⟨by omega, ?_⟩
      ((conv=>whnf);repeat((first|refine aF ?_|refine aT ?_);(first|refine rG Γ hm ?_|refine rD Γ hm (by kernel_rfl) ?_);conv=>whnf))
      rw [hsh]
      refine stepOp (good_call [(0, 12), (1, 1001)] rfl F104 q rfl ⟨rfl, trivial⟩ rfl ⟨.inl rfl, .inr rfl, trivial⟩) rfl rfl ?_
      ((first|refine rG Γ hm ?_|refine rD Γ hm (by kernel_rfl) ?_);(conv=>whnf);repeat((first|refine aF ?_|refine aT ?_);(first|refine rG Γ hm ?_|refine rD Γ hm (by kernel_rfl) ?_);conv=>whnf))
      refine ⟨by unfold I64; omega, ?_⟩
      ((conv=>whnf);repeat((first|refine aF ?_|refine aT ?_);(first|refine rG Γ hm ?_|refine rD Γ hm (by kernel_rfl) ?_);conv=>whnf))
      exact G_next [(1000, 1001)] hlt ⟨⟨rfl, rfl, rfl, rfl, rfl, rfl, trivial⟩, ⟨.inl (congrArg (Ob.row 1 byteSV) hsu), rfl, trivial⟩, rfl, rfl⟩
    · have h0 : ¬ 0 < j := by have := of_decide_eq_false h; omega
      rw [if_neg h0, List.append_nil] at hsu
      have q := addrPutS (octN a j) u hob (by omega)
      ((first|refine rG Γ hm ?_|refine rD Γ hm (by kernel_rfl) ?_);(conv=>whnf);repeat((first|refine aF ?_|refine aT ?_);(first|refine rG Γ hm ?_|refine rD Γ hm (by kernel_rfl) ?_);conv=>whnf))
      refine ⟨by unfold I64; omega, ?_⟩
      ((conv=>whnf);repeat((first|refine aF ?_|refine aT ?_);(first|refine rG Γ hm ?_|refine rD Γ hm (by kernel_rfl) ?_);conv=>whnf))
      refine ⟨by unfold I64; omega, ?_⟩
      ((conv=>whnf);repeat((first|refine aF ?_|refine aT ?_);(first|refine rG Γ hm ?_|refine rD Γ hm (by kernel_rfl) ?_);conv=>whnf))
      refine ⟨by omega, ?_⟩
      ((conv=>whnf);repeat((first|refine aF ?_|refine aT ?_);(first|refine rG Γ hm ?_|refine rD Γ hm (by kernel_rfl) ?_);conv=>whnf))
      rw [hsh]
      refine stepOp (good_call [(0, 1000), (1, 1001)] rfl F104 q rfl ⟨rfl, trivial⟩ rfl ⟨.inl rfl, .inr rfl, trivial⟩) rfl rfl ?_
      ((first|refine rG Γ hm ?_|refine rD Γ hm (by kernel_rfl) ?_);(conv=>whnf);repeat((first|refine aF ?_|refine aT ?_);(first|refine rG Γ hm ?_|refine rD Γ hm (by kernel_rfl) ?_);conv=>whnf))
      refine ⟨by unfold I64; omega, ?_⟩
      ((conv=>whnf);repeat((first|refine aF ?_|refine aT ?_);(first|refine rG Γ hm ?_|refine rD Γ hm (by kernel_rfl) ?_);conv=>whnf))
      exact G_next [(1000, 1001)] hlt ⟨⟨rfl, rfl, rfl, rfl, rfl, rfl, trivial⟩, ⟨.inl (congrArg (Ob.row 1 byteSV) hsu), rfl, trivial⟩, rfl, rfl⟩
  · have : j = 4 := by have := of_decide_eq_false h; omega
    subst this
    subst hu
    ((first|refine rG Γ hm ?_|refine rD Γ hm (by kernel_rfl) ?_);(conv=>whnf);repeat((first|refine aF ?_|refine aT ?_);(first|refine rG Γ hm ?_|refine rD Γ hm (by kernel_rfl) ?_);conv=>whnf))
    refine stepOp (good_stringT Γ.toTy (bs := addrU a 4) rfl rfl rfl rfl rfl rfl rfl (.row rfl)) rfl rfl ?_
    ((first|refine rG Γ hm ?_|refine rD Γ hm (by kernel_rfl) ?_);(conv=>whnf);repeat((first|refine aF ?_|refine aT ?_);(first|refine rG Γ hm ?_|refine rD Γ hm (by kernel_rfl) ?_);conv=>whnf))
    exact done0 rfl (.cons .tmp .nil) rfl rfl

end Go.Sy.YtlfopmhekhifoaaGreatDoor

namespace Go.Sy.YtlfopmhekhifoaaGreatDoor
open Go.Proofs

def HopOK (n : Net) (h : Hop) : Prop := (0 ≤ h.domain ∧ h.domain.toNat < n.domains.length) ∧ 0 ≤ h.addr ∧ h.addr < 4294967296

theorem addrGo_in {n : Net} {irb to e : Int} (he : e < 4294967296) : ∀ {x : Int}, 0 ≤ x → 0 ≤ (addrGo n irb to e x).1 ∧ (addrGo n irb to e x).1 < 4294967296 := by
  intro x
  induction x using addrGo.induct n irb to e with
  | case1 x h1 h2 => intro h0; rw [addrGo, if_pos h1, if_pos h2]; exact ⟨h0, by simp only; omega⟩
  | case2 x h1 h2 h3 => intro h0; rw [addrGo, if_pos h1, if_neg h2, if_pos h3]; decide
  | case3 x h1 h2 h3 h4 ih => intro h0; rw [addrGo, if_pos h1, if_neg h2, if_neg h3, if_pos h4]; exact ih (by omega)
  | case4 x h1 h2 h3 h4 => intro h0; rw [addrGo, if_pos h1, if_neg h2, if_neg h3, if_neg h4]; decide
  | case5 x h1 => intro h0; rw [addrGo, if_neg h1]; decide

theorem addrT_in {n : Net} (hu : Addrs n) (irb to : Int) : 0 ≤ (addrT n irb to).1 ∧ (addrT n irb to).1 < 4294967296 := by
  rw [addrT]
  split
  · rename_i hc
    have hk : to.toNat < n.irbs.length := by omega
    rw [nth_eq hk]
    have hui := hu _ (List.getElem_mem hk)
    exact addrGo_in (lastI_le _ _ hui).2 (firstI_le _ _ hui).1
  · decide

theorem hopsT_ok {n : Net} {d : Int} {h : Hop} (hh : h ∈ hopsT n d) : HopOK n h := by
  refine ⟨hopsT_in hh, ?_⟩
  rw [hopsT] at hh
  split at hh
  · rcases List.mem_append.1 hh with hh | hh
    · obtain ⟨p, _, hp⟩ := List.mem_filterMap.1 hh
      rw [linkHop] at hp
      split at hp
      · simp only [Option.some.injEq] at hp
        subst hp
        exact ⟨by simp, by simp⟩
      · cases hp
    · obtain ⟨p, hp, rfl⟩ := List.mem_map.1 hh
      exact ⟨by simp [meshHop], by simp [meshHop]⟩
  · cases hh

theorem routesT_addr {n : Net} (hu : Addrs n) {d : Int} {q : Lead} (hq : q ∈ routesT n d) : 0 ≤ q.addr ∧ q.addr < 4294967296 := by
  rw [routesT] at hq
  split at hq
  · obtain ⟨i, hi, hp⟩ := List.mem_filterMap.1 hq
    rw [leadF] at hp
    split at hp
    · simp only [Option.some.injEq] at hp
      subst hp
      exact addrT_in hu _ _
    · cases hp
  · cases hq

def HopsOK (n : Net) (l : List Fnd) : Prop := ∀ f ∈ l, HopOK n f.hop

theorem HopsOK.meet {n : Net} {S : Srch} (h : HopsOK n S.list) (d k : Int) {hp : Hop} (hh : HopOK n hp) (a : Int) : HopsOK n (meetT S d k hp a).list := by
  rw [meetT]
  split
  · exact h
  · rw [meetN]
    split <;> (intro f hf; rcases List.mem_append.1 hf with hf | hf; exact h f hf; rw [List.mem_singleton] at hf; subst hf; exact hh)

theorem HopsOK.ext1 {n : Net} {k i : Int} : ∀ {l : List Hop} {S : Srch}, HopsOK n S.list → (∀ h ∈ l, HopOK n h) → HopsOK n (ext1 S k i l).list
  | [], S, h, _ => h
  | x :: l, S, h, hl => HopsOK.ext1 (l := l) (h.meet x.domain k (hl x (by simp)) i) (fun y hy => hl y (by simp [hy]))
theorem HopsOK.ext2 {n : Net} {i : Int} : ∀ {l : List Lead} {S : Srch}, HopsOK n S.list → (∀ q ∈ l, HopOK n ⟨3, 0, q.domain, q.addr⟩) → HopsOK n (ext2 S i l).list
  | [], S, h, _ => h
  | x :: l, S, h, hl => HopsOK.ext2 (l := l) (h.meet x.domain 1 (hl x (by simp)) i) (fun y hy => hl y (by simp [hy]))
theorem HopsOK.ext {n : Net} (hu : Addrs n) {S : Srch} (h : HopsOK n S.list) (i : Int) : HopsOK n (extT n S i).list := by
  rw [extT]
  split
  · exact (h.ext1 (fun x hx => hopsT_ok hx)).ext2 (fun q hq => ⟨routesT_in hq, routesT_addr hu hq⟩)
  · exact h.ext1 (fun x hx => hopsT_ok hx)

theorem beginL_hops {n : Net} {dev : Int} {l : List Int} (h : ∀ v ∈ l, v ≠ 0 → 0 ≤ domainT n dev v ∧ (domainT n dev v).toNat < n.domains.length) : HopsOK n (beginL n dev l).list := by
  suffices hs : ∀ (l : List Int) (S : Srch), HopsOK n S.list → (∀ v ∈ l, v ≠ 0 → 0 ≤ domainT n dev v ∧ (domainT n dev v).toNat < n.domains.length) → HopsOK n (l.foldl (begin1 n dev) S).list from hs l _ (fun f hf => by simp [srch0] at hf) h
  intro l
  induction l with
  | nil => exact fun S h _ => h
  | cons x l ih =>
    intro S hS hl
    refine ih _ ?_ (fun v hv => hl v (by simp [hv]))
    rw [begin1]
    split
    · exact hS
    · rename_i hx
      exact hS.meet _ _ ⟨hl x (by simp) hx, by simp, by simp⟩ _

theorem backC_facts {l : List Fnd} (hB : Backs l) {P : Hop → Prop} (hP : ∀ f ∈ l, P f.hop) : ∀ (k : Nat) (i : Int), i < k → i < l.length → (∀ h ∈ backC l i, P h) ∧ ((backC l i).length : Int) ≤ i + 1 ∨ i < 0 := by
  intro k
  induction k with
  | zero => intro i hi _; exact .inr (by omega)
  | succ k ih =>
    intro i hi hl
    by_cases h0 : 0 ≤ i
    · left
      have hk : i.toNat < l.length := by omega
      have hb := hB i.toNat hk
      rw [backC, nth_eq hk, dif_pos ⟨h0, by omega⟩]
      have hm := hP _ (List.getElem_mem hk)
      rcases ih (l[i.toNat]'hk).ahead (by omega) (by omega) with ⟨h1, h2⟩ | h1
      · refine ⟨fun h hh => ?_, by rw [List.length_cons]; omega⟩
        rcases List.mem_cons.1 hh with rfl | hh
        · exact hm
        · exact h1 h hh
      · rw [backC, dif_neg (fun e => by omega)]
        refine ⟨fun h hh => ?_, by simp; omega⟩
        rw [List.mem_singleton] at hh
        subst hh
        exact hm
    · exact .inr (by omega)

theorem backT_facts {l : List Fnd} (hB : Backs l) {P : Hop → Prop} (hP : ∀ f ∈ l, P f.hop) {i : Nat} (hi : i < l.length) : (∀ h ∈ backT l i, P h) ∧ (backT l i).length ≤ i + 1 ∧ backT l i ≠ [] := by
  rcases backC_facts hB hP (i + 1) i (by omega) (by omega) with ⟨h1, h2⟩ | h
  · refine ⟨fun h hh => h1 h (by simpa [backT] using hh), by rw [backT, List.length_reverse]; omega, ?_⟩
    rw [backT]
    intro e
    have hk : ((i : Nat) : Int).toNat < l.length := by simpa using hi
    have hb := hB ((i : Nat) : Int).toNat hk
    rw [backC, nth_eq hk, dif_pos ⟨by omega, by omega⟩] at e
    simp at e
  · omega

theorem searchT_facts {n : Net} (hu : Addrs n) {to : Int} : ∀ (k : Nat) (S : Srch) (i : Nat), S.OK n → Backs S.list → HopsOK n S.list → i ≤ S.list.length → (searchT n to k S i).2 = true →
    (∀ h ∈ (searchT n to k S i).1, HopOK n h) ∧ (searchT n to k S i).1.length ≤ 2 * n.domains.length ∧ (searchT n to k S i).1 ≠ []
  | 0, S, i, _, _, _, _, h => by cases h
  | k + 1, S, i, ok, bk, hk, hi, h => by
    rw [searchT] at h ⊢
    split at h
    · rename_i hlt
      rw [if_pos hlt]
      split at h
      · rename_i hm2
        rw [if_pos hm2]
        have := backT_facts bk hk hlt
        have hle := ok.le
        exact ⟨this.1, by have := this.2.1; simp only; omega, this.2.2⟩
      · rename_i hm2
        rw [if_neg hm2]
        have bk' := bk.ext (n := n) (i := i) ⟨by omega, by omega⟩
        exact searchT_facts hu k _ _ (ok.ext i) bk'.1 (hk.ext hu i) (by omega) h
    · cases h

theorem wayT_facts {n : Net} (hu : Addrs n) {from_ to : Int} (h : (wayT n from_ to).2 = true) :
    (∀ h ∈ (wayT n from_ to).1, HopOK n h) ∧ (wayT n from_ to).1.length ≤ 2 * n.domains.length ∧ (wayT n from_ to).1 ≠ [] ∧ netRightB n = true := by
  rw [wayT] at h ⊢
  split at h
  · rename_i hc
    rw [if_pos hc]
    have hp := hostP_in hc.1
    have ok0 : (beginT n from_).OK n := by
      rw [beginT, nth_eq hp.2]
      exact beginL_ok fun v hv h0 => e_port_vlan hc.2.2.2 hp.2 hv h0
    have hk0 : HopsOK n (beginT n from_).list := by
      rw [beginT, nth_eq hp.2]
      exact beginL_hops fun v hv h0 => e_port_vlan hc.2.2.2 hp.2 hv h0
    have bk0 : Backs (beginT n from_).list := by rw [beginT]; exact beginL_backs _ _ _
    obtain ⟨h1, h2, h3⟩ := searchT_facts hu _ _ _ ok0 bk0 hk0 (Nat.zero_le _) h
    exact ⟨h1, h2, h3, hc.2.2.2⟩
  · cases h

end Go.Sy.YtlfopmhekhifoaaGreatDoor

namespace Go.Sy.YtlfopmhekhifoaaGreatDoor
open Go.Proofs
-- SIMP: placeB

attribute [local irreducible] Go.Sy.G Go.Sy.DR
set_option maxRecDepth 20000
set_option maxHeartbeats 8000000

/-- A hop's row. -/
def rowT (n : Net) (h : Hop) : ByteArray :=
  if h.kind = 1 then joinT [tLink, portT n h.port, portT n (otherT n h.port), domT n h.domain] ⟨#[32]⟩
  else if h.kind = 2 then joinT [tMesh, numT (nth n.domains h.domain).vni, domT n h.domain] ⟨#[32]⟩
  else joinT [tRoute, addrTx h.addr, domT n h.domain] ⟨#[32]⟩

theorem joinT_size (l : List ByteArray) (sep : ByteArray) : (joinT l sep).size ≤ sizes l + sep.size * l.length := by
  have := join_le (l.map (·.data.toList)) sep.data.toList
  have e : (l.map (·.data.toList)).map (·.length) = l.map (·.size) := by
    rw [List.map_map]
    apply List.map_congr_left
    intro a _
    rfl
  rw [e, List.length_map] at this
  have e2 : (joinT l sep).size = (Lib.join (l.map (·.data.toList)) sep.data.toList).length := by simp [joinT, ByteArray.size]
  rw [e2]
  exact this

theorem numT_size {n : Int} (h : 0 ≤ n ∧ n < 1000000000000000000) : (numT n).size ≤ 19 := by
  obtain ⟨m, rfl⟩ := Int.eq_ofNat_of_zero_le h.1
  rw [numT, mkT_size]
  exact numL_short m (by omega)

theorem domT_size {n : Net} (hnm : Named n) (i : Int) : (domT n i).size ≤ 400 := by
  rw [domT]
  split
  · rename_i hc
    have hk : i.toNat < n.domains.length := by omega
    have hf := e_dom_facts hc.2 hk
    rw [domText, nth_eq hk, nth_eq hf.1.2]
    have h1 := hnm.1 _ (List.getElem_mem hf.1.2)
    have h2 := numT_size (n := (n.domains[i.toNat]'hk).vlan) (by omega)
    refine Nat.le_trans (joinT_size _ _) ?_
    have e : sizes [(n.devices[(n.domains[i.toNat]'hk).dev.toNat]'hf.1.2).name, ⟨#[47]⟩, numT (n.domains[i.toNat]'hk).vlan] = (n.devices[(n.domains[i.toNat]'hk).dev.toNat]'hf.1.2).name.size + (1 + ((numT (n.domains[i.toNat]'hk).vlan).size + 0)) := rfl
    have e2 : (⟨#[]⟩ : ByteArray).size = 0 := rfl
    rw [e, e2]
    omega
  · exact Nat.zero_le _

theorem portT_size {n : Net} (hnm : Named n) (i : Int) : (portT n i).size ≤ 700 := by
  rw [portT]
  split
  · rename_i hc
    have hk : i.toNat < n.ports.length := by omega
    have hd := e_port_dev hc.2 hk
    rw [portText, nth_eq hk, nth_eq hd.2]
    have h1 := hnm.1 _ (List.getElem_mem hd.2)
    have h2 := hnm.2 _ (List.getElem_mem hk)
    rw [ByteArray.size_append, ByteArray.size_append]
    show _ + 1 + _ ≤ 700
    omega
  · exact Nat.zero_le _

theorem explainRowS (n : Net) (hn : n.Fin) (hnm : Named n) (hb : netRightB n = true) (h : Hop) (hh : HopOK n h) :
    Sy.Spec Tryz.prog 19 [netSV n, hopSV h] [] (strSV (rowT n h)) [] := contract Γ hm 100 F19 Tryz.ntmps19 rfl fun F hF => by
  have hlk := rowT.eq_1 n h
  rw [nth_eq hh.1.2] at hlk
  generalize rowT n h = res at *
  obtain ⟨k, pt, d, a⟩ := h
  have hin := hh.1
  obtain ⟨y, hy⟩ := Int.eq_ofNat_of_zero_le hh.2.1
  have hlt := hh.2.2
  dsimp only at hlk hin hy hlt
  have q1 := domTextS n hn hnm d
  have q2 := explainPortS n hn hnm pt
  have q3 := linksOtherS2 n hn pt
  have q4 := explainPortS n hn hnm (otherT n pt)
  have s1 := domT_size hnm d
  have s2 := portT_size hnm pt
  have s3 := portT_size hnm (otherT n pt)
  have hf := e_dom_facts hb hin.2
  obtain ⟨x, hx⟩ : ∃ x, n.domains[d.toNat]'hin.2 = x := ⟨_, rfl⟩
  rw [hx] at hf hlk
  obtain ⟨v, hv⟩ : ∃ v : Nat, x.vni = v := ⟨x.vni.toNat, by omega⟩
  have q5 := numTextS v (by omega)
  have s5 := numT_size (n := (v : Int)) (by omega)
  rw [← hv] at q5 s5
  have q6 := addrTextS y (by omega)
  have s6 : (addrTx a).size ≤ 20 := by rw [addrTx, mkT_size]; exact addrU_length _ 4
  rw [← hy] at q6
  generalize domT n d = td at *
  generalize portT n pt = tp at *
  generalize portT n (otherT n pt) = tq at *
  generalize otherT n pt = ot at *
  generalize numT x.vni = tv at *
  generalize addrTx a = ta at *
  have w1 := wordsS [tLink, tp, tq, td] (by simp) (by show 4 + (tp.size + (tq.size + (td.size + 0))) ≤ _; omega)
  have w2 := wordsS [tMesh, tv, td] (by simp) (by show 4 + (tv.size + (td.size + 0)) ≤ _; omega)
  have w3 := wordsS [tRoute, ta, td] (by simp) (by show 5 + (ta.size + (td.size + 0)) ≤ _; omega)
  generalize joinT [tLink, tp, tq, td] ⟨#[32]⟩ = r1 at *
  generalize joinT [tMesh, tv, td] ⟨#[32]⟩ = r2 at *
  generalize joinT [tRoute, ta, td] ⟨#[32]⟩ = r3 at *
  ((conv=>whnf);repeat((first|refine aF ?_|refine aT ?_);(first|refine rG Γ hm ?_|refine rD Γ hm (by kernel_rfl) ?_);conv=>whnf))
  refine G_box 2 8 (netSV n) rfl rfl rfl ?_
  refine G_box 3 4 (hopSV ⟨k, pt, d, a⟩) rfl rfl rfl ?_
  ((first|refine rG Γ hm ?_|refine rD Γ hm (by kernel_rfl) ?_);(conv=>whnf);repeat((first|refine aF ?_|refine aT ?_);(first|refine rG Γ hm ?_|refine rD Γ hm (by kernel_rfl) ?_);conv=>whnf))
  refine call0 q1 F18 rfl rfl rfl rfl rfl ?_
  ((first|refine rG Γ hm ?_|refine rD Γ hm (by kernel_rfl) ?_);(conv=>whnf);repeat((first|refine aF ?_|refine aT ?_);(first|refine rG Γ hm ?_|refine rD Γ hm (by kernel_rfl) ?_);conv=>whnf))
  refine ⟨fun h => ?_, fun h => ?_⟩
  · have h1 : k = 1 := by simpa using h
    rw [if_pos h1] at hlk
    subst hlk
    ((first|refine rG Γ hm ?_|refine rD Γ hm (by kernel_rfl) ?_);(conv=>whnf);repeat((first|refine aF ?_|refine aT ?_);(first|refine rG Γ hm ?_|refine rD Γ hm (by kernel_rfl) ?_);conv=>whnf))
    refine callD0 q2 F12 rfl rfl rfl (by kernel_rfl) rfl ?_
    ((first|refine rG Γ hm ?_|refine rD Γ hm (by kernel_rfl) ?_);(conv=>whnf);repeat((first|refine aF ?_|refine aT ?_);(first|refine rG Γ hm ?_|refine rD Γ hm (by kernel_rfl) ?_);conv=>whnf))
    refine callD0 q3 F62 rfl rfl rfl (by kernel_rfl) rfl ?_
    ((first|refine rG Γ hm ?_|refine rD Γ hm (by kernel_rfl) ?_);(conv=>whnf);repeat((first|refine aF ?_|refine aT ?_);(first|refine rG Γ hm ?_|refine rD Γ hm (by kernel_rfl) ?_);conv=>whnf))
    refine callD0 q4 F12 rfl rfl rfl (by kernel_rfl) rfl ?_
    ((first|refine rG Γ hm ?_|refine rD Γ hm (by kernel_rfl) ?_);(conv=>whnf);repeat((first|refine aF ?_|refine aT ?_);(first|refine rG Γ hm ?_|refine rD Γ hm (by kernel_rfl) ?_);conv=>whnf))
    refine callDK [25] w1 F17 rfl (.cons (.lit rfl rfl rfl) .nil) rfl (by kernel_rfl) rfl ?_
    ((first|refine rG Γ hm ?_|refine rD Γ hm (by kernel_rfl) ?_);(conv=>whnf);repeat((first|refine aF ?_|refine aT ?_);(first|refine rG Γ hm ?_|refine rD Γ hm (by kernel_rfl) ?_);conv=>whnf))
    refine ⟨(by kernel_rfl), ?_⟩
    ((conv=>whnf);repeat((first|refine aF ?_|refine aT ?_);(first|refine rG Γ hm ?_|refine rD Γ hm (by kernel_rfl) ?_);conv=>whnf))
    exact done0 rfl (.cons .tmp .nil) rfl rfl
  have h1 : k ≠ 1 := by simpa using h
  rw [if_neg h1] at hlk
  ((first|refine rG Γ hm ?_|refine rD Γ hm (by kernel_rfl) ?_);(conv=>whnf);repeat((first|refine aF ?_|refine aT ?_);(first|refine rG Γ hm ?_|refine rD Γ hm (by kernel_rfl) ?_);conv=>whnf))
  refine ⟨fun h => ?_, fun h => ?_⟩
  · have h2 : k = 2 := by simpa using h
    rw [if_pos h2] at hlk
    subst hlk
    ((first|refine rG Γ hm ?_|refine rD Γ hm (by kernel_rfl) ?_);(conv=>whnf);repeat((first|refine aF ?_|refine aT ?_);(first|refine rG Γ hm ?_|refine rD Γ hm (by kernel_rfl) ?_);conv=>whnf))
    refine ⟨rfl, hin.1, hin.2, ?_⟩
    rw [hx]
    ((conv=>whnf);repeat((first|refine aF ?_|refine aT ?_);(first|refine rG Γ hm ?_|refine rD Γ hm (by kernel_rfl) ?_);conv=>whnf))
    first | refine call0 q5 F61 rfl rfl rfl rfl rfl ?_ | refine callD0 q5 F61 rfl rfl rfl (by kernel_rfl) rfl ?_
    ((first|refine rG Γ hm ?_|refine rD Γ hm (by kernel_rfl) ?_);(conv=>whnf);repeat((first|refine aF ?_|refine aT ?_);(first|refine rG Γ hm ?_|refine rD Γ hm (by kernel_rfl) ?_);conv=>whnf))
    first | refine callK [38] w2 F17 rfl (.cons (.lit rfl rfl rfl) .nil) rfl rfl rfl ?_ | refine callDK [38] w2 F17 rfl (.cons (.lit rfl rfl rfl) .nil) rfl (by kernel_rfl) rfl ?_
    ((first|refine rG Γ hm ?_|refine rD Γ hm (by kernel_rfl) ?_);(conv=>whnf);repeat((first|refine aF ?_|refine aT ?_);(first|refine rG Γ hm ?_|refine rD Γ hm (by kernel_rfl) ?_);conv=>whnf))
    first | (refine ⟨(by kernel_rfl), ?_⟩; ((conv=>whnf);repeat((first|refine aF ?_|refine aT ?_);(first|refine rG Γ hm ?_|refine rD Γ hm (by kernel_rfl) ?_);conv=>whnf))) | skip
    exact done0 rfl (.cons .tmp .nil) rfl rfl
  · have h2 : k ≠ 2 := by simpa using h
    rw [if_neg h2] at hlk
    subst hlk
    ((first|refine rG Γ hm ?_|refine rD Γ hm (by kernel_rfl) ?_);(conv=>whnf);repeat((first|refine aF ?_|refine aT ?_);(first|refine rG Γ hm ?_|refine rD Γ hm (by kernel_rfl) ?_);conv=>whnf))
    first | refine call0 q6 F63 rfl rfl rfl rfl rfl ?_ | refine callD0 q6 F63 rfl rfl rfl (by kernel_rfl) rfl ?_
    ((first|refine rG Γ hm ?_|refine rD Γ hm (by kernel_rfl) ?_);(conv=>whnf);repeat((first|refine aF ?_|refine aT ?_);(first|refine rG Γ hm ?_|refine rD Γ hm (by kernel_rfl) ?_);conv=>whnf))
    first | refine callK [44] w3 F17 rfl (.cons (.lit rfl rfl rfl) .nil) rfl rfl rfl ?_ | refine callDK [44] w3 F17 rfl (.cons (.lit rfl rfl rfl) .nil) rfl (by kernel_rfl) rfl ?_
    ((first|refine rG Γ hm ?_|refine rD Γ hm (by kernel_rfl) ?_);(conv=>whnf);repeat((first|refine aF ?_|refine aT ?_);(first|refine rG Γ hm ?_|refine rD Γ hm (by kernel_rfl) ?_);conv=>whnf))
    first | (refine ⟨(by kernel_rfl), ?_⟩; ((conv=>whnf);repeat((first|refine aF ?_|refine aT ?_);(first|refine rG Γ hm ?_|refine rD Γ hm (by kernel_rfl) ?_);conv=>whnf))) | skip
    exact done0 rfl (.cons .tmp .nil) rfl rfl

end Go.Sy.YtlfopmhekhifoaaGreatDoor

namespace Go.Sy.YtlfopmhekhifoaaGreatDoor
open Go.Proofs
-- SIMP: placeB

attribute [local irreducible] Go.Sy.G Go.Sy.DR
set_option maxRecDepth 20000
set_option maxHeartbeats 8000000

def fromT (n : Net) (f : Int) (d : Int) : ByteArray := joinT [tFrom, portT n f, domT n d] ⟨#[32]⟩
def toT (n : Net) (t : Int) : ByteArray := joinT [tTo, portT n t] ⟨#[32]⟩

def explainT (n : Net) (f t : Int) : List ByteArray × Int :=
  if netRightB n = false then ([], 2) else if (wayT n f t).2 = false then ([], 31)
  else (fromT n f (nth (wayT n f t).1 0).domain :: (((wayT n f t).1.drop 1).map (rowT n) ++ [toT n t]), 0)

theorem explainWayS (n : Net) (hn : n.Fin) (hu : Addrs n) (hnm : Named n) (f t : Int) :
    Sy.Spec Tryz.prog 7 [netSV n, intSV f, intSV t] [] (.tup [.sl 1 strSV (explainT n f t).1, intSV (explainT n f t).2]) [] := contract Γ hm 100 F7 Tryz.ntmps7 rfl fun F hF => by
  have hlk := explainT.eq_1 n f t
  generalize explainT n f t = res at *
  have hr := namesRightS n hn
  have q0 := wayS n hn hu f t
  have hfa := wayT_facts (n := n) hu (from_ := f) (to := t)
  ((conv=>whnf);repeat((first|refine aF ?_|refine aT ?_);(first|refine rG Γ hm ?_|refine rD Γ hm (by kernel_rfl) ?_);conv=>whnf))
  refine G_box 3 8 (netSV n) rfl rfl rfl ?_
  ((first|refine rG Γ hm ?_|refine rD Γ hm (by kernel_rfl) ?_);(conv=>whnf);repeat((first|refine aF ?_|refine aT ?_);(first|refine rG Γ hm ?_|refine rD Γ hm (by kernel_rfl) ?_);conv=>whnf))
  refine call0 hr F15 rfl rfl rfl rfl rfl ?_
  cases hb : netRightB n
  · rw [if_pos hb] at hlk
    subst hlk
    ((first|refine rG Γ hm ?_|refine rD Γ hm (by kernel_rfl) ?_);(conv=>whnf);repeat((first|refine aF ?_|refine aT ?_);(first|refine rG Γ hm ?_|refine rD Γ hm (by kernel_rfl) ?_);conv=>whnf))
    refine G_nilsl 6 1 strSV rfl ?_
    ((first|refine rG Γ hm ?_|refine rD Γ hm (by kernel_rfl) ?_);(conv=>whnf);repeat((first|refine aF ?_|refine aT ?_);(first|refine rG Γ hm ?_|refine rD Γ hm (by kernel_rfl) ?_);conv=>whnf))
    exact done0 rfl (.cons .tmp (.cons .tmp .nil)) rfl rfl
  rw [if_neg (by simp [hb])] at hlk
  have hD := (e_few hb).2.2.2.1
  generalize wayT n f t = wy at *
  obtain ⟨l, ok⟩ := wy
  dsimp only at hlk q0 hfa
  ((first|refine rG Γ hm ?_|refine rD Γ hm (by kernel_rfl) ?_);(conv=>whnf);repeat((first|refine aF ?_|refine aT ?_);(first|refine rG Γ hm ?_|refine rD Γ hm (by kernel_rfl) ?_);conv=>whnf))
  refine call0 q0 F16 rfl rfl rfl rfl rfl ?_
  cases ok
  · rw [if_pos rfl] at hlk
    subst hlk
    ((first|refine rG Γ hm ?_|refine rD Γ hm (by kernel_rfl) ?_);(conv=>whnf);repeat((first|refine aF ?_|refine aT ?_);(first|refine rG Γ hm ?_|refine rD Γ hm (by kernel_rfl) ?_);conv=>whnf))
    refine G_nilsl 6 1 strSV rfl ?_
    ((first|refine rG Γ hm ?_|refine rD Γ hm (by kernel_rfl) ?_);(conv=>whnf);repeat((first|refine aF ?_|refine aT ?_);(first|refine rG Γ hm ?_|refine rD Γ hm (by kernel_rfl) ?_);conv=>whnf))
    exact done0 rfl (.cons .tmp (.cons .tmp .nil)) rfl rfl
  rw [if_neg (by simp)] at hlk
  obtain ⟨h1, h2, h3, _⟩ := hfa rfl
  have hl0 : (0 : Int).toNat < l.length := by
    have := List.length_pos_iff.2 h3
    simpa using this
  rw [nth_eq hl0] at hlk
  obtain ⟨x, hx⟩ : ∃ x, l[(0 : Int).toNat]'hl0 = x := ⟨_, rfl⟩
  rw [hx] at hlk
  have q1 := explainPortS n hn hnm f
  have q2 := domTextS n hn hnm x.domain
  have q3 := explainPortS n hn hnm t
  have s1 := portT_size hnm f
  have s2 := domT_size hnm x.domain
  have s3 := portT_size hnm t
  have qr := fun h hh => explainRowS n hn hnm hb h hh
  rw [fromT, toT] at hlk
  generalize portT n f = pf at *
  generalize domT n x.domain = dx at *
  generalize portT n t = pt at *
  have w1 := wordsS [tFrom, pf, dx] (by simp) (by show 4 + (pf.size + (dx.size + 0)) ≤ _; omega)
  have w2 := wordsS [tTo, pt] (by simp) (by show 2 + (pt.size + 0) ≤ _; omega)
  generalize joinT [tFrom, pf, dx] ⟨#[32]⟩ = r1 at *
  generalize joinT [tTo, pt] ⟨#[32]⟩ = r2 at *
  ((first|refine rG Γ hm ?_|refine rD Γ hm (by kernel_rfl) ?_);(conv=>whnf);repeat((first|refine aF ?_|refine aT ?_);(first|refine rG Γ hm ?_|refine rD Γ hm (by kernel_rfl) ?_);conv=>whnf))
  refine callD0 q1 F12 rfl rfl rfl (by kernel_rfl) rfl ?_
  ((first|refine rG Γ hm ?_|refine rD Γ hm (by kernel_rfl) ?_);(conv=>whnf);repeat((first|refine aF ?_|refine aT ?_);(first|refine rG Γ hm ?_|refine rD Γ hm (by kernel_rfl) ?_);conv=>whnf))
  refine ⟨rfl, by decide, hl0, ?_⟩
  rw [hx]
  ((conv=>whnf);repeat((first|refine aF ?_|refine aT ?_);(first|refine rG Γ hm ?_|refine rD Γ hm (by kernel_rfl) ?_);conv=>whnf))
  refine callD0 q2 F18 rfl rfl rfl (by kernel_rfl) rfl ?_
  ((first|refine rG Γ hm ?_|refine rD Γ hm (by kernel_rfl) ?_);(conv=>whnf);repeat((first|refine aF ?_|refine aT ?_);(first|refine rG Γ hm ?_|refine rD Γ hm (by kernel_rfl) ?_);conv=>whnf))
  refine callDK [34] w1 F17 rfl (.cons (.lit rfl rfl rfl) .nil) rfl (by kernel_rfl) rfl ?_
  ((first|refine rG Γ hm ?_|refine rD Γ hm (by kernel_rfl) ?_);(conv=>whnf);repeat((first|refine aF ?_|refine aT ?_);(first|refine rG Γ hm ?_|refine rD Γ hm (by kernel_rfl) ?_);conv=>whnf))
  refine ⟨(by kernel_rfl), ?_⟩
  ((conv=>whnf);repeat((first|refine aF ?_|refine aT ?_);(first|refine rG Γ hm ?_|refine rD Γ hm (by kernel_rfl) ?_);conv=>whnf))
  refine stepOp (good_slice_sl (lo := 1) (hi := l.length) Γ.toTy rfl rfl rfl rfl (.inr ⟨_, _, rfl, rfl⟩) (.inl ⟨rfl, rfl⟩) (List.length_pos_iff.2 h3) (Nat.le_refl _)) rfl rfl ?_
  rw [List.take_length]
  have hmem : ∀ h ∈ l.drop 1, HopOK n h := fun h hh => h1 h (List.mem_of_mem_drop hh)
  have hdl : (l.drop 1).length ≤ 100 := by rw [List.length_drop]; omega
  generalize l.drop 1 = m at *
  ((first|refine rG Γ hm ?_|refine rD Γ hm (by kernel_rfl) ?_);(conv=>whnf);repeat((first|refine aF ?_|refine aT ?_);(first|refine rG Γ hm ?_|refine rD Γ hm (by kernel_rfl) ?_);conv=>whnf))
  refine G_litR 36 strSV [r1] rfl rfl ?_
  refine G_count m.length (fun j => [(2, intSV t), (3, .ref 8 (netSV n) 0), (10, .osl 1000), (38, .sl 4 hopSV m), (39, intSV m.length), (40, intSV j)]) (fun j => [(1000, .row 1 strSV (r1 :: (m.take j).map (rowT n)))]) [(1000, 36)]
    ⟨⟨rfl, rfl, rfl, rfl, rfl, rfl, rfl, rfl, rfl, rfl, rfl, rfl, trivial⟩, ⟨.inl rfl, rfl, trivial⟩, rfl, rfl⟩ ?_
  intro j hj
  ((first|refine rG Γ hm ?_|refine rD Γ hm (by kernel_rfl) ?_);(conv=>whnf);repeat((first|refine aF ?_|refine aT ?_);(first|refine rG Γ hm ?_|refine rD Γ hm (by kernel_rfl) ?_);conv=>whnf))
  refine ⟨fun h => ?_, fun h => ?_⟩
  · have hlt : j < m.length := by simpa using h
    have hj0 : ((j : Nat) : Int).toNat < m.length := by simpa using hlt
    obtain ⟨hp, hhp⟩ : ∃ hp, m[((j : Nat) : Int).toNat]'hj0 = hp := ⟨_, rfl⟩
    have q := qr hp (by rw [← hhp]; exact hmem _ (List.getElem_mem _))
    have hs : r1 :: (m.take j).map (rowT n) ++ [rowT n hp] = r1 :: (m.take (j + 1)).map (rowT n) := by
      rw [List.take_add_one, List.getElem?_eq_getElem hlt, List.map_append, List.cons_append]
      congr 2
      simp only [Option.toList, List.map_cons, List.map_nil]
      congr 2
      exact hhp.symm
    generalize rowT n hp = rw_ at *
    ((first|refine rG Γ hm ?_|refine rD Γ hm (by kernel_rfl) ?_);(conv=>whnf);repeat((first|refine aF ?_|refine aT ?_);(first|refine rG Γ hm ?_|refine rD Γ hm (by kernel_rfl) ?_);conv=>whnf))
    refine ⟨rfl, by omega, hj0, ?_⟩
    rw [hhp]
    ((conv=>whnf);repeat((first|refine aF ?_|refine aT ?_);(first|refine rG Γ hm ?_|refine rD Γ hm (by kernel_rfl) ?_);conv=>whnf))
    refine call0 q F19 rfl rfl rfl rfl rfl ?_
    ((first|refine rG Γ hm ?_|refine rD Γ hm (by kernel_rfl) ?_);(conv=>whnf);repeat((first|refine aF ?_|refine aT ?_);(first|refine rG Γ hm ?_|refine rD Γ hm (by kernel_rfl) ?_);conv=>whnf))
    refine stepOp (good_appendT Γ.toTy 49 rfl rfl rfl rfl rfl (.row rfl) (.lit (e := strSV) (l := [rw_]) rfl rfl) (by simp) (by simp; omega) (by simp; omega)) rfl rfl ?_
    ((first|refine rG Γ hm ?_|refine rD Γ hm (by kernel_rfl) ?_);(conv=>whnf);repeat((first|refine aF ?_|refine aT ?_);(first|refine rG Γ hm ?_|refine rD Γ hm (by kernel_rfl) ?_);conv=>whnf))
    refine ⟨by unfold I64; omega, ?_⟩
    ((conv=>whnf);repeat((first|refine aF ?_|refine aT ?_);(first|refine rG Γ hm ?_|refine rD Γ hm (by kernel_rfl) ?_);conv=>whnf))
    exact G_next [(1000, 49)] hlt ⟨⟨rfl, rfl, rfl, rfl, rfl, rfl, rfl, rfl, rfl, rfl, rfl, rfl, trivial⟩, ⟨.inl (congrArg (Ob.row 1 strSV) hs.symm), rfl, trivial⟩, rfl, rfl⟩
  · have : j = m.length := by have := of_decide_eq_false h; omega
    subst this
    rw [List.take_length]
    subst hlk
    ((first|refine rG Γ hm ?_|refine rD Γ hm (by kernel_rfl) ?_);(conv=>whnf);repeat((first|refine aF ?_|refine aT ?_);(first|refine rG Γ hm ?_|refine rD Γ hm (by kernel_rfl) ?_);conv=>whnf))
    first | refine call0 q3 F12 rfl rfl rfl rfl rfl ?_ | refine callD0 q3 F12 rfl rfl rfl (by kernel_rfl) rfl ?_
    ((first|refine rG Γ hm ?_|refine rD Γ hm (by kernel_rfl) ?_);(conv=>whnf);repeat((first|refine aF ?_|refine aT ?_);(first|refine rG Γ hm ?_|refine rD Γ hm (by kernel_rfl) ?_);conv=>whnf))
    first | refine callK [55] w2 F17 rfl (.cons (.lit rfl rfl rfl) .nil) rfl rfl rfl ?_ | refine callDK [55] w2 F17 rfl (.cons (.lit rfl rfl rfl) .nil) rfl (by kernel_rfl) rfl ?_
    ((first|refine rG Γ hm ?_|refine rD Γ hm (by kernel_rfl) ?_);(conv=>whnf);repeat((first|refine aF ?_|refine aT ?_);(first|refine rG Γ hm ?_|refine rD Γ hm (by kernel_rfl) ?_);conv=>whnf))
    first | refine stepOp (good_appendT Γ.toTy 58 rfl rfl rfl rfl rfl (.row rfl) (.lit (e := strSV) (l := [r2]) rfl rfl) (by simp) (by simp; omega) (by simp; omega)) rfl rfl ?_ | refine stepD (good_appendT Γ.toTy 58 rfl rfl rfl rfl rfl (.row rfl) (.lit (e := strSV) (l := [r2]) rfl rfl) (by simp) (by simp; omega) (by simp; omega)) (by kernel_rfl) rfl ?_
    ((first|refine rG Γ hm ?_|refine rD Γ hm (by kernel_rfl) ?_);(conv=>whnf);repeat((first|refine aF ?_|refine aT ?_);(first|refine rG Γ hm ?_|refine rD Γ hm (by kernel_rfl) ?_);conv=>whnf))
    first | (refine ⟨(by kernel_rfl), ?_⟩; ((conv=>whnf);repeat((first|refine aF ?_|refine aT ?_);(first|refine rG Γ hm ?_|refine rD Γ hm (by kernel_rfl) ?_);conv=>whnf))) | skip
    refine G_data 58 rfl ?_
    ((first|refine rG Γ hm ?_|refine rD Γ hm (by kernel_rfl) ?_);(conv=>whnf);repeat((first|refine aF ?_|refine aT ?_);(first|refine rG Γ hm ?_|refine rD Γ hm (by kernel_rfl) ?_);conv=>whnf))
    exact done0 rfl (.cons .tmp (.cons .tmp .nil)) rfl rfl

end Go.Sy.YtlfopmhekhifoaaGreatDoor
