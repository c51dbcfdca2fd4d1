/-
  Contracts: a domain's hops. Contracts: addresses by which packets are led (choose). Contracts: where packets of a domain are led (choose.Routes).
-/
import Derived.Test.YtlfopmhekhifoaaGreatDoorC12
import Derived.Test.YtlfopmhekhifoaaGreatDoorC13
import Derived.Test.YtlfopmhekhifoaaGreatDoorC14
import Derived.Test.YtlfopmhekhifoaaGreatDoorC15
import Derived.Test.YtlfopmhekhifoaaGreatDoorC4

namespace Go.Sy.YtlfopmhekhifoaaGreatDoor
open Go.Proofs
-- SIMP: placeB

attribute [local irreducible] Go.Sy.G Go.Sy.DR
set_option maxRecDepth 20000
set_option maxHeartbeats 4000000

/-- A step of a way. -/
structure Hop where
  (kind port domain addr : Int)
abbrev hopSV (h : Hop) : SV := .agg [intSV h.kind, intSV h.port, intSV h.domain, u32SV h.addr]
instance : Inhabited Hop := ⟨⟨0, 0, 0, 0⟩⟩

def domOK (n : Net) (d : Int) : Prop := (0 ≤ d ∧ d < n.domains.length) ∧ netRightB n = true
instance (n : Net) (d : Int) : Decidable (domOK n d) := inferInstanceAs (Decidable (_ ∧ _))

theorem reachPlaceS (n : Net) (hn : n.Fin) (d : Int) : Sy.Spec Tryz.prog 124 [netSV n, intSV d] [] (boolSV (decide (domOK n d))) [] := contract Γ hm 100 F124 Tryz.ntmps124 rfl fun F hF => by
  have hr := namesRightS n hn
  ((conv=>whnf);repeat((first|refine aF ?_|refine aT ?_);(first|refine rG Γ hm ?_|refine rD Γ hm (by kernel_rfl) ?_);conv=>whnf))
  refine ⟨fun h => ?_, fun h => ?_⟩
  · have h1 : 0 ≤ d := of_decide_eq_true h
    refine G_box 2 8 (netSV n) rfl rfl rfl ?_
    ((first|refine rG Γ hm ?_|refine rD Γ hm (by kernel_rfl) ?_);(conv=>whnf);repeat((first|refine aF ?_|refine aT ?_);(first|refine rG Γ hm ?_|refine rD Γ hm (by kernel_rfl) ?_);conv=>whnf))
    refine ⟨fun h => ?_, fun h => ?_⟩
    · have h2 : d < n.domains.length := of_decide_eq_true h
      ((first|refine rG Γ hm ?_|refine rD Γ hm (by kernel_rfl) ?_);(conv=>whnf);repeat((first|refine aF ?_|refine aT ?_);(first|refine rG Γ hm ?_|refine rD Γ hm (by kernel_rfl) ?_);conv=>whnf))
      refine call0 hr F15 rfl rfl rfl rfl rfl ?_
      ((first|refine rG Γ hm ?_|refine rD Γ hm (by kernel_rfl) ?_);(conv=>whnf);repeat((first|refine aF ?_|refine aT ?_);(first|refine rG Γ hm ?_|refine rD Γ hm (by kernel_rfl) ?_);conv=>whnf))
      refine done0 rfl (.cons .tmp .nil) (congrArg boolSV ?_) rfl
      cases hb : netRightB n <;> simp [domOK, h1, h2, hb]
    · have h2 : ¬ d < n.domains.length := of_decide_eq_false h
      ((first|refine rG Γ hm ?_|refine rD Γ hm (by kernel_rfl) ?_);(conv=>whnf);repeat((first|refine aF ?_|refine aT ?_);(first|refine rG Γ hm ?_|refine rD Γ hm (by kernel_rfl) ?_);conv=>whnf))
      refine done0 rfl (.cons .tmp .nil) (congrArg boolSV ?_) rfl
      simp [domOK, h2]
  · have h1 : ¬ 0 ≤ d := of_decide_eq_false h
    ((first|refine rG Γ hm ?_|refine rD Γ hm (by kernel_rfl) ?_);(conv=>whnf);repeat((first|refine aF ?_|refine aT ?_);(first|refine rG Γ hm ?_|refine rD Γ hm (by kernel_rfl) ?_);conv=>whnf))
    refine done0 rfl (.cons .tmp .nil) (congrArg boolSV ?_) rfl
    simp [domOK, h1]

/-- The hop over a port's link, if there is one. -/
def linkHop (n : Net) (d p : Int) : Option Hop := if (linkDomT n p (nth n.domains d).vlan).2 = true then some ⟨1, p, (linkDomT n p (nth n.domains d).vlan).1, 0⟩ else none
def meshHop (p : Int) : Hop := ⟨2, 0, p, 0⟩

def hopsL (n : Net) (d : Int) : List Hop := (membersT n d).filterMap (linkHop n d) ++ (nth n.domains d).peers.map meshHop
def hopsT (n : Net) (d : Int) : List Hop := if domOK n d then hopsL n d else []

theorem linkHop_snoc {n : Net} {d : Int} {l : List Int} {j : Nat} {p : Int} (h : j < l.length) (hp : l[j] = p) : (l.take (j + 1)).filterMap (linkHop n d) =
    (l.take j).filterMap (linkHop n d) ++ (match linkHop n d p with | some h => [h] | none => []) := by
  subst hp
  rw [List.take_add_one, List.getElem?_eq_getElem h, List.filterMap_append]
  cases hh : linkHop n d l[j] <;> simp [hh]

theorem reachHopsS (n : Net) (hn : n.Fin) (d : Int) : Sy.Spec Tryz.prog 99 [netSV n, intSV d] [] (.sl 4 hopSV (hopsT n d)) [] := contract Γ hm 100 F99 Tryz.ntmps99 rfl fun F hF => by
  have hp := reachPlaceS n hn d
  have hm2 := namesMembersS n hn d
  have hms := membersT_short n hn d
  unfold Short at hms
  ((conv=>whnf);repeat((first|refine aF ?_|refine aT ?_);(first|refine rG Γ hm ?_|refine rD Γ hm (by kernel_rfl) ?_);conv=>whnf))
  refine G_box 2 8 (netSV n) rfl rfl rfl ?_
  ((first|refine rG Γ hm ?_|refine rD Γ hm (by kernel_rfl) ?_);(conv=>whnf);repeat((first|refine aF ?_|refine aT ?_);(first|refine rG Γ hm ?_|refine rD Γ hm (by kernel_rfl) ?_);conv=>whnf))
  refine call0 hp F124 rfl rfl rfl rfl rfl ?_
  by_cases hd : domOK n d
  rotate_left
  · rw [hopsT, if_neg hd, decide_eq_false hd]
    ((first|refine rG Γ hm ?_|refine rD Γ hm (by kernel_rfl) ?_);(conv=>whnf);repeat((first|refine aF ?_|refine aT ?_);(first|refine rG Γ hm ?_|refine rD Γ hm (by kernel_rfl) ?_);conv=>whnf))
    refine G_nilsl 4 4 hopSV rfl ?_
    ((first|refine rG Γ hm ?_|refine rD Γ hm (by kernel_rfl) ?_);(conv=>whnf);repeat((first|refine aF ?_|refine aT ?_);(first|refine rG Γ hm ?_|refine rD Γ hm (by kernel_rfl) ?_);conv=>whnf))
    exact done0 rfl (.cons .tmp .nil) rfl rfl
  rw [hopsT, if_pos hd, decide_eq_true hd]
  have hk : d.toNat < n.domains.length := by have := hd.1; omega
  have h0 : 0 ≤ d := hd.1.1
  have hpe := hn.peers _ (List.getElem_mem hk)
  unfold Short at hpe
  have hh := hopsL.eq_1 n d
  have hlh := linkHop.eq_1 n d
  have hsn := fun j p h hp => linkHop_snoc (n := n) (d := d) (l := membersT n d) (j := j) (p := p) h hp
  have hfl : ∀ j, ((membersT n d).take j |>.filterMap (linkHop n d)).length ≤ (membersT n d).length := fun j => by
    refine Nat.le_trans (List.length_filterMap_le _ _) ?_
    rw [List.length_take]; omega
  have hall : (membersT n d).take (membersT n d).length = membersT n d := List.take_length
  rw [nth_eq hk] at hh hlh
  obtain ⟨x, hx⟩ : ∃ x, n.domains[d.toNat]'hk = x := ⟨_, rfl⟩
  rw [hx] at hh hlh hpe
  generalize hopsL n d = res at *
  generalize membersT n d = mem at *
  ((first|refine rG Γ hm ?_|refine rD Γ hm (by kernel_rfl) ?_);(conv=>whnf);repeat((first|refine aF ?_|refine aT ?_);(first|refine rG Γ hm ?_|refine rD Γ hm (by kernel_rfl) ?_);conv=>whnf))
  refine call0 hm2 F56 rfl rfl rfl rfl rfl ?_
  ((first|refine rG Γ hm ?_|refine rD Γ hm (by kernel_rfl) ?_);(conv=>whnf);repeat((first|refine aF ?_|refine aT ?_);(first|refine rG Γ hm ?_|refine rD Γ hm (by kernel_rfl) ?_);conv=>whnf))
  refine G_adopt 5 1000 4 hopSV rfl rfl ?_
  refine G_count mem.length (fun j => [(1, intSV d), (2, .ref 8 (netSV n) 0), (5, .osl 1000), (18, .sl 1 intSV mem), (19, intSV mem.length), (20, intSV j)]) (fun j => [(1000, .row 4 hopSV ((mem.take j).filterMap (linkHop n d)))]) []
    ⟨⟨rfl, rfl, rfl, rfl, rfl, rfl, rfl, rfl, rfl, rfl, rfl, rfl, trivial⟩, ⟨.inl rfl, rfl, trivial⟩, rfl, rfl⟩ ?_
  intro j hj
  have hflj := hfl j
  ((first|refine rG Γ hm ?_|refine rD Γ hm (by kernel_rfl) ?_);(conv=>whnf);repeat((first|refine aF ?_|refine aT ?_);(first|refine rG Γ hm ?_|refine rD Γ hm (by kernel_rfl) ?_);conv=>whnf))
  refine ⟨fun h => ?_, fun h => ?_⟩
  · have hlt : j < mem.length := by simpa using h
    have hj0 : ((j : Nat) : Int).toNat < mem.length := by simpa using hlt
    obtain ⟨p, hp'⟩ : ∃ p, mem[((j : Nat) : Int).toNat]'hj0 = p := ⟨_, rfl⟩
    have hs := hsn j p hlt hp'
    have q := linksDomainS n hn p x.vlan
    rw [hlh p] at hs
    generalize linkDomT n p x.vlan = ld at *
    obtain ⟨to, ok⟩ := ld
    ((first|refine rG Γ hm ?_|refine rD Γ hm (by kernel_rfl) ?_);(conv=>whnf);repeat((first|refine aF ?_|refine aT ?_);(first|refine rG Γ hm ?_|refine rD Γ hm (by kernel_rfl) ?_);conv=>whnf))
    refine ⟨rfl, by omega, hj0, ?_⟩
    rw [hp']
    ((conv=>whnf);repeat((first|refine aF ?_|refine aT ?_);(first|refine rG Γ hm ?_|refine rD Γ hm (by kernel_rfl) ?_);conv=>whnf))
    refine ⟨rfl, h0, hk, ?_⟩
    rw [hx]
    ((conv=>whnf);repeat((first|refine aF ?_|refine aT ?_);(first|refine rG Γ hm ?_|refine rD Γ hm (by kernel_rfl) ?_);conv=>whnf))
    refine callD0 q F118 rfl rfl rfl (by kernel_rfl) rfl ?_
    ((first|refine rG Γ hm ?_|refine rD Γ hm (by kernel_rfl) ?_);(conv=>whnf);repeat((first|refine aF ?_|refine aT ?_);(first|refine rG Γ hm ?_|refine rD Γ hm (by kernel_rfl) ?_);conv=>whnf))
    refine ⟨(by kernel_rfl), ?_⟩
    ((conv=>whnf);repeat((first|refine aF ?_|refine aT ?_);(first|refine rG Γ hm ?_|refine rD Γ hm (by kernel_rfl) ?_);conv=>whnf))
    dsimp only at hs
    refine ⟨fun h => ?_, fun h => ?_⟩ <;> (have h : ok = _ := h; subst h)
    · ((first|refine rG Γ hm ?_|refine rD Γ hm (by kernel_rfl) ?_);(conv=>whnf);repeat((first|refine aF ?_|refine aT ?_);(first|refine rG Γ hm ?_|refine rD Γ hm (by kernel_rfl) ?_);conv=>whnf))
      refine stepOp (good_appendT Γ.toTy 42 rfl rfl rfl rfl rfl (.row rfl) (.lit (e := hopSV) (l := [⟨1, p, to, 0⟩]) rfl rfl) (by simp) (by simp; omega) (by simp; omega)) rfl rfl ?_
      ((first|refine rG Γ hm ?_|refine rD Γ hm (by kernel_rfl) ?_);(conv=>whnf);repeat((first|refine aF ?_|refine aT ?_);(first|refine rG Γ hm ?_|refine rD Γ hm (by kernel_rfl) ?_);conv=>whnf))
      refine ⟨by unfold I64; omega, ?_⟩
      ((conv=>whnf);repeat((first|refine aF ?_|refine aT ?_);(first|refine rG Γ hm ?_|refine rD Γ hm (by kernel_rfl) ?_);conv=>whnf))
      exact G_next [(1000, 42)] hlt ⟨⟨rfl, rfl, rfl, rfl, rfl, rfl, rfl, rfl, rfl, rfl, rfl, rfl, trivial⟩, ⟨.inl (congrArg (Ob.row 4 hopSV) hs), rfl, trivial⟩, rfl, rfl⟩
    · ((first|refine rG Γ hm ?_|refine rD Γ hm (by kernel_rfl) ?_);(conv=>whnf);repeat((first|refine aF ?_|refine aT ?_);(first|refine rG Γ hm ?_|refine rD Γ hm (by kernel_rfl) ?_);conv=>whnf))
      refine ⟨by unfold I64; omega, ?_⟩
      ((conv=>whnf);repeat((first|refine aF ?_|refine aT ?_);(first|refine rG Γ hm ?_|refine rD Γ hm (by kernel_rfl) ?_);conv=>whnf))
      exact G_next [] hlt ⟨⟨rfl, rfl, rfl, rfl, rfl, rfl, rfl, rfl, rfl, rfl, rfl, rfl, trivial⟩, ⟨.inl (congrArg (Ob.row 4 hopSV) (hs.trans (List.append_nil _))), rfl, trivial⟩, rfl, rfl⟩
  · have : j = mem.length := by have := of_decide_eq_false h; omega
    subst this
    rw [hall] at hflj ⊢
    generalize mem.filterMap (linkHop n d) = first at *
    ((first|refine rG Γ hm ?_|refine rD Γ hm (by kernel_rfl) ?_);(conv=>whnf);repeat((first|refine aF ?_|refine aT ?_);(first|refine rG Γ hm ?_|refine rD Γ hm (by kernel_rfl) ?_);conv=>whnf))
    refine ⟨rfl, h0, hk, ?_⟩
    rw [hx]
    ((conv=>whnf);repeat((first|refine aF ?_|refine aT ?_);(first|refine rG Γ hm ?_|refine rD Γ hm (by kernel_rfl) ?_);conv=>whnf))
    refine G_count x.peers.length (fun j => [(5, .osl 1000), (49, .sl 1 intSV x.peers), (50, intSV x.peers.length), (51, intSV j)]) (fun j => [(1000, .row 4 hopSV (first ++ (x.peers.take j).map meshHop))]) []
      ⟨⟨rfl, rfl, rfl, rfl, rfl, rfl, rfl, rfl, trivial⟩, ⟨.inl (congrArg (Ob.row 4 hopSV) (List.append_nil _)), rfl, trivial⟩, rfl, rfl⟩ ?_
    intro j hj
    ((first|refine rG Γ hm ?_|refine rD Γ hm (by kernel_rfl) ?_);(conv=>whnf);repeat((first|refine aF ?_|refine aT ?_);(first|refine rG Γ hm ?_|refine rD Γ hm (by kernel_rfl) ?_);conv=>whnf))
    refine ⟨fun h => ?_, fun h => ?_⟩
    · have hlt : j < x.peers.length := by simpa using h
      have hj0 : ((j : Nat) : Int).toNat < x.peers.length := by simpa using hlt
      obtain ⟨p, hp'⟩ : ∃ p, x.peers[((j : Nat) : Int).toNat]'hj0 = p := ⟨_, rfl⟩
      have hs : (first ++ (x.peers.take j).map meshHop) ++ [⟨2, 0, p, 0⟩] = first ++ (x.peers.take (j + 1)).map meshHop := by
        rw [List.take_add_one, List.getElem?_eq_getElem hlt, List.map_append, List.append_assoc]
        congr 2
        simp only [Option.toList, List.map_cons, List.map_nil, meshHop]
        congr 2
        exact hp'.symm
      ((first|refine rG Γ hm ?_|refine rD Γ hm (by kernel_rfl) ?_);(conv=>whnf);repeat((first|refine aF ?_|refine aT ?_);(first|refine rG Γ hm ?_|refine rD Γ hm (by kernel_rfl) ?_);conv=>whnf))
      refine ⟨rfl, by omega, hj0, ?_⟩
      rw [hp']
      ((conv=>whnf);repeat((first|refine aF ?_|refine aT ?_);(first|refine rG Γ hm ?_|refine rD Γ hm (by kernel_rfl) ?_);conv=>whnf))
      refine stepOp (good_appendT Γ.toTy 59 rfl rfl rfl rfl rfl (.row rfl) (.lit (e := hopSV) (l := [⟨2, 0, p, 0⟩]) rfl rfl) (by simp) (by simp; omega) (by simp; omega)) rfl rfl ?_
      ((first|refine rG Γ hm ?_|refine rD Γ hm (by kernel_rfl) ?_);(conv=>whnf);repeat((first|refine aF ?_|refine aT ?_);(first|refine rG Γ hm ?_|refine rD Γ hm (by kernel_rfl) ?_);conv=>whnf))
      refine ⟨by unfold I64; omega, ?_⟩
      ((conv=>whnf);repeat((first|refine aF ?_|refine aT ?_);(first|refine rG Γ hm ?_|refine rD Γ hm (by kernel_rfl) ?_);conv=>whnf))
      exact G_next [(1000, 59)] hlt ⟨⟨rfl, rfl, rfl, rfl, rfl, rfl, rfl, rfl, trivial⟩, ⟨.inl (congrArg (Ob.row 4 hopSV) hs.symm), rfl, trivial⟩, rfl, rfl⟩
    · have : j = x.peers.length := by have := of_decide_eq_false h; omega
      subst this
      ((first|refine rG Γ hm ?_|refine rD Γ hm (by kernel_rfl) ?_);(conv=>whnf);repeat((first|refine aF ?_|refine aT ?_);(first|refine rG Γ hm ?_|refine rD Γ hm (by kernel_rfl) ?_);conv=>whnf))
      refine G_data 1000 rfl ?_
      ((first|refine rG Γ hm ?_|refine rD Γ hm (by kernel_rfl) ?_);(conv=>whnf);repeat((first|refine aF ?_|refine aT ?_);(first|refine rG Γ hm ?_|refine rD Γ hm (by kernel_rfl) ?_);conv=>whnf))
      refine done0 rfl (.cons .tmp .nil) ?_ rfl
      rw [hh, List.take_length]
      rfl

end Go.Sy.YtlfopmhekhifoaaGreatDoor

namespace Go.Sy.YtlfopmhekhifoaaGreatDoor
open Go.Proofs
-- SIMP: placeB

attribute [local irreducible] Go.Sy.G Go.Sy.DR
set_option maxRecDepth 20000
set_option maxHeartbeats 4000000

theorem i64_small {x : Int} (h0 : 0 ≤ x) (h1 : x < 4294967297) : IntKind.i64.wrap x = x := by
  rw [IntKind.wrap_i64]; omega
theorem u32_small {x : Int} (h0 : 0 ≤ x) (h1 : x < 4294967296) : IntKind.u32.wrap x = x := by
  rw [IntKind.wrap_u32]; omega

/-- Interfaces' addresses are of 32 bits. -/
def Addrs (n : Net) : Prop := ∀ x ∈ n.irbs, 0 ≤ x.addr ∧ x.addr < 4294967296

theorem restI_nat (b : Int) (h : 0 ≤ b ∧ b ≤ 32) : restI b = ((2 ^ (32 - b).toNat - 1 : Nat) : Int) := by
  obtain ⟨k, hk, hk2⟩ : ∃ k : Nat, (32 - b).toNat = k ∧ k ≤ 32 := ⟨_, rfl, by omega⟩
  have h1 : min (32 - b).toNat IntKind.u32.bits = k := by show min (32 - b).toNat 32 = k; omega
  have hp := Nat.pow_le_pow_right (n := 2) (by decide) hk2
  have e32 : (2 : Nat) ^ 32 = 4294967296 := rfl
  rw [e32] at hp
  have h0 := Nat.one_le_two_pow (n := k)
  rw [restI, h1, hk, IntKind.wrap_u32, IntKind.wrap_u32, show (2 : Int) ^ k = ((2 ^ k : Nat) : Int) by rw [Int.natCast_pow]; rfl]
  generalize 2 ^ k = q at *
  omega

theorem hasB_iff (a b x : Int) (hb : 0 ≤ b ∧ b ≤ 32) (ha : 0 ≤ a ∧ a < 4294967296) (hx : 0 ≤ x ∧ x < 4294967296) : hasB a b x = true ↔ firstI a b ≤ x ∧ x ≤ lastI a b := by
  obtain ⟨a, rfl⟩ := Int.eq_ofNat_of_zero_le ha.1
  obtain ⟨x, rfl⟩ := Int.eq_ofNat_of_zero_le hx.1
  obtain ⟨k, hk, hk2⟩ : ∃ k : Nat, (32 - b).toNat = k ∧ k ≤ 32 := ⟨_, rfl, by omega⟩
  have h0 := Nat.one_le_two_pow (n := k)
  rw [hasB, restI_nat b hb, hk, masked a x k (by omega) (by omega) hk2, decide_eq_true_iff, same_part a x (2 ^ k) (by omega), firstI_nat a k b hb hk, lastI_nat a k b hb hk]
  omega

theorem lastI_le (a b : Int) (ha : 0 ≤ a ∧ a < 4294967296) : 0 ≤ lastI a b ∧ lastI a b < 4294967296 := by
  by_cases hb : 0 ≤ b ∧ b ≤ 32
  · obtain ⟨a, rfl⟩ := Int.eq_ofNat_of_zero_le ha.1
    obtain ⟨k, hk, hk2⟩ : ∃ k : Nat, (32 - b).toNat = k ∧ k ≤ 32 := ⟨_, rfl, by omega⟩
    have h0 := Nat.one_le_two_pow (n := k)
    rw [lastI_nat a k b hb hk]
    have hd : a - a % 2 ^ k = 2 ^ k * (a / 2 ^ k) := by have := Nat.div_add_mod a (2 ^ k); omega
    have h32 : 2 ^ k * 2 ^ (32 - k) = 4294967296 := by
      rw [← Nat.pow_add, show k + (32 - k) = 32 by omega]
    have : a / 2 ^ k < 2 ^ (32 - k) := by rw [Nat.div_lt_iff_lt_mul (by omega), Nat.mul_comm, h32]; omega
    have : 2 ^ k * (a / 2 ^ k) + 2 ^ k ≤ 2 ^ k * 2 ^ (32 - k) := by
      rw [← Nat.mul_succ]; exact Nat.mul_le_mul_left _ this
    omega
  · rw [lastI, if_neg hb]; omega

theorem firstI_le (a b : Int) (ha : 0 ≤ a ∧ a < 4294967296) : 0 ≤ firstI a b ∧ firstI a b < 4294967296 := by
  by_cases hb : 0 ≤ b ∧ b ≤ 32
  · obtain ⟨a, rfl⟩ := Int.eq_ofNat_of_zero_le ha.1
    rw [firstI_nat a _ b hb rfl]
    omega
  · rw [firstI, if_neg hb]; omega

theorem lookT_way {n : Net} {irb dst : Int} (h : (lookT n irb dst).2 = true) : wayB n irb dst (lookT n irb dst).1.toNat = true := by
  unfold lookT at h ⊢
  split at h
  · cases h
  rename_i h1
  rw [if_neg h1]
  split at h
  · cases h
  rename_i h2
  rw [if_neg h2]
  have hm := maxI_mem (cmpR n irb) (waysL n irb dst) (List.length_pos_iff.2 h2) ((waysL n irb dst).length - 1) (by have := List.length_pos_iff.2 h2; omega)
  exact ((filtI_mem (p := wayB n irb dst) (j := n.irbs.length)).1 hm).2.2

theorem sameAddrP (x : Int) (i : Irb) : Sy.Spec Tryz.prog 165 [irbSV i, .ref 1 (u32SV x) 0] [] (boolSV (i.addr == x)) [] := contract Γ hm 100 F165 Tryz.ntmps165 rfl fun F hF => by
  ((conv=>whnf);repeat((first|refine aF ?_|refine aT ?_);(first|refine rG Γ hm ?_|refine rD Γ hm (by kernel_rfl) ?_);conv=>whnf))
  exact done0 rfl (.cons .tmp .nil) rfl rfl

theorem sameAddrA (x : Int) (i : Irb) : Sy.Spec Tryz.prog 143 [irbSV i, .ref 1 (u32SV x) 0] [] (boolSV (i.addr == x)) [] := contract Γ hm 100 F143 Tryz.ntmps143 rfl fun F hF => by
  ((conv=>whnf);repeat((first|refine aF ?_|refine aT ?_);(first|refine rG Γ hm ?_|refine rD Γ hm (by kernel_rfl) ?_);conv=>whnf))
  exact done0 rfl (.cons .tmp .nil) rfl rfl

def takenA (n : Net) (a : Int) : Bool := decide (0 ≤ idxI (fun i : Irb => i.addr == a) n.irbs)

/-- The first number behind what is in the way. -/
def pastI (n : Net) (a led : Int) : Int := if takenA n a = true then a + 1 else lastI (nth n.irbs led).addr (nth n.irbs led).bits + 1

theorem choosePastS (n : Net) (hn : n.Fin) (hu : Addrs n) (a led : Int) (ha : 0 ≤ a ∧ a < 4294967296) (hl : takenA n a = false → InIrbs n led) :
    Sy.Spec Tryz.prog 144 [netSV n, u32SV a, intSV led] [] (intSV (pastI n a led)) [] := contract Γ hm 100 F144 Tryz.ntmps144 rfl fun F hF => by
  have hlk := pastI.eq_1 n a led
  generalize pastI n a led = res at *
  have q7 := containsFuncS_Irb n.irbs (fun i : Irb => i.addr == a) 165 [] [.ref 1 (u32SV a) 0] rfl (fun i _ => ⟨⟨_, _, F165⟩, sameAddrP a i⟩) hn.irbs
  have ht : decide (0 ≤ idxI (fun i : Irb => i.addr == a) n.irbs) = takenA n a := rfl
  rw [ht] at q7
  generalize takenA n a = tk at *
  ((conv=>whnf);repeat((first|refine aF ?_|refine aT ?_);(first|refine rG Γ hm ?_|refine rD Γ hm (by kernel_rfl) ?_);conv=>whnf))
  refine G_box 3 8 (netSV n) rfl rfl rfl ?_
  refine G_box 4 1 (u32SV a) rfl rfl rfl ?_
  ((first|refine rG Γ hm ?_|refine rD Γ hm (by kernel_rfl) ?_);(conv=>whnf);repeat((first|refine aF ?_|refine aT ?_);(first|refine rG Γ hm ?_|refine rD Γ hm (by kernel_rfl) ?_);conv=>whnf))
  refine call0 q7 F116 rfl rfl rfl rfl rfl ?_
  cases tk
  rotate_left
  · rw [if_pos rfl] at hlk
    subst hlk
    ((first|refine rG Γ hm ?_|refine rD Γ hm (by kernel_rfl) ?_);(conv=>whnf);repeat((first|refine aF ?_|refine aT ?_);(first|refine rG Γ hm ?_|refine rD Γ hm (by kernel_rfl) ?_);conv=>whnf))
    rw [i64_small (by omega) (by omega)]
    refine ⟨by unfold I64; omega, ?_⟩
    ((conv=>whnf);repeat((first|refine aF ?_|refine aT ?_);(first|refine rG Γ hm ?_|refine rD Γ hm (by kernel_rfl) ?_);conv=>whnf))
    exact done0 rfl (.cons .tmp .nil) rfl rfl
  rw [if_neg (by simp)] at hlk
  have hli := hl rfl
  rw [nth_eq hli.2] at hlk
  have hui := hu _ (List.getElem_mem hli.2)
  obtain ⟨x, hx⟩ : ∃ x, n.irbs[led.toNat]'hli.2 = x := ⟨_, rfl⟩
  rw [hx] at hlk hui
  obtain ⟨y, hy⟩ := Int.eq_ofNat_of_zero_le hui.1
  have q := addrLastS y x.bits (by omega)
  have hle := lastI_le x.addr x.bits hui
  rw [← hy] at q
  generalize lastI x.addr x.bits = z at *
  subst hlk
  ((first|refine rG Γ hm ?_|refine rD Γ hm (by kernel_rfl) ?_);(conv=>whnf);repeat((first|refine aF ?_|refine aT ?_);(first|refine rG Γ hm ?_|refine rD Γ hm (by kernel_rfl) ?_);conv=>whnf))
  refine ⟨rfl, hli.1, hli.2, ?_⟩
  rw [hx]
  ((conv=>whnf);repeat((first|refine aF ?_|refine aT ?_);(first|refine rG Γ hm ?_|refine rD Γ hm (by kernel_rfl) ?_);conv=>whnf))
  first | refine callD0 q F142 rfl rfl rfl (by kernel_rfl) rfl ?_ | refine call0 q F142 rfl rfl rfl rfl rfl ?_
  ((first|refine rG Γ hm ?_|refine rD Γ hm (by kernel_rfl) ?_);(conv=>whnf);repeat((first|refine aF ?_|refine aT ?_);(first|refine rG Γ hm ?_|refine rD Γ hm (by kernel_rfl) ?_);conv=>whnf))
  rw [i64_small (by omega) (by omega)]
  refine ⟨by unfold I64; omega, ?_⟩
  ((conv=>whnf);repeat((first|refine aF ?_|refine aT ?_);(first|refine rG Γ hm ?_|refine rD Γ hm (by kernel_rfl) ?_);conv=>whnf))
  exact done0 rfl (.cons .tmp .nil) rfl rfl

theorem pastI_gt {n : Net} (hu : Addrs n) (hb : netRightB n = true) {irb a : Int} (ha : 0 ≤ a ∧ a < 4294967296) (h : takenA n a = false → (lookT n irb a).2 = true) :
    a < pastI n a (lookT n irb a).1 ∧ pastI n a (lookT n irb a).1 ≤ 4294967296 := by
  rw [pastI]
  split
  · omega
  rename_i ht
  have h2 := h (by simpa using ht)
  have hw := lookT_way h2
  have hi := lookT_there h2
  have e : ((lookT n irb a).1.toNat : Int) = (lookT n irb a).1 := by have := hi.1; omega
  rw [wayB, Bool.and_eq_true, e] at hw
  rw [nth_eq hi.2] at hw ⊢
  have hui := hu _ (List.getElem_mem hi.2)
  have hbi := (e_irb_facts hb hi.2).2.2
  have h3 := (hasB_iff _ _ _ hbi hui ha).1 hw.1
  have h4 := lastI_le _ (n.irbs[(lookT n irb a).1.toNat]'hi.2).bits hui
  omega

/-- The first address from one on that is led to an interface. -/
def addrGo (n : Net) (irb to e : Int) (x : Int) : Int × Bool :=
  if x ≤ e then
    if (lookT n irb x).2 = true ∧ (lookT n irb x).1 = to ∧ takenA n x = false then (x, true)
    else if (lookT n irb x).2 = false ∧ takenA n x = false then (0, false)
    else if x < pastI n x (lookT n irb x).1 then addrGo n irb to e (pastI n x (lookT n irb x).1) else (0, false)
  else (0, false)
  termination_by (e + 1 - x).toNat
  decreasing_by omega

def addrT (n : Net) (irb to : Int) : Int × Bool :=
  if (0 ≤ irb ∧ irb < n.irbs.length) ∧ (0 ≤ to ∧ to < n.irbs.length) ∧ netRightB n = true then
    addrGo n irb to (lastI (nth n.irbs to).addr (nth n.irbs to).bits) (firstI (nth n.irbs to).addr (nth n.irbs to).bits) else (0, false)

theorem chooseAddressS (n : Net) (hn : n.Fin) (hu : Addrs n) (irb to : Int) : Sy.Spec Tryz.prog 125 [netSV n, intSV irb, intSV to] [] (.tup [u32SV (addrT n irb to).1, boolSV (addrT n irb to).2]) [] := contract Γ hm 100 F125 Tryz.ntmps125 rfl fun F hF => by
  have hlk := addrT.eq_1 n irb to
  generalize addrT n irb to = res at *
  have hr := namesRightS n hn
  have hsi := hn.irbs
  unfold Short at hsi
  ((conv=>whnf);repeat((first|refine aF ?_|refine aT ?_);(first|refine rG Γ hm ?_|refine rD Γ hm (by kernel_rfl) ?_);conv=>whnf))
  refine ⟨fun h => ?_, fun h => ?_⟩
  · rw [if_neg (by have := of_decide_eq_true h; omega)] at hlk
    subst hlk
    ((first|refine rG Γ hm ?_|refine rD Γ hm (by kernel_rfl) ?_);(conv=>whnf);repeat((first|refine aF ?_|refine aT ?_);(first|refine rG Γ hm ?_|refine rD Γ hm (by kernel_rfl) ?_);conv=>whnf))
    exact done0 rfl (.cons .tmp (.cons .tmp .nil)) rfl rfl
  have h1 : ¬ irb < 0 := of_decide_eq_false h
  ((first|refine rG Γ hm ?_|refine rD Γ hm (by kernel_rfl) ?_);(conv=>whnf);repeat((first|refine aF ?_|refine aT ?_);(first|refine rG Γ hm ?_|refine rD Γ hm (by kernel_rfl) ?_);conv=>whnf))
  refine ⟨fun h => ?_, fun h => ?_⟩
  · rw [if_neg (by have := of_decide_eq_true h; omega)] at hlk
    subst hlk
    ((first|refine rG Γ hm ?_|refine rD Γ hm (by kernel_rfl) ?_);(conv=>whnf);repeat((first|refine aF ?_|refine aT ?_);(first|refine rG Γ hm ?_|refine rD Γ hm (by kernel_rfl) ?_);conv=>whnf))
    exact done0 rfl (.cons .tmp (.cons .tmp .nil)) rfl rfl
  have h2 : ¬ to < 0 := of_decide_eq_false h
  refine G_box 3 8 (netSV n) rfl rfl rfl ?_
  ((first|refine rG Γ hm ?_|refine rD Γ hm (by kernel_rfl) ?_);(conv=>whnf);repeat((first|refine aF ?_|refine aT ?_);(first|refine rG Γ hm ?_|refine rD Γ hm (by kernel_rfl) ?_);conv=>whnf))
  refine ⟨fun h => ?_, fun h => ?_⟩
  · rw [if_neg (by have := of_decide_eq_true h; omega)] at hlk
    subst hlk
    ((first|refine rG Γ hm ?_|refine rD Γ hm (by kernel_rfl) ?_);(conv=>whnf);repeat((first|refine aF ?_|refine aT ?_);(first|refine rG Γ hm ?_|refine rD Γ hm (by kernel_rfl) ?_);conv=>whnf))
    exact done0 rfl (.cons .tmp (.cons .tmp .nil)) rfl rfl
  have h3 : irb < n.irbs.length := by have := of_decide_eq_false h; omega
  ((first|refine rG Γ hm ?_|refine rD Γ hm (by kernel_rfl) ?_);(conv=>whnf);repeat((first|refine aF ?_|refine aT ?_);(first|refine rG Γ hm ?_|refine rD Γ hm (by kernel_rfl) ?_);conv=>whnf))
  refine ⟨fun h => ?_, fun h => ?_⟩
  · rw [if_neg (by have := of_decide_eq_true h; omega)] at hlk
    subst hlk
    ((first|refine rG Γ hm ?_|refine rD Γ hm (by kernel_rfl) ?_);(conv=>whnf);repeat((first|refine aF ?_|refine aT ?_);(first|refine rG Γ hm ?_|refine rD Γ hm (by kernel_rfl) ?_);conv=>whnf))
    exact done0 rfl (.cons .tmp (.cons .tmp .nil)) rfl rfl
  have h4 : to < n.irbs.length := by have := of_decide_eq_false h; omega
  ((first|refine rG Γ hm ?_|refine rD Γ hm (by kernel_rfl) ?_);(conv=>whnf);repeat((first|refine aF ?_|refine aT ?_);(first|refine rG Γ hm ?_|refine rD Γ hm (by kernel_rfl) ?_);conv=>whnf))
  refine call0 hr F15 rfl rfl rfl rfl rfl ?_
  cases hb : netRightB n
  · rw [if_neg (by simp [hb])] at hlk
    subst hlk
    ((first|refine rG Γ hm ?_|refine rD Γ hm (by kernel_rfl) ?_);(conv=>whnf);repeat((first|refine aF ?_|refine aT ?_);(first|refine rG Γ hm ?_|refine rD Γ hm (by kernel_rfl) ?_);conv=>whnf))
    exact done0 rfl (.cons .tmp (.cons .tmp .nil)) rfl rfl
  rw [if_pos ⟨⟨by omega, h3⟩, ⟨by omega, h4⟩, hb⟩] at hlk
  have hti : InIrbs n to := ⟨by omega, by omega⟩
  have hii : InIrbs n irb := ⟨by omega, by omega⟩
  rw [nth_eq hti.2] at hlk
  have hui := hu _ (List.getElem_mem hti.2)
  obtain ⟨x, hx⟩ : ∃ x, n.irbs[to.toNat]'hti.2 = x := ⟨_, rfl⟩
  rw [hx] at hlk hui
  obtain ⟨y, hy⟩ := Int.eq_ofNat_of_zero_le hui.1
  have q1 := addrFirstS y x.bits (by omega)
  have q2 := addrLastS y x.bits (by omega)
  have hf := firstI_le x.addr x.bits hui
  have hle := lastI_le x.addr x.bits hui
  rw [← hy] at q1 q2
  generalize lastI x.addr x.bits = e at *
  generalize firstI x.addr x.bits = s at *
  ((first|refine rG Γ hm ?_|refine rD Γ hm (by kernel_rfl) ?_);(conv=>whnf);repeat((first|refine aF ?_|refine aT ?_);(first|refine rG Γ hm ?_|refine rD Γ hm (by kernel_rfl) ?_);conv=>whnf))
  refine ⟨rfl, hti.1, hti.2, ?_⟩
  rw [hx]
  ((conv=>whnf);repeat((first|refine aF ?_|refine aT ?_);(first|refine rG Γ hm ?_|refine rD Γ hm (by kernel_rfl) ?_);conv=>whnf))
  refine callD0 q1 F141 rfl rfl rfl (by kernel_rfl) rfl ?_
  ((first|refine rG Γ hm ?_|refine rD Γ hm (by kernel_rfl) ?_);(conv=>whnf);repeat((first|refine aF ?_|refine aT ?_);(first|refine rG Γ hm ?_|refine rD Γ hm (by kernel_rfl) ?_);conv=>whnf))
  refine callD0 q2 F142 rfl rfl rfl (by kernel_rfl) rfl ?_
  ((first|refine rG Γ hm ?_|refine rD Γ hm (by kernel_rfl) ?_);(conv=>whnf);repeat((first|refine aF ?_|refine aT ?_);(first|refine rG Γ hm ?_|refine rD Γ hm (by kernel_rfl) ?_);conv=>whnf))
  refine ⟨(by kernel_rfl), ?_⟩
  ((conv=>whnf);repeat((first|refine aF ?_|refine aT ?_);(first|refine rG Γ hm ?_|refine rD Γ hm (by kernel_rfl) ?_);conv=>whnf))
  refine G_while (fun z : Int => 0 ≤ z ∧ z ≤ 4294967296 ∧ res = addrGo n irb to e z) (fun z => [(1, intSV irb), (2, intSV to), (3, .ref 8 (netSV n) 0), (9, intSV z), (10, intSV e)]) (fun _ => []) (fun z => (e + 1 - z).toNat) s [] ⟨hf.1, by omega, hlk⟩
    ⟨⟨rfl, rfl, rfl, rfl, rfl, rfl, congrArg intSV (i64_small (x := s) (by omega) (by omega)).symm, rfl, congrArg intSV (i64_small (x := e) (by omega) (by omega)).symm, rfl, trivial⟩, trivial, rfl, rfl⟩ ?_
  clear hlk
  rintro z ⟨hz0, hz1, hlk⟩
  ((first|refine rG Γ hm ?_|refine rD Γ hm (by kernel_rfl) ?_);(conv=>whnf);repeat((first|refine aF ?_|refine aT ?_);(first|refine rG Γ hm ?_|refine rD Γ hm (by kernel_rfl) ?_);conv=>whnf))
  refine ⟨fun h => ?_, fun h => ?_⟩
  · have h5 : z ≤ e := of_decide_eq_true h
    rw [addrGo, if_pos h5] at hlk
    have hz2 : 0 ≤ z ∧ z < 4294967296 := by omega
    have q6 := routeLookupS n hn hb irb z hii
    have hgt := pastI_gt (irb := irb) hu hb hz2
    have hth := lookT_there (n := n) (irb := irb) (dst := z)
    have q8 := fun led hl => choosePastS n hn hu z led hz2 hl
    have q7 := containsFuncS_Irb n.irbs (fun i : Irb => i.addr == z) 143 [] [.ref 1 (u32SV z) 0] rfl (fun i _ => ⟨⟨_, _, F143⟩, sameAddrA z i⟩) hn.irbs
    have ht : decide (0 ≤ idxI (fun i : Irb => i.addr == z) n.irbs) = takenA n z := rfl
    rw [ht] at q7
    clear ht
    generalize takenA n z = tk at *
    generalize lookT n irb z = ld at *
    obtain ⟨led, ok⟩ := ld
    dsimp only at *
    ((first|refine rG Γ hm ?_|refine rD Γ hm (by kernel_rfl) ?_);(conv=>whnf);repeat((first|refine aF ?_|refine aT ?_);(first|refine rG Γ hm ?_|refine rD Γ hm (by kernel_rfl) ?_);conv=>whnf))
    rw [u32_small hz2.1 hz2.2]
    refine call0 q6 F115 rfl rfl rfl rfl rfl ?_
    refine G_box 11 1 (u32SV z) rfl rfl rfl ?_
    ((first|refine rG Γ hm ?_|refine rD Γ hm (by kernel_rfl) ?_);(conv=>whnf);repeat((first|refine aF ?_|refine aT ?_);(first|refine rG Γ hm ?_|refine rD Γ hm (by kernel_rfl) ?_);conv=>whnf))
    refine call0 q7 F116 rfl rfl rfl rfl rfl ?_
    cases ok
    · cases tk
      · rw [if_neg (by simp), if_pos ⟨rfl, rfl⟩] at hlk
        subst hlk
        ((first|refine rG Γ hm ?_|refine rD Γ hm (by kernel_rfl) ?_);(conv=>whnf);repeat((first|refine aF ?_|refine aT ?_);(first|refine rG Γ hm ?_|refine rD Γ hm (by kernel_rfl) ?_);conv=>whnf))
        exact done0 rfl (.cons .tmp (.cons .tmp .nil)) rfl rfl
      · rw [if_neg (by simp), if_neg (by simp), if_pos (hgt (fun h => by cases h)).1] at hlk
        have hg := hgt (fun h => by cases h)
        have q := q8 led (fun h => by cases h)
        generalize pastI n z led = nx at *
        ((first|refine rG Γ hm ?_|refine rD Γ hm (by kernel_rfl) ?_);(conv=>whnf);repeat((first|refine aF ?_|refine aT ?_);(first|refine rG Γ hm ?_|refine rD Γ hm (by kernel_rfl) ?_);conv=>whnf))
        refine call0 q F144 rfl rfl rfl rfl rfl ?_
        ((first|refine rG Γ hm ?_|refine rD Γ hm (by kernel_rfl) ?_);(conv=>whnf);repeat((first|refine aF ?_|refine aT ?_);(first|refine rG Γ hm ?_|refine rD Γ hm (by kernel_rfl) ?_);conv=>whnf))
        exact G_whileN nx [] ⟨by omega, hg.2, hlk⟩ (by omega) ⟨⟨rfl, rfl, rfl, rfl, rfl, rfl, rfl, rfl, rfl, rfl, trivial⟩, trivial, rfl, rfl⟩
    · have q := q8 led (fun _ => hth rfl)
      have hg := hgt (fun _ => rfl)
      cases tk
      · by_cases hto : led = to
        · subst hto
          rw [if_pos ⟨rfl, rfl, rfl⟩] at hlk
          subst hlk
          ((first|refine rG Γ hm ?_|refine rD Γ hm (by kernel_rfl) ?_);(conv=>whnf);repeat((first|refine aF ?_|refine aT ?_);(first|refine rG Γ hm ?_|refine rD Γ hm (by kernel_rfl) ?_);conv=>whnf))
          refine ⟨fun h => ?_, fun h => ?_⟩
          · ((first|refine rG Γ hm ?_|refine rD Γ hm (by kernel_rfl) ?_);(conv=>whnf);repeat((first|refine aF ?_|refine aT ?_);(first|refine rG Γ hm ?_|refine rD Γ hm (by kernel_rfl) ?_);conv=>whnf))
            exact done0 rfl (.cons .tmp (.cons .tmp .nil)) rfl rfl
          · simp at h
        · rw [if_neg (by simp [hto]), if_neg (by simp), if_pos hg.1] at hlk
          generalize pastI n z led = nx at *
          ((first|refine rG Γ hm ?_|refine rD Γ hm (by kernel_rfl) ?_);(conv=>whnf);repeat((first|refine aF ?_|refine aT ?_);(first|refine rG Γ hm ?_|refine rD Γ hm (by kernel_rfl) ?_);conv=>whnf))
          refine ⟨fun h => absurd (by simpa using h) hto, fun h => ?_⟩
          ((first|refine rG Γ hm ?_|refine rD Γ hm (by kernel_rfl) ?_);(conv=>whnf);repeat((first|refine aF ?_|refine aT ?_);(first|refine rG Γ hm ?_|refine rD Γ hm (by kernel_rfl) ?_);conv=>whnf))
          refine call0 q F144 rfl rfl rfl rfl rfl ?_
          ((first|refine rG Γ hm ?_|refine rD Γ hm (by kernel_rfl) ?_);(conv=>whnf);repeat((first|refine aF ?_|refine aT ?_);(first|refine rG Γ hm ?_|refine rD Γ hm (by kernel_rfl) ?_);conv=>whnf))
          exact G_whileN nx [] ⟨by omega, hg.2, hlk⟩ (by omega) ⟨⟨rfl, rfl, rfl, rfl, rfl, rfl, rfl, rfl, rfl, rfl, trivial⟩, trivial, rfl, rfl⟩
      · rw [if_neg (by simp), if_neg (by simp), if_pos hg.1] at hlk
        generalize pastI n z led = nx at *
        ((first|refine rG Γ hm ?_|refine rD Γ hm (by kernel_rfl) ?_);(conv=>whnf);repeat((first|refine aF ?_|refine aT ?_);(first|refine rG Γ hm ?_|refine rD Γ hm (by kernel_rfl) ?_);conv=>whnf))
        refine ⟨fun h => ?_, fun h => ?_⟩
        · ((first|refine rG Γ hm ?_|refine rD Γ hm (by kernel_rfl) ?_);(conv=>whnf);repeat((first|refine aF ?_|refine aT ?_);(first|refine rG Γ hm ?_|refine rD Γ hm (by kernel_rfl) ?_);conv=>whnf))
          refine call0 q F144 rfl rfl rfl rfl rfl ?_
          ((first|refine rG Γ hm ?_|refine rD Γ hm (by kernel_rfl) ?_);(conv=>whnf);repeat((first|refine aF ?_|refine aT ?_);(first|refine rG Γ hm ?_|refine rD Γ hm (by kernel_rfl) ?_);conv=>whnf))
          exact G_whileN nx [] ⟨by omega, hg.2, hlk⟩ (by omega) ⟨⟨rfl, rfl, rfl, rfl, rfl, rfl, rfl, rfl, rfl, rfl, trivial⟩, trivial, rfl, rfl⟩
        · ((first|refine rG Γ hm ?_|refine rD Γ hm (by kernel_rfl) ?_);(conv=>whnf);repeat((first|refine aF ?_|refine aT ?_);(first|refine rG Γ hm ?_|refine rD Γ hm (by kernel_rfl) ?_);conv=>whnf))
          refine call0 q F144 rfl rfl rfl rfl rfl ?_
          ((first|refine rG Γ hm ?_|refine rD Γ hm (by kernel_rfl) ?_);(conv=>whnf);repeat((first|refine aF ?_|refine aT ?_);(first|refine rG Γ hm ?_|refine rD Γ hm (by kernel_rfl) ?_);conv=>whnf))
          exact G_whileN nx [] ⟨by omega, hg.2, hlk⟩ (by omega) ⟨⟨rfl, rfl, rfl, rfl, rfl, rfl, rfl, rfl, rfl, rfl, trivial⟩, trivial, rfl, rfl⟩
  · have h5 : ¬ z ≤ e := of_decide_eq_false h
    rw [addrGo, if_neg h5] at hlk
    subst hlk
    ((first|refine rG Γ hm ?_|refine rD Γ hm (by kernel_rfl) ?_);(conv=>whnf);repeat((first|refine aF ?_|refine aT ?_);(first|refine rG Γ hm ?_|refine rD Γ hm (by kernel_rfl) ?_);conv=>whnf))
    exact done0 rfl (.cons .tmp (.cons .tmp .nil)) rfl rfl

end Go.Sy.YtlfopmhekhifoaaGreatDoor

namespace Go.Sy.YtlfopmhekhifoaaGreatDoor
open Go.Proofs
-- SIMP: placeB

attribute [local irreducible] Go.Sy.G Go.Sy.DR
set_option maxRecDepth 20000
set_option maxHeartbeats 4000000

/-- Where an address leads. -/
structure Lead where
  (to domain addr : Int)
abbrev leadSV (l : Lead) : SV := .agg [intSV l.to, intSV l.domain, u32SV l.addr]
instance : Inhabited Lead := ⟨⟨0, 0, 0⟩⟩

def leadF (n : Net) (irb : Int) (i : Nat) : Option Lead := if (addrT n irb i).2 = true then some ⟨i, (nth n.irbs i).domain, (addrT n irb i).1⟩ else none
def leadsL (n : Net) (irb : Int) (j : Nat) : List Lead := (List.range j).filterMap (leadF n irb)
def routesT (n : Net) (d : Int) : List Lead := if (0 ≤ d ∧ d < n.domains.length) ∧ 0 ≤ (nth n.domains d).irb ∧ netRightB n = true then leadsL n (nth n.domains d).irb n.irbs.length else []

theorem leadsL_succ (n : Net) (irb : Int) (j : Nat) : leadsL n irb (j + 1) = leadsL n irb j ++ (match leadF n irb j with | some h => [h] | none => []) := by
  rw [leadsL, List.range_succ, List.filterMap_append]
  cases h : leadF n irb j <;> simp [h, leadsL]
theorem leadsL_length (n : Net) (irb : Int) (j : Nat) : (leadsL n irb j).length ≤ j := by
  have := List.length_filterMap_le (leadF n irb) (List.range j)
  simpa [leadsL] using this

theorem chooseRoutesS (n : Net) (hn : n.Fin) (hu : Addrs n) (d : Int) : Sy.Spec Tryz.prog 100 [netSV n, intSV d] [] (.sl 3 leadSV (routesT n d)) [] := contract Γ hm 100 F100 Tryz.ntmps100 rfl fun F hF => by
  have hlk := routesT.eq_1 n d
  generalize routesT n d = res at *
  have hr := namesRightS n hn
  have hsi := hn.irbs
  unfold Short at hsi
  ((conv=>whnf);repeat((first|refine aF ?_|refine aT ?_);(first|refine rG Γ hm ?_|refine rD Γ hm (by kernel_rfl) ?_);conv=>whnf))
  refine ⟨fun h => ?_, fun h => ?_⟩
  · rw [if_neg (by have := of_decide_eq_true h; omega)] at hlk
    subst hlk
    ((first|refine rG Γ hm ?_|refine rD Γ hm (by kernel_rfl) ?_);(conv=>whnf);repeat((first|refine aF ?_|refine aT ?_);(first|refine rG Γ hm ?_|refine rD Γ hm (by kernel_rfl) ?_);conv=>whnf))
    refine G_nilsl 4 3 leadSV rfl ?_
    ((first|refine rG Γ hm ?_|refine rD Γ hm (by kernel_rfl) ?_);(conv=>whnf);repeat((first|refine aF ?_|refine aT ?_);(first|refine rG Γ hm ?_|refine rD Γ hm (by kernel_rfl) ?_);conv=>whnf))
    exact done0 rfl (.cons .tmp .nil) rfl rfl
  have h1 : ¬ d < 0 := of_decide_eq_false h
  refine G_box 2 8 (netSV n) rfl rfl rfl ?_
  ((first|refine rG Γ hm ?_|refine rD Γ hm (by kernel_rfl) ?_);(conv=>whnf);repeat((first|refine aF ?_|refine aT ?_);(first|refine rG Γ hm ?_|refine rD Γ hm (by kernel_rfl) ?_);conv=>whnf))
  refine ⟨fun h => ?_, fun h => ?_⟩
  · rw [if_neg (by have := of_decide_eq_true h; omega)] at hlk
    subst hlk
    ((first|refine rG Γ hm ?_|refine rD Γ hm (by kernel_rfl) ?_);(conv=>whnf);repeat((first|refine aF ?_|refine aT ?_);(first|refine rG Γ hm ?_|refine rD Γ hm (by kernel_rfl) ?_);conv=>whnf))
    refine G_nilsl 4 3 leadSV rfl ?_
    ((first|refine rG Γ hm ?_|refine rD Γ hm (by kernel_rfl) ?_);(conv=>whnf);repeat((first|refine aF ?_|refine aT ?_);(first|refine rG Γ hm ?_|refine rD Γ hm (by kernel_rfl) ?_);conv=>whnf))
    exact done0 rfl (.cons .tmp .nil) rfl rfl
  have h2 : d < n.domains.length := by have := of_decide_eq_false h; omega
  have hk : d.toNat < n.domains.length := by omega
  rw [nth_eq hk] at hlk
  obtain ⟨x, hx⟩ : ∃ x, n.domains[d.toNat]'hk = x := ⟨_, rfl⟩
  rw [hx] at hlk
  ((first|refine rG Γ hm ?_|refine rD Γ hm (by kernel_rfl) ?_);(conv=>whnf);repeat((first|refine aF ?_|refine aT ?_);(first|refine rG Γ hm ?_|refine rD Γ hm (by kernel_rfl) ?_);conv=>whnf))
  refine ⟨rfl, by omega, hk, ?_⟩
  rw [hx]
  ((conv=>whnf);repeat((first|refine aF ?_|refine aT ?_);(first|refine rG Γ hm ?_|refine rD Γ hm (by kernel_rfl) ?_);conv=>whnf))
  refine ⟨fun h => ?_, fun h => ?_⟩
  · rw [if_neg (by have := of_decide_eq_true h; omega)] at hlk
    subst hlk
    ((first|refine rG Γ hm ?_|refine rD Γ hm (by kernel_rfl) ?_);(conv=>whnf);repeat((first|refine aF ?_|refine aT ?_);(first|refine rG Γ hm ?_|refine rD Γ hm (by kernel_rfl) ?_);conv=>whnf))
    refine G_nilsl 4 3 leadSV rfl ?_
    ((first|refine rG Γ hm ?_|refine rD Γ hm (by kernel_rfl) ?_);(conv=>whnf);repeat((first|refine aF ?_|refine aT ?_);(first|refine rG Γ hm ?_|refine rD Γ hm (by kernel_rfl) ?_);conv=>whnf))
    exact done0 rfl (.cons .tmp .nil) rfl rfl
  have h3 : 0 ≤ x.irb := by have := of_decide_eq_false h; omega
  ((first|refine rG Γ hm ?_|refine rD Γ hm (by kernel_rfl) ?_);(conv=>whnf);repeat((first|refine aF ?_|refine aT ?_);(first|refine rG Γ hm ?_|refine rD Γ hm (by kernel_rfl) ?_);conv=>whnf))
  refine call0 hr F15 rfl rfl rfl rfl rfl ?_
  cases hb : netRightB n
  · rw [if_neg (by simp [hb])] at hlk
    subst hlk
    ((first|refine rG Γ hm ?_|refine rD Γ hm (by kernel_rfl) ?_);(conv=>whnf);repeat((first|refine aF ?_|refine aT ?_);(first|refine rG Γ hm ?_|refine rD Γ hm (by kernel_rfl) ?_);conv=>whnf))
    refine G_nilsl 4 3 leadSV rfl ?_
    ((first|refine rG Γ hm ?_|refine rD Γ hm (by kernel_rfl) ?_);(conv=>whnf);repeat((first|refine aF ?_|refine aT ?_);(first|refine rG Γ hm ?_|refine rD Γ hm (by kernel_rfl) ?_);conv=>whnf))
    exact done0 rfl (.cons .tmp .nil) rfl rfl
  rw [if_pos ⟨⟨by omega, h2⟩, h3, hb⟩] at hlk
  subst hlk
  ((first|refine rG Γ hm ?_|refine rD Γ hm (by kernel_rfl) ?_);(conv=>whnf);repeat((first|refine aF ?_|refine aT ?_);(first|refine rG Γ hm ?_|refine rD Γ hm (by kernel_rfl) ?_);conv=>whnf))
  refine G_adopt 5 1000 3 leadSV rfl rfl ?_
  refine G_count n.irbs.length (fun j => [(1, intSV d), (2, .ref 8 (netSV n) 0), (5, .osl 1000), (34, .sl 5 irbSV n.irbs), (35, intSV n.irbs.length), (36, intSV j)]) (fun j => [(1000, .row 3 leadSV (leadsL n x.irb j))]) []
    ⟨⟨rfl, rfl, rfl, rfl, rfl, rfl, rfl, rfl, rfl, rfl, rfl, rfl, trivial⟩, ⟨.inl rfl, rfl, trivial⟩, rfl, rfl⟩ ?_
  intro j hj
  have hll := leadsL_length n x.irb j
  ((first|refine rG Γ hm ?_|refine rD Γ hm (by kernel_rfl) ?_);(conv=>whnf);repeat((first|refine aF ?_|refine aT ?_);(first|refine rG Γ hm ?_|refine rD Γ hm (by kernel_rfl) ?_);conv=>whnf))
  refine ⟨fun h => ?_, fun h => ?_⟩
  · have hlt : j < n.irbs.length := by simpa using h
    have hj0 : ((j : Nat) : Int).toNat < n.irbs.length := by simpa using hlt
    have q := chooseAddressS n hn hu x.irb j
    have hs := leadsL_succ n x.irb j
    have hle := leadF.eq_1 n x.irb j
    rw [nth_eq hj0] at hle
    rw [hle] at hs
    obtain ⟨y, hy⟩ : ∃ y, n.irbs[((j : Nat) : Int).toNat]'hj0 = y := ⟨_, rfl⟩
    rw [hy] at hs
    generalize addrT n x.irb j = ad at *
    obtain ⟨a, ok⟩ := ad
    dsimp only at hs q
    ((first|refine rG Γ hm ?_|refine rD Γ hm (by kernel_rfl) ?_);(conv=>whnf);repeat((first|refine aF ?_|refine aT ?_);(first|refine rG Γ hm ?_|refine rD Γ hm (by kernel_rfl) ?_);conv=>whnf))
    refine ⟨rfl, by omega, hj0, ?_⟩
    rw [hy]
    ((conv=>whnf);repeat((first|refine aF ?_|refine aT ?_);(first|refine rG Γ hm ?_|refine rD Γ hm (by kernel_rfl) ?_);conv=>whnf))
    refine ⟨rfl, by omega, hk, ?_⟩
    rw [hx]
    ((conv=>whnf);repeat((first|refine aF ?_|refine aT ?_);(first|refine rG Γ hm ?_|refine rD Γ hm (by kernel_rfl) ?_);conv=>whnf))
    refine callD0 q F125 rfl rfl rfl (by kernel_rfl) rfl ?_
    ((first|refine rG Γ hm ?_|refine rD Γ hm (by kernel_rfl) ?_);(conv=>whnf);repeat((first|refine aF ?_|refine aT ?_);(first|refine rG Γ hm ?_|refine rD Γ hm (by kernel_rfl) ?_);conv=>whnf))
    refine ⟨(by kernel_rfl), ?_⟩
    ((conv=>whnf);repeat((first|refine aF ?_|refine aT ?_);(first|refine rG Γ hm ?_|refine rD Γ hm (by kernel_rfl) ?_);conv=>whnf))
    refine ⟨fun h => ?_, fun h => ?_⟩ <;> (have h : ok = _ := h; subst h)
    · ((first|refine rG Γ hm ?_|refine rD Γ hm (by kernel_rfl) ?_);(conv=>whnf);repeat((first|refine aF ?_|refine aT ?_);(first|refine rG Γ hm ?_|refine rD Γ hm (by kernel_rfl) ?_);conv=>whnf))
      refine stepOp (good_appendT Γ.toTy 61 rfl rfl rfl rfl rfl (.row rfl) (.lit (e := leadSV) (l := [⟨j, y.domain, a⟩]) rfl rfl) (by simp) (by simp; omega) (by simp; omega)) rfl rfl ?_
      ((first|refine rG Γ hm ?_|refine rD Γ hm (by kernel_rfl) ?_);(conv=>whnf);repeat((first|refine aF ?_|refine aT ?_);(first|refine rG Γ hm ?_|refine rD Γ hm (by kernel_rfl) ?_);conv=>whnf))
      refine ⟨by unfold I64; omega, ?_⟩
      ((conv=>whnf);repeat((first|refine aF ?_|refine aT ?_);(first|refine rG Γ hm ?_|refine rD Γ hm (by kernel_rfl) ?_);conv=>whnf))
      exact G_next [(1000, 61)] hlt ⟨⟨rfl, rfl, rfl, rfl, rfl, rfl, rfl, rfl, rfl, rfl, rfl, rfl, trivial⟩, ⟨.inl (congrArg (Ob.row 3 leadSV) hs), rfl, trivial⟩, rfl, rfl⟩
    · ((first|refine rG Γ hm ?_|refine rD Γ hm (by kernel_rfl) ?_);(conv=>whnf);repeat((first|refine aF ?_|refine aT ?_);(first|refine rG Γ hm ?_|refine rD Γ hm (by kernel_rfl) ?_);conv=>whnf))
      refine ⟨by unfold I64; omega, ?_⟩
      ((conv=>whnf);repeat((first|refine aF ?_|refine aT ?_);(first|refine rG Γ hm ?_|refine rD Γ hm (by kernel_rfl) ?_);conv=>whnf))
      exact G_next [] hlt ⟨⟨rfl, rfl, rfl, rfl, rfl, rfl, rfl, rfl, rfl, rfl, rfl, rfl, trivial⟩, ⟨.inl (congrArg (Ob.row 3 leadSV) (hs.trans (List.append_nil _))), rfl, trivial⟩, rfl, rfl⟩
  · have : j = n.irbs.length := by have := of_decide_eq_false h; omega
    subst this
    ((first|refine rG Γ hm ?_|refine rD Γ hm (by kernel_rfl) ?_);(conv=>whnf);repeat((first|refine aF ?_|refine aT ?_);(first|refine rG Γ hm ?_|refine rD Γ hm (by kernel_rfl) ?_);conv=>whnf))
    refine G_data 1000 rfl ?_
    ((first|refine rG Γ hm ?_|refine rD Γ hm (by kernel_rfl) ?_);(conv=>whnf);repeat((first|refine aF ?_|refine aT ?_);(first|refine rG Γ hm ?_|refine rD Γ hm (by kernel_rfl) ?_);conv=>whnf))
    exact done0 rfl (.cons .tmp .nil) rfl rfl

end Go.Sy.YtlfopmhekhifoaaGreatDoor
