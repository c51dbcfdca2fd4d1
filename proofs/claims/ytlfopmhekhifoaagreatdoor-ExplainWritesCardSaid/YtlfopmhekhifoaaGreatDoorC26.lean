/-
  The document's numbers and addresses as texts. The document's texts of addresses, domains, ports. The document's row of a hop.
-/
import Derived.Test.YtlfopmhekhifoaaGreatDoorC23
import Derived.Test.YtlfopmhekhifoaaGreatDoorC7
import Derived.Test.YtlfopmhekhifoaaGreatDoorC9

namespace Go.Sy.YtlfopmhekhifoaaGreatDoor
open Go.Proofs

attribute [local irreducible] Go.Sy.G Go.Sy.DR
set_option maxRecDepth 20000
set_option maxHeartbeats 4000000

theorem mkT_append (a b : List UInt8) : mkT a ++ mkT b = mkT (a ++ b) := by
  apply ext_list
  simp [mkT]

theorem numT_nat (m : Nat) : numT m = mkT (revDigs m).reverse := by rw [numT, numL_nat]

theorem refNumberS (m : Nat) (hmm : m < 1000000000000000000) : Sy.Spec Tryz.prog 109 [intSV m] [] (strSV (numT m)) [] := contract Γ hm 100 F109 Tryz.ntmps109 rfl fun F hF => by
  have hlen : (revDigs m).length ≤ 19 := revDigs_short 18 m (by omega)
  rw [numT_nat]
  obtain ⟨D, hD⟩ : ∃ D, (revDigs m).reverse = D := ⟨_, rfl⟩
  have hDl : D.length ≤ 19 := by rw [← hD, List.length_reverse]; exact hlen
  rw [hD]
  ((conv=>whnf);repeat((first|refine aF ?_|refine aT ?_);(first|refine rG Γ hm ?_|refine rD Γ hm (by kernel_rfl) ?_);conv=>whnf))
  refine G_while (fun x : Nat × List UInt8 => D = (revDigs x.1).reverse ++ x.2 ∧ x.1 ≤ m) (fun x => [(0, intSV x.1), (3, strSV (mkT x.2))]) (fun _ => []) (fun x => x.1) (m, []) [] ⟨by rw [List.append_nil]; exact hD.symm, Nat.le_refl _⟩ ⟨⟨rfl, rfl, rfl, rfl, trivial⟩, trivial, rfl, rfl⟩ ?_
  clear hD
  rintro ⟨u, t⟩ ⟨hD, hu⟩
  dsimp only at hD hu ⊢
  have htl : t.length ≤ 19 := by rw [hD, List.length_append] at hDl; omega
  have hts : (mkT t).size ≤ 19 := by rw [mkT_size]; exact htl
  have hr := revDigs_rev u
  ((first|refine rG Γ hm ?_|refine rD Γ hm (by kernel_rfl) ?_);(conv=>whnf);repeat((first|refine aF ?_|refine aT ?_);(first|refine rG Γ hm ?_|refine rD Γ hm (by kernel_rfl) ?_);conv=>whnf))
  refine ⟨fun h => ?_, fun h => ?_⟩
  · have h1 : ¬ u < 10 := by have := of_decide_eq_true h; omega
    rw [if_neg h1] at hr
    ((first|refine rG Γ hm ?_|refine rD Γ hm (by kernel_rfl) ?_);(conv=>whnf);repeat((first|refine aF ?_|refine aT ?_);(first|refine rG Γ hm ?_|refine rD Γ hm (by kernel_rfl) ?_);conv=>whnf))
    refine ⟨by decide, ?_⟩
    ((conv=>whnf);repeat((first|refine aF ?_|refine aT ?_);(first|refine rG Γ hm ?_|refine rD Γ hm (by kernel_rfl) ?_);conv=>whnf))
    rw [tmod10 u]
    refine ⟨by unfold I64; omega, ?_⟩
    ((conv=>whnf);repeat((first|refine aF ?_|refine aT ?_);(first|refine rG Γ hm ?_|refine rD Γ hm (by kernel_rfl) ?_);conv=>whnf))
    rw [dig8 u]
    refine stepOp (good_stringT Γ.toTy (bs := [UInt8.ofNat (48 + u % 10)]) rfl rfl rfl rfl rfl rfl rfl (.lit (e := byteSV) (l := [UInt8.ofNat (48 + u % 10)]) rfl rfl)) rfl rfl ?_
    ((first|refine rG Γ hm ?_|refine rD Γ hm (by kernel_rfl) ?_);(conv=>whnf);repeat((first|refine aF ?_|refine aT ?_);(first|refine rG Γ hm ?_|refine rD Γ hm (by kernel_rfl) ?_);conv=>whnf))
    refine ⟨by show 1 + (mkT t).size ≤ _; omega, ?_⟩
    ((conv=>whnf);repeat((first|refine aF ?_|refine aT ?_);(first|refine rG Γ hm ?_|refine rD Γ hm (by kernel_rfl) ?_);conv=>whnf))
    refine ⟨by decide, ?_⟩
    ((conv=>whnf);repeat((first|refine aF ?_|refine aT ?_);(first|refine rG Γ hm ?_|refine rD Γ hm (by kernel_rfl) ?_);conv=>whnf))
    rw [tdiv10 u (by omega)]
    refine G_whileN (u / 10, UInt8.ofNat (48 + u % 10) :: t) [] ⟨by rw [hD, hr]; simp, by dsimp only; omega⟩ (by dsimp only; omega) ⟨⟨rfl, rfl, congrArg strSV ?_, rfl, trivial⟩, trivial, rfl, rfl⟩
    exact mkT_append [_] t
  · have h1 : u < 10 := by have := of_decide_eq_false h; omega
    rw [if_pos h1, List.nil_append] at hr
    have hd := dig8 u
    rw [Nat.mod_eq_of_lt h1] at hr hd
    ((first|refine rG Γ hm ?_|refine rD Γ hm (by kernel_rfl) ?_);(conv=>whnf);repeat((first|refine aF ?_|refine aT ?_);(first|refine rG Γ hm ?_|refine rD Γ hm (by kernel_rfl) ?_);conv=>whnf))
    refine ⟨by unfold I64; omega, ?_⟩
    ((conv=>whnf);repeat((first|refine aF ?_|refine aT ?_);(first|refine rG Γ hm ?_|refine rD Γ hm (by kernel_rfl) ?_);conv=>whnf))
    rw [hd]
    refine stepOp (good_stringT Γ.toTy (bs := [UInt8.ofNat (48 + u)]) rfl rfl rfl rfl rfl rfl rfl (.lit (e := byteSV) (l := [UInt8.ofNat (48 + u)]) rfl rfl)) rfl rfl ?_
    ((first|refine rG Γ hm ?_|refine rD Γ hm (by kernel_rfl) ?_);(conv=>whnf);repeat((first|refine aF ?_|refine aT ?_);(first|refine rG Γ hm ?_|refine rD Γ hm (by kernel_rfl) ?_);conv=>whnf))
    refine ⟨by show 1 + (mkT t).size ≤ _; omega, ?_⟩
    ((conv=>whnf);repeat((first|refine aF ?_|refine aT ?_);(first|refine rG Γ hm ?_|refine rD Γ hm (by kernel_rfl) ?_);conv=>whnf))
    refine done0 rfl (.cons .tmp .nil) (congrArg strSV ?_) rfl
    rw [hD, hr]
    exact (mkT_append [_] t).symm

theorem u64div10 (n : Nat) (h : n < 1000000000000000000) : IntKind.u64.wrap ((n : Int).tdiv 10) = ((n / 10 : Nat) : Int) := by
  rw [Int.tdiv_eq_ediv_of_nonneg (by omega), IntKind.wrap_u64]; omega

theorem refDigitsS (m : Nat) (hmm : m < 1000000000000000000) : Sy.Spec Tryz.prog 108 [u64SV m] [] (strSV (numT m)) [] := contract Γ hm 100 F108 Tryz.ntmps108 rfl fun F hF => by
  have hlen : (revDigs m).length ≤ 19 := revDigs_short 18 m (by omega)
  rw [numT_nat]
  obtain ⟨D, hD⟩ : ∃ D, (revDigs m).reverse = D := ⟨_, rfl⟩
  have hDl : D.length ≤ 19 := by rw [← hD, List.length_reverse]; exact hlen
  rw [hD]
  ((conv=>whnf);repeat((first|refine aF ?_|refine aT ?_);(first|refine rG Γ hm ?_|refine rD Γ hm (by kernel_rfl) ?_);conv=>whnf))
  refine G_while (fun x : Nat × List UInt8 => D = (revDigs x.1).reverse ++ x.2 ∧ x.1 ≤ m) (fun x => [(0, u64SV x.1), (3, strSV (mkT x.2))]) (fun _ => []) (fun x => x.1) (m, []) [] ⟨by rw [List.append_nil]; exact hD.symm, Nat.le_refl _⟩ ⟨⟨rfl, rfl, rfl, rfl, trivial⟩, trivial, rfl, rfl⟩ ?_
  clear hD
  rintro ⟨u, t⟩ ⟨hD, hu⟩
  dsimp only at hD hu ⊢
  have htl : t.length ≤ 19 := by rw [hD, List.length_append] at hDl; omega
  have hts : (mkT t).size ≤ 19 := by rw [mkT_size]; exact htl
  have hr := revDigs_rev u
  ((first|refine rG Γ hm ?_|refine rD Γ hm (by kernel_rfl) ?_);(conv=>whnf);repeat((first|refine aF ?_|refine aT ?_);(first|refine rG Γ hm ?_|refine rD Γ hm (by kernel_rfl) ?_);conv=>whnf))
  refine ⟨fun h => ?_, fun h => ?_⟩
  · have h1 : ¬ u < 10 := by have := of_decide_eq_true h; omega
    rw [if_neg h1] at hr
    ((first|refine rG Γ hm ?_|refine rD Γ hm (by kernel_rfl) ?_);(conv=>whnf);repeat((first|refine aF ?_|refine aT ?_);(first|refine rG Γ hm ?_|refine rD Γ hm (by kernel_rfl) ?_);conv=>whnf))
    refine ⟨by decide, ?_⟩
    ((conv=>whnf);repeat((first|refine aF ?_|refine aT ?_);(first|refine rG Γ hm ?_|refine rD Γ hm (by kernel_rfl) ?_);conv=>whnf))
    rw [tmod10 u]
    have hd : IntKind.u8.wrap (IntKind.u64.wrap (48 + ((u % 10 : Nat) : Int))) = ((UInt8.ofNat (48 + u % 10)).toNat : Int) := by
      rw [show IntKind.u64.wrap (48 + ((u % 10 : Nat) : Int)) = 48 + ((u % 10 : Nat) : Int) by rw [IntKind.wrap_u64]; omega]
      exact dig8 u
    rw [hd]
    refine stepOp (good_stringT Γ.toTy (bs := [UInt8.ofNat (48 + u % 10)]) rfl rfl rfl rfl rfl rfl rfl (.lit (e := byteSV) (l := [UInt8.ofNat (48 + u % 10)]) rfl rfl)) rfl rfl ?_
    ((first|refine rG Γ hm ?_|refine rD Γ hm (by kernel_rfl) ?_);(conv=>whnf);repeat((first|refine aF ?_|refine aT ?_);(first|refine rG Γ hm ?_|refine rD Γ hm (by kernel_rfl) ?_);conv=>whnf))
    refine ⟨by show 1 + (mkT t).size ≤ _; omega, ?_⟩
    ((conv=>whnf);repeat((first|refine aF ?_|refine aT ?_);(first|refine rG Γ hm ?_|refine rD Γ hm (by kernel_rfl) ?_);conv=>whnf))
    refine ⟨by decide, ?_⟩
    ((conv=>whnf);repeat((first|refine aF ?_|refine aT ?_);(first|refine rG Γ hm ?_|refine rD Γ hm (by kernel_rfl) ?_);conv=>whnf))
    rw [u64div10 u (by omega)]
    refine G_whileN (u / 10, UInt8.ofNat (48 + u % 10) :: t) [] ⟨by rw [hD, hr]; simp, by dsimp only; omega⟩ (by dsimp only; omega) ⟨⟨rfl, rfl, congrArg strSV ?_, rfl, trivial⟩, trivial, rfl, rfl⟩
    exact mkT_append [_] t
  · have h1 : u < 10 := by have := of_decide_eq_false h; omega
    rw [if_pos h1, List.nil_append] at hr
    have hd : IntKind.u8.wrap (IntKind.u64.wrap (48 + ((u % 10 : Nat) : Int))) = ((UInt8.ofNat (48 + u % 10)).toNat : Int) := by
      rw [show IntKind.u64.wrap (48 + ((u % 10 : Nat) : Int)) = 48 + ((u % 10 : Nat) : Int) by rw [IntKind.wrap_u64]; omega]
      exact dig8 u
    rw [Nat.mod_eq_of_lt h1] at hr hd
    ((first|refine rG Γ hm ?_|refine rD Γ hm (by kernel_rfl) ?_);(conv=>whnf);repeat((first|refine aF ?_|refine aT ?_);(first|refine rG Γ hm ?_|refine rD Γ hm (by kernel_rfl) ?_);conv=>whnf))
    rw [hd]
    refine stepOp (good_stringT Γ.toTy (bs := [UInt8.ofNat (48 + u)]) rfl rfl rfl rfl rfl rfl rfl (.lit (e := byteSV) (l := [UInt8.ofNat (48 + u)]) rfl rfl)) rfl rfl ?_
    ((first|refine rG Γ hm ?_|refine rD Γ hm (by kernel_rfl) ?_);(conv=>whnf);repeat((first|refine aF ?_|refine aT ?_);(first|refine rG Γ hm ?_|refine rD Γ hm (by kernel_rfl) ?_);conv=>whnf))
    refine ⟨by show 1 + (mkT t).size ≤ _; omega, ?_⟩
    ((conv=>whnf);repeat((first|refine aF ?_|refine aT ?_);(first|refine rG Γ hm ?_|refine rD Γ hm (by kernel_rfl) ?_);conv=>whnf))
    refine done0 rfl (.cons .tmp .nil) (congrArg strSV ?_) rfl
    rw [hD, hr]
    exact (mkT_append [_] t).symm

theorem refNumTextS (m : Nat) (hmm : m < 1000000000000000000) : Sy.Spec Tryz.prog 72 [intSV m] [] (strSV (numT m)) [] := contract Γ hm 100 F72 Tryz.ntmps72 rfl fun F hF => by
  have q := refDigitsS m hmm
  ((conv=>whnf);repeat((first|refine aF ?_|refine aT ?_);(first|refine rG Γ hm ?_|refine rD Γ hm (by kernel_rfl) ?_);conv=>whnf))
  rw [show IntKind.u64.wrap (m : Int) = m by rw [IntKind.wrap_u64]; omega]
  refine call0 q F108 rfl rfl rfl rfl rfl ?_
  ((first|refine rG Γ hm ?_|refine rD Γ hm (by kernel_rfl) ?_);(conv=>whnf);repeat((first|refine aF ?_|refine aT ?_);(first|refine rG Γ hm ?_|refine rD Γ hm (by kernel_rfl) ?_);conv=>whnf))
  exact done0 rfl (.cons .tmp .nil) rfl rfl

end Go.Sy.YtlfopmhekhifoaaGreatDoor

namespace Go.Sy.YtlfopmhekhifoaaGreatDoor
open Go.Proofs
-- SIMP: placeB

attribute [local irreducible] Go.Sy.G Go.Sy.DR
set_option maxRecDepth 20000
set_option maxHeartbeats 4000000

theorem addrTx_eq (a : Nat) : addrTx a = numT (octN a 0 : Nat) ++ ⟨#[46]⟩ ++ numT (octN a 1 : Nat) ++ ⟨#[46]⟩ ++ numT (octN a 2 : Nat) ++ ⟨#[46]⟩ ++ numT (octN a 3 : Nat) := by
  have e : (⟨#[46]⟩ : ByteArray) = mkT [46] := rfl
  rw [addrTx, Int.toNat_natCast, numT_nat, numT_nat, numT_nat, numT_nat, e]
  simp only [mkT_append]
  simp [addrU]

theorem i64_nat (n : Nat) (h : n < 1000000000000000000) : IntKind.i64.wrap (n : Int) = n := by rw [IntKind.wrap_i64]; omega
theorem tdivN (n k : Nat) (h : n < 1000000000000000000) : IntKind.i64.wrap ((n : Int).tdiv k) = ((n / k : Nat) : Int) := by
  rw [Int.tdiv_eq_ediv_of_nonneg (by omega), ← Int.natCast_ediv]
  exact i64_nat _ (Nat.lt_of_le_of_lt (Nat.div_le_self _ _) h)
theorem tmodN (n k : Nat) : (n : Int).tmod k = ((n % k : Nat) : Int) := by
  rw [Int.tmod_eq_emod_of_nonneg (by omega)]; omega
theorem numT_nat_size {n : Nat} (h : n < 1000000000000000000) : (numT n).size ≤ 19 := numT_size ⟨by omega, by omega⟩

theorem refAddrTextS (a : Nat) (ha : a < 4294967296) : Sy.Spec Tryz.prog 74 [u32SV a] [] (strSV (addrTx a)) [] := contract Γ hm 100 F74 Tryz.ntmps74 rfl fun F hF => by
  have d0 := tdivN a 16777216 (by omega)
  have d1 := tdivN a 65536 (by omega)
  have d2 := tdivN a 256 (by omega)
  have m1 := tmodN (a / 65536) 256
  have m2 := tmodN (a / 256) 256
  have m3 := tmodN a 256
  have o0 : a / 16777216 = octN a 0 := by unfold octN; omega
  have o1 : a / 65536 % 256 = octN a 1 := by unfold octN; omega
  have o2 : a / 256 % 256 = octN a 2 := by unfold octN; omega
  have o3 : a % 256 = octN a 3 := by unfold octN; omega
  have b : ∀ j, octN a j < 256 := fun j => by unfold octN; omega
  have q0 := refNumberS (octN a 0) (by have := b 0; omega)
  have q1 := refNumberS (octN a 1) (by have := b 1; omega)
  have q2 := refNumberS (octN a 2) (by have := b 2; omega)
  have q3 := refNumberS (octN a 3) (by have := b 3; omega)
  have s0 := numT_nat_size (n := octN a 0) (by have := b 0; omega)
  have s1 := numT_nat_size (n := octN a 1) (by have := b 1; omega)
  have s2 := numT_nat_size (n := octN a 2) (by have := b 2; omega)
  have s3 := numT_nat_size (n := octN a 3) (by have := b 3; omega)
  rw [o0] at d0
  rw [o1] at m1
  rw [o2] at m2
  rw [o3] at m3
  rw [addrTx_eq a]
  generalize hz0 : octN a 0 = z0 at *
  generalize hz1 : octN a 1 = z1 at *
  generalize hz2 : octN a 2 = z2 at *
  generalize hz3 : octN a 3 = z3 at *
  generalize numT (z0 : Nat) = t0 at *
  generalize numT (z1 : Nat) = t1 at *
  generalize numT (z2 : Nat) = t2 at *
  generalize numT (z3 : Nat) = t3 at *
  ((conv=>whnf);repeat((first|refine aF ?_|refine aT ?_);(first|refine rG Γ hm ?_|refine rD Γ hm (by kernel_rfl) ?_);conv=>whnf))
  rw [i64_nat a (by omega)]
  refine ⟨by decide, ?_⟩
  ((conv=>whnf);repeat((first|refine aF ?_|refine aT ?_);(first|refine rG Γ hm ?_|refine rD Γ hm (by kernel_rfl) ?_);conv=>whnf))
  have d0' : IntKind.i64.wrap ((a : Int).tdiv 16777216) = ((z0 : Nat) : Int) := d0
  have d1' : IntKind.i64.wrap ((a : Int).tdiv 65536) = ((a / 65536 : Nat) : Int) := d1
  have d2' : IntKind.i64.wrap ((a : Int).tdiv 256) = ((a / 256 : Nat) : Int) := d2
  have m1' : ((a / 65536 : Nat) : Int).tmod 256 = ((z1 : Nat) : Int) := m1
  have m2' : ((a / 256 : Nat) : Int).tmod 256 = ((z2 : Nat) : Int) := m2
  have m3' : (a : Int).tmod 256 = ((z3 : Nat) : Int) := m3
  rw [d0']
  refine call0 q0 F109 rfl rfl rfl rfl rfl ?_
  ((first|refine rG Γ hm ?_|refine rD Γ hm (by kernel_rfl) ?_);(conv=>whnf);repeat((first|refine aF ?_|refine aT ?_);(first|refine rG Γ hm ?_|refine rD Γ hm (by kernel_rfl) ?_);conv=>whnf))
  refine ⟨by show _ + 1 ≤ _; omega, ?_⟩
  ((conv=>whnf);repeat((first|refine aF ?_|refine aT ?_);(first|refine rG Γ hm ?_|refine rD Γ hm (by kernel_rfl) ?_);conv=>whnf))
  refine ⟨by decide, ?_⟩
  ((conv=>whnf);repeat((first|refine aF ?_|refine aT ?_);(first|refine rG Γ hm ?_|refine rD Γ hm (by kernel_rfl) ?_);conv=>whnf))
  rw [d1']
  refine ⟨by decide, ?_⟩
  ((conv=>whnf);repeat((first|refine aF ?_|refine aT ?_);(first|refine rG Γ hm ?_|refine rD Γ hm (by kernel_rfl) ?_);conv=>whnf))
  rw [m1']
  refine call0 q1 F109 rfl rfl rfl rfl rfl ?_
  ((first|refine rG Γ hm ?_|refine rD Γ hm (by kernel_rfl) ?_);(conv=>whnf);repeat((first|refine aF ?_|refine aT ?_);(first|refine rG Γ hm ?_|refine rD Γ hm (by kernel_rfl) ?_);conv=>whnf))
  have e1 : (t0 ++ ⟨#[46]⟩ : ByteArray).size = t0.size + 1 := size_app _ _
  have e2 : (t0 ++ ⟨#[46]⟩ ++ t1 : ByteArray).size = t0.size + 1 + t1.size := by rw [size_app, e1]
  have e3 : (t0 ++ ⟨#[46]⟩ ++ t1 ++ ⟨#[46]⟩ : ByteArray).size = t0.size + 1 + t1.size + 1 := by rw [size_app, e2]; rfl
  have e4 : (t0 ++ ⟨#[46]⟩ ++ t1 ++ ⟨#[46]⟩ ++ t2 : ByteArray).size = t0.size + 1 + t1.size + 1 + t2.size := by rw [size_app, e3]
  have e5 : (t0 ++ ⟨#[46]⟩ ++ t1 ++ ⟨#[46]⟩ ++ t2 ++ ⟨#[46]⟩ : ByteArray).size = t0.size + 1 + t1.size + 1 + t2.size + 1 := by rw [size_app, e4]; rfl
  refine ⟨by omega, ?_⟩
  ((conv=>whnf);repeat((first|refine aF ?_|refine aT ?_);(first|refine rG Γ hm ?_|refine rD Γ hm (by kernel_rfl) ?_);conv=>whnf))
  refine ⟨by show _ + 1 ≤ _; omega, ?_⟩
  ((conv=>whnf);repeat((first|refine aF ?_|refine aT ?_);(first|refine rG Γ hm ?_|refine rD Γ hm (by kernel_rfl) ?_);conv=>whnf))
  refine ⟨by decide, ?_⟩
  ((conv=>whnf);repeat((first|refine aF ?_|refine aT ?_);(first|refine rG Γ hm ?_|refine rD Γ hm (by kernel_rfl) ?_);conv=>whnf))
  rw [d2']
  refine ⟨by decide, ?_⟩
  ((conv=>whnf);repeat((first|refine aF ?_|refine aT ?_);(first|refine rG Γ hm ?_|refine rD Γ hm (by kernel_rfl) ?_);conv=>whnf))
  rw [m2']
  refine call0 q2 F109 rfl rfl rfl rfl rfl ?_
  ((first|refine rG Γ hm ?_|refine rD Γ hm (by kernel_rfl) ?_);(conv=>whnf);repeat((first|refine aF ?_|refine aT ?_);(first|refine rG Γ hm ?_|refine rD Γ hm (by kernel_rfl) ?_);conv=>whnf))
  refine ⟨by omega, ?_⟩
  ((conv=>whnf);repeat((first|refine aF ?_|refine aT ?_);(first|refine rG Γ hm ?_|refine rD Γ hm (by kernel_rfl) ?_);conv=>whnf))
  refine ⟨by show _ + 1 ≤ _; omega, ?_⟩
  ((conv=>whnf);repeat((first|refine aF ?_|refine aT ?_);(first|refine rG Γ hm ?_|refine rD Γ hm (by kernel_rfl) ?_);conv=>whnf))
  refine ⟨by decide, ?_⟩
  ((conv=>whnf);repeat((first|refine aF ?_|refine aT ?_);(first|refine rG Γ hm ?_|refine rD Γ hm (by kernel_rfl) ?_);conv=>whnf))
  rw [m3']
  refine call0 q3 F109 rfl rfl rfl rfl rfl ?_
  ((first|refine rG Γ hm ?_|refine rD Γ hm (by kernel_rfl) ?_);(conv=>whnf);repeat((first|refine aF ?_|refine aT ?_);(first|refine rG Γ hm ?_|refine rD Γ hm (by kernel_rfl) ?_);conv=>whnf))
  refine ⟨by omega, ?_⟩
  ((conv=>whnf);repeat((first|refine aF ?_|refine aT ?_);(first|refine rG Γ hm ?_|refine rD Γ hm (by kernel_rfl) ?_);conv=>whnf))
  exact done0 rfl (.cons .tmp .nil) rfl rfl

/-- The document finds the same other side of a link, in a net that may be. -/
theorem otherI_eq {n : Net} (hb : netRightB n = true) (i : Int) : otherI n.links i = otherT n i := by
  have hlr : ∀ (k : Nat) (hk : k < n.links.length), linkB n k n.links[k] = true := fun k hk => by
    have h := hb
    simp only [netRightB, Bool.and_eq_true] at h
    exact allB_iff.1 h.1.1.1.1.2 k hk
  have hin : ∀ (k : Nat) (hk : k < n.links.length), (n.links[k].a = i ∨ n.links[k].b = i) → (0 ≤ i ∧ i.toNat < n.ports.length) ∧ (nth n.ports i).link = k := fun k hk h => by
    have := hlr k hk
    simp only [linkB, placeB, Bool.and_eq_true, decide_eq_true_eq, beq_iff_eq] at this
    rcases h with h | h <;> rw [h] at this
    · exact ⟨by omega, this.1.2⟩
    · exact ⟨by omega, this.2⟩
  rw [otherI, otherT]
  cases hf : n.links.find? (fun l => l.a == i || l.b == i) with
  | none =>
    rw [List.find?_eq_none] at hf
    dsimp only
    split
    · rename_i hc
      have hk : i.toNat < n.ports.length := by omega
      have e1 : nth n.ports i = n.ports[i.toNat] := nth_eq hk
      rw [e1] at hc
      have hq := e_port_link hb hk hc.2.1
      have e2 : nth n.links n.ports[i.toNat].link = n.links[n.ports[i.toNat].link.toNat] := nth_eq hq.1
      rw [e2] at hq
      have := hf _ (List.getElem_mem hq.1)
      have e3 : ((i.toNat : Nat) : Int) = i := by omega
      rw [e3] at hq
      simp at this
      rcases hq.2 with h | h
      · exact absurd h this.1
      · exact absurd h this.2
    · rfl
  | some l =>
    rw [List.find?_eq_some_iff_getElem] at hf
    obtain ⟨hl, k, hk, rfl, _⟩ := hf
    have h2 := hin k hk (by simpa using hl)
    have e2 : nth n.links (nth n.ports i).link = n.links[k] := by rw [h2.2]; exact nth_eq (l := n.links) (i := (k : Int)) (by simpa using hk)
    rw [if_pos ⟨by omega, by omega, hb⟩, e2]

theorem refOtherS (n : Net) (hn : n.Fin) (hb : netRightB n = true) (i : Int) : Sy.Spec Tryz.prog 73 [netSV n, intSV i] [] (intSV (otherT n i)) [] := by
  rw [← otherI_eq hb]
  exact otherS n i hn.links

theorem refDomTextS (n : Net) (hnm : Named n) (hb : netRightB n = true) (i : Int) : Sy.Spec Tryz.prog 21 [netSV n, intSV i] [] (strSV (domT n i)) [] := contract Γ hm 100 F21 Tryz.ntmps21 rfl fun F hF => by
  have hp := ref15PlaceS i n.domains.length
  ((conv=>whnf);repeat((first|refine aF ?_|refine aT ?_);(first|refine rG Γ hm ?_|refine rD Γ hm (by kernel_rfl) ?_);conv=>whnf))
  refine G_box 2 8 (netSV n) rfl rfl rfl ?_
  ((first|refine rG Γ hm ?_|refine rD Γ hm (by kernel_rfl) ?_);(conv=>whnf);repeat((first|refine aF ?_|refine aT ?_);(first|refine rG Γ hm ?_|refine rD Γ hm (by kernel_rfl) ?_);conv=>whnf))
  refine call0 hp F27 rfl rfl rfl rfl rfl ?_
  cases hpl : placeB i n.domains.length
  · have hno : ¬ (0 ≤ i ∧ i < n.domains.length) := by simp [placeB] at hpl; omega
    rw [domT, if_neg (fun h => hno h.1)]
    ((first|refine rG Γ hm ?_|refine rD Γ hm (by kernel_rfl) ?_);(conv=>whnf);repeat((first|refine aF ?_|refine aT ?_);(first|refine rG Γ hm ?_|refine rD Γ hm (by kernel_rfl) ?_);conv=>whnf))
    exact done0 rfl (.cons .tmp .nil) rfl rfl
  have hin : 0 ≤ i ∧ i < n.domains.length := by simp [placeB] at hpl; omega
  rw [domT, if_pos ⟨hin, hb⟩]
  have hk : i.toNat < n.domains.length := by omega
  have hf := e_dom_facts hb hk
  have e1 : nth n.domains i = n.domains[i.toNat] := nth_eq hk
  rw [domText, e1]
  obtain ⟨d, hd⟩ : ∃ d, n.domains[i.toNat] = d := ⟨_, rfl⟩
  rw [hd] at hf ⊢
  have e2 : nth n.devices d.dev = n.devices[d.dev.toNat] := nth_eq hf.1.2
  rw [e2]
  have hdn := hnm.1 _ (List.getElem_mem hf.1.2)
  obtain ⟨x, hx⟩ : ∃ x, n.devices[d.dev.toNat]'hf.1.2 = x := ⟨_, rfl⟩
  rw [hx] at hdn ⊢
  obtain ⟨v, hv⟩ : ∃ v : Nat, d.vlan = v := ⟨d.vlan.toNat, by omega⟩
  have q := refNumTextS v (by omega)
  have hsz := numT_size (n := (v : Int)) (by omega)
  rw [← hv] at q hsz
  have hj : joinT [x.name, ⟨#[47]⟩, numT d.vlan] ⟨#[]⟩ = x.name ++ ⟨#[47]⟩ ++ numT d.vlan := by
    apply ext_list
    simp [joinT, Lib.join]
  rw [hj]
  generalize numT d.vlan = nv at *
  have hs2 : (x.name ++ ⟨#[47]⟩ : ByteArray).size = x.name.size + 1 := size_app x.name ⟨#[47]⟩
  ((first|refine rG Γ hm ?_|refine rD Γ hm (by kernel_rfl) ?_);(conv=>whnf);repeat((first|refine aF ?_|refine aT ?_);(first|refine rG Γ hm ?_|refine rD Γ hm (by kernel_rfl) ?_);conv=>whnf))
  refine ⟨rfl, hin.1, hk, ?_⟩
  rw [hd]
  ((conv=>whnf);repeat((first|refine aF ?_|refine aT ?_);(first|refine rG Γ hm ?_|refine rD Γ hm (by kernel_rfl) ?_);conv=>whnf))
  refine ⟨rfl, hf.1.1, hf.1.2, ?_⟩
  rw [hx]
  ((conv=>whnf);repeat((first|refine aF ?_|refine aT ?_);(first|refine rG Γ hm ?_|refine rD Γ hm (by kernel_rfl) ?_);conv=>whnf))
  refine ⟨by show _ + 1 ≤ _; omega, ?_⟩
  ((conv=>whnf);repeat((first|refine aF ?_|refine aT ?_);(first|refine rG Γ hm ?_|refine rD Γ hm (by kernel_rfl) ?_);conv=>whnf))
  refine callD0 q F72 rfl rfl rfl (by kernel_rfl) rfl ?_
  ((first|refine rG Γ hm ?_|refine rD Γ hm (by kernel_rfl) ?_);(conv=>whnf);repeat((first|refine aF ?_|refine aT ?_);(first|refine rG Γ hm ?_|refine rD Γ hm (by kernel_rfl) ?_);conv=>whnf))
  refine ⟨by omega, ?_⟩
  ((conv=>whnf);repeat((first|refine aF ?_|refine aT ?_);(first|refine rG Γ hm ?_|refine rD Γ hm (by kernel_rfl) ?_);conv=>whnf))
  refine ⟨(by kernel_rfl), ?_⟩
  ((conv=>whnf);repeat((first|refine aF ?_|refine aT ?_);(first|refine rG Γ hm ?_|refine rD Γ hm (by kernel_rfl) ?_);conv=>whnf))
  exact done0 rfl (.cons .tmp .nil) rfl rfl

theorem refPortTextS (n : Net) (hnm : Named n) (hb : netRightB n = true) (i : Int) : Sy.Spec Tryz.prog 10 [netSV n, intSV i] [] (strSV (portT n i)) [] := contract Γ hm 100 F10 Tryz.ntmps10 rfl fun F hF => by
  have hp := ref15PlaceS i n.ports.length
  ((conv=>whnf);repeat((first|refine aF ?_|refine aT ?_);(first|refine rG Γ hm ?_|refine rD Γ hm (by kernel_rfl) ?_);conv=>whnf))
  refine G_box 2 8 (netSV n) rfl rfl rfl ?_
  ((first|refine rG Γ hm ?_|refine rD Γ hm (by kernel_rfl) ?_);(conv=>whnf);repeat((first|refine aF ?_|refine aT ?_);(first|refine rG Γ hm ?_|refine rD Γ hm (by kernel_rfl) ?_);conv=>whnf))
  refine call0 hp F27 rfl rfl rfl rfl rfl ?_
  cases hpl : placeB i n.ports.length
  · have hno : ¬ (0 ≤ i ∧ i < n.ports.length) := by simp [placeB] at hpl; omega
    rw [portT, if_neg (fun h => hno h.1)]
    ((first|refine rG Γ hm ?_|refine rD Γ hm (by kernel_rfl) ?_);(conv=>whnf);repeat((first|refine aF ?_|refine aT ?_);(first|refine rG Γ hm ?_|refine rD Γ hm (by kernel_rfl) ?_);conv=>whnf))
    exact done0 rfl (.cons .tmp .nil) rfl rfl
  have hin : 0 ≤ i ∧ i < n.ports.length := by simp [placeB] at hpl; omega
  rw [portT, if_pos ⟨hin, hb⟩]
  have hk : i.toNat < n.ports.length := by omega
  have hf := e_port_dev hb hk
  have e1 : nth n.ports i = n.ports[i.toNat] := nth_eq hk
  have hpn := hnm.2 _ (List.getElem_mem hk)
  rw [portText, e1]
  obtain ⟨p, hp⟩ : ∃ p, n.ports[i.toNat] = p := ⟨_, rfl⟩
  rw [hp] at hf hpn ⊢
  have e2 : nth n.devices p.dev = n.devices[p.dev.toNat] := nth_eq hf.2
  rw [e2]
  have hdn := hnm.1 _ (List.getElem_mem hf.2)
  obtain ⟨x, hx⟩ : ∃ x, n.devices[p.dev.toNat]'hf.2 = x := ⟨_, rfl⟩
  rw [hx] at hdn ⊢
  have hs1 : (⟨#[46]⟩ : ByteArray).size = 1 := rfl
  have hs2 := size_app x.name ⟨#[46]⟩
  ((first|refine rG Γ hm ?_|refine rD Γ hm (by kernel_rfl) ?_);(conv=>whnf);repeat((first|refine aF ?_|refine aT ?_);(first|refine rG Γ hm ?_|refine rD Γ hm (by kernel_rfl) ?_);conv=>whnf))
  refine ⟨rfl, hin.1, hk, ?_⟩
  rw [hp]
  ((conv=>whnf);repeat((first|refine aF ?_|refine aT ?_);(first|refine rG Γ hm ?_|refine rD Γ hm (by kernel_rfl) ?_);conv=>whnf))
  refine ⟨rfl, hf.1, hf.2, ?_⟩
  rw [hx]
  ((conv=>whnf);repeat((first|refine aF ?_|refine aT ?_);(first|refine rG Γ hm ?_|refine rD Γ hm (by kernel_rfl) ?_);conv=>whnf))
  refine ⟨by omega, ?_⟩
  ((conv=>whnf);repeat((first|refine aF ?_|refine aT ?_);(first|refine rG Γ hm ?_|refine rD Γ hm (by kernel_rfl) ?_);conv=>whnf))
  refine ⟨rfl, hin.1, hk, ?_⟩
  rw [hp]
  ((conv=>whnf);repeat((first|refine aF ?_|refine aT ?_);(first|refine rG Γ hm ?_|refine rD Γ hm (by kernel_rfl) ?_);conv=>whnf))
  refine ⟨by omega, ?_⟩
  ((conv=>whnf);repeat((first|refine aF ?_|refine aT ?_);(first|refine rG Γ hm ?_|refine rD Γ hm (by kernel_rfl) ?_);conv=>whnf))
  refine ⟨(by kernel_rfl), ?_⟩
  ((conv=>whnf);repeat((first|refine aF ?_|refine aT ?_);(first|refine rG Γ hm ?_|refine rD Γ hm (by kernel_rfl) ?_);conv=>whnf))
  exact done0 rfl (.cons .tmp .nil) rfl rfl

end Go.Sy.YtlfopmhekhifoaaGreatDoor

namespace Go.Sy.YtlfopmhekhifoaaGreatDoor
open Go.Proofs
-- SIMP: placeB

attribute [local irreducible] Go.Sy.G Go.Sy.DR
set_option maxRecDepth 20000
set_option maxHeartbeats 8000000

theorem join3 (a b c : ByteArray) : joinT [a, b, c] ⟨#[32]⟩ = a ++ ⟨#[32]⟩ ++ b ++ ⟨#[32]⟩ ++ c := by
  apply ext_list
  simp [joinT, Lib.join]
theorem join4 (a b c d : ByteArray) : joinT [a, b, c, d] ⟨#[32]⟩ = a ++ ⟨#[32]⟩ ++ b ++ ⟨#[32]⟩ ++ c ++ ⟨#[32]⟩ ++ d := by
  apply ext_list
  simp [joinT, Lib.join]

theorem refRowS (n : Net) (hn : n.Fin) (hnm : Named n) (hb : netRightB n = true) (h : Hop) (hh : HopOK n h) :
    Sy.Spec Tryz.prog 22 [netSV n, hopSV h] [] (strSV (rowT n h)) [] := contract Γ hm 100 F22 Tryz.ntmps22 rfl fun F hF => by
  have hlk := rowT.eq_1 n h
  rw [nth_eq hh.1.2] at hlk
  generalize rowT n h = res at *
  obtain ⟨k, pt, d, a⟩ := h
  have hin := hh.1
  obtain ⟨y, hy⟩ := Int.eq_ofNat_of_zero_le hh.2.1
  have hlt := hh.2.2
  dsimp only at hlk hin hy hlt
  have q1 := refDomTextS n hnm hb d
  have q2 := refPortTextS n hnm hb pt
  have q3 := refOtherS n hn hb pt
  have q4 := refPortTextS n hnm hb (otherT n pt)
  have s1 := domT_size hnm d
  have s2 := portT_size hnm pt
  have s3 := portT_size hnm (otherT n pt)
  have hf := e_dom_facts hb hin.2
  obtain ⟨x, hx⟩ : ∃ x, n.domains[d.toNat]'hin.2 = x := ⟨_, rfl⟩
  rw [hx] at hf hlk
  obtain ⟨v, hv⟩ : ∃ v : Nat, x.vni = v := ⟨x.vni.toNat, by omega⟩
  have q5 := refNumTextS v (by omega)
  have s5 := numT_size (n := (v : Int)) (by omega)
  rw [← hv] at q5 s5
  have q6 := refAddrTextS y (by omega)
  have s6 : (addrTx a).size ≤ 20 := by rw [addrTx, mkT_size]; exact addrU_length _ 4
  rw [← hy] at q6
  generalize domT n d = td at *
  generalize portT n pt = tp at *
  generalize portT n (otherT n pt) = tq at *
  generalize otherT n pt = ot at *
  generalize numT x.vni = tv at *
  generalize addrTx a = ta at *
  rw [join4, join3, join3] at hlk
  ((conv=>whnf);repeat((first|refine aF ?_|refine aT ?_);(first|refine rG Γ hm ?_|refine rD Γ hm (by kernel_rfl) ?_);conv=>whnf))
  refine G_box 2 8 (netSV n) rfl rfl rfl ?_
  refine G_box 3 4 (hopSV ⟨k, pt, d, a⟩) rfl rfl rfl ?_
  ((first|refine rG Γ hm ?_|refine rD Γ hm (by kernel_rfl) ?_);(conv=>whnf);repeat((first|refine aF ?_|refine aT ?_);(first|refine rG Γ hm ?_|refine rD Γ hm (by kernel_rfl) ?_);conv=>whnf))
  refine call0 q1 F21 rfl rfl rfl rfl rfl ?_
  ((first|refine rG Γ hm ?_|refine rD Γ hm (by kernel_rfl) ?_);(conv=>whnf);repeat((first|refine aF ?_|refine aT ?_);(first|refine rG Γ hm ?_|refine rD Γ hm (by kernel_rfl) ?_);conv=>whnf))
  refine ⟨fun h => ?_, fun h => ?_⟩
  · have h1 : k = 1 := by simpa using h
    rw [if_pos h1] at hlk
    have z1 : (tLink ++ ⟨#[32]⟩ : ByteArray).size = 5 := rfl
    have z2 : (tLink ++ ⟨#[32]⟩ ++ tp : ByteArray).size = 5 + tp.size := by rw [size_app, z1]
    have z3 : (tLink ++ ⟨#[32]⟩ ++ tp ++ ⟨#[32]⟩ : ByteArray).size = 5 + tp.size + 1 := by rw [size_app, z2]; rfl
    have z4 : (tLink ++ ⟨#[32]⟩ ++ tp ++ ⟨#[32]⟩ ++ tq : ByteArray).size = 5 + tp.size + 1 + tq.size := by rw [size_app, z3]
    have z5 : (tLink ++ ⟨#[32]⟩ ++ tp ++ ⟨#[32]⟩ ++ tq ++ ⟨#[32]⟩ : ByteArray).size = 5 + tp.size + 1 + tq.size + 1 := by rw [size_app, z4]; rfl
    subst hlk
    ((first|refine rG Γ hm ?_|refine rD Γ hm (by kernel_rfl) ?_);(conv=>whnf);repeat((first|refine aF ?_|refine aT ?_);(first|refine rG Γ hm ?_|refine rD Γ hm (by kernel_rfl) ?_);conv=>whnf))
    refine callD0 q2 F10 rfl rfl rfl (by kernel_rfl) rfl ?_
    ((first|refine rG Γ hm ?_|refine rD Γ hm (by kernel_rfl) ?_);(conv=>whnf);repeat((first|refine aF ?_|refine aT ?_);(first|refine rG Γ hm ?_|refine rD Γ hm (by kernel_rfl) ?_);conv=>whnf))
    refine ⟨by show 5 + _ ≤ _; omega, ?_⟩
    ((conv=>whnf);repeat((first|refine aF ?_|refine aT ?_);(first|refine rG Γ hm ?_|refine rD Γ hm (by kernel_rfl) ?_);conv=>whnf))
    refine ⟨by show (tLink ++ ⟨#[32]⟩ ++ tp : ByteArray).size + 1 ≤ _; omega, ?_⟩
    ((conv=>whnf);repeat((first|refine aF ?_|refine aT ?_);(first|refine rG Γ hm ?_|refine rD Γ hm (by kernel_rfl) ?_);conv=>whnf))
    refine callD0 q3 F73 rfl rfl rfl (by kernel_rfl) rfl ?_
    ((first|refine rG Γ hm ?_|refine rD Γ hm (by kernel_rfl) ?_);(conv=>whnf);repeat((first|refine aF ?_|refine aT ?_);(first|refine rG Γ hm ?_|refine rD Γ hm (by kernel_rfl) ?_);conv=>whnf))
    refine callD0 q4 F10 rfl rfl rfl (by kernel_rfl) rfl ?_
    ((first|refine rG Γ hm ?_|refine rD Γ hm (by kernel_rfl) ?_);(conv=>whnf);repeat((first|refine aF ?_|refine aT ?_);(first|refine rG Γ hm ?_|refine rD Γ hm (by kernel_rfl) ?_);conv=>whnf))
    refine ⟨by show (tLink ++ ⟨#[32]⟩ ++ tp ++ ⟨#[32]⟩ : ByteArray).size + _ ≤ _; omega, ?_⟩
    ((conv=>whnf);repeat((first|refine aF ?_|refine aT ?_);(first|refine rG Γ hm ?_|refine rD Γ hm (by kernel_rfl) ?_);conv=>whnf))
    refine ⟨by show (tLink ++ ⟨#[32]⟩ ++ tp ++ ⟨#[32]⟩ ++ tq : ByteArray).size + 1 ≤ _; omega, ?_⟩
    ((conv=>whnf);repeat((first|refine aF ?_|refine aT ?_);(first|refine rG Γ hm ?_|refine rD Γ hm (by kernel_rfl) ?_);conv=>whnf))
    refine ⟨by show (tLink ++ ⟨#[32]⟩ ++ tp ++ ⟨#[32]⟩ ++ tq ++ ⟨#[32]⟩ : ByteArray).size + _ ≤ _; omega, ?_⟩
    ((conv=>whnf);repeat((first|refine aF ?_|refine aT ?_);(first|refine rG Γ hm ?_|refine rD Γ hm (by kernel_rfl) ?_);conv=>whnf))
    refine ⟨(by kernel_rfl), ?_⟩
    ((conv=>whnf);repeat((first|refine aF ?_|refine aT ?_);(first|refine rG Γ hm ?_|refine rD Γ hm (by kernel_rfl) ?_);conv=>whnf))
    exact done0 rfl (.cons .tmp .nil) rfl rfl
  have h1 : ¬ k = 1 := by simpa using h
  rw [if_neg h1] at hlk
  ((first|refine rG Γ hm ?_|refine rD Γ hm (by kernel_rfl) ?_);(conv=>whnf);repeat((first|refine aF ?_|refine aT ?_);(first|refine rG Γ hm ?_|refine rD Γ hm (by kernel_rfl) ?_);conv=>whnf))
  refine ⟨fun h => ?_, fun h => ?_⟩
  · have h2 : k = 2 := by simpa using h
    rw [if_pos h2] at hlk
    have z1 : (tMesh ++ ⟨#[32]⟩ : ByteArray).size = 5 := rfl
    have z2 : (tMesh ++ ⟨#[32]⟩ ++ tv : ByteArray).size = 5 + tv.size := by rw [size_app, z1]
    have z3 : (tMesh ++ ⟨#[32]⟩ ++ tv ++ ⟨#[32]⟩ : ByteArray).size = 5 + tv.size + 1 := by rw [size_app, z2]; rfl
    subst hlk
    ((first|refine rG Γ hm ?_|refine rD Γ hm (by kernel_rfl) ?_);(conv=>whnf);repeat((first|refine aF ?_|refine aT ?_);(first|refine rG Γ hm ?_|refine rD Γ hm (by kernel_rfl) ?_);conv=>whnf))
    refine ⟨rfl, hin.1, hin.2, ?_⟩
    rw [hx]
    ((conv=>whnf);repeat((first|refine aF ?_|refine aT ?_);(first|refine rG Γ hm ?_|refine rD Γ hm (by kernel_rfl) ?_);conv=>whnf))
    refine call0 q5 F72 rfl rfl rfl rfl rfl ?_
    ((first|refine rG Γ hm ?_|refine rD Γ hm (by kernel_rfl) ?_);(conv=>whnf);repeat((first|refine aF ?_|refine aT ?_);(first|refine rG Γ hm ?_|refine rD Γ hm (by kernel_rfl) ?_);conv=>whnf))
    refine ⟨by show 5 + _ ≤ _; omega, ?_⟩
    ((conv=>whnf);repeat((first|refine aF ?_|refine aT ?_);(first|refine rG Γ hm ?_|refine rD Γ hm (by kernel_rfl) ?_);conv=>whnf))
    refine ⟨by show (tMesh ++ ⟨#[32]⟩ ++ tv : ByteArray).size + 1 ≤ _; omega, ?_⟩
    ((conv=>whnf);repeat((first|refine aF ?_|refine aT ?_);(first|refine rG Γ hm ?_|refine rD Γ hm (by kernel_rfl) ?_);conv=>whnf))
    refine ⟨by show (tMesh ++ ⟨#[32]⟩ ++ tv ++ ⟨#[32]⟩ : ByteArray).size + _ ≤ _; omega, ?_⟩
    ((conv=>whnf);repeat((first|refine aF ?_|refine aT ?_);(first|refine rG Γ hm ?_|refine rD Γ hm (by kernel_rfl) ?_);conv=>whnf))
    exact done0 rfl (.cons .tmp .nil) rfl rfl
  have h2 : ¬ k = 2 := by simpa using h
  rw [if_neg h2] at hlk
  have z1 : (tRoute ++ ⟨#[32]⟩ : ByteArray).size = 6 := rfl
  have z2 : (tRoute ++ ⟨#[32]⟩ ++ ta : ByteArray).size = 6 + ta.size := by rw [size_app, z1]
  have z3 : (tRoute ++ ⟨#[32]⟩ ++ ta ++ ⟨#[32]⟩ : ByteArray).size = 6 + ta.size + 1 := by rw [size_app, z2]; rfl
  subst hlk
  ((first|refine rG Γ hm ?_|refine rD Γ hm (by kernel_rfl) ?_);(conv=>whnf);repeat((first|refine aF ?_|refine aT ?_);(first|refine rG Γ hm ?_|refine rD Γ hm (by kernel_rfl) ?_);conv=>whnf))
  refine call0 q6 F74 rfl rfl rfl rfl rfl ?_
  ((first|refine rG Γ hm ?_|refine rD Γ hm (by kernel_rfl) ?_);(conv=>whnf);repeat((first|refine aF ?_|refine aT ?_);(first|refine rG Γ hm ?_|refine rD Γ hm (by kernel_rfl) ?_);conv=>whnf))
  refine ⟨by show 6 + _ ≤ _; omega, ?_⟩
  ((conv=>whnf);repeat((first|refine aF ?_|refine aT ?_);(first|refine rG Γ hm ?_|refine rD Γ hm (by kernel_rfl) ?_);conv=>whnf))
  refine ⟨by show (tRoute ++ ⟨#[32]⟩ ++ ta : ByteArray).size + 1 ≤ _; omega, ?_⟩
  ((conv=>whnf);repeat((first|refine aF ?_|refine aT ?_);(first|refine rG Γ hm ?_|refine rD Γ hm (by kernel_rfl) ?_);conv=>whnf))
  refine ⟨by show (tRoute ++ ⟨#[32]⟩ ++ ta ++ ⟨#[32]⟩ : ByteArray).size + _ ≤ _; omega, ?_⟩
  ((conv=>whnf);repeat((first|refine aF ?_|refine aT ?_);(first|refine rG Γ hm ?_|refine rD Γ hm (by kernel_rfl) ?_);conv=>whnf))
  exact done0 rfl (.cons .tmp .nil) rfl rfl

end Go.Sy.YtlfopmhekhifoaaGreatDoor
