/-
  Contracts: bytes of numbers, frames put (mac, palingref01, ether, palingref04). Scripts made by a number: what they are. Addresses' prefixes: contracts and numbers. Contracts: the document's prefixes (palingref02).
-/
import Derived.Test.YtlfopmhekhifoaaGreatDoorC5
import Derived.Laws.Bits64b

namespace Go.Sy.YtlfopmhekhifoaaGreatDoor
open Go.Proofs

attribute [local irreducible] Go.Sy.G Go.Sy.DR
set_option maxRecDepth 100000
set_option maxHeartbeats 4000000

def be : Nat → Nat → List UInt8
  | 0, _ => []
  | k + 1, m => UInt8.ofNat (m / 256 ^ k) :: be k m

theorem be_length (m : Nat) : ∀ k, (be k m).length = k
  | 0 => rfl
  | k + 1 => by simp [be, be_length m k]

/-- The first j of k. -/
theorem be_take (m : Nat) : ∀ (k j : Nat) (h : j < k), (be k m).take (j + 1) = (be k m).take j ++ [UInt8.ofNat (m / 256 ^ (k - 1 - j))]
  | 0, j, h => by omega
  | k + 1, 0, h => by simp [be]
  | k + 1, j + 1, h => by
    have := be_take m k j (by omega)
    simp only [be, List.take_succ_cons, List.cons_append, this]
    rw [show k + 1 - 1 - (j + 1) = k - 1 - j by omega]

theorem shr_byte (m k : Nat) (hk : k ≤ 7) : IntKind.u8.wrap ((m : Int).fdiv (2 ^ (min (8 * (k : Int)).toNat IntKind.u64.bits))) = ((UInt8.ofNat (m / 256 ^ k)).toNat : Int) := by
  have h1 : min (8 * (k : Int)).toNat IntKind.u64.bits = 8 * k := by simp [IntKind.bits]; omega
  rw [h1, Int.fdiv_eq_ediv_of_nonneg _ (by exact Int.pow_nonneg (by decide)), IntKind.wrap_u8]
  have h2 : (2 : Int) ^ (8 * k) = ((256 ^ k : Nat) : Int) := by rw [Int.pow_mul]; simp
  rw [h2]
  simp

theorem div_pow (m k : Nat) : m / 256 ^ k / 256 = m / 256 ^ (k + 1) := by rw [Nat.div_div_eq_div_mul, Nat.pow_succ]

def frSV (d s : Nat) (t : Int) (body : List UInt8) : SV := .agg [u64SV d, u64SV s, intSV t, .sl 1 byteSV body]
def noFr : SV := .agg [u64SV 0, u64SV 0, intSV 0, .val (.slice none 0 0)]

def frame (d s t : Nat) (body : List UInt8) : List UInt8 := be 6 d ++ be 6 s ++ [UInt8.ofNat (t / 256), UInt8.ofNat t] ++ body

theorem two_bytes (t : Nat) : [UInt8.ofNat (t / 256), UInt8.ofNat t].map byteSV = [SV.val (.int .u8 (IntKind.u8.wrap ((t : Int).fdiv (2 ^ (min (Int.toNat 8) IntKind.i64.bits))))), SV.val (.int .u8 (IntKind.u8.wrap (t : Int)))] := by
  have h1 : IntKind.u8.wrap ((t : Int).fdiv (2 ^ (min (Int.toNat 8) IntKind.i64.bits))) = ((UInt8.ofNat (t / 256)).toNat : Int) := by
    show IntKind.u8.wrap ((t : Int).fdiv 256) = _
    rw [Int.fdiv_eq_ediv_of_nonneg _ (by decide), IntKind.wrap_u8]
    simp
  have h2 : IntKind.u8.wrap (t : Int) = ((UInt8.ofNat t).toNat : Int) := by
    rw [IntKind.wrap_u8]
    simp
  rw [h1, h2]
  rfl

theorem two_bytes2 (t : Nat) (ht : t ≤ 65535) : [UInt8.ofNat (t / 256), UInt8.ofNat t].map byteSV = [SV.val (.int .u8 (IntKind.u8.wrap (IntKind.i64.wrap ((t : Int).tdiv 256)))), SV.val (.int .u8 (IntKind.u8.wrap ((t : Int).tmod 256)))] := by
  have h1 : IntKind.u8.wrap (IntKind.i64.wrap ((t : Int).tdiv 256)) = ((UInt8.ofNat (t / 256)).toNat : Int) := by
    rw [Int.tdiv_eq_ediv_of_nonneg (by omega), IntKind.wrap_u8, IntKind.wrap_i64]
    simp
    omega
  have h2 : IntKind.u8.wrap ((t : Int).tmod 256) = ((UInt8.ofNat t).toNat : Int) := by
    rw [Int.tmod_eq_emod_of_nonneg (by omega), IntKind.wrap_u8]
    simp
  rw [h1, h2]
  rfl
end Go.Sy.YtlfopmhekhifoaaGreatDoor

namespace Go.Sy.YtlfopmhekhifoaaGreatDoor

def nextN (s : Int) : Int := IntKind.u64.wrap (IntKind.u64.wrap (6364136223846793005 * s) + 1442695040888963407)
theorem nextN_range (s : Int) : 0 ≤ nextN s ∧ nextN s < 18446744073709551616 := by
  rw [nextN, IntKind.wrap_u64]
  omega
/-- What is drawn, by the new number. -/
def drawI (s b : Int) : Int := if b < 1 then 0 else (s / 8589934592) % b
theorem drawI_range {s b : Int} (h : 0 < b) : 0 ≤ drawI s b ∧ drawI s b < b := by
  rw [drawI, if_neg (by omega)]
  exact ⟨Int.emod_nonneg _ (by omega), Int.emod_lt_of_pos _ h⟩

structure FrameM where
  dst : Nat
  src : Nat
  typ : Nat
  body : List UInt8
def frameSV (f : FrameM) : SV := frSV f.dst f.src f.typ f.body

structure StepM where
  kind : Int
  port : Int
  domain : Int
  at_ : Int
  bytes : List UInt8
  up : List Bool
def stepSV (x : StepM) : SV := .agg [intSV x.kind, intSV x.port, intSV x.domain, intSV x.at_, .sl 1 byteSV x.bytes, .sl 1 boolSV x.up]

def vlansL (p : Port) : List Int := if p.native ≠ 0 then p.native :: p.tagged else p.tagged
def vlanM (p : Port) (s : Int) : Int × Int := (nth (vlansL p) (drawI (nextN s) (vlansL p).length), nextN s)

def hostN (ip : Int) : Nat := 2199023255552 + ip.toNat
def firstI (a bits : Int) : Int := if 0 ≤ bits ∧ bits ≤ 32 then a - a % 2 ^ (32 - bits).toNat else 0
/-- A sum brought down. -/
def foldN (n : Nat) : Nat := if n = 0 then 0 else (n - 1) % 65535 + 1
def ipL (to : Nat) : List UInt8 :=
  let s := 65535 - foldN (0x4500 + 20 + 0x4011 + 1 + to / 65536 + to % 65536)
  be 2 0x4500 ++ be 2 20 ++ be 2 0 ++ be 2 0 ++ be 2 0x4011 ++ be 2 s ++ be 4 1 ++ be 4 to

def frameM (n : Net) (s : Int) : FrameM × Int :=
  let src := 10995116277760 + (drawI (nextN s) 8).toNat
  let s2 := nextN (nextN s)
  let kind := drawI s2 4
  if kind = 0 ∨ (kind = 1 ∧ n.irbs.length = 0) then (⟨281474976710655, src, 34997, []⟩, s2)
  else if kind = 1 then
    let s3 := nextN s2
    let s4 := nextN s3
    let s5 := nextN s4
    let x := nth n.irbs (drawI s3 n.irbs.length)
    let y := nth n.irbs (drawI s4 n.irbs.length)
    (⟨hostN x.addr, src, 2048, ipL (IntKind.u32.wrap (firstI y.addr y.bits + drawI s5 4)).toNat⟩, s5)
  else (⟨10995116277760 + (drawI (nextN s2) 8).toNat, src, 34997, []⟩, nextN s2)

def tagM (f : FrameM) (vlan : Int) : FrameM := ⟨f.dst, f.src, 33024, [UInt8.ofNat (vlan.toNat / 256), UInt8.ofNat vlan.toNat, UInt8.ofNat (f.typ / 256), UInt8.ofNat f.typ] ++ f.body⟩

def hostsL (n : Net) (j : Nat) : List Int := ((List.range j).filter fun i => decide ((n.ports.getD i default).link < 0)).map fun (i : Nat) => (i : Int)

def injectM (n : Net) (s : Int) : StepM × Int :=
  let l := hostsL n n.ports.length
  let s1 := nextN s
  let port := nth l (drawI s1 l.length)
  let v := vlanM (nth n.ports port) s1
  let f := frameM n v.2
  let g := if v.1 ≠ (nth n.ports port).native then tagM f.1 v.1 else f.1
  (⟨1, port, 0, 0, frame g.dst g.src g.typ g.body, []⟩, f.2)

def linksM : Nat → Int → List Bool × Int
  | 0, s => ([], s)
  | j + 1, s => let r := linksM j s; (r.1 ++ [drawI (nextN r.2) 2 == 1], nextN r.2)

def stepM (n : Net) (s : Int) : StepM × Int :=
  let s1 := nextN s
  let k := drawI s1 10
  if k < 3 ∧ 0 < (hostsL n n.ports.length).length then injectM n s1
  else if 3 ≤ k ∧ k < 8 ∧ 0 < n.domains.length then (⟨2, 0, drawI (nextN s1) n.domains.length, drawI (nextN (nextN s1)) 3, [], []⟩, nextN (nextN s1))
  else if k = 9 ∧ 0 < n.links.length then let r := linksM n.links.length s1; (⟨5, 0, 0, 0, [], r.1⟩, r.2)
  else (⟨4, 0, 0, 0, [], []⟩, s1)

def scriptM (n : Net) : Nat → Int → List StepM × Int
  | 0, s => ([], s)
  | j + 1, s => let r := scriptM n j s; let x := stepM n r.2; (r.1 ++ [x.1], x.2)

theorem scriptM_length (n : Net) : ∀ (j : Nat) (s : Int), (scriptM n j s).1.length = j
  | 0, _ => rfl
  | j + 1, s => by simp [scriptM, scriptM_length n j s]

/-- A script in two parts. -/
theorem scriptM_add (n : Net) (s : Int) (a : Nat) : ∀ b, scriptM n (a + b) s = ((scriptM n a s).1 ++ (scriptM n b (scriptM n a s).2).1, (scriptM n b (scriptM n a s).2).2)
  | 0 => by simp [scriptM]
  | b + 1 => by
    have ih := scriptM_add n s a b
    rw [← Nat.add_assoc, scriptM, ih]
    simp [scriptM, List.append_assoc]
end Go.Sy.YtlfopmhekhifoaaGreatDoor

namespace Go.Sy.YtlfopmhekhifoaaGreatDoor
open Go.Proofs

attribute [local irreducible] Go.Sy.G Go.Sy.DR
set_option maxRecDepth 100000
set_option maxHeartbeats 4000000

def prefixSV (a bits : Int) : SV := .agg [u32SV a, intSV bits]
theorem addrRightS (a bits : Int) : Sy.Spec Tryz.prog 163 [prefixSV a bits] [] (boolSV (decide (0 ≤ bits ∧ bits ≤ 32))) [] := contract Γ hm 100 F163 Tryz.ntmps163 rfl fun F hF => by
  ((conv=>whnf);repeat((first|refine aF ?_|refine aT ?_);(first|refine rG Γ hm ?_|refine rD Γ hm (by kernel_rfl) ?_);conv=>whnf))
  (repeat' (first | (refine ⟨fun h => ?_, fun h => ?_⟩ <;> (repeat (first | (simp only [decide_eq_true_eq] at h) | (simp only [decide_eq_false_iff_not] at h) | (simp only [beq_iff_eq] at h) | (simp only [beq_eq_false_iff_ne] at h) | (simp only [bne_iff_ne] at h) | (simp only [bne_eq_false_iff_eq] at h) | (simp only [Bool.and_eq_true] at h) | (simp only [Bool.or_eq_true] at h) | (simp only [Bool.and_eq_false_iff] at h) | (simp only [Bool.or_eq_false_iff] at h) | (simp only [Bool.not_eq_true'] at h) | (simp only [Bool.not_eq_false'] at h) | (simp only [Bool.not_eq_eq_eq_not] at h) | (simp only [Bool.not_true] at h) | (simp only [Bool.not_false] at h))) <;> ((first|refine rG Γ hm ?_|refine rD Γ hm (by kernel_rfl) ?_);(conv=>whnf);repeat((first|refine aF ?_|refine aT ?_);(first|refine rG Γ hm ?_|refine rD Γ hm (by kernel_rfl) ?_);conv=>whnf))) | (refine done0 rfl (.cons .tmp .nil) ?_ rfl) | (refine ⟨(by kernel_rfl), ?_⟩; ((conv=>whnf);repeat((first|refine aF ?_|refine aT ?_);(first|refine rG Γ hm ?_|refine rD Γ hm (by kernel_rfl) ?_);conv=>whnf))) | (refine ⟨by (first | (unfold I64; omega) | omega | (simp only [Int.toNat_natCast]; omega) | done), by (first | (unfold I64; omega) | omega | (simp only [Int.toNat_natCast]; omega) | done), ?_⟩; ((conv=>whnf);repeat((first|refine aF ?_|refine aT ?_);(first|refine rG Γ hm ?_|refine rD Γ hm (by kernel_rfl) ?_);conv=>whnf))) | (refine ⟨by (first | (unfold I64; omega) | omega | (simp only [Int.toNat_natCast]; omega) | done), ?_⟩; ((conv=>whnf);repeat((first|refine aF ?_|refine aT ?_);(first|refine rG Γ hm ?_|refine rD Γ hm (by kernel_rfl) ?_);conv=>whnf)))))
  all_goals (refine congrArg boolSV ?_; clear hF; grind)
theorem addrRestS (a bits : Int) (h : 0 ≤ bits ∧ bits ≤ 32) : Sy.Spec Tryz.prog 164 [prefixSV a bits] [] (u32SV (2 ^ (32 - bits).toNat - 1)) [] := contract Γ hm 100 F164 Tryz.ntmps164 rfl fun F hF => by
  ((conv=>whnf);repeat((first|refine aF ?_|refine aT ?_);(first|refine rG Γ hm ?_|refine rD Γ hm (by kernel_rfl) ?_);conv=>whnf))
  refine ⟨by unfold I64; omega, ?_⟩
  ((conv=>whnf);repeat((first|refine aF ?_|refine aT ?_);(first|refine rG Γ hm ?_|refine rD Γ hm (by kernel_rfl) ?_);conv=>whnf))
  refine ⟨by omega, ?_⟩
  ((conv=>whnf);repeat((first|refine aF ?_|refine aT ?_);(first|refine rG Γ hm ?_|refine rD Γ hm (by kernel_rfl) ?_);conv=>whnf))
  refine done0 rfl (.cons .tmp .nil) ?_ rfl
  refine congrArg (fun z => SV.val (.int .u32 z)) ?_
  obtain ⟨k, hk, hk2⟩ : ∃ k : Nat, (32 - bits).toNat = k ∧ k ≤ 32 := ⟨_, rfl, by omega⟩
  have h1 : min (32 - bits).toNat IntKind.u32.bits = k := by show min (32 - bits).toNat 32 = k; omega
  rw [h1, hk, IntKind.wrap_u32, IntKind.wrap_u32]
  have h2 : (2 : Int) ^ k ≤ 4294967296 := by
    have := Nat.pow_le_pow_right (n := 2) (by decide) hk2
    rw [show (2 : Int) ^ k = ((2 ^ k : Nat) : Int) by rw [Int.natCast_pow]; rfl]
    have e : (2 : Nat) ^ 32 = 4294967296 := rfl
    rw [e] at this
    omega
  have h0 : (1 : Int) ≤ 2 ^ k := by
    have := Nat.one_le_two_pow (n := k)
    rw [show (2 : Int) ^ k = ((2 ^ k : Nat) : Int) by rw [Int.natCast_pow]; rfl]
    omega
  generalize (2 : Int) ^ k = q at *
  omega

theorem andNot_low (a k : Nat) (ha : a < 4294967296) (hk : k ≤ 32) : bits .andNot .u32 (a : Int) ((2 ^ k - 1 : Nat) : Int) = ((a - a % 2 ^ k : Nat) : Int) := by
  have hp := Nat.pow_le_pow_right (n := 2) (by decide) hk
  have e32 : (2 : Nat) ^ 32 = 4294967296 := rfl
  rw [e32] at hp
  have h1 := Nat.one_le_two_pow (n := k)
  have x1 : (BitVec.ofInt 32 (a : Int)).toNat = a := by rw [BitVec.ofInt_natCast, BitVec.toNat_ofNat]; exact Nat.mod_eq_of_lt (by omega)
  have x2 : (BitVec.ofInt 32 ((2 ^ k - 1 : Nat) : Int)).toNat = 2 ^ k - 1 := by rw [BitVec.ofInt_natCast, BitVec.toNat_ofNat]; exact Nat.mod_eq_of_lt (by omega)
  have key : (BitVec.ofInt 32 (a : Int) &&& ~~~ BitVec.ofInt 32 ((2 ^ k - 1 : Nat) : Int)).toNat = a - a % 2 ^ k := by
    have hd : a - a % 2 ^ k = 2 ^ k * (a / 2 ^ k) := by have := Nat.div_add_mod a (2 ^ k); omega
    rw [hd]
    refine Nat.eq_of_testBit_eq fun i => ?_
    rw [BitVec.testBit_toNat, BitVec.getLsbD_and, BitVec.getLsbD_not, ← BitVec.testBit_toNat, ← BitVec.testBit_toNat, x1, x2, Nat.testBit_two_pow_sub_one, Nat.testBit_two_pow_mul, Nat.testBit_div_two_pow]
    by_cases hi : i < k
    · have : ¬ i ≥ k := by omega
      simp [hi, this]
    · have h2 : i ≥ k := by omega
      have h3 : i - k + k = i := by omega
      by_cases h4 : i < 32
      · simp [hi, h2, h4, h3]
      · have h5 : a.testBit i = false := Nat.testBit_lt_two_pow (Nat.lt_of_lt_of_le (by rw [← e32] at ha; exact ha) (Nat.pow_le_pow_right (by decide) (by omega)))
        rw [h3, h5]
        simp
  show IntKind.u32.wrap (((BitVec.ofInt 32 (a : Int) &&& ~~~ BitVec.ofInt 32 ((2 ^ k - 1 : Nat) : Int)).toNat : Nat) : Int) = _
  rw [key, IntKind.wrap_u32]
  omega

theorem firstI_nat (a k : Nat) (bits : Int) (h : 0 ≤ bits ∧ bits ≤ 32) (hk : (32 - bits).toNat = k) : firstI a bits = ((a - a % 2 ^ k : Nat) : Int) := by
  rw [firstI, if_pos h, hk]
  have h1 := Nat.mod_le a (2 ^ k)
  rw [show (2 : Int) ^ k = ((2 ^ k : Nat) : Int) by rw [Int.natCast_pow]; rfl]
  omega

theorem addrFirstS (a : Nat) (bits : Int) (ha : a < 4294967296) : Sy.Spec Tryz.prog 141 [prefixSV a bits] [] (u32SV (firstI a bits)) [] := contract Γ hm 100 F141 Tryz.ntmps141 rfl fun F hF => by
  have hr := addrRightS a bits
  by_cases hb : 0 ≤ bits ∧ bits ≤ 32
  · have hrest := addrRestS a bits hb
    rw [decide_eq_true hb] at hr
    obtain ⟨k, hk, hk2⟩ : ∃ k : Nat, (32 - bits).toNat = k ∧ k ≤ 32 := ⟨_, rfl, by omega⟩
    have hn := andNot_low a k ha hk2
    have hf := firstI_nat a k bits hb hk
    have h1 := Nat.one_le_two_pow (n := k)
    have e2 : (2 : Int) ^ k - 1 = ((2 ^ k - 1 : Nat) : Int) := by
      rw [show (2 : Int) ^ k = ((2 ^ k : Nat) : Int) by rw [Int.natCast_pow]; rfl]
      omega
    rw [hk, e2] at hrest
    rw [hf, ← hn]
    ((conv=>whnf);repeat((first|refine aF ?_|refine aT ?_);(first|refine rG Γ hm ?_|refine rD Γ hm (by kernel_rfl) ?_);conv=>whnf))
    refine call0 hr F163 rfl rfl rfl rfl rfl ?_
    ((first|refine rG Γ hm ?_|refine rD Γ hm (by kernel_rfl) ?_);(conv=>whnf);repeat((first|refine aF ?_|refine aT ?_);(first|refine rG Γ hm ?_|refine rD Γ hm (by kernel_rfl) ?_);conv=>whnf))
    first | refine callD0 hrest F164 rfl rfl rfl (by kernel_rfl) rfl ?_ | refine call0 hrest F164 rfl rfl rfl rfl rfl ?_
    ((first|refine rG Γ hm ?_|refine rD Γ hm (by kernel_rfl) ?_);(conv=>whnf);repeat((first|refine aF ?_|refine aT ?_);(first|refine rG Γ hm ?_|refine rD Γ hm (by kernel_rfl) ?_);conv=>whnf))
    first | (refine ⟨(by kernel_rfl), ?_⟩; ((conv=>whnf);repeat((first|refine aF ?_|refine aT ?_);(first|refine rG Γ hm ?_|refine rD Γ hm (by kernel_rfl) ?_);conv=>whnf))) | skip
    exact done0 rfl (.cons .tmp .nil) rfl rfl
  · rw [decide_eq_false hb] at hr
    have hf : firstI a bits = 0 := by rw [firstI, if_neg hb]
    rw [hf]
    ((conv=>whnf);repeat((first|refine aF ?_|refine aT ?_);(first|refine rG Γ hm ?_|refine rD Γ hm (by kernel_rfl) ?_);conv=>whnf))
    refine call0 hr F163 rfl rfl rfl rfl rfl ?_
    ((first|refine rG Γ hm ?_|refine rD Γ hm (by kernel_rfl) ?_);(conv=>whnf);repeat((first|refine aF ?_|refine aT ?_);(first|refine rG Γ hm ?_|refine rD Γ hm (by kernel_rfl) ?_);conv=>whnf))
    exact done0 rfl (.cons .tmp .nil) rfl rfl

/-- The greatest address of a prefix. -/
def lastI (a bits : Int) : Int := if 0 ≤ bits ∧ bits ≤ 32 then firstI a bits + 2 ^ (32 - bits).toNat - 1 else 0

theorem or_low (a k : Nat) (ha : a < 4294967296) (hk : k ≤ 32) : bits .or .u32 (a : Int) ((2 ^ k - 1 : Nat) : Int) = ((a - a % 2 ^ k + (2 ^ k - 1) : Nat) : Int) := by
  have hp := Nat.pow_le_pow_right (n := 2) (by decide) hk
  have e32 : (2 : Nat) ^ 32 = 4294967296 := rfl
  rw [e32] at hp
  have h1 := Nat.one_le_two_pow (n := k)
  have x1 : (BitVec.ofInt 32 (a : Int)).toNat = a := by rw [BitVec.ofInt_natCast, BitVec.toNat_ofNat]; exact Nat.mod_eq_of_lt (by omega)
  have x2 : (BitVec.ofInt 32 ((2 ^ k - 1 : Nat) : Int)).toNat = 2 ^ k - 1 := by rw [BitVec.ofInt_natCast, BitVec.toNat_ofNat]; exact Nat.mod_eq_of_lt (by omega)
  have hd : a - a % 2 ^ k = 2 ^ k * (a / 2 ^ k) := by have := Nat.div_add_mod a (2 ^ k); omega
  have hsum := Nat.two_pow_add_eq_or_of_lt (i := k) (b := 2 ^ k - 1) (by omega) (a / 2 ^ k)
  have key : (BitVec.ofInt 32 (a : Int) ||| BitVec.ofInt 32 ((2 ^ k - 1 : Nat) : Int)).toNat = a - a % 2 ^ k + (2 ^ k - 1) := by
    rw [hd, hsum]
    refine Nat.eq_of_testBit_eq fun i => ?_
    rw [BitVec.testBit_toNat, BitVec.getLsbD_or, ← BitVec.testBit_toNat, ← BitVec.testBit_toNat, x1, x2, Nat.testBit_or, Nat.testBit_two_pow_sub_one, Nat.testBit_two_pow_mul, Nat.testBit_div_two_pow]
    by_cases hi : i < k
    · simp [hi]
    · have h2 : i ≥ k := by omega
      have h3 : i - k + k = i := by omega
      simp [hi, h2, h3]
  show IntKind.u32.wrap (((BitVec.ofInt 32 (a : Int) ||| BitVec.ofInt 32 ((2 ^ k - 1 : Nat) : Int)).toNat : Nat) : Int) = _
  have hlt : (BitVec.ofInt 32 (a : Int) ||| BitVec.ofInt 32 ((2 ^ k - 1 : Nat) : Int)).toNat < 4294967296 := BitVec.isLt _
  rw [key] at hlt
  rw [key, IntKind.wrap_u32]
  omega

theorem lastI_nat (a k : Nat) (bits : Int) (h : 0 ≤ bits ∧ bits ≤ 32) (hk : (32 - bits).toNat = k) : lastI a bits = ((a - a % 2 ^ k + (2 ^ k - 1) : Nat) : Int) := by
  rw [lastI, if_pos h, hk, firstI_nat a k bits h hk]
  have h1 := Nat.one_le_two_pow (n := k)
  rw [show (2 : Int) ^ k = ((2 ^ k : Nat) : Int) by rw [Int.natCast_pow]; rfl]
  omega

theorem addrLastS (a : Nat) (bits : Int) (ha : a < 4294967296) : Sy.Spec Tryz.prog 142 [prefixSV a bits] [] (u32SV (lastI a bits)) [] := contract Γ hm 100 F142 Tryz.ntmps142 rfl fun F hF => by
  have hr := addrRightS a bits
  by_cases hb : 0 ≤ bits ∧ bits ≤ 32
  · have hrest := addrRestS a bits hb
    rw [decide_eq_true hb] at hr
    obtain ⟨k, hk, hk2⟩ : ∃ k : Nat, (32 - bits).toNat = k ∧ k ≤ 32 := ⟨_, rfl, by omega⟩
    have hn := or_low a k ha hk2
    have hf := lastI_nat a k bits hb hk
    have h1 := Nat.one_le_two_pow (n := k)
    have e2 : (2 : Int) ^ k - 1 = ((2 ^ k - 1 : Nat) : Int) := by
      rw [show (2 : Int) ^ k = ((2 ^ k : Nat) : Int) by rw [Int.natCast_pow]; rfl]
      omega
    rw [hk, e2] at hrest
    rw [hf, ← hn]
    ((conv=>whnf);repeat((first|refine aF ?_|refine aT ?_);(first|refine rG Γ hm ?_|refine rD Γ hm (by kernel_rfl) ?_);conv=>whnf))
    refine call0 hr F163 rfl rfl rfl rfl rfl ?_
    ((first|refine rG Γ hm ?_|refine rD Γ hm (by kernel_rfl) ?_);(conv=>whnf);repeat((first|refine aF ?_|refine aT ?_);(first|refine rG Γ hm ?_|refine rD Γ hm (by kernel_rfl) ?_);conv=>whnf))
    first | refine callD0 hrest F164 rfl rfl rfl (by kernel_rfl) rfl ?_ | refine call0 hrest F164 rfl rfl rfl rfl rfl ?_
    ((first|refine rG Γ hm ?_|refine rD Γ hm (by kernel_rfl) ?_);(conv=>whnf);repeat((first|refine aF ?_|refine aT ?_);(first|refine rG Γ hm ?_|refine rD Γ hm (by kernel_rfl) ?_);conv=>whnf))
    first | (refine ⟨(by kernel_rfl), ?_⟩; ((conv=>whnf);repeat((first|refine aF ?_|refine aT ?_);(first|refine rG Γ hm ?_|refine rD Γ hm (by kernel_rfl) ?_);conv=>whnf))) | skip
    exact done0 rfl (.cons .tmp .nil) rfl rfl
  · rw [decide_eq_false hb] at hr
    have hf : lastI a bits = 0 := by rw [lastI, if_neg hb]
    rw [hf]
    ((conv=>whnf);repeat((first|refine aF ?_|refine aT ?_);(first|refine rG Γ hm ?_|refine rD Γ hm (by kernel_rfl) ?_);conv=>whnf))
    refine call0 hr F163 rfl rfl rfl rfl rfl ?_
    ((first|refine rG Γ hm ?_|refine rD Γ hm (by kernel_rfl) ?_);(conv=>whnf);repeat((first|refine aF ?_|refine aT ?_);(first|refine rG Γ hm ?_|refine rD Γ hm (by kernel_rfl) ?_);conv=>whnf))
    exact done0 rfl (.cons .tmp .nil) rfl rfl

theorem xor_u32 (a b : Nat) (ha : a < 4294967296) (hb : b < 4294967296) : bits .xor .u32 (a : Int) (b : Int) = ((a ^^^ b : Nat) : Int) := by
  have x1 : (BitVec.ofInt 32 (a : Int)).toNat = a := by rw [BitVec.ofInt_natCast, BitVec.toNat_ofNat]; exact Nat.mod_eq_of_lt (by omega)
  have x2 : (BitVec.ofInt 32 (b : Int)).toNat = b := by rw [BitVec.ofInt_natCast, BitVec.toNat_ofNat]; exact Nat.mod_eq_of_lt (by omega)
  show IntKind.u32.wrap (((BitVec.ofInt 32 (a : Int) ^^^ BitVec.ofInt 32 (b : Int)).toNat : Nat) : Int) = _
  have hlt : (BitVec.ofInt 32 (a : Int) ^^^ BitVec.ofInt 32 (b : Int)).toNat < 4294967296 := BitVec.isLt _
  rw [BitVec.toNat_xor, x1, x2] at hlt ⊢
  rw [IntKind.wrap_u32]
  omega

/-- Of what is left of two numbers behind a mask. -/
theorem masked (a x k : Nat) (ha : a < 4294967296) (hx : x < 4294967296) (hk : k ≤ 32) : (bits .andNot .u32 (bits .xor .u32 (a : Int) (x : Int)) ((2 ^ k - 1 : Nat) : Int) == 0) = decide (a / 2 ^ k = x / 2 ^ k) := by
  have hxl : a ^^^ x < 4294967296 := Nat.xor_lt_two_pow (n := 32) ha hx
  rw [xor_u32 a x ha hx, andNot_low _ k hxl hk]
  have hd : (a ^^^ x) - (a ^^^ x) % 2 ^ k = 2 ^ k * ((a ^^^ x) / 2 ^ k) := by have := Nat.div_add_mod (a ^^^ x) (2 ^ k); omega
  rw [hd, Nat.xor_div_two_pow]
  have h1 := Nat.one_le_two_pow (n := k)
  by_cases h : a / 2 ^ k = x / 2 ^ k
  · rw [h, Nat.xor_self]
    simp
  · rw [decide_eq_false h]
    have : a / 2 ^ k ^^^ x / 2 ^ k ≠ 0 := fun e => h (by
      have := congrArg (fun z => z ^^^ x / 2 ^ k) e
      simpa [Nat.xor_assoc] using this)
    rw [beq_eq_false_iff_ne]
    intro e
    have e := Int.natCast_eq_zero.1 e
    rcases Nat.mul_eq_zero.1 e with e | e
    · omega
    · exact this e

/-- The same prefix: between its least and its greatest address. -/
theorem same_part (a x q : Nat) (hq : 0 < q) : (a / q = x / q) ↔ (a - a % q ≤ x ∧ x ≤ a - a % q + (q - 1)) := by
  have h1 := Nat.div_add_mod a q
  have hd : a - a % q = q * (a / q) := by omega
  rw [hd]
  constructor
  · intro e
    have h2 := Nat.div_add_mod x q
    have h3 := Nat.mod_lt x hq
    rw [← e] at h2
    omega
  · rintro ⟨h2, h3⟩
    symm
    rw [Nat.div_eq_iff hq]
    generalize a / q = m at *
    have : q * m = m * q := Nat.mul_comm ..
    constructor <;> omega

end Go.Sy.YtlfopmhekhifoaaGreatDoor

namespace Go.Sy.YtlfopmhekhifoaaGreatDoor
open Go.Proofs

attribute [local irreducible] Go.Sy.G Go.Sy.DR
set_option maxRecDepth 100000
set_option maxHeartbeats 4000000

theorem refAddrRightS (a bits : Int) : Sy.Spec Tryz.prog 147 [prefixSV a bits] [] (boolSV (decide (0 ≤ bits ∧ bits ≤ 32))) [] := contract Γ hm 100 F147 Tryz.ntmps147 rfl fun F hF => by
  ((conv=>whnf);repeat((first|refine aF ?_|refine aT ?_);(first|refine rG Γ hm ?_|refine rD Γ hm (by kernel_rfl) ?_);conv=>whnf))
  (repeat' (first | (refine ⟨fun h => ?_, fun h => ?_⟩ <;> (repeat (first | (simp only [decide_eq_true_eq] at h) | (simp only [decide_eq_false_iff_not] at h) | (simp only [beq_iff_eq] at h) | (simp only [beq_eq_false_iff_ne] at h) | (simp only [bne_iff_ne] at h) | (simp only [bne_eq_false_iff_eq] at h) | (simp only [Bool.and_eq_true] at h) | (simp only [Bool.or_eq_true] at h) | (simp only [Bool.and_eq_false_iff] at h) | (simp only [Bool.or_eq_false_iff] at h) | (simp only [Bool.not_eq_true'] at h) | (simp only [Bool.not_eq_false'] at h) | (simp only [Bool.not_eq_eq_eq_not] at h) | (simp only [Bool.not_true] at h) | (simp only [Bool.not_false] at h))) <;> ((first|refine rG Γ hm ?_|refine rD Γ hm (by kernel_rfl) ?_);(conv=>whnf);repeat((first|refine aF ?_|refine aT ?_);(first|refine rG Γ hm ?_|refine rD Γ hm (by kernel_rfl) ?_);conv=>whnf))) | (refine done0 rfl (.cons .tmp .nil) ?_ rfl) | (refine ⟨(by kernel_rfl), ?_⟩; ((conv=>whnf);repeat((first|refine aF ?_|refine aT ?_);(first|refine rG Γ hm ?_|refine rD Γ hm (by kernel_rfl) ?_);conv=>whnf))) | (refine ⟨by (first | (unfold I64; omega) | omega | (simp only [Int.toNat_natCast]; omega) | done), by (first | (unfold I64; omega) | omega | (simp only [Int.toNat_natCast]; omega) | done), ?_⟩; ((conv=>whnf);repeat((first|refine aF ?_|refine aT ?_);(first|refine rG Γ hm ?_|refine rD Γ hm (by kernel_rfl) ?_);conv=>whnf))) | (refine ⟨by (first | (unfold I64; omega) | omega | (simp only [Int.toNat_natCast]; omega) | done), ?_⟩; ((conv=>whnf);repeat((first|refine aF ?_|refine aT ?_);(first|refine rG Γ hm ?_|refine rD Γ hm (by kernel_rfl) ?_);conv=>whnf)))))
  all_goals (refine congrArg boolSV ?_; clear hF; grind)

theorem refSizeS (a bits : Int) (h : 0 ≤ bits ∧ bits ≤ 32) : Sy.Spec Tryz.prog 148 [prefixSV a bits] [] (intSV (2 ^ (32 - bits).toNat : Nat)) [] := contract Γ hm 100 F148 Tryz.ntmps148 rfl fun F hF => by
  obtain ⟨k, hk, hk2⟩ : ∃ k : Nat, (32 - bits).toNat = k ∧ k ≤ 32 := ⟨_, rfl, by omega⟩
  rw [hk]
  ((conv=>whnf);repeat((first|refine aF ?_|refine aT ?_);(first|refine rG Γ hm ?_|refine rD Γ hm (by kernel_rfl) ?_);conv=>whnf))
  refine G_count k (fun j => [(1, .ptr 1 0), (3, intSV (2 ^ j : Nat)), (4, intSV (bits + j))]) (fun _ => [(1, .box [u32SV a, intSV bits])]) [] ⟨⟨rfl, rfl, rfl, rfl, congrArg (fun z => SV.val (.int .i64 z)) (by simp), rfl, trivial⟩, ⟨.inl rfl, rfl, trivial⟩, rfl, rfl⟩ ?_
  intro j hj
  have hp : 2 ^ j ≤ 2 ^ 32 := Nat.pow_le_pow_right (by decide) (by omega)
  have e32 : (2 : Nat) ^ 32 = 4294967296 := rfl
  have hs : 2 ^ (j + 1) = 2 ^ j * 2 := Nat.pow_succ ..
  rw [e32] at hp
  obtain ⟨q, hq⟩ : ∃ q : Nat, 2 ^ j = q := ⟨_, rfl⟩
  rw [hq] at hp hs ⊢
  ((first|refine rG Γ hm ?_|refine rD Γ hm (by kernel_rfl) ?_);(conv=>whnf);repeat((first|refine aF ?_|refine aT ?_);(first|refine rG Γ hm ?_|refine rD Γ hm (by kernel_rfl) ?_);conv=>whnf))
  refine ⟨fun h2 => ?_, fun h2 => ?_⟩
  · have hlt : j < k := by have := of_decide_eq_true h2; omega
    ((first|refine rG Γ hm ?_|refine rD Γ hm (by kernel_rfl) ?_);(conv=>whnf);repeat((first|refine aF ?_|refine aT ?_);(first|refine rG Γ hm ?_|refine rD Γ hm (by kernel_rfl) ?_);conv=>whnf))
    refine ⟨by unfold I64; omega, ?_⟩
    ((conv=>whnf);repeat((first|refine aF ?_|refine aT ?_);(first|refine rG Γ hm ?_|refine rD Γ hm (by kernel_rfl) ?_);conv=>whnf))
    refine ⟨by unfold I64; omega, ?_⟩
    ((conv=>whnf);repeat((first|refine aF ?_|refine aT ?_);(first|refine rG Γ hm ?_|refine rD Γ hm (by kernel_rfl) ?_);conv=>whnf))
    refine G_next [] hlt ⟨⟨rfl, rfl, congrArg (fun z => SV.val (.int .i64 z)) ?_, rfl, congrArg (fun z => SV.val (.int .i64 z)) ?_, rfl, trivial⟩, ⟨.inl rfl, rfl, trivial⟩, rfl, rfl⟩
    · rw [hs]; omega
    · omega
  · have hjk : j = k := by have := of_decide_eq_false h2; omega
    subst hjk
    rw [hq]
    ((first|refine rG Γ hm ?_|refine rD Γ hm (by kernel_rfl) ?_);(conv=>whnf);repeat((first|refine aF ?_|refine aT ?_);(first|refine rG Γ hm ?_|refine rD Γ hm (by kernel_rfl) ?_);conv=>whnf))
    exact done0 rfl (.cons .tmp .nil) rfl rfl

theorem refFirstS (a : Nat) (bits : Int) (ha : a < 4294967296) : Sy.Spec Tryz.prog 129 [prefixSV a bits] [] (u32SV (firstI a bits)) [] := contract Γ hm 100 F129 Tryz.ntmps129 rfl fun F hF => by
  have hr := refAddrRightS a bits
  by_cases hb : 0 ≤ bits ∧ bits ≤ 32
  · have hsz := refSizeS a bits hb
    rw [decide_eq_true hb] at hr
    obtain ⟨k, hk, hk2⟩ : ∃ k : Nat, (32 - bits).toNat = k ∧ k ≤ 32 := ⟨_, rfl, by omega⟩
    have hf := firstI_nat a k bits hb hk
    have h1 := Nat.one_le_two_pow (n := k)
    have hp : 2 ^ k ≤ 2 ^ 32 := Nat.pow_le_pow_right (by decide) hk2
    have e32 : (2 : Nat) ^ 32 = 4294967296 := rfl
    have hdm := Nat.div_add_mod a (2 ^ k)
    have hml := Nat.mod_le a (2 ^ k)
    have hdl := Nat.div_le_self a (2 ^ k)
    rw [e32] at hp
    rw [hk] at hsz
    rw [hf]
    generalize 2 ^ k = q at *
    have w1 : IntKind.i64.wrap (a : Int) = a := by rw [IntKind.wrap_i64]; omega
    have w2 : IntKind.i64.wrap ((IntKind.i64.wrap (a : Int)).tdiv (q : Int)) = ((a / q : Nat) : Int) := by
      rw [w1, Int.tdiv_eq_ediv_of_nonneg (by omega), IntKind.wrap_i64]
      have : ((a : Int) / (q : Int)) = ((a / q : Nat) : Int) := by simp
      rw [this]
      obtain ⟨d, hd⟩ : ∃ d : Nat, a / q = d := ⟨_, rfl⟩
      rw [hd] at hdl ⊢
      omega
    have hmul : ((a / q : Nat) : Int) * (q : Int) = ((q * (a / q) : Nat) : Int) := by rw [Int.natCast_mul, Int.mul_comm]
    ((conv=>whnf);repeat((first|refine aF ?_|refine aT ?_);(first|refine rG Γ hm ?_|refine rD Γ hm (by kernel_rfl) ?_);conv=>whnf))
    refine call0 hr F147 rfl rfl rfl rfl rfl ?_
    ((first|refine rG Γ hm ?_|refine rD Γ hm (by kernel_rfl) ?_);(conv=>whnf);repeat((first|refine aF ?_|refine aT ?_);(first|refine rG Γ hm ?_|refine rD Γ hm (by kernel_rfl) ?_);conv=>whnf))
    refine callD0 hsz F148 rfl rfl rfl (by kernel_rfl) rfl ?_
    ((first|refine rG Γ hm ?_|refine rD Γ hm (by kernel_rfl) ?_);(conv=>whnf);repeat((first|refine aF ?_|refine aT ?_);(first|refine rG Γ hm ?_|refine rD Γ hm (by kernel_rfl) ?_);conv=>whnf))
    refine ⟨by omega, ?_⟩
    ((conv=>whnf);repeat((first|refine aF ?_|refine aT ?_);(first|refine rG Γ hm ?_|refine rD Γ hm (by kernel_rfl) ?_);conv=>whnf))
    refine callD0 hsz F148 rfl rfl rfl (by kernel_rfl) rfl ?_
    ((first|refine rG Γ hm ?_|refine rD Γ hm (by kernel_rfl) ?_);(conv=>whnf);repeat((first|refine aF ?_|refine aT ?_);(first|refine rG Γ hm ?_|refine rD Γ hm (by kernel_rfl) ?_);conv=>whnf))
    refine ⟨(by rw [w2, hmul]; unfold I64; omega), ?_⟩
    ((conv=>whnf);repeat((first|refine aF ?_|refine aT ?_);(first|refine rG Γ hm ?_|refine rD Γ hm (by kernel_rfl) ?_);conv=>whnf))
    refine ⟨(by kernel_rfl), ?_⟩
    ((conv=>whnf);repeat((first|refine aF ?_|refine aT ?_);(first|refine rG Γ hm ?_|refine rD Γ hm (by kernel_rfl) ?_);conv=>whnf))
    refine done0 rfl (.cons .tmp .nil) ?_ rfl
    refine congrArg (fun z => SV.val (.int .u32 z)) ?_
    rw [w2, hmul, IntKind.wrap_u32]
    omega
  · rw [decide_eq_false hb] at hr
    have hf : firstI a bits = 0 := by rw [firstI, if_neg hb]
    rw [hf]
    ((conv=>whnf);repeat((first|refine aF ?_|refine aT ?_);(first|refine rG Γ hm ?_|refine rD Γ hm (by kernel_rfl) ?_);conv=>whnf))
    refine call0 hr F147 rfl rfl rfl rfl rfl ?_
    ((first|refine rG Γ hm ?_|refine rD Γ hm (by kernel_rfl) ?_);(conv=>whnf);repeat((first|refine aF ?_|refine aT ?_);(first|refine rG Γ hm ?_|refine rD Γ hm (by kernel_rfl) ?_);conv=>whnf))
    exact done0 rfl (.cons .tmp .nil) rfl rfl

end Go.Sy.YtlfopmhekhifoaaGreatDoor
