/-
  Machine: rows of steps. Machine: nets with long names. Contracts: bytes of numbers, frames put (mac, palingref01, ether, palingref04). Scripts made by a number: what they are. The symbolic layer, 30: a new row that is seen as data at once. The symbolic layer, 20: a constant string's bytes. The symbolic layer, 21: a law's contract, as the row asks for it. The symbolic layer, 31: package variables that nobody writes. Machine: a step's row, by the program and by the document. The symbolic layer, 32: a text is appended to bytes. Machine: scripts printed. Machine: what was seen, written; reports.
-/
import Derived.Test.YtjomehmhkcnadaaGreatDoorB6
import Derived.Test.YtjomehmhkcnadaaGreatDoorB3
import Derived.Laws.Bits64b
import Derived.Test.YtjomehmhkcnadaaGreatDoorB5
import Derived.ProofKit
import Derived.OpenShut

namespace Go.Sy.YtjomehmhkcnadaaGreatDoor
open Go.Proofs

attribute [local irreducible] Go.Sy.G Go.Sy.DR
set_option maxRecDepth 20000
set_option maxHeartbeats 4000000

theorem lineJoinS (l : List ByteArray) (h0 : l.length ≤ 1000000) (h1 : sizes l ≤ 1000000000) : Sy.Spec Tryz.prog 27 [.sl 1 strSV l] [] (strSV (joinT l ⟨#[32]⟩)) [] := contract Γ hm 100 F27 Tryz.ntmps27 rfl fun F hF => by
  have q := strJoinS l ⟨#[32]⟩ (by omega) (by omega) (by show 1 * l.length ≤ _; omega)
  generalize joinT l ⟨#[32]⟩ = r at *
  ((conv=>whnf);repeat((first|refine aF ?_|refine aT ?_);(first|refine rG Γ hm ?_|refine rD Γ hm (by kernel_rfl) ?_);conv=>whnf))
  refine call0 q F75 rfl rfl rfl rfl rfl ?_
  ((first|refine rG Γ hm ?_|refine rD Γ hm (by kernel_rfl) ?_);(conv=>whnf);repeat((first|refine aF ?_|refine aT ?_);(first|refine rG Γ hm ?_|refine rD Γ hm (by kernel_rfl) ?_);conv=>whnf))
  exact done0 rfl (.cons .tmp .nil) rfl rfl

end Go.Sy.YtjomehmhkcnadaaGreatDoor

namespace Go.Sy.YtjomehmhkcnadaaGreatDoor
open Go.Proofs

attribute [local irreducible] Go.Sy.G Go.Sy.DR
set_option maxRecDepth 20000
set_option maxHeartbeats 4000000

def longD (d : Device) : Bool := decide (300 < d.name.size)
def longP (p : Port) : Bool := decide (300 < p.name.size)
def longB (n : Net) : Bool := n.devices.any longD || n.ports.any longP

theorem any_upto2 {α : Type} {p : α → Bool} {l : List α} {j : Nat} (hI : Upto (fun _ x => !(p x)) l j) (hj : l.length ≤ j) : l.any p = false := by
  rw [List.any_eq_false]
  intro x hx
  obtain ⟨i, hi, rfl⟩ := List.mem_iff_getElem.1 hx
  have := hI i hi (by omega)
  simpa using this
theorem any_at2 {α : Type} {p : α → Bool} {l : List α} {j : Nat} (hj : j < l.length) (h : p l[j] = true) : l.any p = true := List.any_eq_true.2 ⟨_, List.getElem_mem hj, h⟩

theorem long39S (n : Net) (hn : n.Fin) : Sy.Spec Tryz.prog 6 [netSV n] [] (boolSV (longB n)) [] := contract Γ hm 100 F6 Tryz.ntmps6 rfl fun F hF => by
  have hlk := longB.eq_1 n
  generalize longB n = res at *
  have h1 := hn.devices
  have h2 := hn.ports
  unfold Short at h1 h2
  ((conv=>whnf);repeat((first|refine aF ?_|refine aT ?_);(first|refine rG Γ hm ?_|refine rD Γ hm (by kernel_rfl) ?_);conv=>whnf))
  refine G_box 1 8 (netSV n) rfl rfl rfl ?_
  refine G_countP n.devices.length (fun j => Upto (fun _ d => !(longD d)) n.devices j) (fun j => [(1, .ref 8 (netSV n) 0), (3, intSV j)]) (fun _ => []) [] (upto_zero _ _) ⟨⟨rfl, rfl, rfl, rfl, trivial⟩, trivial, rfl, rfl⟩ ?_
  intro j hj hI
  ((first|refine rG Γ hm ?_|refine rD Γ hm (by kernel_rfl) ?_);(conv=>whnf);repeat((first|refine aF ?_|refine aT ?_);(first|refine rG Γ hm ?_|refine rD Γ hm (by kernel_rfl) ?_);conv=>whnf))
  refine ⟨fun h => ?_, fun h => ?_⟩
  · have hlt : j < n.devices.length := by simpa using h
    have hj0 : ((j : Nat) : Int).toNat < n.devices.length := by simpa using hlt
    have hld : longD n.devices[j] = decide (300 < (n.devices[((j : Nat) : Int).toNat]'hj0).name.size) := rfl
    ((first|refine rG Γ hm ?_|refine rD Γ hm (by kernel_rfl) ?_);(conv=>whnf);repeat((first|refine aF ?_|refine aT ?_);(first|refine rG Γ hm ?_|refine rD Γ hm (by kernel_rfl) ?_);conv=>whnf))
    refine ⟨rfl, by omega, hj0, ?_⟩
    ((conv=>whnf);repeat((first|refine aF ?_|refine aT ?_);(first|refine rG Γ hm ?_|refine rD Γ hm (by kernel_rfl) ?_);conv=>whnf))
    refine ⟨fun h => ?_, fun h => ?_⟩
    · rw [any_at2 hlt (hld.trans (decide_eq_true (by have := of_decide_eq_true h; omega))), Bool.true_or] at hlk
      subst hlk
      ((first|refine rG Γ hm ?_|refine rD Γ hm (by kernel_rfl) ?_);(conv=>whnf);repeat((first|refine aF ?_|refine aT ?_);(first|refine rG Γ hm ?_|refine rD Γ hm (by kernel_rfl) ?_);conv=>whnf))
      exact done0 rfl (.cons .tmp .nil) rfl rfl
    · have hno : (!(longD n.devices[j])) = true := by rw [hld, decide_eq_false (by have := of_decide_eq_false h; omega)]; rfl
      ((first|refine rG Γ hm ?_|refine rD Γ hm (by kernel_rfl) ?_);(conv=>whnf);repeat((first|refine aF ?_|refine aT ?_);(first|refine rG Γ hm ?_|refine rD Γ hm (by kernel_rfl) ?_);conv=>whnf))
      refine ⟨by unfold I64; omega, ?_⟩
      ((conv=>whnf);repeat((first|refine aF ?_|refine aT ?_);(first|refine rG Γ hm ?_|refine rD Γ hm (by kernel_rfl) ?_);conv=>whnf))
      exact G_nextP [] hI hlt (upto_next hI hlt hno) ⟨⟨rfl, rfl, rfl, rfl, trivial⟩, trivial, rfl, rfl⟩
  have : j = n.devices.length := by have := of_decide_eq_false h; omega
  subst this
  rw [any_upto2 hI (Nat.le_refl _), Bool.false_or] at hlk
  clear hI
  ((first|refine rG Γ hm ?_|refine rD Γ hm (by kernel_rfl) ?_);(conv=>whnf);repeat((first|refine aF ?_|refine aT ?_);(first|refine rG Γ hm ?_|refine rD Γ hm (by kernel_rfl) ?_);conv=>whnf))
  refine G_countP n.ports.length (fun j => Upto (fun _ d => !(longP d)) n.ports j) (fun j => [(1, .ref 8 (netSV n) 0), (4, intSV j)]) (fun _ => []) [] (upto_zero _ _) ⟨⟨rfl, rfl, rfl, rfl, trivial⟩, trivial, rfl, rfl⟩ ?_
  intro j hj hI
  ((first|refine rG Γ hm ?_|refine rD Γ hm (by kernel_rfl) ?_);(conv=>whnf);repeat((first|refine aF ?_|refine aT ?_);(first|refine rG Γ hm ?_|refine rD Γ hm (by kernel_rfl) ?_);conv=>whnf))
  refine ⟨fun h => ?_, fun h => ?_⟩
  · have hlt : j < n.ports.length := by simpa using h
    have hj0 : ((j : Nat) : Int).toNat < n.ports.length := by simpa using hlt
    have hld : longP n.ports[j] = decide (300 < (n.ports[((j : Nat) : Int).toNat]'hj0).name.size) := rfl
    ((first|refine rG Γ hm ?_|refine rD Γ hm (by kernel_rfl) ?_);(conv=>whnf);repeat((first|refine aF ?_|refine aT ?_);(first|refine rG Γ hm ?_|refine rD Γ hm (by kernel_rfl) ?_);conv=>whnf))
    refine ⟨rfl, by omega, hj0, ?_⟩
    ((conv=>whnf);repeat((first|refine aF ?_|refine aT ?_);(first|refine rG Γ hm ?_|refine rD Γ hm (by kernel_rfl) ?_);conv=>whnf))
    refine ⟨fun h => ?_, fun h => ?_⟩
    · rw [any_at2 hlt (hld.trans (decide_eq_true (by have := of_decide_eq_true h; omega)))] at hlk
      subst hlk
      ((first|refine rG Γ hm ?_|refine rD Γ hm (by kernel_rfl) ?_);(conv=>whnf);repeat((first|refine aF ?_|refine aT ?_);(first|refine rG Γ hm ?_|refine rD Γ hm (by kernel_rfl) ?_);conv=>whnf))
      exact done0 rfl (.cons .tmp .nil) rfl rfl
    · have hno : (!(longP n.ports[j])) = true := by rw [hld, decide_eq_false (by have := of_decide_eq_false h; omega)]; rfl
      ((first|refine rG Γ hm ?_|refine rD Γ hm (by kernel_rfl) ?_);(conv=>whnf);repeat((first|refine aF ?_|refine aT ?_);(first|refine rG Γ hm ?_|refine rD Γ hm (by kernel_rfl) ?_);conv=>whnf))
      refine ⟨by unfold I64; omega, ?_⟩
      ((conv=>whnf);repeat((first|refine aF ?_|refine aT ?_);(first|refine rG Γ hm ?_|refine rD Γ hm (by kernel_rfl) ?_);conv=>whnf))
      exact G_nextP [] hI hlt (upto_next hI hlt hno) ⟨⟨rfl, rfl, rfl, rfl, trivial⟩, trivial, rfl, rfl⟩
  have : j = n.ports.length := by have := of_decide_eq_false h; omega
  subst this
  rw [any_upto2 hI (Nat.le_refl _)] at hlk
  subst hlk
  ((first|refine rG Γ hm ?_|refine rD Γ hm (by kernel_rfl) ?_);(conv=>whnf);repeat((first|refine aF ?_|refine aT ?_);(first|refine rG Γ hm ?_|refine rD Γ hm (by kernel_rfl) ?_);conv=>whnf))
  exact done0 rfl (.cons .tmp .nil) rfl rfl

end Go.Sy.YtjomehmhkcnadaaGreatDoor

namespace Go.Sy.YtjomehmhkcnadaaGreatDoor
open Go.Proofs

attribute [local irreducible] Go.Sy.G Go.Sy.DR
set_option maxRecDepth 100000
set_option maxHeartbeats 4000000

def be : Nat → Nat → List UInt8
  | 0, _ => []
  | k + 1, m => UInt8.ofNat (m / 256 ^ k) :: be k m

theorem be_length (m : Nat) : ∀ k, (be k m).length = k
  | 0 => rfl
  | k + 1 => by simp [be, be_length m k]

/-- The first j of k. -/
theorem be_take (m : Nat) : ∀ (k j : Nat) (h : j < k), (be k m).take (j + 1) = (be k m).take j ++ [UInt8.ofNat (m / 256 ^ (k - 1 - j))]
  | 0, j, h => by omega
  | k + 1, 0, h => by simp [be]
  | k + 1, j + 1, h => by
    have := be_take m k j (by omega)
    simp only [be, List.take_succ_cons, List.cons_append, this]
    rw [show k + 1 - 1 - (j + 1) = k - 1 - j by omega]

theorem shr_byte (m k : Nat) (hk : k ≤ 7) : IntKind.u8.wrap ((m : Int).fdiv (2 ^ (min (8 * (k : Int)).toNat IntKind.u64.bits))) = ((UInt8.ofNat (m / 256 ^ k)).toNat : Int) := by
  have h1 : min (8 * (k : Int)).toNat IntKind.u64.bits = 8 * k := by simp [IntKind.bits]; omega
  rw [h1, Int.fdiv_eq_ediv_of_nonneg _ (by exact Int.pow_nonneg (by decide)), IntKind.wrap_u8]
  have h2 : (2 : Int) ^ (8 * k) = ((256 ^ k : Nat) : Int) := by rw [Int.pow_mul]; simp
  rw [h2]
  simp

theorem div_pow (m k : Nat) : m / 256 ^ k / 256 = m / 256 ^ (k + 1) := by rw [Nat.div_div_eq_div_mul, Nat.pow_succ]

def frSV (d s : Nat) (t : Int) (body : List UInt8) : SV := .agg [u64SV d, u64SV s, intSV t, .sl 1 byteSV body]
def noFr : SV := .agg [u64SV 0, u64SV 0, intSV 0, .val (.slice none 0 0)]

def frame (d s t : Nat) (body : List UInt8) : List UInt8 := be 6 d ++ be 6 s ++ [UInt8.ofNat (t / 256), UInt8.ofNat t] ++ body

theorem two_bytes (t : Nat) : [UInt8.ofNat (t / 256), UInt8.ofNat t].map byteSV = [SV.val (.int .u8 (IntKind.u8.wrap ((t : Int).fdiv (2 ^ (min (Int.toNat 8) IntKind.i64.bits))))), SV.val (.int .u8 (IntKind.u8.wrap (t : Int)))] := by
  have h1 : IntKind.u8.wrap ((t : Int).fdiv (2 ^ (min (Int.toNat 8) IntKind.i64.bits))) = ((UInt8.ofNat (t / 256)).toNat : Int) := by
    show IntKind.u8.wrap ((t : Int).fdiv 256) = _
    rw [Int.fdiv_eq_ediv_of_nonneg _ (by decide), IntKind.wrap_u8]
    simp
  have h2 : IntKind.u8.wrap (t : Int) = ((UInt8.ofNat t).toNat : Int) := by
    rw [IntKind.wrap_u8]
    simp
  rw [h1, h2]
  rfl

theorem two_bytes2 (t : Nat) (ht : t ≤ 65535) : [UInt8.ofNat (t / 256), UInt8.ofNat t].map byteSV = [SV.val (.int .u8 (IntKind.u8.wrap (IntKind.i64.wrap ((t : Int).tdiv 256)))), SV.val (.int .u8 (IntKind.u8.wrap ((t : Int).tmod 256)))] := by
  have h1 : IntKind.u8.wrap (IntKind.i64.wrap ((t : Int).tdiv 256)) = ((UInt8.ofNat (t / 256)).toNat : Int) := by
    rw [Int.tdiv_eq_ediv_of_nonneg (by omega), IntKind.wrap_u8, IntKind.wrap_i64]
    simp
    omega
  have h2 : IntKind.u8.wrap ((t : Int).tmod 256) = ((UInt8.ofNat t).toNat : Int) := by
    rw [Int.tmod_eq_emod_of_nonneg (by omega), IntKind.wrap_u8]
    simp
  rw [h1, h2]
  rfl
end Go.Sy.YtjomehmhkcnadaaGreatDoor

namespace Go.Sy.YtjomehmhkcnadaaGreatDoor

def nextN (s : Int) : Int := IntKind.u64.wrap (IntKind.u64.wrap (6364136223846793005 * s) + 1442695040888963407)
theorem nextN_range (s : Int) : 0 ≤ nextN s ∧ nextN s < 18446744073709551616 := by
  rw [nextN, IntKind.wrap_u64]
  omega
/-- What is drawn, by the new number. -/
def drawI (s b : Int) : Int := if b < 1 then 0 else (s / 8589934592) % b
theorem drawI_range {s b : Int} (h : 0 < b) : 0 ≤ drawI s b ∧ drawI s b < b := by
  rw [drawI, if_neg (by omega)]
  exact ⟨Int.emod_nonneg _ (by omega), Int.emod_lt_of_pos _ h⟩

structure FrameM where
  dst : Nat
  src : Nat
  typ : Nat
  body : List UInt8
def frameSV (f : FrameM) : SV := frSV f.dst f.src f.typ f.body

structure StepM where
  kind : Int
  port : Int
  domain : Int
  at_ : Int
  bytes : List UInt8
  up : List Bool
def stepSV (x : StepM) : SV := .agg [intSV x.kind, intSV x.port, intSV x.domain, intSV x.at_, .sl 1 byteSV x.bytes, .sl 1 boolSV x.up]

def vlansL (p : Port) : List Int := if p.native ≠ 0 then p.native :: p.tagged else p.tagged
def vlanM (p : Port) (s : Int) : Int × Int := (nth (vlansL p) (drawI (nextN s) (vlansL p).length), nextN s)

def hostN (ip : Int) : Nat := 2199023255552 + ip.toNat
def firstI (a bits : Int) : Int := if 0 ≤ bits ∧ bits ≤ 32 then a - a % 2 ^ (32 - bits).toNat else 0
/-- A sum brought down. -/
def foldN (n : Nat) : Nat := if n = 0 then 0 else (n - 1) % 65535 + 1
def ipL (to : Nat) : List UInt8 :=
  let s := 65535 - foldN (0x4500 + 20 + 0x4011 + 1 + to / 65536 + to % 65536)
  be 2 0x4500 ++ be 2 20 ++ be 2 0 ++ be 2 0 ++ be 2 0x4011 ++ be 2 s ++ be 4 1 ++ be 4 to

def frameM (n : Net) (s : Int) : FrameM × Int :=
  let src := 10995116277760 + (drawI (nextN s) 8).toNat
  let s2 := nextN (nextN s)
  let kind := drawI s2 4
  if kind = 0 ∨ (kind = 1 ∧ n.irbs.length = 0) then (⟨281474976710655, src, 34997, []⟩, s2)
  else if kind = 1 then
    let s3 := nextN s2
    let s4 := nextN s3
    let s5 := nextN s4
    let x := nth n.irbs (drawI s3 n.irbs.length)
    let y := nth n.irbs (drawI s4 n.irbs.length)
    (⟨hostN x.addr, src, 2048, ipL (IntKind.u32.wrap (firstI y.addr y.bits + drawI s5 4)).toNat⟩, s5)
  else (⟨10995116277760 + (drawI (nextN s2) 8).toNat, src, 34997, []⟩, nextN s2)

def tagM (f : FrameM) (vlan : Int) : FrameM := ⟨f.dst, f.src, 33024, [UInt8.ofNat (vlan.toNat / 256), UInt8.ofNat vlan.toNat, UInt8.ofNat (f.typ / 256), UInt8.ofNat f.typ] ++ f.body⟩

def hostsL (n : Net) (j : Nat) : List Int := ((List.range j).filter fun i => decide ((n.ports.getD i default).link < 0)).map fun (i : Nat) => (i : Int)

def injectM (n : Net) (s : Int) : StepM × Int :=
  let l := hostsL n n.ports.length
  let s1 := nextN s
  let port := nth l (drawI s1 l.length)
  let v := vlanM (nth n.ports port) s1
  let f := frameM n v.2
  let g := if v.1 ≠ (nth n.ports port).native then tagM f.1 v.1 else f.1
  (⟨1, port, 0, 0, frame g.dst g.src g.typ g.body, []⟩, f.2)

def linksM : Nat → Int → List Bool × Int
  | 0, s => ([], s)
  | j + 1, s => let r := linksM j s; (r.1 ++ [drawI (nextN r.2) 2 == 1], nextN r.2)

def stepM (n : Net) (s : Int) : StepM × Int :=
  let s1 := nextN s
  let k := drawI s1 10
  if k < 3 ∧ 0 < (hostsL n n.ports.length).length then injectM n s1
  else if 3 ≤ k ∧ k < 8 ∧ 0 < n.domains.length then (⟨2, 0, drawI (nextN s1) n.domains.length, drawI (nextN (nextN s1)) 3, [], []⟩, nextN (nextN s1))
  else if k = 9 ∧ 0 < n.links.length then let r := linksM n.links.length s1; (⟨5, 0, 0, 0, [], r.1⟩, r.2)
  else (⟨4, 0, 0, 0, [], []⟩, s1)

def scriptM (n : Net) : Nat → Int → List StepM × Int
  | 0, s => ([], s)
  | j + 1, s => let r := scriptM n j s; let x := stepM n r.2; (r.1 ++ [x.1], x.2)

theorem scriptM_length (n : Net) : ∀ (j : Nat) (s : Int), (scriptM n j s).1.length = j
  | 0, _ => rfl
  | j + 1, s => by simp [scriptM, scriptM_length n j s]

/-- A script in two parts. -/
theorem scriptM_add (n : Net) (s : Int) (a : Nat) : ∀ b, scriptM n (a + b) s = ((scriptM n a s).1 ++ (scriptM n b (scriptM n a s).2).1, (scriptM n b (scriptM n a s).2).2)
  | 0 => by simp [scriptM]
  | b + 1 => by
    have ih := scriptM_add n s a b
    rw [← Nat.add_assoc, scriptM, ih]
    simp [scriptM, List.append_assoc]
end Go.Sy.YtjomehmhkcnadaaGreatDoor

namespace Go.Sy

theorem Good.dataT {P : Program} {o : Oper} {s : SS} {d sz : Nat} {ks : List Nat} {k : Option Nat} {α : Type} {e : α → SV} {l : List α} (h : Good P o s ⟨.osl d, ks, appObjs k d (.row sz e l)⟩) :
    Good P o s ⟨.sl sz e l, ks, appObjs k d .non⟩ := fun κ a w hi hr ho N Q hN => by
  have hws : Up.ws ⟨SV.osl d, ks, appObjs k d (.row sz e l)⟩ = Up.ws ⟨SV.sl sz e l, ks, appObjs k d .non⟩ := by
    cases k <;> rfl
  refine h κ a w hi hr (fun j hj => ho j (by rw [← hws]; exact hj)) N Q fun v κ' w' st inv hv hob => ?_
  have hmem : d ∈ Up.ws ⟨SV.sl sz e l, ks, appObjs k d .non⟩ := by cases k <;> simp [Up.ws, appObjs]
  have hrow : ObOK κ' w' d (.row sz e l) := hob (d, .row sz e l) (by cases k <;> simp [appObjs])
  have st2 := step_kill (κ := κ') (w := w') (some d)
  have inv2 := inv_kill inv (some d)
  have hx : Rd (setK κ' d .dead) w' (.sl sz e l) v := by
    rcases hrow with ⟨h1, rfl⟩ | h1
    · simp only [Rd, h1] at hv
      simp only [Rd, RdD]
      exact .inl ⟨by simp, none, 0, hv⟩
    · refine h1.freeze hv st2.keeps.out (fun b hb => ⟨inv.bnd d b hb, ?_⟩)
      rintro (⟨q, hq⟩ | hq)
      · by_cases hqd : q = d
        · subst hqd; rw [setK_self] at hq; cases hq
        · rw [setK_ne _ _ hqd] at hq
          exact hqd (inv.inj q d b hq hb)
      · exact inv.apart d b hb hq
  refine hN v _ w' ((st.weaken (fun j hj => by rw [← hws]; exact hj)).trans (st2.weaken (fun j hj => by cases hj; exact hmem))) inv2 hx (fun x hxm => ?_)
  have : x.2 = .non := by
    cases k with
    | none => have := List.mem_singleton.1 hxm; rw [this]
    | some j => rcases List.mem_cons.1 hxm with h1 | h1
                · rw [h1]
                · have := List.mem_singleton.1 h1; rw [this]
  rw [this]
  trivial

end Go.Sy

namespace Go.Sy

theorem freeze_facts (w : World) {b : Nat} {cs : Array Value} {T : TypeId} {fr : Nat × Nat} (h : w.heap[b]? = some (.cells cs T fr)) (n : Nat) :
    (w.freeze ⟨b, n, none⟩ 1).heap[b]? = some (.cells cs T (if fr.1 == fr.2 then (n, n + 1) else (min fr.1 n, max fr.2 (n + 1)))) ∧ (w.freeze ⟨b, n, none⟩ 1).os = w.os ∧ (w.freeze ⟨b, n, none⟩ 1).tape = w.tape ∧ (w.freeze ⟨b, n, none⟩ 1).output = w.output ∧
      (w.freeze ⟨b, n, none⟩ 1).heap.size = w.heap.size ∧ ∀ i, i ≠ b → (w.freeze ⟨b, n, none⟩ 1).heap[i]? = w.heap[i]? := by
  unfold World.freeze
  rw [if_neg (by decide)]
  refine ⟨?_, rfl, rfl, rfl, by simp, fun i hi => ?_⟩
  · simp [Array.getElem?_modify, h]
  · simp [Array.getElem?_modify, Ne.symm hi]

/-- The conversion of a literal row to its own type: what stands for the bytes of a constant string. -/
theorem good_convert_mark {P : Program} (Γ : Ty P) {o : Oper} {s : SS} {t : TypeId} {ti ei : TI} {x : Operand} {et : TypeId} {sz eb k : Nat} {ez : List Value} {svs : List SV} (h : o.op = .convert t t x)
    (ht : Γ.get t = some ti) (hk : ti.k = .slice et sz eb ez) (he : Γ.get et = some ei) (hek : ei.k = .int .u8) (hx : ev s x = .osl k) (hl : s.h k = .lit sz svs) : Good P o s ⟨.osl k, [], [(k, .lit sz svs)]⟩ := by
  intro κ a w hi hr ho N Q hN
  have h1 := hr x (by simp [h, Op.operands])
  have h3 := ho k (.inr (by simp [Up.ws]))
  rw [hl] at h3
  rw [hx] at h1
  obtain ⟨b, cap, cs, T, fr, f1, f2, f3, f4, f5, f6⟩ := h3
  simp only [Rd, f1] at h1
  obtain ⟨hu, _⟩ := slice_elem Γ ht hk
  have he' := int_under Γ he hek
  obtain ⟨q1, q2, q3, q4, q5, q6⟩ := freeze_facts w f2 cs.length
  have hsh : w.shape? b = some (T, cs.length) := by
    unfold World.shape?
    rw [f2]
    simp
  have hrun : (execOp a.eval o).run P w = .ok (.value (.slice (some ⟨b, 0, none⟩) svs.length cap)) (w.freeze ⟨b, cs.length, none⟩ 1) := by
    simp [execOp, h, h1, convert, run_underlying hu, run_underlying he', markStringish, hsh]
  simp only [Oper.wp, hrun, Oper.upon]
  obtain ⟨st, inv⟩ := step_write hi (k := k) (b := b) (by rw [f1]; rfl) q2 q3 q4 q5 q6
  refine hN _ κ _ (st.weaken (by simp [Up.ws])) inv (by simp [Rd, f1]) (fun p hp => ?_)
  simp only [List.mem_singleton] at hp
  subst hp
  refine ⟨b, cap, cs, T, _, f1, q1, ?_, f4, f5, fun i x hx => ?_⟩
  · rcases f3 with h0 | h0
    · rw [if_pos (by simpa using h0)]; exact .inr (Nat.le_refl _)
    · split
      · exact .inr (Nat.le_refl _)
      · exact .inr (by simp only; omega)
  obtain ⟨g0, u, g1, g2, g3, g4⟩ := f6 i x hx
  exact ⟨g0, u, RdD.keep st.keeps _ _ g1, g2, g3, g4⟩

end Go.Sy

namespace Go.Sy
open Go.ChangeShapes Go.WideShapes Go.ChangeAt Go.RowKit

/-- Nobody owns anything. -/
def κ0 : Ka := ⟨fun _ => .new, fun _ => False⟩

theorem inv0 (w : World) : Inv κ0 w :=
  ⟨fun i j b h => (by cases h), fun k b h => (by cases h), fun k b h => (by cases h), fun b h => False.elim h⟩

theorem below_of_ctx {w w' : World} {κ' : Ka} (c : Ctx ⟨w, κ0⟩ κ' w') : Below w.heap.size w w' :=
  ⟨c.os, c.tape, c.output, c.size, fun k hk => c.old k hk (fun j h => by cases h)⟩

section
variable {H : Type} {enc : TypeId × Value → H} {P : Program}

theorem trodAll_below {W W' : World} (hl : laidOutB P = true) (hb : Below W.heap.size W W') : ∀ {ts : List TypeId} {vs : List Value} {ds : List (DataW H)} {ps : List MemPlace}, (∀ t ∈ ts, P.readableRec t = true ∧ t < P.types.size) →
    (∀ x ∈ ps, x.block < W.heap.size) → DataW.TrodAll enc P W 0 (fun _ => true) true ts vs ds ps → DataW.TrodAll enc P W' 0 (fun b => decide (b < W.heap.size)) true ts vs ds ps
  | [], _, _, _, _, _, h => by
    obtain ⟨rfl, rfl, rfl⟩ := trodAll_nil h
    rfl
  | t :: ts, _, _, _, ht, hp, h => by
    obtain ⟨v, vs, d, ds, p, q, rfl, rfl, rfl, h1, h2⟩ := trodAll_cons h
    have := ht t (by simp)
    exact ⟨p, q, Below.trod hl this.1 this.2 h1 hb (fun x hx => hp x (by simp [hx])), trodAll_below hl hb (fun t h => ht t (by simp [h])) (fun x hx => hp x (by simp [hx])) h2, rfl⟩

/-- Whoever calls a law: it answers true, and its arguments read as they did. -/
theorem law_calls {f : FuncId} {fn : Func} {s : ChangeSpec} {W : World} {args : Array Value} {ds gs : List (DataW H)} {before : List MemPlace} {tb : TypeId} {A : List SV} (hv : s.vars = []) (hl : laidOutB P = true)
    (hW : DataW.Whole enc P fn.params.toList s.vars false W args.toList ds gs before) (hts : ∀ t ∈ fn.params.toList, P.readableRec t = true ∧ t < P.types.size) (hrt : fn.resultTypes = #[tb]) (hbt : P.underlying tb = some .bool)
    (hfn : ∀ gs : List (DataW H), gs = [] → s.fn H (ds ++ gs) = { results := [.lit (.bool true)], args := ds }) (hA : RdL κ0 W A args.toList) (hs : Sy.Spec P f A [] (boolSV true) []) :
    Calls P f args W fun e W' => ∃ v, e = .returned v ∧ s.post enc P fn false true false false W args v W' := by
  have hc := hs κ0 W args.toList (inv0 W) (fun k hk => absurd rfl hk) hA (fun p hp => by cases hp)
  simp only [Array.toArray_toList] at hc
  refine hc.mono ?_
  rintro e W' ⟨v, κ', rfl, ctx, inv, hR, _⟩
  have hvv : v = .bool true := by simpa [boolSV, Rd] using hR
  subst hvv
  have hb := below_of_ctx ctx
  have hW' := hW
  obtain ⟨p, q, h1, h2, h3, h4, h5⟩ := hW
  have hgs : gs = [] ∧ q = [] := by
    rw [hv] at h2
    exact trodVars_none h2
  obtain ⟨rfl, rfl⟩ := hgs
  rw [List.append_nil] at h3
  subst h3
  have hlt : ∀ x ∈ before, x.block < W.heap.size := fun x hx => by simpa using hW'.lt x hx
  refine ⟨_, rfl, ds, [], before, [], before, [], hW', ?_, ?_, ?_, ?_, fun h => by cases h⟩
  · rw [hfn [] rfl, hrt]
    exact trodAll_mk1 (shut_bool hbt true)
  · rw [hfn [] rfl]
    exact trodAll_below hl hb hts hlt h1
  · rw [hv, hfn [] rfl]
    rfl
  · exact hb.frame _

theorem rd_bytes {W : World} {base : Nat} {t e : TypeId} {v : Value} {d : DataW H} {ps : List MemPlace} (ht : P.underlying t = some (.slice e)) (he : P.underlying e = some (.int .u8)) (hc : P.cellsOf e = 1)
    (hval : Value.okWide P W .any base t v) (h1 : DataW.Trod enc P W 0 (fun _ => true) true t v d ps) : ∃ l : List UInt8, Rd κ0 W (.sl 1 byteSV l) v := by
  obtain ⟨a1, len, cap, rfl⟩ := okWide_slice ht hval
  obtain ⟨fuel, hf⟩ := h1
  rcases open_ints ht he hc hf with ⟨hcs, hx⟩ | ⟨a, len', cap', zs, hcs, _, hl, hm, hz, hx, hcell, hwz⟩
  · simp [Value.cells] at hcs
    obtain ⟨rfl, rfl, rfl⟩ := hcs
    refine ⟨[], ?_⟩
    simp only [Rd, RdD]
    exact .inl ⟨trivial, none, 0, rfl⟩
  · simp [Value.cells] at hcs
    obtain ⟨rfl, rfl, rfl⟩ := hcs
    simp only [if_true] at hz
    have hlen : ((zs.take len).map fun n => UInt8.ofNat n.toNat).length = len := by simp; omega
    by_cases h0 : len = 0
    · subst h0
      refine ⟨[], ?_⟩
      simp only [Rd, RdD]
      exact .inl ⟨trivial, _, _, rfl⟩
    · refine ⟨(zs.take len).map fun n => UInt8.ofNat n.toNat, ?_⟩
      obtain ⟨b, off, rfl, hcc⟩ := ints_at hcell (by omega)
      simp only [Rd, RdD]
      refine .inr ⟨b, off, cap, by rw [hlen], by rw [hlen]; exact hl, ?_, ?_, fun i hi => ?_⟩
      · rintro (⟨k, hk⟩ | hk)
        · cases hk
        · exact hk
      · have := hcc 0 (by omega)
        rcases Nat.lt_or_ge b W.heap.size with h | h
        · exact h
        · simp [World.cell?, Array.getElem?_eq_none h] at this
      · rw [hlen] at hi
        have hb := range_u8 hwz i
        have e : zs.getD i 0 = zs[i]'(by omega) := by simp [List.getD, List.getElem?_eq_getElem (show i < zs.length by omega)]
        rw [List.getD_eq_getElem?_getD] at e
        rw [e] at hb
        have hci := hcc i (by omega)
        rw [List.getD_eq_getElem?_getD, e] at hci
        refine ⟨.int .u8 zs[i], ?_, rfl, fun c hc => by simp [Value.cells] at hc; subst hc; rfl, fun j hj => ?_⟩
        · simp only [byteSV, RdD, List.getElem_map, List.getElem_take]
          congr 1
          simp only [UInt8.toNat_ofNat']
          omega
        · have hj0 : j = 0 := by omega
          subst hj0
          simpa [Value.cells] using hci
end

end Go.Sy

namespace Go.Sy

theorem good_index_glob {P : Program} (Γ : Ty P) {o : Oper} {s : SS} {t : TypeId} {ti : TI} {et : TypeId} {len esz sz g : Nat} {y : Operand} {ik : IntKind} {n : Int} {z : SV} (k : Nat)
    (h : o.op = .indexAddr t (.global g) y) (ht : Γ.get t = some ti) (hk : ti.k = .array et len esz) (hb : s.h k = .glob sz z g) (hy : ev s y = .val (.int ik n)) (h0 : 0 ≤ n) (hn : n.toNat < len) :
    Good P o s ⟨.ref sz z (n.toNat * esz), [k], []⟩ :=
  Good.pure fun κ a w _ hr ho => by
    have h1 := ho k (by simp)
    have h2 := hr y (by simp [h, Op.operands])
    rw [hb] at h1
    rw [hy] at h2
    simp only [ObOK, Rd, RdD] at h1
    obtain ⟨b, oo, u, e1, e2, e3, e4, e5⟩ := h1
    obtain ⟨hu, i, q1, q2⟩ := arr_elem Γ ht hk
    simp only [Nat.add_zero, Value.pointer.injEq, Option.some.injEq, Addr.mk.injEq, and_true] at e1
    obtain ⟨rfl, rfl⟩ := e1
    refine ⟨.pointer (some ⟨g, 0 + n.toNat * esz, none⟩), ?_, ?_⟩
    · have hg : a.eval (.global g) = .pointer (some ⟨g, 0, none⟩) := rfl
      simp only [execOp, h, hg, h2.val]
      simp [run_indexArr w hu q1 q2 h0 hn]
    · simp only [Rd, RdD]
      exact ⟨g, 0, u, rfl, e2, e3, e4, e5⟩

theorem good_load_glob {P : Program} (Γ : Ty P) {o : Oper} {s : SS} {t : TypeId} {i : TI} {sz g : Nat} {z y : SV} (k : Nat) (h : o.op = .load t (.global g)) (hb : s.h k = .glob sz z g)
    (ht : Γ.get t = some i) (hz : z.boxed = true) (hy : loadSV i (cellsOf z) 0 = some y) : Good P o s ⟨y, [k], []⟩ :=
  Good.pure fun κ a w _ hr ho => by
    have h1 := ho k (by simp)
    rw [hb] at h1
    simp only [ObOK, Rd, RdD] at h1
    obtain ⟨b, oo, u, h2, h3, h4, h5, h6⟩ := h1
    simp only [Nat.add_zero, Value.pointer.injEq, Option.some.injEq, Addr.mk.injEq, and_true] at h2
    obtain ⟨rfl, rfl⟩ := h2
    obtain ⟨v, h7, h8⟩ := run_loadSV Γ ht (h6.cellsAt h5.toRd hz) hy
    have hg : a.eval (.global g) = .pointer (some ⟨g, 0, none⟩) := rfl
    have h7' : (loadVar t ⟨g, 0, none⟩).run P w = .ok v w := by simpa using h7
    exact ⟨v, by simp [execOp, h, hg, Instr.loadAt, Instr.sureAddr, h7'], h8⟩

theorem Ob.shp_glob {x : Ob} {sz g : Nat} {z : SV} (h : x.shp = (Ob.glob sz z g).shp) : x = .glob sz z g := by
  cases x <;> simp_all [Ob.shp]

theorem GoodX.glob {P : Program} (Γ : Ty P) {o : Oper} {s : SS} {t : TypeId} {ti : TI} {et : TypeId} {len esz sz g : Nat} {y : Operand} {ik : IntKind} {n : Int} {z : SV} (k : Nat)
    (h : o.op = .indexAddr t (.global g) y) (ht : Γ.get t = some ti) (hk : ti.k = .array et len esz) (hb : s.h k = .glob sz z g) (hy : ev s y = .val (.int ik n)) (h0 : 0 ≤ n) (hn : n.toNat < len) :
    GoodX P o s ⟨.ref sz z (n.toNat * esz), [k], []⟩ where
  good := (good_index_glob Γ k h ht hk hb hy h0 hn).two
  idx _ := ⟨rfl, fun s' h1 h2 => good_index_glob Γ k h ht hk (Ob.shp_glob ((h2 k (by simp)).trans (congrArg Ob.shp hb))) ((h1 y (by simp [h, Op.operands])).trans hy) h0 hn⟩
  st hs := by simp [isSt, h] at hs

/-- In a drawing region. -/
theorem stepDX {C : Cx} {k : List KI} {s : SS} {all : Array Oper} {done : List Stp} {o : Oper} {rest : List Oper} {U : Up} (hg : GoodX C.P o s U) (hi : all[done.length]? = some o) (hw : guardV C.n all o s = some true)
    (h : DR C k all (done ++ [⟨done.length, o, U, true⟩]) rest (s.upd o.dst U)) : DR C k all done (o :: rest) s := DR_op U hg hi (guardV_ok hw).1 h

section
open Go.ChangeShapes Go.WideShapes Go.ChangeAt Go.RowKit
variable {H : Type} {enc : TypeId × Value → H} {P : Program}

/-- Whoever calls a law that reads package variables. -/
theorem law_callsG {f : FuncId} {fn : Func} {s : ChangeSpec} {W : World} {args : Array Value} {ds gs : List (DataW H)} {before : List MemPlace} {tb : TypeId} {A : List SV} {O O' : Obs} (hO : O.ok κ0 W) (hv : s.vars = []) (hl : laidOutB P = true)
    (hW : DataW.Whole enc P fn.params.toList s.vars false W args.toList ds gs before) (hts : ∀ t ∈ fn.params.toList, P.readableRec t = true ∧ t < P.types.size) (hrt : fn.resultTypes = #[tb]) (hbt : P.underlying tb = some .bool)
    (hfn : ∀ gs : List (DataW H), gs = [] → s.fn H (ds ++ gs) = { results := [.lit (.bool true)], args := ds }) (hA : RdL κ0 W A args.toList) (hs : Sy.Spec P f A O (boolSV true) O') :
    Calls P f args W fun e W' => ∃ v, e = .returned v ∧ s.post enc P fn false true false false W args v W' := by
  have hc := hs κ0 W args.toList (inv0 W) (fun k hk => absurd rfl hk) hA hO
  simp only [Array.toArray_toList] at hc
  refine hc.mono ?_
  rintro e W' ⟨v, κ', rfl, ctx, inv, hR, _⟩
  have hvv : v = .bool true := by simpa [boolSV, Rd] using hR
  subst hvv
  have hb := below_of_ctx ctx
  have hW' := hW
  obtain ⟨p, q, h1, h2, h3, h4, h5⟩ := hW
  have hgs : gs = [] ∧ q = [] := by
    rw [hv] at h2
    exact trodVars_none h2
  obtain ⟨rfl, rfl⟩ := hgs
  rw [List.append_nil] at h3
  subst h3
  have hlt : ∀ x ∈ before, x.block < W.heap.size := fun x hx => by simpa using hW'.lt x hx
  refine ⟨_, rfl, ds, [], before, [], before, [], hW', ?_, ?_, ?_, ?_, fun h => by cases h⟩
  · rw [hfn [] rfl, hrt]
    exact trodAll_mk1 (shut_bool hbt true)
  · rw [hfn [] rfl]
    exact trodAll_below hl hb hts hlt h1
  · rw [hv, hfn [] rfl]
    rfl
  · exact hb.frame _

theorem vals_rd {M : Nat → Prop} {w : World} : ∀ cs : List Value, RdDL M w (cs.map .val) cs
  | [] => by simp [RdDL]
  | c :: cs => by
    simp only [List.map_cons, RdDL]
    exact ⟨c, cs, rfl, by simp [RdD], vals_rd cs⟩

/-- A package variable whose cells are these. -/
theorem glob_ok {W : World} {k g : Nat} (cs : List Value) (h1 : Ones cs) (hg : g < W.heap.size) (hc : ∀ j, j < cs.length → W.cell? ⟨g, j, none⟩ = cs[j]?) : ObOK κ0 W k (.glob cs.length (.agg (cs.map .val)) g) := by
  simp only [ObOK, Rd, RdD]
  refine ⟨g, 0, .agg cs.toArray, rfl, ?_, hg, ⟨cs, rfl, h1, vals_rd cs⟩, ?_⟩
  · rintro (⟨j, hj⟩ | hj)
    · cases hj
    · exact hj
  · refine ⟨by simp [Value.cells], by simpa [Value.cells] using h1, fun j hj => ?_⟩
    rw [Nat.zero_add, hc j hj]
    simp [Value.cells]

end

end Go.Sy

namespace Go.Sy.YtjomehmhkcnadaaGreatDoor
open Go.Proofs
-- SIMP: placeB

attribute [local irreducible] Go.Sy.G Go.Sy.DR
set_option maxRecDepth 100000
set_option maxHeartbeats 4000000

abbrev vInject : ByteArray := ⟨#[105, 110, 106, 101, 99, 116]⟩
abbrev vPick : ByteArray := ⟨#[112, 105, 99, 107]⟩
abbrev vDrop : ByteArray := ⟨#[100, 114, 111, 112]⟩
abbrev vTick : ByteArray := ⟨#[116, 105, 99, 107]⟩
abbrev vLinks : ByteArray := ⟨#[108, 105, 110, 107, 115]⟩
abbrev verbsL : List SV := [strSV ⟨#[]⟩, strSV vInject, strSV vPick, strSV vDrop, strSV vTick, strSV vLinks]
abbrev verbsO (k : Nat) : Nat × Ob := (k, .glob 6 (.agg verbsL) 0)

def atOK (a : Int) : Bool := decide (0 ≤ a) && decide (a ≤ 999999999)

/-- A step's row, as the program has it. -/
def siteRowT (n : Net) (x : StepM) : ByteArray × Bool :=
  if x.kind = 1 then (if placeB x.port n.ports.length = true then (joinT [vInject, portText n x.port, hexT x.bytes] ⟨#[32]⟩, true) else (⟨#[]⟩, false))
  else if x.kind = 2 then (joinT [vPick, domT n x.domain, numT x.at_] ⟨#[32]⟩, !(domT n x.domain == ⟨#[]⟩) && atOK x.at_)
  else if x.kind = 3 then (joinT [vDrop, domT n x.domain, numT x.at_] ⟨#[32]⟩, !(domT n x.domain == ⟨#[]⟩) && atOK x.at_)
  else if x.kind = 4 then (vTick, true)
  else if x.kind = 5 then (joinT [vLinks, truthsT x.up] ⟨#[32]⟩, decide (x.up.length = n.links.length))
  else (⟨#[]⟩, false)

theorem hexT_size (l : List UInt8) : (hexT l).size ≤ 2 * l.length + 1 := by
  unfold hexT
  split
  · show 1 ≤ _; omega
  · rw [mkT_size, hexL_length]; omega
theorem truthsT_size (l : List Bool) : (truthsT l).size ≤ l.length + 1 := by
  unfold truthsT
  split
  · show 1 ≤ _; omega
  · rw [mkT_size, truthL, List.length_map]; omega
theorem portText_size {n : Net} (hb : netRightB n = true) (hnm : Named n) {i : Int} (hi : 0 ≤ i ∧ i < n.ports.length) : (portText n i).size ≤ 700 := by
  have := portT_size hnm i
  rwa [portT, if_pos ⟨hi, hb⟩] at this
theorem sizes2 (a b : ByteArray) : sizes [a, b] = a.size + (b.size + 0) := rfl
theorem sizes3 (a b c : ByteArray) : sizes [a, b, c] = a.size + (b.size + (c.size + 0)) := rfl

theorem siteRowS (n : Net) (hn : n.Fin) (hb : netRightB n = true) (hnm : Named n) (x : StepM) (hw : Word64 x.at_) (hbl : x.bytes.length < 1000000) (hul : x.up.length < 1000000) :
    Sy.Spec Tryz.prog 19 [netSV n, stepSV x] [verbsO 900] (.tup [strSV (siteRowT n x).1, boolSV (siteRowT n x).2]) [verbsO 900] := contract Γ hm 100 F19 Tryz.ntmps19 rfl fun F hF => by
  obtain ⟨kd, port, dom, at_, bytes, up⟩ := x
  dsimp only at hw hbl hul
  have hres := siteRowT.eq_1 n ⟨kd, port, dom, at_, bytes, up⟩
  dsimp only at hres
  generalize siteRowT n ⟨kd, port, dom, at_, bytes, up⟩ = res at *
  have q0 := domTextS n hn hnm dom
  have z0 := domT_size hnm dom
  have q1 := sitePortedS n port
  have q2 := fun hi => sitePortS n hb hnm port hi
  have z2 := fun hi => portText_size hb hnm (i := port) hi
  have q3 := bytesTextS bytes hbl
  have z3 := hexT_size bytes
  have q4 := numText2S at_ hw
  have z4 := numT_size21 hw
  have q5 := truthsS up hul
  have z5 := truthsT_size up
  generalize domT n dom = td at *
  generalize hexT bytes = tb at *
  generalize numT at_ = ta at *
  generalize truthsT up = tu at *
  ((conv=>whnf);repeat((first|refine aF ?_|refine aT ?_);(first|refine rG Γ hm ?_|refine rD Γ hm (by kernel_rfl) ?_);conv=>whnf))
  refine G_box 2 8 (netSV n) rfl rfl rfl ?_
  ((first|refine rG Γ hm ?_|refine rD Γ hm (by kernel_rfl) ?_);(conv=>whnf);repeat((first|refine aF ?_|refine aT ?_);(first|refine rG Γ hm ?_|refine rD Γ hm (by kernel_rfl) ?_);conv=>whnf))
  refine G_box 3 6 (stepSV ⟨kd, port, dom, at_, bytes, up⟩) rfl rfl rfl ?_
  ((first|refine rG Γ hm ?_|refine rD Γ hm (by kernel_rfl) ?_);(conv=>whnf);repeat((first|refine aF ?_|refine aT ?_);(first|refine rG Γ hm ?_|refine rD Γ hm (by kernel_rfl) ?_);conv=>whnf))
  refine call0 q0 F56 rfl rfl rfl rfl rfl ?_
  ((first|refine rG Γ hm ?_|refine rD Γ hm (by kernel_rfl) ?_);(conv=>whnf);repeat((first|refine aF ?_|refine aT ?_);(first|refine rG Γ hm ?_|refine rD Γ hm (by kernel_rfl) ?_);conv=>whnf))
  refine ⟨fun h => ?_, fun h => ?_⟩
  · obtain rfl : kd = 1 := by simpa using h
    rw [if_pos rfl] at hres
    ((first|refine rG Γ hm ?_|refine rD Γ hm (by kernel_rfl) ?_);(conv=>whnf);repeat((first|refine aF ?_|refine aT ?_);(first|refine rG Γ hm ?_|refine rD Γ hm (by kernel_rfl) ?_);conv=>whnf))
    refine call0 q1 F26 rfl rfl rfl rfl rfl ?_
    cases hp : placeB port n.ports.length
    · rw [if_neg (by simp [hp])] at hres
      subst hres
      ((first|refine rG Γ hm ?_|refine rD Γ hm (by kernel_rfl) ?_);(conv=>whnf);repeat((first|refine aF ?_|refine aT ?_);(first|refine rG Γ hm ?_|refine rD Γ hm (by kernel_rfl) ?_);conv=>whnf))
      exact done rfl (.cons .tmp (.cons .tmp .nil)) [] [verbsO 900] (fun _ h => h) rfl rfl ⟨trivial, ⟨.inl rfl, rfl, trivial⟩, rfl, rfl⟩
    rw [if_pos hp] at hres
    subst hres
    have hi := placeB_in hp
    have q2 := q2 hi
    have z2 := z2 hi
    generalize portText n port = tp at *
    have q6 := lineJoinS [vInject, tp, tb] (by simp) (by rw [sizes3]; show 6 + _ ≤ _; omega)
    generalize joinT [vInject, tp, tb] ⟨#[32]⟩ = tj at *
    ((first|refine rG Γ hm ?_|refine rD Γ hm (by kernel_rfl) ?_);(conv=>whnf);repeat((first|refine aF ?_|refine aT ?_);(first|refine rG Γ hm ?_|refine rD Γ hm (by kernel_rfl) ?_);conv=>whnf))
    refine stepDX (GoodX.glob Γ.toTy 900 rfl rfl rfl rfl rfl (by show (0 : Int) ≤ 1; decide) (by show (1 : Int).toNat < 6; decide)) rfl (by kernel_rfl) ?_
    ((first|refine rG Γ hm ?_|refine rD Γ hm (by kernel_rfl) ?_);(conv=>whnf);repeat((first|refine aF ?_|refine aT ?_);(first|refine rG Γ hm ?_|refine rD Γ hm (by kernel_rfl) ?_);conv=>whnf))
    refine callD0 q2 F28 rfl rfl rfl (by kernel_rfl) rfl ?_
    ((first|refine rG Γ hm ?_|refine rD Γ hm (by kernel_rfl) ?_);(conv=>whnf);repeat((first|refine aF ?_|refine aT ?_);(first|refine rG Γ hm ?_|refine rD Γ hm (by kernel_rfl) ?_);conv=>whnf))
    refine callD0 q3 F30 rfl rfl rfl (by kernel_rfl) rfl ?_
    ((first|refine rG Γ hm ?_|refine rD Γ hm (by kernel_rfl) ?_);(conv=>whnf);repeat((first|refine aF ?_|refine aT ?_);(first|refine rG Γ hm ?_|refine rD Γ hm (by kernel_rfl) ?_);conv=>whnf))
    refine callDK [32] q6 F27 rfl (.cons (.lit rfl rfl rfl) .nil) rfl (by kernel_rfl) rfl ?_
    ((first|refine rG Γ hm ?_|refine rD Γ hm (by kernel_rfl) ?_);(conv=>whnf);repeat((first|refine aF ?_|refine aT ?_);(first|refine rG Γ hm ?_|refine rD Γ hm (by kernel_rfl) ?_);conv=>whnf))
    refine ⟨(by kernel_rfl), ?_⟩
    ((conv=>whnf);repeat((first|refine aF ?_|refine aT ?_);(first|refine rG Γ hm ?_|refine rD Γ hm (by kernel_rfl) ?_);conv=>whnf))
    exact done rfl (.cons .tmp (.cons .tmp .nil)) [] [verbsO 900] (fun _ h => h) rfl rfl ⟨trivial, ⟨.inl rfl, rfl, trivial⟩, rfl, rfl⟩
  rw [if_neg (by simpa using h)] at hres
  ((first|refine rG Γ hm ?_|refine rD Γ hm (by kernel_rfl) ?_);(conv=>whnf);repeat((first|refine aF ?_|refine aT ?_);(first|refine rG Γ hm ?_|refine rD Γ hm (by kernel_rfl) ?_);conv=>whnf))
  refine ⟨fun h2 => ?_, fun h2 => ?_⟩
  · obtain rfl : kd = 2 := by simpa using h2
    rw [if_pos rfl] at hres
    have q6 := lineJoinS [vPick, td, ta] (by simp) (by rw [sizes3]; show 4 + _ ≤ _; omega)
    generalize joinT [vPick, td, ta] ⟨#[32]⟩ = tj at *
    ((first|refine rG Γ hm ?_|refine rD Γ hm (by kernel_rfl) ?_);(conv=>whnf);repeat((first|refine aF ?_|refine aT ?_);(first|refine rG Γ hm ?_|refine rD Γ hm (by kernel_rfl) ?_);conv=>whnf))
    refine stepDX (GoodX.glob Γ.toTy 900 rfl rfl rfl rfl rfl (by show (0 : Int) ≤ 2; decide) (by show (2 : Int).toNat < 6; decide)) rfl (by kernel_rfl) ?_
    ((first|refine rG Γ hm ?_|refine rD Γ hm (by kernel_rfl) ?_);(conv=>whnf);repeat((first|refine aF ?_|refine aT ?_);(first|refine rG Γ hm ?_|refine rD Γ hm (by kernel_rfl) ?_);conv=>whnf))
    refine callD0 q4 F29 rfl rfl rfl (by kernel_rfl) rfl ?_
    ((first|refine rG Γ hm ?_|refine rD Γ hm (by kernel_rfl) ?_);(conv=>whnf);repeat((first|refine aF ?_|refine aT ?_);(first|refine rG Γ hm ?_|refine rD Γ hm (by kernel_rfl) ?_);conv=>whnf))
    refine callDK [45] q6 F27 rfl (.cons (.lit rfl rfl rfl) .nil) rfl (by kernel_rfl) rfl ?_
    ((first|refine rG Γ hm ?_|refine rD Γ hm (by kernel_rfl) ?_);(conv=>whnf);repeat((first|refine aF ?_|refine aT ?_);(first|refine rG Γ hm ?_|refine rD Γ hm (by kernel_rfl) ?_);conv=>whnf))
    refine ⟨fun h3 => ?_, fun h3 => ?_⟩
    · rw [h3, Bool.true_and, atOK] at hres
      ((first|refine rG Γ hm ?_|refine rD Γ hm (by kernel_rfl) ?_);(conv=>whnf);repeat((first|refine aF ?_|refine aT ?_);(first|refine rG Γ hm ?_|refine rD Γ hm (by kernel_rfl) ?_);conv=>whnf))
      refine ⟨fun h4 => ?_, fun h4 => ?_⟩
      · rw [h4, Bool.true_and] at hres
        subst hres
        ((first|refine rG Γ hm ?_|refine rD Γ hm (by kernel_rfl) ?_);(conv=>whnf);repeat((first|refine aF ?_|refine aT ?_);(first|refine rG Γ hm ?_|refine rD Γ hm (by kernel_rfl) ?_);conv=>whnf))
        refine ⟨(by kernel_rfl), ?_⟩
        ((conv=>whnf);repeat((first|refine aF ?_|refine aT ?_);(first|refine rG Γ hm ?_|refine rD Γ hm (by kernel_rfl) ?_);conv=>whnf))
        exact done rfl (.cons .tmp (.cons .tmp .nil)) [] [verbsO 900] (fun _ h => h) rfl rfl ⟨trivial, ⟨.inl rfl, rfl, trivial⟩, rfl, rfl⟩
      · rw [h4, Bool.false_and] at hres
        subst hres
        ((first|refine rG Γ hm ?_|refine rD Γ hm (by kernel_rfl) ?_);(conv=>whnf);repeat((first|refine aF ?_|refine aT ?_);(first|refine rG Γ hm ?_|refine rD Γ hm (by kernel_rfl) ?_);conv=>whnf))
        refine ⟨(by kernel_rfl), ?_⟩
        ((conv=>whnf);repeat((first|refine aF ?_|refine aT ?_);(first|refine rG Γ hm ?_|refine rD Γ hm (by kernel_rfl) ?_);conv=>whnf))
        exact done rfl (.cons .tmp (.cons .tmp .nil)) [] [verbsO 900] (fun _ h => h) rfl rfl ⟨trivial, ⟨.inl rfl, rfl, trivial⟩, rfl, rfl⟩
    · rw [h3, Bool.false_and] at hres
      subst hres
      ((first|refine rG Γ hm ?_|refine rD Γ hm (by kernel_rfl) ?_);(conv=>whnf);repeat((first|refine aF ?_|refine aT ?_);(first|refine rG Γ hm ?_|refine rD Γ hm (by kernel_rfl) ?_);conv=>whnf))
      refine ⟨(by kernel_rfl), ?_⟩
      ((conv=>whnf);repeat((first|refine aF ?_|refine aT ?_);(first|refine rG Γ hm ?_|refine rD Γ hm (by kernel_rfl) ?_);conv=>whnf))
      exact done rfl (.cons .tmp (.cons .tmp .nil)) [] [verbsO 900] (fun _ h => h) rfl rfl ⟨trivial, ⟨.inl rfl, rfl, trivial⟩, rfl, rfl⟩
  rw [if_neg (by simpa using h2)] at hres
  clear h2
  ((first|refine rG Γ hm ?_|refine rD Γ hm (by kernel_rfl) ?_);(conv=>whnf);repeat((first|refine aF ?_|refine aT ?_);(first|refine rG Γ hm ?_|refine rD Γ hm (by kernel_rfl) ?_);conv=>whnf))
  refine ⟨fun h2 => ?_, fun h2 => ?_⟩
  · obtain rfl : kd = 3 := by simpa using h2
    rw [if_pos rfl] at hres
    have q6 := lineJoinS [vDrop, td, ta] (by simp) (by rw [sizes3]; show 4 + _ ≤ _; omega)
    generalize joinT [vDrop, td, ta] ⟨#[32]⟩ = tj at *
    ((first|refine rG Γ hm ?_|refine rD Γ hm (by kernel_rfl) ?_);(conv=>whnf);repeat((first|refine aF ?_|refine aT ?_);(first|refine rG Γ hm ?_|refine rD Γ hm (by kernel_rfl) ?_);conv=>whnf))
    refine stepDX (GoodX.glob Γ.toTy 900 rfl rfl rfl rfl rfl (by show (0 : Int) ≤ 3; decide) (by show (3 : Int).toNat < 6; decide)) rfl (by kernel_rfl) ?_
    ((first|refine rG Γ hm ?_|refine rD Γ hm (by kernel_rfl) ?_);(conv=>whnf);repeat((first|refine aF ?_|refine aT ?_);(first|refine rG Γ hm ?_|refine rD Γ hm (by kernel_rfl) ?_);conv=>whnf))
    refine callD0 q4 F29 rfl rfl rfl (by kernel_rfl) rfl ?_
    ((first|refine rG Γ hm ?_|refine rD Γ hm (by kernel_rfl) ?_);(conv=>whnf);repeat((first|refine aF ?_|refine aT ?_);(first|refine rG Γ hm ?_|refine rD Γ hm (by kernel_rfl) ?_);conv=>whnf))
    refine callDK [45] q6 F27 rfl (.cons (.lit rfl rfl rfl) .nil) rfl (by kernel_rfl) rfl ?_
    ((first|refine rG Γ hm ?_|refine rD Γ hm (by kernel_rfl) ?_);(conv=>whnf);repeat((first|refine aF ?_|refine aT ?_);(first|refine rG Γ hm ?_|refine rD Γ hm (by kernel_rfl) ?_);conv=>whnf))
    refine ⟨fun h3 => ?_, fun h3 => ?_⟩
    · rw [h3, Bool.true_and, atOK] at hres
      ((first|refine rG Γ hm ?_|refine rD Γ hm (by kernel_rfl) ?_);(conv=>whnf);repeat((first|refine aF ?_|refine aT ?_);(first|refine rG Γ hm ?_|refine rD Γ hm (by kernel_rfl) ?_);conv=>whnf))
      refine ⟨fun h4 => ?_, fun h4 => ?_⟩
      · rw [h4, Bool.true_and] at hres
        subst hres
        ((first|refine rG Γ hm ?_|refine rD Γ hm (by kernel_rfl) ?_);(conv=>whnf);repeat((first|refine aF ?_|refine aT ?_);(first|refine rG Γ hm ?_|refine rD Γ hm (by kernel_rfl) ?_);conv=>whnf))
        refine ⟨(by kernel_rfl), ?_⟩
        ((conv=>whnf);repeat((first|refine aF ?_|refine aT ?_);(first|refine rG Γ hm ?_|refine rD Γ hm (by kernel_rfl) ?_);conv=>whnf))
        exact done rfl (.cons .tmp (.cons .tmp .nil)) [] [verbsO 900] (fun _ h => h) rfl rfl ⟨trivial, ⟨.inl rfl, rfl, trivial⟩, rfl, rfl⟩
      · rw [h4, Bool.false_and] at hres
        subst hres
        ((first|refine rG Γ hm ?_|refine rD Γ hm (by kernel_rfl) ?_);(conv=>whnf);repeat((first|refine aF ?_|refine aT ?_);(first|refine rG Γ hm ?_|refine rD Γ hm (by kernel_rfl) ?_);conv=>whnf))
        refine ⟨(by kernel_rfl), ?_⟩
        ((conv=>whnf);repeat((first|refine aF ?_|refine aT ?_);(first|refine rG Γ hm ?_|refine rD Γ hm (by kernel_rfl) ?_);conv=>whnf))
        exact done rfl (.cons .tmp (.cons .tmp .nil)) [] [verbsO 900] (fun _ h => h) rfl rfl ⟨trivial, ⟨.inl rfl, rfl, trivial⟩, rfl, rfl⟩
    · rw [h3, Bool.false_and] at hres
      subst hres
      ((first|refine rG Γ hm ?_|refine rD Γ hm (by kernel_rfl) ?_);(conv=>whnf);repeat((first|refine aF ?_|refine aT ?_);(first|refine rG Γ hm ?_|refine rD Γ hm (by kernel_rfl) ?_);conv=>whnf))
      refine ⟨(by kernel_rfl), ?_⟩
      ((conv=>whnf);repeat((first|refine aF ?_|refine aT ?_);(first|refine rG Γ hm ?_|refine rD Γ hm (by kernel_rfl) ?_);conv=>whnf))
      exact done rfl (.cons .tmp (.cons .tmp .nil)) [] [verbsO 900] (fun _ h => h) rfl rfl ⟨trivial, ⟨.inl rfl, rfl, trivial⟩, rfl, rfl⟩
  rw [if_neg (by simpa using h2)] at hres
  clear h2
  ((first|refine rG Γ hm ?_|refine rD Γ hm (by kernel_rfl) ?_);(conv=>whnf);repeat((first|refine aF ?_|refine aT ?_);(first|refine rG Γ hm ?_|refine rD Γ hm (by kernel_rfl) ?_);conv=>whnf))
  refine ⟨fun h2 => ?_, fun h2 => ?_⟩
  · obtain rfl : kd = 4 := by simpa using h2
    rw [if_pos rfl] at hres
    subst hres
    ((first|refine rG Γ hm ?_|refine rD Γ hm (by kernel_rfl) ?_);(conv=>whnf);repeat((first|refine aF ?_|refine aT ?_);(first|refine rG Γ hm ?_|refine rD Γ hm (by kernel_rfl) ?_);conv=>whnf))
    refine stepOp (good_index_glob Γ.toTy 900 rfl rfl rfl rfl rfl (by show (0 : Int) ≤ 4; decide) (by show (4 : Int).toNat < 6; decide)) rfl rfl ?_
    ((first|refine rG Γ hm ?_|refine rD Γ hm (by kernel_rfl) ?_);(conv=>whnf);repeat((first|refine aF ?_|refine aT ?_);(first|refine rG Γ hm ?_|refine rD Γ hm (by kernel_rfl) ?_);conv=>whnf))
    exact done rfl (.cons .tmp (.cons .tmp .nil)) [] [verbsO 900] (fun _ h => h) rfl rfl ⟨trivial, ⟨.inl rfl, rfl, trivial⟩, rfl, rfl⟩
  rw [if_neg (by simpa using h2)] at hres
  clear h2
  ((first|refine rG Γ hm ?_|refine rD Γ hm (by kernel_rfl) ?_);(conv=>whnf);repeat((first|refine aF ?_|refine aT ?_);(first|refine rG Γ hm ?_|refine rD Γ hm (by kernel_rfl) ?_);conv=>whnf))
  refine ⟨fun h2 => ?_, fun h2 => ?_⟩
  · obtain rfl : kd = 5 := by simpa using h2
    rw [if_pos rfl] at hres
    have q6 := lineJoinS [vLinks, tu] (by simp) (by rw [sizes2]; show 5 + _ ≤ _; omega)
    generalize joinT [vLinks, tu] ⟨#[32]⟩ = tj at *
    subst hres
    ((first|refine rG Γ hm ?_|refine rD Γ hm (by kernel_rfl) ?_);(conv=>whnf);repeat((first|refine aF ?_|refine aT ?_);(first|refine rG Γ hm ?_|refine rD Γ hm (by kernel_rfl) ?_);conv=>whnf))
    refine stepDX (GoodX.glob Γ.toTy 900 rfl rfl rfl rfl rfl (by show (0 : Int) ≤ 5; decide) (by show (5 : Int).toNat < 6; decide)) rfl (by kernel_rfl) ?_
    ((first|refine rG Γ hm ?_|refine rD Γ hm (by kernel_rfl) ?_);(conv=>whnf);repeat((first|refine aF ?_|refine aT ?_);(first|refine rG Γ hm ?_|refine rD Γ hm (by kernel_rfl) ?_);conv=>whnf))
    refine callD0 q5 F57 rfl rfl rfl (by kernel_rfl) rfl ?_
    ((first|refine rG Γ hm ?_|refine rD Γ hm (by kernel_rfl) ?_);(conv=>whnf);repeat((first|refine aF ?_|refine aT ?_);(first|refine rG Γ hm ?_|refine rD Γ hm (by kernel_rfl) ?_);conv=>whnf))
    refine callDK [74] q6 F27 rfl (.cons (.lit rfl rfl rfl) .nil) rfl (by kernel_rfl) rfl ?_
    ((first|refine rG Γ hm ?_|refine rD Γ hm (by kernel_rfl) ?_);(conv=>whnf);repeat((first|refine aF ?_|refine aT ?_);(first|refine rG Γ hm ?_|refine rD Γ hm (by kernel_rfl) ?_);conv=>whnf))
    refine ⟨(by kernel_rfl), ?_⟩
    ((conv=>whnf);repeat((first|refine aF ?_|refine aT ?_);(first|refine rG Γ hm ?_|refine rD Γ hm (by kernel_rfl) ?_);conv=>whnf))
    refine done rfl (.cons .tmp (.cons .tmp .nil)) [] [verbsO 900] (fun _ h => h) ?_ rfl ⟨trivial, ⟨.inl rfl, rfl, trivial⟩, rfl, rfl⟩
    refine congrArg (fun b => SV.tup [strSV tj, boolSV b]) ?_
    rw [Bool.eq_iff_iff]; simp; omega
  rw [if_neg (by simpa using h2)] at hres
  subst hres
  ((first|refine rG Γ hm ?_|refine rD Γ hm (by kernel_rfl) ?_);(conv=>whnf);repeat((first|refine aF ?_|refine aT ?_);(first|refine rG Γ hm ?_|refine rD Γ hm (by kernel_rfl) ?_);conv=>whnf))
  exact done rfl (.cons .tmp (.cons .tmp .nil)) [] [verbsO 900] (fun _ h => h) rfl rfl ⟨trivial, ⟨.inl rfl, rfl, trivial⟩, rfl, rfl⟩

/-- .. and as the document has it: empty, where it has none. -/
def refRowT (n : Net) (x : StepM) : ByteArray := if (siteRowT n x).2 = true then (siteRowT n x).1 else ⟨#[]⟩

theorem join3s (a b c : ByteArray) : joinT [a, b, c] ⟨#[32]⟩ = a ++ ⟨#[32]⟩ ++ b ++ ⟨#[32]⟩ ++ c := by
  apply ext_list
  simp [joinT, Lib.join]
theorem join2s (a b : ByteArray) : joinT [a, b] ⟨#[32]⟩ = a ++ ⟨#[32]⟩ ++ b := by
  apply ext_list
  simp [joinT, Lib.join]

theorem beq_ba (a b : ByteArray) : (a == b) = true ↔ a = b := by
  constructor
  · intro h
    have : a.data = b.data := by simpa using (show (a.data == b.data) = true from h)
    cases a; cases b; simp_all
  · rintro rfl
    show (a.data == a.data) = true
    simp

theorem domT_empty {n : Net} (hb : netRightB n = true) (i : Int) : (domT n i == ⟨#[]⟩) = !(placeB i n.domains.length) := by
  rw [domT]
  cases hp : placeB i n.domains.length
  · rw [if_neg (fun h => by rw [show placeB i n.domains.length = true by simp only [placeB, Bool.and_eq_true, decide_eq_true_eq]; exact h.1] at hp; cases hp)]
    rfl
  · rw [if_pos ⟨placeB_in hp, hb⟩]
    show _ = false
    cases he : (domText n i == (⟨#[]⟩ : ByteArray))
    · rfl
    have e := (beq_ba _ _).1 he
    have e2 := congrArg (fun b : ByteArray => b.data.toList.length) e
    simp [domText, joinT, Lib.join] at e2

theorem tT_inj (b : Bool) : (!b) = true ↔ b = false := by cases b <;> simp

theorem ref39RowS (n : Net) (hn : n.Fin) (hb : netRightB n = true) (hnm : Named n) (x : StepM) (hw : Word64 x.at_) (hbl : x.bytes.length < 1000000) (hul : x.up.length < 1000000) :
    Sy.Spec Tryz.prog 21 [netSV n, stepSV x] [] (strSV (refRowT n x)) [] := contract Γ hm 100 F21 Tryz.ntmps21 rfl fun F hF => by
  have hres := refRowT.eq_1 n x
  have hr1 := siteRowT.eq_1 n x
  obtain ⟨kd, port, dom, at_, bytes, up⟩ := x
  dsimp only at hw hbl hul hr1
  generalize refRowT n ⟨kd, port, dom, at_, bytes, up⟩ = res at *
  generalize siteRowT n ⟨kd, port, dom, at_, bytes, up⟩ = sr at *
  rw [domT_empty hb, Bool.not_not] at hr1
  have q0 := refDomTextS n hnm hb dom
  have z0 := domT_size hnm dom
  have q1 := ref15PlaceS port n.ports.length
  have q7 := ref15PlaceS dom n.domains.length
  have q2 := fun hi => ref39PortS n hb hnm port hi
  have z2 := fun hi => portText_size hb hnm (i := port) hi
  have q3 := ref39BytesS bytes hbl
  have z3 := hexT_size bytes
  have q4 := refNumText2S at_ hw
  have z4 := numT_size21 hw
  have q5 := refTruthsS up hul
  have z5 := truthsT_size up
  generalize domT n dom = td at *
  generalize hexT bytes = tb at *
  generalize numT at_ = ta at *
  generalize truthsT up = tu at *
  ((conv=>whnf);repeat((first|refine aF ?_|refine aT ?_);(first|refine rG Γ hm ?_|refine rD Γ hm (by kernel_rfl) ?_);conv=>whnf))
  by_cases h1 : kd = 1
  · subst h1
    rw [if_pos rfl] at hr1
    (repeat (first | (refine ⟨fun h => False.elim (by first | (exact absurd h (by decide)) | (simp at h; done) | (simp at h; omega)), fun _ => ?_⟩; ((first|refine rG Γ hm ?_|refine rD Γ hm (by kernel_rfl) ?_);(conv=>whnf);repeat((first|refine aF ?_|refine aT ?_);(first|refine rG Γ hm ?_|refine rD Γ hm (by kernel_rfl) ?_);conv=>whnf))) | (refine ⟨fun _ => ?_, fun h => False.elim (by first | (exact absurd h (by decide)) | (simp at h; done) | (simp at h; omega))⟩; ((first|refine rG Γ hm ?_|refine rD Γ hm (by kernel_rfl) ?_);(conv=>whnf);repeat((first|refine aF ?_|refine aT ?_);(first|refine rG Γ hm ?_|refine rD Γ hm (by kernel_rfl) ?_);conv=>whnf)))))
    refine call0 q1 F31 rfl rfl rfl rfl rfl ?_
    cases hp : placeB port n.ports.length
    · rw [if_neg (by simp [hp])] at hr1
      subst hr1
      rw [if_neg (by simp)] at hres
      subst hres
      ((first|refine rG Γ hm ?_|refine rD Γ hm (by kernel_rfl) ?_);(conv=>whnf);repeat((first|refine aF ?_|refine aT ?_);(first|refine rG Γ hm ?_|refine rD Γ hm (by kernel_rfl) ?_);conv=>whnf))
      (repeat (first | (refine ⟨fun h => False.elim (by first | (exact absurd h (by decide)) | (simp at h; done) | (simp at h; omega)), fun _ => ?_⟩; ((first|refine rG Γ hm ?_|refine rD Γ hm (by kernel_rfl) ?_);(conv=>whnf);repeat((first|refine aF ?_|refine aT ?_);(first|refine rG Γ hm ?_|refine rD Γ hm (by kernel_rfl) ?_);conv=>whnf))) | (refine ⟨fun _ => ?_, fun h => False.elim (by first | (exact absurd h (by decide)) | (simp at h; done) | (simp at h; omega))⟩; ((first|refine rG Γ hm ?_|refine rD Γ hm (by kernel_rfl) ?_);(conv=>whnf);repeat((first|refine aF ?_|refine aT ?_);(first|refine rG Γ hm ?_|refine rD Γ hm (by kernel_rfl) ?_);conv=>whnf)))))
      exact done0 rfl (.cons .tmp .nil) rfl rfl
    rw [if_pos hp] at hr1
    subst hr1
    rw [if_pos rfl] at hres
    dsimp only at hres
    have hi := placeB_in hp
    have q2 := q2 hi
    have z2 := z2 hi
    rw [join3s] at hres
    generalize portText n port = tp at *
    have z6 : (vInject ++ ⟨#[32]⟩ ++ tp : ByteArray).size = 7 + tp.size := by rw [size_app]; rfl
    have z7 : (vInject ++ ⟨#[32]⟩ ++ tp ++ ⟨#[32]⟩ : ByteArray).size = 7 + tp.size + 1 := by rw [size_app, z6]; rfl
    subst hres
    ((first|refine rG Γ hm ?_|refine rD Γ hm (by kernel_rfl) ?_);(conv=>whnf);repeat((first|refine aF ?_|refine aT ?_);(first|refine rG Γ hm ?_|refine rD Γ hm (by kernel_rfl) ?_);conv=>whnf))
    refine callD0 q2 F32 rfl rfl rfl (by kernel_rfl) rfl ?_
    ((first|refine rG Γ hm ?_|refine rD Γ hm (by kernel_rfl) ?_);(conv=>whnf);repeat((first|refine aF ?_|refine aT ?_);(first|refine rG Γ hm ?_|refine rD Γ hm (by kernel_rfl) ?_);conv=>whnf))
    refine ⟨by show 7 + _ ≤ _; omega, ?_⟩
    ((conv=>whnf);repeat((first|refine aF ?_|refine aT ?_);(first|refine rG Γ hm ?_|refine rD Γ hm (by kernel_rfl) ?_);conv=>whnf))
    refine ⟨by show (vInject ++ ⟨#[32]⟩ ++ tp : ByteArray).size + 1 ≤ _; omega, ?_⟩
    ((conv=>whnf);repeat((first|refine aF ?_|refine aT ?_);(first|refine rG Γ hm ?_|refine rD Γ hm (by kernel_rfl) ?_);conv=>whnf))
    refine callD0 q3 F34 rfl rfl rfl (by kernel_rfl) rfl ?_
    ((first|refine rG Γ hm ?_|refine rD Γ hm (by kernel_rfl) ?_);(conv=>whnf);repeat((first|refine aF ?_|refine aT ?_);(first|refine rG Γ hm ?_|refine rD Γ hm (by kernel_rfl) ?_);conv=>whnf))
    refine ⟨by show (vInject ++ ⟨#[32]⟩ ++ tp ++ ⟨#[32]⟩ : ByteArray).size + _ ≤ _; omega, ?_⟩
    ((conv=>whnf);repeat((first|refine aF ?_|refine aT ?_);(first|refine rG Γ hm ?_|refine rD Γ hm (by kernel_rfl) ?_);conv=>whnf))
    refine ⟨(by kernel_rfl), ?_⟩
    ((conv=>whnf);repeat((first|refine aF ?_|refine aT ?_);(first|refine rG Γ hm ?_|refine rD Γ hm (by kernel_rfl) ?_);conv=>whnf))
    exact done0 rfl (.cons .tmp .nil) rfl rfl
  rw [if_neg h1] at hr1
  by_cases h2 : kd = 2
  · subst h2
    rw [if_pos rfl] at hr1
    subst hr1
    dsimp only at hres
    (repeat (first | (refine ⟨fun h => False.elim (by first | (exact absurd h (by decide)) | (simp at h; done) | (simp at h; omega)), fun _ => ?_⟩; ((first|refine rG Γ hm ?_|refine rD Γ hm (by kernel_rfl) ?_);(conv=>whnf);repeat((first|refine aF ?_|refine aT ?_);(first|refine rG Γ hm ?_|refine rD Γ hm (by kernel_rfl) ?_);conv=>whnf))) | (refine ⟨fun _ => ?_, fun h => False.elim (by first | (exact absurd h (by decide)) | (simp at h; done) | (simp at h; omega))⟩; ((first|refine rG Γ hm ?_|refine rD Γ hm (by kernel_rfl) ?_);(conv=>whnf);repeat((first|refine aF ?_|refine aT ?_);(first|refine rG Γ hm ?_|refine rD Γ hm (by kernel_rfl) ?_);conv=>whnf)))))
    refine call0 q7 F31 rfl rfl rfl rfl rfl ?_
    cases hp : placeB dom n.domains.length
    · rw [hp, Bool.false_and, if_neg (by simp)] at hres
      subst hres
      ((first|refine rG Γ hm ?_|refine rD Γ hm (by kernel_rfl) ?_);(conv=>whnf);repeat((first|refine aF ?_|refine aT ?_);(first|refine rG Γ hm ?_|refine rD Γ hm (by kernel_rfl) ?_);conv=>whnf))
      (repeat (first | (refine ⟨fun h => False.elim (by first | (exact absurd h (by decide)) | (simp at h; done) | (simp at h; omega)), fun _ => ?_⟩; ((first|refine rG Γ hm ?_|refine rD Γ hm (by kernel_rfl) ?_);(conv=>whnf);repeat((first|refine aF ?_|refine aT ?_);(first|refine rG Γ hm ?_|refine rD Γ hm (by kernel_rfl) ?_);conv=>whnf))) | (refine ⟨fun _ => ?_, fun h => False.elim (by first | (exact absurd h (by decide)) | (simp at h; done) | (simp at h; omega))⟩; ((first|refine rG Γ hm ?_|refine rD Γ hm (by kernel_rfl) ?_);(conv=>whnf);repeat((first|refine aF ?_|refine aT ?_);(first|refine rG Γ hm ?_|refine rD Γ hm (by kernel_rfl) ?_);conv=>whnf)))))
      exact done0 rfl (.cons .tmp .nil) rfl rfl
    rw [hp, Bool.true_and, atOK] at hres
    ((first|refine rG Γ hm ?_|refine rD Γ hm (by kernel_rfl) ?_);(conv=>whnf);repeat((first|refine aF ?_|refine aT ?_);(first|refine rG Γ hm ?_|refine rD Γ hm (by kernel_rfl) ?_);conv=>whnf))
    refine ⟨fun h => ?_, fun h => ?_⟩
    rotate_left
    · rw [h, Bool.false_and, if_neg (by simp)] at hres
      subst hres
      ((first|refine rG Γ hm ?_|refine rD Γ hm (by kernel_rfl) ?_);(conv=>whnf);repeat((first|refine aF ?_|refine aT ?_);(first|refine rG Γ hm ?_|refine rD Γ hm (by kernel_rfl) ?_);conv=>whnf))
      (repeat (first | (refine ⟨fun h => False.elim (by first | (exact absurd h (by decide)) | (simp at h; done) | (simp at h; omega)), fun _ => ?_⟩; ((first|refine rG Γ hm ?_|refine rD Γ hm (by kernel_rfl) ?_);(conv=>whnf);repeat((first|refine aF ?_|refine aT ?_);(first|refine rG Γ hm ?_|refine rD Γ hm (by kernel_rfl) ?_);conv=>whnf))) | (refine ⟨fun _ => ?_, fun h => False.elim (by first | (exact absurd h (by decide)) | (simp at h; done) | (simp at h; omega))⟩; ((first|refine rG Γ hm ?_|refine rD Γ hm (by kernel_rfl) ?_);(conv=>whnf);repeat((first|refine aF ?_|refine aT ?_);(first|refine rG Γ hm ?_|refine rD Γ hm (by kernel_rfl) ?_);conv=>whnf)))))
      exact done0 rfl (.cons .tmp .nil) rfl rfl
    rw [h, Bool.true_and] at hres
    ((first|refine rG Γ hm ?_|refine rD Γ hm (by kernel_rfl) ?_);(conv=>whnf);repeat((first|refine aF ?_|refine aT ?_);(first|refine rG Γ hm ?_|refine rD Γ hm (by kernel_rfl) ?_);conv=>whnf))
    refine ⟨fun h2 => ?_, fun h2 => ?_⟩
    rotate_left
    · rw [h2, if_neg (by simp)] at hres
      subst hres
      ((first|refine rG Γ hm ?_|refine rD Γ hm (by kernel_rfl) ?_);(conv=>whnf);repeat((first|refine aF ?_|refine aT ?_);(first|refine rG Γ hm ?_|refine rD Γ hm (by kernel_rfl) ?_);conv=>whnf))
      (repeat (first | (refine ⟨fun h => False.elim (by first | (exact absurd h (by decide)) | (simp at h; done) | (simp at h; omega)), fun _ => ?_⟩; ((first|refine rG Γ hm ?_|refine rD Γ hm (by kernel_rfl) ?_);(conv=>whnf);repeat((first|refine aF ?_|refine aT ?_);(first|refine rG Γ hm ?_|refine rD Γ hm (by kernel_rfl) ?_);conv=>whnf))) | (refine ⟨fun _ => ?_, fun h => False.elim (by first | (exact absurd h (by decide)) | (simp at h; done) | (simp at h; omega))⟩; ((first|refine rG Γ hm ?_|refine rD Γ hm (by kernel_rfl) ?_);(conv=>whnf);repeat((first|refine aF ?_|refine aT ?_);(first|refine rG Γ hm ?_|refine rD Γ hm (by kernel_rfl) ?_);conv=>whnf)))))
      exact done0 rfl (.cons .tmp .nil) rfl rfl
    rw [h2, if_pos rfl, join3s] at hres
    have z6 : (vPick ++ ⟨#[32]⟩ ++ td : ByteArray).size = 5 + td.size := by rw [size_app]; rfl
    have z7 : (vPick ++ ⟨#[32]⟩ ++ td ++ ⟨#[32]⟩ : ByteArray).size = 5 + td.size + 1 := by rw [size_app, z6]; rfl
    subst hres
    ((first|refine rG Γ hm ?_|refine rD Γ hm (by kernel_rfl) ?_);(conv=>whnf);repeat((first|refine aF ?_|refine aT ?_);(first|refine rG Γ hm ?_|refine rD Γ hm (by kernel_rfl) ?_);conv=>whnf))
    (repeat (first | (refine ⟨fun h => False.elim (by first | (exact absurd h (by decide)) | (simp at h; done) | (simp at h; omega)), fun _ => ?_⟩; ((first|refine rG Γ hm ?_|refine rD Γ hm (by kernel_rfl) ?_);(conv=>whnf);repeat((first|refine aF ?_|refine aT ?_);(first|refine rG Γ hm ?_|refine rD Γ hm (by kernel_rfl) ?_);conv=>whnf))) | (refine ⟨fun _ => ?_, fun h => False.elim (by first | (exact absurd h (by decide)) | (simp at h; done) | (simp at h; omega))⟩; ((first|refine rG Γ hm ?_|refine rD Γ hm (by kernel_rfl) ?_);(conv=>whnf);repeat((first|refine aF ?_|refine aT ?_);(first|refine rG Γ hm ?_|refine rD Γ hm (by kernel_rfl) ?_);conv=>whnf)))))
    refine callD0 q0 F62 rfl rfl rfl (by kernel_rfl) rfl ?_
    ((first|refine rG Γ hm ?_|refine rD Γ hm (by kernel_rfl) ?_);(conv=>whnf);repeat((first|refine aF ?_|refine aT ?_);(first|refine rG Γ hm ?_|refine rD Γ hm (by kernel_rfl) ?_);conv=>whnf))
    refine ⟨by show 5 + _ ≤ _; omega, ?_⟩
    ((conv=>whnf);repeat((first|refine aF ?_|refine aT ?_);(first|refine rG Γ hm ?_|refine rD Γ hm (by kernel_rfl) ?_);conv=>whnf))
    refine ⟨by show (vPick ++ ⟨#[32]⟩ ++ td : ByteArray).size + 1 ≤ _; omega, ?_⟩
    ((conv=>whnf);repeat((first|refine aF ?_|refine aT ?_);(first|refine rG Γ hm ?_|refine rD Γ hm (by kernel_rfl) ?_);conv=>whnf))
    refine callD0 q4 F33 rfl rfl rfl (by kernel_rfl) rfl ?_
    ((first|refine rG Γ hm ?_|refine rD Γ hm (by kernel_rfl) ?_);(conv=>whnf);repeat((first|refine aF ?_|refine aT ?_);(first|refine rG Γ hm ?_|refine rD Γ hm (by kernel_rfl) ?_);conv=>whnf))
    refine ⟨by show (vPick ++ ⟨#[32]⟩ ++ td ++ ⟨#[32]⟩ : ByteArray).size + _ ≤ _; omega, ?_⟩
    ((conv=>whnf);repeat((first|refine aF ?_|refine aT ?_);(first|refine rG Γ hm ?_|refine rD Γ hm (by kernel_rfl) ?_);conv=>whnf))
    refine ⟨(by kernel_rfl), ?_⟩
    ((conv=>whnf);repeat((first|refine aF ?_|refine aT ?_);(first|refine rG Γ hm ?_|refine rD Γ hm (by kernel_rfl) ?_);conv=>whnf))
    exact done0 rfl (.cons .tmp .nil) rfl rfl
  rw [if_neg h2] at hr1
  by_cases h3 : kd = 3
  · subst h3
    rw [if_pos rfl] at hr1
    subst hr1
    dsimp only at hres
    (repeat (first | (refine ⟨fun h => False.elim (by first | (exact absurd h (by decide)) | (simp at h; done) | (simp at h; omega)), fun _ => ?_⟩; ((first|refine rG Γ hm ?_|refine rD Γ hm (by kernel_rfl) ?_);(conv=>whnf);repeat((first|refine aF ?_|refine aT ?_);(first|refine rG Γ hm ?_|refine rD Γ hm (by kernel_rfl) ?_);conv=>whnf))) | (refine ⟨fun _ => ?_, fun h => False.elim (by first | (exact absurd h (by decide)) | (simp at h; done) | (simp at h; omega))⟩; ((first|refine rG Γ hm ?_|refine rD Γ hm (by kernel_rfl) ?_);(conv=>whnf);repeat((first|refine aF ?_|refine aT ?_);(first|refine rG Γ hm ?_|refine rD Γ hm (by kernel_rfl) ?_);conv=>whnf)))))
    refine call0 q7 F31 rfl rfl rfl rfl rfl ?_
    cases hp : placeB dom n.domains.length
    · rw [hp, Bool.false_and, if_neg (by simp)] at hres
      subst hres
      ((first|refine rG Γ hm ?_|refine rD Γ hm (by kernel_rfl) ?_);(conv=>whnf);repeat((first|refine aF ?_|refine aT ?_);(first|refine rG Γ hm ?_|refine rD Γ hm (by kernel_rfl) ?_);conv=>whnf))
      (repeat (first | (refine ⟨fun h => False.elim (by first | (exact absurd h (by decide)) | (simp at h; done) | (simp at h; omega)), fun _ => ?_⟩; ((first|refine rG Γ hm ?_|refine rD Γ hm (by kernel_rfl) ?_);(conv=>whnf);repeat((first|refine aF ?_|refine aT ?_);(first|refine rG Γ hm ?_|refine rD Γ hm (by kernel_rfl) ?_);conv=>whnf))) | (refine ⟨fun _ => ?_, fun h => False.elim (by first | (exact absurd h (by decide)) | (simp at h; done) | (simp at h; omega))⟩; ((first|refine rG Γ hm ?_|refine rD Γ hm (by kernel_rfl) ?_);(conv=>whnf);repeat((first|refine aF ?_|refine aT ?_);(first|refine rG Γ hm ?_|refine rD Γ hm (by kernel_rfl) ?_);conv=>whnf)))))
      exact done0 rfl (.cons .tmp .nil) rfl rfl
    rw [hp, Bool.true_and, atOK] at hres
    ((first|refine rG Γ hm ?_|refine rD Γ hm (by kernel_rfl) ?_);(conv=>whnf);repeat((first|refine aF ?_|refine aT ?_);(first|refine rG Γ hm ?_|refine rD Γ hm (by kernel_rfl) ?_);conv=>whnf))
    refine ⟨fun h => ?_, fun h => ?_⟩
    rotate_left
    · rw [h, Bool.false_and, if_neg (by simp)] at hres
      subst hres
      ((first|refine rG Γ hm ?_|refine rD Γ hm (by kernel_rfl) ?_);(conv=>whnf);repeat((first|refine aF ?_|refine aT ?_);(first|refine rG Γ hm ?_|refine rD Γ hm (by kernel_rfl) ?_);conv=>whnf))
      (repeat (first | (refine ⟨fun h => False.elim (by first | (exact absurd h (by decide)) | (simp at h; done) | (simp at h; omega)), fun _ => ?_⟩; ((first|refine rG Γ hm ?_|refine rD Γ hm (by kernel_rfl) ?_);(conv=>whnf);repeat((first|refine aF ?_|refine aT ?_);(first|refine rG Γ hm ?_|refine rD Γ hm (by kernel_rfl) ?_);conv=>whnf))) | (refine ⟨fun _ => ?_, fun h => False.elim (by first | (exact absurd h (by decide)) | (simp at h; done) | (simp at h; omega))⟩; ((first|refine rG Γ hm ?_|refine rD Γ hm (by kernel_rfl) ?_);(conv=>whnf);repeat((first|refine aF ?_|refine aT ?_);(first|refine rG Γ hm ?_|refine rD Γ hm (by kernel_rfl) ?_);conv=>whnf)))))
      exact done0 rfl (.cons .tmp .nil) rfl rfl
    rw [h, Bool.true_and] at hres
    ((first|refine rG Γ hm ?_|refine rD Γ hm (by kernel_rfl) ?_);(conv=>whnf);repeat((first|refine aF ?_|refine aT ?_);(first|refine rG Γ hm ?_|refine rD Γ hm (by kernel_rfl) ?_);conv=>whnf))
    refine ⟨fun h2 => ?_, fun h2 => ?_⟩
    rotate_left
    · rw [h2, if_neg (by simp)] at hres
      subst hres
      ((first|refine rG Γ hm ?_|refine rD Γ hm (by kernel_rfl) ?_);(conv=>whnf);repeat((first|refine aF ?_|refine aT ?_);(first|refine rG Γ hm ?_|refine rD Γ hm (by kernel_rfl) ?_);conv=>whnf))
      (repeat (first | (refine ⟨fun h => False.elim (by first | (exact absurd h (by decide)) | (simp at h; done) | (simp at h; omega)), fun _ => ?_⟩; ((first|refine rG Γ hm ?_|refine rD Γ hm (by kernel_rfl) ?_);(conv=>whnf);repeat((first|refine aF ?_|refine aT ?_);(first|refine rG Γ hm ?_|refine rD Γ hm (by kernel_rfl) ?_);conv=>whnf))) | (refine ⟨fun _ => ?_, fun h => False.elim (by first | (exact absurd h (by decide)) | (simp at h; done) | (simp at h; omega))⟩; ((first|refine rG Γ hm ?_|refine rD Γ hm (by kernel_rfl) ?_);(conv=>whnf);repeat((first|refine aF ?_|refine aT ?_);(first|refine rG Γ hm ?_|refine rD Γ hm (by kernel_rfl) ?_);conv=>whnf)))))
      exact done0 rfl (.cons .tmp .nil) rfl rfl
    rw [h2, if_pos rfl, join3s] at hres
    have z6 : (vDrop ++ ⟨#[32]⟩ ++ td : ByteArray).size = 5 + td.size := by rw [size_app]; rfl
    have z7 : (vDrop ++ ⟨#[32]⟩ ++ td ++ ⟨#[32]⟩ : ByteArray).size = 5 + td.size + 1 := by rw [size_app, z6]; rfl
    subst hres
    ((first|refine rG Γ hm ?_|refine rD Γ hm (by kernel_rfl) ?_);(conv=>whnf);repeat((first|refine aF ?_|refine aT ?_);(first|refine rG Γ hm ?_|refine rD Γ hm (by kernel_rfl) ?_);conv=>whnf))
    (repeat (first | (refine ⟨fun h => False.elim (by first | (exact absurd h (by decide)) | (simp at h; done) | (simp at h; omega)), fun _ => ?_⟩; ((first|refine rG Γ hm ?_|refine rD Γ hm (by kernel_rfl) ?_);(conv=>whnf);repeat((first|refine aF ?_|refine aT ?_);(first|refine rG Γ hm ?_|refine rD Γ hm (by kernel_rfl) ?_);conv=>whnf))) | (refine ⟨fun _ => ?_, fun h => False.elim (by first | (exact absurd h (by decide)) | (simp at h; done) | (simp at h; omega))⟩; ((first|refine rG Γ hm ?_|refine rD Γ hm (by kernel_rfl) ?_);(conv=>whnf);repeat((first|refine aF ?_|refine aT ?_);(first|refine rG Γ hm ?_|refine rD Γ hm (by kernel_rfl) ?_);conv=>whnf)))))
    refine callD0 q0 F62 rfl rfl rfl (by kernel_rfl) rfl ?_
    ((first|refine rG Γ hm ?_|refine rD Γ hm (by kernel_rfl) ?_);(conv=>whnf);repeat((first|refine aF ?_|refine aT ?_);(first|refine rG Γ hm ?_|refine rD Γ hm (by kernel_rfl) ?_);conv=>whnf))
    refine ⟨by show 5 + _ ≤ _; omega, ?_⟩
    ((conv=>whnf);repeat((first|refine aF ?_|refine aT ?_);(first|refine rG Γ hm ?_|refine rD Γ hm (by kernel_rfl) ?_);conv=>whnf))
    refine ⟨by show (vDrop ++ ⟨#[32]⟩ ++ td : ByteArray).size + 1 ≤ _; omega, ?_⟩
    ((conv=>whnf);repeat((first|refine aF ?_|refine aT ?_);(first|refine rG Γ hm ?_|refine rD Γ hm (by kernel_rfl) ?_);conv=>whnf))
    refine callD0 q4 F33 rfl rfl rfl (by kernel_rfl) rfl ?_
    ((first|refine rG Γ hm ?_|refine rD Γ hm (by kernel_rfl) ?_);(conv=>whnf);repeat((first|refine aF ?_|refine aT ?_);(first|refine rG Γ hm ?_|refine rD Γ hm (by kernel_rfl) ?_);conv=>whnf))
    refine ⟨by show (vDrop ++ ⟨#[32]⟩ ++ td ++ ⟨#[32]⟩ : ByteArray).size + _ ≤ _; omega, ?_⟩
    ((conv=>whnf);repeat((first|refine aF ?_|refine aT ?_);(first|refine rG Γ hm ?_|refine rD Γ hm (by kernel_rfl) ?_);conv=>whnf))
    refine ⟨(by kernel_rfl), ?_⟩
    ((conv=>whnf);repeat((first|refine aF ?_|refine aT ?_);(first|refine rG Γ hm ?_|refine rD Γ hm (by kernel_rfl) ?_);conv=>whnf))
    exact done0 rfl (.cons .tmp .nil) rfl rfl
  rw [if_neg h3] at hr1
  (repeat (first | (refine ⟨fun h => False.elim (by first | (exact absurd h (by decide)) | (simp at h; done) | (simp at h; omega)), fun _ => ?_⟩; ((first|refine rG Γ hm ?_|refine rD Γ hm (by kernel_rfl) ?_);(conv=>whnf);repeat((first|refine aF ?_|refine aT ?_);(first|refine rG Γ hm ?_|refine rD Γ hm (by kernel_rfl) ?_);conv=>whnf))) | (refine ⟨fun _ => ?_, fun h => False.elim (by first | (exact absurd h (by decide)) | (simp at h; done) | (simp at h; omega))⟩; ((first|refine rG Γ hm ?_|refine rD Γ hm (by kernel_rfl) ?_);(conv=>whnf);repeat((first|refine aF ?_|refine aT ?_);(first|refine rG Γ hm ?_|refine rD Γ hm (by kernel_rfl) ?_);conv=>whnf)))))
  by_cases h4 : kd = 4
  · subst h4
    rw [if_pos rfl] at hr1
    subst hr1
    rw [if_pos rfl] at hres
    subst hres
    (repeat (first | (refine ⟨fun h => False.elim (by first | (exact absurd h (by decide)) | (simp at h; done) | (simp at h; omega)), fun _ => ?_⟩; ((first|refine rG Γ hm ?_|refine rD Γ hm (by kernel_rfl) ?_);(conv=>whnf);repeat((first|refine aF ?_|refine aT ?_);(first|refine rG Γ hm ?_|refine rD Γ hm (by kernel_rfl) ?_);conv=>whnf))) | (refine ⟨fun _ => ?_, fun h => False.elim (by first | (exact absurd h (by decide)) | (simp at h; done) | (simp at h; omega))⟩; ((first|refine rG Γ hm ?_|refine rD Γ hm (by kernel_rfl) ?_);(conv=>whnf);repeat((first|refine aF ?_|refine aT ?_);(first|refine rG Γ hm ?_|refine rD Γ hm (by kernel_rfl) ?_);conv=>whnf)))))
    exact done0 rfl (.cons .tmp .nil) rfl rfl
  rw [if_neg h4] at hr1
  (repeat (first | (refine ⟨fun h => False.elim (by first | (exact absurd h (by decide)) | (simp at h; done) | (simp at h; omega)), fun _ => ?_⟩; ((first|refine rG Γ hm ?_|refine rD Γ hm (by kernel_rfl) ?_);(conv=>whnf);repeat((first|refine aF ?_|refine aT ?_);(first|refine rG Γ hm ?_|refine rD Γ hm (by kernel_rfl) ?_);conv=>whnf))) | (refine ⟨fun _ => ?_, fun h => False.elim (by first | (exact absurd h (by decide)) | (simp at h; done) | (simp at h; omega))⟩; ((first|refine rG Γ hm ?_|refine rD Γ hm (by kernel_rfl) ?_);(conv=>whnf);repeat((first|refine aF ?_|refine aT ?_);(first|refine rG Γ hm ?_|refine rD Γ hm (by kernel_rfl) ?_);conv=>whnf)))))
  by_cases h5 : kd = 5
  · subst h5
    rw [if_pos rfl] at hr1
    subst hr1
    dsimp only at hres
    (repeat (first | (refine ⟨fun h => False.elim (by first | (exact absurd h (by decide)) | (simp at h; done) | (simp at h; omega)), fun _ => ?_⟩; ((first|refine rG Γ hm ?_|refine rD Γ hm (by kernel_rfl) ?_);(conv=>whnf);repeat((first|refine aF ?_|refine aT ?_);(first|refine rG Γ hm ?_|refine rD Γ hm (by kernel_rfl) ?_);conv=>whnf))) | (refine ⟨fun _ => ?_, fun h => False.elim (by first | (exact absurd h (by decide)) | (simp at h; done) | (simp at h; omega))⟩; ((first|refine rG Γ hm ?_|refine rD Γ hm (by kernel_rfl) ?_);(conv=>whnf);repeat((first|refine aF ?_|refine aT ?_);(first|refine rG Γ hm ?_|refine rD Γ hm (by kernel_rfl) ?_);conv=>whnf)))))
    refine ⟨fun h => ?_, fun h => ?_⟩
    · have h6 : up.length = n.links.length := by have : (up.length : Int) = n.links.length := by simpa using h
                                                 omega
      rw [decide_eq_true h6, if_pos rfl, join2s] at hres
      subst hres
      ((first|refine rG Γ hm ?_|refine rD Γ hm (by kernel_rfl) ?_);(conv=>whnf);repeat((first|refine aF ?_|refine aT ?_);(first|refine rG Γ hm ?_|refine rD Γ hm (by kernel_rfl) ?_);conv=>whnf))
      refine call0 q5 F63 rfl rfl rfl rfl rfl ?_
      ((first|refine rG Γ hm ?_|refine rD Γ hm (by kernel_rfl) ?_);(conv=>whnf);repeat((first|refine aF ?_|refine aT ?_);(first|refine rG Γ hm ?_|refine rD Γ hm (by kernel_rfl) ?_);conv=>whnf))
      refine ⟨by show 6 + _ ≤ _; omega, ?_⟩
      ((conv=>whnf);repeat((first|refine aF ?_|refine aT ?_);(first|refine rG Γ hm ?_|refine rD Γ hm (by kernel_rfl) ?_);conv=>whnf))
      exact done0 rfl (.cons .tmp .nil) rfl rfl
    · have h6 : ¬ up.length = n.links.length := fun e => by rw [e] at h; simp at h
      rw [decide_eq_false h6, if_neg (by simp)] at hres
      subst hres
      ((first|refine rG Γ hm ?_|refine rD Γ hm (by kernel_rfl) ?_);(conv=>whnf);repeat((first|refine aF ?_|refine aT ?_);(first|refine rG Γ hm ?_|refine rD Γ hm (by kernel_rfl) ?_);conv=>whnf))
      exact done0 rfl (.cons .tmp .nil) rfl rfl
  rw [if_neg h5] at hr1
  subst hr1
  rw [if_neg (by simp)] at hres
  subst hres
  (repeat (first | (refine ⟨fun h => False.elim (by first | (exact absurd h (by decide)) | (simp at h; done) | (simp at h; omega)), fun _ => ?_⟩; ((first|refine rG Γ hm ?_|refine rD Γ hm (by kernel_rfl) ?_);(conv=>whnf);repeat((first|refine aF ?_|refine aT ?_);(first|refine rG Γ hm ?_|refine rD Γ hm (by kernel_rfl) ?_);conv=>whnf))) | (refine ⟨fun _ => ?_, fun h => False.elim (by first | (exact absurd h (by decide)) | (simp at h; done) | (simp at h; omega))⟩; ((first|refine rG Γ hm ?_|refine rD Γ hm (by kernel_rfl) ?_);(conv=>whnf);repeat((first|refine aF ?_|refine aT ?_);(first|refine rG Γ hm ?_|refine rD Γ hm (by kernel_rfl) ?_);conv=>whnf)))))
  exact done0 rfl (.cons .tmp .nil) rfl rfl

end Go.Sy.YtjomehmhkcnadaaGreatDoor

namespace Go.Sy

theorem append_coreS {P : Program} {κ : Ka} {w : World} (hi : Inv κ w) {t ty e : TypeId} {i : TypeInfo} {z : Value} {sz : Nat} (ht : P.underlying t = some (.slice e)) (hinfo : P.info? e = some i) (hz : i.zero = some z) (hsz : i.size = sz) (hzs : z.cells.size = sz)
    {v : Value} {n m : Nat} {f g : Nat → SV → Prop} {k : Option Nat} {d : Nat} (hd : κ d = .new) (hb : Base κ w v n sz f k) {t2 : TypeId} (ht2 : P.underlying t2 = some .string) {b0 : ByteArray} (hbm : b0.size = m) (hs1 : sz = 1) (hsg : ∀ j x, g j x → ∃ h : j < b0.data.toList.length, x = .val (.int .u8 (b0.data.toList[j].toNat))) (h63 : n + m ≤ 9223372036854775807) (hbytes : (n + m) * i.bytes ≤ 140737488355328) :
    ∃ v' w' κ', (Builtin.append_ #[t, t2] ty #[v, .string b0]).run P w = .ok v' w' ∧ Step (fun j => k = some j ∨ j = d) κ w κ' w' ∧ Inv κ' w' ∧ Rd κ' w' (.osl d) v' ∧
      ((κ' d = .nil ∧ n + m = 0) ∨ RowAt κ' w' d sz (n + m) (appF n f g)) := by
  -- the new elements, as cells
  obtain ⟨news, hnl, hn1, hnc, hng⟩ : ∃ (news : List Value), news.length = m * sz ∧ Ones news ∧ (∀ W : World, (∀ p : Addr, p.block < w.heap.size → W.cell? p = w.cell? p) → (Builtin.firstCells sz m (.string b0)).run P W = .ok news.toArray W) ∧
      (∀ j x, g j x → j < m ∧ ∃ q : Value, RdD (Own κ) w x q ∧ q.cells.size = sz ∧ Ones q.cells.toList ∧ ∀ l, l < sz → news[j * sz + l]? = q.cells[l]?) := by
    have hsz0 : b0.data.toList.length = m := by rw [← hbm]; rfl
    refine ⟨b0.data.toList.map fun c => .int .u8 c.toNat, by rw [List.length_map, hs1, Nat.mul_one]; exact hsz0, fun c hc => ?_, fun W _ => ?_, fun j x hx => ?_⟩
    · obtain ⟨b, _, rfl⟩ := List.mem_map.1 hc
      rfl
    · have he : b0.extract 0 m = b0 := by rw [← hbm]; exact ByteArray.extract_zero_size
      have e2 : Array.map (fun b : UInt8 => Value.int .u8 b.toNat) b0.data = (List.map (fun b : UInt8 => Value.int .u8 b.toNat) b0.data.toList).toArray := by apply Array.ext'; simp
      simp [Builtin.firstCells, he, e2]
    · obtain ⟨h, rfl⟩ := hsg j x hx
      refine ⟨by omega, .int .u8 (b0.data.toList[j].toNat), by simp [RdD], by rw [hs1]; rfl, fun c hc => ?_, fun l hl => ?_⟩
      · simp [Value.cells] at hc; subst hc; rfl
      · have hl0 : l = 0 := by omega
        subst hl0
        rw [hs1, Nat.mul_one, Nat.add_zero, List.getElem?_map, List.getElem?_eq_getElem h]
        simp [Value.cells]
  have hcap : ∀ old, n + m ≤ grownCap w (n + m) old e := fun old => grownCap_ge w (n + m) old e
  have hfits : ∀ old, old < n + m → ¬ (281474976710656 < Builtin.nextslicecap (n + m) old * i.bytes) := fun old ho => by have := growslice_fits ho hbytes; omega
  -- what a new row comes to
  have newrow : ∀ (olds : List Value) (old : Nat) (hol : olds.length = n * sz) (hof : ∀ j x, f j x → j < n → ∃ q : Value, RdD (Own κ) w x q ∧ q.cells.size = sz ∧ Ones q.cells.toList ∧ ∀ l, l < sz → olds[j * sz + l]? = q.cells[l]?),
      let w' := w.drew.alloc (.cells (olds.toArray ++ news.toArray ++ Builtin.zeroCells z.cells (grownCap w (n + m) old e - (n + m))) e)
      let κ' := setK (killK κ k) d (.row w.heap.size (n + m) (grownCap w (n + m) old e))
      Step (fun j => k = some j ∨ j = d) κ w κ' w' ∧ Inv κ' w' ∧ Rd κ' w' (.osl d) (.slice (some ⟨w.heap.size, 0, none⟩) (n + m) (grownCap w (n + m) old e)) ∧ RowAt κ' w' d sz (n + m) (appF n f g) := by
    intro olds old hol hof w' κ'
    have s1 := step_kill (κ := κ) (w := w) k
    have hdn : (killK κ k) d = .new := by
      cases k with
      | none => exact hd
      | some k =>
        by_cases hkd : d = k
        · exfalso
          subst hkd
          rcases hb with ⟨h, _⟩ | ⟨_, _, b, cap, h, _⟩ <;> rw [hd] at h <;> cases h
        · simp only [killK]; rw [setK_ne _ _ hkd]; exact hd
    have g0 : Grew w w' := (Grew.drew w).trans (Grew.alloc _ _)
    have s2 := step_new (inv_kill hi k) hdn (e := .row w.heap.size (n + m) (grownCap w (n + m) old e)) g0 (fun b hb => by
      simp only [Ent.block?, Option.some.injEq] at hb; subst hb; exact ⟨Nat.le_refl _, by simp [w']⟩)
    have s3 : Step (fun j => k = some j ∨ j = d) κ w κ' w' := (s1.weaken (fun j hj => .inl hj)).trans (s2.1.weaken (fun j hj => .inr hj))
    refine ⟨s3, s2.2, by simp [Rd, κ', setK_self], ?_⟩
    refine ⟨w.heap.size, grownCap w (n + m) old e, olds ++ news ++ (Builtin.zeroCells z.cells (grownCap w (n + m) old e - (n + m))).toList, e, (0, 0), setK_self _ _ _, ?_, NoFr.zero _, ?_, hcap old, ?_⟩
    · have : w'.heap[w.heap.size]? = some (.cells (olds.toArray ++ news.toArray ++ Builtin.zeroCells z.cells (grownCap w (n + m) old e - (n + m))) e) := heap_alloc_new w.drew _
      rw [this]
      congr 2
      apply Array.ext'
      simp
    · simp only [List.length_append, hol, hnl, Array.length_toList, len_zeroCells, hzs]
      rw [← Nat.add_mul, ← Nat.add_mul]
      have := hcap old
      rw [show n + m + (grownCap w (n + m) old e - (n + m)) = grownCap w (n + m) old e from by omega]
      exact Nat.le_refl _
    · rintro j x (⟨hj, hx⟩ | ⟨hj, hx⟩)
      · obtain ⟨q, q1, q2, q3, q4⟩ := hof j x hx hj
        refine ⟨by omega, q, RdD.keep s3.keeps _ _ q1, q2, q3, fun l hl => ?_⟩
        have : (j + 1) * sz ≤ n * sz := Nat.mul_le_mul_right sz (by omega)
        rw [Nat.add_mul, Nat.one_mul] at this
        rw [List.append_assoc, List.getElem?_append_left (by omega), q4 l hl]
      · obtain ⟨h0, q, q1, q2, q3, q4⟩ := hng _ x hx
        refine ⟨by omega, q, RdD.keep s3.keeps _ _ q1, q2, q3, fun l hl => ?_⟩
        have e1 : j * sz = n * sz + (j - n) * sz := by rw [← Nat.add_mul]; congr 1; omega
        have : (j - n + 1) * sz ≤ m * sz := Nat.mul_le_mul_right sz (by omega)
        rw [Nat.add_mul, Nat.one_mul] at this
        rw [List.append_assoc, List.getElem?_append_right (by omega), List.getElem?_append_left (by omega), ← q4 l hl]
        congr 1
        omega
  cases k with
  | none =>
    obtain ⟨rfl, rfl⟩ := hb
    by_cases hm : m = 0
    · subst hm
      have st := step_new hi hd (e := .nil) (Grew.refl w) (fun b hb => by cases hb)
      refine ⟨.slice none 0 0, w, setK κ d .nil, ?_, st.1.weaken (fun j hj => .inr hj), st.2, by simp [Rd, setK_self], .inl ⟨setK_self _ _ _, rfl⟩⟩
      have hc := hnc w (fun _ _ => rfl)
      simp [Builtin.append_, run_underlying ht, run_underlying ht2, hbm, sizeOf, typeInfo, hinfo, hsz, Builtin.lenOf, hc]
    · obtain ⟨q1, q2, q3, q4⟩ := newrow [] 0 (by simp) (fun j x _ hj => absurd hj (by omega))
      refine ⟨_, _, _, ?_, q1, q2, q3, .inr q4⟩
      have hc := hnc w.drew (fun _ _ => rfl)
      have h48 := hfits 0 (by omega)
      have h63' : ¬ (9223372036854775807 < (m : Int)) := by omega
      simp only [Nat.zero_add] at h48 ⊢
      simp [Builtin.append_, run_underlying ht, run_underlying ht2, hbm, sizeOf, typeInfo, zeroValue, hinfo, hsz, hz, Builtin.lenOf, hm, h63', h48, Question.forced, run_firstCells_none, hc, newRow, grownCap]
  | some k =>
    rcases hb with ⟨hk, rfl, rfl⟩ | ⟨hrow, tot, b, cap, hk, rfl⟩
    · by_cases hm : m = 0
      · subst hm
        have hkd : d ≠ k := fun e => by subst e; rw [hd] at hk; cases hk
        have st := step_new (inv_kill hi (some k)) (by show setK κ k .dead d = .new; rw [setK_ne _ _ hkd]; exact hd) (e := .nil) (Grew.refl w) (fun b hb => by cases hb)
        refine ⟨.slice none 0 0, w, _, ?_, ((step_kill (some k)).weaken (fun j hj => .inl hj)).trans (st.1.weaken (fun j hj => .inr hj)), st.2, by simp [Rd, setK_self], .inl ⟨setK_self _ _ _, rfl⟩⟩
        have hc := hnc w (fun _ _ => rfl)
        simp [Builtin.append_, run_underlying ht, run_underlying ht2, hbm, sizeOf, typeInfo, hinfo, hsz, Builtin.lenOf, hc]
      · obtain ⟨q1, q2, q3, q4⟩ := newrow [] 0 (by simp) (fun j x _ hj => absurd hj (by omega))
        refine ⟨_, _, _, ?_, q1, q2, q3, .inr q4⟩
        have hc := hnc w.drew (fun _ _ => rfl)
        have h48 := hfits 0 (by omega)
        have h63' : ¬ (9223372036854775807 < (m : Int)) := by omega
        simp only [Nat.zero_add] at h48 ⊢
        simp [Builtin.append_, run_underlying ht, run_underlying ht2, hbm, sizeOf, typeInfo, zeroValue, hinfo, hsz, hz, Builtin.lenOf, hm, h63', h48, Question.forced, run_firstCells_none, hc, newRow, grownCap]
    · obtain ⟨b', cap', hk', hsrc⟩ := hrow.src tot
      rw [hk] at hk'
      cases hk'
      have hrow' := hrow
      obtain ⟨b', cap', cs, T, fr, e1, e2, e3, e4, e5, e6⟩ := hrow'
      rw [hk] at e1
      cases e1
      by_cases hroom : n + m ≤ cap
      · have hkd : k ≠ d := fun e => by subst e; rw [hk] at hd; cases hd
        have hcs : (n + m) * sz ≤ cs.length := Nat.le_trans (Nat.mul_le_mul_right sz hroom) e4
        rw [Nat.add_mul] at hcs
        obtain ⟨w', f1, f2, f3, f4, f5, f6, f7⟩ := run_storeCells_nf P b (n * sz) T fr news 0 cs w e2 e3 (by omega) hn1
        obtain ⟨st, inv⟩ := step_over (n' := n + m) hi hk hd f3 f4 f5 f6 f7
        refine ⟨.slice (some ⟨b, 0, none⟩) (n + m) cap, w', _, ?_, st.weaken (fun j hj => hj.imp (fun h => by rw [h]) id), inv, by simp [Rd, setK_self], .inr ?_⟩
        · have hc := hnc w (fun _ _ => rfl)
          simp [Builtin.append_, run_underlying ht, run_underlying ht2, hbm, sizeOf, typeInfo, hinfo, hsz, Builtin.lenOf, hroom, hc, Addr.add_lit, f1]
        · refine ⟨b, cap, _, T, fr, setK_self _ _ _, by simpa using f2, by rw [setV_length]; exact e3, by rw [setV_length]; exact e4, hroom, ?_⟩
          have hset := setV_get cs news (n * sz)
          rintro j x (⟨hj, hx⟩ | ⟨hj, hx⟩)
          · obtain ⟨_, q, q1, q2, q3, q4⟩ := e6 j x hx
            refine ⟨by omega, q, RdD.keep st.keeps _ _ q1, q2, q3, fun l hl => ?_⟩
            have : (j + 1) * sz ≤ n * sz := Nat.mul_le_mul_right sz (by omega)
            rw [Nat.add_mul, Nat.one_mul] at this
            rw [hset _ (by omega), if_neg (by omega), q4 l hl]
          · obtain ⟨h0, q, q1, q2, q3, q4⟩ := hng _ x hx
            refine ⟨by omega, q, RdD.keep st.keeps _ _ q1, q2, q3, fun l hl => ?_⟩
            have e1 : j * sz = n * sz + (j - n) * sz := by rw [← Nat.add_mul]; congr 1; omega
            have : (j - n + 1) * sz ≤ m * sz := Nat.mul_le_mul_right sz (by omega)
            rw [Nat.add_mul, Nat.one_mul] at this
            rw [hset _ (by omega), if_pos (by omega), ← q4 l hl]
            congr 1
            omega
      · rcases hsrc with ⟨rfl, hno, a', c', he⟩ | ⟨b2, o2, c2, olds, he, g1, g2, g3, g4⟩
        · obtain ⟨q1, q2, q3, q4⟩ := newrow [] cap (by simp) (fun j x _ hj => absurd hj (by omega))
          refine ⟨_, _, _, ?_, q1, q2, q3, .inr q4⟩
          have hc := hnc w.drew (fun _ _ => rfl)
          have h48 := hfits cap (by omega)
          have h63' : ¬ (9223372036854775807 < (m : Int)) := by omega
          have hroom' : ¬ (m ≤ cap) := by omega
          have hfo := run_firstCells_some (P := P) w.drew sz 0 ⟨b, 0, none⟩ 0 cap [] (by simp) (fun j v hj => by simp at hj)
          simp only [Nat.zero_add] at h48 ⊢
          simp [Builtin.append_, run_underlying ht, run_underlying ht2, hbm, sizeOf, typeInfo, zeroValue, hinfo, hsz, hz, Builtin.lenOf, hroom', h63', h48, Question.forced, hfo, hc, newRow, grownCap]
        · cases he
          obtain ⟨q1, q2, q3, q4⟩ := newrow olds cap g1 (fun j x hx hj => (g4 j x hx).2)
          refine ⟨_, _, _, ?_, q1, q2, q3, .inr q4⟩
          have hc := hnc w.drew (fun _ _ => rfl)
          have h48 := hfits cap (by omega)
          have h63' : ¬ (9223372036854775807 < (n : Int) + (m : Int)) := by omega
          have hfo := run_firstCells_some (P := P) w.drew sz n ⟨b, 0, none⟩ n cap olds g1 (fun j v hj => by
            have := g3 j v hj
            rw [Addr.add_lit]; simpa using this)
          simp [Builtin.append_, run_underlying ht, run_underlying ht2, hbm, sizeOf, typeInfo, zeroValue, hinfo, hsz, hz, Builtin.lenOf, hroom, h63', h48, Question.forced, hfo, hc, newRow, grownCap]
          congr 2
          apply Array.ext'
          simp [List.append_assoc]

theorem good_appendS {P : Program} (Γ : Ty P) {o : Oper} {s : SS} (d : Nat) {l : List UInt8} {b : ByteArray} {t t2 : TypeId} {ti ti2 : TI} {et : TypeId} {eb : Nat} {ez : List Value} {x y : Operand} {k : Option Nat}
    (h : o.op = .call ⟨.builtin .append, #[x, y], #[t, t2]⟩) (hd : s.h d = .fresh) (ht : Γ.get t = some ti) (hk : ti.k = .slice et 1 eb ez) (hez : ez.length = 1) (ht2 : Γ.get t2 = some ti2) (hk2 : ti2.k = .string)
    (hb : BaseT s 1 byteSV (ev s x) k l) (hy : ev s y = .val (.string b)) (hkk : ∀ j, k = some j → j ≠ d) (hbytes : (l.length + b.size) * eb ≤ 140737488355328) (h63 : l.length + b.size ≤ 9223372036854775807) :
    Good P o s ⟨.osl d, [], appObjs k d (.row 1 byteSV (l ++ b.data.toList))⟩ := by
  obtain ⟨f, hb, hf⟩ := hb.base
  intro κ a w hi hr ho N Q hN
  have h1 := hr x (by simp [h, Op.operands, Call.operands])
  have h2 := hr y (by simp [h, Op.operands, Call.operands])
  rw [hy] at h2
  have hws : ∀ j, j ∈ (Up.mk (.osl d) [] (appObjs k d (.row 1 byteSV (l ++ b.data.toList)))).ws ↔ (k = some j ∨ j = d) := by
    intro j
    cases k <;> simp [Up.ws, appObjs, eq_comm]
  have hnew : κ d = .new := by have := ho d (.inr ((hws d).2 (.inr rfl))); rwa [hd] at this
  obtain ⟨hu, i, z, q1, q2, q3, q4, q5⟩ := slice_elem Γ ht hk
  have hzs : z.cells.size = 1 := by rw [← hez, ← q5]; simp
  have hu2 : P.underlying t2 = some .string := by
    obtain ⟨dd, info, zz, k1, k2, _⟩ := Γ.ok t2 ti2 ht2
    rw [hk2] at k2
    simp only [TK.ok] at k2
    subst k2
    exact k1
  obtain ⟨v', w', κ', r1, r2, r3, r4, r5⟩ := append_coreS (P := P) (ty := o.type) (g := rowF byteSV b.data.toList) hi hu q1 q4 q2 hzs hnew (hb.base h1 (fun j hj => ho j (.inr ((hws j).2 (.inl hj))))) hu2 (rfl : b.size = b.size) rfl
    (fun j x hx => hx) h63 (by rw [q3]; exact hbytes)
  have hrun : (execOp a.eval o).run P w = .ok (.value v') w' := by
    simp [execOp, h, h2.val, resolve, invoke, builtin, r1]
  simp only [Oper.wp, hrun, Oper.upon]
  refine hN v' κ' w' (r2.weaken (fun j hj => (hws j).2 hj)) r3 r4 (fun p hp => ?_)
  have hfin : ObOK κ' w' d (.row 1 byteSV (l ++ b.data.toList)) := appF_row r5 (by rw [List.length_append]; rfl) (rowF_app hf (fun _ _ h => h))
  cases k with
  | none =>
    simp only [appObjs, List.mem_singleton] at hp
    subst hp
    exact hfin
  | some k =>
    simp only [appObjs, List.mem_cons, List.not_mem_nil, or_false] at hp
    rcases hp with rfl | rfl
    · trivial
    · exact hfin

end Go.Sy

namespace Go.Sy.YtjomehmhkcnadaaGreatDoor
open Go.Proofs
-- SIMP: placeB

attribute [local irreducible] Go.Sy.G Go.Sy.DR
set_option maxRecDepth 100000
set_option maxHeartbeats 4000000

structure StepOK (x : StepM) : Prop where
  at_ : Word64 x.at_
  bytes : x.bytes.length ≤ 100000
  up : x.up.length ≤ 100000

theorem joinT2_size (a b : ByteArray) : (joinT [a, b] ⟨#[32]⟩).size ≤ a.size + b.size + 2 := by
  have := joinT_size [a, b] ⟨#[32]⟩
  rw [sizes2] at this
  have e : (⟨#[32]⟩ : ByteArray).size * [a, b].length = 2 := rfl
  omega
theorem joinT3_size (a b c : ByteArray) : (joinT [a, b, c] ⟨#[32]⟩).size ≤ a.size + b.size + c.size + 3 := by
  have := joinT_size [a, b, c] ⟨#[32]⟩
  rw [sizes3] at this
  have e : (⟨#[32]⟩ : ByteArray).size * [a, b, c].length = 3 := rfl
  omega

theorem siteRow_size {n : Net} (hb : netRightB n = true) (hnm : Named n) {x : StepM} (hx : StepOK x) : (siteRowT n x).1.size ≤ 300000 := by
  have z1 := hexT_size x.bytes
  have z2 := truthsT_size x.up
  have z3 := numT_size21 hx.at_
  have z4 := domT_size hnm x.domain
  have h1 := hx.bytes
  have h2 := hx.up
  unfold siteRowT
  split
  · split
    · rename_i hp
      have z5 := portText_size hb hnm (placeB_in hp)
      have := joinT3_size vInject (portText n x.port) (hexT x.bytes)
      have e : vInject.size = 6 := rfl
      dsimp only; omega
    · show 0 ≤ _; omega
  split
  · have := joinT3_size vPick (domT n x.domain) (numT x.at_)
    have e : vPick.size = 4 := rfl
    dsimp only; omega
  split
  · have := joinT3_size vDrop (domT n x.domain) (numT x.at_)
    have e : vDrop.size = 4 := rfl
    dsimp only; omega
  split
  · show 4 ≤ _; omega
  split
  · have := joinT2_size vLinks (truthsT x.up)
    have e : vLinks.size = 5 := rfl
    dsimp only; omega
  · show 0 ≤ _; omega

theorem siteRow_ne {n : Net} {x : StepM} (h : (siteRowT n x).2 = true) : ((siteRowT n x).1 == ⟨#[]⟩) = false := by
  have key : ∀ a b : ByteArray, a.size ≠ 0 → ((a ++ b : ByteArray) == ⟨#[]⟩) = false := fun a b ha => by
    cases he : ((a ++ b : ByteArray) == ⟨#[]⟩)
    · rfl
    have e := congrArg ByteArray.size ((beq_ba _ _).1 he)
    rw [size_app] at e
    have e0 : (⟨#[]⟩ : ByteArray).size = 0 := rfl
    omega
  have k2 : ∀ a b c d e : ByteArray, a.size ≠ 0 → ((a ++ b ++ c ++ d ++ e : ByteArray) == ⟨#[]⟩) = false := fun a b c d e ha => by
    refine key _ _ ?_
    rw [size_app, size_app, size_app]; omega
  have k3 : ∀ a b c : ByteArray, a.size ≠ 0 → ((a ++ b ++ c : ByteArray) == ⟨#[]⟩) = false := fun a b c ha => by
    refine key _ _ ?_
    rw [size_app]; omega
  unfold siteRowT at h ⊢
  split
  · rw [if_pos (by assumption)] at h
    split
    · dsimp only; rw [join3s]; exact k2 _ _ _ _ _ (by decide)
    · rw [if_neg (by assumption)] at h; cases h
  rw [if_neg (by assumption)] at h
  split
  · dsimp only; rw [join3s]; exact k2 _ _ _ _ _ (by decide)
  rw [if_neg (by assumption)] at h
  split
  · dsimp only; rw [join3s]; exact k2 _ _ _ _ _ (by decide)
  rw [if_neg (by assumption)] at h
  split
  · rfl
  rw [if_neg (by assumption)] at h
  split
  · dsimp only; rw [join2s]; exact k3 _ _ _ (by decide)
  rw [if_neg (by assumption)] at h
  cases h

def rowB (n : Net) (x : StepM) : List UInt8 := (siteRowT n x).1.data.toList ++ [10]
def printL (n : Net) (l : List StepM) : List UInt8 := l.flatMap (rowB n)
def okRow (n : Net) (x : StepM) : Bool := (siteRowT n x).2
def printT (n : Net) (l : List StepM) : List UInt8 × Int :=
  if netRightB n = false then ([], 2) else if l.all (okRow n) = false then ([], 2) else if 400 < l.length ∨ 20000 < (printL n l).length then ([], 3) else (printL n l, 0)

theorem printL_succ (n : Net) (l : List StepM) {j : Nat} (h : j < l.length) : printL n (l.take (j + 1)) = printL n (l.take j) ++ (siteRowT n l[j]).1.data.toList ++ [10] := by
  rw [printL, printL, List.take_succ_eq_append_getElem h, List.flatMap_append, List.append_assoc, List.flatMap_cons, List.flatMap_nil, List.append_nil]
  rfl

theorem rowB_length {n : Net} (hb : netRightB n = true) (hnm : Named n) {x : StepM} (hx : StepOK x) : (rowB n x).length ≤ 300001 := by
  rw [rowB, List.length_append]
  exact Nat.succ_le_succ (siteRow_size hb hnm hx)

theorem flat_le {α : Type} {f : α → List UInt8} {k : Nat} : ∀ l : List α, (∀ x ∈ l, (f x).length ≤ k) → (l.flatMap f).length ≤ k * l.length
  | [], _ => by simp
  | x :: l, h => by
    have h1 := h x (by simp)
    have h2 := flat_le l fun y hy => h y (by simp [hy])
    rw [List.flatMap_cons, List.length_append, List.length_cons, Nat.mul_add]
    omega

theorem printL_le {n : Net} (hb : netRightB n = true) (hnm : Named n) (l : List StepM) (hl : ∀ x ∈ l, StepOK x) : (printL n l).length ≤ 300001 * l.length :=
  flat_le l fun x hx => rowB_length hb hnm (hl x hx)

theorem all_upto {α : Type} {p : α → Bool} {l : List α} {j : Nat} (hI : Upto (fun _ x => p x) l j) (hj : l.length ≤ j) : l.all p = true := by
  rw [List.all_eq_true]
  intro x hx
  obtain ⟨i, hi, rfl⟩ := List.mem_iff_getElem.1 hx
  exact hI i hi (by omega)
theorem all_at {α : Type} {p : α → Bool} {l : List α} {j : Nat} (hj : j < l.length) (h : p l[j] = false) : l.all p = false := by
  cases ha : l.all p
  · rfl
  · rw [List.all_eq_true] at ha
    rw [ha _ (List.getElem_mem hj)] at h; cases h

theorem machinePrintS (n : Net) (hn : n.Fin) (hnm : Named n) (l : List StepM) (hl : l.length ≤ 1000) (hs : ∀ x ∈ l, StepOK x) :
    Sy.Spec Tryz.prog 9 [netSV n, .sl 6 stepSV l] [verbsO 900] (.tup [.sl 1 byteSV (printT n l).1, intSV (printT n l).2]) [verbsO 900] := contract Γ hm 100 F9 Tryz.ntmps9 rfl fun F hF => by
  have hres := printT.eq_1 n l
  generalize printT n l = res at *
  have hr := namesRightS n hn
  ((conv=>whnf);repeat((first|refine aF ?_|refine aT ?_);(first|refine rG Γ hm ?_|refine rD Γ hm (by kernel_rfl) ?_);conv=>whnf))
  refine call0 hr F18 rfl rfl rfl rfl rfl ?_
  cases hb : netRightB n
  · rw [if_pos hb] at hres
    subst hres
    ((first|refine rG Γ hm ?_|refine rD Γ hm (by kernel_rfl) ?_);(conv=>whnf);repeat((first|refine aF ?_|refine aT ?_);(first|refine rG Γ hm ?_|refine rD Γ hm (by kernel_rfl) ?_);conv=>whnf))
    refine G_nilsl 4 1 byteSV rfl ?_
    ((first|refine rG Γ hm ?_|refine rD Γ hm (by kernel_rfl) ?_);(conv=>whnf);repeat((first|refine aF ?_|refine aT ?_);(first|refine rG Γ hm ?_|refine rD Γ hm (by kernel_rfl) ?_);conv=>whnf))
    exact done rfl (.cons .tmp (.cons .tmp .nil)) [] [verbsO 900] (fun _ h => h) rfl rfl ⟨trivial, ⟨.inl rfl, rfl, trivial⟩, rfl, rfl⟩
  rw [if_neg (by simp [hb])] at hres
  ((first|refine rG Γ hm ?_|refine rD Γ hm (by kernel_rfl) ?_);(conv=>whnf);repeat((first|refine aF ?_|refine aT ?_);(first|refine rG Γ hm ?_|refine rD Γ hm (by kernel_rfl) ?_);conv=>whnf))
  refine G_box 2 8 (netSV n) rfl rfl rfl ?_
  refine G_adopt 6 1000 1 byteSV rfl rfl ?_
  refine G_countP l.length (fun j => Upto (fun _ x => okRow n x) l j) (fun j => [(1, .sl 6 stepSV l), (2, .ref 8 (netSV n) 0), (6, .osl 1000), (14, .sl 6 stepSV l), (15, intSV l.length), (16, intSV j)]) (fun j => [(1000, .row 1 byteSV (printL n (l.take j))), verbsO 900]) [] (upto_zero _ _)
    ⟨⟨rfl, rfl, rfl, rfl, rfl, rfl, rfl, rfl, rfl, rfl, rfl, rfl, trivial⟩, ⟨.inl rfl, rfl, .inl rfl, rfl, trivial⟩, rfl, rfl⟩ ?_
  intro j hj hI
  ((first|refine rG Γ hm ?_|refine rD Γ hm (by kernel_rfl) ?_);(conv=>whnf);repeat((first|refine aF ?_|refine aT ?_);(first|refine rG Γ hm ?_|refine rD Γ hm (by kernel_rfl) ?_);conv=>whnf))
  refine ⟨fun h => ?_, fun h => ?_⟩
  · have hlt : j < l.length := by simpa using h
    have hj0 : ((j : Nat) : Int).toNat < l.length := by simpa using hlt
    have hsucc := printL_succ n l hlt
    have hpl := printL_le hb hnm (l.take j) (fun x hx => hs x (List.mem_of_mem_take hx))
    have htl : (l.take j).length ≤ 1000 := by rw [List.length_take]; omega
    have hno := fun h => @all_at _ (okRow n) l j hlt h
    have hok := hs _ (List.getElem_mem hlt)
    have hnx := fun h => upto_next (p := fun _ x => okRow n x) hI hlt h
    obtain ⟨x, hx⟩ : ∃ x, l[((j : Nat) : Int).toNat]'hj0 = x := ⟨_, rfl⟩
    have hx' : l[j] = x := hx
    rw [hx'] at hsucc hno hok hnx
    have q := siteRowS n hn hb hnm x hok.at_ (by have := hok.bytes; omega) (by have := hok.up; omega)
    have hsz := siteRow_size hb hnm hok
    obtain ⟨u, hu⟩ : ∃ u, printL n (l.take j) = u := ⟨_, rfl⟩
    rw [hu] at hsucc hpl ⊢
    simp only [okRow] at hno hnx
    obtain ⟨xs, hxs⟩ : ∃ xs, printL n (l.take (j + 1)) = xs := ⟨_, rfl⟩
    rw [hxs] at hsucc
    obtain ⟨⟨t, ok⟩, hto⟩ : ∃ p, siteRowT n x = p := ⟨_, rfl⟩
    rw [hto] at q hno hnx hsucc hsz
    dsimp only at q hno hnx hsucc hsz
    ((first|refine rG Γ hm ?_|refine rD Γ hm (by kernel_rfl) ?_);(conv=>whnf);repeat((first|refine aF ?_|refine aT ?_);(first|refine rG Γ hm ?_|refine rD Γ hm (by kernel_rfl) ?_);conv=>whnf))
    refine ⟨rfl, by omega, hj0, ?_⟩
    rw [hx]
    ((conv=>whnf);repeat((first|refine aF ?_|refine aT ?_);(first|refine rG Γ hm ?_|refine rD Γ hm (by kernel_rfl) ?_);conv=>whnf))
    refine stepOp (good_call [(900, 900)] rfl F19 q rfl ⟨rfl, trivial⟩ rfl ⟨.inl rfl, trivial⟩) rfl rfl ?_
    cases ok
    · rw [if_pos (hno rfl)] at hres
      subst hres
      ((first|refine rG Γ hm ?_|refine rD Γ hm (by kernel_rfl) ?_);(conv=>whnf);repeat((first|refine aF ?_|refine aT ?_);(first|refine rG Γ hm ?_|refine rD Γ hm (by kernel_rfl) ?_);conv=>whnf))
      refine G_nilsl 4 1 byteSV rfl ?_
      ((first|refine rG Γ hm ?_|refine rD Γ hm (by kernel_rfl) ?_);(conv=>whnf);repeat((first|refine aF ?_|refine aT ?_);(first|refine rG Γ hm ?_|refine rD Γ hm (by kernel_rfl) ?_);conv=>whnf))
      exact done rfl (.cons .tmp (.cons .tmp .nil)) [] [verbsO 900] (fun _ h => h) rfl rfl ⟨trivial, ⟨.inl rfl, rfl, trivial⟩, rfl, rfl⟩
    have hnx := hnx rfl
    have e1 : t.data.toList.length = t.size := rfl
    ((first|refine rG Γ hm ?_|refine rD Γ hm (by kernel_rfl) ?_);(conv=>whnf);repeat((first|refine aF ?_|refine aT ?_);(first|refine rG Γ hm ?_|refine rD Γ hm (by kernel_rfl) ?_);conv=>whnf))
    refine stepOp (good_appendS Γ.toTy 31 rfl rfl rfl rfl rfl rfl rfl (.row rfl) rfl (by simp) (by omega) (by omega)) rfl rfl ?_
    ((first|refine rG Γ hm ?_|refine rD Γ hm (by kernel_rfl) ?_);(conv=>whnf);repeat((first|refine aF ?_|refine aT ?_);(first|refine rG Γ hm ?_|refine rD Γ hm (by kernel_rfl) ?_);conv=>whnf))
    refine stepOp (good_appendT Γ.toTy 33 rfl rfl rfl rfl rfl (.row rfl) (.lit (e := byteSV) (l := [10]) rfl rfl) (by simp) (by simp; omega) (by simp; omega)) rfl rfl ?_
    ((first|refine rG Γ hm ?_|refine rD Γ hm (by kernel_rfl) ?_);(conv=>whnf);repeat((first|refine aF ?_|refine aT ?_);(first|refine rG Γ hm ?_|refine rD Γ hm (by kernel_rfl) ?_);conv=>whnf))
    refine ⟨by unfold I64; omega, ?_⟩
    ((conv=>whnf);repeat((first|refine aF ?_|refine aT ?_);(first|refine rG Γ hm ?_|refine rD Γ hm (by kernel_rfl) ?_);conv=>whnf))
    refine G_nextP [(1000, 33)] hI (by omega) hnx ⟨⟨rfl, rfl, rfl, rfl, rfl, rfl, rfl, rfl, rfl, rfl, rfl, rfl, trivial⟩, ⟨.inl (congrArg (Ob.row 1 byteSV) (hxs.trans hsucc)), rfl, .inl rfl, rfl, trivial⟩, rfl, rfl⟩
  · have hje : j = l.length := by have := of_decide_eq_false h; omega
    subst hje
    rw [if_neg (by rw [all_upto hI (Nat.le_refl _)]; simp)] at hres
    rw [List.take_length]
    generalize printL n l = out at *
    ((first|refine rG Γ hm ?_|refine rD Γ hm (by kernel_rfl) ?_);(conv=>whnf);repeat((first|refine aF ?_|refine aT ?_);(first|refine rG Γ hm ?_|refine rD Γ hm (by kernel_rfl) ?_);conv=>whnf))
    refine ⟨fun h2 => ?_, fun h2 => ?_⟩
    · rw [if_pos (.inl (by have := of_decide_eq_true h2; omega))] at hres
      subst hres
      ((first|refine rG Γ hm ?_|refine rD Γ hm (by kernel_rfl) ?_);(conv=>whnf);repeat((first|refine aF ?_|refine aT ?_);(first|refine rG Γ hm ?_|refine rD Γ hm (by kernel_rfl) ?_);conv=>whnf))
      refine G_nilsl 4 1 byteSV rfl ?_
      ((first|refine rG Γ hm ?_|refine rD Γ hm (by kernel_rfl) ?_);(conv=>whnf);repeat((first|refine aF ?_|refine aT ?_);(first|refine rG Γ hm ?_|refine rD Γ hm (by kernel_rfl) ?_);conv=>whnf))
      exact done rfl (.cons .tmp (.cons .tmp .nil)) [] [verbsO 900] (fun _ h => h) rfl rfl ⟨trivial, ⟨.inl rfl, rfl, trivial⟩, rfl, rfl⟩
    have h2 := of_decide_eq_false h2
    ((first|refine rG Γ hm ?_|refine rD Γ hm (by kernel_rfl) ?_);(conv=>whnf);repeat((first|refine aF ?_|refine aT ?_);(first|refine rG Γ hm ?_|refine rD Γ hm (by kernel_rfl) ?_);conv=>whnf))
    refine ⟨fun h3 => ?_, fun h3 => ?_⟩
    · rw [if_pos (.inr (by have := of_decide_eq_true h3; omega))] at hres
      subst hres
      ((first|refine rG Γ hm ?_|refine rD Γ hm (by kernel_rfl) ?_);(conv=>whnf);repeat((first|refine aF ?_|refine aT ?_);(first|refine rG Γ hm ?_|refine rD Γ hm (by kernel_rfl) ?_);conv=>whnf))
      refine G_nilsl 4 1 byteSV rfl ?_
      ((first|refine rG Γ hm ?_|refine rD Γ hm (by kernel_rfl) ?_);(conv=>whnf);repeat((first|refine aF ?_|refine aT ?_);(first|refine rG Γ hm ?_|refine rD Γ hm (by kernel_rfl) ?_);conv=>whnf))
      exact done rfl (.cons .tmp (.cons .tmp .nil)) [] [verbsO 900] (fun _ h => h) rfl rfl ⟨trivial, ⟨.inl rfl, rfl, trivial⟩, rfl, rfl⟩
    · rw [if_neg (by have := of_decide_eq_false h3; omega)] at hres
      subst hres
      refine G_data 1000 rfl ?_
      ((first|refine rG Γ hm ?_|refine rD Γ hm (by kernel_rfl) ?_);(conv=>whnf);repeat((first|refine aF ?_|refine aT ?_);(first|refine rG Γ hm ?_|refine rD Γ hm (by kernel_rfl) ?_);conv=>whnf))
      exact done rfl (.cons .tmp (.cons .tmp .nil)) [] [verbsO 900] (fun _ h => h) rfl rfl ⟨trivial, ⟨.inl rfl, rfl, trivial⟩, rfl, rfl⟩

theorem mkT_bytes (b : ByteArray) : mkT b.data.toList = b := by
  cases b; simp [mkT]

theorem ref39PrintS (n : Net) (hn : n.Fin) (hnm : Named n) (l : List StepM) (hl : l.length ≤ 1000) (hs : ∀ x ∈ l, StepOK x) :
    Sy.Spec Tryz.prog 10 [netSV n, .sl 6 stepSV l] [] (.tup [strSV (mkT (printT n l).1), intSV (printT n l).2]) [] := contract Γ hm 100 F10 Tryz.ntmps10 rfl fun F hF => by
  have hres := printT.eq_1 n l
  generalize printT n l = res at *
  have hr := ref15RightS n hn
  ((conv=>whnf);repeat((first|refine aF ?_|refine aT ?_);(first|refine rG Γ hm ?_|refine rD Γ hm (by kernel_rfl) ?_);conv=>whnf))
  refine call0 hr F20 rfl rfl rfl rfl rfl ?_
  cases hb : netRightB n
  · rw [if_pos hb] at hres
    subst hres
    ((first|refine rG Γ hm ?_|refine rD Γ hm (by kernel_rfl) ?_);(conv=>whnf);repeat((first|refine aF ?_|refine aT ?_);(first|refine rG Γ hm ?_|refine rD Γ hm (by kernel_rfl) ?_);conv=>whnf))
    exact done0 rfl (.cons .tmp (.cons .tmp .nil)) rfl rfl
  rw [if_neg (by simp [hb])] at hres
  ((first|refine rG Γ hm ?_|refine rD Γ hm (by kernel_rfl) ?_);(conv=>whnf);repeat((first|refine aF ?_|refine aT ?_);(first|refine rG Γ hm ?_|refine rD Γ hm (by kernel_rfl) ?_);conv=>whnf))
  refine G_box 2 8 (netSV n) rfl rfl rfl ?_
  refine G_countP l.length (fun j => Upto (fun _ x => okRow n x) l j) (fun j => [(1, .sl 6 stepSV l), (2, .ref 8 (netSV n) 0), (6, strSV (mkT (printL n (l.take j)))), (7, intSV j)]) (fun _ => []) [] (upto_zero _ _) ⟨⟨rfl, rfl, rfl, rfl, rfl, rfl, rfl, rfl, trivial⟩, trivial, rfl, rfl⟩ ?_
  intro j hj hI
  ((first|refine rG Γ hm ?_|refine rD Γ hm (by kernel_rfl) ?_);(conv=>whnf);repeat((first|refine aF ?_|refine aT ?_);(first|refine rG Γ hm ?_|refine rD Γ hm (by kernel_rfl) ?_);conv=>whnf))
  refine ⟨fun h => ?_, fun h => ?_⟩
  · have hlt : j < l.length := by simpa using h
    have hj0 : ((j : Nat) : Int).toNat < l.length := by simpa using hlt
    have hsucc := congrArg mkT (printL_succ n l hlt)
    rw [← mkT_append, ← mkT_append, mkT_bytes] at hsucc
    have hpl := printL_le hb hnm (l.take j) (fun x hx => hs x (List.mem_of_mem_take hx))
    have hps := mkT_size (printL n (l.take j))
    have htl : (l.take j).length ≤ 1000 := by rw [List.length_take]; omega
    have hno := fun h => @all_at _ (okRow n) l j hlt h
    have hok := hs _ (List.getElem_mem hlt)
    have hnx := fun h => upto_next (p := fun _ x => okRow n x) hI hlt h
    obtain ⟨x, hx⟩ : ∃ x, l[((j : Nat) : Int).toNat]'hj0 = x := ⟨_, rfl⟩
    have hx' : l[j] = x := hx
    rw [hx'] at hsucc hno hok hnx
    have q := ref39RowS n hn hb hnm x hok.at_ (by have := hok.bytes; omega) (by have := hok.up; omega)
    have hne := siteRow_ne (n := n) (x := x)
    have hsz := siteRow_size hb hnm hok
    have hrr := refRowT.eq_1 n x
    obtain ⟨u, hu⟩ : ∃ u, mkT (printL n (l.take j)) = u := ⟨_, rfl⟩
    rw [hu] at hsucc hps ⊢
    simp only [okRow] at hno hnx
    obtain ⟨xs, hxs⟩ : ∃ xs, mkT (printL n (l.take (j + 1))) = xs := ⟨_, rfl⟩
    rw [hxs] at hsucc
    obtain ⟨⟨t, ok⟩, hto⟩ : ∃ p, siteRowT n x = p := ⟨_, rfl⟩
    rw [hto] at hno hnx hsucc hsz hrr hne
    dsimp only at hno hnx hsucc hsz hrr hne
    cases ok
    · rw [if_neg (by simp)] at hrr
      rw [hrr] at q
      rw [if_pos (hno rfl)] at hres
      subst hres
      ((first|refine rG Γ hm ?_|refine rD Γ hm (by kernel_rfl) ?_);(conv=>whnf);repeat((first|refine aF ?_|refine aT ?_);(first|refine rG Γ hm ?_|refine rD Γ hm (by kernel_rfl) ?_);conv=>whnf))
      refine ⟨rfl, by omega, hj0, ?_⟩
      rw [hx]
      ((conv=>whnf);repeat((first|refine aF ?_|refine aT ?_);(first|refine rG Γ hm ?_|refine rD Γ hm (by kernel_rfl) ?_);conv=>whnf))
      refine callD0 q F21 rfl rfl rfl (by kernel_rfl) rfl ?_
      ((first|refine rG Γ hm ?_|refine rD Γ hm (by kernel_rfl) ?_);(conv=>whnf);repeat((first|refine aF ?_|refine aT ?_);(first|refine rG Γ hm ?_|refine rD Γ hm (by kernel_rfl) ?_);conv=>whnf))
      refine ⟨(by kernel_rfl), ?_⟩
      ((conv=>whnf);repeat((first|refine aF ?_|refine aT ?_);(first|refine rG Γ hm ?_|refine rD Γ hm (by kernel_rfl) ?_);conv=>whnf))
      (repeat (first | (refine ⟨fun h => False.elim (by first | (exact absurd h (by decide)) | (simp at h; done) | (simp at h; omega)), fun _ => ?_⟩; ((first|refine rG Γ hm ?_|refine rD Γ hm (by kernel_rfl) ?_);(conv=>whnf);repeat((first|refine aF ?_|refine aT ?_);(first|refine rG Γ hm ?_|refine rD Γ hm (by kernel_rfl) ?_);conv=>whnf))) | (refine ⟨fun _ => ?_, fun h => False.elim (by first | (exact absurd h (by decide)) | (simp at h; done) | (simp at h; omega))⟩; ((first|refine rG Γ hm ?_|refine rD Γ hm (by kernel_rfl) ?_);(conv=>whnf);repeat((first|refine aF ?_|refine aT ?_);(first|refine rG Γ hm ?_|refine rD Γ hm (by kernel_rfl) ?_);conv=>whnf)))))
      exact done0 rfl (.cons .tmp (.cons .tmp .nil)) rfl rfl
    rw [if_pos rfl] at hrr
    rw [hrr] at q
    have hnx := hnx rfl
    have hne := hne rfl
    have z1 := size_app u t
    ((first|refine rG Γ hm ?_|refine rD Γ hm (by kernel_rfl) ?_);(conv=>whnf);repeat((first|refine aF ?_|refine aT ?_);(first|refine rG Γ hm ?_|refine rD Γ hm (by kernel_rfl) ?_);conv=>whnf))
    refine ⟨rfl, by omega, hj0, ?_⟩
    rw [hx]
    ((conv=>whnf);repeat((first|refine aF ?_|refine aT ?_);(first|refine rG Γ hm ?_|refine rD Γ hm (by kernel_rfl) ?_);conv=>whnf))
    refine callD0 q F21 rfl rfl rfl (by kernel_rfl) rfl ?_
    ((first|refine rG Γ hm ?_|refine rD Γ hm (by kernel_rfl) ?_);(conv=>whnf);repeat((first|refine aF ?_|refine aT ?_);(first|refine rG Γ hm ?_|refine rD Γ hm (by kernel_rfl) ?_);conv=>whnf))
    refine ⟨(by kernel_rfl), ?_⟩
    ((conv=>whnf);repeat((first|refine aF ?_|refine aT ?_);(first|refine rG Γ hm ?_|refine rD Γ hm (by kernel_rfl) ?_);conv=>whnf))
    refine ⟨fun h2 => absurd h2 (by rw [hne]; simp), fun _ => ?_⟩
    ((first|refine rG Γ hm ?_|refine rD Γ hm (by kernel_rfl) ?_);(conv=>whnf);repeat((first|refine aF ?_|refine aT ?_);(first|refine rG Γ hm ?_|refine rD Γ hm (by kernel_rfl) ?_);conv=>whnf))
    refine ⟨by omega, ?_⟩
    ((conv=>whnf);repeat((first|refine aF ?_|refine aT ?_);(first|refine rG Γ hm ?_|refine rD Γ hm (by kernel_rfl) ?_);conv=>whnf))
    refine ⟨by show _ + 1 ≤ _; omega, ?_⟩
    ((conv=>whnf);repeat((first|refine aF ?_|refine aT ?_);(first|refine rG Γ hm ?_|refine rD Γ hm (by kernel_rfl) ?_);conv=>whnf))
    refine ⟨by unfold I64; omega, ?_⟩
    ((conv=>whnf);repeat((first|refine aF ?_|refine aT ?_);(first|refine rG Γ hm ?_|refine rD Γ hm (by kernel_rfl) ?_);conv=>whnf))
    exact G_nextP [] hI (by omega) hnx ⟨⟨rfl, rfl, rfl, rfl, congrArg strSV (hxs.trans hsucc), rfl, rfl, rfl, trivial⟩, trivial, rfl, rfl⟩
  · have hje : j = l.length := by have := of_decide_eq_false h; omega
    subst hje
    rw [if_neg (by rw [all_upto hI (Nat.le_refl _)]; simp)] at hres
    rw [List.take_length]
    have hps := mkT_size (printL n l)
    generalize printL n l = out at *
    ((first|refine rG Γ hm ?_|refine rD Γ hm (by kernel_rfl) ?_);(conv=>whnf);repeat((first|refine aF ?_|refine aT ?_);(first|refine rG Γ hm ?_|refine rD Γ hm (by kernel_rfl) ?_);conv=>whnf))
    refine ⟨fun h2 => ?_, fun h2 => ?_⟩
    · rw [if_pos (.inl (by have := of_decide_eq_true h2; omega))] at hres
      subst hres
      ((first|refine rG Γ hm ?_|refine rD Γ hm (by kernel_rfl) ?_);(conv=>whnf);repeat((first|refine aF ?_|refine aT ?_);(first|refine rG Γ hm ?_|refine rD Γ hm (by kernel_rfl) ?_);conv=>whnf))
      exact done0 rfl (.cons .tmp (.cons .tmp .nil)) rfl rfl
    have h2 := of_decide_eq_false h2
    ((first|refine rG Γ hm ?_|refine rD Γ hm (by kernel_rfl) ?_);(conv=>whnf);repeat((first|refine aF ?_|refine aT ?_);(first|refine rG Γ hm ?_|refine rD Γ hm (by kernel_rfl) ?_);conv=>whnf))
    refine ⟨fun h3 => ?_, fun h3 => ?_⟩
    · rw [if_pos (.inr (by have := of_decide_eq_true h3; omega))] at hres
      subst hres
      ((first|refine rG Γ hm ?_|refine rD Γ hm (by kernel_rfl) ?_);(conv=>whnf);repeat((first|refine aF ?_|refine aT ?_);(first|refine rG Γ hm ?_|refine rD Γ hm (by kernel_rfl) ?_);conv=>whnf))
      exact done0 rfl (.cons .tmp (.cons .tmp .nil)) rfl rfl
    · rw [if_neg (by have := of_decide_eq_false h3; omega)] at hres
      subst hres
      ((first|refine rG Γ hm ?_|refine rD Γ hm (by kernel_rfl) ?_);(conv=>whnf);repeat((first|refine aF ?_|refine aT ?_);(first|refine rG Γ hm ?_|refine rD Γ hm (by kernel_rfl) ?_);conv=>whnf))
      exact done0 rfl (.cons .tmp (.cons .tmp .nil)) rfl rfl

end Go.Sy.YtjomehmhkcnadaaGreatDoor

namespace Go.Sy.YtjomehmhkcnadaaGreatDoor
open Go.Proofs
-- SIMP: placeB

attribute [local irreducible] Go.Sy.G Go.Sy.DR
set_option maxRecDepth 100000
set_option maxHeartbeats 4000000

structure SeenM where
  port : Int
  origin : Int
  bytes : List UInt8
def seenSV (x : SeenM) : SV := .agg [intSV x.port, intSV x.origin, .sl 1 byteSV x.bytes]

structure SeenOK (x : SeenM) : Prop where
  origin : Word64 x.origin
  bytes : x.bytes.length ≤ 100000

def seenRow (n : Net) (x : SeenM) : ByteArray := joinT [portText n x.port, numT x.origin, hexT x.bytes] ⟨#[32]⟩
def seenB (n : Net) (x : SeenM) : List UInt8 := if placeB x.port n.ports.length = true then (seenRow n x).data.toList ++ [10] else []
def showL (n : Net) (l : List SeenM) : List UInt8 := l.flatMap (seenB n)
def showT (n : Net) (l : List SeenM) : List UInt8 := if netRightB n = false then [] else showL n l

theorem seenRow_size {n : Net} (hb : netRightB n = true) (hnm : Named n) {x : SeenM} (hx : SeenOK x) (hp : placeB x.port n.ports.length = true) : (seenRow n x).size ≤ 300000 := by
  have z1 := hexT_size x.bytes
  have z3 := numT_size21 hx.origin
  have h1 := hx.bytes
  have z5 := portText_size hb hnm (placeB_in hp)
  have := joinT3_size (portText n x.port) (numT x.origin) (hexT x.bytes)
  rw [seenRow]; omega

theorem showL_le {n : Net} (hb : netRightB n = true) (hnm : Named n) (l : List SeenM) (hl : ∀ x ∈ l, SeenOK x) : (showL n l).length ≤ 300001 * l.length :=
  flat_le l fun x hx => by
    rw [seenB]
    split
    · rename_i hp
      have := seenRow_size hb hnm (hl x hx) hp
      rw [List.length_append]
      exact Nat.succ_le_succ this
    · exact Nat.zero_le _

theorem showL_succ (n : Net) (l : List SeenM) {j : Nat} (h : j < l.length) : showL n (l.take (j + 1)) = showL n (l.take j) ++ seenB n l[j] := by
  rw [showL, showL, List.take_succ_eq_append_getElem h, List.flatMap_append, List.flatMap_cons, List.flatMap_nil, List.append_nil]

theorem machineShowS (n : Net) (hn : n.Fin) (hnm : Named n) (l : List SeenM) (hl : l.length ≤ 1000) (hs : ∀ x ∈ l, SeenOK x) :
    Sy.Spec Tryz.prog 14 [netSV n, .sl 3 seenSV l] [] (.sl 1 byteSV (showT n l)) [] := contract Γ hm 100 F14 Tryz.ntmps14 rfl fun F hF => by
  have hres := showT.eq_1 n l
  generalize showT n l = res at *
  have hr := namesRightS n hn
  ((conv=>whnf);repeat((first|refine aF ?_|refine aT ?_);(first|refine rG Γ hm ?_|refine rD Γ hm (by kernel_rfl) ?_);conv=>whnf))
  refine call0 hr F18 rfl rfl rfl rfl rfl ?_
  cases hb : netRightB n
  · rw [if_pos hb] at hres
    subst hres
    ((first|refine rG Γ hm ?_|refine rD Γ hm (by kernel_rfl) ?_);(conv=>whnf);repeat((first|refine aF ?_|refine aT ?_);(first|refine rG Γ hm ?_|refine rD Γ hm (by kernel_rfl) ?_);conv=>whnf))
    refine G_nilsl 4 1 byteSV rfl ?_
    ((first|refine rG Γ hm ?_|refine rD Γ hm (by kernel_rfl) ?_);(conv=>whnf);repeat((first|refine aF ?_|refine aT ?_);(first|refine rG Γ hm ?_|refine rD Γ hm (by kernel_rfl) ?_);conv=>whnf))
    exact done0 rfl (.cons .tmp .nil) rfl rfl
  rw [if_neg (by simp [hb])] at hres
  subst hres
  ((first|refine rG Γ hm ?_|refine rD Γ hm (by kernel_rfl) ?_);(conv=>whnf);repeat((first|refine aF ?_|refine aT ?_);(first|refine rG Γ hm ?_|refine rD Γ hm (by kernel_rfl) ?_);conv=>whnf))
  refine G_box 2 8 (netSV n) rfl rfl rfl ?_
  refine G_box 5 8 (netSV n) rfl rfl rfl ?_
  refine G_adopt 6 1000 1 byteSV rfl rfl ?_
  refine G_count l.length (fun j => [(5, .ref 8 (netSV n) 0), (6, .osl 1000), (14, .sl 3 seenSV l), (15, intSV l.length), (16, intSV j)]) (fun j => [(1000, .row 1 byteSV (showL n (l.take j)))]) []
    ⟨⟨rfl, rfl, rfl, rfl, rfl, rfl, rfl, rfl, rfl, rfl, trivial⟩, ⟨.inl rfl, rfl, trivial⟩, rfl, rfl⟩ ?_
  intro j hj
  ((first|refine rG Γ hm ?_|refine rD Γ hm (by kernel_rfl) ?_);(conv=>whnf);repeat((first|refine aF ?_|refine aT ?_);(first|refine rG Γ hm ?_|refine rD Γ hm (by kernel_rfl) ?_);conv=>whnf))
  refine ⟨fun h => ?_, fun h => ?_⟩
  · have hlt : j < l.length := by simpa using h
    have hj0 : ((j : Nat) : Int).toNat < l.length := by simpa using hlt
    have hsucc := showL_succ n l hlt
    have hpl := showL_le hb hnm (l.take j) (fun x hx => hs x (List.mem_of_mem_take hx))
    have htl : (l.take j).length ≤ 1000 := by rw [List.length_take]; omega
    have hok := hs _ (List.getElem_mem hlt)
    obtain ⟨x, hx⟩ : ∃ x, l[((j : Nat) : Int).toNat]'hj0 = x := ⟨_, rfl⟩
    have hx' : l[j] = x := hx
    rw [hx'] at hsucc hok
    rw [seenB] at hsucc
    obtain ⟨pt, og, bs⟩ := x
    have q1 := sitePortedS n pt
    have q2 := fun hi => sitePortS n hb hnm pt hi
    have z2 := fun hi => portText_size hb hnm (i := pt) hi
    have q3 := bytesTextS bs (by have := hok.bytes; dsimp only at this; omega)
    have z3 := hexT_size bs
    have q4 := numText2S og hok.origin
    have z4 := numT_size21 hok.origin
    have h1 := hok.bytes
    dsimp only at z4 h1
    obtain ⟨u, hu⟩ : ∃ u, showL n (l.take j) = u := ⟨_, rfl⟩
    rw [hu] at hsucc hpl ⊢
    obtain ⟨xs, hxs⟩ : ∃ xs, showL n (l.take (j + 1)) = xs := ⟨_, rfl⟩
    rw [hxs] at hsucc
    dsimp only at hsucc
    ((first|refine rG Γ hm ?_|refine rD Γ hm (by kernel_rfl) ?_);(conv=>whnf);repeat((first|refine aF ?_|refine aT ?_);(first|refine rG Γ hm ?_|refine rD Γ hm (by kernel_rfl) ?_);conv=>whnf))
    refine ⟨rfl, by omega, hj0, ?_⟩
    rw [hx]
    ((conv=>whnf);repeat((first|refine aF ?_|refine aT ?_);(first|refine rG Γ hm ?_|refine rD Γ hm (by kernel_rfl) ?_);conv=>whnf))
    refine call0 q1 F26 rfl rfl rfl rfl rfl ?_
    cases hp : placeB pt n.ports.length
    · rw [if_neg (by simp [hp])] at hsucc
      rw [List.append_nil] at hsucc
      ((first|refine rG Γ hm ?_|refine rD Γ hm (by kernel_rfl) ?_);(conv=>whnf);repeat((first|refine aF ?_|refine aT ?_);(first|refine rG Γ hm ?_|refine rD Γ hm (by kernel_rfl) ?_);conv=>whnf))
      refine ⟨by unfold I64; omega, ?_⟩
      ((conv=>whnf);repeat((first|refine aF ?_|refine aT ?_);(first|refine rG Γ hm ?_|refine rD Γ hm (by kernel_rfl) ?_);conv=>whnf))
      exact G_next [] hlt ⟨⟨rfl, rfl, rfl, rfl, rfl, rfl, rfl, rfl, rfl, rfl, trivial⟩, ⟨.inl (congrArg (Ob.row 1 byteSV) (hxs.trans hsucc)), rfl, trivial⟩, rfl, rfl⟩
    rw [if_pos hp, seenRow] at hsucc
    dsimp only at hsucc
    have hi := placeB_in hp
    have q2 := q2 hi
    have z2 := z2 hi
    generalize portText n pt = tp at *
    generalize hexT bs = tb at *
    generalize numT og = ta at *
    have q6 := lineJoinS [tp, ta, tb] (by simp) (by rw [sizes3]; omega)
    have z6 := joinT3_size tp ta tb
    generalize joinT [tp, ta, tb] ⟨#[32]⟩ = tj at *
    have e1 : tj.data.toList.length = tj.size := rfl
    rw [← List.append_assoc] at hsucc
    ((first|refine rG Γ hm ?_|refine rD Γ hm (by kernel_rfl) ?_);(conv=>whnf);repeat((first|refine aF ?_|refine aT ?_);(first|refine rG Γ hm ?_|refine rD Γ hm (by kernel_rfl) ?_);conv=>whnf))
    refine callD0 q2 F28 rfl rfl rfl (by kernel_rfl) rfl ?_
    ((first|refine rG Γ hm ?_|refine rD Γ hm (by kernel_rfl) ?_);(conv=>whnf);repeat((first|refine aF ?_|refine aT ?_);(first|refine rG Γ hm ?_|refine rD Γ hm (by kernel_rfl) ?_);conv=>whnf))
    refine callD0 q4 F29 rfl rfl rfl (by kernel_rfl) rfl ?_
    ((first|refine rG Γ hm ?_|refine rD Γ hm (by kernel_rfl) ?_);(conv=>whnf);repeat((first|refine aF ?_|refine aT ?_);(first|refine rG Γ hm ?_|refine rD Γ hm (by kernel_rfl) ?_);conv=>whnf))
    refine callD0 q3 F30 rfl rfl rfl (by kernel_rfl) rfl ?_
    ((first|refine rG Γ hm ?_|refine rD Γ hm (by kernel_rfl) ?_);(conv=>whnf);repeat((first|refine aF ?_|refine aT ?_);(first|refine rG Γ hm ?_|refine rD Γ hm (by kernel_rfl) ?_);conv=>whnf))
    refine callDK [35] q6 F27 rfl (.cons (.lit rfl rfl rfl) .nil) rfl (by kernel_rfl) rfl ?_
    ((first|refine rG Γ hm ?_|refine rD Γ hm (by kernel_rfl) ?_);(conv=>whnf);repeat((first|refine aF ?_|refine aT ?_);(first|refine rG Γ hm ?_|refine rD Γ hm (by kernel_rfl) ?_);conv=>whnf))
    refine stepD (good_appendS Γ.toTy 37 rfl rfl rfl rfl rfl rfl rfl (.row rfl) rfl (by simp) (by omega) (by omega)) (by kernel_rfl) rfl ?_
    ((first|refine rG Γ hm ?_|refine rD Γ hm (by kernel_rfl) ?_);(conv=>whnf);repeat((first|refine aF ?_|refine aT ?_);(first|refine rG Γ hm ?_|refine rD Γ hm (by kernel_rfl) ?_);conv=>whnf))
    refine stepD (good_appendT Γ.toTy 39 rfl rfl rfl rfl rfl (.row rfl) (.lit (e := byteSV) (l := [10]) rfl rfl) (by simp) (by simp; omega) (by simp; omega)) (by kernel_rfl) rfl ?_
    ((first|refine rG Γ hm ?_|refine rD Γ hm (by kernel_rfl) ?_);(conv=>whnf);repeat((first|refine aF ?_|refine aT ?_);(first|refine rG Γ hm ?_|refine rD Γ hm (by kernel_rfl) ?_);conv=>whnf))
    refine ⟨(by kernel_rfl), ?_⟩
    ((conv=>whnf);repeat((first|refine aF ?_|refine aT ?_);(first|refine rG Γ hm ?_|refine rD Γ hm (by kernel_rfl) ?_);conv=>whnf))
    refine ⟨by unfold I64; omega, ?_⟩
    ((conv=>whnf);repeat((first|refine aF ?_|refine aT ?_);(first|refine rG Γ hm ?_|refine rD Γ hm (by kernel_rfl) ?_);conv=>whnf))
    exact G_next [(1000, 39)] hlt ⟨⟨rfl, rfl, rfl, rfl, rfl, rfl, rfl, rfl, rfl, rfl, trivial⟩, ⟨.inl (congrArg (Ob.row 1 byteSV) (hxs.trans hsucc)), rfl, trivial⟩, rfl, rfl⟩
  · have hje : j = l.length := by have := of_decide_eq_false h; omega
    subst hje
    rw [List.take_length]
    refine G_data 1000 rfl ?_
    ((first|refine rG Γ hm ?_|refine rD Γ hm (by kernel_rfl) ?_);(conv=>whnf);repeat((first|refine aF ?_|refine aT ?_);(first|refine rG Γ hm ?_|refine rD Γ hm (by kernel_rfl) ?_);conv=>whnf))
    exact done0 rfl (.cons .tmp .nil) rfl rfl

theorem ref39ShowS (n : Net) (hn : n.Fin) (hnm : Named n) (l : List SeenM) (hl : l.length ≤ 1000) (hs : ∀ x ∈ l, SeenOK x) :
    Sy.Spec Tryz.prog 15 [netSV n, .sl 3 seenSV l] [] (strSV (mkT (showT n l))) [] := contract Γ hm 100 F15 Tryz.ntmps15 rfl fun F hF => by
  have hres := showT.eq_1 n l
  generalize showT n l = res at *
  have hr := ref15RightS n hn
  ((conv=>whnf);repeat((first|refine aF ?_|refine aT ?_);(first|refine rG Γ hm ?_|refine rD Γ hm (by kernel_rfl) ?_);conv=>whnf))
  refine G_box 2 8 (netSV n) rfl rfl rfl ?_
  cases hb : netRightB n
  · rw [hb] at hr
    rw [if_pos hb] at hres
    subst hres
    refine G_count 0 (fun j => [(1, .sl 3 seenSV l), (2, .ref 8 (netSV n) 0), (5, strSV ⟨#[]⟩), (6, intSV j)]) (fun _ => []) [] ⟨⟨rfl, rfl, rfl, rfl, rfl, rfl, rfl, rfl, trivial⟩, trivial, rfl, rfl⟩ ?_
    intro j hj
    obtain rfl : j = 0 := by omega
    ((first|refine rG Γ hm ?_|refine rD Γ hm (by kernel_rfl) ?_);(conv=>whnf);repeat((first|refine aF ?_|refine aT ?_);(first|refine rG Γ hm ?_|refine rD Γ hm (by kernel_rfl) ?_);conv=>whnf))
    refine ⟨fun h => ?_, fun h => ?_⟩
    · ((first|refine rG Γ hm ?_|refine rD Γ hm (by kernel_rfl) ?_);(conv=>whnf);repeat((first|refine aF ?_|refine aT ?_);(first|refine rG Γ hm ?_|refine rD Γ hm (by kernel_rfl) ?_);conv=>whnf))
      refine call0 hr F20 rfl rfl rfl rfl rfl ?_
      ((first|refine rG Γ hm ?_|refine rD Γ hm (by kernel_rfl) ?_);(conv=>whnf);repeat((first|refine aF ?_|refine aT ?_);(first|refine rG Γ hm ?_|refine rD Γ hm (by kernel_rfl) ?_);conv=>whnf))
      exact done0 rfl (.cons .tmp .nil) rfl rfl
    · ((first|refine rG Γ hm ?_|refine rD Γ hm (by kernel_rfl) ?_);(conv=>whnf);repeat((first|refine aF ?_|refine aT ?_);(first|refine rG Γ hm ?_|refine rD Γ hm (by kernel_rfl) ?_);conv=>whnf))
      exact done0 rfl (.cons .tmp .nil) rfl rfl
  rw [hb] at hr
  rw [if_neg (by simp [hb])] at hres
  subst hres
  refine G_count l.length (fun j => [(1, .sl 3 seenSV l), (2, .ref 8 (netSV n) 0), (5, strSV (mkT (showL n (l.take j)))), (6, intSV j)]) (fun _ => []) [] ⟨⟨rfl, rfl, rfl, rfl, rfl, rfl, rfl, rfl, trivial⟩, trivial, rfl, rfl⟩ ?_
  intro j hj
  ((first|refine rG Γ hm ?_|refine rD Γ hm (by kernel_rfl) ?_);(conv=>whnf);repeat((first|refine aF ?_|refine aT ?_);(first|refine rG Γ hm ?_|refine rD Γ hm (by kernel_rfl) ?_);conv=>whnf))
  refine ⟨fun h => ?_, fun h => ?_⟩
  · have hlt : j < l.length := by simpa using h
    have hj0 : ((j : Nat) : Int).toNat < l.length := by simpa using hlt
    have hsucc := showL_succ n l hlt
    have hpl := showL_le hb hnm (l.take j) (fun x hx => hs x (List.mem_of_mem_take hx))
    have hps := mkT_size (showL n (l.take j))
    have htl : (l.take j).length ≤ 1000 := by rw [List.length_take]; omega
    have hok := hs _ (List.getElem_mem hlt)
    obtain ⟨x, hx⟩ : ∃ x, l[((j : Nat) : Int).toNat]'hj0 = x := ⟨_, rfl⟩
    have hx' : l[j] = x := hx
    rw [hx'] at hsucc hok
    rw [seenB] at hsucc
    obtain ⟨pt, og, bs⟩ := x
    have q1 := ref15PlaceS pt n.ports.length
    have q2 := fun hi => ref39PortS n hb hnm pt hi
    have z2 := fun hi => portText_size hb hnm (i := pt) hi
    have q3 := ref39BytesS bs (by have := hok.bytes; dsimp only at this; omega)
    have z3 := hexT_size bs
    have q4 := refNumText2S og hok.origin
    have z4 := numT_size21 hok.origin
    have h1 := hok.bytes
    dsimp only at z4 h1
    have hsucc := congrArg mkT hsucc
    rw [← mkT_append] at hsucc
    obtain ⟨u, hu⟩ : ∃ u, mkT (showL n (l.take j)) = u := ⟨_, rfl⟩
    rw [hu] at hsucc hps ⊢
    obtain ⟨xs, hxs⟩ : ∃ xs, mkT (showL n (l.take (j + 1))) = xs := ⟨_, rfl⟩
    rw [hxs] at hsucc
    dsimp only at hsucc
    ((first|refine rG Γ hm ?_|refine rD Γ hm (by kernel_rfl) ?_);(conv=>whnf);repeat((first|refine aF ?_|refine aT ?_);(first|refine rG Γ hm ?_|refine rD Γ hm (by kernel_rfl) ?_);conv=>whnf))
    refine call0 hr F20 rfl rfl rfl rfl rfl ?_
    ((first|refine rG Γ hm ?_|refine rD Γ hm (by kernel_rfl) ?_);(conv=>whnf);repeat((first|refine aF ?_|refine aT ?_);(first|refine rG Γ hm ?_|refine rD Γ hm (by kernel_rfl) ?_);conv=>whnf))
    refine ⟨rfl, by omega, hj0, ?_⟩
    rw [hx]
    ((conv=>whnf);repeat((first|refine aF ?_|refine aT ?_);(first|refine rG Γ hm ?_|refine rD Γ hm (by kernel_rfl) ?_);conv=>whnf))
    refine callD0 q1 F31 rfl rfl rfl (by kernel_rfl) rfl ?_
    cases hp : placeB pt n.ports.length
    · rw [if_neg (by simp [hp])] at hsucc
      have e0 : u ++ mkT [] = u := by rw [← mkT_bytes u, mkT_append, List.append_nil]
      rw [e0] at hsucc
      ((first|refine rG Γ hm ?_|refine rD Γ hm (by kernel_rfl) ?_);(conv=>whnf);repeat((first|refine aF ?_|refine aT ?_);(first|refine rG Γ hm ?_|refine rD Γ hm (by kernel_rfl) ?_);conv=>whnf))
      refine ⟨(by kernel_rfl), ?_⟩
      ((conv=>whnf);repeat((first|refine aF ?_|refine aT ?_);(first|refine rG Γ hm ?_|refine rD Γ hm (by kernel_rfl) ?_);conv=>whnf))
      refine ⟨by unfold I64; omega, ?_⟩
      ((conv=>whnf);repeat((first|refine aF ?_|refine aT ?_);(first|refine rG Γ hm ?_|refine rD Γ hm (by kernel_rfl) ?_);conv=>whnf))
      exact G_next [] hlt ⟨⟨rfl, rfl, rfl, rfl, congrArg strSV (hxs.trans hsucc), rfl, rfl, rfl, trivial⟩, trivial, rfl, rfl⟩
    rw [if_pos hp, ← mkT_append, mkT_bytes, seenRow] at hsucc
    dsimp only at hsucc
    rw [join3s] at hsucc
    have hi := placeB_in hp
    have q2 := q2 hi
    have z2 := z2 hi
    generalize portText n pt = tp at *
    generalize hexT bs = tb at *
    generalize numT og = ta at *
    have e10 : mkT [10] = ⟨#[10]⟩ := rfl
    have y1 := size_app u tp
    have y2 := size_app (u ++ tp) ⟨#[32]⟩
    have y3 := size_app (u ++ tp ++ ⟨#[32]⟩) ta
    have y4 := size_app (u ++ tp ++ ⟨#[32]⟩ ++ ta) ⟨#[32]⟩
    have y5 := size_app (u ++ tp ++ ⟨#[32]⟩ ++ ta ++ ⟨#[32]⟩) tb
    have c32 : (⟨#[32]⟩ : ByteArray).size = 1 := rfl
    have hx1 : (l[((j : Nat) : Int).toNat]'hj0).port = pt := congrArg SeenM.port hx
    have hx2 : (l[((j : Nat) : Int).toNat]'hj0).origin = og := congrArg SeenM.origin hx
    have hx3 : (l[((j : Nat) : Int).toNat]'hj0).bytes = bs := congrArg SeenM.bytes hx
    rw [← hx1] at q2
    rw [← hx2] at q4
    rw [← hx3] at q3
    ((first|refine rG Γ hm ?_|refine rD Γ hm (by kernel_rfl) ?_);(conv=>whnf);repeat((first|refine aF ?_|refine aT ?_);(first|refine rG Γ hm ?_|refine rD Γ hm (by kernel_rfl) ?_);conv=>whnf))
    refine ⟨(by kernel_rfl), ?_⟩
    ((conv=>whnf);repeat((first|refine aF ?_|refine aT ?_);(first|refine rG Γ hm ?_|refine rD Γ hm (by kernel_rfl) ?_);conv=>whnf))
    refine ⟨rfl, by omega, hj0, ?_⟩
    ((conv=>whnf);repeat((first|refine aF ?_|refine aT ?_);(first|refine rG Γ hm ?_|refine rD Γ hm (by kernel_rfl) ?_);conv=>whnf))
    refine callD0 q2 F32 rfl rfl rfl (by kernel_rfl) rfl ?_
    ((first|refine rG Γ hm ?_|refine rD Γ hm (by kernel_rfl) ?_);(conv=>whnf);repeat((first|refine aF ?_|refine aT ?_);(first|refine rG Γ hm ?_|refine rD Γ hm (by kernel_rfl) ?_);conv=>whnf))
    refine ⟨by omega, ?_⟩
    ((conv=>whnf);repeat((first|refine aF ?_|refine aT ?_);(first|refine rG Γ hm ?_|refine rD Γ hm (by kernel_rfl) ?_);conv=>whnf))
    refine ⟨by show (u ++ tp : ByteArray).size + 1 ≤ _; omega, ?_⟩
    ((conv=>whnf);repeat((first|refine aF ?_|refine aT ?_);(first|refine rG Γ hm ?_|refine rD Γ hm (by kernel_rfl) ?_);conv=>whnf))
    refine ⟨rfl, by omega, hj0, ?_⟩
    ((conv=>whnf);repeat((first|refine aF ?_|refine aT ?_);(first|refine rG Γ hm ?_|refine rD Γ hm (by kernel_rfl) ?_);conv=>whnf))
    refine callD0 q4 F33 rfl rfl rfl (by kernel_rfl) rfl ?_
    ((first|refine rG Γ hm ?_|refine rD Γ hm (by kernel_rfl) ?_);(conv=>whnf);repeat((first|refine aF ?_|refine aT ?_);(first|refine rG Γ hm ?_|refine rD Γ hm (by kernel_rfl) ?_);conv=>whnf))
    refine ⟨by show (u ++ tp ++ ⟨#[32]⟩ : ByteArray).size + _ ≤ _; omega, ?_⟩
    ((conv=>whnf);repeat((first|refine aF ?_|refine aT ?_);(first|refine rG Γ hm ?_|refine rD Γ hm (by kernel_rfl) ?_);conv=>whnf))
    refine ⟨by show (u ++ tp ++ ⟨#[32]⟩ ++ ta : ByteArray).size + 1 ≤ _; omega, ?_⟩
    ((conv=>whnf);repeat((first|refine aF ?_|refine aT ?_);(first|refine rG Γ hm ?_|refine rD Γ hm (by kernel_rfl) ?_);conv=>whnf))
    refine ⟨rfl, by omega, hj0, ?_⟩
    ((conv=>whnf);repeat((first|refine aF ?_|refine aT ?_);(first|refine rG Γ hm ?_|refine rD Γ hm (by kernel_rfl) ?_);conv=>whnf))
    refine callD0 q3 F34 rfl rfl rfl (by kernel_rfl) rfl ?_
    ((first|refine rG Γ hm ?_|refine rD Γ hm (by kernel_rfl) ?_);(conv=>whnf);repeat((first|refine aF ?_|refine aT ?_);(first|refine rG Γ hm ?_|refine rD Γ hm (by kernel_rfl) ?_);conv=>whnf))
    refine ⟨by show (u ++ tp ++ ⟨#[32]⟩ ++ ta ++ ⟨#[32]⟩ : ByteArray).size + _ ≤ _; omega, ?_⟩
    ((conv=>whnf);repeat((first|refine aF ?_|refine aT ?_);(first|refine rG Γ hm ?_|refine rD Γ hm (by kernel_rfl) ?_);conv=>whnf))
    refine ⟨by show (u ++ tp ++ ⟨#[32]⟩ ++ ta ++ ⟨#[32]⟩ ++ tb : ByteArray).size + 1 ≤ _; omega, ?_⟩
    ((conv=>whnf);repeat((first|refine aF ?_|refine aT ?_);(first|refine rG Γ hm ?_|refine rD Γ hm (by kernel_rfl) ?_);conv=>whnf))
    refine ⟨(by kernel_rfl), ?_⟩
    ((conv=>whnf);repeat((first|refine aF ?_|refine aT ?_);(first|refine rG Γ hm ?_|refine rD Γ hm (by kernel_rfl) ?_);conv=>whnf))
    refine ⟨by unfold I64; omega, ?_⟩
    ((conv=>whnf);repeat((first|refine aF ?_|refine aT ?_);(first|refine rG Γ hm ?_|refine rD Γ hm (by kernel_rfl) ?_);conv=>whnf))
    refine G_next [] hlt ⟨⟨rfl, rfl, rfl, rfl, congrArg strSV ?_, rfl, rfl, rfl, trivial⟩, trivial, rfl, rfl⟩
    rw [hxs, hsucc, e10]
    apply ext_list
    simp
  · have hje : j = l.length := by have := of_decide_eq_false h; omega
    subst hje
    rw [List.take_length]
    ((first|refine rG Γ hm ?_|refine rD Γ hm (by kernel_rfl) ?_);(conv=>whnf);repeat((first|refine aF ?_|refine aT ?_);(first|refine rG Γ hm ?_|refine rD Γ hm (by kernel_rfl) ?_);conv=>whnf))
    exact done0 rfl (.cons .tmp .nil) rfl rfl

end Go.Sy.YtjomehmhkcnadaaGreatDoor
