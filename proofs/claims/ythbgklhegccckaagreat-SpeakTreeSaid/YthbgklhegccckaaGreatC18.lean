/-
  Bridges that tell one another: the plain model of a talk. Contracts: messages held against one another, choices. Contracts: slices that are cloned; a net's copy. Contracts: ids; unlike ones.
-/
import Derived.Test.YthbgklhegccckaaGreatC17
import Derived.Test.YthbgklhegccckaaGreatC8
import Derived.Test.YthbgklhegccckaaGreatC4
import Derived.Test.YthbgklhegccckaaGreatC9

namespace Go.Sy.YthbgklhegccckaaGreat
open Go.Proofs

instance : Inhabited Msg := ⟨zeroMsg⟩
structure Heard where
  is : Bool
  msg : Msg
  deriving DecidableEq
instance : Inhabited Heard := ⟨⟨false, zeroMsg⟩⟩
def heardSV (h : Heard) : SV := .agg [boolSV h.is, boolSV h.msg.ch, boolSV h.msg.ak, u64SV h.msg.root, u64SV h.msg.bridge, intSV h.msg.cost, intSV h.msg.port, intSV h.msg.age, intSV h.msg.mx, intSV h.msg.hello, intSV h.msg.wait]

/-- Is a message ahead of another one? -/
def betterB (a b : Msg) : Bool :=
  if a.root ≠ b.root then decide (a.root < b.root) else if a.cost ≠ b.cost then decide (a.cost < b.cost) else if a.bridge ≠ b.bridge then decide (a.bridge < b.bridge) else decide (a.port < b.port)

def idD (d : Device) : Nat := idN d.prio.toNat d.mac.toNat
def idOK (d : Device) : Bool := decide (0 ≤ d.prio ∧ d.prio < 65536) && decide (0 ≤ d.mac ∧ d.mac < 281474976710656)
def idsL (n : Net) : List Nat := n.devices.map idD
def unlikeB (n : Net) : Bool := netRightB n && costsB n && n.devices.all idOK && decide (idsL n).Nodup
def natU (x : Nat) : SV := u64SV x

/-- Has a port a link that is up? -/
def liveB (n : Net) (up : List Bool) (i : Int) : Bool := decide (0 ≤ i) && decide (i < n.ports.length) && decide (0 ≤ (nth n.ports i).link) && up.getD (nth n.ports i).link.toNat false

structure Choice where
  root : Nat
  cost : Int
  bridge : Nat
  src : Int
  port : Int
instance : Inhabited Choice := ⟨⟨0, 0, 0, 0, 0⟩⟩
def choiceSV (c : Choice) : SV := .agg [u64SV c.root, intSV c.cost, u64SV c.bridge, intSV c.src, intSV c.port]
def ownI (c : Choice) : Int := if c.port < 0 then 0 else 1
def aheadI (a b : Choice) : Int := orI [cmpI a.root b.root, cmpI a.cost b.cost, cmpI (ownI a) (ownI b), cmpI a.bridge b.bridge, cmpI a.src b.src, cmpI a.port b.port]
def ltC (a b : Choice) : Bool := decide (aheadI a b < 0)
def stepC (m x : Choice) : Choice := if ltC x m then x else m

theorem ltC_eq (a b : Choice) : ltC a b = if a.root ≠ b.root then decide (a.root < b.root) else if a.cost ≠ b.cost then decide (a.cost < b.cost) else if ownI a ≠ ownI b then decide (ownI a < ownI b) else
    if a.bridge ≠ b.bridge then decide (a.bridge < b.bridge) else if a.src ≠ b.src then decide (a.src < b.src) else decide (a.port < b.port) := by
  rw [ltC, aheadI, orI_cmp, orI_cmp, orI_cmp, orI_cmp, orI_cmp, orI_cmp]
  simp only [ne_eq, Int.ofNat_inj, Int.ofNat_lt]
  by_cases h : a.port = b.port
  · simp [h, orI]
  · simp [h]

/-- What a device may choose by one of its ports. -/
def candC (n : Net) (up : List Bool) (hs : List Heard) (dev : Int) (i : Nat) : Option Choice :=
  let p := nth n.ports i
  let h := nth hs i
  if p.dev = dev ∧ h.is = true ∧ liveB n up i = true then some ⟨h.msg.root, h.msg.cost + p.cost, h.msg.bridge, h.msg.port, i⟩ else none
def ownC (n : Net) (dev : Int) : Choice := ⟨idD (nth n.devices dev), 0, 0, 0, -1⟩
def candsL (n : Net) (up : List Bool) (hs : List Heard) (dev : Int) (j : Nat) : List Choice := (List.range j).filterMap (candC n up hs dev)
def bestC (n : Net) (up : List Bool) (hs : List Heard) (dev : Int) (j : Nat) : Choice := (candsL n up hs dev j).foldl stepC (ownC n dev)

theorem candsL_succ (n : Net) (up : List Bool) (hs : List Heard) (dev : Int) (j : Nat) : candsL n up hs dev (j + 1) = candsL n up hs dev j ++ (candC n up hs dev j).toList := by
  rw [candsL, List.range_succ, List.filterMap_append]
  simp only [List.filterMap_cons, List.filterMap_nil]
  cases candC n up hs dev j <;> rfl
theorem candsL_length (n : Net) (up : List Bool) (hs : List Heard) (dev : Int) (j : Nat) : (candsL n up hs dev j).length ≤ j := by
  have := List.length_filterMap_le (candC n up hs dev) (List.range j)
  simpa [candsL] using this
theorem bestC_succ (n : Net) (up : List Bool) (hs : List Heard) (dev : Int) (j : Nat) : bestC n up hs dev (j + 1) = match candC n up hs dev j with | some x => stepC (bestC n up hs dev j) x | none => bestC n up hs dev j := by
  rw [bestC, candsL_succ, List.foldl_append]
  cases candC n up hs dev j <;> rfl

def bestOf (n : Net) (up : List Bool) (hs : List Heard) (dev : Int) : Choice := bestC n up hs dev n.ports.length
def pdevI (n : Net) (i : Int) : Int := (nth n.ports i).dev

/-- What a port would tell. -/
def wouldM (n : Net) (up : List Bool) (hs : List Heard) (i : Int) : Msg :=
  let c := bestOf n up hs (pdevI n i)
  ⟨false, false, c.root, idD (nth n.devices (pdevI n i)), c.cost, i, 0, 5120, 512, 3840⟩
def roleI (n : Net) (up : List Bool) (hs : List Heard) (i : Int) : Int :=
  if liveB n up i = false then 0 else if (bestOf n up hs (pdevI n i)).port = i then 1
  else if (nth hs i).is = false ∨ betterB (nth hs i).msg (wouldM n up hs i) = false then 2 else 3
/-- What a port tells. -/
def tellO (n : Net) (up : List Bool) (hs : List Heard) (i : Int) : Option Msg :=
  if liveB n up i = true ∧ roleI n up hs i = 2 ∧ (wouldM n up hs i).cost < 4294967296 then some (wouldM n up hs i) else none
def takesB (old : Heard) (m : Msg) : Bool := !old.is || betterB m old.msg || (m.bridge == old.msg.bridge && m.port == old.msg.port)
def hearL (n : Net) (up : List Bool) (hs : List Heard) (i : Int) (m : Msg) : List Heard :=
  if liveB n up i = true ∧ takesB (nth hs i) m = true then hs.set i.toNat ⟨true, m⟩ else hs
def toldL (n : Net) (up : List Bool) (hs : List Heard) : List (Option Msg) := (List.range n.ports.length).map fun i : Nat => tellO n up hs i
def hearO (n : Net) (up : List Bool) (told : List (Option Msg)) (hs : List Heard) (i : Nat) : List Heard :=
  match told.getD i none with | some m => hearL n up hs (otherI n.links i) m | none => hs
def hearN (n : Net) (up : List Bool) (told : List (Option Msg)) (hs : List Heard) (j : Nat) : List Heard := (List.range j).foldl (hearO n up told) hs
def roundL (n : Net) (up : List Bool) (hs : List Heard) : List Heard := hearN n up (toldL n up hs) hs n.ports.length
def rolesH (n : Net) (up : List Bool) (hs : List Heard) : List Int := (List.range n.ports.length).map fun i : Nat => roleI n up hs i
def settleF (n : Net) (up : List Bool) : Nat → List Heard → Nat → List Heard × Nat
  | 0, hs, r => (hs, r)
  | k + 1, hs, r => if roundL n up hs = hs then (hs, r) else settleF n up k (roundL n up hs) (r + 1)
def start (n : Net) : List Heard := List.replicate n.ports.length ⟨false, zeroMsg⟩
def settleT (n : Net) (up : List Bool) : List Heard × Nat := settleF n up 100 (start n) 0

theorem hearL_length (n : Net) (up : List Bool) (hs : List Heard) (i : Int) (m : Msg) : (hearL n up hs i m).length = hs.length := by
  unfold hearL
  split <;> simp
theorem hearN_length (n : Net) (up : List Bool) (told : List (Option Msg)) (hs : List Heard) : ∀ j, (hearN n up told hs j).length = hs.length
  | 0 => rfl
  | j + 1 => by
    rw [hearN, List.range_succ, List.foldl_append]
    show (hearO n up told (hearN n up told hs j) j).length = _
    unfold hearO
    split
    · rw [hearL_length, hearN_length n up told hs j]
    · exact hearN_length n up told hs j
theorem hearN_succ (n : Net) (up : List Bool) (told : List (Option Msg)) (hs : List Heard) (j : Nat) : hearN n up told hs (j + 1) = hearO n up told (hearN n up told hs j) j := by
  rw [hearN, List.range_succ, List.foldl_append]
  rfl

/-- A message that may be in a talk. -/
structure MsgOK (m : Msg) : Prop where
  ch : m.ch = false
  root : m.root < 18446744073709551616
  bridge : m.bridge < 18446744073709551616
  cost : 0 ≤ m.cost ∧ m.cost < 4294967296
  port : 0 ≤ m.port ∧ m.port < 65536
def AllOK (hs : List Heard) : Prop := ∀ h ∈ hs, MsgOK h.msg
end Go.Sy.YthbgklhegccckaaGreat

namespace Go.Sy.YthbgklhegccckaaGreat
open Go.Proofs

attribute [local irreducible] Go.Sy.G Go.Sy.DR
set_option maxRecDepth 100000
set_option maxHeartbeats 4000000

theorem betterS (a b : Msg) : Sy.Spec Tryz.prog 27 [msgSV a, msgSV b] [] (boolSV (betterB a b)) [] := contract Γ hm 100 F27 Tryz.ntmps27 rfl fun F hF => by
  ((conv => whnf); repeat ((first | refine aF ?_ | refine aT ?_); (first | refine run Γ hm 400 ?_ | refine runD Γ hm 400 (by kernel_rfl) ?_); conv => whnf))
  (repeat' (first | (refine ⟨fun h => ?_, fun h => ?_⟩ <;> (repeat (first | (simp only [decide_eq_true_eq] at h) | (simp only [decide_eq_false_iff_not] at h) | (simp only [beq_iff_eq] at h) | (simp only [beq_eq_false_iff_ne] at h) | (simp only [bne_iff_ne] at h) | (simp only [bne_eq_false_iff_eq] at h) | (simp only [Bool.and_eq_true] at h) | (simp only [Bool.or_eq_true] at h) | (simp only [Bool.and_eq_false_iff] at h) | (simp only [Bool.or_eq_false_iff] at h) | (simp only [Bool.not_eq_true'] at h) | (simp only [Bool.not_eq_false'] at h) | (simp only [Bool.not_eq_eq_eq_not] at h) | (simp only [Bool.not_true] at h) | (simp only [Bool.not_false] at h))) <;> ((first | refine run Γ hm 400 ?_ | refine runD Γ hm 400 (by kernel_rfl) ?_); (conv => whnf); repeat ((first | refine aF ?_ | refine aT ?_); (first | refine run Γ hm 400 ?_ | refine runD Γ hm 400 (by kernel_rfl) ?_); conv => whnf))) | (refine done0 rfl (.cons .tmp .nil) ?_ rfl) | (refine ⟨(by kernel_rfl), ?_⟩; ((conv => whnf); repeat ((first | refine aF ?_ | refine aT ?_); (first | refine run Γ hm 400 ?_ | refine runD Γ hm 400 (by kernel_rfl) ?_); conv => whnf))) | (refine ⟨by (first | (unfold I64; omega) | omega | (simp only [Int.toNat_natCast]; omega) | done), by (first | (unfold I64; omega) | omega | (simp only [Int.toNat_natCast]; omega) | done), ?_⟩; ((conv => whnf); repeat ((first | refine aF ?_ | refine aT ?_); (first | refine run Γ hm 400 ?_ | refine runD Γ hm 400 (by kernel_rfl) ?_); conv => whnf))) | (refine ⟨by (first | (unfold I64; omega) | omega | (simp only [Int.toNat_natCast]; omega) | done), ?_⟩; ((conv => whnf); repeat ((first | refine aF ?_ | refine aT ?_); (first | refine run Γ hm 400 ?_ | refine runD Γ hm 400 (by kernel_rfl) ?_); conv => whnf))) | (refine call0 (compareU64S a.root b.root) F69 rfl rfl rfl rfl rfl ?_; ((first | refine run Γ hm 400 ?_ | refine runD Γ hm 400 (by kernel_rfl) ?_); (conv => whnf); repeat ((first | refine aF ?_ | refine aT ?_); (first | refine run Γ hm 400 ?_ | refine runD Γ hm 400 (by kernel_rfl) ?_); conv => whnf))) | (refine callD0 (compareU64S a.root b.root) F69 rfl rfl rfl (by kernel_rfl) rfl ?_; ((first | refine run Γ hm 400 ?_ | refine runD Γ hm 400 (by kernel_rfl) ?_); (conv => whnf); repeat ((first | refine aF ?_ | refine aT ?_); (first | refine run Γ hm 400 ?_ | refine runD Γ hm 400 (by kernel_rfl) ?_); conv => whnf))) | (refine call0 (compareIntS a.cost b.cost) F70 rfl rfl rfl rfl rfl ?_; ((first | refine run Γ hm 400 ?_ | refine runD Γ hm 400 (by kernel_rfl) ?_); (conv => whnf); repeat ((first | refine aF ?_ | refine aT ?_); (first | refine run Γ hm 400 ?_ | refine runD Γ hm 400 (by kernel_rfl) ?_); conv => whnf))) | (refine callD0 (compareIntS a.cost b.cost) F70 rfl rfl rfl (by kernel_rfl) rfl ?_; ((first | refine run Γ hm 400 ?_ | refine runD Γ hm 400 (by kernel_rfl) ?_); (conv => whnf); repeat ((first | refine aF ?_ | refine aT ?_); (first | refine run Γ hm 400 ?_ | refine runD Γ hm 400 (by kernel_rfl) ?_); conv => whnf))) | (refine call0 (compareU64S a.bridge b.bridge) F69 rfl rfl rfl rfl rfl ?_; ((first | refine run Γ hm 400 ?_ | refine runD Γ hm 400 (by kernel_rfl) ?_); (conv => whnf); repeat ((first | refine aF ?_ | refine aT ?_); (first | refine run Γ hm 400 ?_ | refine runD Γ hm 400 (by kernel_rfl) ?_); conv => whnf))) | (refine callD0 (compareU64S a.bridge b.bridge) F69 rfl rfl rfl (by kernel_rfl) rfl ?_; ((first | refine run Γ hm 400 ?_ | refine runD Γ hm 400 (by kernel_rfl) ?_); (conv => whnf); repeat ((first | refine aF ?_ | refine aT ?_); (first | refine run Γ hm 400 ?_ | refine runD Γ hm 400 (by kernel_rfl) ?_); conv => whnf))) | (refine call0 (compareIntS a.port b.port) F70 rfl rfl rfl rfl rfl ?_; ((first | refine run Γ hm 400 ?_ | refine runD Γ hm 400 (by kernel_rfl) ?_); (conv => whnf); repeat ((first | refine aF ?_ | refine aT ?_); (first | refine run Γ hm 400 ?_ | refine runD Γ hm 400 (by kernel_rfl) ?_); conv => whnf))) | (refine callD0 (compareIntS a.port b.port) F70 rfl rfl rfl (by kernel_rfl) rfl ?_; ((first | refine run Γ hm 400 ?_ | refine runD Γ hm 400 (by kernel_rfl) ?_); (conv => whnf); repeat ((first | refine aF ?_ | refine aT ?_); (first | refine run Γ hm 400 ?_ | refine runD Γ hm 400 (by kernel_rfl) ?_); conv => whnf))) | (refine callDK [25] (orS [cmpI a.root b.root, cmpI a.cost b.cost, cmpI a.bridge b.bridge, cmpI a.port b.port] (by simp [Short])) F68 rfl (.cons (.lit rfl rfl rfl) .nil) rfl (by kernel_rfl) rfl ?_; ((first | refine run Γ hm 400 ?_ | refine runD Γ hm 400 (by kernel_rfl) ?_); (conv => whnf); repeat ((first | refine aF ?_ | refine aT ?_); (first | refine run Γ hm 400 ?_ | refine runD Γ hm 400 (by kernel_rfl) ?_); conv => whnf)))))
  all_goals (refine congrArg boolSV ?_; clear hF)
  rw [orI_cmp, orI_cmp, orI_cmp, orI_cmp, betterB]
  simp only [ne_eq, Int.ofNat_inj, Int.ofNat_lt]
  by_cases h1 : a.port = b.port
  · simp [h1, orI]
  · simp [h1]

theorem ownS (c : Choice) : Sy.Spec Tryz.prog 144 [choiceSV c] [] (intSV (ownI c)) [] := contract Γ hm 100 F144 Tryz.ntmps144 rfl fun F hF => by
  ((conv => whnf); repeat ((first | refine aF ?_ | refine aT ?_); (first | refine run Γ hm 400 ?_ | refine runD Γ hm 400 (by kernel_rfl) ?_); conv => whnf))
  (repeat' (first | (refine ⟨fun h => ?_, fun h => ?_⟩ <;> (repeat (first | (simp only [decide_eq_true_eq] at h) | (simp only [decide_eq_false_iff_not] at h) | (simp only [beq_iff_eq] at h) | (simp only [beq_eq_false_iff_ne] at h) | (simp only [bne_iff_ne] at h) | (simp only [bne_eq_false_iff_eq] at h) | (simp only [Bool.and_eq_true] at h) | (simp only [Bool.or_eq_true] at h) | (simp only [Bool.and_eq_false_iff] at h) | (simp only [Bool.or_eq_false_iff] at h) | (simp only [Bool.not_eq_true'] at h) | (simp only [Bool.not_eq_false'] at h) | (simp only [Bool.not_eq_eq_eq_not] at h) | (simp only [Bool.not_true] at h) | (simp only [Bool.not_false] at h))) <;> ((first | refine run Γ hm 400 ?_ | refine runD Γ hm 400 (by kernel_rfl) ?_); (conv => whnf); repeat ((first | refine aF ?_ | refine aT ?_); (first | refine run Γ hm 400 ?_ | refine runD Γ hm 400 (by kernel_rfl) ?_); conv => whnf))) | (refine done0 rfl (.cons .tmp .nil) ?_ rfl) | (refine ⟨(by kernel_rfl), ?_⟩; ((conv => whnf); repeat ((first | refine aF ?_ | refine aT ?_); (first | refine run Γ hm 400 ?_ | refine runD Γ hm 400 (by kernel_rfl) ?_); conv => whnf))) | (refine ⟨by (first | (unfold I64; omega) | omega | (simp only [Int.toNat_natCast]; omega) | done), by (first | (unfold I64; omega) | omega | (simp only [Int.toNat_natCast]; omega) | done), ?_⟩; ((conv => whnf); repeat ((first | refine aF ?_ | refine aT ?_); (first | refine run Γ hm 400 ?_ | refine runD Γ hm 400 (by kernel_rfl) ?_); conv => whnf))) | (refine ⟨by (first | (unfold I64; omega) | omega | (simp only [Int.toNat_natCast]; omega) | done), ?_⟩; ((conv => whnf); repeat ((first | refine aF ?_ | refine aT ?_); (first | refine run Γ hm 400 ?_ | refine runD Γ hm 400 (by kernel_rfl) ?_); conv => whnf)))))
  all_goals (refine congrArg intSV ?_; clear hF; grind [ownI])

theorem aheadS (a b : Choice) : Sy.Spec Tryz.prog 124 [choiceSV a, choiceSV b] [] (intSV (aheadI a b)) [] := contract Γ hm 100 F124 Tryz.ntmps124 rfl fun F hF => by
  ((conv => whnf); repeat ((first | refine aF ?_ | refine aT ?_); (first | refine run Γ hm 400 ?_ | refine runD Γ hm 400 (by kernel_rfl) ?_); conv => whnf))
  (repeat' (first | (refine ⟨fun h => ?_, fun h => ?_⟩ <;> (repeat (first | (simp only [decide_eq_true_eq] at h) | (simp only [decide_eq_false_iff_not] at h) | (simp only [beq_iff_eq] at h) | (simp only [beq_eq_false_iff_ne] at h) | (simp only [bne_iff_ne] at h) | (simp only [bne_eq_false_iff_eq] at h) | (simp only [Bool.and_eq_true] at h) | (simp only [Bool.or_eq_true] at h) | (simp only [Bool.and_eq_false_iff] at h) | (simp only [Bool.or_eq_false_iff] at h) | (simp only [Bool.not_eq_true'] at h) | (simp only [Bool.not_eq_false'] at h) | (simp only [Bool.not_eq_eq_eq_not] at h) | (simp only [Bool.not_true] at h) | (simp only [Bool.not_false] at h))) <;> ((first | refine run Γ hm 400 ?_ | refine runD Γ hm 400 (by kernel_rfl) ?_); (conv => whnf); repeat ((first | refine aF ?_ | refine aT ?_); (first | refine run Γ hm 400 ?_ | refine runD Γ hm 400 (by kernel_rfl) ?_); conv => whnf))) | (refine done0 rfl (.cons .tmp .nil) ?_ rfl) | (refine ⟨(by kernel_rfl), ?_⟩; ((conv => whnf); repeat ((first | refine aF ?_ | refine aT ?_); (first | refine run Γ hm 400 ?_ | refine runD Γ hm 400 (by kernel_rfl) ?_); conv => whnf))) | (refine ⟨by (first | (unfold I64; omega) | omega | (simp only [Int.toNat_natCast]; omega) | done), by (first | (unfold I64; omega) | omega | (simp only [Int.toNat_natCast]; omega) | done), ?_⟩; ((conv => whnf); repeat ((first | refine aF ?_ | refine aT ?_); (first | refine run Γ hm 400 ?_ | refine runD Γ hm 400 (by kernel_rfl) ?_); conv => whnf))) | (refine ⟨by (first | (unfold I64; omega) | omega | (simp only [Int.toNat_natCast]; omega) | done), ?_⟩; ((conv => whnf); repeat ((first | refine aF ?_ | refine aT ?_); (first | refine run Γ hm 400 ?_ | refine runD Γ hm 400 (by kernel_rfl) ?_); conv => whnf))) | (refine call0 (compareU64S a.root b.root) F69 rfl rfl rfl rfl rfl ?_; ((first | refine run Γ hm 400 ?_ | refine runD Γ hm 400 (by kernel_rfl) ?_); (conv => whnf); repeat ((first | refine aF ?_ | refine aT ?_); (first | refine run Γ hm 400 ?_ | refine runD Γ hm 400 (by kernel_rfl) ?_); conv => whnf))) | (refine callD0 (compareU64S a.root b.root) F69 rfl rfl rfl (by kernel_rfl) rfl ?_; ((first | refine run Γ hm 400 ?_ | refine runD Γ hm 400 (by kernel_rfl) ?_); (conv => whnf); repeat ((first | refine aF ?_ | refine aT ?_); (first | refine run Γ hm 400 ?_ | refine runD Γ hm 400 (by kernel_rfl) ?_); conv => whnf))) | (refine call0 (compareIntS a.cost b.cost) F70 rfl rfl rfl rfl rfl ?_; ((first | refine run Γ hm 400 ?_ | refine runD Γ hm 400 (by kernel_rfl) ?_); (conv => whnf); repeat ((first | refine aF ?_ | refine aT ?_); (first | refine run Γ hm 400 ?_ | refine runD Γ hm 400 (by kernel_rfl) ?_); conv => whnf))) | (refine callD0 (compareIntS a.cost b.cost) F70 rfl rfl rfl (by kernel_rfl) rfl ?_; ((first | refine run Γ hm 400 ?_ | refine runD Γ hm 400 (by kernel_rfl) ?_); (conv => whnf); repeat ((first | refine aF ?_ | refine aT ?_); (first | refine run Γ hm 400 ?_ | refine runD Γ hm 400 (by kernel_rfl) ?_); conv => whnf))) | (refine call0 (compareU64S a.bridge b.bridge) F69 rfl rfl rfl rfl rfl ?_; ((first | refine run Γ hm 400 ?_ | refine runD Γ hm 400 (by kernel_rfl) ?_); (conv => whnf); repeat ((first | refine aF ?_ | refine aT ?_); (first | refine run Γ hm 400 ?_ | refine runD Γ hm 400 (by kernel_rfl) ?_); conv => whnf))) | (refine callD0 (compareU64S a.bridge b.bridge) F69 rfl rfl rfl (by kernel_rfl) rfl ?_; ((first | refine run Γ hm 400 ?_ | refine runD Γ hm 400 (by kernel_rfl) ?_); (conv => whnf); repeat ((first | refine aF ?_ | refine aT ?_); (first | refine run Γ hm 400 ?_ | refine runD Γ hm 400 (by kernel_rfl) ?_); conv => whnf))) | (refine call0 (compareIntS a.src b.src) F70 rfl rfl rfl rfl rfl ?_; ((first | refine run Γ hm 400 ?_ | refine runD Γ hm 400 (by kernel_rfl) ?_); (conv => whnf); repeat ((first | refine aF ?_ | refine aT ?_); (first | refine run Γ hm 400 ?_ | refine runD Γ hm 400 (by kernel_rfl) ?_); conv => whnf))) | (refine callD0 (compareIntS a.src b.src) F70 rfl rfl rfl (by kernel_rfl) rfl ?_; ((first | refine run Γ hm 400 ?_ | refine runD Γ hm 400 (by kernel_rfl) ?_); (conv => whnf); repeat ((first | refine aF ?_ | refine aT ?_); (first | refine run Γ hm 400 ?_ | refine runD Γ hm 400 (by kernel_rfl) ?_); conv => whnf))) | (refine call0 (compareIntS a.port b.port) F70 rfl rfl rfl rfl rfl ?_; ((first | refine run Γ hm 400 ?_ | refine runD Γ hm 400 (by kernel_rfl) ?_); (conv => whnf); repeat ((first | refine aF ?_ | refine aT ?_); (first | refine run Γ hm 400 ?_ | refine runD Γ hm 400 (by kernel_rfl) ?_); conv => whnf))) | (refine callD0 (compareIntS a.port b.port) F70 rfl rfl rfl (by kernel_rfl) rfl ?_; ((first | refine run Γ hm 400 ?_ | refine runD Γ hm 400 (by kernel_rfl) ?_); (conv => whnf); repeat ((first | refine aF ?_ | refine aT ?_); (first | refine run Γ hm 400 ?_ | refine runD Γ hm 400 (by kernel_rfl) ?_); conv => whnf))) | (refine call0 (compareIntS (ownI a) (ownI b)) F70 rfl rfl rfl rfl rfl ?_; ((first | refine run Γ hm 400 ?_ | refine runD Γ hm 400 (by kernel_rfl) ?_); (conv => whnf); repeat ((first | refine aF ?_ | refine aT ?_); (first | refine run Γ hm 400 ?_ | refine runD Γ hm 400 (by kernel_rfl) ?_); conv => whnf))) | (refine callD0 (compareIntS (ownI a) (ownI b)) F70 rfl rfl rfl (by kernel_rfl) rfl ?_; ((first | refine run Γ hm 400 ?_ | refine runD Γ hm 400 (by kernel_rfl) ?_); (conv => whnf); repeat ((first | refine aF ?_ | refine aT ?_); (first | refine run Γ hm 400 ?_ | refine runD Γ hm 400 (by kernel_rfl) ?_); conv => whnf))) | ((refine callDC ⟨⟨_, _, F144⟩, ownS a⟩ rfl rfl rfl rfl (by kernel_rfl) rfl ?_; ((first | refine run Γ hm 400 ?_ | refine runD Γ hm 400 (by kernel_rfl) ?_); (conv => whnf); repeat ((first | refine aF ?_ | refine aT ?_); (first | refine run Γ hm 400 ?_ | refine runD Γ hm 400 (by kernel_rfl) ?_); conv => whnf)))) | ((refine callDC ⟨⟨_, _, F144⟩, ownS b⟩ rfl rfl rfl rfl (by kernel_rfl) rfl ?_; ((first | refine run Γ hm 400 ?_ | refine runD Γ hm 400 (by kernel_rfl) ?_); (conv => whnf); repeat ((first | refine aF ?_ | refine aT ?_); (first | refine run Γ hm 400 ?_ | refine runD Γ hm 400 (by kernel_rfl) ?_); conv => whnf)))) | (refine callDK [38] (orS [cmpI a.root b.root, cmpI a.cost b.cost, cmpI (ownI a) (ownI b), cmpI a.bridge b.bridge, cmpI a.src b.src, cmpI a.port b.port] (by simp [Short])) F68 rfl (.cons (.lit rfl rfl rfl) .nil) rfl (by kernel_rfl) rfl ?_; ((first | refine run Γ hm 400 ?_ | refine runD Γ hm 400 (by kernel_rfl) ?_); (conv => whnf); repeat ((first | refine aF ?_ | refine aT ?_); (first | refine run Γ hm 400 ?_ | refine runD Γ hm 400 (by kernel_rfl) ?_); conv => whnf)))))
  all_goals rfl

theorem minS (c : Choice) (l : List Choice) (hl : l.length < 100000) : Sy.Spec Tryz.prog 123 [.sl 5 choiceSV (c :: l), .clo (.func 124) [] []] [] (choiceSV (l.foldl stepC c)) [] := contract Γ hm 100 F123 Tryz.ntmps123 rfl fun F hF => by
  have hlen : (c :: l).length = l.length + 1 := rfl
  ((conv => whnf); repeat ((first | refine aF ?_ | refine aT ?_); (first | refine run Γ hm 400 ?_ | refine runD Γ hm 400 (by kernel_rfl) ?_); conv => whnf))
  refine ⟨rfl, by decide, by simp, ?_⟩
  have e0 : (c :: l)[(0 : Int).toNat]'(by simp) = c := rfl
  ((conv => whnf); repeat ((first | refine aF ?_ | refine aT ?_); (first | refine run Γ hm 400 ?_ | refine runD Γ hm 400 (by kernel_rfl) ?_); conv => whnf))
  refine G_count l.length (fun j => [(0, .sl 5 choiceSV (c :: l)), (1, .clo (.func 124) [] []), (4, .ptr 4 0), (5, .ptr 5 0), (6, intSV ((j + 1 : Nat) : Int))]) (fun j => [(4, .box [u64SV 0, intSV 0, u64SV 0, intSV 0, intSV 0]), (5, .box [u64SV ((l.take j).foldl stepC c).root, intSV ((l.take j).foldl stepC c).cost, u64SV ((l.take j).foldl stepC c).bridge, intSV ((l.take j).foldl stepC c).src, intSV ((l.take j).foldl stepC c).port])]) []
    ⟨⟨rfl, rfl, rfl, rfl, rfl, rfl, rfl, rfl, rfl, rfl, trivial⟩, ⟨.inl rfl, rfl, .inl rfl, rfl, trivial⟩, rfl, rfl⟩ ?_
  intro j hj
  ((first | refine run Γ hm 400 ?_ | refine runD Γ hm 400 (by kernel_rfl) ?_); (conv => whnf); repeat ((first | refine aF ?_ | refine aT ?_); (first | refine run Γ hm 400 ?_ | refine runD Γ hm 400 (by kernel_rfl) ?_); conv => whnf))
  refine ⟨fun h => ?_, fun h => ?_⟩
  · have hlt : j < l.length := by have := of_decide_eq_true h; omega
    obtain ⟨x, hx⟩ : ∃ x, (c :: l)[((j + 1 : Nat) : Int).toNat]'(by simp; omega) = x := ⟨_, rfl⟩
    have hx' : l[j] = x := by rw [← hx]; rfl
    have hsucc : (l.take (j + 1)).foldl stepC c = stepC ((l.take j).foldl stepC c) x := by
      rw [List.take_succ_eq_append_getElem hlt, List.foldl_append, hx']; rfl
    have hb := hx
    obtain ⟨m, hm'⟩ : ∃ m, (l.take j).foldl stepC c = m := ⟨_, rfl⟩
    rw [hm'] at hsucc ⊢
    have ha := aheadS x m
    ((first | refine run Γ hm 400 ?_ | refine runD Γ hm 400 (by kernel_rfl) ?_); (conv => whnf); repeat ((first | refine aF ?_ | refine aT ?_); (first | refine run Γ hm 400 ?_ | refine runD Γ hm 400 (by kernel_rfl) ?_); conv => whnf))
    refine ⟨rfl, by omega, by simp; omega, ?_⟩
    rw [hx]
    ((conv => whnf); repeat ((first | refine aF ?_ | refine aT ?_); (first | refine run Γ hm 400 ?_ | refine runD Γ hm 400 (by kernel_rfl) ?_); conv => whnf))
    refine callDC ⟨⟨_, _, F124⟩, ha⟩ rfl rfl rfl rfl (by kernel_rfl) rfl ?_
    ((first | refine run Γ hm 400 ?_ | refine runD Γ hm 400 (by kernel_rfl) ?_); (conv => whnf); repeat ((first | refine aF ?_ | refine aT ?_); (first | refine run Γ hm 400 ?_ | refine runD Γ hm 400 (by kernel_rfl) ?_); conv => whnf))
    refine ⟨(by kernel_rfl), ?_⟩
    ((conv => whnf); repeat ((first | refine aF ?_ | refine aT ?_); (first | refine run Γ hm 400 ?_ | refine runD Γ hm 400 (by kernel_rfl) ?_); conv => whnf))
    refine ⟨fun h2 => ?_, fun h2 => ?_⟩
    · have h3 : stepC m x = x := by rw [stepC, if_pos]; exact h2
      ((first | refine run Γ hm 400 ?_ | refine runD Γ hm 400 (by kernel_rfl) ?_); (conv => whnf); repeat ((first | refine aF ?_ | refine aT ?_); (first | refine run Γ hm 400 ?_ | refine runD Γ hm 400 (by kernel_rfl) ?_); conv => whnf))
      refine ⟨rfl, by omega, by simp; omega, ?_⟩
      rw [hx]
      ((conv => whnf); repeat ((first | refine aF ?_ | refine aT ?_); (first | refine run Γ hm 400 ?_ | refine runD Γ hm 400 (by kernel_rfl) ?_); conv => whnf))
      refine ⟨by unfold I64; omega, ?_⟩
      ((conv => whnf); repeat ((first | refine aF ?_ | refine aT ?_); (first | refine run Γ hm 400 ?_ | refine runD Γ hm 400 (by kernel_rfl) ?_); conv => whnf))
      refine G_next [] hlt ⟨⟨rfl, rfl, rfl, rfl, rfl, rfl, rfl, rfl, rfl, rfl, trivial⟩, ⟨.inl rfl, rfl, .inl ?_, rfl, trivial⟩, rfl, rfl⟩
      rw [hsucc, h3]; rfl
    · have h3 : stepC m x = m := by rw [stepC, if_neg]; have h4 : ltC x m = false := h2; rw [h4]; simp
      ((first | refine run Γ hm 400 ?_ | refine runD Γ hm 400 (by kernel_rfl) ?_); (conv => whnf); repeat ((first | refine aF ?_ | refine aT ?_); (first | refine run Γ hm 400 ?_ | refine runD Γ hm 400 (by kernel_rfl) ?_); conv => whnf))
      refine ⟨by unfold I64; omega, ?_⟩
      ((conv => whnf); repeat ((first | refine aF ?_ | refine aT ?_); (first | refine run Γ hm 400 ?_ | refine runD Γ hm 400 (by kernel_rfl) ?_); conv => whnf))
      refine G_next [] hlt ⟨⟨rfl, rfl, rfl, rfl, rfl, rfl, rfl, rfl, rfl, rfl, trivial⟩, ⟨.inl rfl, rfl, .inl ?_, rfl, trivial⟩, rfl, rfl⟩
      rw [hsucc, h3]; rfl
  · have hjl : j = l.length := by have := of_decide_eq_false h; omega
    subst hjl
    rw [List.take_length]
    ((first | refine run Γ hm 400 ?_ | refine runD Γ hm 400 (by kernel_rfl) ?_); (conv => whnf); repeat ((first | refine aF ?_ | refine aT ?_); (first | refine run Γ hm 400 ?_ | refine runD Γ hm 400 (by kernel_rfl) ?_); conv => whnf))
    exact done0 rfl (.cons (.cell rfl rfl rfl rfl) .nil) rfl rfl
end Go.Sy.YthbgklhegccckaaGreat

namespace Go.Sy.YthbgklhegccckaaGreat
open Go.Proofs

attribute [local irreducible] Go.Sy.G Go.Sy.DR
set_option maxRecDepth 100000
set_option maxHeartbeats 4000000

theorem row_there {κ : Ka} {w : World} {k sz : Nat} {α : Type} {e : α → SV} {l : List α} (hne : l ≠ []) (h : ObOK κ w k (.row sz e l)) : ∃ b n c, κ k = .row b n c := by
  rcases h with ⟨_, h⟩ | ⟨b, cap, _, _, _, h, _⟩
  · exact absurd h hne
  · exact ⟨b, _, cap, h⟩

theorem cloneDeviceS (l : List Device) (hl : l.length < 2147483648) : Sy.Spec Tryz.prog 74 [.sl 5 deviceSV l] [] (.sl 5 deviceSV l) [] := contract Γ hm 100 F74 Tryz.ntmps74 rfl fun F hF => by
  ((conv => whnf); repeat ((first | refine aF ?_ | refine aT ?_); (first | refine run Γ hm 400 ?_ | refine runD Γ hm 400 (by kernel_rfl) ?_); conv => whnf))
  refine stepNil rfl (.inl rfl) rfl rfl rfl .sl rfl rfl ?_
  intro b hb
  cases b
  · ((first | refine run Γ hm 400 ?_ | refine runD Γ hm 400 (by kernel_rfl) ?_); (conv => whnf); repeat ((first | refine aF ?_ | refine aT ?_); (first | refine run Γ hm 400 ?_ | refine runD Γ hm 400 (by kernel_rfl) ?_); conv => whnf))
    refine stepOp (good_appendT Γ.toTy 7 rfl rfl rfl rfl rfl (.lit (e := deviceSV) (l := []) rfl rfl) .sl (by simp) (by simp; omega) (by simp; omega)) rfl rfl ?_
    refine G_data 7 rfl ?_
    ((first | refine run Γ hm 400 ?_ | refine runD Γ hm 400 (by kernel_rfl) ?_); (conv => whnf); repeat ((first | refine aF ?_ | refine aT ?_); (first | refine run Γ hm 400 ?_ | refine runD Γ hm 400 (by kernel_rfl) ?_); conv => whnf))
    exact done0 rfl (.cons .tmp .nil) rfl rfl
  · have h0 : l = [] := List.eq_nil_of_length_eq_zero (hb rfl)
    subst h0
    ((first | refine run Γ hm 400 ?_ | refine runD Γ hm 400 (by kernel_rfl) ?_); (conv => whnf); repeat ((first | refine aF ?_ | refine aT ?_); (first | refine run Γ hm 400 ?_ | refine runD Γ hm 400 (by kernel_rfl) ?_); conv => whnf))
    refine G_nilsl 2 5 deviceSV rfl ?_
    exact done0 rfl (.cons .tmp .nil) rfl rfl

theorem cloneLinkS (l : List Link) (hl : l.length < 2147483648) : Sy.Spec Tryz.prog 76 [.sl 3 linkSV l] [] (.sl 3 linkSV l) [] := contract Γ hm 100 F76 Tryz.ntmps76 rfl fun F hF => by
  ((conv => whnf); repeat ((first | refine aF ?_ | refine aT ?_); (first | refine run Γ hm 400 ?_ | refine runD Γ hm 400 (by kernel_rfl) ?_); conv => whnf))
  refine stepNil rfl (.inl rfl) rfl rfl rfl .sl rfl rfl ?_
  intro b hb
  cases b
  · ((first | refine run Γ hm 400 ?_ | refine runD Γ hm 400 (by kernel_rfl) ?_); (conv => whnf); repeat ((first | refine aF ?_ | refine aT ?_); (first | refine run Γ hm 400 ?_ | refine runD Γ hm 400 (by kernel_rfl) ?_); conv => whnf))
    refine stepOp (good_appendT Γ.toTy 7 rfl rfl rfl rfl rfl (.lit (e := linkSV) (l := []) rfl rfl) .sl (by simp) (by simp; omega) (by simp; omega)) rfl rfl ?_
    refine G_data 7 rfl ?_
    ((first | refine run Γ hm 400 ?_ | refine runD Γ hm 400 (by kernel_rfl) ?_); (conv => whnf); repeat ((first | refine aF ?_ | refine aT ?_); (first | refine run Γ hm 400 ?_ | refine runD Γ hm 400 (by kernel_rfl) ?_); conv => whnf))
    exact done0 rfl (.cons .tmp .nil) rfl rfl
  · have h0 : l = [] := List.eq_nil_of_length_eq_zero (hb rfl)
    subst h0
    ((first | refine run Γ hm 400 ?_ | refine runD Γ hm 400 (by kernel_rfl) ?_); (conv => whnf); repeat ((first | refine aF ?_ | refine aT ?_); (first | refine run Γ hm 400 ?_ | refine runD Γ hm 400 (by kernel_rfl) ?_); conv => whnf))
    refine G_nilsl 2 3 linkSV rfl ?_
    exact done0 rfl (.cons .tmp .nil) rfl rfl

theorem cloneStaticS (l : List Static) (hl : l.length < 2147483648) : Sy.Spec Tryz.prog 78 [.sl 4 staticSV l] [] (.sl 4 staticSV l) [] := contract Γ hm 100 F78 Tryz.ntmps78 rfl fun F hF => by
  ((conv => whnf); repeat ((first | refine aF ?_ | refine aT ?_); (first | refine run Γ hm 400 ?_ | refine runD Γ hm 400 (by kernel_rfl) ?_); conv => whnf))
  refine stepNil rfl (.inl rfl) rfl rfl rfl .sl rfl rfl ?_
  intro b hb
  cases b
  · ((first | refine run Γ hm 400 ?_ | refine runD Γ hm 400 (by kernel_rfl) ?_); (conv => whnf); repeat ((first | refine aF ?_ | refine aT ?_); (first | refine run Γ hm 400 ?_ | refine runD Γ hm 400 (by kernel_rfl) ?_); conv => whnf))
    refine stepOp (good_appendT Γ.toTy 7 rfl rfl rfl rfl rfl (.lit (e := staticSV) (l := []) rfl rfl) .sl (by simp) (by simp; omega) (by simp; omega)) rfl rfl ?_
    refine G_data 7 rfl ?_
    ((first | refine run Γ hm 400 ?_ | refine runD Γ hm 400 (by kernel_rfl) ?_); (conv => whnf); repeat ((first | refine aF ?_ | refine aT ?_); (first | refine run Γ hm 400 ?_ | refine runD Γ hm 400 (by kernel_rfl) ?_); conv => whnf))
    exact done0 rfl (.cons .tmp .nil) rfl rfl
  · have h0 : l = [] := List.eq_nil_of_length_eq_zero (hb rfl)
    subst h0
    ((first | refine run Γ hm 400 ?_ | refine runD Γ hm 400 (by kernel_rfl) ?_); (conv => whnf); repeat ((first | refine aF ?_ | refine aT ?_); (first | refine run Γ hm 400 ?_ | refine runD Γ hm 400 (by kernel_rfl) ?_); conv => whnf))
    refine G_nilsl 2 4 staticSV rfl ?_
    exact done0 rfl (.cons .tmp .nil) rfl rfl

theorem cloneIrbS (l : List Irb) (hl : l.length < 2147483648) : Sy.Spec Tryz.prog 81 [.sl 5 irbSV l] [] (.sl 5 irbSV l) [] := contract Γ hm 100 F81 Tryz.ntmps81 rfl fun F hF => by
  ((conv => whnf); repeat ((first | refine aF ?_ | refine aT ?_); (first | refine run Γ hm 400 ?_ | refine runD Γ hm 400 (by kernel_rfl) ?_); conv => whnf))
  refine stepNil rfl (.inl rfl) rfl rfl rfl .sl rfl rfl ?_
  intro b hb
  cases b
  · ((first | refine run Γ hm 400 ?_ | refine runD Γ hm 400 (by kernel_rfl) ?_); (conv => whnf); repeat ((first | refine aF ?_ | refine aT ?_); (first | refine run Γ hm 400 ?_ | refine runD Γ hm 400 (by kernel_rfl) ?_); conv => whnf))
    refine stepOp (good_appendT Γ.toTy 7 rfl rfl rfl rfl rfl (.lit (e := irbSV) (l := []) rfl rfl) .sl (by simp) (by simp; omega) (by simp; omega)) rfl rfl ?_
    refine G_data 7 rfl ?_
    ((first | refine run Γ hm 400 ?_ | refine runD Γ hm 400 (by kernel_rfl) ?_); (conv => whnf); repeat ((first | refine aF ?_ | refine aT ?_); (first | refine run Γ hm 400 ?_ | refine runD Γ hm 400 (by kernel_rfl) ?_); conv => whnf))
    exact done0 rfl (.cons .tmp .nil) rfl rfl
  · have h0 : l = [] := List.eq_nil_of_length_eq_zero (hb rfl)
    subst h0
    ((first | refine run Γ hm 400 ?_ | refine runD Γ hm 400 (by kernel_rfl) ?_); (conv => whnf); repeat ((first | refine aF ?_ | refine aT ?_); (first | refine run Γ hm 400 ?_ | refine runD Γ hm 400 (by kernel_rfl) ?_); conv => whnf))
    refine G_nilsl 2 5 irbSV rfl ?_
    exact done0 rfl (.cons .tmp .nil) rfl rfl

theorem cloneIntS (l : List Int) (hl : l.length < 2147483648) : Sy.Spec Tryz.prog 82 [.sl 1 intSV l] [] (.sl 1 intSV l) [] := contract Γ hm 100 F82 Tryz.ntmps82 rfl fun F hF => by
  ((conv => whnf); repeat ((first | refine aF ?_ | refine aT ?_); (first | refine run Γ hm 400 ?_ | refine runD Γ hm 400 (by kernel_rfl) ?_); conv => whnf))
  refine stepNil rfl (.inl rfl) rfl rfl rfl .sl rfl rfl ?_
  intro b hb
  cases b
  · ((first | refine run Γ hm 400 ?_ | refine runD Γ hm 400 (by kernel_rfl) ?_); (conv => whnf); repeat ((first | refine aF ?_ | refine aT ?_); (first | refine run Γ hm 400 ?_ | refine runD Γ hm 400 (by kernel_rfl) ?_); conv => whnf))
    refine stepOp (good_appendT Γ.toTy 7 rfl rfl rfl rfl rfl (.lit (e := intSV) (l := []) rfl rfl) .sl (by simp) (by simp; omega) (by simp; omega)) rfl rfl ?_
    refine G_data 7 rfl ?_
    ((first | refine run Γ hm 400 ?_ | refine runD Γ hm 400 (by kernel_rfl) ?_); (conv => whnf); repeat ((first | refine aF ?_ | refine aT ?_); (first | refine run Γ hm 400 ?_ | refine runD Γ hm 400 (by kernel_rfl) ?_); conv => whnf))
    exact done0 rfl (.cons .tmp .nil) rfl rfl
  · have h0 : l = [] := List.eq_nil_of_length_eq_zero (hb rfl)
    subst h0
    ((first | refine run Γ hm 400 ?_ | refine runD Γ hm 400 (by kernel_rfl) ?_); (conv => whnf); repeat ((first | refine aF ?_ | refine aT ?_); (first | refine run Γ hm 400 ?_ | refine runD Γ hm 400 (by kernel_rfl) ?_); conv => whnf))
    refine G_nilsl 2 1 intSV rfl ?_
    exact done0 rfl (.cons .tmp .nil) rfl rfl

theorem cloneU32S (l : List Int) (hl : l.length < 2147483648) : Sy.Spec Tryz.prog 83 [.sl 1 u32SV l] [] (.sl 1 u32SV l) [] := contract Γ hm 100 F83 Tryz.ntmps83 rfl fun F hF => by
  ((conv => whnf); repeat ((first | refine aF ?_ | refine aT ?_); (first | refine run Γ hm 400 ?_ | refine runD Γ hm 400 (by kernel_rfl) ?_); conv => whnf))
  refine stepNil rfl (.inl rfl) rfl rfl rfl .sl rfl rfl ?_
  intro b hb
  cases b
  · ((first | refine run Γ hm 400 ?_ | refine runD Γ hm 400 (by kernel_rfl) ?_); (conv => whnf); repeat ((first | refine aF ?_ | refine aT ?_); (first | refine run Γ hm 400 ?_ | refine runD Γ hm 400 (by kernel_rfl) ?_); conv => whnf))
    refine stepOp (good_appendT Γ.toTy 7 rfl rfl rfl rfl rfl (.lit (e := u32SV) (l := []) rfl rfl) .sl (by simp) (by simp; omega) (by simp; omega)) rfl rfl ?_
    refine G_data 7 rfl ?_
    ((first | refine run Γ hm 400 ?_ | refine runD Γ hm 400 (by kernel_rfl) ?_); (conv => whnf); repeat ((first | refine aF ?_ | refine aT ?_); (first | refine run Γ hm 400 ?_ | refine runD Γ hm 400 (by kernel_rfl) ?_); conv => whnf))
    exact done0 rfl (.cons .tmp .nil) rfl rfl
  · have h0 : l = [] := List.eq_nil_of_length_eq_zero (hb rfl)
    subst h0
    ((first | refine run Γ hm 400 ?_ | refine runD Γ hm 400 (by kernel_rfl) ?_); (conv => whnf); repeat ((first | refine aF ?_ | refine aT ?_); (first | refine run Γ hm 400 ?_ | refine runD Γ hm 400 (by kernel_rfl) ?_); conv => whnf))
    refine G_nilsl 2 1 u32SV rfl ?_
    exact done0 rfl (.cons .tmp .nil) rfl rfl

theorem cloneBoolS (l : List Bool) (hl : l.length < 2147483648) : Sy.Spec Tryz.prog 34 [.sl 1 boolSV l] [] (.sl 1 boolSV l) [] := contract Γ hm 100 F34 Tryz.ntmps34 rfl fun F hF => by
  ((conv => whnf); repeat ((first | refine aF ?_ | refine aT ?_); (first | refine run Γ hm 400 ?_ | refine runD Γ hm 400 (by kernel_rfl) ?_); conv => whnf))
  refine stepNil rfl (.inl rfl) rfl rfl rfl .sl rfl rfl ?_
  intro b hb
  cases b
  · ((first | refine run Γ hm 400 ?_ | refine runD Γ hm 400 (by kernel_rfl) ?_); (conv => whnf); repeat ((first | refine aF ?_ | refine aT ?_); (first | refine run Γ hm 400 ?_ | refine runD Γ hm 400 (by kernel_rfl) ?_); conv => whnf))
    refine stepOp (good_appendT Γ.toTy 7 rfl rfl rfl rfl rfl (.lit (e := boolSV) (l := []) rfl rfl) .sl (by simp) (by simp; omega) (by simp; omega)) rfl rfl ?_
    refine G_data 7 rfl ?_
    ((first | refine run Γ hm 400 ?_ | refine runD Γ hm 400 (by kernel_rfl) ?_); (conv => whnf); repeat ((first | refine aF ?_ | refine aT ?_); (first | refine run Γ hm 400 ?_ | refine runD Γ hm 400 (by kernel_rfl) ?_); conv => whnf))
    exact done0 rfl (.cons .tmp .nil) rfl rfl
  · have h0 : l = [] := List.eq_nil_of_length_eq_zero (hb rfl)
    subst h0
    ((first | refine run Γ hm 400 ?_ | refine runD Γ hm 400 (by kernel_rfl) ?_); (conv => whnf); repeat ((first | refine aF ?_ | refine aT ?_); (first | refine run Γ hm 400 ?_ | refine runD Γ hm 400 (by kernel_rfl) ?_); conv => whnf))
    refine G_nilsl 2 1 boolSV rfl ?_
    exact done0 rfl (.cons .tmp .nil) rfl rfl

theorem clonePortS (l : List Port) (hl : l.length < 2147483648) : Sy.Spec Tryz.prog 75 [.sl 7 portSV l] [] (.osl 0) [(0, .row 7 portSV l)] := contract Γ hm 100 F75 Tryz.ntmps75 rfl fun F hF => by
  ((conv => whnf); repeat ((first | refine aF ?_ | refine aT ?_); (first | refine run Γ hm 400 ?_ | refine runD Γ hm 400 (by kernel_rfl) ?_); conv => whnf))
  refine stepNil rfl (.inl rfl) rfl rfl rfl .sl rfl rfl ?_
  intro b hb
  cases b
  · ((first | refine run Γ hm 400 ?_ | refine runD Γ hm 400 (by kernel_rfl) ?_); (conv => whnf); repeat ((first | refine aF ?_ | refine aT ?_); (first | refine run Γ hm 400 ?_ | refine runD Γ hm 400 (by kernel_rfl) ?_); conv => whnf))
    refine stepOp (good_appendT Γ.toTy 7 rfl rfl rfl rfl rfl (.lit (e := portSV) (l := []) rfl rfl) .sl (by simp) (by simp; omega) (by simp; omega)) rfl rfl ?_
    ((first | refine run Γ hm 400 ?_ | refine runD Γ hm 400 (by kernel_rfl) ?_); (conv => whnf); repeat ((first | refine aF ?_ | refine aT ?_); (first | refine run Γ hm 400 ?_ | refine runD Γ hm 400 (by kernel_rfl) ?_); conv => whnf))
    exact done rfl (.cons .tmp .nil) [(0, 7)] [(0, .row 7 portSV l)] (fun _ h => h) rfl rfl ⟨trivial, ⟨.inl rfl, rfl, trivial⟩, rfl, rfl⟩
  · have h0 : l = [] := List.eq_nil_of_length_eq_zero (hb rfl)
    subst h0
    ((first | refine run Γ hm 400 ?_ | refine runD Γ hm 400 (by kernel_rfl) ?_); (conv => whnf); repeat ((first | refine aF ?_ | refine aT ?_); (first | refine run Γ hm 400 ?_ | refine runD Γ hm 400 (by kernel_rfl) ?_); conv => whnf))
    refine G_adopt 2 1000 7 portSV rfl rfl ?_
    exact done rfl (.cons .tmp .nil) [(0, 1000)] [(0, .row 7 portSV [])] (fun _ h => h) rfl rfl ⟨trivial, ⟨.inl rfl, rfl, trivial⟩, rfl, rfl⟩

theorem cloneDomainS (l : List Domain) (hl : l.length < 2147483648) : Sy.Spec Tryz.prog 77 [.sl 6 domainSV l] [] (.osl 0) [(0, .row 6 domainSV l)] := contract Γ hm 100 F77 Tryz.ntmps77 rfl fun F hF => by
  ((conv => whnf); repeat ((first | refine aF ?_ | refine aT ?_); (first | refine run Γ hm 400 ?_ | refine runD Γ hm 400 (by kernel_rfl) ?_); conv => whnf))
  refine stepNil rfl (.inl rfl) rfl rfl rfl .sl rfl rfl ?_
  intro b hb
  cases b
  · ((first | refine run Γ hm 400 ?_ | refine runD Γ hm 400 (by kernel_rfl) ?_); (conv => whnf); repeat ((first | refine aF ?_ | refine aT ?_); (first | refine run Γ hm 400 ?_ | refine runD Γ hm 400 (by kernel_rfl) ?_); conv => whnf))
    refine stepOp (good_appendT Γ.toTy 7 rfl rfl rfl rfl rfl (.lit (e := domainSV) (l := []) rfl rfl) .sl (by simp) (by simp; omega) (by simp; omega)) rfl rfl ?_
    ((first | refine run Γ hm 400 ?_ | refine runD Γ hm 400 (by kernel_rfl) ?_); (conv => whnf); repeat ((first | refine aF ?_ | refine aT ?_); (first | refine run Γ hm 400 ?_ | refine runD Γ hm 400 (by kernel_rfl) ?_); conv => whnf))
    exact done rfl (.cons .tmp .nil) [(0, 7)] [(0, .row 6 domainSV l)] (fun _ h => h) rfl rfl ⟨trivial, ⟨.inl rfl, rfl, trivial⟩, rfl, rfl⟩
  · have h0 : l = [] := List.eq_nil_of_length_eq_zero (hb rfl)
    subst h0
    ((first | refine run Γ hm 400 ?_ | refine runD Γ hm 400 (by kernel_rfl) ?_); (conv => whnf); repeat ((first | refine aF ?_ | refine aT ?_); (first | refine run Γ hm 400 ?_ | refine runD Γ hm 400 (by kernel_rfl) ?_); conv => whnf))
    refine G_adopt 2 1000 6 domainSV rfl rfl ?_
    exact done rfl (.cons .tmp .nil) [(0, 1000)] [(0, .row 6 domainSV [])] (fun _ h => h) rfl rfl ⟨trivial, ⟨.inl rfl, rfl, trivial⟩, rfl, rfl⟩

theorem cloneFloodS (l : List Flood) (hl : l.length < 2147483648) : Sy.Spec Tryz.prog 79 [.sl 4 floodSV l] [] (.osl 0) [(0, .row 4 floodSV l)] := contract Γ hm 100 F79 Tryz.ntmps79 rfl fun F hF => by
  ((conv => whnf); repeat ((first | refine aF ?_ | refine aT ?_); (first | refine run Γ hm 400 ?_ | refine runD Γ hm 400 (by kernel_rfl) ?_); conv => whnf))
  refine stepNil rfl (.inl rfl) rfl rfl rfl .sl rfl rfl ?_
  intro b hb
  cases b
  · ((first | refine run Γ hm 400 ?_ | refine runD Γ hm 400 (by kernel_rfl) ?_); (conv => whnf); repeat ((first | refine aF ?_ | refine aT ?_); (first | refine run Γ hm 400 ?_ | refine runD Γ hm 400 (by kernel_rfl) ?_); conv => whnf))
    refine stepOp (good_appendT Γ.toTy 7 rfl rfl rfl rfl rfl (.lit (e := floodSV) (l := []) rfl rfl) .sl (by simp) (by simp; omega) (by simp; omega)) rfl rfl ?_
    ((first | refine run Γ hm 400 ?_ | refine runD Γ hm 400 (by kernel_rfl) ?_); (conv => whnf); repeat ((first | refine aF ?_ | refine aT ?_); (first | refine run Γ hm 400 ?_ | refine runD Γ hm 400 (by kernel_rfl) ?_); conv => whnf))
    exact done rfl (.cons .tmp .nil) [(0, 7)] [(0, .row 4 floodSV l)] (fun _ h => h) rfl rfl ⟨trivial, ⟨.inl rfl, rfl, trivial⟩, rfl, rfl⟩
  · have h0 : l = [] := List.eq_nil_of_length_eq_zero (hb rfl)
    subst h0
    ((first | refine run Γ hm 400 ?_ | refine runD Γ hm 400 (by kernel_rfl) ?_); (conv => whnf); repeat ((first | refine aF ?_ | refine aT ?_); (first | refine run Γ hm 400 ?_ | refine runD Γ hm 400 (by kernel_rfl) ?_); conv => whnf))
    refine G_adopt 2 1000 4 floodSV rfl rfl ?_
    exact done rfl (.cons .tmp .nil) [(0, 1000)] [(0, .row 4 floodSV [])] (fun _ h => h) rfl rfl ⟨trivial, ⟨.inl rfl, rfl, trivial⟩, rfl, rfl⟩

theorem cloneVrfS (l : List Vrf) (hl : l.length < 2147483648) : Sy.Spec Tryz.prog 80 [.sl 5 vrfSV l] [] (.osl 0) [(0, .row 5 vrfSV l)] := contract Γ hm 100 F80 Tryz.ntmps80 rfl fun F hF => by
  ((conv => whnf); repeat ((first | refine aF ?_ | refine aT ?_); (first | refine run Γ hm 400 ?_ | refine runD Γ hm 400 (by kernel_rfl) ?_); conv => whnf))
  refine stepNil rfl (.inl rfl) rfl rfl rfl .sl rfl rfl ?_
  intro b hb
  cases b
  · ((first | refine run Γ hm 400 ?_ | refine runD Γ hm 400 (by kernel_rfl) ?_); (conv => whnf); repeat ((first | refine aF ?_ | refine aT ?_); (first | refine run Γ hm 400 ?_ | refine runD Γ hm 400 (by kernel_rfl) ?_); conv => whnf))
    refine stepOp (good_appendT Γ.toTy 7 rfl rfl rfl rfl rfl (.lit (e := vrfSV) (l := []) rfl rfl) .sl (by simp) (by simp; omega) (by simp; omega)) rfl rfl ?_
    ((first | refine run Γ hm 400 ?_ | refine runD Γ hm 400 (by kernel_rfl) ?_); (conv => whnf); repeat ((first | refine aF ?_ | refine aT ?_); (first | refine run Γ hm 400 ?_ | refine runD Γ hm 400 (by kernel_rfl) ?_); conv => whnf))
    exact done rfl (.cons .tmp .nil) [(0, 7)] [(0, .row 5 vrfSV l)] (fun _ h => h) rfl rfl ⟨trivial, ⟨.inl rfl, rfl, trivial⟩, rfl, rfl⟩
  · have h0 : l = [] := List.eq_nil_of_length_eq_zero (hb rfl)
    subst h0
    ((first | refine run Γ hm 400 ?_ | refine runD Γ hm 400 (by kernel_rfl) ?_); (conv => whnf); repeat ((first | refine aF ?_ | refine aT ?_); (first | refine run Γ hm 400 ?_ | refine runD Γ hm 400 (by kernel_rfl) ?_); conv => whnf))
    refine G_adopt 2 1000 5 vrfSV rfl rfl ?_
    exact done rfl (.cons .tmp .nil) [(0, 1000)] [(0, .row 5 vrfSV [])] (fun _ h => h) rfl rfl ⟨trivial, ⟨.inl rfl, rfl, trivial⟩, rfl, rfl⟩

theorem copyS (n : Net) (hn : n.Fin) :
    Sy.Spec Tryz.prog 33 [netSV n] [] (netSV n) [] := contract Γ hm 100 F33 Tryz.ntmps33 rfl fun F hF => by
  have h1 : n.devices.length < 2147483648 ∧ n.ports.length < 2147483648 ∧ n.links.length < 2147483648 ∧ n.domains.length < 2147483648 ∧ n.statics.length < 2147483648 ∧ n.floods.length < 2147483648 ∧ n.vrfs.length < 2147483648 ∧ n.irbs.length < 2147483648 := ⟨hn.devices, hn.ports, hn.links, hn.domains, hn.statics, hn.floods, hn.vrfs, hn.irbs⟩
  have h2 : (∀ p ∈ n.ports, p.tagged.length < 2147483648) ∧ (∀ p ∈ n.domains, p.peers.length < 2147483648) ∧ (∀ p ∈ n.floods, p.addrs.length < 2147483648) ∧ (∀ p ∈ n.vrfs, p.imports.length < 2147483648 ∧ p.exports.length < 2147483648) := ⟨hn.tagged, hn.peers, hn.addrs, fun v hv => ⟨hn.imports v hv, hn.exports v hv⟩⟩
  ((conv => whnf); repeat ((first | refine aF ?_ | refine aT ?_); (first | refine run Γ hm 400 ?_ | refine runD Γ hm 400 (by kernel_rfl) ?_); conv => whnf))
  refine callD0 (cloneDeviceS n.devices h1.1) F74 rfl rfl rfl (by kernel_rfl) rfl ?_
  ((first | refine run Γ hm 400 ?_ | refine runD Γ hm 400 (by kernel_rfl) ?_); (conv => whnf); repeat ((first | refine aF ?_ | refine aT ?_); (first | refine run Γ hm 400 ?_ | refine runD Γ hm 400 (by kernel_rfl) ?_); conv => whnf))
  refine stepD (good_call [(0, 14)] rfl F75 (clonePortS n.ports h1.2.1) rfl trivial rfl ⟨.inr rfl, trivial⟩) (by kernel_rfl) rfl ?_
  ((first | refine run Γ hm 400 ?_ | refine runD Γ hm 400 (by kernel_rfl) ?_); (conv => whnf); repeat ((first | refine aF ?_ | refine aT ?_); (first | refine run Γ hm 400 ?_ | refine runD Γ hm 400 (by kernel_rfl) ?_); conv => whnf))
  refine callD0 (cloneLinkS n.links h1.2.2.1) F76 rfl rfl rfl (by kernel_rfl) rfl ?_
  ((first | refine run Γ hm 400 ?_ | refine runD Γ hm 400 (by kernel_rfl) ?_); (conv => whnf); repeat ((first | refine aF ?_ | refine aT ?_); (first | refine run Γ hm 400 ?_ | refine runD Γ hm 400 (by kernel_rfl) ?_); conv => whnf))
  refine stepD (good_call [(0, 20)] rfl F77 (cloneDomainS n.domains h1.2.2.2.1) rfl trivial rfl ⟨.inr rfl, trivial⟩) (by kernel_rfl) rfl ?_
  ((first | refine run Γ hm 400 ?_ | refine runD Γ hm 400 (by kernel_rfl) ?_); (conv => whnf); repeat ((first | refine aF ?_ | refine aT ?_); (first | refine run Γ hm 400 ?_ | refine runD Γ hm 400 (by kernel_rfl) ?_); conv => whnf))
  refine callD0 (cloneStaticS n.statics h1.2.2.2.2.1) F78 rfl rfl rfl (by kernel_rfl) rfl ?_
  ((first | refine run Γ hm 400 ?_ | refine runD Γ hm 400 (by kernel_rfl) ?_); (conv => whnf); repeat ((first | refine aF ?_ | refine aT ?_); (first | refine run Γ hm 400 ?_ | refine runD Γ hm 400 (by kernel_rfl) ?_); conv => whnf))
  refine stepD (good_call [(0, 26)] rfl F79 (cloneFloodS n.floods h1.2.2.2.2.2.1) rfl trivial rfl ⟨.inr rfl, trivial⟩) (by kernel_rfl) rfl ?_
  ((first | refine run Γ hm 400 ?_ | refine runD Γ hm 400 (by kernel_rfl) ?_); (conv => whnf); repeat ((first | refine aF ?_ | refine aT ?_); (first | refine run Γ hm 400 ?_ | refine runD Γ hm 400 (by kernel_rfl) ?_); conv => whnf))
  refine stepD (good_call [(0, 29)] rfl F80 (cloneVrfS n.vrfs h1.2.2.2.2.2.2.1) rfl trivial rfl ⟨.inr rfl, trivial⟩) (by kernel_rfl) rfl ?_
  ((first | refine run Γ hm 400 ?_ | refine runD Γ hm 400 (by kernel_rfl) ?_); (conv => whnf); repeat ((first | refine aF ?_ | refine aT ?_); (first | refine run Γ hm 400 ?_ | refine runD Γ hm 400 (by kernel_rfl) ?_); conv => whnf))
  refine callD0 (cloneIrbS n.irbs h1.2.2.2.2.2.2.2) F81 rfl rfl rfl (by kernel_rfl) rfl ?_
  ((first | refine run Γ hm 400 ?_ | refine runD Γ hm 400 (by kernel_rfl) ?_); (conv => whnf); repeat ((first | refine aF ?_ | refine aT ?_); (first | refine run Γ hm 400 ?_ | refine runD Γ hm 400 (by kernel_rfl) ?_); conv => whnf))
  refine ⟨(by kernel_rfl), ?_⟩
  ((conv => whnf); repeat ((first | refine aF ?_ | refine aT ?_); (first | refine run Γ hm 400 ?_ | refine runD Γ hm 400 (by kernel_rfl) ?_); conv => whnf))
  refine G_count n.ports.length (fun j => [(2, .ptr 2 0), (3, .ptr 3 0), (36, intSV n.ports.length), (37, intSV j)]) (fun _ => [(2, .box [.val (.slice none 0 0), .val (.slice none 0 0), .val (.slice none 0 0), .val (.slice none 0 0), .val (.slice none 0 0), .val (.slice none 0 0), .val (.slice none 0 0), .val (.slice none 0 0)]), (3, .box [.sl 5 deviceSV n.devices, .osl 14, .sl 3 linkSV n.links, .osl 20, .sl 4 staticSV n.statics, .osl 26, .osl 29, .sl 5 irbSV n.irbs]), (14, .row 7 portSV n.ports), (20, .row 6 domainSV n.domains), (26, .row 4 floodSV n.floods), (29, .row 5 vrfSV n.vrfs)]) []
    ⟨⟨rfl, rfl, rfl, rfl, rfl, rfl, rfl, rfl, trivial⟩, ⟨.inl rfl, rfl, .inl rfl, rfl, .inl rfl, rfl, .inl rfl, rfl, .inl rfl, rfl, .inl rfl, rfl, trivial⟩, rfl, rfl⟩ ?_
  intro j hj
  ((first | refine run Γ hm 400 ?_ | refine runD Γ hm 400 (by kernel_rfl) ?_); (conv => whnf); repeat ((first | refine aF ?_ | refine aT ?_); (first | refine run Γ hm 400 ?_ | refine runD Γ hm 400 (by kernel_rfl) ?_); conv => whnf))
  refine ⟨fun h => ?_, fun h => ?_⟩
  · have hlt : j < n.ports.length := by simpa using h
    obtain ⟨p, hp⟩ : ∃ p, n.ports[(j : Int).toNat]'(by omega) = p := ⟨_, rfl⟩
    have hne : n.ports ≠ [] := fun e => by rw [e] at hlt; cases hlt
    have hset : n.ports.set (j : Int).toNat p = n.ports := by rw [← hp]; exact List.set_getElem_self _
    have hpl := h2.1 p (by rw [← hp]; exact List.getElem_mem _)
    ((first | refine run Γ hm 400 ?_ | refine runD Γ hm 400 (by kernel_rfl) ?_); (conv => whnf); repeat ((first | refine aF ?_ | refine aT ?_); (first | refine run Γ hm 400 ?_ | refine runD Γ hm 400 (by kernel_rfl) ?_); conv => whnf))
    refine ⟨by omega, by show _ < n.ports.length; omega, ?_⟩
    ((conv => whnf); repeat ((first | refine aF ?_ | refine aT ?_); (first | refine run Γ hm 400 ?_ | refine runD Γ hm 400 (by kernel_rfl) ?_); conv => whnf))
    refine ⟨hne, ?_⟩
    ((conv => whnf); repeat ((first | refine aF ?_ | refine aT ?_); (first | refine run Γ hm 400 ?_ | refine runD Γ hm 400 (by kernel_rfl) ?_); conv => whnf))
    refine ⟨rfl, by omega, ?_⟩
    rw [hp]
    ((conv => whnf); repeat ((first | refine aF ?_ | refine aT ?_); (first | refine run Γ hm 400 ?_ | refine runD Γ hm 400 (by kernel_rfl) ?_); conv => whnf))
    refine callD0 (cloneIntS p.tagged hpl) F82 rfl rfl rfl (by kernel_rfl) rfl ?_
    ((first | refine run Γ hm 400 ?_ | refine runD Γ hm 400 (by kernel_rfl) ?_); (conv => whnf); repeat ((first | refine aF ?_ | refine aT ?_); (first | refine run Γ hm 400 ?_ | refine runD Γ hm 400 (by kernel_rfl) ?_); conv => whnf))
    refine ⟨by omega, by show _ < n.ports.length; omega, ?_⟩
    ((conv => whnf); repeat ((first | refine aF ?_ | refine aT ?_); (first | refine run Γ hm 400 ?_ | refine runD Γ hm 400 (by kernel_rfl) ?_); conv => whnf))
    refine ⟨hne, ?_⟩
    ((conv => whnf); repeat ((first | refine aF ?_ | refine aT ?_); (first | refine run Γ hm 400 ?_ | refine runD Γ hm 400 (by kernel_rfl) ?_); conv => whnf))
    refine ⟨rfl, by omega, p, (by rw [hp]; rfl), (by rw [hp]; rfl), ?_⟩
    ((conv => whnf); repeat ((first | refine aF ?_ | refine aT ?_); (first | refine run Γ hm 400 ?_ | refine runD Γ hm 400 (by kernel_rfl) ?_); conv => whnf))
    refine ⟨(by kernel_rfl), ?_⟩
    ((conv => whnf); repeat ((first | refine aF ?_ | refine aT ?_); (first | refine run Γ hm 400 ?_ | refine runD Γ hm 400 (by kernel_rfl) ?_); conv => whnf))
    refine ⟨by unfold I64; omega, ?_⟩
    ((conv => whnf); repeat ((first | refine aF ?_ | refine aT ?_); (first | refine run Γ hm 400 ?_ | refine runD Γ hm 400 (by kernel_rfl) ?_); conv => whnf))
    exact G_next [] hlt ⟨⟨rfl, rfl, rfl, rfl, rfl, rfl, rfl, rfl, trivial⟩, ⟨.inl rfl, rfl, .inl rfl, rfl, .inl (congrArg (Ob.row 7 portSV) hset.symm), rfl, .inl rfl, rfl, .inl rfl, rfl, .inl rfl, rfl, trivial⟩, rfl, rfl⟩
  · ((first | refine run Γ hm 400 ?_ | refine runD Γ hm 400 (by kernel_rfl) ?_); (conv => whnf); repeat ((first | refine aF ?_ | refine aT ?_); (first | refine run Γ hm 400 ?_ | refine runD Γ hm 400 (by kernel_rfl) ?_); conv => whnf))
    refine G_count n.domains.length (fun j => [(2, .ptr 2 0), (3, .ptr 3 0), (55, intSV n.domains.length), (56, intSV j)]) (fun _ => [(2, .box [.val (.slice none 0 0), .val (.slice none 0 0), .val (.slice none 0 0), .val (.slice none 0 0), .val (.slice none 0 0), .val (.slice none 0 0), .val (.slice none 0 0), .val (.slice none 0 0)]), (3, .box [.sl 5 deviceSV n.devices, .osl 14, .sl 3 linkSV n.links, .osl 20, .sl 4 staticSV n.statics, .osl 26, .osl 29, .sl 5 irbSV n.irbs]), (14, .row 7 portSV n.ports), (20, .row 6 domainSV n.domains), (26, .row 4 floodSV n.floods), (29, .row 5 vrfSV n.vrfs)]) []
      ⟨⟨rfl, rfl, rfl, rfl, rfl, rfl, rfl, rfl, trivial⟩, ⟨.inl rfl, rfl, .inl rfl, rfl, .inl rfl, rfl, .inl rfl, rfl, .inl rfl, rfl, .inl rfl, rfl, trivial⟩, rfl, rfl⟩ ?_
    intro j hj
    ((first | refine run Γ hm 400 ?_ | refine runD Γ hm 400 (by kernel_rfl) ?_); (conv => whnf); repeat ((first | refine aF ?_ | refine aT ?_); (first | refine run Γ hm 400 ?_ | refine runD Γ hm 400 (by kernel_rfl) ?_); conv => whnf))
    refine ⟨fun h => ?_, fun h => ?_⟩
    · have hlt : j < n.domains.length := by simpa using h
      obtain ⟨p, hp⟩ : ∃ p, n.domains[(j : Int).toNat]'(by omega) = p := ⟨_, rfl⟩
      have hne : n.domains ≠ [] := fun e => by rw [e] at hlt; cases hlt
      have hset : n.domains.set (j : Int).toNat p = n.domains := by rw [← hp]; exact List.set_getElem_self _
      have hpl := h2.2.1 p (by rw [← hp]; exact List.getElem_mem _)
      ((first | refine run Γ hm 400 ?_ | refine runD Γ hm 400 (by kernel_rfl) ?_); (conv => whnf); repeat ((first | refine aF ?_ | refine aT ?_); (first | refine run Γ hm 400 ?_ | refine runD Γ hm 400 (by kernel_rfl) ?_); conv => whnf))
      refine ⟨by omega, by show _ < n.domains.length; omega, ?_⟩
      ((conv => whnf); repeat ((first | refine aF ?_ | refine aT ?_); (first | refine run Γ hm 400 ?_ | refine runD Γ hm 400 (by kernel_rfl) ?_); conv => whnf))
      refine ⟨hne, ?_⟩
      ((conv => whnf); repeat ((first | refine aF ?_ | refine aT ?_); (first | refine run Γ hm 400 ?_ | refine runD Γ hm 400 (by kernel_rfl) ?_); conv => whnf))
      refine ⟨rfl, by omega, ?_⟩
      rw [hp]
      ((conv => whnf); repeat ((first | refine aF ?_ | refine aT ?_); (first | refine run Γ hm 400 ?_ | refine runD Γ hm 400 (by kernel_rfl) ?_); conv => whnf))
      refine callD0 (cloneIntS p.peers hpl) F82 rfl rfl rfl (by kernel_rfl) rfl ?_
      ((first | refine run Γ hm 400 ?_ | refine runD Γ hm 400 (by kernel_rfl) ?_); (conv => whnf); repeat ((first | refine aF ?_ | refine aT ?_); (first | refine run Γ hm 400 ?_ | refine runD Γ hm 400 (by kernel_rfl) ?_); conv => whnf))
      refine ⟨by omega, by show _ < n.domains.length; omega, ?_⟩
      ((conv => whnf); repeat ((first | refine aF ?_ | refine aT ?_); (first | refine run Γ hm 400 ?_ | refine runD Γ hm 400 (by kernel_rfl) ?_); conv => whnf))
      refine ⟨hne, ?_⟩
      ((conv => whnf); repeat ((first | refine aF ?_ | refine aT ?_); (first | refine run Γ hm 400 ?_ | refine runD Γ hm 400 (by kernel_rfl) ?_); conv => whnf))
      refine ⟨rfl, by omega, p, (by rw [hp]; rfl), (by rw [hp]; rfl), ?_⟩
      ((conv => whnf); repeat ((first | refine aF ?_ | refine aT ?_); (first | refine run Γ hm 400 ?_ | refine runD Γ hm 400 (by kernel_rfl) ?_); conv => whnf))
      refine ⟨(by kernel_rfl), ?_⟩
      ((conv => whnf); repeat ((first | refine aF ?_ | refine aT ?_); (first | refine run Γ hm 400 ?_ | refine runD Γ hm 400 (by kernel_rfl) ?_); conv => whnf))
      refine ⟨by unfold I64; omega, ?_⟩
      ((conv => whnf); repeat ((first | refine aF ?_ | refine aT ?_); (first | refine run Γ hm 400 ?_ | refine runD Γ hm 400 (by kernel_rfl) ?_); conv => whnf))
      exact G_next [] hlt ⟨⟨rfl, rfl, rfl, rfl, rfl, rfl, rfl, rfl, trivial⟩, ⟨.inl rfl, rfl, .inl rfl, rfl, .inl rfl, rfl, .inl (congrArg (Ob.row 6 domainSV) hset.symm), rfl, .inl rfl, rfl, .inl rfl, rfl, trivial⟩, rfl, rfl⟩
    · ((first | refine run Γ hm 400 ?_ | refine runD Γ hm 400 (by kernel_rfl) ?_); (conv => whnf); repeat ((first | refine aF ?_ | refine aT ?_); (first | refine run Γ hm 400 ?_ | refine runD Γ hm 400 (by kernel_rfl) ?_); conv => whnf))
      refine G_count n.floods.length (fun j => [(2, .ptr 2 0), (3, .ptr 3 0), (74, intSV n.floods.length), (75, intSV j)]) (fun _ => [(2, .box [.val (.slice none 0 0), .val (.slice none 0 0), .val (.slice none 0 0), .val (.slice none 0 0), .val (.slice none 0 0), .val (.slice none 0 0), .val (.slice none 0 0), .val (.slice none 0 0)]), (3, .box [.sl 5 deviceSV n.devices, .osl 14, .sl 3 linkSV n.links, .osl 20, .sl 4 staticSV n.statics, .osl 26, .osl 29, .sl 5 irbSV n.irbs]), (14, .row 7 portSV n.ports), (20, .row 6 domainSV n.domains), (26, .row 4 floodSV n.floods), (29, .row 5 vrfSV n.vrfs)]) []
        ⟨⟨rfl, rfl, rfl, rfl, rfl, rfl, rfl, rfl, trivial⟩, ⟨.inl rfl, rfl, .inl rfl, rfl, .inl rfl, rfl, .inl rfl, rfl, .inl rfl, rfl, .inl rfl, rfl, trivial⟩, rfl, rfl⟩ ?_
      intro j hj
      ((first | refine run Γ hm 400 ?_ | refine runD Γ hm 400 (by kernel_rfl) ?_); (conv => whnf); repeat ((first | refine aF ?_ | refine aT ?_); (first | refine run Γ hm 400 ?_ | refine runD Γ hm 400 (by kernel_rfl) ?_); conv => whnf))
      refine ⟨fun h => ?_, fun h => ?_⟩
      · have hlt : j < n.floods.length := by simpa using h
        obtain ⟨p, hp⟩ : ∃ p, n.floods[(j : Int).toNat]'(by omega) = p := ⟨_, rfl⟩
        have hne : n.floods ≠ [] := fun e => by rw [e] at hlt; cases hlt
        have hset : n.floods.set (j : Int).toNat p = n.floods := by rw [← hp]; exact List.set_getElem_self _
        have hpl := h2.2.2.1 p (by rw [← hp]; exact List.getElem_mem _)
        ((first | refine run Γ hm 400 ?_ | refine runD Γ hm 400 (by kernel_rfl) ?_); (conv => whnf); repeat ((first | refine aF ?_ | refine aT ?_); (first | refine run Γ hm 400 ?_ | refine runD Γ hm 400 (by kernel_rfl) ?_); conv => whnf))
        refine ⟨by omega, by show _ < n.floods.length; omega, ?_⟩
        ((conv => whnf); repeat ((first | refine aF ?_ | refine aT ?_); (first | refine run Γ hm 400 ?_ | refine runD Γ hm 400 (by kernel_rfl) ?_); conv => whnf))
        refine ⟨hne, ?_⟩
        ((conv => whnf); repeat ((first | refine aF ?_ | refine aT ?_); (first | refine run Γ hm 400 ?_ | refine runD Γ hm 400 (by kernel_rfl) ?_); conv => whnf))
        refine ⟨rfl, by omega, ?_⟩
        rw [hp]
        ((conv => whnf); repeat ((first | refine aF ?_ | refine aT ?_); (first | refine run Γ hm 400 ?_ | refine runD Γ hm 400 (by kernel_rfl) ?_); conv => whnf))
        refine callD0 (cloneU32S p.addrs hpl) F83 rfl rfl rfl (by kernel_rfl) rfl ?_
        ((first | refine run Γ hm 400 ?_ | refine runD Γ hm 400 (by kernel_rfl) ?_); (conv => whnf); repeat ((first | refine aF ?_ | refine aT ?_); (first | refine run Γ hm 400 ?_ | refine runD Γ hm 400 (by kernel_rfl) ?_); conv => whnf))
        refine ⟨by omega, by show _ < n.floods.length; omega, ?_⟩
        ((conv => whnf); repeat ((first | refine aF ?_ | refine aT ?_); (first | refine run Γ hm 400 ?_ | refine runD Γ hm 400 (by kernel_rfl) ?_); conv => whnf))
        refine ⟨hne, ?_⟩
        ((conv => whnf); repeat ((first | refine aF ?_ | refine aT ?_); (first | refine run Γ hm 400 ?_ | refine runD Γ hm 400 (by kernel_rfl) ?_); conv => whnf))
        refine ⟨rfl, by omega, p, (by rw [hp]; rfl), (by rw [hp]; rfl), ?_⟩
        ((conv => whnf); repeat ((first | refine aF ?_ | refine aT ?_); (first | refine run Γ hm 400 ?_ | refine runD Γ hm 400 (by kernel_rfl) ?_); conv => whnf))
        refine ⟨(by kernel_rfl), ?_⟩
        ((conv => whnf); repeat ((first | refine aF ?_ | refine aT ?_); (first | refine run Γ hm 400 ?_ | refine runD Γ hm 400 (by kernel_rfl) ?_); conv => whnf))
        refine ⟨by unfold I64; omega, ?_⟩
        ((conv => whnf); repeat ((first | refine aF ?_ | refine aT ?_); (first | refine run Γ hm 400 ?_ | refine runD Γ hm 400 (by kernel_rfl) ?_); conv => whnf))
        exact G_next [] hlt ⟨⟨rfl, rfl, rfl, rfl, rfl, rfl, rfl, rfl, trivial⟩, ⟨.inl rfl, rfl, .inl rfl, rfl, .inl rfl, rfl, .inl rfl, rfl, .inl (congrArg (Ob.row 4 floodSV) hset.symm), rfl, .inl rfl, rfl, trivial⟩, rfl, rfl⟩
      · ((first | refine run Γ hm 400 ?_ | refine runD Γ hm 400 (by kernel_rfl) ?_); (conv => whnf); repeat ((first | refine aF ?_ | refine aT ?_); (first | refine run Γ hm 400 ?_ | refine runD Γ hm 400 (by kernel_rfl) ?_); conv => whnf))
        refine G_count n.vrfs.length (fun j => [(2, .ptr 2 0), (3, .ptr 3 0), (93, intSV n.vrfs.length), (94, intSV j)]) (fun _ => [(2, .box [.val (.slice none 0 0), .val (.slice none 0 0), .val (.slice none 0 0), .val (.slice none 0 0), .val (.slice none 0 0), .val (.slice none 0 0), .val (.slice none 0 0), .val (.slice none 0 0)]), (3, .box [.sl 5 deviceSV n.devices, .osl 14, .sl 3 linkSV n.links, .osl 20, .sl 4 staticSV n.statics, .osl 26, .osl 29, .sl 5 irbSV n.irbs]), (14, .row 7 portSV n.ports), (20, .row 6 domainSV n.domains), (26, .row 4 floodSV n.floods), (29, .row 5 vrfSV n.vrfs)]) []
          ⟨⟨rfl, rfl, rfl, rfl, rfl, rfl, rfl, rfl, trivial⟩, ⟨.inl rfl, rfl, .inl rfl, rfl, .inl rfl, rfl, .inl rfl, rfl, .inl rfl, rfl, .inl rfl, rfl, trivial⟩, rfl, rfl⟩ ?_
        intro j hj
        ((first | refine run Γ hm 400 ?_ | refine runD Γ hm 400 (by kernel_rfl) ?_); (conv => whnf); repeat ((first | refine aF ?_ | refine aT ?_); (first | refine run Γ hm 400 ?_ | refine runD Γ hm 400 (by kernel_rfl) ?_); conv => whnf))
        refine ⟨fun h => ?_, fun h => ?_⟩
        · have hlt : j < n.vrfs.length := by simpa using h
          obtain ⟨p, hp⟩ : ∃ p, n.vrfs[(j : Int).toNat]'(by omega) = p := ⟨_, rfl⟩
          have hne : n.vrfs ≠ [] := fun e => by rw [e] at hlt; cases hlt
          have hset : n.vrfs.set (j : Int).toNat p = n.vrfs := by rw [← hp]; exact List.set_getElem_self _
          have hpl := h2.2.2.2 p (by rw [← hp]; exact List.getElem_mem _)
          ((first | refine run Γ hm 400 ?_ | refine runD Γ hm 400 (by kernel_rfl) ?_); (conv => whnf); repeat ((first | refine aF ?_ | refine aT ?_); (first | refine run Γ hm 400 ?_ | refine runD Γ hm 400 (by kernel_rfl) ?_); conv => whnf))
          have hne2 : n.vrfs.set (j : Int).toNat p ≠ [] := by rw [hset]; exact hne
          have hp2 : (n.vrfs.set (j : Int).toNat p)[(j : Int).toNat]'(by rw [hset]; omega) = p := by simp
          have hset2 : (n.vrfs.set (j : Int).toNat p).set (j : Int).toNat p = n.vrfs := by rw [hset, hset]
          refine ⟨by omega, by show _ < n.vrfs.length; omega, ?_⟩
          ((conv => whnf); repeat ((first | refine aF ?_ | refine aT ?_); (first | refine run Γ hm 400 ?_ | refine runD Γ hm 400 (by kernel_rfl) ?_); conv => whnf))
          refine stepD (good_nilCheck rfl (.inr (.inr (.inr ⟨29, 5, _, 0, rfl, fun κ w h => row_there hne h, rfl⟩)))) (by kernel_rfl) rfl ?_
          ((first | refine run Γ hm 400 ?_ | refine runD Γ hm 400 (by kernel_rfl) ?_); (conv => whnf); repeat ((first | refine aF ?_ | refine aT ?_); (first | refine run Γ hm 400 ?_ | refine runD Γ hm 400 (by kernel_rfl) ?_); conv => whnf))
          refine ⟨hne, ?_⟩
          ((conv => whnf); repeat ((first | refine aF ?_ | refine aT ?_); (first | refine run Γ hm 400 ?_ | refine runD Γ hm 400 (by kernel_rfl) ?_); conv => whnf))
          refine ⟨rfl, by omega, ?_⟩
          rw [hp]
          ((conv => whnf); repeat ((first | refine aF ?_ | refine aT ?_); (first | refine run Γ hm 400 ?_ | refine runD Γ hm 400 (by kernel_rfl) ?_); conv => whnf))
          refine callD0 (cloneIntS p.imports hpl.1) F82 rfl rfl rfl (by kernel_rfl) rfl ?_
          ((first | refine run Γ hm 400 ?_ | refine runD Γ hm 400 (by kernel_rfl) ?_); (conv => whnf); repeat ((first | refine aF ?_ | refine aT ?_); (first | refine run Γ hm 400 ?_ | refine runD Γ hm 400 (by kernel_rfl) ?_); conv => whnf))
          refine stepD (good_nilCheck rfl (.inr (.inr (.inr ⟨29, 5, _, 0, rfl, fun κ w h => row_there hne h, rfl⟩)))) (by kernel_rfl) rfl ?_
          ((first | refine run Γ hm 400 ?_ | refine runD Γ hm 400 (by kernel_rfl) ?_); (conv => whnf); repeat ((first | refine aF ?_ | refine aT ?_); (first | refine run Γ hm 400 ?_ | refine runD Γ hm 400 (by kernel_rfl) ?_); conv => whnf))
          refine ⟨hne, ?_⟩
          ((conv => whnf); repeat ((first | refine aF ?_ | refine aT ?_); (first | refine run Γ hm 400 ?_ | refine runD Γ hm 400 (by kernel_rfl) ?_); conv => whnf))
          refine ⟨rfl, by omega, ?_⟩
          rw [hp]
          ((conv => whnf); repeat ((first | refine aF ?_ | refine aT ?_); (first | refine run Γ hm 400 ?_ | refine runD Γ hm 400 (by kernel_rfl) ?_); conv => whnf))
          refine callD0 (cloneIntS p.exports hpl.2) F82 rfl rfl rfl (by kernel_rfl) rfl ?_
          ((first | refine run Γ hm 400 ?_ | refine runD Γ hm 400 (by kernel_rfl) ?_); (conv => whnf); repeat ((first | refine aF ?_ | refine aT ?_); (first | refine run Γ hm 400 ?_ | refine runD Γ hm 400 (by kernel_rfl) ?_); conv => whnf))
          refine stepD (good_nilCheck rfl (.inr (.inr (.inr ⟨29, 5, _, 0, rfl, fun κ w h => row_there hne h, rfl⟩)))) (by kernel_rfl) rfl ?_
          ((first | refine run Γ hm 400 ?_ | refine runD Γ hm 400 (by kernel_rfl) ?_); (conv => whnf); repeat ((first | refine aF ?_ | refine aT ?_); (first | refine run Γ hm 400 ?_ | refine runD Γ hm 400 (by kernel_rfl) ?_); conv => whnf))
          refine ⟨hne, ?_⟩
          ((conv => whnf); repeat ((first | refine aF ?_ | refine aT ?_); (first | refine run Γ hm 400 ?_ | refine runD Γ hm 400 (by kernel_rfl) ?_); conv => whnf))
          refine ⟨rfl, by omega, p, (by rw [hp]; rfl), (by rw [hp]; rfl), ?_⟩
          ((conv => whnf); repeat ((first | refine aF ?_ | refine aT ?_); (first | refine run Γ hm 400 ?_ | refine runD Γ hm 400 (by kernel_rfl) ?_); conv => whnf))
          refine stepD (good_nilCheck rfl (.inr (.inr (.inr ⟨29, 5, _, 0, rfl, fun κ w h => row_there hne2 h, rfl⟩)))) (by kernel_rfl) rfl ?_
          ((first | refine run Γ hm 400 ?_ | refine runD Γ hm 400 (by kernel_rfl) ?_); (conv => whnf); repeat ((first | refine aF ?_ | refine aT ?_); (first | refine run Γ hm 400 ?_ | refine runD Γ hm 400 (by kernel_rfl) ?_); conv => whnf))
          refine ⟨hne2, ?_⟩
          ((conv => whnf); repeat ((first | refine aF ?_ | refine aT ?_); (first | refine run Γ hm 400 ?_ | refine runD Γ hm 400 (by kernel_rfl) ?_); conv => whnf))
          refine ⟨rfl, by rw [hset]; omega, p, (by rw [hp2]; rfl), (by rw [hp2]; rfl), ?_⟩
          ((conv => whnf); repeat ((first | refine aF ?_ | refine aT ?_); (first | refine run Γ hm 400 ?_ | refine runD Γ hm 400 (by kernel_rfl) ?_); conv => whnf))
          refine ⟨(by kernel_rfl), ?_⟩
          ((conv => whnf); repeat ((first | refine aF ?_ | refine aT ?_); (first | refine run Γ hm 400 ?_ | refine runD Γ hm 400 (by kernel_rfl) ?_); conv => whnf))
          refine ⟨by unfold I64; omega, ?_⟩
          ((conv => whnf); repeat ((first | refine aF ?_ | refine aT ?_); (first | refine run Γ hm 400 ?_ | refine runD Γ hm 400 (by kernel_rfl) ?_); conv => whnf))
          exact G_next [] hlt ⟨⟨rfl, rfl, rfl, rfl, rfl, rfl, rfl, rfl, trivial⟩, ⟨.inl rfl, rfl, .inl rfl, rfl, .inl rfl, rfl, .inl rfl, rfl, .inl rfl, rfl, .inl (congrArg (Ob.row 5 vrfSV) hset2.symm), rfl, trivial⟩, rfl, rfl⟩
        · ((first | refine run Γ hm 400 ?_ | refine runD Γ hm 400 (by kernel_rfl) ?_); (conv => whnf); repeat ((first | refine aF ?_ | refine aT ?_); (first | refine run Γ hm 400 ?_ | refine runD Γ hm 400 (by kernel_rfl) ?_); conv => whnf))
          refine G_data 14 rfl ?_
          refine G_data 20 rfl ?_
          refine G_data 26 rfl ?_
          refine G_data 29 rfl ?_
          exact done0 rfl (.cons (.cell rfl rfl rfl rfl) .nil) rfl rfl
end Go.Sy.YthbgklhegccckaaGreat

namespace Go.Sy.YthbgklhegccckaaGreat
open Go.Proofs

attribute [local irreducible] Go.Sy.G Go.Sy.DR
set_option maxRecDepth 100000
set_option maxHeartbeats 4000000

/-- What a net's addresses are. -/
def MacsIn (n : Net) : Prop := ∀ d ∈ n.devices, 0 ≤ d.mac
theorem macs_in {n : Net} (h : n.In) : MacsIn n := fun d hd => by
  have := (h.devices.1 d hd).2.2.2.1
  simp only [wI, Lit.wf, Bool.and_eq_true, decide_eq_true_eq] at this
  have e1 : IntKind.min .u64 = 0 := by decide
  omega

def idRes (d : Device) : SV := .tup [u64SV ((if idOK d then idD d else 0 : Nat) : Int), boolSV (idOK d)]

theorem id_cases {d : Device} (h : 0 ≤ d.mac) : (∃ p m : Nat, d.prio = p ∧ d.mac = m ∧ p < 65536 ∧ m < 281474976710656 ∧ idRes d = .tup [u64SV (idN p m), boolSV true]) ∨
    (∃ m : Nat, d.mac = m ∧ (d.prio < 0 ∨ 65536 ≤ d.prio ∨ 281474976710656 ≤ m) ∧ idRes d = .tup [u64SV (0 : Nat), boolSV false]) := by
  cases hb : idOK d with
  | true =>
    have hb' := hb
    simp only [idOK, Bool.and_eq_true, decide_eq_true_eq] at hb'
    refine .inl ⟨d.prio.toNat, d.mac.toNat, by omega, by omega, by omega, by omega, ?_⟩
    simp only [idRes, hb, if_true]
    rfl
  | false =>
    have hb' := hb
    simp only [idOK, Bool.and_eq_false_iff, decide_eq_false_iff_not] at hb'
    refine .inr ⟨d.mac.toNat, by omega, by omega, ?_⟩
    simp only [idRes, hb, Bool.false_eq_true, if_false]

theorem idS (d : Device) (h : 0 ≤ d.mac) : Sy.Spec Tryz.prog 60 [intSV d.prio, u64SV d.mac] [] (idRes d) [] := by
  rcases id_cases h with ⟨p, m, h1, h2, h3, h4, h5⟩ | ⟨m, h2, h3, h5⟩
  · rw [h1, h2, h5]; exact id_ok p m h3 h4
  · rw [h2, h5]; exact id_no d.prio m h3

theorem idsL_length (n : Net) : (idsL n).length = n.devices.length := by simp [idsL]
theorem idsL_get {n : Net} {j : Nat} (h : j < n.devices.length) : (idsL n)[j]'(by rw [idsL_length]; exact h) = idD n.devices[j] := by simp [idsL]
theorem idsL_take {n : Net} {j : Nat} (h : j < n.devices.length) : (idsL n).take (j + 1) = (idsL n).take j ++ [idD n.devices[j]] := by
  rw [List.take_succ_eq_append_getElem (by rw [idsL_length]; exact h), idsL_get h]

theorem idsOKS (n : Net) (hm1 : MacsIn n) (hl : n.devices.length < 100000) (h : n.devices.all idOK = true) : Sy.Spec Tryz.prog 21 [netSV n] [] (.tup [.sl 1 natU (idsL n), boolSV true]) [] := contract Γ hm 100 F21 Tryz.ntmps21 rfl fun F hF => by
  ((conv => whnf); repeat ((first | refine aF ?_ | refine aT ?_); (first | refine run Γ hm 400 ?_ | refine runD Γ hm 400 (by kernel_rfl) ?_); conv => whnf))
  refine G_adopt 4 1000 1 natU rfl rfl ?_
  refine G_count n.devices.length (fun j => [(4, .osl 1000), (10, .sl 5 deviceSV n.devices), (11, intSV n.devices.length), (12, intSV j)]) (fun j => [(1000, .row 1 natU ((idsL n).take j))]) []
    ⟨⟨rfl, rfl, rfl, rfl, rfl, rfl, rfl, rfl, trivial⟩, ⟨.inl rfl, rfl, trivial⟩, rfl, rfl⟩ ?_
  intro j hj
  ((first | refine run Γ hm 400 ?_ | refine runD Γ hm 400 (by kernel_rfl) ?_); (conv => whnf); repeat ((first | refine aF ?_ | refine aT ?_); (first | refine run Γ hm 400 ?_ | refine runD Γ hm 400 (by kernel_rfl) ?_); conv => whnf))
  refine ⟨fun h => ?_, fun h => ?_⟩
  · have hlt : j < n.devices.length := by simpa using h
    have hsucc := idsL_take hlt
    have hlen : ((idsL n).take j).length ≤ n.devices.length := by simp [idsL_length]; omega
    obtain ⟨d, hd⟩ : ∃ d, n.devices[j] = d := ⟨_, rfl⟩
    have e1 : n.devices[(j : Int).toNat]'(by omega) = d := hd
    have hmem : d ∈ n.devices := by rw [← hd]; exact List.getElem_mem _
    have hok : idOK d = true := List.all_eq_true.1 ‹n.devices.all idOK = true› d hmem
    have q := idS d (hm1 d hmem)
    rw [hd] at hsucc
    simp only [idRes, hok, if_true] at q
    generalize (idsL n).take j = u at *
    ((first | refine run Γ hm 400 ?_ | refine runD Γ hm 400 (by kernel_rfl) ?_); (conv => whnf); repeat ((first | refine aF ?_ | refine aT ?_); (first | refine run Γ hm 400 ?_ | refine runD Γ hm 400 (by kernel_rfl) ?_); conv => whnf))
    refine ⟨rfl, by omega, by omega, ?_⟩
    rw [e1]
    ((conv => whnf); repeat ((first | refine aF ?_ | refine aT ?_); (first | refine run Γ hm 400 ?_ | refine runD Γ hm 400 (by kernel_rfl) ?_); conv => whnf))
    refine call0 q F60 rfl rfl rfl rfl rfl ?_
    ((first | refine run Γ hm 400 ?_ | refine runD Γ hm 400 (by kernel_rfl) ?_); (conv => whnf); repeat ((first | refine aF ?_ | refine aT ?_); (first | refine run Γ hm 400 ?_ | refine runD Γ hm 400 (by kernel_rfl) ?_); conv => whnf))
    refine stepOp (good_appendT Γ.toTy 29 rfl rfl rfl rfl rfl (.row rfl) (.lit (e := natU) (l := [idD d]) rfl rfl) (by simp) (by simp; omega) (by simp; omega)) rfl rfl ?_
    ((first | refine run Γ hm 400 ?_ | refine runD Γ hm 400 (by kernel_rfl) ?_); (conv => whnf); repeat ((first | refine aF ?_ | refine aT ?_); (first | refine run Γ hm 400 ?_ | refine runD Γ hm 400 (by kernel_rfl) ?_); conv => whnf))
    refine ⟨by unfold I64; omega, ?_⟩
    ((conv => whnf); repeat ((first | refine aF ?_ | refine aT ?_); (first | refine run Γ hm 400 ?_ | refine runD Γ hm 400 (by kernel_rfl) ?_); conv => whnf))
    exact G_next [(1000, 29)] hlt ⟨⟨rfl, rfl, rfl, rfl, rfl, rfl, rfl, rfl, trivial⟩, ⟨.inl (congrArg (Ob.row 1 natU) hsucc), rfl, trivial⟩, rfl, rfl⟩
  · have hjl : j = n.devices.length := by
      have : ¬ j < n.devices.length := by simpa using h
      omega
    subst hjl
    have e : (idsL n).take n.devices.length = idsL n := by rw [← idsL_length]; exact List.take_length
    rw [e]
    ((first | refine run Γ hm 400 ?_ | refine runD Γ hm 400 (by kernel_rfl) ?_); (conv => whnf); repeat ((first | refine aF ?_ | refine aT ?_); (first | refine run Γ hm 400 ?_ | refine runD Γ hm 400 (by kernel_rfl) ?_); conv => whnf))
    refine G_data 1000 rfl ?_
    exact done0 rfl (.cons .tmp (.cons .tmp .nil)) rfl rfl

theorem idsBadS (n : Net) (hm1 : MacsIn n) (hl : n.devices.length < 100000) (h : n.devices.all idOK = false) : Sy.Spec Tryz.prog 21 [netSV n] [] (.tup [.sl 1 natU [], boolSV false]) [] := contract Γ hm 100 F21 Tryz.ntmps21 rfl fun F hF => by
  ((conv => whnf); repeat ((first | refine aF ?_ | refine aT ?_); (first | refine run Γ hm 400 ?_ | refine runD Γ hm 400 (by kernel_rfl) ?_); conv => whnf))
  refine G_adopt 4 1000 1 natU rfl rfl ?_
  refine G_countP n.devices.length (fun j => Upto (fun _ d => idOK d) n.devices j) (fun j => [(4, .osl 1000), (10, .sl 5 deviceSV n.devices), (11, intSV n.devices.length), (12, intSV j)]) (fun j => [(1000, .row 1 natU ((idsL n).take j))]) [] (upto_zero _ _)
    ⟨⟨rfl, rfl, rfl, rfl, rfl, rfl, rfl, rfl, trivial⟩, ⟨.inl rfl, rfl, trivial⟩, rfl, rfl⟩ ?_
  intro j hj hI
  ((first | refine run Γ hm 400 ?_ | refine runD Γ hm 400 (by kernel_rfl) ?_); (conv => whnf); repeat ((first | refine aF ?_ | refine aT ?_); (first | refine run Γ hm 400 ?_ | refine runD Γ hm 400 (by kernel_rfl) ?_); conv => whnf))
  refine ⟨fun h => ?_, fun h => ?_⟩
  · have hlt : j < n.devices.length := by simpa using h
    have hsucc := idsL_take hlt
    have hlen : ((idsL n).take j).length ≤ n.devices.length := by simp [idsL_length]; omega
    obtain ⟨d, hd⟩ : ∃ d, n.devices[j] = d := ⟨_, rfl⟩
    have e1 : n.devices[(j : Int).toNat]'(by omega) = d := hd
    have hmem : d ∈ n.devices := by rw [← hd]; exact List.getElem_mem _
    have q := idS d (hm1 d hmem)
    rw [hd] at hsucc
    cases hok : idOK d with
    | false =>
      simp only [idRes, hok, Bool.false_eq_true, if_false] at q
      ((first | refine run Γ hm 400 ?_ | refine runD Γ hm 400 (by kernel_rfl) ?_); (conv => whnf); repeat ((first | refine aF ?_ | refine aT ?_); (first | refine run Γ hm 400 ?_ | refine runD Γ hm 400 (by kernel_rfl) ?_); conv => whnf))
      refine ⟨rfl, by omega, by omega, ?_⟩
      rw [e1]
      ((conv => whnf); repeat ((first | refine aF ?_ | refine aT ?_); (first | refine run Γ hm 400 ?_ | refine runD Γ hm 400 (by kernel_rfl) ?_); conv => whnf))
      refine call0 q F60 rfl rfl rfl rfl rfl ?_
      ((first | refine run Γ hm 400 ?_ | refine runD Γ hm 400 (by kernel_rfl) ?_); (conv => whnf); repeat ((first | refine aF ?_ | refine aT ?_); (first | refine run Γ hm 400 ?_ | refine runD Γ hm 400 (by kernel_rfl) ?_); conv => whnf))
      refine G_nilsl 2 1 natU rfl ?_
      exact done0 rfl (.cons .tmp (.cons .tmp .nil)) rfl rfl
    | true =>
      have hn := upto_next hI hlt (by rw [hd]; exact hok)
      simp only [idRes, hok, if_true] at q
      generalize (idsL n).take j = u at *
      ((first | refine run Γ hm 400 ?_ | refine runD Γ hm 400 (by kernel_rfl) ?_); (conv => whnf); repeat ((first | refine aF ?_ | refine aT ?_); (first | refine run Γ hm 400 ?_ | refine runD Γ hm 400 (by kernel_rfl) ?_); conv => whnf))
      refine ⟨rfl, by omega, by omega, ?_⟩
      rw [e1]
      ((conv => whnf); repeat ((first | refine aF ?_ | refine aT ?_); (first | refine run Γ hm 400 ?_ | refine runD Γ hm 400 (by kernel_rfl) ?_); conv => whnf))
      refine call0 q F60 rfl rfl rfl rfl rfl ?_
      ((first | refine run Γ hm 400 ?_ | refine runD Γ hm 400 (by kernel_rfl) ?_); (conv => whnf); repeat ((first | refine aF ?_ | refine aT ?_); (first | refine run Γ hm 400 ?_ | refine runD Γ hm 400 (by kernel_rfl) ?_); conv => whnf))
      refine stepOp (good_appendT Γ.toTy 29 rfl rfl rfl rfl rfl (.row rfl) (.lit (e := natU) (l := [idD d]) rfl rfl) (by simp) (by simp; omega) (by simp; omega)) rfl rfl ?_
      ((first | refine run Γ hm 400 ?_ | refine runD Γ hm 400 (by kernel_rfl) ?_); (conv => whnf); repeat ((first | refine aF ?_ | refine aT ?_); (first | refine run Γ hm 400 ?_ | refine runD Γ hm 400 (by kernel_rfl) ?_); conv => whnf))
      refine ⟨by unfold I64; omega, ?_⟩
      ((conv => whnf); repeat ((first | refine aF ?_ | refine aT ?_); (first | refine run Γ hm 400 ?_ | refine runD Γ hm 400 (by kernel_rfl) ?_); conv => whnf))
      exact G_nextP [(1000, 29)] hI hlt hn ⟨⟨rfl, rfl, rfl, rfl, rfl, rfl, rfl, rfl, trivial⟩, ⟨.inl (congrArg (Ob.row 1 natU) hsucc), rfl, trivial⟩, rfl, rfl⟩
  · exfalso
    have hjl : j = n.devices.length := by
      have : ¬ j < n.devices.length := by simpa using h
      omega
    have h2 : ¬ n.devices.all idOK = true := by rw [‹n.devices.all idOK = false›]; simp
    refine h2 (List.all_eq_true.2 fun d hd => ?_)
    obtain ⟨i, hi, rfl⟩ := List.getElem_of_mem hd
    exact hI i hi (by omega)

theorem indexUS (l : List Nat) (x : Nat) (hl : Short l) : Sy.Spec Tryz.prog 22 [.sl 1 natU l, u64SV x] [] (intSV (idxI (· == x) l)) [] := contract Γ hm 100 F22 Tryz.ntmps22 rfl fun F hF => by
  unfold Short at hl
  ((conv => whnf); repeat ((first | refine aF ?_ | refine aT ?_); (first | refine run Γ hm 400 ?_ | refine runD Γ hm 400 (by kernel_rfl) ?_); conv => whnf))
  refine G_countP l.length (fun j => ∀ i (h : i < l.length), i < j → (l[i] == x) = false) (fun j => [(0, .sl 1 natU l), (1, u64SV x), (7, intSV l.length), (8, intSV j)]) (fun _ => []) [] (fun i h hj => absurd hj (by omega)) ⟨⟨rfl, rfl, rfl, rfl, rfl, rfl, rfl, rfl, trivial⟩, trivial, rfl, rfl⟩ ?_
  intro j hj hI
  ((first | refine run Γ hm 400 ?_ | refine runD Γ hm 400 (by kernel_rfl) ?_); (conv => whnf); repeat ((first | refine aF ?_ | refine aT ?_); (first | refine run Γ hm 400 ?_ | refine runD Γ hm 400 (by kernel_rfl) ?_); conv => whnf))
  (repeat' (first | (refine ⟨fun h => ?_, fun h => ?_⟩ <;> (repeat (first | (simp only [decide_eq_true_eq] at h) | (simp only [decide_eq_false_iff_not] at h) | (simp only [beq_iff_eq] at h) | (simp only [beq_eq_false_iff_ne] at h) | (simp only [bne_iff_ne] at h) | (simp only [bne_eq_false_iff_eq] at h) | (simp only [Bool.and_eq_true] at h) | (simp only [Bool.or_eq_true] at h) | (simp only [Bool.and_eq_false_iff] at h) | (simp only [Bool.or_eq_false_iff] at h) | (simp only [Bool.not_eq_true'] at h) | (simp only [Bool.not_eq_false'] at h) | (simp only [Bool.not_eq_eq_eq_not] at h) | (simp only [Bool.not_true] at h) | (simp only [Bool.not_false] at h))) <;> ((first | refine run Γ hm 400 ?_ | refine runD Γ hm 400 (by kernel_rfl) ?_); (conv => whnf); repeat ((first | refine aF ?_ | refine aT ?_); (first | refine run Γ hm 400 ?_ | refine runD Γ hm 400 (by kernel_rfl) ?_); conv => whnf))) | (refine done0 rfl (.cons .tmp .nil) ?_ rfl) | (refine ⟨(by kernel_rfl), ?_⟩; ((conv => whnf); repeat ((first | refine aF ?_ | refine aT ?_); (first | refine run Γ hm 400 ?_ | refine runD Γ hm 400 (by kernel_rfl) ?_); conv => whnf))) | (refine ⟨by (first | (unfold I64; omega) | omega | (simp only [Int.toNat_natCast]; omega) | done), by (first | (unfold I64; omega) | omega | (simp only [Int.toNat_natCast]; omega) | done), ?_⟩; ((conv => whnf); repeat ((first | refine aF ?_ | refine aT ?_); (first | refine run Γ hm 400 ?_ | refine runD Γ hm 400 (by kernel_rfl) ?_); conv => whnf))) | (refine ⟨by (first | (unfold I64; omega) | omega | (simp only [Int.toNat_natCast]; omega) | done), ?_⟩; ((conv => whnf); repeat ((first | refine aF ?_ | refine aT ?_); (first | refine run Γ hm 400 ?_ | refine runD Γ hm 400 (by kernel_rfl) ?_); conv => whnf))) | (refine G_nextP [] hI (by omega) ?_ ⟨⟨rfl, rfl, rfl, rfl, rfl, rfl, rfl, rfl, trivial⟩, trivial, rfl, rfl⟩)))
  all_goals try (refine congrArg intSV ?_)
  · exact idxI_found (by omega) hI (by simp only [Int.toNat_natCast] at h; simp; omega)
  · intro i hi hij
    rcases Nat.lt_or_ge i j with h1 | h1
    · exact hI i hi h1
    · have : i = j := by omega
      subst this
      simp only [Int.toNat_natCast] at h
      simp
      omega
  · exact idxI_none (fun i hi => hI i hi (by omega))

theorem nodup_idx (l : List Nat) : l.Nodup ↔ ∀ i (h : i < l.length), idxI (· == l[i]) l = i := by
  rw [List.Nodup, List.pairwise_iff_getElem]
  constructor
  · intro hn i hi
    refine idxI_found hi (fun k hk hki => ?_) (by simp)
    have := hn k i hk hi hki
    simpa using this
  · intro h i j hi hj hij he
    have h1 := h i hi
    have h2 := h j hj
    rw [he] at h1
    omega
end Go.Sy.YthbgklhegccckaaGreat
