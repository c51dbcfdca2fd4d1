/-
  Nets: what a net's value reads as.
-/
import Derived.Test.YtjnkgkpenhjmfaaTy
namespace Go.Sy.Ytjnkgkpenhjmfaa
open Go.Proofs

structure Device where
  (row prio : Int) (name : ByteArray) (mac vtep : Int)
structure Port where
  (row dev native cost link : Int) (name : ByteArray) (tagged : List Int)
structure Link where
  (row a b : Int)
structure Domain where
  (dev vlan vni irb row : Int) (peers : List Int)
structure Static where
  (row domain port mac : Int)
structure Flood where
  (row dev vni : Int) (addrs : List Int)
structure Vrf where
  (row dev : Int) (name : ByteArray) (imports exports : List Int)
structure Irb where
  (row domain vrf addr bits : Int)
structure Net where
  (devices : List Device) (ports : List Port) (links : List Link) (domains : List Domain) (statics : List Static) (floods : List Flood) (vrfs : List Vrf) (irbs : List Irb)

def deviceSV (d : Device) : SV := .agg [intSV d.row, intSV d.prio, strSV d.name, u64SV d.mac, u32SV d.vtep]
def portSV (p : Port) : SV := .agg [intSV p.row, intSV p.dev, intSV p.native, intSV p.cost, intSV p.link, strSV p.name, .sl 1 intSV p.tagged]
def linkSV (l : Link) : SV := .agg [intSV l.row, intSV l.a, intSV l.b]
def domainSV (d : Domain) : SV := .agg [intSV d.dev, intSV d.vlan, intSV d.vni, intSV d.irb, intSV d.row, .sl 1 intSV d.peers]
def staticSV (s : Static) : SV := .agg [intSV s.row, intSV s.domain, intSV s.port, u64SV s.mac]
def floodSV (f : Flood) : SV := .agg [intSV f.row, intSV f.dev, intSV f.vni, .sl 1 u32SV f.addrs]
def vrfSV (v : Vrf) : SV := .agg [intSV v.row, intSV v.dev, strSV v.name, .sl 1 intSV v.imports, .sl 1 intSV v.exports]
def irbSV (i : Irb) : SV := .agg [intSV i.row, intSV i.domain, intSV i.vrf, u32SV i.addr, intSV i.bits]
def netL (n : Net) : List SV := [.sl 5 deviceSV n.devices, .sl 7 portSV n.ports, .sl 3 linkSV n.links, .sl 6 domainSV n.domains, .sl 4 staticSV n.statics, .sl 4 floodSV n.floods, .sl 5 vrfSV n.vrfs, .sl 5 irbSV n.irbs]
def netSV (n : Net) : SV := .agg [.sl 5 deviceSV n.devices, .sl 7 portSV n.ports, .sl 3 linkSV n.links, .sl 6 domainSV n.domains, .sl 4 staticSV n.statics, .sl 4 floodSV n.floods, .sl 5 vrfSV n.vrfs, .sl 5 irbSV n.irbs]

instance : Inhabited Device := ⟨⟨0, 0, .empty, 0, 0⟩⟩
instance : Inhabited Port := ⟨⟨0, 0, 0, 0, 0, .empty, []⟩⟩
instance : Inhabited Link := ⟨⟨0, 0, 0⟩⟩
instance : Inhabited Domain := ⟨⟨0, 0, 0, 0, 0, []⟩⟩
instance : Inhabited Static := ⟨⟨0, 0, 0, 0⟩⟩
instance : Inhabited Flood := ⟨⟨0, 0, 0, []⟩⟩
instance : Inhabited Vrf := ⟨⟨0, 0, .empty, [], []⟩⟩
instance : Inhabited Irb := ⟨⟨0, 0, 0, 0, 0⟩⟩

def placeB (i : Int) (n : Nat) : Bool := decide (0 ≤ i) && decide (i < n)
def inB (l : List Int) (x : Int) : Bool := l.any (· == x)

/-- What stands at a place. -/
def nth {α : Type} [Inhabited α] (l : List α) (i : Int) : α := (l[i.toNat]?).getD default
theorem nth_eq {α : Type} [Inhabited α] {l : List α} {i : Int} (h : i.toNat < l.length) : nth l i = l[i.toNat] := by
  simp [nth, h]

/-- The first place that is so; or -1. -/
def idxI {α : Type} (p : α → Bool) (l : List α) : Int := match l.findIdx? p with | some i => (i : Int) | none => -1

theorem idxI_found {α : Type} {p : α → Bool} {l : List α} {j : Nat} (h : j < l.length) (h1 : ∀ i (hi : i < l.length), i < j → p l[i] = false) (h2 : p l[j] = true) : idxI p l = j := by
  have : l.findIdx? p = some j := by
    rw [List.findIdx?_eq_some_iff_getElem]
    exact ⟨h, h2, fun i hi => by simp [h1 i (by omega) hi]⟩
  simp [idxI, this]

theorem idxI_none {α : Type} {p : α → Bool} {l : List α} (h1 : ∀ i (hi : i < l.length), p l[i] = false) : idxI p l = -1 := by
  have : l.findIdx? p = none := by
    rw [List.findIdx?_eq_none_iff]
    intro x hx
    obtain ⟨i, hi, rfl⟩ := List.mem_iff_getElem.1 hx
    exact h1 i hi
  simp [idxI, this]

theorem idxI_lt {α : Type} (p : α → Bool) (l : List α) : idxI p l < l.length := by
  unfold idxI
  split
  · rename_i i h
    rw [List.findIdx?_eq_some_iff_getElem] at h
    obtain ⟨h, _⟩ := h
    omega
  · omega

theorem idxI_ge {α : Type} (p : α → Bool) (l : List α) : -1 ≤ idxI p l := by
  unfold idxI
  split <;> omega

theorem idxI_any {α : Type} (p : α → Bool) (l : List α) : decide (0 ≤ idxI p l) = l.any p := by
  unfold idxI
  split
  · rename_i i h
    rw [List.findIdx?_eq_some_iff_getElem] at h
    obtain ⟨h, h2, _⟩ := h
    have : l.any p = true := List.any_eq_true.2 ⟨_, List.getElem_mem h, h2⟩
    rw [this]
    simp
  · rename_i h
    rw [List.findIdx?_eq_none_iff] at h
    have : l.any p = false := by
      rw [List.any_eq_false]
      intro x hx
      simp [h x hx]
    rw [this]
    simp

/-- Is each, with its place, so? -/
def allB {α : Type} (p : Nat → α → Bool) (l : List α) : Bool := l.zipIdx.all fun q => p q.2 q.1

theorem allB_iff {α : Type} {p : Nat → α → Bool} {l : List α} : allB p l = true ↔ ∀ i (h : i < l.length), p i l[i] = true := by
  simp only [allB, List.all_eq_true]
  constructor
  · intro h i hi
    exact h (l[i], i) (by rw [List.mk_mem_zipIdx_iff_getElem?]; simp [hi])
  · rintro h ⟨x, i⟩ hx
    rw [List.mk_mem_zipIdx_iff_getElem?] at hx
    obtain ⟨hi, rfl⟩ := List.getElem?_eq_some_iff.1 hx
    exact h i hi

theorem allB_true {α : Type} {p : Nat → α → Bool} {l : List α} (h : ∀ i (h : i < l.length), p i l[i] = true) : allB p l = true := allB_iff.2 h
theorem allB_false {α : Type} {p : Nat → α → Bool} {l : List α} {i : Nat} (h : i < l.length) (h1 : p i l[i] = false) : allB p l = false := by
  cases hh : allB p l with
  | false => rfl
  | true => have := allB_iff.1 hh i h; rw [h1] at this; cases this

/-- The first j are so. -/
def Upto {α : Type} (p : Nat → α → Bool) (l : List α) (j : Nat) : Prop := ∀ i (h : i < l.length), i < j → p i l[i] = true
theorem upto_zero {α : Type} (p : Nat → α → Bool) (l : List α) : Upto p l 0 := fun i h hj => absurd hj (by omega)
theorem upto_next {α : Type} {p : Nat → α → Bool} {l : List α} {j : Nat} (hI : Upto p l j) (hj : j < l.length) (h : p j l[j] = true) : Upto p l (j + 1) := by
  intro i hi hij
  rcases Nat.lt_or_ge i j with h1 | h1
  · exact hI i hi h1
  · have : i = j := by omega
    subst this
    exact h
theorem upto_all {α : Type} {p : Nat → α → Bool} {l : List α} {j : Nat} (hI : Upto p l j) (hj : l.length ≤ j) : allB p l = true := allB_true fun i hi => hI i hi (by omega)

def Short {α : Type} (l : List α) : Prop := l.length < 2147483648

end Go.Sy.Ytjnkgkpenhjmfaa
