/-
  No cell of these rows narrows 'for every input' (looked for: loops, veiled, ifaces, maps, wideKeys, modest, calm, conditions, laid).
  DERIVED. THE GIVEN ROWS OF THIS SEAT. 4 by the template 'for every input the law returns true; each argument reads behind the call as it read before'; 0 by the template 'total and deterministic' (their statements: YtjfglngcfghfnaaTotals.lean).
  GIVEN WITH THE SEED: the statements are not yours to turn. If you find one false, say at which input.
  Laid BY PROGRAM, IN A SANDBOX (cutbox-rows.mjs): the forced cells as the released guide's own fill.sh prints them over the translation a705c08818d71d72… (all of the seat's roots in one cut). By AI agents, Wed Nov 11 2026. No macro, syntax, notation, axiom, sorry.
-/
import Derived.Test.YtjfglngcfghfnaaChecked
import GoSem.Claim
import GoSem.ClaimJoined
import GoSem.ClaimMapViews
import Derived.JoinedTies
import Derived.KernelRfl
namespace Go.Proofs.Ytjfglngcfghfnaa
/- THE CELL 'sum', in the pinned program and in every row, IS THE sha256 OF THE DUMP (.gsa) THAT YtjfglngcfghfnaaProg.lean LOADS. Nothing in Lean hashes anything: it is a label: what it is worth is what the hold of that sum in a sandbox is worth. -/
noncomputable def Try.pinned : Pinned := { name := "ytjfglngcfghfnaa", sum := "a705c08818d71d72d10d8aef39559f14d0eee3c4665cc75102def9a3bcc49e9f", checked := Try.checked }
namespace Rows
def none {H : Type} : Left H := { results := [], args := [] }

/-- 'palinglaw40.BpduTakes': WHATEVER THE INPUT: true; the input reads as it did. -/
def bpduTakesSpec : ChangeSpec := { name := "bpduTakes", fn := fun _ => fun
  | [d] => { results := [.lit (.bool true)], args := [d] }
  | _ => none }
def bpduTakesRow : OpenClaim := { program := "ytjfglngcfghfnaa", sum := "a705c08818d71d72d10d8aef39559f14d0eee3c4665cc75102def9a3bcc49e9f", func := "paling/palinglaw40.BpduTakes", spec := "bpduTakes", apart := false }
def BpduTakesSaid : Prop := bpduTakesRow.holds Try.pinned (OpenSpec.ofChange bpduTakesSpec)

/-- ITS FALSE NEIGHBOUR: 'it returns false'. Refute it at one input. -/
def bpduTakesWrong : ChangeSpec := { name := "bpduTakes", fn := fun _ => fun
  | [d] => { results := [.lit (.bool false)], args := [d] }
  | _ => none }
def BpduTakesWrongFalsely : Prop := bpduTakesRow.holds Try.pinned (OpenSpec.ofChange bpduTakesWrong)

/-- 'palinglaw40.BpduBack': WHATEVER THE INPUT: true; the input reads as it did. -/
def bpduBackSpec : ChangeSpec := { name := "bpduBack", fn := fun _ => fun
  | [d1, d2, d3, d4] => { results := [.lit (.bool true)], args := [d1, d2, d3, d4] }
  | _ => none }
def bpduBackRow : OpenClaim := { program := "ytjfglngcfghfnaa", sum := "a705c08818d71d72d10d8aef39559f14d0eee3c4665cc75102def9a3bcc49e9f", func := "paling/palinglaw40.BpduBack", spec := "bpduBack", apart := false }
def BpduBackSaid : Prop := bpduBackRow.holds Try.pinned (OpenSpec.ofChange bpduBackSpec)

/-- ITS FALSE NEIGHBOUR: 'it returns false'. Refute it at one input. -/
def bpduBackWrong : ChangeSpec := { name := "bpduBack", fn := fun _ => fun
  | [d1, d2, d3, d4] => { results := [.lit (.bool false)], args := [d1, d2, d3, d4] }
  | _ => none }
def BpduBackWrongFalsely : Prop := bpduBackRow.holds Try.pinned (OpenSpec.ofChange bpduBackWrong)

/-- 'palinglaw40.BpduPuts': WHATEVER THE INPUT: true; the input reads as it did. -/
def bpduPutsSpec : ChangeSpec := { name := "bpduPuts", fn := fun _ => fun
  | [d1, d2, d3, d4] => { results := [.lit (.bool true)], args := [d1, d2, d3, d4] }
  | _ => none }
def bpduPutsRow : OpenClaim := { program := "ytjfglngcfghfnaa", sum := "a705c08818d71d72d10d8aef39559f14d0eee3c4665cc75102def9a3bcc49e9f", func := "paling/palinglaw40.BpduPuts", spec := "bpduPuts", apart := false }
def BpduPutsSaid : Prop := bpduPutsRow.holds Try.pinned (OpenSpec.ofChange bpduPutsSpec)

/-- ITS FALSE NEIGHBOUR: 'it returns false'. Refute it at one input. -/
def bpduPutsWrong : ChangeSpec := { name := "bpduPuts", fn := fun _ => fun
  | [d1, d2, d3, d4] => { results := [.lit (.bool false)], args := [d1, d2, d3, d4] }
  | _ => none }
def BpduPutsWrongFalsely : Prop := bpduPutsRow.holds Try.pinned (OpenSpec.ofChange bpduPutsWrong)

/-- 'palinglaw40.BpduOrder': WHATEVER THE INPUT: true; the input reads as it did. -/
def bpduOrderSpec : ChangeSpec := { name := "bpduOrder", fn := fun _ => fun
  | [d1, d2, d3, d4, d5, d6] => { results := [.lit (.bool true)], args := [d1, d2, d3, d4, d5, d6] }
  | _ => none }
def bpduOrderRow : OpenClaim := { program := "ytjfglngcfghfnaa", sum := "a705c08818d71d72d10d8aef39559f14d0eee3c4665cc75102def9a3bcc49e9f", func := "paling/palinglaw40.BpduOrder", spec := "bpduOrder", apart := false }
def BpduOrderSaid : Prop := bpduOrderRow.holds Try.pinned (OpenSpec.ofChange bpduOrderSpec)

/-- ITS FALSE NEIGHBOUR: 'it returns false'. Refute it at one input. -/
def bpduOrderWrong : ChangeSpec := { name := "bpduOrder", fn := fun _ => fun
  | [d1, d2, d3, d4, d5, d6] => { results := [.lit (.bool false)], args := [d1, d2, d3, d4, d5, d6] }
  | _ => none }
def BpduOrderWrongFalsely : Prop := bpduOrderRow.holds Try.pinned (OpenSpec.ofChange bpduOrderWrong)

/- THE SECOND FORM. 'bulk': how many values and letters a reading holds, each counted each time it is reached (what is shared counts as often as it is met; a slice's spare places count too). A statement '..UptoSaid' is the law's where the arguments, and the package variables that the reading takes, are together of bulk at most 1048576: NARROWER than '..Said'. Prove '..Said' where nothing that the law and all that it calls make is longer than what came in: it says more and counts as full. Else prove '..UptoSaid'. A law counts once. -/
mutual
def uptoBulk {H : Type} : DataW H → Nat
  | .lit (.string bytes) => bytes.length + 1
  | .lit _ => 1
  | .nil => 1
  | .ptr d => uptoBulk d + 1
  | .slice elems spare => uptoBulkAll elems + uptoBulkAll spare + 1
  | .agg parts => uptoBulkAll parts + 1
  | .iface _ d => uptoBulk d + 1
  | .map entries => uptoBulkEntries entries + 1
  | .held _ => 1
def uptoBulkAll {H : Type} : List (DataW H) → Nat
  | [] => 0
  | d :: r => uptoBulk d + uptoBulkAll r
def uptoBulkEntries {H : Type} : List (Lit × DataW H) → Nat
  | [] => 0
  | x :: r => uptoBulkEntry x + uptoBulkEntries r
def uptoBulkEntry {H : Type} : Lit × DataW H → Nat
  | (.string bytes, d) => bytes.length + uptoBulk d + 1
  | (_, d) => uptoBulk d + 1
 end
def uptoSmall : (H : Type) → List (DataW H) → Bool := fun _ ds => decide (uptoBulkAll ds ≤ 1048576)
def OpenSpec.upto (s : _root_.Go.ChangeSpec) : _root_.Go.OpenSpec := { _root_.Go.OpenSpec.ofChange s with cond := some uptoSmall }

/-- 'palinglaw40.BpduTakes', WHERE WHAT IT READS IS OF BULK AT MOST 1048576: true; the input reads as it did. -/
def bpduTakesUptoRow : OpenClaim := { program := "ytjfglngcfghfnaa", sum := "a705c08818d71d72d10d8aef39559f14d0eee3c4665cc75102def9a3bcc49e9f", func := "paling/palinglaw40.BpduTakes", spec := "bpduTakes", apart := false, narrowed := true }
def BpduTakesUptoSaid : Prop := bpduTakesUptoRow.holds Try.pinned (OpenSpec.upto bpduTakesSpec)

/-- 'palinglaw40.BpduBack', WHERE WHAT IT READS IS OF BULK AT MOST 1048576: true; the input reads as it did. -/
def bpduBackUptoRow : OpenClaim := { program := "ytjfglngcfghfnaa", sum := "a705c08818d71d72d10d8aef39559f14d0eee3c4665cc75102def9a3bcc49e9f", func := "paling/palinglaw40.BpduBack", spec := "bpduBack", apart := false, narrowed := true }
def BpduBackUptoSaid : Prop := bpduBackUptoRow.holds Try.pinned (OpenSpec.upto bpduBackSpec)

/-- 'palinglaw40.BpduPuts', WHERE WHAT IT READS IS OF BULK AT MOST 1048576: true; the input reads as it did. -/
def bpduPutsUptoRow : OpenClaim := { program := "ytjfglngcfghfnaa", sum := "a705c08818d71d72d10d8aef39559f14d0eee3c4665cc75102def9a3bcc49e9f", func := "paling/palinglaw40.BpduPuts", spec := "bpduPuts", apart := false, narrowed := true }
def BpduPutsUptoSaid : Prop := bpduPutsUptoRow.holds Try.pinned (OpenSpec.upto bpduPutsSpec)

/-- 'palinglaw40.BpduOrder', WHERE WHAT IT READS IS OF BULK AT MOST 1048576: true; the input reads as it did. -/
def bpduOrderUptoRow : OpenClaim := { program := "ytjfglngcfghfnaa", sum := "a705c08818d71d72d10d8aef39559f14d0eee3c4665cc75102def9a3bcc49e9f", func := "paling/palinglaw40.BpduOrder", spec := "bpduOrder", apart := false, narrowed := true }
def BpduOrderUptoSaid : Prop := bpduOrderUptoRow.holds Try.pinned (OpenSpec.upto bpduOrderSpec)

end Rows
end Go.Proofs.Ytjfglngcfghfnaa
