/-
  No cell of these rows narrows 'for every input' (looked for: loops, veiled, ifaces, maps, wideKeys, modest, calm, conditions, laid).
  DERIVED. THE GIVEN ROWS OF THIS SEAT. 2 by the template 'for every input the law returns true; each argument reads behind the call as it read before'; 0 by the template 'total and deterministic' (their statements: YtnccojbdjjnoiaaTotals.lean).
  GIVEN WITH THE SEED: the statements are not yours to turn. If you find one false, say at which input.
  Laid BY PROGRAM, IN A SANDBOX (cutbox-rows.mjs): the forced cells as the released guide's own fill.sh prints them over the translation 3e37911d695ee5ff… (all of the seat's roots in one cut). By AI agents, Wed Nov 11 2026. No macro, syntax, notation, axiom, sorry.
-/
import Derived.Test.YtnccojbdjjnoiaaChecked
import GoSem.Claim
import GoSem.ClaimJoined
import GoSem.ClaimMapViews
import Derived.JoinedTies
import Derived.KernelRfl
namespace Go.Proofs.Ytnccojbdjjnoiaa
/- THE CELL 'sum', in the pinned program and in every row, IS THE sha256 OF THE DUMP (.gsa) THAT YtnccojbdjjnoiaaProg.lean LOADS. Nothing in Lean hashes anything: it is a label: what it is worth is what the hold of that sum in a sandbox is worth. -/
noncomputable def Try.pinned : Pinned := { name := "ytnccojbdjjnoiaa", sum := "3e37911d695ee5ff9ddbbf0a306b2bdc69e8b13410eb34bdc5e5576633656118", checked := Try.checked }
namespace Rows
def none {H : Type} : Left H := { results := [], args := [] }

/-- 'palinglaw51.DrillScripts': WHATEVER THE INPUT: true; the input reads as it did. -/
def drillScriptsSpec : ChangeSpec := { name := "drillScripts", fn := fun _ => fun
  | [d1, d2, d3] => { results := [.lit (.bool true)], args := [d1, d2, d3] }
  | _ => none }
def drillScriptsRow : OpenClaim := { program := "ytnccojbdjjnoiaa", sum := "3e37911d695ee5ff9ddbbf0a306b2bdc69e8b13410eb34bdc5e5576633656118", func := "paling/palinglaw51.DrillScripts", spec := "drillScripts", unfollowed := true, recurses := true, apart := false }
def DrillScriptsSaid : Prop := drillScriptsRow.holds Try.pinned (OpenSpec.ofChange drillScriptsSpec)

/-- ITS FALSE NEIGHBOUR: 'it returns false'. Refute it at one input. -/
def drillScriptsWrong : ChangeSpec := { name := "drillScripts", fn := fun _ => fun
  | [d1, d2, d3] => { results := [.lit (.bool false)], args := [d1, d2, d3] }
  | _ => none }
def DrillScriptsWrongFalsely : Prop := drillScriptsRow.holds Try.pinned (OpenSpec.ofChange drillScriptsWrong)

/-- 'palinglaw51.DrillBegins': WHATEVER THE INPUT: true; the input reads as it did. -/
def drillBeginsSpec : ChangeSpec := { name := "drillBegins", fn := fun _ => fun
  | [d1, d2, d3, d4] => { results := [.lit (.bool true)], args := [d1, d2, d3, d4] }
  | _ => none }
def drillBeginsRow : OpenClaim := { program := "ytnccojbdjjnoiaa", sum := "3e37911d695ee5ff9ddbbf0a306b2bdc69e8b13410eb34bdc5e5576633656118", func := "paling/palinglaw51.DrillBegins", spec := "drillBegins", unfollowed := true, recurses := true, apart := false }
def DrillBeginsSaid : Prop := drillBeginsRow.holds Try.pinned (OpenSpec.ofChange drillBeginsSpec)

/-- ITS FALSE NEIGHBOUR: 'it returns false'. Refute it at one input. -/
def drillBeginsWrong : ChangeSpec := { name := "drillBegins", fn := fun _ => fun
  | [d1, d2, d3, d4] => { results := [.lit (.bool false)], args := [d1, d2, d3, d4] }
  | _ => none }
def DrillBeginsWrongFalsely : Prop := drillBeginsRow.holds Try.pinned (OpenSpec.ofChange drillBeginsWrong)

/- THE SECOND FORM. 'bulk': how many values and letters a reading holds, each counted each time it is reached (what is shared counts as often as it is met; a slice's spare places count too). A statement '..UptoSaid' is the law's where the arguments, and the package variables that the reading takes, are together of bulk at most 1048576: NARROWER than '..Said'. Prove '..Said' where nothing that the law and all that it calls make is longer than what came in: it says more and counts as full. Else prove '..UptoSaid'. A law counts once. -/
mutual
def uptoBulk {H : Type} : DataW H → Nat
  | .lit (.string bytes) => bytes.length + 1
  | .lit _ => 1
  | .nil => 1
  | .ptr d => uptoBulk d + 1
  | .slice elems spare => uptoBulkAll elems + uptoBulkAll spare + 1
  | .agg parts => uptoBulkAll parts + 1
  | .iface _ d => uptoBulk d + 1
  | .map entries => uptoBulkEntries entries + 1
  | .held _ => 1
def uptoBulkAll {H : Type} : List (DataW H) → Nat
  | [] => 0
  | d :: r => uptoBulk d + uptoBulkAll r
def uptoBulkEntries {H : Type} : List (Lit × DataW H) → Nat
  | [] => 0
  | x :: r => uptoBulkEntry x + uptoBulkEntries r
def uptoBulkEntry {H : Type} : Lit × DataW H → Nat
  | (.string bytes, d) => bytes.length + uptoBulk d + 1
  | (_, d) => uptoBulk d + 1
 end
def uptoSmall : (H : Type) → List (DataW H) → Bool := fun _ ds => decide (uptoBulkAll ds ≤ 1048576)
def OpenSpec.upto (s : _root_.Go.ChangeSpec) : _root_.Go.OpenSpec := { _root_.Go.OpenSpec.ofChange s with cond := some uptoSmall }

/-- 'palinglaw51.DrillScripts', WHERE WHAT IT READS IS OF BULK AT MOST 1048576: true; the input reads as it did. -/
def drillScriptsUptoRow : OpenClaim := { program := "ytnccojbdjjnoiaa", sum := "3e37911d695ee5ff9ddbbf0a306b2bdc69e8b13410eb34bdc5e5576633656118", func := "paling/palinglaw51.DrillScripts", spec := "drillScripts", unfollowed := true, recurses := true, apart := false, narrowed := true }
def DrillScriptsUptoSaid : Prop := drillScriptsUptoRow.holds Try.pinned (OpenSpec.upto drillScriptsSpec)

/-- 'palinglaw51.DrillBegins', WHERE WHAT IT READS IS OF BULK AT MOST 1048576: true; the input reads as it did. -/
def drillBeginsUptoRow : OpenClaim := { program := "ytnccojbdjjnoiaa", sum := "3e37911d695ee5ff9ddbbf0a306b2bdc69e8b13410eb34bdc5e5576633656118", func := "paling/palinglaw51.DrillBegins", spec := "drillBegins", unfollowed := true, recurses := true, apart := false, narrowed := true }
def DrillBeginsUptoSaid : Prop := drillBeginsUptoRow.holds Try.pinned (OpenSpec.upto drillBeginsSpec)

end Rows
end Go.Proofs.Ytnccojbdjjnoiaa
