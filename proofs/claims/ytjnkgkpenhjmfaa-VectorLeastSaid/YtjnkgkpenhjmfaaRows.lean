/-
  No cell of these rows narrows 'for every input' (looked for: loops, veiled, ifaces, maps, wideKeys, modest, calm, conditions, laid).
  DERIVED. THE GIVEN ROWS OF THIS SEAT. 5 by the template 'for every input the law returns true; each argument reads behind the call as it read before'; 0 by the template 'total and deterministic' (their statements: YtjnkgkpenhjmfaaTotals.lean).
  GIVEN WITH THE SEED: the statements are not yours to turn. If you find one false, say at which input.
  Laid BY PROGRAM, IN A SANDBOX (cutbox-rows.mjs): the forced cells as the released guide's own fill.sh prints them over the translation afcb9ea83b0c82d6… (all of the seat's roots in one cut). By AI agents, Wed Nov 11 2026. No macro, syntax, notation, axiom, sorry.
-/
import Derived.Test.YtjnkgkpenhjmfaaChecked
import GoSem.Claim
import GoSem.ClaimJoined
import GoSem.ClaimMapViews
import Derived.JoinedTies
import Derived.KernelRfl
namespace Go.Proofs.Ytjnkgkpenhjmfaa
/- THE CELL 'sum', in the pinned program and in every row, IS THE sha256 OF THE DUMP (.gsa) THAT YtjnkgkpenhjmfaaProg.lean LOADS. Nothing in Lean hashes anything: it is a label: what it is worth is what the hold of that sum in a sandbox is worth. -/
noncomputable def Try.pinned : Pinned := { name := "ytjnkgkpenhjmfaa", sum := "afcb9ea83b0c82d6c62f16490efc5c3c244d8c996df87a38cefd53648280b730", checked := Try.checked }
namespace Rows
def none {H : Type} : Left H := { results := [], args := [] }

/-- 'palinglaw24.VectorRanks': WHATEVER THE INPUT: true; the input reads as it did. -/
def vectorRanksSpec : ChangeSpec := { name := "vectorRanks", fn := fun _ => fun
  | [d] => { results := [.lit (.bool true)], args := [d] }
  | _ => none }
def vectorRanksRow : OpenClaim := { program := "ytjnkgkpenhjmfaa", sum := "afcb9ea83b0c82d6c62f16490efc5c3c244d8c996df87a38cefd53648280b730", func := "paling/palinglaw24.VectorRanks", spec := "vectorRanks", unfollowed := true, recurses := true, apart := false }
def VectorRanksSaid : Prop := vectorRanksRow.holds Try.pinned (OpenSpec.ofChange vectorRanksSpec)

/-- ITS FALSE NEIGHBOUR: 'it returns false'. Refute it at one input. -/
def vectorRanksWrong : ChangeSpec := { name := "vectorRanks", fn := fun _ => fun
  | [d] => { results := [.lit (.bool false)], args := [d] }
  | _ => none }
def VectorRanksWrongFalsely : Prop := vectorRanksRow.holds Try.pinned (OpenSpec.ofChange vectorRanksWrong)

/-- 'palinglaw24.VectorLess': WHATEVER THE INPUT: true; the input reads as it did. -/
def vectorLessSpec : ChangeSpec := { name := "vectorLess", fn := fun _ => fun
  | [d1, d2] => { results := [.lit (.bool true)], args := [d1, d2] }
  | _ => none }
def vectorLessRow : OpenClaim := { program := "ytjnkgkpenhjmfaa", sum := "afcb9ea83b0c82d6c62f16490efc5c3c244d8c996df87a38cefd53648280b730", func := "paling/palinglaw24.VectorLess", spec := "vectorLess", unfollowed := true, recurses := true, apart := false }
def VectorLessSaid : Prop := vectorLessRow.holds Try.pinned (OpenSpec.ofChange vectorLessSpec)

/-- ITS FALSE NEIGHBOUR: 'it returns false'. Refute it at one input. -/
def vectorLessWrong : ChangeSpec := { name := "vectorLess", fn := fun _ => fun
  | [d1, d2] => { results := [.lit (.bool false)], args := [d1, d2] }
  | _ => none }
def VectorLessWrongFalsely : Prop := vectorLessRow.holds Try.pinned (OpenSpec.ofChange vectorLessWrong)

/-- 'palinglaw24.VectorOrder': WHATEVER THE INPUT: true; the input reads as it did. -/
def vectorOrderSpec : ChangeSpec := { name := "vectorOrder", fn := fun _ => fun
  | [d1, d2, d3] => { results := [.lit (.bool true)], args := [d1, d2, d3] }
  | _ => none }
def vectorOrderRow : OpenClaim := { program := "ytjnkgkpenhjmfaa", sum := "afcb9ea83b0c82d6c62f16490efc5c3c244d8c996df87a38cefd53648280b730", func := "paling/palinglaw24.VectorOrder", spec := "vectorOrder", unfollowed := true, recurses := true, apart := false }
def VectorOrderSaid : Prop := vectorOrderRow.holds Try.pinned (OpenSpec.ofChange vectorOrderSpec)

/-- ITS FALSE NEIGHBOUR: 'it returns false'. Refute it at one input. -/
def vectorOrderWrong : ChangeSpec := { name := "vectorOrder", fn := fun _ => fun
  | [d1, d2, d3] => { results := [.lit (.bool false)], args := [d1, d2, d3] }
  | _ => none }
def VectorOrderWrongFalsely : Prop := vectorOrderRow.holds Try.pinned (OpenSpec.ofChange vectorOrderWrong)

/-- 'palinglaw24.VectorUnlike': WHATEVER THE INPUT: true; the input reads as it did. -/
def vectorUnlikeSpec : ChangeSpec := { name := "vectorUnlike", fn := fun _ => fun
  | [d] => { results := [.lit (.bool true)], args := [d] }
  | _ => none }
def vectorUnlikeRow : OpenClaim := { program := "ytjnkgkpenhjmfaa", sum := "afcb9ea83b0c82d6c62f16490efc5c3c244d8c996df87a38cefd53648280b730", func := "paling/palinglaw24.VectorUnlike", spec := "vectorUnlike", unfollowed := true, recurses := true, apart := false }
def VectorUnlikeSaid : Prop := vectorUnlikeRow.holds Try.pinned (OpenSpec.ofChange vectorUnlikeSpec)

/-- ITS FALSE NEIGHBOUR: 'it returns false'. Refute it at one input. -/
def vectorUnlikeWrong : ChangeSpec := { name := "vectorUnlike", fn := fun _ => fun
  | [d] => { results := [.lit (.bool false)], args := [d] }
  | _ => none }
def VectorUnlikeWrongFalsely : Prop := vectorUnlikeRow.holds Try.pinned (OpenSpec.ofChange vectorUnlikeWrong)

/-- 'palinglaw24.VectorLeast': WHATEVER THE INPUT: true; the input reads as it did. -/
def vectorLeastSpec : ChangeSpec := { name := "vectorLeast", fn := fun _ => fun
  | [d] => { results := [.lit (.bool true)], args := [d] }
  | _ => none }
def vectorLeastRow : OpenClaim := { program := "ytjnkgkpenhjmfaa", sum := "afcb9ea83b0c82d6c62f16490efc5c3c244d8c996df87a38cefd53648280b730", func := "paling/palinglaw24.VectorLeast", spec := "vectorLeast", unfollowed := true, recurses := true, apart := false }
def VectorLeastSaid : Prop := vectorLeastRow.holds Try.pinned (OpenSpec.ofChange vectorLeastSpec)

/-- ITS FALSE NEIGHBOUR: 'it returns false'. Refute it at one input. -/
def vectorLeastWrong : ChangeSpec := { name := "vectorLeast", fn := fun _ => fun
  | [d] => { results := [.lit (.bool false)], args := [d] }
  | _ => none }
def VectorLeastWrongFalsely : Prop := vectorLeastRow.holds Try.pinned (OpenSpec.ofChange vectorLeastWrong)

/- THE SECOND FORM. 'bulk': how many values and letters a reading holds, each counted each time it is reached (what is shared counts as often as it is met; a slice's spare places count too). A statement '..UptoSaid' is the law's where the arguments, and the package variables that the reading takes, are together of bulk at most 1048576: NARROWER than '..Said'. Prove '..Said' where nothing that the law and all that it calls make is longer than what came in: it says more and counts as full. Else prove '..UptoSaid'. A law counts once. -/
mutual
def uptoBulk {H : Type} : DataW H → Nat
  | .lit (.string bytes) => bytes.length + 1
  | .lit _ => 1
  | .nil => 1
  | .ptr d => uptoBulk d + 1
  | .slice elems spare => uptoBulkAll elems + uptoBulkAll spare + 1
  | .agg parts => uptoBulkAll parts + 1
  | .iface _ d => uptoBulk d + 1
  | .map entries => uptoBulkEntries entries + 1
  | .held _ => 1
def uptoBulkAll {H : Type} : List (DataW H) → Nat
  | [] => 0
  | d :: r => uptoBulk d + uptoBulkAll r
def uptoBulkEntries {H : Type} : List (Lit × DataW H) → Nat
  | [] => 0
  | x :: r => uptoBulkEntry x + uptoBulkEntries r
def uptoBulkEntry {H : Type} : Lit × DataW H → Nat
  | (.string bytes, d) => bytes.length + uptoBulk d + 1
  | (_, d) => uptoBulk d + 1
 end
def uptoSmall : (H : Type) → List (DataW H) → Bool := fun _ ds => decide (uptoBulkAll ds ≤ 1048576)
def OpenSpec.upto (s : _root_.Go.ChangeSpec) : _root_.Go.OpenSpec := { _root_.Go.OpenSpec.ofChange s with cond := some uptoSmall }

/-- 'palinglaw24.VectorRanks', WHERE WHAT IT READS IS OF BULK AT MOST 1048576: true; the input reads as it did. -/
def vectorRanksUptoRow : OpenClaim := { program := "ytjnkgkpenhjmfaa", sum := "afcb9ea83b0c82d6c62f16490efc5c3c244d8c996df87a38cefd53648280b730", func := "paling/palinglaw24.VectorRanks", spec := "vectorRanks", unfollowed := true, recurses := true, apart := false, narrowed := true }
def VectorRanksUptoSaid : Prop := vectorRanksUptoRow.holds Try.pinned (OpenSpec.upto vectorRanksSpec)

/-- 'palinglaw24.VectorLess', WHERE WHAT IT READS IS OF BULK AT MOST 1048576: true; the input reads as it did. -/
def vectorLessUptoRow : OpenClaim := { program := "ytjnkgkpenhjmfaa", sum := "afcb9ea83b0c82d6c62f16490efc5c3c244d8c996df87a38cefd53648280b730", func := "paling/palinglaw24.VectorLess", spec := "vectorLess", unfollowed := true, recurses := true, apart := false, narrowed := true }
def VectorLessUptoSaid : Prop := vectorLessUptoRow.holds Try.pinned (OpenSpec.upto vectorLessSpec)

/-- 'palinglaw24.VectorOrder', WHERE WHAT IT READS IS OF BULK AT MOST 1048576: true; the input reads as it did. -/
def vectorOrderUptoRow : OpenClaim := { program := "ytjnkgkpenhjmfaa", sum := "afcb9ea83b0c82d6c62f16490efc5c3c244d8c996df87a38cefd53648280b730", func := "paling/palinglaw24.VectorOrder", spec := "vectorOrder", unfollowed := true, recurses := true, apart := false, narrowed := true }
def VectorOrderUptoSaid : Prop := vectorOrderUptoRow.holds Try.pinned (OpenSpec.upto vectorOrderSpec)

/-- 'palinglaw24.VectorUnlike', WHERE WHAT IT READS IS OF BULK AT MOST 1048576: true; the input reads as it did. -/
def vectorUnlikeUptoRow : OpenClaim := { program := "ytjnkgkpenhjmfaa", sum := "afcb9ea83b0c82d6c62f16490efc5c3c244d8c996df87a38cefd53648280b730", func := "paling/palinglaw24.VectorUnlike", spec := "vectorUnlike", unfollowed := true, recurses := true, apart := false, narrowed := true }
def VectorUnlikeUptoSaid : Prop := vectorUnlikeUptoRow.holds Try.pinned (OpenSpec.upto vectorUnlikeSpec)

/-- 'palinglaw24.VectorLeast', WHERE WHAT IT READS IS OF BULK AT MOST 1048576: true; the input reads as it did. -/
def vectorLeastUptoRow : OpenClaim := { program := "ytjnkgkpenhjmfaa", sum := "afcb9ea83b0c82d6c62f16490efc5c3c244d8c996df87a38cefd53648280b730", func := "paling/palinglaw24.VectorLeast", spec := "vectorLeast", unfollowed := true, recurses := true, apart := false, narrowed := true }
def VectorLeastUptoSaid : Prop := vectorLeastUptoRow.holds Try.pinned (OpenSpec.upto vectorLeastSpec)

end Rows
end Go.Proofs.Ytjnkgkpenhjmfaa
