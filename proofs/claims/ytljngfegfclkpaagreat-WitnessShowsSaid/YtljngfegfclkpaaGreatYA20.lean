/-
  J46: parts of a proof, joined by program.
-/
import Derived.Test.YtljngfegfclkpaaGreatRows
import Derived.ProofKit
set_option linter.all false
set_option linter.unusedVariables false
set_option linter.unusedSimpArgs false
set_option linter.deprecated false
namespace Go.Proofs.YtljngfegfclkpaaGreat
open Go.ChangeShapes Go.WideShapes Go.ChangeAt Go.RowKit
set_option maxRecDepth 100000
theorem Qz:Tryz.checked.prog.inPlace 3=Rows.witnessShowsRow.inPlace:=by kernel_rfl
theorem Mw:Tryz.checked.prog.unfollowed 3=Rows.witnessShowsRow.unfollowed:=by kernel_rfl
theorem Qu:Tryz.checked.prog.recurses 3=Rows.witnessShowsRow.recurses:=by kernel_rfl
theorem U5:Tryz.checked.prog.varsNamed 3=Rows.witnessShowsRow.named:=by kernel_rfl
theorem Vz:Tryz.checked.prog.liftsFinal=Rows.witnessShowsRow.lifted:=by kernel_rfl
theorem Qy:laidOutB Tryz.checked.prog=true:=by kernel_rfl
theorem U8:Tryz.checked.prog.mayEnter=true:=by kernel_rfl
theorem U6:Tryz.checked.prog.stopsHeard=true:=by kernel_rfl
theorem U7:joinedFacts Tryz.checked.prog 3 Tryz.f3 Rows.witnessShowsSpec Rows.witnessShowsRow=true:=by
 unfold joinedFacts
 rw[Qz,Mw,Qu,U5,Vz,Qy,U8,U6]
 kernel_rfl
end Go.Proofs.YtljngfegfclkpaaGreat
