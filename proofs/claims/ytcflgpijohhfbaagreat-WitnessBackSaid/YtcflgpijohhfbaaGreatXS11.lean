/-
  J41: parts of a proof, joined by program.
-/
import Derived.Test.YtcflgpijohhfbaaGreatRows
import Derived.ProofKit
set_option linter.all false
set_option linter.unusedVariables false
set_option linter.unusedSimpArgs false
set_option linter.deprecated false
namespace Go.Proofs.YtcflgpijohhfbaaGreat
open Go.ChangeShapes Go.WideShapes Go.ChangeAt Go.RowKit
set_option maxRecDepth 100000
theorem Qo:Tryz.checked.prog.inPlace 3=Rows.witnessBackRow.inPlace:=by kernel_rfl
theorem Lp:Tryz.checked.prog.unfollowed 3=Rows.witnessBackRow.unfollowed:=by kernel_rfl
theorem My:Tryz.checked.prog.recurses 3=Rows.witnessBackRow.recurses:=by kernel_rfl
theorem S9:Tryz.checked.prog.varsNamed 3=Rows.witnessBackRow.named:=by kernel_rfl
theorem Vf:Tryz.checked.prog.liftsFinal=Rows.witnessBackRow.lifted:=by kernel_rfl
theorem Qn:laidOutB Tryz.checked.prog=true:=by kernel_rfl
theorem Tc:Tryz.checked.prog.mayEnter=true:=by kernel_rfl
theorem Ta:Tryz.checked.prog.stopsHeard=true:=by kernel_rfl
theorem Tb:joinedFacts Tryz.checked.prog 3 Tryz.f3 Rows.witnessBackSpec Rows.witnessBackRow=true:=by
 unfold joinedFacts
 rw[Qo,Lp,My,S9,Vf,Qn,Tc,Ta]
 kernel_rfl
end Go.Proofs.YtcflgpijohhfbaaGreat
