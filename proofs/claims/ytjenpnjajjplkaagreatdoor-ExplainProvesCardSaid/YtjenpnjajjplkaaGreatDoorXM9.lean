/-
  J36: parts of a proof, joined by program.
-/
import Derived.Test.YtjenpnjajjplkaaGreatDoorRows
import Derived.ProofKit
import Derived.Test.YtjenpnjajjplkaaGreatDoorCards
set_option linter.all false
set_option linter.unusedVariables false
set_option linter.unusedSimpArgs false
set_option linter.deprecated false
namespace Go.Proofs.YtjenpnjajjplkaaGreatDoor
open Go.ChangeShapes Go.WideShapes Go.ChangeAt Go.RowKit
set_option maxRecDepth 100000
theorem J8:Tryz.checked.prog.inPlace 8=Rows.explainProvesRow.inPlace:=by kernel_rfl
theorem Iw:Tryz.checked.prog.unfollowed 8=Rows.explainProvesRow.unfollowed:=by kernel_rfl
theorem Jr:Tryz.checked.prog.recurses 8=Rows.explainProvesRow.recurses:=by kernel_rfl
theorem Lt:Tryz.checked.prog.varsNamed 8=Rows.explainProvesRow.named:=by kernel_rfl
theorem Mt:Tryz.checked.prog.liftsFinal=Rows.explainProvesRow.lifted:=by kernel_rfl
theorem J7:laidOutB Tryz.checked.prog=true:=by kernel_rfl
theorem Lx:Tryz.checked.prog.mayEnter=true:=by kernel_rfl
theorem Lv:Tryz.checked.prog.stopsHeard=true:=by kernel_rfl
theorem Lw:joinedFacts Tryz.checked.prog 8 Tryz.f8 Rows.explainProvesSpec Rows.explainProvesRow=true:=by
 unfold joinedFacts
 rw[J8,Iw,Jr,Lt,Mt,J7,Lx,Lv]
 kernel_rfl
theorem Q7:Rows.explainProvesRow.wfByText (OpenSpec.ofChange Rows.explainProvesSpec)=true:=by kernel_rfl
theorem Ms : Tryz.pinned.checked.prog.mainIs = some (true, "d049fd129f745915c24696369f423f1361de32988b6a3f23e86ce51f6889fe79".toList) := by kernel_rfl
theorem explainProves_fnamed : Tryz.prog.funcNamed "paling/palinglaw44.ExplainProves" = some 8 := by kernel_rfl
theorem Lu:false=Tryz.pinned.checked.prog.looks []:=by kernel_rfl
theorem J6:([22,3,3,68].all fun u=>!Tryz.prog.wantsStandIn u)=true:=by kernel_rfl
theorem Mu:false=Rows.explainProvesRow.goesBy Tryz.pinned.checked.prog:=by kernel_rfl
end Go.Proofs.YtjenpnjajjplkaaGreatDoor
