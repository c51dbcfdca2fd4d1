/-
  J37: parts of a proof, joined by program.
-/
import Derived.Test.YtjenpnjajjplkaaGreatDoorRows
import Derived.ProofKit
import Derived.Test.YtjenpnjajjplkaaGreatDoorCards
set_option linter.all false
set_option linter.unusedVariables false
set_option linter.unusedSimpArgs false
set_option linter.deprecated false
namespace Go.Proofs.YtjenpnjajjplkaaGreatDoor
open Go.ChangeShapes Go.WideShapes Go.ChangeAt Go.RowKit
set_option maxRecDepth 100000
theorem Uk:Tryz.checked.prog.inPlace 5=Rows.netTextsRow.inPlace:=by kernel_rfl
theorem Qe:Tryz.checked.prog.unfollowed 5=Rows.netTextsRow.unfollowed:=by kernel_rfl
theorem Tb:Tryz.checked.prog.recurses 5=Rows.netTextsRow.recurses:=by kernel_rfl
theorem Xb:Tryz.checked.prog.varsNamed 5=Rows.netTextsRow.named:=by kernel_rfl
theorem Yw:Tryz.checked.prog.liftsFinal=Rows.netTextsRow.lifted:=by kernel_rfl
theorem Uj:laidOutB Tryz.checked.prog=true:=by kernel_rfl
theorem Xg:Tryz.checked.prog.mayEnter=true:=by kernel_rfl
theorem Xe:Tryz.checked.prog.stopsHeard=true:=by kernel_rfl
theorem Xf:joinedFacts Tryz.checked.prog 5 Tryz.f5 Rows.netTextsSpec Rows.netTextsRow=true:=by
 unfold joinedFacts
 rw[Uk,Qe,Tb,Xb,Yw,Uj,Xg,Xe]
 kernel_rfl
theorem Ado:Rows.netTextsRow.wfByText (OpenSpec.ofChange Rows.netTextsSpec)=true:=by kernel_rfl
theorem Yv : Tryz.pinned.checked.prog.mainIs = some (true, "d049fd129f745915c24696369f423f1361de32988b6a3f23e86ce51f6889fe79".toList) := by kernel_rfl
theorem netTexts_fnamed : Tryz.prog.funcNamed "paling/palinglaw22.NetTexts" = some 5 := by kernel_rfl
theorem Xc:false=Tryz.pinned.checked.prog.looks []:=by kernel_rfl
theorem Ui:([24].all fun u=>!Tryz.prog.wantsStandIn u)=true:=by kernel_rfl
theorem Yx:false=Rows.netTextsRow.goesBy Tryz.pinned.checked.prog:=by kernel_rfl
end Go.Proofs.YtjenpnjajjplkaaGreatDoor
