/-
  J34: parts of a proof, joined by program.
-/
import Derived.Test.YtjenpnjajjplkaaGreatDoorRows
import Derived.ProofKit
import Derived.Test.YtjenpnjajjplkaaGreatDoorCards
set_option linter.all false
set_option linter.unusedVariables false
set_option linter.unusedSimpArgs false
set_option linter.deprecated false
namespace Go.Proofs.YtjenpnjajjplkaaGreatDoor
open Go.ChangeShapes Go.WideShapes Go.ChangeAt Go.RowKit
set_option maxRecDepth 100000
theorem Ms:Tryz.checked.prog.inPlace 6=Rows.netFirstRow.inPlace:=by kernel_rfl
theorem Ko:Tryz.checked.prog.unfollowed 6=Rows.netFirstRow.unfollowed:=by kernel_rfl
theorem Lv:Tryz.checked.prog.recurses 6=Rows.netFirstRow.recurses:=by kernel_rfl
theorem Qr:Tryz.checked.prog.varsNamed 6=Rows.netFirstRow.named:=by kernel_rfl
theorem S4:Tryz.checked.prog.liftsFinal=Rows.netFirstRow.lifted:=by kernel_rfl
theorem Mr:laidOutB Tryz.checked.prog=true:=by kernel_rfl
theorem Qv:Tryz.checked.prog.mayEnter=true:=by kernel_rfl
theorem Qt:Tryz.checked.prog.stopsHeard=true:=by kernel_rfl
theorem Qu:joinedFacts Tryz.checked.prog 6 Tryz.f6 Rows.netFirstSpec Rows.netFirstRow=true:=by
 unfold joinedFacts
 rw[Ms,Ko,Lv,Qr,S4,Mr,Qv,Qt]
 kernel_rfl
theorem Wf:Rows.netFirstRow.wfByText (OpenSpec.ofChange Rows.netFirstSpec)=true:=by kernel_rfl
theorem S3 : Tryz.pinned.checked.prog.mainIs = some (true, "d049fd129f745915c24696369f423f1361de32988b6a3f23e86ce51f6889fe79".toList) := by kernel_rfl
theorem netFirst_fnamed : Tryz.prog.funcNamed "paling/palinglaw22.NetFirst" = some 6 := by kernel_rfl
theorem Qs:false=Tryz.pinned.checked.prog.looks []:=by kernel_rfl
theorem Mq:([22,22].all fun u=>!Tryz.prog.wantsStandIn u)=true:=by kernel_rfl
theorem S5:false=Rows.netFirstRow.goesBy Tryz.pinned.checked.prog:=by kernel_rfl
end Go.Proofs.YtjenpnjajjplkaaGreatDoor
