/-
  J35: parts of a proof, joined by program.
-/
import Derived.Test.YtjenpnjajjplkaaGreatDoorRows
import Derived.ProofKit
import Derived.Test.YtjenpnjajjplkaaGreatDoorCards
set_option linter.all false
set_option linter.unusedVariables false
set_option linter.unusedSimpArgs false
set_option linter.deprecated false
namespace Go.Proofs.YtjenpnjajjplkaaGreatDoor
open Go.ChangeShapes Go.WideShapes Go.ChangeAt Go.RowKit
set_option maxRecDepth 100000
theorem M2:Tryz.checked.prog.inPlace 7=Rows.netSoundRow.inPlace:=by kernel_rfl
theorem Ky:Tryz.checked.prog.unfollowed 7=Rows.netSoundRow.unfollowed:=by kernel_rfl
theorem L4:Tryz.checked.prog.recurses 7=Rows.netSoundRow.recurses:=by kernel_rfl
theorem Q6:Tryz.checked.prog.varsNamed 7=Rows.netSoundRow.named:=by kernel_rfl
theorem Tl:Tryz.checked.prog.liftsFinal=Rows.netSoundRow.lifted:=by kernel_rfl
theorem M1:laidOutB Tryz.checked.prog=true:=by kernel_rfl
theorem Sa:Tryz.checked.prog.mayEnter=true:=by kernel_rfl
theorem Q8:Tryz.checked.prog.stopsHeard=true:=by kernel_rfl
theorem Q9:joinedFacts Tryz.checked.prog 7 Tryz.f7 Rows.netSoundSpec Rows.netSoundRow=true:=by
 unfold joinedFacts
 rw[M2,Ky,L4,Q6,Tl,M1,Sa,Q8]
 kernel_rfl
theorem Wy:Rows.netSoundRow.wfByText (OpenSpec.ofChange Rows.netSoundSpec)=true:=by kernel_rfl
theorem Tk : Tryz.pinned.checked.prog.mainIs = some (true, "d049fd129f745915c24696369f423f1361de32988b6a3f23e86ce51f6889fe79".toList) := by kernel_rfl
theorem netSound_fnamed : Tryz.prog.funcNamed "paling/palinglaw22.NetSound" = some 7 := by kernel_rfl
theorem Q7:false=Tryz.pinned.checked.prog.looks []:=by kernel_rfl
theorem M0:([22].all fun u=>!Tryz.prog.wantsStandIn u)=true:=by kernel_rfl
theorem Tm:false=Rows.netSoundRow.goesBy Tryz.pinned.checked.prog:=by kernel_rfl
end Go.Proofs.YtjenpnjajjplkaaGreatDoor
