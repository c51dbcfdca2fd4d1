/- Parts of a proof. -/
import Derived.Test.YtedbfemmehbeoaaGreatDoorXC34
set_option linter.all false
namespace Go.Proofs.YtedbfemmehbeoaaGreatDoor
open Go.ChangeShapes Go.WideShapes Go.ChangeAt Go.RowKit
set_option maxRecDepth 100000
def bN:Tryz.checked.prog.inPlace 3=Rows.topWatchUptoRow.inPlace:=by kernel_rfl
def Ye:Tryz.checked.prog.unfollowed 3=Rows.topWatchUptoRow.unfollowed:=by kernel_rfl
def aZ:Tryz.checked.prog.recurses 3=Rows.topWatchUptoRow.recurses:=by kernel_rfl
def oG:Tryz.checked.prog.varsNamed 3=Rows.topWatchUptoRow.named:=by kernel_rfl
def Abd:Tryz.checked.prog.liftsFinal=Rows.topWatchUptoRow.lifted:=by kernel_rfl
def bM:laidOutB Tryz.checked.prog=true:=by kernel_rfl
def oK:Tryz.checked.prog.mayEnter=true:=by kernel_rfl
def oI:Tryz.checked.prog.stopsHeard=true:=by kernel_rfl
def oJ:joinedFacts Tryz.checked.prog 3 Tryz.f3 (Rows.OpenSpec.upto Rows.topWatchSpec).bu Rows.topWatchUptoRow=true:=by
 unfold joinedFacts;rw[bN,Ye,aZ,oG,Abd,bM,oK,oI]
 kernel_rfl
def Ag2:Rows.topWatchUptoRow.wfByText (Rows.OpenSpec.upto Rows.topWatchSpec)=true:=by kernel_rfl
def Abc : Tryz.pinned.checked.prog.mainIs = some (true, "5724b625e19d58b6ef6c0c63a693dcae1e2b05b237fd1e1fc2491972c3098e93".toList) := by kernel_rfl
def lC : Tryz.prog.funcNamed "paling/palingtop.TopWatch" = some 3 := by kernel_rfl
def oH:true=Tryz.pinned.checked.prog.looks []:=by kernel_rfl
def bL:([22].all λu=>!Tryz.prog.wantsStandIn u)=true:=by kernel_rfl
def Abe:false=Rows.topWatchUptoRow.goesBy Tryz.pinned.checked.prog:=A7b A6a _
end Go.Proofs.YtedbfemmehbeoaaGreatDoor
