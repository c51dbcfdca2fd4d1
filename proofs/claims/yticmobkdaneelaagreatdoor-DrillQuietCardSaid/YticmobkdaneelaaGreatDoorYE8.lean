/- Parts of a proof. -/
import Derived.ProofKit
import Derived.Test.YticmobkdaneelaaGreatDoorCards
set_option linter.all false
set_option linter.unusedVariables false
set_option linter.unusedSimpArgs false
set_option linter.deprecated false
namespace Go.Proofs.YticmobkdaneelaaGreatDoor
open Go.ChangeShapes Go.WideShapes Go.ChangeAt Go.RowKit
set_option maxRecDepth 100000
def Ye:Tryz.checked.prog.inPlace 3=Rows.drillQuietRow.inPlace:=by kernel_rfl
def T3:Tryz.checked.prog.unfollowed 3=Rows.drillQuietRow.unfollowed:=by kernel_rfl
def Wl:Tryz.checked.prog.recurses 3=Rows.drillQuietRow.recurses:=by kernel_rfl
def Abg:Tryz.checked.prog.varsNamed 3=Rows.drillQuietRow.named:=by kernel_rfl
def Adr:Tryz.checked.prog.liftsFinal=Rows.drillQuietRow.lifted:=by kernel_rfl
def Yd:laidOutB Tryz.checked.prog=true:=by kernel_rfl
def Abk:Tryz.checked.prog.mayEnter=true:=by kernel_rfl
def Abi:Tryz.checked.prog.stopsHeard=true:=by kernel_rfl
def Abj:joinedFacts Tryz.checked.prog 3 Tryz.f3 Rows.drillQuietSpec Rows.drillQuietRow=true:=by
 unfold joinedFacts;rw[Ye,T3,Wl,Abg,Adr,Yd,Abk,Abi]
 kernel_rfl
def Ah1:Rows.drillQuietRow.wfByText (OpenSpec.ofChange Rows.drillQuietSpec)=true:=by kernel_rfl
def Adq : Tryz.pinned.checked.prog.mainIs = some (true, "712a1ee596b3644c79ee6ade2881533e9cacbc7edbee33b2a9f374daa27fe21d".toList) := by kernel_rfl
def drillQuiet_fnamed : Tryz.prog.funcNamed "paling/palinglaw51.DrillQuiet" = some 3 := by kernel_rfl
def Abh:true=Tryz.pinned.checked.prog.looks []:=by kernel_rfl
def Yc:([22,23,24].all λu=>!Tryz.prog.wantsStandIn u)=true:=by kernel_rfl
def Ads:false=Rows.drillQuietRow.goesBy Tryz.pinned.checked.prog:=by kernel_rfl
end Go.Proofs.YticmobkdaneelaaGreatDoor
