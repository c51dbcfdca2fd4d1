/- Parts of a proof. -/
import Derived.Test.YtedbfemmehbeoaaGreatDoorXC34
set_option linter.all false
namespace Go.Sy.Zaa
open Go.Proofs Go.Proofs.Tryz
set_option maxRecDepth 100000
def Axu{W:World}{g:List (String×DataW Unit)}(h:laidMetH prog g W)(hp:(g.all λx=>x.2.handleName?.isNone)=true)(i : ("paling/machine.verbs", .agg ([[], [105, 110, 106, 101, 99, 116], [112, 105, 99, 107], [100, 114, 111, 112], [116, 105, 99, 107], [108, 105, 110, 107, 115]].map λs=> .lit (.string s))) ∈ g) : B3 κ0 W 900 (Bj 900).2 :=
 An9 h hp (λs=>.lit (.string s)) (λs:List UInt8=>.string ⟨s.toArray⟩) i qx (t:=255) y_ y_ Tryz.underlying255 (et:=9) y_ (Apo Tryz.underlying9) (λ_=>rfl) 900
def A6t{W:World}{g:List (String×DataW Unit)}(h:laidMetH prog g W)(hp:(g.all λx=>x.2.handleName?.isNone)=true)(i : ("paling/machine.many", .agg ([0, 3, 3, 3, 1, 2].map λz=> .lit (.int .i64 z))) ∈ g) : B3 κ0 W 901 (Hg 901).2 :=
 An9 h hp (λz=>.lit (.int .i64 z)) (λz:Int=>.int .i64 z) i qx (t:=246) y_ y_ Tryz.underlying246 (et:=3) y_ (App Tryz.underlying3) (λ_=>rfl) 901
def Al1{W:World}{g:List (String×DataW Unit)}(h:laidMetH prog g W)(hp:(g.all λx=>x.2.handleName?.isNone)=true)(j : ("paling/machine.verbs", .agg ([[], [105, 110, 106, 101, 99, 116], [112, 105, 99, 107], [100, 114, 111, 112], [116, 105, 99, 107], [108, 105, 110, 107, 115]].map λs=> .lit (.string s))) ∈ g)(l : ("paling/machine.many", .agg ([0, 3, 3, 3, 1, 2].map λz=> .lit (.int .i64 z))) ∈ g) : It.ok κ0 W [Bj 900, Hg 901] := by
 intro p i;simp only[yH,xJ,vH]at i;rcases i with rfl|rfl
 .exact Axu h hp j
 .exact A6t h hp l
end Go.Sy.Zaa
