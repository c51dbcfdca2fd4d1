/- Parts of a proof. -/
import Derived.Test.YtolnneiipmfgaaaGreatDoorYC6
set_option linter.all false
set_option linter.unusedVariables false
set_option linter.unusedSimpArgs false
set_option linter.deprecated false
namespace Go.Sy.YtolnneiipmfgaaaGreatDoor
open Go.Proofs Go.Proofs.Tryz
structure ReportM where
 kind:Int
 where_:Int
 row:Int
 error:Int
 from_:Int
 to:Int
 script:List StepM
def Q7(r:ReportM):SV:=.agg [Aa r.kind,Aa r.where_,Aa r.row,Aa r.error,Aa r.from_,Aa r.to,.sl 6 Du r.script]
end Go.Sy.YtolnneiipmfgaaaGreatDoor
