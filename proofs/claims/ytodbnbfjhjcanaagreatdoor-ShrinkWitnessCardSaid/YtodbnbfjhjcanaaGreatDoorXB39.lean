/- Parts of a proof. -/
import Derived.Test.YtodbnbfjhjcanaaGreatDoorXB38
set_option linter.all false
namespace Go.Sy.Zaa
open Go.Proofs Go.Proofs.Tryz
def A54{b:List UInt8}(h:(netTextT b).2.2=0):FarK (netTextT b).1:=by
 rw[netTextT]at h|-;split at h
 .contradiction
 rename_i h1;rw[zD h1];exact Ahc (textT b).1 emptyN Agz h
end Go.Sy.Zaa
