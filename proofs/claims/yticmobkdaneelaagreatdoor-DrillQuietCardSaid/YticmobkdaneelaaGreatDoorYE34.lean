/- Parts of a proof. -/
import Derived.Test.YticmobkdaneelaaGreatDoorYE28
set_option linter.all false
set_option linter.unusedVariables false
set_option linter.unusedSimpArgs false
set_option linter.deprecated false
namespace Go.Sy.YticmobkdaneelaaGreatDoor
open Go.Proofs Go.Proofs.Tryz
attribute [local irreducible] Go.Sy.G Go.Sy.DR
set_option maxRecDepth 100000
set_option maxHeartbeats 4000000
abbrev At7(n:Net):Obs:=[(900,.box [.osl 901,.osl 902,.osl 903,.osl 904,.osl 905,.osl 906,.osl 907,.osl 908]),(901,.row 5 Ax n.devices),(902,.row 7 A4 n.ports),(903,.row 3 Bz n.links),(904,.row 6 As n.domains),(905,.row 4 A0 n.statics),(906,.row 4 Ba n.floods),(907,.row 5 Ca n.vrfs),(908,.row 5 B4 n.irbs)]
def Acb(n:Net)(hn:n.Fin)(l:LineM)(hl:LineW l)(k:Int)(h:fitsB n l k=true):Sq 255 [Am n,A3 l,Aa k] [] (.tup [.ptr 900 0,Ab true]) (At7 n):=cT F255 ntmps255 λF hF=>by
 have qr:=Ky l hl;have qn:=A1 n hn;have db:=Te n hn;unfold fitsB at h;simp only[zE]at h;obtain ⟨h1,h2,h3⟩:=h;have g1:(l.kind != k)=false:=by rw[bne,h1];rfl
 rw[h2]at qr;rw[h3]at qn;refine gB qr F261 qn F22 ?_;refine X (Ad [(0,901),(1,902),(2,903),(3,904),(4,905),(5,906),(6,907),(7,908)] E F30 db E W E V) ?_;exact done E (.cons .tmp (.cons .tmp .nil)) [(900,25)] (At7 n) (λ_ h=>h) E E U
def Wx(n:Net)(hn:n.Fin)(l:LineM)(hl:LineW l)(k:Int)(h:fitsB n l k=false):Sp 255 [Am n,A3 l,Aa k] (.tup [.val (.pointer none),Ab false]):=cT F255 ntmps255 λF hF=>by
 have qr:=Ky l hl;have qn:=A1 n hn;unfold fitsB at h;cases h1:(l.kind==k) with
 |false=>
  have g1:(l.kind != k)=true:=by rw[bne,h1];rfl
  exact gA
 |true=>
 have g1:(l.kind != k)=false:=by rw[bne,h1];rfl
 rw[h1,yF]at h;cases h2:Cj l with
 |false=>
  rw[h2]at qr;refine gD qr F261 ?_;exact D
 |true=>
 rw[h2]at qr h;rw[yF]at h;rw[h]at qn;refine gB qr F261 qn F22 ?_;exact D
def A1f(l:LineM)(d:Device):Sp 257 [Ax d,.ref 17 (A3 l) 0] (Ab (d.name==l.dev||d.mac==l.mac)):=cT F257 ntmps257 λF hF=>by
 cases h:(d.name==l.dev)
 ·exact gA
 ·exact gA
def At8(n:Net)(hn:n.Fin)(l:LineM)(hl:LineW l):Sp 182 [Am n,A3 l] (.tup [Am (putDevice n l).1,Aa (putDevice n l).2]):=cT F182 ntmps182 λF hF=>by
 have aa:=putDevice.eq_1 n l;generalize putDevice n l=res at *;cases hf:fitsB n l 1 with
 |false=>
  have q1:=Wx n hn l hl 1 hf;rw[hf,zG rfl]at aa;subst aa;refine gD q1 F255 ?_;refine Ak 4 (C6 emptyN) E vL ?_;exact gA
 |true=>
 have q1:=Acb n hn l hl 1 hf;rw[hf,zD y_]at aa;have qc:=Vi n.devices (λd=>d.name==l.dev||d.mac==l.mac) 257 [] [.ref 17 (A3 l) 0] rfl (λd _=>⟨⟨_,_,F257⟩,A1f l d⟩) hn.devices;rw[Kl]at qc;have il:n.devices.length<2147483648:=hn.devices;generalize n.devices.any (λd=>d.name==l.dev||d.mac==l.mac)=cl at *;cases cl with
 |true=>
  rw[zG rfl]at aa;subst aa;refine T ?_;refine X (Ad [] E F255 q1 E W E V) ?_;refine Bf 3 17 (A3 l) E E E ?_;refine X (Iu [901] E F256 qc (.cons (.row E E) (.cons (.refl _) .nil)) E E) ?_;refine Ak 4 (C6 emptyN) E vL ?_;exact gA
 |false=>
 rw[zD y_]at aa;by_cases h5:n.devices.length=8
 ·have g5:((n.devices.length:Int)==8)=true:=by rw[yJ];omega
  rw[zG h5]at aa;subst aa;refine T ?_;refine X (Ad [] E F255 q1 E W E V) ?_;refine Bf 3 17 (A3 l) E E E ?_;refine X (Iu [901] E F256 qc (.cons (.row E E) (.cons (.refl _) .nil)) E E) ?_;refine Ak 4 (C6 emptyN) E vL ?_;exact gA
 have g5:((n.devices.length:Int)==8)=false:=by rw[zR];omega
 rw[zD h5]at aa;subst aa;refine T ?_;refine X (Ad [] E F255 q1 E W E V) ?_;refine Bf 3 17 (A3 l) E E E ?_;refine X (Iu [901] E F256 qc (.cons (.row E E) (.cons (.refl _) .nil)) E E) ?_;refine T ?_;refine Xd (Ag Γ.toTy 52 E E E E E (.row E) (.lit (e:=Ax) (l:=[(⟨l.row,l.num,l.dev,l.mac,0⟩:Device)]) E E) j_ (by simp only[yC];omega) (by simp only[yC];omega)) ?_;refine T ?_;refine Aj 52 E ?_;refine Aj 902 E ?_;refine Aj 903 E ?_;refine Aj 904 E ?_;refine Aj 905 E ?_;refine Aj 906 E ?_;refine Aj 907 E ?_;refine Aj 908 E ?_;exact D
end Go.Sy.YticmobkdaneelaaGreatDoor
