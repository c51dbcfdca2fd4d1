/- Parts of a proof. -/
import Derived.Test.YtodbnbfjhjcanaaGreatDoorXA18
set_option maxHeartbeats 4000000
set_option linter.all false
namespace Go.Sy.Zaa
open Go.Proofs Go.Proofs.Tryz
attribute [local irreducible]G DR
set_option maxRecDepth 100000
abbrev Apt(n:Net):Obs:=[(900,.box [.osl 901,.osl 902,.osl 903,.osl 904,.osl 905,.osl 906,.osl 907,.osl 908]),(901,.row 5 A4 n.devices),(902,.row 7 Bd n.ports),(903,.row 3 Co n.links),(904,.row 6 At n.domains),(905,.row 4 Bb n.statics),(906,.row 4 Bm n.floods),(907,.row 5 Cu n.vrfs),(908,.row 5 Cr n.irbs)]
def eJ(n:Net)(hn:n.Fin)(l:LineM)(hl:LineW l)(k:Int)(h:fitsB n l k=true):Sq 345 [Am n,A3 l,Aa k] [] (.tup [.ptr 900 0,Ab true]) (Apt n):=cT F345 ntmps345 λF hF=>by
 have qr:=La l hl;have qn:=A0 n hn;have de:=Qz n hn;unfold fitsB at h;simp only[zG]at h;obtain ⟨h1,h2,h3⟩:=h;have g1:(l.kind != k)=false:=by rw[bne,h1];rfl
 rw[h2]at qr;rw[h3]at qn;refine gB qr F349 qn F39 ?_;refine X (Ad [(0,901),(1,902),(2,903),(3,904),(4,905),(5,906),(6,907),(7,908)] E F102 de E W E V) ?_;exact done E (.cons .tmp Ap) [(900,25)] (Apt n) (λ_ h=>h) E E U
def Xv(n:Net)(hn:n.Fin)(l:LineM)(hl:LineW l)(k:Int)(h:fitsB n l k=false):Sp 345 [Am n,A3 l,Aa k] (.tup [.val (.pointer none),Ab false]):=cT F345 ntmps345 λF hF=>by
 have qr:=La l hl;have qn:=A0 n hn;unfold fitsB at h;cases h1:(l.kind==k) with
 |false=>
  have g1:(l.kind != k)=true:=by rw[bne,h1];rfl
  exact gA
 |true=>
 have g1:(l.kind != k)=false:=by rw[bne,h1];rfl
 rw[h1,yD]at h;cases h2:Cn l with
 |false=>
  rw[h2]at qr;refine gC qr F349 ?_;exact D
 |true=>
 rw[h2]at qr h;rw[yD]at h;rw[h]at qn;refine gB qr F349 qn F39 ?_;exact D
def Axf(l:LineM)(d:Device):Sp 347 [A4 d,.ref 17 (A3 l) 0] (Ab (d.name==l.dev||d.mac==l.mac)):=cT F347 ntmps347 λF hF=>by
 cases h:(d.name==l.dev)
 .exact gA
 .exact gA
def Apu(n:Net)(hn:n.Fin)(l:LineM)(hl:LineW l):Sp 274 [Am n,A3 l] (.tup [Am (putDevice n l).1,Aa (putDevice n l).2]):=cT F274 ntmps274 λF hF=>by
 have aa:=putDevice.eq_1 n l;generalize putDevice n l=res at *;cases hf:fitsB n l 1 with
 |false=>
  have q1:=Xv n hn l hl 1 hf;rw[hf,zE rfl]at aa;subst aa;refine gC q1 F345 ?_;exact Ak 4 (C8 emptyN) E vL gA
 |true=>
 have q1:=eJ n hn l hl 1 hf;rw[hf,zD qq]at aa;have qc:=V8 n.devices (λd=>d.name==l.dev||d.mac==l.mac) 347 [] [.ref 17 (A3 l) 0] rfl (λd _=>⟨⟨_,_,F347⟩,Axf l d⟩) hn.devices;rw[Iz]at qc;have im:n.devices.length<2147483648:=hn.devices;generalize n.devices.any (λd=>d.name==l.dev||d.mac==l.mac)=cl at *;cases cl with
 |true=>
  rw[zE rfl]at aa;subst aa;refine T ?_;refine X (Ad [] E F345 q1 E W E V) ?_;refine Ba 3 17 (A3 l) E E E (X (I0 [901] E F346 qc (.cons (.row E E) (.cons (.refl _) .nil)) E E) ?_);exact Ak 4 (C8 emptyN) E vL gA
 |false=>
 rw[zD qq]at aa;by_cases h5:n.devices.length=8
 .have g5:((n.devices.length:Int)==8)=true:=by rw[yJ];omega
  rw[zE h5]at aa;subst aa;refine T ?_;refine X (Ad [] E F345 q1 E W E V) ?_;refine Ba 3 17 (A3 l) E E E (X (I0 [901] E F346 qc (.cons (.row E E) (.cons (.refl _) .nil)) E E) ?_);exact Ak 4 (C8 emptyN) E vL gA
 have g5:((n.devices.length:Int)==8)=false:=by rw[zT];omega
 rw[zD h5]at aa;subst aa;refine T ?_;refine X (Ad [] E F345 q1 E W E V) ?_;refine Ba 3 17 (A3 l) E E E (X (I0 [901] E F346 qc (.cons (.row E E) (.cons (.refl _) .nil)) E E) ?_);refine T ?_;refine Xd (Ah Γ.toTy 52 E E E E E (.row E) (.lit (e:=A4) (l:=[(⟨l.row,l.num,l.dev,l.mac,0⟩:Device)]) E E) y_ (by simp only[yF];omega) (by simp only[yF];omega)) ?_;refine T ?_;exact Aj 52 E (Aj 902 E (Aj 903 E (Aj 904 E (Aj 905 E (Aj 906 E (Aj 907 E (Aj 908 E D)))))))
end Go.Sy.Zaa
