/- Parts of a proof. -/
import Derived.Test.YtodbnbfjhjcanaaGreatDoorXB18
set_option maxHeartbeats 4000000
set_option linter.all false
namespace Go.Sy.Zaa
open Go.Proofs Go.Proofs.Tryz
attribute [local irreducible]G DR
set_option maxRecDepth 100000
abbrev Asd(n:Net):Obs:=[(900,.box [.osl 901,.osl 902,.osl 903,.osl 904,.osl 905,.osl 906,.osl 907,.osl 908]),(901,.row 5 A1 n.devices),(902,.row 7 Bb n.ports),(903,.row 3 Ck n.links),(904,.row 6 At n.domains),(905,.row 4 Bc n.statics),(906,.row 4 Bn n.floods),(907,.row 5 Ct n.vrfs),(908,.row 5 Cq n.irbs)]
def lZ(n:Net)(hn:n.Fin)(l:LineM)(hl:LineW l)(k:Int)(h:fitsB n l k=true):Sq 345 [Am n,A5 l,Aa k] [] (.tup [.ptr 900 0,Ab true]) (Asd n):=cT F345 ntmps345 λF hF=>by
 have qr:=Lt l hl;have qn:=A2 n hn;have dh:=Ss n hn;unfold fitsB at h;simp only[zG]at h;obtain ⟨h1,h2,h3⟩:=h;have g1:(l.kind != k)=false:=by rw[bne,h1];rfl
 rw[h2]at qr;rw[h3]at qn;refine gB qr F349 qn F39 ?_;refine X (Ad [(0,901),(1,902),(2,903),(3,904),(4,905),(5,906),(6,907),(7,908)] E F102 dh E W E V) ?_;exact done E (.cons .tmp Aq) [(900,25)] (Asd n) (λ_ h=>h) E E U
def Yz(n:Net)(hn:n.Fin)(l:LineM)(hl:LineW l)(k:Int)(h:fitsB n l k=false):Sp 345 [Am n,A5 l,Aa k] (.tup [.val (.pointer none),Ab false]):=cT F345 ntmps345 λF hF=>by
 have qr:=Lt l hl;have qn:=A2 n hn;unfold fitsB at h;cases h1:(l.kind==k) with
 |false=>
  have g1:(l.kind != k)=true:=by rw[bne,h1];rfl
  exact gA
 |true=>
 have g1:(l.kind != k)=false:=by rw[bne,h1];rfl
 rw[h1,yG]at h;cases h2:D6 l with
 |false=>
  rw[h2]at qr;refine gC qr F349 ?_;exact D
 |true=>
 rw[h2]at qr h;rw[yG]at h;rw[h]at qn;refine gB qr F349 qn F39 ?_;exact D
def A0b(l:LineM)(d:Device):Sp 347 [A1 d,.ref 17 (A5 l) 0] (Ab (d.name==l.dev||d.mac==l.mac)):=cT F347 ntmps347 λF hF=>by
 cases h:(d.name==l.dev)
 .exact gA
 .exact gA
def Ase(n:Net)(hn:n.Fin)(l:LineM)(hl:LineW l):Sp 274 [Am n,A5 l] (.tup [Am (putDevice n l).1,Aa (putDevice n l).2]):=cT F274 ntmps274 λF hF=>by
 have aa:=putDevice.eq_1 n l;generalize putDevice n l=res at *;cases hf:fitsB n l 1 with
 |false=>
  have q1:=Yz n hn l hl 1 hf;rw[hf,zE rfl]at aa;subst aa;refine gC q1 F345 ?_;exact Ak 4 (Dc emptyN) E vL gA
 |true=>
 have q1:=lZ n hn l hl 1 hf;rw[hf,zD y_]at aa;have qc:=W8 n.devices (λd=>d.name==l.dev||d.mac==l.mac) 347 [] [.ref 17 (A5 l) 0] rfl (λd _=>⟨⟨_,_,F347⟩,A0b l d⟩) hn.devices;rw[I8]at qc;have jl:n.devices.length<2147483648:=hn.devices;generalize n.devices.any (λd=>d.name==l.dev||d.mac==l.mac)=cl at *;cases cl with
 |true=>
  rw[zE rfl]at aa;subst aa;refine T ?_;refine X (Ad [] E F345 q1 E W E V) ?_;refine Bf 3 17 (A5 l) E E E (X (I9 [901] E F346 qc (.cons (.row E E) (.cons (.refl _) .nil)) E E) ?_);exact Ak 4 (Dc emptyN) E vL gA
 |false=>
 rw[zD y_]at aa;by_cases h5:n.devices.length=8
 .have g5:((n.devices.length:Int)==8)=true:=by rw[yJ];omega
  rw[zE h5]at aa;subst aa;refine T ?_;refine X (Ad [] E F345 q1 E W E V) ?_;refine Bf 3 17 (A5 l) E E E (X (I9 [901] E F346 qc (.cons (.row E E) (.cons (.refl _) .nil)) E E) ?_);exact Ak 4 (Dc emptyN) E vL gA
 have g5:((n.devices.length:Int)==8)=false:=by rw[zU];omega
 rw[zD h5]at aa;subst aa;refine T ?_;refine X (Ad [] E F345 q1 E W E V) ?_;refine Bf 3 17 (A5 l) E E E (X (I9 [901] E F346 qc (.cons (.row E E) (.cons (.refl _) .nil)) E E) ?_);refine T ?_;refine Xd (Ah Γ.toTy 52 E E E E E (.row E) (.lit (e:=A1) (l:=[(⟨l.row,l.num,l.dev,l.mac,0⟩:Device)]) E E) j_ (by simp only[zW];omega) (by simp only[zW];omega)) ?_;refine T ?_;exact Ai 52 E (Ai 902 E (Ai 903 E (Ai 904 E (Ai 905 E (Ai 906 E (Ai 907 E (Ai 908 E D)))))))
end Go.Sy.Zaa
