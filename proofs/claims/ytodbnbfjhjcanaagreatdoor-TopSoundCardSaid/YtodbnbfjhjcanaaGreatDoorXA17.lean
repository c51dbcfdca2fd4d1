/- Parts of a proof. -/
import Derived.Test.YtodbnbfjhjcanaaGreatDoorXA15
import Derived.Test.YtodbnbfjhjcanaaGreatDoorXA16
set_option maxHeartbeats 4000000
set_option linter.all false
namespace Go.Sy.Zaa
open Go.Proofs Go.Proofs.Tryz
attribute [local irreducible]G DR
set_option maxRecDepth 20000
def Ky:=iA A4 5 F226 ntmps226
def dF:=iA Bm 4 F358 ntmps358
def Aaq:=iA Cu 5 F414 ntmps414
def V8(l:List Device)(p:Device->Bool)(f:FuncId)(first cap:List SV)(hc:(SV.clo (.func f) first cap).inn []=true)(hf:∀x∈l,E4 prog f (first++[A4 x]++cap) (Ab (p x)))(hl:An l):Sp 346 [.sl 5 A4 l,.clo (.func f) first cap] (Ab (decide (0<=Bs p l))):=cT F346 ntmps346 λF hF=>by
 have h0:B7 [] [.sl 5 A4 l,.clo (.func f) first cap]=true:=by simp only[B7,hc];rfl
 refine fW ?_;exact Mh (Ky l p f first cap hc hf hl) F226 E E (by simp only[h0];rfl) E E gD
def L3(l:List Domain)(p:Domain->Bool)(f:FuncId)(first cap:List SV)(hc:(SV.clo (.func f) first cap).inn []=true)(hf:∀x∈l,E4 prog f (first++[At x]++cap) (Ab (p x)))(hl:An l):Sp 388 [.sl 6 At l,.clo (.func f) first cap] (Ab (decide (0<=Bs p l))):=cT F388 ntmps388 λF hF=>by
 have h0:B7 [] [.sl 6 At l,.clo (.func f) first cap]=true:=by simp only[B7,hc];rfl
 refine fW ?_;exact Mh (Ey l p f first cap hc hf hl) F222 E E (by simp only[h0];rfl) E E gD
def Ag1(n:Net)(hn:n.Fin)(l:List Device)(p:Device->Bool)(f:FuncId)(first cap:List SV)(hc:(SV.clo (.func f) first cap).inn []=true)(hf:∀x∈l,E4 prog f (first++[A4 x]++cap) (Ab (p x)))(hl:An l):Sp 158 [Am n,.sl 5 A4 l,.clo (.func f) first cap] (Aa (if Ac n=true then Bs p l else -1)):=cT F158 ntmps158 λF hF=>by
 have hr:=A0 n hn;have q:=Ky l p f first cap hc hf hl
 refine gP hr F39 ?_;cases hb:Ac n
 .rw[zD qq];exact gD
 rw[zE rfl];refine fU ?_;exact Mh q F226 E E (by simp only[B7,hc,uJ];rfl) E E gD
def Apc(n:Net)(hn:n.Fin)(l:List Port)(p:Port->Bool)(f:FuncId)(first cap:List SV)(hc:(SV.clo (.func f) first cap).inn []=true)(hf:∀x∈l,E4 prog f (first++[Bd x]++cap) (Ab (p x)))(hl:An l):Sp 156 [Am n,.sl 7 Bd l,.clo (.func f) first cap] (Aa (if Ac n=true then Bs p l else -1)):=cT F156 ntmps156 λF hF=>by
 have hr:=A0 n hn;have q:=Uj l p f first cap hc hf hl
 refine gP hr F39 ?_;cases hb:Ac n
 .rw[zD qq];exact gD
 rw[zE rfl];refine fU ?_;exact Mh q F225 E E (by simp only[B7,hc,uJ];rfl) E E gD
def Auq(n:Net)(hn:n.Fin)(l:List Vrf)(p:Vrf->Bool)(f:FuncId)(first cap:List SV)(hc:(SV.clo (.func f) first cap).inn []=true)(hf:∀x∈l,E4 prog f (first++[Cu x]++cap) (Ab (p x)))(hl:An l):Sp 395 [Am n,.sl 5 Cu l,.clo (.func f) first cap] (Aa (if Ac n=true then Bs p l else -1)):=cT F395 ntmps395 λF hF=>by
 have hr:=A0 n hn;have q:=Aaq l p f first cap hc hf hl
 refine gP hr F39 ?_;cases hb:Ac n
 .rw[zD qq];exact gD
 rw[zE rfl];refine fU ?_;exact Mh q F414 E E (by simp only[B7,hc,uJ];rfl) E E gD
def Agn(s:ByteArray)(d:Device):Sp 159 [A4 d,.ref 1 (Ar s) 0] (Ab (d.name==s)):=cT F159 ntmps159 λF hF=>by
 exact gA
def Aod(dev:Int)(s:ByteArray)(p:Port):Sp 157 [Bd p,.ref 1 (Aa dev) 0,.ref 1 (Ar s) 0] (Ab (p.dev==dev&&p.name==s)):=cT F157 ntmps157 λF hF=>by
 cases h:(p.dev==dev)
 .exact gA
 .exact gA
def Atm(dev:Int)(s:ByteArray)(p:Vrf):Sp 396 [Cu p,.ref 1 (Aa dev) 0,.ref 1 (Ar s) 0] (Ab (p.dev==dev&&p.name==s)):=cT F396 ntmps396 λF hF=>by
 cases h:(p.dev==dev)
 .exact gA
 .exact gA
def I5(n:Net)(hn:n.Fin)(hr:Ac n=true)(s:ByteArray):Sp 96 [Am n,Ar s] (Aa (Cf n s)):=cT F96 ntmps96 λF hF=>by
 have q:=Ag1 n hn n.devices (λd=>d.name==s) 159 [] [.ref 1 (Ar s) 0] rfl (λd _=>⟨⟨_,_,F159⟩,Agn s d⟩) hn.devices;rw[zE hr]at q;refine fW ?_;exact Ba 3 1 (Ar s) E E E (c0 q F158 gD)
def Tp(n:Net)(hn:n.Fin)(hr:Ac n=true)(dev:Int)(s:ByteArray):Sp 95 [Am n,Aa dev,Ar s] (Aa (M7 n dev s)):=cT F95 ntmps95 λF hF=>by
 have q:=Apc n hn n.ports (λp=>p.dev==dev&&p.name==s) 157 [] [.ref 1 (Aa dev) 0,.ref 1 (Ar s) 0] rfl (λd _=>⟨⟨_,_,F157⟩,Aod dev s d⟩) hn.ports;rw[zE hr]at q;refine fW ?_;exact Ba 4 1 (Aa dev) E E E (Ba 5 1 (Ar s) E E E (c0 q F156 gD))
def Ad2(n:Net)(hn:n.Fin)(hr:Ac n=true)(dev:Int)(s:ByteArray):Sp 355 [Am n,Aa dev,Ar s] (Aa (fS n dev s)):=cT F355 ntmps355 λF hF=>by
 have q:=Auq n hn n.vrfs (λp=>p.dev==dev&&p.name==s) 396 [] [.ref 1 (Aa dev) 0,.ref 1 (Ar s) 0] rfl (λd _=>⟨⟨_,_,F396⟩,Atm dev s d⟩) hn.vrfs;rw[zE hr]at q;refine fW ?_;exact Ba 4 1 (Aa dev) E E E (Ba 5 1 (Ar s) E E E (c0 q F395 gD))
def Lp(n:Net)(hn:n.Fin)(hr:Ac n=true)(dev vlan:Int):Sp 181 [Am n,Aa dev,Aa vlan] (Aa (Da n dev vlan)):=by
 have q:=Kt n hn dev vlan;rwa [Ce,zE hr]at q
end Go.Sy.Zaa
