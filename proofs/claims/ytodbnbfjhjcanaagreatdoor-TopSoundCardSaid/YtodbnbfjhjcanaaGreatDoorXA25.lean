/- Parts of a proof. -/
import Derived.Test.YtodbnbfjhjcanaaGreatDoorXA24
set_option maxHeartbeats 4000000
set_option linter.all false
namespace Go.Sy
def Ac3{P:Program}(Γ:Ty P){o:Oper}{s:SS}(d q:Nat){r:Type}{e:r->SV}{l:List r}(z:r){sv:SV}{t:TypeId}{ti:TI}{et:TypeId}{sz eb:Nat}{ez:List Value}{x y:Operand}{k:Option Nat}(h:o.op=.call ⟨.builtin .append,#[x,y],#[t,t]⟩)(hd:s.h d=.fresh)(ht:Γ.get t=some ti)(hk:ti.k=.slice et sz eb ez)(ou:ez.length=sz)(hb:BaseT s sz e (ev s x) k l)(hy:ev s y=.osl q)(hq:s.h q=.lit sz [sv])(hv:∀(M:Nat->Prop) (w:World) (v:Value),RdD M w sv v->RdD M w (e z) v)(pn:∀j,k=some j->j≠d)(cz:(l.length+1)*eb<=140737488355328)(sg:l.length+1<=9223372036854775807):Good P o s ⟨.osl d,[q],Uc k d (.row sz e (l++[z]))⟩:=by
 obtain ⟨f,hb,hf⟩:=hb.base;have hs:AppSrc s sz (ev s y) [q] 1 (Acq [sv]):=by
  rw[hy];exact AppSrc.lit (sz:=sz) hq
 refine fA Γ h hd ht hk ou hb hs pn cz sg λa w hr=>?_
 rcases hr with ⟨_,h2⟩|⟨b,cap,cs,T,fr,e1,e2,e3,e4,e5,e6⟩
 .omega
 .refine .inr ⟨b,cap,cs,T,fr,kS e1,e2,e3,e4,kS e5,λi x hx=>?_⟩;obtain ⟨hi,rfl⟩:=hx;have km:i<l.length+1:=kS hi;by_cases hl:i<l.length
  .have hx:rowF e l i ((l++[z])[i] |> e):=⟨hl,by rw[yT hl]⟩
   obtain ⟨a1,a2⟩:=e6 i _ (.inl ⟨hl,hf i _ hx⟩);exact⟨kS a1,a2⟩
  .have s4:i=l.length:=by omega
   subst s4;obtain ⟨a1,u,hu,df⟩:=e6 l.length sv (.inr ⟨yG _,by rw[tP];rfl⟩);refine⟨by simp,u,?_,df⟩;have:=hv _ _ u hu;simpa using this
end Go.Sy
namespace Go.Sy.Zaa
open Go.Proofs Go.Proofs.Tryz
attribute [local irreducible]G DR
set_option maxRecDepth 100000
def bC(dev v:Int)(d:Domain):Sp 389 [At d,.ref 1 (Aa dev) 0,.ref 1 (Aa v) 0] (Ab (d.dev==dev&&d.vlan==v)):=cT F389 ntmps389 λF hF=>by
 cases h:(d.dev==dev)
 .exact gA
 .exact gA
abbrev A3a(n:Net)(ds:List Domain):Obs:=[(900,.box [.osl 901,.osl 902,.osl 903,.osl 1904,.osl 905,.osl 906,.osl 907,.osl 908]),(901,.row 5 A4 n.devices),(902,.row 7 Bd n.ports),(903,.row 3 Co n.links),(904,.non),(1904,.row 6 At ds),(905,.row 4 Bb n.statics),(906,.row 4 Bm n.floods),(907,.row 5 Cu n.vrfs),(908,.row 5 Cr n.irbs)]
def Ot(n:Net)(hl:n.domains.length<2147483648)(dev v:Int)(hc:¬(0<v/\n.domains.any (λd=>d.dev==dev&&d.vlan==v)=false)):Sq 348 [.ptr 900 0,Aa dev,Aa v] (Apt n) (.tup []) (Apt n):=cT F348 ntmps348 λF hF=>by
 have qc:=L3 n.domains (λd=>d.dev==dev&&d.vlan==v) 389 [] [.ref 1 (Aa dev) 0,.ref 1 (Aa v) 0] rfl (λd _=>⟨⟨_,_,F389⟩,bC dev v d⟩) hl;rw[Iz]at qc;generalize n.domains.any (λd=>d.dev==dev&&d.vlan==v)=cl at *;by_cases h1:0<v
 .have g1:decide (v>0)=true:=zK h1;cases cl with
  |true=>
   refine T ?_;refine Ba 4 1 (Aa dev) E E E ?_;refine Ba 5 1 (Aa v) E E E (X (I0 [904] E F388 qc (.cons (.row E E) (.cons (.refl _) .nil)) E E) ?_);exact A2 E .nil [] (Apt n) (λ_ h=>h) E E U
  |false=>exact zX ⟨h1,rfl⟩ hc
 .have g1:decide (v>0)=false:=zL h1;refine T ?_;exact A2 E .nil [] (Apt n) (λ_ h=>h) E E U
def Mb(n:Net)(hl:n.domains.length<2147483648)(dev v:Int)(hc:0<v/\n.domains.any (λd=>d.dev==dev&&d.vlan==v)=false):Sq 348 [.ptr 900 0,Aa dev,Aa v] (Apt n) (.tup []) (A3a n (n.domains++[(⟨dev,v,0,-1,0,[]⟩:Domain)])):=cT F348 ntmps348 λF hF=>by
 have qc:=L3 n.domains (λd=>d.dev==dev&&d.vlan==v) 389 [] [.ref 1 (Aa dev) 0,.ref 1 (Aa v) 0] rfl (λd _=>⟨⟨_,_,F389⟩,bC dev v d⟩) hl;rw[Iz,hc.2]at qc;have g1:decide (v>0)=true:=zK hc.1;refine T ?_;refine Ba 4 1 (Aa dev) E E E ?_;refine Ba 5 1 (Aa v) E E E (X (I0 [904] E F388 qc (.cons (.row E E) (.cons (.refl _) .nil)) E E) ?_);refine T ?_;refine Xd (Ac3 Γ.toTy 28 27 (⟨dev,v,0,-1,0,[]⟩:Domain) E E E E E (.row E) E E (λM w u hu=>Auy (⟨dev,v,0,-1,0,[]⟩:Domain) E hu) y_ z_ z_) ?_;refine T ?_;exact A2 E .nil [(1904,28)] (A3a n (n.domains++[(⟨dev,v,0,-1,0,[]⟩:Domain)])) (λ_ h=>h) E E U
def dP{dev v:Int}{ds:List Domain}(h:¬(0<v/\ds.any (λd=>d.dev==dev&&d.vlan==v)=false)):Cw dev ds v=ds:=by rw[Cw,zD h]
def Zb{dev v:Int}{ds:List Domain}(h:0<v/\ds.any (λd=>d.dev==dev&&d.vlan==v)=false):Cw dev ds v=ds++[(⟨dev,v,0,-1,0,[]⟩:Domain)]:=by rw[Cw,zE h]
def bS(dev:Int):∀(l:List Int) (ds:List Domain),(Bk dev ds l).length<=ds.length+l.length
 |[],ds=>by simp[Bk]
 |v::l,ds=>by
  have ih:=bS dev l (Cw dev ds v);have h1:(Cw dev ds v).length<=ds.length+1:=by
   unfold Cw;split<;>simp
  have e:Bk dev ds (v::l)=Bk dev (Cw dev ds v) l:=rfl;rw[e,yL];omega
def bR(dev:Int)(ds:List Domain)(l:List Int)(v:Int):Bk dev ds (l++[v])=Cw dev (Bk dev ds l) v:=by
 unfold Bk;rw[xO];rfl
end Go.Sy.Zaa
