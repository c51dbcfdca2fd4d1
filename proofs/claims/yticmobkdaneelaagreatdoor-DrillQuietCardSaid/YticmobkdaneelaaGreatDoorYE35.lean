/- Parts of a proof. -/
import Derived.Test.YticmobkdaneelaaGreatDoorYE34
set_option linter.all false
set_option linter.unusedVariables false
set_option linter.unusedSimpArgs false
set_option linter.deprecated false
namespace Go.Sy
def Ahz{P:Program}(Γ:Ty P){o:Oper}{s:SS}(d q:Nat){α:Type}{e:α→SV}{l:List α}(z:α){sv:SV}{t:TypeId}{ti:TI}{et:TypeId}{sz eb:Nat}{ez:List Value}{x y:Operand}{k:Option Nat}(h:o.op=.call ⟨.builtin .append,#[x,y],#[t,t]⟩)(hd:s.h d=.fresh)(ht:Γ.get t=some ti)(hk:ti.k=.slice et sz eb ez)(nu:ez.length=sz)(hb:BaseT s sz e (ev s x) k l)(hy:ev s y=.osl q)(hq:s.h q=.lit sz [sv])(hv:∀(M:Nat→Prop) (w:World) (v:Value),RdD M w sv v→RdD M w (e z) v)(m9:∀j,k=some j→j≠d)(cx:(l.length+1)*eb≤140737488355328)(rf:l.length+1≤9223372036854775807):Good P o s ⟨.osl d,[q],Tj k d (.row sz e (l++[z]))⟩:=by
 obtain ⟨f,hb,hf⟩:=hb.base;have hs:AppSrc s sz (ev s y) [q] 1 (Ahm [sv]):=by
  rw[hy];exact AppSrc.lit (sz:=sz) hq
 refine Acr Γ h hd ht hk nu hb hs m9 cx rf λκ w hr=>?_
 rcases hr with ⟨_,h2⟩|⟨b,cap,cs,T,fr,e1,e2,e3,e4,e5,e6⟩
 ·omega
 ·refine .inr ⟨b,cap,cs,T,fr,by simpa using e1,e2,e3,e4,by simpa using e5,λi x hx=>?_⟩;obtain ⟨hi,rfl⟩:=hx;have jo:i<l.length+1:=by simpa using hi
  by_cases hl:i<l.length
  ·have hx:rowF e l i ((l++[z])[i] |> e):=⟨hl,by rw[yT hl]⟩
   obtain ⟨a1,a2⟩:=e6 i _ (.inl ⟨hl,hf i _ hx⟩);exact⟨by simpa using a1,a2⟩
  ·have rp:i=l.length:=by omega
   subst rp;obtain ⟨a1,u,hu,da⟩:=e6 l.length sv (.inr ⟨yG _,by rw[tQ];rfl⟩);refine⟨by simp,u,?_,da⟩;have:=hv _ _ u hu;simpa using this
end Go.Sy
namespace Go.Sy.YticmobkdaneelaaGreatDoor
open Go.Proofs Go.Proofs.Tryz
attribute [local irreducible] Go.Sy.G Go.Sy.DR
set_option maxRecDepth 100000
set_option maxHeartbeats 4000000
def Z1(dev v:Int)(d:Domain):Sp 329 [As d,.ref 1 (Aa dev) 0,.ref 1 (Aa v) 0] (Ab (d.dev==dev&&d.vlan==v)):=cT F329 ntmps329 λF hF=>by
 cases h:(d.dev==dev)
 ·exact gA
 ·exact gA
abbrev A61(n:Net)(ds:List Domain):Obs:=[(900,.box [.osl 901,.osl 902,.osl 903,.osl 1904,.osl 905,.osl 906,.osl 907,.osl 908]),(901,.row 5 Ax n.devices),(902,.row 7 A4 n.ports),(903,.row 3 Bz n.links),(904,.non),(1904,.row 6 As ds),(905,.row 4 A0 n.statics),(906,.row 4 Ba n.floods),(907,.row 5 Ca n.vrfs),(908,.row 5 B4 n.irbs)]
def Oa(n:Net)(hl:n.domains.length<2147483648)(dev v:Int)(hc:¬(0<v∧n.domains.any (λd=>d.dev==dev&&d.vlan==v)=false)):Sq 260 [.ptr 900 0,Aa dev,Aa v] (At7 n) (.tup []) (At7 n):=cT F260 ntmps260 λF hF=>by
 have qc:=Lw n.domains (λd=>d.dev==dev&&d.vlan==v) 329 [] [.ref 1 (Aa dev) 0,.ref 1 (Aa v) 0] rfl (λd _=>⟨⟨_,_,F329⟩,Z1 dev v d⟩) hl;rw[Kl]at qc;generalize n.domains.any (λd=>d.dev==dev&&d.vlan==v)=cl at *;by_cases h1:0<v
 ·have g1:decide (v>0)=true:=zO h1;cases cl with
  |true=>
   refine T ?_;refine Bf 4 1 (Aa dev) E E E ?_;refine Bf 5 1 (Aa v) E E E ?_;refine X (Iu [904] E F328 qc (.cons (.row E E) (.cons (.refl _) .nil)) E E) ?_;exact A6 E .nil [] (At7 n) (λ_ h=>h) E E U
  |false=>exact zY ⟨h1,rfl⟩ hc
 ·have g1:decide (v>0)=false:=zL h1;refine T ?_;exact A6 E .nil [] (At7 n) (λ_ h=>h) E E U
def L4(n:Net)(hl:n.domains.length<2147483648)(dev v:Int)(hc:0<v∧n.domains.any (λd=>d.dev==dev&&d.vlan==v)=false):Sq 260 [.ptr 900 0,Aa dev,Aa v] (At7 n) (.tup []) (A61 n (n.domains++[(⟨dev,v,0,-1,0,[]⟩:Domain)])):=cT F260 ntmps260 λF hF=>by
 have qc:=Lw n.domains (λd=>d.dev==dev&&d.vlan==v) 329 [] [.ref 1 (Aa dev) 0,.ref 1 (Aa v) 0] rfl (λd _=>⟨⟨_,_,F329⟩,Z1 dev v d⟩) hl;rw[Kl,hc.2]at qc;have g1:decide (v>0)=true:=zO hc.1;refine T ?_;refine Bf 4 1 (Aa dev) E E E ?_;refine Bf 5 1 (Aa v) E E E ?_;refine X (Iu [904] E F328 qc (.cons (.row E E) (.cons (.refl _) .nil)) E E) ?_;refine T ?_;refine Xd (Ahz Γ.toTy 28 27 (⟨dev,v,0,-1,0,[]⟩:Domain) E E E E E (.row E) E E (λM w u hu=>Ay7 (⟨dev,v,0,-1,0,[]⟩:Domain) E hu) j_ q_ q_) ?_;refine T ?_;exact A6 E .nil [(1904,28)] (A61 n (n.domains++[(⟨dev,v,0,-1,0,[]⟩:Domain)])) (λ_ h=>h) E E U
def Abq{dev v:Int}{ds:List Domain}(h:¬(0<v∧ds.any (λd=>d.dev==dev&&d.vlan==v)=false)):Cr dev ds v=ds:=by rw[Cr,zD h]
def Yo{dev v:Int}{ds:List Domain}(h:0<v∧ds.any (λd=>d.dev==dev&&d.vlan==v)=false):Cr dev ds v=ds++[(⟨dev,v,0,-1,0,[]⟩:Domain)]:=by rw[Cr,zG h]
def Aag(dev:Int):∀(l:List Int) (ds:List Domain),(Bh dev ds l).length≤ds.length+l.length
 |[],ds=>by simp[Bh]
 |v::l,ds=>by
  have ih:=Aag dev l (Cr dev ds v);have h1:(Cr dev ds v).length≤ds.length+1:=by
   unfold Cr;split<;>simp
  have e:Bh dev ds (v::l)=Bh dev (Cr dev ds v) l:=rfl;rw[e,yL];omega
def Aaf(dev:Int)(ds:List Domain)(l:List Int)(v:Int):Bh dev ds (l++[v])=Cr dev (Bh dev ds l) v:=by
 unfold Bh;rw[xO];rfl
end Go.Sy.YticmobkdaneelaaGreatDoor
