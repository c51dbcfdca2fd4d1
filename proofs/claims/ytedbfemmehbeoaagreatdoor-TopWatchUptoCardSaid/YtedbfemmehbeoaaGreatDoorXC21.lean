/- Parts of a proof. -/
import Derived.Test.YtedbfemmehbeoaaGreatDoorXC20
set_option maxHeartbeats 4000000
set_option linter.all false
namespace Go.Sy.Zaa
open Go.Proofs Go.Proofs.Tryz
attribute [local irreducible]G DR
set_option maxRecDepth 100000
def Ac9(dev v:Int)(d:A0):Sp 406 [Ax d,.ref 1 (Aa dev) 0,.ref 1 (Aa v) 0] (Ab (d.q==dev&&d.z==v)):=cT F406 ntmps406 λF g=>by
 cases h:(d.q==dev)
 .exact gA
 .exact gA
abbrev Bgy(n:Ai)(ds:List A0):It:=[(900,.box [.osl 901,.osl 902,.osl 903,.osl 1904,.osl 905,.osl 906,.osl 907,.osl 908]),(901,.row 5 Bh n.j),(902,.row 7 Bm n.g),(903,.row 3 Dq n.x),(904,.non),(1904,.row 6 Ax ds),(905,.row 4 Bp n.ab),(906,.row 4 B6 n.y),(907,.row 5 D5 n.ag),(908,.row 5 Dx n.r)]
def Wo(n:Ai)(j:n.c.length<2147483648)(dev v:Int)(l:¬(0<v/\n.c.any (λd=>d.q==dev&&d.z==v)=false)):Sq 347 [.ptr 900 0,Aa dev,Aa v] (A1p n) (.tup []) (A1p n):=cT F347 ntmps347 λF r=>by
 have i:=Ug n.c (λd=>d.q==dev&&d.z==v) 406 [] [.ref 1 (Aa dev) 0,.ref 1 (Aa v) 0] rfl (λd _=>⟨⟨_,_,F406⟩,Ac9 dev v d⟩) j;rw[Mr]at i;generalize n.c.any (λd=>d.q==dev&&d.z==v)=o at *;by_cases g:0<v
 .have p:decide (v>0)=true:=zL g;cases o with
  |true=>
   refine T ?_;refine Bi 4 1 (Aa dev) q_ q_ q_ ?_;refine Bi 5 1 (Aa v) q_ q_ q_ (X (Ms [904] q_ F405 i (.cons (.row q_ q_) (.cons (.refl _) .nil)) q_ q_) ?_);exact Bf q_ .nil [] (A1p n) (λ_ h=>h) q_ q_ U
  |false=>exact zW ⟨g,rfl⟩ l
 .have p:decide (v>0)=false:=zJ g;refine T ?_;exact Bf q_ .nil [] (A1p n) (λ_ h=>h) q_ q_ U
def Uv(n:Ai)(j:n.c.length<2147483648)(dev v:Int)(g:0<v/\n.c.any (λd=>d.q==dev&&d.z==v)=false):Sq 347 [.ptr 900 0,Aa dev,Aa v] (A1p n) (.tup []) (Bgy n (n.c++[(⟨dev,v,0,-1,0,[]⟩:A0)])):=cT F347 ntmps347 λF o=>by
 have i:=Ug n.c (λd=>d.q==dev&&d.z==v) 406 [] [.ref 1 (Aa dev) 0,.ref 1 (Aa v) 0] rfl (λd _=>⟨⟨_,_,F406⟩,Ac9 dev v d⟩) j;rw[Mr,g.2]at i;have p:decide (v>0)=true:=zL g.1;refine T ?_;refine Bi 4 1 (Aa dev) q_ q_ q_ ?_;refine Bi 5 1 (Aa v) q_ q_ q_ (X (Ms [904] q_ F405 i (.cons (.row q_ q_) (.cons (.refl _) .nil)) q_ q_) ?_);refine T ?_;refine Xd (Amg Γ.toTy 28 27 (⟨dev,v,0,-1,0,[]⟩:A0) q_ q_ q_ q_ q_ (.row q_) q_ q_ (λM w u l=>A7u (⟨dev,v,0,-1,0,[]⟩:A0) q_ l) qq j_ j_) ?_;refine T ?_;exact Bf q_ .nil [(1904,28)] (Bgy n (n.c++[(⟨dev,v,0,-1,0,[]⟩:A0)])) (λ_ h=>h) q_ q_ U
def Ae8{dev v:Int}{ds:List A0}(h:¬(0<v/\ds.any (λd=>d.q==dev&&d.z==v)=false)):D0 dev ds v=ds:=by rw[D0,zD h]
def Aa0{dev v:Int}{ds:List A0}(h:0<v/\ds.any (λd=>d.q==dev&&d.z==v)=false):D0 dev ds v=ds++[(⟨dev,v,0,-1,0,[]⟩:A0)]:=by rw[D0,zE h]
def Ads(dev:Int):∀(l:List Int) (ds:List A0),(By dev ds l).length<=ds.length+l.length
 |[],ds=>by simp[By]
 |v::l,ds=>by
  have g:=Ads dev l (D0 dev ds v);have i:(D0 dev ds v).length<=ds.length+1:=by
   unfold D0;split<;>simp
  have e:By dev ds (v::l)=By dev (D0 dev ds v) l:=rfl;rw[e,yI];omega
def Adr(dev:Int)(ds:List A0)(l:List Int)(v:Int):By dev ds (l++[v])=D0 dev (By dev ds l) v:=by
 unfold By;rw[xS];rfl
end Go.Sy.Zaa
