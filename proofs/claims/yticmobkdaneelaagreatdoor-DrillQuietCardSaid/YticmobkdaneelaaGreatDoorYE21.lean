/- Parts of a proof. -/
import Derived.Test.YticmobkdaneelaaGreatDoorYE14
set_option linter.all false
set_option linter.unusedVariables false
set_option linter.unusedSimpArgs false
set_option linter.deprecated false
namespace Go.Sy.YticmobkdaneelaaGreatDoor
open Go.Proofs Go.Proofs.Tryz
attribute [local irreducible] Go.Sy.G Go.Sy.DR
set_option maxRecDepth 20000
set_option maxHeartbeats 4000000
def L8(n:Net)(i:Int):Bool:=decide (0≤i)&&decide (i<n.ports.length)&&decide ((nth n.ports i).link<0)
def Amd(n:Net)(i:Int):Sp 36 [Am n,Aa i] (Ab (L8 n i)):=cT F36 ntmps36 λF hF=>by
 refine fW ?_;constructor<;>intro h
 ·have h1:0≤i:=zK h;refine Bf 2 8 (Am n) E E E ?_;refine fU ?_;constructor<;>intro h
  ·have h2:i<n.ports.length:=zK h;have hk:i.toNat<n.ports.length:=by omega
   rw[L8,Ai hk,zO h1,zO h2,yF,yF];obtain ⟨p,hp⟩:∃p,n.ports[i.toNat]'hk=p:=⟨_,rfl⟩
   rw[hp];refine fU ?_;refine⟨E,h1,hk,?_⟩;rw[hp];refine fW ?_;exact dN
  ·have h2:¬i<n.ports.length:=zQ h;rw[L8,zL h2,wR,yE];exact gC
 ·have h1:¬0≤i:=zQ h;rw[L8,zL h1,yE,yE];exact gC
structure Fnd where
 (domain kind:Int) (hop:Hop) (ahead:Int)
abbrev Xe(f:Fnd):SV:=.agg [Aa f.domain,Aa f.kind,Aa f.hop.kind,Aa f.hop.port,Aa f.hop.domain,Bb f.hop.addr,Aa f.ahead]
instance:Inhabited Fnd:=⟨⟨0,0,default,0⟩⟩
structure Srch where
 (m0 m1:List Bool) (list:List Fnd)
abbrev stSV(d k:Int):SV:=.agg [Aa d,Aa k]
abbrev Ab0(n:Net)(S:Srch):Obs:=[(0,.box [.sl 5 Ax n.devices,.sl 7 A4 n.ports,.sl 3 Bz n.links,.sl 6 As n.domains,.sl 4 A0 n.statics,.sl 4 Ba n.floods,.sl 5 Ca n.vrfs,.sl 5 B4 n.irbs,.osl 1,.osl 2,.osl 3]),
 (1,.row 1 Ab S.m0),(2,.row 1 Ab S.m1),(3,.row 7 Xe S.list)]
abbrev Yw(n:Net)(S:Srch):Obs:=[(0,.box [.sl 5 Ax n.devices,.sl 7 A4 n.ports,.sl 3 Bz n.links,.sl 6 As n.domains,.sl 4 A0 n.statics,.sl 4 Ba n.floods,.sl 5 Ca n.vrfs,.sl 5 B4 n.irbs,.osl 1,.osl 2,.osl 4]),
 (1,.row 1 Ab S.m0),(2,.row 1 Ab S.m1),(3,.non),(4,.row 7 Xe S.list)]
def Sx(S:Srch)(d k:Int):Bool:=if k=0 then nth S.m0 d else nth S.m1 d
def Oo(S:Srch)(d k:Int)(h:Hop)(ahead:Int):Srch :=
 if k=0 then ⟨S.m0.set d.toNat true,S.m1,S.list++[⟨d,k,h,ahead⟩]⟩ else ⟨S.m0,S.m1.set d.toNat true,S.list++[⟨d,k,h,ahead⟩]⟩
def meetT(S:Srch)(d k:Int)(h:Hop)(ahead:Int):Srch:=if Sx S d k=true then S else Oo S d k h ahead
def A2c(n:Net)(S:Srch)(d:Int)(h:Hop)(ahead:Int)(hd:0≤d∧d.toNat<S.m0.length)(hl:An S.list):Sq 103 [.ptr 0 0,stSV d 0,Ek h,Aa ahead] (Ab0 n S) (.tup []) (Yw n (meetT S d 0 h ahead)):=cT F103 ntmps103 λF hF=>by
 unfold An at hl;have ak:=meetT.eq_1 S d 0 h ahead;rw[Sx,zG rfl,Ai hd.2,show Oo S d 0 h ahead=⟨S.m0.set d.toNat true,S.m1,S.list++[⟨d,0,h,ahead⟩]⟩ from zG rfl]at ak;generalize meetT S d 0 h ahead=res at *;refine fW ?_;refine⟨by decide,by decide,?_⟩;refine fW ?_;refine⟨hd.1,hd.2,?_⟩;refine fW ?_;refine⟨E,hd.2,?_⟩;refine fW ?_;refine⟨z_,?_⟩;refine fW ?_;constructor<;>intro h1
 rotate_left
 ·rw[zG (by simpa using h1)]at ak;subst ak;refine Vq 3 1000 E E j_ ?_;refine fU ?_;exact A6 E .nil [(4,1000)] (Yw n res) (λ_ h=>h) E E kU
 rw[zD (by simpa using h1)]at ak;subst ak;refine fU ?_;refine⟨by decide,by decide,?_⟩;refine fW ?_;refine⟨hd.1,hd.2,?_⟩;refine fW ?_;refine⟨E,hd.2,true,E,E,?_⟩;refine fW ?_;refine⟨z_,?_⟩;refine fW ?_;refine Bw (Ag Γ.toTy 40 E E E E E (.row E) (.lit (e:=Xe) (l:=[⟨d,0,h,ahead⟩]) E E) y_ (by simp;omega) (by simp;omega)) z_ E ?_;refine fU ?_;refine⟨z_,?_⟩;refine fW ?_;exact A6 E .nil [(4,40)] (Yw n ⟨S.m0.set d.toNat true,S.m1,S.list++[⟨d,0,h,ahead⟩]⟩) (λ_ h=>h) E E kU
def A2b(n:Net)(S:Srch)(d:Int)(h:Hop)(ahead:Int)(hd:0≤d∧d.toNat<S.m1.length)(hl:An S.list):Sq 103 [.ptr 0 0,stSV d 1,Ek h,Aa ahead] (Ab0 n S) (.tup []) (Yw n (meetT S d 1 h ahead)):=cT F103 ntmps103 λF hF=>by
 unfold An at hl;have ak:=meetT.eq_1 S d 1 h ahead;rw[show Sx S d 1=nth S.m1 d from zD j_,Ai hd.2,show Oo S d 1 h ahead=⟨S.m0,S.m1.set d.toNat true,S.list++[⟨d,1,h,ahead⟩]⟩ from zD j_]at ak;generalize meetT S d 1 h ahead=res at *;refine fW ?_;refine⟨by decide,by decide,?_⟩;refine fW ?_;refine⟨hd.1,hd.2,?_⟩;refine fW ?_;refine⟨E,hd.2,?_⟩;refine fW ?_;refine⟨z_,?_⟩;refine fW ?_;constructor<;>intro h1
 rotate_left
 ·rw[zG (by simpa using h1)]at ak;subst ak;refine Vq 3 1000 E E j_ ?_;refine fU ?_;exact A6 E .nil [(4,1000)] (Yw n res) (λ_ h=>h) E E kU
 rw[zD (by simpa using h1)]at ak;subst ak;refine fU ?_;refine⟨by decide,by decide,?_⟩;refine fW ?_;refine⟨hd.1,hd.2,?_⟩;refine fW ?_;refine⟨E,hd.2,true,E,E,?_⟩;refine fW ?_;refine⟨z_,?_⟩;refine fW ?_;refine Bw (Ag Γ.toTy 40 E E E E E (.row E) (.lit (e:=Xe) (l:=[⟨d,1,h,ahead⟩]) E E) y_ (by simp;omega) (by simp;omega)) z_ E ?_;refine fU ?_;refine⟨z_,?_⟩;refine fW ?_;exact A6 E .nil [(4,40)] (Yw n ⟨S.m0,S.m1.set d.toNat true,S.list++[⟨d,1,h,ahead⟩]⟩) (λ_ h=>h) E E kU
structure Srch.OK(n:Net)(S:Srch):Prop where
 l0:S.m0.length=n.domains.length
 l1:S.m1.length=n.domains.length
 at_:∀f∈S.list,(0≤f.domain∧f.domain.toNat<n.domains.length)∧(f.kind=0∨f.kind=1)
 len:S.list.length≤S.m0.count true+S.m1.count true
theorem Srch.OK.le{n:Net}{S:Srch}(h:S.OK n):S.list.length≤2*n.domains.length:=by
 have h1:S.m0.count true≤S.m0.length:=List.count_le_length;have h2:S.m1.count true≤S.m1.length:=List.count_le_length;have:=h.len;rw[h.l0]at h1;rw[h.l1]at h2;omega
def count_set{l:List Bool}{i:Nat}(h:i<l.length)(hi:l[i]=false):(l.set i true).count true=l.count true+1:=by
 rw[List.count_set h,hi];simp
theorem Srch.OK.meet{n:Net}{S:Srch}(h:S.OK n){d k:Int}(hd:0≤d∧d.toNat<n.domains.length)(hk:k=0∨k=1)(hp:Hop)(a:Int):(meetT S d k hp a).OK n:=by
 rw[meetT];split
 ·exact h
 rename_i vx;have h0:d.toNat<S.m0.length:=by rw[h.l0];exact hd.2
 have h1:d.toNat<S.m1.length:=by rw[h.l1];exact hd.2
 rcases hk with rfl|rfl
 ·rw[Sx,zG rfl,Ai h0]at vx;rw[Oo,zG rfl];refine⟨by simp[h.l0],h.l1,λf hf=>?_,?_⟩
  ·rcases yI.1 hf with hf|hf
   ·exact h.at_ f hf
   ·rw[yB]at hf;subst hf;exact⟨hd,.inl E⟩
  ·rw[count_set h0 (by simpa using vx),zW,yC];have:=h.len;show _≤_+S.m1.count true;omega
 ·rw[Sx,zD j_,Ai h1]at vx;rw[Oo,zD j_];refine⟨h.l0,by simp[h.l1],λf hf=>?_,?_⟩
  ·rcases yI.1 hf with hf|hf
   ·exact h.at_ f hf
   ·rw[yB]at hf;subst hf;exact⟨hd,.inr E⟩
  ·rw[count_set h1 (by simpa using vx),zW,yC];have:=h.len;show _≤S.m0.count true+_;omega
def Z0{n:Net}(h:Ac n=true){i:Nat}(hi:i<n.ports.length){v:Int}(hv:Dl n.ports[i] v=true):0≤C2 n n.ports[i].dev v∧(C2 n n.ports[i].dev v).toNat<n.domains.length:=by
 have hp:=A3o h hi;simp only[Jd,zE,yU]at hp;simp only[Dl,zE,xG,yM,yJ]at hv;have h0:0≤C2 n n.ports[i].dev v:=by
  rcases hv.2 with h1|h1
  ·have h2:=hp.1.2;have h3:=hp.1.1.1.1.1.1.1.2;rw[h1]at hv⊢;have h4:decide (0<n.ports[i].native)=true:=by
    simp only[zJ]at h3⊢;omega
   rw[h4]at h2;simpa [Eh] using h2
  ·have h2:=hp.1.1.2;obtain ⟨x,hx,e⟩:=wK.1 h1;obtain ⟨j,hj,rfl⟩:=yY.1 hx;have h3:=allB_iff.1 h2 j hj;simp only[yJ]at e;rw[e]at h3;simpa [Eh] using h3
 refine⟨h0,?_⟩;have:=Iy (λd:Domain=>d.dev==n.ports[i].dev&&d.vlan==v) n.domains;have e:C2 n n.ports[i].dev v=Bv (λd:Domain=>d.dev==n.ports[i].dev&&d.vlan==v) n.domains:=rfl;omega
def U0{n:Net}{i v:Int}(h:(linkDomT n i v).2=true):0≤(linkDomT n i v).1∧(linkDomT n i v).1.toNat<n.domains.length:=by
 unfold linkDomT at h⊢;split at h
 ·rename_i hc;rw[zG hc];have kv:=Z5 hc;unfold crossT at hc kv⊢;split at hc
  ·rename_i h1;rw[zG h1]at kv⊢;have hb:=(Mj h1.1).2.1;have h2:=h1.2.2;rw[Oy]at h2⊢;rw[C1,zG hb];dsimp only at kv⊢;rw[Ai kv.2]at h2⊢;refine Z0 hb kv.2 ?_;simp only[Dl,zE,xG,yM,yJ];refine⟨h2,?_⟩;split
   ·exact .inl E
   ·rename_i h3;rw[zD h3]at h2;split
    ·rename_i h4;exact .inr h4
    ·rename_i h4;rw[zD h4]at h2;exact zY E h2
  ·cases hc
 ·cases h
def Atz{n:Net}(h:Ac n=true){i:Nat}(hi:i<n.domains.length){p:Int}(hp:p∈n.domains[i].peers):0≤p∧p.toNat<n.domains.length:=by
 simp only[Ac,zE]at h;have h1:=allB_iff.1 h.1.1.1.1.1.1.2 i hi;obtain ⟨j,hj,rfl⟩:=yY.1 hp;have h2:=allB_iff.1 h1 j hj;simp only[Qq,Ah,zE,zJ]at h2;omega
def Q0{n:Net}{d:Int}{h:Hop}(hh:h∈Eo n d):0≤h.domain∧h.domain.toNat<n.domains.length:=by
 rw[Eo]at hh;split at hh
 ·rename_i hd;have hk:d.toNat<n.domains.length:=by have:=hd.1;omega
  rw[hopsL,Ai hk]at hh;rcases yI.1 hh with hh|hh
  ·obtain ⟨p,_,hp⟩:=vE.1 hh;rw[linkHop]at hp;split at hp
   ·rename_i hl;simp only[Option.some.injEq]at hp;subst hp;exact U0 hl
   ·cases hp
  ·obtain ⟨p,hp,rfl⟩:=yS.1 hh;exact Atz hd.2 hk hp
 ·cases hh
def Sh{n:Net}{d:Int}{q:Lead}(hq:q∈routesT n d):0≤q.domain∧q.domain.toNat<n.domains.length:=by
 rw[routesT]at hq;split at hq
 ·rename_i hc;obtain ⟨i,hi,hp⟩:=vE.1 hq;rw[leadF]at hp;split at hp
  ·simp only[Option.some.injEq]at hp;subst hp;have hi':(i:Int).toNat<n.irbs.length:=by simpa using hi
   show 0≤(nth n.irbs i).domain∧_;rw[Ai hi'];exact(Da hc.2.2 hi').1
  ·cases hp
 ·cases hq
set_option maxHeartbeats 8000000
def ext1(S:Srch)(k i:Int)(l:List Hop):Srch:=l.foldl (λS h=>meetT S h.domain k h i) S
def ext2(S:Srch)(i:Int)(l:List Lead):Srch:=l.foldl (λS q=>meetT S q.domain 1 ⟨3,0,q.domain,q.addr⟩ i) S
def extT(n:Net)(S:Srch)(i:Int):Srch :=
 if (nth S.list i).kind=0 then ext2 (ext1 S 0 i (Eo n (nth S.list i).domain)) i (routesT n (nth S.list i).domain) else ext1 S 1 i (Eo n (nth S.list i).domain)
def Ay2(S:Srch)(k i:Int){l:List Hop}{j:Nat}{h:Hop}(hj:j<l.length)(hh:l[j]=h):ext1 S k i (l.take (j+1))=meetT (ext1 S k i (l.take j)) h.domain k h i:=by
 subst hh;rw[ext1,vJ,zT hj,xO];rfl
def Ay1(S:Srch)(i:Int){l:List Lead}{j:Nat}{q:Lead}(hj:j<l.length)(hh:l[j]=q):ext2 S i (l.take (j+1))=meetT (ext2 S i (l.take j)) q.domain 1 ⟨3,0,q.domain,q.addr⟩ i:=by
 subst hh;rw[ext2,vJ,zT hj,xO];rfl
theorem Srch.OK.ext1{n:Net}{k i:Int}(hk:k=0∨k=1):∀{l:List Hop} {S:Srch},S.OK n→(∀h∈l,0≤h.domain∧h.domain.toNat<n.domains.length)→(ext1 S k i l).OK n
 |[],S,h,_=>h
 |x::l,S,h,hl=>Srch.OK.ext1 hk (l:=l) (h.meet (hl x y_) hk x i) (λy hy=>hl y (by simp[hy]))
theorem Srch.OK.ext2{n:Net}{i:Int}:∀{l:List Lead} {S:Srch},S.OK n→(∀h∈l,0≤h.domain∧h.domain.toNat<n.domains.length)→(ext2 S i l).OK n
 |[],S,h,_=>h
 |x::l,S,h,hl=>Srch.OK.ext2 (l:=l) (h.meet (hl x y_) (.inr rfl) _ i) (λy hy=>hl y (by simp[hy]))
theorem Srch.OK.ext{n:Net}{S:Srch}(h:S.OK n)(i:Int):(extT n S i).OK n:=by
 rw[extT];split
 ·exact(h.ext1 (.inl E) (λx hx=>Q0 hx)).ext2 (λx hx=>Sh hx)
 ·exact h.ext1 (.inr E) (λx hx=>Q0 hx)
def Apa{n:Net}(hn:n.Fin)(d:Int):(Eo n d).length<4294967296:=by
 have h1:=Kh n hn d;unfold An at h1;rw[Eo];split
 ·rename_i hd;have hk:d.toNat<n.domains.length:=by have:=hd.1;omega
  have h2:=hn.peers _ (zI hk);unfold An at h2;have h3:=tB (linkHop n d) (Bn n d);rw[hopsL,Ai hk,zW,xF];omega
 ·decide
def Ag6{n:Net}(hn:n.Fin)(d:Int):(routesT n d).length<4294967296:=by
 have h1:=hn.irbs;unfold An at h1;rw[routesT];split
 ·have:=W7 n (nth n.domains d).irb n.irbs.length;omega
 ·decide
abbrev A0m(n:Net)(S:Srch)(d k:Int):Obs:=[(0,.box [.sl 5 Ax n.devices,.sl 7 A4 n.ports,.sl 3 Bz n.links,.sl 6 As n.domains,.sl 4 A0 n.statics,.sl 4 Ba n.floods,.sl 5 Ca n.vrfs,.sl 5 B4 n.irbs,.osl 1,.osl 2,.osl 1000]),
 (1,.row 1 Ab S.m0),(2,.row 1 Ab S.m1),(3,.non),(1000,.row 7 Xe S.list),(4,.box [Aa d,Aa k])]
def A54(n:Net)(hn:n.Fin)(hu:Dr n)(hD:n.domains.length<1000000)(S:Srch)(hS:S.OK n)(i:Int)(hi:0≤i∧i.toNat<S.list.length):Sq 41 [.ptr 0 0,Aa i] (Ab0 n S) (.tup []) (Yw n (extT n S i)):=cT F41 ntmps41 λF hF=>by
 have ak:=extT.eq_1 n S i;rw[Ai hi.2]at ak;generalize extT n S i=res at *;have uc:=(hS.at_ _ (zI hi.2)).2;obtain ⟨f,hf⟩:∃f,S.list[i.toNat]'hi.2=f:=⟨_,rfl⟩
 rw[hf]at ak uc;obtain ⟨d,k,hp,ah⟩:=f;dsimp only at ak uc;have q1:=Ar4 n hn d;have q2:=Ah7 n hn hu d;have r7:=λh=>Q0 (n:=n) (d:=d) (h:=h)
 have ud:=λh=>Sh (n:=n) (d:=d) (q:=h)
 have xn:=Apa hn d;have ly:=Ag6 hn d;generalize Eo n d=hops at *;generalize routesT n d=leads at *;have vy:∀k,k=0∨k=1→∀j,(ext1 S k i (hops.take j)).OK n:=λk hk j=>hS.ext1 hk (λx hx=>r7 x (wQ hx))
 have r8:∀j,(ext2 (ext1 S 0 i hops) i (leads.take j)).OK n:=λj=>Srch.OK.ext2 (hS.ext1 (.inl rfl) (λx hx=>r7 x hx)) (λx hx=>ud x (wQ hx))
 have af:=λk j h hj hh=>Ay2 S k i (l:=hops) (j:=j) (h:=h) hj hh
 have lh:=λj h hj hh=>Ay1 (ext1 S 0 i hops) i (l:=leads) (j:=j) (q:=h) hj hh
 refine fW ?_;refine⟨hi.1,hi.2,?_⟩;refine fW ?_;refine⟨by intro e;rw[e]at hi;simp at hi,?_⟩;refine fW ?_;refine⟨E,hi.2,?_⟩;rw[hf];refine fW ?_;rcases uc with rfl|rfl
 ·rw[zG rfl]at ak;have vy:=vy 0 j_;have af:=af 0;refine fU ?_;refine cD q1 F108 ?_;refine fU ?_;refine⟨z_,?_⟩;refine fW ?_;refine Vq 3 1000 E E j_ ?_;refine A5 hops.length (λj=>[(0,.ptr 0 0),(1,Aa i),(4,.ptr 4 0),(23,.sl 4 Ek hops),(24,Aa hops.length),(25,Aa j)]) (λj=>A0m n (ext1 S 0 i (hops.take j)) d 0) []
   kU ?_
  intro j hj;have pc:=vy j;have lej:=pc.le;have l0:=pc.l0;have ue:=af j;generalize te:ext1 S 0 i (hops.take j)=Sj at *;refine fU ?_;constructor<;>intro h
  ·have ab:j<hops.length:=by simpa using h
   have ai:(j:Int).toNat<hops.length:=by simpa using ab
   obtain ⟨hp,pf⟩:∃hp,hops[(j:Int).toNat]'ai=hp:=⟨_,rfl⟩
   have l7:=r7 hp (by rw[←pf];exact zI _);have sc:=ue hp ab pf;have q3:=A2c n Sj hp.domain hp i (by rw[l0];exact l7) (by unfold An;omega);rw[←sc]at q3;refine fU ?_;refine⟨E,by omega,ai,?_⟩;rw[pf];refine fW ?_;refine Af (Ad [(0,0),(1,1),(2,2),(3,1000),(4,1001)] E F103 q3 E ⟨E,E,E,E,Y⟩ E ⟨.inl E,.inl E,.inl E,.inl E,.inr E,Y⟩) E E ?_;refine gG ?_;exact Ay [(1000,1001)] ab kU
  ·have:j=hops.length:=qB h;subst this;rw[yN]at te;simp only[te]at ak r8 lh;refine fU ?_;refine cD q2 F109 ?_;refine fU ?_;refine⟨z_,?_⟩;refine fW ?_;refine A5 leads.length (λj=>[(0,.ptr 0 0),(1,Aa i),(4,.ptr 4 0),(48,.sl 3 M2 leads),(49,Aa leads.length),(50,Aa j)]) (λj=>A0m n (ext2 Sj i (leads.take j)) d 0) []
    kU ?_
   intro j hj;have pc:=r8 j;have lej:=pc.le;have l0:=pc.l1;have ue:=lh j;generalize hSk:ext2 Sj i (leads.take j)=Sk at *;refine fU ?_;constructor<;>intro h
   ·have ab:j<leads.length:=by simpa using h
    have ai:(j:Int).toNat<leads.length:=by simpa using ab
    obtain ⟨hp,pf⟩:∃hp,leads[(j:Int).toNat]'ai=hp:=⟨_,rfl⟩
    have l7:=ud hp (by rw[←pf];exact zI _);have sc:=ue hp ab pf;have q3:=A2b n Sk hp.domain ⟨3,0,hp.domain,hp.addr⟩ i (by rw[l0];exact l7) (by unfold An;omega);rw[←sc]at q3;refine fU ?_;refine⟨E,by omega,ai,?_⟩;rw[pf];refine fW ?_;refine Af (Ad [(0,0),(1,1),(2,2),(3,1000),(4,1001)] E F103 q3 E ⟨E,E,E,E,Y⟩ E ⟨.inl E,.inl E,.inl E,.inl E,.inr E,Y⟩) E E ?_;refine gG ?_;exact Ay [(1000,1001)] ab kU
   ·have:j=leads.length:=qB h;subst this;rw[yN]at hSk;rw[hSk]at ak;subst ak;refine fU ?_;exact A6 E .nil [(4,1000)] (Yw n _) (λ_ h=>h) E E kU
 ·rw[zD j_]at ak;clear r8 lh q2 ly ud;have vy:=vy 1 j_;have af:=af 1;refine fU ?_;refine cD q1 F108 ?_;refine fU ?_;refine⟨z_,?_⟩;refine fW ?_;refine Vq 3 1000 E E j_ ?_;refine A5 hops.length (λj=>[(0,.ptr 0 0),(1,Aa i),(4,.ptr 4 0),(23,.sl 4 Ek hops),(24,Aa hops.length),(25,Aa j)]) (λj=>A0m n (ext1 S 1 i (hops.take j)) d 1) []
   kU ?_
  intro j hj;have pc:=vy j;have lej:=pc.le;have l0:=pc.l1;have ue:=af j;generalize te:ext1 S 1 i (hops.take j)=Sj at *;refine fU ?_;constructor<;>intro h
  ·have ab:j<hops.length:=by simpa using h
   have ai:(j:Int).toNat<hops.length:=by simpa using ab
   obtain ⟨hp,pf⟩:∃hp,hops[(j:Int).toNat]'ai=hp:=⟨_,rfl⟩
   have l7:=r7 hp (by rw[←pf];exact zI _);have sc:=ue hp ab pf;have q3:=A2b n Sj hp.domain hp i (by rw[l0];exact l7) (by unfold An;omega);rw[←sc]at q3;refine fU ?_;refine⟨E,by omega,ai,?_⟩;rw[pf];refine fW ?_;refine Af (Ad [(0,0),(1,1),(2,2),(3,1000),(4,1001)] E F103 q3 E ⟨E,E,E,E,Y⟩ E ⟨.inl E,.inl E,.inl E,.inl E,.inr E,Y⟩) E E ?_;refine gG ?_;exact Ay [(1000,1001)] ab kU
  ·have:j=hops.length:=qB h;subst this;rw[yN]at te;rw[te]at ak;subst ak;refine fU ?_;exact A6 E .nil [(4,1000)] (Yw n _) (λ_ h=>h) E E kU
def Oc(n:Net)(dev:Int)(S:Srch)(v:Int):Srch:=if v=0 then S else meetT S (C1 n dev v) 0 ⟨0,0,C1 n dev v,0⟩ (-1)
def Ln(n:Net):Srch:=⟨List.replicate n.domains.length false,List.replicate n.domains.length false,[]⟩
def Th(n:Net)(dev:Int)(l:List Int):Srch:=l.foldl (Oc n dev) (Ln n)
def beginT(n:Net)(port:Int):Srch:=Th n (nth n.ports port).dev ((nth n.ports port).native::(nth n.ports port).tagged)
def Aqj(n:Net)(dev:Int){l:List Int}{j:Nat}{v:Int}(hj:j<l.length)(hh:l[j]=v):Th n dev (l.take (j+1))=Oc n dev (Th n dev (l.take j)) v:=by
 subst hh;rw[Th,vJ,zT hj,xO];rfl
def Amx(n:Net):(Ln n).OK n:=⟨by simp[Ln],by simp[Ln],λf hf=>by simp[Ln]at hf,by simp[Ln]⟩
def Aj1{n:Net}{dev:Int}{l:List Int}(h:∀v∈l,v≠0→0≤C1 n dev v∧(C1 n dev v).toNat<n.domains.length):(Th n dev l).OK n:=by
 suffices hs:∀(l:List Int) (S:Srch),S.OK n→(∀v∈l,v≠0→0≤C1 n dev v∧(C1 n dev v).toNat<n.domains.length)→(l.foldl (Oc n dev) S).OK n from hs l _ (Amx n) h
 intro l
 induction l with
 |nil=>exact λS h _=>h
 |cons x l ih=>
  intro S hS hl;refine ih _ ?_ (λv hv=>hl v (by simp[hv]));rw[Oc];split
  ·exact hS
  ·rename_i hx;exact hS.meet (hl x y_ hx) (.inl E) _ _
def Ve{n:Net}(hb:Ac n=true){i:Nat}(hi:i<n.ports.length){v:Int}(hv:v∈n.ports[i].native::n.ports[i].tagged)(h0:v≠0):0≤C1 n n.ports[i].dev v∧(C1 n n.ports[i].dev v).toNat<n.domains.length:=by
 rw[C1,zG hb];refine Z0 hb hi ?_;simp only[Dl,zE,xG,yM,yJ];refine⟨h0,?_⟩;rcases yH.1 hv with h|h
 ·exact .inl h
 ·exact .inr (wK.2 ⟨v,h,by simp⟩)
abbrev Aek(n:Net)(a b c:SV):Ob:=.box [.sl 5 Ax n.devices,.sl 7 A4 n.ports,.sl 3 Bz n.links,.sl 6 As n.domains,.sl 4 A0 n.statics,.sl 4 Ba n.floods,.sl 5 Ca n.vrfs,.sl 5 B4 n.irbs,a,b,c]
abbrev Zf:SV:=.val (.slice none 0 0)
def madeO(n:Net):Nat→Obs
 |0=>[(0,Aek n Zf Zf Zf)]
 |1=>[(0,Aek n (.osl 1001) Zf Zf),(1001,.row 1 Ab (List.replicate n.domains.length false))]
 |_=>[(0,Aek n (.osl 1001) (.osl 1002) Zf),(1001,.row 1 Ab (List.replicate n.domains.length false)),(1002,.row 1 Ab (List.replicate n.domains.length false))]
abbrev srchB(n:Net)(S:Srch)(vs:List Int):Obs:=[(0,Aek n (.osl 1001) (.osl 1002) (.osl 1003)),(1001,.row 1 Ab S.m0),(1002,.row 1 Ab S.m1),(1003,.row 7 Xe S.list),(38,.row 1 Aa vs)]
def beginS(n:Net)(hn:n.Fin)(hb:Ac n=true)(hD:n.domains.length<1000000)(port:Int)(hp:0≤port∧port.toNat<n.ports.length):Sq 37 [.ptr 0 0,Aa port] [(0,Aek n Zf Zf Zf)] (.tup []) (Ab0 n (beginT n port)):=cT F37 ntmps37 λF hF=>by
 have ak:=beginT.eq_1 n port;rw[Ai hp.2]at ak;generalize beginT n port=res at *;have az:=λv hv h0=>Ve hb hp.2 (v:=v) hv h0
 have zb:=hn.tagged _ (zI hp.2);unfold An at zb;obtain ⟨p,j0⟩:∃p,n.ports[port.toNat]'hp.2=p:=⟨_,rfl⟩
 rw[j0]at ak az zb;have ar:∀j,(Th n p.dev ((p.native::p.tagged).take j)).OK n:=λj=>Aj1 λv hv h0=>az v (wQ hv) h0
 have zc:=λj v hj hh=>Aqj n p.dev (l:=p.native::p.tagged) (j:=j) (v:=v) hj hh
 have hd:=λv=>Kd n hn p.dev v
 refine fW ?_;refine⟨E,hp.1,hp.2,?_⟩;rw[j0];refine fW ?_;refine Bf 4 7 (A4 p) E E E ?_;refine A9 2 (λ_=>True) (λj=>[(0,.ptr 0 0),(4,.ref 7 (A4 p) 0),(17,Aa j)]) (λj=>madeO n j) [] Y kU ?_;intro j hj _;refine fU ?_;constructor<;>intro h
 ·have ab:j<2:=qA h;have hj01:j=0∨j=1:=by omega
  rcases hj01 with rfl|rfl
  ·refine fU ?_;refine Bw (Ce Γ.toTy (d:=28) (n:=n.domains.length) Ab false E E E E E E E E q_ q_ E E E) z_ E ?_;refine fU ?_;refine⟨by decide,by decide,?_⟩;refine fW ?_;refine⟨z_,?_⟩;refine fW ?_;refine⟨by unfold I64;decide,?_⟩;refine fW ?_;exact A8 [(1001,28)] Y j_ Y kU
  ·refine fU ?_;refine Bw (Ce Γ.toTy (d:=28) (n:=n.domains.length) Ab false E E E E E E E E q_ q_ E E E) z_ E ?_;refine fU ?_;refine⟨by decide,by decide,?_⟩;refine fW ?_;refine⟨z_,?_⟩;refine fW ?_;refine⟨by unfold I64;decide,?_⟩;refine fW ?_;exact A8 [(1002,28)] Y j_ Y kU
 ·have:j=2:=qB h;subst this;refine fU ?_;refine Af (Ag Γ.toTy 38 E E E E E (.lit (e:=Aa) (l:=[p.native]) E E) .sl j_ (by simp;omega) (by simp;omega)) E E ?_;refine Q9 0 10 1003 7 Xe E E E E ?_;refine fU ?_;generalize jv:p.native::p.tagged=vs at *;have iu:vs.length=p.tagged.length+1:=by rw[←jv];rfl
  refine A5 vs.length (λj=>[(0,.ptr 0 0),(4,.ref 7 (A4 p) 0),(38,.osl 38),(39,Aa vs.length),(40,Aa j)]) (λj=>srchB n (Th n p.dev (vs.take j)) vs) []
   ⟨⟨rfl,rfl,rfl,rfl,rfl,rfl,zH Aa (by rw[iu];rfl),rfl,rfl,rfl,trivial⟩,⟨.inl rfl,rfl,.inl rfl,rfl,.inl rfl,rfl,.inl rfl,rfl,.inl (zH (Ob.row 1 Aa) jv.symm),rfl,trivial⟩,rfl,rfl⟩ ?_
  intro j hj;have pc:=ar j;have lej:=pc.le;have l0:=pc.l0;have ue:=zc j;generalize te:Th n p.dev (vs.take j)=Sj at *;refine fU ?_;constructor<;>intro h
  ·have ab:j<vs.length:=by simpa using h
   have ai:(j:Int).toNat<vs.length:=by simpa using ab
   obtain ⟨v,hv⟩:∃v,vs[(j:Int).toNat]'ai=v:=⟨_,rfl⟩
   have gx:v∈vs:=by rw[←hv];exact zI _
   have sc:=ue v ab hv;rw[Oc]at sc;have hdv:=hd v;have hiv:=az v gx;generalize C1 n p.dev v=dm at *;refine fU ?_;refine⟨by omega,ai,?_⟩;refine fW ?_;refine⟨E,ai,?_⟩;rw[hv];refine fW ?_;constructor<;>intro h
   ·have h0:v≠0:=by simpa using h
    rw[zD h0]at sc;have q3:=A2c n Sj dm ⟨0,0,dm,0⟩ (-1) (by rw[l0];exact hiv h0) (by unfold An;omega);rw[←sc]at q3;refine fU ?_;refine cD hdv F102 ?_;refine fU ?_;refine⟨z_,?_⟩;refine fW ?_;refine Af (Ad [(0,0),(1,1001),(2,1002),(3,1003),(4,1004)] E F103 q3 E ⟨E,E,E,E,Y⟩ E ⟨.inl E,.inl E,.inl E,.inl E,.inr E,Y⟩) E E ?_;refine gG ?_;exact Ay [(1003,1004)] ab kU
   ·have h0:v=0:=by simpa using h
    rw[zG h0]at sc;refine gG ?_;exact Ay [] ab ⟨⟨E,E,E,E,E,E,E,E,E,E,Y⟩,⟨.inl E,E,.inl (zH (λS=>Ob.row 1 Ab (Srch.m0 S)) sc),E,.inl (zH (λS=>Ob.row 1 Ab (Srch.m1 S)) sc),E,.inl (zH (λS=>Ob.row 7 Xe (Srch.list S)) sc),E,.inl E,E,Y⟩,E,E⟩
  ·have:j=vs.length:=qB h;subst this;rw[yN]at te;rw[te]at ak;subst ak;refine fU ?_;exact A6 E .nil [(1,1001),(2,1002),(3,1003)] (Ab0 n _) (λ_ h=>h) E E kU
def Anc(D:List Hop)(hl:D.length<4294967296):Sq 107 [.osl 0] [(0,.row 4 Ek D)] (.tup []) [(0,.row 4 Ek D.reverse)]:=cT F107 ntmps107 λF hF=>by
 refine gI ?_;refine A5 (D.length/2) (λj=>[(0,.osl 0),(2,Aa j),(3,Aa ((D.length:Int)-1-j))]) (λj=>[(0,.row 4 Ek (Tz D j))]) []
  ⟨⟨rfl,rfl,rfl,rfl,zH (λz=>SV.val (.int .i64 z)) q_,rfl,trivial⟩,⟨.inl (zH (Ob.row 4 Ek) (Aax D)),rfl,trivial⟩,rfl,rfl⟩ ?_
 intro i hi;have mq:=Dx D i;refine fU ?_;constructor<;>intro h2
 ·have ab:2*i+1<D.length:=by have:=zK h2;omega
  obtain ⟨u,hu⟩:∃u,Tz D i=u:=⟨_,rfl⟩
  obtain ⟨k,hk⟩:∃k,D.length-1-i=k:=⟨_,rfl⟩
  have dg:(D.length:Int)-1-i=(k:Nat):=by omega
  rw[hu]at mq;have hs:=Aay hu ab hk q_ q_;rw[hu,dg];refine fU ?_;refine⟨by omega,by omega,?_⟩;refine fW ?_;refine⟨E,by omega,?_⟩;refine fW ?_;refine⟨by omega,by omega,?_⟩;refine fW ?_;refine⟨E,by omega,?_⟩;refine fW ?_;refine⟨by omega,by omega,?_⟩;refine fW ?_;refine⟨E,by omega,u[k],E,E,?_⟩;refine fW ?_;refine⟨by omega,by simp;omega,?_⟩;refine fW ?_;refine⟨E,by simp;omega,u[i],E,E,?_⟩;refine fW ?_;refine⟨z_,?_⟩;refine gI ?_;refine iL ?_;refine fW ?_;refine Ay [] q_ ⟨⟨E,E,E,E,zH (λz=>SV.val (.int .i64 z)) q_,E,Y⟩,⟨.inl (zH (Ob.row 4 Ek) hs.symm),E,Y⟩,E,E⟩
 ·have h3:D.length≤2*i+1:=by have:=zQ h2;omega
  rw[Aew D i h3];refine fU ?_;exact A6 E .nil [] [(0,.row 4 Ek D.reverse)] (λ_ h=>h) E E kU
def backC(l:List Fnd)(i:Int):List Hop :=
 if _h:0≤i∧(nth l i).ahead<i then (nth l i).hop::backC l (nth l i).ahead else []
 termination_by (i+1).toNat
 decreasing_by omega
def backT(l:List Fnd)(i:Int):List Hop:=(backC l i).reverse
def Backs(l:List Fnd):Prop:=∀i (h:i<l.length),-1≤l[i].ahead∧l[i].ahead<i
theorem Backs.snoc{l:List Fnd}(h:Backs l){f:Fnd}(hf:-1≤f.ahead∧f.ahead<l.length):Backs (l++[f]):=λi hi=>by
 by_cases hl:i<l.length
 ·rw[yT hl];exact h i hl
 ·have:i=l.length:=by simp at hi;omega
  subst this;simpa using hf
theorem Backs.meet{S:Srch}(h:Backs S.list)(d k:Int)(hp:Hop){a:Int}(ha:-1≤a∧a<S.list.length):Backs (meetT S d k hp a).list∧S.list.length≤(meetT S d k hp a).list.length:=by
 rw[meetT];split
 ·exact⟨h,yG _⟩
 ·rw[Oo];split
  ·exact⟨h.snoc ha,by simp⟩
  ·exact⟨h.snoc ha,by simp⟩
theorem Backs.ext1{k i:Int}:∀{l:List Hop} {S:Srch},Backs S.list→(-1≤i∧i<S.list.length)→Backs (ext1 S k i l).list∧S.list.length≤(ext1 S k i l).list.length
 |[],S,h,_=>⟨h,yG _⟩
 |x::l,S,h,hi=>by
  obtain ⟨h1,h2⟩:=h.meet x.domain k x hi;obtain ⟨h3,h4⟩:=Backs.ext1 (k:=k) (i:=i) (l:=l) h1 ⟨hi.1,by omega⟩;exact⟨h3,wO h2 h4⟩
theorem Backs.ext2{i:Int}:∀{l:List Lead} {S:Srch},Backs S.list→(-1≤i∧i<S.list.length)→Backs (ext2 S i l).list∧S.list.length≤(ext2 S i l).list.length
 |[],S,h,_=>⟨h,yG _⟩
 |x::l,S,h,hi=>by
  obtain ⟨h1,h2⟩:=h.meet x.domain 1 ⟨3,0,x.domain,x.addr⟩ hi;obtain ⟨h3,h4⟩:=Backs.ext2 (i:=i) (l:=l) h1 ⟨hi.1,by omega⟩;exact⟨h3,wO h2 h4⟩
theorem Backs.ext{n:Net}{S:Srch}(h:Backs S.list){i:Int}(hi:0≤i∧i<S.list.length):Backs (extT n S i).list∧S.list.length≤(extT n S i).list.length:=by
 rw[extT];split
 ·obtain ⟨h1,h2⟩:=h.ext1 (k:=0) (i:=i) (l:=Eo n (nth S.list i).domain) ⟨by omega,hi.2⟩;obtain ⟨h3,h4⟩:=h1.ext2 (i:=i) (l:=routesT n (nth S.list i).domain) ⟨by omega,by omega⟩;exact⟨h3,wO h2 h4⟩
 ·exact h.ext1 ⟨by omega,hi.2⟩
def Al7(n:Net)(dev:Int)(l:List Int):Backs (Th n dev l).list:=by
 suffices hs:∀(l:List Int) (S:Srch),Backs S.list→Backs (l.foldl (Oc n dev) S).list from hs l _ (λi h=>by simp[Ln]at h)
 intro l
 induction l with
 |nil=>exact λS h=>h
 |cons x l ih=>
  intro S hS;refine ih _ ?_;rw[Oc];split
  ·exact hS
  ·exact(hS.meet _ _ _ ⟨by omega,by omega⟩).1
abbrev srchA(n:Net)(S:Srch)(l:List Hop):Obs:=[(0,Aek n (.osl 1) (.osl 2) (.osl 3)),(1,.row 1 Ab S.m0),(2,.row 1 Ab S.m1),(3,.row 7 Xe S.list),(1000,.row 4 Ek l)]
def backS(n:Net)(S:Srch)(hB:Backs S.list)(hl:S.list.length<4000000)(i:Int)(hi:-1≤i∧i<S.list.length):Sq 40 [.ptr 0 0,Aa i] (Ab0 n S) (.sl 4 Ek (backT S.list i)) (Ab0 n S):=cT F40 ntmps40 λF hF=>by
 have ak:=backT.eq_1 S.list i;generalize backT S.list i=res at *;refine fW ?_;refine B7 5 1000 4 Ek E E ?_;refine C3 (λx:Int×List Hop=>(-1≤x.1∧x.1<S.list.length)∧x.2.length+(x.1+1).toNat≤S.list.length∧x.2++backC S.list x.1=backC S.list i)
  (λx=>[(0,.ptr 0 0),(1,Aa x.1),(5,.osl 1000)]) (λx=>srchA n S x.2) (λx=>(x.1+1).toNat) (i,[]) [] ⟨hi,by simp;omega,rfl⟩
  kU ?_
 rintro ⟨z,acc⟩ ⟨hz,ku,gy⟩;dsimp only at hz ku gy;refine fU ?_;constructor<;>intro h
 ·have h0:0≤z:=zK h;have hk:z.toNat<S.list.length:=by omega
  have hb:=hB z.toNat hk;rw[backC,Ai hk]at gy;obtain ⟨f,hf⟩:∃f,S.list[z.toNat]'hk=f:=⟨_,rfl⟩
  rw[hf]at gy hb;rw[dif_pos ⟨h0,by omega⟩]at gy;refine fU ?_;refine⟨h0,hk,?_⟩;refine fW ?_;refine⟨by intro e;rw[e]at hk;simp at hk,?_⟩;refine fW ?_;refine⟨E,hk,?_⟩;rw[hf];refine fW ?_;refine Af (Ag Γ.toTy 26 E E E E E (.row E) (.lit (e:=Ek) (l:=[f.hop]) E E) y_ (by simp;omega) (by simp;omega)) E E ?_;refine fU ?_;refine⟨h0,hk,?_⟩;refine fW ?_;refine⟨by intro e;rw[e]at hk;simp at hk,?_⟩;refine fW ?_;refine⟨E,hk,?_⟩;rw[hf];refine fW ?_;exact Be (f.ahead,acc++[f.hop]) [(1000,26)] ⟨⟨hb.1,by omega⟩,by simp;omega,by rw[xJ];exact gy⟩ (by simp only;omega)
   kU
 ·have h0:¬0≤z:=zQ h;rw[backC,dif_neg (λe=>h0 e.1),xC]at gy;have q:=Anc acc q_;rw[←gy]at ak;refine fU ?_;refine Af (Ad [(0,1000)] E F107 q E ⟨E,Y⟩ E ⟨.inl E,Y⟩) E E ?_;refine Aj 1000 E ?_;rw[←ak];refine fU ?_;exact done E (.cons .tmp .nil) [] (Ab0 n S) (λ_ h=>h) E E kU
def Ld(n:Net)(to:Int):Nat→Srch→Nat→List Hop×Bool
 |0,_,_=>([],false)
 |k+1,S,i=>if i<S.list.length then (if inB (Bn n (nth S.list i).domain) to=true then (backT S.list i,true) else Ld n to k (extT n S i) (i+1)) else ([],false)
def wayT(n:Net)(from_ to:Int):List Hop×Bool :=
 if L8 n from_=true∧L8 n to=true∧from_≠to∧Ac n=true then Ld n to (2*n.domains.length+1) (beginT n from_) 0 else ([],false)
abbrev srchW(n:Net)(S:Srch):Obs:=[(32,Aek n (.osl 1001) (.osl 1002) (.osl 1003)),(1001,.row 1 Ab S.m0),(1002,.row 1 Ab S.m1),(1003,.row 7 Xe S.list)]
def Ao9{n:Net}{i:Int}(h:L8 n i=true):0≤i∧i.toNat<n.ports.length:=by
 simp only[L8,zE,zJ]at h;omega
def wayS(n:Net)(hn:n.Fin)(hu:Dr n)(from_ to:Int):Sp 21 [Am n,Aa from_,Aa to] (.tup [.sl 4 Ek (wayT n from_ to).1,Ab (wayT n from_ to).2]):=cT F21 ntmps21 λF hF=>by
 have ak:=wayT.eq_1 n from_ to;generalize wayT n from_ to=res at *;have hr:=A1 n hn;have h1:=Amd n from_;have h2:=Amd n to;refine fW ?_;refine Bf 3 8 (Am n) E E E ?_;refine fU ?_;refine c0 h1 F36 ?_;cases hf:L8 n from_
 ·rw[zD (by simp[hf])]at ak;subst ak;refine fU ?_;refine Au 6 4 Ek E ?_;exact gC
 refine fU ?_;refine c0 h2 F36 ?_;cases ht:L8 n to
 ·rw[zD (by simp[ht])]at ak;subst ak;refine fU ?_;refine Au 6 4 Ek E ?_;exact gC
 refine fU ?_;constructor<;>intro h
 ·rw[zD (by have:from_=to:=(by simpa using h);simp[this])]at ak;subst ak;refine fU ?_;refine Au 6 4 Ek E ?_;exact gC
 have ag:from_≠to:=by simpa using h
 refine fU ?_;refine c0 hr F22 ?_;cases hb:Ac n
 ·rw[zD (by simp[hb])]at ak;subst ak;refine fU ?_;refine Au 6 4 Ek E ?_;exact gC
 rw[zG ⟨hf,ht,ag,hb⟩]at ak;have hD:n.domains.length<1000000:=by have:=(Avv hb).2.2.2.1;omega
 have hp:=Ao9 hf;have q0:=beginS n hn hb hD from_ hp;have ok0:(beginT n from_).OK n:=by
  rw[beginT,Ai hp.2];exact Aj1 λv hv h0=>Ve hb hp.2 hv h0
 have bk0:Backs (beginT n from_).list:=by rw[beginT];exact Al7 _ _ _
 generalize beginT n from_=S0 at *;refine fU ?_;refine Af (Ad [(0,32),(1,1001),(2,1002),(3,1003)] E F37 q0 E ⟨E,Y⟩ E ⟨.inl E,.inr E,.inr E,.inr E,Y⟩) E E ?_;refine fU ?_;refine C3 (λx:Srch×Nat=>x.1.OK n∧Backs x.1.list∧x.2≤x.1.list.length∧res=Ld n to (2*n.domains.length+1-x.2) x.1 x.2)
  (λx=>[(2,Aa to),(3,.ref 8 (Am n) 0),(8,.ptr 32 0),(9,Aa x.2)]) (λx=>srchW n x.1) (λx=>2*n.domains.length+1-x.2) (S0,0) [] ⟨ok0,bk0,vA _,ak⟩
  kU ?_
 clear ak ok0 bk0 q0;rintro ⟨S,i⟩ ⟨ok,bk,hi,ak⟩;dsimp only at ok bk hi ak⊢;have hle:=ok.le;obtain ⟨fuel,hfu⟩:∃k,2*n.domains.length+1-i=k+1:=⟨2*n.domains.length-i,by omega⟩
 rw[hfu,Ld]at ak;refine fU ?_;constructor<;>intro h
 ·have ab:i<S.list.length:=qA h;have dp:(i:Int).toNat<S.list.length:=by simpa using ab
  rw[zG ab,Ai dp]at ak;obtain ⟨f,o8⟩:∃f,S.list[(i:Int).toNat]'dp=f:=⟨_,rfl⟩
  rw[o8]at ak;have q1:=Qc n hn f.domain;have q2:=D7 (Bn n f.domain) to (Kh n hn f.domain);generalize Bn n f.domain=mem at *;refine fU ?_;refine⟨by omega,dp,?_⟩;refine fW ?_;refine⟨by intro e;rw[e]at ab;simp at ab,?_⟩;refine fW ?_;refine⟨by intro e;rw[e]at ab;simp at ab,?_⟩;refine fW ?_;refine⟨E,dp,?_⟩;rw[o8];refine fW ?_;refine cD q1 F39 ?_;refine fU ?_;refine cD q2 F38 ?_;refine fU ?_;refine⟨z_,?_⟩;refine fW ?_;generalize inB mem to=bm at *;cases bm
  ·refine aF ?_;rw[zD y_]at ak;have q3:=A54 n hn hu hD S ok i ⟨by omega,dp⟩;have ok':=ok.ext i;have bk':=bk.ext (n:=n) (i:=i) ⟨by omega,by omega⟩;generalize extT n S i=S' at *;refine fU ?_;refine Af (Ad [(0,32),(1,1001),(2,1002),(3,1003),(4,1004)] E F41 q3 E ⟨E,E,E,E,Y⟩ E ⟨.inl E,.inl E,.inl E,.inl E,.inr E,Y⟩) E E ?_;refine gG ?_;exact Be (S',i+1) [(1003,1004)] ⟨ok',bk'.1,by simp only;omega,by simp only;rw[show 2*n.domains.length+1-(i+1)=fuel by omega];exact ak⟩ (by simp only;omega)
    kU
  ·refine aT ?_;rw[zG rfl]at ak;subst ak;have q4:=backS n S bk q_ i ⟨by omega,by omega⟩;generalize backT S.list i=w at *;refine fU ?_;refine Af (Ad [(0,32),(1,1001),(2,1002),(3,1003)] E F40 q4 E ⟨E,E,E,E,Y⟩ E ⟨.inl E,.inl E,.inl E,.inl E,Y⟩) E E ?_;exact gC
 ·have ab:¬i<S.list.length:=qB h;rw[zD ab]at ak;subst ak;refine fU ?_;refine Au 6 4 Ek E ?_;exact gC
end Go.Sy.YticmobkdaneelaaGreatDoor
namespace Go.Sy.YticmobkdaneelaaGreatDoor
open Go.Proofs Go.Proofs.Tryz
def Aqs(n:Net)(h:Hop):Prop:=(0≤h.domain∧h.domain.toNat<n.domains.length)∧0≤h.addr∧h.addr<4294967296
def Azn{n:Net}{irb to e:Int}(he:e<4294967296):∀{x:Int},0≤x→0≤(addrGo n irb to e x).1∧(addrGo n irb to e x).1<4294967296:=by
 intro x
 induction x using addrGo.induct n irb to e with
 |case1 x h1 h2=>intro h0;rw[addrGo,zG h1,zG h2];exact⟨h0,by simp only;omega⟩
 |case2 x h1 h2 h3=>intro h0;rw[addrGo,zG h1,zD h2,zG h3];decide
 |case3 x h1 h2 h3 h4 ih=>intro h0;rw[addrGo,zG h1,zD h2,zD h3,zG h4];exact ih q_
 |case4 x h1 h2 h3 h4=>intro h0;rw[addrGo,zG h1,zD h2,zD h3,zD h4];decide
 |case5 x h1=>intro h0;rw[addrGo,zD h1];decide
def A4h{n:Net}(hu:Dr n)(irb to:Int):0≤(addrT n irb to).1∧(addrT n irb to).1<4294967296:=by
 rw[addrT];split
 ·rename_i hc;have hk:to.toNat<n.irbs.length:=by omega
  rw[Ai hk];have lu:=hu _ (zI hk);exact Azn (Qx _ _ lu).2 (Abd _ _ lu).1
 ·decide
def Apb{n:Net}{d:Int}{h:Hop}(hh:h∈Eo n d):Aqs n h:=by
 refine⟨Q0 hh,?_⟩;rw[Eo]at hh;split at hh
 ·rcases yI.1 hh with hh|hh
  ·obtain ⟨p,_,hp⟩:=vE.1 hh;rw[linkHop]at hp;split at hp
   ·simp only[Option.some.injEq]at hp;subst hp;exact⟨by simp,by simp⟩
   ·cases hp
  ·obtain ⟨p,hp,rfl⟩:=yS.1 hh;exact⟨by simp[Sz],by simp[Sz]⟩
 ·cases hh
def Akp{n:Net}(hu:Dr n){d:Int}{q:Lead}(hq:q∈routesT n d):0≤q.addr∧q.addr<4294967296:=by
 rw[routesT]at hq;split at hq
 ·obtain ⟨i,hi,hp⟩:=vE.1 hq;rw[leadF]at hp;split at hp
  ·simp only[Option.some.injEq]at hp;subst hp;exact A4h hu _ _
  ·cases hp
 ·cases hq
def HopsOK(n:Net)(l:List Fnd):Prop:=∀f∈l,Aqs n f.hop
theorem HopsOK.meet{n:Net}{S:Srch}(h:HopsOK n S.list)(d k:Int){hp:Hop}(hh:Aqs n hp)(a:Int):HopsOK n (meetT S d k hp a).list:=by
 rw[meetT];split
 ·exact h
 ·rw[Oo];split<;>(intro f hf;rcases yI.1 hf with hf|hf;exact h f hf;rw[yB]at hf;subst hf;exact hh)
theorem HopsOK.ext1{n:Net}{k i:Int}:∀{l:List Hop} {S:Srch},HopsOK n S.list→(∀h∈l,Aqs n h)→HopsOK n (ext1 S k i l).list
 |[],S,h,_=>h
 |x::l,S,h,hl=>HopsOK.ext1 (l:=l) (h.meet x.domain k (hl x y_) i) (λy hy=>hl y (by simp[hy]))
theorem HopsOK.ext2{n:Net}{i:Int}:∀{l:List Lead} {S:Srch},HopsOK n S.list→(∀q∈l,Aqs n ⟨3,0,q.domain,q.addr⟩)→HopsOK n (ext2 S i l).list
 |[],S,h,_=>h
 |x::l,S,h,hl=>HopsOK.ext2 (l:=l) (h.meet x.domain 1 (hl x y_) i) (λy hy=>hl y (by simp[hy]))
theorem HopsOK.ext{n:Net}(hu:Dr n){S:Srch}(h:HopsOK n S.list)(i:Int):HopsOK n (extT n S i).list:=by
 rw[extT];split
 ·exact(h.ext1 (λx hx=>Apb hx)).ext2 (λq hq=>⟨Sh hq,Akp hu hq⟩)
 ·exact h.ext1 (λx hx=>Apb hx)
def Adl(n:Net)(irb a:Int):Int:=(nth n.irbs a).bits*2+Ahi n irb a
def Aqb(n:Net)(irb a b:Int):0<Yj n irb a b↔Adl n irb b<Adl n irb a:=by
 have h1:=Adz n irb a;have h2:=Adz n irb b;rw[Yj,Adl,Adl];split<;>omega
def Ajz(n:Net)(irb:Int)(p:Nat→Bool):∀j,Ih p j≠[] →
  ∀y∈Ih p j,Adl n irb y≤Adl n irb (O0 (Yj n irb) (Ih p j))∧(y<O0 (Yj n irb) (Ih p j)→Adl n irb y<Adl n irb (O0 (Yj n irb) (Ih p j)))
 |0,h=>zY rfl h
 |j+1,h=>by
  have ih:=Ajz n irb p j;have hm:=Aj0 (Yj n irb) (Ih p j);have az:=λx=>@filtI_in p j x
  have hs:=Auf (Yj n irb) (Ih p j) j;have ho:=Azf (Yj n irb) j;rw[X9]at h⊢;split
  ·generalize Ih p j=u at *;by_cases hu:u=[]
   ·subst hu;intro y hy;rw[wC]at hy⊢;rw[ho];have:y=j:=by simpa using hy
    subst this;omega
   ·have ly:=hs hu;have td:=ih hu;have hmi:=az _ (hm hu);rw[ly];split
    ·rename_i hc;rw[Aqb]at hc;intro y hy;rcases yI.1 hy with h1|h1
     ·have:=(td y h1).1;omega
     ·have:y=j:=by simpa using h1
      subst this;omega
    ·rename_i hc;rw[Aqb]at hc;intro y hy;rcases yI.1 hy with h1|h1
     ·exact td y h1
     ·have:y=j:=by simpa using h1
      subst this;omega
  ·rename_i hp;rw[zD hp]at h;exact ih h
def A2l{n:Net}{irb dst:Int}(h:(lookT n irb dst).2=true):Jb n irb dst≠[]∧(lookT n irb dst).1=O0 (Yj n irb) (Jb n irb dst):=by
 rw[lookT]at h⊢;split at h
 ·cases h
 ·rename_i h1;rw[zD h1];split at h
  ·cases h
  ·rename_i h2;rw[zD h2];exact⟨h2,by rw[O0,zD h2]⟩
def A2k{n:Net}{irb dst:Int}(h:(lookT n irb dst).2=false):(∃i,i<n.irbs.length∧Mn n irb dst i=true)∨Jb n irb dst=[]:=by
 rw[lookT]at h;split at h
 ·rename_i h1;obtain ⟨i,hi,ht⟩:=wK.1 h1;exact .inl ⟨i,xA.1 hi,ht⟩
 ·split at h
  ·rename_i h2;exact .inr h2
  ·cases h
def K4{n:Net}{irb dst:Int}(h:(lookT n irb dst).2=true):(lookT n irb dst).1∈Jb n irb dst∧∀y∈Jb n irb dst,Adl n irb y≤Adl n irb (lookT n irb dst).1∧(y<(lookT n irb dst).1→Adl n irb y<Adl n irb (lookT n irb dst).1):=by
 obtain ⟨h1,h2⟩:=A2l h;rw[h2];exact⟨Aj0 _ _ h1,Ajz n irb _ _ h1⟩
def mem_ways{n:Net}{irb dst i:Int}:i∈Jb n irb dst↔InIrbs n i∧Ahq (nth n.irbs i).addr (nth n.irbs i).bits dst=true∧Aij n irb i=true:=by
 rw[Jb,filtI_mem];constructor
 ·rintro ⟨h1,h2,h3⟩;have e:(i.toNat:Int)=i:=by omega
  rw[Xm,e,zE]at h3;exact⟨⟨h1,by omega⟩,h3⟩
 ·rintro ⟨⟨h1,h2⟩,h3,h4⟩;have e:(i.toNat:Int)=i:=by omega
  refine⟨h1,by omega,?_⟩;rw[Xm,e,h3,h4];rfl
def takenA_iff{n:Net}{a:Int}:Ib n a=true↔∃i,∃h:i<n.irbs.length,n.irbs[i].addr=a:=by
 rw[Ib,Kl,wK];constructor
 ·rintro ⟨x,hx,hxa⟩;obtain ⟨i,hi,rfl⟩:=wD hx;exact⟨i,hi,by simpa using hxa⟩
 ·rintro ⟨i,hi,he⟩;exact⟨_,zI hi,by simpa using he⟩
def M1(n:Net)(irb to a:Int):Bool:=(lookT n irb a).2&&(lookT n irb a).1==to&&!Ib n a
def leadsB_iff{n:Net}{irb to a:Int}:M1 n irb to a=true↔(lookT n irb a).2=true∧(lookT n irb a).1=to∧Ib n a=false:=by
 simp[M1,and_assoc]
def A3z(n:Net)(to:Int)(j:Nat):List Int:=[Dg (nth n.irbs to).addr (nth n.irbs to).bits]++(n.irbs.take j).flatMap λx=>[x.addr+1,Hz x.addr x.bits+1]
def Agu(n:Net)(to:Int):List Int:=A3z n to n.irbs.length
def Av2{n:Net}{to:Int}{i:Nat}(h:i<n.irbs.length):n.irbs[i].addr+1∈Agu n to∧Hz n.irbs[i].addr n.irbs[i].bits+1∈Agu n to:=by
 rw[Agu,A3z,yN];constructor
 ·exact tS _ (List.mem_flatMap.2 ⟨_,zI h,by simp⟩)
 ·exact tS _ (List.mem_flatMap.2 ⟨_,zI h,by simp⟩)
def Aqq{n:Net}(hu:Dr n)(hb:Ac n=true){irb to:Int}(ed:InIrbs n to):∀x,x∈Agu n to→Dg (nth n.irbs to).addr (nth n.irbs to).bits≤x →
  (∀a,Dg (nth n.irbs to).addr (nth n.irbs to).bits≤a→a<x→M1 n irb to a=false) →
  ((addrGo n irb to (Hz (nth n.irbs to).addr (nth n.irbs to).bits) x).2=true∧(addrGo n irb to (Hz (nth n.irbs to).addr (nth n.irbs to).bits) x).1∈Agu n to ∧
    M1 n irb to (addrGo n irb to (Hz (nth n.irbs to).addr (nth n.irbs to).bits) x).1=true ∧
    ∀ a,Dg (nth n.irbs to).addr (nth n.irbs to).bits≤a→a<(addrGo n irb to (Hz (nth n.irbs to).addr (nth n.irbs to).bits) x).1→M1 n irb to a=false) ∨
   (addrGo n irb to (Hz (nth n.irbs to).addr (nth n.irbs to).bits) x)=(0,false)∧∀a,Dg (nth n.irbs to).addr (nth n.irbs to).bits≤a→a≤Hz (nth n.irbs to).addr (nth n.irbs to).bits→M1 n irb to a=false:=by
 have li:nth n.irbs to=n.irbs[to.toNat]'ed.2:=Ai ed.2;have hut:=hu _ (zI ed.2);have hbt:=(Da hb ed.2).2.2;rw[li];have hf:=Abd _ (n.irbs[to.toNat]'ed.2).bits hut;have hl:=Qx _ (n.irbs[to.toNat]'ed.2).bits hut;have hht:∀a,0≤a∧a<4294967296→(Ahq (nth n.irbs to).addr (nth n.irbs to).bits a=true↔Dg (n.irbs[to.toNat]'ed.2).addr (n.irbs[to.toNat]'ed.2).bits≤a∧a≤Hz (n.irbs[to.toNat]'ed.2).addr (n.irbs[to.toNat]'ed.2).bits):=λa ha=>by
  rw[li];exact U5 _ _ _ hbt hut ha
 generalize Dg (n.irbs[to.toNat]'ed.2).addr (n.irbs[to.toNat]'ed.2).bits=f at *;generalize Hz (n.irbs[to.toNat]'ed.2).addr (n.irbs[to.toNat]'ed.2).bits=e at *;have r9:∀a b,f≤a→a≤e→f≤b→b≤e→M1 n irb to a=true→to∈Jb n irb b:=λa b sa vz em du h=>by
  obtain ⟨h1,h2,_⟩:=leadsB_iff.1 h;have h3:=(K4 h1).1;rw[h2]at h3;have h4:=mem_ways.1 h3;exact mem_ways.2 ⟨h4.1,(hht b q_).2 ⟨em,du⟩,h4.2.2⟩
 intro x
 induction x using addrGo.induct n irb to e with
 |case1 x h1 h2=>
  intro hc oc cu;rw[addrGo,zG h1,zG h2];exact .inl ⟨E,hc,leadsB_iff.2 h2,cu⟩
 |case2 x h1 h2 h3=>
  intro hc oc cu;rw[addrGo,zG h1,zD h2,zG h3];refine .inr ⟨E,λa sa vz=>?_⟩;cases nc:M1 n irb to a
  ·rfl
  have hw:=r9 a x sa vz oc h1 nc;rcases A2k h3.1 with ⟨i,hi,ht⟩|h
  ·rw[Mn,Ai (l:=n.irbs) (i:=(i:Int)) (by simpa using hi),zE]at ht;have:Ib n x=true:=takenA_iff.2 ⟨i,hi,by simpa using ht.2⟩;rw[h3.2]at this;cases this
  ·rw[h]at hw;cases hw
 |case3 x h1 h2 h3 h4 ih=>
  intro hc oc cu;rw[addrGo,zG h1,zD h2,zD h3,zG h4];rw[pastI]at h4 ih⊢;cases ht:Ib n x
  ·rw[ht]at h2 h3 h4 ih;rw[zD y_]at h4 ih⊢;have gn:(lookT n irb x).2=true:=by cases h:(lookT n irb x).2 with|true=>rfl|false=>exact zY ⟨h,rfl⟩ h3
   have ag:(lookT n irb x).1≠to:=λh=>h2 ⟨gn,h,rfl⟩
   have vh:=K4 gn;have ji:=mem_ways.1 vh.1;have mq:=hu _ (zI ji.1.2);have km:=(Da hb ji.1.2).2.2;have s6:nth n.irbs (lookT n irb x).1=n.irbs[(lookT n irb x).1.toNat]'ji.1.2:=Ai ji.1.2;refine ih ?_ q_ (λa sa vz=>?_)
   ·rw[s6];exact(Av2 ji.1.2).2
   ·rcases Int.lt_or_le a x with uf|uf
    ·exact cu a sa uf
    cases nc:M1 n irb to a
    ·rfl
    have v7:=leadsB_iff.1 nc;have hma:=K4 v7.1;rw[v7.2.1]at hma;have pg:=mem_ways.1 hma.1;rw[s6]at vz ji;have hr:=Qx _ (n.irbs[(lookT n irb x).1.toNat]'ji.1.2).bits mq;have ha:0≤a∧a<4294967296:=by omega
    have xo:=((hht a ha).1 pg.2.1).2;have hx:=(U5 _ _ _ km mq (by omega:0≤x∧x<4294967296)).1 ji.2.1;have hla2:(lookT n irb x).1∈Jb n irb a:=mem_ways.2 ⟨ji.1,by rw[s6];exact(U5 _ _ _ km mq ha).2 ⟨by omega,by omega⟩,ji.2.2⟩;have k1:=vh.2 to (r9 a x sa xo oc h1 nc);have k2:=hma.2 _ hla2;exact zY q_ ag
  ·rw[ht]at h4 ih;rw[zG rfl]at h4 ih⊢;obtain ⟨i,hi,he⟩:=takenA_iff.1 ht;refine ih (by rw[←he];exact(Av2 hi).1) q_ (λa sa vz=>?_);rcases Int.lt_or_le a x with uf|uf
   ·exact cu a sa uf
   ·have:a=x:=by omega
    subst this;simp[M1,ht]
 |case4 x h1 h2 h3 h4=>
  intro hc oc cu;refine zY (Anw hu hb (irb:=irb) (a:=x) q_ (λht=>?_)).1 h4;cases h:(lookT n irb x).2 with
  |true=>rfl
  |false=>exact zY ⟨h,ht⟩ h3
 |case5 x h1=>
  intro hc oc cu;rw[addrGo,zD h1];exact .inr ⟨E,λa sa vz=>cu a sa q_⟩
attribute [local irreducible] Go.Sy.G Go.Sy.DR
set_option maxRecDepth 20000
set_option maxHeartbeats 8000000
structure WayD where
 (hops:List Hop) (routed:Bool)
instance:Inhabited WayD:=⟨⟨[],false⟩⟩
end Go.Sy.YticmobkdaneelaaGreatDoor
namespace Go.Sy.YticmobkdaneelaaGreatDoor
open Go.Proofs Go.Proofs.Tryz
def Xx{α:Type}[Inhabited α]{l m:List α}{i:Int}(h:i.toNat<l.length):nth (l++m) i=nth l i:=by
 rw[nth,nth,xR h]
def Ti{l m:List Fnd}(hB:Backs l):∀(k:Nat) (i:Int),i<k→i<l.length→backC (l++m) i=backC l i:=by
 intro k
 induction k with
 |zero=>
  intro i hi hl;rw[backC,dif_neg (λh=>by omega),backC,dif_neg (λh=>by omega)]
 |succ k ih=>
  intro i hi hl;by_cases h0:0≤i
  ·have hk:i.toNat<l.length:=by omega
   have hb:=hB i.toNat hk;rw[backC,Xx hk,backC.eq_1 l i,Ai hk,dif_pos ⟨h0,by omega⟩,dif_pos ⟨h0,by omega⟩];rw[ih _ q_ q_]
  ·rw[backC,dif_neg (λh=>h0 h.1),backC,dif_neg (λh=>h0 h.1)]
def Ml{l m:List Fnd}(hB:Backs l){i:Int}(h:i<l.length):backT (l++m) i=backT l i:=by
 rw[backT,backT,Ti hB (i+1).toNat i q_ h]
def Agw{l:List Fnd}(hB:Backs l){f:Fnd}(hf:-1≤f.ahead∧f.ahead<l.length):backT (l++[f]) l.length=backT l f.ahead++[f.hop]:=by
 have e:nth (l++[f]) (l.length:Int)=f:=by
  rw[Ai (l:=l++[f]) (i:=(l.length:Int)) y_];simp
 rw[backT,backC,e,dif_pos ⟨by omega,by omega⟩,List.reverse_cons,Ti hB (f.ahead+1).toNat _ q_ q_];rfl
def Auh(l:List Fnd):backT l (-1)=[]:=by
 rw[backT,backC,dif_neg (λh=>by omega)];rfl
structure Met(n:Net)(S:Srch):Prop where
 ok:S.OK n
 bk:Backs S.list
 dom:∀f∈S.list,f.hop.domain=f.domain
 m:∀d:Int,0≤d∧d.toNat<n.domains.length→∀k:Int,(k=0∨k=1)→(Sx S d k=true↔∃f∈S.list,f.domain=d∧f.kind=k)
def An7{l:List Bool}{a b:Nat}(hb:b<l.length):(l.set a true)[b]? = if a=b then some true else l[b]?:=by
 rw[tV];split
 ·rename_i h;subst h;simp[hb]
 ·rfl
def Asu{n:Net}{S:Srch}(hS:S.OK n){d k:Int}(hd:0≤d∧d.toNat<n.domains.length)(hk:k=0∨k=1)(h:Hop)(a:Int)(d2 k2:Int)(jc:0≤d2∧d2.toNat<n.domains.length)(dg:k2=0∨k2=1):Sx (Oo S d k h a) d2 k2=true↔Sx S d2 k2=true∨(d2=d∧k2=k):=by
 have h0:d2.toNat<S.m0.length:=by rw[hS.l0];exact jc.2
 have h1:d2.toNat<S.m1.length:=by rw[hS.l1];exact jc.2
 have e:(d.toNat=d2.toNat)↔d2=d:=by omega
 rcases hk with rfl|rfl<;>rcases dg with rfl|rfl
 ·rw[Oo,zG rfl,Sx,zG rfl,Sx,zG rfl,nth,nth,An7 h0];by_cases h:d2=d
  ·rw[zG (e.2 h)];simp[h]
  ·rw[zD (λx=>h (e.1 x))];simp[h]
 ·rw[Oo,zG rfl,Sx,zD j_,Sx,zD j_];simp
 ·rw[Oo,zD j_,Sx,zG rfl,Sx,zG rfl];simp
 ·rw[Oo,zD j_,Sx,zD j_,Sx,zD j_,nth,nth,An7 h1];by_cases h:d2=d
  ·rw[zG (e.2 h)];simp[h]
  ·rw[zD (λx=>h (e.1 x))];simp[h]
def Xz(S:Srch)(d k:Int)(h:Hop)(a:Int):(Oo S d k h a).list=S.list++[⟨d,k,h,a⟩]:=by
 rw[Oo];split<;>rfl
theorem Met.meet{n:Net}{S:Srch}(hS:Met n S){d k:Int}(hd:0≤d∧d.toNat<n.domains.length)(hk:k=0∨k=1){h:Hop}(hh:h.domain=d){a:Int}(ha:-1≤a∧a<S.list.length):Met n (meetT S d k h a) where
 ok:=hS.ok.meet hd hk h a
 bk:=(hS.bk.meet d k h ha).1
 dom:=by
  rw[meetT];split
  ·exact hS.dom
  ·rw[Xz];intro f hf;rcases yI.1 hf with h1|h1
   ·exact hS.dom f h1
   ·rw[yB.1 h1];exact hh
 m:=by
  rw[meetT];split
  ·exact hS.m
  ·intro d2 jc k2 dg;rw[Asu hS.ok hd hk h a d2 k2 jc dg,hS.m d2 jc k2 dg,Xz];constructor
   ·rintro (⟨f,hf,h1⟩|⟨rfl,rfl⟩)
    ·exact⟨f,List.mem_append_left _ hf,h1⟩
    ·exact⟨_,tS _ (yB.2 E),E,E⟩
   ·rintro ⟨f,hf,h1,h2⟩;rcases yI.1 hf with h3|h3
    ·exact .inl ⟨f,h3,h1,h2⟩
    ·rw[yB.1 h3]at h1 h2;exact .inr ⟨h1.symm,h2.symm⟩
def A50{α:Type}{p:α→Bool}{l:List α}{i:Int}(h:Bv p l=i)(h0:0≤i):∃hi:i.toNat<l.length,p l[i.toNat]=true:=by
 unfold Bv at h;split at h
 ·rename_i j hj;rw[wF]at hj;obtain ⟨h1,h2,_⟩:=hj;subst h;exact⟨by simpa using h1,by simpa using h2⟩
 ·omega
end Go.Sy.YticmobkdaneelaaGreatDoor
