/- Parts of a proof. -/
import Derived.Test.YtolnneiipmfgaaaGreatDoorYC6
set_option linter.all false
set_option linter.unusedVariables false
set_option linter.unusedSimpArgs false
set_option linter.deprecated false
namespace Go.Sy.YtolnneiipmfgaaaGreatDoor
open Go.Proofs Go.Proofs.Tryz
structure TenM where
 row:Int
 name:ByteArray
 devs:List ByteArray
 ports:List ByteArray
instance:Inhabited TenM:=⟨⟨0,⟨#[]⟩,[],[]⟩⟩
def Eu(t:TenM):SV:=.agg [Aa t.row,Ap t.name,.sl 1 Ap t.devs,.sl 1 Ap t.ports]
def Alp:TenM:=⟨0,⟨#[]⟩,[],[]⟩
abbrev Av8:ByteArray:=⟨#[116,101,110,97,110,116]⟩
def Ql(w:ByteArray):ByteArray×ByteArray×Bool:=((cutT 46 w).1,(cutT 46 w).2.1,(cutT 46 w).2.2&&A1 (cutT 46 w).1&&A1 (cutT 46 w).2.1)
def Afd(t:TenM):List ByteArray→TenM×Int
 |[]=>(t,0)
 |w::l=>if (Ql w).2.2=false then (Alp,20) else Afd {t with devs:=t.devs++[(Ql w).1],ports:=t.ports++[(Ql w).2.1]} l
def tenantT(w:List ByteArray)(row:Int):TenM×Int :=
 if wdT w 0≠Av8∨w.length≤2∨18<w.length then (Alp,22) else if A1 (wdT w 1)=false then (Alp,20)
 else Afd ⟨row,wdT w 1,[],[]⟩ (w.drop 2)
def Kq(i:Nat)(out:List TenM):List ByteArray→List TenM×Int×Int
 |[]=>(out,0,0)
 |r::rs=>if (wordsT r).2≠0 then ([],i+1,(wordsT r).2) else if (wordsT r).1=[] then Kq (i+1) out rs
  else if (tenantT (wordsT r).1 (i+1)).2≠0 then ([],i+1,(tenantT (wordsT r).1 (i+1)).2) else if out.length=10 then ([],i+1,3)
  else Kq (i+1) (out++[(tenantT (wordsT r).1 (i+1)).1]) rs
def policyT(b:List UInt8):List TenM×Int×Int:=if (rowsT b).2≠0 then ([],0,(rowsT b).2) else Kq 0 [] (rowsT b).1
def Q2(t:TenM):Bool:=A1 t.name&&(decide (t.devs.length=t.ports.length)&&(decide (0<t.devs.length)&&(decide (t.devs.length≤16)&&(!(t.devs.any λs=>!(A1 s))&&!(t.ports.any λs=>!(A1 s))))))
attribute [local irreducible] Go.Sy.G Go.Sy.DR
set_option maxRecDepth 20000
set_option maxHeartbeats 4000000
structure Hop where
 (kind port domain addr:Int)
abbrev Df(h:Hop):SV:=.agg [Aa h.kind,Aa h.port,Aa h.domain,A9 h.addr]
instance:Inhabited Hop:=⟨⟨0,0,0,0⟩⟩
def Yc(n:Net)(d:Int):Prop:=(0≤d∧d<n.domains.length)∧Ac n=true
instance (n:Net)(d:Int):Decidable (Yc n d):=inferInstanceAs (Decidable (_∧_))
def Aoy(n:Net)(hn:n.Fin)(d:Int):Sp 205 [Ao n,Aa d] (Ab (decide (Yc n d))):=cT F205 ntmps205 λF hF=>by
 have hr:=A0 n hn;refine fW ?_;constructor<;>intro h
 ·have h1:0≤d:=zO h;refine Ba 2 8 (Ao n) E E E ?_;refine fU ?_;constructor<;>intro h
  ·have h2:d<n.domains.length:=zO h;refine fU ?_;refine c0 hr F20 ?_;refine fU ?_;refine As E (.cons .tmp .nil) (zH Ab ?_) E;cases hb:Ac n<;>simp[Yc,h1,h2,hb]
  ·have h2:¬d<n.domains.length:=zT h;refine fU ?_;refine As E (.cons .tmp .nil) (zH Ab ?_) E;simp[Yc,h2]
 ·have h1:¬0≤d:=zT h;refine fU ?_;refine As E (.cons .tmp .nil) (zH Ab ?_) E;simp[Yc,h1]
def linkHop(n:Net)(d p:Int):Option Hop:=if (linkDomT n p (nth n.domains d).vlan).2=true then some ⟨1,p,(linkDomT n p (nth n.domains d).vlan).1,0⟩ else none
def Kv(p:Int):Hop:=⟨2,0,p,0⟩
def hopsL(n:Net)(d:Int):List Hop:=(A5 n d).filterMap (linkHop n d)++(nth n.domains d).peers.map Kv
def Do(n:Net)(d:Int):List Hop:=if Yc n d then hopsL n d else []
def Amq{n:Net}{d:Int}{l:List Int}{j:Nat}{p:Int}(h:j<l.length)(hp:l[j]=p):(l.take (j+1)).filterMap (linkHop n d) =
  (l.take j).filterMap (linkHop n d)++(match linkHop n d p with|some h=>[h]|none=>[]):=by
 subst hp;rw[vR,zU h,List.filterMap_append];cases hh:linkHop n d l[j]<;>simp[hh]
def Atg(n:Net)(hn:n.Fin)(d:Int):Sp 144 [Ao n,Aa d] (.sl 4 Df (Do n d)):=cT F144 ntmps144 λF hF=>by
 have hp:=Aoy n hn d;have bx:=Qv n hn d;have xd:=Kw n hn d;unfold Am at xd;refine fW ?_;refine Ba 2 8 (Ao n) E E E ?_;refine fU ?_;refine c0 hp F205 ?_;by_cases hd:Yc n d;rotate_left
 ·rw[Do,zD hd,zI hd];refine fU ?_;refine An 4 4 Df E ?_;exact gC
 rw[Do,zE hd,zL hd];have hk:d.toNat<n.domains.length:=by have:=hd.1;omega
 have h0:0≤d:=hd.1.1;have fm:=hn.peers _ (zJ hk);unfold Am at fm;have hh:=hopsL.eq_1 n d;have hlh:=linkHop.eq_1 n d;have ff:=λj p h hp=>Amq (n:=n) (d:=d) (l:=A5 n d) (j:=j) (p:=p) h hp
 have iy:∀j,((A5 n d).take j |>.filterMap (linkHop n d)).length≤(A5 n d).length:=λj=>by
  refine wN (tB _ _) ?_;rw[zY];omega
 have df:(A5 n d).take (A5 n d).length=A5 n d:=yN;rw[Af hk]at hh hlh;obtain ⟨x,hx⟩:∃x,n.domains[d.toNat]'hk=x:=⟨_,rfl⟩
 rw[hx]at hh hlh fm;generalize hopsL n d=res at *;generalize A5 n d=mem at *;refine fU ?_;refine c0 bx F75 ?_;refine fU ?_;refine Ce 5 1000 4 Df E E ?_;refine A8 mem.length (λj=>[(1,Aa d),(2,.ref 8 (Ao n) 0),(5,.osl 1000),(18,.sl 1 Aa mem),(19,Aa mem.length),(20,Aa j)]) (λj=>[(1000,.row 4 Df ((mem.take j).filterMap (linkHop n d)))]) []
  uU ?_
 intro j hj;have hflj:=iy j;refine fU ?_;constructor<;>intro h
 ·have ab:j<mem.length:=by simpa using h
  have ai:(j:Int).toNat<mem.length:=by simpa using ab
  obtain ⟨p,zn⟩:∃p,mem[(j:Int).toNat]'ai=p:=⟨_,rfl⟩
  have hs:=ff j p ab zn;have q:=Aad n hn p x.vlan;rw[hlh p]at hs;generalize linkDomT n p x.vlan=ld at *;obtain ⟨to,ok⟩:=ld;refine fU ?_;refine⟨E,by omega,ai,?_⟩;rw[zn];refine fW ?_;refine⟨E,h0,hk,?_⟩;rw[hx];refine fW ?_;refine cD q F206 ?_;refine fU ?_;refine⟨z_,?_⟩;refine fW ?_;dsimp only at hs;refine⟨λh=>?_,λh=>?_⟩<;>(have h:ok=_:=h;subst h)
  ·refine fU ?_;refine Ah (Ag Γ.toTy 42 E E E E E (.row E) (.lit (e:=Df) (l:=[⟨1,p,to,0⟩]) E E) y_ (by simp;omega) (by simp;omega)) E E ?_;refine gG ?_;exact Az [(1000,42)] ab ⟨⟨E,E,E,E,E,E,E,E,E,E,E,E,Y⟩,⟨.inl (zH (Ob.row 4 Df) hs),E,Y⟩,E,E⟩
  ·refine gG ?_;exact Az [] ab ⟨⟨E,E,E,E,E,E,E,E,E,E,E,E,Y⟩,⟨.inl (zH (Ob.row 4 Df) (hs.trans (xM _))),E,Y⟩,E,E⟩
 ·have:j=mem.length:=qB h;subst this;rw[df]at hflj⊢;generalize mem.filterMap (linkHop n d)=first at *
  refine fU ?_;refine⟨E,h0,hk,?_⟩;rw[hx];refine fW ?_;refine A8 x.peers.length (λj=>[(5,.osl 1000),(49,.sl 1 Aa x.peers),(50,Aa x.peers.length),(51,Aa j)]) (λj=>[(1000,.row 4 Df (first++(x.peers.take j).map Kv))]) []
   ⟨⟨rfl,rfl,rfl,rfl,rfl,rfl,rfl,rfl,trivial⟩,⟨.inl (zH (Ob.row 4 Df) (xM _)),rfl,trivial⟩,rfl,rfl⟩ ?_
  intro j hj;refine fU ?_;constructor<;>intro h
  ·have ab:j<x.peers.length:=by simpa using h
   have ai:(j:Int).toNat<x.peers.length:=by simpa using ab
   obtain ⟨p,zn⟩:∃p,x.peers[(j:Int).toNat]'ai=p:=⟨_,rfl⟩
   have hs:(first++(x.peers.take j).map Kv)++[⟨2,0,p,0⟩]=first++(x.peers.take (j+1)).map Kv:=by
    rw[vR,zU ab,wZ,xD];congr 2;simp only[Option.toList,xW,vU,Kv];congr 2;exact zn.symm
   refine fU ?_;refine⟨E,by omega,ai,?_⟩;rw[zn];refine fW ?_;refine Ah (Ag Γ.toTy 59 E E E E E (.row E) (.lit (e:=Df) (l:=[⟨2,0,p,0⟩]) E E) y_ (by simp;omega) (by simp;omega)) E E ?_;refine gG ?_;exact Az [(1000,59)] ab ⟨⟨E,E,E,E,E,E,E,E,Y⟩,⟨.inl (zH (Ob.row 4 Df) hs.symm),E,Y⟩,E,E⟩
  ·have:j=x.peers.length:=qB h;subst this;refine fU ?_;refine Aj 1000 E ?_;refine fU ?_;refine As E (.cons .tmp .nil) ?_ E;rw[hh,yN];rfl
structure Lead where
 (to domain addr:Int)
abbrev Oq(l:Lead):SV:=.agg [Aa l.to,Aa l.domain,A9 l.addr]
instance:Inhabited Lead:=⟨⟨0,0,0⟩⟩
def leadF(n:Net)(irb:Int)(i:Nat):Option Lead:=if (addrT n irb i).2=true then some ⟨i,(nth n.irbs i).domain,(addrT n irb i).1⟩ else none
def Vt(n:Net)(irb:Int)(j:Nat):List Lead:=(List.range j).filterMap (leadF n irb)
def routesT(n:Net)(d:Int):List Lead:=if (0≤d∧d<n.domains.length)∧0≤(nth n.domains d).irb∧Ac n=true then Vt n (nth n.domains d).irb n.irbs.length else []
def Ap9(n:Net)(irb:Int)(j:Nat):Vt n irb (j+1)=Vt n irb j++(match leadF n irb j with|some h=>[h]|none=>[]):=by
 rw[Vt,vA,List.filterMap_append];cases h:leadF n irb j<;>simp[h,Vt]
def X2(n:Net)(irb:Int)(j:Nat):(Vt n irb j).length≤j:=by
 have:=tB (leadF n irb) (List.range j);simpa [Vt] using this
def Ajd(n:Net)(hn:n.Fin)(hu:Ds n)(d:Int):Sp 145 [Ao n,Aa d] (.sl 3 Oq (routesT n d)):=cT F145 ntmps145 λF hF=>by
 have ak:=routesT.eq_1 n d;generalize routesT n d=res at *;have hr:=A0 n hn;have zm:=hn.irbs;unfold Am at zm;refine fW ?_;constructor<;>intro h
 ·rw[zD (qA h)]at ak;subst ak;refine fU ?_;refine An 4 3 Oq E ?_;exact gC
 have h1:¬d<0:=zT h;refine Ba 2 8 (Ao n) E E E ?_;refine fU ?_;constructor<;>intro h
 ·rw[zD (qA h)]at ak;subst ak;refine fU ?_;refine An 4 3 Oq E ?_;exact gC
 have h2:d<n.domains.length:=qB h;have hk:d.toNat<n.domains.length:=by omega
 rw[Af hk]at ak;obtain ⟨x,hx⟩:∃x,n.domains[d.toNat]'hk=x:=⟨_,rfl⟩
 rw[hx]at ak;refine fU ?_;refine⟨E,by omega,hk,?_⟩;rw[hx];refine fW ?_;constructor<;>intro h
 ·rw[zD (qA h)]at ak;subst ak;refine fU ?_;refine An 4 3 Oq E ?_;exact gC
 have h3:0≤x.irb:=qB h;refine fU ?_;refine c0 hr F20 ?_;cases hb:Ac n
 ·rw[zD (by simp[hb])]at ak;subst ak;refine fU ?_;refine An 4 3 Oq E ?_;exact gC
 rw[zE ⟨⟨by omega,h2⟩,h3,hb⟩]at ak;subst ak;refine fU ?_;refine Ce 5 1000 3 Oq E E ?_;refine A8 n.irbs.length (λj=>[(1,Aa d),(2,.ref 8 (Ao n) 0),(5,.osl 1000),(34,.sl 5 Cb n.irbs),(35,Aa n.irbs.length),(36,Aa j)]) (λj=>[(1000,.row 3 Oq (Vt n x.irb j))]) []
  uU ?_
 intro j hj;have kc:=X2 n x.irb j;refine fU ?_;constructor<;>intro h
 ·have ab:j<n.irbs.length:=by simpa using h
  have ai:(j:Int).toNat<n.irbs.length:=by simpa using ab
  have q:=Ahy n hn hu x.irb j;have hs:=Ap9 n x.irb j;have hle:=leadF.eq_1 n x.irb j;rw[Af ai]at hle;rw[hle]at hs;obtain ⟨y,hy⟩:∃y,n.irbs[(j:Int).toNat]'ai=y:=⟨_,rfl⟩
  rw[hy]at hs;generalize addrT n x.irb j=ad at *;obtain ⟨a,ok⟩:=ad;dsimp only at hs q;refine fU ?_;refine⟨E,by omega,ai,?_⟩;rw[hy];refine fW ?_;refine⟨E,by omega,hk,?_⟩;rw[hx];refine fW ?_;refine cD q F207 ?_;refine fU ?_;refine⟨z_,?_⟩;refine fW ?_;refine⟨λh=>?_,λh=>?_⟩<;>(have h:ok=_:=h;subst h)
  ·refine fU ?_;refine Ah (Ag Γ.toTy 61 E E E E E (.row E) (.lit (e:=Oq) (l:=[⟨j,y.domain,a⟩]) E E) y_ (by simp;omega) (by simp;omega)) E E ?_;refine gG ?_;exact Az [(1000,61)] ab ⟨⟨E,E,E,E,E,E,E,E,E,E,E,E,Y⟩,⟨.inl (zH (Ob.row 3 Oq) hs),E,Y⟩,E,E⟩
  ·refine gG ?_;exact Az [] ab ⟨⟨E,E,E,E,E,E,E,E,E,E,E,E,Y⟩,⟨.inl (zH (Ob.row 3 Oq) (hs.trans (xM _))),E,Y⟩,E,E⟩
 ·have:j=n.irbs.length:=qB h;subst this;refine fU ?_;refine Aj 1000 E ?_;exact gC
def K1(n:Net)(i:Int):Bool:=decide (0≤i)&&decide (i<n.ports.length)&&decide ((nth n.ports i).link<0)
def Ze(n:Net)(i:Int):Sp 28 [Ao n,Aa i] (Ab (K1 n i)):=cT F28 ntmps28 λF hF=>by
 refine fW ?_;constructor<;>intro h
 ·have h1:0≤i:=zO h;refine Ba 2 8 (Ao n) E E E ?_;refine fU ?_;constructor<;>intro h
  ·have h2:i<n.ports.length:=zO h;have hk:i.toNat<n.ports.length:=by omega
   rw[K1,Af hk,zL h1,zL h2,yF,yF];obtain ⟨p,hp⟩:∃p,n.ports[i.toNat]'hk=p:=⟨_,rfl⟩
   rw[hp];refine fU ?_;refine⟨E,h1,hk,?_⟩;rw[hp];refine fW ?_;exact dN
  ·have h2:¬i<n.ports.length:=zT h;rw[K1,zI h2,wK,yG];exact gC
 ·have h1:¬0≤i:=zT h;rw[K1,zI h1,yG,yG];exact gC
structure Fnd where
 (domain kind:Int) (hop:Hop) (ahead:Int)
abbrev X8(f:Fnd):SV:=.agg [Aa f.domain,Aa f.kind,Aa f.hop.kind,Aa f.hop.port,Aa f.hop.domain,A9 f.hop.addr,Aa f.ahead]
instance:Inhabited Fnd:=⟨⟨0,0,default,0⟩⟩
structure Srch where
 (m0 m1:List Bool) (list:List Fnd)
abbrev stSV(d k:Int):SV:=.agg [Aa d,Aa k]
abbrev Ac1(n:Net)(S:Srch):Obs:=[(0,.box [.sl 5 Aw n.devices,.sl 7 A7 n.ports,.sl 3 B5 n.links,.sl 6 Aq n.domains,.sl 4 A2 n.statics,.sl 4 Bh n.floods,.sl 5 Ck n.vrfs,.sl 5 Cb n.irbs,.osl 1,.osl 2,.osl 3]),
 (1,.row 1 Ab S.m0),(2,.row 1 Ab S.m1),(3,.row 7 X8 S.list)]
abbrev Zo(n:Net)(S:Srch):Obs:=[(0,.box [.sl 5 Aw n.devices,.sl 7 A7 n.ports,.sl 3 B5 n.links,.sl 6 Aq n.domains,.sl 4 A2 n.statics,.sl 4 Bh n.floods,.sl 5 Ck n.vrfs,.sl 5 Cb n.irbs,.osl 1,.osl 2,.osl 4]),
 (1,.row 1 Ab S.m0),(2,.row 1 Ab S.m1),(3,.non),(4,.row 7 X8 S.list)]
def Tm(S:Srch)(d k:Int):Bool:=if k=0 then nth S.m0 d else nth S.m1 d
def Om(S:Srch)(d k:Int)(h:Hop)(ahead:Int):Srch :=
 if k=0 then ⟨S.m0.set d.toNat true,S.m1,S.list++[⟨d,k,h,ahead⟩]⟩ else ⟨S.m0,S.m1.set d.toNat true,S.list++[⟨d,k,h,ahead⟩]⟩
def meetT(S:Srch)(d k:Int)(h:Hop)(ahead:Int):Srch:=if Tm S d k=true then S else Om S d k h ahead
def A3t(n:Net)(S:Srch)(d:Int)(h:Hop)(ahead:Int)(hd:0≤d∧d.toNat<S.m0.length)(hl:Am S.list):Sq 142 [.ptr 0 0,stSV d 0,Df h,Aa ahead] (Ac1 n S) (.tup []) (Zo n (meetT S d 0 h ahead)):=cT F142 ntmps142 λF hF=>by
 unfold Am at hl;have ak:=meetT.eq_1 S d 0 h ahead;rw[Tm,zE rfl,Af hd.2,show Om S d 0 h ahead=⟨S.m0.set d.toNat true,S.m1,S.list++[⟨d,0,h,ahead⟩]⟩ from zE rfl]at ak;generalize meetT S d 0 h ahead=res at *;refine fW ?_;refine⟨by decide,by decide,?_⟩;refine fW ?_;refine⟨hd.1,hd.2,?_⟩;refine fW ?_;refine⟨E,hd.2,?_⟩;refine fW ?_;refine⟨z_,?_⟩;refine fW ?_;constructor<;>intro h1
 rotate_left
 ·rw[zE (by simpa using h1)]at ak;subst ak;refine Wk 3 1000 E E j_ ?_;refine fU ?_;exact A4 E .nil [(4,1000)] (Zo n res) (λ_ h=>h) E E uU
 rw[zD (by simpa using h1)]at ak;subst ak;refine fU ?_;refine⟨by decide,by decide,?_⟩;refine fW ?_;refine⟨hd.1,hd.2,?_⟩;refine fW ?_;refine⟨E,hd.2,true,E,E,?_⟩;refine fW ?_;refine⟨z_,?_⟩;refine fW ?_;refine Bv (Ag Γ.toTy 40 E E E E E (.row E) (.lit (e:=X8) (l:=[⟨d,0,h,ahead⟩]) E E) y_ (by simp;omega) (by simp;omega)) z_ E ?_;refine fU ?_;refine⟨z_,?_⟩;refine fW ?_;exact A4 E .nil [(4,40)] (Zo n ⟨S.m0.set d.toNat true,S.m1,S.list++[⟨d,0,h,ahead⟩]⟩) (λ_ h=>h) E E uU
def A3s(n:Net)(S:Srch)(d:Int)(h:Hop)(ahead:Int)(hd:0≤d∧d.toNat<S.m1.length)(hl:Am S.list):Sq 142 [.ptr 0 0,stSV d 1,Df h,Aa ahead] (Ac1 n S) (.tup []) (Zo n (meetT S d 1 h ahead)):=cT F142 ntmps142 λF hF=>by
 unfold Am at hl;have ak:=meetT.eq_1 S d 1 h ahead;rw[show Tm S d 1=nth S.m1 d from zD j_,Af hd.2,show Om S d 1 h ahead=⟨S.m0,S.m1.set d.toNat true,S.list++[⟨d,1,h,ahead⟩]⟩ from zD j_]at ak;generalize meetT S d 1 h ahead=res at *;refine fW ?_;refine⟨by decide,by decide,?_⟩;refine fW ?_;refine⟨hd.1,hd.2,?_⟩;refine fW ?_;refine⟨E,hd.2,?_⟩;refine fW ?_;refine⟨z_,?_⟩;refine fW ?_;constructor<;>intro h1
 rotate_left
 ·rw[zE (by simpa using h1)]at ak;subst ak;refine Wk 3 1000 E E j_ ?_;refine fU ?_;exact A4 E .nil [(4,1000)] (Zo n res) (λ_ h=>h) E E uU
 rw[zD (by simpa using h1)]at ak;subst ak;refine fU ?_;refine⟨by decide,by decide,?_⟩;refine fW ?_;refine⟨hd.1,hd.2,?_⟩;refine fW ?_;refine⟨E,hd.2,true,E,E,?_⟩;refine fW ?_;refine⟨z_,?_⟩;refine fW ?_;refine Bv (Ag Γ.toTy 40 E E E E E (.row E) (.lit (e:=X8) (l:=[⟨d,1,h,ahead⟩]) E E) y_ (by simp;omega) (by simp;omega)) z_ E ?_;refine fU ?_;refine⟨z_,?_⟩;refine fW ?_;exact A4 E .nil [(4,40)] (Zo n ⟨S.m0,S.m1.set d.toNat true,S.list++[⟨d,1,h,ahead⟩]⟩) (λ_ h=>h) E E uU
structure Srch.OK(n:Net)(S:Srch):Prop where
 l0:S.m0.length=n.domains.length
 l1:S.m1.length=n.domains.length
 at_:∀f∈S.list,(0≤f.domain∧f.domain.toNat<n.domains.length)∧(f.kind=0∨f.kind=1)
 len:S.list.length≤S.m0.count true+S.m1.count true
theorem Srch.OK.le{n:Net}{S:Srch}(h:S.OK n):S.list.length≤2*n.domains.length:=by
 have h1:S.m0.count true≤S.m0.length:=List.count_le_length;have h2:S.m1.count true≤S.m1.length:=List.count_le_length;have:=h.len;rw[h.l0]at h1;rw[h.l1]at h2;omega
def count_set{l:List Bool}{i:Nat}(h:i<l.length)(hi:l[i]=false):(l.set i true).count true=l.count true+1:=by
 rw[List.count_set h,hi];simp
theorem Srch.OK.meet{n:Net}{S:Srch}(h:S.OK n){d k:Int}(hd:0≤d∧d.toNat<n.domains.length)(hk:k=0∨k=1)(hp:Hop)(a:Int):(meetT S d k hp a).OK n:=by
 rw[meetT];split
 ·exact h
 rename_i wz;have h0:d.toNat<S.m0.length:=by rw[h.l0];exact hd.2
 have h1:d.toNat<S.m1.length:=by rw[h.l1];exact hd.2
 rcases hk with rfl|rfl
 ·rw[Tm,zE rfl,Af h0]at wz;rw[Om,zE rfl];refine⟨by simp[h.l0],h.l1,λf hf=>?_,?_⟩
  ·rcases yL.1 hf with hf|hf
   ·exact h.at_ f hf
   ·rw[yA]at hf;subst hf;exact⟨hd,.inl E⟩
  ·rw[count_set h0 (by simpa using wz),zQ,zW];have:=h.len;show _≤_+S.m1.count true;omega
 ·rw[Tm,zD j_,Af h1]at wz;rw[Om,zD j_];refine⟨h.l0,by simp[h.l1],λf hf=>?_,?_⟩
  ·rcases yL.1 hf with hf|hf
   ·exact h.at_ f hf
   ·rw[yA]at hf;subst hf;exact⟨hd,.inr E⟩
  ·rw[count_set h1 (by simpa using wz),zQ,zW];have:=h.len;show _≤S.m0.count true+_;omega
def V7{n:Net}(h:Ac n=true){i:Nat}(hi:i<n.ports.length){v:Int}(hv:Cw n.ports[i] v=true):0≤C5 n n.ports[i].dev v∧(C5 n n.ports[i].dev v).toNat<n.domains.length:=by
 have hp:=Avb h hi;simp only[J8,zG,yT]at hp;simp only[Cw,zG,xB,yO,yI]at hv;have h0:0≤C5 n n.ports[i].dev v:=by
  rcases hv.2 with h1|h1
  ·have h2:=hp.1.2;have h3:=hp.1.1.1.1.1.1.1.2;rw[h1]at hv⊢;have h4:decide (0<n.ports[i].native)=true:=by
    simp only[zK]at h3⊢;omega
   rw[h4]at h2;simpa [Eo] using h2
  ·have h2:=hp.1.1.2;obtain ⟨x,hx,e⟩:=wV.1 h1;obtain ⟨j,hj,rfl⟩:=yZ.1 hx;have h3:=allB_iff.1 h2 j hj;simp only[yI]at e;rw[e]at h3;simpa [Eo] using h3
 refine⟨h0,?_⟩;have:=Ij (λd:Domain=>d.dev==n.ports[i].dev&&d.vlan==v) n.domains;have e:C5 n n.ports[i].dev v=Br (λd:Domain=>d.dev==n.ports[i].dev&&d.vlan==v) n.domains:=rfl;omega
def Ly{n:Net}{i v:Int}(h:(linkDomT n i v).2=true):0≤(linkDomT n i v).1∧(linkDomT n i v).1.toNat<n.domains.length:=by
 unfold linkDomT at h⊢;split at h
 ·rename_i hc;rw[zE hc];have l4:=Aa3 hc;unfold crossT at hc l4⊢;split at hc
  ·rename_i h1;rw[zE h1]at l4⊢;have hb:=(Ek h1.1).2.1;have h2:=h1.2.2;rw[Dq]at h2⊢;rw[B6,zE hb];dsimp only at l4⊢;rw[Af l4.2]at h2⊢;refine V7 hb l4.2 ?_;simp only[Cw,zG,xB,yO,yI];refine⟨h2,?_⟩;split
   ·exact .inl E
   ·rename_i h3;rw[zD h3]at h2;split
    ·rename_i h4;exact .inr h4
    ·rename_i h4;rw[zD h4]at h2;exact yB E h2
  ·cases hc
 ·cases h
def Avc{n:Net}(h:Ac n=true){i:Nat}(hi:i<n.domains.length){p:Int}(hp:p∈n.domains[i].peers):0≤p∧p.toNat<n.domains.length:=by
 simp only[Ac,zG]at h;have h1:=allB_iff.1 h.1.1.1.1.1.1.2 i hi;obtain ⟨j,hj,rfl⟩:=yZ.1 hp;have h2:=allB_iff.1 h1 j hj;simp only[Sb,Ai,zG,zK]at h2;omega
def L1{n:Net}{d:Int}{h:Hop}(hh:h∈Do n d):0≤h.domain∧h.domain.toNat<n.domains.length:=by
 rw[Do]at hh;split at hh
 ·rename_i hd;have hk:d.toNat<n.domains.length:=by have:=hd.1;omega
  rw[hopsL,Af hk]at hh;rcases yL.1 hh with hh|hh
  ·obtain ⟨p,_,hp⟩:=wE.1 hh;rw[linkHop]at hp;split at hp
   ·rename_i hl;simp only[Option.some.injEq]at hp;subst hp;exact Ly hl
   ·cases hp
  ·obtain ⟨p,hp,rfl⟩:=yS.1 hh;exact Avc hd.2 hk hp
 ·cases hh
def M9{n:Net}{d:Int}{q:Lead}(hq:q∈routesT n d):0≤q.domain∧q.domain.toNat<n.domains.length:=by
 rw[routesT]at hq;split at hq
 ·rename_i hc;obtain ⟨i,hi,hp⟩:=wE.1 hq;rw[leadF]at hp;split at hp
  ·simp only[Option.some.injEq]at hp;subst hp;have hi':(i:Int).toNat<n.irbs.length:=by simpa using hi
   show 0≤(nth n.irbs i).domain∧_;rw[Af hi'];exact(E8 hc.2.2 hi').1
  ·cases hp
 ·cases hq
set_option maxHeartbeats 8000000
def ext1(S:Srch)(k i:Int)(l:List Hop):Srch:=l.foldl (λS h=>meetT S h.domain k h i) S
def ext2(S:Srch)(i:Int)(l:List Lead):Srch:=l.foldl (λS q=>meetT S q.domain 1 ⟨3,0,q.domain,q.addr⟩ i) S
def extT(n:Net)(S:Srch)(i:Int):Srch :=
 if (nth S.list i).kind=0 then ext2 (ext1 S 0 i (Do n (nth S.list i).domain)) i (routesT n (nth S.list i).domain) else ext1 S 1 i (Do n (nth S.list i).domain)
def A0q(S:Srch)(k i:Int){l:List Hop}{j:Nat}{h:Hop}(hj:j<l.length)(hh:l[j]=h):ext1 S k i (l.take (j+1))=meetT (ext1 S k i (l.take j)) h.domain k h i:=by
 subst hh;rw[ext1,vR,zU hj,xN];rfl
def A0p(S:Srch)(i:Int){l:List Lead}{j:Nat}{q:Lead}(hj:j<l.length)(hh:l[j]=q):ext2 S i (l.take (j+1))=meetT (ext2 S i (l.take j)) q.domain 1 ⟨3,0,q.domain,q.addr⟩ i:=by
 subst hh;rw[ext2,vR,zU hj,xN];rfl
theorem Srch.OK.ext1{n:Net}{k i:Int}(hk:k=0∨k=1):∀{l:List Hop} {S:Srch},S.OK n→(∀h∈l,0≤h.domain∧h.domain.toNat<n.domains.length)→(ext1 S k i l).OK n
 |[],S,h,_=>h
 |x::l,S,h,hl=>Srch.OK.ext1 hk (l:=l) (h.meet (hl x y_) hk x i) (λy hy=>hl y (by simp[hy]))
theorem Srch.OK.ext2{n:Net}{i:Int}:∀{l:List Lead} {S:Srch},S.OK n→(∀h∈l,0≤h.domain∧h.domain.toNat<n.domains.length)→(ext2 S i l).OK n
 |[],S,h,_=>h
 |x::l,S,h,hl=>Srch.OK.ext2 (l:=l) (h.meet (hl x y_) (.inr rfl) _ i) (λy hy=>hl y (by simp[hy]))
theorem Srch.OK.ext{n:Net}{S:Srch}(h:S.OK n)(i:Int):(extT n S i).OK n:=by
 rw[extT];split
 ·exact(h.ext1 (.inl E) (λx hx=>L1 hx)).ext2 (λx hx=>M9 hx)
 ·exact h.ext1 (.inr E) (λx hx=>L1 hx)
def Aqj{n:Net}(hn:n.Fin)(d:Int):(Do n d).length<4294967296:=by
 have h1:=Kw n hn d;unfold Am at h1;rw[Do];split
 ·rename_i hd;have hk:d.toNat<n.domains.length:=by have:=hd.1;omega
  have h2:=hn.peers _ (zJ hk);unfold Am at h2;have h3:=tB (linkHop n d) (A5 n d);rw[hopsL,Af hk,zQ,xA];omega
 ·decide
def Aii{n:Net}(hn:n.Fin)(d:Int):(routesT n d).length<4294967296:=by
 have h1:=hn.irbs;unfold Am at h1;rw[routesT];split
 ·have:=X2 n (nth n.domains d).irb n.irbs.length;omega
 ·decide
abbrev A2c(n:Net)(S:Srch)(d k:Int):Obs:=[(0,.box [.sl 5 Aw n.devices,.sl 7 A7 n.ports,.sl 3 B5 n.links,.sl 6 Aq n.domains,.sl 4 A2 n.statics,.sl 4 Bh n.floods,.sl 5 Ck n.vrfs,.sl 5 Cb n.irbs,.osl 1,.osl 2,.osl 1000]),
 (1,.row 1 Ab S.m0),(2,.row 1 Ab S.m1),(3,.non),(1000,.row 7 X8 S.list),(4,.box [Aa d,Aa k])]
def A7j(n:Net)(hn:n.Fin)(hu:Ds n)(hD:n.domains.length<1000000)(S:Srch)(hS:S.OK n)(i:Int)(hi:0≤i∧i.toNat<S.list.length):Sq 77 [.ptr 0 0,Aa i] (Ac1 n S) (.tup []) (Zo n (extT n S i)):=cT F77 ntmps77 λF hF=>by
 have ak:=extT.eq_1 n S i;rw[Af hi.2]at ak;generalize extT n S i=res at *;have wb:=(hS.at_ _ (zJ hi.2)).2;obtain ⟨f,hf⟩:∃f,S.list[i.toNat]'hi.2=f:=⟨_,rfl⟩
 rw[hf]at ak wb;obtain ⟨d,k,hp,ah⟩:=f;dsimp only at ak wb;have q1:=Atg n hn d;have q2:=Ajd n hn hu d;have kt:=λh=>L1 (n:=n) (d:=d) (h:=h)
 have wg:=λh=>M9 (n:=n) (d:=d) (q:=h)
 have hs1:=Aqj hn d;have m5:=Aii hn d;generalize Do n d=hops at *;generalize routesT n d=leads at *;have xh:∀k,k=0∨k=1→∀j,(ext1 S k i (hops.take j)).OK n:=λk hk j=>hS.ext1 hk (λx hx=>kt x (wR hx))
 have sw:∀j,(ext2 (ext1 S 0 i hops) i (leads.take j)).OK n:=λj=>Srch.OK.ext2 (hS.ext1 (.inl rfl) (λx hx=>kt x hx)) (λx hx=>wg x (wR hx))
 have ag:=λk j h hj hh=>A0q S k i (l:=hops) (j:=j) (h:=h) hj hh
 have mo:=λj h hj hh=>A0p (ext1 S 0 i hops) i (l:=leads) (j:=j) (q:=h) hj hh
 refine fW ?_;refine⟨hi.1,hi.2,?_⟩;refine fW ?_;refine⟨by intro e;rw[e]at hi;simp at hi,?_⟩;refine fW ?_;refine⟨E,hi.2,?_⟩;rw[hf];refine fW ?_;rcases wb with rfl|rfl
 ·rw[zE rfl]at ak;have xh:=xh 0 j_;have ag:=ag 0;refine fU ?_;refine cD q1 F144 ?_;refine fU ?_;refine⟨z_,?_⟩;refine fW ?_;refine Wk 3 1000 E E j_ ?_;refine A8 hops.length (λj=>[(0,.ptr 0 0),(1,Aa i),(4,.ptr 4 0),(23,.sl 4 Df hops),(24,Aa hops.length),(25,Aa j)]) (λj=>A2c n (ext1 S 0 i (hops.take j)) d 0) []
   uU ?_
  intro j hj;have ri:=xh j;have lej:=ri.le;have l0:=ri.l0;have wi:=ag j;generalize uq:ext1 S 0 i (hops.take j)=Sj at *;refine fU ?_;constructor<;>intro h
  ·have ab:j<hops.length:=by simpa using h
   have ai:(j:Int).toNat<hops.length:=by simpa using ab
   obtain ⟨hp,rj⟩:∃hp,hops[(j:Int).toNat]'ai=hp:=⟨_,rfl⟩
   have mu:=kt hp (by rw[←rj];exact zJ _);have sc:=wi hp ab rj;have q3:=A3t n Sj hp.domain hp i (by rw[l0];exact mu) (by unfold Am;omega);rw[←sc]at q3;refine fU ?_;refine⟨E,by omega,ai,?_⟩;rw[rj];refine fW ?_;refine Ah (Ad [(0,0),(1,1),(2,2),(3,1000),(4,1001)] E F142 q3 E ⟨E,E,E,E,Y⟩ E ⟨.inl E,.inl E,.inl E,.inl E,.inr E,Y⟩) E E ?_;refine gG ?_;exact Az [(1000,1001)] ab uU
  ·have:j=hops.length:=qB h;subst this;rw[yN]at uq;simp only[uq]at ak sw mo;refine fU ?_;refine cD q2 F145 ?_;refine fU ?_;refine⟨z_,?_⟩;refine fW ?_;refine A8 leads.length (λj=>[(0,.ptr 0 0),(1,Aa i),(4,.ptr 4 0),(48,.sl 3 Oq leads),(49,Aa leads.length),(50,Aa j)]) (λj=>A2c n (ext2 Sj i (leads.take j)) d 0) []
    uU ?_
   intro j hj;have ri:=sw j;have lej:=ri.le;have l0:=ri.l1;have wi:=mo j;generalize hSk:ext2 Sj i (leads.take j)=Sk at *;refine fU ?_;constructor<;>intro h
   ·have ab:j<leads.length:=by simpa using h
    have ai:(j:Int).toNat<leads.length:=by simpa using ab
    obtain ⟨hp,rj⟩:∃hp,leads[(j:Int).toNat]'ai=hp:=⟨_,rfl⟩
    have mu:=wg hp (by rw[←rj];exact zJ _);have sc:=wi hp ab rj;have q3:=A3s n Sk hp.domain ⟨3,0,hp.domain,hp.addr⟩ i (by rw[l0];exact mu) (by unfold Am;omega);rw[←sc]at q3;refine fU ?_;refine⟨E,by omega,ai,?_⟩;rw[rj];refine fW ?_;refine Ah (Ad [(0,0),(1,1),(2,2),(3,1000),(4,1001)] E F142 q3 E ⟨E,E,E,E,Y⟩ E ⟨.inl E,.inl E,.inl E,.inl E,.inr E,Y⟩) E E ?_;refine gG ?_;exact Az [(1000,1001)] ab uU
   ·have:j=leads.length:=qB h;subst this;rw[yN]at hSk;rw[hSk]at ak;subst ak;refine fU ?_;exact A4 E .nil [(4,1000)] (Zo n _) (λ_ h=>h) E E uU
 ·rw[zD j_]at ak;clear sw mo q2 m5 wg;have xh:=xh 1 j_;have ag:=ag 1;refine fU ?_;refine cD q1 F144 ?_;refine fU ?_;refine⟨z_,?_⟩;refine fW ?_;refine Wk 3 1000 E E j_ ?_;refine A8 hops.length (λj=>[(0,.ptr 0 0),(1,Aa i),(4,.ptr 4 0),(23,.sl 4 Df hops),(24,Aa hops.length),(25,Aa j)]) (λj=>A2c n (ext1 S 1 i (hops.take j)) d 1) []
   uU ?_
  intro j hj;have ri:=xh j;have lej:=ri.le;have l0:=ri.l1;have wi:=ag j;generalize uq:ext1 S 1 i (hops.take j)=Sj at *;refine fU ?_;constructor<;>intro h
  ·have ab:j<hops.length:=by simpa using h
   have ai:(j:Int).toNat<hops.length:=by simpa using ab
   obtain ⟨hp,rj⟩:∃hp,hops[(j:Int).toNat]'ai=hp:=⟨_,rfl⟩
   have mu:=kt hp (by rw[←rj];exact zJ _);have sc:=wi hp ab rj;have q3:=A3s n Sj hp.domain hp i (by rw[l0];exact mu) (by unfold Am;omega);rw[←sc]at q3;refine fU ?_;refine⟨E,by omega,ai,?_⟩;rw[rj];refine fW ?_;refine Ah (Ad [(0,0),(1,1),(2,2),(3,1000),(4,1001)] E F142 q3 E ⟨E,E,E,E,Y⟩ E ⟨.inl E,.inl E,.inl E,.inl E,.inr E,Y⟩) E E ?_;refine gG ?_;exact Az [(1000,1001)] ab uU
  ·have:j=hops.length:=qB h;subst this;rw[yN]at uq;rw[uq]at ak;subst ak;refine fU ?_;exact A4 E .nil [(4,1000)] (Zo n _) (λ_ h=>h) E E uU
def J2(n:Net)(dev:Int)(S:Srch)(v:Int):Srch:=if v=0 then S else meetT S (B6 n dev v) 0 ⟨0,0,B6 n dev v,0⟩ (-1)
def Km(n:Net):Srch:=⟨List.replicate n.domains.length false,List.replicate n.domains.length false,[]⟩
def O3(n:Net)(dev:Int)(l:List Int):Srch:=l.foldl (J2 n dev) (Km n)
def beginT(n:Net)(port:Int):Srch:=O3 n (nth n.ports port).dev ((nth n.ports port).native::(nth n.ports port).tagged)
def Arg(n:Net)(dev:Int){l:List Int}{j:Nat}{v:Int}(hj:j<l.length)(hh:l[j]=v):O3 n dev (l.take (j+1))=J2 n dev (O3 n dev (l.take j)) v:=by
 subst hh;rw[O3,vR,zU hj,xN];rfl
def Aoi(n:Net):(Km n).OK n:=⟨by simp[Km],by simp[Km],λf hf=>by simp[Km]at hf,by simp[Km]⟩
def W9{n:Net}{dev:Int}{l:List Int}(h:∀v∈l,v≠0→0≤B6 n dev v∧(B6 n dev v).toNat<n.domains.length):(O3 n dev l).OK n:=by
 suffices hs:∀(l:List Int) (S:Srch),S.OK n→(∀v∈l,v≠0→0≤B6 n dev v∧(B6 n dev v).toNat<n.domains.length)→(l.foldl (J2 n dev) S).OK n from hs l _ (Aoi n) h
 intro l
 induction l with
 |nil=>exact λS h _=>h
 |cons x l ih=>
  intro S hS hl;refine ih _ ?_ (λv hv=>hl v (by simp[hv]));rw[J2];split
  ·exact hS
  ·rename_i hx;exact hS.meet (hl x y_ hx) (.inl E) _ _
def Kg{n:Net}(hb:Ac n=true){i:Nat}(hi:i<n.ports.length){v:Int}(hv:v∈n.ports[i].native::n.ports[i].tagged)(h0:v≠0):0≤B6 n n.ports[i].dev v∧(B6 n n.ports[i].dev v).toNat<n.domains.length:=by
 rw[B6,zE hb];refine V7 hb hi ?_;simp only[Cw,zG,xB,yO,yI];refine⟨h0,?_⟩;rcases yH.1 hv with h|h
 ·exact .inl h
 ·exact .inr (wV.2 ⟨v,h,by simp⟩)
abbrev Afl(n:Net)(a b c:SV):Ob:=.box [.sl 5 Aw n.devices,.sl 7 A7 n.ports,.sl 3 B5 n.links,.sl 6 Aq n.domains,.sl 4 A2 n.statics,.sl 4 Bh n.floods,.sl 5 Ck n.vrfs,.sl 5 Cb n.irbs,a,b,c]
abbrev Z7:SV:=.val (.slice none 0 0)
def madeO(n:Net):Nat→Obs
 |0=>[(0,Afl n Z7 Z7 Z7)]
 |1=>[(0,Afl n (.osl 1001) Z7 Z7),(1001,.row 1 Ab (List.replicate n.domains.length false))]
 |_=>[(0,Afl n (.osl 1001) (.osl 1002) Z7),(1001,.row 1 Ab (List.replicate n.domains.length false)),(1002,.row 1 Ab (List.replicate n.domains.length false))]
abbrev srchB(n:Net)(S:Srch)(vs:List Int):Obs:=[(0,Afl n (.osl 1001) (.osl 1002) (.osl 1003)),(1001,.row 1 Ab S.m0),(1002,.row 1 Ab S.m1),(1003,.row 7 X8 S.list),(38,.row 1 Aa vs)]
def beginS(n:Net)(hn:n.Fin)(hb:Ac n=true)(hD:n.domains.length<1000000)(port:Int)(hp:0≤port∧port.toNat<n.ports.length):Sq 73 [.ptr 0 0,Aa port] [(0,Afl n Z7 Z7 Z7)] (.tup []) (Ac1 n (beginT n port)):=cT F73 ntmps73 λF hF=>by
 have ak:=beginT.eq_1 n port;rw[Af hp.2]at ak;generalize beginT n port=res at *;have ar:=λv hv h0=>Kg hb hp.2 (v:=v) hv h0
 have hts:=hn.tagged _ (zJ hp.2);unfold Am at hts;obtain ⟨p,jt⟩:∃p,n.ports[port.toNat]'hp.2=p:=⟨_,rfl⟩
 rw[jt]at ak ar hts;have ax:∀j,(O3 n p.dev ((p.native::p.tagged).take j)).OK n:=λj=>W9 λv hv h0=>ar v (wR hv) h0
 have hsc:=λj v hj hh=>Arg n p.dev (l:=p.native::p.tagged) (j:=j) (v:=v) hj hh
 have hd:=λv=>Ks n hn p.dev v
 refine fW ?_;refine⟨E,hp.1,hp.2,?_⟩;rw[jt];refine fW ?_;refine Ba 4 7 (A7 p) E E E ?_;refine Bi 2 (λ_=>True) (λj=>[(0,.ptr 0 0),(4,.ref 7 (A7 p) 0),(17,Aa j)]) (λj=>madeO n j) [] Y uU ?_;intro j hj _;refine fU ?_;constructor<;>intro h
 ·have ab:j<2:=qA h;have hj01:j=0∨j=1:=by omega
  rcases hj01 with rfl|rfl
  ·refine fU ?_;refine Bv (B4 Γ.toTy (d:=28) (n:=n.domains.length) Ab false E E E E E E E E q_ q_ E E E) z_ E ?_;refine fU ?_;refine⟨by decide,by decide,?_⟩;refine fW ?_;refine⟨z_,?_⟩;refine fW ?_;refine⟨by unfold I64;decide,?_⟩;refine fW ?_;exact Bc [(1001,28)] Y j_ Y uU
  ·refine fU ?_;refine Bv (B4 Γ.toTy (d:=28) (n:=n.domains.length) Ab false E E E E E E E E q_ q_ E E E) z_ E ?_;refine fU ?_;refine⟨by decide,by decide,?_⟩;refine fW ?_;refine⟨z_,?_⟩;refine fW ?_;refine⟨by unfold I64;decide,?_⟩;refine fW ?_;exact Bc [(1002,28)] Y j_ Y uU
 ·have:j=2:=qB h;subst this;refine fU ?_;refine Ah (Ag Γ.toTy 38 E E E E E (.lit (e:=Aa) (l:=[p.native]) E E) .sl j_ (by simp;omega) (by simp;omega)) E E ?_;refine Sz 0 10 1003 7 X8 E E E E ?_;refine fU ?_;generalize jl:p.native::p.tagged=vs at *;have ft:vs.length=p.tagged.length+1:=by rw[←jl];rfl
  refine A8 vs.length (λj=>[(0,.ptr 0 0),(4,.ref 7 (A7 p) 0),(38,.osl 38),(39,Aa vs.length),(40,Aa j)]) (λj=>srchB n (O3 n p.dev (vs.take j)) vs) []
   ⟨⟨rfl,rfl,rfl,rfl,rfl,rfl,zH Aa (by rw[ft];rfl),rfl,rfl,rfl,trivial⟩,⟨.inl rfl,rfl,.inl rfl,rfl,.inl rfl,rfl,.inl rfl,rfl,.inl (zH (Ob.row 1 Aa) jl.symm),rfl,trivial⟩,rfl,rfl⟩ ?_
  intro j hj;have ri:=ax j;have lej:=ri.le;have l0:=ri.l0;have wi:=hsc j;generalize uq:O3 n p.dev (vs.take j)=Sj at *;refine fU ?_;constructor<;>intro h
  ·have ab:j<vs.length:=by simpa using h
   have ai:(j:Int).toNat<vs.length:=by simpa using ab
   obtain ⟨v,hv⟩:∃v,vs[(j:Int).toNat]'ai=v:=⟨_,rfl⟩
   have em:v∈vs:=by rw[←hv];exact zJ _
   have sc:=wi v ab hv;rw[J2]at sc;have yx:=hd v;have hiv:=ar v em;generalize B6 n p.dev v=dm at *;refine fU ?_;refine⟨by omega,ai,?_⟩;refine fW ?_;refine⟨E,ai,?_⟩;rw[hv];refine fW ?_;constructor<;>intro h
   ·have h0:v≠0:=by simpa using h
    rw[zD h0]at sc;have q3:=A3t n Sj dm ⟨0,0,dm,0⟩ (-1) (by rw[l0];exact hiv h0) (by unfold Am;omega);rw[←sc]at q3;refine fU ?_;refine cD yx F141 ?_;refine fU ?_;refine⟨z_,?_⟩;refine fW ?_;refine Ah (Ad [(0,0),(1,1001),(2,1002),(3,1003),(4,1004)] E F142 q3 E ⟨E,E,E,E,Y⟩ E ⟨.inl E,.inl E,.inl E,.inl E,.inr E,Y⟩) E E ?_;refine gG ?_;exact Az [(1003,1004)] ab uU
   ·have h0:v=0:=by simpa using h
    rw[zE h0]at sc;refine gG ?_;exact Az [] ab ⟨⟨E,E,E,E,E,E,E,E,E,E,Y⟩,⟨.inl E,E,.inl (zH (λS=>Ob.row 1 Ab (Srch.m0 S)) sc),E,.inl (zH (λS=>Ob.row 1 Ab (Srch.m1 S)) sc),E,.inl (zH (λS=>Ob.row 7 X8 (Srch.list S)) sc),E,.inl E,E,Y⟩,E,E⟩
  ·have:j=vs.length:=qB h;subst this;rw[yN]at uq;rw[uq]at ak;subst ak;refine fU ?_;exact A4 E .nil [(1,1001),(2,1002),(3,1003)] (Ac1 n _) (λ_ h=>h) E E uU
def Aou(D:List Hop)(hl:D.length<4294967296):Sq 143 [.osl 0] [(0,.row 4 Df D)] (.tup []) [(0,.row 4 Df D.reverse)]:=cT F143 ntmps143 λF hF=>by
 refine gJ ?_;refine A8 (D.length/2) (λj=>[(0,.osl 0),(2,Aa j),(3,Aa ((D.length:Int)-1-j))]) (λj=>[(0,.row 4 Df (Un D j))]) []
  ⟨⟨rfl,rfl,rfl,rfl,zH (λz=>SV.val (.int .i64 z)) q_,rfl,trivial⟩,⟨.inl (zH (Ob.row 4 Df) (Ab3 D)),rfl,trivial⟩,rfl,rfl⟩ ?_
 intro i hi;have sj:=D3 D i;refine fU ?_;constructor<;>intro h2
 ·have ab:2*i+1<D.length:=by have:=zO h2;omega
  obtain ⟨u,hu⟩:∃u,Un D i=u:=⟨_,rfl⟩
  obtain ⟨k,hk⟩:∃k,D.length-1-i=k:=⟨_,rfl⟩
  have cq:(D.length:Int)-1-i=(k:Nat):=by omega
  rw[hu]at sj;have hs:=Ab4 hu ab hk q_ q_;rw[hu,cq];refine fU ?_;refine⟨by omega,by omega,?_⟩;refine fW ?_;refine⟨E,by omega,?_⟩;refine fW ?_;refine⟨by omega,by omega,?_⟩;refine fW ?_;refine⟨E,by omega,?_⟩;refine fW ?_;refine⟨by omega,by omega,?_⟩;refine fW ?_;refine⟨E,by omega,u[k],E,E,?_⟩;refine fW ?_;refine⟨by omega,by simp;omega,?_⟩;refine fW ?_;refine⟨E,by simp;omega,u[i],E,E,?_⟩;refine fW ?_;refine⟨z_,?_⟩;refine gJ ?_;refine iL ?_;refine fW ?_;refine Az [] q_ ⟨⟨E,E,E,E,zH (λz=>SV.val (.int .i64 z)) q_,E,Y⟩,⟨.inl (zH (Ob.row 4 Df) hs.symm),E,Y⟩,E,E⟩
 ·have h3:D.length≤2*i+1:=by have:=zT h2;omega
  rw[Afw D i h3];refine fU ?_;exact A4 E .nil [] [(0,.row 4 Df D.reverse)] (λ_ h=>h) E E uU
def backC(l:List Fnd)(i:Int):List Hop :=
 if _h:0≤i∧(nth l i).ahead<i then (nth l i).hop::backC l (nth l i).ahead else []
 termination_by (i+1).toNat
 decreasing_by omega
def backT(l:List Fnd)(i:Int):List Hop:=(backC l i).reverse
def Backs(l:List Fnd):Prop:=∀i (h:i<l.length),-1≤l[i].ahead∧l[i].ahead<i
theorem Backs.snoc{l:List Fnd}(h:Backs l){f:Fnd}(hf:-1≤f.ahead∧f.ahead<l.length):Backs (l++[f]):=λi hi=>by
 by_cases hl:i<l.length
 ·rw[yU hl];exact h i hl
 ·have:i=l.length:=by simp at hi;omega
  subst this;simpa using hf
theorem Backs.meet{S:Srch}(h:Backs S.list)(d k:Int)(hp:Hop){a:Int}(ha:-1≤a∧a<S.list.length):Backs (meetT S d k hp a).list∧S.list.length≤(meetT S d k hp a).list.length:=by
 rw[meetT];split
 ·exact⟨h,yD _⟩
 ·rw[Om];split
  ·exact⟨h.snoc ha,by simp⟩
  ·exact⟨h.snoc ha,by simp⟩
theorem Backs.ext1{k i:Int}:∀{l:List Hop} {S:Srch},Backs S.list→(-1≤i∧i<S.list.length)→Backs (ext1 S k i l).list∧S.list.length≤(ext1 S k i l).list.length
 |[],S,h,_=>⟨h,yD _⟩
 |x::l,S,h,hi=>by
  obtain ⟨h1,h2⟩:=h.meet x.domain k x hi;obtain ⟨h3,h4⟩:=Backs.ext1 (k:=k) (i:=i) (l:=l) h1 ⟨hi.1,by omega⟩;exact⟨h3,wN h2 h4⟩
theorem Backs.ext2{i:Int}:∀{l:List Lead} {S:Srch},Backs S.list→(-1≤i∧i<S.list.length)→Backs (ext2 S i l).list∧S.list.length≤(ext2 S i l).list.length
 |[],S,h,_=>⟨h,yD _⟩
 |x::l,S,h,hi=>by
  obtain ⟨h1,h2⟩:=h.meet x.domain 1 ⟨3,0,x.domain,x.addr⟩ hi;obtain ⟨h3,h4⟩:=Backs.ext2 (i:=i) (l:=l) h1 ⟨hi.1,by omega⟩;exact⟨h3,wN h2 h4⟩
theorem Backs.ext{n:Net}{S:Srch}(h:Backs S.list){i:Int}(hi:0≤i∧i<S.list.length):Backs (extT n S i).list∧S.list.length≤(extT n S i).list.length:=by
 rw[extT];split
 ·obtain ⟨h1,h2⟩:=h.ext1 (k:=0) (i:=i) (l:=Do n (nth S.list i).domain) ⟨by omega,hi.2⟩;obtain ⟨h3,h4⟩:=h1.ext2 (i:=i) (l:=routesT n (nth S.list i).domain) ⟨by omega,by omega⟩;exact⟨h3,wN h2 h4⟩
 ·exact h.ext1 ⟨by omega,hi.2⟩
def T7(n:Net)(dev:Int)(l:List Int):Backs (O3 n dev l).list:=by
 suffices hs:∀(l:List Int) (S:Srch),Backs S.list→Backs (l.foldl (J2 n dev) S).list from hs l _ (λi h=>by simp[Km]at h)
 intro l
 induction l with
 |nil=>exact λS h=>h
 |cons x l ih=>
  intro S hS;refine ih _ ?_;rw[J2];split
  ·exact hS
  ·exact(hS.meet _ _ _ ⟨by omega,by omega⟩).1
abbrev srchA(n:Net)(S:Srch)(l:List Hop):Obs:=[(0,Afl n (.osl 1) (.osl 2) (.osl 3)),(1,.row 1 Ab S.m0),(2,.row 1 Ab S.m1),(3,.row 7 X8 S.list),(1000,.row 4 Df l)]
def backS(n:Net)(S:Srch)(hB:Backs S.list)(hl:S.list.length<4000000)(i:Int)(hi:-1≤i∧i<S.list.length):Sq 76 [.ptr 0 0,Aa i] (Ac1 n S) (.sl 4 Df (backT S.list i)) (Ac1 n S):=cT F76 ntmps76 λF hF=>by
 have ak:=backT.eq_1 S.list i;generalize backT S.list i=res at *;refine fW ?_;refine Ce 5 1000 4 Df E E ?_;refine Cj (λx:Int×List Hop=>(-1≤x.1∧x.1<S.list.length)∧x.2.length+(x.1+1).toNat≤S.list.length∧x.2++backC S.list x.1=backC S.list i)
  (λx=>[(0,.ptr 0 0),(1,Aa x.1),(5,.osl 1000)]) (λx=>srchA n S x.2) (λx=>(x.1+1).toNat) (i,[]) [] ⟨hi,by simp;omega,rfl⟩
  uU ?_
 rintro ⟨z,acc⟩ ⟨hz,kh,ic⟩;dsimp only at hz kh ic;refine fU ?_;constructor<;>intro h
 ·have h0:0≤z:=zO h;have hk:z.toNat<S.list.length:=by omega
  have hb:=hB z.toNat hk;rw[backC,Af hk]at ic;obtain ⟨f,hf⟩:∃f,S.list[z.toNat]'hk=f:=⟨_,rfl⟩
  rw[hf]at ic hb;rw[dif_pos ⟨h0,by omega⟩]at ic;refine fU ?_;refine⟨h0,hk,?_⟩;refine fW ?_;refine⟨by intro e;rw[e]at hk;simp at hk,?_⟩;refine fW ?_;refine⟨E,hk,?_⟩;rw[hf];refine fW ?_;refine Ah (Ag Γ.toTy 26 E E E E E (.row E) (.lit (e:=Df) (l:=[f.hop]) E E) y_ (by simp;omega) (by simp;omega)) E E ?_;refine fU ?_;refine⟨h0,hk,?_⟩;refine fW ?_;refine⟨by intro e;rw[e]at hk;simp at hk,?_⟩;refine fW ?_;refine⟨E,hk,?_⟩;rw[hf];refine fW ?_;exact Ax (f.ahead,acc++[f.hop]) [(1000,26)] ⟨⟨hb.1,by omega⟩,by simp;omega,by rw[xD];exact ic⟩ (by simp only;omega)
   uU
 ·have h0:¬0≤z:=zT h;rw[backC,dif_neg (λe=>h0 e.1),xM]at ic;have q:=Aou acc q_;rw[←ic]at ak;refine fU ?_;refine Ah (Ad [(0,1000)] E F143 q E ⟨E,Y⟩ E ⟨.inl E,Y⟩) E E ?_;refine Aj 1000 E ?_;rw[←ak];refine fU ?_;exact done E (.cons .tmp .nil) [] (Ac1 n S) (λ_ h=>h) E E uU
def Es(n:Net)(to:Int):Nat→Srch→Nat→List Hop×Bool
 |0,_,_=>([],false)
 |k+1,S,i=>if i<S.list.length then (if inB (A5 n (nth S.list i).domain) to=true then (backT S.list i,true) else Es n to k (extT n S i) (i+1)) else ([],false)
def wayT(n:Net)(from_ to:Int):List Hop×Bool :=
 if K1 n from_=true∧K1 n to=true∧from_≠to∧Ac n=true then Es n to (2*n.domains.length+1) (beginT n from_) 0 else ([],false)
abbrev srchW(n:Net)(S:Srch):Obs:=[(32,Afl n (.osl 1001) (.osl 1002) (.osl 1003)),(1001,.row 1 Ab S.m0),(1002,.row 1 Ab S.m1),(1003,.row 7 X8 S.list)]
def K0{n:Net}{i:Int}(h:K1 n i=true):0≤i∧i.toNat<n.ports.length:=by
 simp only[K1,zG,zK]at h;omega
def wayS(n:Net)(hn:n.Fin)(hu:Ds n)(from_ to:Int):Sp 27 [Ao n,Aa from_,Aa to] (.tup [.sl 4 Df (wayT n from_ to).1,Ab (wayT n from_ to).2]):=cT F27 ntmps27 λF hF=>by
 have ak:=wayT.eq_1 n from_ to;generalize wayT n from_ to=res at *;have hr:=A0 n hn;have h1:=Ze n from_;have h2:=Ze n to;refine fW ?_;refine Ba 3 8 (Ao n) E E E ?_;refine fU ?_;refine c0 h1 F28 ?_;cases hf:K1 n from_
 ·rw[zD (by simp[hf])]at ak;subst ak;refine fU ?_;refine An 6 4 Df E ?_;exact gC
 refine fU ?_;refine c0 h2 F28 ?_;cases ht:K1 n to
 ·rw[zD (by simp[ht])]at ak;subst ak;refine fU ?_;refine An 6 4 Df E ?_;exact gC
 refine fU ?_;constructor<;>intro h
 ·rw[zD (by have:from_=to:=(by simpa using h);simp[this])]at ak;subst ak;refine fU ?_;refine An 6 4 Df E ?_;exact gC
 have af:from_≠to:=by simpa using h
 refine fU ?_;refine c0 hr F20 ?_;cases hb:Ac n
 ·rw[zD (by simp[hb])]at ak;subst ak;refine fU ?_;refine An 6 4 Df E ?_;exact gC
 rw[zE ⟨hf,ht,af,hb⟩]at ak;have hD:n.domains.length<1000000:=by have:=(Aky hb).2.2.2.1;omega
 have hp:=K0 hf;have q0:=beginS n hn hb hD from_ hp;have w5:(beginT n from_).OK n:=by
  rw[beginT,Af hp.2];exact W9 λv hv h0=>Kg hb hp.2 hv h0
 have w6:Backs (beginT n from_).list:=by rw[beginT];exact T7 _ _ _
 generalize beginT n from_=S0 at *;refine fU ?_;refine Ah (Ad [(0,32),(1,1001),(2,1002),(3,1003)] E F73 q0 E ⟨E,Y⟩ E ⟨.inl E,.inr E,.inr E,.inr E,Y⟩) E E ?_;refine fU ?_;refine Cj (λx:Srch×Nat=>x.1.OK n∧Backs x.1.list∧x.2≤x.1.list.length∧res=Es n to (2*n.domains.length+1-x.2) x.1 x.2)
  (λx=>[(2,Aa to),(3,.ref 8 (Ao n) 0),(8,.ptr 32 0),(9,Aa x.2)]) (λx=>srchW n x.1) (λx=>2*n.domains.length+1-x.2) (S0,0) [] ⟨w5,w6,xQ _,ak⟩
  uU ?_
 clear ak w5 w6 q0;rintro ⟨S,i⟩ ⟨ok,bk,hi,ak⟩;dsimp only at ok bk hi ak⊢;have hle:=ok.le;obtain ⟨fuel,hfu⟩:∃k,2*n.domains.length+1-i=k+1:=⟨2*n.domains.length-i,by omega⟩
 rw[hfu,Es]at ak;refine fU ?_;constructor<;>intro h
 ·have ab:i<S.list.length:=qA h;have dg:(i:Int).toNat<S.list.length:=by simpa using ab
  rw[zE ab,Af dg]at ak;obtain ⟨f,pw⟩:∃f,S.list[(i:Int).toNat]'dg=f:=⟨_,rfl⟩
  rw[pw]at ak;have q1:=Qv n hn f.domain;have q2:=Eb (A5 n f.domain) to (Kw n hn f.domain);generalize A5 n f.domain=mem at *;refine fU ?_;refine⟨by omega,dg,?_⟩;refine fW ?_;refine⟨by intro e;rw[e]at ab;simp at ab,?_⟩;refine fW ?_;refine⟨by intro e;rw[e]at ab;simp at ab,?_⟩;refine fW ?_;refine⟨E,dg,?_⟩;rw[pw];refine fW ?_;refine cD q1 F75 ?_;refine fU ?_;refine cD q2 F74 ?_;refine fU ?_;refine⟨z_,?_⟩;refine fW ?_;generalize inB mem to=bm at *;cases bm
  ·refine aF ?_;rw[zD y_]at ak;have q3:=A7j n hn hu hD S ok i ⟨by omega,dg⟩;have ok':=ok.ext i;have yb:=bk.ext (n:=n) (i:=i) ⟨by omega,by omega⟩;generalize extT n S i=S' at *;refine fU ?_;refine Ah (Ad [(0,32),(1,1001),(2,1002),(3,1003),(4,1004)] E F77 q3 E ⟨E,E,E,E,Y⟩ E ⟨.inl E,.inl E,.inl E,.inl E,.inr E,Y⟩) E E ?_;refine gG ?_;exact Ax (S',i+1) [(1003,1004)] ⟨ok',yb.1,by simp only;omega,by simp only;rw[show 2*n.domains.length+1-(i+1)=fuel by omega];exact ak⟩ (by simp only;omega)
    uU
  ·refine aT ?_;rw[zE rfl]at ak;subst ak;have q4:=backS n S bk q_ i ⟨by omega,by omega⟩;generalize backT S.list i=w at *;refine fU ?_;refine Ah (Ad [(0,32),(1,1001),(2,1002),(3,1003)] E F76 q4 E ⟨E,E,E,E,Y⟩ E ⟨.inl E,.inl E,.inl E,.inl E,Y⟩) E E ?_;exact gC
 ·have ab:¬i<S.list.length:=qB h;rw[zD ab]at ak;subst ak;refine fU ?_;refine An 6 4 Df E ?_;exact gC
end Go.Sy.YtolnneiipmfgaaaGreatDoor
namespace Go.Sy.YtolnneiipmfgaaaGreatDoor
open Go.Proofs Go.Proofs.Tryz
def Abj(n:Net)(h:Hop):Prop:=(0≤h.domain∧h.domain.toNat<n.domains.length)∧0≤h.addr∧h.addr<4294967296
def A1f{n:Net}{irb to e:Int}(he:e<4294967296):∀{x:Int},0≤x→0≤(addrGo n irb to e x).1∧(addrGo n irb to e x).1<4294967296:=by
 intro x
 induction x using addrGo.induct n irb to e with
 |case1 x h1 h2=>intro h0;rw[addrGo,zE h1,zE h2];exact⟨h0,by simp only;omega⟩
 |case2 x h1 h2 h3=>intro h0;rw[addrGo,zE h1,zD h2,zE h3];decide
 |case3 x h1 h2 h3 h4 ih=>intro h0;rw[addrGo,zE h1,zD h2,zD h3,zE h4];exact ih q_
 |case4 x h1 h2 h3 h4=>intro h0;rw[addrGo,zE h1,zD h2,zD h3,zD h4];decide
 |case5 x h1=>intro h0;rw[addrGo,zD h1];decide
def Arq{n:Net}(hu:Ds n)(irb to:Int):0≤(addrT n irb to).1∧(addrT n irb to).1<4294967296:=by
 rw[addrT];split
 ·rename_i hc;have hk:to.toNat<n.irbs.length:=by omega
  rw[Af hk];have nh:=hu _ (zJ hk);exact A1f (Aag _ _ nh).2 (Aku _ _ nh).1
 ·decide
def Aqk{n:Net}{d:Int}{h:Hop}(hh:h∈Do n d):Abj n h:=by
 refine⟨L1 hh,?_⟩;rw[Do]at hh;split at hh
 ·rcases yL.1 hh with hh|hh
  ·obtain ⟨p,_,hp⟩:=wE.1 hh;rw[linkHop]at hp;split at hp
   ·simp only[Option.some.injEq]at hp;subst hp;exact⟨by simp,by simp⟩
   ·cases hp
  ·obtain ⟨p,hp,rfl⟩:=yS.1 hh;exact⟨by simp[Kv],by simp[Kv]⟩
 ·cases hh
def Alz{n:Net}(hu:Ds n){d:Int}{q:Lead}(hq:q∈routesT n d):0≤q.addr∧q.addr<4294967296:=by
 rw[routesT]at hq;split at hq
 ·obtain ⟨i,hi,hp⟩:=wE.1 hq;rw[leadF]at hp;split at hp
  ·simp only[Option.some.injEq]at hp;subst hp;exact Arq hu _ _
  ·cases hp
 ·cases hq
def HopsOK(n:Net)(l:List Fnd):Prop:=∀f∈l,Abj n f.hop
theorem HopsOK.meet{n:Net}{S:Srch}(h:HopsOK n S.list)(d k:Int){hp:Hop}(hh:Abj n hp)(a:Int):HopsOK n (meetT S d k hp a).list:=by
 rw[meetT];split
 ·exact h
 ·rw[Om];split<;>(intro f hf;rcases yL.1 hf with hf|hf;exact h f hf;rw[yA]at hf;subst hf;exact hh)
theorem HopsOK.ext1{n:Net}{k i:Int}:∀{l:List Hop} {S:Srch},HopsOK n S.list→(∀h∈l,Abj n h)→HopsOK n (ext1 S k i l).list
 |[],S,h,_=>h
 |x::l,S,h,hl=>HopsOK.ext1 (l:=l) (h.meet x.domain k (hl x y_) i) (λy hy=>hl y (by simp[hy]))
theorem HopsOK.ext2{n:Net}{i:Int}:∀{l:List Lead} {S:Srch},HopsOK n S.list→(∀q∈l,Abj n ⟨3,0,q.domain,q.addr⟩)→HopsOK n (ext2 S i l).list
 |[],S,h,_=>h
 |x::l,S,h,hl=>HopsOK.ext2 (l:=l) (h.meet x.domain 1 (hl x y_) i) (λy hy=>hl y (by simp[hy]))
theorem HopsOK.ext{n:Net}(hu:Ds n){S:Srch}(h:HopsOK n S.list)(i:Int):HopsOK n (extT n S i).list:=by
 rw[extT];split
 ·exact(h.ext1 (λx hx=>Aqk hx)).ext2 (λq hq=>⟨M9 hq,Alz hu hq⟩)
 ·exact h.ext1 (λx hx=>Aqk hx)
def Arh{n:Net}{dev:Int}{l:List Int}(h:∀v∈l,v≠0→0≤B6 n dev v∧(B6 n dev v).toNat<n.domains.length):HopsOK n (O3 n dev l).list:=by
 suffices hs:∀(l:List Int) (S:Srch),HopsOK n S.list→(∀v∈l,v≠0→0≤B6 n dev v∧(B6 n dev v).toNat<n.domains.length)→HopsOK n (l.foldl (J2 n dev) S).list from hs l _ (λf hf=>by simp[Km]at hf) h
 intro l
 induction l with
 |nil=>exact λS h _=>h
 |cons x l ih=>
  intro S hS hl;refine ih _ ?_ (λv hv=>hl v (by simp[hv]));rw[J2];split
  ·exact hS
  ·rename_i hx;exact hS.meet _ _ ⟨hl x y_ hx,by simp,by simp⟩ _
def Arj{l:List Fnd}(hB:Backs l){P:Hop→Prop}(hP:∀f∈l,P f.hop):∀(k:Nat) (i:Int),i<k→i<l.length→(∀h∈backC l i,P h)∧((backC l i).length:Int)≤i+1∨i<0:=by
 intro k
 induction k with
 |zero=>intro i hi _;exact .inr q_
 |succ k ih=>
  intro i hi hl;by_cases h0:0≤i
  ·left;have hk:i.toNat<l.length:=by omega
   have hb:=hB i.toNat hk;rw[backC,Af hk,dif_pos ⟨h0,by omega⟩];have hm:=hP _ (zJ hk);rcases ih (l[i.toNat]'hk).ahead q_ q_ with ⟨h1,h2⟩|h1
   ·refine⟨λh hh=>?_,by rw[yM];omega⟩;rcases yH.1 hh with rfl|hh
    ·exact hm
    ·exact h1 h hh
   ·rw[backC,dif_neg (λe=>by omega)];refine⟨λh hh=>?_,by simp;omega⟩;rw[yA]at hh;subst hh;exact hm
  ·exact .inr q_
def Ad7{l:List Fnd}(hB:Backs l){P:Hop→Prop}(hP:∀f∈l,P f.hop){i:Nat}(hi:i<l.length):(∀h∈backT l i,P h)∧(backT l i).length≤i+1∧backT l i≠[]:=by
 rcases Arj hB hP (i+1) i q_ q_ with ⟨h1,h2⟩|h
 ·refine⟨λh hh=>h1 h (by simpa [backT] using hh),by rw[backT,List.length_reverse];omega,?_⟩;rw[backT];intro e;have hk:(i:Int).toNat<l.length:=by simpa using hi
  have hb:=hB (i:Int).toNat hk;rw[backC,Af hk,dif_pos ⟨by omega,by omega⟩]at e;simp at e
 ·omega
def Xq{n:Net}(hu:Ds n){to:Int}:∀(k:Nat) (S:Srch) (i:Nat),S.OK n→Backs S.list→HopsOK n S.list→i≤S.list.length→(Es n to k S i).2=true →
  (∀h∈(Es n to k S i).1,Abj n h)∧(Es n to k S i).1.length≤2*n.domains.length∧(Es n to k S i).1≠[]
 |0,S,i,_,_,_,_,h=>by cases h
 |k+1,S,i,ok,bk,hk,hi,h=>by
  rw[Es]at h⊢;split at h
  ·rename_i ab;rw[zE ab];split at h
   ·rename_i bx;rw[zE bx];have:=Ad7 bk hk ab;have hle:=ok.le;exact⟨this.1,by have:=this.2.1;simp only;omega,this.2.2⟩
   ·rename_i bx;rw[zD bx];have yb:=bk.ext (n:=n) (i:=i) ⟨by omega,by omega⟩;exact Xq hu k _ _ (ok.ext i) yb.1 (hk.ext hu i) q_ h
  ·cases h
def Ar0{n:Net}(hu:Ds n){from_ to:Int}(h:(wayT n from_ to).2=true):(∀h∈(wayT n from_ to).1,Abj n h)∧(wayT n from_ to).1.length≤2*n.domains.length∧(wayT n from_ to).1≠[]∧Ac n=true:=by
 rw[wayT]at h⊢;split at h
 ·rename_i hc;rw[zE hc];have hp:=K0 hc.1;have w5:(beginT n from_).OK n:=by
   rw[beginT,Af hp.2];exact W9 λv hv h0=>Kg hc.2.2.2 hp.2 hv h0
  have bl:HopsOK n (beginT n from_).list:=by
   rw[beginT,Af hp.2];exact Arh λv hv h0=>Kg hc.2.2.2 hp.2 hv h0
  have w6:Backs (beginT n from_).list:=by rw[beginT];exact T7 _ _ _
  obtain ⟨h1,h2,h3⟩:=Xq hu _ _ _ w5 w6 bl (xQ _) h;exact⟨h1,h2,h3,hc.2.2.2⟩
 ·cases h
def A5h(a b:ByteArray):(a==b)=true↔a=b:=by
 cases a;cases b;rename_i x y;show (x==y)=true↔_;rw[yI];simp
def Amv{α:Type}{p:α→Bool}{l:List α}{i:Int}(h:Br p l=i)(h0:0≤i):∃hi:i.toNat<l.length,p l[i.toNat]=true:=by
 unfold Br at h;split at h
 ·rename_i j hj;rw[xZ]at hj;obtain ⟨h1,h2,_⟩:=hj;subst h;exact⟨by simpa using h1,by simpa using h2⟩
 ·omega
attribute [local irreducible] Go.Sy.G Go.Sy.DR
set_option maxRecDepth 100000
set_option maxHeartbeats 4000000
def Xz(i:Nat)(c:UInt8):Bool:=A37 c||(Lb c&&decide (i≠0))
def A3m(s:ByteArray):A1 s=(H7 Xz s.data.toList&&(decide (0<s.size)&&decide (s.size≤12))):=by
 have bh:s.data.toList.length=s.size:=rfl;rw[A1,←bh];cases hl:s.data.toList with
 |nil=>rfl
 |cons c l=>
  have e:H7 Xz (c::l)=(A37 c&&l.all λc=>A37 c||Lb c):=by
   rw[wF,allB_iff,zG,yV];constructor
   ·intro h;refine⟨by have:=h 0 y_;simpa [Xz] using this,λx hx=>?_⟩;obtain ⟨i,hi,rfl⟩:=yZ.1 hx;have:=h (i+1) (by simp;omega);simpa [Xz] using this
   ·rintro ⟨h1,h2⟩ i hi;cases i with
    |zero=>simp[Xz,h1]
    |succ i=>
     have:=h2 (l[i]'(by simp at hi;omega)) (zJ _);simpa [Xz] using this
  rw[e,A8d];simp
def E3(s:ByteArray)(hs:s.size≤1000000):Sp 47 [Ap s] (Ab (A1 s)):=cT F47 ntmps47 λF hF=>by
 have bh:s.data.toList.length=s.size:=rfl;have hw:=A3m s;obtain ⟨r,hr⟩:∃r,A1 s=r:=⟨_,rfl⟩
 rw[hr]at hw⊢;refine T ?_;refine Bi s.size (λj=>H8 Xz s.data.toList j) (λj=>[(0,Ap s),(7,Aa s.size),(8,Aa j)]) (λ_=>[]) [] (Bo _ _) U ?_;intro j hj hI;refine T ?_;constructor<;>intro h
 ·have ab:j<s.data.toList.length:=qA h;have hb:Bu s j=s.data.toList[j]:=Ae3 ab;have dp:=λh=>Dg (p:=Xz) ab h
  have gy:=λh=>Bl (p:=Xz) hI ab h
  rw[←hb]at dp gy;clear h;have hx:Xz j (Bu s j)=((decide (97≤(Bu s j).toNat)&&decide ((Bu s j).toNat≤122))||((decide (48≤(Bu s j).toNat)&&decide ((Bu s j).toNat≤57))&&decide (j≠0))):=rfl;rcases (by omega:(Bu s j).toNat<48∨(48≤(Bu s j).toNat∧(Bu s j).toNat≤57)∨(57<(Bu s j).toNat∧(Bu s j).toNat<97)∨(97≤(Bu s j).toNat∧(Bu s j).toNat≤122)∨122<(Bu s j).toNat) with h|h|h|h|h
  ·rw[dp (by rw[hx,zI (by omega:¬97≤(Bu s j).toNat),zI (by omega:¬48≤(Bu s j).toNat)];rfl),yG]at hw;subst hw;exact gB
  ·by_cases h0:j=0
   ·subst h0;rw[dp (by rw[hx,zI (by omega:¬97≤(Bu s 0).toNat)];simp),yG]at hw;subst hw;exact gB
   ·refine T ?_;exact Bc [] hI q_ (gy (by rw[hx];simp[h,h0])) U
  ·rw[dp (by rw[hx,zI (by omega:¬97≤(Bu s j).toNat),zI (by omega:¬(Bu s j).toNat≤57)];simp),yG]at hw;subst hw;exact gB
  ·refine T ?_;exact Bc [] hI q_ (gy (by rw[hx];simp[h])) U
  ·rw[dp (by rw[hx,zI (by omega:¬(Bu s j).toNat≤122),zI (by omega:¬(Bu s j).toNat≤57)];simp),yG]at hw;subst hw;exact gB
 ·have cm:j=s.size:=qB h;subst cm;rw[Hh hI (yD _),yF]at hw;clear h;subst hw;by_cases h0:0<s.size
  ·refine T ?_;refine⟨λ_=>?_,λh=>yB (zT h) q_⟩;refine T ?_;refine As E (.cons .tmp .nil) (zH Ab ?_) E;rw[zL h0,yF];exact decide_eq_decide.2 q_
  ·rw[zI h0,yG];exact gB
def Aj4(c:UInt8):Sp 215 [Ak c] (Bj (digI c)):=cT F215 ntmps215 λF hF=>by
 have aa:=digI.eq_1 c;generalize digI c=res at *;have gx:=c.toNat_lt;rcases (by omega:c.toNat<48∨(48≤c.toNat∧c.toNat≤57)∨(57<c.toNat∧c.toNat<97)∨(97≤c.toNat∧c.toNat≤102)∨102<c.toNat) with h|h|h|h|h
 ·rw[zD q_,zD q_]at aa;subst aa;exact gB
 ·rw[zE q_]at aa;subst aa;refine T ?_;refine As E (.cons .tmp .nil) ?_ E;refine zH (λz=>SV.val (.int .u64 z)) (?_:_=IntKind.u64.wrap (IntKind.u8.wrap ((c.toNat:Int)-48)));rw[IntKind.wrap_u8,IntKind.wrap_u64];omega
 ·rw[zD q_,zD q_]at aa;subst aa;exact gB
 ·rw[zD q_,zE q_]at aa;subst aa;refine T ?_;refine As E (.cons .tmp .nil) ?_ E;refine zH (λz=>SV.val (.int .u64 z)) (?_:_=IntKind.u64.wrap (IntKind.u64.wrap (IntKind.u8.wrap ((c.toNat:Int)-97))+10));rw[IntKind.wrap_u8,IntKind.wrap_u64,IntKind.wrap_u64];omega
 ·rw[zD q_,zD q_]at aa;subst aa;exact gB
def Yx{s:ByteArray}:∀{j:Nat},(∀i,i<j→Aab s i=true)→0≤Xh s j∧Xh s j<256^j
 |0,_=>by simp[Xh]
 |j+1,h=>by
  have ih:=Yx (s:=s) (j:=j) (λi hi=>h i q_);have hj:=h j q_;simp only[Aab,zG,zK]at hj;have d1:=Ae0 (Bu s (3*j));have d2:=Ae0 (Bu s (3*j+1));rw[Xh,Int.pow_succ];omega
def A3z(m a b:Nat)(hm:m<72057594037927936)(ha:a<16)(hb:b<16):bits .or .u64 (bits .or .u64 (IntKind.u64.wrap ((m:Int)*2^min (Int.toNat 8) IntKind.u64.bits)) (IntKind.u64.wrap ((a:Int)*2^min (Int.toNat 4) IntKind.u64.bits))) (b:Int)=((m*256+a*16+b:Nat):Int):=by
 have e1:IntKind.u64.wrap ((m:Int)*2^min (Int.toNat 8) IntKind.u64.bits)=((m*256:Nat):Int):=by
  show IntKind.u64.wrap ((m:Int)*256)=_;rw[IntKind.wrap_u64];omega
 have e2:IntKind.u64.wrap ((a:Int)*2^min (Int.toNat 4) IntKind.u64.bits)=((a*16:Nat):Int):=by
  show IntKind.u64.wrap ((a:Int)*16)=_;rw[IntKind.wrap_u64];omega
 have o1:=xP (i:=8) (b:=a*16) q_ m;have o2:=xP (i:=4) (b:=b) q_ (m*16+a);have f1:m*256|||a*16=m*256+a*16:=by rw[vB m 256];exact o1.symm
 have f2:(m*256+a*16)|||b=m*256+a*16+b:=by
  have e:m*256+a*16=2^4*(m*16+a):=by omega
  rw[e];exact o2.symm
 rw[e1,e2,bits_or_u64_nat _ _ q_ q_,f1,bits_or_u64_nat _ _ q_ q_,f2]
def macR_no{s:ByteArray}{j:Nat}(hj:j<6)(h:Aab s j=false):macR s=(0,false):=by
 rw[macR,zD];rintro ⟨_,h2⟩;rw[yV]at h2;rw[h2 j (xC.2 hj)]at h;cases h
def A30(s:ByteArray)(hs:s.size≤1000000):Sp 156 [Ap s] (.tup [Bj (macR s).1,Ab (macR s).2]):=cT F156 ntmps156 λF hF=>by
 have dp:=@macR_no s;have tj:=macR.eq_1 s;generalize macR s=res at *;by_cases h17:s.size=17;rotate_left
 ·rw[zD (λe=>h17 e.1)]at tj;subst tj;exact gB
 refine T ?_;refine Bi 6 (λj=>∀i,i<j→Aab s i=true) (λj=>[(0,Ap s),(4,Bj (Xh s j)),(11,Aa j)]) (λ_=>[]) [] (λi hi=>by omega) U ?_;intro j hj hI;have hmv:=Yx hI;refine T ?_;constructor<;>intro h
 ·have ab:j<6:=qA h;have dp:=dp ab;clear h;have i0:(3*((j:Nat):Int)).toNat=3*j:=by omega
  have i1:(3*((j:Nat):Int)+1).toNat=3*j+1:=by omega
  have i2:(3*((j:Nat):Int)+2).toNat=3*j+2:=by omega
  have hx:Aab s j=(decide (digI (Bu s (3*j))≤15)&&decide (digI (Bu s (3*j+1))≤15)&&(decide (5≤j)||decide ((Bu s (3*j+2)).toNat=58))):=rfl;have hv:Xh s (j+1)=Xh s j*256+digI (Bu s (3*j))*16+digI (Bu s (3*j+1)):=rfl;rw[←i1,←i2,←i0]at hx;rw[←i1,←i0]at hv;have d1:=Ae0 (Bu s (3*((j:Nat):Int)).toNat);have d2:=Ae0 (Bu s (3*((j:Nat):Int)+1).toNat);have q1:=Aj4 (Bu s (3*((j:Nat):Int)).toNat);have q2:=Aj4 (Bu s (3*((j:Nat):Int)+1).toNat);by_cases c1:digI (Bu s (3*((j:Nat):Int)).toNat)≤15
  ·have f1:decide (digI (Bu s (3*((j:Nat):Int)).toNat)>15)=false:=zI q_;by_cases c2:digI (Bu s (3*((j:Nat):Int)+1).toNat)≤15
   ·have f2:decide (digI (Bu s (3*((j:Nat):Int)+1).toNat)>15)=false:=zI q_;have hp:(256:Int)^j≤256^5:=by
     have:=wX (n:=256) j_ (show j≤5 by omega)
     exact_mod_cast this
    have br:=A3z (Xh s j).toNat (digI (Bu s (3*((j:Nat):Int)).toNat)).toNat (digI (Bu s (3*((j:Nat):Int)+1).toNat)).toNat q_ q_ q_;have hst2:((((Xh s j).toNat*256+(digI (Bu s (3*((j:Nat):Int)).toNat)).toNat*16+(digI (Bu s (3*((j:Nat):Int)+1).toNat)).toNat:Nat)):Int)=Xh s (j+1):=by rw[hv];omega
    rw[hst2,yR hmv.1,yR d1.1,yR d2.1]at br;by_cases c3:j<5
    ·by_cases c4:(Bu s (3*((j:Nat):Int)+2).toNat).toNat=58
     ·have f4:(((Bu s (3*((j:Nat):Int)+2).toNat).toNat:Int) != 58)=false:=by rw[c4];rfl
      have r8:Aab s j=true:=by rw[hx,c4];simp[c1,c2]
      refine gA q1 F215 q2 F215 ?_;exact Bc [] hI ab (λ i hi=>by
       by_cases e:i=j
       ·rw[e];exact r8
       ·exact hI i q_) ⟨⟨E,E,zH Bj br.symm,E,E,E,Y⟩,Y,E,E⟩
     ·have f4:(((Bu s (3*((j:Nat):Int)+2).toNat).toNat:Int) != 58)=true:=by
       rw[xB];omega
      have r8:Aab s j=false:=by rw[hx,zI c4,zI (by omega:¬5≤j)];simp
      rw[dp r8];refine gA q1 F215 q2 F215 ?_;exact D
    ·have r8:Aab s j=true:=by rw[hx];simp[c1,c2];omega
     refine gA q1 F215 q2 F215 ?_;exact Bc [] hI ab (λ i hi=>by
      by_cases e:i=j
      ·rw[e];exact r8
      ·exact hI i q_) ⟨⟨E,E,zH Bj br.symm,E,E,E,Y⟩,Y,E,E⟩
   ·have f2:decide (digI (Bu s (3*((j:Nat):Int)+1).toNat)>15)=true:=zL q_;rw[dp (by rw[hx,zI c2];simp)];refine gA q1 F215 q2 F215 ?_;exact D
  ·have f1:decide (digI (Bu s (3*((j:Nat):Int)).toNat)>15)=true:=zL q_;rw[dp (by rw[hx,zI c1];rfl)];refine gA q1 F215 q2 F215 ?_;exact D
 ·have cm:j=6:=qB h;subst cm;clear h;rw[zE ⟨h17,by rw[yV];intro i hi;exact hI i (xC.1 hi)⟩]at tj;subst tj;exact gB
def Aqc(m:Nat)(h:m<18446744073709551616):(((bits .and .u64 (m:Int) 281474976710655).fdiv (2^min (Int.toNat 32) IntKind.u64.bits)) != 512)=!(Kx m):=by
 have e:=bits_and_u64_nat m 281474976710655 h j_;have e2:m&&&281474976710655=m%281474976710656:=uN m 48;have e3:bits .and .u64 (m:Int) 281474976710655=((m%281474976710656:Nat):Int):=by rw[←e2];exact e
 have e4:((m%281474976710656:Nat):Int).fdiv (2^min (Int.toNat 32) IntKind.u64.bits)=((m%281474976710656/4294967296:Nat):Int):=by
  show ((m%281474976710656:Nat):Int).fdiv 4294967296=_;rw[wL _ j_,Int.natCast_ediv];rfl
 rw[e3,e4,Kx];by_cases hh:m%281474976710656/4294967296=512
 ·rw[hh,zL q_];rfl
 ·rw[zI q_];simp;omega
def A4j(m:Int):Int:=if Kx m=true then IntKind.u32.wrap (bits .and .u64 m 281474976710655) else 0
def A7a(m:Nat)(h:m<18446744073709551616):Sp 216 [Bj m] (.tup [A9 (A4j m),Ab (Kx m)]):=cT F216 ntmps216 λF hF=>by
 have hb:=Aqc m h;rw[A4j];cases hh:Kx m with
 |true=>
  have hb:=hb.trans (by rw[hh];rfl:_=false);rw[zE rfl];exact gB
 |false=>
  have hb:=hb.trans (by rw[hh];rfl:_=true);rw[zD y_];exact gB
def Azx(m:Nat)(h:m<18446744073709551616):Sp 177 [Bj m] (Ab (Dx m)):=cT F177 ntmps177 λF hF=>by
 have hb:=Akk m h;refine T ?_;exact As E (.cons .tmp .nil) (zH Ab hb.symm) E
def Afj(m:Nat)(h:m<18446744073709551616):Sp 157 [Bj m] (Ab (statB m)):=cT F157 ntmps157 λF hF=>by
 have q1:=A7a m h;have q2:=Azx m h;have hw:=statB.eq_1 (m:Int);rw[zZ]at hw;generalize statB (m:Int)=r at *;generalize A4j (m:Int)=hv at *;by_cases c1:(m:Int)≤281474976710655
 ·rw[zL c1,yF]at hw;have f1:decide ((m:Int)≤281474976710655)=true:=zL c1;cases hh:Kx m with
  |true=>
   rw[hh]at q1 hw;simp at hw;subst hw;refine gD q1 F216 ?_;exact D
  |false=>
   rw[hh]at q1 hw;simp at hw;subst hw;refine gA q1 F216 q2 F177 ?_;exact D
 ·rw[zI c1]at hw;have f1:decide ((m:Int)≤281474976710655)=false:=zI c1;simp at hw;subst hw;refine gD q1 F216 ?_;exact D
def Ot(one:ByteArray→Int×Bool)(out:List Int)(s:ByteArray)(b:Bool):List Int×Bool:=if b=true then I5 one out (C2 44 s) else (out,true)
def A4f{c:UInt8}:∀{l:List UInt8},0≤Lib.indexByte l c→c∈l
 |[],h=>by simp[Lib.indexByte]at h
 |b::l,h=>by
  unfold Lib.indexByte at h;by_cases hb:(b==c)=true
  ·simp at hb;simp[hb]
  ·rw[zD hb]at h;by_cases h1:(Lib.indexByte l c == -1)=true
   ·rw[zE h1]at h;omega
   ·rw[zD h1]at h;have:=Kz l c;have h2:Lib.indexByte l c≠-1:=by simpa using h1
    exact List.mem_cons_of_mem _ (A4f q_)
def Agv(one:ByteArray→Int×Bool)(out:List Int)(s:ByteArray):Ot one out s true=(if (one (cutT 44 s).1).2=false∨out.length=16∨(∃x,out.getLast? = some x∧(one (cutT 44 s).1).1≤x) then ([],false) else Ot one (out++[(one (cutT 44 s).1).1]) (cutT 44 s).2.1 (cutT 44 s).2.2):=by
 rw[Ot,zE rfl,Ajp];have bh:s.data.toList.length=s.size:=rfl;have tk:∀i,s.extract 0 i=mkT (s.data.toList.take i):=λi=>by rw[←Kt s,E4,Ku];simp
 by_cases h:0≤Lib.indexByte s.data.toList 44
 ·have hm:=A4f h;have e2:s.extract (L0 44 s.data.toList+1) s.size=mkT (s.data.toList.drop (L0 44 s.data.toList+1)):=by
   have:=E4 s.data.toList (L0 44 s.data.toList+1) s.size;rw[Kt]at this;rw[this,←bh,yN]
  rw[cutT,zE h,S7 44 _ _ hm,wP,I5,tk,e2];dsimp only;rw[Ot,zE rfl,Ajp,Ku]
 ·have hm:(44:UInt8)∉s.data.toList:=λhh=>h (Kc hh).1
  rw[cutT,zD h,S8 44 _ _ hm,wP,Kt,I5];simp only[Ot,zD (show ¬(false=true) by simp),I5]
def Ak3(s:ByteArray):(cutT 44 s).1.size≤s.size∧(cutT 44 s).2.1.size≤s.size∧((cutT 44 s).2.2=true→(cutT 44 s).2.1.size<s.size):=by
 have bh:s.data.toList.length=s.size:=rfl;have ab:=Tv s.data.toList 44;have ex:∀i j,(s.extract i j).size=((s.data.toList.take j).drop i).length:=λi j=>by
  have:=E4 s.data.toList i j;rw[Kt]at this;rw[this,Is]
 rw[cutT];split
 ·rename_i h;refine⟨?_,?_,λ_=>?_⟩
  ·rw[ex,yQ,zY];omega
  ·rw[ex,yQ,zY];omega
  ·rw[ex,yQ,zY];have:L0 44 s.data.toList+1≤s.data.toList.length:=by unfold L0;omega
   omega
 ·exact⟨yD _,xQ _,λe=>by cases e⟩
def Apj(one:ByteArray→Int×Bool)(f:FuncId)(first cap:List SV)(hc:(SV.clo (.func f) first cap).inn []=true)(hr:∀ρ:Nat→Nat,(SV.clo (.func f) first cap).ren ρ=.clo (.func f) first cap)(s0:ByteArray)(hs:s0.size≤10000)(hf:∀p:ByteArray,p.size≤s0.size→Hb prog f (first++[Ap p]++cap) (.tup [Aa (one p).1,Ab (one p).2])):Sp 218 [Ap s0,.clo (.func f) first cap] (.tup [.sl 1 Aa (Ig one s0).1,Ab (Ig one s0).2]):=cT F218 ntmps218 λF hF=>by
 have aa:Ig one s0=Ot one [] s0 true:=rfl;generalize Ig one s0=res at *;have fk:(SV.clo (.func f) first cap).inn [1000]=true:=Tu _ hc;have ar:∀y:SV,y.inn []=true→B8 [] (first++[y]++cap)=true:=λy hy=>by
  simp only[SV.inn,zG]at hc;rw[Iw,Iw,hc.1,hc.2];simp[B8,hy]
 refine T ?_;refine Ce 6 1000 1 Aa E E ?_;refine T ?_;refine Cj (λx:ByteArray×Bool×List Int=>res=Ot one x.2.2 x.1 x.2.1∧x.1.size≤s0.size∧x.2.2.length≤16) (λx=>[(0,Ap x.1),(1,.clo (.func f) first cap),(6,.osl 1000),(7,Ab x.2.1)]) (λx=>[(1000,.row 1 Aa x.2.2)]) (λx=>if x.2.1=true then x.1.size+1 else 0) (s0,true,[]) [] ⟨aa,yD _,by simp⟩ ⟨⟨E,E,Bd _,fk,E,E,E,E,Y⟩,⟨.inl E,E,Y⟩,E,E⟩ ?_;rintro ⟨s,b,out⟩ ⟨hI,bh,me⟩;dsimp only at hI bh me⊢;cases b with
 |false=>
  rw[Ot,zD y_]at hI;subst hI;refine T ?_;refine Aj 1000 E ?_;exact gB
 |true=>
  have q1:=Zm s 44 q_;have iu:=Ak3 s;rw[Agv]at hI;generalize cutT 44 s=ct at *;obtain ⟨p,r,m⟩:=ct;dsimp only at hI iu q1;have q2:=hf p q_;generalize one p=op at *;obtain ⟨v,ok⟩:=op;dsimp only at hI q2;refine gD q1 F44 ?_;refine Eg q2 E E E (by simp only[ar (Ap p) E];rfl) E E ?_;cases ok with
  |false=>
   rw[zE (.inl rfl)]at hI;subst hI;refine T ?_;refine An 4 1 Aa E ?_;exact gB
  |true=>
   by_cases c1:out.length=16
   ·rw[zE (.inr (.inl c1))]at hI;subst hI;refine T ?_;refine An 4 1 Aa E ?_;exact gB
   ·by_cases c2:out.length=0
    ·have hn:out=[]:=zX c2;rw[zD (by rw[hn];simp)]at hI;refine T ?_;refine X (Ag Γ.toTy 49 E E E E E (.row E) (.lit (e:=Aa) (l:=[v]) E E) y_ (by simp;omega) (by simp;omega)) ?_;refine Ax (r,m,out++[v]) [(1000,49)] ⟨hI,by dsimp only;omega,by simp;omega⟩ (by
      have h3:=iu.2.2;cases m
      ·simp
      ·have:=h3 rfl;simp;omega) ⟨⟨rfl,rfl,hr _,fk,rfl,rfl,rfl,rfl,trivial⟩,⟨.inl rfl,rfl,trivial⟩,rfl,rfl⟩
    ·have hk:((out.length:Int)-1).toNat<out.length:=by omega
     have d5:out.getLast? = some (out[((out.length:Int)-1).toNat]'hk):=by
      rw[List.getLast?_eq_getElem?,zU q_];congr 1;have:out.length-1=((out.length:Int)-1).toNat:=by omega
      simp only[this]
     have f2:decide ((out.length:Int)>0)=true:=zL q_;by_cases c3:v≤out[((out.length:Int)-1).toNat]'hk
     ·have f3:decide (out[((out.length:Int)-1).toNat]'hk≥v)=true:=zL c3;rw[zE (.inr (.inr ⟨_,d5,c3⟩))]at hI;subst hI;refine T ?_;refine An 4 1 Aa E ?_;exact gB
     ·have f3:decide (out[((out.length:Int)-1).toNat]'hk≥v)=false:=zI c3;rw[zD (by
       rintro (hh|hh|⟨x,hx,hh⟩)
       ·cases hh
       ·exact c1 hh
       ·rw[d5]at hx;simp only[Option.some.injEq]at hx;rw[← hx]at hh;exact c3 hh)]at hI
      refine T ?_;refine X (Ag Γ.toTy 49 E E E E E (.row E) (.lit (e:=Aa) (l:=[v]) E E) y_ (by simp;omega) (by simp;omega)) ?_;refine Ax (r,m,out++[v]) [(1000,49)] ⟨hI,by dsimp only;omega,by simp;omega⟩ (by
      have h3:=iu.2.2;cases m
      ·simp
      ·have:=h3 rfl;simp;omega) ⟨⟨rfl,rfl,hr _,fk,rfl,rfl,rfl,rfl,trivial⟩,⟨.inl rfl,rfl,trivial⟩,rfl,rfl⟩
def Aph(one:ByteArray→Int×Bool)(f:FuncId)(first cap:List SV)(hc:(SV.clo (.func f) first cap).inn []=true)(hr:∀ρ:Nat→Nat,(SV.clo (.func f) first cap).ren ρ=.clo (.func f) first cap)(s0:ByteArray)(hs:s0.size≤10000)(hf:∀p:ByteArray,p.size≤s0.size→Hb prog f (first++[Ap p]++cap) (.tup [A9 (one p).1,Ab (one p).2])):Sp 161 [Ap s0,.clo (.func f) first cap] (.tup [.sl 1 A9 (Ig one s0).1,Ab (Ig one s0).2]):=cT F161 ntmps161 λF hF=>by
 have aa:Ig one s0=Ot one [] s0 true:=rfl;generalize Ig one s0=res at *;have fk:(SV.clo (.func f) first cap).inn [1000]=true:=Tu _ hc;have ar:∀y:SV,y.inn []=true→B8 [] (first++[y]++cap)=true:=λy hy=>by
  simp only[SV.inn,zG]at hc;rw[Iw,Iw,hc.1,hc.2];simp[B8,hy]
 refine T ?_;refine Ce 6 1000 1 A9 E E ?_;refine T ?_;refine Cj (λx:ByteArray×Bool×List Int=>res=Ot one x.2.2 x.1 x.2.1∧x.1.size≤s0.size∧x.2.2.length≤16) (λx=>[(0,Ap x.1),(1,.clo (.func f) first cap),(6,.osl 1000),(7,Ab x.2.1)]) (λx=>[(1000,.row 1 A9 x.2.2)]) (λx=>if x.2.1=true then x.1.size+1 else 0) (s0,true,[]) [] ⟨aa,yD _,by simp⟩ ⟨⟨E,E,Bd _,fk,E,E,E,E,Y⟩,⟨.inl E,E,Y⟩,E,E⟩ ?_;rintro ⟨s,b,out⟩ ⟨hI,bh,me⟩;dsimp only at hI bh me⊢;cases b with
 |false=>
  rw[Ot,zD y_]at hI;subst hI;refine T ?_;refine Aj 1000 E ?_;exact gB
 |true=>
  have q1:=Zm s 44 q_;have iu:=Ak3 s;rw[Agv]at hI;generalize cutT 44 s=ct at *;obtain ⟨p,r,m⟩:=ct;dsimp only at hI iu q1;have q2:=hf p q_;generalize one p=op at *;obtain ⟨v,ok⟩:=op;dsimp only at hI q2;refine gD q1 F44 ?_;refine Eg q2 E E E (by simp only[ar (Ap p) E];rfl) E E ?_;cases ok with
  |false=>
   rw[zE (.inl rfl)]at hI;subst hI;refine T ?_;refine An 4 1 A9 E ?_;exact gB
  |true=>
   by_cases c1:out.length=16
   ·rw[zE (.inr (.inl c1))]at hI;subst hI;refine T ?_;refine An 4 1 A9 E ?_;exact gB
   ·by_cases c2:out.length=0
    ·have hn:out=[]:=zX c2;rw[zD (by rw[hn];simp)]at hI;refine T ?_;refine X (Ag Γ.toTy 49 E E E E E (.row E) (.lit (e:=A9) (l:=[v]) E E) y_ (by simp;omega) (by simp;omega)) ?_;refine Ax (r,m,out++[v]) [(1000,49)] ⟨hI,by dsimp only;omega,by simp;omega⟩ (by
      have h3:=iu.2.2;cases m
      ·simp
      ·have:=h3 rfl;simp;omega) ⟨⟨rfl,rfl,hr _,fk,rfl,rfl,rfl,rfl,trivial⟩,⟨.inl rfl,rfl,trivial⟩,rfl,rfl⟩
    ·have hk:((out.length:Int)-1).toNat<out.length:=by omega
     have d5:out.getLast? = some (out[((out.length:Int)-1).toNat]'hk):=by
      rw[List.getLast?_eq_getElem?,zU q_];congr 1;have:out.length-1=((out.length:Int)-1).toNat:=by omega
      simp only[this]
     have f2:decide ((out.length:Int)>0)=true:=zL q_;by_cases c3:v≤out[((out.length:Int)-1).toNat]'hk
     ·have f3:decide (out[((out.length:Int)-1).toNat]'hk≥v)=true:=zL c3;rw[zE (.inr (.inr ⟨_,d5,c3⟩))]at hI;subst hI;refine T ?_;refine An 4 1 A9 E ?_;exact gB
     ·have f3:decide (out[((out.length:Int)-1).toNat]'hk≥v)=false:=zI c3;rw[zD (by
       rintro (hh|hh|⟨x,hx,hh⟩)
       ·cases hh
       ·exact c1 hh
       ·rw[d5]at hx;simp only[Option.some.injEq]at hx;rw[← hx]at hh;exact c3 hh)]at hI
      refine T ?_;refine X (Ag Γ.toTy 49 E E E E E (.row E) (.lit (e:=A9) (l:=[v]) E E) y_ (by simp;omega) (by simp;omega)) ?_;refine Ax (r,m,out++[v]) [(1000,49)] ⟨hI,by dsimp only;omega,by simp;omega⟩ (by
      have h3:=iu.2.2;cases m
      ·simp
      ·have:=h3 rfl;simp;omega) ⟨⟨rfl,rfl,hr _,fk,rfl,rfl,rfl,rfl,trivial⟩,⟨.inl rfl,rfl,trivial⟩,rfl,rfl⟩
def Amj(p:ByteArray)(lo hi:Int):Sp 219 [Ap p,.ref 1 (Aa lo) 0,.ref 1 (Aa hi) 0] (.tup [Aa (numR p lo hi).1,Ab (numR p lo hi).2]):=cT F219 ntmps219 λF hF=>by
 have q:=Api p lo hi;generalize numR p lo hi=r at *;refine gD q F155 ?_;exact D
def Ami(s:ByteArray)(hi:Int)(hs:s.size≤10000):Sp 162 [Ap s,Aa 1,Aa hi] (.tup [.sl 1 Aa (Ig (λp=>numR p 1 hi) s).1,Ab (Ig (λp=>numR p 1 hi) s).2]):=cT F162 ntmps162 λF hF=>by
 have q:=Apj (λp=>numR p 1 hi) 219 [] [.ref 1 (Aa 1) 0,.ref 1 (Aa hi) 0] rfl (λ_=>rfl) s hs (λp _=>⟨⟨_,_,F219⟩,Amj p 1 hi⟩);generalize Ig (λp=>numR p 1 hi) s=r at *;refine T ?_;refine Ba 4 1 (Aa 1) E E E ?_;refine Ba 5 1 (Aa hi) E E E ?_;refine gD q F218 ?_;exact D
def Ait(s:ByteArray)(hs:s.size≤10000):Sp 95 [Ap s] (.tup [.sl 1 A9 (Ee s).1,Ab (Ee s).2]):=cT F95 ntmps95 λF hF=>by
 have q:=Aph D4 92 [] [] rfl (λ_=>rfl) s hs (λp hp=>⟨⟨_,_,F92⟩,Acq p q_⟩);unfold Ee;generalize Ig D4 s=r at *;refine gD q F161 ?_;exact D
def Arr(s:ByteArray)(hs:s.size≤10000):Sp 97 [Ap s] (.tup [Oh (prefixR s).1.1 (prefixR s).1.2,Ab (prefixR s).2]):=cT F97 ntmps97 λF hF=>by
 have q1:=Zm s 47 q_;have aa:=prefixR.eq_1 s;have iu:(cutT 47 s).1.size≤s.size:=by
  rw[cutT];split
  ·have:=E4 s.data.toList 0 (L0 47 s.data.toList);rw[Kt]at this;rw[this,Is,yQ,zY];have:s.data.toList.length=s.size:=rfl;omega
  ·exact yD _
 generalize cutT 47 s=ct at *;obtain ⟨p,r,m⟩:=ct;dsimp only at aa iu q1;have q2:=Acq p q_;have q3:=Aia r 32;generalize prefixR s=res at *;generalize D4 p=a at *;generalize smallT r 32=b at *;obtain ⟨av,ao⟩:=a;obtain ⟨bv,bo⟩:=b;dsimp only at aa q2 q3;cases m<;>cases ao<;>cases bo
 all_goals (simp at aa;subst aa)
 all_goals (refine T ?_;refine C q1 F44 ?_;refine C q2 F92 ?_;refine C q3 F160 ?_;exact D)
abbrev rdO(w:List ByteArray)(i:Nat)(e:Int):Obs:=[(0,.box [.sl 1 Ap w,Aa i,Aa e])]
def Dm{w:List ByteArray}{i:Nat}(h:i<w.length):wdT w i=w[i]:=by rw[wdT,zU h];rfl
def Qf(w:List ByteArray)(i:Nat)(e:Int)(hi:i<w.length)(hw:w.length≤1000000):Sq 93 [.ptr 0 0] (rdO w i e) (Ap (wdT w i)) (rdO w (i+1) e):=cT F93 ntmps93 λF hF=>by
 have hk:((i:Int)+1-1).toNat<w.length:=by omega
 have hx:wdT w i=w[((i:Int)+1-1).toNat]'hk:=by
  rw[Dm hi];have:((i:Int)+1-1).toNat=i:=by omega
  simp only[this]
 rw[hx];refine T ?_;exact done E (.cons .tmp .nil) [] (rdO w (i+1) e) (λ_ h=>h) E E U
def Js(w:List ByteArray)(i:Nat)(e:Int)(b:Bool)(c:Int):Sq 90 [.ptr 0 0,Ab b,Aa c] (rdO w i e) (.tup []) (rdO w i (At e b c)):=cT F90 ntmps90 λF hF=>by
 cases b with
 |false=>
  have hf:At e false c=e:=by rw[At,zD y_]
  rw[hf];refine T ?_;exact A4 E .nil [] (rdO w i e) (λ_ h=>h) E E U
 |true=>
  by_cases h:e=0
  ·have hf:At e true c=c:=by rw[At,zE ⟨rfl,h⟩]
   rw[hf];subst h;refine T ?_;exact A4 E .nil [] (rdO w i c) (λ_ h=>h) E E U
  ·have hf:At e true c=e:=by rw[At,zD (λx=>h x.2)]
   rw[hf];have hb:(e==0)=false:=by simpa using h
   refine T ?_;exact A4 E .nil [] (rdO w i e) (λ_ h=>h) E E U
def Hf(w:List ByteArray)(i:Nat)(e:Int)(hi:i<w.length)(hw:w.length≤1000000)(hs:∀s∈w,s.size≤40):Sq 86 [.ptr 0 0] (rdO w i e) (Ap (wdT w i)) (rdO w (i+1) (At e (!(A1 (wdT w i))) 20)):=cT F86 ntmps86 λF hF=>by
 have hwd:(wdT w i).size≤40:=by rw[Dm hi];exact hs _ (zJ hi)
 have q1:=Qf w i e hi hw;have q2:=E3 (wdT w i) q_;have q3:=Js w (i+1) e (!(A1 (wdT w i))) 20;generalize A1 (wdT w i)=nb at *;generalize wdT w i=x at *;refine T ?_;refine X (Ad [] E F93 q1 E W E V) ?_;refine C q2 F47 ?_;refine X (Ad [] E F90 q3 E W E V) ?_;exact done E (.cons .tmp .nil) [] (rdO w (i+1) (At e (!nb) 20)) (λ_ h=>h) E E U
def Wq(w:List ByteArray)(i:Nat)(e lo zo:Int)(hi:i<w.length)(hw:w.length≤1000000):Sq 88 [.ptr 0 0,Aa lo,Aa zo] (rdO w i e) (Aa (numR (wdT w i) lo zo).1) (rdO w (i+1) (At e (!(numR (wdT w i) lo zo).2) 21)):=cT F88 ntmps88 λF hF=>by
 have q1:=Qf w i e hi hw;have q2:=Api (wdT w i) lo zo;generalize numR (wdT w i) lo zo=r at *;have q3:=Js w (i+1) e (!r.2) 21;generalize wdT w i=x at *;refine T ?_;refine X (Ad [] E F93 q1 E W E V) ?_;refine C q2 F155 ?_;refine X (Ad [] E F90 q3 E W E V) ?_;exact done E (.cons .tmp .nil) [] (rdO w (i+1) (At e (!r.2) 21)) (λ_ h=>h) E E U
def Zx(w:List ByteArray)(i:Nat)(e:Int)(hi:i<w.length)(hw:w.length≤1000000):Sq 87 [.ptr 0 0] (rdO w i e) (Aa (C3 (wdT w i)).1) (rdO w (i+1) (At e (!(C3 (wdT w i)).2) 21)):=cT F87 ntmps87 λF hF=>by
 have q:=Wq w i e 1 4094 hi hw;unfold C3;generalize numR (wdT w i) 1 4094=r at *;refine T ?_;refine X (Ad [] E F88 q E W E V) ?_;exact done E (.cons .tmp .nil) [] (rdO w (i+1) (At e (!r.2) 21)) (λ_ h=>h) E E U
def A2t(w:List ByteArray)(i:Nat)(e:Int)(hi:i<w.length)(hw:w.length≤1000000):Sq 94 [.ptr 0 0] (rdO w i e) (Aa (S3 (wdT w i)).1) (rdO w (i+1) (At e (!(S3 (wdT w i)).2) 21)):=cT F94 ntmps94 λF hF=>by
 have q:=Wq w i e 1 16777215 hi hw;unfold S3;generalize numR (wdT w i) 1 16777215=r at *;refine T ?_;refine X (Ad [] E F88 q E W E V) ?_;exact done E (.cons .tmp .nil) [] (rdO w (i+1) (At e (!r.2) 21)) (λ_ h=>h) E E U
def A0o(e c:Int):At e false c=e:=by rw[At,zD y_]
def Aeu(w:List ByteArray)(i:Nat)(e bf:Int)(hi:i<w.length)(hw:w.length≤1000000)(hs:∀s∈w,s.size≤40):Sq 96 [.ptr 0 0,Aa bf] (rdO w i e) (.sl 1 Aa (listR bf (wdT w i)).1) (rdO w (i+1) (At e (!(listR bf (wdT w i)).2) 21)):=cT F96 ntmps96 λF hF=>by
 have hwd:(wdT w i).size≤40:=by rw[Dm hi];exact hs _ (zJ hi)
 have q1:=Qf w i e hi hw;have q2:=Ami (wdT w i) bf q_;have aa:=listR.eq_1 bf (wdT w i);generalize listR bf (wdT w i)=res at *;by_cases hd:wdT w i=A7r
 ·rw[zE hd]at aa;subst aa;have hb:(wdT w i==(⟨#[45]⟩:ByteArray))=true:=(Lq _ _).2 hd;rw[show (!(([]:List Int),true).2)=false from rfl,A0o];refine T ?_;refine X (Ad [] E F93 q1 E W E V) ?_;refine An 4 1 Aa E ?_;refine T ?_;exact done E (.cons .tmp .nil) [] (rdO w (i+1) e) (λ_ h=>h) E E U
 ·rw[zD hd]at aa;have hb:(wdT w i==(⟨#[45]⟩:ByteArray))=false:=by
   cases hx:(wdT w i==(⟨#[45]⟩:ByteArray))
   ·rfl
   ·exact yB ((Lq _ _).1 hx) hd
  rw[←aa]at q2;have q3:=Js w (i+1) e (!res.2) 21;clear aa;refine T ?_;refine X (Ad [] E F93 q1 E W E V) ?_;refine C q2 F162 ?_;refine X (Ad [] E F90 q3 E W E V) ?_;exact done E (.cons .tmp .nil) [] (rdO w (i+1) (At e (!res.2) 21)) (λ_ h=>h) E E U
def At8(s:ByteArray):∃m:Nat,(macR s).1=m∧m<281474976710656:=by
 rw[macR];split
 ·rename_i h;have:=Yx (s:=s) (j:=6) (λi hi=>by have:=h.2;rw[yV]at this;exact this i (xC.2 hi));refine⟨(Xh s 6).toNat,?_,?_⟩
  ·rw[yR this.1]
  ·have h2:Xh s 6<281474976710656:=this.2;omega
 ·exact⟨0,E,by decide⟩
def macE(s:ByteArray):Bool:=!((macR s).2&&statB (macR s).1)
def A2u(w:List ByteArray)(i:Nat)(e:Int)(hi:i<w.length)(hw:w.length≤1000000)(hs:∀s∈w,s.size≤40):Sq 89 [.ptr 0 0] (rdO w i e) (Bj (macR (wdT w i)).1) (rdO w (i+1) (At e (macE (wdT w i)) 21)):=cT F89 ntmps89 λF hF=>by
 have hwd:(wdT w i).size≤40:=by rw[Dm hi];exact hs _ (zJ hi)
 have q1:=Qf w i e hi hw;have q2:=A30 (wdT w i) q_;obtain ⟨m,ck,bx⟩:=At8 (wdT w i);have q4:=Afj m q_;have aa:=macE.eq_1 (wdT w i);rw[ck]at aa;generalize macE (wdT w i)=be at *;have q3:=Js w (i+1) e be 21;generalize macR (wdT w i)=r at *;obtain ⟨rv,rb⟩:=r;dsimp only at ck;subst ck;generalize statB (m:Int)=sb at *;cases rb with
 |false=>
  simp at aa;subst aa;refine T ?_;refine X (Ad [] E F93 q1 E W E V) ?_;refine C q2 F156 ?_;refine X (Ad [] E F90 q3 E W E V) ?_;exact done E (.cons .tmp .nil) [] (rdO w (i+1) (At e true 21)) (λ_ h=>h) E E U
 |true=>
  simp at aa;subst aa;refine T ?_;refine X (Ad [] E F93 q1 E W E V) ?_;refine gI q2 F156 q4 F157 ?_;refine X (Ad [] E F90 q3 E W E V) ?_;exact done E (.cons .tmp .nil) [] (rdO w (i+1) (At e (!sb) 21)) (λ_ h=>h) E E U
end Go.Sy.YtolnneiipmfgaaaGreatDoor
namespace Go.Sy.YtolnneiipmfgaaaGreatDoor
open Go.Proofs Go.Proofs.Tryz
def Awv{s:ByteArray}{lo hi v:Int}(h:numR s lo hi=(v,true)):lo≤v∧v≤hi:=by
 unfold numR at h
 repeat' split at h
 all_goals first|(simp at h;done)|(simp only[Prod.mk.injEq,and_true]at h;omega)
def Ip{s:ByteArray}{lo hi:Int}(h:(numR s lo hi).2=true):lo≤(numR s lo hi).1∧(numR s lo hi).1≤hi:=Awv (v:=(numR s lo hi).1) (by rw[←h])
def Av1(l:List Int):Prop:=l.Pairwise (·<·)
def Sh(one:ByteArray→Int×Bool):∀(ps:List ByteArray) (out r:List Int),I5 one out ps=(r,true)→Av1 out→out.length≤16 →
  Av1 r∧r.length≤16∧r.length=out.length+ps.length∧∀x∈r,x∈out∨∃p∈ps,one p=(x,true)
 |[],out,r,h,h1,h2=>by
  rw[I5]at h;simp only[Prod.mk.injEq,and_true]at h;subst h;exact⟨h1,h2,by simp,λx hx=>.inl hx⟩
 |p::ps,out,r,h,h1,h2=>by
  rw[I5]at h;split at h
  ·simp at h
  ·rename_i hn;simp only[uL]at hn;obtain ⟨n1,n2,n3⟩:=hn;have hr:Av1 (out++[(one p).1]):=by
    refine tY.2 ⟨h1,List.pairwise_singleton _ _,λy hy z hz=>?_⟩;simp only[yA]at hz;subst hz;cases hl:out.getLast? with
    |none=>rw[List.getLast?_eq_none_iff]at hl;subst hl;cases hy
    |some w=>
     have ab:¬(one p).1≤w:=λhh=>n3 ⟨w,hl,hh⟩
     obtain ⟨c,rfl⟩:∃c,out=c++[w]:=by
      have af:out≠[]:=λe=>by rw[e]at hy;cases hy
      refine⟨out.dropLast,?_⟩;have:=vV af;rw[List.getLast?_eq_some_getLast af]at hl;simp only[Option.some.injEq]at hl;rw[←hl];exact this.symm
     rcases yL.1 hy with hy|hy
     ·have:=(tY.1 h1).2.2 y hy w y_;omega
     ·simp only[yA]at hy;omega
   obtain ⟨a,b,c,d⟩:=Sh one ps _ r h hr (by rw[zQ];simp;omega);refine⟨a,b,by rw[c];simp;omega,λx hx=>?_⟩;rcases d x hx with hx|⟨q,hq,e⟩
   ·rcases yL.1 hx with hx|hx
    ·exact .inl hx
    ·simp only[yA]at hx;refine .inr ⟨p,by simp,?_⟩;rw[hx];have:(one p).2=true:=by simpa using n1
     rw[←this]
   ·exact .inr ⟨q,by simp[hq],e⟩
def Ajs{l:List Int}(h:∀i (hi:i+1<l.length),l[i]<l[i+1]):Av1 l:=by
 unfold Av1;rw[wG];intro i j hi hj bc
 induction j with
 |zero=>omega
 |succ j ih=>
  by_cases e:i=j
  ·subst e;exact h i hj
  ·have:=ih q_ q_;have:=h j hj;omega
def X9:∀(l:List (Bool×Int)),(∀x∈l,x.2≠0)→Bt l=0→∀x∈l,x.1=false
 |[],_,_,x,hx=>by cases hx
 |(b,e)::l,h,h0,x,hx=>by
  rw[Bt]at h0;cases b with
  |true=>rw[zE rfl]at h0;exact yB h0 (h (true,e) y_)
  |false=>
   rw[zD y_]at h0;rcases yH.1 hx with hx|hx
   ·rw[hx]
   ·exact X9 l (λy hy=>h y (by simp[hy])) h0 x hx
def rising_iff{l:List Int}{lo hi:Int}:Jq l lo hi=true↔Av1 l∧(∀x∈l,lo≤x∧x≤hi)∧0<l.length∧l.length≤16:=by
 have hg:∀i (h:i<l.length),nth l (i:Int)=l[i]:=λi h=>Af (i:=(i:Int)) h
 rw[Jq,zG,zG,zK,zK,allB_iff];constructor
 ·rintro ⟨⟨h1,h2⟩,h⟩;refine⟨Ajs λi hi=>?_,λx hx=>?_,h1,h2⟩
  ·have:=h (i+1) hi;simp only[Xs,zG,yO,zK,yI]at this;rw[show (((i+1:Nat):Int)-1)=(i:Int) by omega,hg i q_]at this;omega
  ·obtain ⟨i,hi,rfl⟩:=yZ.1 hx;have:=h i hi;simp only[Xs,zG,zK]at this;exact this.1
 ·rintro ⟨h,h1,h2⟩;refine⟨h2,λi hi=>?_⟩;have hx:=h1 _ (zJ hi);simp only[Xs,zG,yO,zK,yI];refine⟨hx,?_⟩;by_cases h0:i=0
  ·exact .inl h0
  ·right;rw[show ((i:Int)-1)=((i-1:Nat):Int) by omega,hg (i-1) q_];exact wG.1 h (i-1) i q_ hi q_
def listOK_iff{l:List Int}{hi:Int}:Ev l hi=true↔l=[]∨Jq l 1 hi=true:=by
 rw[Ev,U5,yO,zK,vE]
def A1d{l:List Int}(hn:∀x∈l,0≤x):La l=true↔Av1 l∧(∀x∈l,x≠0)∧0<l.length∧l.length≤16:=by
 have hg:∀i (h:i<l.length),l.getD i 0=l[i]:=λi h=>by rw[wC,zU h];rfl
 rw[La,zG,zG,zK,zK,yV];constructor
 ·rintro ⟨h,h1,h2⟩;refine⟨Ajs λi hi=>?_,λx hx=>?_,h1,h2⟩
  ·have:=h (i+1) (xC.2 hi);rw[Nat.add_sub_cancel,hg _ hi,hg i q_]at this;simp only[zG,yO,zK,yI]at this;omega
  ·obtain ⟨i,hi,rfl⟩:=yZ.1 hx;have:=h i (xC.2 hi);rw[hg i hi]at this;simp only[zG,zK]at this;exact this.1
 ·rintro ⟨h,h1,h2⟩;refine⟨λi hi=>?_,h2⟩;have hi:=xC.1 hi;have hx:=h1 _ (zJ hi);rw[hg i hi];simp only[zG,yO,zK,yI];refine⟨hx,?_⟩;by_cases h0:i=0
  ·exact .inl h0
  ·right;rw[hg (i-1) q_];exact wG.1 h (i-1) i q_ hi q_
def A66{s:ByteArray}{hi:Int}{l:List Int}(h:listR hi s=(l,true)):Ev l hi=true:=by
 rw[listR]at h;split at h
 ·simp only[Prod.mk.injEq,and_true]at h;subst h;rfl
 ·rw[Ig]at h;obtain ⟨a,b,c,d⟩:=Sh _ _ _ _ h List.Pairwise.nil j_;refine listOK_iff.2 (.inr (rising_iff.2 ⟨a,λx hx=>?_,?_,b⟩))
  ·rcases d x hx with hx|⟨p,_,hp⟩
   ·cases hx
   ·exact Awv hp
  ·rw[c,Lm];simp
def L7(s:ByteArray):0≤(D4 s).1:=by
 rw[D4];split
 ·dsimp only;generalize C2 46 s=l;cases hl:l.reverse with
  |nil=>
   have:l=[]:=by simpa using hl
   subst this;exact wB _
  |cons x r=>
   have:l=r.reverse++[x]:=by
    have:=zH List.reverse hl;simpa using this
   rw[this,Zb];show 0≤IntKind.u32.wrap _;rw[IntKind.wrap_u32];omega
 ·exact wB _
def Ub(s:ByteArray):(D4 s).1<4294967296:=by
 rw[D4];split
 ·dsimp only;generalize C2 46 s=l;cases hl:l.reverse with
  |nil=>
   have:l=[]:=by simpa using hl
   subst this;decide
  |cons x r=>
   have:l=r.reverse++[x]:=by
    have:=zH List.reverse hl;simpa using this
   rw[this,Zb];show IntKind.u32.wrap _<_;rw[IntKind.wrap_u32];omega
 ·decide
def A5t{s:ByteArray}{l:List Int}(h:Ee s=(l,true))(h0:l.head? ≠ some 0):La l=true:=by
 rw[Ee,Ig]at h;obtain ⟨a,b,c,d⟩:=Sh _ _ _ _ h List.Pairwise.nil j_;have hn:∀x∈l,0≤x:=λx hx=>by
  rcases d x hx with hx|⟨p,_,hp⟩
  ·cases hx
  ·have:=L7 p;rw[hp]at this;exact this
 refine(A1d hn).2 ⟨a,λx hx e=>?_,by rw[c,Lm];simp,b⟩;subst e;cases l with
 |nil=>cases hx
 |cons y l=>
  rcases yH.1 hx with hx|hx
  ·subst hx;exact h0 rfl
  ·have h1:=(vX.1 a).1 0 hx;have h2:=hn y y_;omega
set_option maxHeartbeats 4000000
def Hv(a:LineM):M7 a a=true:=by simp[M7]
def El(w:List ByteArray)(row:Int):∀x∈(B9 w row).2,x.2≠0:=by
 unfold B9 Em;dsimp only
 repeat' split
 all_goals simp
def Ax9{w:List ByteArray}{row:Int}(h:(Cp w row).2=0):(Cp w row).1=(B9 w row).1∧∀x∈(B9 w row).2,x.1=false:=by
 rw[Cp]at h⊢;split at h
 ·simp at h
 ·rename_i h1;rw[zD h1];split at h
  ·rename_i h2;exact yB h h2
  ·rename_i h2;rw[zD h2];exact⟨E,X9 _ (El w row) q_⟩
def k1:kindL ⟨#[100,101,118,105,99,101]⟩=1:=by decide +kernel
def k2:kindL ⟨#[112,111,114,116]⟩=2:=by decide +kernel
def k3:kindL ⟨#[108,105,110,107]⟩=3:=by decide +kernel
def k4:kindL ⟨#[115,116,97,116,105,99]⟩=4:=by decide +kernel
def k5:kindL ⟨#[118,116,101,112]⟩=5:=by decide +kernel
def k6:kindL ⟨#[118,110,105]⟩=6:=by decide +kernel
def k7:kindL ⟨#[102,108,111,111,100]⟩=7:=by decide +kernel
def k8:kindL ⟨#[118,114,102]⟩=8:=by decide +kernel
def k9:kindL ⟨#[105,114,98]⟩=9:=by decide +kernel
def Ald:Hy≠Hi:=by decide +kernel
def wd0(a:ByteArray)(l:List ByteArray):wdT (a::l) 0=a:=rfl
def st1(d n m:ByteArray)(r:Int):B9 [⟨#[100,101,118,105,99,101]⟩,d,n,m] r=({lineZ with row:=r,kind:=1,dev:=d,num:=(numR n 0 65535).1,mac:=(macR m).1},[(!(A1 d),20),(!(numR n 0 65535).2,21),(!((macR m).2&&statB (macR m).1),21)]):=by
 unfold B9;simp only[wd0,k1];rfl
def st3(d p q f:ByteArray)(r:Int):B9 [⟨#[108,105,110,107]⟩,d,p,q,f] r=({lineZ with row:=r,kind:=3,dev:=d,port:=p,peer:=q,far:=f},[(!(A1 d),20),(!(A1 p),20),(!(A1 q),20),(!(A1 f),20)]):=by
 unfold B9;simp only[wd0,k3];rfl
def st4(d v m p:ByteArray)(r:Int):B9 [⟨#[115,116,97,116,105,99]⟩,d,v,m,p] r=({lineZ with row:=r,kind:=4,dev:=d,vlan:=(C3 v).1,mac:=(macR m).1,port:=p},[(!(A1 d),20),(!(C3 v).2,21),(!((macR m).2&&statB (macR m).1),21),(!(A1 p),20)]):=by
 unfold B9;simp only[wd0,k4];rfl
def within_iff{n lo hi:Int}:Cs n lo hi=true↔lo≤n∧n≤hi:=by simp[Cs]
def Aih{m:Int}(h:statB m=true):m<281474976710656:=by
 simp only[statB,zG,zK]at h;omega
def Uy{a b:Int}(h:subnetB a b=true):1≤b∧b≤30:=by
 simp only[subnetB,zG,zK]at h;omega
structure LineOK(l:LineM):Prop where
 mac:0≤l.mac∧l.mac<18446744073709551616
 addr:0≤l.addr∧l.addr<4294967296
 addrs:∀x∈l.addrs,0≤x∧x<4294967296
def Ali{s:ByteArray}{v:Int}(h:(C3 s).2=true)(e:(C3 s).1=v):Cs v 1 4094=true:=by
 have:=Ip h;exact within_iff.2 (by rw[←e];exact this)
def A1m{s:ByteArray}{v:Int}(h:(S3 s).2=true)(e:(S3 s).1=v):Cs v 1 16777215=true:=by
 have:=Ip h;exact within_iff.2 (by rw[←e];exact this)
def Aev{α:Type}{p:α×Bool}(h:p.2=true):p=(p.1,true):=by rw[←h]
attribute [local irreducible] Go.Sy.G Go.Sy.DR
set_option maxRecDepth 100000
def Jd{a b:ByteArray}(h:a≠b):(a==b)=false:=by
 cases hx:(a==b)
 ·rfl
 ·exact yB ((Lq _ _).1 hx) h
def Hx{a b:ByteArray}(h:a=b):(a==b)=true:=(Lq _ _).2 h
def Ann{a b:ByteArray}(h:a≠b):(!(a==b))=true:=by rw[Jd h];rfl
def Ae2{a b:ByteArray}(h:a=b):(!(a==b))=false:=by rw[Hx h];rfl
def Ia(s:ByteArray):Sp 85 [Ap s] (Aa (kindL s)):=cT F85 ntmps85 λF hF=>by
 have hk:=kindL.eq_1 s;generalize kindL s=k at *;by_cases c1:s=(⟨#[100,101,118,105,99,101]⟩:ByteArray)
 ·have b1:=Hx c1;rw[zE c1]at hk;subst hk;exact gB
 have b1:=Jd c1;rw[zD c1]at hk;by_cases c2:s=(⟨#[112,111,114,116]⟩:ByteArray)
 ·have b2:=Hx c2;rw[zE c2]at hk;subst hk;exact gB
 have b2:=Jd c2;rw[zD c2]at hk;by_cases c3:s=(⟨#[108,105,110,107]⟩:ByteArray)
 ·have b3:=Hx c3;rw[zE c3]at hk;subst hk;exact gB
 have b3:=Jd c3;rw[zD c3]at hk;by_cases c4:s=(⟨#[115,116,97,116,105,99]⟩:ByteArray)
 ·have b4:=Hx c4;rw[zE c4]at hk;subst hk;exact gB
 have b4:=Jd c4;rw[zD c4]at hk;by_cases c5:s=(⟨#[118,116,101,112]⟩:ByteArray)
 ·have b5:=Hx c5;rw[zE c5]at hk;subst hk;exact gB
 have b5:=Jd c5;rw[zD c5]at hk;by_cases c6:s=(⟨#[118,110,105]⟩:ByteArray)
 ·have b6:=Hx c6;rw[zE c6]at hk;subst hk;exact gB
 have b6:=Jd c6;rw[zD c6]at hk;by_cases c7:s=(⟨#[102,108,111,111,100]⟩:ByteArray)
 ·have b7:=Hx c7;rw[zE c7]at hk;subst hk;exact gB
 have b7:=Jd c7;rw[zD c7]at hk;by_cases c8:s=(⟨#[118,114,102]⟩:ByteArray)
 ·have b8:=Hx c8;rw[zE c8]at hk;subst hk;exact gB
 have b8:=Jd c8;rw[zD c8]at hk;by_cases c9:s=(⟨#[105,114,98]⟩:ByteArray)
 ·have b9:=Hx c9;rw[zE c9]at hk;subst hk;exact gB
 have b9:=Jd c9;rw[zD c9]at hk;subst hk;exact gB
def H9(k:Int)(hk:0≤k∧k≤9)(w:List ByteArray)(hw:w.length≤1000000):Sp 84 [Aa k,.sl 1 Ap w] (Ab (manyB k w)):=cT F84 ntmps84 λF hF=>by
 have bx:=manyB.eq_1 k w;generalize manyB k w=r at *;rcases (by omega:k=0∨k=1∨k=2∨k=3∨k=4∨k=5∨k=6∨k=7∨k=8∨k=9) with h|h|h|h|h|h|h|h|h|h
 ·subst h;have hr:r=false:=by rw[bx];simp
  subst hr;exact gB
 ·subst h;have hr:r=decide (w.length=4):=by rw[bx];simp
  subst hr;refine T ?_;refine As E (.cons .tmp .nil) (zH Ab ?_) E;by_cases hn:w.length=4
  ·rw[hn];rfl
  ·rw[zI hn];symm;simp;omega
 ·subst h;rw[zD j_,zE rfl]at bx;by_cases h6:w.length<6
  ·rw[zE h6]at bx;subst bx;exact gB
  ·rw[zD h6]at bx;have f6:decide ((w.length:Int)<6)=false:=zI q_;have h4:(4:Int).toNat<w.length:=by show 4<w.length;omega
   have hx:wdT w 4=w[(4:Int).toNat]'h4:=Dm q_;rw[hx]at bx;by_cases ca:w[(4:Int).toNat]'h4=Hy
   ·have ba:(w[(4:Int).toNat]'h4==(⟨#[97,99,99,101,115,115]⟩:ByteArray))=true:=Hx ca;have bt:(w[(4:Int).toNat]'h4==(⟨#[116,114,117,110,107]⟩:ByteArray))=false:=Jd (by rw[ca];exact Ald);have na:(!(w[(4:Int).toNat]'h4==(⟨#[97,99,99,101,115,115]⟩:ByteArray)))=false:=Ae2 ca;rw[zE ca]at bx;by_cases hn:w.length=6
    ·rw[zL hn]at bx;subst bx;exact gB
    ·rw[zI hn]at bx;have fb:((w.length:Int)==6)=false:=by rw[zR];omega
     subst bx;exact gB
   ·have ba:(w[(4:Int).toNat]'h4==(⟨#[97,99,99,101,115,115]⟩:ByteArray))=false:=Jd ca;have na:(!(w[(4:Int).toNat]'h4==(⟨#[97,99,99,101,115,115]⟩:ByteArray)))=true:=Ann ca;rw[zD ca]at bx;by_cases sa:w[(4:Int).toNat]'h4=Hi
    ·have bt:(w[(4:Int).toNat]'h4==(⟨#[116,114,117,110,107]⟩:ByteArray))=true:=Hx sa;have nt:(!(w[(4:Int).toNat]'h4==(⟨#[116,114,117,110,107]⟩:ByteArray)))=false:=Ae2 sa;rw[zE sa]at bx;by_cases hn:w.length=7
     ·rw[zL hn]at bx;subst bx;exact gB
     ·rw[zI hn]at bx;have fb:((w.length:Int)==7)=false:=by rw[zR];omega
      subst bx;exact gB
    ·have bt:(w[(4:Int).toNat]'h4==(⟨#[116,114,117,110,107]⟩:ByteArray))=false:=Jd sa;have nt:(!(w[(4:Int).toNat]'h4==(⟨#[116,114,117,110,107]⟩:ByteArray)))=true:=Ann sa;rw[zD sa]at bx;subst bx;refine T ?_;refine As E (.cons .tmp .nil) (zH Ab ?_) E;exact decide_eq_decide.2 q_
 ·subst h;have hr:r=decide (w.length=5):=by rw[bx];simp
  subst hr;refine T ?_;refine As E (.cons .tmp .nil) (zH Ab ?_) E;by_cases hn:w.length=5
  ·rw[hn];rfl
  ·rw[zI hn];symm;simp;omega
 ·subst h;have hr:r=decide (w.length=5):=by rw[bx];simp
  subst hr;refine T ?_;refine As E (.cons .tmp .nil) (zH Ab ?_) E;by_cases hn:w.length=5
  ·rw[hn];rfl
  ·rw[zI hn];symm;simp;omega
 ·subst h;have hr:r=decide (w.length=3):=by rw[bx];simp
  subst hr;refine T ?_;refine As E (.cons .tmp .nil) (zH Ab ?_) E;by_cases hn:w.length=3
  ·rw[hn];rfl
  ·rw[zI hn];symm;simp;omega
 ·subst h;have hr:r=decide (w.length=4):=by rw[bx];simp
  subst hr;refine T ?_;refine As E (.cons .tmp .nil) (zH Ab ?_) E;by_cases hn:w.length=4
  ·rw[hn];rfl
  ·rw[zI hn];symm;simp;omega
 ·subst h;have hr:r=decide (w.length=4):=by rw[bx];simp
  subst hr;refine T ?_;refine As E (.cons .tmp .nil) (zH Ab ?_) E;by_cases hn:w.length=4
  ·rw[hn];rfl
  ·rw[zI hn];symm;simp;omega
 ·subst h;have hr:r=decide (w.length=5):=by rw[bx];simp
  subst hr;refine T ?_;refine As E (.cons .tmp .nil) (zH Ab ?_) E;by_cases hn:w.length=5
  ·rw[hn];rfl
  ·rw[zI hn];symm;simp;omega
 ·subst h;have hr:r=decide (w.length=5):=by rw[bx];simp
  subst hr;refine T ?_;refine As E (.cons .tmp .nil) (zH Ab ?_) E;by_cases hn:w.length=5
  ·rw[hn];rfl
  ·rw[zI hn];symm;simp;omega
def Acx(a:Nat)(b:Int)(ha:a<4294967296):Sp 98 [Oh a b] (Ab (subnetB a b)):=cT F98 ntmps98 λF hF=>by
 have q1:=Aid a b ha;have q2:=Acr a b ha;have hs:=subnetB.eq_1 (a:Int) b;generalize subnetB (a:Int) b=r at *;generalize I0 (a:Int) b=fi at *;generalize Mk (a:Int) b=la at *;by_cases h1:1≤b
 ·by_cases h2:b≤30
  ·by_cases h3:(a:Int)=fi
   ·have f3:((a:Int) != fi)=false:=by rw[bne_eq_false_iff_eq];exact h3
    have hr:r=false:=by rw[hs];simp[h3]
    subst hr;refine gD q1 F163 ?_;exact D
   ·have f3:((a:Int) != fi)=true:=by rw[xB];exact h3
    by_cases h4:(a:Int)=la
    ·have f4:((a:Int) != la)=false:=by rw[bne_eq_false_iff_eq];exact h4
     have hr:r=false:=by rw[hs];simp[h4]
     subst hr;refine gA q1 F163 q2 F164 ?_;refine As E (.cons .tmp .nil) (zH Ab f4.symm) E
    ·have f4:((a:Int) != la)=true:=by rw[xB];exact h4
     have hr:r=true:=by rw[hs];simp[h1,h2,h3,h4]
     subst hr;refine gA q1 F163 q2 F164 ?_;refine As E (.cons .tmp .nil) (zH Ab f4.symm) E
  ·have hr:r=false:=by rw[hs];simp[h2]
   subst hr;exact gB
 ·have hr:r=false:=by rw[hs];simp[h1]
  subst hr;exact gB
def Aqf(l:List Int)(v:Int):l.contains v=inB l v:=by
 induction l with
 |nil=>rfl
 |cons x l ih=>
  rw[List.contains_cons,ih,inB,inB,List.any_cons];congr 1;exact Bool.beq_comm
def Kk(l:LineM)(hl:Am l.tagged):Sp 158 [A3 l] (Ab (membersB l.vlan l.tagged)):=cT F158 ntmps158 λF hF=>by
 have q:=Eb l.tagged l.vlan hl;have bx:=membersB.eq_1 l.vlan l.tagged;rw[Aqf]at bx;generalize membersB l.vlan l.tagged=r at *;generalize inB l.tagged l.vlan=ib at *;unfold Am at hl;by_cases h1:0<l.vlan
 ·have hr:r=!ib:=by rw[bx];simp[h1]
  subst hr;refine gD q F74 ?_;exact D
 ·by_cases h2:l.tagged.length=0
  ·have hr:r=false:=by
    rw[bx,zI h1,zX h2];rfl
   subst hr;exact gB
  ·have hr:r=!ib:=by
    rw[bx];have:l.tagged.isEmpty=false:=by cases ht:l.tagged<;>simp_all
    simp[this]
   have f2:decide ((l.tagged.length:Int)>0)=true:=zL q_;subst hr;refine gD q F74 ?_;exact D
end Go.Sy.YtolnneiipmfgaaaGreatDoor
namespace Go.Sy
def Uh{P:Program}(Γ:Ty P){o:Oper}{s:SS}{t:TypeId}{ti:TI}{et:TypeId}{len esz sz g:Nat}{y:Operand}{ik:IntKind}{n:Int}{z:SV}(k:Nat)(h:o.op=.indexAddr t (.global g) y)(ht:Γ.get t=some ti)(hk:ti.k=.array et len esz)(hb:s.h k=.glob sz z g)(hy:ev s y=.val (.int ik n))(h0:0≤n)(hn:n.toNat<len):Good P o s ⟨.ref sz z (n.toNat*esz),[k],[]⟩ :=
 Good.pure λκ a w _ hr ho=>by
  have h1:=ho k y_;have h2:=hr y (by simp[h,Op.operands]);rw[hb]at h1;rw[hy]at h2;simp only[ObOK,Rd,RdD]at h1;obtain ⟨b,oo,u,e1,e2,e3,e4,e5⟩:=h1;obtain ⟨hu,i,q1,q2⟩:=Wf Γ ht hk;simp only[Nat.add_zero,Value.pointer.injEq,Option.some.injEq,Addr.mk.injEq,and_true]at e1;obtain ⟨rfl,rfl⟩:=e1;refine⟨.pointer (some ⟨g,0+n.toNat*esz,none⟩),?_,?_⟩
  ·have hg:a.eval (.global g)=.pointer (some ⟨g,0,none⟩):=rfl;simp only[execOp,h,hg,h2.val];simp[S9 w hu q1 q2 h0 hn]
  ·simp only[Rd,RdD];exact⟨g,0,u,E,e2,e3,e4,e5⟩
theorem Ob.shp_glob{x:Ob}{sz g:Nat}{z:SV}(h:x.shp=(Ob.glob sz z g).shp):x=.glob sz z g:=by
 cases x<;>simp_all[Ob.shp]
theorem GoodX.glob{P:Program}(Γ:Ty P){o:Oper}{s:SS}{t:TypeId}{ti:TI}{et:TypeId}{len esz sz g:Nat}{y:Operand}{ik:IntKind}{n:Int}{z:SV}(k:Nat)(h:o.op=.indexAddr t (.global g) y)(ht:Γ.get t=some ti)(hk:ti.k=.array et len esz)(hb:s.h k=.glob sz z g)(hy:ev s y=.val (.int ik n))(h0:0≤n)(hn:n.toNat<len):GoodX P o s ⟨.ref sz z (n.toNat*esz),[k],[]⟩ where
 good:=(Uh Γ k h ht hk hb hy h0 hn).two
 idx _:=⟨rfl,λs' h1 h2=>Uh Γ k h ht hk (Ob.shp_glob ((h2 k y_).trans (zH Ob.shp hb))) ((h1 y (by simp[h,Op.operands])).trans hy) h0 hn⟩
 st hs:=by simp[Qx,h]at hs
section
open Go.ChangeShapes Go.WideShapes Go.ChangeAt Go.RowKit
variable {H:Type} {enc:TypeId×Value→H} {P:Program}
end
def Ch{P:Program}(Γ:Ty P){o:Oper}{s:SS}{t:TypeId}{ti:TI}{et:TypeId}{len:Nat}{x y:Operand}{ik:IntKind}{n:Int}{l:List SV}{z:SV}{k:EK}(h:o.op=.index t x y)(ht:Γ.get t=some ti)(hk:ti.k=.array et len 1)(he:P.underlying et=some (EK.desc k))(hx:ev s x=.agg l)(hy:ev s y=.val (.int ik n))(h0:0≤n)(hn:n.toNat<len)(hz:Ih l n.toNat=some z):Good P o s ⟨z,[],[]⟩ :=
 Good.pure λκ a w _ hr _=>by
  have h1:=hr x (by simp[h,Op.operands]);have h2:=hr y (by simp[h,Op.operands]);rw[hx]at h1;rw[hy]at h2;simp only[Rd]at h1;obtain ⟨cs,e1,_,e2⟩:=h1;obtain ⟨v,e3,e4⟩:=e2.getT hz;obtain ⟨hu,i,q1,q2⟩:=Wf Γ ht hk;have hp:=Afp (P:=P) w he cs.toArray e3;have ab:n<len:=by omega
  refine⟨v,?_,e4⟩;simp[execOp,h,e1,h2.val,Instr.index,run_underlying hu,asIntOf,h0,ab,sizeOf,typeInfo,q1,q2,hp]
def Al{C:Cx}{k:List KI}{s:SS}(d:Nat)(l':List SV){l:List SV}(h:s.h d=.box l)(hv:VwL s [] l l')(hg:G C k ⟨s.σ,upd s.h d (.box l')⟩):G C k s:=λκ a w hs=>
 hg κ a w ⟨hs.defers,hs.size,hs.inv,hs.ctx,hs.slot,λ i=>by
  show ObOK κ w i (upd s.h d (.box l') i);by_cases hi:i=d
  ·subst hi;rw[B1];have:=hs.obj i;rw[h]at this;obtain ⟨b,cs,T,fr,e1,e2,e3,e4,e5⟩:=this;exact⟨b,cs,T,fr,e1,e2,e3,e4,VwL.rd hs.inv (λ_ hn=>by cases hn) hv e5⟩
  ·rw[Cy _ _ hi];exact hs.obj i⟩
end Go.Sy
