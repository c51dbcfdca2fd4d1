/- Parts of a proof. -/
import Derived.Test.YtolnneiipmfgaaaGreatDoorYC19
set_option linter.all false
set_option linter.unusedVariables false
set_option linter.unusedSimpArgs false
set_option linter.deprecated false
namespace Go.Sy.YtolnneiipmfgaaaGreatDoor
open Go.Proofs Go.Proofs.Tryz
def Abp:∀(l:List UInt8) (a:Nat),l.foldl (λn c=>n*256+c.toNat) a=a*256^l.length+Hz l
 |[],a=>by simp[Hz]
 |c::l,a=>by
  have e:Hz (c::l)=l.foldl (λn c=>n*256+c.toNat) (0*256+c.toNat):=rfl;rw[vG,Abp l,e,Abp l,yM,tQ,xI,Nat.zero_mul,wH,Nat.mul_assoc,vB 256,vZ]
def Axy(c:UInt8)(l:List UInt8):Hz (c::l)=c.toNat*256^l.length+Hz l:=by
 rw[Hz,vG,Abp];simp
def Aln(m:Nat):∀k,Hz (be k m)=m%256^k
 |0=>by simp[be,Hz,Nat.mod_one]
 |k+1=>by
  rw[be,Axy,Dj,Aln m k,E2,tQ,Nat.mod_mul,vB (m/256^k%256)];omega
def Aqp(d s t:Nat)(b:List UInt8):(frame d s t b).take 6=be 6 d∧((frame d s t b).drop 6).take 6=be 6 s∧((frame d s t b).drop 12).take 2=[UInt8.ofNat (t/256),UInt8.ofNat t]∧(frame d s t b).drop 14=b:=by
 have e:frame d s t b=be 6 d++(be 6 s++([UInt8.ofNat (t/256),UInt8.ofNat t]++b)):=by simp[frame,xD]
 have e6:(frame d s t b).drop 6=be 6 s++([UInt8.ofNat (t/256),UInt8.ofNat t]++b):=by rw[e];exact List.drop_left' (Dj d 6)
 have e12:(frame d s t b).drop 12=[UInt8.ofNat (t/256),UInt8.ofNat t]++b:=by
  rw[show (12:Nat)=6+6 from rfl,←List.drop_drop,e6];exact List.drop_left' (Dj s 6)
 refine⟨by rw[e];exact List.take_left' (Dj d 6),by rw[e6];exact List.take_left' (Dj s 6),by rw[e12];rfl,?_⟩;rw[show (14:Nat)=12+2 from rfl,←List.drop_drop,e12];rfl
def Abq{t:Nat}(h:t≤65535):Hz [UInt8.ofNat (t/256),UInt8.ofNat t]=t:=by
 rw[Aji,E2,E2];omega
def Lr{f:FrameM}(h:FrameOK f):takeF (Lu f)=(f,0):=by
 obtain ⟨e1,e2,e3,e4⟩:=Aqp f.dst f.src f.typ f.body;have hl:=D5 f;have hb:=h.body;have h1:=h.dst;have h2:=h.src;rw[takeF,zD q_,zD q_];simp only[Lu]at *;rw[e1,e2,e3,e4,Aln,Aln,Abq h.typ,xH (by simpa using h1),xH (by simpa using h2)]
def Afg{f:FrameM}{v:Int}(h:f.typ≠33024)(hb:f.body.length≤1500):(tagT f v).2=0∧(tagT f v).1=⟨f.dst,f.src,33024,[UInt8.ofNat (v.toNat/256),UInt8.ofNat v.toNat,UInt8.ofNat (f.typ/256),UInt8.ofNat f.typ]++f.body⟩:=by
 rw[tagT,zD h,zD q_];exact⟨E,E⟩
def Ajn{f:FrameM}{v:Int}(hf:FrameOK f)(h:f.typ≠33024)(hb:f.body.length≤1500)(hv:0≤v∧v≤4094):FrameOK (tagT f v).1∧(tagT f v).1.typ=33024∧stripT (tagT f v).1=(f,v,0,0):=by
 obtain ⟨_,e⟩:=Afg (v:=v) h hb;have ht:=hf.typ;have e1:Hz [UInt8.ofNat (v.toNat/256),UInt8.ofNat v.toNat]=v.toNat:=Abq q_;have e2:Hz [UInt8.ofNat (f.typ/256),UInt8.ofNat f.typ]=f.typ:=Abq ht;rw[e];refine⟨⟨hf.dst,hf.src,by show 33024≤65535;decide,by simp;omega⟩,E,?_⟩;rw[stripT,zD y_,zD y_];have a1:([UInt8.ofNat (v.toNat/256),UInt8.ofNat v.toNat,UInt8.ofNat (f.typ/256),UInt8.ofNat f.typ]++f.body).take 2=[UInt8.ofNat (v.toNat/256),UInt8.ofNat v.toNat]:=rfl;have a2:(([UInt8.ofNat (v.toNat/256),UInt8.ofNat v.toNat,UInt8.ofNat (f.typ/256),UInt8.ofNat f.typ]++f.body).drop 2).take 2=[UInt8.ofNat (f.typ/256),UInt8.ofNat f.typ]:=rfl;have a3:([UInt8.ofNat (v.toNat/256),UInt8.ofNat v.toNat,UInt8.ofNat (f.typ/256),UInt8.ofNat f.typ]++f.body).drop 4=f.body:=rfl;rw[a1,a2,a3,e1,e2,zD q_,show ((v.toNat%4096:Nat):Int)=v by omega,show ((v.toNat/4096:Nat):Int)=0 by omega]
def Dh:∀(l:List Nat) (r:List UInt8) (i:Nat) (h:i<l.length),numAt (Dl l++r) (2*i) 2=l[i]%65536
 |a::l,r,0,_=>by
  show Hz [UInt8.ofNat (a/256),UInt8.ofNat a]=a%65536;rw[Aji,E2,E2];omega
 |a::l,r,i+1,h=>Dh l r i (by simpa using h)
def A1t{s d:Nat}{b:List UInt8}(hs:s≤65535)(hd:d≤65535)(hb:b.length≤60000):udpTakeT (Aei s d b)=((s:Int),(d:Int),b,0):=by
 have hl:=Ux s d b;have n0:=Dh [s,d,8+b.length,0] b 0 (by show 0<4;decide);have n2:=Dh [s,d,8+b.length,0] b 1 (by show 1<4;decide);have n4:=Dh [s,d,8+b.length,0] b 2 (by show 2<4;decide);have n6:=Dh [s,d,8+b.length,0] b 3 (by show 3<4;decide);change numAt (Aei s d b) 0 2=s%65536 at n0;change numAt (Aei s d b) 2 2=d%65536 at n2;change numAt (Aei s d b) 4 2=(8+b.length)%65536 at n4;change numAt (Aei s d b) 6 2=0%65536 at n6;rw[udpTakeT,zD q_,zD q_,zD q_,zD q_,n0,n2,n4,xH q_,xH q_,xH q_,xG q_];rfl
def Aw1{p:PacketM}(hp:PacketOK p)(hb:p.body.length≤1480):ipTakeT (H4 p)=(p,0):=by
 have hl:=Iv p;have hs:Iu p≤65535:=by rw[Iu,Ajm];omega
 have hw:=Ac2 hp hb (Iu p) hs;have kz:=Ac2 hp hb 0 j_;have n0:=Dh [17664+p.tos,20+p.body.length,p.id,0,p.ttl*256+p.proto,Iu p,p.src/65536,p.src,p.dst/65536,p.dst] p.body 0 (by show 0<10;decide);have n2:=Dh [17664+p.tos,20+p.body.length,p.id,0,p.ttl*256+p.proto,Iu p,p.src/65536,p.src,p.dst/65536,p.dst] p.body 1 (by show 1<10;decide);have n4:=Dh [17664+p.tos,20+p.body.length,p.id,0,p.ttl*256+p.proto,Iu p,p.src/65536,p.src,p.dst/65536,p.dst] p.body 2 (by show 2<10;decide);have n6:=Dh [17664+p.tos,20+p.body.length,p.id,0,p.ttl*256+p.proto,Iu p,p.src/65536,p.src,p.dst/65536,p.dst] p.body 3 (by show 3<10;decide);have z1:=Dh [17664+p.tos,20+p.body.length,p.id,0,p.ttl*256+p.proto,Iu p,p.src/65536,p.src,p.dst/65536,p.dst] p.body 6 (by show 6<10;decide);have n14:=Dh [17664+p.tos,20+p.body.length,p.id,0,p.ttl*256+p.proto,Iu p,p.src/65536,p.src,p.dst/65536,p.dst] p.body 7 (by show 7<10;decide);have z6:=Dh [17664+p.tos,20+p.body.length,p.id,0,p.ttl*256+p.proto,Iu p,p.src/65536,p.src,p.dst/65536,p.dst] p.body 8 (by show 8<10;decide);have n18:=Dh [17664+p.tos,20+p.body.length,p.id,0,p.ttl*256+p.proto,Iu p,p.src/65536,p.src,p.dst/65536,p.dst] p.body 9 (by show 9<10;decide);change numAt (H4 p) 2 2=(20+p.body.length)%65536 at n2;change numAt (H4 p) 4 2=p.id%65536 at n4;change numAt (H4 p) 6 2=0%65536 at n6;change numAt (H4 p) 12 2=p.src/65536%65536 at z1;change numAt (H4 p) 14 2=p.src%65536 at n14;change numAt (H4 p) 16 2=p.dst/65536%65536 at z6;change numAt (H4 p) 18 2=p.dst%65536 at n18;have h1:=hp.tos;have h2:=hp.id;have h3:=hp.ttl;have h4:=hp.proto;have h5:=hp.src;have h6:=hp.dst;have b0:bAt (H4 p) 0=UInt8.ofNat ((17664+p.tos)/256):=rfl;have b1:bAt (H4 p) 1=UInt8.ofNat (17664+p.tos):=rfl;have b8:bAt (H4 p) 8=UInt8.ofNat ((p.ttl*256+p.proto)/256):=rfl;have b9:bAt (H4 p) 9=UInt8.ofNat (p.ttl*256+p.proto):=rfl;have c0:bAt (H4 p) 0=69:=by rw[b0,show (17664+p.tos)/256=69 by omega];rfl
 have ht:(H4 p).take 20=Hl p (Iu p):=by rw[H4];exact List.take_left' (Jl _ _)
 have hd:(H4 p).drop 20=p.body:=by rw[H4];exact List.drop_left' (Jl _ _)
 have lr:H5 (O8 ((H4 p).take 20) 10)=65535:=by
  have e0:Iu p=65535-H5 (O8 (Hl p 0) 10):=by rw[Iu,Ajm,Jl]
  have hle:=Aqr (O8 (Hl p 0) 10);have w1:O8 (Hl p (Iu p)) 10=O8 (Hl p 0) 10+Iu p:=by
   rw[Hl,Hl,Yf _ 10 (by show 10≤10;decide) hw,Yf _ 10 (by show 10≤10;decide) kz];simp only[List.take_succ_cons,List.take_zero,xW,vU,List.sum_cons,List.sum_nil];rw[xH (show Iu p<65536 by omega)];omega
  rw[ht,w1,A0k _ _ hs];split<;>omega
 rw[ipTakeT,zD q_,zD (by rw[c0,n2];intro hh;rcases hh with hh|hh;exact hh rfl;omega),zD q_,zD q_,zD q_];rw[b1,b8,b9,E2,E2,E2,n4,n2,At0 q_,At0 q_,z1,n14,z6,n18,xH (show 20+p.body.length<65536 by omega),xG q_,hd];obtain ⟨tos,id,ttl,proto,src,dst,body⟩:=p;dsimp only at *;simp only[Prod.mk.injEq,PacketM.mk.injEq,and_true];refine⟨?_,?_,?_,?_,?_,?_⟩<;>omega
def A1o{v:Nat}{b:List UInt8}(h:1≤v∧v≤16777215):vniT (K2 v++b)=((v:Int),b,0):=by
 have e3:numAt (K2 v++b) 4 3=v:=by
  show Hz [UInt8.ofNat (v/65536),UInt8.ofNat (v/256),UInt8.ofNat v]=v;simp[Hz];omega
 have ht:(K2 v++b).take 8=K2 v:=rfl;rw[vniT,zD (by simp[Hw]),e3,ht,zD (by intro h2;rcases h2 with h2|h2;omega;exact h2 rfl)];rfl
def An9{a b:Nat}{v:Int}{f:FrameM}(ha:a<4294967296)(hb:b<4294967296)(hf:FrameOK f)(ht:f.typ≠33024)(hl:f.body.length≤1450)(hv:1≤v∧v≤16777215):(wrapT a b v f).2=0∧Cn (wrapT a b v f).1=(a,b,v,f,0):=by
 have hvb:Ur v=false:=by rw[Ur,zI q_,zI q_];rfl
 have sj:(Aei (udpPort f.dst f.src) 4789 (K2 v.toNat++Lu f)).length=8+(8+(14+f.body.length)):=by rw[Ux,zQ,Hw,D5]
 have mw:PacketOK (Lc a b v.toNat f):=⟨xQ _,xQ _,by show 64≤255;decide,by show 17≤255;decide,ha,hb⟩
 have hbo:(Lc a b v.toNat f).body.length≤1480:=by show (Aei _ _ _).length≤1480;rw[sj];omega
 have o6:=Iv (Lc a b v.toNat f);have pk:FrameOK ⟨hostN b,hostN a,2048,H4 (Lc a b v.toNat f)⟩:=⟨Vx b hb,Vx a ha,by show 2048≤65535;decide,by dsimp only;omega⟩
 rw[wrapT,zD ht,zD (by rw[hvb];exact Bool.noConfusion),zD q_];refine⟨E,?_⟩;have me:outerT (frame (hostN b) (hostN a) 2048 (H4 (Lc a b v.toNat f)))=(Lc a b v.toNat f,0):=by
  have h1:=Lr pk;rw[Lu]at h1;dsimp only at h1;rw[outerT,h1];dsimp only;rw[zD (λhh=>hh rfl),zD (λhh=>hh rfl),Aw1 mw hbo,zD (λhh=>hh rfl)];rfl
 have yq:udpPort f.dst f.src≤65535:=by rw[udpPort];omega
 have ar:Me (Lc a b v.toNat f).body=(v,f,0):=by
  have h1:udpTakeT (Lc a b v.toNat f).body=(((udpPort f.dst f.src:Nat):Int),((4789:Nat):Int),K2 v.toNat++Lu f,0):=A1t yq j_ (by rw[zQ,Hw,D5];omega);have h2:vniT (K2 v.toNat++Lu f)=((v.toNat:Int),Lu f,0):=A1o q_;rw[Me,h1];dsimp only;rw[zD (λhh=>hh rfl),zD (λhh=>hh rfl),h2];dsimp only;rw[zD (λhh=>hh rfl),Lr hf];dsimp only;rw[zD (λhh=>hh rfl),zD ht,show ((v.toNat:Nat):Int)=v by omega]
 rw[Cn,me];dsimp only;rw[zD (λhh=>hh rfl),ar];dsimp only;rw[zD (λhh=>hh rfl)];rfl
attribute [local irreducible] Go.Sy.G Go.Sy.DR
set_option maxRecDepth 20000
set_option maxHeartbeats 8000000
structure WayD where
 (hops:List Hop) (routed:Bool)
instance:Inhabited WayD:=⟨⟨[],false⟩⟩
end Go.Sy.YtolnneiipmfgaaaGreatDoor
namespace Go.Sy.YtolnneiipmfgaaaGreatDoor
open Go.Proofs Go.Proofs.Tryz
def Yv{α:Type}[Inhabited α]{l m:List α}{i:Int}(h:i.toNat<l.length):nth (l++m) i=nth l i:=by
 rw[nth,nth,xR h]
def T8{l m:List Fnd}(hB:Backs l):∀(k:Nat) (i:Int),i<k→i<l.length→backC (l++m) i=backC l i:=by
 intro k
 induction k with
 |zero=>
  intro i hi hl;rw[backC,dif_neg (λh=>by omega),backC,dif_neg (λh=>by omega)]
 |succ k ih=>
  intro i hi hl;by_cases h0:0≤i
  ·have hk:i.toNat<l.length:=by omega
   have hb:=hB i.toNat hk;rw[backC,Yv hk,backC.eq_1 l i,Af hk,dif_pos ⟨h0,by omega⟩,dif_pos ⟨h0,by omega⟩];rw[ih _ q_ q_]
  ·rw[backC,dif_neg (λh=>h0 h.1),backC,dif_neg (λh=>h0 h.1)]
def Mx{l m:List Fnd}(hB:Backs l){i:Int}(h:i<l.length):backT (l++m) i=backT l i:=by
 rw[backT,backT,T8 hB (i+1).toNat i q_ h]
def Ah3{l:List Fnd}(hB:Backs l){f:Fnd}(hf:-1≤f.ahead∧f.ahead<l.length):backT (l++[f]) l.length=backT l f.ahead++[f.hop]:=by
 have e:nth (l++[f]) (l.length:Int)=f:=by
  rw[Af (l:=l++[f]) (i:=(l.length:Int)) y_];simp
 rw[backT,backC,e,dif_pos ⟨by omega,by omega⟩,List.reverse_cons,T8 hB (f.ahead+1).toNat _ q_ q_];rfl
def Avu(l:List Fnd):backT l (-1)=[]:=by
 rw[backT,backC,dif_neg (λh=>by omega)];rfl
structure Met(n:Net)(S:Srch):Prop where
 ok:S.OK n
 bk:Backs S.list
 dom:∀f∈S.list,f.hop.domain=f.domain
 m:∀d:Int,0≤d∧d.toNat<n.domains.length→∀k:Int,(k=0∨k=1)→(Tm S d k=true↔∃f∈S.list,f.domain=d∧f.kind=k)
def Apk{l:List Bool}{a b:Nat}(hb:b<l.length):(l.set a true)[b]? = if a=b then some true else l[b]?:=by
 rw[uY];split
 ·rename_i h;subst h;simp[hb]
 ·rfl
def At5{n:Net}{S:Srch}(hS:S.OK n){d k:Int}(hd:0≤d∧d.toNat<n.domains.length)(hk:k=0∨k=1)(h:Hop)(a:Int)(d2 k2:Int)(iv:0≤d2∧d2.toNat<n.domains.length)(cq:k2=0∨k2=1):Tm (Om S d k h a) d2 k2=true↔Tm S d2 k2=true∨(d2=d∧k2=k):=by
 have h0:d2.toNat<S.m0.length:=by rw[hS.l0];exact iv.2
 have h1:d2.toNat<S.m1.length:=by rw[hS.l1];exact iv.2
 have e:(d.toNat=d2.toNat)↔d2=d:=by omega
 rcases hk with rfl|rfl<;>rcases cq with rfl|rfl
 ·rw[Om,zE rfl,Tm,zE rfl,Tm,zE rfl,nth,nth,Apk h0];by_cases h:d2=d
  ·rw[zE (e.2 h)];simp[h]
  ·rw[zD (λx=>h (e.1 x))];simp[h]
 ·rw[Om,zE rfl,Tm,zD j_,Tm,zD j_];simp
 ·rw[Om,zD j_,Tm,zE rfl,Tm,zE rfl];simp
 ·rw[Om,zD j_,Tm,zD j_,Tm,zD j_,nth,nth,Apk h1];by_cases h:d2=d
  ·rw[zE (e.2 h)];simp[h]
  ·rw[zD (λx=>h (e.1 x))];simp[h]
def Yw(S:Srch)(d k:Int)(h:Hop)(a:Int):(Om S d k h a).list=S.list++[⟨d,k,h,a⟩]:=by
 rw[Om];split<;>rfl
theorem Met.meet{n:Net}{S:Srch}(hS:Met n S){d k:Int}(hd:0≤d∧d.toNat<n.domains.length)(hk:k=0∨k=1){h:Hop}(hh:h.domain=d){a:Int}(ha:-1≤a∧a<S.list.length):Met n (meetT S d k h a) where
 ok:=hS.ok.meet hd hk h a
 bk:=(hS.bk.meet d k h ha).1
 dom:=by
  rw[meetT];split
  ·exact hS.dom
  ·rw[Yw];intro f hf;rcases yL.1 hf with h1|h1
   ·exact hS.dom f h1
   ·rw[yA.1 h1];exact hh
 m:=by
  rw[meetT];split
  ·exact hS.m
  ·intro d2 iv k2 cq;rw[At5 hS.ok hd hk h a d2 k2 iv cq,hS.m d2 iv k2 cq,Yw];constructor
   ·rintro (⟨f,hf,h1⟩|⟨rfl,rfl⟩)
    ·exact⟨f,tA _ hf,h1⟩
    ·exact⟨_,uI _ (yA.2 E),E,E⟩
   ·rintro ⟨f,hf,h1,h2⟩;rcases yL.1 hf with h3|h3
    ·exact .inl ⟨f,h3,h1,h2⟩
    ·rw[yA.1 h3]at h1 h2;exact .inr ⟨h1.symm,h2.symm⟩
def A73(n:Net)(x y:Int×Int):Prop:=(∃h∈Do n x.1,y=(h.domain,x.2))∨(x.2=0∧∃q∈routesT n x.1,y=(q.domain,1))
def Art(n:Net)(p:Int)(x:Int×Int):Prop:=∃v∈(nth n.ports p).native::(nth n.ports p).tagged,v≠0∧x=(B6 n (nth n.ports p).dev v,0)
inductive Walk(n:Net)(p:Int):Nat→Int×Int→Prop
 |start {x:Int×Int}:Art n p x→Walk n p 0 x
 |step {k:Nat} {x y:Int×Int}:Walk n p k x→A73 n x y→Walk n p (k+1) y
inductive HWay(n:Net)(p:Int):List Hop→Int×Int→Prop
 |start {d:Int}:Art n p (d,0)→HWay n p [⟨0,0,d,0⟩] (d,0)
 |hop {l:List Hop} {x:Int×Int} {h:Hop}:HWay n p l x→h∈Do n x.1→HWay n p (l++[h]) (h.domain,x.2)
 |lead {l:List Hop} {x:Int×Int} {q:Lead}:HWay n p l x→x.2=0→q∈routesT n x.1→HWay n p (l++[⟨3,0,q.domain,q.addr⟩]) (q.domain,1)
theorem HWay.walk{n:Net}{p:Int}{l:List Hop}{x:Int×Int}(h:HWay n p l x):∃k,l.length=k+1∧Walk n p k x:=by
 induction h with
 |start hs=>exact⟨0,rfl,.start hs⟩
 |hop _ hh ih=>
  obtain ⟨k,h1,h2⟩:=ih;exact⟨k+1,by rw[zQ,h1];rfl,.step h2 (.inl ⟨_,hh,E⟩)⟩
 |lead _ h0 hq ih=>
  obtain ⟨k,h1,h2⟩:=ih;exact⟨k+1,by rw[zQ,h1];rfl,.step h2 (.inr ⟨h0,_,hq,E⟩)⟩
def lnC(l:List Fnd)(i:Int):Nat:=(backC l i).length
def Apx(l:List Fnd):lnC l (-1)=0:=by
 rw[lnC,backC,dif_neg (λh=>by omega)];rfl
def To{l m:List Fnd}(hB:Backs l){i:Int}(h:i<l.length):lnC (l++m) i=lnC l i:=by
 rw[lnC,T8 hB (i+1).toNat i q_ h,lnC]
def A33{l:List Fnd}(hB:Backs l){f:Fnd}(hf:-1≤f.ahead∧f.ahead<l.length):lnC (l++[f]) (l.length:Int)=lnC l f.ahead+1:=by
 have:=zH List.length (Ah3 hB hf);rw[zQ,zW]at this;simpa [backT,lnC] using this
def Apy(l:List Fnd)(i:Int):lnC l i=(backT l i).length:=by simp[lnC,backT]
def Vn{l m:List Fnd}{b:Nat}(h:b<l.length):nth (l++m) (b:Int)=nth l (b:Int):=Yv (by simpa using h)
def Agf(l:List Fnd)(f:Fnd):nth (l++[f]) (l.length:Int)=f:=by
 rw[Af (l:=l++[f]) (i:=(l.length:Int)) y_];simp
structure BI(n:Net)(p:Int)(S:Srch)(a:Int):Prop where
 met:Met n S
 mono:∀b c:Nat,b≤c→c<S.list.length→lnC S.list b≤lnC S.list c
 bnd:∀b:Nat,b<S.list.length→lnC S.list b≤lnC S.list a+1
 walk:∀b:Nat,b<S.list.length→HWay n p (backT S.list b) ((nth S.list b).domain,(nth S.list b).kind)
def HasB(l:List Fnd)(x:Int×Int)(m:Nat):Prop:=∃b:Nat,b<l.length∧(nth l (b:Int)).domain=x.1∧(nth l (b:Int)).kind=x.2∧lnC l (b:Int)≤m
theorem HasB.app{l e:List Fnd}(hB:Backs l){x:Int×Int}{m:Nat}:HasB l x m→HasB (l++e) x m:=λ⟨b,h1,h2,h3,h4⟩=>
 ⟨b,by rw[zQ];omega,by rw[Vn h1];exact h2,by rw[Vn h1];exact h3,by rw[To hB q_];exact h4⟩
theorem BI.meet{n:Net}{p:Int}{S:Srch}{a:Int}(h:BI n p S a)(ha:-1≤a∧a<S.list.length){d k:Int}(hd:0≤d∧d.toNat<n.domains.length)(hk:k=0∨k=1){hp:Hop}(hh:hp.domain=d)(hw:HWay n p (backT S.list a++[hp]) (d,k)):BI n p (meetT S d k hp a) a∧HasB (meetT S d k hp a).list (d,k) (lnC S.list a+1)∧∃e,(meetT S d k hp a).list=S.list++e:=by
 have hm:=h.met.meet hd hk hh ha;have hB:=h.met.bk;cases hb:Tm S d k with
 |true=>
  have e:meetT S d k hp a=S:=by rw[meetT,zE hb]
  rw[e];refine⟨h,?_,[],by simp⟩;obtain ⟨f,hf,f1,f2⟩:=(h.met.m d hd k hk).1 hb;obtain ⟨b,o6,rfl⟩:=vM hf;have e2:nth S.list (b:Int)=S.list[b]:=Af (l:=S.list) (i:=((b:Nat):Int)) o6;exact⟨b,o6,by rw[e2];exact f1,by rw[e2];exact f2,h.bnd b o6⟩
 |false=>
  have e:(meetT S d k hp a).list=S.list++[⟨d,k,hp,a⟩]:=by rw[meetT,zD (by rw[hb];decide),Yw]
  have d5:=A33 hB (f:=⟨d,k,hp,a⟩) ha;have ee:lnC (S.list++[⟨d,k,hp,a⟩]) a=lnC S.list a:=To hB ha.2;have hlen:(S.list++[(⟨d,k,hp,a⟩:Fnd)]).length=S.list.length+1:=by simp
  dsimp only at d5;have da:∀b:Nat,b<(S.list++[(⟨d,k,hp,a⟩:Fnd)]).length→(b<S.list.length∧lnC (S.list++[⟨d,k,hp,a⟩]) (b:Int)=lnC S.list (b:Int))∨(b=S.list.length∧lnC (S.list++[⟨d,k,hp,a⟩]) (b:Int)=lnC S.list a+1):=λb hb=>by
   by_cases hl:b<S.list.length
   ·exact .inl ⟨hl,To hB q_⟩
   ·have:b=S.list.length:=by omega
    subst this;exact .inr ⟨E,d5⟩
  refine⟨⟨hm,?_,?_,?_⟩,?_,[⟨d,k,hp,a⟩],e⟩
  ·rw[e];intro b c hbc hc;rcases da c hc with ⟨c1,c2⟩|⟨c1,c2⟩<;>rcases da b q_ with ⟨b1,b2⟩|⟨b1,b2⟩
   ·rw[c2,b2];exact h.mono b c hbc c1
   ·omega
   ·rw[c2,b2];exact h.bnd b b1
   ·rw[c2,b2];exact yD _
  ·rw[e];intro b hb;rw[ee];rcases da b hb with ⟨b1,b2⟩|⟨b1,b2⟩
   ·rw[b2];exact h.bnd b b1
   ·rw[b2];exact yD _
  ·rw[e];intro b hb;rcases da b hb with ⟨b1,_⟩|⟨b1,_⟩
   ·rw[Mx hB q_,Vn b1];exact h.walk b b1
   ·subst b1;rw[Ah3 hB (f:=⟨d,k,hp,a⟩) ha,Agf];exact hw
  ·rw[e];exact⟨S.list.length,by omega,by rw[Agf],by rw[Agf],by rw[d5];exact yD _⟩
theorem BI.ext1{n:Net}{p:Int}{a k:Int}(hk:k=0∨k=1):∀{l:List Hop} {S:Srch},BI n p S a→(-1≤a∧a<S.list.length)→(∀h∈l,(0≤h.domain∧h.domain.toNat<n.domains.length)∧HWay n p (backT S.list a++[h]) (h.domain,k)) →
  BI n p (Go.Sy.YtolnneiipmfgaaaGreatDoor.ext1 S k a l) a∧(∀h∈l,HasB (Go.Sy.YtolnneiipmfgaaaGreatDoor.ext1 S k a l).list (h.domain,k) (lnC S.list a+1))∧∃e,(Go.Sy.YtolnneiipmfgaaaGreatDoor.ext1 S k a l).list=S.list++e
 |[],S,h,_,_=>⟨h,λ_ hx=>(by cases hx),[],by simp[Go.Sy.YtolnneiipmfgaaaGreatDoor.ext1]⟩
 |x::l,S,h,ha,hl=>by
  obtain ⟨x1,x2⟩:=hl x y_;obtain ⟨m1,m2,e,m3⟩:=h.meet ha x1 hk (hp:=x) rfl x2;have ee:lnC (meetT S x.domain k x a).list a=lnC S.list a:=by rw[m3];exact To h.met.bk ha.2
  have yr:backT (meetT S x.domain k x a).list a=backT S.list a:=by rw[m3];exact Mx h.met.bk ha.2
  obtain ⟨i1,i2,e2,i3⟩:=BI.ext1 hk (l:=l) m1 ⟨ha.1,by rw[m3,zQ];omega⟩ (λy hy=>by rw[yr];exact hl y (by simp[hy]));refine⟨i1,λy hy=>?_,e++e2,?_⟩
  ·rcases yH.1 hy with rfl|hy
   ·show HasB (Go.Sy.YtolnneiipmfgaaaGreatDoor.ext1 (meetT S y.domain k y a) k a l).list _ _;rw[i3];exact m2.app m1.met.bk
   ·have:=i2 y hy;rw[ee]at this;exact this
  ·show (Go.Sy.YtolnneiipmfgaaaGreatDoor.ext1 (meetT S x.domain k x a) k a l).list=_;rw[i3,m3,xD]
theorem BI.ext2{n:Net}{p:Int}{a:Int}:∀{l:List Lead} {S:Srch},BI n p S a→(-1≤a∧a<S.list.length)→(∀h∈l,(0≤h.domain∧h.domain.toNat<n.domains.length)∧HWay n p (backT S.list a++[⟨3,0,h.domain,h.addr⟩]) (h.domain,1)) →
  BI n p (Go.Sy.YtolnneiipmfgaaaGreatDoor.ext2 S a l) a∧(∀h∈l,HasB (Go.Sy.YtolnneiipmfgaaaGreatDoor.ext2 S a l).list (h.domain,1) (lnC S.list a+1))∧∃e,(Go.Sy.YtolnneiipmfgaaaGreatDoor.ext2 S a l).list=S.list++e
 |[],S,h,_,_=>⟨h,λ_ hx=>(by cases hx),[],by simp[Go.Sy.YtolnneiipmfgaaaGreatDoor.ext2]⟩
 |x::l,S,h,ha,hl=>by
  obtain ⟨x1,x2⟩:=hl x y_;obtain ⟨m1,m2,e,m3⟩:=h.meet ha x1 (.inr rfl) (hp:=⟨3,0,x.domain,x.addr⟩) rfl x2;have ee:lnC (meetT S x.domain 1 ⟨3,0,x.domain,x.addr⟩ a).list a=lnC S.list a:=by rw[m3];exact To h.met.bk ha.2
  have yr:backT (meetT S x.domain 1 ⟨3,0,x.domain,x.addr⟩ a).list a=backT S.list a:=by rw[m3];exact Mx h.met.bk ha.2
  obtain ⟨i1,i2,e2,i3⟩:=BI.ext2 (l:=l) m1 ⟨ha.1,by rw[m3,zQ];omega⟩ (λy hy=>by rw[yr];exact hl y (by simp[hy]));refine⟨i1,λy hy=>?_,e++e2,?_⟩
  ·rcases yH.1 hy with rfl|hy
   ·show HasB (Go.Sy.YtolnneiipmfgaaaGreatDoor.ext2 (meetT S y.domain 1 ⟨3,0,y.domain,y.addr⟩ a) a l).list _ _;rw[i3];exact m2.app m1.met.bk
   ·have:=i2 y hy;rw[ee]at this;exact this
  ·show (Go.Sy.YtolnneiipmfgaaaGreatDoor.ext2 (meetT S x.domain 1 ⟨3,0,x.domain,x.addr⟩ a) a l).list=_;rw[i3,m3,xD]
theorem BI.ext{n:Net}{p:Int}{S:Srch}{i:Nat}(h:BI n p S (i:Int))(hi:i<S.list.length):BI n p (extT n S (i:Int)) (i:Int)∧(∀y,A73 n ((nth S.list (i:Int)).domain,(nth S.list (i:Int)).kind) y→HasB (extT n S (i:Int)).list y (lnC S.list (i:Int)+1))∧∃e,(extT n S (i:Int)).list=S.list++e:=by
 have hw:=h.walk i hi;have ha:-1≤(i:Int)∧(i:Int)<S.list.length:=⟨by omega,by omega⟩
 have pp:=(h.met.ok.at_ _ (show nth S.list (i:Int)∈S.list by rw[Af (l:=S.list) (i:=(i:Int)) (by simpa using hi)];exact zJ _)).2;rw[extT];by_cases h0:(nth S.list (i:Int)).kind=0
 ·rw[zE h0];obtain ⟨i1,i2,e,i3⟩:=h.ext1 (k:=0) (.inl rfl) (l:=Do n (nth S.list (i:Int)).domain) ha (λx hx=>⟨L1 hx,by have:=HWay.hop hw (h:=x) hx;dsimp only at this;rw[h0]at this;exact this⟩);have yr:backT (Go.Sy.YtolnneiipmfgaaaGreatDoor.ext1 S 0 (i:Int) (Do n (nth S.list (i:Int)).domain)).list (i:Int)=backT S.list (i:Int):=by rw[i3];exact Mx h.met.bk ha.2
  have ee:lnC (Go.Sy.YtolnneiipmfgaaaGreatDoor.ext1 S 0 (i:Int) (Do n (nth S.list (i:Int)).domain)).list (i:Int)=lnC S.list (i:Int):=by rw[i3];exact To h.met.bk ha.2
  obtain ⟨j1,j2,e2,j3⟩:=i1.ext2 (l:=routesT n (nth S.list (i:Int)).domain) ⟨ha.1,by rw[i3,zQ];omega⟩ (λx hx=>⟨M9 hx,by rw[yr];exact HWay.lead hw h0 hx⟩);refine⟨j1,?_,e++e2,by rw[j3,i3,xD]⟩;rintro y (⟨x,hx,rfl⟩|⟨_,q,hq,rfl⟩)
  ·have:=i2 x hx;rw[j3];rw[h0];exact this.app i1.met.bk
  ·have:=j2 q hq;rw[ee]at this;exact this
 ·have h1:(nth S.list (i:Int)).kind=1:=pp.resolve_left h0;rw[zD h0];obtain ⟨i1,i2,e,i3⟩:=h.ext1 (k:=1) (.inr rfl) (l:=Do n (nth S.list (i:Int)).domain) ha (λx hx=>⟨L1 hx,by have:=HWay.hop hw (h:=x) hx;dsimp only at this;rw[h1]at this;exact this⟩);refine⟨i1,?_,e,i3⟩;rintro y (⟨x,hx,rfl⟩|⟨h2,_⟩)
  ·rw[h1];exact i2 x hx
  ·exact yB h2 h0
structure SI(n:Net)(p to:Int)(S:Srch)(i:Nat):Prop where
 met:Met n S
 mono:∀b c:Nat,b≤c→c<S.list.length→lnC S.list b≤lnC S.list c
 bnd:i<S.list.length→∀b:Nat,b<S.list.length→lnC S.list b≤lnC S.list i+1
 walk:∀b:Nat,b<S.list.length→HWay n p (backT S.list b) ((nth S.list b).domain,(nth S.list b).kind)
 succ:∀j:Nat,j<i→j<S.list.length→∀y,A73 n ((nth S.list (j:Int)).domain,(nth S.list (j:Int)).kind) y→HasB S.list y (lnC S.list (j:Int)+1)
 start:∀y,Art n p y→HasB S.list y 1
 goal:∀j:Nat,j<i→j<S.list.length→inB (A5 n (nth S.list (j:Int)).domain) to=false
theorem SI.far{n:Net}{p to:Int}{S:Srch}{i M:Nat}(h:SI n p to S i)(hP:∀b:Nat,b<S.list.length→lnC S.list (b:Int)≤M→b<i):∀(m:Nat) (x:Int×Int),Walk n p m x→m≤M→HasB S.list x (m+1)
 |0,x,hw,_=>by
  cases hw with
  |start hs=>exact h.start x hs
 |m+1,x,hw,hm=>by
  cases hw with
  |step hw hs=>
   rename_i y;obtain ⟨b,b1,b2,b3,b4⟩:=h.far hP m y hw q_;obtain ⟨c,c1,c2,c3,c4⟩:=h.succ b (hP b b1 q_) b1 x (by rw[b2,b3];exact hs);exact⟨c,c1,c2,c3,by omega⟩
theorem SI.none{n:Net}{p to:Int}{S:Srch}{i M:Nat}(h:SI n p to S i)(hP:∀b:Nat,b<S.list.length→lnC S.list (b:Int)≤M→b<i){m:Nat}{x:Int×Int}(hw:Walk n p m x)(hg:inB (A5 n x.1) to=true):M≤m:=by
 by_cases hm:m<M
 ·obtain ⟨b,b1,b2,b3,b4⟩:=h.far hP m x hw q_;have:=h.goal b (hP b b1 q_) b1;rw[b2,hg]at this;cases this
 ·omega
theorem SI.next{n:Net}{p to:Int}{S:Srch}{i:Nat}(h:SI n p to S i)(hi:i<S.list.length)(hg:inB (A5 n (nth S.list (i:Int)).domain) to=false):SI n p to (extT n S (i:Int)) (i+1)∧i+1≤(extT n S (i:Int)).list.length:=by
 obtain ⟨b1,b2,e,b3⟩:=BI.ext (p:=p) ⟨h.met,h.mono,h.bnd hi,h.walk⟩ hi;have hB:=h.met.bk;refine⟨⟨b1.met,b1.mono,λkg b hb=>?_,b1.walk,λj hj er y hy=>?_,λy hy=>?_,λj hj er=>?_⟩,?_⟩
 ·have h1:=b1.bnd b hb;have h2:=b1.mono i (i+1) q_ kg;omega
 ·have oy:j<S.list.length:=by omega
  rw[b3,Vn oy]at hy;rw[b3,To hB q_,←b3];by_cases cm:j=i
  ·subst cm;exact b2 y hy
  ·rw[b3];exact(h.succ j q_ oy y hy).app hB
 ·rw[b3];exact(h.start y hy).app hB
 ·have oy:j<S.list.length:=by omega
  rw[b3,Vn oy];by_cases cm:j=i
  ·subst cm;exact hg
  ·exact h.goal j q_ oy
 ·rw[b3,zQ];omega
def Zr{n:Net}{p to:Int}:∀(k:Nat) (S:Srch) (i:Nat),SI n p to S i→i≤S.list.length→2*n.domains.length+1≤i+k →
  ((Es n to k S i).2=true→∃m x,Walk n p m x∧inB (A5 n x.1) to=true∧(Es n to k S i).1.length=m+1∧HWay n p (Es n to k S i).1 x∧∀m' x',Walk n p m' x'→inB (A5 n x'.1) to=true→m≤m') ∧
  ((Es n to k S i).2=false→(Es n to k S i).1=[]∧∀m' x',Walk n p m' x'→inB (A5 n x'.1) to=true→False)
 |0,S,i,h,hi,hk=>by
  have:=h.met.ok.le;omega
 |k+1,S,i,h,hi,hk=>by
  rw[Es];by_cases hl:i<S.list.length
  ·rw[zE hl];cases hg:inB (A5 n (nth S.list (i:Int)).domain) to with
   |true=>
    rw[zE rfl];refine⟨λ_=>?_,λhf=>by cases hf⟩;have hH:=h.walk i hl;obtain ⟨m,hm,hw⟩:=hH.walk;rw[←Apy]at hm;refine⟨m,_,hw,hg,?_,hH,λm' x' uk ou=>?_⟩
    ·show (backT S.list (i:Int)).length=_;rw[←Apy];exact hm
    ·refine h.none (M:=m) (λb hb hbm=>?_) uk ou;by_cases so:b<i
     ·exact so
     ·have:=h.mono i b q_ hb;omega
   |false=>
    rw[zD j_];obtain ⟨h1,h2⟩:=h.next hl hg;exact Zr k _ (i+1) h1 h2 q_
  ·rw[zD hl];refine⟨λhf=>(by cases hf),λ_=>⟨rfl,λm' x' uk ou=>?_⟩⟩;have:=h.none (M:=m'+1) (λb hb _=>by omega) uk ou;omega
def A5g{n:Net}(hr:Ac n=true){p:Int}(hp:0≤p∧p.toNat<n.ports.length)(to:Int):SI n p to (beginT n p) 0:=by
 have e:nth n.ports p=n.ports[p.toNat]:=Af hp.2;have hv:∀v∈(nth n.ports p).native::(nth n.ports p).tagged,v≠0→0≤B6 n (nth n.ports p).dev v∧(B6 n (nth n.ports p).dev v).toNat<n.domains.length:=by
  rw[e];exact λv hv h0=>Kg hr hp.2 hv h0
 have key:∀(l:List Int) (S:Srch),BI n p S (-1)→(∀v∈l,v∈(nth n.ports p).native::(nth n.ports p).tagged)→BI n p (l.foldl (J2 n (nth n.ports p).dev) S) (-1)∧(∀v∈l,v≠0→HasB (l.foldl (J2 n (nth n.ports p).dev) S).list (B6 n (nth n.ports p).dev v,0) 1)∧∃x,(l.foldl (J2 n (nth n.ports p).dev) S).list=S.list++x:=by
  intro l
  induction l with
  |nil=>exact λS h _=>⟨h,λ_ hx=>(by cases hx),[],by simp⟩
  |cons v l ih=>
   intro S h hl;rw[vG,J2];by_cases h0:v=0
   ·rw[zE h0];obtain ⟨i1,i2,x,i3⟩:=ih S h (λw hw=>hl w (by simp[hw]));refine⟨i1,λw hw kz=>?_,x,i3⟩;rcases yH.1 hw with rfl|hw
    ·exact yB h0 kz
    ·exact i2 w hw kz
   ·rw[zD h0];have t8:=hl v y_;obtain ⟨m1,m2,x,m3⟩:=h.meet (a:=-1) q_ (hv v t8 h0) (.inl rfl) (hp:=⟨0,0,B6 n (nth n.ports p).dev v,0⟩) rfl (by rw[Avu];exact .start ⟨v,t8,h0,rfl⟩);obtain ⟨i1,i2,y,i3⟩:=ih _ m1 (λw hw=>hl w (by simp[hw]));refine⟨i1,λw hw kz=>?_,x++y,by rw[i3,m3,xD]⟩;rcases yH.1 hw with rfl|hw
    ·rw[i3];rw[Apx]at m2;exact m2.app m1.met.bk
    ·exact i2 w hw kz
 have h0:BI n p (Km n) (-1):=by
  refine⟨⟨Aoi n,λi hi=>by simp[Km]at hi,λf hf=>by simp[Km]at hf,λd hd k hk=>?_⟩,λb c _ hc=>by simp[Km]at hc,λb hb=>by simp[Km]at hb,λb hb=>by simp[Km]at hb⟩;constructor
  ·intro hm;have:Tm (Km n) d k=false:=by
    unfold Tm Km;dsimp only;split<;>(rw[Af (by rw[xS];exact hd.2)];simp)
   rw[this]at hm;cases hm
  ·rintro ⟨f,hf,_⟩;simp[Km]at hf
 obtain ⟨i1,i2,x,i3⟩:=key ((nth n.ports p).native::(nth n.ports p).tagged) (Km n) h0 (λv hv=>hv);refine⟨i1.met,i1.mono,λhl b hb=>?_,i1.walk,λj hj=>by omega,?_,λj hj=>by omega⟩
 ·have h1:=i1.bnd b hb;rw[Apx]at h1;show lnC (beginT n p).list (b:Int)≤_;have h1:lnC (beginT n p).list (b:Int)≤0+1:=h1;omega
 ·rintro y ⟨v,hv,h0,rfl⟩;exact i2 v hv h0
def Aje{n:Net}{p to:Int}:((wayT n p to).2=true→Ac n=true∧K1 n p=true∧K1 n to=true∧p≠to∧∃m x,Walk n p m x∧inB (A5 n x.1) to=true∧(wayT n p to).1.length=m+1∧HWay n p (wayT n p to).1 x∧∀m' x',Walk n p m' x'→inB (A5 n x'.1) to=true→m≤m') ∧
  ((wayT n p to).2=false→(wayT n p to).1=[]∧(Ac n=true→K1 n p=true→K1 n to=true→p≠to→∀m' x',Walk n p m' x'→inB (A5 n x'.1) to=true→False)):=by
 rw[wayT];split
 ·rename_i hc;obtain ⟨s1,s2⟩:=Zr (2*n.domains.length+1) (beginT n p) 0 (A5g hc.2.2.2 (K0 hc.1) to) (xQ _) q_;exact⟨λh=>⟨hc.2.2.2,hc.1,hc.2.1,hc.2.2.1,s1 h⟩,λh=>⟨(s2 h).1,λ_ _ _ _=>(s2 h).2⟩⟩
 ·rename_i hc;exact⟨λh=>(by cases h),λ_=>⟨rfl,λh1 h2 h3 h4=>yB ⟨h2,h3,h4,h1⟩ hc⟩⟩
def Io{n:Net}{i:Int}(h:0≤Bb n i):(0≤i∧i.toNat<n.ports.length)∧0≤(nth n.ports i).link∧(nth n.ports i).link.toNat<n.links.length:=by
 have ht:=Ek h;unfold Bb at h;split at h
 ·rename_i hc;have e1:nth n.ports i=n.ports[i.toNat]:=Af ht.1.2;rw[e1]at hc⊢;exact⟨ht.1,hc.2.1,(E7 hc.2.2 ht.1.2 hc.2.1).1⟩
 ·omega
def memberB_iff{p:Port}{v:Int}:Cw p v=true↔v≠0∧(v=p.native∨v∈p.tagged):=by
 simp[Cw,inB]
def C7{n:Net}(hr:Ac n=true){d p:Int}(hd:0≤d∧d.toNat<n.domains.length):p∈A5 n d↔(0≤p∧p.toNat<n.ports.length)∧(nth n.ports p).dev=(nth n.domains d).dev∧Cw (nth n.ports p) (nth n.domains d).vlan=true:=by
 rw[A5,zE ⟨⟨hd.1,by omega⟩,hr⟩,A6,Sn];constructor
 ·rintro ⟨h1,h2,h3⟩;rw[Ug,yR h1]at h3;simp only[zG,yI]at h3;exact⟨⟨h1,by omega⟩,h3⟩
 ·rintro ⟨⟨h1,h2⟩,h3⟩;refine⟨h1,by omega,?_⟩;rw[Ug,yR h1];simpa using h3
def Axc{n:Net}(hr:Ac n=true){d:Int}(hd:0≤d∧d.toNat<n.domains.length):C5 n (nth n.domains d).dev (nth n.domains d).vlan=d:=by
 rw[Af hd.2,(bareB_iff.1 (Axb hr hd.2)).2.2.2.2];exact yR hd.1
def Ahs{n:Net}{dev v:Int}(h:0≤C5 n dev v):(0≤C5 n dev v∧(C5 n dev v).toNat<n.domains.length)∧(nth n.domains (C5 n dev v)).dev=dev∧(nth n.domains (C5 n dev v)).vlan=v:=by
 have h0:C5 n dev v=Br (λd:Domain=>d.dev==dev&&d.vlan==v) n.domains:=rfl;obtain ⟨a,b⟩:=Amv (p:=λd:Domain=>d.dev==dev&&d.vlan==v) h0.symm h;simp only[zG,yI]at b;exact⟨⟨h,a⟩,by rw[Af a];exact b.1,by rw[Af a];exact b.2⟩
def Ti{n:Net}{p:Int}(h:0≤Bb n p):Bb n (Bb n p)=p:=by
 have ht:=Ek h;have hr:=ht.2.1;have hl:=Io h;obtain ⟨⟨p0,p1⟩,l0,l1⟩:=hl;have e:Bb n p=if (nth n.links (nth n.ports p).link).a=p then (nth n.links (nth n.ports p).link).b else (nth n.links (nth n.ports p).link).a:=by
  rw[Bb,zE ⟨⟨p0,by omega⟩,l0,hr⟩]
 have ak:Mj n (nth n.ports p).link.toNat (nth n.links (nth n.ports p).link)=true:=by
  have h2:=hr;simp only[Ac,zG]at h2;rw[Af l1];exact allB_iff.1 h2.1.1.1.1.2 _ l1
 have a7:=E7 hr p1 (by rw[←Af p1];exact l0);rw[←Af p1]at a7;have nk:((p.toNat:Nat):Int)=p:=yR p0;have gn:(((nth n.ports p).link.toNat:Nat):Int)=(nth n.ports p).link:=yR l0;rw[nk]at a7;simp only[Mj,Ai,zG,zK,yI,xB]at ak;rw[gn]at ak;obtain ⟨⟨⟨⟨⟨a1,a2⟩,b1,b2⟩,af⟩,la⟩,lb⟩:=ak;have hab:(nth n.links (nth n.ports p).link).a≠(nth n.links (nth n.ports p).link).b:=λe=>af (by rw[e])
 by_cases hp:(nth n.links (nth n.ports p).link).a=p
 ·rw[zE hp]at e;have e2:Bb n (nth n.links (nth n.ports p).link).b=if (nth n.links (nth n.ports p).link).a=(nth n.links (nth n.ports p).link).b then (nth n.links (nth n.ports p).link).b else (nth n.links (nth n.ports p).link).a:=by
   rw[Bb,zE ⟨⟨b1,b2⟩,by rw[lb];exact l0,hr⟩,lb]
  rw[e,e2,zD hab,hp]
 ·rw[zD hp]at e;have tw:=a7.2.resolve_left hp;have e2:Bb n (nth n.links (nth n.ports p).link).a=(nth n.links (nth n.ports p).link).b:=by
   rw[Bb,zE ⟨⟨a1,a2⟩,by rw[la];exact l0,hr⟩,la,zE rfl]
  rw[e,e2,tw]
def Sg{n:Net}(hr:Ac n=true){d e p:Int}(hd:0≤d∧d.toNat<n.domains.length)(hp:p∈A5 n d)(h:linkDomT n p (nth n.domains d).vlan=(e,true)):(0≤e∧e.toNat<n.domains.length)∧Bb n p∈A5 n e∧linkDomT n (Bb n p) (nth n.domains e).vlan=(d,true):=by
 obtain ⟨d7,gu,d8⟩:=(C7 hr hd).1 hp;have ar:=Ly (n:=n) (i:=p) (v:=(nth n.domains d).vlan) (by rw[h]);rw[h]at ar;dsimp only at ar;refine⟨ar,?_⟩;have hc:(crossT n p (nth n.domains d).vlan).2.2=true:=by
  cases rn:(crossT n p (nth n.domains d).vlan).2.2
  ·rw[linkDomT,zD (by rw[rn];decide)]at h;cases h
  ·rfl
 rw[linkDomT,zE hc]at h;have lm:0≤Bb n p∧Cw (nth n.ports p) (nth n.domains d).vlan=true∧Dq n p (nth n.domains d).vlan≠0:=by
  rw[crossT]at hc;split at hc
  ·assumption
  ·cases hc
 rw[crossT,zE lm]at h;dsimp only at h;obtain ⟨he,_⟩:=Prod.mk.inj h;rw[B6,zE hr]at he;have hot:=Ek lm.1;have hq:0≤Bb n p∧(Bb n p).toNat<n.ports.length:=⟨lm.1,hot.2.2⟩
 have jj:=Ti lm.1;generalize hqe:Bb n p=q at *;generalize s5:(nth n.domains d).vlan=v at *;have mf:=Ahs (n:=n) (dev:=(nth n.ports q).dev) (v:=Dq n p v) (by rw[he];exact ar.1);rw[he]at mf;obtain ⟨_,d1,d2⟩:=mf;obtain ⟨v0,hv⟩:=memberB_iff.1 d8;have q9:=(Ahn hr hq.2).2;have yu:=(Ahn hr d7.2).2;rw[←Af hq.2]at q9;rw[←Af d7.2]at yu;have vr:=lm.2.2;have dt:Dq n p v=(if v=(nth n.ports p).native then (nth n.ports q).native else if inB (nth n.ports q).tagged v=true then v else 0):=by rw[Dq,hqe]
 have ej:Dq n q (Dq n p v)=(if Dq n p v=(nth n.ports q).native then (nth n.ports p).native else if inB (nth n.ports p).tagged (Dq n p v)=true then Dq n p v else 0):=by rw[Dq,jj]
 have yv:∀{l:List Int} {x:Int},inB l x=true↔x∈l:=by intro l x;simp[inB]
 have key:Cw (nth n.ports q) (Dq n p v)=true∧Dq n q (Dq n p v)=v:=by
  by_cases hn:v=(nth n.ports p).native
  ·rw[zE hn]at dt;rw[dt]at ej⊢;rw[zE rfl]at ej;rw[dt]at vr;exact⟨memberB_iff.2 ⟨vr,.inl E⟩,by rw[ej,hn]⟩
  ·rw[zD hn]at dt;cases hi:inB (nth n.ports q).tagged v with
   |false=>
    rw[hi,zD j_]at dt;exact yB dt vr
   |true=>
    rw[hi,zE rfl]at dt;rw[dt]at ej⊢;have af:v≠(nth n.ports q).native:=λe=>by rw[←e,hi]at q9;cases q9
    rw[zD af,zE (yv.2 (hv.resolve_left hn))]at ej;exact⟨memberB_iff.2 ⟨v0,.inr (yv.1 hi)⟩,ej⟩
 refine⟨(C7 hr ar).2 ⟨hq,d1.symm,by rw[d2];exact key.1⟩,?_⟩;rw[d2,linkDomT];have hcq:crossT n q (Dq n p v)=(p,v,true):=by
  rw[crossT,zE ⟨by rw[jj];exact d7.1,key.1,by rw[key.2];exact v0⟩,jj,key.2]
 rw[hcq,zE rfl];dsimp only;rw[B6,zE hr,gu,←s5,Axc hr hd]
def Sa{n:Net}(hr:Ac n=true){d k:Int}(hd:0≤d∧d.toNat<n.domains.length)(hk:k∈(nth n.domains d).peers):(0≤k∧k.toNat<n.domains.length)∧d∈(nth n.domains k).peers:=by
 rw[Af hd.2]at hk;refine⟨Avc hr hd.2 hk,?_⟩;have h:=hr;simp only[Ac,zG]at h;have h1:=allB_iff.1 h.1.1.1.1.1.1.2 _ hd.2;obtain ⟨j,hj,e⟩:=yZ.1 hk;have h2:=allB_iff.1 h1 j hj;rw[e]at h2;simp only[Sb,zG]at h2;have h3:inB (nth n.domains k).peers ((d.toNat:Nat):Int)=true:=h2.1.2;rw[yR hd.1]at h3;simpa [inB] using h3
def A0c{n:Net}{d:Int}{h:Hop}(hh:h∈Do n d):∃g∈Do n h.domain,g.domain=d:=by
 have ar:=L1 hh;rw[Do]at hh;split at hh
 ·rename_i hd;have hr:=hd.2;have dr:0≤d∧d.toNat<n.domains.length:=by have:=hd.1;omega
  rw[Do,zE ⟨⟨ar.1,by omega⟩,hr⟩];rcases yL.1 hh with hh|hh
  ·obtain ⟨p,hp,hl⟩:=wE.1 hh;rw[linkHop]at hl;split at hl
   ·rename_i ax;cases hl;obtain ⟨_,hq,hb⟩:=Sg hr dr hp (e:=(linkDomT n p (nth n.domains d).vlan).1) (Prod.ext rfl ax);refine⟨⟨1,Bb n p,d,0⟩,tA _ (wE.2 ⟨Bb n p,hq,?_⟩),E⟩;rw[linkHop,hb,zE rfl]
   ·cases hl
  ·obtain ⟨k,hk,rfl⟩:=yS.1 hh;obtain ⟨_,hb⟩:=Sa hr dr hk;exact⟨Kv d,uI _ (yS.2 ⟨d,hb,E⟩),E⟩
 ·cases hh
inductive Path(n:Net):Nat→Int→Int→Prop
 |nil (d:Int):Path n 0 d d
 |snoc {k:Nat} {d e:Int} {h:Hop}:Path n k d e→h∈Do n e→Path n (k+1) d h.domain
theorem Path.cons{n:Net}{d:Int}{h:Hop}(hh:h∈Do n d):∀{k:Nat} {e:Int},Path n k h.domain e→Path n (k+1) d e:=by
 intro k e hp;generalize hx:h.domain=x at hp
 induction hp with
 |nil=>subst hx;exact .snoc (.nil d) hh
 |snoc _ hg ih=>exact .snoc (ih hx) hg
def Asw{n:Net}(hr:Ac n=true){p d:Int}(hp:0≤p∧p.toNat<n.ports.length):Art n p (d,0)↔(0≤d∧d.toNat<n.domains.length)∧inB (A5 n d) p=true:=by
 have e:nth n.ports p=n.ports[p.toNat]:=Af hp.2;constructor
 ·rintro ⟨v,hv,h0,he⟩;obtain ⟨rfl,_⟩:=Prod.mk.inj he;have hm:Cw (nth n.ports p) v=true:=memberB_iff.2 ⟨h0,by simpa using hv⟩;rw[B6,zE hr];have hd:=V7 hr hp.2 (by rw[←e];exact hm);rw[←e]at hd;obtain ⟨d0,d1,d2⟩:=Ahs (n:=n) (dev:=(nth n.ports p).dev) (v:=v) hd.1;refine⟨d0,?_⟩;have:=(C7 hr d0).2 ⟨hp,d1.symm,by rw[d2];exact hm⟩;simpa [inB] using this
 ·rintro ⟨hd,hm⟩;have hm:p∈A5 n d:=by simpa [inB] using hm
  obtain ⟨_,h1,h2⟩:=(C7 hr hd).1 hm;obtain ⟨h3,h4⟩:=memberB_iff.1 h2;refine⟨(nth n.domains d).vlan,by simpa using h4,h3,?_⟩;rw[B6,zE hr,h1,Axc hr hd]
def A53{n:Net}(hr:Ac n=true){p:Int}(hp:0≤p∧p.toNat<n.ports.length){k:Nat}{x:Int×Int}(hw:Walk n p k x):0≤x.1∧x.1.toNat<n.domains.length:=by
 cases hw with
 |start hs=>
  obtain ⟨v,hv,h0,rfl⟩:=hs;exact((Asw hr hp).1 ⟨v,hv,h0,E⟩).1
 |step _ hs=>
  rcases hs with ⟨h,hh,rfl⟩|⟨_,q,hq,rfl⟩
  ·exact L1 hh
  ·exact M9 hq
def Wj{α β:Type}(key:α→Option β)(l:List α):Prop:=∀i j (hi:i<l.length) (hj:j<l.length),key l[i]≠none→key l[i]=key l[j]→i=j
def Awu{α β:Type}{key:α→Option β}{l e:List α}(h:Wj key l)(he:∀x∈e,key x=none):Wj key (l++e):=by
 intro i j hi hj h1 h2;rw[zQ]at hi hj;by_cases c:i<l.length
 ·by_cases d:j<l.length
  ·rw[yU c]at h1 h2;rw[yU d]at h2;exact h i j c d h1 h2
  ·exfalso;rw[xO (show l.length≤j by omega),he _ (zJ _)]at h2;exact h1 h2
 ·exfalso;rw[xO (show l.length≤i by omega),he _ (zJ _)]at h1;exact h1 E
def Awt{α β:Type}{key:α→Option β}{l:List α}(h:Wj key l)(k:Nat){x:α}(hx:∀y∈l,key y≠key x):Wj key (l.set k x):=by
 intro i j hi hj h1 h2;rw[yP]at hi hj;rw[vH]at h1;rw[vH,vH]at h2;by_cases c:k=i
 ·by_cases d:k=j
  ·omega
  ·rw[zE c,zD d]at h2;exact yB h2.symm (hx _ (zJ _))
 ·rw[zD c]at h1 h2;by_cases d:k=j
  ·rw[zE d]at h2;exact yB h2 (hx _ (zJ _))
  ·rw[zD d]at h2;exact h i j hi hj h1 h2
def Tk{α β:Type}{key:α→Option β}{l:List α}(h:Wj key l)(k:Nat){x:α}(hx:∀hk:k<l.length,key x=key l[k]):Wj key (l.set k x):=by
 have hs:∀i (hi:i<l.length),key ((l.set k x)[i]'(by rw[yP];exact hi))=key l[i]:=by
  intro i hi;rw[vH];split
  ·rename_i c;subst c;exact hx hi
  ·rfl
 intro i j hi hj h1 h2;rw[yP]at hi hj;rw[hs i hi]at h1 h2;rw[hs j hj]at h2;exact h i j hi hj h1 h2
def A6x{α β:Type}{key:α→Option β}{l:List α}{f:α→α}(h:Wj key l)(hf:∀x,key (f x)=key x):Wj key (l.map f):=by
 intro i j hi hj h1 h2;rw[xA]at hi hj;rw[vJ,hf]at h1;rw[vJ,vJ,hf,hf]at h2;exact h i j hi hj h1 h2
def A3d{α β:Type}{key:α→Option β}{l:List α}(h:Wj key l){x:α}(hx:∀y∈l,key y≠key x):Wj key (l++[x]):=by
 intro i j hi hj h1 h2;rw[zQ,zW]at hi hj;by_cases c:i<l.length
 ·rw[yU c]at h1 h2;by_cases d:j<l.length
  ·rw[yU d]at h2;exact h i j c d h1 h2
  ·exfalso;have wm:j=l.length:=by omega
   subst wm;rw[List.getElem_concat_length rfl]at h2;exact hx _ (zJ c) h2
 ·have hi':i=l.length:=by omega
  subst hi';by_cases d:j<l.length
  ·exfalso;rw[List.getElem_concat_length rfl,yU d]at h2;exact hx _ (zJ d) h2.symm
  ·omega
def Anr{α:Type}{p:α→Bool}{l:List α}(h:Br p l<0):∀x∈l,p x=false:=by
 have h1:l.any p=false:=by rw[←Jm];exact zI q_
 simpa [vD] using h1
def vtK(d:Device):Option Int:=if d.vtep=0 then none else some d.vtep
def vnK(d:Domain):Option (Int×Int):=if d.vni=0 then none else some (d.dev,d.vni)
def irK(x:Irb):Option Int:=some x.addr
structure WitK(n:Net):Prop where
 vt:Wj vtK n.devices
 vn:Wj vnK n.domains
 ir:Wj irK n.irbs
 st:∀s∈n.statics,Kx s.mac=false
def Akx:WitK emptyN:=⟨λi j hi=>(by cases hi),λi j hi=>(by cases hi),λi j hi=>(by cases hi),λs hs=>(by cases hs)⟩
def Al2{l:LineM}(hk:l.kind=4)(h:Cq l=true):Kx l.mac=false:=by
 simp only[Cq,Bm,hk,zG]at h;simp only[statB,zG,yT]at h;simp at h;exact h.1.2.1.1.2
def A6n{n:Net}{l:LineM}(h:WitK n):WitK (putT n l).1:=by
 have e:=Akx;rw[putT];split
 ·rw[putDevice]
  repeat' split
  all_goals (try exact e)
  exact⟨Awu h.vt (λx hx=>by rw[yA.1 hx];rfl),h.vn,h.ir,h.st⟩
 split
 ·rw[putPort]
  repeat' split
  all_goals (try exact e)
  refine⟨h.vt,?_,h.ir,h.st⟩;show Wj vnK (Bk (Cg n l.dev) n.domains (l.vlan::l.tagged));have key:∀(vs:List Int) (ds:List Domain),Wj vnK ds→Wj vnK (Bk (Cg n l.dev) ds vs):=by
   intro vs
   induction vs with
   |nil=>exact λds hd=>hd
   |cons v vs ih=>
    intro ds hd;refine ih (C1 (Cg n l.dev) ds v) ?_;rw[C1];split
    ·exact Awu hd (λx hx=>by rw[yA.1 hx];rfl)
    ·exact hd
  exact key _ _ h.vn
 split
 ·rw[putLink];dsimp only
  repeat' split
  all_goals (try exact e)
  exact⟨h.vt,h.vn,h.ir,h.st⟩
 split
 ·rename_i h4;rw[putStatic];dsimp only;split
  ·exact e
  rename_i hf;have hf:fitsB n l 4=true:=by simpa using hf
  rw[fitsB,zG,zG]at hf
  repeat' split
  all_goals (try exact e)
  refine⟨h.vt,h.vn,h.ir,λs hs=>?_⟩;rcases yL.1 hs with hs|hs
  ·exact h.st s hs
  ·rw[yA.1 hs];exact Al2 h4 (by simpa using hf.2.1)
 split
 ·rw[putVtep];dsimp only;split
  ·exact e
  split
  ·exact e
  rename_i hc;refine⟨?_,h.vn,h.ir,h.st⟩;show Wj vtK (Yq n.devices (begT n l 5).1 l.addr);have h9:C4 n l.addr<0:=by omega
  have h9:=Anr h9;by_cases h0:l.addr=0
  ·have h1:¬(nth n.devices (begT n l 5).1).vtep≠0:=λhh=>hc (.inl hh)
   refine Tk h.vt _ λhk=>?_
   have h2:(nth n.devices (begT n l 5).1).vtep=0:=Classical.byContradiction h1;rw[Af hk]at h2;simp only[vtK,h0,h2]
  ·refine Awt h.vt _ λy hy=>?_
   have h8:=h9 y hy;simp at h8;simp only[vtK,zD h0];split
   ·exact λhh=>by cases hh
   ·exact λhh=>h8 (Option.some.inj hh)
 split
 ·rw[putVni];dsimp only;split
  ·exact e
  split
  ·exact e
  split
  ·exact e
  rename_i hc;split
  ·exact e
  rename_i hv;refine⟨h.vt,?_,h.ir,h.st⟩;have hd:=Ahs (n:=n) (dev:=(begT n l 6).1) (v:=l.vlan) q_;have h9:Je n (begT n l 6).1 l.num<0:=by omega
  have h9:=Anr h9;by_cases h0:l.num=0
  ·refine Tk h.vn _ λhk=>?_
   have h2:(nth n.domains (C5 n (begT n l 6).1 l.vlan)).vni=0:=Classical.byContradiction λhh=>hv (.inl hh)
   rw[Af hk]at h2;simp only[vnK,h0,h2,zE]
  ·refine Awt h.vn _ λy hy=>?_
   have h8:=h9 y hy;simp[h0]at h8;simp only[vnK,zD h0,hd.2.1];split
   ·exact λhh=>by cases hh
   ·intro hh;have:=Option.some.inj hh;simp only[Prod.mk.injEq]at this;exact h8 this.1 this.2
 split
 ·rw[putFlood];dsimp only
  repeat' split
  all_goals (try exact e)
  exact⟨h.vt,h.vn,h.ir,h.st⟩
 split
 ·rw[putVrf];dsimp only
  repeat' split
  all_goals (try exact e)
  exact⟨h.vt,h.vn,h.ir,h.st⟩
 split
 ·rw[putIrb];dsimp only;split
  ·exact e
  split
  ·exact e
  split
  ·exact e
  split
  ·exact e
  rename_i hc;refine⟨h.vt,Tk h.vn _ λhk=>?_,A3d h.ir λy hy=>?_,h.st⟩
  ·rw[Af hk];rfl
  ·have h9:n.irbs.any (clashB n (begT n l 9).1 l.addr l.bits)=false:=by
    cases hh:n.irbs.any (clashB n (begT n l 9).1 l.addr l.bits)
    ·rfl
    ·exact yB (.inr hh) hc
   rw[vD]at h9;have:=h9 y hy;simp only[clashB,yO,yI,uL]at this;exact λhh=>this.1 (Option.some.inj hh)
 exact e
def A3q{n:Net}(h:WitK n):WitK (Bw n):=⟨h.vt,A6x h.vn λ_=>rfl,h.ir,h.st⟩
def Ala:∀(l:List LineM) (n:Net),WitK n→(B0 n l).2.2=0→WitK (B0 n l).1
 |[],n,hn,h=>by
  rw[B0,finishT]at h⊢;split at h
  ·rename_i h1;exact yB h h1
  rename_i h1;rw[zD h1];split at h
  ·simp at h
  rename_i h2;rw[zD h2];obtain ⟨e1,_⟩:=Qh (n:=n) q_;dsimp only;rw[e1];exact A3q hn
 |x::l,n,hn,h=>by
  rw[B0]at h⊢;split at h
  ·rename_i h1;exact yB h h1
  rename_i h1;rw[zD h1];exact Ala l _ (A6n hn) h
structure BuiltK(n:Net):Prop where
 right:Ac n=true
 wit:WitK n
 num:n.Num
 mesh:(meshNT n).2.2=0
 same:Bw n=n
abbrev InD(n:Net)(d:Int):Prop:=0≤d∧d.toNat<n.domains.length
def Kd{n:Net}{d:Int}(h:InD n d):Ai d n.domains.length=true:=by
 rw[Ai,zL h.1,zL (by have:=h.2;omega)];rfl
def inB_iff{l:List Int}{x:Int}:inB l x=true↔x∈l:=by simp[inB]
def A1l{n:Net}(h:BuiltK n){a b:Int}(ha:0≤a∧a.toNat<n.devices.length)(hb:0≤b∧b.toNat<n.devices.length)(e:(nth n.devices a).vtep=(nth n.devices b).vtep)(h0:(nth n.devices a).vtep≠0):a=b:=by
 rw[Af ha.2]at e h0;rw[Af hb.2]at e;have yw:=h0;rw[e]at yw;have:=h.wit.vt a.toNat b.toNat ha.2 hb.2 (by rw[vtK,zD h0];exact λe=>by cases e) (by rw[vtK,vtK,zD h0,zD yw,e]);omega
def Ar3{n:Net}(h:BuiltK n){a b:Int}(ha:InD n a)(hb:InD n b)(e:(nth n.domains a).dev=(nth n.domains b).dev)(e2:(nth n.domains a).vni=(nth n.domains b).vni)(h0:(nth n.domains a).vni≠0):a=b:=by
 rw[Af ha.2]at e e2 h0;rw[Af hb.2]at e e2;have yw:=h0;rw[e2]at yw;have:=h.wit.vn a.toNat b.toNat ha.2 hb.2 (by rw[vnK,zD h0];exact λe=>by cases e) (by rw[vnK,vnK,zD h0,zD yw,e,e2]);have:=ha.1;have:=hb.1;omega
def ir_one{n:Net}(h:BuiltK n){a b:Int}(ha:0≤a∧a.toNat<n.irbs.length)(hb:0≤b∧b.toNat<n.irbs.length)(e:(nth n.irbs a).addr=(nth n.irbs b).addr):a=b:=by
 rw[Af ha.2,Af hb.2]at e;have:=h.wit.ir a.toNat b.toNat ha.2 hb.2 (by exact λe=>by cases e) (by rw[irK,irK,e]);omega
def Atw{n:Net}(h:BuiltK n){a:Int}(ha:0≤a∧a.toNat<n.devices.length)(h0:(nth n.devices a).vtep≠0):C4 n (nth n.devices a).vtep=a:=by
 have h1:0≤C4 n (nth n.devices a).vtep:=idxI_nonneg.2 (by
  rw[wV];exact⟨nth n.devices a,Ir ha.2,by simp⟩)
 obtain ⟨h2,h3⟩:=E6 h1;have h3:(nth n.devices (C4 n (nth n.devices a).vtep)).vtep=(nth n.devices a).vtep:=by simpa [C4] using h3
 exact A1l h ⟨h1,h2⟩ ha h3 (by rw[h3];exact h0)
def vni_is{n:Net}(h:BuiltK n){d:Int}(hd:InD n d)(h0:(nth n.domains d).vni≠0):Je n (nth n.domains d).dev (nth n.domains d).vni=d:=by
 have h1:0≤Je n (nth n.domains d).dev (nth n.domains d).vni:=idxI_nonneg.2 (by
  rw[wV];exact⟨nth n.domains d,Ir hd.2,by simp[h0]⟩)
 obtain ⟨h2,h3⟩:=E6 h1;have h3:(nth n.domains (Je n (nth n.domains d).dev (nth n.domains d).vni)).dev=(nth n.domains d).dev∧(nth n.domains (Je n (nth n.domains d).dev (nth n.domains d).vni)).vni=(nth n.domains d).vni:=by
  simp only[Je,zG,yI]at h3⊢;exact⟨h3.1,h3.2.1⟩
 exact Ar3 h ⟨h1,h2⟩ hd h3.1 h3.2 (by rw[h3.2];exact h0)
def Aau{n:Net}(h:BuiltK n){f:Flood}(hf:f∈n.floods):agreesB n f=true:=by
 have:=(Qh h.mesh).2.2.2;rw[List.find?_eq_none]at this;have:=this f hf;simpa using this
def Ab7{n:Net}(h:BuiltK n){d:Int}(hd:InD n d):(nth n.domains d).peers=peersT n (nth n.domains d):=by
 have e:n.domains=n.domains.map λd=>{d with peers:=peersT n d}:=by
  have:=zH Net.domains h.same;exact this.symm
 have e2:nth n.domains d={nth n.domains d with peers:=peersT n (nth n.domains d)}:=by
  have h1:(n.domains.map λd=>{d with peers:=peersT n d})[d.toNat]'(by rw[xA];exact hd.2)={n.domains[d.toNat]'hd.2 with peers:=peersT n (n.domains[d.toNat]'hd.2)}:=vJ _;have h2:n.domains[d.toNat]'hd.2=(n.domains.map λd=>{d with peers:=peersT n d})[d.toNat]'(by rw[xA];exact hd.2):=by
   congr 1
  rw[Af hd.2];exact h2.trans h1
 exact zH Domain.peers e2
def Awq{n:Net}(h:BuiltK n){d k:Int}(hd:InD n d)(hk:k∈(nth n.domains d).peers):∃f∈n.floods,f.dev=(nth n.domains d).dev∧f.vni=(nth n.domains d).vni∧(nth n.domains d).vni≠0∧f=nth n.floods (Ef n (nth n.domains d).dev (nth n.domains d).vni) ∧
  ∃a∈f.addrs,k=Je n (C4 n a) (nth n.domains d).vni:=by
 rw[Ab7 h hd,peersT]at hk;split at hk
 ·rename_i hc;obtain ⟨a,ha,e⟩:=yS.1 hk;obtain ⟨h1,h2⟩:=E6 hc.2;have h2:(nth n.floods (Ef n (nth n.domains d).dev (nth n.domains d).vni)).dev=(nth n.domains d).dev∧(nth n.floods (Ef n (nth n.domains d).dev (nth n.domains d).vni)).vni=(nth n.domains d).vni:=by
   simpa [Ef] using h2
  exact⟨_,Ir h1,h2.1,h2.2,hc.1,E,a,ha,e.symm⟩
 ·cases hk
def A62{n:Net}(h:BuiltK n){d:Int}(hd:InD n d){f:Flood}(hf:f=nth n.floods (Ef n (nth n.domains d).dev (nth n.domains d).vni))(h0:(nth n.domains d).vni≠0)(hl:0≤Ef n (nth n.domains d).dev (nth n.domains d).vni){a:Int}(ha:a∈f.addrs):Je n (C4 n a) (nth n.domains d).vni∈(nth n.domains d).peers:=by
 rw[Ab7 h hd,peersT,zE ⟨h0,hl⟩,←hf];exact yS.2 ⟨a,ha,E⟩
def Aea{n:Net}{f:Flood}{a:Int}(hf:agreesB n f=true)(ha:a∈f.addrs):0≤C4 n a∧a≠0∧0≤Je n (C4 n a) f.vni∧0≤Ef n (C4 n a) f.vni ∧
  (nth n.devices f.dev).vtep∈(nth n.floods (Ef n (C4 n a) f.vni)).addrs∧∀b∈f.addrs,b=a∨b∈(nth n.floods (Ef n (C4 n a) f.vni)).addrs:=by
 rw[agreesB,zG,yV]at hf;have:=hf.2 a ha;simp only[agreeA,zG,zK,xB,yV,yO,yI,inB_iff]at this;exact⟨this.1,this.2.1,this.2.2.1,this.2.2.2.1,this.2.2.2.2.1,this.2.2.2.2.2⟩
def Azb{n:Net}(h:BuiltK n){d k e:Int}(hd:InD n d)(hk:k∈(nth n.domains d).peers)(he:e∈(nth n.domains k).peers):e=d∨e∈(nth n.domains d).peers:=by
 have cd:=(Sa h.right hd hk).1;obtain ⟨f,hf,f1,f2,v0,fe,a,ha,rfl⟩:=Awq h hd hk;obtain ⟨o0,a0,i0,l0,own,all⟩:=Aea (Aau h hf) ha;have hK:=E6 i0;have hK:(nth n.domains (Je n (C4 n a) f.vni)).dev=C4 n a∧(nth n.domains (Je n (C4 n a) f.vni)).vni=f.vni:=by
  have:=hK.2;simp only[Je,zG,yI]at this⊢;exact⟨this.1,this.2.1⟩
 rw[f2]at hK;obtain ⟨g,hg,g1,g2,w0,ge,b,hb,eb⟩:=Awq h cd he;rw[hK.1]at g1;rw[hK.2]at g2 w0 eb;rw[hK.1,hK.2]at ge;have vo:nth n.floods (Ef n (C4 n a) f.vni)=g:=by rw[f2,ge]
 rw[vo]at own all;obtain ⟨p0,b0,j0,m0,_,s7⟩:=Aea (Aau h hg) own;have yx:=(Hp h.right hd.2).1;rw[←Af hd.2]at yx;rw[f1]at own s7 p0 b0 j0 m0;rw[Atw h yx b0,g2]at s7;rw[←fe]at s7;rcases s7 b hb with rfl|dw
 ·left;rw[eb,Atw h yx b0];exact vni_is h hd v0
 ·right;rw[eb];have hl:0≤Ef n (nth n.domains d).dev (nth n.domains d).vni:=by
   rw[Ab7 h hd,peersT]at hk;split at hk
   ·rename_i hc;exact hc.2
   ·cases hk
  exact A62 h hd fe v0 hl dw
def Af9{n:Net}(hr:Ac n=true){d k:Int}(hd:InD n d)(hk:k∈(nth n.domains d).peers):InD n k∧(nth n.domains k).vni=(nth n.domains d).vni∧(nth n.domains d).vni≠0∧C6 n k≠0∧C6 n d≠0:=by
 have ar:=(Sa hr hd hk).1;rw[Af hd.2]at hk;have h:=hr;simp only[Ac,zG]at h;have h1:=allB_iff.1 h.1.1.1.1.1.1.2 _ hd.2;obtain ⟨j,hj,e⟩:=yZ.1 hk;have h2:=allB_iff.1 h1 j hj;rw[e]at h2;simp only[Sb,zG,xB,yI,Mh]at h2;rw[←Af hd.2]at h2;exact⟨ar,h2.1.1.1.1.1.2,h2.1.1.1.1.2,h2.1.1.1.2,h2.1.1.2⟩
def Aj1{n:Net}(h:BuiltK n){d k:Int}(hd:InD n d)(hk:k∈(nth n.domains d).peers){f:FrameM}(hf:FrameOK f)(ht:f.typ≠33024)(hl:f.body.length≤1450)(hg:Dx f.src=false):(meshT n d k f).2=0∧comeT n (meshT n d k f).1=(d,k,f,0):=by
 obtain ⟨cd,v1,v0,t1,t0⟩:=Af9 h.right hd hk;have dk:=(Hp h.right cd.2).1;have dd:=Hp h.right hd.2;rw[←Af cd.2]at dk;rw[←Af hd.2]at dd;have n1:0≤C6 n d∧C6 n d<4294967296:=h.num.vtep _ (Ir dd.1.2);have n2:0≤C6 n k∧C6 n k<4294967296:=h.num.vtep _ (Ir dk.2);have e1:(((C6 n d).toNat:Nat):Int)=C6 n d:=yR n1.1;have e2:(((C6 n k).toNat:Nat):Int)=C6 n k:=yR n2.1;obtain ⟨w1,w2⟩:=An9 (a:=(C6 n d).toNat) (b:=(C6 n k).toNat) (v:=(nth n.domains d).vni) q_ q_ hf ht hl q_;have hm:meshT n d k f=wrapT (C6 n d).toNat (C6 n k).toNat (nth n.domains d).vni f:=by
  rw[meshT,zD,zD]
  ·rw[inB_iff.2 hk];decide
  ·rintro (hh|hh|hh)
   ·rw[Kd cd]at hh;cases hh
   ·rw[Kd hd]at hh;cases hh
   ·rw[h.right]at hh;cases hh
 rw[hm];refine⟨w1,?_⟩;have c1:Br (λx:Device=>decide (x.vtep=(((C6 n k).toNat:Nat):Int))) n.devices=(nth n.domains k).dev:=by
  rw[e2];exact Atw h dk t1
 have c2:Br (λx:Domain=>decide (x.dev=(nth n.domains k).dev)&&decide (x.vni=(nth n.domains d).vni)) n.domains=k:=by
  have h1:0≤Br (λ x:Domain=>decide (x.dev=(nth n.domains k).dev) && decide (x.vni=(nth n.domains d).vni)) n.domains:=idxI_nonneg.2 (by
   rw[wV];exact⟨nth n.domains k,Ir cd.2,by simp[v1]⟩)
  obtain ⟨h2,h3⟩:=E6 h1;simp only[zG,zK]at h3;exact Ar3 h ⟨h1,h2⟩ cd h3.1 (by rw[h3.2,v1]) (by rw[h3.2];exact v0)
 have c3:0≤Br (λj:Int=>decide (C6 n j=(((C6 n d).toNat:Nat):Int))) (nth n.domains k).peers∧nth (nth n.domains k).peers (Br (λj:Int=>decide (C6 n j=(((C6 n d).toNat:Nat):Int))) (nth n.domains k).peers)=d:=by
  have hb:=(Sa h.right hd hk).2;have h1:0≤Br (λ j:Int=>decide (C6 n j=(((C6 n d).toNat:Nat):Int))) (nth n.domains k).peers:=idxI_nonneg.2 (by
   rw[wV];exact⟨d,hb,by rw[e1];simp⟩)
  obtain ⟨h2,h3⟩:=E6 h1;generalize Br (λj:Int=>decide (C6 n j=(((C6 n d).toNat:Nat):Int))) (nth n.domains k).peers=i at *;have hj:nth (nth n.domains k).peers i∈(nth n.domains k).peers:=Ir h2;generalize nth (nth n.domains k).peers i=j at *;obtain ⟨tt,u1,_,_,_⟩:=Af9 h.right cd hj;have h3:C6 n j=C6 n d:=by rw[e1]at h3;simpa using h3
  have dj:=(Hp h.right tt.2).1;rw[←Af tt.2]at dj;exact⟨h1,Ar3 h tt hd (A1l h dj dd.1 h3 (by show C6 n j≠0;rw[h3];exact t0)) (by rw[u1,v1]) (by rw[u1,v1];exact v0)⟩
 have yy:endsT n (C6 n d).toNat (C6 n k).toNat (nth n.domains d).vni=(d,k):=by
  rw[endsT];dsimp only;rw[c1,c2,zD (by have:=dk.1;have:=cd.1;omega),zD (by have:=c3.1;omega),c3.2]
 rw[comeT,zD (by rw[h.right];decide),w2];dsimp only;rw[zD y_,yy];dsimp only;rw[zD (by have:=hd.1;omega),hg,zD y_]
def Ad0{n:Net}(hr:Ac n=true){q:Int}(hq:0≤q∧q.toNat<n.ports.length){f:FrameM}(hf:FrameOK f)(ht:f.typ≠33024)(hg:Dx f.src=false)(hn:(nth n.ports q).native≠0):enterT n q (Lu f)=(B6 n (nth n.ports q).dev (nth n.ports q).native,f,0):=by
 have hp:Ai q n.ports.length=true:=by rw[Ai,zL hq.1,zL q_];rfl
 rw[enterT,zD (by rw[hp,hr];decide),Lr hf];dsimp only;rw[zD y_,zD ht,J1,hg,zD y_];have hv:vlanT (nth n.ports q) false 0=((nth n.ports q).native,true):=by rw[vlanT,zE (.inl rfl),zL hn]
 rw[hv,zD y_]
def Aay{n:Net}(hr:Ac n=true){q v:Int}(hq:0≤q∧q.toNat<n.ports.length){f:FrameM}(hf:FrameOK f)(ht:f.typ≠33024)(hb:f.body.length≤1500)(hg:Dx f.src=false)(hv:1≤v∧v≤4094)(ar:inB (nth n.ports q).tagged v=true):enterT n q (Lu (tagT f v).1)=(B6 n (nth n.ports q).dev v,f,0):=by
 have hp:Ai q n.ports.length=true:=by rw[Ai,zL hq.1,zL q_];rfl
 obtain ⟨s1,s2,s3⟩:=Ajn (v:=v) hf ht hb ⟨by omega,hv.2⟩;rw[enterT,zD (by rw[hp,hr];decide),Lr s1];dsimp only;rw[zD y_,zE s2,s3];dsimp only;rw[zD y_,J1,hg,zD y_];have lj:vlanT (nth n.ports q) true v=(v,true):=by rw[vlanT,zD (by rintro (hh|hh);cases hh;omega),zE ar]
 rw[lj,zD y_]
def Yy{n:Net}(hr:Ac n=true){d p:Int}(hd:InD n d)(hp:p∈A5 n d){f:FrameM}(ht:f.typ≠33024)(hb:f.body.length≤1500):leaveT n p d f=(if (nth n.domains d).vlan=(nth n.ports p).native then Lu f else Lu (tagT f (nth n.domains d).vlan).1,0):=by
 obtain ⟨d7,gu,d8⟩:=(C7 hr hd).1 hp;have a7:Ai p n.ports.length=true:=by rw[Ai,zL d7.1,zL q_];rfl
 have htg:=(Afg (f:=f) (v:=(nth n.domains d).vlan) ht hb).1;rw[leaveT,zD (by rw[a7,Kd hd,hr];decide),zD (by rintro (hh|hh);exact hh gu;rw[d8]at hh;cases hh),zD ht];split
 ·rfl
 ·rw[zD (λhh=>hh htg)]
def Az1{n:Net}(h:BuiltK n){d p e:Int}(hd:InD n d)(hp:p∈A5 n d)(hl:linkDomT n p (nth n.domains d).vlan=(e,true)){f:FrameM}(hf:FrameOK f)(ht:f.typ≠33024)(hb:f.body.length≤1500)(hg:Dx f.src=false):linkT n p (leaveT n p d f).1=(Bb n p,e,f,0):=by
 have hr:=h.right;rw[Yy hr hd hp ht hb];dsimp only;have hc:(crossT n p (nth n.domains d).vlan).2.2=true:=by
  cases rn:(crossT n p (nth n.domains d).vlan).2.2
  ·rw[linkDomT,zD (by rw[rn];decide)]at hl;cases hl
  ·rfl
 rw[linkDomT,zE hc]at hl;have lm:0≤Bb n p∧Cw (nth n.ports p) (nth n.domains d).vlan=true∧Dq n p (nth n.domains d).vlan≠0:=by
  rw[crossT]at hc;split at hc
  ·assumption
  ·cases hc
 rw[crossT,zE lm]at hl;dsimp only at hl;obtain ⟨he,_⟩:=Prod.mk.inj hl;have hot:=Ek lm.1;have hq:0≤Bb n p∧(Bb n p).toNat<n.ports.length:=⟨lm.1,hot.2.2⟩
 have ft:=(Hp hr hd.2).2.1;rw[←Af hd.2]at ft;have dt:=lm.2.2;rw[Dq]at he dt;rw[linkT,zD q_];by_cases hn:(nth n.domains d).vlan=(nth n.ports p).native
 ·rw[zE hn]at he dt;rw[zE hn,Ad0 hr hq hf ht hg dt,he]
 ·rw[zD hn]at he dt;cases hi:inB (nth n.ports (Bb n p)).tagged (nth n.domains d).vlan with
  |false=>rw[hi]at dt;exact yB rfl dt
  |true=>
   rw[hi,zE rfl]at he;rw[zD hn,Aay hr hq hf ht hb hg ft hi,he]
def Amk{α:Type}[Inhabited α]{l:List α}{i:Nat}(h:i<l.length):nth l (i:Int)=l[i]:=Af (i:=(i:Int)) h
def Li{α:Type}[Inhabited α]{l:List α}{x:α}{i:Nat}(h:i<l.length):nth (l++[x]) (i:Int)=nth l (i:Int):=Yv (by simpa using h)
def Wt{α:Type}[Inhabited α](l:List α)(x:α):nth (l++[x]) (l.length:Int)=x:=by
 rw[Amk y_];simp
structure WayS(n:Net)(p:Int)(l:List Hop)(st:Nat→Int×Int)(r:Nat):Prop where
 pos:1≤r∧r≤l.length
 dom:∀i,i<l.length→(nth l (i:Int)).domain=(st i).1
 kd:∀i,i<l.length→(st i).2=if i<r then 0 else 1
 start:Art n p (st 0)∧nth l ((0:Nat):Int)=⟨0,0,(st 0).1,0⟩
 hop:∀i,i+1<l.length→i+1≠r→nth l ((i+1:Nat):Int)∈Do n (st i).1
 lead:∀i,i+1<l.length→i+1=r→∃q∈routesT n (st i).1,nth l ((i+1:Nat):Int)=⟨3,0,q.domain,q.addr⟩
def Ach{n:Net}{d:Int}{h:Hop}(hh:h∈Do n d):(h.kind=1∧h.port∈A5 n d∧linkDomT n h.port (nth n.domains d).vlan=(h.domain,true))∨(h.kind=2∧h.domain∈(nth n.domains d).peers):=by
 rw[Do]at hh;split at hh
 ·rcases yL.1 hh with hh|hh
  ·obtain ⟨p,hp,hl⟩:=wE.1 hh;rw[linkHop]at hl;split at hl
   ·rename_i ax;cases hl;exact .inl ⟨E,hp,Prod.ext E ax⟩
   ·cases hl
  ·obtain ⟨k,hk,rfl⟩:=yS.1 hh;exact .inr ⟨E,hk⟩
 ·cases hh
def Ae6{n:Net}{p:Int}{l:List Hop}{x:Int×Int}(h:HWay n p l x):∃st r,WayS n p l st r∧x=st (l.length-1)∧(x.2=0→r=l.length):=by
 induction h with
 | @start d hs=>
  refine⟨λ_=>(d,0),1,⟨⟨yD _,yD _⟩,λi hi=>?_,λi hi=>?_,⟨hs,E⟩,λi hi=>?_,λi hi=>?_⟩,E,λ_=>rfl⟩
  ·have:i=0:=by simpa using hi
   subst this;rfl
  ·have:i=0:=by simpa using hi
   subst this;rfl
  ·simp at hi
  ·simp at hi
 | @hop l x h _ hh ih=>
  obtain ⟨st,r,W,hx,h0⟩:=ih;have hl:0<l.length:=by have:=W.pos;omega
  refine⟨λi=>if i<l.length then st i else (h.domain,x.2),if x.2=0 then l.length+1 else r,⟨?_,λi hi=>?_,λi hi=>?_,?_,λi hi hr=>?_,λi hi hr=>?_⟩,?_,λe=>?_⟩
  ·have:=W.pos;rw[zQ,zW];split<;>omega
  ·rw[zQ,zW]at hi;by_cases c:i<l.length
   ·rw[zE c,Li c];exact W.dom i c
   ·have:i=l.length:=by omega
    subst this;rw[zD c,Wt]
  ·rw[zQ,zW]at hi;have kx:=W.kd (l.length-1) q_;rw[←hx]at kx;by_cases c:i<l.length
   ·rw[zE c,W.kd i c];by_cases e:x.2=0
    ·rw[zE e,h0 e,zE c,zE q_]
    ·rw[zD e]
   ·rw[zD c];dsimp only;by_cases e:x.2=0
    ·rw[zE e,zE q_,e]
    ·rw[zD e];rw[kx]at e⊢;have:=W.pos;split at e
     ·exact yB E e
     ·rw[zD q_,zD q_]
  ·rw[zE hl,Li hl];exact W.start
  ·rw[zQ,zW]at hi;rw[zE q_];by_cases c:i+1<l.length
   ·rw[Li c];refine W.hop i c λe=>hr ?_
    have kx:=W.kd (l.length-1) q_;rw[←hx,zD q_]at kx;rw[kx,zD y_,e]
   ·have e:i+1=l.length:=by omega
    rw[e,Wt];have e2:i=l.length-1:=by omega
    rw[e2,←hx];exact hh
  ·rw[zQ,zW]at hi;rw[zE q_];by_cases e:x.2=0
   ·rw[zE e]at hr;omega
   ·rw[zD e]at hr;have c:i+1<l.length:=by
     have kx:=W.kd (l.length-1) q_;rw[←hx]at kx;rw[kx]at e;split at e
     ·exact yB E e
     ·omega
    rw[Li c];exact W.lead i c hr
  ·rw[zQ,zW];exact(zD q_).symm
  ·dsimp only at e;rw[zE e,zQ,zW]
 | @lead l x q _ hk hq ih=>
  obtain ⟨st,r,W,hx,h0⟩:=ih;have hl:0<l.length:=by have:=W.pos;omega
  have ji:=h0 hk;refine⟨λi=>if i<l.length then st i else (q.domain,1),l.length,⟨?_,λi hi=>?_,λi hi=>?_,?_,λi hi hr=>?_,λi hi hr=>?_⟩,?_,λe=>(by cases e)⟩
  ·rw[zQ,zW];omega
  ·rw[zQ,zW]at hi;by_cases c:i<l.length
   ·rw[zE c,Li c];exact W.dom i c
   ·have:i=l.length:=by omega
    subst this;rw[zD c,Wt]
  ·by_cases c:i<l.length
   ·rw[zE c,zE c,W.kd i c,zE q_]
   ·rw[zD c,zD c]
  ·rw[zE hl,Li hl];exact W.start
  ·rw[zQ,zW]at hi;rw[zE q_,Li q_];exact W.hop i q_ q_
  ·rw[zQ,zW]at hi;rw[zE q_,hr,Wt];have e2:i=l.length-1:=by omega
   rw[e2,←hx];exact⟨q,hq,E⟩
  ·rw[zQ,zW];exact(zD q_).symm
section
variable {n:Net} {p:Int} {l:List Hop} {st:Nat→Int×Int} {r:Nat}
theorem WayS.succ(W:WayS n p l st r){i:Nat}(h:i+1<l.length):A73 n (st i) (st (i+1)):=by
 have k0:=W.kd i q_;have k1:=W.kd (i+1) h;have d1:=W.dom (i+1) h;by_cases e:i+1=r
 ·obtain ⟨q,hq,hh⟩:=W.lead i h e;rw[hh]at d1;rw[zE q_]at k0;rw[zD q_]at k1;exact .inr ⟨k0,q,hq,Prod.ext d1.symm k1⟩
 ·refine .inl ⟨_,W.hop i h e,Prod.ext d1.symm ?_⟩;rw[k1];show _=(st i).2;rw[k0];by_cases c:i<r
  ·rw[zE c,zE q_]
  ·rw[zD c,zD q_]
theorem WayS.walk(W:WayS n p l st r):∀i,i<l.length→Walk n p i (st i)
 |0,_=>.start W.start.1
 |i+1,h=>.step (W.walk i q_) (W.succ h)
theorem WayS.on(W:WayS n p l st r){k j:Nat}(h:Walk n p k (st j)):∀e,j+e<l.length→Walk n p (k+e) (st (j+e))
 |0,_=>h
 |e+1,he=>.step (W.on h e q_) (W.succ q_)
def Uc(n:Net)(p:Int)(l:List Hop)(st:Nat→Int×Int):Prop:=∀k,Walk n p k (st (l.length-1))→l.length-1≤k
theorem WayS.near(W:WayS n p l st r)(S:Uc n p l st){k j:Nat}(hj:j<l.length)(h:Walk n p k (st j)):j≤k:=by
 have h1:=W.on h (l.length-1-j) q_;rw[show j+(l.length-1-j)=l.length-1 by omega]at h1;have:=S _ h1;omega
theorem WayS.diff(W:WayS n p l st r)(S:Uc n p l st){i j:Nat}(hi:i<l.length)(hj:j<l.length)(h:st i=st j):i=j:=by
 have h1:=W.near S hj (h▸W.walk i hi);have h2:=W.near S hi (h▸W.walk j hj);omega
theorem WayS.window(W:WayS n p l st r)(S:Uc n p l st){i j:Nat}(hi:i<l.length)(hj:j<l.length)(hk:(st i).2=(st j).2){g h:Hop}(hg:g∈Do n (st i).1)(hh:h∈Do n (st j).1)(e:g.domain=h.domain):j≤i+2:=by
 obtain ⟨b,hb,eb⟩:=A0c hh;have w1:Walk n p (i+1) (g.domain,(st i).2):=.step (W.walk i hi) (.inl ⟨g,hg,rfl⟩);have w2:Walk n p (i+1+1) (b.domain,(st i).2):=.step w1 (.inl ⟨b,by rw[e];exact hb,rfl⟩);rw[eb,hk]at w2;exact W.near S hj w2
theorem WayS.ahead(W:WayS n p l st r)(S:Uc n p l st){i j:Nat}(hi:i<l.length)(hj:j<l.length)(hk:(st i).2=(st j).2){g:Hop}(hg:g∈Do n (st i).1)(e:g.domain=(st j).1):j≤i+1:=by
 have w1:Walk n p (i+1) (g.domain,(st i).2):=.step (W.walk i hi) (.inl ⟨g,hg,rfl⟩);rw[e,hk]at w1;exact W.near S hj w1
theorem WayS.ind(W:WayS n p l st r)(hr:Ac n=true)(hp:0≤p∧p.toNat<n.ports.length){i:Nat}(hi:i<l.length):InD n (st i).1:=A53 hr hp (W.walk i hi)
theorem WayS.route(W:WayS n p l st r):Yr l=if r<l.length then (r:Int) else -1:=by
 have hk:∀i (hi:i<l.length),(decide ((l[i]).kind=3))=decide (i=r):=by
  intro i hi;rw[←Amk hi,decide_eq_decide];cases i with
  |zero=>
   rw[W.start.2];have:=W.pos;constructor
   ·intro h;cases h
   ·intro h;omega
  |succ i=>
   by_cases e:i+1=r
   ·obtain ⟨q,_,hh⟩:=W.lead i hi e;rw[hh];exact⟨λ_=>e,λ_=>rfl⟩
   ·refine⟨λh=>?_,λh=>yB h e⟩;rcases Ach (W.hop i hi e) with h1|h1
    ·rw[h1.1]at h;cases h
    ·rw[h1.1]at h;cases h
 by_cases c:r<l.length
 ·rw[zE c];exact Co c (λi hi ab=>by rw[hk i hi];exact zI q_) (by rw[hk r c];exact zL E)
 ·rw[zD c];exact Di λi hi=>by rw[hk i hi];exact zI q_
end
def tableB_iff{t:List EntryM}:tableB t=true↔t.length≤8∧(t.map (·.mac)).Nodup∧∀e∈t,H2 e.mac=true∧Hq e.seen=true:=by
 rw[tableB,zG,zK,allB_iff];refine and_congr_right λ_=>?_
 constructor
 ·intro h;have hi:∀i (hi:i<t.length),H2 t[i].mac=true∧Hq t[i].seen=true∧Dw t t[i].mac=i:=λi hi=>by
   have:=h i hi;simp only[Tz,zG,zK]at this;exact⟨this.1.1,this.1.2,this.2⟩
  refine⟨?_,λe he=>?_⟩
  ·rw[vF,wG];intro i j h1 h2 bc;rw[xA]at h1 h2;rw[vJ,vJ];intro e;have a:=(hi i h1).2.2;have b:=(hi j h2).2.2;rw[e]at a;omega
  ·obtain ⟨i,h1,rfl⟩:=yZ.1 he;exact⟨(hi i h1).1,(hi i h1).2.1⟩
 ·rintro ⟨h1,h2⟩ i hi;have:=h2 t[i] (zJ hi);rw[vF,wG]at h1;have hx:Dw t t[i].mac=i:=Co hi (λ j hj oy=>by
   have:=h1 j i (by rw[xA];exact hj) (by rw[xA];exact hi) oy;rw[vJ,vJ]at this;exact zI this) (zL E)
  simp only[Tz,zG,zK];exact⟨⟨this.1,this.2⟩,hx⟩
def Ap8{t:List EntryM}{m:Nat}{wh now:Int}{S:Nat→Prop}(h:tableB t=true)(hS:∀e∈t,S e.mac)(hm:S m):tableB (learnT t m wh now)=true∧∀e∈learnT t m wh now,S e.mac:=by
 rw[learnT];split
 ·exact⟨h,hS⟩
 rename_i hc;have br:H2 m=true:=by
  cases hh:H2 m
  ·exact yB (.inr (.inl hh)) hc
  ·rfl
 have htm:Hq now=true:=by
  cases hh:Hq now
  ·exact yB (.inr (.inr hh)) hc
  ·rfl
 obtain ⟨h1,h2,h3⟩:=tableB_iff.1 h;split
 ·rename_i hi;obtain ⟨a,b⟩:=Amv (p:=λe:EntryM=>decide (e.mac=m)) (i:=Dw t m) rfl hi;have b:=zO b;refine⟨tableB_iff.2 ⟨by rw[yP];exact h1,?_,λe he=>?_⟩,λe he=>?_⟩
  ·rw[List.map_set];have:(t.map (·.mac)).set (Dw t m).toNat m=t.map (·.mac):=by
    have e2:(t.map (·.mac))[(Dw t m).toNat]'(by rw[xA];exact a)=m:=(vJ _).trans b;clear hi hm b;generalize (Dw t m).toNat=i at *;rw[←e2];exact wO _
   rw[this];exact h2
  ·rcases Wu he with he|he
   ·exact h3 e he
   ·rw[he];exact⟨br,htm⟩
  ·rcases Wu he with he|he
   ·exact hS e he
   ·rw[he];exact hm
 ·rename_i hi;have dp:∀e∈t,e.mac≠m:=λe he hh=>by
   have:=Anr (p:=λe:EntryM=>decide (e.mac=m)) (l:=t) (by show Dw t m<0;omega) e he;exact zT this hh
  have key:∀u:List EntryM,u.length≤7→u.Sublist t→tableB (u++[⟨m,wh,now⟩])=true∧∀e∈u++[⟨m,wh,now⟩],S e.mac:=by
   intro u hu hs;refine⟨tableB_iff.2 ⟨by rw[zQ,zW];omega,?_,λe he=>?_⟩,λe he=>?_⟩
   ·rw[wZ,List.nodup_append];refine⟨(hs.map _).nodup h2,by simp,λx hx y hy=>?_⟩;obtain ⟨e,he,rfl⟩:=yS.1 hx;simp at hy;rw[hy];exact dp e (hs.subset he)
   ·rcases yL.1 he with he|he
    ·exact h3 e (hs.subset he)
    ·rw[yA.1 he];exact⟨br,htm⟩
   ·rcases yL.1 he with he|he
    ·exact hS e (hs.subset he)
    ·rw[yA.1 he];exact hm
  split
  ·rename_i h8;have ab:oldestU t t.length<t.length∨t.length≤oldestU t t.length:=by omega
   have ho:∀j,j≤t.length→oldestU t j≤j-1∨oldestU t j=0:=by
    intro j
    induction j with
    |zero=>exact λ_=>.inr rfl
    |succ j ih=>
     intro hj;rw[oldestU];split
     ·exact .inl q_
     ·rcases ih q_ with h|h
      ·exact .inl q_
      ·exact .inr h
   refine key _ ?_ (List.eraseIdx_sublist ..);have:=ho t.length (yD _);rw[List.length_eraseIdx,zE q_];omega
  ·exact key t q_ (List.Sublist.refl _)
section
variable {n:Net} {up:List Bool}
theorem Aw7(h:okB n up=true){p:Int}(ho:0≤Bb n p)(hf:((Ack n up)[(nth n.ports p).link.toNat]?).getD false=true):∃a b:Nat,p=a∧Bb n p=b∧Mz n up a b∧Mz n up b a∧(E9 n up (Cv n) (Mc n up) (Mg n up) (B7 n a)=a∨E9 n up (Cv n) (Mc n up) (Mg n up) (B7 n b)=b):=by
 obtain ⟨hu,hr,aj⟩:=ok_iff.1 h;have S:=Qb h;obtain ⟨⟨p0,p1⟩,l0,l1⟩:=Io ho;have e:=(Bb n p)
 have hk:(nth n.ports p).link.toNat<n.links.length:=l1;obtain ⟨a,b,ha,hb,nu,tu,af,ee,rq⟩:=Ap0 hr hk;have l5:=Aw6 S hr aj hk ha hb nu tu ee rq;have fy:Am0 (Ys n up (Cv n) (Mc n up) (Mg n up)) n.links[(nth n.ports p).link.toNat]=true:=by
  rw[Ack,A0i,vN,zU hk]at hf;exact hf
 obtain ⟨nn,um⟩:=l5.1 fy;have h1:=Aae hr hk ha hb ee nu nn;have h2:Mz n up b a:=by
  refine⟨tu,?_⟩;have:=h1.2;unfold Ed at this⊢;have e1:n.ports.getD a default=nth n.ports a:=rfl;have e2:n.ports.getD b default=nth n.ports b:=rfl;rw[e1]at this;rw[e2];dsimp only at this⊢;rw[ee]at this;rw[rq];split at this
  ·omega
  ·rename_i hc;rw[zD hc];omega
 have yz:Bb n p=if n.links[(nth n.ports p).link.toNat].a=p then n.links[(nth n.ports p).link.toNat].b else n.links[(nth n.ports p).link.toNat].a:=by
  rw[Bb,zE ⟨⟨p0,by omega⟩,l0,hr⟩,Af hk]
 have a7:=E7 hr p1 (by rw[←Af p1];exact l0);rw[←Af p1,Af hk,ha,hb]at a7;rw[ha,hb]at yz;have jt:((p.toNat:Nat):Int)=p:=yR p0;rw[jt]at a7;by_cases c:(a:Int)=p
 ·rw[zE c]at yz;exact⟨a,b,c.symm,yz,h1,h2,um⟩
 ·rw[zD c]at yz;have c2:=a7.2.resolve_left c;exact⟨b,a,c2.symm,yz,h2,h1,um.symm⟩
theorem Aak(h:okB n up=true){i j:Nat}(bc:Mz n up i j)(hb:E9 n up (Cv n) (Mc n up) (Mg n up) (B7 n i)=i):nth (Mg n up) (B7 n j)<nth (Mg n up) (B7 n i):=by
 obtain ⟨hu,hr,aj⟩:=ok_iff.1 h;have h1:=Aco (Qb h) hr bc hb;have h2:1≤Lw n i:=by
  have hi:=bc.1;simp only[Cu,yT,vD]at aj;have:=aj _ (zJ hi);simp only[Im,yO,zK,uL]at this;rw[Lw,Af (l:=n.ports) (i:=(i:Int)) (by simpa using hi)];simp only[zZ];omega
 omega
theorem A7g(h:okB n up=true){p q:Int}(hp:0≤Bb n p)(hq:0≤Bb n q)(fp:((Ack n up)[(nth n.ports p).link.toNat]?).getD false=true)(fq:((Ack n up)[(nth n.ports q).link.toNat]?).getD false=true)(h1:(nth n.ports p).dev=(nth n.ports q).dev)(h2:(nth n.ports (Bb n p)).dev=(nth n.ports (Bb n q)).dev):p=q:=by
 obtain ⟨a,b,ea,eb,u1,u2,c1⟩:=Aw7 h hp fp;obtain ⟨c,d,ec,ed,v1,v2,c2⟩:=Aw7 h hq fq;have tw:=Ti hp;have li:=Ti hq;rw[eb]at h2 tw;rw[ed]at h2 li;rw[ea,ec]at h1;have d1:B7 n a=B7 n c:=h1;have d2:B7 n b=B7 n d:=h2;rcases c1 with c1|c1<;>rcases c2 with c2|c2
 ·rw[d1,c2]at c1;rw[ea,ec,c1]
 ·have x1:=Aak h u1 c1;have x2:=Aak h v2 c2;rw[←d1,←d2]at x2;omega
 ·have x1:=Aak h u2 c1;have x2:=Aak h v1 c2;rw[←d1,←d2]at x2;omega
 ·rw[d2,c2]at c1;rw[←tw,←li,←c1]
end
def Vf(m:MacM)(d X:Int)(l:List QueuedM):queueL (Q4 m d l) X=if d.toNat=X.toNat∧X.toNat<m.queues.length then l else queueL m X:=by
 rw[queueL,Q4];dsimp only;rw[uY];split
 ·rename_i h;rw[h];split
  ·rename_i h2;rw[zE ⟨rfl,h2⟩];rfl
  ·rename_i h2;rw[zD (λhh=>h2 hh.2),queueL,wT q_]
 ·rename_i h;rw[zD (λhh=>h hh.1)];rfl
structure SameM(m m':MacM):Prop where
 up:m'.up=m.up
 tables:m'.tables=m.tables
 now:m'.now=m.now
 injected:m'.injected=m.injected
 len:m'.queues.length=m.queues.length
theorem SameM.refl(m:MacM):SameM m m:=⟨rfl,rfl,rfl,rfl,rfl⟩
theorem SameM.trans{a b c:MacM}(h:SameM a b)(g:SameM b c):SameM a c:=⟨g.up.trans h.up,g.tables.trans h.tables,g.now.trans h.now,g.injected.trans h.injected,g.len.trans h.len⟩
def W8(m:MacM)(d:Int)(q:QueuedM)(e:Int):SameM m (comeM m d q e):=by
 rw[comeM];split
 ·exact⟨E,E,E,E,E⟩
 split
 ·exact⟨E,E,E,E,yP ..⟩
 ·exact⟨E,E,E,E,E⟩
def O0(m:MacM)(d X:Int)(q:QueuedM)(e:Int):queueL (comeM m d q e) X=if e=0∧d.toNat=X.toNat∧X.toNat<m.queues.length∧(queueL m X).length<64 then queueL m X++[q] else queueL m X:=by
 rw[comeM];split
 ·rename_i h;rw[zD (λhh=>h hh.1)];rfl
 rename_i h;have h:e=0:=Classical.byContradiction h;have hq:d.toNat=X.toNat→queueL m d=queueL m X:=λhh=>by rw[queueL,queueL,hh]
 rw[pushT];by_cases c:64≤(queueL m d).length
 ·rw[zE c,zD y_];split
  ·rename_i hh;rw[hq hh.2.1]at c;omega
  ·rfl
 ·rw[zD c,zE rfl];dsimp only;rw[Vf];by_cases c2:d.toNat=X.toNat∧X.toNat<m.queues.length
  ·rw[zE c2,zE ⟨h,c2.1,c2.2,by rw[hq c2.1]at c;omega⟩,hq c2.1]
  ·rw[zD c2,zD (λhh=>c2 ⟨hh.2.1,hh.2.2.1⟩)]
def T9(n:Net)(origin X:Int)(o:OutM):List QueuedM :=
 if o.kind=1 then []
 else if o.kind=2 then (if (linkT n o.port o.bytes).2.2.2=0∧(linkT n o.port o.bytes).2.1.toNat=X.toNat then [⟨(linkT n o.port o.bytes).1,0,origin,(linkT n o.port o.bytes).2.2.1⟩] else [])
 else if o.kind=3 then (if (comeT n o.bytes).2.2.2=0∧(comeT n o.bytes).2.1.toNat=X.toNat then [⟨-1,(comeT n o.bytes).1,origin,(comeT n o.bytes).2.2.1⟩] else [])
 else if o.kind=4 then (if o.domain.toNat=X.toNat then [⟨-2,0,origin,o.frame⟩] else [])
 else []
def Xl(n:Net)(origin X:Int)(O:List OutM):List QueuedM:=O.flatMap (T9 n origin X)
def Ag9(n:Net)(m:MacM)(o:OutM)(g:Int):SameM m (goesM n m o g).1:=by
 rw[goesM];split
 ·exact SameM.refl m
 split
 ·exact W8 m _ _ _
 split
 ·exact W8 m _ _ _
 split
 ·exact W8 m o.domain ⟨-2,0,g,o.frame⟩ 0
 ·exact⟨E,E,E,E,E⟩
def Akp(n:Net)(m:MacM)(o:OutM)(g X:Int)(hX:X.toNat<m.queues.length):queueL (goesM n m o g).1 X=queueL m X++(if (queueL m X).length<64 then T9 n g X o else []):=by
 rw[goesM,T9];split
 ·simp
 split
 ·rw[O0]
  grind
 split
 ·rw[O0]
  grind
 split
 ·rw[O0]
  grind
 ·have:queueL (Dd m o.error) X=queueL m X:=rfl;rw[this];simp
def Anq(n:Net)(g X:Int)(o:OutM):(T9 n g X o).length≤1:=by
 rw[T9]
 repeat' split
 all_goals simp
def Ako(n:Net)(g:Int):∀(O:List OutM) (m:MacM),SameM m (By n m g O).1
 |[],m=>SameM.refl m
 |o::O,m=>(Ag9 n m o g).trans (Ako n g O _)
def Ag8(n:Net)(g X:Int):∀(O:List OutM) (m:MacM),X.toNat<m.queues.length→(queueL m X).length+(Xl n g X O).length≤64→queueL (By n m g O).1 X=queueL m X++Xl n g X O
 |[],m,_,_=>by simp[By,Xl]
 |o::O,m,hX,h=>by
  have e:Xl n g X (o::O)=T9 n g X o++Xl n g X O:=rfl;rw[e,zQ]at h;have h1:=Akp n m o g X hX;have hx:(if (queueL m X).length<64 then T9 n g X o else [])=T9 n g X o:=by
   split
   ·rfl
   ·exact(zX q_).symm
  rw[hx]at h1;show queueL (By n (goesM n m o g).1 g O).1 X=_;rw[Ag8 n g X O _ (by rw[(Ag9 n m o g).len];exact hX) (by rw[h1,zQ];omega),h1,e,xD]
def Aqn(n:Net)(g X:Int):∀(O:List OutM) (m:MacM),X.toNat<m.queues.length→(queueL (By n m g O).1 X).length≤(queueL m X).length+(Xl n g X O).length
 |[],m,_=>by simp[By,Xl]
 |o::O,m,hX=>by
  have h1:=Akp n m o g X hX;have h2:=Aqn n g X O (goesM n m o g).1 (by rw[(Ag9 n m o g).len];exact hX);have e:Xl n g X (o::O)=T9 n g X o++Xl n g X O:=rfl;have h3:(queueL (goesM n m o g).1 X).length≤(queueL m X).length+(T9 n g X o).length:=by
   rw[h1,zQ];split<;>simp
  show (queueL (By n (goesM n m o g).1 g O).1 X).length≤_;rw[e,zQ];omega
def Akn(n:Net)(g:Int):∀(O:List OutM) (m:MacM) (o:OutM),o∈O→o.kind=1→⟨o.port,g,o.bytes⟩∈(By n m g O).2
 |x::O,m,o,h,hk=>by
  show _∈(goesM n m x g).2++(By n (goesM n m x g).1 g O).2;rcases yH.1 h with rfl|h
  ·refine tA _ ?_;rw[goesM,zE hk];exact yA.2 E
  ·exact uI _ (Akn n g O _ o h hk)
def Ay8{n:Net}{m:MacM}{d:Int}{pre:List QueuedM}{q:QueuedM}(hd:Ai d m.queues.length=true)(hq:queueL m d=pre++[q]):pickX m d=⟨2,0,d,pre.length,[],[]⟩∧takeM m d pre.length=(Q4 m d pre,q,true):=by
 have hl:(queueL m d).length=pre.length+1:=by rw[hq];simp
 refine⟨?_,?_⟩
 ·rw[pickX,zE hd,hl,zD q_];congr 1;omega
 ·have ht:takeT (pre++[q]) pre.length=(q,pre,true):=by
   rw[takeT,zD (by simp;omega)];simp only[zZ];have e1:(pre++[q])[pre.length]? = some q:=by simp
   have e2:(pre++[q]).eraseIdx pre.length=pre:=by rw[List.eraseIdx_append_of_length_le (yD _)];simp
   rw[e1,e2];rfl
  rw[takeM,hd,zD y_,hq,ht]
def Ajx{n:Net}{m:MacM}{d:Int}{pre:List QueuedM}{q:QueuedM}(hd:Ai d m.queues.length=true)(hq:queueL m d=pre++[q]){t':List EntryM}{O:List OutM}(hb:bridgeT n (Ki n m.up) (tableL m d) d q m.now=(t',O,0)):doT n m (pickX m d)=By n (E1 (Q4 m d pre) d t') q.origin O:=by
 obtain ⟨h1,h2⟩:=Ay8 (n:=n) hd hq;rw[h1,doT,zD y_,zE rfl];dsimp only;rw[pickT,h2,zD y_];dsimp only;have hp:Z2 n (Q4 m d pre) d q=(t',O,0):=hb;rw[hp,Vl,zD y_,zD y_]
def Avl{n:Net}{fw:List Bool}{t:List EntryM}{d x:Int}{dst:Nat}(hr:Ld n fw d x=true)(h:Dx dst=true∨(D8 n d dst<0∧(findE t dst).2=false)):Dt n fw t d x dst=(Cz n fw x (A6 n d),peersOut n d x,0):=by
 rw[Dt,hr,zD y_];split
 ·rfl
 rename_i hg;obtain ⟨h1,h2⟩:=h.resolve_left hg;rw[zD q_,h2,zD (by rintro ⟨hh,_⟩;cases hh),zD (by rintro ⟨hh,_⟩;cases hh)]
def Avr{n:Net}{fw:List Bool}{t:List EntryM}{d:Int}{q:QueuedM}{now:Int}(hr:Ld n fw d q.from_=true)(ht:tableB t=true)(tv:(routerT n d q.frame.dst).2=false)(h:Dx q.frame.dst=true∨(D8 n d q.frame.dst<0∧(findE (learnQ t q now) q.frame.dst).2=false)):bridgeT n fw t d q now=(learnQ t q now,(Cz n fw q.from_ (A6 n d)).map (Uo n d q.frame)++(peersOut n d q.from_).map (Xg n d q.frame),0):=by
 rw[bridgeT,zD (by rw[hr,ht];decide),tv,zD y_,Avl hr h]
def Avz{n:Net}{irb to e:Int}:∀{x:Int},(addrGo n irb to e x).2=true→lookT n irb (addrGo n irb to e x).1=(to,true)∧Ma n (addrGo n irb to e x).1=false:=by
 intro x
 induction x using addrGo.induct n irb to e with
 |case1 x h1 h2=>intro _;rw[addrGo,zE h1,zE h2];exact⟨Prod.ext h2.2.1 h2.1,h2.2.2⟩
 |case2 x h1 h2 h3=>intro h;rw[addrGo,zE h1,zD h2,zE h3]at h;cases h
 |case3 x h1 h2 h3 h4 ih=>intro h;rw[addrGo,zE h1,zD h2,zD h3,zE h4]at h⊢;exact ih h
 |case4 x h1 h2 h3 h4=>intro h;rw[addrGo,zE h1,zD h2,zD h3,zD h4]at h;cases h
 |case5 x h1=>intro h;rw[addrGo,zD h1]at h;cases h
def Auo{n:Net}(hu:Ds n){d:Int}{q:Lead}(hq:q∈routesT n d):(0≤(nth n.domains d).irb)∧∃i:Nat,i<n.irbs.length∧q.domain=(nth n.irbs (i:Int)).domain∧lookT n (nth n.domains d).irb q.addr=((i:Int),true)∧Ma n q.addr=false∧0≤q.addr∧q.addr<4294967296:=by
 rw[routesT]at hq;split at hq
 ·rename_i hc;obtain ⟨i,hi,hl⟩:=wE.1 hq;rw[leadF]at hl;split at hl
  ·rename_i ha;cases hl;have ar:=Arq hu (nth n.domains d).irb (i:Int);rw[xC]at hi;have h2:=ha;rw[addrT]at h2;split at h2
   ·rename_i lh;have e:addrT n (nth n.domains d).irb (i:Int)=addrGo n (nth n.domains d).irb (i:Int) (Mk (nth n.irbs (i:Int)).addr (nth n.irbs (i:Int)).bits) (I0 (nth n.irbs (i:Int)).addr (nth n.irbs (i:Int)).bits):=by rw[addrT,zE lh]
    obtain ⟨a,b⟩:=Avz h2;dsimp only;rw[←e]at a b;exact⟨hc.2.1,i,hi,E,a,b,ar⟩
   ·cases h2
  ·cases hl
 ·cases hq
def A11{n:Net}{a:Int}(h:Ma n a=false){i:Int}(hi:0≤i∧i.toNat<n.irbs.length):(nth n.irbs i).addr≠a:=by
 have h1:Br (λx:Irb=>x.addr==a) n.irbs<0:=qB h;have:=Anr h1 _ (Ir hi.2);simpa using this
def Ahe{α β:Type}{f:α→List β}:∀{L:List α},L.Nodup→(∀x∈L,(f x).length≤1)→(∀x∈L,∀y∈L,f x≠[]→f y≠[]→x=y)→(L.flatMap f).length≤1
 |[],_,_,_=>xQ _
 |x::L,hn,h1,h2=>by
  rw[vP,zQ];have ih:=Ahe (L:=L) (List.nodup_cons.1 hn).2 (λy hy=>h1 y (by simp[hy])) (λy hy z hz=>h2 y (by simp[hy]) z (by simp[hz]));by_cases c:f x=[]
  ·rw[c,xF];omega
  ·have:L.flatMap f=[]:=by
    rw[List.flatMap_eq_nil_iff];intro y hy;exact Classical.byContradiction λhh=>(List.nodup_cons.1 hn).1 (by rw[h2 x y_ y (by simp[hy]) c hh];exact hy)
   rw[this,xF];exact h1 x y_
structure GoF(f:FrameM):Prop where
 ok:FrameOK f
 typ:f.typ≠33024
 len:f.body.length≤1450
 src:Dx f.src=false
section
variable {n:Net} (B:BuiltK n)
include B
theorem Az0{d p:Int}(hd:InD n d)(hp:p∈A5 n d)(w7:0≤(nth n.ports p).link)(hl:(linkDomT n p (nth n.domains d).vlan).2=false){f:FrameM}(hf:GoF f):(linkT n p (leaveT n p d f).1).2.2.2≠0:=by
 have hr:=B.right;have hb:=hf.len;rw[Yy hr hd hp hf.typ q_];dsimp only;obtain ⟨d7,gu,d8⟩:=(C7 hr hd).1 hp;have ho:0≤Bb n p:=by
  have h2:=E7 hr d7.2 (by rw[←Af d7.2];exact w7);have ak:=hr;simp only[Ac,zG]at ak;have h3:=allB_iff.1 ak.1.1.1.1.2 _ h2.1;rw[Bb,zE ⟨⟨d7.1,by omega⟩,w7,hr⟩,Af d7.2,Af h2.1];simp only[Mj,Ai,zG,zK]at h3;split
  ·exact h3.1.1.1.2.1
  ·exact h3.1.1.1.1.1
 have lm:Dq n p (nth n.domains d).vlan=0:=Classical.byContradiction λhh=>by
  have hx:crossT n p (nth n.domains d).vlan=(Bb n p,Dq n p (nth n.domains d).vlan,true):=zE ⟨ho,d8,hh⟩;rw[linkDomT,hx,zE rfl]at hl;cases hl
 have hot:=Ek ho;have ft:=(Hp hr hd.2).2.1;rw[←Af hd.2]at ft;have a7:Ai (Bb n p) n.ports.length=true:=by rw[Ai,zL ho,zL q_];rfl
 rw[linkT,zD q_];dsimp only;rw[Dq]at lm;by_cases c:(nth n.domains d).vlan=(nth n.ports p).native
 ·rw[zE c]at lm⊢;rw[enterT,zD (by rw[a7,hr];decide),Lr hf.ok];dsimp only;rw[zD y_,zD hf.typ,J1,hf.src,zD y_];have hv:vlanT (nth n.ports (Bb n p)) false 0=((nth n.ports (Bb n p)).native,false):=by rw[vlanT,zE (.inl rfl),zI (λhh=>hh lm)]
  rw[hv,zE rfl];decide
 ·rw[zD c]at lm⊢;obtain ⟨s1,s2,s3⟩:=Ajn (v:=(nth n.domains d).vlan) hf.ok hf.typ q_ ⟨by omega,ft.2⟩;rw[enterT,zD (by rw[a7,hr];decide),Lr s1];dsimp only;rw[zD y_,zE s2,s3];dsimp only;rw[zD y_,J1,hf.src,zD y_];have ar:inB (nth n.ports (Bb n p)).tagged (nth n.domains d).vlan=false:=by
   cases hh:inB (nth n.ports (Bb n p)).tagged (nth n.domains d).vlan
   ·rfl
   ·rw[hh,zE rfl]at lm;omega
  have hv:vlanT (nth n.ports (Bb n p)) true (nth n.domains d).vlan=(0,false):=by rw[vlanT,zD (by rintro (hh|hh);cases hh;omega),ar];rfl
  rw[hv,zE rfl];decide
theorem Qi{d:Int}(hd:InD n d):A6 n d=A5 n d:=by rw[A5,zE ⟨⟨hd.1,by have:=hd.2;omega⟩,B.right⟩]
theorem Amg{d p:Int}(hd:InD n d)(hp:p∈A5 n d){f:FrameM}(hf:GoF f):Uo n d f p=⟨if (nth n.ports p).link<0 then 1 else 2,p,0,(leaveT n p d f).1,noF,0⟩:=by
 have hb:=hf.len;rw[Uo,Vo,zD];rw[Yy B.right hd hp hf.typ q_];exact λhh=>hh E
theorem A6s{d k:Int}(hd:InD n d)(hk:k∈(nth n.domains d).peers){f:FrameM}(hf:GoF f):Xg n d f k=⟨3,0,k,(meshT n d k f).1,noF,0⟩:=by
 rw[Xg,Vo,zD];intro hh;exact hh (Aj1 B hd hk hf.ok hf.typ hf.len hf.src).1
theorem Abe{d p X g:Int}(hd:InD n d)(hX:InD n X)(hp:p∈A5 n d){f:FrameM}(hf:GoF f):T9 n g X (Uo n d f p)=if linkDomT n p (nth n.domains d).vlan=(X,true) then [⟨Bb n p,0,g,f⟩] else []:=by
 have hb:=hf.len;rw[Amg B hd hp hf,T9];by_cases hl:(nth n.ports p).link<0
 ·rw[zE (by rw[zE hl]),zD];intro e;have h2:(crossT n p (nth n.domains d).vlan).2.2=true:=by
   cases rn:(crossT n p (nth n.domains d).vlan).2.2
   ·rw[linkDomT,zD (by rw[rn];decide)]at e;cases e
   ·rfl
  rw[crossT]at h2;split at h2
  ·rename_i hc;have:=(Io hc.1).2.1;omega
  ·cases h2
 ·rw[zD (by rw[zD hl];simp),zE (by rw[zD hl])];dsimp only;cases hc:(linkDomT n p (nth n.domains d).vlan).2 with
  |false=>
   rw[zD (λhh=>Az0 B hd hp q_ hc hf hh.1),zD (λhh=>by rw[hh]at hc;cases hc)]
  |true=>
   have e:linkDomT n p (nth n.domains d).vlan=((linkDomT n p (nth n.domains d).vlan).1,true):=Prod.ext rfl hc;have ar:=Ly hc;rw[Az1 B hd hp e hf.ok hf.typ q_ hf.src];dsimp only;by_cases c:(linkDomT n p (nth n.domains d).vlan).1=X
   ·rw[zE ⟨rfl,by rw[c]⟩,zE (by rw[e,c])]
   ·rw[zD (λhh=>c (by have:=hh.2;have:=hX.1;omega)),zD (λhh=>c (by rw[hh]))]
theorem Abf{d k X g:Int}(hd:InD n d)(hX:InD n X)(hk:k∈(nth n.domains d).peers){f:FrameM}(hf:GoF f):T9 n g X (Xg n d f k)=if k=X then [⟨-1,d,g,f⟩] else []:=by
 have cd:=(Sa B.right hd hk).1;rw[A6s B hd hk hf,T9,zD (by dsimp only;decide),zD (by dsimp only;decide),zE rfl];dsimp only;rw[(Aj1 B hd hk hf.ok hf.typ hf.len hf.src).2];dsimp only;by_cases c:k=X
 ·rw[zE ⟨rfl,by rw[c]⟩,zE c]
 ·rw[zD (λhh=>c (by have:=hh.2;have:=hX.1;have:=cd.1;omega)),zD c]
theorem Ao9{d:Int}(hd:InD n d):(nth n.domains d).peers.Nodup:=by
 have h:=B.right;simp only[Ac,zG]at h;have h1:=allB_iff.1 h.1.1.1.1.1.1.2 _ hd.2;rw[←Af hd.2]at h1;rw[Oj,allB_iff]at h1;rw[vF,wG];intro i j hi hj bc e;have a:=h1 i hi;have b:=h1 j hj;simp only[zG,yI]at a b;rw[e]at a;omega
theorem Aiw(d:Int):(A6 n d).Nodup:=by
 rw[A6,Ml];rw[vF,List.pairwise_map];exact(vF.1 (List.nodup_range.filter _)).imp λh e=>h (Int.ofNat.inj e)
theorem Ahd{fw:List Bool}{up:List Bool}(nn:okB n up=true)(fy:fw=Ack n up){d x X g:Int}(hd:InD n d)(hX:InD n X){f:FrameM}(hf:GoF f):∃A C:List QueuedM,Xl n g X ((Cz n fw x (A6 n d)).map (Uo n d f)++(peersOut n d x).map (Xg n d f))=A++C∧A.length≤1∧C.length≤1 ∧
   (∀a∈A,∃p∈A5 n d,linkDomT n p (nth n.domains d).vlan=(X,true)∧a=⟨Bb n p,0,g,f⟩)∧(∀c∈C,X∈(nth n.domains d).peers∧c=⟨-1,d,g,f⟩) ∧
   (∀p∈A5 n d,p≠x→usableB n fw p=true→linkDomT n p (nth n.domains d).vlan=(X,true)→A≠[])∧(x≠-1→X∈(nth n.domains d).peers→C≠[]):=by
 have em:∀p,p∈Cz n fw x (A6 n d)→p∈A5 n d∧usableB n fw p=true:=by
  intro p hp;rw[Cz,uO]at hp;refine⟨by rw[←Qi B hd];exact hp.1,?_⟩;have:=hp.2;simp only[yT,wJ,wS]at this;exact this.2
 have fm:∀k,k∈peersOut n d x→k∈(nth n.domains d).peers:=by
  intro k hk;rw[peersOut]at hk;split at hk
  ·cases hk
  ·exact hk
 refine⟨(Cz n fw x (A6 n d)).flatMap λp=>T9 n g X (Uo n d f p),(peersOut n d x).flatMap λk=>T9 n g X (Xg n d f k),?_,?_,?_,?_,?_,?_,?_⟩
 ·rw[Xl,List.flatMap_append,List.flatMap_map,List.flatMap_map]
 ·refine Ahe ((Aiw B d).filter _) (λp _=>Anq ..) λp hp q hq h1 h2=>?_
  obtain ⟨p1,p2⟩:=em p hp;obtain ⟨q1,q2⟩:=em q hq;rw[Abe B hd hX p1 hf]at h1;rw[Abe B hd hX q1 hf]at h2;have e1:linkDomT n p (nth n.domains d).vlan=(X,true):=Classical.byContradiction λhh=>h1 (zD hh)
  have e2:linkDomT n q (nth n.domains d).vlan=(X,true):=Classical.byContradiction λhh=>h2 (zD hh)
  obtain ⟨_,b1,_⟩:=Sg B.right hd p1 e1;obtain ⟨_,b2,_⟩:=Sg B.right hd q1 e2;have m1:=(C7 B.right hX).1 b1;have m2:=(C7 B.right hX).1 b2;have n1:=(C7 B.right hd).1 p1;have n2:=(C7 B.right hd).1 q1;have l1:=(Io m1.1.1).2.1;have l2:=(Io m2.1.1).2.1;have u:∀{z:Int},usableB n fw z=true→0≤(nth n.ports z).link→((Ack n up)[(nth n.ports z).link.toNat]?).getD false=true:=by
   intro z hz hl;rw[usableB,zI q_,uB,fy]at hz;exact hz
  exact A7g nn m1.1.1 m2.1.1 (u p2 l1) (u q2 l2) (by rw[n1.2.1,n2.2.1]) (by rw[m1.2.1,m2.2.1])
 ·refine Ahe ?_ (λp _=>Anq ..) λp hp q hq h1 h2=>?_
  ·rw[peersOut];split
   ·exact List.nodup_nil
   ·exact Ao9 B hd
  ·rw[Abf B hd hX (fm p hp) hf]at h1;rw[Abf B hd hX (fm q hq) hf]at h2;have e1:p=X:=Classical.byContradiction λhh=>h1 (zD hh)
   have e2:q=X:=Classical.byContradiction λhh=>h2 (zD hh)
   rw[e1,e2]
 ·intro a ha;obtain ⟨p,hp,h⟩:=List.mem_flatMap.1 ha;have p1:=(em p hp).1;rw[Abe B hd hX p1 hf]at h;split at h
  ·rename_i e;exact⟨p,p1,e,yA.1 h⟩
  ·cases h
 ·intro c hc;obtain ⟨k,hk,h⟩:=List.mem_flatMap.1 hc;rw[Abf B hd hX (fm k hk) hf]at h;split at h
  ·rename_i e;subst e;exact⟨fm _ hk,yA.1 h⟩
  ·cases h
 ·intro p hp ru hu hl h;have ar:p∈Cz n fw x (A6 n d):=by
   rw[Cz,uO,Qi B hd];refine⟨hp,?_⟩;rw[hu,zI ru];rfl
  rw[List.flatMap_eq_nil_iff]at h;have:=h p ar;rw[Abe B hd hX hp hf,zE hl]at this;cases this
 ·intro hx hk h;have ar:X∈peersOut n d x:=by rw[peersOut,zD hx];exact hk
  rw[List.flatMap_eq_nil_iff]at h;have:=h X ar;rw[Abf B hd hX hk hf,zE rfl]at this;cases this
end
def Aqi{a:Int}(h:0≤a∧a<4294967296):Kx ((hostN a:Nat):Int)=true:=by
 rw[Kx,hostN];exact zL q_
def Ag3{a b:Int}(ha:0≤a)(hb:0≤b)(h:hostN a=hostN b):a=b:=by
 rw[hostN,hostN]at h;omega
def Amw{a:Int}(h:0≤a∧a<4294967296):hostN a<281474976710656:=by
 rw[hostN];omega
def Adr{a:Int}(h:0≤a∧a<4294967296):hostN a≠Mq:=by
 rw[hostN,Mq];omega
def Auv{a:Int}(h:0≤a∧a<4294967296):Dx (hostN a)=false:=by
 rw[Dx,hostN];exact zI q_
section
variable {n:Net} {p:Int} {l:List Hop} {st:Nat→Int×Int} {r:Nat}
def J6(l:List Hop)(r:Nat):Int:=(nth l (r:Int)).addr
def Mi(n:Net)(st:Nat→Int×Int)(r:Nat):Int:=(nth n.domains (st (r-1)).1).irb
def rTo(n:Net)(l:List Hop)(st:Nat→Int×Int)(r:Nat):Int:=(lookT n (Mi n st r) (J6 l r)).1
def A6m(n:Net)(l:List Hop)(st:Nat→Int×Int)(r:Nat):Int:=(nth n.irbs (rTo n l st r)).addr
def C8(n:Net)(l:List Hop)(st:Nat→Int×Int)(r k:Nat):FrameM :=
 if k<r then frameW n l else ⟨hostN (J6 l r),hostN (A6m n l st r),2048,H4 (Amx (Mo (J6 l r).toNat))⟩
structure RouteK(n:Net)(l:List Hop)(st:Nat→Int×Int)(r:Nat):Prop where
 from_:0≤Mi n st r∧(Mi n st r).toNat<n.irbs.length
 to:0≤rTo n l st r∧(rTo n l st r).toNat<n.irbs.length
 dom:(nth n.irbs (rTo n l st r)).domain=(st r).1
 look:(lookT n (Mi n st r) (J6 l r)).2=true
 free:∀i:Int,0≤i∧i.toNat<n.irbs.length→(nth n.irbs i).addr≠J6 l r
 addr:0≤J6 l r∧J6 l r<4294967296
theorem So{d:Int}(hr:Ac n=true)(hd:InD n d)(h:0≤(nth n.domains d).irb):(nth n.domains d).irb.toNat<n.irbs.length∧(nth n.irbs (nth n.domains d).irb).domain=d:=by
 have:=(bareB_iff.1 (Axb hr hd.2)).2.2.2.1;rw[←Af hd.2]at this;rcases this with h1|⟨h1,h2⟩
 ·omega
 ·rw[Ai,zG,zK,zK]at h1;refine⟨by omega,?_⟩;rw[h2];exact yR hd.1
theorem WayS.led(W:WayS n p l st r)(B:BuiltK n)(hp:0≤p∧p.toNat<n.ports.length)(h:r<l.length):RouteK n l st r:=by
 have i7:=W.pos.1;obtain ⟨q,hq,e⟩:=W.lead (r-1) q_ q_;rw[show r-1+1=r by omega]at e;obtain ⟨h0,i,hi,e1,e2,e3,e4⟩:=Auo B.num.addr hq;have ea:J6 l r=q.addr:=by rw[J6,e]
 have et:rTo n l st r=(i:Int):=by rw[rTo,ea,Mi,e2]
 have hd:=W.ind B.right hp (i:=r-1) q_;have m4:=So B.right hd h0;have m7:=W.dom r h;rw[e]at m7;refine⟨⟨h0,m4.1⟩,by rw[et];exact⟨vY i,by simpa using hi⟩,by rw[et,←e1];exact m7,by rw[ea,Mi,e2],λj hj=>by rw[ea];exact A11 e3 hj,by rw[ea];exact e4⟩
variable (W:WayS n p l st r) (B:BuiltK n) (hp:0≤p∧p.toNat<n.ports.length)
include W B hp
theorem W5:frameW n l=if r<l.length then ⟨hostN (nth n.irbs (Mi n st r)).addr,Mq,2048,H4 (Mo (J6 l r).toNat)⟩ else ⟨281474976710655,Mq,34997,[]⟩:=by
 have i7:=W.pos.1;rw[frameW,W.route];by_cases h:r<l.length
 ·have e:((r:Int)-1)=((r-1:Nat):Int):=by omega
  rw[zE h,zE h,zE q_,irbOf,W.route,zE h,e,W.dom (r-1) q_,ipPutT,zD (by show ¬1480<0;decide)];rfl
 ·rw[zD h,zD h,zD y_]
theorem Af4(h:r<l.length):0≤(nth n.irbs (Mi n st r)).addr∧(nth n.irbs (Mi n st r)).addr<4294967296:=B.num.addr _ (Ir (W.led B hp h).from_.2)
theorem Aju(h:r<l.length):0≤A6m n l st r∧A6m n l st r<4294967296:=B.num.addr _ (Ir (W.led B hp h).to.2)
theorem Aat{k:Nat}(hk:k<l.length):GoF (C8 n l st r k):=by
 rw[C8];split
 ·rw[W5 W B hp];split
  ·rename_i h;have ha:=Af4 W B hp h;have hb:(H4 (Mo (J6 l r).toNat)).length=20:=by rw[Iv];rfl
   exact⟨⟨Amw ha,by show 2203318222849<281474976710656;decide,by dsimp only;decide,by dsimp only;omega⟩,by dsimp only;decide,by dsimp only;omega,by show Dx 2203318222849=false;decide⟩
  ·exact⟨⟨by show 281474976710655<281474976710656;decide,by show 2203318222849<281474976710656;decide,by dsimp only;decide,by dsimp only;decide⟩,by dsimp only;decide,by dsimp only;decide,by show Dx 2203318222849=false;decide⟩
 ·have h:r<l.length:=by omega
  have ha:=(W.led B hp h).addr;have hs:=Aju W B hp h;have hb:(H4 (Amx (Mo (J6 l r).toNat))).length=20:=by rw[Iv];rfl
  exact⟨⟨Amw ha,Amw hs,by dsimp only;decide,by dsimp only;omega⟩,by dsimp only;decide,by dsimp only;omega,Auv hs⟩
def Aes(n:Net)(l:List Hop)(st:Nat→Int×Int)(r k:Nat)(m:Nat):Prop:=m=Mq∨(r≤k∧m=hostN (A6m n l st r))
theorem Acz{d a:Int}(ha:0≤a∧a<4294967296):D8 n d (hostN a)<0:=by
 refine Int.not_le.1 λh=>?_
 obtain ⟨h1,h2⟩:=Amv (p:=λs:Static=>decide (s.domain=d)&&decide (s.mac=((hostN a:Nat):Int))) rfl h;simp only[zG,zK]at h2;have h3:=B.wit.st _ (zJ h1);rw[h2.2,Aqi ha]at h3;cases h3
theorem Aqt(S:Uc n p l st){k:Nat}(hk:k<l.length)(rf:k+1≠r∨l.length≤r){fw:List Bool}{t:List EntryM}{q:QueuedM}(hq:q.frame=C8 n l st r k)(bd:Ld n fw (st k).1 q.from_=true)(ht:tableB t=true)(hm:∀e∈t,Aes n l st r k e.mac):(tableB (learnQ t q 0)=true∧∀e∈learnQ t q 0,Aes n l st r k e.mac) ∧
  bridgeT n fw t (st k).1 q 0=(learnQ t q 0,(Cz n fw q.from_ (A6 n (st k).1)).map (Uo n (st k).1 (C8 n l st r k))++(peersOut n (st k).1 q.from_).map (Xg n (st k).1 (C8 n l st r k)),0):=by
 have hd:=W.ind B.right hp hk;have ia:Aes n l st r k q.frame.src:=by
  rw[hq,C8];split
  ·rw[W5 W B hp];split<;>exact .inl rfl
  ·exact .inr ⟨by omega,E⟩
 have hl:tableB (learnQ t q 0)=true∧∀e∈learnQ t q 0,Aes n l st r k e.mac:=by
  rw[learnQ];split
  ·exact⟨ht,hm⟩
  ·exact Ap8 ht hm ia
 refine⟨hl,?_⟩;have key:(routerT n (st k).1 q.frame.dst).2=false∧(Dx q.frame.dst=true∨(D8 n (st k).1 q.frame.dst<0∧(findE (learnQ t q 0) q.frame.dst).2=false)):=by
  have nc:∀{m:Nat},¬Aes n l st r k m→(findE (learnQ t q 0) m).2=false:=by
   intro m hh;cases hf:(findE (learnQ t q 0) m).2
   ·rfl
   ·obtain ⟨i,hi,_,h2⟩:=A0l hl.1 hf;exact yB ((h2 i hi).2 E▸hl.2 _ (zJ hi)) hh
  have gh:∀{m:Nat},(∀_:0≤(nth n.domains (st k).1).irb,hostN (nth n.irbs (nth n.domains (st k).1).irb).addr≠m)→(routerT n (st k).1 m).2=false:=by
   intro m hh;rw[routerT];split
   ·rfl
   split
   ·rfl
   rename_i hc;exact yB (.inr (hh (Int.not_lt.1 λhx=>hc (.inl hx)))) hc
  rw[hq,C8];by_cases c:k<r
  ·rw[zE c,W5 W B hp];by_cases h:r<l.length
   ·have R:=W.led B hp h;have ha:=Af4 W B hp h;rw[zE h];dsimp only;refine⟨gh λh0=>?_,.inr ⟨Acz W B hp ha,nc ?_⟩⟩
    ·intro e;have h1:=So B.right hd h0;have iv:=W.ind B.right hp (i:=r-1) (by have:=W.pos;omega);have h2:=So B.right iv R.from_.1;have e2:=ir_one B ⟨h0,h1.1⟩ R.from_ (Ag3 (B.num.addr _ (Ir h1.1)).1 ha.1 e);have e3:(st k).1=(st (r-1)).1:=by
      rw[←h1.2,←h2.2,e2];rfl
     have k1:=W.kd k hk;have k2:=W.kd (r-1) q_;rw[zE c]at k1;rw[zE (by have:=W.pos;omega)]at k2;have:=W.diff S hk q_ (Prod.ext e3 (k1.trans k2.symm));have:=W.pos;omega
    ·rintro (hh|⟨hh,_⟩)
     ·exact Adr ha hh
     ·omega
   ·rw[zD h];dsimp only;refine⟨gh λh0=>?_,.inl j_⟩;have h1:=So B.right hd h0;have:=B.num.addr _ (Ir h1.1);rw[hostN];omega
  ·have h:r<l.length:=by omega
   have R:=W.led B hp h;rw[zD c];dsimp only;refine⟨gh λh0 e=>?_,.inr ⟨Acz W B hp R.addr,nc ?_⟩⟩
   ·have h1:=So B.right hd h0;exact R.free _ ⟨h0,h1.1⟩ (Ag3 (B.num.addr _ (Ir h1.1)).1 R.addr.1 e)
   ·rintro (hh|⟨_,hh⟩)
    ·exact Adr R.addr hh
    ·exact R.free _ R.to (Ag3 (Aju W B hp h).1 R.addr.1 hh.symm)
 rw[Avr bd ht key.1 key.2,hq]
theorem A2m{k:Nat}(hk:k+1<l.length)(rf:k+1=r){fw:List Bool}{t:List EntryM}{q:QueuedM}(hq:q.frame=C8 n l st r k)(bd:Ld n fw (st k).1 q.from_=true)(ht:tableB t=true)(hm:∀e∈t,Aes n l st r k e.mac):(tableB (learnQ t q 0)=true∧∀e∈learnQ t q 0,Aes n l st r k e.mac)∧bridgeT n fw t (st k).1 q 0=(learnQ t q 0,[⟨4,0,(st (k+1)).1,[],C8 n l st r (k+1),0⟩],0):=by
 have h:r<l.length:=by omega
 have R:=W.led B hp h;have hd:=W.ind B.right hp (i:=k) q_;have ek:r-1=k:=by omega
 have hF:C8 n l st r k=⟨hostN (nth n.irbs (Mi n st r)).addr,Mq,2048,H4 (Mo (J6 l r).toNat)⟩:=by rw[C8,zE q_,W5 W B hp,zE h]
 have hl:tableB (learnQ t q 0)=true∧∀e∈learnQ t q 0,Aes n l st r k e.mac:=by
  rw[learnQ];split
  ·exact⟨ht,hm⟩
  ·exact Ap8 ht hm (by rw[hq,hF];exact .inl E)
 refine⟨hl,?_⟩;have tv:routerT n (st k).1 q.frame.dst=(Mi n st r,true):=by
  rw[hq,hF,routerT,zD (by rw[Kd hd,B.right];decide),Mi,ek,zD];rintro (hh|hh)
  ·have:=R.from_.1;rw[Mi,ek]at this;omega
  ·exact hh E
 have ha:(((J6 l r).toNat:Nat):Int)=J6 l r:=yR R.addr.1;have hip:ipTakeT (H4 (Mo (J6 l r).toNat))=(Mo (J6 l r).toNat,0):=Aw1 ⟨xQ _,xQ _,by show 64≤255;decide,by show 17≤255;decide,by show 1<4294967296;decide,by have:=R.addr;show (J6 l r).toNat<4294967296;omega⟩ (by show 0≤1480;decide);have vu:hopT n (Mi n st r) q.frame=((st (k+1)).1,C8 n l st r (k+1),0):=by
  have a7:Ai (Mi n st r) n.irbs.length=true:=by rw[Ai,zL R.from_.1,zL (by have:=R.from_.2;omega)];rfl
  have ed:(Mo (J6 l r).toNat).dst=(J6 l r).toNat:=rfl;rw[hq,hF,hopT,zD (by rw[a7,B.right];decide),zD (by dsimp only;decide)];dsimp only;rw[hip];dsimp only;rw[zD y_,zD (by show ¬64≤1;decide),ed,ha,zD (by rw[R.look];decide),zD (by show ¬1480<0;decide),C8,zD q_,rf];show ((nth n.irbs (rTo n l st r)).domain,_,_)=_;rw[R.dom];rfl
 rw[bridgeT,zD (by rw[bd,ht];decide),tv,zE rfl,vu,zD y_]
end
end Go.Sy.YtolnneiipmfgaaaGreatDoor
