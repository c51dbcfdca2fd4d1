/- Parts of a proof. -/
import Derived.Test.YticmobkdaneelaaGreatDoorYE39
import Derived.Test.YticmobkdaneelaaGreatDoorYE45
set_option linter.all false
set_option linter.unusedVariables false
set_option linter.unusedSimpArgs false
set_option linter.deprecated false
namespace Go.Sy.YticmobkdaneelaaGreatDoor
open Go.Proofs Go.Proofs.Tryz
def Aan:∀(l:List UInt8) (a:Nat),l.foldl (λn c=>n*256+c.toNat) a=a*256^l.length+Hv l
 |[],a=>by simp[Hv]
 |c::l,a=>by
  have e:Hv (c::l)=l.foldl (λn c=>n*256+c.toNat) (0*256+c.toNat):=rfl;rw[vF,Aan l,e,Aan l,yL,tN,xI,Nat.zero_mul,wE,Nat.mul_assoc,vB 256,vS]
def Awi(c:UInt8)(l:List UInt8):Hv (c::l)=c.toNat*256^l.length+Hv l:=by
 rw[Hv,vF,Aan];simp
def Ake(m:Nat):∀k,Hv (be k m)=m%256^k
 |0=>by simp[be,Hv,Nat.mod_one]
 |k+1=>by
  rw[be,Awi,Cv,Ake m k,Eg,tN,Nat.mod_mul,vB (m/256^k%256)];omega
def Apj(d s t:Nat)(b:List UInt8):(frame d s t b).take 6=be 6 d∧((frame d s t b).drop 6).take 6=be 6 s∧((frame d s t b).drop 12).take 2=[UInt8.ofNat (t/256),UInt8.ofNat t]∧(frame d s t b).drop 14=b:=by
 have e:frame d s t b=be 6 d++(be 6 s++([UInt8.ofNat (t/256),UInt8.ofNat t]++b)):=by simp[frame,xJ]
 have e6:(frame d s t b).drop 6=be 6 s++([UInt8.ofNat (t/256),UInt8.ofNat t]++b):=by rw[e];exact List.drop_left' (Cv d 6)
 have e12:(frame d s t b).drop 12=[UInt8.ofNat (t/256),UInt8.ofNat t]++b:=by
  rw[show (12:Nat)=6+6 from rfl,←List.drop_drop,e6];exact List.drop_left' (Cv s 6)
 refine⟨by rw[e];exact List.take_left' (Cv d 6),by rw[e6];exact List.take_left' (Cv s 6),by rw[e12];rfl,?_⟩;rw[show (14:Nat)=12+2 from rfl,←List.drop_drop,e12];rfl
def Aao{t:Nat}(h:t≤65535):Hv [UInt8.ofNat (t/256),UInt8.ofNat t]=t:=by
 rw[Aib,Eg,Eg];omega
def Qi{f:FrameM}(h:FrameOK f):takeF (So f)=(f,0):=by
 obtain ⟨e1,e2,e3,e4⟩:=Apj f.dst f.src f.typ f.body;have hl:=Hh f;have hb:=h.body;have h1:=h.dst;have h2:=h.src;rw[takeF,zD q_,zD q_];simp only[So]at *;rw[e1,e2,e3,e4,Ake,Ake,Aao h.typ,xH (by simpa using h1),xH (by simpa using h2)]
def A0c{f:FrameM}{v:Int}(h:f.typ≠33024)(hb:f.body.length≤1500):(tagT f v).2=0∧(tagT f v).1=⟨f.dst,f.src,33024,[UInt8.ofNat (v.toNat/256),UInt8.ofNat v.toNat,UInt8.ofNat (f.typ/256),UInt8.ofNat f.typ]++f.body⟩:=by
 rw[tagT,zD h,zD q_];exact⟨E,E⟩
def Aie{f:FrameM}{v:Int}(hf:FrameOK f)(h:f.typ≠33024)(hb:f.body.length≤1500)(hv:0≤v∧v≤4094):FrameOK (tagT f v).1∧(tagT f v).1.typ=33024∧stripT (tagT f v).1=(f,v,0,0):=by
 obtain ⟨_,e⟩:=A0c (v:=v) h hb;have ht:=hf.typ;have e1:Hv [UInt8.ofNat (v.toNat/256),UInt8.ofNat v.toNat]=v.toNat:=Aao q_;have e2:Hv [UInt8.ofNat (f.typ/256),UInt8.ofNat f.typ]=f.typ:=Aao ht;rw[e];refine⟨⟨hf.dst,hf.src,by show 33024≤65535;decide,by simp;omega⟩,E,?_⟩;rw[stripT,zD y_,zD y_];have a1:([UInt8.ofNat (v.toNat/256),UInt8.ofNat v.toNat,UInt8.ofNat (f.typ/256),UInt8.ofNat f.typ]++f.body).take 2=[UInt8.ofNat (v.toNat/256),UInt8.ofNat v.toNat]:=rfl;have a2:(([UInt8.ofNat (v.toNat/256),UInt8.ofNat v.toNat,UInt8.ofNat (f.typ/256),UInt8.ofNat f.typ]++f.body).drop 2).take 2=[UInt8.ofNat (f.typ/256),UInt8.ofNat f.typ]:=rfl;have a3:([UInt8.ofNat (v.toNat/256),UInt8.ofNat v.toNat,UInt8.ofNat (f.typ/256),UInt8.ofNat f.typ]++f.body).drop 4=f.body:=rfl;rw[a1,a2,a3,e1,e2,zD q_,show ((v.toNat%4096:Nat):Int)=v by omega,show ((v.toNat/4096:Nat):Int)=0 by omega]
def C9:∀(l:List Nat) (r:List UInt8) (i:Nat) (h:i<l.length),numAt (Dd l++r) (2*i) 2=l[i]%65536
 |a::l,r,0,_=>by
  show Hv [UInt8.ofNat (a/256),UInt8.ofNat a]=a%65536;rw[Aib,Eg,Eg];omega
 |a::l,r,i+1,h=>C9 l r i (by simpa using h)
def Az1{s d:Nat}{b:List UInt8}(hs:s≤65535)(hd:d≤65535)(hb:b.length≤60000):udpTakeT (Adf s d b)=((s:Int),(d:Int),b,0):=by
 have hl:=T6 s d b;have n0:=C9 [s,d,8+b.length,0] b 0 (by show 0<4;decide);have n2:=C9 [s,d,8+b.length,0] b 1 (by show 1<4;decide);have n4:=C9 [s,d,8+b.length,0] b 2 (by show 2<4;decide);have n6:=C9 [s,d,8+b.length,0] b 3 (by show 3<4;decide);change numAt (Adf s d b) 0 2=s%65536 at n0;change numAt (Adf s d b) 2 2=d%65536 at n2;change numAt (Adf s d b) 4 2=(8+b.length)%65536 at n4;change numAt (Adf s d b) 6 2=0%65536 at n6;rw[udpTakeT,zD q_,zD q_,zD q_,zD q_,n0,n2,n4,xH q_,xH q_,xH q_,xK q_];rfl
def Avk{p:PacketM}(hp:PacketOK p)(hb:p.body.length≤1480):ipTakeT (Jj p)=(p,0):=by
 have hl:=J1 p;have hs:Ir p≤65535:=by rw[Ir,Qj];omega
 have hw:=Ab1 hp hb (Ir p) hs;have og:=Ab1 hp hb 0 j_;have n0:=C9 [17664+p.tos,20+p.body.length,p.id,0,p.ttl*256+p.proto,Ir p,p.src/65536,p.src,p.dst/65536,p.dst] p.body 0 (by show 0<10;decide);have n2:=C9 [17664+p.tos,20+p.body.length,p.id,0,p.ttl*256+p.proto,Ir p,p.src/65536,p.src,p.dst/65536,p.dst] p.body 1 (by show 1<10;decide);have n4:=C9 [17664+p.tos,20+p.body.length,p.id,0,p.ttl*256+p.proto,Ir p,p.src/65536,p.src,p.dst/65536,p.dst] p.body 2 (by show 2<10;decide);have n6:=C9 [17664+p.tos,20+p.body.length,p.id,0,p.ttl*256+p.proto,Ir p,p.src/65536,p.src,p.dst/65536,p.dst] p.body 3 (by show 3<10;decide);have y9:=C9 [17664+p.tos,20+p.body.length,p.id,0,p.ttl*256+p.proto,Ir p,p.src/65536,p.src,p.dst/65536,p.dst] p.body 6 (by show 6<10;decide);have n14:=C9 [17664+p.tos,20+p.body.length,p.id,0,p.ttl*256+p.proto,Ir p,p.src/65536,p.src,p.dst/65536,p.dst] p.body 7 (by show 7<10;decide);have za:=C9 [17664+p.tos,20+p.body.length,p.id,0,p.ttl*256+p.proto,Ir p,p.src/65536,p.src,p.dst/65536,p.dst] p.body 8 (by show 8<10;decide);have n18:=C9 [17664+p.tos,20+p.body.length,p.id,0,p.ttl*256+p.proto,Ir p,p.src/65536,p.src,p.dst/65536,p.dst] p.body 9 (by show 9<10;decide);change numAt (Jj p) 2 2=(20+p.body.length)%65536 at n2;change numAt (Jj p) 4 2=p.id%65536 at n4;change numAt (Jj p) 6 2=0%65536 at n6;change numAt (Jj p) 12 2=p.src/65536%65536 at y9;change numAt (Jj p) 14 2=p.src%65536 at n14;change numAt (Jj p) 16 2=p.dst/65536%65536 at za;change numAt (Jj p) 18 2=p.dst%65536 at n18;have h1:=hp.tos;have h2:=hp.id;have h3:=hp.ttl;have h4:=hp.proto;have h5:=hp.src;have h6:=hp.dst;have b0:bAt (Jj p) 0=UInt8.ofNat ((17664+p.tos)/256):=rfl;have b1:bAt (Jj p) 1=UInt8.ofNat (17664+p.tos):=rfl;have b8:bAt (Jj p) 8=UInt8.ofNat ((p.ttl*256+p.proto)/256):=rfl;have b9:bAt (Jj p) 9=UInt8.ofNat (p.ttl*256+p.proto):=rfl;have c0:bAt (Jj p) 0=69:=by rw[b0,show (17664+p.tos)/256=69 by omega];rfl
 have ht:(Jj p).take 20=Hq p (Ir p):=by rw[Jj];exact List.take_left' (Ji _ _)
 have hd:(Jj p).drop 20=p.body:=by rw[Jj];exact List.drop_left' (Ji _ _)
 have lg:He (Mb ((Jj p).take 20) 10)=65535:=by
  have e0:Ir p=65535-He (Mb (Hq p 0) 10):=by rw[Ir,Qj,Ji]
  have hle:=Apm (Mb (Hq p 0) 10);have w1:Mb (Hq p (Ir p)) 10=Mb (Hq p 0) 10+Ir p:=by
   rw[Hq,Hq,Xl _ 10 (by show 10≤10;decide) hw,Xl _ 10 (by show 10≤10;decide) og];simp only[List.take_succ_cons,List.take_zero,xV,vG,List.sum_cons,List.sum_nil];rw[xH (show Ir p<65536 by omega)];omega
  rw[ht,w1,Ayx _ _ hs];split<;>omega
 rw[ipTakeT,zD q_,zD (by rw[c0,n2];intro hh;rcases hh with hh|hh;exact hh rfl;omega),zD q_,zD q_,zD q_];rw[b1,b8,b9,Eg,Eg,Eg,n4,n2,Asq q_,Asq q_,y9,n14,za,n18,xH (show 20+p.body.length<65536 by omega),xK q_,hd];obtain ⟨tos,id,ttl,proto,src,dst,body⟩:=p;dsimp only at *;simp only[Prod.mk.injEq,PacketM.mk.injEq,and_true];refine⟨?_,?_,?_,?_,?_,?_⟩<;>omega
def Azv{v:Nat}{b:List UInt8}(h:1≤v∧v≤16777215):vniT (Km v++b)=((v:Int),b,0):=by
 have e3:numAt (Km v++b) 4 3=v:=by
  show Hv [UInt8.ofNat (v/65536),UInt8.ofNat (v/256),UInt8.ofNat v]=v;simp[Hv];omega
 have ht:(Km v++b).take 8=Km v:=rfl;rw[vniT,zD (by simp[Hr]),e3,ht,zD (by intro h2;rcases h2 with h2|h2;omega;exact h2 rfl)];rfl
def Amp{a b:Nat}{v:Int}{f:FrameM}(ha:a<4294967296)(hb:b<4294967296)(hf:FrameOK f)(ht:f.typ≠33024)(hl:f.body.length≤1450)(hv:1≤v∧v≤16777215):(wrapT a b v f).2=0∧Ch (wrapT a b v f).1=(a,b,v,f,0):=by
 have hvb:T4 v=false:=by rw[T4,zL q_,zL q_];rfl
 have mq:(Adf (udpPort f.dst f.src) 4789 (Km v.toNat++So f)).length=8+(8+(14+f.body.length)):=by rw[T6,zW,Hr,Hh]
 have ur:PacketOK (Kx a b v.toNat f):=⟨vA _,vA _,by show 64≤255;decide,by show 17≤255;decide,ha,hb⟩
 have hbo:(Kx a b v.toNat f).body.length≤1480:=by show (Adf _ _ _).length≤1480;rw[mq];omega
 have km:=J1 (Kx a b v.toNat f);have j6:FrameOK ⟨D5 b,D5 a,2048,Jj (Kx a b v.toNat f)⟩:=⟨U3 b hb,U3 a ha,by show 2048≤65535;decide,by dsimp only;omega⟩
 rw[wrapT,zD ht,zD (by rw[hvb];exact Bool.noConfusion),zD q_];refine⟨E,?_⟩;have iv:outerT (frame (D5 b) (D5 a) 2048 (Jj (Kx a b v.toNat f)))=(Kx a b v.toNat f,0):=by
  have h1:=Qi j6;rw[So]at h1;dsimp only at h1;rw[outerT,h1];dsimp only;rw[zD (λhh=>hh rfl),zD (λhh=>hh rfl),Avk ur hbo,zD (λhh=>hh rfl)];rfl
 have jf:udpPort f.dst f.src≤65535:=by rw[udpPort];omega
 have az:L3 (Kx a b v.toNat f).body=(v,f,0):=by
  have h1:udpTakeT (Kx a b v.toNat f).body=(((udpPort f.dst f.src:Nat):Int),((4789:Nat):Int),Km v.toNat++So f,0):=Az1 jf j_ (by rw[zW,Hr,Hh];omega);have h2:vniT (Km v.toNat++So f)=((v.toNat:Int),So f,0):=Azv q_;rw[L3,h1];dsimp only;rw[zD (λhh=>hh rfl),zD (λhh=>hh rfl),h2];dsimp only;rw[zD (λhh=>hh rfl),Qi hf];dsimp only;rw[zD (λhh=>hh rfl),zD ht,show ((v.toNat:Nat):Int)=v by omega]
 rw[Ch,iv];dsimp only;rw[zD (λhh=>hh rfl),az];dsimp only;rw[zD (λhh=>hh rfl)];rfl
def A6l(n:Net)(x y:Int×Int):Prop:=(∃h∈Eo n x.1,y=(h.domain,x.2))∨(x.2=0∧∃q∈routesT n x.1,y=(q.domain,1))
def Aj5(n:Net)(p:Int)(x:Int×Int):Prop:=∃v∈(nth n.ports p).native::(nth n.ports p).tagged,v≠0∧x=(C1 n (nth n.ports p).dev v,0)
inductive Walk(n:Net)(p:Int):Nat→Int×Int→Prop
 |start {x:Int×Int}:Aj5 n p x→Walk n p 0 x
 |step {k:Nat} {x y:Int×Int}:Walk n p k x→A6l n x y→Walk n p (k+1) y
inductive HWay(n:Net)(p:Int):List Hop→Int×Int→Prop
 |start {d:Int}:Aj5 n p (d,0)→HWay n p [⟨0,0,d,0⟩] (d,0)
 |hop {l:List Hop} {x:Int×Int} {h:Hop}:HWay n p l x→h∈Eo n x.1→HWay n p (l++[h]) (h.domain,x.2)
 |lead {l:List Hop} {x:Int×Int} {q:Lead}:HWay n p l x→x.2=0→q∈routesT n x.1→HWay n p (l++[⟨3,0,q.domain,q.addr⟩]) (q.domain,1)
theorem HWay.walk{n:Net}{p:Int}{l:List Hop}{x:Int×Int}(h:HWay n p l x):∃k,l.length=k+1∧Walk n p k x:=by
 induction h with
 |start hs=>exact⟨0,rfl,.start hs⟩
 |hop _ hh ih=>
  obtain ⟨k,h1,h2⟩:=ih;exact⟨k+1,by rw[zW,h1];rfl,.step h2 (.inl ⟨_,hh,E⟩)⟩
 |lead _ h0 hq ih=>
  obtain ⟨k,h1,h2⟩:=ih;exact⟨k+1,by rw[zW,h1];rfl,.step h2 (.inr ⟨h0,_,hq,E⟩)⟩
def lnC(l:List Fnd)(i:Int):Nat:=(backC l i).length
def Aon(l:List Fnd):lnC l (-1)=0:=by
 rw[lnC,backC,dif_neg (λh=>by omega)];rfl
def S2{l m:List Fnd}(hB:Backs l){i:Int}(h:i<l.length):lnC (l++m) i=lnC l i:=by
 rw[lnC,Ti hB (i+1).toNat i q_ h,lnC]
def A2o{l:List Fnd}(hB:Backs l){f:Fnd}(hf:-1≤f.ahead∧f.ahead<l.length):lnC (l++[f]) (l.length:Int)=lnC l f.ahead+1:=by
 have:=zH List.length (Agw hB hf);rw[zW,yC]at this;simpa [backT,lnC] using this
def Aoo(l:List Fnd)(i:Int):lnC l i=(backT l i).length:=by simp[lnC,backT]
def Uv{l m:List Fnd}{b:Nat}(h:b<l.length):nth (l++m) (b:Int)=nth l (b:Int):=Xx (by simpa using h)
def Aff(l:List Fnd)(f:Fnd):nth (l++[f]) (l.length:Int)=f:=by
 rw[Ai (l:=l++[f]) (i:=(l.length:Int)) y_];simp
structure BI(n:Net)(p:Int)(S:Srch)(a:Int):Prop where
 met:Met n S
 mono:∀b c:Nat,b≤c→c<S.list.length→lnC S.list b≤lnC S.list c
 bnd:∀b:Nat,b<S.list.length→lnC S.list b≤lnC S.list a+1
 walk:∀b:Nat,b<S.list.length→HWay n p (backT S.list b) ((nth S.list b).domain,(nth S.list b).kind)
def HasB(l:List Fnd)(x:Int×Int)(m:Nat):Prop:=∃b:Nat,b<l.length∧(nth l (b:Int)).domain=x.1∧(nth l (b:Int)).kind=x.2∧lnC l (b:Int)≤m
theorem HasB.app{l e:List Fnd}(hB:Backs l){x:Int×Int}{m:Nat}:HasB l x m→HasB (l++e) x m:=λ⟨b,h1,h2,h3,h4⟩=>
 ⟨b,by rw[zW];omega,by rw[Uv h1];exact h2,by rw[Uv h1];exact h3,by rw[S2 hB q_];exact h4⟩
theorem BI.meet{n:Net}{p:Int}{S:Srch}{a:Int}(h:BI n p S a)(ha:-1≤a∧a<S.list.length){d k:Int}(hd:0≤d∧d.toNat<n.domains.length)(hk:k=0∨k=1){hp:Hop}(hh:hp.domain=d)(hw:HWay n p (backT S.list a++[hp]) (d,k)):BI n p (meetT S d k hp a) a∧HasB (meetT S d k hp a).list (d,k) (lnC S.list a+1)∧∃e,(meetT S d k hp a).list=S.list++e:=by
 have hm:=h.met.meet hd hk hh ha;have hB:=h.met.bk;cases hb:Sx S d k with
 |true=>
  have e:meetT S d k hp a=S:=by rw[meetT,zG hb]
  rw[e];refine⟨h,?_,[],by simp⟩;obtain ⟨f,hf,f1,f2⟩:=(h.met.m d hd k hk).1 hb;obtain ⟨b,km,rfl⟩:=wD hf;have e2:nth S.list (b:Int)=S.list[b]:=Ai (l:=S.list) (i:=((b:Nat):Int)) km;exact⟨b,km,by rw[e2];exact f1,by rw[e2];exact f2,h.bnd b km⟩
 |false=>
  have e:(meetT S d k hp a).list=S.list++[⟨d,k,hp,a⟩]:=by rw[meetT,zD (by rw[hb];decide),Xz]
  have es:=A2o hB (f:=⟨d,k,hp,a⟩) ha;have nc:lnC (S.list++[⟨d,k,hp,a⟩]) a=lnC S.list a:=S2 hB ha.2;have hlen:(S.list++[(⟨d,k,hp,a⟩:Fnd)]).length=S.list.length+1:=by simp
  dsimp only at es;have cz:∀b:Nat,b<(S.list++[(⟨d,k,hp,a⟩:Fnd)]).length→(b<S.list.length∧lnC (S.list++[⟨d,k,hp,a⟩]) (b:Int)=lnC S.list (b:Int))∨(b=S.list.length∧lnC (S.list++[⟨d,k,hp,a⟩]) (b:Int)=lnC S.list a+1):=λb hb=>by
   by_cases hl:b<S.list.length
   ·exact .inl ⟨hl,S2 hB q_⟩
   ·have:b=S.list.length:=by omega
    subst this;exact .inr ⟨E,es⟩
  refine⟨⟨hm,?_,?_,?_⟩,?_,[⟨d,k,hp,a⟩],e⟩
  ·rw[e];intro b c hbc hc;rcases cz c hc with ⟨c1,c2⟩|⟨c1,c2⟩<;>rcases cz b q_ with ⟨b1,b2⟩|⟨b1,b2⟩
   ·rw[c2,b2];exact h.mono b c hbc c1
   ·omega
   ·rw[c2,b2];exact h.bnd b b1
   ·rw[c2,b2];exact yG _
  ·rw[e];intro b hb;rw[nc];rcases cz b hb with ⟨b1,b2⟩|⟨b1,b2⟩
   ·rw[b2];exact h.bnd b b1
   ·rw[b2];exact yG _
  ·rw[e];intro b hb;rcases cz b hb with ⟨b1,_⟩|⟨b1,_⟩
   ·rw[Ml hB q_,Uv b1];exact h.walk b b1
   ·subst b1;rw[Agw hB (f:=⟨d,k,hp,a⟩) ha,Aff];exact hw
  ·rw[e];exact⟨S.list.length,by omega,by rw[Aff],by rw[Aff],by rw[es];exact yG _⟩
theorem BI.ext1{n:Net}{p:Int}{a k:Int}(hk:k=0∨k=1):∀{l:List Hop} {S:Srch},BI n p S a→(-1≤a∧a<S.list.length)→(∀h∈l,(0≤h.domain∧h.domain.toNat<n.domains.length)∧HWay n p (backT S.list a++[h]) (h.domain,k)) →
  BI n p (Go.Sy.YticmobkdaneelaaGreatDoor.ext1 S k a l) a∧(∀h∈l,HasB (Go.Sy.YticmobkdaneelaaGreatDoor.ext1 S k a l).list (h.domain,k) (lnC S.list a+1))∧∃e,(Go.Sy.YticmobkdaneelaaGreatDoor.ext1 S k a l).list=S.list++e
 |[],S,h,_,_=>⟨h,λ_ hx=>(by cases hx),[],by simp[Go.Sy.YticmobkdaneelaaGreatDoor.ext1]⟩
 |x::l,S,h,ha,hl=>by
  obtain ⟨x1,x2⟩:=hl x y_;obtain ⟨m1,m2,e,m3⟩:=h.meet ha x1 hk (hp:=x) rfl x2;have nc:lnC (meetT S x.domain k x a).list a=lnC S.list a:=by rw[m3];exact S2 h.met.bk ha.2
  have ym:backT (meetT S x.domain k x a).list a=backT S.list a:=by rw[m3];exact Ml h.met.bk ha.2
  obtain ⟨i1,i2,e2,i3⟩:=BI.ext1 hk (l:=l) m1 ⟨ha.1,by rw[m3,zW];omega⟩ (λy hy=>by rw[ym];exact hl y (by simp[hy]));refine⟨i1,λy hy=>?_,e++e2,?_⟩
  ·rcases yH.1 hy with rfl|hy
   ·show HasB (Go.Sy.YticmobkdaneelaaGreatDoor.ext1 (meetT S y.domain k y a) k a l).list _ _;rw[i3];exact m2.app m1.met.bk
   ·have:=i2 y hy;rw[nc]at this;exact this
  ·show (Go.Sy.YticmobkdaneelaaGreatDoor.ext1 (meetT S x.domain k x a) k a l).list=_;rw[i3,m3,xJ]
theorem BI.ext2{n:Net}{p:Int}{a:Int}:∀{l:List Lead} {S:Srch},BI n p S a→(-1≤a∧a<S.list.length)→(∀h∈l,(0≤h.domain∧h.domain.toNat<n.domains.length)∧HWay n p (backT S.list a++[⟨3,0,h.domain,h.addr⟩]) (h.domain,1)) →
  BI n p (Go.Sy.YticmobkdaneelaaGreatDoor.ext2 S a l) a∧(∀h∈l,HasB (Go.Sy.YticmobkdaneelaaGreatDoor.ext2 S a l).list (h.domain,1) (lnC S.list a+1))∧∃e,(Go.Sy.YticmobkdaneelaaGreatDoor.ext2 S a l).list=S.list++e
 |[],S,h,_,_=>⟨h,λ_ hx=>(by cases hx),[],by simp[Go.Sy.YticmobkdaneelaaGreatDoor.ext2]⟩
 |x::l,S,h,ha,hl=>by
  obtain ⟨x1,x2⟩:=hl x y_;obtain ⟨m1,m2,e,m3⟩:=h.meet ha x1 (.inr rfl) (hp:=⟨3,0,x.domain,x.addr⟩) rfl x2;have nc:lnC (meetT S x.domain 1 ⟨3,0,x.domain,x.addr⟩ a).list a=lnC S.list a:=by rw[m3];exact S2 h.met.bk ha.2
  have ym:backT (meetT S x.domain 1 ⟨3,0,x.domain,x.addr⟩ a).list a=backT S.list a:=by rw[m3];exact Ml h.met.bk ha.2
  obtain ⟨i1,i2,e2,i3⟩:=BI.ext2 (l:=l) m1 ⟨ha.1,by rw[m3,zW];omega⟩ (λy hy=>by rw[ym];exact hl y (by simp[hy]));refine⟨i1,λy hy=>?_,e++e2,?_⟩
  ·rcases yH.1 hy with rfl|hy
   ·show HasB (Go.Sy.YticmobkdaneelaaGreatDoor.ext2 (meetT S y.domain 1 ⟨3,0,y.domain,y.addr⟩ a) a l).list _ _;rw[i3];exact m2.app m1.met.bk
   ·have:=i2 y hy;rw[nc]at this;exact this
  ·show (Go.Sy.YticmobkdaneelaaGreatDoor.ext2 (meetT S x.domain 1 ⟨3,0,x.domain,x.addr⟩ a) a l).list=_;rw[i3,m3,xJ]
theorem BI.ext{n:Net}{p:Int}{S:Srch}{i:Nat}(h:BI n p S (i:Int))(hi:i<S.list.length):BI n p (extT n S (i:Int)) (i:Int)∧(∀y,A6l n ((nth S.list (i:Int)).domain,(nth S.list (i:Int)).kind) y→HasB (extT n S (i:Int)).list y (lnC S.list (i:Int)+1))∧∃e,(extT n S (i:Int)).list=S.list++e:=by
 have hw:=h.walk i hi;have ha:-1≤(i:Int)∧(i:Int)<S.list.length:=⟨by omega,by omega⟩
 have m9:=(h.met.ok.at_ _ (show nth S.list (i:Int)∈S.list by rw[Ai (l:=S.list) (i:=(i:Int)) (by simpa using hi)];exact zI _)).2;rw[extT];by_cases h0:(nth S.list (i:Int)).kind=0
 ·rw[zG h0];obtain ⟨i1,i2,e,i3⟩:=h.ext1 (k:=0) (.inl rfl) (l:=Eo n (nth S.list (i:Int)).domain) ha (λx hx=>⟨Q0 hx,by have:=HWay.hop hw (h:=x) hx;dsimp only at this;rw[h0]at this;exact this⟩);have ym:backT (Go.Sy.YticmobkdaneelaaGreatDoor.ext1 S 0 (i:Int) (Eo n (nth S.list (i:Int)).domain)).list (i:Int)=backT S.list (i:Int):=by rw[i3];exact Ml h.met.bk ha.2
  have nc:lnC (Go.Sy.YticmobkdaneelaaGreatDoor.ext1 S 0 (i:Int) (Eo n (nth S.list (i:Int)).domain)).list (i:Int)=lnC S.list (i:Int):=by rw[i3];exact S2 h.met.bk ha.2
  obtain ⟨j1,j2,e2,j3⟩:=i1.ext2 (l:=routesT n (nth S.list (i:Int)).domain) ⟨ha.1,by rw[i3,zW];omega⟩ (λx hx=>⟨Sh hx,by rw[ym];exact HWay.lead hw h0 hx⟩);refine⟨j1,?_,e++e2,by rw[j3,i3,xJ]⟩;rintro y (⟨x,hx,rfl⟩|⟨_,q,hq,rfl⟩)
  ·have:=i2 x hx;rw[j3];rw[h0];exact this.app i1.met.bk
  ·have:=j2 q hq;rw[nc]at this;exact this
 ·have h1:(nth S.list (i:Int)).kind=1:=m9.resolve_left h0;rw[zD h0];obtain ⟨i1,i2,e,i3⟩:=h.ext1 (k:=1) (.inr rfl) (l:=Eo n (nth S.list (i:Int)).domain) ha (λx hx=>⟨Q0 hx,by have:=HWay.hop hw (h:=x) hx;dsimp only at this;rw[h1]at this;exact this⟩);refine⟨i1,?_,e,i3⟩;rintro y (⟨x,hx,rfl⟩|⟨h2,_⟩)
  ·rw[h1];exact i2 x hx
  ·exact zY h2 h0
structure SI(n:Net)(p to:Int)(S:Srch)(i:Nat):Prop where
 met:Met n S
 mono:∀b c:Nat,b≤c→c<S.list.length→lnC S.list b≤lnC S.list c
 bnd:i<S.list.length→∀b:Nat,b<S.list.length→lnC S.list b≤lnC S.list i+1
 walk:∀b:Nat,b<S.list.length→HWay n p (backT S.list b) ((nth S.list b).domain,(nth S.list b).kind)
 succ:∀j:Nat,j<i→j<S.list.length→∀y,A6l n ((nth S.list (j:Int)).domain,(nth S.list (j:Int)).kind) y→HasB S.list y (lnC S.list (j:Int)+1)
 start:∀y,Aj5 n p y→HasB S.list y 1
 goal:∀j:Nat,j<i→j<S.list.length→inB (Bn n (nth S.list (j:Int)).domain) to=false
theorem SI.far{n:Net}{p to:Int}{S:Srch}{i M:Nat}(h:SI n p to S i)(hP:∀b:Nat,b<S.list.length→lnC S.list (b:Int)≤M→b<i):∀(m:Nat) (x:Int×Int),Walk n p m x→m≤M→HasB S.list x (m+1)
 |0,x,hw,_=>by
  cases hw with
  |start hs=>exact h.start x hs
 |m+1,x,hw,hm=>by
  cases hw with
  |step hw hs=>
   rename_i y;obtain ⟨b,b1,b2,b3,b4⟩:=h.far hP m y hw q_;obtain ⟨c,c1,c2,c3,c4⟩:=h.succ b (hP b b1 q_) b1 x (by rw[b2,b3];exact hs);exact⟨c,c1,c2,c3,by omega⟩
theorem SI.none{n:Net}{p to:Int}{S:Srch}{i M:Nat}(h:SI n p to S i)(hP:∀b:Nat,b<S.list.length→lnC S.list (b:Int)≤M→b<i){m:Nat}{x:Int×Int}(hw:Walk n p m x)(hg:inB (Bn n x.1) to=true):M≤m:=by
 by_cases hm:m<M
 ·obtain ⟨b,b1,b2,b3,b4⟩:=h.far hP m x hw q_;have:=h.goal b (hP b b1 q_) b1;rw[b2,hg]at this;cases this
 ·omega
theorem SI.next{n:Net}{p to:Int}{S:Srch}{i:Nat}(h:SI n p to S i)(hi:i<S.list.length)(hg:inB (Bn n (nth S.list (i:Int)).domain) to=false):SI n p to (extT n S (i:Int)) (i+1)∧i+1≤(extT n S (i:Int)).list.length:=by
 obtain ⟨b1,b2,e,b3⟩:=BI.ext (p:=p) ⟨h.met,h.mono,h.bnd hi,h.walk⟩ hi;have hB:=h.met.bk;refine⟨⟨b1.met,b1.mono,λjo b hb=>?_,b1.walk,λj hj cg y hy=>?_,λy hy=>?_,λj hj cg=>?_⟩,?_⟩
 ·have h1:=b1.bnd b hb;have h2:=b1.mono i (i+1) q_ jo;omega
 ·have pv:j<S.list.length:=by omega
  rw[b3,Uv pv]at hy;rw[b3,S2 hB q_,←b3];by_cases dh:j=i
  ·subst dh;exact b2 y hy
  ·rw[b3];exact(h.succ j q_ pv y hy).app hB
 ·rw[b3];exact(h.start y hy).app hB
 ·have pv:j<S.list.length:=by omega
  rw[b3,Uv pv];by_cases dh:j=i
  ·subst dh;exact hg
  ·exact h.goal j q_ pv
 ·rw[b3,zW];omega
def Yz{n:Net}{p to:Int}:∀(k:Nat) (S:Srch) (i:Nat),SI n p to S i→i≤S.list.length→2*n.domains.length+1≤i+k →
  ((Ld n to k S i).2=true→∃m x,Walk n p m x∧inB (Bn n x.1) to=true∧(Ld n to k S i).1.length=m+1∧HWay n p (Ld n to k S i).1 x∧∀m' x',Walk n p m' x'→inB (Bn n x'.1) to=true→m≤m') ∧
  ((Ld n to k S i).2=false→(Ld n to k S i).1=[]∧∀m' x',Walk n p m' x'→inB (Bn n x'.1) to=true→False)
 |0,S,i,h,hi,hk=>by
  have:=h.met.ok.le;omega
 |k+1,S,i,h,hi,hk=>by
  rw[Ld];by_cases hl:i<S.list.length
  ·rw[zG hl];cases hg:inB (Bn n (nth S.list (i:Int)).domain) to with
   |true=>
    rw[zG rfl];refine⟨λ_=>?_,λhf=>by cases hf⟩;have hH:=h.walk i hl;obtain ⟨m,hm,hw⟩:=hH.walk;rw[←Aoo]at hm;refine⟨m,_,hw,hg,?_,hH,λm' x' s8 ox=>?_⟩
    ·show (backT S.list (i:Int)).length=_;rw[←Aoo];exact hm
    ·refine h.none (M:=m) (λb hb hbm=>?_) s8 ox;by_cases qy:b<i
     ·exact qy
     ·have:=h.mono i b q_ hb;omega
   |false=>
    rw[zD j_];obtain ⟨h1,h2⟩:=h.next hl hg;exact Yz k _ (i+1) h1 h2 q_
  ·rw[zD hl];refine⟨λhf=>(by cases hf),λ_=>⟨rfl,λm' x' s8 ox=>?_⟩⟩;have:=h.none (M:=m'+1) (λb hb _=>by omega) s8 ox;omega
def A34{n:Net}(hr:Ac n=true){p:Int}(hp:0≤p∧p.toNat<n.ports.length)(to:Int):SI n p to (beginT n p) 0:=by
 have e:nth n.ports p=n.ports[p.toNat]:=Ai hp.2;have hv:∀v∈(nth n.ports p).native::(nth n.ports p).tagged,v≠0→0≤C1 n (nth n.ports p).dev v∧(C1 n (nth n.ports p).dev v).toNat<n.domains.length:=by
  rw[e];exact λv hv h0=>Ve hr hp.2 hv h0
 have key:∀(l:List Int) (S:Srch),BI n p S (-1)→(∀v∈l,v∈(nth n.ports p).native::(nth n.ports p).tagged)→BI n p (l.foldl (Oc n (nth n.ports p).dev) S) (-1)∧(∀v∈l,v≠0→HasB (l.foldl (Oc n (nth n.ports p).dev) S).list (C1 n (nth n.ports p).dev v,0) 1)∧∃x,(l.foldl (Oc n (nth n.ports p).dev) S).list=S.list++x:=by
  intro l
  induction l with
  |nil=>exact λS h _=>⟨h,λ_ hx=>(by cases hx),[],by simp⟩
  |cons v l ih=>
   intro S h hl;rw[vF,Oc];by_cases h0:v=0
   ·rw[zG h0];obtain ⟨i1,i2,x,i3⟩:=ih S h (λw hw=>hl w (by simp[hw]));refine⟨i1,λw hw og=>?_,x,i3⟩;rcases yH.1 hw with rfl|hw
    ·exact zY h0 og
    ·exact i2 w hw og
   ·rw[zD h0];have pq:=hl v y_;obtain ⟨m1,m2,x,m3⟩:=h.meet (a:=-1) q_ (hv v pq h0) (.inl rfl) (hp:=⟨0,0,C1 n (nth n.ports p).dev v,0⟩) rfl (by rw[Auh];exact .start ⟨v,pq,h0,rfl⟩);obtain ⟨i1,i2,y,i3⟩:=ih _ m1 (λw hw=>hl w (by simp[hw]));refine⟨i1,λw hw og=>?_,x++y,by rw[i3,m3,xJ]⟩;rcases yH.1 hw with rfl|hw
    ·rw[i3];rw[Aon]at m2;exact m2.app m1.met.bk
    ·exact i2 w hw og
 have h0:BI n p (Ln n) (-1):=by
  refine⟨⟨Amx n,λi hi=>by simp[Ln]at hi,λf hf=>by simp[Ln]at hf,λd hd k hk=>?_⟩,λb c _ hc=>by simp[Ln]at hc,λb hb=>by simp[Ln]at hb,λb hb=>by simp[Ln]at hb⟩;constructor
  ·intro hm;have:Sx (Ln n) d k=false:=by
    unfold Sx Ln;dsimp only;split<;>(rw[Ai (by rw[uU];exact hd.2)];simp)
   rw[this]at hm;cases hm
  ·rintro ⟨f,hf,_⟩;simp[Ln]at hf
 obtain ⟨i1,i2,x,i3⟩:=key ((nth n.ports p).native::(nth n.ports p).tagged) (Ln n) h0 (λv hv=>hv);refine⟨i1.met,i1.mono,λhl b hb=>?_,i1.walk,λj hj=>by omega,?_,λj hj=>by omega⟩
 ·have h1:=i1.bnd b hb;rw[Aon]at h1;show lnC (beginT n p).list (b:Int)≤_;have h1:lnC (beginT n p).list (b:Int)≤0+1:=h1;omega
 ·rintro y ⟨v,hv,h0,rfl⟩;exact i2 v hv h0
def way_short{n:Net}{p to:Int}:((wayT n p to).2=true→Ac n=true∧L8 n p=true∧L8 n to=true∧p≠to∧∃m x,Walk n p m x∧inB (Bn n x.1) to=true∧(wayT n p to).1.length=m+1∧HWay n p (wayT n p to).1 x∧∀m' x',Walk n p m' x'→inB (Bn n x'.1) to=true→m≤m') ∧
  ((wayT n p to).2=false→(wayT n p to).1=[]∧(Ac n=true→L8 n p=true→L8 n to=true→p≠to→∀m' x',Walk n p m' x'→inB (Bn n x'.1) to=true→False)):=by
 rw[wayT];split
 ·rename_i hc;obtain ⟨s1,s2⟩:=Yz (2*n.domains.length+1) (beginT n p) 0 (A34 hc.2.2.2 (Ao9 hc.1) to) (vA _) q_;exact⟨λh=>⟨hc.2.2.2,hc.1,hc.2.1,hc.2.2.1,s1 h⟩,λh=>⟨(s2 h).1,λ_ _ _ _=>(s2 h).2⟩⟩
 ·rename_i hc;exact⟨λh=>(by cases h),λ_=>⟨rfl,λh1 h2 h3 h4=>zY ⟨h2,h3,h4,h1⟩ hc⟩⟩
def Aoc{n:Net}(hr:Ac n=true){d p:Int}(hd:0≤d∧d.toNat<n.domains.length):p∈Bn n d↔(0≤p∧p.toNat<n.ports.length)∧(nth n.ports p).dev=(nth n.domains d).dev∧Dl (nth n.ports p) (nth n.domains d).vlan=true:=by
 rw[Bn,zG ⟨⟨hd.1,by omega⟩,hr⟩,Bk,filtI_mem];constructor
 ·rintro ⟨h1,h2,h3⟩;rw[Ts,xD h1]at h3;simp only[zE,yJ]at h3;exact⟨⟨h1,by omega⟩,h3⟩
 ·rintro ⟨⟨h1,h2⟩,h3⟩;refine⟨h1,by omega,?_⟩;rw[Ts,xD h1];simpa using h3
def dom_of{n:Net}{dev v:Int}(h:0≤C2 n dev v):(0≤C2 n dev v∧(C2 n dev v).toNat<n.domains.length)∧(nth n.domains (C2 n dev v)).dev=dev∧(nth n.domains (C2 n dev v)).vlan=v:=by
 have h0:C2 n dev v=Bv (λd:Domain=>d.dev==dev&&d.vlan==v) n.domains:=rfl;obtain ⟨a,b⟩:=A50 (p:=λd:Domain=>d.dev==dev&&d.vlan==v) h0.symm h;simp only[zE,yJ]at b;exact⟨⟨h,a⟩,by rw[Ai a];exact b.1,by rw[Ai a];exact b.2⟩
def Aio{n:Net}(hr:Ac n=true){d k:Int}(hd:0≤d∧d.toNat<n.domains.length)(hk:k∈(nth n.domains d).peers):(0≤k∧k.toNat<n.domains.length)∧d∈(nth n.domains k).peers:=by
 rw[Ai hd.2]at hk;refine⟨Atz hr hd.2 hk,?_⟩;have h:=hr;simp only[Ac,zE]at h;have h1:=allB_iff.1 h.1.1.1.1.1.1.2 _ hd.2;obtain ⟨j,hj,e⟩:=yY.1 hk;have h2:=allB_iff.1 h1 j hj;rw[e]at h2;simp only[Qq,zE]at h2;have h3:inB (nth n.domains k).peers ((d.toNat:Nat):Int)=true:=h2.1.2;rw[xD hd.1]at h3;simpa [inB] using h3
inductive Path(n:Net):Nat→Int→Int→Prop
 |nil (d:Int):Path n 0 d d
 |snoc {k:Nat} {d e:Int} {h:Hop}:Path n k d e→h∈Eo n e→Path n (k+1) d h.domain
theorem Path.cons{n:Net}{d:Int}{h:Hop}(hh:h∈Eo n d):∀{k:Nat} {e:Int},Path n k h.domain e→Path n (k+1) d e:=by
 intro k e hp;generalize hx:h.domain=x at hp
 induction hp with
 |nil=>subst hx;exact .snoc (.nil d) hh
 |snoc _ hg ih=>exact .snoc (ih hx) hg
def Vp{α β:Type}(key:α→Option β)(l:List α):Prop:=∀i j (hi:i<l.length) (hj:j<l.length),key l[i]≠none→key l[i]=key l[j]→i=j
def Avc{α β:Type}{key:α→Option β}{l e:List α}(h:Vp key l)(he:∀x∈e,key x=none):Vp key (l++e):=by
 intro i j hi hj h1 h2;rw[zW]at hi hj;by_cases c:i<l.length
 ·by_cases d:j<l.length
  ·rw[yT c]at h1 h2;rw[yT d]at h2;exact h i j c d h1 h2
  ·exfalso;rw[xP (show l.length≤j by omega),he _ (zI _)]at h2;exact h1 h2
 ·exfalso;rw[xP (show l.length≤i by omega),he _ (zI _)]at h1;exact h1 E
def Avb{α β:Type}{key:α→Option β}{l:List α}(h:Vp key l)(k:Nat){x:α}(hx:∀y∈l,key y≠key x):Vp key (l.set k x):=by
 intro i j hi hj h1 h2;rw[yR]at hi hj;rw[vQ]at h1;rw[vQ,vQ]at h2;by_cases c:k=i
 ·by_cases d:k=j
  ·omega
  ·rw[zG c,zD d]at h2;exact zY h2.symm (hx _ (zI _))
 ·rw[zD c]at h1 h2;by_cases d:k=j
  ·rw[zG d]at h2;exact zY h2 (hx _ (zI _))
  ·rw[zD d]at h2;exact h i j hi hj h1 h2
def Sw{α β:Type}{key:α→Option β}{l:List α}(h:Vp key l)(k:Nat){x:α}(hx:∀hk:k<l.length,key x=key l[k]):Vp key (l.set k x):=by
 have hs:∀i (hi:i<l.length),key ((l.set k x)[i]'(by rw[yR];exact hi))=key l[i]:=by
  intro i hi;rw[vQ];split
  ·rename_i c;subst c;exact hx hi
  ·rfl
 intro i j hi hj h1 h2;rw[yR]at hi hj;rw[hs i hi]at h1 h2;rw[hs j hj]at h2;exact h i j hi hj h1 h2
def A5i{α β:Type}{key:α→Option β}{l:List α}{f:α→α}(h:Vp key l)(hf:∀x,key (f x)=key x):Vp key (l.map f):=by
 intro i j hi hj h1 h2;rw[xF]at hi hj;rw[List.getElem_map,hf]at h1;rw[List.getElem_map,List.getElem_map,hf,hf]at h2;exact h i j hi hj h1 h2
def A1r{α β:Type}{key:α→Option β}{l:List α}(h:Vp key l){x:α}(hx:∀y∈l,key y≠key x):Vp key (l++[x]):=by
 intro i j hi hj h1 h2;rw[zW,yC]at hi hj;by_cases c:i<l.length
 ·rw[yT c]at h1 h2;by_cases d:j<l.length
  ·rw[yT d]at h2;exact h i j c d h1 h2
  ·exfalso;have vc:j=l.length:=by omega
   subst vc;rw[List.getElem_concat_length rfl]at h2;exact hx _ (zI c) h2
 ·have hi':i=l.length:=by omega
  subst hi';by_cases d:j<l.length
  ·exfalso;rw[List.getElem_concat_length rfl,yT d]at h2;exact hx _ (zI d) h2.symm
  ·omega
def A38{α:Type}{p:α→Bool}{l:List α}(h:Bv p l<0):∀x∈l,p x=false:=by
 have h1:l.any p=false:=by rw[←Kl];exact zL q_
 simpa [wM] using h1
def vtK(d:Device):Option Int:=if d.vtep=0 then none else some d.vtep
def vnK(d:Domain):Option (Int×Int):=if d.vni=0 then none else some (d.dev,d.vni)
def irK(x:Irb):Option Int:=some x.addr
structure WitK(n:Net):Prop where
 vt:Vp vtK n.devices
 vn:Vp vnK n.domains
 ir:Vp irK n.irbs
 st:∀s∈n.statics,Mk s.mac=false
def Ajm:WitK emptyN:=⟨λi j hi=>(by cases hi),λi j hi=>(by cases hi),λi j hi=>(by cases hi),λs hs=>(by cases hs)⟩
def Akt{l:LineM}(hk:l.kind=4)(h:Cj l=true):Mk l.mac=false:=by
 simp only[Cj,Bm,hk,zE]at h;simp only[statB,zE,yU]at h;simp at h;exact h.1.2.1.1.2
def A47{n:Net}{l:LineM}(h:WitK n):WitK (putT n l).1:=by
 have e:=Ajm;rw[putT];split
 ·rw[putDevice]
  repeat' split
  all_goals (try exact e)
  exact⟨Avc h.vt (λx hx=>by rw[yB.1 hx];rfl),h.vn,h.ir,h.st⟩
 split
 ·rw[putPort]
  repeat' split
  all_goals (try exact e)
  refine⟨h.vt,?_,h.ir,h.st⟩;show Vp vnK (Bh (Cn n l.dev) n.domains (l.vlan::l.tagged));have key:∀(vs:List Int) (ds:List Domain),Vp vnK ds→Vp vnK (Bh (Cn n l.dev) ds vs):=by
   intro vs
   induction vs with
   |nil=>exact λds hd=>hd
   |cons v vs ih=>
    intro ds hd;refine ih (Cr (Cn n l.dev) ds v) ?_;rw[Cr];split
    ·exact Avc hd (λx hx=>by rw[yB.1 hx];rfl)
    ·exact hd
  exact key _ _ h.vn
 split
 ·rw[putLink];dsimp only
  repeat' split
  all_goals (try exact e)
  exact⟨h.vt,h.vn,h.ir,h.st⟩
 split
 ·rename_i h4;rw[putStatic];dsimp only;split
  ·exact e
  rename_i hf;have hf:fitsB n l 4=true:=by simpa using hf
  rw[fitsB,zE,zE]at hf
  repeat' split
  all_goals (try exact e)
  refine⟨h.vt,h.vn,h.ir,λs hs=>?_⟩;rcases yI.1 hs with hs|hs
  ·exact h.st s hs
  ·rw[yB.1 hs];exact Akt h4 (by simpa using hf.2.1)
 split
 ·rw[putVtep];dsimp only;split
  ·exact e
  split
  ·exact e
  rename_i hc;refine⟨?_,h.vn,h.ir,h.st⟩;show Vp vtK (Xu n.devices (begT n l 5).1 l.addr);have h9:D2 n l.addr<0:=by omega
  have h9:=A38 h9;by_cases h0:l.addr=0
  ·have h1:¬(nth n.devices (begT n l 5).1).vtep≠0:=λhh=>hc (.inl hh)
   refine Sw h.vt _ λhk=>?_
   have h2:(nth n.devices (begT n l 5).1).vtep=0:=Classical.byContradiction h1;rw[Ai hk]at h2;simp only[vtK,h0,h2]
  ·refine Avb h.vt _ λy hy=>?_
   have h8:=h9 y hy;simp at h8;simp only[vtK,zD h0];split
   ·exact λhh=>by cases hh
   ·exact λhh=>h8 (Option.some.inj hh)
 split
 ·rw[putVni];dsimp only;split
  ·exact e
  split
  ·exact e
  split
  ·exact e
  rename_i hc;split
  ·exact e
  rename_i hv;refine⟨h.vt,?_,h.ir,h.st⟩;have hd:=dom_of (n:=n) (dev:=(begT n l 6).1) (v:=l.vlan) q_;have h9:O4 n (begT n l 6).1 l.num<0:=by omega
  have h9:=A38 h9;by_cases h0:l.num=0
  ·refine Sw h.vn _ λhk=>?_
   have h2:(nth n.domains (C2 n (begT n l 6).1 l.vlan)).vni=0:=Classical.byContradiction λhh=>hv (.inl hh)
   rw[Ai hk]at h2;simp only[vnK,h0,h2,zG]
  ·refine Avb h.vn _ λy hy=>?_
   have h8:=h9 y hy;simp[h0]at h8;simp only[vnK,zD h0,hd.2.1];split
   ·exact λhh=>by cases hh
   ·intro hh;have:=Option.some.inj hh;simp only[Prod.mk.injEq]at this;exact h8 this.1 this.2
 split
 ·rw[putFlood];dsimp only
  repeat' split
  all_goals (try exact e)
  exact⟨h.vt,h.vn,h.ir,h.st⟩
 split
 ·rw[putVrf];dsimp only
  repeat' split
  all_goals (try exact e)
  exact⟨h.vt,h.vn,h.ir,h.st⟩
 split
 ·rw[putIrb];dsimp only;split
  ·exact e
  split
  ·exact e
  split
  ·exact e
  split
  ·exact e
  rename_i hc;refine⟨h.vt,Sw h.vn _ λhk=>?_,A1r h.ir λy hy=>?_,h.st⟩
  ·rw[Ai hk];rfl
  ·have h9:n.irbs.any (clashB n (begT n l 9).1 l.addr l.bits)=false:=by
    cases hh:n.irbs.any (clashB n (begT n l 9).1 l.addr l.bits)
    ·rfl
    ·exact zY (.inr hh) hc
   rw[wM]at h9;have:=h9 y hy;simp only[clashB,yM,yJ,uC]at this;exact λhh=>this.1 (Option.some.inj hh)
 exact e
def A17{n:Net}(h:WitK n):WitK (By n):=⟨h.vt,A5i h.vn λ_=>rfl,h.ir,h.st⟩
def Ajx:∀(l:List LineM) (n:Net),WitK n→(Bt n l).2.2=0→WitK (Bt n l).1
 |[],n,hn,h=>by
  rw[Bt,finishT]at h⊢;split at h
  ·rename_i h1;exact zY h h1
  rename_i h1;rw[zD h1];split at h
  ·simp at h
  rename_i h2;rw[zD h2];obtain ⟨e1,_⟩:=On (n:=n) q_;dsimp only;rw[e1];exact A17 hn
 |x::l,n,hn,h=>by
  rw[Bt]at h⊢;split at h
  ·rename_i h1;exact zY h h1
  rename_i h1;rw[zD h1];exact Ajx l _ (A47 hn) h
structure BuiltK(n:Net):Prop where
 right:Ac n=true
 wit:WitK n
 num:n.Num
 mesh:(meshNT n).2.2=0
 same:By n=n
abbrev InD(n:Net)(d:Int):Prop:=0≤d∧d.toNat<n.domains.length
def Ai8{n:Net}{d:Int}(h:InD n d):Ah d n.domains.length=true:=by
 rw[Ah,zO h.1,zO (by have:=h.2;omega)];rfl
def inB_iff{l:List Int}{x:Int}:inB l x=true↔x∈l:=by simp[inB]
def Azs{n:Net}(h:BuiltK n){a b:Int}(ha:0≤a∧a.toNat<n.devices.length)(hb:0≤b∧b.toNat<n.devices.length)(e:(nth n.devices a).vtep=(nth n.devices b).vtep)(h0:(nth n.devices a).vtep≠0):a=b:=by
 rw[Ai ha.2]at e h0;rw[Ai hb.2]at e;have yn:=h0;rw[e]at yn;have:=h.wit.vt a.toNat b.toNat ha.2 hb.2 (by rw[vtK,zD h0];exact λe=>by cases e) (by rw[vtK,vtK,zD h0,zD yn,e]);omega
def Azx{n:Net}(h:BuiltK n){a b:Int}(ha:InD n a)(hb:InD n b)(e:(nth n.domains a).dev=(nth n.domains b).dev)(e2:(nth n.domains a).vni=(nth n.domains b).vni)(h0:(nth n.domains a).vni≠0):a=b:=by
 rw[Ai ha.2]at e e2 h0;rw[Ai hb.2]at e e2;have yn:=h0;rw[e2]at yn;have:=h.wit.vn a.toNat b.toNat ha.2 hb.2 (by rw[vnK,zD h0];exact λe=>by cases e) (by rw[vnK,vnK,zD h0,zD yn,e,e2]);have:=ha.1;have:=hb.1;omega
def own_is{n:Net}(h:BuiltK n){a:Int}(ha:0≤a∧a.toNat<n.devices.length)(h0:(nth n.devices a).vtep≠0):D2 n (nth n.devices a).vtep=a:=by
 have h1:0≤D2 n (nth n.devices a).vtep:=idxI_nonneg.2 (by
  rw[wK];exact⟨nth n.devices a,L2 ha.2,by simp⟩)
 obtain ⟨h2,h3⟩:=H1 h1;have h3:(nth n.devices (D2 n (nth n.devices a).vtep)).vtep=(nth n.devices a).vtep:=by simpa [D2] using h3
 exact Azs h ⟨h1,h2⟩ ha h3 (by rw[h3];exact h0)
def Ae8{n:Net}(hr:Ac n=true){d k:Int}(hd:InD n d)(hk:k∈(nth n.domains d).peers):InD n k∧(nth n.domains k).vni=(nth n.domains d).vni∧(nth n.domains d).vni≠0∧Cy n k≠0∧Cy n d≠0:=by
 have az:=(Aio hr hd hk).1;rw[Ai hd.2]at hk;have h:=hr;simp only[Ac,zE]at h;have h1:=allB_iff.1 h.1.1.1.1.1.1.2 _ hd.2;obtain ⟨j,hj,e⟩:=yY.1 hk;have h2:=allB_iff.1 h1 j hj;rw[e]at h2;simp only[Qq,zE,xG,yJ,L7]at h2;rw[←Ai hd.2]at h2;exact⟨az,h2.1.1.1.1.1.2,h2.1.1.1.1.2,h2.1.1.1.2,h2.1.1.2⟩
def Ax2{n:Net}(h:BuiltK n){d k:Int}(hd:InD n d)(hk:k∈(nth n.domains d).peers){f:FrameM}(hf:FrameOK f)(ht:f.typ≠33024)(hl:f.body.length≤1450)(hg:Ex f.src=false):(meshT n d k f).2=0∧comeT n (meshT n d k f).1=(d,k,f,0):=by
 obtain ⟨ck,v1,v0,t1,t0⟩:=Ae8 h.right hd hk;have dk:=(J4 h.right ck.2).1;have dd:=J4 h.right hd.2;rw[←Ai ck.2]at dk;rw[←Ai hd.2]at dd;have n1:0≤Cy n d∧Cy n d<4294967296:=h.num.vtep _ (L2 dd.1.2);have n2:0≤Cy n k∧Cy n k<4294967296:=h.num.vtep _ (L2 dk.2);have e1:(((Cy n d).toNat:Nat):Int)=Cy n d:=xD n1.1;have e2:(((Cy n k).toNat:Nat):Int)=Cy n k:=xD n2.1;obtain ⟨w1,w2⟩:=Amp (a:=(Cy n d).toNat) (b:=(Cy n k).toNat) (v:=(nth n.domains d).vni) q_ q_ hf ht hl q_;have hm:meshT n d k f=wrapT (Cy n d).toNat (Cy n k).toNat (nth n.domains d).vni f:=by
  rw[meshT,zD,zD]
  ·rw[inB_iff.2 hk];decide
  ·rintro (hh|hh|hh)
   ·rw[Ai8 ck]at hh;cases hh
   ·rw[Ai8 hd]at hh;cases hh
   ·rw[h.right]at hh;cases hh
 rw[hm];refine⟨w1,?_⟩;have c1:Bv (λx:Device=>decide (x.vtep=(((Cy n k).toNat:Nat):Int))) n.devices=(nth n.domains k).dev:=by
  rw[e2];exact own_is h dk t1
 have c2:Bv (λx:Domain=>decide (x.dev=(nth n.domains k).dev)&&decide (x.vni=(nth n.domains d).vni)) n.domains=k:=by
  have h1:0≤Bv (λ x:Domain=>decide (x.dev=(nth n.domains k).dev) && decide (x.vni=(nth n.domains d).vni)) n.domains:=idxI_nonneg.2 (by
   rw[wK];exact⟨nth n.domains k,L2 ck.2,by simp[v1]⟩)
  obtain ⟨h2,h3⟩:=H1 h1;simp only[zE,zJ]at h3;exact Azx h ⟨h1,h2⟩ ck h3.1 (by rw[h3.2,v1]) (by rw[h3.2];exact v0)
 have c3:0≤Bv (λj:Int=>decide (Cy n j=(((Cy n d).toNat:Nat):Int))) (nth n.domains k).peers∧nth (nth n.domains k).peers (Bv (λj:Int=>decide (Cy n j=(((Cy n d).toNat:Nat):Int))) (nth n.domains k).peers)=d:=by
  have hb:=(Aio h.right hd hk).2;have h1:0≤Bv (λ j:Int=>decide (Cy n j=(((Cy n d).toNat:Nat):Int))) (nth n.domains k).peers:=idxI_nonneg.2 (by
   rw[wK];exact⟨d,hb,by rw[e1];simp⟩)
  obtain ⟨h2,h3⟩:=H1 h1;generalize Bv (λj:Int=>decide (Cy n j=(((Cy n d).toNat:Nat):Int))) (nth n.domains k).peers=i at *;have hj:nth (nth n.domains k).peers i∈(nth n.domains k).peers:=L2 h2;generalize nth (nth n.domains k).peers i=j at *;obtain ⟨th,u1,_,_,_⟩:=Ae8 h.right ck hj;have h3:Cy n j=Cy n d:=by rw[e1]at h3;simpa using h3
  have dj:=(J4 h.right th.2).1;rw[←Ai th.2]at dj;exact⟨h1,Azx h th hd (Azs h dj dd.1 h3 (by show Cy n j≠0;rw[h3];exact t0)) (by rw[u1,v1]) (by rw[u1,v1];exact v0)⟩
 have yo:endsT n (Cy n d).toNat (Cy n k).toNat (nth n.domains d).vni=(d,k):=by
  rw[endsT];dsimp only;rw[c1,c2,zD (by have:=dk.1;have:=ck.1;omega),zD (by have:=c3.1;omega),c3.2]
 rw[comeT,zD (by rw[h.right];decide),w2];dsimp only;rw[zD y_,yo];dsimp only;rw[zD (by have:=hd.1;omega),hg,zD y_]
def Apr{n:Net}(hr:Ac n=true){q:Int}(hq:0≤q∧q.toNat<n.ports.length){f:FrameM}(hf:FrameOK f)(ht:f.typ≠33024)(hg:Ex f.src=false)(hn:(nth n.ports q).native≠0):enterT n q (So f)=(C1 n (nth n.ports q).dev (nth n.ports q).native,f,0):=by
 have hp:Ah q n.ports.length=true:=by rw[Ah,zO hq.1,zO q_];rfl
 rw[enterT,zD (by rw[hp,hr];decide),Qi hf];dsimp only;rw[zD y_,zD ht,Hs,hg,zD y_];have hv:vlanT (nth n.ports q) false 0=((nth n.ports q).native,true):=by rw[vlanT,zG (.inl rfl),zO hn]
 rw[hv,zD y_]
def Alq{n:Net}(hr:Ac n=true){q v:Int}(hq:0≤q∧q.toNat<n.ports.length){f:FrameM}(hf:FrameOK f)(ht:f.typ≠33024)(hb:f.body.length≤1500)(hg:Ex f.src=false)(hv:1≤v∧v≤4094)(az:inB (nth n.ports q).tagged v=true):enterT n q (So (tagT f v).1)=(C1 n (nth n.ports q).dev v,f,0):=by
 have hp:Ah q n.ports.length=true:=by rw[Ah,zO hq.1,zO q_];rfl
 obtain ⟨s1,s2,s3⟩:=Aie (v:=v) hf ht hb ⟨by omega,hv.2⟩;rw[enterT,zD (by rw[hp,hr];decide),Qi s1];dsimp only;rw[zD y_,zG s2,s3];dsimp only;rw[zD y_,Hs,hg,zD y_];have oh:vlanT (nth n.ports q) true v=(v,true):=by rw[vlanT,zD (by rintro (hh|hh);cases hh;omega),zG az]
 rw[oh,zD y_]
structure FarK(n:Net):Prop where
 vrf:∀x∈n.irbs,0≤x.vrf∧x.vrf.toNat<n.vrfs.length
 far:∀x∈n.irbs,∀y∈n.irbs,(nth n.vrfs x.vrf).dev≠(nth n.vrfs y.vrf).dev→Ss x.addr x.bits y.addr=false
def Ajn:FarK emptyN:=⟨λx hx=>(by cases hx),λx hx=>(by cases hx)⟩
def A48{n:Net}{l:LineM}(h:FarK n):FarK (putT n l).1:=by
 have same:∀{m:Net},m.irbs=n.irbs→m.vrfs=n.vrfs→FarK m:=λ{m} h1 h2=>⟨by rw[h1,h2];exact h.vrf,by rw[h1,h2];exact h.far⟩
 have e:=Ajn;rw[putT];split
 ·rw[putDevice]
  repeat' split
  all_goals (first|exact e|exact same rfl rfl)
 split
 ·rw[putPort]
  repeat' split
  all_goals (first|exact e|exact same rfl rfl)
 split
 ·rw[putLink];dsimp only
  repeat' split
  all_goals (first|exact e|exact same rfl rfl)
 split
 ·rw[putStatic];dsimp only
  repeat' split
  all_goals (first|exact e|exact same rfl rfl)
 split
 ·rw[putVtep];dsimp only
  repeat' split
  all_goals (first|exact e|exact same rfl rfl)
 split
 ·rw[putVni];dsimp only
  repeat' split
  all_goals (first|exact e|exact same rfl rfl)
 split
 ·rw[putFlood];dsimp only
  repeat' split
  all_goals (first|exact e|exact same rfl rfl)
 split
 ·rw[putVrf];dsimp only;split
  ·exact e
  split
  ·exact e
  split
  ·exact e
  have key:∀x∈n.irbs,nth (n.vrfs++[(⟨l.row,(begT n l 8).1,l.name,l.imports,l.exports⟩:Vrf)]) x.vrf=nth n.vrfs x.vrf:=λx hx=>Xx (h.vrf x hx).2
  refine⟨λx hx=>?_,λx hx y hy ag=>?_⟩
  ·have:=h.vrf x hx;dsimp only;rw[zW];omega
  ·dsimp only at hx hy ag⊢;rw[key x hx,key y hy]at ag;exact h.far x hx y hy ag
 split
 ·rw[putIrb];dsimp only;split
  ·exact e
  split
  ·exact e
  rename_i hv;split
  ·exact e
  split
  ·exact e
  rename_i hc;have hca:∀y∈n.irbs,clashB n (begT n l 9).1 l.addr l.bits y=false:=by
   have h1:n.irbs.any (clashB n (begT n l 9).1 l.addr l.bits)=false:=by
    cases hh:n.irbs.any (clashB n (begT n l 9).1 l.addr l.bits)
    ·rfl
    ·exact zY (.inr hh) hc
   simpa [wM] using h1
  have p1:=H1 (p:=λv:Vrf=>v.dev==(begT n l 9).1&&v.name==l.name) (l:=n.vrfs) (by show 0≤Adc n (begT n l 9).1 l.name;omega);have a2:(nth n.vrfs (Adc n (begT n l 9).1 l.name)).dev=(begT n l 9).1:=by
   have:=p1.2;simp only[zE,yJ]at this;exact this.1
  have a1:(Adc n (begT n l 9).1 l.name).toNat<n.vrfs.length:=p1.1;have yp:∀y∈n.irbs,(nth n.vrfs y.vrf).dev≠(begT n l 9).1→Ss y.addr y.bits l.addr=false∧Ss l.addr l.bits y.addr=false:=λy hy ag=>by
   have:=hca y hy;simp only[clashB,xY,yQ,bne_eq_false_iff_eq]at this;rcases this.2 with h2|h2
   ·exact zY h2 ag
   ·exact h2
  refine⟨λx hx=>?_,λx hx y hy ag=>?_⟩
  ·rcases yI.1 hx with hx|hx
   ·exact h.vrf x hx
   ·rw[yB.1 hx];exact⟨by dsimp only;omega,a1⟩
  ·dsimp only at ag;rcases yI.1 hx with hx|hx
   ·rcases yI.1 hy with hy|hy
    ·exact h.far x hx y hy ag
    ·rw[yB.1 hy]at ag⊢;dsimp only at ag⊢;rw[a2]at ag;exact(yp x hx ag).1
   ·rw[yB.1 hx]at ag⊢;dsimp only at ag⊢;rcases yI.1 hy with hy|hy
    ·rw[a2]at ag;exact(yp y hy (λhh=>ag hh.symm)).2
    ·rw[yB.1 hy]at ag;exact zY E ag
 exact e
def A19{n:Net}(h:FarK n):FarK (By n):=⟨h.vrf,h.far⟩
def Ajy:∀(l:List LineM) (n:Net),FarK n→(Bt n l).2.2=0→FarK (Bt n l).1
 |[],n,hn,h=>by
  rw[Bt,finishT]at h⊢;split at h
  ·rename_i h1;exact zY h h1
  rename_i h1;rw[zD h1];split at h
  ·simp at h
  rename_i h2;rw[zD h2];obtain ⟨e1,_⟩:=On (n:=n) q_;dsimp only;rw[e1];exact A19 hn
 |x::l,n,hn,h=>by
  rw[Bt]at h⊢;split at h
  ·rename_i h1;exact zY h h1
  rename_i h1;rw[zD h1];exact Ajy l _ (A48 hn) h
def Aov{n:Net}(hr:Ac n=true)(hu:Dr n)(hf:FarK n){irb dst:Int}(hd:0≤dst∧dst<4294967296)(h:(lookT n irb dst).2=true):Ib n dst=false:=by
 cases ht:Ib n dst with
 |false=>rfl
 |true=>
  obtain ⟨i,hi,ha⟩:=takenA_iff.1 ht;have hw:=(K4 h).1;obtain ⟨h1,h2,h3⟩:=mem_ways.1 hw;have cu:Mn n irb dst i=false:=by
   rw[lookT]at h;split at h
   ·cases h
   ·rename_i hc;cases hh:Mn n irb dst i
    ·rfl
    ·exact zY (wK.2 ⟨i,xA.2 hi,hh⟩) hc
  generalize (lookT n irb dst).1=to at *;simp only[Aij,zE,yJ]at h3;have hni:nth n.irbs (i:Int)=n.irbs[i]:=Ai (l:=n.irbs) (i:=(i:Int)) hi;have hdv:Ki n i≠Ki n irb:=λhh=>by
   rw[Mn,hh,hni,ha]at cu;simp at cu
  have dv:∀(j:Nat) (hj:j<n.irbs.length),Ki n (j:Int)=(nth n.vrfs n.irbs[j].vrf).dev:=λj hj=>by
   have:=A3p hr hj;simp only[Afu,zE,yJ]at this;rw[Ki,Ai (l:=n.irbs) (i:=(j:Int)) hj];exact this.1.1.1.2
  have eh:((to.toNat:Nat):Int)=to:=xD h1.1;have d1:=dv to.toNat h1.2;rw[eh]at d1;have d2:=dv i hi;have hx:=hf.far n.irbs[to.toNat] (zI h1.2) n.irbs[i] (zI hi) (by rw[←d1,←d2,←h3.1];exact λhh=>hdv hh.symm);rw[Ai h1.2,Aa0 (Da hr h1.2).2.2 (hu _ (zI h1.2)) hd]at h2;rw[ha]at hx;rw[hx]at h2;cases h2
def A5m{α:Type}[Inhabited α]{l:List α}{i:Nat}(h:i<l.length):nth l (i:Int)=l[i]:=Ai (i:=(i:Int)) h
structure WayS(n:Net)(p:Int)(l:List Hop)(st:Nat→Int×Int)(r:Nat):Prop where
 pos:1≤r∧r≤l.length
 dom:∀i,i<l.length→(nth l (i:Int)).domain=(st i).1
 kd:∀i,i<l.length→(st i).2=if i<r then 0 else 1
 start:Aj5 n p (st 0)∧nth l ((0:Nat):Int)=⟨0,0,(st 0).1,0⟩
 hop:∀i,i+1<l.length→i+1≠r→nth l ((i+1:Nat):Int)∈Eo n (st i).1
 lead:∀i,i+1<l.length→i+1=r→∃q∈routesT n (st i).1,nth l ((i+1:Nat):Int)=⟨3,0,q.domain,q.addr⟩
def Ayq{n:Net}{d:Int}{h:Hop}(hh:h∈Eo n d):(h.kind=1∧h.port∈Bn n d∧linkDomT n h.port (nth n.domains d).vlan=(h.domain,true))∨(h.kind=2∧h.domain∈(nth n.domains d).peers):=by
 rw[Eo]at hh;split at hh
 ·rcases yI.1 hh with hh|hh
  ·obtain ⟨p,hp,hl⟩:=vE.1 hh;rw[linkHop]at hl;split at hl
   ·rename_i ar;cases hl;exact .inl ⟨E,hp,Prod.ext E ar⟩
   ·cases hl
  ·obtain ⟨k,hk,rfl⟩:=yS.1 hh;exact .inr ⟨E,hk⟩
 ·cases hh
section
variable {n:Net} {p:Int} {l:List Hop} {st:Nat→Int×Int} {r:Nat}
theorem WayS.succ(W:WayS n p l st r){i:Nat}(h:i+1<l.length):A6l n (st i) (st (i+1)):=by
 have k0:=W.kd i q_;have k1:=W.kd (i+1) h;have d1:=W.dom (i+1) h;by_cases e:i+1=r
 ·obtain ⟨q,hq,hh⟩:=W.lead i h e;rw[hh]at d1;rw[zG q_]at k0;rw[zD q_]at k1;exact .inr ⟨k0,q,hq,Prod.ext d1.symm k1⟩
 ·refine .inl ⟨_,W.hop i h e,Prod.ext d1.symm ?_⟩;rw[k1];show _=(st i).2;rw[k0];by_cases c:i<r
  ·rw[zG c,zG q_]
  ·rw[zD c,zD q_]
theorem WayS.walk(W:WayS n p l st r):∀i,i<l.length→Walk n p i (st i)
 |0,_=>.start W.start.1
 |i+1,h=>.step (W.walk i q_) (W.succ h)
theorem WayS.on(W:WayS n p l st r){k j:Nat}(h:Walk n p k (st j)):∀e,j+e<l.length→Walk n p (k+e) (st (j+e))
 |0,_=>h
 |e+1,he=>.step (W.on h e q_) (W.succ q_)
def A4j(n:Net)(p:Int)(l:List Hop)(st:Nat→Int×Int):Prop:=∀k,Walk n p k (st (l.length-1))→l.length-1≤k
theorem WayS.near(W:WayS n p l st r)(S:A4j n p l st){k j:Nat}(hj:j<l.length)(h:Walk n p k (st j)):j≤k:=by
 have h1:=W.on h (l.length-1-j) q_;rw[show j+(l.length-1-j)=l.length-1 by omega]at h1;have:=S _ h1;omega
theorem WayS.ahead(W:WayS n p l st r)(S:A4j n p l st){i j:Nat}(hi:i<l.length)(hj:j<l.length)(hk:(st i).2=(st j).2){g:Hop}(hg:g∈Eo n (st i).1)(e:g.domain=(st j).1):j≤i+1:=by
 have w1:Walk n p (i+1) (g.domain,(st i).2):=.step (W.walk i hi) (.inl ⟨g,hg,rfl⟩);rw[e,hk]at w1;exact W.near S hj w1
theorem WayS.route(W:WayS n p l st r):routeI l=if r<l.length then (r:Int) else -1:=by
 have hk:∀i (hi:i<l.length),(decide ((l[i]).kind=3))=decide (i=r):=by
  intro i hi;rw[←A5m hi,decide_eq_decide];cases i with
  |zero=>
   rw[W.start.2];have:=W.pos;constructor
   ·intro h;cases h
   ·intro h;omega
  |succ i=>
   by_cases e:i+1=r
   ·obtain ⟨q,_,hh⟩:=W.lead i hi e;rw[hh];exact⟨λ_=>e,λ_=>rfl⟩
   ·refine⟨λh=>?_,λh=>zY h e⟩;rcases Ayq (W.hop i hi e) with h1|h1
    ·rw[h1.1]at h;cases h
    ·rw[h1.1]at h;cases h
 by_cases c:r<l.length
 ·rw[zG c];exact C7 c (λi hi ab=>by rw[hk i hi];exact zL q_) (by rw[hk r c];exact zO E)
 ·rw[zD c];exact D4 λi hi=>by rw[hk i hi];exact zL q_
end
section
variable {n:Net} {up:List Bool}
end
def Anm(m:MacM)(d X:Int)(l:List QueuedM):queueL (setQ m d l) X=if d.toNat=X.toNat∧X.toNat<m.queues.length then l else queueL m X:=by
 rw[queueL,setQ];dsimp only;rw[tV];split
 ·rename_i h;rw[h];split
  ·rename_i h2;rw[zG ⟨rfl,h2⟩];rfl
  ·rename_i h2;rw[zD (λhh=>h2 hh.2),queueL,wP q_]
 ·rename_i h;rw[zD (λhh=>h hh.1)];rfl
structure SameM(m m':MacM):Prop where
 up:m'.up=m.up
 tables:m'.tables=m.tables
 now:m'.now=m.now
 injected:m'.injected=m.injected
 len:m'.queues.length=m.queues.length
theorem SameM.refl(m:MacM):SameM m m:=⟨rfl,rfl,rfl,rfl,rfl⟩
theorem SameM.trans{a b c:MacM}(h:SameM a b)(g:SameM b c):SameM a c:=⟨g.up.trans h.up,g.tables.trans h.tables,g.now.trans h.now,g.injected.trans h.injected,g.len.trans h.len⟩
section
variable {n:Net} (B:BuiltK n)
include B
end
def A22{a b:Int}(ha:0≤a)(hb:0≤b)(h:D5 a=D5 b):a=b:=by
 rw[D5,D5]at h;omega
def Avo{a:Int}(h:0≤a∧a<4294967296):D5 a<281474976710656:=by
 rw[D5];omega
def Atk{a:Int}(h:0≤a∧a<4294967296):Ex (D5 a)=false:=by
 rw[Ex,D5];exact zL q_
section
variable {n:Net} {p:Int} {l:List Hop} {st:Nat→Int×Int} {r:Nat}
variable (W:WayS n p l st r) (B:BuiltK n) (hp:0≤p∧p.toNat<n.ports.length)
include W B hp
end
structure EntF(f:FrameM):Prop where
 ok:FrameOK f
 typ:f.typ≠33024
 src:Ex f.src=false
def RouteF(f:FrameM):Prop:=∃p:PacketM,ipTakeT f.body=(p,0)∧p.dst<4294967296∧f.dst=D5 p.dst
def Ma(n:Net)(p X:Int)(f:FrameM):Prop:=EntF f∧∃k,Walk n p k (X,0)∨(Walk n p k (X,1)∧RouteF f)
def Apc{n:Net}{p X:Int}{f:FrameM}(h:Ma n p X f){g:Hop}(hg:g∈Eo n X):Ma n p g.domain f:=by
 obtain ⟨h1,k,h2⟩:=h;refine⟨h1,k+1,?_⟩;rcases h2 with h2|⟨h2,h3⟩
 ·exact .inl (.step h2 (.inl ⟨g,hg,E⟩))
 ·exact .inr ⟨.step h2 (.inl ⟨g,hg,E⟩),h3⟩
def Aqx{P:Port}{tg:Bool}{ef:Int}(h:(vlanT P tg ef).2=true):(vlanT P tg ef).1∈P.native::P.tagged∧(vlanT P tg ef).1≠0:=by
 rw[vlanT]at h⊢;split at h
 ·rename_i hc;rw[zG hc];exact⟨List.mem_cons_self,zK h⟩
 ·rename_i hc;rw[zD hc];split at h
  ·rename_i hi;rw[zG hi];exact⟨List.mem_cons_of_mem _ (inB_iff.1 hi),λhh=>hc (.inr hh)⟩
  ·cases h
def Age{n:Net}{p:Int}{f:FrameM}{tg:Bool}{ef:Int}(hf:FrameOK f)(ht:f.typ≠33024)(h:(Hs n p f tg ef).2.2=0):EntF (Hs n p f tg ef).2.1∧Aj5 n p ((Hs n p f tg ef).1,0):=by
 rw[Hs]at h⊢;split at h
 ·cases h
 rename_i hg;rw[zD hg];split at h
 ·cases h
 rename_i hv;rw[zD hv];have hv:(vlanT (nth n.ports p) tg ef).2=true:=by simpa using hv
 obtain ⟨v1,v2⟩:=Aqx hv;exact⟨⟨hf,ht,by simpa using hg⟩,_,v1,v2,E⟩
def Aq1{f:FrameM}(hf:FrameOK f)(h:(stripT f).2.2.2=0):FrameOK (stripT f).1∧(stripT f).1.typ≠33024:=by
 rw[stripT]at h⊢;split at h
 ·cases h
 rename_i h1;rw[zD h1];split at h
 ·cases h
 rename_i h2;rw[zD h2];split at h
 ·cases h
 rename_i h3;rw[zD h3];have hb:=hf.body;have a3:=Oi 2 ((f.body.drop 2).take 2) (by rw[yA,yO];omega);exact⟨⟨hf.dst,hf.src,by dsimp only;omega,by dsimp only;rw[yO];omega⟩,λhh=>h3 (.inr hh)⟩
def Ay3{n:Net}{p:Int}{b:List UInt8}(h:(enterT n p b).2.2=0):EntF (enterT n p b).2.1∧Aj5 n p ((enterT n p b).1,0):=by
 rw[enterT]at h⊢;split at h
 ·cases h
 rename_i h1;rw[zD h1];split at h
 ·rename_i h2;exact zY h h2
 rename_i h2;rw[zD h2];split at h
 ·rename_i h3;rw[zG h3];split at h
  ·rename_i h4;exact zY h h4
  rename_i h4;rw[zD h4];obtain ⟨s1,s2⟩:=Aq1 (Ys (Classical.byContradiction h2)) (Classical.byContradiction h4);exact Age s1 s2 h
 ·rename_i h3;rw[zD h3];exact Age (Ys (Classical.byContradiction h2)) h3 h
def Aoq{n:Net}(hr:Ac n=true){d p:Int}(hd:InD n d){f:FrameM}(hf:EntF f)(hl:(leaveT n p d f).2=0):p∈Bn n d∧((linkT n p (leaveT n p d f).1).2.2.2=0→linkDomT n p (nth n.domains d).vlan=((linkT n p (leaveT n p d f).1).2.1,true)∧(linkT n p (leaveT n p d f).1).2.2.1=f):=by
 rw[leaveT]at hl⊢;split at hl
 ·cases hl
 rename_i h1;rw[zD h1];split at hl
 ·cases hl
 rename_i h2;rw[zD h2,zD hf.typ];rw[zD hf.typ]at hl;simp only[uC,Decidable.not_not,Bool.not_eq_false]at h1 h2;have hp:0≤p∧p.toNat<n.ports.length:=by
  have:=h1.1;simp only[Ah,zE,zJ]at this;omega
 refine⟨(Aoc hr hd).2 ⟨hp,h2.1,h2.2⟩,?_⟩;by_cases ho:0≤C5 n p;rotate_left
 ·rw[linkT,zG q_];intro hh;cases hh
 have hot:=Mj ho;have hq:0≤C5 n p∧(C5 n p).toNat<n.ports.length:=⟨ho,hot.2.2⟩
 have bh:Ah (C5 n p) n.ports.length=true:=by rw[Ah,zO ho,zO q_];rfl
 have iu:=(J4 hr hd.2).2.1;rw[←Ai hd.2]at iu;have fk:Oy n p (nth n.domains d).vlan≠0→linkDomT n p (nth n.domains d).vlan=(C1 n (nth n.ports (C5 n p)).dev (Oy n p (nth n.domains d).vlan),true):=λh=>by
  rw[linkDomT,show crossT n p (nth n.domains d).vlan=(C5 n p,Oy n p (nth n.domains d).vlan,true) from zG ⟨ho,h2.2,h⟩,zG rfl]
 rw[Oy]at fk;rw[linkT,zD q_];by_cases c:(nth n.domains d).vlan=(nth n.ports p).native
 ·rw[zG c]at fk⊢;by_cases hn:(nth n.ports (C5 n p)).native=0
  ·rw[enterT,zD (by rw[bh,hr];decide),Qi hf.ok];dsimp only;rw[zD y_,zD hf.typ,Hs,hf.src,zD y_];have hv:vlanT (nth n.ports (C5 n p)) false 0=((nth n.ports (C5 n p)).native,false):=by rw[vlanT,zG (.inl rfl),zL (λhh=>hh hn)]
   rw[hv,zG rfl];intro hh;cases hh
  ·rw[Apr hr hq hf.ok hf.typ hf.src hn];exact λ_=>⟨fk hn,E⟩
 ·rw[zD c]at fk hl⊢;split at hl
  ·rename_i h3;exact zY hl h3
  rename_i h3;rw[zD h3];have hb:f.body.length≤1500:=by
   rw[tagT,zD hf.typ]at h3;split at h3
   ·exact zY (show (14:Int)≠0 by decide) h3
   ·omega
  cases hi:inB (nth n.ports (C5 n p)).tagged (nth n.domains d).vlan with
  |false=>
   obtain ⟨s1,s2,s3⟩:=Aie (v:=(nth n.domains d).vlan) hf.ok hf.typ hb ⟨by omega,iu.2⟩;rw[enterT,zD (by rw[bh,hr];decide),Qi s1];dsimp only;rw[zD y_,zG s2,s3];dsimp only;rw[zD y_,Hs,hf.src,zD y_];have hv:vlanT (nth n.ports (C5 n p)) true (nth n.domains d).vlan=(0,false):=by rw[vlanT,zD (by rintro (hh|hh);cases hh;omega),hi];rfl
   rw[hv,zG rfl];intro hh;cases hh
  |true=>
   rw[hi,zG rfl]at fk;rw[Alq hr hq hf.ok hf.typ hb hf.src iu hi];exact λ_=>⟨fk q_,E⟩
def Aye{n:Net}(hr:Ac n=true){p d i:Int}(hd:InD n d){f:FrameM}(hc:Ma n p d f)(hl:(leaveT n i d f).2=0)(he:(linkT n i (leaveT n i d f).1).2.2.2=0):Ma n p (linkT n i (leaveT n i d f).1).2.1 (linkT n i (leaveT n i d f).1).2.2.1:=by
 obtain ⟨hm,h⟩:=Aoq hr hd hc.1 hl;obtain ⟨h1,h2⟩:=h he;rw[h2];have hg:(⟨1,i,(linkT n i (leaveT n i d f).1).2.1,0⟩:Hop)∈Eo n d:=by
  rw[Eo,zG ⟨⟨hd.1,by have:=hd.2;omega⟩,hr⟩,hopsL];refine List.mem_append_left _ (vE.2 ⟨i,hm,?_⟩);rw[linkHop,h1,zG rfl]
 exact Apc hc hg
def A2a{n:Net}(B:BuiltK n){d k:Int}(hd:InD n d){f:FrameM}(hf:EntF f)(h:(meshT n d k f).2=0):k∈(nth n.domains d).peers∧comeT n (meshT n d k f).1=(d,k,f,0):=by
 have h0:=h;rw[meshT]at h;split at h
 ·cases h
 split at h
 ·cases h
 rename_i h2;have hk:k∈(nth n.domains d).peers:=inB_iff.1 (by simpa using h2);rw[wrapT]at h;split at h
 ·cases h
 split at h
 ·cases h
 split at h
 ·cases h
 rename_i h5;exact⟨hk,(Ax2 B hd hk hf.ok hf.typ q_ hf.src).2⟩
def Ax3{n:Net}(B:BuiltK n){p d k:Int}(hd:InD n d){f:FrameM}(hc:Ma n p d f)(h:(meshT n d k f).2=0):Ma n p (comeT n (meshT n d k f).1).2.1 (comeT n (meshT n d k f).1).2.2.1:=by
 obtain ⟨h1,h2⟩:=A2a B hd hc.1 h;rw[h2];have hg:(⟨2,0,k,0⟩:Hop)∈Eo n d:=by
  rw[Eo,zG ⟨⟨hd.1,by have:=hd.2;omega⟩,B.right⟩,hopsL];exact tS _ (yS.2 ⟨k,h1,E⟩)
 exact Apc hc hg
def routed{n:Net}(B:BuiltK n)(hu:Dr n)(bq:FarK n){d:Int}(hd:InD n d){irb:Int}(he:(nth n.domains d).irb=irb)(hi:InIrbs n irb){dst:Int}(hx:0≤dst∧dst<4294967296)(h:(lookT n irb dst).2=true):∃q∈routesT n d,q.domain=(nth n.irbs (lookT n irb dst).1).domain:=by
 have hr:=B.right;have yq:=Aov hr hu bq hx h;obtain ⟨h1,h2,_⟩:=mem_ways.1 (K4 h).1;have yr:M1 n irb (lookT n irb dst).1 dst=true:=leadsB_iff.2 ⟨h,rfl,yq⟩;generalize (lookT n irb dst).1=to at *;have li:nth n.irbs to=n.irbs[to.toNat]'h1.2:=Ai h1.2;have az:=(U5 _ _ _ (Da hr h1.2).2.2 (hu _ (zI h1.2)) hx).1 (by rw[←li];exact h2);rw[←li]at az;have yf:=Aqq hu hr (irb:=irb) h1 _ (show Dg (nth n.irbs to).addr (nth n.irbs to).bits∈Agu n to by rw[Agu,A3z];simp) (xU _) (λa h1 h2=>by omega);have ha:(addrT n irb to).2=true:=by
  rw[addrT,zG ⟨⟨hi.1,by have:=hi.2;omega⟩,⟨h1.1,by have:=h1.2;omega⟩,hr⟩];rcases yf with hs|hs
  ·exact hs.1
  ·have:=hs.2 dst az.1 az.2;rw[yr]at this;cases this
 refine⟨⟨to,(nth n.irbs to).domain,(addrT n irb to).1⟩,?_,E⟩;rw[routesT,he,zG ⟨⟨hd.1,by have:=hd.2;omega⟩,hi.1,hr⟩,S5];have e:((to.toNat:Nat):Int)=to:=xD h1.1;refine vE.2 ⟨to.toNat,xA.2 h1.2,?_⟩;rw[leadF,e,zG ha]
def A24{n:Net}(B:BuiltK n)(hu:Dr n)(bq:FarK n){p d:Int}(hd:InD n d){f:FrameM}(hc:Ma n p d f)(gm:(routerT n d f.dst).2=true)(h:(hopT n (routerT n d f.dst).1 f).2.2=0):Ma n p (hopT n (routerT n d f.dst).1 f).1 (hopT n (routerT n d f.dst).1 f).2.1:=by
 have hr:=B.right;have sh:(routerT n d f.dst).1=(nth n.domains d).irb∧0≤(nth n.domains d).irb∧D5 (nth n.irbs (nth n.domains d).irb).addr=f.dst:=by
  rw[routerT]at gm⊢;split at gm
  ·cases gm
  rename_i h1;rw[zD h1];split at gm
  ·cases gm
  rename_i h2;rw[zD h2];simp only[uC,Decidable.not_not]at h2;exact⟨E,by omega,h2.2⟩
 obtain ⟨e,h0,hm⟩:=sh;rw[e]at h ⊢;have hi:InIrbs n (nth n.domains d).irb:=⟨h0,by
  have h2:=(J4 hr hd.2).2.2;rw[← Ai hd.2]at h2;omega⟩
 have ss:=hu _ (L2 hi.2);rw[hopT]at h⊢;split at h
 ·cases h
 rename_i h1;rw[zD h1];split at h
 ·cases h
 rename_i h2;rw[zD h2];split at h
 ·rename_i h3;exact zY h h3
 rename_i h3;rw[zD h3];split at h
 ·cases h
 rename_i h4;rw[zD h4];split at h
 ·cases h
 rename_i h5;rw[zD h5];split at h
 ·cases h
 rename_i h6;rw[zD h6];have h3:(ipTakeT f.body).2=0:=Classical.byContradiction h3;have h5:(lookT n (nth n.domains d).irb (ipTakeT f.body).1.dst).2=true:=by simpa using h5
 obtain ⟨hp,bh⟩:=X4 h3;have ni:=hp.dst;have hx:0≤(((ipTakeT f.body).1.dst:Nat):Int)∧(((ipTakeT f.body).1.dst:Nat):Int)<4294967296:=⟨vP _,by omega⟩
 have eh:=(mem_ways.1 (K4 h5).1).1;obtain ⟨q,hq,qq⟩:=routed B hu bq hd rfl hi hx h5;have pg:=hu _ (L2 eh.2);obtain ⟨_,k,hw⟩:=hc;have hw:Walk n p k (d,0)∨(Walk n p k (d,1)∧f.dst=D5 (ipTakeT f.body).1.dst):=by
  rcases hw with hw|⟨hw,pk2,g1,_,g3⟩
  ·exact .inl hw
  ·exact .inr ⟨hw,by rw[g1];exact g3⟩
 generalize ipTakeT f.body=pk at *;obtain ⟨pk,pe⟩:=pk;dsimp only at *;refine⟨⟨⟨Avo hx,Avo pg,by dsimp only;decide,?_⟩,by dsimp only;decide,Atk pg⟩,?_⟩
 ·dsimp only;rw[J1];show 20+pk.body.length≤1504;omega
 rw[←qq];refine⟨k+1,.inr ⟨?_,Apf pk,Avk (Avp hp) (by show pk.body.length≤1480;omega),ni,E⟩⟩;rcases hw with hw|⟨hw,g3⟩
 ·exact .step hw (.inr ⟨E,q,hq,E⟩)
 ·exfalso;rw[g3]at hm;have ea:=A22 ss.1 hx.1 hm;have ht:=Aov hr hu bq hx h5;have:Ib n ((pk.dst:Nat):Int)=true:=takenA_iff.2 ⟨_,hi.2,by rw[←Ai hi.2];exact ea⟩;rw[this]at ht;cases ht
end Go.Sy.YticmobkdaneelaaGreatDoor
