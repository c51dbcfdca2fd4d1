/- Parts of a proof. -/
import Derived.Test.YtodbnbfjhjcanaaGreatDoorXA29
import Derived.Test.YtodbnbfjhjcanaaGreatDoorXA42
set_option linter.all false
namespace Go.Sy.Zaa
open Go.Proofs Go.Proofs.Tryz
def cB:∀(l:List UInt8) (a:Nat),l.foldl (λn c=>n*256+c.toNat) a=a*256^l.length+Hz l
 |[],a=>by simp[Hz]
 |c::l,a=>by
  have e:Hz (c::l)=l.foldl (λn c=>n*256+c.toNat) (0*256+c.toNat):=rfl;rw[vJ,cB l,e,cB l,yL,tM,xI,Nat.zero_mul,xW,Nat.mul_assoc,vE 256,vX]
def Ar2(c:UInt8)(l:List UInt8):Hz (c::l)=c.toNat*256^l.length+Hz l:=by
 rw[Hz,vJ,cB];simp
def Afq(m:Nat):∀k,Hz (be k m)=m%256^k
 |0=>by simp[be,Hz,Nat.mod_one]
 |k+1=>by
  rw[be,Ar2,Dh,Afq m k,Ev,tM,Nat.mod_mul,vE (m/256^k%256)];omega
def Akt(d s t:Nat)(b:List UInt8):(frame d s t b).take 6=be 6 d/\((frame d s t b).drop 6).take 6=be 6 s/\((frame d s t b).drop 12).take 2=[UInt8.ofNat (t/256),UInt8.ofNat t]/\(frame d s t b).drop 14=b:=by
 have e:frame d s t b=be 6 d++(be 6 s++([UInt8.ofNat (t/256),UInt8.ofNat t]++b)):=by simp[frame,xF]
 have e6:(frame d s t b).drop 6=be 6 s++([UInt8.ofNat (t/256),UInt8.ofNat t]++b):=by rw[e];exact List.drop_left' (Dh d 6)
 have e12:(frame d s t b).drop 12=[UInt8.ofNat (t/256),UInt8.ofNat t]++b:=by
  rw[show (12:Nat)=6+6 from rfl,<-List.drop_drop,e6];exact List.drop_left' (Dh s 6)
 refine⟨by rw[e];exact List.take_left' (Dh d 6),by rw[e6];exact List.take_left' (Dh s 6),by rw[e12];rfl,?_⟩;rw[show (14:Nat)=12+2 from rfl,<-List.drop_drop,e12];rfl
def cC{t:Nat}(h:t<=65535):Hz [UInt8.ofNat (t/256),UInt8.ofNat t]=t:=by
 rw[Adh,Ev,Ev];omega
def Q3{f:FrameM}(h:FrameOK f):takeF (Mn f)=(f,0):=by
 obtain ⟨e1,e2,e3,e4⟩:=Akt f.dst f.src f.typ f.body;have hl:=Es f;have hb:=h.body;have h1:=h.dst;have h2:=h.src;rw[takeF,zD z_,zD z_];simp only[Mn]at *;rw[e1,e2,e3,e4,Afq,Afq,cC h.typ,xH (kS h1),xH (kS h2)]
def Awb{f:FrameM}{v:Int}(h:f.typ≠33024)(hb:f.body.length<=1500):(tagT f v).2=0/\(tagT f v).1=⟨f.dst,f.src,33024,[UInt8.ofNat (v.toNat/256),UInt8.ofNat v.toNat,UInt8.ofNat (f.typ/256),UInt8.ofNat f.typ]++f.body⟩:=by
 rw[tagT,zD h,zD z_];exact⟨E,E⟩
def Adm{f:FrameM}{v:Int}(hf:FrameOK f)(h:f.typ≠33024)(hb:f.body.length<=1500)(hv:0<=v/\v<=4094):FrameOK (tagT f v).1/\(tagT f v).1.typ=33024/\stripT (tagT f v).1=(f,v,0,0):=by
 obtain ⟨_,e⟩:=Awb (v:=v) h hb;have ht:=hf.typ;have e1:Hz [UInt8.ofNat (v.toNat/256),UInt8.ofNat v.toNat]=v.toNat:=cC z_;have e2:Hz [UInt8.ofNat (f.typ/256),UInt8.ofNat f.typ]=f.typ:=cC ht;rw[e];refine⟨⟨hf.dst,hf.src,by show 33024<=65535;decide,by simp;omega⟩,E,?_⟩;rw[stripT,zD qq,zD qq];have a1:([UInt8.ofNat (v.toNat/256),UInt8.ofNat v.toNat,UInt8.ofNat (f.typ/256),UInt8.ofNat f.typ]++f.body).take 2=[UInt8.ofNat (v.toNat/256),UInt8.ofNat v.toNat]:=rfl;have a2:(([UInt8.ofNat (v.toNat/256),UInt8.ofNat v.toNat,UInt8.ofNat (f.typ/256),UInt8.ofNat f.typ]++f.body).drop 2).take 2=[UInt8.ofNat (f.typ/256),UInt8.ofNat f.typ]:=rfl;have a3:([UInt8.ofNat (v.toNat/256),UInt8.ofNat v.toNat,UInt8.ofNat (f.typ/256),UInt8.ofNat f.typ]++f.body).drop 4=f.body:=rfl;rw[a1,a2,a3,e1,e2,zD z_,show ((v.toNat%4096:Nat):Int)=v by omega,show ((v.toNat/4096:Nat):Int)=0 by omega]
def De:∀(l:List Nat) (r:List UInt8) (i:Nat) (h:i<l.length),numAt (Dj l++r) (2*i) 2=l[i]%65536
 |a::l,r,0,_=>by
  show Hz [UInt8.ofNat (a/256),UInt8.ofNat a]=a%65536;rw[Adh,Ev,Ev];omega
 |a::l,r,i+1,h=>De l r i (kS h)
def Avy{s d:Nat}{b:List UInt8}(hs:s<=65535)(hd:d<=65535)(hb:b.length<=60000):udpTakeT (fX s d b)=((s:Int),(d:Int),b,0):=by
 have hl:=Uv s d b;have n0:=De [s,d,8+b.length,0] b 0 (by show 0<4;decide);have n2:=De [s,d,8+b.length,0] b 1 (by show 1<4;decide);have n4:=De [s,d,8+b.length,0] b 2 (by show 2<4;decide);have n6:=De [s,d,8+b.length,0] b 3 (by show 3<4;decide);change numAt (fX s d b) 0 2=s%65536 at n0;change numAt (fX s d b) 2 2=d%65536 at n2;change numAt (fX s d b) 4 2=(8+b.length)%65536 at n4;change numAt (fX s d b) 6 2=0%65536 at n6;rw[udpTakeT,zD z_,zD z_,zD z_,zD z_,n0,n2,n4,xH z_,xH z_,xH z_,xD z_];rfl
def Aq3{p:PacketM}(hp:PacketOK p)(hb:p.body.length<=1480):ipTakeT (Jq p)=(p,0):=by
 have hl:=Kd p;have hs:Iv p<=65535:=by rw[Iv,Adl];omega
 have hw:=dY hp hb (Iv p) hs;have lm:=dY hp hb 0 y_;have n0:=De [17664+p.tos,20+p.body.length,p.id,0,p.ttl*256+p.proto,Iv p,p.src/65536,p.src,p.dst/65536,p.dst] p.body 0 (by show 0<10;decide);have n2:=De [17664+p.tos,20+p.body.length,p.id,0,p.ttl*256+p.proto,Iv p,p.src/65536,p.src,p.dst/65536,p.dst] p.body 1 (by show 1<10;decide);have n4:=De [17664+p.tos,20+p.body.length,p.id,0,p.ttl*256+p.proto,Iv p,p.src/65536,p.src,p.dst/65536,p.dst] p.body 2 (by show 2<10;decide);have n6:=De [17664+p.tos,20+p.body.length,p.id,0,p.ttl*256+p.proto,Iv p,p.src/65536,p.src,p.dst/65536,p.dst] p.body 3 (by show 3<10;decide);have n12:=De [17664+p.tos,20+p.body.length,p.id,0,p.ttl*256+p.proto,Iv p,p.src/65536,p.src,p.dst/65536,p.dst] p.body 6 (by show 6<10;decide);have n14:=De [17664+p.tos,20+p.body.length,p.id,0,p.ttl*256+p.proto,Iv p,p.src/65536,p.src,p.dst/65536,p.dst] p.body 7 (by show 7<10;decide);have n16:=De [17664+p.tos,20+p.body.length,p.id,0,p.ttl*256+p.proto,Iv p,p.src/65536,p.src,p.dst/65536,p.dst] p.body 8 (by show 8<10;decide);have n18:=De [17664+p.tos,20+p.body.length,p.id,0,p.ttl*256+p.proto,Iv p,p.src/65536,p.src,p.dst/65536,p.dst] p.body 9 (by show 9<10;decide);change numAt (Jq p) 2 2=(20+p.body.length)%65536 at n2;change numAt (Jq p) 4 2=p.id%65536 at n4;change numAt (Jq p) 6 2=0%65536 at n6;change numAt (Jq p) 12 2=p.src/65536%65536 at n12;change numAt (Jq p) 14 2=p.src%65536 at n14;change numAt (Jq p) 16 2=p.dst/65536%65536 at n16;change numAt (Jq p) 18 2=p.dst%65536 at n18;have h1:=hp.tos;have h2:=hp.id;have h3:=hp.ttl;have h4:=hp.proto;have h5:=hp.src;have h6:=hp.dst;have b0:bAt (Jq p) 0=UInt8.ofNat ((17664+p.tos)/256):=rfl;have b1:bAt (Jq p) 1=UInt8.ofNat (17664+p.tos):=rfl;have b8:bAt (Jq p) 8=UInt8.ofNat ((p.ttl*256+p.proto)/256):=rfl;have b9:bAt (Jq p) 9=UInt8.ofNat (p.ttl*256+p.proto):=rfl;have c0:bAt (Jq p) 0=69:=by rw[b0,show (17664+p.tos)/256=69 by omega];rfl
 have ht:(Jq p).take 20=Hi p (Iv p):=by rw[Jq];exact List.take_left' (Jp _ _)
 have hd:(Jq p).drop 20=p.body:=by rw[Jq];exact List.drop_left' (Jp _ _)
 have ma:H7 (O2 ((Jq p).take 20) 10)=65535:=by
  have e0:Iv p=65535-H7 (O2 (Hi p 0) 10):=by rw[Iv,Adl,Jp]
  have hle:=Akv (O2 (Hi p 0) 10);have w1:O2 (Hi p (Iv p)) 10=O2 (Hi p 0) 10+Iv p:=by
   rw[Hi,Hi,Yf _ 10 (by show 10<=10;decide) hw,Yf _ 10 (by show 10<=10;decide) lm];simp only[List.take_succ_cons,List.take_zero,xZ,vS,List.sum_cons,List.sum_nil];rw[xH (show Iv p<65536 by omega)];omega
  rw[ht,w1,Aup _ _ hs];split<;>omega
 rw[ipTakeT,zD z_,zD (by rw[c0,n2];intro hh;rcases hh with hh|hh;exact hh rfl;omega),zD z_,zD z_,zD z_];rw[b1,b8,b9,Ev,Ev,Ev,n4,n2,Aoa z_,Aoa z_,n12,n14,n16,n18,xH (show 20+p.body.length<65536 by omega),xD z_,hd];obtain ⟨tos,id,ttl,proto,src,dst,body⟩:=p;dsimp only at *;simp only[Prod.mk.injEq,PacketM.mk.injEq,and_true];refine⟨?_,?_,?_,?_,?_,?_⟩<;>omega
def Avs{v:Nat}{b:List UInt8}(h:1<=v/\v<=16777215):vniT (K0 v++b)=((v:Int),b,0):=by
 have e3:numAt (K0 v++b) 4 3=v:=by
  show Hz [UInt8.ofNat (v/65536),UInt8.ofNat (v/256),UInt8.ofNat v]=v;simp[Hz];omega
 have ht:(K0 v++b).take 8=K0 v:=rfl;rw[vniT,zD (by simp[Hu]),e3,ht,zD (by intro h2;rcases h2 with h2|h2;omega;exact h2 rfl)];rfl
def Ah4{a b:Nat}{v:Int}{f:FrameM}(ha:a<4294967296)(hb:b<4294967296)(hf:FrameOK f)(ht:f.typ≠33024)(hl:f.body.length<=1450)(hv:1<=v/\v<=16777215):(wrapT a b v f).2=0/\Ck (wrapT a b v f).1=(a,b,v,f,0):=by
 have hvb:Ut v=false:=by rw[Ut,zL z_,zL z_];rfl
 have nf:(fX (udpPort f.dst f.src) 4789 (K0 v.toNat++Mn f)).length=8+(8+(14+f.body.length)):=by rw[Uv,zU,Hu,Es]
 have lh:PacketOK (K8 a b v.toNat f):=⟨xX _,xX _,by show 64<=255;decide,by show 17<=255;decide,ha,hb⟩
 have hbo:(K8 a b v.toNat f).body.length<=1480:=by show (fX _ _ _).length<=1480;rw[nf];omega
 have j4:=Kd (K8 a b v.toNat f);have o7:FrameOK ⟨D7 b,D7 a,2048,Jq (K8 a b v.toNat f)⟩:=⟨Vs b hb,Vs a ha,by show 2048<=65535;decide,by dsimp only;omega⟩
 rw[wrapT,zD ht,zD (by rw[hvb];exact Bool.noConfusion),zD z_];refine⟨E,?_⟩;have kq:outerT (frame (D7 b) (D7 a) 2048 (Jq (K8 a b v.toNat f)))=(K8 a b v.toNat f,0):=by
  have h1:=Q3 o7;rw[Mn]at h1;dsimp only at h1;rw[outerT,h1];dsimp only;rw[zD (λhh=>hh rfl),zD (λhh=>hh rfl),Aq3 lh hbo,zD (λhh=>hh rfl)];rfl
 have zk:udpPort f.dst f.src<=65535:=by rw[udpPort];omega
 have az:Ma (K8 a b v.toNat f).body=(v,f,0):=by
  have h1:udpTakeT (K8 a b v.toNat f).body=(((udpPort f.dst f.src:Nat):Int),((4789:Nat):Int),K0 v.toNat++Mn f,0):=Avy zk y_ (by rw[zU,Hu,Es];omega);have h2:vniT (K0 v.toNat++Mn f)=((v.toNat:Int),Mn f,0):=Avs z_;rw[Ma,h1];dsimp only;rw[zD (λhh=>hh rfl),zD (λhh=>hh rfl),h2];dsimp only;rw[zD (λhh=>hh rfl),Q3 hf];dsimp only;rw[zD (λhh=>hh rfl),zD ht,show ((v.toNat:Nat):Int)=v by omega]
 rw[Ck,kq];dsimp only;rw[zD (λhh=>hh rfl),az];dsimp only;rw[zD (λhh=>hh rfl)];rfl
def A2x(n:Net)(x y:Int×Int):Prop:=(∃h∈C4 n x.1,y=(h.domain,x.2))\/(x.2=0/\∃q∈routesT n x.1,y=(q.domain,1))
def Ab3(n:Net)(p:Int)(x:Int×Int):Prop:=∃v∈(nth n.ports p).native::(nth n.ports p).tagged,v≠0/\x=(Ce n (nth n.ports p).dev v,0)
inductive Walk(n:Net)(p:Int):Nat->Int×Int->Prop
 |start {x:Int×Int}:Ab3 n p x->Walk n p 0 x
 |step {k:Nat} {x y:Int×Int}:Walk n p k x->A2x n x y->Walk n p (k+1) y
inductive HWay(n:Net)(p:Int):List Hop->Int×Int->Prop
 |start {d:Int}:Ab3 n p (d,0)->HWay n p [⟨0,0,d,0⟩] (d,0)
 |hop {l:List Hop} {x:Int×Int} {h:Hop}:HWay n p l x->h∈C4 n x.1->HWay n p (l++[h]) (h.domain,x.2)
 |lead {l:List Hop} {x:Int×Int} {q:Lead}:HWay n p l x->x.2=0->q∈routesT n x.1->HWay n p (l++[⟨3,0,q.domain,q.addr⟩]) (q.domain,1)
theorem HWay.walk{n:Net}{p:Int}{l:List Hop}{x:Int×Int}(h:HWay n p l x):∃k,l.length=k+1/\Walk n p k x:=by
 induction h with
 |start hs=>exact⟨0,rfl,.start hs⟩
 |hop _ hh ih=>
  obtain ⟨k,h1,h2⟩:=ih;exact⟨k+1,by rw[zU,h1];rfl,.step h2 (.inl ⟨_,hh,E⟩)⟩
 |lead _ h0 hq ih=>
  obtain ⟨k,h1,h2⟩:=ih;exact⟨k+1,by rw[zU,h1];rfl,.step h2 (.inr ⟨h0,_,hq,E⟩)⟩
def lnC(l:List Fnd)(i:Int):Nat:=(backC l i).length
def Aj2(l:List Fnd):lnC l (-1)=0:=by
 rw[lnC,backC,dif_neg (λh=>by omega)];rfl
def Tt{l m:List Fnd}(hB:Backs l){i:Int}(h:i<l.length):lnC (l++m) i=lnC l i:=by
 rw[lnC,Ub hB (i+1).toNat i z_ h,lnC]
def Ayp{l:List Fnd}(hB:Backs l){f:Fnd}(hf:-1<=f.ahead/\f.ahead<l.length):lnC (l++[f]) (l.length:Int)=lnC l f.ahead+1:=by
 have:=zH List.length (Abr hB hf);rw[zU,yF]at this;simpa [backT,lnC] using this
def Aj3(l:List Fnd)(i:Int):lnC l i=(backT l i).length:=by simp[lnC,backT]
def Vk{l m:List Fnd}{b:Nat}(h:b<l.length):nth (l++m) (b:Int)=nth l (b:Int):=Yr (kS h)
def oY(l:List Fnd)(f:Fnd):nth (l++[f]) (l.length:Int)=f:=by
 rw[Ag (l:=l++[f]) (i:=(l.length:Int)) qq];simp
structure BI(n:Net)(p:Int)(S:Srch)(a:Int):Prop where
 met:Met n S
 mono:∀b c:Nat,b<=c->c<S.list.length->lnC S.list b<=lnC S.list c
 bnd:∀b:Nat,b<S.list.length->lnC S.list b<=lnC S.list a+1
 walk:∀b:Nat,b<S.list.length->HWay n p (backT S.list b) ((nth S.list b).domain,(nth S.list b).kind)
def HasB(l:List Fnd)(x:Int×Int)(m:Nat):Prop:=∃b:Nat,b<l.length/\(nth l (b:Int)).domain=x.1/\(nth l (b:Int)).kind=x.2/\lnC l (b:Int)<=m
theorem HasB.app{l e:List Fnd}(hB:Backs l){x:Int×Int}{m:Nat}:HasB l x m->HasB (l++e) x m:=λ⟨b,h1,h2,h3,h4⟩=>
 ⟨b,by rw[zU];omega,by rw[Vk h1];exact h2,by rw[Vk h1];exact h3,by rw[Tt hB z_];exact h4⟩
theorem BI.meet{n:Net}{p:Int}{S:Srch}{a:Int}(h:BI n p S a)(ha:-1<=a/\a<S.list.length){d k:Int}(hd:0<=d/\d.toNat<n.domains.length)(hk:k=0\/k=1){hp:Hop}(hh:hp.domain=d)(hw:HWay n p (backT S.list a++[hp]) (d,k)):BI n p (meetT S d k hp a) a/\HasB (meetT S d k hp a).list (d,k) (lnC S.list a+1)/\∃e,(meetT S d k hp a).list=S.list++e:=by
 have hm:=h.met.meet hd hk hh ha;have hB:=h.met.bk;cases hb:Tq S d k with
 |true=>
  have e:meetT S d k hp a=S:=by rw[meetT,zE hb]
  rw[e];refine⟨h,?_,[],by simp⟩;obtain ⟨f,hf,f1,f2⟩:=(h.met.m d hd k hk).1 hb;obtain ⟨b,j4,rfl⟩:=wU hf;have e2:nth S.list (b:Int)=S.list[b]:=Ag (l:=S.list) (i:=((b:Nat):Int)) j4;exact⟨b,j4,by rw[e2];exact f1,by rw[e2];exact f2,h.bnd b j4⟩
 |false=>
  have e:(meetT S d k hp a).list=S.list++[⟨d,k,hp,a⟩]:=by rw[meetT,zD (by rw[hb];decide),Ys]
  have iv:=Ayp hB (f:=⟨d,k,hp,a⟩) ha;have gr:lnC (S.list++[⟨d,k,hp,a⟩]) a=lnC S.list a:=Tt hB ha.2;have hlen:(S.list++[(⟨d,k,hp,a⟩:Fnd)]).length=S.list.length+1:=by simp
  dsimp only at iv;have dg:∀b:Nat,b<(S.list++[(⟨d,k,hp,a⟩:Fnd)]).length->(b<S.list.length/\lnC (S.list++[⟨d,k,hp,a⟩]) (b:Int)=lnC S.list (b:Int))\/(b=S.list.length/\lnC (S.list++[⟨d,k,hp,a⟩]) (b:Int)=lnC S.list a+1):=λb hb=>by
   by_cases hl:b<S.list.length
   .exact .inl ⟨hl,Tt hB z_⟩
   .have:b=S.list.length:=by omega
    subst this;exact .inr ⟨E,iv⟩
  refine⟨⟨hm,?_,?_,?_⟩,?_,[⟨d,k,hp,a⟩],e⟩
  .rw[e];intro b c hbc hc;rcases dg c hc with ⟨c1,c2⟩|⟨c1,c2⟩<;>rcases dg b z_ with ⟨b1,b2⟩|⟨b1,b2⟩
   .rw[c2,b2];exact h.mono b c hbc c1
   .omega
   .rw[c2,b2];exact h.bnd b b1
   .rw[c2,b2];exact yG _
  .rw[e];intro b hb;rw[gr];rcases dg b hb with ⟨b1,b2⟩|⟨b1,b2⟩
   .rw[b2];exact h.bnd b b1
   .rw[b2];exact yG _
  .rw[e];intro b hb;rcases dg b hb with ⟨b1,_⟩|⟨b1,_⟩
   .rw[Mu hB z_,Vk b1];exact h.walk b b1
   .subst b1;rw[Abr hB (f:=⟨d,k,hp,a⟩) ha,oY];exact hw
  .rw[e];exact⟨S.list.length,by omega,by rw[oY],by rw[oY],by rw[iv];exact yG _⟩
theorem BI.ext1{n:Net}{p:Int}{a k:Int}(hk:k=0\/k=1):∀{l:List Hop} {S:Srch},BI n p S a->(-1<=a/\a<S.list.length)->(∀h∈l,(0<=h.domain/\h.domain.toNat<n.domains.length)/\HWay n p (backT S.list a++[h]) (h.domain,k)) ->
  BI n p (Go.Sy.Zaa.ext1 S k a l) a/\(∀h∈l,HasB (Go.Sy.Zaa.ext1 S k a l).list (h.domain,k) (lnC S.list a+1))/\∃e,(Go.Sy.Zaa.ext1 S k a l).list=S.list++e
 |[],S,h,_,_=>⟨h,λ_ hx=>(by cases hx),[],by simp[Go.Sy.Zaa.ext1]⟩
 |x::l,S,h,ha,hl=>by
  obtain ⟨x1,x2⟩:=hl x qq;obtain ⟨m1,m2,e,m3⟩:=h.meet ha x1 hk (hp:=x) rfl x2;have gr:lnC (meetT S x.domain k x a).list a=lnC S.list a:=by rw[m3];exact Tt h.met.bk ha.2
  have zl:backT (meetT S x.domain k x a).list a=backT S.list a:=by rw[m3];exact Mu h.met.bk ha.2
  obtain ⟨i1,i2,e2,i3⟩:=BI.ext1 hk (l:=l) m1 ⟨ha.1,by rw[m3,zU];omega⟩ (λy hy=>by rw[zl];exact hl y (by simp[hy]));refine⟨i1,λy hy=>?_,e++e2,?_⟩
  .rcases yH.1 hy with rfl|hy
   .show HasB (Go.Sy.Zaa.ext1 (meetT S y.domain k y a) k a l).list _ _;rw[i3];exact m2.app m1.met.bk
   .have:=i2 y hy;rw[gr]at this;exact this
  .show (Go.Sy.Zaa.ext1 (meetT S x.domain k x a) k a l).list=_;rw[i3,m3,xF]
theorem BI.ext2{n:Net}{p:Int}{a:Int}:∀{l:List Lead} {S:Srch},BI n p S a->(-1<=a/\a<S.list.length)->(∀h∈l,(0<=h.domain/\h.domain.toNat<n.domains.length)/\HWay n p (backT S.list a++[⟨3,0,h.domain,h.addr⟩]) (h.domain,1)) ->
  BI n p (Go.Sy.Zaa.ext2 S a l) a/\(∀h∈l,HasB (Go.Sy.Zaa.ext2 S a l).list (h.domain,1) (lnC S.list a+1))/\∃e,(Go.Sy.Zaa.ext2 S a l).list=S.list++e
 |[],S,h,_,_=>⟨h,λ_ hx=>(by cases hx),[],by simp[Go.Sy.Zaa.ext2]⟩
 |x::l,S,h,ha,hl=>by
  obtain ⟨x1,x2⟩:=hl x qq;obtain ⟨m1,m2,e,m3⟩:=h.meet ha x1 (.inr rfl) (hp:=⟨3,0,x.domain,x.addr⟩) rfl x2;have gr:lnC (meetT S x.domain 1 ⟨3,0,x.domain,x.addr⟩ a).list a=lnC S.list a:=by rw[m3];exact Tt h.met.bk ha.2
  have zl:backT (meetT S x.domain 1 ⟨3,0,x.domain,x.addr⟩ a).list a=backT S.list a:=by rw[m3];exact Mu h.met.bk ha.2
  obtain ⟨i1,i2,e2,i3⟩:=BI.ext2 (l:=l) m1 ⟨ha.1,by rw[m3,zU];omega⟩ (λy hy=>by rw[zl];exact hl y (by simp[hy]));refine⟨i1,λy hy=>?_,e++e2,?_⟩
  .rcases yH.1 hy with rfl|hy
   .show HasB (Go.Sy.Zaa.ext2 (meetT S y.domain 1 ⟨3,0,y.domain,y.addr⟩ a) a l).list _ _;rw[i3];exact m2.app m1.met.bk
   .have:=i2 y hy;rw[gr]at this;exact this
  .show (Go.Sy.Zaa.ext2 (meetT S x.domain 1 ⟨3,0,x.domain,x.addr⟩ a) a l).list=_;rw[i3,m3,xF]
theorem BI.ext{n:Net}{p:Int}{S:Srch}{i:Nat}(h:BI n p S (i:Int))(hi:i<S.list.length):BI n p (extT n S (i:Int)) (i:Int)/\(∀y,A2x n ((nth S.list (i:Int)).domain,(nth S.list (i:Int)).kind) y->HasB (extT n S (i:Int)).list y (lnC S.list (i:Int)+1))/\∃e,(extT n S (i:Int)).list=S.list++e:=by
 have hw:=h.walk i hi;have ha:-1<=(i:Int)/\(i:Int)<S.list.length:=⟨by omega,by omega⟩
 have pn:=(h.met.ok.at_ _ (show nth S.list (i:Int)∈S.list by rw[Ag (l:=S.list) (i:=(i:Int)) (kS hi)];exact zI _)).2;rw[extT];by_cases h0:(nth S.list (i:Int)).kind=0
 .rw[zE h0];obtain ⟨i1,i2,e,i3⟩:=h.ext1 (k:=0) (.inl rfl) (l:=C4 n (nth S.list (i:Int)).domain) ha (λx hx=>⟨Ok hx,by have:=HWay.hop hw (h:=x) hx;dsimp only at this;rw[h0]at this;exact this⟩);have zl:backT (Go.Sy.Zaa.ext1 S 0 (i:Int) (C4 n (nth S.list (i:Int)).domain)).list (i:Int)=backT S.list (i:Int):=by rw[i3];exact Mu h.met.bk ha.2
  have gr:lnC (Go.Sy.Zaa.ext1 S 0 (i:Int) (C4 n (nth S.list (i:Int)).domain)).list (i:Int)=lnC S.list (i:Int):=by rw[i3];exact Tt h.met.bk ha.2
  obtain ⟨j1,j2,e2,j3⟩:=i1.ext2 (l:=routesT n (nth S.list (i:Int)).domain) ⟨ha.1,by rw[i3,zU];omega⟩ (λx hx=>⟨Te hx,by rw[zl];exact HWay.lead hw h0 hx⟩);refine⟨j1,?_,e++e2,by rw[j3,i3,xF]⟩;rintro y (⟨x,hx,rfl⟩|⟨_,q,hq,rfl⟩)
  .have:=i2 x hx;rw[j3];rw[h0];exact this.app i1.met.bk
  .have:=j2 q hq;rw[gr]at this;exact this
 .have h1:(nth S.list (i:Int)).kind=1:=pn.resolve_left h0;rw[zD h0];obtain ⟨i1,i2,e,i3⟩:=h.ext1 (k:=1) (.inr rfl) (l:=C4 n (nth S.list (i:Int)).domain) ha (λx hx=>⟨Ok hx,by have:=HWay.hop hw (h:=x) hx;dsimp only at this;rw[h1]at this;exact this⟩);refine⟨i1,?_,e,i3⟩;rintro y (⟨x,hx,rfl⟩|⟨h2,_⟩)
  .rw[h1];exact i2 x hx
  .exact zX h2 h0
structure SI(n:Net)(p to:Int)(S:Srch)(i:Nat):Prop where
 met:Met n S
 mono:∀b c:Nat,b<=c->c<S.list.length->lnC S.list b<=lnC S.list c
 bnd:i<S.list.length->∀b:Nat,b<S.list.length->lnC S.list b<=lnC S.list i+1
 walk:∀b:Nat,b<S.list.length->HWay n p (backT S.list b) ((nth S.list b).domain,(nth S.list b).kind)
 succ:∀j:Nat,j<i->j<S.list.length->∀y,A2x n ((nth S.list (j:Int)).domain,(nth S.list (j:Int)).kind) y->HasB S.list y (lnC S.list (j:Int)+1)
 start:∀y,Ab3 n p y->HasB S.list y 1
 goal:∀j:Nat,j<i->j<S.list.length->inB (Bj n (nth S.list (j:Int)).domain) to=false
theorem SI.far{n:Net}{p to:Int}{S:Srch}{i M:Nat}(h:SI n p to S i)(hP:∀b:Nat,b<S.list.length->lnC S.list (b:Int)<=M->b<i):∀(m:Nat) (x:Int×Int),Walk n p m x->m<=M->HasB S.list x (m+1)
 |0,x,hw,_=>by
  cases hw with
  |start hs=>exact h.start x hs
 |m+1,x,hw,hm=>by
  cases hw with
  |step hw hs=>
   rename_i y;obtain ⟨b,b1,b2,b3,b4⟩:=h.far hP m y hw z_;obtain ⟨c,c1,c2,c3,c4⟩:=h.succ b (hP b b1 z_) b1 x (by rw[b2,b3];exact hs);exact⟨c,c1,c2,c3,by omega⟩
theorem SI.none{n:Net}{p to:Int}{S:Srch}{i M:Nat}(h:SI n p to S i)(hP:∀b:Nat,b<S.list.length->lnC S.list (b:Int)<=M->b<i){m:Nat}{x:Int×Int}(hw:Walk n p m x)(hg:inB (Bj n x.1) to=true):M<=m:=by
 by_cases hm:m<M
 .obtain ⟨b,b1,b2,b3,b4⟩:=h.far hP m x hw z_;have:=h.goal b (hP b b1 z_) b1;rw[b2,hg]at this;cases this
 .omega
theorem SI.next{n:Net}{p to:Int}{S:Srch}{i:Nat}(h:SI n p to S i)(hi:i<S.list.length)(hg:inB (Bj n (nth S.list (i:Int)).domain) to=false):SI n p to (extT n S (i:Int)) (i+1)/\i+1<=(extT n S (i:Int)).list.length:=by
 obtain ⟨b1,b2,e,b3⟩:=BI.ext (p:=p) ⟨h.met,h.mono,h.bnd hi,h.walk⟩ hi;have hB:=h.met.bk;refine⟨⟨b1.met,b1.mono,λkm b hb=>?_,b1.walk,λj hj cw y hy=>?_,λy hy=>?_,λj hj cw=>?_⟩,?_⟩
 .have h1:=b1.bnd b hb;have h2:=b1.mono i (i+1) z_ km;omega
 .have q9:j<S.list.length:=by omega
  rw[b3,Vk q9]at hy;rw[b3,Tt hB z_,<-b3];by_cases cq:j=i
  .subst cq;exact b2 y hy
  .rw[b3];exact(h.succ j z_ q9 y hy).app hB
 .rw[b3];exact(h.start y hy).app hB
 .have q9:j<S.list.length:=by omega
  rw[b3,Vk q9];by_cases cq:j=i
  .subst cq;exact hg
  .exact h.goal j z_ q9
 .rw[b3,zU];omega
def Zr{n:Net}{p to:Int}:∀(k:Nat) (S:Srch) (i:Nat),SI n p to S i->i<=S.list.length->2*n.domains.length+1<=i+k ->
  ((Eh n to k S i).2=true->∃m x,Walk n p m x/\inB (Bj n x.1) to=true/\(Eh n to k S i).1.length=m+1/\HWay n p (Eh n to k S i).1 x/\∀m' x',Walk n p m' x'->inB (Bj n x'.1) to=true->m<=m') /\
  ((Eh n to k S i).2=false->(Eh n to k S i).1=[]/\∀m' x',Walk n p m' x'->inB (Bj n x'.1) to=true->False)
 |0,S,i,h,hi,hk=>by
  have:=h.met.ok.le;omega
 |k+1,S,i,h,hi,hk=>by
  rw[Eh];by_cases hl:i<S.list.length
  .rw[zE hl];cases hg:inB (Bj n (nth S.list (i:Int)).domain) to with
   |true=>
    rw[zE rfl];refine⟨λ_=>?_,λhf=>by cases hf⟩;have hH:=h.walk i hl;obtain ⟨m,hm,hw⟩:=hH.walk;rw[<-Aj3]at hm;refine⟨m,_,hw,hg,?_,hH,λm' x' rn o9=>?_⟩
    .show (backT S.list (i:Int)).length=_;rw[<-Aj3];exact hm
    .refine h.none (M:=m) (λb hb hbm=>?_) rn o9;by_cases sj:b<i
     .exact sj
     .have:=h.mono i b z_ hb;omega
   |false=>
    rw[zD y_];obtain ⟨h1,h2⟩:=h.next hl hg;exact Zr k _ (i+1) h1 h2 z_
  .rw[zD hl];refine⟨λhf=>(by cases hf),λ_=>⟨rfl,λm' x' rn o9=>?_⟩⟩;have:=h.none (M:=m'+1) (λb hb _=>by omega) rn o9;omega
def Az8{n:Net}(hr:Ac n=true){p:Int}(hp:0<=p/\p.toNat<n.ports.length)(to:Int):SI n p to (beginT n p) 0:=by
 have e:nth n.ports p=n.ports[p.toNat]:=Ag hp.2;have hv:∀v∈(nth n.ports p).native::(nth n.ports p).tagged,v≠0->0<=Ce n (nth n.ports p).dev v/\(Ce n (nth n.ports p).dev v).toNat<n.domains.length:=by
  rw[e];exact λv hv h0=>Ki hr hp.2 hv h0
 have key:∀(l:List Int) (S:Srch),BI n p S (-1)->(∀v∈l,v∈(nth n.ports p).native::(nth n.ports p).tagged)->BI n p (l.foldl (J3 n (nth n.ports p).dev) S) (-1)/\(∀v∈l,v≠0->HasB (l.foldl (J3 n (nth n.ports p).dev) S).list (Ce n (nth n.ports p).dev v,0) 1)/\∃x,(l.foldl (J3 n (nth n.ports p).dev) S).list=S.list++x:=by
  intro l
  induction l with
  |nil=>exact λS h _=>⟨h,λ_ hx=>(by cases hx),[],by simp⟩
  |cons v l ih=>
   intro S h hl;rw[vJ,J3];by_cases h0:v=0
   .rw[zE h0];obtain ⟨i1,i2,x,i3⟩:=ih S h (λw hw=>hl w (by simp[hw]));refine⟨i1,λw hw lm=>?_,x,i3⟩;rcases yH.1 hw with rfl|hw
    .exact zX h0 lm
    .exact i2 w hw lm
   .rw[zD h0];have uh:=hl v qq;obtain ⟨m1,m2,x,m3⟩:=h.meet (a:=-1) z_ (hv v uh h0) (.inl rfl) (hp:=⟨0,0,Ce n (nth n.ports p).dev v,0⟩) rfl (by rw[Ap3];exact .start ⟨v,uh,h0,rfl⟩);obtain ⟨i1,i2,y,i3⟩:=ih _ m1 (λw hw=>hl w (by simp[hw]));refine⟨i1,λw hw lm=>?_,x++y,by rw[i3,m3,xF]⟩;rcases yH.1 hw with rfl|hw
    .rw[i3];rw[Aj2]at m2;exact m2.app m1.met.bk
    .exact i2 w hw lm
 have h0:BI n p (Kq n) (-1):=by
  refine⟨⟨Aif n,λi hi=>by simp[Kq]at hi,λf hf=>by simp[Kq]at hf,λd hd k hk=>?_⟩,λb c _ hc=>by simp[Kq]at hc,λb hb=>by simp[Kq]at hb,λb hb=>by simp[Kq]at hb⟩;constructor
  .intro hm;have:Tq (Kq n) d k=false:=by
    unfold Tq Kq;dsimp only;split<;>(rw[Ag (by rw[vC];exact hd.2)];simp)
   rw[this]at hm;cases hm
  .rintro ⟨f,hf,_⟩;simp[Kq]at hf
 obtain ⟨i1,i2,x,i3⟩:=key ((nth n.ports p).native::(nth n.ports p).tagged) (Kq n) h0 (λv hv=>hv);refine⟨i1.met,i1.mono,λhl b hb=>?_,i1.walk,λj hj=>by omega,?_,λj hj=>by omega⟩
 .have h1:=i1.bnd b hb;rw[Aj2]at h1;show lnC (beginT n p).list (b:Int)<=_;have h1:lnC (beginT n p).list (b:Int)<=0+1:=h1;omega
 .rintro y ⟨v,hv,h0,rfl⟩;exact i2 v hv h0
def way_short{n:Net}{p to:Int}:((wayT n p to).2=true->Ac n=true/\Eg n p=true/\Eg n to=true/\p≠to/\∃m x,Walk n p m x/\inB (Bj n x.1) to=true/\(wayT n p to).1.length=m+1/\HWay n p (wayT n p to).1 x/\∀m' x',Walk n p m' x'->inB (Bj n x'.1) to=true->m<=m') /\
  ((wayT n p to).2=false->(wayT n p to).1=[]/\(Ac n=true->Eg n p=true->Eg n to=true->p≠to->∀m' x',Walk n p m' x'->inB (Bj n x'.1) to=true->False)):=by
 rw[wayT];split
 .rename_i hc;obtain ⟨s1,s2⟩:=Zr (2*n.domains.length+1) (beginT n p) 0 (Az8 hc.2.2.2 (So hc.1) to) (xX _) z_;exact⟨λh=>⟨hc.2.2.2,hc.1,hc.2.1,hc.2.2.1,s1 h⟩,λh=>⟨(s2 h).1,λ_ _ _ _=>(s2 h).2⟩⟩
 .rename_i hc;exact⟨λh=>(by cases h),λ_=>⟨rfl,λh1 h2 h3 h4=>zX ⟨h2,h3,h4,h1⟩ hc⟩⟩
def An3{n:Net}{i:Int}(h:0<=Bv n i):(0<=i/\i.toNat<n.ports.length)/\0<=(nth n.ports i).link/\(nth n.ports i).link.toNat<n.links.length:=by
 have ht:=Eu h;unfold Bv at h;split at h
 .rename_i hc;have e1:nth n.ports i=n.ports[i.toNat]:=Ag ht.1.2;rw[e1]at hc|-;exact⟨ht.1,hc.2.1,(I2 hc.2.2 ht.1.2 hc.2.1).1⟩
 .omega
def memberB_iff{p:Port}{v:Int}:Cz p v=true↔v≠0/\(v=p.native\/v∈p.tagged):=by
 simp[Cz,inB]
def Lw{n:Net}(hr:Ac n=true){d p:Int}(hd:0<=d/\d.toNat<n.domains.length):p∈Bj n d↔(0<=p/\p.toNat<n.ports.length)/\(nth n.ports p).dev=(nth n.domains d).dev/\Cz (nth n.ports p) (nth n.domains d).vlan=true:=by
 rw[Bj,zE ⟨⟨hd.1,by omega⟩,hr⟩,Bl,filtI_mem];constructor
 .rintro ⟨h1,h2,h3⟩;rw[Uk,yR h1]at h3;simp only[zG,yJ]at h3;exact⟨⟨h1,by omega⟩,h3⟩
 .rintro ⟨⟨h1,h2⟩,h3⟩;refine⟨h1,by omega,?_⟩;rw[Uk,yR h1];simpa using h3
def Ard{n:Net}(hr:Ac n=true){d:Int}(hd:0<=d/\d.toNat<n.domains.length):Da n (nth n.domains d).dev (nth n.domains d).vlan=d:=by
 rw[Ag hd.2,(bareB_iff.1 (Azt hr hd.2)).2.2.2.2];exact yR hd.1
def Apq{n:Net}{dev v:Int}(h:0<=Da n dev v):(0<=Da n dev v/\(Da n dev v).toNat<n.domains.length)/\(nth n.domains (Da n dev v)).dev=dev/\(nth n.domains (Da n dev v)).vlan=v:=by
 have h0:Da n dev v=Bs (λd:Domain=>d.dev==dev&&d.vlan==v) n.domains:=rfl;obtain ⟨a,b⟩:=A17 (p:=λd:Domain=>d.dev==dev&&d.vlan==v) h0.symm h;simp only[zG,yJ]at b;exact⟨⟨h,a⟩,by rw[Ag a];exact b.1,by rw[Ag a];exact b.2⟩
def An4{n:Net}{p:Int}(h:0<=Bv n p):Bv n (Bv n p)=p:=by
 have ht:=Eu h;have hr:=ht.2.1;have hl:=An3 h;obtain ⟨⟨p0,p1⟩,l0,l1⟩:=hl;have e:Bv n p=if (nth n.links (nth n.ports p).link).a=p then (nth n.links (nth n.ports p).link).b else (nth n.links (nth n.ports p).link).a:=by
  rw[Bv,zE ⟨⟨p0,by omega⟩,l0,hr⟩]
 have ak:Qb n (nth n.ports p).link.toNat (nth n.links (nth n.ports p).link)=true:=by
  have h2:=hr;simp only[Ac,zG]at h2;rw[Ag l1];exact allB_iff.1 h2.1.1.1.1.2 _ l1
 have bd:=I2 hr p1 (by rw[<-Ag p1];exact l0);rw[<-Ag p1]at bd;have ns:((p.toNat:Nat):Int)=p:=yR p0;have gq:(((nth n.ports p).link.toNat:Nat):Int)=(nth n.ports p).link:=yR l0;rw[ns]at bd;simp only[Qb,Af,zG,zJ,yJ,xC]at ak;rw[gq]at ak;obtain ⟨⟨⟨⟨⟨a1,a2⟩,b1,b2⟩,ag⟩,la⟩,lb⟩:=ak;have hab:(nth n.links (nth n.ports p).link).a≠(nth n.links (nth n.ports p).link).b:=λe=>ag (by rw[e])
 by_cases hp:(nth n.links (nth n.ports p).link).a=p
 .rw[zE hp]at e;have e2:Bv n (nth n.links (nth n.ports p).link).b=if (nth n.links (nth n.ports p).link).a=(nth n.links (nth n.ports p).link).b then (nth n.links (nth n.ports p).link).b else (nth n.links (nth n.ports p).link).a:=by
   rw[Bv,zE ⟨⟨b1,b2⟩,by rw[lb];exact l0,hr⟩,lb]
  rw[e,e2,zD hab,hp]
 .rw[zD hp]at e;have y9:=bd.2.resolve_left hp;have e2:Bv n (nth n.links (nth n.ports p).link).a=(nth n.links (nth n.ports p).link).b:=by
   rw[Bv,zE ⟨⟨a1,a2⟩,by rw[la];exact l0,hr⟩,la,zE rfl]
  rw[e,e2,y9]
def At6{n:Net}(hr:Ac n=true){d e p:Int}(hd:0<=d/\d.toNat<n.domains.length)(hp:p∈Bj n d)(h:linkDomT n p (nth n.domains d).vlan=(e,true)):(0<=e/\e.toNat<n.domains.length)/\Bv n p∈Bj n e/\linkDomT n (Bv n p) (nth n.domains e).vlan=(d,true):=by
 obtain ⟨fg,ig,ff⟩:=(Lw hr hd).1 hp;have az:=Qa (n:=n) (i:=p) (v:=(nth n.domains d).vlan) (by rw[h]);rw[h]at az;dsimp only at az;refine⟨az,?_⟩;have hc:(crossT n p (nth n.domains d).vlan).2.2=true:=by
  cases hcc:(crossT n p (nth n.domains d).vlan).2.2
  .rw[linkDomT,zD (by rw[hcc];decide)]at h;cases h
  .rfl
 rw[linkDomT,zE hc]at h;have zm:0<=Bv n p/\Cz (nth n.ports p) (nth n.domains d).vlan=true/\Dp n p (nth n.domains d).vlan≠0:=by
  rw[crossT]at hc;split at hc
  .assumption
  .cases hc
 rw[crossT,zE zm]at h;dsimp only at h;obtain ⟨he,_⟩:=Prod.mk.inj h;rw[Ce,zE hr]at he;have wa:=Eu zm.1;have hq:0<=Bv n p/\(Bv n p).toNat<n.ports.length:=⟨zm.1,wa.2.2⟩
 have i7:=An4 zm.1;generalize hqe:Bv n p=q at *;generalize sr:(nth n.domains d).vlan=v at *;have hdo:=Apq (n:=n) (dev:=(nth n.ports q).dev) (v:=Dp n p v) (by rw[he];exact az.1);rw[he]at hdo;obtain ⟨_,d1,d2⟩:=hdo;obtain ⟨v0,hv⟩:=memberB_iff.1 ff;have p8:=(Aa8 hr hq.2).2;have zn:=(Aa8 hr fg.2).2;rw[<-Ag hq.2]at p8;rw[<-Ag fg.2]at zn;have wb:=zm.2.2;have d7:Dp n p v=(if v=(nth n.ports p).native then (nth n.ports q).native else if inB (nth n.ports q).tagged v=true then v else 0):=by rw[Dp,hqe]
 have jf:Dp n q (Dp n p v)=(if Dp n p v=(nth n.ports q).native then (nth n.ports p).native else if inB (nth n.ports p).tagged (Dp n p v)=true then Dp n p v else 0):=by rw[Dp,i7]
 have zo:∀{l:List Int} {x:Int},inB l x=true↔x∈l:=by intro l x;simp[inB]
 have key:Cz (nth n.ports q) (Dp n p v)=true/\Dp n q (Dp n p v)=v:=by
  by_cases hn:v=(nth n.ports p).native
  .rw[zE hn]at d7;rw[d7]at jf|-;rw[zE rfl]at jf;rw[d7]at wb;exact⟨memberB_iff.2 ⟨wb,.inl E⟩,by rw[jf,hn]⟩
  .rw[zD hn]at d7;cases hi:inB (nth n.ports q).tagged v with
   |false=>
    rw[hi,zD y_]at d7;exact zX d7 wb
   |true=>
    rw[hi,zE rfl]at d7;rw[d7]at jf|-;have ag:v≠(nth n.ports q).native:=λe=>by rw[<-e,hi]at p8;cases p8
    rw[zD ag,zE (zo.2 (hv.resolve_left hn))]at jf;exact⟨memberB_iff.2 ⟨v0,.inr (zo.1 hi)⟩,jf⟩
 refine⟨(Lw hr az).2 ⟨hq,d1.symm,by rw[d2];exact key.1⟩,?_⟩;rw[d2,linkDomT];have hcq:crossT n q (Dp n p v)=(p,v,true):=by
  rw[crossT,zE ⟨by rw[i7];exact fg.1,key.1,by rw[key.2];exact v0⟩,i7,key.2]
 rw[hcq,zE rfl];dsimp only;rw[Ce,zE hr,ig,<-sr,Ard hr hd]
def cV{n:Net}(hr:Ac n=true){d k:Int}(hd:0<=d/\d.toNat<n.domains.length)(hk:k∈(nth n.domains d).peers):(0<=k/\k.toNat<n.domains.length)/\d∈(nth n.domains k).peers:=by
 rw[Ag hd.2]at hk;refine⟨Apl hr hd.2 hk,?_⟩;have h:=hr;simp only[Ac,zG]at h;have h1:=allB_iff.1 h.1.1.1.1.1.1.2 _ hd.2;obtain ⟨j,hj,e⟩:=yY.1 hk;have h2:=allB_iff.1 h1 j hj;rw[e]at h2;simp only[Sc,zG]at h2;have h3:inB (nth n.domains k).peers ((d.toNat:Nat):Int)=true:=h2.1.2;rw[yR hd.1]at h3;simpa [inB] using h3
def Aui{n:Net}{d:Int}{h:Hop}(hh:h∈C4 n d):∃g∈C4 n h.domain,g.domain=d:=by
 have az:=Ok hh;rw[C4]at hh;split at hh
 .rename_i hd;have hr:=hd.2;have dz:0<=d/\d.toNat<n.domains.length:=by have:=hd.1;omega
  rw[C4,zE ⟨⟨az.1,by omega⟩,hr⟩];rcases yI.1 hh with hh|hh
  .obtain ⟨p,hp,hl⟩:=wL.1 hh;rw[linkHop]at hl;split at hl
   .rename_i ar;cases hl;obtain ⟨_,hq,hb⟩:=At6 hr dz hp (e:=(linkDomT n p (nth n.domains d).vlan).1) (Prod.ext rfl ar);refine⟨⟨1,Bv n p,d,0⟩,tZ _ (wL.2 ⟨Bv n p,hq,?_⟩),E⟩;rw[linkHop,hb,zE rfl]
   .cases hl
  .obtain ⟨k,hk,rfl⟩:=yS.1 hh;obtain ⟨_,hb⟩:=cV hr dz hk;exact⟨Mr d,uF _ (yS.2 ⟨d,hb,E⟩),E⟩
 .cases hh
inductive Path(n:Net):Nat->Int->Int->Prop
 |nil (d:Int):Path n 0 d d
 |snoc {k:Nat} {d e:Int} {h:Hop}:Path n k d e->h∈C4 n e->Path n (k+1) d h.domain
theorem Path.cons{n:Net}{d:Int}{h:Hop}(hh:h∈C4 n d):∀{k:Nat} {e:Int},Path n k h.domain e->Path n (k+1) d e:=by
 intro k e hp;generalize hx:h.domain=x at hp
 induction hp with
 |nil=>subst hx;exact .snoc (.nil d) hh
 |snoc _ hg ih=>exact .snoc (ih hx) hg
def Am3{n:Net}(hr:Ac n=true){p d:Int}(hp:0<=p/\p.toNat<n.ports.length):Ab3 n p (d,0)↔(0<=d/\d.toNat<n.domains.length)/\inB (Bj n d) p=true:=by
 have e:nth n.ports p=n.ports[p.toNat]:=Ag hp.2;constructor
 .rintro ⟨v,hv,h0,he⟩;obtain ⟨rfl,_⟩:=Prod.mk.inj he;have hm:Cz (nth n.ports p) v=true:=memberB_iff.2 ⟨h0,kS hv⟩;rw[Ce,zE hr];have hd:=V5 hr hp.2 (by rw[<-e];exact hm);rw[<-e]at hd;obtain ⟨d0,d1,d2⟩:=Apq (n:=n) (dev:=(nth n.ports p).dev) (v:=v) hd.1;refine⟨d0,?_⟩;have:=(Lw hr d0).2 ⟨hp,d1.symm,by rw[d2];exact hm⟩;simpa [inB] using this
 .rintro ⟨hd,hm⟩;have hm:p∈Bj n d:=by simpa [inB] using hm
  obtain ⟨_,h1,h2⟩:=(Lw hr hd).1 hm;obtain ⟨h3,h4⟩:=memberB_iff.1 h2;refine⟨(nth n.domains d).vlan,kS h4,h3,?_⟩;rw[Ce,zE hr,h1,Ard hr hd]
def Wi{k a:Type}(key:k->Option a)(l:List k):Prop:=∀i j (hi:i<l.length) (hj:j<l.length),key l[i]≠none->key l[i]=key l[j]->i=j
def Aqw{k a:Type}{key:k->Option a}{l e:List k}(h:Wi key l)(he:∀x∈e,key x=none):Wi key (l++e):=by
 intro i j hi hj h1 h2;rw[zU]at hi hj;by_cases c:i<l.length
 .by_cases d:j<l.length
  .rw[yT c]at h1 h2;rw[yT d]at h2;exact h i j c d h1 h2
  .exfalso;rw[xR (show l.length<=j by omega),he _ (zI _)]at h2;exact h1 h2
 .exfalso;rw[xR (show l.length<=i by omega),he _ (zI _)]at h1;exact h1 E
def Aqv{a b:Type}{key:a->Option b}{l:List a}(h:Wi key l)(k:Nat){x:a}(hx:∀y∈l,key y≠key x):Wi key (l.set k x):=by
 intro i j hi hj h1 h2;rw[yN]at hi hj;rw[vV]at h1;rw[vV,vV]at h2;by_cases c:k=i
 .by_cases d:k=j
  .omega
  .rw[zE c,zD d]at h2;exact zX h2.symm (hx _ (zI _))
 .rw[zD c]at h1 h2;by_cases d:k=j
  .rw[zE d]at h2;exact zX h2 (hx _ (zI _))
  .rw[zD d]at h2;exact h i j hi hj h1 h2
def Tn{a b:Type}{key:a->Option b}{l:List a}(h:Wi key l)(k:Nat){x:a}(hx:∀hk:k<l.length,key x=key l[k]):Wi key (l.set k x):=by
 have hs:∀i (hi:i<l.length),key ((l.set k x)[i]'(by rw[yN];exact hi))=key l[i]:=by
  intro i hi;rw[vV];split
  .rename_i c;subst c;exact hx hi
  .rfl
 intro i j hi hj h1 h2;rw[yN]at hi hj;rw[hs i hi]at h1 h2;rw[hs j hj]at h2;exact h i j hi hj h1 h2
def A1q{k a:Type}{key:k->Option a}{l:List k}{f:k->k}(h:Wi key l)(hf:∀x,key (f x)=key x):Wi key (l.map f):=by
 intro i j hi hj h1 h2;rw[yZ]at hi hj;rw[List.getElem_map,hf]at h1;rw[List.getElem_map,List.getElem_map,hf,hf]at h2;exact h i j hi hj h1 h2
def Axt{k a:Type}{key:k->Option a}{l:List k}(h:Wi key l){x:k}(hx:∀y∈l,key y≠key x):Wi key (l++[x]):=by
 intro i j hi hj h1 h2;rw[zU,yF]at hi hj;by_cases c:i<l.length
 .rw[yT c]at h1 h2;by_cases d:j<l.length
  .rw[yT d]at h2;exact h i j c d h1 h2
  .exfalso;have wm:j=l.length:=by omega
   subst wm;rw[List.getElem_concat_length rfl]at h2;exact hx _ (zI c) h2
 .have hi':i=l.length:=by omega
  subst hi';by_cases d:j<l.length
  .exfalso;rw[List.getElem_concat_length rfl,yT d]at h2;exact hx _ (zI d) h2.symm
  .omega
def A0d{k:Type}{p:k->Bool}{l:List k}(h:Bs p l<0):∀x∈l,p x=false:=by
 have h1:l.any p=false:=by rw[<-Iz];exact zL z_
 simpa [wK] using h1
def vtK(d:Device):Option Int:=if d.vtep=0 then none else some d.vtep
def vnK(d:Domain):Option (Int×Int):=if d.vni=0 then none else some (d.dev,d.vni)
def irK(x:Irb):Option Int:=some x.addr
structure WitK(n:Net):Prop where
 vt:Wi vtK n.devices
 vn:Wi vnK n.domains
 ir:Wi irK n.irbs
 st:∀s∈n.statics,Ms s.mac=false
def Aey:WitK emptyN:=⟨λi j hi=>(by cases hi),λi j hi=>(by cases hi),λi j hi=>(by cases hi),λs hs=>(by cases hs)⟩
def Af8{l:LineM}(hk:l.kind=4)(h:Cn l=true):Ms l.mac=false:=by
 simp only[Cn,Bn,hk,zG]at h;simp only[statB,zG,xB]at h;simp at h;exact h.1.2.1.1.2
def A1f{n:Net}{l:LineM}(h:WitK n):WitK (putT n l).1:=by
 have e:=Aey;rw[putT];split
 .rw[putDevice]
  repeat' split
  all_goals (try exact e)
  exact⟨Aqw h.vt (λx hx=>by rw[zZ.1 hx];rfl),h.vn,h.ir,h.st⟩
 split
 .rw[putPort]
  repeat' split
  all_goals (try exact e)
  refine⟨h.vt,?_,h.ir,h.st⟩;show Wi vnK (Bk (Cf n l.dev) n.domains (l.vlan::l.tagged));have key:∀(vs:List Int) (ds:List Domain),Wi vnK ds->Wi vnK (Bk (Cf n l.dev) ds vs):=by
   intro vs
   induction vs with
   |nil=>exact λds hd=>hd
   |cons v vs ih=>
    intro ds hd;refine ih (Cw (Cf n l.dev) ds v) ?_;rw[Cw];split
    .exact Aqw hd (λx hx=>by rw[zZ.1 hx];rfl)
    .exact hd
  exact key _ _ h.vn
 split
 .rw[putLink];dsimp only
  repeat' split
  all_goals (try exact e)
  exact⟨h.vt,h.vn,h.ir,h.st⟩
 split
 .rename_i h4;rw[putStatic];dsimp only;split
  .exact e
  rename_i hf;have hf:fitsB n l 4=true:=kS hf;rw[fitsB,zG,zG]at hf
  repeat' split
  all_goals (try exact e)
  refine⟨h.vt,h.vn,h.ir,λs hs=>?_⟩;rcases yI.1 hs with hs|hs
  .exact h.st s hs
  .rw[zZ.1 hs];exact Af8 h4 (kS hf.2.1)
 split
 .rw[putVtep];dsimp only;split
  .exact e
  split
  .exact e
  rename_i hc;refine⟨?_,h.vn,h.ir,h.st⟩;show Wi vtK (Yn n.devices (begT n l 5).1 l.addr);have h9:D0 n l.addr<0:=by omega
  have h9:=A0d h9;by_cases h0:l.addr=0
  .have h1:¬(nth n.devices (begT n l 5).1).vtep≠0:=λhh=>hc (.inl hh)
   refine Tn h.vt _ λhk=>?_
   have h2:(nth n.devices (begT n l 5).1).vtep=0:=Classical.byContradiction h1;rw[Ag hk]at h2;simp only[vtK,h0,h2]
  .refine Aqv h.vt _ λy hy=>?_
   have h8:=h9 y hy;simp at h8;simp only[vtK,zD h0];split
   .exact λhh=>by cases hh
   .exact λhh=>h8 (Option.some.inj hh)
 split
 .rw[putVni];dsimp only;split
  .exact e
  split
  .exact e
  split
  .exact e
  rename_i hc;split
  .exact e
  rename_i hv;refine⟨h.vt,?_,h.ir,h.st⟩;have hd:=Apq (n:=n) (dev:=(begT n l 6).1) (v:=l.vlan) z_;have h9:Ql n (begT n l 6).1 l.num<0:=by omega
  have h9:=A0d h9;by_cases h0:l.num=0
  .refine Tn h.vn _ λhk=>?_
   have h2:(nth n.domains (Da n (begT n l 6).1 l.vlan)).vni=0:=Classical.byContradiction λhh=>hv (.inl hh)
   rw[Ag hk]at h2;simp only[vnK,h0,h2,zE]
  .refine Aqv h.vn _ λy hy=>?_
   have h8:=h9 y hy;simp[h0]at h8;simp only[vnK,zD h0,hd.2.1];split
   .exact λhh=>by cases hh
   .intro hh;have:=Option.some.inj hh;simp only[Prod.mk.injEq]at this;exact h8 this.1 this.2
 split
 .rw[putFlood];dsimp only
  repeat' split
  all_goals (try exact e)
  exact⟨h.vt,h.vn,h.ir,h.st⟩
 split
 .rw[putVrf];dsimp only
  repeat' split
  all_goals (try exact e)
  exact⟨h.vt,h.vn,h.ir,h.st⟩
 split
 .rw[putIrb];dsimp only;split
  .exact e
  split
  .exact e
  split
  .exact e
  split
  .exact e
  rename_i hc;refine⟨h.vt,Tn h.vn _ λhk=>?_,Axt h.ir λy hy=>?_,h.st⟩
  .rw[Ag hk];rfl
  .have h9:n.irbs.any (clashB n (begT n l 9).1 l.addr l.bits)=false:=by
    cases hh:n.irbs.any (clashB n (begT n l 9).1 l.addr l.bits)
    .rfl
    .exact zX (.inr hh) hc
   rw[wK]at h9;have:=h9 y hy;simp only[clashB,yQ,yJ,vW]at this;exact λhh=>this.1 (Option.some.inj hh)
 exact e
def Ax8{n:Net}(h:WitK n):WitK (By n):=⟨h.vt,A1q h.vn λ_=>rfl,h.ir,h.st⟩
def Afb:∀(l:List LineM) (n:Net),WitK n->(Bu n l).2.2=0->WitK (Bu n l).1
 |[],n,hn,h=>by
  rw[Bu,finishT]at h|-;split at h
  .rename_i h1;exact zX h h1
  rename_i h1;rw[zD h1];split at h
  .simp at h
  rename_i h2;rw[zD h2];obtain ⟨e1,_⟩:=O9 (n:=n) z_;dsimp only;rw[e1];exact Ax8 hn
 |x::l,n,hn,h=>by
  rw[Bu]at h|-;split at h
  .rename_i h1;exact zX h h1
  rename_i h1;rw[zD h1];exact Afb l _ (A1f hn) h
structure BuiltK(n:Net):Prop where
 right:Ac n=true
 wit:WitK n
 num:n.Num
 mesh:(meshNT n).2.2=0
 same:By n=n
abbrev InD(n:Net)(d:Int):Prop:=0<=d/\d.toNat<n.domains.length
def Aej{n:Net}{d:Int}(h:InD n d):Af d n.domains.length=true:=by
 rw[Af,zK h.1,zK (by have:=h.2;omega)];rfl
def inB_iff{l:List Int}{x:Int}:inB l x=true↔x∈l:=by simp[inB]
def Avp{n:Net}(h:BuiltK n){a b:Int}(ha:0<=a/\a.toNat<n.devices.length)(hb:0<=b/\b.toNat<n.devices.length)(e:(nth n.devices a).vtep=(nth n.devices b).vtep)(h0:(nth n.devices a).vtep≠0):a=b:=by
 rw[Ag ha.2]at e h0;rw[Ag hb.2]at e;have zp:=h0;rw[e]at zp;have:=h.wit.vt a.toNat b.toNat ha.2 hb.2 (by rw[vtK,zD h0];exact λe=>by cases e) (by rw[vtK,vtK,zD h0,zD zp,e]);omega
def Avu{n:Net}(h:BuiltK n){a b:Int}(ha:InD n a)(hb:InD n b)(e:(nth n.domains a).dev=(nth n.domains b).dev)(e2:(nth n.domains a).vni=(nth n.domains b).vni)(h0:(nth n.domains a).vni≠0):a=b:=by
 rw[Ag ha.2]at e e2 h0;rw[Ag hb.2]at e e2;have zp:=h0;rw[e2]at zp;have:=h.wit.vn a.toNat b.toNat ha.2 hb.2 (by rw[vnK,zD h0];exact λe=>by cases e) (by rw[vnK,vnK,zD h0,zD zp,e,e2]);have:=ha.1;have:=hb.1;omega
def own_is{n:Net}(h:BuiltK n){a:Int}(ha:0<=a/\a.toNat<n.devices.length)(h0:(nth n.devices a).vtep≠0):D0 n (nth n.devices a).vtep=a:=by
 have h1:0<=D0 n (nth n.devices a).vtep:=idxI_nonneg.2 (by
  rw[wJ];exact⟨nth n.devices a,L9 ha.2,by simp⟩)
 obtain ⟨h2,h3⟩:=H5 h1;have h3:(nth n.devices (D0 n (nth n.devices a).vtep)).vtep=(nth n.devices a).vtep:=by simpa [D0] using h3
 exact Avp h ⟨h1,h2⟩ ha h3 (by rw[h3];exact h0)
def oP{n:Net}(hr:Ac n=true){d k:Int}(hd:InD n d)(hk:k∈(nth n.domains d).peers):InD n k/\(nth n.domains k).vni=(nth n.domains d).vni/\(nth n.domains d).vni≠0/\C3 n k≠0/\C3 n d≠0:=by
 have az:=(cV hr hd hk).1;rw[Ag hd.2]at hk;have h:=hr;simp only[Ac,zG]at h;have h1:=allB_iff.1 h.1.1.1.1.1.1.2 _ hd.2;obtain ⟨j,hj,e⟩:=yY.1 hk;have h2:=allB_iff.1 h1 j hj;rw[e]at h2;simp only[Sc,zG,xC,yJ,Md]at h2;rw[<-Ag hd.2]at h2;exact⟨az,h2.1.1.1.1.1.2,h2.1.1.1.1.2,h2.1.1.1.2,h2.1.1.2⟩
def Ats{n:Net}(h:BuiltK n){d k:Int}(hd:InD n d)(hk:k∈(nth n.domains d).peers){f:FrameM}(hf:FrameOK f)(ht:f.typ≠33024)(hl:f.body.length<=1450)(hg:E1 f.src=false):(meshT n d k f).2=0/\comeT n (meshT n d k f).1=(d,k,f,0):=by
 obtain ⟨cm,v1,v0,t1,t0⟩:=oP h.right hd hk;have dk:=(I3 h.right cm.2).1;have dd:=I3 h.right hd.2;rw[<-Ag cm.2]at dk;rw[<-Ag hd.2]at dd;have n1:0<=C3 n d/\C3 n d<4294967296:=h.num.vtep _ (L9 dd.1.2);have n2:0<=C3 n k/\C3 n k<4294967296:=h.num.vtep _ (L9 dk.2);have e1:(((C3 n d).toNat:Nat):Int)=C3 n d:=yR n1.1;have e2:(((C3 n k).toNat:Nat):Int)=C3 n k:=yR n2.1;obtain ⟨w1,w2⟩:=Ah4 (a:=(C3 n d).toNat) (b:=(C3 n k).toNat) (v:=(nth n.domains d).vni) z_ z_ hf ht hl z_;have hm:meshT n d k f=wrapT (C3 n d).toNat (C3 n k).toNat (nth n.domains d).vni f:=by
  rw[meshT,zD,zD]
  .rw[inB_iff.2 hk];decide
  .rintro (hh|hh|hh)
   .rw[Aej cm]at hh;cases hh
   .rw[Aej hd]at hh;cases hh
   .rw[h.right]at hh;cases hh
 rw[hm];refine⟨w1,?_⟩;have c1:Bs (λx:Device=>decide (x.vtep=(((C3 n k).toNat:Nat):Int))) n.devices=(nth n.domains k).dev:=by
  rw[e2];exact own_is h dk t1
 have c2:Bs (λx:Domain=>decide (x.dev=(nth n.domains k).dev)&&decide (x.vni=(nth n.domains d).vni)) n.domains=k:=by
  have h1:0<=Bs (λ x:Domain=>decide (x.dev=(nth n.domains k).dev) && decide (x.vni=(nth n.domains d).vni)) n.domains:=idxI_nonneg.2 (by
   rw[wJ];exact⟨nth n.domains k,L9 cm.2,by simp[v1]⟩)
  obtain ⟨h2,h3⟩:=H5 h1;simp only[zG,zJ]at h3;exact Avu h ⟨h1,h2⟩ cm h3.1 (by rw[h3.2,v1]) (by rw[h3.2];exact v0)
 have c3:0<=Bs (λj:Int=>decide (C3 n j=(((C3 n d).toNat:Nat):Int))) (nth n.domains k).peers/\nth (nth n.domains k).peers (Bs (λj:Int=>decide (C3 n j=(((C3 n d).toNat:Nat):Int))) (nth n.domains k).peers)=d:=by
  have hb:=(cV h.right hd hk).2;have h1:0<=Bs (λ j:Int=>decide (C3 n j=(((C3 n d).toNat:Nat):Int))) (nth n.domains k).peers:=idxI_nonneg.2 (by
   rw[wJ];exact⟨d,hb,by rw[e1];simp⟩)
  obtain ⟨h2,h3⟩:=H5 h1;generalize Bs (λj:Int=>decide (C3 n j=(((C3 n d).toNat:Nat):Int))) (nth n.domains k).peers=i at *;have hj:nth (nth n.domains k).peers i∈(nth n.domains k).peers:=L9 h2;generalize nth (nth n.domains k).peers i=j at *;obtain ⟨uf,u1,_,_,_⟩:=oP h.right cm hj;have h3:C3 n j=C3 n d:=by rw[e1]at h3;simpa using h3
  have dj:=(I3 h.right uf.2).1;rw[<-Ag uf.2]at dj;exact⟨h1,Avu h uf hd (Avp h dj dd.1 h3 (by show C3 n j≠0;rw[h3];exact t0)) (by rw[u1,v1]) (by rw[u1,v1];exact v0)⟩
 have zq:endsT n (C3 n d).toNat (C3 n k).toNat (nth n.domains d).vni=(d,k):=by
  rw[endsT];dsimp only;rw[c1,c2,zD (by have:=dk.1;have:=cm.1;omega),zD (by have:=c3.1;omega),c3.2]
 rw[comeT,zD (by rw[h.right];decide),w2];dsimp only;rw[zD qq,zq];dsimp only;rw[zD (by have:=hd.1;omega),hg,zD qq]
def Ak1{n:Net}(hr:Ac n=true){q:Int}(hq:0<=q/\q.toNat<n.ports.length){f:FrameM}(hf:FrameOK f)(ht:f.typ≠33024)(hg:E1 f.src=false)(hn:(nth n.ports q).native≠0):enterT n q (Mn f)=(Ce n (nth n.ports q).dev (nth n.ports q).native,f,0):=by
 have hp:Af q n.ports.length=true:=by rw[Af,zK hq.1,zK z_];rfl
 rw[enterT,zD (by rw[hp,hr];decide),Q3 hf];dsimp only;rw[zD qq,zD ht,Hw,hg,zD qq];have hv:vlanT (nth n.ports q) false 0=((nth n.ports q).native,true):=by rw[vlanT,zE (.inl rfl),zK hn]
 rw[hv,zD qq]
def Ag5{n:Net}(hr:Ac n=true){q v:Int}(hq:0<=q/\q.toNat<n.ports.length){f:FrameM}(hf:FrameOK f)(ht:f.typ≠33024)(hb:f.body.length<=1500)(hg:E1 f.src=false)(hv:1<=v/\v<=4094)(az:inB (nth n.ports q).tagged v=true):enterT n q (Mn (tagT f v).1)=(Ce n (nth n.ports q).dev v,f,0):=by
 have hp:Af q n.ports.length=true:=by rw[Af,zK hq.1,zK z_];rfl
 obtain ⟨s1,s2,s3⟩:=Adm (v:=v) hf ht hb ⟨by omega,hv.2⟩;rw[enterT,zD (by rw[hp,hr];decide),Q3 s1];dsimp only;rw[zD qq,zE s2,s3];dsimp only;rw[zD qq,Hw,hg,zD qq];have li:vlanT (nth n.ports q) true v=(v,true):=by rw[vlanT,zD (by rintro (hh|hh);cases hh;omega),zE az]
 rw[li,zD qq]
structure FarK(n:Net):Prop where
 vrf:∀x∈n.irbs,0<=x.vrf/\x.vrf.toNat<n.vrfs.length
 far:∀x∈n.irbs,∀y∈n.irbs,(nth n.vrfs x.vrf).dev≠(nth n.vrfs y.vrf).dev->Tl x.addr x.bits y.addr=false
def Aez:FarK emptyN:=⟨λx hx=>(by cases hx),λx hx=>(by cases hx)⟩
def A1g{n:Net}{l:LineM}(h:FarK n):FarK (putT n l).1:=by
 have same:∀{m:Net},m.irbs=n.irbs->m.vrfs=n.vrfs->FarK m:=λ{m} h1 h2=>⟨by rw[h1,h2];exact h.vrf,by rw[h1,h2];exact h.far⟩
 have e:=Aez;rw[putT];split
 .rw[putDevice]
  repeat' split
  all_goals (first|exact e|exact same rfl rfl)
 split
 .rw[putPort]
  repeat' split
  all_goals (first|exact e|exact same rfl rfl)
 split
 .rw[putLink];dsimp only
  repeat' split
  all_goals (first|exact e|exact same rfl rfl)
 split
 .rw[putStatic];dsimp only
  repeat' split
  all_goals (first|exact e|exact same rfl rfl)
 split
 .rw[putVtep];dsimp only
  repeat' split
  all_goals (first|exact e|exact same rfl rfl)
 split
 .rw[putVni];dsimp only
  repeat' split
  all_goals (first|exact e|exact same rfl rfl)
 split
 .rw[putFlood];dsimp only
  repeat' split
  all_goals (first|exact e|exact same rfl rfl)
 split
 .rw[putVrf];dsimp only;split
  .exact e
  split
  .exact e
  split
  .exact e
  have key:∀x∈n.irbs,nth (n.vrfs++[(⟨l.row,(begT n l 8).1,l.name,l.imports,l.exports⟩:Vrf)]) x.vrf=nth n.vrfs x.vrf:=λx hx=>Yr (h.vrf x hx).2
  refine⟨λx hx=>?_,λx hx y hy ag=>?_⟩
  .have:=h.vrf x hx;dsimp only;rw[zU];omega
  .dsimp only at hx hy ag|-;rw[key x hx,key y hy]at ag;exact h.far x hx y hy ag
 split
 .rw[putIrb];dsimp only;split
  .exact e
  split
  .exact e
  rename_i hv;split
  .exact e
  split
  .exact e
  rename_i hc;have hca:∀y∈n.irbs,clashB n (begT n l 9).1 l.addr l.bits y=false:=by
   have h1:n.irbs.any (clashB n (begT n l 9).1 l.addr l.bits)=false:=by
    cases hh:n.irbs.any (clashB n (begT n l 9).1 l.addr l.bits)
    .rfl
    .exact zX (.inr hh) hc
   simpa [wK] using h1
  have p1:=H5 (p:=λv:Vrf=>v.dev==(begT n l 9).1&&v.name==l.name) (l:=n.vrfs) (by show 0<=fS n (begT n l 9).1 l.name;omega);have a2:(nth n.vrfs (fS n (begT n l 9).1 l.name)).dev=(begT n l 9).1:=by
   have:=p1.2;simp only[zG,yJ]at this;exact this.1
  have a1:(fS n (begT n l 9).1 l.name).toNat<n.vrfs.length:=p1.1;have zr:∀y∈n.irbs,(nth n.vrfs y.vrf).dev≠(begT n l 9).1->Tl y.addr y.bits l.addr=false/\Tl l.addr l.bits y.addr=false:=λy hy ag=>by
   have:=hca y hy;simp only[clashB,wG,yW,bne_eq_false_iff_eq]at this;rcases this.2 with h2|h2
   .exact zX h2 ag
   .exact h2
  refine⟨λx hx=>?_,λx hx y hy ag=>?_⟩
  .rcases yI.1 hx with hx|hx
   .exact h.vrf x hx
   .rw[zZ.1 hx];exact⟨by dsimp only;omega,a1⟩
  .dsimp only at ag;rcases yI.1 hx with hx|hx
   .rcases yI.1 hy with hy|hy
    .exact h.far x hx y hy ag
    .rw[zZ.1 hy]at ag|-;dsimp only at ag|-;rw[a2]at ag;exact(zr x hx ag).1
   .rw[zZ.1 hx]at ag|-;dsimp only at ag|-;rcases yI.1 hy with hy|hy
    .rw[a2]at ag;exact(zr y hy (λhh=>ag hh.symm)).2
    .rw[zZ.1 hy]at ag;exact zX E ag
 exact e
def Aya{n:Net}(h:FarK n):FarK (By n):=⟨h.vrf,h.far⟩
def Afc:∀(l:List LineM) (n:Net),FarK n->(Bu n l).2.2=0->FarK (Bu n l).1
 |[],n,hn,h=>by
  rw[Bu,finishT]at h|-;split at h
  .rename_i h1;exact zX h h1
  rename_i h1;rw[zD h1];split at h
  .simp at h
  rename_i h2;rw[zD h2];obtain ⟨e1,_⟩:=O9 (n:=n) z_;dsimp only;rw[e1];exact Aya hn
 |x::l,n,hn,h=>by
  rw[Bu]at h|-;split at h
  .rename_i h1;exact zX h h1
  rename_i h1;rw[zD h1];exact Afc l _ (A1g hn) h
def Aae{n:Net}(hr:Ac n=true)(hu:C7 n)(hf:FarK n){irb dst:Int}(hd:0<=dst/\dst<4294967296)(h:(lookT n irb dst).2=true):Hp n dst=false:=by
 cases ht:Hp n dst with
 |false=>rfl
 |true=>
  obtain ⟨i,hi,ha⟩:=takenA_iff.1 ht;have hw:=(Lf h).1;obtain ⟨h1,h2,h3⟩:=mem_ways.1 hw;have cu:Mv n irb dst i=false:=by
   rw[lookT]at h;split at h
   .cases h
   .rename_i hc;cases hh:Mv n irb dst i
    .rfl
    .exact zX (wJ.2 ⟨i,xA.2 hi,hh⟩) hc
  generalize (lookT n irb dst).1=to at *;simp only[Adt,zG,yJ]at h3;have hni:nth n.irbs (i:Int)=n.irbs[i]:=Ag (l:=n.irbs) (i:=(i:Int)) hi;have hdv:Kx n i≠Kx n irb:=λhh=>by
   rw[Mv,hh,hni,ha]at cu;simp at cu
  have dv:∀(j:Nat) (hj:j<n.irbs.length),Kx n (j:Int)=(nth n.vrfs n.irbs[j].vrf).dev:=λj hj=>by
   have:=Azs hr hj;simp only[Aao,zG,yJ]at this;rw[Kx,Ag (l:=n.irbs) (i:=(j:Int)) hj];exact this.1.1.1.2
  have d7:((to.toNat:Nat):Int)=to:=yR h1.1;have d1:=dv to.toNat h1.2;rw[d7]at d1;have d2:=dv i hi;have hx:=hf.far n.irbs[to.toNat] (zI h1.2) n.irbs[i] (zI hi) (by rw[<-d1,<-d2,<-h3.1];exact λhh=>hdv hh.symm);rw[Ag h1.2,cU (Dg hr h1.2).2.2 (hu _ (zI h1.2)) hd]at h2;rw[ha]at hx;rw[hx]at h2;cases h2
def A1u{k:Type}[Inhabited k]{l:List k}{i:Nat}(h:i<l.length):nth l (i:Int)=l[i]:=Ag (i:=(i:Int)) h
structure WayS(n:Net)(p:Int)(l:List Hop)(st:Nat->Int×Int)(r:Nat):Prop where
 pos:1<=r/\r<=l.length
 dom:∀i,i<l.length->(nth l (i:Int)).domain=(st i).1
 kd:∀i,i<l.length->(st i).2=if i<r then 0 else 1
 start:Ab3 n p (st 0)/\nth l ((0:Nat):Int)=⟨0,0,(st 0).1,0⟩
 hop:∀i,i+1<l.length->i+1≠r->nth l ((i+1:Nat):Int)∈C4 n (st i).1
 lead:∀i,i+1<l.length->i+1=r->∃q∈routesT n (st i).1,nth l ((i+1:Nat):Int)=⟨3,0,q.domain,q.addr⟩
def Auh{n:Net}{d:Int}{h:Hop}(hh:h∈C4 n d):(h.kind=1/\h.port∈Bj n d/\linkDomT n h.port (nth n.domains d).vlan=(h.domain,true))\/(h.kind=2/\h.domain∈(nth n.domains d).peers):=by
 rw[C4]at hh;split at hh
 .rcases yI.1 hh with hh|hh
  .obtain ⟨p,hp,hl⟩:=wL.1 hh;rw[linkHop]at hl;split at hl
   .rename_i ar;cases hl;exact .inl ⟨E,hp,Prod.ext E ar⟩
   .cases hl
  .obtain ⟨k,hk,rfl⟩:=yS.1 hh;exact .inr ⟨E,hk⟩
 .cases hh
section
variable {n:Net} {p:Int} {l:List Hop} {st:Nat->Int×Int} {r:Nat}
theorem WayS.succ(W:WayS n p l st r){i:Nat}(h:i+1<l.length):A2x n (st i) (st (i+1)):=by
 have k0:=W.kd i z_;have k1:=W.kd (i+1) h;have d1:=W.dom (i+1) h;by_cases e:i+1=r
 .obtain ⟨q,hq,hh⟩:=W.lead i h e;rw[hh]at d1;rw[zE z_]at k0;rw[zD z_]at k1;exact .inr ⟨k0,q,hq,Prod.ext d1.symm k1⟩
 .refine .inl ⟨_,W.hop i h e,Prod.ext d1.symm ?_⟩;rw[k1];show _=(st i).2;rw[k0];by_cases c:i<r
  .rw[zE c,zE z_]
  .rw[zD c,zD z_]
theorem WayS.walk(W:WayS n p l st r):∀i,i<l.length->Walk n p i (st i)
 |0,_=>.start W.start.1
 |i+1,h=>.step (W.walk i z_) (W.succ h)
theorem WayS.on(W:WayS n p l st r){k j:Nat}(h:Walk n p k (st j)):∀e,j+e<l.length->Walk n p (k+e) (st (j+e))
 |0,_=>h
 |e+1,he=>.step (W.on h e z_) (W.succ z_)
def A0o(n:Net)(p:Int)(l:List Hop)(st:Nat->Int×Int):Prop:=∀k,Walk n p k (st (l.length-1))->l.length-1<=k
theorem WayS.near(W:WayS n p l st r)(S:A0o n p l st){k j:Nat}(hj:j<l.length)(h:Walk n p k (st j)):j<=k:=by
 have h1:=W.on h (l.length-1-j) z_;rw[show j+(l.length-1-j)=l.length-1 by omega]at h1;have:=S _ h1;omega
theorem WayS.ahead(W:WayS n p l st r)(S:A0o n p l st){i j:Nat}(hi:i<l.length)(hj:j<l.length)(hk:(st i).2=(st j).2){g:Hop}(hg:g∈C4 n (st i).1)(e:g.domain=(st j).1):j<=i+1:=by
 have w1:Walk n p (i+1) (g.domain,(st i).2):=.step (W.walk i hi) (.inl ⟨g,hg,rfl⟩);rw[e,hk]at w1;exact W.near S hj w1
theorem WayS.route(W:WayS n p l st r):Yo l=if r<l.length then (r:Int) else -1:=by
 have hk:∀i (hi:i<l.length),(decide ((l[i]).kind=3))=decide (i=r):=by
  intro i hi;rw[<-A1u hi,decide_eq_decide];cases i with
  |zero=>
   rw[W.start.2];have:=W.pos;constructor
   .intro h;cases h
   .intro h;omega
  |succ i=>
   by_cases e:i+1=r
   .obtain ⟨q,_,hh⟩:=W.lead i hi e;rw[hh];exact⟨λ_=>e,λ_=>rfl⟩
   .refine⟨λh=>?_,λh=>zX h e⟩;rcases Auh (W.hop i hi e) with h1|h1
    .rw[h1.1]at h;cases h
    .rw[h1.1]at h;cases h
 by_cases c:r<l.length
 .rw[zE c];exact Ct c (λi hi ab=>by rw[hk i hi];exact zL z_) (by rw[hk r c];exact zK E)
 .rw[zD c];exact Df λi hi=>by rw[hk i hi];exact zL z_
end
section
variable {n:Net} {up:List Bool}
end
def J6(m:MacM)(d X:Int)(l:List QueuedM):queueL (setQ m d l) X=if d.toNat=X.toNat/\X.toNat<m.queues.length then l else queueL m X:=by
 rw[queueL,setQ];dsimp only;rw[uL];split
 .rename_i h;rw[h];split
  .rename_i h2;rw[zE ⟨rfl,h2⟩];rfl
  .rename_i h2;rw[zD (λhh=>h2 hh.2),queueL,xV z_]
 .rename_i h;rw[zD (λhh=>h hh.1)];rfl
structure SameM(m m':MacM):Prop where
 up:m'.up=m.up
 tables:m'.tables=m.tables
 now:m'.now=m.now
 injected:m'.injected=m.injected
 len:m'.queues.length=m.queues.length
theorem SameM.refl(m:MacM):SameM m m:=⟨rfl,rfl,rfl,rfl,rfl⟩
theorem SameM.trans{a b c:MacM}(h:SameM a b)(g:SameM b c):SameM a c:=⟨g.up.trans h.up,g.tables.trans h.tables,g.now.trans h.now,g.injected.trans h.injected,g.len.trans h.len⟩
section
variable {n:Net} (B:BuiltK n)
include B
end
def Akj{a b:Int}(ha:0<=a)(hb:0<=b)(h:D7 a=D7 b):a=b:=by
 rw[D7,D7]at h;omega
def Aq6{a:Int}(h:0<=a/\a<4294967296):D7 a<281474976710656:=by
 rw[D7];omega
def Ao3{a:Int}(h:0<=a/\a<4294967296):E1 (D7 a)=false:=by
 rw[E1,D7];exact zL z_
section
variable {n:Net} {p:Int} {l:List Hop} {st:Nat->Int×Int} {r:Nat}
variable (W:WayS n p l st r) (B:BuiltK n) (hp:0<=p/\p.toNat<n.ports.length)
include W B hp
end
structure EntF(f:FrameM):Prop where
 ok:FrameOK f
 typ:f.typ≠33024
 src:E1 f.src=false
def A0q(f:FrameM):Prop:=∃p:PacketM,ipTakeT f.body=(p,0)/\p.dst<4294967296/\f.dst=D7 p.dst
def K9(n:Net)(p X:Int)(f:FrameM):Prop:=EntF f/\∃k,Walk n p k (X,0)\/(Walk n p k (X,1)/\A0q f)
def Akm{n:Net}{p X:Int}{f:FrameM}(h:K9 n p X f){g:Hop}(hg:g∈C4 n X):K9 n p g.domain f:=by
 obtain ⟨h1,k,h2⟩:=h;refine⟨h1,k+1,?_⟩;rcases h2 with h2|⟨h2,h3⟩
 .exact .inl (.step h2 (.inl ⟨g,hg,E⟩))
 .exact .inr ⟨.step h2 (.inl ⟨g,hg,E⟩),h3⟩
def Al9{P:Port}{tg:Bool}{eh:Int}(h:(vlanT P tg eh).2=true):(vlanT P tg eh).1∈P.native::P.tagged/\(vlanT P tg eh).1≠0:=by
 rw[vlanT]at h|-;split at h
 .rename_i hc;rw[zE hc];exact⟨List.mem_cons_self,zO h⟩
 .rename_i hc;rw[zD hc];split at h
  .rename_i hi;rw[zE hi];exact⟨List.mem_cons_of_mem _ (inB_iff.1 hi),λhh=>hc (.inr hh)⟩
  .cases h
def Aa7{n:Net}{p:Int}{f:FrameM}{tg:Bool}{eh:Int}(hf:FrameOK f)(ht:f.typ≠33024)(h:(Hw n p f tg eh).2.2=0):EntF (Hw n p f tg eh).2.1/\Ab3 n p ((Hw n p f tg eh).1,0):=by
 rw[Hw]at h|-;split at h
 .cases h
 rename_i hg;rw[zD hg];split at h
 .cases h
 rename_i hv;rw[zD hv];have hv:(vlanT (nth n.ports p) tg eh).2=true:=kS hv;obtain ⟨v1,v2⟩:=Al9 hv;exact⟨⟨hf,ht,kS hg⟩,_,v1,v2,E⟩
def Ame{f:FrameM}(hf:FrameOK f)(h:(stripT f).2.2.2=0):FrameOK (stripT f).1/\(stripT f).1.typ≠33024:=by
 rw[stripT]at h|-;split at h
 .cases h
 rename_i h1;rw[zD h1];split at h
 .cases h
 rename_i h2;rw[zD h2];split at h
 .cases h
 rename_i h3;rw[zD h3];have hb:=hf.body;have a3:=O5 2 ((f.body.drop 2).take 2) (by rw[zW,yP];omega);exact⟨⟨hf.dst,hf.src,by dsimp only;omega,by dsimp only;rw[yP];omega⟩,λhh=>h3 (.inr hh)⟩
def Aew{n:Net}{p:Int}{b:List UInt8}(h:(enterT n p b).2.2=0):EntF (enterT n p b).2.1/\Ab3 n p ((enterT n p b).1,0):=by
 rw[enterT]at h|-;split at h
 .cases h
 rename_i h1;rw[zD h1];split at h
 .rename_i h2;exact zX h h2
 rename_i h2;rw[zD h2];split at h
 .rename_i h3;rw[zE h3];split at h
  .rename_i h4;exact zX h h4
  rename_i h4;rw[zD h4];obtain ⟨s1,s2⟩:=Ame (Uw (Classical.byContradiction h2)) (Classical.byContradiction h4);exact Aa7 s1 s2 h
 .rename_i h3;rw[zD h3];exact Aa7 (Uw (Classical.byContradiction h2)) h3 h
def aJ{n:Net}(hr:Ac n=true){d p:Int}(hd:InD n d){f:FrameM}(hf:EntF f)(hl:(leaveT n p d f).2=0):p∈Bj n d/\((linkT n p (leaveT n p d f).1).2.2.2=0->linkDomT n p (nth n.domains d).vlan=((linkT n p (leaveT n p d f).1).2.1,true)/\(linkT n p (leaveT n p d f).1).2.2.1=f):=by
 rw[leaveT]at hl|-;split at hl
 .cases hl
 rename_i h1;rw[zD h1];split at hl
 .cases hl
 rename_i h2;rw[zD h2,zD hf.typ];rw[zD hf.typ]at hl;simp only[vW,Decidable.not_not,Bool.not_eq_false]at h1 h2;have hp:0<=p/\p.toNat<n.ports.length:=by
  have:=h1.1;simp only[Af,zG,zJ]at this;omega
 refine⟨(Lw hr hd).2 ⟨hp,h2.1,h2.2⟩,?_⟩;by_cases ho:0<=Bv n p;rotate_left
 .rw[linkT,zE z_];intro hh;cases hh
 have wa:=Eu ho;have hq:0<=Bv n p/\(Bv n p).toNat<n.ports.length:=⟨ho,wa.2.2⟩
 have bd:Af (Bv n p) n.ports.length=true:=by rw[Af,zK ho,zK z_];rfl
 have gl:=(I3 hr hd.2).2.1;rw[<-Ag hd.2]at gl;have fq:Dp n p (nth n.domains d).vlan≠0->linkDomT n p (nth n.domains d).vlan=(Ce n (nth n.ports (Bv n p)).dev (Dp n p (nth n.domains d).vlan),true):=λh=>by
  rw[linkDomT,show crossT n p (nth n.domains d).vlan=(Bv n p,Dp n p (nth n.domains d).vlan,true) from zE ⟨ho,h2.2,h⟩,zE rfl]
 rw[Dp]at fq;rw[linkT,zD z_];by_cases c:(nth n.domains d).vlan=(nth n.ports p).native
 .rw[zE c]at fq|-;by_cases hn:(nth n.ports (Bv n p)).native=0
  .rw[enterT,zD (by rw[bd,hr];decide),Q3 hf.ok];dsimp only;rw[zD qq,zD hf.typ,Hw,hf.src,zD qq];have hv:vlanT (nth n.ports (Bv n p)) false 0=((nth n.ports (Bv n p)).native,false):=by rw[vlanT,zE (.inl rfl),zL (λhh=>hh hn)]
   rw[hv,zE rfl];intro hh;cases hh
  .rw[Ak1 hr hq hf.ok hf.typ hf.src hn];exact λ_=>⟨fq hn,E⟩
 .rw[zD c]at fq hl|-;split at hl
  .rename_i h3;exact zX hl h3
  rename_i h3;rw[zD h3];have hb:f.body.length<=1500:=by
   rw[tagT,zD hf.typ]at h3;split at h3
   .exact zX (show (14:Int)≠0 by decide) h3
   .omega
  cases hi:inB (nth n.ports (Bv n p)).tagged (nth n.domains d).vlan with
  |false=>
   obtain ⟨s1,s2,s3⟩:=Adm (v:=(nth n.domains d).vlan) hf.ok hf.typ hb ⟨by omega,gl.2⟩;rw[enterT,zD (by rw[bd,hr];decide),Q3 s1];dsimp only;rw[zD qq,zE s2,s3];dsimp only;rw[zD qq,Hw,hf.src,zD qq];have hv:vlanT (nth n.ports (Bv n p)) true (nth n.domains d).vlan=(0,false):=by rw[vlanT,zD (by rintro (hh|hh);cases hh;omega),hi];rfl
   rw[hv,zE rfl];intro hh;cases hh
  |true=>
   rw[hi,zE rfl]at fq;rw[Ag5 hr hq hf.ok hf.typ hb hf.src gl hi];exact λ_=>⟨fq z_,E⟩
def At5{n:Net}(hr:Ac n=true){p d i:Int}(hd:InD n d){f:FrameM}(hc:K9 n p d f)(hl:(leaveT n i d f).2=0)(he:(linkT n i (leaveT n i d f).1).2.2.2=0):K9 n p (linkT n i (leaveT n i d f).1).2.1 (linkT n i (leaveT n i d f).1).2.2.1:=by
 obtain ⟨hm,h⟩:=aJ hr hd hc.1 hl;obtain ⟨h1,h2⟩:=h he;rw[h2];have hg:(⟨1,i,(linkT n i (leaveT n i d f).1).2.1,0⟩:Hop)∈C4 n d:=by
  rw[C4,zE ⟨⟨hd.1,by have:=hd.2;omega⟩,hr⟩,hopsL];refine tZ _ (wL.2 ⟨i,hm,?_⟩);rw[linkHop,h1,zE rfl]
 exact Akm hc hg
def Ajr{n:Net}(B:BuiltK n){d k:Int}(hd:InD n d){f:FrameM}(hf:EntF f)(h:(meshT n d k f).2=0):k∈(nth n.domains d).peers/\comeT n (meshT n d k f).1=(d,k,f,0):=by
 have h0:=h;rw[meshT]at h;split at h
 .cases h
 split at h
 .cases h
 rename_i h2;have hk:k∈(nth n.domains d).peers:=inB_iff.1 (kS h2);rw[wrapT]at h;split at h
 .cases h
 split at h
 .cases h
 split at h
 .cases h
 rename_i h5;exact⟨hk,(Ats B hd hk hf.ok hf.typ z_ hf.src).2⟩
def Att{n:Net}(B:BuiltK n){p d k:Int}(hd:InD n d){f:FrameM}(hc:K9 n p d f)(h:(meshT n d k f).2=0):K9 n p (comeT n (meshT n d k f).1).2.1 (comeT n (meshT n d k f).1).2.2.1:=by
 obtain ⟨h1,h2⟩:=Ajr B hd hc.1 h;rw[h2];have hg:(⟨2,0,k,0⟩:Hop)∈C4 n d:=by
  rw[C4,zE ⟨⟨hd.1,by have:=hd.2;omega⟩,B.right⟩,hopsL];exact uF _ (yS.2 ⟨k,h1,E⟩)
 exact Akm hc hg
def routed{n:Net}(B:BuiltK n)(hu:C7 n)(cj:FarK n){d:Int}(hd:InD n d){irb:Int}(he:(nth n.domains d).irb=irb)(hi:InIrbs n irb){dst:Int}(hx:0<=dst/\dst<4294967296)(h:(lookT n irb dst).2=true):∃q∈routesT n d,q.domain=(nth n.irbs (lookT n irb dst).1).domain:=by
 have hr:=B.right;have zs:=Aae hr hu cj hx h;obtain ⟨h1,h2,_⟩:=mem_ways.1 (Lf h).1;have zt:Og n irb (lookT n irb dst).1 dst=true:=leadsB_iff.2 ⟨h,rfl,zs⟩;generalize (lookT n irb dst).1=to at *;have me:nth n.irbs to=n.irbs[to.toNat]'h1.2:=Ag h1.2;have az:=(Vu _ _ _ (Dg hr h1.2).2.2 (hu _ (zI h1.2)) hx).1 (by rw[<-me];exact h2);rw[<-me]at az;have zc:=Alz hu hr (irb:=irb) h1 _ (show D9 (nth n.irbs to).addr (nth n.irbs to).bits∈Abn n to by rw[Abn,Az2];simp) (xN _) (λa h1 h2=>by omega);have ha:(addrT n irb to).2=true:=by
  rw[addrT,zE ⟨⟨hi.1,by have:=hi.2;omega⟩,⟨h1.1,by have:=h1.2;omega⟩,hr⟩];rcases zc with hs|hs
  .exact hs.1
  .have:=hs.2 dst az.1 az.2;rw[zt]at this;cases this
 refine⟨⟨to,(nth n.irbs to).domain,(addrT n irb to).1⟩,?_,E⟩;rw[routesT,he,zE ⟨⟨hd.1,by have:=hd.2;omega⟩,hi.1,hr⟩,Tw];have e:((to.toNat:Nat):Int)=to:=yR h1.1;refine wL.2 ⟨to.toNat,xA.2 h1.2,?_⟩;rw[leadF,e,zE ha]
def Akn{n:Net}(B:BuiltK n)(hu:C7 n)(cj:FarK n){p d:Int}(hd:InD n d){f:FrameM}(hc:K9 n p d f)(em:(routerT n d f.dst).2=true)(h:(hopT n (routerT n d f.dst).1 f).2.2=0):K9 n p (hopT n (routerT n d f.dst).1 f).1 (hopT n (routerT n d f.dst).1 f).2.1:=by
 have hr:=B.right;have ug:(routerT n d f.dst).1=(nth n.domains d).irb/\0<=(nth n.domains d).irb/\D7 (nth n.irbs (nth n.domains d).irb).addr=f.dst:=by
  rw[routerT]at em|-;split at em
  .cases em
  rename_i h1;rw[zD h1];split at em
  .cases em
  rename_i h2;rw[zD h2];simp only[vW,Decidable.not_not]at h2;exact⟨E,by omega,h2.2⟩
 obtain ⟨e,h0,hm⟩:=ug;rw[e]at h |-;have hi:InIrbs n (nth n.domains d).irb:=⟨h0,by
  have h2:=(I3 hr hd.2).2.2;rw[<- Ag hd.2]at h2;omega⟩
 have rh:=hu _ (L9 hi.2);rw[hopT]at h|-;split at h
 .cases h
 rename_i h1;rw[zD h1];split at h
 .cases h
 rename_i h2;rw[zD h2];split at h
 .rename_i h3;exact zX h h3
 rename_i h3;rw[zD h3];split at h
 .cases h
 rename_i h4;rw[zD h4];split at h
 .cases h
 rename_i h5;rw[zD h5];split at h
 .cases h
 rename_i h6;rw[zD h6];have h3:(ipTakeT f.body).2=0:=Classical.byContradiction h3;have h5:(lookT n (nth n.domains d).irb (ipTakeT f.body).1.dst).2=true:=kS h5;obtain ⟨hp,bd⟩:=Yx h3;have nq:=hp.dst;have hx:0<=(((ipTakeT f.body).1.dst:Nat):Int)/\(((ipTakeT f.body).1.dst:Nat):Int)<4294967296:=⟨vI _,by omega⟩
 have d7:=(mem_ways.1 (Lf h5).1).1;obtain ⟨q,hq,r9⟩:=routed B hu cj hd rfl hi hx h5;have py:=hu _ (L9 d7.2);obtain ⟨_,k,hw⟩:=hc;have hw:Walk n p k (d,0)\/(Walk n p k (d,1)/\f.dst=D7 (ipTakeT f.body).1.dst):=by
  rcases hw with hw|⟨hw,pk2,g1,_,g3⟩
  .exact .inl hw
  .exact .inr ⟨hw,by rw[g1];exact g3⟩
 generalize ipTakeT f.body=pk at *;obtain ⟨pk,pe⟩:=pk;dsimp only at *;refine⟨⟨⟨Aq6 hx,Aq6 py,by dsimp only;decide,?_⟩,by dsimp only;decide,Ao3 py⟩,?_⟩
 .dsimp only;rw[Kd];show 20+pk.body.length<=1504;omega
 rw[<-r9];refine⟨k+1,.inr ⟨?_,Akq pk,Aq3 (Aq7 hp) (by show pk.body.length<=1480;omega),nq,E⟩⟩;rcases hw with hw|⟨hw,g3⟩
 .exact .step hw (.inr ⟨E,q,hq,E⟩)
 .exfalso;rw[g3]at hm;have ea:=Akj rh.1 hx.1 hm;have ht:=Aae hr hu cj hx h5;have:Hp n ((pk.dst:Nat):Int)=true:=takenA_iff.2 ⟨_,hi.2,by rw[<-Ag hi.2];exact ea⟩;rw[this]at ht;cases ht
end Go.Sy.Zaa
