/- Parts of a proof. -/
import Derived.Test.YtodbnbfjhjcanaaGreatDoorXB34
import Derived.Test.YtodbnbfjhjcanaaGreatDoorXB23
set_option linter.all false
namespace Go.Sy.Zaa
open Go.Proofs Go.Proofs.Tryz
def eK:∀(l:List UInt8) (a:Nat),l.foldl (λn c=>n*256+c.toNat) a=a*256^l.length+Ia l
 |[],a=>by simp[Ia]
 |c::l,a=>by
  have e:Ia (c::l)=l.foldl (λn c=>n*256+c.toNat) (0*256+c.toNat):=rfl;rw[vP,eK l,e,eK l,yM,tV,xK,Nat.zero_mul,wF,Nat.mul_assoc,vK 256,uG]
def Aus(c:UInt8)(l:List UInt8):Ia (c::l)=c.toNat*256^l.length+Ia l:=by
 rw[Ia,vP,eK];simp
def Ahq(m:Nat):∀k,Ia (be k m)=m%256^k
 |0=>by simp[be,Ia,Nat.mod_one]
 |k+1=>by
  rw[be,Aus,Dm,Ahq m k,E6,tV,Nat.mod_mul,vK (m/256^k%256)];omega
def Am4(d s t:Nat)(b:List UInt8):(frame d s t b).take 6=be 6 d/\((frame d s t b).drop 6).take 6=be 6 s/\((frame d s t b).drop 12).take 2=[UInt8.ofNat (t/256),UInt8.ofNat t]/\(frame d s t b).drop 14=b:=by
 have e:frame d s t b=be 6 d++(be 6 s++([UInt8.ofNat (t/256),UInt8.ofNat t]++b)):=by simp[frame,xF]
 have e6:(frame d s t b).drop 6=be 6 s++([UInt8.ofNat (t/256),UInt8.ofNat t]++b):=by rw[e];exact List.drop_left' (Dm d 6)
 have e12:(frame d s t b).drop 12=[UInt8.ofNat (t/256),UInt8.ofNat t]++b:=by
  rw[show (12:Nat)=6+6 from rfl,<-List.drop_drop,e6];exact List.drop_left' (Dm s 6)
 refine⟨by rw[e];exact List.take_left' (Dm d 6),by rw[e6];exact List.take_left' (Dm s 6),by rw[e12];rfl,?_⟩;rw[show (14:Nat)=12+2 from rfl,<-List.drop_drop,e12];rfl
def eL{t:Nat}(h:t<=65535):Ia [UInt8.ofNat (t/256),UInt8.ofNat t]=t:=by
 rw[Afi,E6,E6];omega
def Js{f:FrameM}(h:FrameOK f):takeF (Mb f)=(f,0):=by
 obtain ⟨e1,e2,e3,e4⟩:=Am4 f.dst f.src f.typ f.body;have hl:=D9 f;have hb:=h.body;have h1:=h.dst;have h2:=h.src;rw[takeF,zD q_,zD q_];simp only[Mb]at *;rw[e1,e2,e3,e4,Ahq,Ahq,eL h.typ,xJ (kS h1),xJ (kS h2)]
def Aaz{f:FrameM}{v:Int}(h:f.typ≠33024)(hb:f.body.length<=1500):(tagT f v).2=0/\(tagT f v).1=⟨f.dst,f.src,33024,[UInt8.ofNat (v.toNat/256),UInt8.ofNat v.toNat,UInt8.ofNat (f.typ/256),UInt8.ofNat f.typ]++f.body⟩:=by
 rw[tagT,zD h,zD q_];exact⟨E,E⟩
def eQ{f:FrameM}{v:Int}(hf:FrameOK f)(h:f.typ≠33024)(hb:f.body.length<=1500)(hv:0<=v/\v<=4094):FrameOK (tagT f v).1/\(tagT f v).1.typ=33024/\stripT (tagT f v).1=(f,v,0,0):=by
 obtain ⟨_,e⟩:=Aaz (v:=v) h hb;have ht:=hf.typ;have e1:Ia [UInt8.ofNat (v.toNat/256),UInt8.ofNat v.toNat]=v.toNat:=eL q_;have e2:Ia [UInt8.ofNat (f.typ/256),UInt8.ofNat f.typ]=f.typ:=eL ht;rw[e];refine⟨⟨hf.dst,hf.src,by show 33024<=65535;decide,by simp;omega⟩,E,?_⟩;rw[stripT,zD y_,zD y_];have a1:([UInt8.ofNat (v.toNat/256),UInt8.ofNat v.toNat,UInt8.ofNat (f.typ/256),UInt8.ofNat f.typ]++f.body).take 2=[UInt8.ofNat (v.toNat/256),UInt8.ofNat v.toNat]:=rfl;have a2:(([UInt8.ofNat (v.toNat/256),UInt8.ofNat v.toNat,UInt8.ofNat (f.typ/256),UInt8.ofNat f.typ]++f.body).drop 2).take 2=[UInt8.ofNat (f.typ/256),UInt8.ofNat f.typ]:=rfl;have a3:([UInt8.ofNat (v.toNat/256),UInt8.ofNat v.toNat,UInt8.ofNat (f.typ/256),UInt8.ofNat f.typ]++f.body).drop 4=f.body:=rfl;rw[a1,a2,a3,e1,e2,zD q_,show ((v.toNat%4096:Nat):Int)=v by omega,show ((v.toNat/4096:Nat):Int)=0 by omega]
def Dj:∀(l:List Nat) (r:List UInt8) (i:Nat) (h:i<l.length),numAt (Dp l++r) (2*i) 2=l[i]%65536
 |a::l,r,0,_=>by
  show Ia [UInt8.ofNat (a/256),UInt8.ofNat a]=a%65536;rw[Afi,E6,E6];omega
 |a::l,r,i+1,h=>Dj l r i (kS h)
def Ayw{s d:Nat}{b:List UInt8}(hs:s<=65535)(hd:d<=65535)(hb:b.length<=60000):udpTakeT (oP s d b)=((s:Int),(d:Int),b,0):=by
 have hl:=Vm s d b;have n0:=Dj [s,d,8+b.length,0] b 0 (by show 0<4;decide);have n2:=Dj [s,d,8+b.length,0] b 1 (by show 1<4;decide);have n4:=Dj [s,d,8+b.length,0] b 2 (by show 2<4;decide);have n6:=Dj [s,d,8+b.length,0] b 3 (by show 3<4;decide);change numAt (oP s d b) 0 2=s%65536 at n0;change numAt (oP s d b) 2 2=d%65536 at n2;change numAt (oP s d b) 4 2=(8+b.length)%65536 at n4;change numAt (oP s d b) 6 2=0%65536 at n6;rw[udpTakeT,zD q_,zD q_,zD q_,zD q_,n0,n2,n4,xJ q_,xJ q_,xJ q_,xI q_];rfl
def Aix{p:PacketM}(hp:PacketOK p)(hb:p.body.length<=1480):ipTakeT (Ig p)=(p,0):=by
 have hl:=Hy p;have hs:I6 p<=65535:=by rw[I6,Afm];omega
 have hw:=lP hp hb (I6 p) hs;have lu:=lP hp hb 0 j_;have n0:=Dj [17664+p.tos,20+p.body.length,p.id,0,p.ttl*256+p.proto,I6 p,p.src/65536,p.src,p.dst/65536,p.dst] p.body 0 (by show 0<10;decide);have n2:=Dj [17664+p.tos,20+p.body.length,p.id,0,p.ttl*256+p.proto,I6 p,p.src/65536,p.src,p.dst/65536,p.dst] p.body 1 (by show 1<10;decide);have n4:=Dj [17664+p.tos,20+p.body.length,p.id,0,p.ttl*256+p.proto,I6 p,p.src/65536,p.src,p.dst/65536,p.dst] p.body 2 (by show 2<10;decide);have n6:=Dj [17664+p.tos,20+p.body.length,p.id,0,p.ttl*256+p.proto,I6 p,p.src/65536,p.src,p.dst/65536,p.dst] p.body 3 (by show 3<10;decide);have n12:=Dj [17664+p.tos,20+p.body.length,p.id,0,p.ttl*256+p.proto,I6 p,p.src/65536,p.src,p.dst/65536,p.dst] p.body 6 (by show 6<10;decide);have n14:=Dj [17664+p.tos,20+p.body.length,p.id,0,p.ttl*256+p.proto,I6 p,p.src/65536,p.src,p.dst/65536,p.dst] p.body 7 (by show 7<10;decide);have n16:=Dj [17664+p.tos,20+p.body.length,p.id,0,p.ttl*256+p.proto,I6 p,p.src/65536,p.src,p.dst/65536,p.dst] p.body 8 (by show 8<10;decide);have n18:=Dj [17664+p.tos,20+p.body.length,p.id,0,p.ttl*256+p.proto,I6 p,p.src/65536,p.src,p.dst/65536,p.dst] p.body 9 (by show 9<10;decide);change numAt (Ig p) 2 2=(20+p.body.length)%65536 at n2;change numAt (Ig p) 4 2=p.id%65536 at n4;change numAt (Ig p) 6 2=0%65536 at n6;change numAt (Ig p) 12 2=p.src/65536%65536 at n12;change numAt (Ig p) 14 2=p.src%65536 at n14;change numAt (Ig p) 16 2=p.dst/65536%65536 at n16;change numAt (Ig p) 18 2=p.dst%65536 at n18;have h1:=hp.tos;have h2:=hp.id;have h3:=hp.ttl;have h4:=hp.proto;have h5:=hp.src;have h6:=hp.dst;have b0:bAt (Ig p) 0=UInt8.ofNat ((17664+p.tos)/256):=rfl;have b1:bAt (Ig p) 1=UInt8.ofNat (17664+p.tos):=rfl;have b8:bAt (Ig p) 8=UInt8.ofNat ((p.ttl*256+p.proto)/256):=rfl;have b9:bAt (Ig p) 9=UInt8.ofNat (p.ttl*256+p.proto):=rfl;have c0:bAt (Ig p) 0=69:=by rw[b0,show (17664+p.tos)/256=69 by omega];rfl
 have ht:(Ig p).take 20=Ht p (I6 p):=by rw[Ig];exact List.take_left' (J0 _ _)
 have hd:(Ig p).drop 20=p.body:=by rw[Ig];exact List.drop_left' (J0 _ _)
 have my:Ih (Qs ((Ig p).take 20) 10)=65535:=by
  have e0:I6 p=65535-Ih (Qs (Ht p 0) 10):=by rw[I6,Afm,J0]
  have hle:=Am6 (Qs (Ht p 0) 10);have w1:Qs (Ht p (I6 p)) 10=Qs (Ht p 0) 10+I6 p:=by
   rw[Ht,Ht,Zk _ 10 (by show 10<=10;decide) hw,Zk _ 10 (by show 10<=10;decide) lu];simp only[List.take_succ_cons,List.take_zero,xV,uA,List.sum_cons,List.sum_nil];rw[xJ (show I6 p<65536 by omega)];omega
  rw[ht,w1,Axm _ _ hs];split<;>omega
 rw[ipTakeT,zD q_,zD (by rw[c0,n2];intro hh;rcases hh with hh|hh;exact hh rfl;omega),zD q_,zD q_,zD q_];rw[b1,b8,b9,E6,E6,E6,n4,n2,Aqr q_,Aqr q_,n12,n14,n16,n18,xJ (show 20+p.body.length<65536 by omega),xI q_,hd];obtain ⟨tos,id,ttl,proto,src,dst,body⟩:=p;dsimp only at *;simp only[Prod.mk.injEq,PacketM.mk.injEq,and_true];refine⟨?_,?_,?_,?_,?_,?_⟩<;>omega
def Ayr{v:Nat}{b:List UInt8}(h:1<=v/\v<=16777215):vniT (Lf v++b)=((v:Int),b,0):=by
 have e3:numAt (Lf v++b) 4 3=v:=by
  show Ia [UInt8.ofNat (v/65536),UInt8.ofNat (v/256),UInt8.ofNat v]=v;simp[Ia];omega
 have ht:(Lf v++b).take 8=Lf v:=rfl;rw[vniT,zD (by simp[H7]),e3,ht,zD (by intro h2;rcases h2 with h2|h2;omega;exact h2 rfl)];rfl
def Aka{a b:Nat}{v:Int}{f:FrameM}(ha:a<4294967296)(hb:b<4294967296)(hf:FrameOK f)(ht:f.typ≠33024)(hl:f.body.length<=1450)(hv:1<=v/\v<=16777215):(wrapT a b v f).2=0/\Cn (wrapT a b v f).1=(a,b,v,f,0):=by
 have hvb:Vj v=false:=by rw[Vj,zK q_,zK q_];rfl
 have ox:(oP (udpPort f.dst f.src) 4789 (Lf v.toNat++Mb f)).length=8+(8+(14+f.body.length)):=by rw[Vm,zQ,H7,D9]
 have l6:PacketOK (Lq a b v.toNat f):=⟨xN _,xN _,by show 64<=255;decide,by show 17<=255;decide,ha,hb⟩
 have hbo:(Lq a b v.toNat f).body.length<=1480:=by show (oP _ _ _).length<=1480;rw[ox];omega
 have mj:=Hy (Lq a b v.toNat f);have q9:FrameOK ⟨hostN b,hostN a,2048,Ig (Lq a b v.toNat f)⟩:=⟨Wo b hb,Wo a ha,by show 2048<=65535;decide,by dsimp only;omega⟩
 rw[wrapT,zD ht,zD (by rw[hvb];exact Bool.noConfusion),zD q_];refine⟨E,?_⟩;have lh:outerT (frame (hostN b) (hostN a) 2048 (Ig (Lq a b v.toNat f)))=(Lq a b v.toNat f,0):=by
  have h1:=Js q9;rw[Mb]at h1;dsimp only at h1;rw[outerT,h1];dsimp only;rw[zD (λhh=>hh rfl),zD (λhh=>hh rfl),Aix l6 hbo,zD (λhh=>hh rfl)];rfl
 have hport:udpPort f.dst f.src<=65535:=by rw[udpPort];omega
 have a6:Mx (Lq a b v.toNat f).body=(v,f,0):=by
  have h1:udpTakeT (Lq a b v.toNat f).body=(((udpPort f.dst f.src:Nat):Int),((4789:Nat):Int),Lf v.toNat++Mb f,0):=Ayw hport j_ (by rw[zQ,H7,D9];omega);have h2:vniT (Lf v.toNat++Mb f)=((v.toNat:Int),Mb f,0):=Ayr q_;rw[Mx,h1];dsimp only;rw[zD (λhh=>hh rfl),zD (λhh=>hh rfl),h2];dsimp only;rw[zD (λhh=>hh rfl),Js hf];dsimp only;rw[zD (λhh=>hh rfl),zD ht,show ((v.toNat:Nat):Int)=v by omega]
 rw[Cn,lh];dsimp only;rw[zD (λhh=>hh rfl),a6];dsimp only;rw[zD (λhh=>hh rfl)];rfl
def A5t(n:Net)(x y:Int×Int):Prop:=(∃h∈Dg n x.1,y=(h.domain,x.2))\/(x.2=0/\∃q∈routesT n x.1,y=(q.domain,1))
def Aec(n:Net)(p:Int)(x:Int×Int):Prop:=∃v∈(nth n.ports p).native::(nth n.ports p).tagged,v≠0/\x=(B5 n (nth n.ports p).dev v,0)
inductive Walk(n:Net)(p:Int):Nat->Int×Int->Prop
 |start {x:Int×Int}:Aec n p x->Walk n p 0 x
 |step {k:Nat} {x y:Int×Int}:Walk n p k x->A5t n x y->Walk n p (k+1) y
inductive HWay(n:Net)(p:Int):List Hop->Int×Int->Prop
 |start {d:Int}:Aec n p (d,0)->HWay n p [⟨0,0,d,0⟩] (d,0)
 |hop {l:List Hop} {x:Int×Int} {h:Hop}:HWay n p l x->h∈Dg n x.1->HWay n p (l++[h]) (h.domain,x.2)
 |lead {l:List Hop} {x:Int×Int} {q:Lead}:HWay n p l x->x.2=0->q∈routesT n x.1->HWay n p (l++[⟨3,0,q.domain,q.addr⟩]) (q.domain,1)
theorem HWay.walk{n:Net}{p:Int}{l:List Hop}{x:Int×Int}(h:HWay n p l x):∃k,l.length=k+1/\Walk n p k x:=by
 induction h with
 |start hs=>exact⟨0,rfl,.start hs⟩
 |hop _ hh ih=>
  obtain ⟨k,h1,h2⟩:=ih;exact⟨k+1,by rw[zQ,h1];rfl,.step h2 (.inl ⟨_,hh,E⟩)⟩
 |lead _ h0 hq ih=>
  obtain ⟨k,h1,h2⟩:=ih;exact⟨k+1,by rw[zQ,h1];rfl,.step h2 (.inr ⟨h0,_,hq,E⟩)⟩
def lnC(l:List Fnd)(i:Int):Nat:=(backC l i).length
def Al6(l:List Fnd):lnC l (-1)=0:=by
 rw[lnC,backC,dif_neg (λh=>by omega)];rfl
def Uk{l m:List Fnd}(hB:Backs l){i:Int}(h:i<l.length):lnC (l++m) i=lnC l i:=by
 rw[lnC,U2 hB (i+1).toNat i q_ h,lnC]
def A1l{l:List Fnd}(hB:Backs l){f:Fnd}(hf:-1<=f.ahead/\f.ahead<l.length):lnC (l++[f]) (l.length:Int)=lnC l f.ahead+1:=by
 have:=zH List.length (Ad1 hB hf);rw[zQ,zW]at this;simpa [backT,lnC] using this
def Al7(l:List Fnd)(i:Int):lnC l i=(backT l i).length:=by simp[lnC,backT]
def Wf{l m:List Fnd}{b:Nat}(h:b<l.length):nth (l++m) (b:Int)=nth l (b:Int):=Ug (kS h)
def Ab5(l:List Fnd)(f:Fnd):nth (l++[f]) (l.length:Int)=f:=by
 rw[Ae (l:=l++[f]) (i:=(l.length:Int)) y_];simp
structure BI(n:Net)(p:Int)(S:Srch)(a:Int):Prop where
 met:Met n S
 mono:∀b c:Nat,b<=c->c<S.list.length->lnC S.list b<=lnC S.list c
 bnd:∀b:Nat,b<S.list.length->lnC S.list b<=lnC S.list a+1
 walk:∀b:Nat,b<S.list.length->HWay n p (backT S.list b) ((nth S.list b).domain,(nth S.list b).kind)
def HasB(l:List Fnd)(x:Int×Int)(m:Nat):Prop:=∃b:Nat,b<l.length/\(nth l (b:Int)).domain=x.1/\(nth l (b:Int)).kind=x.2/\lnC l (b:Int)<=m
theorem HasB.app{l e:List Fnd}(hB:Backs l){x:Int×Int}{m:Nat}:HasB l x m->HasB (l++e) x m:=λ⟨b,h1,h2,h3,h4⟩=>
 ⟨b,by rw[zQ];omega,by rw[Wf h1];exact h2,by rw[Wf h1];exact h3,by rw[Uk hB q_];exact h4⟩
theorem BI.meet{n:Net}{p:Int}{S:Srch}{a:Int}(h:BI n p S a)(ha:-1<=a/\a<S.list.length){d k:Int}(hd:0<=d/\d.toNat<n.domains.length)(hk:k=0\/k=1){hp:Hop}(hh:hp.domain=d)(hw:HWay n p (backT S.list a++[hp]) (d,k)):BI n p (meetT S d k hp a) a/\HasB (meetT S d k hp a).list (d,k) (lnC S.list a+1)/\∃e,(meetT S d k hp a).list=S.list++e:=by
 have hm:=h.met.meet hd hk hh ha;have hB:=h.met.bk;cases hb:Ui S d k with
 |true=>
  have e:meetT S d k hp a=S:=by rw[meetT,zE hb]
  rw[e];refine⟨h,?_,[],by simp⟩;obtain ⟨f,hf,f1,f2⟩:=(h.met.m d hd k hk).1 hb;obtain ⟨b,mj,rfl⟩:=wN hf;have e2:nth S.list (b:Int)=S.list[b]:=Ae (l:=S.list) (i:=((b:Nat):Int)) mj;exact⟨b,mj,by rw[e2];exact f1,by rw[e2];exact f2,h.bnd b mj⟩
 |false=>
  have e:(meetT S d k hp a).list=S.list++[⟨d,k,hp,a⟩]:=by rw[meetT,zD (by rw[hb];decide),Z1]
  have gu:=A1l hB (f:=⟨d,k,hp,a⟩) ha;have d5:lnC (S.list++[⟨d,k,hp,a⟩]) a=lnC S.list a:=Uk hB ha.2;have hlen:(S.list++[(⟨d,k,hp,a⟩:Fnd)]).length=S.list.length+1:=by simp
  dsimp only at gu;have dg:∀b:Nat,b<(S.list++[(⟨d,k,hp,a⟩:Fnd)]).length->(b<S.list.length/\lnC (S.list++[⟨d,k,hp,a⟩]) (b:Int)=lnC S.list (b:Int))\/(b=S.list.length/\lnC (S.list++[⟨d,k,hp,a⟩]) (b:Int)=lnC S.list a+1):=λb hb=>by
   by_cases hl:b<S.list.length
   .exact .inl ⟨hl,Uk hB q_⟩
   .have:b=S.list.length:=by omega
    subst this;exact .inr ⟨E,gu⟩
  refine⟨⟨hm,?_,?_,?_⟩,?_,[⟨d,k,hp,a⟩],e⟩
  .rw[e];intro b c hbc hc;rcases dg c hc with ⟨c1,c2⟩|⟨c1,c2⟩<;>rcases dg b q_ with ⟨b1,b2⟩|⟨b1,b2⟩
   .rw[c2,b2];exact h.mono b c hbc c1
   .omega
   .rw[c2,b2];exact h.bnd b b1
   .rw[c2,b2];exact yE _
  .rw[e];intro b hb;rw[d5];rcases dg b hb with ⟨b1,b2⟩|⟨b1,b2⟩
   .rw[b2];exact h.bnd b b1
   .rw[b2];exact yE _
  .rw[e];intro b hb;rcases dg b hb with ⟨b1,_⟩|⟨b1,_⟩
   .rw[Oi hB q_,Wf b1];exact h.walk b b1
   .subst b1;rw[Ad1 hB (f:=⟨d,k,hp,a⟩) ha,Ab5];exact hw
  .rw[e];exact⟨S.list.length,by omega,by rw[Ab5],by rw[Ab5],by rw[gu];exact yE _⟩
theorem BI.ext1{n:Net}{p:Int}{a k:Int}(hk:k=0\/k=1):∀{l:List Hop} {S:Srch},BI n p S a->(-1<=a/\a<S.list.length)->(∀h∈l,(0<=h.domain/\h.domain.toNat<n.domains.length)/\HWay n p (backT S.list a++[h]) (h.domain,k)) ->
  BI n p (Go.Sy.Zaa.ext1 S k a l) a/\(∀h∈l,HasB (Go.Sy.Zaa.ext1 S k a l).list (h.domain,k) (lnC S.list a+1))/\∃e,(Go.Sy.Zaa.ext1 S k a l).list=S.list++e
 |[],S,h,_,_=>⟨h,λ_ hx=>(by cases hx),[],by simp[Go.Sy.Zaa.ext1]⟩
 |x::l,S,h,ha,hl=>by
  obtain ⟨x1,x2⟩:=hl x y_;obtain ⟨m1,m2,e,m3⟩:=h.meet ha x1 hk (hp:=x) rfl x2;have d5:lnC (meetT S x.domain k x a).list a=lnC S.list a:=by rw[m3];exact Uk h.met.bk ha.2
  have hba:backT (meetT S x.domain k x a).list a=backT S.list a:=by rw[m3];exact Oi h.met.bk ha.2
  obtain ⟨i1,i2,e2,i3⟩:=BI.ext1 hk (l:=l) m1 ⟨ha.1,by rw[m3,zQ];omega⟩ (λy hy=>by rw[hba];exact hl y (by simp[hy]));refine⟨i1,λy hy=>?_,e++e2,?_⟩
  .rcases yI.1 hy with rfl|hy
   .show HasB (Go.Sy.Zaa.ext1 (meetT S y.domain k y a) k a l).list _ _;rw[i3];exact m2.app m1.met.bk
   .have:=i2 y hy;rw[d5]at this;exact this
  .show (Go.Sy.Zaa.ext1 (meetT S x.domain k x a) k a l).list=_;rw[i3,m3,xF]
theorem BI.ext2{n:Net}{p:Int}{a:Int}:∀{l:List Lead} {S:Srch},BI n p S a->(-1<=a/\a<S.list.length)->(∀h∈l,(0<=h.domain/\h.domain.toNat<n.domains.length)/\HWay n p (backT S.list a++[⟨3,0,h.domain,h.addr⟩]) (h.domain,1)) ->
  BI n p (Go.Sy.Zaa.ext2 S a l) a/\(∀h∈l,HasB (Go.Sy.Zaa.ext2 S a l).list (h.domain,1) (lnC S.list a+1))/\∃e,(Go.Sy.Zaa.ext2 S a l).list=S.list++e
 |[],S,h,_,_=>⟨h,λ_ hx=>(by cases hx),[],by simp[Go.Sy.Zaa.ext2]⟩
 |x::l,S,h,ha,hl=>by
  obtain ⟨x1,x2⟩:=hl x y_;obtain ⟨m1,m2,e,m3⟩:=h.meet ha x1 (.inr rfl) (hp:=⟨3,0,x.domain,x.addr⟩) rfl x2;have d5:lnC (meetT S x.domain 1 ⟨3,0,x.domain,x.addr⟩ a).list a=lnC S.list a:=by rw[m3];exact Uk h.met.bk ha.2
  have hba:backT (meetT S x.domain 1 ⟨3,0,x.domain,x.addr⟩ a).list a=backT S.list a:=by rw[m3];exact Oi h.met.bk ha.2
  obtain ⟨i1,i2,e2,i3⟩:=BI.ext2 (l:=l) m1 ⟨ha.1,by rw[m3,zQ];omega⟩ (λy hy=>by rw[hba];exact hl y (by simp[hy]));refine⟨i1,λy hy=>?_,e++e2,?_⟩
  .rcases yI.1 hy with rfl|hy
   .show HasB (Go.Sy.Zaa.ext2 (meetT S y.domain 1 ⟨3,0,y.domain,y.addr⟩ a) a l).list _ _;rw[i3];exact m2.app m1.met.bk
   .have:=i2 y hy;rw[d5]at this;exact this
  .show (Go.Sy.Zaa.ext2 (meetT S x.domain 1 ⟨3,0,x.domain,x.addr⟩ a) a l).list=_;rw[i3,m3,xF]
theorem BI.ext{n:Net}{p:Int}{S:Srch}{i:Nat}(h:BI n p S (i:Int))(hi:i<S.list.length):BI n p (extT n S (i:Int)) (i:Int)/\(∀y,A5t n ((nth S.list (i:Int)).domain,(nth S.list (i:Int)).kind) y->HasB (extT n S (i:Int)).list y (lnC S.list (i:Int)+1))/\∃e,(extT n S (i:Int)).list=S.list++e:=by
 have hw:=h.walk i hi;have ha:-1<=(i:Int)/\(i:Int)<S.list.length:=⟨by omega,by omega⟩
 have pc:=(h.met.ok.at_ _ (show nth S.list (i:Int)∈S.list by rw[Ae (l:=S.list) (i:=(i:Int)) (kS hi)];exact zI _)).2;rw[extT];by_cases h0:(nth S.list (i:Int)).kind=0
 .rw[zE h0];obtain ⟨i1,i2,e,i3⟩:=h.ext1 (k:=0) (.inl rfl) (l:=Dg n (nth S.list (i:Int)).domain) ha (λx hx=>⟨Mj hx,by have:=HWay.hop hw (h:=x) hx;dsimp only at this;rw[h0]at this;exact this⟩);have hba:backT (Go.Sy.Zaa.ext1 S 0 (i:Int) (Dg n (nth S.list (i:Int)).domain)).list (i:Int)=backT S.list (i:Int):=by rw[i3];exact Oi h.met.bk ha.2
  have d5:lnC (Go.Sy.Zaa.ext1 S 0 (i:Int) (Dg n (nth S.list (i:Int)).domain)).list (i:Int)=lnC S.list (i:Int):=by rw[i3];exact Uk h.met.bk ha.2
  obtain ⟨j1,j2,e2,j3⟩:=i1.ext2 (l:=routesT n (nth S.list (i:Int)).domain) ⟨ha.1,by rw[i3,zQ];omega⟩ (λx hx=>⟨Ov hx,by rw[hba];exact HWay.lead hw h0 hx⟩);refine⟨j1,?_,e++e2,by rw[j3,i3,xF]⟩;rintro y (⟨x,hx,rfl⟩|⟨_,q,hq,rfl⟩)
  .have:=i2 x hx;rw[j3];rw[h0];exact this.app i1.met.bk
  .have:=j2 q hq;rw[d5]at this;exact this
 .have h1:(nth S.list (i:Int)).kind=1:=pc.resolve_left h0;rw[zD h0];obtain ⟨i1,i2,e,i3⟩:=h.ext1 (k:=1) (.inr rfl) (l:=Dg n (nth S.list (i:Int)).domain) ha (λx hx=>⟨Mj hx,by have:=HWay.hop hw (h:=x) hx;dsimp only at this;rw[h1]at this;exact this⟩);refine⟨i1,?_,e,i3⟩;rintro y (⟨x,hx,rfl⟩|⟨h2,_⟩)
  .rw[h1];exact i2 x hx
  .exact yA h2 h0
structure SI(n:Net)(p to:Int)(S:Srch)(i:Nat):Prop where
 met:Met n S
 mono:∀b c:Nat,b<=c->c<S.list.length->lnC S.list b<=lnC S.list c
 bnd:i<S.list.length->∀b:Nat,b<S.list.length->lnC S.list b<=lnC S.list i+1
 walk:∀b:Nat,b<S.list.length->HWay n p (backT S.list b) ((nth S.list b).domain,(nth S.list b).kind)
 succ:∀j:Nat,j<i->j<S.list.length->∀y,A5t n ((nth S.list (j:Int)).domain,(nth S.list (j:Int)).kind) y->HasB S.list y (lnC S.list (j:Int)+1)
 start:∀y,Aec n p y->HasB S.list y 1
 goal:∀j:Nat,j<i->j<S.list.length->inB (A0 n (nth S.list (j:Int)).domain) to=false
theorem SI.far{n:Net}{p to:Int}{S:Srch}{i M:Nat}(h:SI n p to S i)(hP:∀b:Nat,b<S.list.length->lnC S.list (b:Int)<=M->b<i):∀(m:Nat) (x:Int×Int),Walk n p m x->m<=M->HasB S.list x (m+1)
 |0,x,hw,_=>by
  cases hw with
  |start hs=>exact h.start x hs
 |m+1,x,hw,hm=>by
  cases hw with
  |step hw hs=>
   rename_i y;obtain ⟨b,b1,b2,b3,b4⟩:=h.far hP m y hw q_;obtain ⟨c,c1,c2,c3,c4⟩:=h.succ b (hP b b1 q_) b1 x (by rw[b2,b3];exact hs);exact⟨c,c1,c2,c3,by omega⟩
theorem SI.none{n:Net}{p to:Int}{S:Srch}{i M:Nat}(h:SI n p to S i)(hP:∀b:Nat,b<S.list.length->lnC S.list (b:Int)<=M->b<i){m:Nat}{x:Int×Int}(hw:Walk n p m x)(hg:inB (A0 n x.1) to=true):M<=m:=by
 by_cases hm:m<M
 .obtain ⟨b,b1,b2,b3,b4⟩:=h.far hP m x hw q_;have:=h.goal b (hP b b1 q_) b1;rw[b2,hg]at this;cases this
 .omega
theorem SI.next{n:Net}{p to:Int}{S:Srch}{i:Nat}(h:SI n p to S i)(hi:i<S.list.length)(hg:inB (A0 n (nth S.list (i:Int)).domain) to=false):SI n p to (extT n S (i:Int)) (i+1)/\i+1<=(extT n S (i:Int)).list.length:=by
 obtain ⟨b1,b2,e,b3⟩:=BI.ext (p:=p) ⟨h.met,h.mono,h.bnd hi,h.walk⟩ hi;have hB:=h.met.bk;refine⟨⟨b1.met,b1.mono,λj5 b hb=>?_,b1.walk,λj hj dq y hy=>?_,λy hy=>?_,λj hj dq=>?_⟩,?_⟩
 .have h1:=b1.bnd b hb;have h2:=b1.mono i (i+1) q_ j5;omega
 .have pv:j<S.list.length:=by omega
  rw[b3,Wf pv]at hy;rw[b3,Uk hB q_,<-b3];by_cases cu:j=i
  .subst cu;exact b2 y hy
  .rw[b3];exact(h.succ j q_ pv y hy).app hB
 .rw[b3];exact(h.start y hy).app hB
 .have pv:j<S.list.length:=by omega
  rw[b3,Wf pv];by_cases cu:j=i
  .subst cu;exact hg
  .exact h.goal j q_ pv
 .rw[b3,zQ];omega
def bE{n:Net}{p to:Int}:∀(k:Nat) (S:Srch) (i:Nat),SI n p to S i->i<=S.list.length->2*n.domains.length+1<=i+k ->
  ((Ew n to k S i).2=true->∃m x,Walk n p m x/\inB (A0 n x.1) to=true/\(Ew n to k S i).1.length=m+1/\HWay n p (Ew n to k S i).1 x/\∀m' x',Walk n p m' x'->inB (A0 n x'.1) to=true->m<=m') /\
  ((Ew n to k S i).2=false->(Ew n to k S i).1=[]/\∀m' x',Walk n p m' x'->inB (A0 n x'.1) to=true->False)
 |0,S,i,h,hi,hk=>by
  have:=h.met.ok.le;omega
 |k+1,S,i,h,hi,hk=>by
  rw[Ew];by_cases hl:i<S.list.length
  .rw[zE hl];cases hg:inB (A0 n (nth S.list (i:Int)).domain) to with
   |true=>
    rw[zE rfl];refine⟨λ_=>?_,λhf=>by cases hf⟩;have hH:=h.walk i hl;obtain ⟨m,hm,hw⟩:=hH.walk;rw[<-Al7]at hm;refine⟨m,_,hw,hg,?_,hH,λm' x' um pp=>?_⟩
    .show (backT S.list (i:Int)).length=_;rw[<-Al7];exact hm
    .refine h.none (M:=m) (λb hb hbm=>?_) um pp;by_cases tv:b<i
     .exact tv
     .have:=h.mono i b q_ hb;omega
   |false=>
    rw[zD j_];obtain ⟨h1,h2⟩:=h.next hl hg;exact bE k _ (i+1) h1 h2 q_
  .rw[zD hl];refine⟨λhf=>(by cases hf),λ_=>⟨rfl,λm' x' um pp=>?_⟩⟩;have:=h.none (M:=m'+1) (λb hb _=>by omega) um pp;omega
def A25{n:Net}(hr:Ac n=true){p:Int}(hp:0<=p/\p.toNat<n.ports.length)(to:Int):SI n p to (beginT n p) 0:=by
 have e:nth n.ports p=n.ports[p.toNat]:=Ae hp.2;have hv:∀v∈(nth n.ports p).native::(nth n.ports p).tagged,v≠0->0<=B5 n (nth n.ports p).dev v/\(B5 n (nth n.ports p).dev v).toNat<n.domains.length:=by
  rw[e];exact λv hv h0=>Ks hr hp.2 hv h0
 have key:∀(l:List Int) (S:Srch),BI n p S (-1)->(∀v∈l,v∈(nth n.ports p).native::(nth n.ports p).tagged)->BI n p (l.foldl (Kf n (nth n.ports p).dev) S) (-1)/\(∀v∈l,v≠0->HasB (l.foldl (Kf n (nth n.ports p).dev) S).list (B5 n (nth n.ports p).dev v,0) 1)/\∃x,(l.foldl (Kf n (nth n.ports p).dev) S).list=S.list++x:=by
  intro l
  induction l with
  |nil=>exact λS h _=>⟨h,λ_ hx=>(by cases hx),[],by simp⟩
  |cons v l ih=>
   intro S h hl;rw[vP,Kf];by_cases h0:v=0
   .rw[zE h0];obtain ⟨i1,i2,x,i3⟩:=ih S h (λw hw=>hl w (by simp[hw]));refine⟨i1,λw hw lu=>?_,x,i3⟩;rcases yI.1 hw with rfl|hw
    .exact yA h0 lu
    .exact i2 w hw lu
   .rw[zD h0];have vf:=hl v y_;obtain ⟨m1,m2,x,m3⟩:=h.meet (a:=-1) q_ (hv v vf h0) (.inl rfl) (hp:=⟨0,0,B5 n (nth n.ports p).dev v,0⟩) rfl (by rw[Asp];exact .start ⟨v,vf,h0,rfl⟩);obtain ⟨i1,i2,y,i3⟩:=ih _ m1 (λw hw=>hl w (by simp[hw]));refine⟨i1,λw hw lu=>?_,x++y,by rw[i3,m3,xF]⟩;rcases yI.1 hw with rfl|hw
    .rw[i3];rw[Al6]at m2;exact m2.app m1.met.bk
    .exact i2 w hw lu
 have h0:BI n p (Kz n) (-1):=by
  refine⟨⟨Akk n,λi hi=>by simp[Kz]at hi,λf hf=>by simp[Kz]at hf,λd hd k hk=>?_⟩,λb c _ hc=>by simp[Kz]at hc,λb hb=>by simp[Kz]at hb,λb hb=>by simp[Kz]at hb⟩;constructor
  .intro hm;have:Ui (Kz n) d k=false:=by
    unfold Ui Kz;dsimp only;split<;>(rw[Ae (by rw[xU];exact hd.2)];simp)
   rw[this]at hm;cases hm
  .rintro ⟨f,hf,_⟩;simp[Kz]at hf
 obtain ⟨i1,i2,x,i3⟩:=key ((nth n.ports p).native::(nth n.ports p).tagged) (Kz n) h0 (λv hv=>hv);refine⟨i1.met,i1.mono,λhl b hb=>?_,i1.walk,λj hj=>by omega,?_,λj hj=>by omega⟩
 .have h1:=i1.bnd b hb;rw[Al6]at h1;show lnC (beginT n p).list (b:Int)<=_;have h1:lnC (beginT n p).list (b:Int)<=0+1:=h1;omega
 .rintro y ⟨v,hv,h0,rfl⟩;exact i2 v hv h0
def way_short{n:Net}{p to:Int}:((wayT n p to).2=true->Ac n=true/\J1 n p=true/\J1 n to=true/\p≠to/\∃m x,Walk n p m x/\inB (A0 n x.1) to=true/\(wayT n p to).1.length=m+1/\HWay n p (wayT n p to).1 x/\∀m' x',Walk n p m' x'->inB (A0 n x'.1) to=true->m<=m') /\
  ((wayT n p to).2=false->(wayT n p to).1=[]/\(Ac n=true->J1 n p=true->J1 n to=true->p≠to->∀m' x',Walk n p m' x'->inB (A0 n x'.1) to=true->False)):=by
 rw[wayT];split
 .rename_i hc;obtain ⟨s1,s2⟩:=bE (2*n.domains.length+1) (beginT n p) 0 (A25 hc.2.2.2 (Le hc.1) to) (xN _) q_;exact⟨λh=>⟨hc.2.2.2,hc.1,hc.2.1,hc.2.2.1,s1 h⟩,λh=>⟨(s2 h).1,λ_ _ _ _=>(s2 h).2⟩⟩
 .rename_i hc;exact⟨λh=>(by cases h),λ_=>⟨rfl,λh1 h2 h3 h4=>yA ⟨h2,h3,h4,h1⟩ hc⟩⟩
def I0{n:Net}{i:Int}(h:0<=A4 n i):(0<=i/\i.toNat<n.ports.length)/\0<=(nth n.ports i).link/\(nth n.ports i).link.toNat<n.links.length:=by
 have ht:=D2 h;unfold A4 at h;split at h
 .rename_i hc;have e1:nth n.ports i=n.ports[i.toNat]:=Ae ht.1.2;rw[e1]at hc|-;exact⟨ht.1,hc.2.1,(Ha hc.2.2 ht.1.2 hc.2.1).1⟩
 .omega
def memberB_iff{p:Port}{v:Int}:Cy p v=true↔v≠0/\(v=p.native\/v∈p.tagged):=by
 simp[Cy,inB]
def C1{n:Net}(hr:Ac n=true){d p:Int}(hd:0<=d/\d.toNat<n.domains.length):p∈A0 n d↔(0<=p/\p.toNat<n.ports.length)/\(nth n.ports p).dev=(nth n.domains d).dev/\Cy (nth n.ports p) (nth n.domains d).vlan=true:=by
 rw[A0,zE ⟨⟨hd.1,by omega⟩,hr⟩,A7,filtI_mem];constructor
 .rintro ⟨h1,h2,h3⟩;rw[U9,yR h1]at h3;simp only[zG,yJ]at h3;exact⟨⟨h1,by omega⟩,h3⟩
 .rintro ⟨⟨h1,h2⟩,h3⟩;refine⟨h1,by omega,?_⟩;rw[U9,yR h1];simpa using h3
def At2{n:Net}(hr:Ac n=true){d:Int}(hd:0<=d/\d.toNat<n.domains.length):C8 n (nth n.domains d).dev (nth n.domains d).vlan=d:=by
 rw[Ae hd.2,(bareB_iff.1 (At1 hr hd.2)).2.2.2.2];exact yR hd.1
def Ado{n:Net}{dev v:Int}(h:0<=C8 n dev v):(0<=C8 n dev v/\(C8 n dev v).toNat<n.domains.length)/\(nth n.domains (C8 n dev v)).dev=dev/\(nth n.domains (C8 n dev v)).vlan=v:=by
 have h0:C8 n dev v=Bs (λd:Domain=>d.dev==dev&&d.vlan==v) n.domains:=rfl;obtain ⟨a,b⟩:=Ai0 (p:=λd:Domain=>d.dev==dev&&d.vlan==v) h0.symm h;simp only[zG,yJ]at b;exact⟨⟨h,a⟩,by rw[Ae a];exact b.1,by rw[Ae a];exact b.2⟩
def Ud{n:Net}{p:Int}(h:0<=A4 n p):A4 n (A4 n p)=p:=by
 have ht:=D2 h;have hr:=ht.2.1;have hl:=I0 h;obtain ⟨⟨p0,p1⟩,l0,l1⟩:=hl;have e:A4 n p=if (nth n.links (nth n.ports p).link).a=p then (nth n.links (nth n.ports p).link).b else (nth n.links (nth n.ports p).link).a:=by
  rw[A4,zE ⟨⟨p0,by omega⟩,l0,hr⟩]
 have ak:M2 n (nth n.ports p).link.toNat (nth n.links (nth n.ports p).link)=true:=by
  have h2:=hr;simp only[Ac,zG]at h2;rw[Ae l1];exact allB_iff.1 h2.1.1.1.1.2 _ l1
 have ay:=Ha hr p1 (by rw[<-Ae p1];exact l0);rw[<-Ae p1]at ay;have o7:((p.toNat:Nat):Int)=p:=yR p0;have ie:(((nth n.ports p).link.toNat:Nat):Int)=(nth n.ports p).link:=yR l0;rw[o7]at ay;simp only[M2,Ag,zG,zJ,yJ,xC]at ak;rw[ie]at ak;obtain ⟨⟨⟨⟨⟨a1,a2⟩,b1,b2⟩,af⟩,la⟩,lb⟩:=ak;have hab:(nth n.links (nth n.ports p).link).a≠(nth n.links (nth n.ports p).link).b:=λe=>af (by rw[e])
 by_cases hp:(nth n.links (nth n.ports p).link).a=p
 .rw[zE hp]at e;have e2:A4 n (nth n.links (nth n.ports p).link).b=if (nth n.links (nth n.ports p).link).a=(nth n.links (nth n.ports p).link).b then (nth n.links (nth n.ports p).link).b else (nth n.links (nth n.ports p).link).a:=by
   rw[A4,zE ⟨⟨b1,b2⟩,by rw[lb];exact l0,hr⟩,lb]
  rw[e,e2,zD hab,hp]
 .rw[zD hp]at e;have uy:=ay.2.resolve_left hp;have e2:A4 n (nth n.links (nth n.ports p).link).a=(nth n.links (nth n.ports p).link).b:=by
   rw[A4,zE ⟨⟨a1,a2⟩,by rw[la];exact l0,hr⟩,la,zE rfl]
  rw[e,e2,uy]
def Ta{n:Net}(hr:Ac n=true){d e p:Int}(hd:0<=d/\d.toNat<n.domains.length)(hp:p∈A0 n d)(h:linkDomT n p (nth n.domains d).vlan=(e,true)):(0<=e/\e.toNat<n.domains.length)/\A4 n p∈A0 n e/\linkDomT n (A4 n p) (nth n.domains e).vlan=(d,true):=by
 obtain ⟨eo,gb,em⟩:=(C1 hr hd).1 hp;have a6:=Mg (n:=n) (i:=p) (v:=(nth n.domains d).vlan) (by rw[h]);rw[h]at a6;dsimp only at a6;refine⟨a6,?_⟩;have hc:(crossT n p (nth n.domains d).vlan).2.2=true:=by
  cases so:(crossT n p (nth n.domains d).vlan).2.2
  .rw[linkDomT,zD (by rw[so];decide)]at h;cases h
  .rfl
 rw[linkDomT,zE hc]at h;have kg:0<=A4 n p/\Cy (nth n.ports p) (nth n.domains d).vlan=true/\C4 n p (nth n.domains d).vlan≠0:=by
  rw[crossT]at hc;split at hc
  .assumption
  .cases hc
 rw[crossT,zE kg]at h;dsimp only at h;obtain ⟨he,_⟩:=Prod.mk.inj h;rw[B5,zE hr]at he;have yd:=D2 kg.1;have hq:0<=A4 n p/\(A4 n p).toNat<n.ports.length:=⟨kg.1,yd.2.2⟩
 have jt:=Ud kg.1;generalize hqe:A4 n p=q at *;generalize tc:(nth n.domains d).vlan=v at *;have m8:=Ado (n:=n) (dev:=(nth n.ports q).dev) (v:=C4 n p v) (by rw[he];exact a6.1);rw[he]at m8;obtain ⟨_,d1,d2⟩:=m8;obtain ⟨v0,hv⟩:=memberB_iff.1 em;have r8:=(Adh hr hq.2).2;have nat_p:=(Adh hr eo.2).2;rw[<-Ae hq.2]at r8;rw[<-Ae eo.2]at nat_p;have w6:=kg.2.2;have dr:C4 n p v=(if v=(nth n.ports p).native then (nth n.ports q).native else if inB (nth n.ports q).tagged v=true then v else 0):=by rw[C4,hqe]
 have ew:C4 n q (C4 n p v)=(if C4 n p v=(nth n.ports q).native then (nth n.ports p).native else if inB (nth n.ports p).tagged (C4 n p v)=true then C4 n p v else 0):=by rw[C4,jt]
 have hinb:∀{l:List Int} {x:Int},inB l x=true↔x∈l:=by intro l x;simp[inB]
 have key:Cy (nth n.ports q) (C4 n p v)=true/\C4 n q (C4 n p v)=v:=by
  by_cases hn:v=(nth n.ports p).native
  .rw[zE hn]at dr;rw[dr]at ew|-;rw[zE rfl]at ew;rw[dr]at w6;exact⟨memberB_iff.2 ⟨w6,.inl E⟩,by rw[ew,hn]⟩
  .rw[zD hn]at dr;cases hi:inB (nth n.ports q).tagged v with
   |false=>
    rw[hi,zD j_]at dr;exact yA dr w6
   |true=>
    rw[hi,zE rfl]at dr;rw[dr]at ew|-;have af:v≠(nth n.ports q).native:=λe=>by rw[<-e,hi]at r8;cases r8
    rw[zD af,zE (hinb.2 (hv.resolve_left hn))]at ew;exact⟨memberB_iff.2 ⟨v0,.inr (hinb.1 hi)⟩,ew⟩
 refine⟨(C1 hr a6).2 ⟨hq,d1.symm,by rw[d2];exact key.1⟩,?_⟩;rw[d2,linkDomT];have hcq:crossT n q (C4 n p v)=(p,v,true):=by
  rw[crossT,zE ⟨by rw[jt];exact eo.1,key.1,by rw[key.2];exact v0⟩,jt,key.2]
 rw[hcq,zE rfl];dsimp only;rw[B5,zE hr,gb,<-tc,At2 hr hd]
def S3{n:Net}(hr:Ac n=true){d k:Int}(hd:0<=d/\d.toNat<n.domains.length)(hk:k∈(nth n.domains d).peers):(0<=k/\k.toNat<n.domains.length)/\d∈(nth n.domains k).peers:=by
 rw[Ae hd.2]at hk;refine⟨Ar6 hr hd.2 hk,?_⟩;have h:=hr;simp only[Ac,zG]at h;have h1:=allB_iff.1 h.1.1.1.1.1.1.2 _ hd.2;obtain ⟨j,hj,e⟩:=yY.1 hk;have h2:=allB_iff.1 h1 j hj;rw[e]at h2;simp only[S4,zG]at h2;have h3:inB (nth n.domains k).peers ((d.toNat:Nat):Int)=true:=h2.1.2;rw[yR hd.1]at h3;simpa [inB] using h3
def Axe{n:Net}{d:Int}{h:Hop}(hh:h∈Dg n d):∃g∈Dg n h.domain,g.domain=d:=by
 have a6:=Mj hh;rw[Dg]at hh;split at hh
 .rename_i hd;have hr:=hd.2;have dz:0<=d/\d.toNat<n.domains.length:=by have:=hd.1;omega
  rw[Dg,zE ⟨⟨a6.1,by omega⟩,hr⟩];rcases yH.1 hh with hh|hh
  .obtain ⟨p,hp,hl⟩:=wA.1 hh;rw[linkHop]at hl;split at hl
   .rename_i aq;cases hl;obtain ⟨_,hq,hb⟩:=Ta hr dz hp (e:=(linkDomT n p (nth n.domains d).vlan).1) (Prod.ext rfl aq);refine⟨⟨1,A4 n p,d,0⟩,uU _ (wA.2 ⟨A4 n p,hq,?_⟩),E⟩;rw[linkHop,hb,zE rfl]
   .cases hl
  .obtain ⟨k,hk,rfl⟩:=yS.1 hh;obtain ⟨_,hb⟩:=S3 hr dz hk;exact⟨K8 d,wX _ (yS.2 ⟨d,hb,E⟩),E⟩
 .cases hh
def Apl{n:Net}(hr:Ac n=true){p d:Int}(hp:0<=p/\p.toNat<n.ports.length):Aec n p (d,0)↔(0<=d/\d.toNat<n.domains.length)/\inB (A0 n d) p=true:=by
 have e:nth n.ports p=n.ports[p.toNat]:=Ae hp.2;constructor
 .rintro ⟨v,hv,h0,he⟩;obtain ⟨rfl,_⟩:=Prod.mk.inj he;have hm:Cy (nth n.ports p) v=true:=memberB_iff.2 ⟨h0,kS hv⟩;rw[B5,zE hr];have hd:=W4 hr hp.2 (by rw[<-e];exact hm);rw[<-e]at hd;obtain ⟨d0,d1,d2⟩:=Ado (n:=n) (dev:=(nth n.ports p).dev) (v:=v) hd.1;refine⟨d0,?_⟩;have:=(C1 hr d0).2 ⟨hp,d1.symm,by rw[d2];exact hm⟩;simpa [inB] using this
 .rintro ⟨hd,hm⟩;have hm:p∈A0 n d:=by simpa [inB] using hm
  obtain ⟨_,h1,h2⟩:=(C1 hr hd).1 hm;obtain ⟨h3,h4⟩:=memberB_iff.1 h2;refine⟨(nth n.domains d).vlan,kS h4,h3,?_⟩;rw[B5,zE hr,h1,At2 hr hd]
def A3r{n:Net}(hr:Ac n=true){p:Int}(hp:0<=p/\p.toNat<n.ports.length){k:Nat}{x:Int×Int}(hw:Walk n p k x):0<=x.1/\x.1.toNat<n.domains.length:=by
 cases hw with
 |start hs=>
  obtain ⟨v,hv,h0,rfl⟩:=hs;exact((Apl hr hp).1 ⟨v,hv,h0,E⟩).1
 |step _ hs=>
  rcases hs with ⟨h,hh,rfl⟩|⟨_,q,hq,rfl⟩
  .exact Mj hh
  .exact Ov hq
def Xi{k a:Type}(key:k->Option a)(l:List k):Prop:=∀i j (hi:i<l.length) (hj:j<l.length),key l[i]≠none->key l[i]=key l[j]->i=j
def Atk{k a:Type}{key:k->Option a}{l e:List k}(h:Xi key l)(he:∀x∈e,key x=none):Xi key (l++e):=by
 intro i j hi hj h1 h2;rw[zQ]at hi hj;by_cases c:i<l.length
 .by_cases d:j<l.length
  .rw[yZ c]at h1 h2;rw[yZ d]at h2;exact h i j c d h1 h2
  .exfalso;rw[xQ (show l.length<=j by omega),he _ (zI _)]at h2;exact h1 h2
 .exfalso;rw[xQ (show l.length<=i by omega),he _ (zI _)]at h1;exact h1 E
def Atj{a b:Type}{key:a->Option b}{l:List a}(h:Xi key l)(k:Nat){x:a}(hx:∀y∈l,key y≠key x):Xi key (l.set k x):=by
 intro i j hi hj h1 h2;rw[yQ]at hi hj;rw[vR]at h1;rw[vR,vR]at h2;by_cases c:k=i
 .by_cases d:k=j
  .omega
  .rw[zE c,zD d]at h2;exact yA h2.symm (hx _ (zI _))
 .rw[zD c]at h1 h2;by_cases d:k=j
  .rw[zE d]at h2;exact yA h2 (hx _ (zI _))
  .rw[zD d]at h2;exact h i j hi hj h1 h2
def Uf{a b:Type}{key:a->Option b}{l:List a}(h:Xi key l)(k:Nat){x:a}(hx:∀hk:k<l.length,key x=key l[k]):Xi key (l.set k x):=by
 have hs:∀i (hi:i<l.length),key ((l.set k x)[i]'(by rw[yQ];exact hi))=key l[i]:=by
  intro i hi;rw[vR];split
  .rename_i c;subst c;exact hx hi
  .rfl
 intro i j hi hj h1 h2;rw[yQ]at hi hj;rw[hs i hi]at h1 h2;rw[hs j hj]at h2;exact h i j hi hj h1 h2
def A4o{k a:Type}{key:k->Option a}{l:List k}{f:k->k}(h:Xi key l)(hf:∀x,key (f x)=key x):Xi key (l.map f):=by
 intro i j hi hj h1 h2;rw[yW]at hi hj;rw[vI,hf]at h1;rw[vI,vI,hf,hf]at h2;exact h i j hi hj h1 h2
def A0o{k a:Type}{key:k->Option a}{l:List k}(h:Xi key l){x:k}(hx:∀y∈l,key y≠key x):Xi key (l++[x]):=by
 intro i j hi hj h1 h2;rw[zQ,zW]at hi hj;by_cases c:i<l.length
 .rw[yZ c]at h1 h2;by_cases d:j<l.length
  .rw[yZ d]at h2;exact h i j c d h1 h2
  .exfalso;have xp:j=l.length:=by omega
   subst xp;rw[List.getElem_concat_length rfl]at h2;exact hx _ (zI c) h2
 .have hi':i=l.length:=by omega
  subst hi';by_cases d:j<l.length
  .exfalso;rw[List.getElem_concat_length rfl,yZ d]at h2;exact hx _ (zI d) h2.symm
  .omega
def Ajv{k:Type}{p:k->Bool}{l:List k}(h:Bs p l<0):∀x∈l,p x=false:=by
 have h1:l.any p=false:=by rw[<-I8];exact zK q_
 simpa [wE] using h1
def vtK(d:Device):Option Int:=if d.vtep=0 then none else some d.vtep
def vnK(d:Domain):Option (Int×Int):=if d.vni=0 then none else some (d.dev,d.vni)
def irK(x:Irb):Option Int:=some x.addr
structure WitK(n:Net):Prop where
 vt:Xi vtK n.devices
 vn:Xi vnK n.domains
 ir:Xi irK n.irbs
 st:∀s∈n.statics,La s.mac=false
def Agy:WitK emptyN:=⟨λi j hi=>(by cases hi),λi j hi=>(by cases hi),λi j hi=>(by cases hi),λs hs=>(by cases hs)⟩
def Ah8{l:LineM}(hk:l.kind=4)(h:D6 l=true):La l.mac=false:=by
 simp only[D6,By,hk,zG]at h;simp only[statB,zG,yU]at h;simp at h;exact h.1.2.1.1.2
def A4c{n:Net}{l:LineM}(h:WitK n):WitK (putT n l).1:=by
 have e:=Agy;rw[putT];split
 .rw[putDevice]
  repeat' split
  all_goals (try exact e)
  exact⟨Atk h.vt (λx hx=>by rw[zX.1 hx];rfl),h.vn,h.ir,h.st⟩
 split
 .rw[putPort]
  repeat' split
  all_goals (try exact e)
  refine⟨h.vt,?_,h.ir,h.st⟩;show Xi vnK (Bm (Ci n l.dev) n.domains (l.vlan::l.tagged));have key:∀(vs:List Int) (ds:List Domain),Xi vnK ds->Xi vnK (Bm (Ci n l.dev) ds vs):=by
   intro vs
   induction vs with
   |nil=>exact λds hd=>hd
   |cons v vs ih=>
    intro ds hd;refine ih (C2 (Ci n l.dev) ds v) ?_;rw[C2];split
    .exact Atk hd (λx hx=>by rw[zX.1 hx];rfl)
    .exact hd
  exact key _ _ h.vn
 split
 .rw[putLink];dsimp only
  repeat' split
  all_goals (try exact e)
  exact⟨h.vt,h.vn,h.ir,h.st⟩
 split
 .rename_i h4;rw[putStatic];dsimp only;split
  .exact e
  rename_i hf;have hf:fitsB n l 4=true:=kS hf;rw[fitsB,zG,zG]at hf
  repeat' split
  all_goals (try exact e)
  refine⟨h.vt,h.vn,h.ir,λs hs=>?_⟩;rcases yH.1 hs with hs|hs
  .exact h.st s hs
  .rw[zX.1 hs];exact Ah8 h4 (kS hf.2.1)
 split
 .rw[putVtep];dsimp only;split
  .exact e
  split
  .exact e
  rename_i hc;refine⟨?_,h.vn,h.ir,h.st⟩;show Xi vtK (Zu n.devices (begT n l 5).1 l.addr);have h9:C6 n l.addr<0:=by omega
  have h9:=Ajv h9;by_cases h0:l.addr=0
  .have h1:¬(nth n.devices (begT n l 5).1).vtep≠0:=λhh=>hc (.inl hh)
   refine Uf h.vt _ λhk=>?_
   have h2:(nth n.devices (begT n l 5).1).vtep=0:=Classical.byContradiction h1;rw[Ae hk]at h2;simp only[vtK,h0,h2]
  .refine Atj h.vt _ λy hy=>?_
   have h8:=h9 y hy;simp at h8;simp only[vtK,zD h0];split
   .exact λhh=>by cases hh
   .exact λhh=>h8 (Option.some.inj hh)
 split
 .rw[putVni];dsimp only;split
  .exact e
  split
  .exact e
  split
  .exact e
  rename_i hc;split
  .exact e
  rename_i hv;refine⟨h.vt,?_,h.ir,h.st⟩;have hd:=Ado (n:=n) (dev:=(begT n l 6).1) (v:=l.vlan) q_;have h9:Jr n (begT n l 6).1 l.num<0:=by omega
  have h9:=Ajv h9;by_cases h0:l.num=0
  .refine Uf h.vn _ λhk=>?_
   have h2:(nth n.domains (C8 n (begT n l 6).1 l.vlan)).vni=0:=Classical.byContradiction λhh=>hv (.inl hh)
   rw[Ae hk]at h2;simp only[vnK,h0,h2,zE]
  .refine Atj h.vn _ λy hy=>?_
   have h8:=h9 y hy;simp[h0]at h8;simp only[vnK,zD h0,hd.2.1];split
   .exact λhh=>by cases hh
   .intro hh;have:=Option.some.inj hh;simp only[Prod.mk.injEq]at this;exact h8 this.1 this.2
 split
 .rw[putFlood];dsimp only
  repeat' split
  all_goals (try exact e)
  exact⟨h.vt,h.vn,h.ir,h.st⟩
 split
 .rw[putVrf];dsimp only
  repeat' split
  all_goals (try exact e)
  exact⟨h.vt,h.vn,h.ir,h.st⟩
 split
 .rw[putIrb];dsimp only;split
  .exact e
  split
  .exact e
  split
  .exact e
  split
  .exact e
  rename_i hc;refine⟨h.vt,Uf h.vn _ λhk=>?_,A0o h.ir λy hy=>?_,h.st⟩
  .rw[Ae hk];rfl
  .have h9:n.irbs.any (clashB n (begT n l 9).1 l.addr l.bits)=false:=by
    cases hh:n.irbs.any (clashB n (begT n l 9).1 l.addr l.bits)
    .rfl
    .exact yA (.inr hh) hc
   rw[wE]at h9;have:=h9 y hy;simp only[clashB,yO,yJ,uF]at this;exact λhh=>this.1 (Option.some.inj hh)
 exact e
def A04{n:Net}(h:WitK n):WitK (Bz n):=⟨h.vt,A4o h.vn λ_=>rfl,h.ir,h.st⟩
def Ahb:∀(l:List LineM) (n:Net),WitK n->(Bv n l).2.2=0->WitK (Bv n l).1
 |[],n,hn,h=>by
  rw[Bv,finishT]at h|-;split at h
  .rename_i h1;exact yA h h1
  rename_i h1;rw[zD h1];split at h
  .simp at h
  rename_i h2;rw[zD h2];obtain ⟨e1,_⟩:=Oh (n:=n) q_;dsimp only;rw[e1];exact A04 hn
 |x::l,n,hn,h=>by
  rw[Bv]at h|-;split at h
  .rename_i h1;exact yA h h1
  rename_i h1;rw[zD h1];exact Ahb l _ (A4c hn) h
structure BuiltK(n:Net):Prop where
 right:Ac n=true
 wit:WitK n
 num:n.Num
 mesh:(meshNT n).2.2=0
 same:Bz n=n
abbrev InD(n:Net)(d:Int):Prop:=0<=d/\d.toNat<n.domains.length
def Ko{n:Net}{d:Int}(h:InD n d):Ag d n.domains.length=true:=by
 rw[Ag,zL h.1,zL (by have:=h.2;omega)];rfl
def inB_iff{l:List Int}{x:Int}:inB l x=true↔x∈l:=by simp[inB]
def Ayo{n:Net}(h:BuiltK n){a b:Int}(ha:0<=a/\a.toNat<n.devices.length)(hb:0<=b/\b.toNat<n.devices.length)(e:(nth n.devices a).vtep=(nth n.devices b).vtep)(h0:(nth n.devices a).vtep≠0):a=b:=by
 rw[Ae ha.2]at e h0;rw[Ae hb.2]at e;have h0b:=h0;rw[e]at h0b;have:=h.wit.vt a.toNat b.toNat ha.2 hb.2 (by rw[vtK,zD h0];exact λe=>by cases e) (by rw[vtK,vtK,zD h0,zD h0b,e]);omega
def Aor{n:Net}(h:BuiltK n){a b:Int}(ha:InD n a)(hb:InD n b)(e:(nth n.domains a).dev=(nth n.domains b).dev)(e2:(nth n.domains a).vni=(nth n.domains b).vni)(h0:(nth n.domains a).vni≠0):a=b:=by
 rw[Ae ha.2]at e e2 h0;rw[Ae hb.2]at e e2;have h0b:=h0;rw[e2]at h0b;have:=h.wit.vn a.toNat b.toNat ha.2 hb.2 (by rw[vnK,zD h0];exact λe=>by cases e) (by rw[vnK,vnK,zD h0,zD h0b,e,e2]);have:=ha.1;have:=hb.1;omega
def ir_one{n:Net}(h:BuiltK n){a b:Int}(ha:0<=a/\a.toNat<n.irbs.length)(hb:0<=b/\b.toNat<n.irbs.length)(e:(nth n.irbs a).addr=(nth n.irbs b).addr):a=b:=by
 rw[Ae ha.2,Ae hb.2]at e;have:=h.wit.ir a.toNat b.toNat ha.2 hb.2 (by exact λe=>by cases e) (by rw[irK,irK,e]);omega
def Aqk{n:Net}(h:BuiltK n){a:Int}(ha:0<=a/\a.toNat<n.devices.length)(h0:(nth n.devices a).vtep≠0):C6 n (nth n.devices a).vtep=a:=by
 have h1:0<=C6 n (nth n.devices a).vtep:=idxI_nonneg.2 (by
  rw[xY];exact⟨nth n.devices a,Hs ha.2,by simp⟩)
 obtain ⟨h2,h3⟩:=Ev h1;have h3:(nth n.devices (C6 n (nth n.devices a).vtep)).vtep=(nth n.devices a).vtep:=by simpa [C6] using h3
 exact Ayo h ⟨h1,h2⟩ ha h3 (by rw[h3];exact h0)
def vni_is{n:Net}(h:BuiltK n){d:Int}(hd:InD n d)(h0:(nth n.domains d).vni≠0):Jr n (nth n.domains d).dev (nth n.domains d).vni=d:=by
 have h1:0<=Jr n (nth n.domains d).dev (nth n.domains d).vni:=idxI_nonneg.2 (by
  rw[xY];exact⟨nth n.domains d,Hs hd.2,by simp[h0]⟩)
 obtain ⟨h2,h3⟩:=Ev h1;have h3:(nth n.domains (Jr n (nth n.domains d).dev (nth n.domains d).vni)).dev=(nth n.domains d).dev/\(nth n.domains (Jr n (nth n.domains d).dev (nth n.domains d).vni)).vni=(nth n.domains d).vni:=by
  simp only[Jr,zG,yJ]at h3|-;exact⟨h3.1,h3.2.1⟩
 exact Aor h ⟨h1,h2⟩ hd h3.1 h3.2 (by rw[h3.2];exact h0)
def dD{n:Net}(h:BuiltK n){f:Flood}(hf:f∈n.floods):agreesB n f=true:=by
 have:=(Oh h.mesh).2.2.2;rw[List.find?_eq_none]at this;have:=this f hf;simpa using this
def fE{n:Net}(h:BuiltK n){d:Int}(hd:InD n d):(nth n.domains d).peers=peersT n (nth n.domains d):=by
 have e:n.domains=n.domains.map λd=>{d with peers:=peersT n d}:=by
  have:=zH Net.domains h.same;exact this.symm
 have e2:nth n.domains d={nth n.domains d with peers:=peersT n (nth n.domains d)}:=by
  have h1:(n.domains.map λd=>{d with peers:=peersT n d})[d.toNat]'(by rw[yW];exact hd.2)={n.domains[d.toNat]'hd.2 with peers:=peersT n (n.domains[d.toNat]'hd.2)}:=vI _;have h2:n.domains[d.toNat]'hd.2=(n.domains.map λd=>{d with peers:=peersT n d})[d.toNat]'(by rw[yW];exact hd.2):=by
   congr 1
  rw[Ae hd.2];exact h2.trans h1
 exact zH Domain.peers e2
def Ati{n:Net}(h:BuiltK n){d k:Int}(hd:InD n d)(hk:k∈(nth n.domains d).peers):∃f∈n.floods,f.dev=(nth n.domains d).dev/\f.vni=(nth n.domains d).vni/\(nth n.domains d).vni≠0/\f=nth n.floods (Ej n (nth n.domains d).dev (nth n.domains d).vni) /\
  ∃a∈f.addrs,k=Jr n (C6 n a) (nth n.domains d).vni:=by
 rw[fE h hd,peersT]at hk;split at hk
 .rename_i hc;obtain ⟨a,ha,e⟩:=yS.1 hk;obtain ⟨h1,h2⟩:=Ev hc.2;have h2:(nth n.floods (Ej n (nth n.domains d).dev (nth n.domains d).vni)).dev=(nth n.domains d).dev/\(nth n.floods (Ej n (nth n.domains d).dev (nth n.domains d).vni)).vni=(nth n.domains d).vni:=by
   simpa [Ej] using h2
  exact⟨_,Hs h1,h2.1,h2.2,hc.1,E,a,ha,e.symm⟩
 .cases hk
def A4t{n:Net}(h:BuiltK n){d:Int}(hd:InD n d){f:Flood}(hf:f=nth n.floods (Ej n (nth n.domains d).dev (nth n.domains d).vni))(h0:(nth n.domains d).vni≠0)(hl:0<=Ej n (nth n.domains d).dev (nth n.domains d).vni){a:Int}(ha:a∈f.addrs):Jr n (C6 n a) (nth n.domains d).vni∈(nth n.domains d).peers:=by
 rw[fE h hd,peersT,zE ⟨h0,hl⟩,<-hf];exact yS.2 ⟨a,ha,E⟩
def oG{n:Net}{f:Flood}{a:Int}(hf:agreesB n f=true)(ha:a∈f.addrs):0<=C6 n a/\a≠0/\0<=Jr n (C6 n a) f.vni/\0<=Ej n (C6 n a) f.vni /\
  (nth n.devices f.dev).vtep∈(nth n.floods (Ej n (C6 n a) f.vni)).addrs/\∀b∈f.addrs,b=a\/b∈(nth n.floods (Ej n (C6 n a) f.vni)).addrs:=by
 rw[agreesB,zG,yT]at hf;have:=hf.2 a ha;simp only[agreeA,zG,zJ,xC,yT,yO,yJ,inB_iff]at this;exact⟨this.1,this.2.1,this.2.2.1,this.2.2.2.1,this.2.2.2.2.1,this.2.2.2.2.2⟩
def Av7{n:Net}(h:BuiltK n){d k e:Int}(hd:InD n d)(hk:k∈(nth n.domains d).peers)(he:e∈(nth n.domains k).peers):e=d\/e∈(nth n.domains d).peers:=by
 have ck:=(S3 h.right hd hk).1;obtain ⟨f,hf,f1,f2,v0,fe,a,ha,rfl⟩:=Ati h hd hk;obtain ⟨o0,a0,i0,l0,own,all⟩:=oG (dD h hf) ha;have hK:=Ev i0;have hK:(nth n.domains (Jr n (C6 n a) f.vni)).dev=C6 n a/\(nth n.domains (Jr n (C6 n a) f.vni)).vni=f.vni:=by
  have:=hK.2;simp only[Jr,zG,yJ]at this|-;exact⟨this.1,this.2.1⟩
 rw[f2]at hK;obtain ⟨g,hg,g1,g2,w0,ge,b,hb,eb⟩:=Ati h ck he;rw[hK.1]at g1;rw[hK.2]at g2 w0 eb;rw[hK.1,hK.2]at ge;have ww:nth n.floods (Ej n (C6 n a) f.vni)=g:=by rw[f2,ge]
 rw[ww]at own all;obtain ⟨p0,b0,j0,m0,_,ue⟩:=oG (dD h hg) own;have w7:=(Er h.right hd.2).1;rw[<-Ae hd.2]at w7;rw[f1]at own ue p0 b0 j0 m0;rw[Aqk h w7 b0,g2]at ue;rw[<-fe]at ue;rcases ue b hb with rfl|dy
 .left;rw[eb,Aqk h w7 b0];exact vni_is h hd v0
 .right;rw[eb];have hl:0<=Ej n (nth n.domains d).dev (nth n.domains d).vni:=by
   rw[fE h hd,peersT]at hk;split at hk
   .rename_i hc;exact hc.2
   .cases hk
  exact A4t h hd fe v0 hl dy
def Aby{n:Net}(hr:Ac n=true){d k:Int}(hd:InD n d)(hk:k∈(nth n.domains d).peers):InD n k/\(nth n.domains k).vni=(nth n.domains d).vni/\(nth n.domains d).vni≠0/\C9 n k≠0/\C9 n d≠0:=by
 have a6:=(S3 hr hd hk).1;rw[Ae hd.2]at hk;have h:=hr;simp only[Ac,zG]at h;have h1:=allB_iff.1 h.1.1.1.1.1.1.2 _ hd.2;obtain ⟨j,hj,e⟩:=yY.1 hk;have h2:=allB_iff.1 h1 j hj;rw[e]at h2;simp only[S4,zG,xC,yJ,M0]at h2;rw[<-Ae hd.2]at h2;exact⟨a6,h2.1.1.1.1.1.2,h2.1.1.1.1.2,h2.1.1.1.2,h2.1.1.2⟩
def fJ{n:Net}(h:BuiltK n){d k:Int}(hd:InD n d)(hk:k∈(nth n.domains d).peers){f:FrameM}(hf:FrameOK f)(ht:f.typ≠33024)(hl:f.body.length<=1450)(hg:Du f.src=false):(meshT n d k f).2=0/\comeT n (meshT n d k f).1=(d,k,f,0):=by
 obtain ⟨ck,v1,v0,t1,t0⟩:=Aby h.right hd hk;have dk:=(Er h.right ck.2).1;have dd:=Er h.right hd.2;rw[<-Ae ck.2]at dk;rw[<-Ae hd.2]at dd;have n1:0<=C9 n d/\C9 n d<4294967296:=h.num.vtep _ (Hs dd.1.2);have n2:0<=C9 n k/\C9 n k<4294967296:=h.num.vtep _ (Hs dk.2);have e1:(((C9 n d).toNat:Nat):Int)=C9 n d:=yR n1.1;have e2:(((C9 n k).toNat:Nat):Int)=C9 n k:=yR n2.1;obtain ⟨w1,w2⟩:=Aka (a:=(C9 n d).toNat) (b:=(C9 n k).toNat) (v:=(nth n.domains d).vni) q_ q_ hf ht hl q_;have hm:meshT n d k f=wrapT (C9 n d).toNat (C9 n k).toNat (nth n.domains d).vni f:=by
  rw[meshT,zD,zD]
  .rw[inB_iff.2 hk];decide
  .rintro (hh|hh|hh)
   .rw[Ko ck]at hh;cases hh
   .rw[Ko hd]at hh;cases hh
   .rw[h.right]at hh;cases hh
 rw[hm];refine⟨w1,?_⟩;have c1:Bs (λx:Device=>decide (x.vtep=(((C9 n k).toNat:Nat):Int))) n.devices=(nth n.domains k).dev:=by
  rw[e2];exact Aqk h dk t1
 have c2:Bs (λx:Domain=>decide (x.dev=(nth n.domains k).dev)&&decide (x.vni=(nth n.domains d).vni)) n.domains=k:=by
  have h1:0<=Bs (λ x:Domain=>decide (x.dev=(nth n.domains k).dev) && decide (x.vni=(nth n.domains d).vni)) n.domains:=idxI_nonneg.2 (by
   rw[xY];exact⟨nth n.domains k,Hs ck.2,by simp[v1]⟩)
  obtain ⟨h2,h3⟩:=Ev h1;simp only[zG,zJ]at h3;exact Aor h ⟨h1,h2⟩ ck h3.1 (by rw[h3.2,v1]) (by rw[h3.2];exact v0)
 have c3:0<=Bs (λj:Int=>decide (C9 n j=(((C9 n d).toNat:Nat):Int))) (nth n.domains k).peers/\nth (nth n.domains k).peers (Bs (λj:Int=>decide (C9 n j=(((C9 n d).toNat:Nat):Int))) (nth n.domains k).peers)=d:=by
  have hb:=(S3 h.right hd hk).2;have h1:0<=Bs (λ j:Int=>decide (C9 n j=(((C9 n d).toNat:Nat):Int))) (nth n.domains k).peers:=idxI_nonneg.2 (by
   rw[xY];exact⟨d,hb,by rw[e1];simp⟩)
  obtain ⟨h2,h3⟩:=Ev h1;generalize Bs (λj:Int=>decide (C9 n j=(((C9 n d).toNat:Nat):Int))) (nth n.domains k).peers=i at *;have hj:nth (nth n.domains k).peers i∈(nth n.domains k).peers:=Hs h2;generalize nth (nth n.domains k).peers i=j at *;obtain ⟨uv,u1,_,_,_⟩:=Aby h.right ck hj;have h3:C9 n j=C9 n d:=by rw[e1]at h3;simpa using h3
  have dj:=(Er h.right uv.2).1;rw[<-Ae uv.2]at dj;exact⟨h1,Aor h uv hd (Ayo h dj dd.1 h3 (by show C9 n j≠0;rw[h3];exact t0)) (by rw[u1,v1]) (by rw[u1,v1];exact v0)⟩
 have hends:endsT n (C9 n d).toNat (C9 n k).toNat (nth n.domains d).vni=(d,k):=by
  rw[endsT];dsimp only;rw[c1,c2,zD (by have:=dk.1;have:=ck.1;omega),zD (by have:=c3.1;omega),c3.2]
 rw[comeT,zD (by rw[h.right];decide),w2];dsimp only;rw[zD y_,hends];dsimp only;rw[zD (by have:=hd.1;omega),hg,zD y_]
def Wy{n:Net}(hr:Ac n=true){q:Int}(hq:0<=q/\q.toNat<n.ports.length){f:FrameM}(hf:FrameOK f)(ht:f.typ≠33024)(hg:Du f.src=false)(hn:(nth n.ports q).native≠0):enterT n q (Mb f)=(B5 n (nth n.ports q).dev (nth n.ports q).native,f,0):=by
 have hp:Ag q n.ports.length=true:=by rw[Ag,zL hq.1,zL q_];rfl
 rw[enterT,zD (by rw[hp,hr];decide),Js hf];dsimp only;rw[zD y_,zD ht,He,hg,zD y_];have hv:vlanT (nth n.ports q) false 0=((nth n.ports q).native,true):=by rw[vlanT,zE (.inl rfl),zL hn]
 rw[hv,zD y_]
def Uw{n:Net}(hr:Ac n=true){q v:Int}(hq:0<=q/\q.toNat<n.ports.length){f:FrameM}(hf:FrameOK f)(ht:f.typ≠33024)(hb:f.body.length<=1500)(hg:Du f.src=false)(hv:1<=v/\v<=4094)(a6:inB (nth n.ports q).tagged v=true):enterT n q (Mb (tagT f v).1)=(B5 n (nth n.ports q).dev v,f,0):=by
 have hp:Ag q n.ports.length=true:=by rw[Ag,zL hq.1,zL q_];rfl
 obtain ⟨s1,s2,s3⟩:=eQ (v:=v) hf ht hb ⟨by omega,hv.2⟩;rw[enterT,zD (by rw[hp,hr];decide),Js s1];dsimp only;rw[zD y_,zE s2,s3];dsimp only;rw[zD y_,He,hg,zD y_];have ly:vlanT (nth n.ports q) true v=(v,true):=by rw[vlanT,zD (by rintro (hh|hh);cases hh;omega),zE a6]
 rw[ly,zD y_]
def Z3{n:Net}(hr:Ac n=true){d p:Int}(hd:InD n d)(hp:p∈A0 n d){f:FrameM}(ht:f.typ≠33024)(hb:f.body.length<=1500):leaveT n p d f=(if (nth n.domains d).vlan=(nth n.ports p).native then Mb f else Mb (tagT f (nth n.domains d).vlan).1,0):=by
 obtain ⟨eo,gb,em⟩:=(C1 hr hd).1 hp;have ay:Ag p n.ports.length=true:=by rw[Ag,zL eo.1,zL q_];rfl
 have htg:=(Aaz (f:=f) (v:=(nth n.domains d).vlan) ht hb).1;rw[leaveT,zD (by rw[ay,Ko hd,hr];decide),zD (by rintro (hh|hh);exact hh gb;rw[em]at hh;cases hh),zD ht];split
 .rfl
 .rw[zD (λhh=>hh htg)]
def Aw0{n:Net}(h:BuiltK n){d p e:Int}(hd:InD n d)(hp:p∈A0 n d)(hl:linkDomT n p (nth n.domains d).vlan=(e,true)){f:FrameM}(hf:FrameOK f)(ht:f.typ≠33024)(hb:f.body.length<=1500)(hg:Du f.src=false):linkT n p (leaveT n p d f).1=(A4 n p,e,f,0):=by
 have hr:=h.right;rw[Z3 hr hd hp ht hb];dsimp only;have hc:(crossT n p (nth n.domains d).vlan).2.2=true:=by
  cases so:(crossT n p (nth n.domains d).vlan).2.2
  .rw[linkDomT,zD (by rw[so];decide)]at hl;cases hl
  .rfl
 rw[linkDomT,zE hc]at hl;have kg:0<=A4 n p/\Cy (nth n.ports p) (nth n.domains d).vlan=true/\C4 n p (nth n.domains d).vlan≠0:=by
  rw[crossT]at hc;split at hc
  .assumption
  .cases hc
 rw[crossT,zE kg]at hl;dsimp only at hl;obtain ⟨he,_⟩:=Prod.mk.inj hl;have yd:=D2 kg.1;have hq:0<=A4 n p/\(A4 n p).toNat<n.ports.length:=⟨kg.1,yd.2.2⟩
 have fc:=(Er hr hd.2).2.1;rw[<-Ae hd.2]at fc;have dr:=kg.2.2;rw[C4]at he dr;rw[linkT,zD q_];by_cases hn:(nth n.domains d).vlan=(nth n.ports p).native
 .rw[zE hn]at he dr;rw[zE hn,Wy hr hq hf ht hg dr,he]
 .rw[zD hn]at he dr;cases hi:inB (nth n.ports (A4 n p)).tagged (nth n.domains d).vlan with
  |false=>rw[hi]at dr;exact yA rfl dr
  |true=>
   rw[hi,zE rfl]at he;rw[zD hn,Uw hr hq hf ht hb hg fc hi,he]
def Aio{k:Type}[Inhabited k]{l:List k}{i:Nat}(h:i<l.length):nth l (i:Int)=l[i]:=Ae (i:=(i:Int)) h
def Lx{k:Type}[Inhabited k]{l:List k}{x:k}{i:Nat}(h:i<l.length):nth (l++[x]) (i:Int)=nth l (i:Int):=Ug (kS h)
def Xv{k:Type}[Inhabited k](l:List k)(x:k):nth (l++[x]) (l.length:Int)=x:=by
 rw[Aio y_];simp
structure WayS(n:Net)(p:Int)(l:List Hop)(st:Nat->Int×Int)(r:Nat):Prop where
 pos:1<=r/\r<=l.length
 dom:∀i,i<l.length->(nth l (i:Int)).domain=(st i).1
 kd:∀i,i<l.length->(st i).2=if i<r then 0 else 1
 start:Aec n p (st 0)/\nth l ((0:Nat):Int)=⟨0,0,(st 0).1,0⟩
 hop:∀i,i+1<l.length->i+1≠r->nth l ((i+1:Nat):Int)∈Dg n (st i).1
 lead:∀i,i+1<l.length->i+1=r->∃q∈routesT n (st i).1,nth l ((i+1:Nat):Int)=⟨3,0,q.domain,q.addr⟩
def fR{n:Net}{d:Int}{h:Hop}(hh:h∈Dg n d):(h.kind=1/\h.port∈A0 n d/\linkDomT n h.port (nth n.domains d).vlan=(h.domain,true))\/(h.kind=2/\h.domain∈(nth n.domains d).peers):=by
 rw[Dg]at hh;split at hh
 .rcases yH.1 hh with hh|hh
  .obtain ⟨p,hp,hl⟩:=wA.1 hh;rw[linkHop]at hl;split at hl
   .rename_i aq;cases hl;exact .inl ⟨E,hp,Prod.ext E aq⟩
   .cases hl
  .obtain ⟨k,hk,rfl⟩:=yS.1 hh;exact .inr ⟨E,hk⟩
 .cases hh
def Aar{n:Net}{p:Int}{l:List Hop}{x:Int×Int}(h:HWay n p l x):∃st r,WayS n p l st r/\x=st (l.length-1)/\(x.2=0->r=l.length):=by
 induction h with
 | @start d hs=>
  refine⟨λ_=>(d,0),1,⟨⟨yE _,yE _⟩,λi hi=>?_,λi hi=>?_,⟨hs,E⟩,λi hi=>?_,λi hi=>?_⟩,E,λ_=>rfl⟩
  .have:i=0:=by simpa using hi
   subst this;rfl
  .have:i=0:=by simpa using hi
   subst this;rfl
  .simp at hi
  .simp at hi
 | @hop l x h _ hh ih=>
  obtain ⟨st,r,W,hx,h0⟩:=ih;have hl:0<l.length:=by have:=W.pos;omega
  refine⟨λi=>if i<l.length then st i else (h.domain,x.2),if x.2=0 then l.length+1 else r,⟨?_,λi hi=>?_,λi hi=>?_,?_,λi hi hr=>?_,λi hi hr=>?_⟩,?_,λe=>?_⟩
  .have:=W.pos;rw[zQ,zW];split<;>omega
  .rw[zQ,zW]at hi;by_cases c:i<l.length
   .rw[zE c,Lx c];exact W.dom i c
   .have:i=l.length:=by omega
    subst this;rw[zD c,Xv]
  .rw[zQ,zW]at hi;have kx:=W.kd (l.length-1) q_;rw[<-hx]at kx;by_cases c:i<l.length
   .rw[zE c,W.kd i c];by_cases e:x.2=0
    .rw[zE e,h0 e,zE c,zE q_]
    .rw[zD e]
   .rw[zD c];dsimp only;by_cases e:x.2=0
    .rw[zE e,zE q_,e]
    .rw[zD e];rw[kx]at e|-;have:=W.pos;split at e
     .exact yA E e
     .rw[zD q_,zD q_]
  .rw[zE hl,Lx hl];exact W.start
  .rw[zQ,zW]at hi;rw[zE q_];by_cases c:i+1<l.length
   .rw[Lx c];refine W.hop i c λe=>hr ?_
    have kx:=W.kd (l.length-1) q_;rw[<-hx,zD q_]at kx;rw[kx,zD y_,e]
   .have e:i+1=l.length:=by omega
    rw[e,Xv];have e2:i=l.length-1:=by omega
    rw[e2,<-hx];exact hh
  .rw[zQ,zW]at hi;rw[zE q_];by_cases e:x.2=0
   .rw[zE e]at hr;omega
   .rw[zD e]at hr;have c:i+1<l.length:=by
     have kx:=W.kd (l.length-1) q_;rw[<-hx]at kx;rw[kx]at e;split at e
     .exact yA E e
     .omega
    rw[Lx c];exact W.lead i c hr
  .rw[zQ,zW];exact(zD q_).symm
  .dsimp only at e;rw[zE e,zQ,zW]
 | @lead l x q _ hk hq ih=>
  obtain ⟨st,r,W,hx,h0⟩:=ih;have hl:0<l.length:=by have:=W.pos;omega
  have ju:=h0 hk;refine⟨λi=>if i<l.length then st i else (q.domain,1),l.length,⟨?_,λi hi=>?_,λi hi=>?_,?_,λi hi hr=>?_,λi hi hr=>?_⟩,?_,λe=>(by cases e)⟩
  .rw[zQ,zW];omega
  .rw[zQ,zW]at hi;by_cases c:i<l.length
   .rw[zE c,Lx c];exact W.dom i c
   .have:i=l.length:=by omega
    subst this;rw[zD c,Xv]
  .by_cases c:i<l.length
   .rw[zE c,zE c,W.kd i c,zE q_]
   .rw[zD c,zD c]
  .rw[zE hl,Lx hl];exact W.start
  .rw[zQ,zW]at hi;rw[zE q_,Lx q_];exact W.hop i q_ q_
  .rw[zQ,zW]at hi;rw[zE q_,hr,Xv];have e2:i=l.length-1:=by omega
   rw[e2,<-hx];exact⟨q,hq,E⟩
  .rw[zQ,zW];exact(zD q_).symm
section
variable {n:Net} {p:Int} {l:List Hop} {st:Nat->Int×Int} {r:Nat}
theorem WayS.succ(W:WayS n p l st r){i:Nat}(h:i+1<l.length):A5t n (st i) (st (i+1)):=by
 have k0:=W.kd i q_;have k1:=W.kd (i+1) h;have d1:=W.dom (i+1) h;by_cases e:i+1=r
 .obtain ⟨q,hq,hh⟩:=W.lead i h e;rw[hh]at d1;rw[zE q_]at k0;rw[zD q_]at k1;exact .inr ⟨k0,q,hq,Prod.ext d1.symm k1⟩
 .refine .inl ⟨_,W.hop i h e,Prod.ext d1.symm ?_⟩;rw[k1];show _=(st i).2;rw[k0];by_cases c:i<r
  .rw[zE c,zE q_]
  .rw[zD c,zD q_]
theorem WayS.walk(W:WayS n p l st r):∀i,i<l.length->Walk n p i (st i)
 |0,_=>.start W.start.1
 |i+1,h=>.step (W.walk i q_) (W.succ h)
theorem WayS.on(W:WayS n p l st r){k j:Nat}(h:Walk n p k (st j)):∀e,j+e<l.length->Walk n p (k+e) (st (j+e))
 |0,_=>h
 |e+1,he=>.step (W.on h e q_) (W.succ q_)
def U6(n:Net)(p:Int)(l:List Hop)(st:Nat->Int×Int):Prop:=∀k,Walk n p k (st (l.length-1))->l.length-1<=k
theorem WayS.near(W:WayS n p l st r)(S:U6 n p l st){k j:Nat}(hj:j<l.length)(h:Walk n p k (st j)):j<=k:=by
 have h1:=W.on h (l.length-1-j) q_;rw[show j+(l.length-1-j)=l.length-1 by omega]at h1;have:=S _ h1;omega
theorem WayS.diff(W:WayS n p l st r)(S:U6 n p l st){i j:Nat}(hi:i<l.length)(hj:j<l.length)(h:st i=st j):i=j:=by
 have h1:=W.near S hj (h▸W.walk i hi);have h2:=W.near S hi (h▸W.walk j hj);omega
theorem WayS.window(W:WayS n p l st r)(S:U6 n p l st){i j:Nat}(hi:i<l.length)(hj:j<l.length)(hk:(st i).2=(st j).2){g h:Hop}(hg:g∈Dg n (st i).1)(hh:h∈Dg n (st j).1)(e:g.domain=h.domain):j<=i+2:=by
 obtain ⟨b,hb,eb⟩:=Axe hh;have w1:Walk n p (i+1) (g.domain,(st i).2):=.step (W.walk i hi) (.inl ⟨g,hg,rfl⟩);have w2:Walk n p (i+1+1) (b.domain,(st i).2):=.step w1 (.inl ⟨b,by rw[e];exact hb,rfl⟩);rw[eb,hk]at w2;exact W.near S hj w2
theorem WayS.ahead(W:WayS n p l st r)(S:U6 n p l st){i j:Nat}(hi:i<l.length)(hj:j<l.length)(hk:(st i).2=(st j).2){g:Hop}(hg:g∈Dg n (st i).1)(e:g.domain=(st j).1):j<=i+1:=by
 have w1:Walk n p (i+1) (g.domain,(st i).2):=.step (W.walk i hi) (.inl ⟨g,hg,rfl⟩);rw[e,hk]at w1;exact W.near S hj w1
theorem WayS.ind(W:WayS n p l st r)(hr:Ac n=true)(hp:0<=p/\p.toNat<n.ports.length){i:Nat}(hi:i<l.length):InD n (st i).1:=A3r hr hp (W.walk i hi)
theorem WayS.route(W:WayS n p l st r):Zv l=if r<l.length then (r:Int) else -1:=by
 have hk:∀i (hi:i<l.length),(decide ((l[i]).kind=3))=decide (i=r):=by
  intro i hi;rw[<-Aio hi,decide_eq_decide];cases i with
  |zero=>
   rw[W.start.2];have:=W.pos;constructor
   .intro h;cases h
   .intro h;omega
  |succ i=>
   by_cases e:i+1=r
   .obtain ⟨q,_,hh⟩:=W.lead i hi e;rw[hh];exact⟨λ_=>e,λ_=>rfl⟩
   .refine⟨λh=>?_,λh=>yA h e⟩;rcases fR (W.hop i hi e) with h1|h1
    .rw[h1.1]at h;cases h
    .rw[h1.1]at h;cases h
 by_cases c:r<l.length
 .rw[zE c];exact Co c (λi hi ab=>by rw[hk i hi];exact zK q_) (by rw[hk r c];exact zL E)
 .rw[zD c];exact Dk λi hi=>by rw[hk i hi];exact zK q_
end
def tableB_iff{t:List EntryM}:tableB t=true↔t.length<=8/\(t.map (·.mac)).Nodup/\∀e∈t,Ic e.mac=true/\H1 e.seen=true:=by
 rw[tableB,zG,zJ,allB_iff];refine and_congr_right λ_=>?_
 constructor
 .intro h;have hi:∀i (hi:i<t.length),Ic t[i].mac=true/\H1 t[i].seen=true/\Dy t t[i].mac=i:=λi hi=>by
   have:=h i hi;simp only[Uv,zG,zJ]at this;exact⟨this.1.1,this.1.2,this.2⟩
  refine⟨?_,λe he=>?_⟩
  .rw[vO,wM];intro i j h1 h2 bu;rw[yW]at h1 h2;rw[vI,vI];intro e;have a:=(hi i h1).2.2;have b:=(hi j h2).2.2;rw[e]at a;omega
  .obtain ⟨i,h1,rfl⟩:=yY.1 he;exact⟨(hi i h1).1,(hi i h1).2.1⟩
 .rintro ⟨h1,h2⟩ i hi;have:=h2 t[i] (zI hi);rw[vO,wM]at h1;have hx:Dy t t[i].mac=i:=Co hi (λ j hj pv=>by
   have:=h1 j i (by rw[yW];exact hj) (by rw[yW];exact hi) pv;rw[vI,vI]at this;exact zK this) (zL E)
  simp only[Uv,zG,zJ];exact⟨⟨this.1,this.2⟩,hx⟩
def Amj{t:List EntryM}{m:Nat}{wh now:Int}{S:Nat->Prop}(h:tableB t=true)(hS:∀e∈t,S e.mac)(hm:S m):tableB (learnT t m wh now)=true/\∀e∈learnT t m wh now,S e.mac:=by
 rw[learnT];split
 .exact⟨h,hS⟩
 rename_i hc;have br:Ic m=true:=by
  cases hh:Ic m
  .exact yA (.inr (.inl hh)) hc
  .rfl
 have htm:H1 now=true:=by
  cases hh:H1 now
  .exact yA (.inr (.inr hh)) hc
  .rfl
 obtain ⟨h1,h2,h3⟩:=tableB_iff.1 h;split
 .rename_i hi;obtain ⟨a,b⟩:=Ai0 (p:=λe:EntryM=>decide (e.mac=m)) (i:=Dy t m) rfl hi;have b:=zO b;refine⟨tableB_iff.2 ⟨by rw[yQ];exact h1,?_,λe he=>?_⟩,λe he=>?_⟩
  .rw[List.map_set];have:(t.map (·.mac)).set (Dy t m).toNat m=t.map (·.mac):=by
    have e2:(t.map (·.mac))[(Dy t m).toNat]'(by rw[yW];exact a)=m:=(vI _).trans b;clear hi hm b;generalize (Dy t m).toNat=i at *;rw[<-e2];exact uO _
   rw[this];exact h2
  .rcases Xw he with he|he
   .exact h3 e he
   .rw[he];exact⟨br,htm⟩
  .rcases Xw he with he|he
   .exact hS e he
   .rw[he];exact hm
 .rename_i hi;have cw:∀e∈t,e.mac≠m:=λe he hh=>by
   have:=Ajv (p:=λe:EntryM=>decide (e.mac=m)) (l:=t) (by show Dy t m<0;omega) e he;exact zT this hh
  have key:∀u:List EntryM,u.length<=7->u.Sublist t->tableB (u++[⟨m,wh,now⟩])=true/\∀e∈u++[⟨m,wh,now⟩],S e.mac:=by
   intro u hu hs;refine⟨tableB_iff.2 ⟨by rw[zQ,zW];omega,?_,λe he=>?_⟩,λe he=>?_⟩
   .rw[wZ,List.nodup_append];refine⟨(hs.map _).nodup h2,by simp,λx hx y hy=>?_⟩;obtain ⟨e,he,rfl⟩:=yS.1 hx;simp at hy;rw[hy];exact cw e (hs.subset he)
   .rcases yH.1 he with he|he
    .exact h3 e (hs.subset he)
    .rw[zX.1 he];exact⟨br,htm⟩
   .rcases yH.1 he with he|he
    .exact hS e (hs.subset he)
    .rw[zX.1 he];exact hm
  split
  .rename_i h8;have ab:oldestU t t.length<t.length\/t.length<=oldestU t t.length:=by omega
   have ho:∀j,j<=t.length->oldestU t j<=j-1\/oldestU t j=0:=by
    intro j
    induction j with
    |zero=>exact λ_=>.inr rfl
    |succ j ih=>
     intro hj;rw[oldestU];split
     .exact .inl q_
     .rcases ih q_ with h|h
      .exact .inl q_
      .exact .inr h
   refine key _ ?_ (List.eraseIdx_sublist ..);have:=ho t.length (yE _);rw[List.length_eraseIdx,zE q_];omega
  .exact key t q_ (List.Sublist.refl _)
section
variable {n:Net} {up:List Bool}
theorem Atx(h:okB n up=true){p:Int}(ho:0<=A4 n p)(hf:((fX n up)[(nth n.ports p).link.toNat]?).getD false=true):∃a b:Nat,p=a/\A4 n p=b/\Ok n up a b/\Ok n up b a/\(Hb n up (Cw n) (Mu n up) (Mz n up) (B6 n a)=a\/Hb n up (Cw n) (Mu n up) (Mz n up) (B6 n b)=b):=by
 obtain ⟨hu,hr,aj⟩:=ok_iff.1 h;have S:=Qw h;obtain ⟨⟨p0,p1⟩,l0,l1⟩:=I0 ho;have e:=(A4 n p)
 have hk:(nth n.ports p).link.toNat<n.links.length:=l1;obtain ⟨a,b,ha,hb,o8,uw,af,d5,oy⟩:=Al9 hr hk;have mw:=Atw S hr aj hk ha hb o8 uw d5 oy;have gd:Ai4 (Zw n up (Cw n) (Mu n up) (Mz n up)) n.links[(nth n.ports p).link.toNat]=true:=by
  rw[fX,Axk,vU,zR hk]at hf;exact hf
 obtain ⟨mo,vk⟩:=mw.1 gd;have h1:=cJ hr hk ha hb d5 o8 mo;have h2:Ok n up b a:=by
  refine⟨uw,?_⟩;have:=h1.2;unfold Eh at this|-;have e1:n.ports.getD a default=nth n.ports a:=rfl;have e2:n.ports.getD b default=nth n.ports b:=rfl;rw[e1]at this;rw[e2];dsimp only at this|-;rw[d5]at this;rw[oy];split at this
  .omega
  .rename_i hc;rw[zD hc];omega
 have hoe:A4 n p=if n.links[(nth n.ports p).link.toNat].a=p then n.links[(nth n.ports p).link.toNat].b else n.links[(nth n.ports p).link.toNat].a:=by
  rw[A4,zE ⟨⟨p0,by omega⟩,l0,hr⟩,Ae hk]
 have ay:=Ha hr p1 (by rw[<-Ae p1];exact l0);rw[<-Ae p1,Ae hk,ha,hb]at ay;rw[ha,hb]at hoe;have j7:((p.toNat:Nat):Int)=p:=yR p0;rw[j7]at ay;by_cases c:(a:Int)=p
 .rw[zE c]at hoe;exact⟨a,b,c.symm,hoe,h1,h2,vk⟩
 .rw[zD c]at hoe;have c2:=ay.2.resolve_left c;exact⟨b,a,c2.symm,hoe,h2,h1,vk.symm⟩
theorem cQ(h:okB n up=true){i j:Nat}(bu:Ok n up i j)(hb:Hb n up (Cw n) (Mu n up) (Mz n up) (B6 n i)=i):nth (Mz n up) (B6 n j)<nth (Mz n up) (B6 n i):=by
 obtain ⟨hu,hr,aj⟩:=ok_iff.1 h;have h1:=lC (Qw h) hr bu hb;have h2:1<=Me n i:=by
  have hi:=bu.1;simp only[Cv,yU,wE]at aj;have:=aj _ (zI hi);simp only[Iz,yO,zJ,uF]at this;rw[Me,Ae (l:=n.ports) (i:=(i:Int)) (kS hi)];simp only[zZ];omega
 omega
theorem A47(h:okB n up=true){p q:Int}(hp:0<=A4 n p)(hq:0<=A4 n q)(fp:((fX n up)[(nth n.ports p).link.toNat]?).getD false=true)(fq:((fX n up)[(nth n.ports q).link.toNat]?).getD false=true)(h1:(nth n.ports p).dev=(nth n.ports q).dev)(h2:(nth n.ports (A4 n p)).dev=(nth n.ports (A4 n q)).dev):p=q:=by
 obtain ⟨a,b,ea,eb,u1,u2,c1⟩:=Atx h hp fp;obtain ⟨c,d,ec,ed,v1,v2,c2⟩:=Atx h hq fq;have uy:=Ud hp;have l7:=Ud hq;rw[eb]at h2 uy;rw[ed]at h2 l7;rw[ea,ec]at h1;have d1:B6 n a=B6 n c:=h1;have d2:B6 n b=B6 n d:=h2;rcases c1 with c1|c1<;>rcases c2 with c2|c2
 .rw[d1,c2]at c1;rw[ea,ec,c1]
 .have x1:=cQ h u1 c1;have x2:=cQ h v2 c2;rw[<-d1,<-d2]at x2;omega
 .have x1:=cQ h u2 c1;have x2:=cQ h v1 c2;rw[<-d1,<-d2]at x2;omega
 .rw[d2,c2]at c1;rw[<-uy,<-l7,<-c1]
end
def Q0(m:MacM)(d X:Int)(l:List QueuedM):queueL (setQ m d l) X=if d.toNat=X.toNat/\X.toNat<m.queues.length then l else queueL m X:=by
 rw[queueL,setQ];dsimp only;rw[tE];split
 .rename_i h;rw[h];split
  .rename_i h2;rw[zE ⟨rfl,h2⟩];rfl
  .rename_i h2;rw[zD (λhh=>h2 hh.2),queueL,wK q_]
 .rename_i h;rw[zD (λhh=>h hh.1)];rfl
structure SameM(m m':MacM):Prop where
 up:m'.up=m.up
 tables:m'.tables=m.tables
 now:m'.now=m.now
 injected:m'.injected=m.injected
 len:m'.queues.length=m.queues.length
theorem SameM.refl(m:MacM):SameM m m:=⟨rfl,rfl,rfl,rfl,rfl⟩
theorem SameM.trans{a b c:MacM}(h:SameM a b)(g:SameM b c):SameM a c:=⟨g.up.trans h.up,g.tables.trans h.tables,g.now.trans h.now,g.injected.trans h.injected,g.len.trans h.len⟩
def X6(m:MacM)(d:Int)(q:QueuedM)(e:Int):SameM m (comeM m d q e):=by
 rw[comeM];split
 .exact⟨E,E,E,E,E⟩
 split
 .exact⟨E,E,E,E,yQ ..⟩
 .exact⟨E,E,E,E,E⟩
def Qk(m:MacM)(d X:Int)(q:QueuedM)(e:Int):queueL (comeM m d q e) X=if e=0/\d.toNat=X.toNat/\X.toNat<m.queues.length/\(queueL m X).length<64 then queueL m X++[q] else queueL m X:=by
 rw[comeM];split
 .rename_i h;rw[zD (λhh=>h hh.1)];rfl
 rename_i h;have h:e=0:=Classical.byContradiction h;have hq:d.toNat=X.toNat->queueL m d=queueL m X:=λhh=>by rw[queueL,queueL,hh]
 rw[pushT];by_cases c:64<=(queueL m d).length
 .rw[zE c,zD y_];split
  .rename_i hh;rw[hq hh.2.1]at c;omega
  .rfl
 .rw[zD c,zE rfl];dsimp only;rw[Q0];by_cases c2:d.toNat=X.toNat/\X.toNat<m.queues.length
  .rw[zE c2,zE ⟨h,c2.1,c2.2,by rw[hq c2.1]at c;omega⟩,hq c2.1]
  .rw[zD c2,zD (λhh=>c2 ⟨hh.2.1,hh.2.2.1⟩)]
def U3(n:Net)(origin X:Int)(o:OutM):List QueuedM :=
 if o.kind=1 then []
 else if o.kind=2 then (if (linkT n o.port o.bytes).2.2.2=0/\(linkT n o.port o.bytes).2.1.toNat=X.toNat then [⟨(linkT n o.port o.bytes).1,0,origin,(linkT n o.port o.bytes).2.2.1⟩] else [])
 else if o.kind=3 then (if (comeT n o.bytes).2.2.2=0/\(comeT n o.bytes).2.1.toNat=X.toNat then [⟨-1,(comeT n o.bytes).1,origin,(comeT n o.bytes).2.2.1⟩] else [])
 else if o.kind=4 then (if o.domain.toNat=X.toNat then [⟨-2,0,origin,o.frame⟩] else [])
 else []
def Yo(n:Net)(origin X:Int)(O:List OutM):List QueuedM:=O.flatMap (U3 n origin X)
def Ac4(n:Net)(m:MacM)(o:OutM)(g:Int):SameM m (goesM n m o g).1:=by
 rw[goesM];split
 .exact SameM.refl m
 split
 .exact X6 m _ _ _
 split
 .exact X6 m _ _ _
 split
 .exact X6 m o.domain ⟨-2,0,g,o.frame⟩ 0
 .exact⟨E,E,E,E,E⟩
def Agr(n:Net)(m:MacM)(o:OutM)(g X:Int)(hX:X.toNat<m.queues.length):queueL (goesM n m o g).1 X=queueL m X++(if (queueL m X).length<64 then U3 n g X o else []):=by
 rw[goesM,U3];split
 .simp
 split
 .rw[Qk]
  grind
 split
 .rw[Qk]
  grind
 split
 .rw[Qk]
  grind
 .have:queueL (De m o.error) X=queueL m X:=rfl;rw[this];simp
def Aju(n:Net)(g X:Int)(o:OutM):(U3 n g X o).length<=1:=by
 rw[U3]
 repeat' split
 all_goals simp
def Agq(n:Net)(g:Int):∀(O:List OutM) (m:MacM),SameM m (goesL n m g O).1
 |[],m=>SameM.refl m
 |o::O,m=>(Ac4 n m o g).trans (Agq n g O _)
def Ac2(n:Net)(g X:Int):∀(O:List OutM) (m:MacM),X.toNat<m.queues.length->(queueL m X).length+(Yo n g X O).length<=64->queueL (goesL n m g O).1 X=queueL m X++Yo n g X O
 |[],m,_,_=>by simp[goesL,Yo]
 |o::O,m,hX,h=>by
  have e:Yo n g X (o::O)=U3 n g X o++Yo n g X O:=rfl;rw[e,zQ]at h;have h1:=Agr n m o g X hX;have hx:(if (queueL m X).length<64 then U3 n g X o else [])=U3 n g X o:=by
   split
   .rfl
   .exact(yC q_).symm
  rw[hx]at h1;show queueL (goesL n (goesM n m o g).1 g O).1 X=_;rw[Ac2 n g X O _ (by rw[(Ac4 n m o g).len];exact hX) (by rw[h1,zQ];omega),h1,e,xF]
def Am2(n:Net)(g X:Int):∀(O:List OutM) (m:MacM),X.toNat<m.queues.length->(queueL (goesL n m g O).1 X).length<=(queueL m X).length+(Yo n g X O).length
 |[],m,_=>by simp[goesL,Yo]
 |o::O,m,hX=>by
  have h1:=Agr n m o g X hX;have h2:=Am2 n g X O (goesM n m o g).1 (by rw[(Ac4 n m o g).len];exact hX);have e:Yo n g X (o::O)=U3 n g X o++Yo n g X O:=rfl;have h3:(queueL (goesM n m o g).1 X).length<=(queueL m X).length+(U3 n g X o).length:=by
   rw[h1,zQ];split<;>simp
  show (queueL (goesL n (goesM n m o g).1 g O).1 X).length<=_;rw[e,zQ];omega
def Agp(n:Net)(g:Int):∀(O:List OutM) (m:MacM) (o:OutM),o∈O->o.kind=1->⟨o.port,g,o.bytes⟩∈(goesL n m g O).2
 |x::O,m,o,h,hk=>by
  show _∈(goesM n m x g).2++(goesL n (goesM n m x g).1 g O).2;rcases yI.1 h with rfl|h
  .refine uU _ ?_;rw[goesM,zE hk];exact zX.2 E
  .exact wX _ (Agp n g O _ o h hk)
def Av4{n:Net}{m:MacM}{d:Int}{pre:List QueuedM}{q:QueuedM}(hd:Ag d m.queues.length=true)(hq:queueL m d=pre++[q]):pickX m d=⟨2,0,d,pre.length,[],[]⟩/\takeM m d pre.length=(setQ m d pre,q,true):=by
 have hl:(queueL m d).length=pre.length+1:=by rw[hq];simp
 refine⟨?_,?_⟩
 .rw[pickX,zE hd,hl,zD q_];congr 1;omega
 .have ht:takeT (pre++[q]) pre.length=(q,pre,true):=by
   rw[takeT,zD kO];simp only[zZ];have e1:(pre++[q])[pre.length]? = some q:=by simp
   have e2:(pre++[q]).eraseIdx pre.length=pre:=by rw[List.eraseIdx_append_of_length_le (yE _)];simp
   rw[e1,e2];rfl
  rw[takeM,hd,zD y_,hq,ht]
def Afy{n:Net}{m:MacM}{d:Int}{pre:List QueuedM}{q:QueuedM}(hd:Ag d m.queues.length=true)(hq:queueL m d=pre++[q]){t':List EntryM}{O:List OutM}(hb:bridgeT n (Kv n m.up) (tableL m d) d q m.now=(t',O,0)):doT n m (pickX m d)=goesL n (Ez (setQ m d pre) d t') q.origin O:=by
 obtain ⟨h1,h2⟩:=Av4 (n:=n) hd hq;rw[h1,doT,zD y_,zE rfl];dsimp only;rw[pickT,h2,zD y_];dsimp only;have hp:Wc n (setQ m d pre) d q=(t',O,0):=hb;rw[hp,O2,zD y_,zD y_]
def Asf{n:Net}{fw:List Bool}{t:List EntryM}{d x:Int}{dst:Nat}(hr:Lr n fw d x=true)(h:Du dst=true\/(Eb n d dst<0/\(findE t dst).2=false)):Dv n fw t d x dst=(C0 n fw x (A7 n d),peersOut n d x,0):=by
 rw[Dv,hr,zD y_];split
 .rfl
 rename_i hg;obtain ⟨h1,h2⟩:=h.resolve_left hg;rw[zD q_,h2,zD (by rintro ⟨hh,_⟩;cases hh),zD (by rintro ⟨hh,_⟩;cases hh)]
def Asl{n:Net}{fw:List Bool}{t:List EntryM}{d:Int}{q:QueuedM}{now:Int}(hr:Lr n fw d q.from_=true)(ht:tableB t=true)(sr:(routerT n d q.frame.dst).2=false)(h:Du q.frame.dst=true\/(Eb n d q.frame.dst<0/\(findE (learnQ t q now) q.frame.dst).2=false)):bridgeT n fw t d q now=(learnQ t q now,(C0 n fw q.from_ (A7 n d)).map (Si n d q.frame)++(peersOut n d q.from_).map (Vh n d q.frame),0):=by
 rw[bridgeT,zD (by rw[hr,ht];decide),sr,zD y_,Asf hr h]
def Asu{n:Net}{irb to e:Int}:∀{x:Int},(addrGo n irb to e x).2=true->lookT n irb (addrGo n irb to e x).1=(to,true)/\Hc n (addrGo n irb to e x).1=false:=by
 intro x
 induction x using addrGo.induct n irb to e with
 |case1 x h1 h2=>intro _;rw[addrGo,zE h1,zE h2];exact⟨Prod.ext h2.2.1 h2.1,h2.2.2⟩
 |case2 x h1 h2 h3=>intro h;rw[addrGo,zE h1,zD h2,zE h3]at h;cases h
 |case3 x h1 h2 h3 h4 ih=>intro h;rw[addrGo,zE h1,zD h2,zD h3,zE h4]at h|-;exact ih h
 |case4 x h1 h2 h3 h4=>intro h;rw[addrGo,zE h1,zD h2,zD h3,zD h4]at h;cases h
 |case5 x h1=>intro h;rw[addrGo,zD h1]at h;cases h
def Arf{n:Net}(hu:C7 n){d:Int}{q:Lead}(hq:q∈routesT n d):(0<=(nth n.domains d).irb)/\∃i:Nat,i<n.irbs.length/\q.domain=(nth n.irbs (i:Int)).domain/\lookT n (nth n.domains d).irb q.addr=((i:Int),true)/\Hc n q.addr=false/\0<=q.addr/\q.addr<4294967296:=by
 rw[routesT]at hq;split at hq
 .rename_i hc;obtain ⟨i,hi,hl⟩:=wA.1 hq;rw[leadF]at hl;split at hl
  .rename_i ha;cases hl;have a6:=Aod hu (nth n.domains d).irb (i:Int);rw[yV]at hi;have h2:=ha;rw[addrT]at h2;split at h2
   .rename_i lr;have e:addrT n (nth n.domains d).irb (i:Int)=addrGo n (nth n.domains d).irb (i:Int) (Hx (nth n.irbs (i:Int)).addr (nth n.irbs (i:Int)).bits) (Eg (nth n.irbs (i:Int)).addr (nth n.irbs (i:Int)).bits):=by rw[addrT,zE lr]
    obtain ⟨a,b⟩:=Asu h2;dsimp only;rw[<-e]at a b;exact⟨hc.2.1,i,hi,E,a,b,a6⟩
   .cases h2
  .cases hl
 .cases hq
def Ay4{n:Net}{a:Int}(h:Hc n a=false){i:Int}(hi:0<=i/\i.toNat<n.irbs.length):(nth n.irbs i).addr≠a:=by
 have h1:Bs (λx:Irb=>x.addr==a) n.irbs<0:=qB h;have:=Ajv h1 _ (Hs hi.2);simpa using this
def Ac8{k a:Type}{f:k->List a}:∀{L:List k},L.Nodup->(∀x∈L,(f x).length<=1)->(∀x∈L,∀y∈L,f x≠[]->f y≠[]->x=y)->(L.flatMap f).length<=1
 |[],_,_,_=>xN _
 |x::L,hn,h1,h2=>by
  rw[vV,zQ];have ih:=Ac8 (L:=L) (List.nodup_cons.1 hn).2 (λy hy=>h1 y (by simp[hy])) (λy hy z hz=>h2 y (by simp[hy]) z (by simp[hz]));by_cases c:f x=[]
  .rw[c,xG];omega
  .have:L.flatMap f=[]:=by
    rw[List.flatMap_eq_nil_iff];intro y hy;exact Classical.byContradiction λhh=>(List.nodup_cons.1 hn).1 (by rw[h2 x y_ y (by simp[hy]) c hh];exact hy)
   rw[this,xG];exact h1 x y_
structure GoF(f:FrameM):Prop where
 ok:FrameOK f
 typ:f.typ≠33024
 len:f.body.length<=1450
 src:Du f.src=false
section
variable {n:Net} (B:BuiltK n)
include B
theorem Awz{d p:Int}(hd:InD n d)(hp:p∈A0 n d)(x6:0<=(nth n.ports p).link)(hl:(linkDomT n p (nth n.domains d).vlan).2=false){f:FrameM}(hf:GoF f):(linkT n p (leaveT n p d f).1).2.2.2≠0:=by
 have hr:=B.right;have hb:=hf.len;rw[Z3 hr hd hp hf.typ q_];dsimp only;obtain ⟨eo,gb,em⟩:=(C1 hr hd).1 hp;have ho:0<=A4 n p:=by
  have h2:=Ha hr eo.2 (by rw[<-Ae eo.2];exact x6);have ak:=hr;simp only[Ac,zG]at ak;have h3:=allB_iff.1 ak.1.1.1.1.2 _ h2.1;rw[A4,zE ⟨⟨eo.1,by omega⟩,x6,hr⟩,Ae eo.2,Ae h2.1];simp only[M2,Ag,zG,zJ]at h3;split
  .exact h3.1.1.1.2.1
  .exact h3.1.1.1.1.1
 have kg:C4 n p (nth n.domains d).vlan=0:=Classical.byContradiction λhh=>by
  have hx:crossT n p (nth n.domains d).vlan=(A4 n p,C4 n p (nth n.domains d).vlan,true):=zE ⟨ho,em,hh⟩;rw[linkDomT,hx,zE rfl]at hl;cases hl
 have yd:=D2 ho;have fc:=(Er hr hd.2).2.1;rw[<-Ae hd.2]at fc;have ay:Ag (A4 n p) n.ports.length=true:=by rw[Ag,zL ho,zL q_];rfl
 rw[linkT,zD q_];dsimp only;rw[C4]at kg;by_cases c:(nth n.domains d).vlan=(nth n.ports p).native
 .rw[zE c]at kg|-;rw[enterT,zD (by rw[ay,hr];decide),Js hf.ok];dsimp only;rw[zD y_,zD hf.typ,He,hf.src,zD y_];have hv:vlanT (nth n.ports (A4 n p)) false 0=((nth n.ports (A4 n p)).native,false):=by rw[vlanT,zE (.inl rfl),zK (λhh=>hh kg)]
  rw[hv,zE rfl];decide
 .rw[zD c]at kg|-;obtain ⟨s1,s2,s3⟩:=eQ (v:=(nth n.domains d).vlan) hf.ok hf.typ q_ ⟨by omega,fc.2⟩;rw[enterT,zD (by rw[ay,hr];decide),Js s1];dsimp only;rw[zD y_,zE s2,s3];dsimp only;rw[zD y_,He,hf.src,zD y_];have a6:inB (nth n.ports (A4 n p)).tagged (nth n.domains d).vlan=false:=by
   cases hh:inB (nth n.ports (A4 n p)).tagged (nth n.domains d).vlan
   .rfl
   .rw[hh,zE rfl]at kg;omega
  have hv:vlanT (nth n.ports (A4 n p)) true (nth n.domains d).vlan=(0,false):=by rw[vlanT,zD (by rintro (hh|hh);cases hh;omega),a6];rfl
  rw[hv,zE rfl];decide
theorem Q2{d:Int}(hd:InD n d):A7 n d=A0 n d:=by rw[A0,zE ⟨⟨hd.1,by have:=hd.2;omega⟩,B.right⟩]
theorem Aik{d p:Int}(hd:InD n d)(hp:p∈A0 n d){f:FrameM}(hf:GoF f):Si n d f p=⟨if (nth n.ports p).link<0 then 1 else 2,p,0,(leaveT n p d f).1,noF,0⟩:=by
 have hb:=hf.len;rw[Si,O8,zD];rw[Z3 B.right hd hp hf.typ q_];exact λhh=>hh E
theorem A4i{d k:Int}(hd:InD n d)(hk:k∈(nth n.domains d).peers){f:FrameM}(hf:GoF f):Vh n d f k=⟨3,0,k,(meshT n d k f).1,noF,0⟩:=by
 rw[Vh,O8,zD];intro hh;exact hh (fJ B hd hk hf.ok hf.typ hf.len hf.src).1
theorem dX{d p X g:Int}(hd:InD n d)(hX:InD n X)(hp:p∈A0 n d){f:FrameM}(hf:GoF f):U3 n g X (Si n d f p)=if linkDomT n p (nth n.domains d).vlan=(X,true) then [⟨A4 n p,0,g,f⟩] else []:=by
 have hb:=hf.len;rw[Aik B hd hp hf,U3];by_cases hl:(nth n.ports p).link<0
 .rw[zE (by rw[zE hl]),zD];intro e;have h2:(crossT n p (nth n.domains d).vlan).2.2=true:=by
   cases so:(crossT n p (nth n.domains d).vlan).2.2
   .rw[linkDomT,zD (by rw[so];decide)]at e;cases e
   .rfl
  rw[crossT]at h2;split at h2
  .rename_i hc;have:=(I0 hc.1).2.1;omega
  .cases h2
 .rw[zD (by rw[zD hl];simp),zE (by rw[zD hl])];dsimp only;cases hc:(linkDomT n p (nth n.domains d).vlan).2 with
  |false=>
   rw[zD (λhh=>Awz B hd hp q_ hc hf hh.1),zD (λhh=>by rw[hh]at hc;cases hc)]
  |true=>
   have e:linkDomT n p (nth n.domains d).vlan=((linkDomT n p (nth n.domains d).vlan).1,true):=Prod.ext rfl hc;have a6:=Mg hc;rw[Aw0 B hd hp e hf.ok hf.typ q_ hf.src];dsimp only;by_cases c:(linkDomT n p (nth n.domains d).vlan).1=X
   .rw[zE ⟨rfl,by rw[c]⟩,zE (by rw[e,c])]
   .rw[zD (λhh=>c (by have:=hh.2;have:=hX.1;omega)),zD (λhh=>c (by rw[hh]))]
theorem dY{d k X g:Int}(hd:InD n d)(hX:InD n X)(hk:k∈(nth n.domains d).peers){f:FrameM}(hf:GoF f):U3 n g X (Vh n d f k)=if k=X then [⟨-1,d,g,f⟩] else []:=by
 have ck:=(S3 B.right hd hk).1;rw[A4i B hd hk hf,U3,zD (by dsimp only;decide),zD (by dsimp only;decide),zE rfl];dsimp only;rw[(fJ B hd hk hf.ok hf.typ hf.len hf.src).2];dsimp only;by_cases c:k=X
 .rw[zE ⟨rfl,by rw[c]⟩,zE c]
 .rw[zD (λhh=>c (by have:=hh.2;have:=hX.1;have:=ck.1;omega)),zD c]
theorem Ald{d:Int}(hd:InD n d):(nth n.domains d).peers.Nodup:=by
 have h:=B.right;simp only[Ac,zG]at h;have h1:=allB_iff.1 h.1.1.1.1.1.1.2 _ hd.2;rw[<-Ae hd.2]at h1;rw[O3,allB_iff]at h1;rw[vO,wM];intro i j hi hj bu e;have a:=h1 i hi;have b:=h1 j hj;simp only[zG,yJ]at a b;rw[e]at a;omega
theorem Aew(d:Int):(A7 n d).Nodup:=by
 rw[A7,Ii];rw[vO,List.pairwise_map];exact(vO.1 (List.nodup_range.filter _)).imp λh e=>h (Int.ofNat.inj e)
theorem Ac7{fw:List Bool}{up:List Bool}(mo:okB n up=true)(gd:fw=fX n up){d x X g:Int}(hd:InD n d)(hX:InD n X){f:FrameM}(hf:GoF f):∃A C:List QueuedM,Yo n g X ((C0 n fw x (A7 n d)).map (Si n d f)++(peersOut n d x).map (Vh n d f))=A++C/\A.length<=1/\C.length<=1 /\
   (∀a∈A,∃p∈A0 n d,linkDomT n p (nth n.domains d).vlan=(X,true)/\a=⟨A4 n p,0,g,f⟩)/\(∀c∈C,X∈(nth n.domains d).peers/\c=⟨-1,d,g,f⟩) /\
   (∀p∈A0 n d,p≠x->usableB n fw p=true->linkDomT n p (nth n.domains d).vlan=(X,true)->A≠[])/\(x≠-1->X∈(nth n.domains d).peers->C≠[]):=by
 have ey:∀p,p∈C0 n fw x (A7 n d)->p∈A0 n d/\usableB n fw p=true:=by
  intro p hp;rw[C0,uB]at hp;refine⟨by rw[<-Q2 B hd];exact hp.1,?_⟩;have:=hp.2;simp only[yU,xX,wW]at this;exact this.2
 have fy:∀k,k∈peersOut n d x->k∈(nth n.domains d).peers:=by
  intro k hk;rw[peersOut]at hk;split at hk
  .cases hk
  .exact hk
 refine⟨(C0 n fw x (A7 n d)).flatMap λp=>U3 n g X (Si n d f p),(peersOut n d x).flatMap λk=>U3 n g X (Vh n d f k),?_,?_,?_,?_,?_,?_,?_⟩
 .rw[Yo,List.flatMap_append,List.flatMap_map,List.flatMap_map]
 .refine Ac8 ((Aew B d).filter _) (λp _=>Aju ..) λp hp q hq h1 h2=>?_
  obtain ⟨p1,p2⟩:=ey p hp;obtain ⟨q1,q2⟩:=ey q hq;rw[dX B hd hX p1 hf]at h1;rw[dX B hd hX q1 hf]at h2;have e1:linkDomT n p (nth n.domains d).vlan=(X,true):=Classical.byContradiction λhh=>h1 (zD hh)
  have e2:linkDomT n q (nth n.domains d).vlan=(X,true):=Classical.byContradiction λhh=>h2 (zD hh)
  obtain ⟨_,b1,_⟩:=Ta B.right hd p1 e1;obtain ⟨_,b2,_⟩:=Ta B.right hd q1 e2;have m1:=(C1 B.right hX).1 b1;have m2:=(C1 B.right hX).1 b2;have n1:=(C1 B.right hd).1 p1;have n2:=(C1 B.right hd).1 q1;have l1:=(I0 m1.1.1).2.1;have l2:=(I0 m2.1.1).2.1;have u:∀{z:Int},usableB n fw z=true->0<=(nth n.ports z).link->((fX n up)[(nth n.ports z).link.toNat]?).getD false=true:=by
   intro z hz hl;rw[usableB,zK q_,vQ,gd]at hz;exact hz
  exact A47 mo m1.1.1 m2.1.1 (u p2 l1) (u q2 l2) (by rw[n1.2.1,n2.2.1]) (by rw[m1.2.1,m2.2.1])
 .refine Ac8 ?_ (λp _=>Aju ..) λp hp q hq h1 h2=>?_
  .rw[peersOut];split
   .exact List.nodup_nil
   .exact Ald B hd
  .rw[dY B hd hX (fy p hp) hf]at h1;rw[dY B hd hX (fy q hq) hf]at h2;have e1:p=X:=Classical.byContradiction λhh=>h1 (zD hh)
   have e2:q=X:=Classical.byContradiction λhh=>h2 (zD hh)
   rw[e1,e2]
 .intro a ha;obtain ⟨p,hp,h⟩:=List.mem_flatMap.1 ha;have p1:=(ey p hp).1;rw[dX B hd hX p1 hf]at h;split at h
  .rename_i e;exact⟨p,p1,e,zX.1 h⟩
  .cases h
 .intro c hc;obtain ⟨k,hk,h⟩:=List.mem_flatMap.1 hc;rw[dY B hd hX (fy k hk) hf]at h;split at h
  .rename_i e;subst e;exact⟨fy _ hk,zX.1 h⟩
  .cases h
 .intro p hp su hu hl h;have a6:p∈C0 n fw x (A7 n d):=by
   rw[C0,uB,Q2 B hd];refine⟨hp,?_⟩;rw[hu,zK su];rfl
  rw[List.flatMap_eq_nil_iff]at h;have:=h p a6;rw[dX B hd hX hp hf,zE hl]at this;cases this
 .intro hx hk h;have a6:X∈peersOut n d x:=by rw[peersOut,zD hx];exact hk
  rw[List.flatMap_eq_nil_iff]at h;have:=h X a6;rw[dY B hd hX hk hf,zE rfl]at this;cases this
end
end Go.Sy.Zaa
