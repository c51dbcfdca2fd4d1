/- Parts of a proof. -/
import Derived.Test.YtodbnbfjhjcanaaGreatDoorXA46
import Derived.Test.YtodbnbfjhjcanaaGreatDoorXA44
set_option linter.all false
namespace Go.Sy.Zaa
open Go.Proofs Go.Proofs.Tryz
structure CameM(n:Net)(bp:Int->Int)(m:MacM):Prop where
 len:m.queues.length=n.domains.length
 all:∀X,InD n X->∀q∈queueL m X,K9 n (bp q.origin) X q.frame
def SawP(n:Net)(bp:Int->Int)(s:SeenM):Prop:=∃k y,Walk n (bp s.origin) k y/\s.port∈Bj n y.1
structure OutC(n:Net)(p:Int)(o:OutM):Prop where
 seen:o.kind=1->∃k y,Walk n p k y/\o.port∈Bj n y.1
 link:o.kind=2->(linkT n o.port o.bytes).2.2.2=0->K9 n p (linkT n o.port o.bytes).2.1 (linkT n o.port o.bytes).2.2.1
 mesh:o.kind=3->(comeT n o.bytes).2.2.2=0->K9 n p (comeT n o.bytes).2.1 (comeT n o.bytes).2.2.1
 route:o.kind=4->InD n o.domain/\K9 n p o.domain o.frame
def Axj{n:Net}{p:Int}{o:OutM}(h:o.kind=5):OutC n p o:=⟨λe=>by omega,λe=>by omega,λe=>by omega,λe=>by omega⟩
section
variable {n:Net} {bp:Int->Int}
theorem CameM.same{m m':MacM}(h:CameM n bp m)(e:m'.queues=m.queues):CameM n bp m':=⟨by rw[e];exact h.len,λX hX q hq=>h.all X hX q (by rw[queueL,e]at hq;exact hq)⟩
theorem CameM.setQ{m:MacM}(h:CameM n bp m){d:Int}{l:List QueuedM}(hl:InD n d->∀q∈l,K9 n (bp q.origin) d q.frame)(hd:0<=d):CameM n bp (setQ m d l):=by
 refine⟨by show (m.queues.set _ _).length=_;rw[yN];exact h.len,λX hX q hq=>?_⟩;rw[J6]at hq;split at hq
 .rename_i hc;have e:d=X:=by have:=hX.1;omega
  subst e;exact hl hX q hq
 .exact h.all X hX q hq
theorem CameM.come{m:MacM}(h:CameM n bp m){d:Int}{q:QueuedM}{e:Int}(hq:e=0->InD n d/\K9 n (bp q.origin) d q.frame):CameM n bp (comeM m d q e):=by
 rw[comeM];split
 .exact h.same E
 rename_i he;obtain ⟨hd,hc⟩:=hq (Classical.byContradiction he);split
 .refine h.setQ (λ_ x hx=>?_) hd.1;rw[pushT]at hx;split at hx
  .exact h.all d hd x hx
  .rcases yI.1 hx with hx|hx
   .exact h.all d hd x hx
   .rw[zZ.1 hx];exact hc
 .exact h.same E
theorem CameM.goes{m:MacM}(h:CameM n bp m){o:OutM}{g:Int}(ho:OutC n (bp g) o):CameM n bp (goesM n m o g).1/\∀s∈(goesM n m o g).2,SawP n bp s:=by
 rw[goesM];split
 .rename_i hk;refine⟨h,λs hs=>?_⟩;rw[zZ.1 hs];exact ho.seen hk
 split
 .rename_i hk;exact⟨h.come λe=>⟨Wv e,ho.link hk e⟩,λs hs=>(by cases hs)⟩
 split
 .rename_i hk;exact⟨h.come λe=>⟨(Sx e).2,ho.mesh hk e⟩,λs hs=>(by cases hs)⟩
 split
 .rename_i hk;exact⟨h.come (d:=o.domain) (q:=⟨-2,0,g,o.frame⟩) (e:=0) λ_=>ho.route hk,λs hs=>(by cases hs)⟩
 .exact⟨h.same rfl,λs hs=>(by cases hs)⟩
theorem CameM.goesL{g:Int}:∀(l:List OutM) {m:MacM},CameM n bp m->(∀o∈l,OutC n (bp g) o)->CameM n bp (goesL n m g l).1/\∀s∈(Go.Sy.Zaa.goesL n m g l).2,SawP n bp s
 |[],m,h,_=>⟨h,λs hs=>(by cases hs)⟩
 |o::l,m,h,ho=>by
  obtain ⟨h1,h2⟩:=h.goes (ho o qq);obtain ⟨h3,h4⟩:=CameM.goesL l h1 λo h=>ho o (by simp[h])
  rw[Go.Sy.Zaa.goesL];refine⟨h3,λs hs=>?_⟩;rcases yI.1 hs with hs|hs
  .exact h2 s hs
  .exact h4 s hs
theorem CameM.take{m:MacM}(h:CameM n bp m)(d a:Int):CameM n bp (takeM m d a).1/\((takeM m d a).2.2=true->InD n d/\K9 n (bp (takeM m d a).2.1.origin) d (takeM m d a).2.1.frame):=by
 rw[takeM];split
 .exact⟨h,λe=>(by cases e)⟩
 rename_i hp;have hd:InD n d:=by
  have hp:Af d m.queues.length=true:=kS hp;rw[h.len]at hp;exact Iq hp
 rw[takeT];split
 .exact⟨h.setQ (λhd q hq=>h.all d hd q hq) hd.1,λe=>(by cases e)⟩
 .rename_i hc;refine⟨h.setQ (λhd q hq=>h.all d hd q (uK hq)) hd.1,λ_=>⟨hd,?_⟩⟩;exact h.all d hd _ (Om z_)
end
section
variable {n:Net} (B:BuiltK n) (hu:C7 n) (cj:FarK n)
include B hu cj
theorem Wb{p X:Int}{fw:List Bool}{t:List EntryM}{q:QueuedM}{now:Int}(hX:InD n X)(hc:K9 n p X q.frame):∀o∈(bridgeT n fw t X q now).2.1,OutC n p o:=by
 intro o ho;rw[bridgeT]at ho;split at ho
 .cases ho
 split at ho
 .rename_i em;split at ho
  .cases ho
  rename_i he;have he:(hopT n (routerT n X q.frame.dst).1 q.frame).2.2=0:=Classical.byContradiction he;rw[zZ.1 ho];refine⟨λe=>(by cases e),λe=>(by cases e),λe=>(by cases e),λ_=>⟨?_,Akn B hu cj hX hc em he⟩⟩;exact Akp (λd hd=>(mem_ways.1 (Lf hd).1).1) he
 .rcases yI.1 ho with h|h
  .obtain ⟨i,_,rfl⟩:=yS.1 h;rw[lA,Sf];split
   .exact Axj E
   rename_i he;have he:(leaveT n i X q.frame).2=0:=Classical.byContradiction he;refine⟨λ_=>?_,λ_ e=>At5 B.right hX hc he e,λe=>?_,λe=>?_⟩
   .have hm:=(aJ B.right hX hc.1 he).1;obtain ⟨_,k,hw⟩:=hc;rcases hw with hw|hw
    .exact⟨k,_,hw,hm⟩
    .exact⟨k,_,hw.1,hm⟩
   .dsimp only at e;split at e<;>cases e
   .dsimp only at e;split at e<;>cases e
  .obtain ⟨i,_,rfl⟩:=yS.1 h;rw[oQ,Sf];split
   .exact Axj E
   rename_i he;have he:(meshT n X i q.frame).2=0:=Classical.byContradiction he;exact⟨λe=>(by cases e),λe=>(by cases e),λ_ _=>Att B hX hc he,λe=>(by cases e)⟩
theorem CameM.pick{bp:Int->Int}{m:MacM}(h:CameM n bp m)(d a:Int):CameM n bp (pickT n m d a).1/\∀s∈(pickT n m d a).2,SawP n bp s:=by
 obtain ⟨h1,h2⟩:=h.take d a;rw[pickT];split
 .exact⟨h1,λs hs=>(by cases hs)⟩
 rename_i hc;obtain ⟨hd,hf⟩:=h2 (kS hc);refine CameM.goesL _ ?_ λo ho=>Wb B hu cj hd hf o ho
 rw[pickD];split
 .exact h1.same E
 split
 .exact h1.same E
 .exact h1.same E
theorem CameM.do{bp:Int->Int}{m:MacM}(h:CameM n bp m)(x:StepM)(hx:Mt n x=1->bp (m.injected+1)=x.port):CameM n bp (doT n m x).1/\∀s∈(doT n m x).2,SawP n bp s:=by
 rw[doT];split
 .rename_i hk;refine⟨?_,λs hs=>(by cases hs)⟩;rw[injectT];split
  .exact h
  rename_i hc;have hi:Mt n x=1:=by
   rw[Mt,zE];simp only[vW,Bool.not_eq_false]at hc;exact⟨hk,hc.1,by omega⟩
  refine CameM.come (m:=⟨m.up,m.tables,m.queues,m.now,m.injected+1,m.drops⟩) (d:=(enterT n x.port x.bytes).1) (q:=⟨x.port,0,m.injected+1,(enterT n x.port x.bytes).2.1⟩) (e:=(enterT n x.port x.bytes).2.2) (h.same E) λe=>⟨Oq e,?_⟩
  dsimp only;rw[hx hi];obtain ⟨h1,h2⟩:=Aew e;exact⟨h1,0,.inl (.start h2)⟩
 split
 .exact h.pick B hu cj _ _
 split
 .exact⟨(h.take _ _).1,λs hs=>(by cases hs)⟩
 split
 .exact⟨h.same rfl,λs hs=>(by cases hs)⟩
 split
 .split
  .exact⟨h.same rfl,λs hs=>(by cases hs)⟩
  .exact⟨h,λs hs=>(by cases hs)⟩
 .exact⟨h,λs hs=>(by cases hs)⟩
theorem CameM.run{bp:Int->Int}:∀(l:List StepM) {m:MacM},Hj m->CameM n bp m->(∀(i:Nat) (h:i<(l.filter λx=>decide (Mt n x=1)).length),bp (m.injected+1+i)=((l.filter λx=>decide (Mt n x=1))[i]).port)->∀s∈(C2 n m l).2,SawP n bp s
 |[],m,_,_,_,s,hs=>by cases hs
 |x::l,m,hg,h,hb,s,hs=>by
  obtain ⟨g1,g2⟩:=Arg (n:=n) hg x;have d6:Mt n x=1->bp (m.injected+1)=x.port:=λhi=>by
   have hf:(x::l).filter (λx=>decide (Mt n x=1))=x::l.filter λx=>decide (Mt n x=1):=tF (zK hi)
   have:=hb 0 (by rw[hf];simp);simp only[hf]at this;simpa using this
  obtain ⟨h1,h2⟩:=h.do B hu cj x d6
  rw[C2]at hs;rcases yI.1 hs with hs|hs
  .exact h2 s hs
  .refine CameM.run l g1 h1 (λi hi=>?_) s hs;rw[g2];by_cases c:Mt n x=1
   .have hf:(x::l).filter (λx=>decide (Mt n x=1))=x::l.filter λx=>decide (Mt n x=1):=tF (zK c)
    have:=hb (i+1) (by rw[hf,yL];omega);simp only[hf,tN]at this;rw[<-this,c];congr 1;omega
   .have hf:(x::l).filter (λx=>decide (Mt n x=1))=l.filter λx=>decide (Mt n x=1):=tG (kS c)
    have hz:Mt n x=0:=by
     rw[Mt]at c|-;split at c
     .exact zX E c
     .rename_i hh;rw[zD hh]
    have:=hb i (by rw[hf];exact hi);simp only[hf]at this;rw[<-this,hz];congr 1;omega
end
def Axz(n:Net)(bp:Int->Int):CameM n bp (newT n):=by
 refine⟨by show (List.replicate n.domains.length ([]:List QueuedM)).length=_;simp,λX hX q hq=>?_⟩;have:queueL (newT n) X=[]:=by
  show ((List.replicate n.domains.length ([]:List QueuedM))[X.toNat]?).getD []=[];rw[List.getElem?_replicate];split<;>rfl
 rw[this]at hq;cases hq
def Ad5{n:Net}{bp:Int->Int}{m:MacM}(h:CameM n bp m)(tabs:List (List EntryM)):∀j,CameM n bp (Kb m tabs j)
 |0=>h
 |j+1=>by
  rw[Kb,Sg];have:=Ad5 h tabs j;split
  .exact this
  rw[loadT]
  repeat' split
  all_goals (first|exact this.same rfl|exact this)
def eQ{n:Net}{ow:List Int}{f:Nat}{a:Int}:∀(l:List Int) (i:Nat),Tv n ow f a i l=none->∀(k:Nat) (h:k<l.length),¬(a<0\/l[k]<0\/a=l[k])->(wayT n f ((i+k:Nat):Int)).2=false
 |[],i,_,k,h=>by cases h
 |b::r,i,hn,k,h=>by
  intro hk;rw[Tv]at hn;split at hn
  .cases hn
  rename_i hc;cases k with
  |zero=>
   have hw:¬(wayT n f ((i:Nat):Int)).2=true:=λhw=>hc ⟨hk,hw⟩
   simpa using hw
  |succ k=>
   have:=eQ r (i+1) hn k (by rw[yL]at h;omega) hk;rw[show i+1+k=i+(k+1) by omega]at this;exact this
def eR{n:Net}{ow:List Int}:∀(l:List Int) (i:Nat),(Yv n ow i l).2.2=false->∀(f:Nat) (hf:f<l.length) (t:Nat) (ht:t<ow.length),¬(l[f]<0\/ow[t]<0\/l[f]=ow[t])->(wayT n ((i+f:Nat):Int) (t:Nat)).2=false
 |[],i,_,f,hf=>by cases hf
 |a::r,i,hn,f,hf=>by
  intro t ht hk;rw[Yv]at hn;cases hl:Tv n ow i a 0 ow with
  |some to=>rw[hl]at hn;cases hn
  |none=>
   rw[hl]at hn;cases f with
   |zero=>
    have:=eQ ow 0 hl t ht hk;rw[xW]at this;exact this
   |succ f=>
    have:=eR r (i+1) hn f (by rw[yL]at hf;omega) t ht hk;rw[show i+1+f=i+(f+1) by omega]at this;exact this
def Aov{n:Net}{of:List Int}(ho:Hb n of=true)(h:(leaksT n of).2.2=false){p q:Int}(hp:Af p of.length=true)(hq:Af q of.length=true)(h1:0<=nth of p)(h2:0<=nth of q)(ag:nth of p≠nth of q):(wayT n p q).2=false:=by
 rw[leaksT,zD (by rw[ho];decide)]at h;simp only[Af,zG,zJ]at hp hq;have ff:p.toNat<of.length:=by omega
 have hq2:q.toNat<of.length:=by omega
 have:=eR of 0 h p.toNat ff q.toNat hq2 (by
  rw[Ag ff]at h1 ag;rw[Ag hq2]at h2 ag;rintro (hh|hh|hh)
  .omega
  .omega
  .exact ag hh)
 rwa [xW,yR hp.1,yR hq.1]at this
def Ay2{n:Net}{of:List Int}(ho:Hb n of=true)(x:StepM):A16 of x=decide (Mt n x=1):=by
 have ha:=cX ho;unfold A16 Mt;by_cases hk:x.kind=1
 .cases hp:Af x.port of.length
  .rw[ha.1]at hp;simp[hp]
  .have hw:=ha.2.2 x.port hp;rw[ha.1]at hp;by_cases hl:(nth n.ports x.port).link<0
   .rw[zE hl]at hw;simp[hk,hp,hl,hw.1]
   .rw[zD hl]at hw;simp[hk,hp,hl,hw]
 .simp[hk]
inductive HopP(n:Net):Int->Int->Prop
 |refl (X:Int):HopP n X X
 |step {X Y:Int} {g:Hop}:g∈C4 n X->HopP n g.domain Y->HopP n X Y
def InT(n:Net)(of:List Int)(t X:Int):Prop:=∃Y h,HopP n X Y/\h∈Bj n Y/\Eg n h=true/\nth of h=t
def Agu{n:Net}{of:List Int}{t X:Int}{g:Hop}(hg:g∈C4 n X):InT n of t X↔InT n of t g.domain:=by
 constructor
 .rintro ⟨Y,h,hp,r⟩;obtain ⟨b,hb,e⟩:=Aui hg;exact⟨Y,h,.step hb (by rw[e];exact hp),r⟩
 .rintro ⟨Y,h,hp,r⟩;exact⟨Y,h,.step hg hp,r⟩
def Adc{n:Net}{p X Y:Int}(h:HopP n X Y):∀{k:Nat} {y:Int},Walk n p k (X,y)->∃k',Walk n p k' (Y,y):=by
 induction h with
 |refl=>exact λhw=>⟨_,hw⟩
 |step hg _ ih=>exact λhw=>ih (.step hw (.inl ⟨_,hg,rfl⟩))
def Avo{n:Net}{of:List Int}{p:Int}(hr:Ac n=true)(hp:Eg n p=true){k:Nat}{x:Int×Int}(hw:Walk n p k x):x.2=0->InT n of (nth of p) x.1:=by
 induction hw with
 | @start x hs=>
  intro _;obtain ⟨d,e⟩:∃d,x=(d,0):=by obtain ⟨v,_,_,e⟩:=hs;exact⟨_,e⟩
  subst e;exact⟨d,p,.refl _,inB_iff.1 ((Am3 hr (So hp)).1 hs).2,hp,E⟩
 | @step k x y hw hs ih=>
  intro h0;rcases hs with ⟨h,hh,e⟩|⟨_,q,_,e⟩
  .subst e;exact(Agu hh).1 (ih h0)
  .subst e;exact zX h0 (show ¬(1:Int)=0 by decide)
structure Iso(n:Net)(of:List Int):Prop where
 B:BuiltK n
 hu:C7 n
 far:FarK n
 ow:Hb n of=true
 hl:(leaksT n of).2.2=false
section
variable {n:Net} {of:List Int} (I:Iso n of)
include I
theorem Iso.placed{p:Int}(h:Eg n p=true):Af p of.length=true/\0<=nth of p:=by
 have ha:=cX I.ow;simp only[Eg,zG,zJ]at h;have hp:Af p of.length=true:=by rw[Af,zK h.1.1,zK (by rw[ha.1];exact h.1.2)];rfl
 have:=ha.2.2 p hp;rw[zE h.2]at this;exact⟨hp,this.1⟩
theorem Iso.host{p t:Int}(ht:0<=t)(hp:Af p of.length=true)(h:nth of p=t):Eg n p=true:=by
 have ha:=cX I.ow;have h2:=ha.2.2 p hp;rw[ha.1]at hp;simp only[Af,zG,zJ]at hp;split at h2
 .rename_i hl;rw[Eg,zK hp.1,zK hp.2,zK hl];rfl
 .omega
theorem Iso.only{p X t:Int}{f:FrameM}(hp:Eg n p=true)(hc:K9 n p X f)(hX:InT n of t X):nth of p=t:=by
 obtain ⟨Y,h,hq,hm,hh,e⟩:=hX;subst e;refine Classical.byContradiction λag=>?_
 have p1:=I.placed hp;have p2:=I.placed hh;have tc:=Aov I.ow I.hl p1.1 p2.1 p1.2 p2.2 ag;obtain ⟨_,k,hw⟩:=hc;have:∃k y,Walk n p k (Y,y):=by
  rcases hw with hw|⟨hw,_⟩
  .obtain ⟨k',h'⟩:=Adc hq hw;exact⟨k',_,h'⟩
  .obtain ⟨k',h'⟩:=Adc hq hw;exact⟨k',_,h'⟩
 obtain ⟨k',y,rn⟩:=this;exact(way_short.2 tc).2 I.B.right hp hh (λe=>ag (by rw[e])) k' _ rn (inB_iff.2 hm)
omit I in
theorem Anb(B:BuiltK n)(hu:C7 n)(cj:FarK n){d:Int}(hd:InD n d){f:FrameM}(hf:A0q f)(em:(routerT n d f.dst).2=true)(h:(hopT n (routerT n d f.dst).1 f).2.2=0):False:=by
 have hr:=B.right;have ug:(routerT n d f.dst).1=(nth n.domains d).irb/\0<=(nth n.domains d).irb/\D7 (nth n.irbs (nth n.domains d).irb).addr=f.dst:=by
  rw[routerT]at em|-;split at em
  .cases em
  rename_i h1;rw[zD h1];split at em
  .cases em
  rename_i h2;rw[zD h2];simp only[vW,Decidable.not_not]at h2;exact⟨E,by omega,h2.2⟩
 obtain ⟨e,h0,hm⟩:=ug;rw[e]at h;have hi:InIrbs n (nth n.domains d).irb:=⟨h0,by
  have h2:=(I3 hr hd.2).2.2;rw[<- Ag hd.2]at h2;omega⟩
 have rh:=hu _ (L9 hi.2);rw[hopT]at h;split at h
 .cases h
 split at h
 .cases h
 split at h
 .rename_i h3;exact zX h h3
 split at h
 .cases h
 split at h
 .cases h
 rename_i h5;have h5:(lookT n (nth n.domains d).irb (ipTakeT f.body).1.dst).2=true:=kS h5;obtain ⟨pk,g1,g2,g3⟩:=hf;rw[g1]at h5;dsimp only at h5;have hx:0<=((pk.dst:Nat):Int)/\((pk.dst:Nat):Int)<4294967296:=⟨vI _,by omega⟩
 rw[g3]at hm;have ea:=Akj rh.1 hx.1 hm;have ht:=Aae hr hu cj hx h5;have:Hp n ((pk.dst:Nat):Int)=true:=takenA_iff.2 ⟨_,hi.2,by rw[<-Ag hi.2];exact ea⟩;rw[this]at ht;cases ht
omit I in
structure OutF(n:Net)(of:List Int)(t:Int)(o:OutM):Prop where
 seen:o.kind=1->¬(Af o.port of.length=true/\nth of o.port=t)
 link:o.kind=2->(linkT n o.port o.bytes).2.2.2=0->¬InT n of t (linkT n o.port o.bytes).2.1
 mesh:o.kind=3->(comeT n o.bytes).2.2.2=0->¬InT n of t (comeT n o.bytes).2.1
 route:o.kind=4->¬InT n of t o.domain
omit I in
theorem Axi{t:Int}{o:OutM}(h:o.kind=5):OutF n of t o:=⟨λe=>by omega,λe=>by omega,λe=>by omega,λe=>by omega⟩
omit I in
theorem At8(hr:Ac n=true){d i:Int}(hd:InD n d){f:FrameM}(hf:EntF f)(hl:(leaveT n i d f).2=0)(he:(linkT n i (leaveT n i d f).1).2.2.2=0):∃g∈C4 n d,g.domain=(linkT n i (leaveT n i d f).1).2.1:=by
 obtain ⟨hm,h⟩:=aJ hr hd hf hl;obtain ⟨h1,h2⟩:=h he;refine⟨⟨1,i,(linkT n i (leaveT n i d f).1).2.1,0⟩,?_,E⟩;rw[C4,zE ⟨⟨hd.1,by have:=hd.2;omega⟩,hr⟩,hopsL];refine tZ _ (wL.2 ⟨i,hm,?_⟩);rw[linkHop,h1,zE rfl]
omit I in
theorem Atv(B:BuiltK n){d k:Int}(hd:InD n d){f:FrameM}(hf:EntF f)(h:(meshT n d k f).2=0):∃g∈C4 n d,g.domain=(comeT n (meshT n d k f).1).2.1:=by
 obtain ⟨h1,h2⟩:=Ajr B hd hf h;rw[h2];refine⟨⟨2,0,k,0⟩,?_,E⟩;rw[C4,zE ⟨⟨hd.1,by have:=hd.2;omega⟩,B.right⟩,hopsL];exact uF _ (yS.2 ⟨k,h1,E⟩)
theorem Iso.bridge_outF{p X t:Int}(ht:0<=t){fw:List Bool}{tb:List EntryM}{q:QueuedM}{now:Int}(hX:InD n X)(hp:Eg n p=true)(hc:K9 n p X q.frame)(hn:¬InT n of t X):∀o∈(bridgeT n fw tb X q now).2.1,OutF n of t o:=by
 intro o ho;rw[bridgeT]at ho;split at ho
 .cases ho
 split at ho
 .rename_i em;split at ho
  .cases ho
  rename_i he;have he:(hopT n (routerT n X q.frame.dst).1 q.frame).2.2=0:=Classical.byContradiction he;rw[zZ.1 ho];refine⟨λe=>(by cases e),λe=>(by cases e),λe=>(by cases e),λ_ az=>?_⟩;have wc:=Akn I.B I.hu I.far hX hc em he;have wa:=I.only hp wc az;obtain ⟨_,k,hw⟩:=hc;rcases hw with hw|⟨_,hrf⟩
  .have:=Avo (of:=of) I.B.right hp hw rfl;rw[wa]at this;exact hn this
  .exact Anb I.B I.hu I.far hX hrf em he
 .rcases yI.1 ho with h|h
  .obtain ⟨i,_,rfl⟩:=yS.1 h;rw[lA,Sf];split
   .exact Axi E
   rename_i he;have he:(leaveT n i X q.frame).2=0:=Classical.byContradiction he;refine⟨λ_ hh=>?_,λ_ e az=>?_,λe=>?_,λe=>?_⟩
   .have hm:=(aJ I.B.right hX hc.1 he).1;exact hn ⟨X,i,.refl _,hm,I.host ht hh.1 hh.2,hh.2⟩
   .obtain ⟨g,hg,eg⟩:=At8 I.B.right hX hc.1 he e;dsimp only at az;rw[<-eg]at az;exact hn ((Agu hg).2 az)
   .dsimp only at e;split at e<;>cases e
   .dsimp only at e;split at e<;>cases e
  .obtain ⟨i,_,rfl⟩:=yS.1 h;rw[oQ,Sf];split
   .exact Axi E
   rename_i he;have he:(meshT n X i q.frame).2=0:=Classical.byContradiction he;refine⟨λe=>(by cases e),λe=>(by cases e),λ_ _ az=>?_,λe=>(by cases e)⟩;obtain ⟨g,hg,eg⟩:=Atv I.B hX hc.1 he;dsimp only at az;rw[<-eg]at az;exact hn ((Agu hg).2 az)
end
def Mw(q:QueuedM):QueuedM:=⟨q.from_,q.peer,0,q.frame⟩
def Ta(s:SeenM):SeenM:=⟨s.port,0,s.bytes⟩
structure RelM(n:Net)(of:List Int)(t:Int)(m m':MacM):Prop where
 up:m'.up=m.up
 now:m'.now=m.now
 tlen:m'.tables.length=m.tables.length
 qlen:m'.queues.length=m.queues.length
 tab:∀X,InD n X->InT n of t X->tableL m' X=tableL m X
 que:∀X,InD n X->InT n of t X->(queueL m' X).map Mw=(queueL m X).map Mw
section
variable {n:Net} {of:List Int} {t:Int}
theorem RelM.refl(m:MacM):RelM n of t m m:=⟨rfl,rfl,rfl,rfl,λ_ _ _=>rfl,λ_ _ _=>rfl⟩
theorem RelM.trans{a b c:MacM}(h:RelM n of t a b)(k:RelM n of t b c):RelM n of t a c:=⟨k.up.trans h.up,k.now.trans h.now,k.tlen.trans h.tlen,k.qlen.trans h.qlen,λX a b=>(k.tab X a b).trans (h.tab X a b),λX a b=>(k.que X a b).trans (h.que X a b)⟩
theorem RelM.symm{a b:MacM}(h:RelM n of t a b):RelM n of t b a:=⟨h.up.symm,h.now.symm,h.tlen.symm,h.qlen.symm,λX a b=>(h.tab X a b).symm,λX a b=>(h.que X a b).symm⟩
theorem Hg(m:MacM)(e:Int):RelM n of t m (C1 m e):=⟨rfl,rfl,rfl,rfl,λ_ _ _=>rfl,λ_ _ _=>rfl⟩
theorem Vb{m:MacM}{d:Int}{l:List QueuedM}(hd:0<=d)(h:InT n of t d->l.map Mw=(queueL m d).map Mw):RelM n of t m (setQ m d l):=by
 refine⟨E,E,E,by show (m.queues.set _ _).length=_;rw[yN],λ_ _ _=>rfl,λX hX hi=>?_⟩;rw[J6];split
 .rename_i hc;have e:d=X:=by have:=hX.1;omega
  subst e;exact h hi
 .rfl
theorem nJ(m:MacM)(d X:Int)(t:List EntryM):tableL (setT m d t) X=if d.toNat=X.toNat/\X.toNat<m.tables.length then t else tableL m X:=by
 rw[tableL,setT];dsimp only;rw[uL];split
 .rename_i h;rw[h];split
  .rename_i h2;rw[zE ⟨rfl,h2⟩];rfl
  .rename_i h2;rw[zD (λhh=>h2 hh.2),tableL,xV z_]
 .rename_i h;rw[zD (λhh=>h hh.1)];rfl
theorem Aiw{m:MacM}{d:Int}{l:List EntryM}(hd:0<=d)(h:¬InT n of t d):RelM n of t m (setT m d l):=by
 refine⟨E,E,by show (m.tables.set _ _).length=_;rw[yN],E,λX hX hi=>?_,λX hX hi=>rfl⟩;rw[nJ];split
 .rename_i hc;have e:d=X:=by have:=hX.1;omega
  subst e;exact zX hi h
 .rfl
theorem Q9{m:MacM}{d:Int}{q:QueuedM}{e:Int}(h:e=0->0<=d/\¬InT n of t d):RelM n of t m (comeM m d q e):=by
 rw[comeM];split
 .exact Hg _ _
 rename_i he;obtain ⟨hd,hn⟩:=h (Classical.byContradiction he);split
 .exact Vb hd λhi=>zX hi hn
 .exact Hg _ _
theorem RelM.come{m m':MacM}(h:RelM n of t m m'){d:Int}{q q':QueuedM}{e:Int}(hd:e=0->InD n d)(hq:Mw q'=Mw q):RelM n of t (comeM m d q e) (comeM m' d q' e):=by
 by_cases he:e=0;rotate_left
 .rw[comeM,comeM,zE he,zE he];exact((Hg m e).symm.trans h).trans (Hg m' e)
 by_cases hi:InT n of t d;rotate_left
 .exact((Q9 (q:=q) λ_=>⟨(hd he).1,hi⟩).symm.trans h).trans (Q9 λ_=>⟨(hd he).1,hi⟩)
 have hX:=hd he;have hm:=h.que d hX hi;have hle:(queueL m' d).length=(queueL m d).length:=by have:=zH List.length hm;simpa using this
 rw[comeM,comeM,zD (show ¬e≠0 from λk=>k he),zD (show ¬e≠0 from λk=>k he),pushT,pushT,hle];by_cases c:64<=(queueL m d).length
 .rw[zE c,zE c,zD qq,zD qq];exact((Hg m 3).symm.trans h).trans (Hg m' 3)
 .rw[zD c,zD c,zE rfl,zE rfl];refine⟨h.up,h.now,h.tlen,by show (m'.queues.set _ _).length=(m.queues.set _ _).length;rw[yN,yN];exact h.qlen,λX a b=>h.tab X a b,λX a b=>?_⟩;rw[J6,J6,h.qlen];split
  .rw[xY,xY,hm,List.map_singleton,List.map_singleton,hq]
  .exact h.que X a b
theorem RelM.goes{m m':MacM}(h:RelM n of t m m')(o:OutM)(hr:o.kind=4->InD n o.domain)(g g':Int):RelM n of t (goesM n m o g).1 (goesM n m' o g').1/\(goesM n m' o g').2.map Ta=(goesM n m o g).2.map Ta:=by
 rw[goesM,goesM];split
 .exact⟨h,E⟩
 split
 .exact⟨h.come (λe=>Wv e) E,E⟩
 split
 .exact⟨h.come (λe=>(Sx e).2) E,E⟩
 split
 .rename_i hk;exact⟨h.come (d:=o.domain) (q:=⟨-2,0,g,o.frame⟩) (q':=⟨-2,0,g',o.frame⟩) (e:=0) (λ_=>hr hk) E,E⟩
 .exact⟨((Hg m _).symm.trans h).trans (Hg m' _),E⟩
theorem RelM.goesL(g g':Int):∀(l:List OutM) {m m':MacM},RelM n of t m m'->(∀o∈l,o.kind=4->InD n o.domain)->RelM n of t (goesL n m g l).1 (Go.Sy.Zaa.goesL n m' g' l).1/\(Go.Sy.Zaa.goesL n m' g' l).2.map Ta=(Go.Sy.Zaa.goesL n m g l).2.map Ta
 |[],m,m',h,_=>⟨h,rfl⟩
 |o::l,m,m',h,hr=>by
  obtain ⟨h1,h2⟩:=h.goes o (hr o qq) g g';obtain ⟨h3,h4⟩:=RelM.goesL g g' l h1 λo h=>hr o (by simp[h])
  rw[Go.Sy.Zaa.goesL,Go.Sy.Zaa.goesL];exact⟨h3,by rw[xY,xY,h2,h4]⟩
theorem Aw2{m:MacM}{o:OutM}(h:OutF n of t o)(hr:o.kind=4->InD n o.domain)(g:Int):RelM n of t m (goesM n m o g).1/\Ed (goesM n m o g).2 of t=[]:=by
 rw[goesM];split
 .rename_i hk;refine⟨.refl _,?_⟩;have:=h.seen hk;rw[Ed,tG (kS this)];rfl
 split
 .rename_i hk;exact⟨Q9 λe=>⟨(Wv e).1,h.link hk e⟩,E⟩
 split
 .rename_i hk;exact⟨Q9 λe=>⟨(Sx e).2.1,h.mesh hk e⟩,E⟩
 split
 .rename_i hk;exact⟨Q9 (d:=o.domain) (q:=⟨-2,0,g,o.frame⟩) (e:=0) λ_=>⟨(hr hk).1,h.route hk⟩,E⟩
 .exact⟨Hg _ _,E⟩
theorem Mj(a b:List SeenM):Ed (a++b) of t=Ed a of t++Ed b of t:=by rw[Ed,List.filter_append,xY];rfl
theorem Ahw{a b:List SeenM}(h:a.map Ta=b.map Ta):Ed a of t=Ed b of t:=by
 have:∀l:List SeenM,Ed l of t=Ed (l.map Ta) of t:=λl=>by
  rw[Ed,Ed,List.filter_map,List.map_map];rfl
 rw[this a,this b,h]
theorem Adx(g:Int):∀(l:List OutM) {m:MacM},(∀o∈l,OutF n of t o)->(∀o∈l,o.kind=4->InD n o.domain)->RelM n of t m (goesL n m g l).1/\Ed (Go.Sy.Zaa.goesL n m g l).2 of t=[]
 |[],m,_,_=>⟨.refl _,rfl⟩
 |o::l,m,h,hr=>by
  obtain ⟨h1,h2⟩:=Aw2 (m:=m) (h o qq) (hr o qq) g;obtain ⟨h3,h4⟩:=Adx g l (m:=(goesM n m o g).1) (λo k=>h o (by simp[k])) λo k=>hr o (by simp[k])
  rw[Go.Sy.Zaa.goesL];exact⟨h1.trans h3,by rw[Mj,h2,h4];rfl⟩
end
section
variable {n:Net} {of:List Int} {t:Int}
theorem Aqh{m:MacM}{X a:Int}(hp:Af X m.queues.length=true)(ha:Af a (queueL m X).length=true):takeM m X a=(setQ m X ((queueL m X).eraseIdx a.toNat),((queueL m X)[a.toNat]?).getD noQ,true):=by
 simp only[Af,zG,zJ]at ha;rw[takeM,zD (by rw[hp];decide),takeT,zD z_]
theorem Av6{m:MacM}{X a:Int}(ha:Af X m.queues.length=true->Af a (queueL m X).length=false):RelM n of t m (takeM m X a).1/\(takeM m X a).2.2=false:=by
 rw[takeM];split
 .exact⟨.refl _,E⟩
 rename_i hp;have hp:Af X m.queues.length=true:=kS hp;have ha:=ha hp;have h0:=(B3 hp).1;rw[takeT,zE (by
  refine Classical.byContradiction λh=>?_
  rw[Af,zK z_,zK z_]at ha;cases ha)]
 exact⟨Vb h0 λ_=>rfl,E⟩
theorem Ahj{fw:List Bool}{tb:List EntryM}{X:Int}{q q':QueuedM}(h:Mw q'=Mw q)(now:Int):bridgeT n fw tb X q' now=bridgeT n fw tb X q now:=by
 obtain ⟨a,b,c,f⟩:=q;obtain ⟨a',b',c',f'⟩:=q';simp only[Mw,QueuedM.mk.injEq,true_and]at h;obtain ⟨rfl,rfl,rfl⟩:=h;rw[bridgeT,bridgeT];rfl
theorem RelM.setT{m m':MacM}(h:RelM n of t m m')(d:Int)(l:List EntryM):RelM n of t (setT m d l) (setT m' d l):=by
 refine⟨h.up,h.now,by show (m'.tables.set _ _).length=(m.tables.set _ _).length;rw[yN,yN];exact h.tlen,h.qlen,λX a b=>?_,λX a b=>h.que X a b⟩;rw[nJ,nJ,h.tlen];split
 .rfl
 .exact h.tab X a b
theorem RelM.drop{m m':MacM}(h:RelM n of t m m')(e e':Int):RelM n of t (C1 m e) (C1 m' e'):=((Hg m e).symm.trans h).trans (Hg m' e')
theorem RelM.pickD{m m':MacM}(h:RelM n of t m m')(X:Int)(r:List EntryM×List OutM×Int):RelM n of t (pickD m X r) (Go.Sy.Zaa.pickD m' X r):=by
 rw[Go.Sy.Zaa.pickD,Go.Sy.Zaa.pickD];split
 .exact h.drop _ _
 split
 .exact(h.setT X r.1).drop _ _
 .exact h.setT X r.1
theorem As1{m:MacM}{X:Int}(hd:0<=X)(hn:¬InT n of t X)(r:List EntryM×List OutM×Int):RelM n of t m (pickD m X r):=by
 rw[Go.Sy.Zaa.pickD];split
 .exact Hg _ _
 split
 .exact(Aiw hd hn).trans (Hg _ _)
 .exact Aiw hd hn
theorem dB{k b:Type}(f:k->b):∀(l:List k) (i:Nat),(l.eraseIdx i).map f=(l.map f).eraseIdx i
 |[],_=>rfl
 |_::_,0=>rfl
 |a::l,i+1=>zH (f a::·) (dB f l i)
theorem RelM.take{m m':MacM}(h:RelM n of t m m'){X a:Int}(hX:InD n X)(hi:InT n of t X)(hp:Af X m.queues.length=true)(ha:Af a (queueL m X).length=true):RelM n of t (takeM m X a).1 (takeM m' X a).1/\Mw (takeM m' X a).2.1=Mw (takeM m X a).2.1/\(takeM m X a).2.2=true/\(takeM m' X a).2.2=true:=by
 have hm:=h.que X hX hi;have hle:(queueL m' X).length=(queueL m X).length:=by have:=zH List.length hm;simpa using this
 rw[Aqh hp ha,Aqh (by rw[h.qlen];exact hp) (by rw[hle];exact ha)];refine⟨⟨h.up,h.now,h.tlen,by show (m'.queues.set _ _).length=(m.queues.set _ _).length;rw[yN,yN];exact h.qlen,λY a b=>h.tab Y a b,λY a b=>?_⟩,?_,E,E⟩
 .rw[J6,J6,h.qlen];split
  .rw[dB,dB,hm]
  .exact h.que Y a b
 .dsimp only;have h1:=B3 ha;have e:=zH (λl:List QueuedM=>l[a.toNat]?) hm;simp only[vD]at e;rw[zR z_,zR z_]at e|-;exact Option.some.inj e
end
section
variable {n:Net} {of:List Int} (I:Iso n of)
include I
theorem Iso.pick{t:Int}{m m':MacM}{bp:Int->Int}(h:RelM n of t m m')(hc:CameM n bp m){X a:Int}(hX:InD n X)(hi:InT n of t X)(hp:Af X m.queues.length=true)(ha:Af a (queueL m X).length=true):RelM n of t (pickT n m X a).1 (pickT n m' X a).1/\(pickT n m' X a).2.map Ta=(pickT n m X a).2.map Ta:=by
 obtain ⟨r1,r2,r3,r4⟩:=h.take hX hi hp ha;obtain ⟨_,c2⟩:=hc.take X a;have wc:=(c2 r3).2;rw[pickT,pickT,zD (by rw[r3];decide),zD (by rw[r4];decide)];have hb:Mf n (takeM m' X a).1 X (takeM m' X a).2.1=Mf n (takeM m X a).1 X (takeM m X a).2.1:=by
  rw[Mf,Mf,r1.up,r1.now,r1.tab X hX hi,Ahj r2]
 rw[hb];refine RelM.goesL _ _ _ (r1.pickD X _) λo ho hk=>?_
 exact((Wb I.B I.hu I.far hX wc o ho).route hk).1
theorem Iso.pick_away{t:Int}(ht:0<=t){m:MacM}{bp:Int->Int}(hg:Hj m)(hc:CameM n bp m)(hh:∀o,1<=o->o<=m.injected->Eg n (bp o)=true){X:Int}(a:Int)(hX:InD n X)(hn:¬InT n of t X):RelM n of t m (pickT n m X a).1/\Ed (pickT n m X a).2 of t=[]:=by
 obtain ⟨_,c2⟩:=hc.take X a;obtain ⟨_,_,o3⟩:=oR hg X a;have r1:RelM n of t m (takeM m X a).1:=by
  rw[takeM];split
  .exact .refl _
  .exact Vb hX.1 λhi=>zX hi hn
 rw[pickT];split
 .exact⟨r1,E⟩
 rename_i hf;have hf:(takeM m X a).2.2=true:=kS hf;have hp:=hh _ (o3 hf).1 (o3 hf).2;have wc:=(c2 hf).2;obtain ⟨h1,h2⟩:=Adx (n:=n) (of:=of) (t:=t) (takeM m X a).2.1.origin (Mf n (takeM m X a).1 X (takeM m X a).2.1).2.1 (m:=pickD (takeM m X a).1 X (Mf n (takeM m X a).1 X (takeM m X a).2.1))
  (λo ho=>I.bridge_outF ht hX hp wc hn o ho) λo ho hk=>((Wb I.B I.hu I.far hX wc o ho).route hk).1
 exact⟨(r1.trans (As1 hX.1 hn _)).trans h1,h2⟩
omit I in
structure SideM(n:Net)(of by_:List Int)(m:MacM):Prop where
 org:Hj m
 len:(by_.length:Int)=m.injected
 ex:∃bp:Int->Int,CameM n bp m/\∀o,1<=o->o<=m.injected->Eg n (bp o)=true/\nth by_ (o-1)=nth of (bp o)
omit I in
theorem CameM.congr{bp bp':Int->Int}{m:MacM}(h:CameM n bp m)(e:∀X,∀q∈queueL m X,bp' q.origin=bp q.origin):CameM n bp' m:=⟨h.len,λX hX q hq=>by rw[e X q hq];exact h.all X hX q hq⟩
theorem SideM.do{by_:List Int}{m:MacM}(h:SideM n of by_ m)(x:StepM):SideM n of (byStep of by_ x) (doT n m x).1:=by
 obtain ⟨g1,g2⟩:=Arg (n:=n) h.org x;obtain ⟨bp,hc,hb⟩:=h.ex;have hi:=Ay2 I.ow x;have hl:=h.len;have h0:=h.org.1;by_cases c:Mt n x=1
 .rw[zK c,A16]at hi;simp only[zG,zJ]at hi;obtain ⟨k1,pl,nn⟩:=hi;have qz:Eg n x.port=true:=I.host nn pl rfl;have eb:byStep of by_ x=by_++[nth of x.port]:=by rw[byStep,zE k1,noteL,ownerI,zE pl,zE nn]
  have lg:CameM n (λo=>if o=m.injected+1 then x.port else bp o) m:=hc.congr λX q hq=>by
   have:=Oa h.org X q hq;rw[zD z_]
  refine⟨g1,by rw[eb,g2,c,zU,yF];omega,_,(lg.do I.B I.hu I.far x λ_=>zE E).1,λo h1 h2=>?_⟩;rw[g2,c]at h2;by_cases e:o=m.injected+1
  .rw[zE e,eb,nth,show (o-1).toNat=by_.length by omega];exact⟨qz,by simp⟩
  .rw[zD e];have:=hb o h1 z_;refine⟨this.1,?_⟩;rw[<-this.2,eb];show ((by_++[nth of x.port])[(o-1).toNat]?).getD default=(by_[(o-1).toNat]?).getD default;rw[xQ z_]
 .have hz:Mt n x=0:=by
   rw[Mt]at c|-;split at c
   .exact zX E c
   .rename_i hh;rw[zD hh]
  have eb:byStep of by_ x=by_:=by
   rw[byStep];split
   .rename_i k1;rw[zL c,A16,zK k1,yD]at hi;rw[noteL,ownerI];split
    .rename_i pl;rw[pl,yD]at hi;rw[zD (zQ hi)]
    .rfl
   .rfl
  rw[hz,Int.add_zero]at g2;refine⟨g1,by rw[eb,g2];exact hl,bp,(hc.do I.B I.hu I.far x λhh=>zX hh c).1,λo h1 h2=>?_⟩;rw[eb];exact hb o h1 (by rw[g2]at h2;exact h2)
theorem SideM.own{by_:List Int}{m:MacM}(h:SideM n of by_ m){t X:Int}(hX:InD n X)(hi:InT n of t X):∀q∈queueL m X,ownB by_ t q.origin=true:=by
 intro q hq;obtain ⟨bp,hc,hb⟩:=h.ex;have ho:=Oa h.org X q hq;have:=hb _ ho.1 ho.2;have hl:=h.len;rw[ownB,this.2,I.only this.1 (hc.all X hX q hq) hi,zK rfl,Af,zK z_,zK z_];rfl
end
def Ave{l:List QueuedM}{by_:List Int}{t a:Int}(h:∀q∈l,ownB by_ t q.origin=true)(ha:Af a l.length=true):Ue l by_ t a=a:=by
 have h1:=B3 ha;rw[Ue,List.countP_eq_length.2 λq hq=>h q (wM hq),zW];omega
section
variable {n:Net} {of:List Int} {t:Int}
theorem RelM.inject{m m':MacM}(h:RelM n of t m m')(p:Int)(b:List UInt8):RelM n of t (injectT n m p b) (injectT n m' p b):=by
 rw[injectT,injectT];split
 .exact h
 .exact RelM.come (m:=⟨m.up,m.tables,m.queues,m.now,m.injected+1,m.drops⟩) (m':=⟨m'.up,m'.tables,m'.queues,m'.now,m'.injected+1,m'.drops⟩) ⟨h.up,h.now,h.tlen,h.qlen,h.tab,h.que⟩ (λe=>Oq e) E
theorem RelM.tick{m m':MacM}(h:RelM n of t m m'):RelM n of t (Q1 m) (Q1 m'):=by
 refine⟨h.up,?_,?_,h.qlen,λX a b=>?_,h.que⟩
 .show min (m'.now+1) _=min (m.now+1) _;rw[h.now]
 .show (m'.tables.map _).length=(m.tables.map _).length;rw[yZ,yZ,h.tlen]
 .have:=h.tab X a b;rw[tableL,tableL]at this|-;show ((m'.tables.map (λt=>ageT t (min (m'.now+1) 1099511627776)))[X.toNat]?).getD []=((m.tables.map (λt=>ageT t (min (m.now+1) 1099511627776)))[X.toNat]?).getD [];rw[vD,vD,h.now];by_cases ab:X.toNat<m.tables.length
  .have gn:X.toNat<m'.tables.length:=by rw[h.tlen];exact ab
   rw[zR ab,zR gn]at this|-;exact zH (λt=>ageT t (min (m.now+1) 1099511627776)) this
  .have gn:¬X.toNat<m'.tables.length:=by rw[h.tlen];exact ab
   rw[xV z_,xV z_]
end
section
variable {n:Net} {of:List Int} (I:Iso n of)
include I
theorem Iso.inject_away{t:Int}{m:MacM}{p:Int}(ag:¬ownerI of p=t)(b:List UInt8):RelM n of t m (injectT n m p b):=by
 rw[injectT];split
 .exact .refl _
 rename_i hc;simp only[vW,Bool.not_eq_false]at hc;have qz:Eg n p=true:=by
  have hp:=hc.1;simp only[Af,zG,zJ]at hp;rw[Eg,zK hp.1,zK hp.2,zK z_];rfl
 have r0:RelM n of t m ⟨m.up,m.tables,m.queues,m.now,m.injected+1,m.drops⟩:=⟨rfl,rfl,rfl,rfl,λ_ _ _=>rfl,λ_ _ _=>rfl⟩
 refine r0.trans (Q9 λe=>⟨(Oq e).1,λaz=>?_⟩);obtain ⟨e1,e2⟩:=Aew e;have wa:=I.only qz ⟨e1,0,.inl (.start e2)⟩ az;exact ag (by rw[ownerI,zE (I.placed qz).1];exact wa)
theorem Iso.step{t:Int}(ht:0<=t){by_ by':List Int}{m m':MacM}(h:SideM n of by_ m)(h':SideM n of by' m')(r:RelM n of t m m')(x:StepM):((keepT of by_ t m x).2=true->RelM n of t (doT n m x).1 (doT n m' (keepT of by_ t m x).1).1/\Ed (doT n m' (keepT of by_ t m x).1).2 of t=Ed (doT n m x).2 of t) /\
  ((keepT of by_ t m x).2=false->RelM n of t (doT n m x).1 m'/\Ed (doT n m x).2 of t=[]):=by
 by_cases k1:x.kind=1
 .have ek:keepT of by_ t m x=(x,decide (ownerI of x.port=t)&&decide (0<=t)):=by rw[keepT,zE k1]
  rw[ek,doT,zE k1];refine⟨λ_=>?_,λhk=>?_⟩
  .rw[doT,zE k1];exact⟨r.inject _ _,E⟩
  .refine⟨(I.inject_away (λe=>?_) _).symm.trans r,E⟩;dsimp only at hk;rw[zK e,zK ht]at hk;cases hk
 by_cases k2:x.kind=2\/x.kind=3
 .obtain ⟨bp,hc,hb⟩:=h.ex;obtain ⟨bp',fu,rj⟩:=h'.ex;have eq_:Af x.domain m.queues.length=true->Le m x.domain=queueL m x.domain:=λhp=>by rw[Le,zE hp]
  by_cases c:(Af x.at_ (Le m x.domain).length&&ownB by_ t (((Le m x.domain)[x.at_.toNat]?).getD noQ).origin)=true
  .have ek:keepT of by_ t m x=(Ow x (Ue (Le m x.domain) by_ t x.at_),true):=by rw[keepT,zD k1,zE k2,zE c]
   rw[ek];refine⟨λ_=>?_,λhk=>(by cases hk)⟩;rw[zG]at c;have hp:Af x.domain m.queues.length=true:=Classical.byContradiction λhp=>by
    rw[Le,zD hp]at c;have:=B3 c.1;have h2:=this.2;simp at h2;omega
   have hX:InD n x.domain:=Iq (by rw[<-hc.len];exact hp);rw[eq_ hp]at c|-;by_cases hi:InT n of t x.domain
   .rw[Ave (h.own I hX hi) c.1];rcases k2 with k2|k2
    .have e1:∀M,doT n M x=pickT n M x.domain x.at_:=λM=>by rw[doT,zD k1,zE k2]
     obtain ⟨p1,p2⟩:=I.pick r hc hX hi hp c.1;rw[e1,show Ow x x.at_=x from rfl,e1];exact⟨p1,Ahw p2⟩
    .have e1:∀M,doT n M x=((takeM M x.domain x.at_).1,[]):=λM=>by rw[doT,zD k1,zD z_,zE k2]
     rw[e1,show Ow x x.at_=x from rfl,e1];exact⟨(r.take hX hi hp c.1).1,E⟩
   .generalize Ue (queueL m x.domain) by_ t x.at_=a;have tk:∀(M:MacM) (a:Int),RelM n of t M (takeM M x.domain a).1:=λM a=>by
     rw[takeM];split
     .exact .refl _
     .exact Vb hX.1 λhh=>zX hh hi
    rcases k2 with k2|k2
    .have e1:doT n m x=pickT n m x.domain x.at_:=by rw[doT,zD k1,zE k2]
     have e2:doT n m' (Ow x a)=pickT n m' x.domain a:=by rw[doT,zD (show ¬(Ow x a).kind=1 from k1),zE (show (Ow x a).kind=2 from k2)];rfl
     obtain ⟨p1,p2⟩:=I.pick_away ht h.org hc (λo a b=>(hb o a b).1) x.at_ hX hi;obtain ⟨p3,p4⟩:=I.pick_away ht h'.org fu (λo a b=>(rj o a b).1) a hX hi;rw[e1,e2];exact⟨(p1.symm.trans r).trans p3,by rw[p2,p4]⟩
    .have e1:doT n m x=((takeM m x.domain x.at_).1,[]):=by rw[doT,zD k1,zD z_,zE k2]
     have e2:doT n m' (Ow x a)=((takeM m' x.domain a).1,[]):=by rw[doT,zD (show ¬(Ow x a).kind=1 from k1),zD (show ¬(Ow x a).kind=2 by show ¬x.kind=2;omega),zE (show (Ow x a).kind=3 from k2)];rfl
     rw[e1,e2];exact⟨((tk m _).symm.trans r).trans (tk m' _),E⟩
  .have ek:keepT of by_ t m x=(x,false):=by rw[keepT,zD k1,zE k2,zD c]
   rw[ek];refine⟨λhk=>(by cases hk),λ_=>?_⟩;by_cases hq:Af x.domain m.queues.length=true/\Af x.at_ (queueL m x.domain).length=true
   .obtain ⟨hp,ha⟩:=hq;have hX:InD n x.domain:=Iq (by rw[<-hc.len];exact hp);have hi:¬InT n of t x.domain:=λhi=>by
     rw[eq_ hp]at c;refine c ?_;rw[ha,h.own I hX hi _ (Om (by have:=B3 ha;omega))];rfl
    rcases k2 with k2|k2
    .have e1:doT n m x=pickT n m x.domain x.at_:=by rw[doT,zD k1,zE k2]
     obtain ⟨p1,p2⟩:=I.pick_away ht h.org hc (λo a b=>(hb o a b).1) x.at_ hX hi;rw[e1];exact⟨p1.symm.trans r,p2⟩
    .have e1:doT n m x=((takeM m x.domain x.at_).1,[]):=by rw[doT,zD k1,zD z_,zE k2]
     rw[e1];refine⟨RelM.trans (RelM.symm ?_) r,E⟩;rw[takeM];split
     .exact .refl _
     .exact Vb hX.1 λhh=>zX hh hi
   .obtain ⟨t1,t2⟩:=Av6 (n:=n) (of:=of) (t:=t) (m:=m) (X:=x.domain) (a:=x.at_) λhp=>by
     cases ha:Af x.at_ (queueL m x.domain).length
     .rfl
     .exact zX ⟨hp,ha⟩ hq
    rcases k2 with k2|k2
    .have e1:doT n m x=pickT n m x.domain x.at_:=by rw[doT,zD k1,zE k2]
     rw[e1,pickT,zE t2];exact⟨t1.symm.trans r,E⟩
    .have e1:doT n m x=((takeM m x.domain x.at_).1,[]):=by rw[doT,zD k1,zD z_,zE k2]
     rw[e1];exact⟨t1.symm.trans r,E⟩
 .have ek:keepT of by_ t m x=(x,true):=by rw[keepT,zD k1,zD k2]
  rw[ek];refine⟨λ_=>?_,λhk=>(by cases hk)⟩;have hd:∀M,doT n M x=if x.kind=4 then (Q1 M,[]) else if x.kind=5 then ((if x.up.length=n.links.length then ⟨x.up,M.tables,M.queues,M.now,M.injected,M.drops⟩ else M),[]) else (M,[]):=λM=>by
   rw[doT,zD k1,zD z_,zD z_]
  rw[hd,hd];split
  .exact⟨r.tick,E⟩
  split
  .dsimp only;split
   .exact⟨⟨E,r.now,r.tlen,r.qlen,r.tab,r.que⟩,E⟩
   .exact⟨r,E⟩
  .exact⟨r,E⟩
theorem Iso.run{t:Int}(ht:0<=t):∀(l:List StepM) {by_ by':List Int} {m m':MacM},SideM n of by_ m->SideM n of by' m'->RelM n of t m m'->Ed (C2 n m' (Sb n of t m by_ l)).2 of t=Ed (C2 n m l).2 of t
 |[],_,_,_,_,_,_,_=>rfl
 |x::l,by_,by',m,m',h,h',r=>by
  obtain ⟨s1,s2⟩:=I.step ht h h' r x;rw[Sb,Aal,C2];split
  .rename_i hk;obtain ⟨r1,v1⟩:=s1 hk;have ih:=Iso.run ht l (h.do I x) (h'.do I (keepT of by_ t m x).1) r1;rw[List.singleton_append,C2,Mj,Mj,v1,ih]
  .rename_i hk;obtain ⟨r1,v1⟩:=s2 (kS hk);have ih:=Iso.run ht l (h.do I x) h' r1;rw[wC,Mj,v1,wC,ih]
theorem Iso.reduce{t:Int}(ht:0<=t)(tabs:List (List EntryM))(l:List StepM):Ed (C2 n (Ik n tabs) (Sb n of t (Ik n tabs) [] l)).2 of t=Ed (C2 n (Ik n tabs) l).2 of t:=by
 have kh:=Aol n tabs;have hs:SideM n of [] (Ik n tabs):=⟨kh.1,by rw[kh.2];rfl,λ_=>0,Ad5 (Axz n _) tabs tabs.length,λo h1 h2=>by rw[kh.2]at h2;omega⟩
 exact I.run ht l hs hs (.refl _)
end
structure OwnK(n:Net)(ow:List Int):Prop where
 len:ow.length=n.ports.length
 host:∀i:Nat,i<ow.length->(nth n.ports (i:Int)).link<0->-1<=nth ow (i:Int)/\nth ow (i:Int)<=9
 link:∀i:Nat,i<ow.length->¬(nth n.ports (i:Int)).link<0->nth ow (i:Int)=-1
def Ajl{l:List Int}{a k:Nat}{v:Int}(hk:k<l.length):nth (l.set a v) (k:Int)=if a=k then v else nth l (k:Int):=by
 rw[nth,nth,yE,uL];by_cases h:a=k
 .subst h;rw[zE rfl,zE rfl,zE hk];rfl
 .rw[zD h,zD h]
def Ae8{n:Net}{i:Int}(hi:0<=i/\i<=9):∀(ds ps:List ByteArray) {ow:List Int},OwnK n ow->OwnK n (Ej n i ow ds ps).1
 |d::ds,p::ps,ow,h=>by
  rw[Ej];split
  .exact h
  rename_i h1;split
  .exact h
  rename_i h2;simp only[vW,Decidable.not_not]at h2;refine Ae8 hi ds ps ⟨by rw[yN];exact h.len,λk hk hl=>?_,λk hk hl=>?_⟩
  .rw[yN]at hk;rw[Ajl hk];split
   .omega
   .exact h.host k hk hl
  .rw[yN]at hk;rw[Ajl hk];split
   .rename_i e;rw[<-e,yR z_]at hl;omega
   .exact h.link k hk hl
 |[],_,_,h=>by rw[Ej];exact h;intros;contradiction
 |_::_,[],_,h=>by rw[Ej];exact h;intros;contradiction
def bP{n:Net}{L:List TenM}:∀(l:List TenM) (i:Nat) {ow:List Int},OwnK n ow->(Js n L i ow l).2.2.2=0->OwnK n (Js n L i ow l).1
 |[],_,_,h,_=>h
 |t::r,i,ow,h,he=>by
  rw[Js]at he|-;split at he
  .cases he
  rename_i h1;rw[zD h1];split at he
  .cases he
  rename_i h2;rw[zD h2];split at he
  .rename_i h3;exact zX he h3
  rename_i h3;rw[zD h3];exact bP r (i+1) (Ae8 z_ _ _ h) he
def Abq{n:Net}{ow:List Int}:∀(l:List Port) (i:Nat),¬Yc n ow i l<i+l.length->∀(k:Nat) (h:k<l.length),¬(l[k].link<0/\nth ow ((i+k:Nat):Int)=-1)
 |[],_,_,k,h=>by cases h
 |p::r,i,hb,k,h=>by
  rw[Yc]at hb;split at hb
  .rw[yL]at hb;omega
  rename_i hc;cases k with
  |zero=>exact hc
  |succ k=>
   have dx:¬Yc n ow (i+1) r<i+1+r.length:=by rw[yL]at hb;omega
   have:=Abq r (i+1) dx k (by rw[yL]at h;omega);rw[show i+1+k=i+(k+1) by omega]at this;exact this
def Ada{n:Net}{L:List TenM}(h:(assignT n L).2.2.2=0):Hb n (assignT n L).1=true:=by
 rw[assignT]at h|-;dsimp only at h|-;split at h
 .cases h
 rename_i h1;rw[zD h1];split at h
 .rename_i h2;exact zX h h2
 rename_i h2;rw[zD h2];split at h
 .cases h
 rename_i h3;rw[zD h3];have h0:OwnK n (List.replicate n.ports.length (-1)):=by
  have hn:∀i:Nat,i<n.ports.length->nth (List.replicate n.ports.length (-1:Int)) (i:Int)=-1:=λi hi=>by
   rw[Ag (kS hi)];simp
  refine⟨by simp,λi hi _=>?_,λi hi _=>?_⟩
  .rw[hn i (kS hi)];omega
  .exact hn i (kS hi)
 have hk:=bP (L:=L) L 0 h0 (Classical.byContradiction h2);dsimp only;generalize (Js n L 0 (List.replicate n.ports.length (-1)) L).1=ow at *;have hb:=Abq n.ports 0 (by rw[xW];exact h3);rw[Hb,zK hk.len,show Ac n=true by simpa using h1,yD,yD,yU];intro i hi;have hi:=xA.1 hi;have hp:i<n.ports.length:=by rw[<-hk.len];exact hi
 have e:nth n.ports (i:Int)=n.ports[i]:=by rw[Ag (kS hp)];rfl
 split
 .rename_i hl;have:=hk.host i hi hl;have h4:=hb i hp;rw[xW,<-e]at h4;have h5:¬nth ow (i:Int)=-1:=λhh=>h4 ⟨hl,hh⟩
  rw[zK z_,zK z_];rfl
 .rename_i hl;exact zK (hk.link i hi hl)
def fB{n:Net}{g:Int}:∀(l:List OutM) {m:MacM},(∀o∈l,OutOK n o)->∀s∈(goesL n m g l).2,s.bytes.length<=1518
 |[],_,_,s,hs=>by cases hs
 |o::l,m,ho,s,hs=>by
  rw[goesL]at hs;rcases yI.1 hs with hs|hs
  .rw[goesM]at hs;split at hs
   .rw[zZ.1 hs];exact(ho o qq).bytes
   .repeat' split at hs
    all_goals cases hs
  .exact fB l (λo h=>ho o (by simp[h])) s hs
def Azw{n:Net}(hn:n.Fin)(bf:n.Num){m:MacM}{J D:Int}(h:MacOK n m J D)(x:StepM):∀s∈(doT n m x).2,s.bytes.length<=1518:=by
 intro s hs;rw[doT]at hs;split at hs
 .cases hs
 split at hs
 .rw[pickT]at hs;split at hs
  .cases hs
  .exact fB _ (Wc hn bf (Zj h _ _).2) s hs
 .repeat' split at hs
  all_goals cases hs
def Adu{n:Net}(hn:n.Fin)(bf:n.Num):∀(l:List StepM) {m:MacM} {J D:Int},MacOK n m J D->0<=J->0<=D->∀s∈(C2 n m l).2,s.bytes.length<=1518
 |[],_,_,_,_,_,_,s,hs=>by cases hs
 |x::l,m,J,D,h,hJ,hD,s,hs=>by
  rw[C2]at hs;rcases yI.1 hs with hs|hs
  .exact Azw hn bf h x s hs
  .exact Adu hn bf l (Aps hn bf h hJ hD x) z_ z_ s hs
def Xp{n:Net}(hn:n.Fin)(bf:n.Num){tabs:List (List EntryM)}(ht:Ahq tabs)(l:List StepM):(runTabsT n tabs l).1.length<=l.length*4294967296/\∀s∈(runTabsT n tabs l).1,s.bytes.length<=1518:=by
 rw[runTabsT];split
 .exact⟨Zu hn l _,Adu hn bf l (Vo (To n) ht tabs.length) (xN _) (xN _)⟩
 .exact⟨xX _,λs hs=>(by cases hs)⟩
end Go.Sy.Zaa
