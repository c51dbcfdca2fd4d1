/- Parts of a proof. -/
import Derived.Test.YtodbnbfjhjcanaaGreatDoorXB37
import Derived.Test.YtodbnbfjhjcanaaGreatDoorXB29
set_option maxHeartbeats 4000000
set_option linter.all false
namespace Go.Sy.Zaa
open Go.Proofs Go.Proofs.Tryz
section
def Amw{a:Int}(h:0<=a/\a<4294967296):La ((hostN a:Nat):Int)=true:=by
 rw[La,hostN];exact zL q_
def cP{a b:Int}(ha:0<=a)(hb:0<=b)(h:hostN a=hostN b):a=b:=by
 rw[hostN,hostN]at h;omega
def cO{a:Int}(h:0<=a/\a<4294967296):hostN a<281474976710656:=by
 rw[hostN];omega
def nN{a:Int}(h:0<=a/\a<4294967296):hostN a≠M8:=by
 rw[hostN,M8];omega
def Acx{a:Int}(h:0<=a/\a<4294967296):Du (hostN a)=false:=by
 rw[Du,hostN];exact zK q_
section
variable {n:Net} {p:Int} {l:List Hop} {st:Nat->Int×Int} {r:Nat}
def Kh(l:List Hop)(r:Nat):Int:=(nth l (r:Int)).addr
def M1(n:Net)(st:Nat->Int×Int)(r:Nat):Int:=(nth n.domains (st (r-1)).1).irb
def rTo(n:Net)(l:List Hop)(st:Nat->Int×Int)(r:Nat):Int:=(lookT n (M1 n st r) (Kh l r)).1
def A4b(n:Net)(l:List Hop)(st:Nat->Int×Int)(r:Nat):Int:=(nth n.irbs (rTo n l st r)).addr
def Da(n:Net)(l:List Hop)(st:Nat->Int×Int)(r k:Nat):FrameM :=
 if k<r then frameW n l else ⟨hostN (Kh l r),hostN (A4b n l st r),2048,Ig (Ae0 (M5 (Kh l r).toNat))⟩
structure RouteK(n:Net)(l:List Hop)(st:Nat->Int×Int)(r:Nat):Prop where
 from_:0<=M1 n st r/\(M1 n st r).toNat<n.irbs.length
 to:0<=rTo n l st r/\(rTo n l st r).toNat<n.irbs.length
 dom:(nth n.irbs (rTo n l st r)).domain=(st r).1
 look:(lookT n (M1 n st r) (Kh l r)).2=true
 free:∀i:Int,0<=i/\i.toNat<n.irbs.length->(nth n.irbs i).addr≠Kh l r
 addr:0<=Kh l r/\Kh l r<4294967296
theorem Tk{d:Int}(hr:Ac n=true)(hd:InD n d)(h:0<=(nth n.domains d).irb):(nth n.domains d).irb.toNat<n.irbs.length/\(nth n.irbs (nth n.domains d).irb).domain=d:=by
 have:=(bareB_iff.1 (At1 hr hd.2)).2.2.2.1;rw[<-Ae hd.2]at this;rcases this with h1|⟨h1,h2⟩
 .omega
 .rw[Ag,zG,zJ,zJ]at h1;refine⟨by omega,?_⟩;rw[h2];exact yR hd.1
theorem WayS.led(W:WayS n p l st r)(B:BuiltK n)(hp:0<=p/\p.toNat<n.ports.length)(h:r<l.length):RouteK n l st r:=by
 have jh:=W.pos.1;obtain ⟨q,hq,e⟩:=W.lead (r-1) q_ q_;rw[show r-1+1=r by omega]at e;obtain ⟨h0,i,hi,e1,e2,e3,e4⟩:=Arf B.num.addr hq;have ea:Kh l r=q.addr:=by rw[Kh,e]
 have et:rTo n l st r=(i:Int):=by rw[rTo,ea,M1,e2]
 have hd:=W.ind B.right hp (i:=r-1) q_;have nu:=Tk B.right hd h0;have ny:=W.dom r h;rw[e]at ny;refine⟨⟨h0,nu.1⟩,by rw[et];exact⟨vG i,kS hi⟩,by rw[et,<-e1];exact ny,by rw[ea,M1,e2],λj hj=>by rw[ea];exact Ay4 e3 hj,by rw[ea];exact e4⟩
variable (W:WayS n p l st r) (B:BuiltK n) (hp:0<=p/\p.toNat<n.ports.length)
include W B hp
theorem X3:frameW n l=if r<l.length then ⟨hostN (nth n.irbs (M1 n st r)).addr,M8,2048,Ig (M5 (Kh l r).toNat)⟩ else ⟨281474976710655,M8,34997,[]⟩:=by
 have jh:=W.pos.1;rw[frameW,W.route];by_cases h:r<l.length
 .have e:((r:Int)-1)=((r-1:Nat):Int):=by omega
  rw[zE h,zE h,zE q_,irbOf,W.route,zE h,e,W.dom (r-1) q_,ipPutT,zD (by show ¬1480<0;decide)];rfl
 .rw[zD h,zD h,zD y_]
theorem Abq(h:r<l.length):0<=(nth n.irbs (M1 n st r)).addr/\(nth n.irbs (M1 n st r)).addr<4294967296:=B.num.addr _ (Hs (W.led B hp h).from_.2)
theorem Afu(h:r<l.length):0<=A4b n l st r/\A4b n l st r<4294967296:=B.num.addr _ (Hs (W.led B hp h).to.2)
theorem dB{k:Nat}(hk:k<l.length):GoF (Da n l st r k):=by
 rw[Da];split
 .rw[X3 W B hp];split
  .rename_i h;have ha:=Abq W B hp h;have hb:(Ig (M5 (Kh l r).toNat)).length=20:=by rw[Hy];rfl
   exact⟨⟨cO ha,by show 2203318222849<281474976710656;decide,by dsimp only;decide,by dsimp only;omega⟩,by dsimp only;decide,by dsimp only;omega,by show Du 2203318222849=false;decide⟩
  .exact⟨⟨by show 281474976710655<281474976710656;decide,by show 2203318222849<281474976710656;decide,by dsimp only;decide,by dsimp only;decide⟩,by dsimp only;decide,by dsimp only;decide,by show Du 2203318222849=false;decide⟩
 .have h:r<l.length:=by omega
  have ha:=(W.led B hp h).addr;have hs:=Afu W B hp h;have hb:(Ig (Ae0 (M5 (Kh l r).toNat))).length=20:=by rw[Hy];rfl
  exact⟨⟨cO ha,cO hs,by dsimp only;decide,by dsimp only;omega⟩,by dsimp only;decide,by dsimp only;omega,Acx hs⟩
def Aad(n:Net)(l:List Hop)(st:Nat->Int×Int)(r k:Nat)(m:Nat):Prop:=m=M8\/(r<=k/\m=hostN (A4b n l st r))
theorem lM{d a:Int}(ha:0<=a/\a<4294967296):Eb n d (hostN a)<0:=by
 refine Int.not_le.1 λh=>?_
 obtain ⟨h1,h2⟩:=Ai0 (p:=λs:Static=>decide (s.domain=d)&&decide (s.mac=((hostN a:Nat):Int))) rfl h;simp only[zG,zJ]at h2;have h3:=B.wit.st _ (zI h1);rw[h2.2,Amw ha]at h3;cases h3
theorem Am8(S:U6 n p l st){k:Nat}(hk:k<l.length)(r9:k+1≠r\/l.length<=r){fw:List Bool}{t:List EntryM}{q:QueuedM}(hq:q.frame=Da n l st r k)(a7:Lr n fw (st k).1 q.from_=true)(ht:tableB t=true)(hm:∀e∈t,Aad n l st r k e.mac):(tableB (learnQ t q 0)=true/\∀e∈learnQ t q 0,Aad n l st r k e.mac) /\
  bridgeT n fw t (st k).1 q 0=(learnQ t q 0,(C0 n fw q.from_ (A7 n (st k).1)).map (Si n (st k).1 (Da n l st r k))++(peersOut n (st k).1 q.from_).map (Vh n (st k).1 (Da n l st r k)),0):=by
 have hd:=W.ind B.right hp hk;have iw:Aad n l st r k q.frame.src:=by
  rw[hq,Da];split
  .rw[X3 W B hp];split<;>exact .inl rfl
  .exact .inr ⟨by omega,E⟩
 have hl:tableB (learnQ t q 0)=true/\∀e∈learnQ t q 0,Aad n l st r k e.mac:=by
  rw[learnQ];split
  .exact⟨ht,hm⟩
  .exact Amj ht hm iw
 refine⟨hl,?_⟩;have key:(routerT n (st k).1 q.frame.dst).2=false/\(Du q.frame.dst=true\/(Eb n (st k).1 q.frame.dst<0/\(findE (learnQ t q 0) q.frame.dst).2=false)):=by
  have oh:∀{m:Nat},¬Aad n l st r k m->(findE (learnQ t q 0) m).2=false:=by
   intro m hh;cases hf:(findE (learnQ t q 0) m).2
   .rfl
   .obtain ⟨i,hi,_,h2⟩:=Axn hl.1 hf;exact yA ((h2 i hi).2 E▸hl.2 _ (zI hi)) hh
  have gn:∀{m:Nat},(∀_:0<=(nth n.domains (st k).1).irb,hostN (nth n.irbs (nth n.domains (st k).1).irb).addr≠m)->(routerT n (st k).1 m).2=false:=by
   intro m hh;rw[routerT];split
   .rfl
   split
   .rfl
   rename_i hc;exact yA (.inr (hh (Int.not_lt.1 λhx=>hc (.inl hx)))) hc
  rw[hq,Da];by_cases c:k<r
  .rw[zE c,X3 W B hp];by_cases h:r<l.length
   .have R:=W.led B hp h;have ha:=Abq W B hp h;rw[zE h];dsimp only;refine⟨gn λh0=>?_,.inr ⟨lM W B hp ha,oh ?_⟩⟩
    .intro e;have h1:=Tk B.right hd h0;have jf:=W.ind B.right hp (i:=r-1) (by have:=W.pos;omega);have h2:=Tk B.right jf R.from_.1;have e2:=ir_one B ⟨h0,h1.1⟩ R.from_ (cP (B.num.addr _ (Hs h1.1)).1 ha.1 e);have e3:(st k).1=(st (r-1)).1:=by
      rw[<-h1.2,<-h2.2,e2];rfl
     have k1:=W.kd k hk;have k2:=W.kd (r-1) q_;rw[zE c]at k1;rw[zE (by have:=W.pos;omega)]at k2;have:=W.diff S hk q_ (Prod.ext e3 (k1.trans k2.symm));have:=W.pos;omega
    .rintro (hh|⟨hh,_⟩)
     .exact nN ha hh
     .omega
   .rw[zD h];dsimp only;refine⟨gn λh0=>?_,.inl j_⟩;have h1:=Tk B.right hd h0;have:=B.num.addr _ (Hs h1.1);rw[hostN];omega
  .have h:r<l.length:=by omega
   have R:=W.led B hp h;rw[zD c];dsimp only;refine⟨gn λh0 e=>?_,.inr ⟨lM W B hp R.addr,oh ?_⟩⟩
   .have h1:=Tk B.right hd h0;exact R.free _ ⟨h0,h1.1⟩ (cP (B.num.addr _ (Hs h1.1)).1 R.addr.1 e)
   .rintro (hh|⟨_,hh⟩)
    .exact nN R.addr hh
    .exact R.free _ R.to (cP (Afu W B hp h).1 R.addr.1 hh.symm)
 rw[Asl a7 ht key.1 key.2,hq]
theorem Azr{k:Nat}(hk:k+1<l.length)(r9:k+1=r){fw:List Bool}{t:List EntryM}{q:QueuedM}(hq:q.frame=Da n l st r k)(a7:Lr n fw (st k).1 q.from_=true)(ht:tableB t=true)(hm:∀e∈t,Aad n l st r k e.mac):(tableB (learnQ t q 0)=true/\∀e∈learnQ t q 0,Aad n l st r k e.mac)/\bridgeT n fw t (st k).1 q 0=(learnQ t q 0,[⟨4,0,(st (k+1)).1,[],Da n l st r (k+1),0⟩],0):=by
 have h:r<l.length:=by omega
 have R:=W.led B hp h;have hd:=W.ind B.right hp (i:=k) q_;have ek:r-1=k:=by omega
 have hF:Da n l st r k=⟨hostN (nth n.irbs (M1 n st r)).addr,M8,2048,Ig (M5 (Kh l r).toNat)⟩:=by rw[Da,zE q_,X3 W B hp,zE h]
 have hl:tableB (learnQ t q 0)=true/\∀e∈learnQ t q 0,Aad n l st r k e.mac:=by
  rw[learnQ];split
  .exact⟨ht,hm⟩
  .exact Amj ht hm (by rw[hq,hF];exact .inl E)
 refine⟨hl,?_⟩;have sr:routerT n (st k).1 q.frame.dst=(M1 n st r,true):=by
  rw[hq,hF,routerT,zD (by rw[Ko hd,B.right];decide),M1,ek,zD];rintro (hh|hh)
  .have:=R.from_.1;rw[M1,ek]at this;omega
  .exact hh E
 have ha:(((Kh l r).toNat:Nat):Int)=Kh l r:=yR R.addr.1;have hip:ipTakeT (Ig (M5 (Kh l r).toNat))=(M5 (Kh l r).toNat,0):=Aix ⟨xN _,xN _,by show 64<=255;decide,by show 17<=255;decide,by show 1<4294967296;decide,by have:=R.addr;show (Kh l r).toNat<4294967296;omega⟩ (by show 0<=1480;decide);have xa:hopT n (M1 n st r) q.frame=((st (k+1)).1,Da n l st r (k+1),0):=by
  have ay:Ag (M1 n st r) n.irbs.length=true:=by rw[Ag,zL R.from_.1,zL (by have:=R.from_.2;omega)];rfl
  have ed:(M5 (Kh l r).toNat).dst=(Kh l r).toNat:=rfl;rw[hq,hF,hopT,zD (by rw[ay,B.right];decide),zD (by dsimp only;decide)];dsimp only;rw[hip];dsimp only;rw[zD y_,zD (by show ¬64<=1;decide),ed,ha,zD (by rw[R.look];decide),zD (by show ¬1480<0;decide),Da,zD q_,r9];show ((nth n.irbs (rTo n l st r)).domain,_,_)=_;rw[R.dom];rfl
 rw[bridgeT,zD (by rw[a7,ht];decide),sr,zE rfl,xa,zD y_]
end
def Aai{n:Net}{z v e:Int}(h:linkDomT n z v=(e,true)):0<=A4 n z:=by
 have h2:(crossT n z v).2.2=true:=by
  cases so:(crossT n z v).2.2
  .rw[linkDomT,zD (by rw[so];decide)]at h;cases h
  .rfl
 rw[crossT]at h2;split at h2
 .rename_i hc;exact hc.1
 .cases h2
def Adj(n:Net)(d X:Int):Prop:=∃h∈Dg n d,h.domain=X
def CntP(n:Net)(st:Nat->Int×Int)(a X:Int)(k c:Nat):Prop:=c=0\/∃i,i<k/\(st i).2=a/\Adj n (st i).1 X/\c+i<=k/\c<=3
theorem CntP.le{n:Net}{st:Nat->Int×Int}{a X:Int}{k c:Nat}(h:CntP n st a X k c):c<=3:=by
 rcases h with h|⟨_,_,_,_,_,h⟩<;>omega
theorem CntP.succ{n:Net}{st:Nat->Int×Int}{a X:Int}{k c:Nat}(h:CntP n st a X k c):CntP n st a X (k+1) c:=by
 rcases h with h|⟨i,h1,h2,h3,h4,h5⟩
 .exact .inl h
 .exact .inr ⟨i,by omega,h2,h3,by omega,h5⟩
def Aee(n:Net)(p:Int)(st:Nat->Int×Int)(r k:Nat)(x:Int):Prop :=
 (k=0/\x=p)\/(k=r/\x=-2)\/(1<=k/\k≠r/\((x=-1/\(st k).1∈(nth n.domains (st (k-1)).1).peers)\/∃z∈A0 n (st (k-1)).1,linkDomT n z (nth n.domains (st (k-1)).1).vlan=((st k).1,true)/\x=A4 n z))
structure InvW(n:Net)(p:Int)(l:List Hop)(st:Nat->Int×Int)(r k:Nat)(m:MacM):Prop where
 len:m.queues.length=n.domains.length
 up:okB n m.up=true
 now:m.now=0
 tabs:∀X,tableB (tableL m X)=true/\∀e∈tableL m X,Aad n l st r k e.mac
 last:∃pre q,queueL m (st k).1=pre++[q]/\q.frame=Da n l st r k/\q.origin=1/\Aee n p st r k q.from_
 few:∀X,InD n X->∃c0 c1,(queueL m X).length<=2*c0+2*c1+(if k<r then 1 else 2)/\CntP n st 0 X k c0/\CntP n st 1 X k c1
def Aki(m:MacM)(d X:Int)(t:List EntryM):tableL (Ez m d t) X=if d.toNat=X.toNat/\X.toNat<m.tables.length then t else tableL m X:=by
 rw[tableL,Ez];dsimp only;rw[tE];split
 .rename_i h;rw[h];split
  .rename_i h2;rw[zE ⟨rfl,h2⟩];rfl
  .rename_i h2;rw[zD (λhh=>h2 hh.2),tableL,wK q_]
 .rename_i h;rw[zD (λhh=>h hh.1)];rfl
section
variable {n:Net} {p:Int} {l:List Hop} {st:Nat->Int×Int} {r:Nat} (W:WayS n p l st r) (B:BuiltK n) (hp:0<=p/\p.toNat<n.ports.length) (S:U6 n p l st)
include W B hp
theorem Ahw:p∈A0 n (st 0).1:=by
 have hd:=W.ind B.right hp (i:=0) (by have:=W.pos;omega);obtain ⟨v,hv,v0,e⟩:=W.start.1;have e1:(st 0).1=C8 n (nth n.ports p).dev v:=by rw[e];dsimp only;rw[B5,zE B.right]
 have m8:=Ado (n:=n) (dev:=(nth n.ports p).dev) (v:=v) (by rw[<-e1];exact hd.1);rw[<-e1]at m8;refine(C1 B.right hd).2 ⟨hp,m8.2.1.symm,?_⟩;rw[m8.2.2];refine memberB_iff.2 ⟨v0,?_⟩;simpa using hv
theorem Ags{k:Nat}(hk:k<l.length){x:Int}(h:Aee n p st r k x){up:List Bool}(mo:okB n up=true):Lr n (Kv n up) (st k).1 x=true:=by
 have hd:=W.ind B.right hp hk;have hf:(Kv n up).length=n.links.length:=by rw[Kv,zE mo,fX,Axk,yW]
 have hx:x=-1\/x=-2\/x∈A0 n (st k).1:=by
  rcases h with ⟨h0,rfl⟩|⟨_,h⟩|⟨_,_,⟨h,_⟩|⟨z,hz,e,rfl⟩⟩
  .rw[h0];exact .inr (.inr (Ahw W B hp))
  .exact .inr (.inl h)
  .exact .inl h
  .exact .inr (.inr (Ta B.right (W.ind B.right hp (i:=k-1) q_) hz e).2.1)
 rw[Lr,Ko hd,zL hf,B.right];rcases hx with h|h|h
 .rw[zL h];rfl
 .rw[zL h];simp
 .rw[Q2 B hd,inB_iff.2 h];simp
include S
theorem A35{k:Nat}(hk:k+1<l.length){m:MacM}(I:InvW n p l st r k m)(hb:∀ q,q.frame=Da n l st r k->Aee n p st r k q.from_->∃ t' O,bridgeT n (Kv n m.up) (tableL m (st k).1) (st k).1 q 0=(t',O,0)/\(tableB t'=true/\∀ e∈t',Aad n l st r k e.mac) /\
   (∀X,InD n X->(Yo n 1 X O=[]\/(Yo n 1 X O).length<=2/\Adj n (st k).1 X/\k+1≠r)\/((Yo n 1 X O).length<=1/\k+1=r)) /\
   ∃ A q',Yo n 1 (st (k+1)).1 O=A++[q']/\q'.frame=Da n l st r (k+1)/\q'.origin=1/\Aee n p st r (k+1) q'.from_):InvW n p l st r (k+1) (doT n m (pickX m (st k).1)).1:=by
 have hd:=W.ind B.right hp (i:=k) q_;have mr:=W.ind B.right hp hk;obtain ⟨pre,q,h1,h2,h3,h4⟩:=I.last;obtain ⟨t',O,hbr,ht,hA,A,q',g1,g2,g3,g4⟩:=hb q h2 h4;have ay:Ag (st k).1 m.queues.length=true:=by rw[I.len];exact Ko hd
 have hbr2:bridgeT n (Kv n m.up) (tableL m (st k).1) (st k).1 q m.now=(t',O,0):=by rw[I.now];exact hbr
 have m8:=Afy ay h1 hbr2;rw[h3]at m8;rw[m8];have sm:=Agq n 1 O (Ez (setQ m (st k).1 pre) (st k).1 t');have vd:∀X,(queueL (Ez (setQ m (st k).1 pre) (st k).1 t') X).length<=(queueL m X).length:=by
  intro X;have e:queueL (Ez (setQ m (st k).1 pre) (st k).1 t') X=queueL (setQ m (st k).1 pre) X:=rfl;rw[e,Q0];split
  .rename_i c;have:queueL m X=pre++[q]:=by rw[<-h1,queueL,queueL,c.1]
   rw[this];simp
  .exact yE _
 have hlen:(Ez (setQ m (st k).1 pre) (st k).1 t').queues.length=n.domains.length:=by rw[<-I.len];exact yQ ..
 refine⟨by rw[sm.len,hlen],by rw[sm.up];exact I.up,by rw[sm.now];exact I.now,λX=>?_,?_,λX hX=>?_⟩
 .have e:tableL (goesL n (Ez (setQ m (st k).1 pre) (st k).1 t') 1 O).1 X=tableL (Ez (setQ m (st k).1 pre) (st k).1 t') X:=by rw[tableL,tableL,sm.tables]
  have mono:∀{z:Nat},Aad n l st r k z->Aad n l st r (k+1) z:=λhz=>hz.imp id λhh=>⟨by omega,hh.2⟩
  rw[e,Aki];split
  .exact⟨ht.1,λe he=>mono (ht.2 e he)⟩
  .have:=I.tabs X;exact⟨this.1,λe he=>mono (this.2 e he)⟩
 .obtain ⟨c0,c1,f1,f2,f3⟩:=I.few _ mr;have l0:=f2.le;have l1:=f3.le;have hl:(Yo n 1 (st (k+1)).1 O).length<=2:=by
   rcases hA _ mr with (h|h)|h
   .rw[h];exact xN _
   .exact h.1
   .omega
  have:=vd (st (k+1)).1;refine⟨queueL (Ez (setQ m (st k).1 pre) (st k).1 t') (st (k+1)).1++A,q',?_,g2,g3,g4⟩;rw[Ac2 n 1 _ O _ (by rw[hlen];exact mr.2) (by split at f1<;>omega),g1,xF]
 .obtain ⟨c0,c1,f1,f2,f3⟩:=I.few X hX;have hle:=Am2 n 1 X O (Ez (setQ m (st k).1 pre) (st k).1 t') (by rw[hlen];exact hX.2);have:=vd X;have hif:(if k<r then 1 else 2)<=(if k+1<r then 1 else 2:Nat):=by split<;>split<;>omega
  rcases hA X hX with (h|⟨h,adj,af⟩)|⟨h,hr⟩
  .rw[h,xG]at hle;exact⟨c0,c1,by omega,f2.succ,f3.succ⟩
  .have cs:∀{a:Int} {c:Nat},(st k).2=a->CntP n st a X k c->CntP n st a X (k+1) (c+1):=by
    intro a c hκ hc;rcases hc with hc|⟨i,i1,i2,i3,i4,i5⟩
    .exact .inr ⟨k,by omega,hκ,adj,by omega,by omega⟩
    .obtain ⟨g,hg,eg⟩:=i3;obtain ⟨g',pp,eg'⟩:=adj;have:=W.window S (i:=i) (j:=k) q_ q_ (i2.trans hκ.symm) hg pp (eg.trans eg'.symm);exact .inr ⟨i,by omega,i2,⟨g,hg,eg⟩,by omega,by omega⟩
   have cx:=W.kd k q_;by_cases c:k<r
   .rw[zE c]at cx;exact⟨c0+1,c1,by omega,cs cx f2,f3.succ⟩
   .rw[zD c]at cx;exact⟨c0,c1+1,by omega,f2.succ,cs cx f3⟩
  .refine⟨c0,c1,?_,f2.succ,f3.succ⟩;rw[zE q_]at f1;rw[zD q_];omega
def upK(n:Net)(m:MacM)(h:Hop):MacM:=if h.kind=1 then ⟨upW n h,m.tables,m.queues,m.now,m.injected,m.drops⟩ else m
theorem A36(hc:Cv n=true)(s4:(nth n.ports p).link<0){k:Nat}(hk:k+1<l.length){m:MacM}(I:InvW n p l st r k m):InvW n p l st r (k+1) (doT n (upK n m (nth l ((k+1:Nat):Int))) (pickX (upK n m (nth l ((k+1:Nat):Int))) (st k).1)).1:=by
 have hd:=W.ind B.right hp (i:=k) q_;have mr:=W.ind B.right hp hk;have hupw:∀h:Hop,okB n (upW n h)=true:=λh=>ok_iff.2 ⟨by rw[upW,yQ,xU],B.right,hc⟩
 have I1:InvW n p l st r k (upK n m (nth l ((k+1:Nat):Int))):=by
  rw[upK];split
  .exact⟨I.len,hupw _,I.now,I.tabs,I.last,I.few⟩
  .exact I
 refine A35 W B hp S hk I1 λq hq ew=>?_
 have a7:=Ags W B hp q_ ew I1.up;have ht:=I1.tabs (st k).1;by_cases r9:k+1=r
 .obtain ⟨a,b⟩:=Azr W B hp hk r9 hq a7 ht.1 ht.2;refine⟨_,_,b,a,λX hX=>.inr ⟨?_,r9⟩,[],⟨-2,0,1,Da n l st r (k+1)⟩,?_,E,E,.inr (.inl ⟨r9,E⟩)⟩
  .show (U3 n 1 X _++[]).length<=1;rw[xD];exact Aju ..
  .show U3 n 1 (st (k+1)).1 _++[]=_;rw[xD,U3,zD (by dsimp only;decide),zD (by dsimp only;decide),zD (by dsimp only;decide),zE rfl,zE rfl];rfl
 .obtain ⟨a,b⟩:=Am8 W B hp S q_ (.inl r9) hq a7 ht.1 ht.2;have hF:=dB W B hp (k:=k) q_;have gd:Kv n (upK n m (nth l ((k+1:Nat):Int))).up=fX n (upK n m (nth l ((k+1:Nat):Int))).up:=by rw[Kv,zE I1.up]
  have hF1:Da n l st r (k+1)=Da n l st r k:=by
   rw[Da,Da];by_cases c:k<r
   .rw[zE c,zE q_]
   .rw[zD c,zD q_]
  refine⟨_,_,b,a,λX hX=>.inl ?_,?_⟩
  .obtain ⟨A,C,e,h1,h2,h3,h4,_,_⟩:=Ac7 B I1.up gd (x:=q.from_) (X:=X) (g:=1) hd hX hF;rw[e];by_cases c:A++C=[]
   .exact .inl c
   .refine .inr ⟨by rw[zQ];omega,?_,r9⟩;have ny:Zh n (st k).1:=by rw[Zh];exact⟨⟨hd.1,by have:=hd.2;omega⟩,B.right⟩
    by_cases cA:A=[]
    .have cC:C≠[]:=λhh=>c (by rw[cA,hh];rfl)
     obtain ⟨x,hx⟩:=List.exists_mem_of_ne_nil _ cC;refine⟨K8 X,?_,E⟩;rw[Dg,zE ny];exact wX _ (yS.2 ⟨X,(h4 x hx).1,E⟩)
    .obtain ⟨x,hx⟩:=List.exists_mem_of_ne_nil _ cA;obtain ⟨z,hz,ez,_⟩:=h3 x hx;refine⟨⟨1,z,X,0⟩,?_,E⟩;rw[Dg,zE ny];exact uU _ (wA.2 ⟨z,hz,by rw[linkHop,ez,zE E]⟩)
  .obtain ⟨A,C,e,h1,h2,h3,h4,h5,h6⟩:=Ac7 B I1.up gd (x:=q.from_) (X:=(st (k+1)).1) (g:=1) hd mr hF;rw[e,hF1];have xa:=W.hop k hk r9;have gi:=W.dom (k+1) hk;have gr:(st (k+1)).2=(st k).2:=by
    rw[W.kd (k+1) hk,W.kd k q_];by_cases c:k<r
    .rw[zE c,zE q_]
    .rw[zD c,zD q_]
   have some:A++C≠[]:=by
    rcases fR xa with ⟨e1,e2,e3⟩|⟨e1,e2⟩
    .rw[gi]at e3;refine λhh=>h5 _ e2 ?_ ?_ e3 (List.append_eq_nil_iff.1 hh).1
     .intro ex;rcases ew with ⟨h0,hx⟩|⟨_,hx⟩|⟨cy,hkr2,⟨hx,_⟩|⟨z,hz,ez,hx⟩⟩
      .have vg:=(I0 (Aai e3)).2.1;rw[ex,hx]at vg;omega
      .have:=((C1 B.right hd).1 e2).1.1;omega
      .have:=((C1 B.right hd).1 e2).1.1;omega
      .have qy:=W.ind B.right hp (i:=k-1) q_;obtain ⟨_,_,lb⟩:=Ta B.right qy hz ez;rw[ex,hx,lb]at e3;have e4:(st (k-1)).1=(st (k+1)).1:=(Prod.mk.inj e3).1;have k2:(st (k-1)).2=(st (k+1)).2:=by
        rw[gr,W.kd (k-1) q_,W.kd k q_];by_cases c:k<r
        .rw[zE c,zE q_]
        .rw[zD c,zD q_]
       have:=W.diff S (i:=k-1) (j:=k+1) q_ hk (Prod.ext e4 k2);omega
     .rw[usableB,gd,upK,zE e1];have vg:=I0 (Aai e3);have:=A4p n _ vg.2.2 (hupw _) (nth n.ports (nth l ((k+1:Nat):Int)).port).link.toNat vg.2.2;have e9:S5 n.links.length (nth n.ports (nth l ((k+1:Nat):Int)).port).link.toNat=upW n (nth l ((k+1:Nat):Int)):=rfl;rw[e9]at this;dsimp only;rw[this];simp
    .rw[gi]at e2;refine λhh=>h6 ?_ e2 (List.append_eq_nil_iff.1 hh).2
     intro ex;rcases ew with ⟨h0,hx⟩|⟨_,hx⟩|⟨cy,hkr2,⟨hx,hm⟩|⟨z,hz,ez,hx⟩⟩
     .omega
     .omega
     .have qy:=W.ind B.right hp (i:=k-1) q_;have k2:(st (k-1)).2=(st (k+1)).2:=by
       rw[gr,W.kd (k-1) q_,W.kd k q_];by_cases c:k<r
       .rw[zE c,zE q_]
       .rw[zD c,zD q_]
      rcases Av7 B qy hm e2 with e4|e4
      .have:=W.diff S (i:=k-1) (j:=k+1) q_ hk (Prod.ext e4.symm k2);omega
      .have:=W.ahead S (i:=k-1) (j:=k+1) q_ hk k2 (g:=K8 (st (k+1)).1) (by
        rw[Dg,zE (by rw[Zh];exact⟨⟨qy.1,by have:=qy.2;omega⟩,B.right⟩)];exact wX _ (yS.2 ⟨_,e4,E⟩)) E
       omega
     .have qy:=W.ind B.right hp (i:=k-1) q_;have:=(Aai ez)
      omega
   have good:∀x∈A++C,x.frame=Da n l st r k/\x.origin=1/\Aee n p st r (k+1) x.from_:=by
    intro x hx;rcases yH.1 hx with hx|hx
    .obtain ⟨z,hz,ez,rfl⟩:=h3 x hx;exact⟨E,E,.inr (.inr ⟨by omega,r9,.inr ⟨z,kS hz,kS ez,E⟩⟩)⟩
    .obtain ⟨c1,rfl⟩:=h4 x hx;exact⟨E,E,.inr (.inr ⟨by omega,r9,.inl ⟨E,kS c1⟩⟩)⟩
   have gu:=uC some;have:=good _ (List.getLast_mem some);exact⟨_,_,gu.symm,this.1,this.2.1,this.2.2⟩
end
section
variable {n:Net} {p:Int} {l:List Hop} {st:Nat->Int×Int} {r:Nat} (W:WayS n p l st r) (B:BuiltK n) (hp:0<=p/\p.toNat<n.ports.length)
include W B hp
theorem Aff:wayBytes n l=(Mb (frameW n l),0):=by
 have ee:=W.pos;have af:l≠[]:=λe=>by rw[e]at ee;simp at ee;omega
 refine zE ⟨B.right,af,?_⟩;rw[allB_iff];intro i hi;have hd:=W.ind B.right hp hi;have ny:=W.dom i hi;rw[<-Aio hi,stepB,ny,Ko hd,yG,yU,yX];by_cases c:i=r
 .right;have R:=W.led B hp q_;have e:((i:Int)-1)=((r-1:Nat):Int):=by omega
  rw[xX,e,W.dom (r-1) q_];exact⟨zK q_,zK (by have:=R.from_.1;rw[M1]at this;omega)⟩
 .left;refine zK λe3=>?_
  cases i with
  |zero=>rw[W.start.2]at e3;cases e3
  |succ i=>
   rcases fR (W.hop i hi c) with h1|h1
   .rw[h1.1]at e3;cases e3
   .rw[h1.1]at e3;cases e3
theorem Ane:enterT n p (injectW n p l).bytes=((st 0).1,frameW n l,0):=by
 have ee:=W.pos;have hd:=W.ind B.right hp (i:=0) q_;have hF:=dB W B hp (k:=0) q_;rw[Da,zE q_]at hF;have hlen:=hF.len;obtain ⟨v,hv,v0,e⟩:=W.start.1;have e1:(st 0).1=C8 n (nth n.ports p).dev v:=by rw[e];dsimp only;rw[B5,zE B.right]
 have m8:=Ado (n:=n) (dev:=(nth n.ports p).dev) (v:=v) (by rw[<-e1];exact hd.1);rw[<-e1]at m8;have e0:=W.dom 0 q_;have e0:(nth l 0).domain=(st 0).1:=e0;have zw:B5 n (nth n.ports p).dev v=(st 0).1:=by rw[B5,zE B.right,e1]
 have fc:=(Er B.right hd.2).2.1;rw[<-Ae hd.2,m8.2.2]at fc;rw[injectW,Aff W B hp];dsimp only;rw[e0,m8.2.2,Js hF.ok];dsimp only;by_cases c:v=(nth n.ports p).native
 .rw[zD (λhh=>hh c),Wy B.right hp hF.ok hF.typ hF.src (by rw[<-c];exact v0),<-c,zw]
 .have a6:inB (nth n.ports p).tagged v=true:=by
   rcases yI.1 hv with h|h
   .exact yA h c
   .exact inB_iff.2 h
  rw[zE c,Uw B.right hp hF.ok hF.typ q_ hF.src fc a6,zw]
theorem A1w(hc:Cv n=true)(s4:(nth n.ports p).link<0):InvW n p l st r 0 (doW n ⟨newT n,false,[]⟩ (injectW n p l)).m:=by
 have ee:=W.pos;have hd:=W.ind B.right hp (i:=0) q_;have ay:Ag p n.ports.length=true:=by rw[Ag,zL hp.1,zL (by have:=hp.2;omega)];rfl
 have e:(doW n ⟨newT n,false,[]⟩ (injectW n p l)).m=comeM ⟨(newT n).up,(newT n).tables,(newT n).queues,(newT n).now,(newT n).injected+1,(newT n).drops⟩ (st 0).1 ⟨p,0,(newT n).injected+1,frameW n l⟩ 0:=by
  show (doT n (newT n) (injectW n p l)).1=_;rw[doT,zE (show (injectW n p l).kind=1 from rfl)];show injectT n (newT n) p (injectW n p l).bytes=_;rw[injectT,zD (by rw[ay];rintro (hh|hh);cases hh;omega),Ane W B hp]
 rw[e];have cs:=X6 ⟨(newT n).up,(newT n).tables,(newT n).queues,(newT n).now,(newT n).injected+1,(newT n).drops⟩ (st 0).1 ⟨p,0,(newT n).injected+1,frameW n l⟩ 0;have hq:∀X,queueL ⟨(newT n).up,(newT n).tables,(newT n).queues,(newT n).now,(newT n).injected+1,(newT n).drops⟩ X=[]:=by
  intro X;show ((List.replicate n.domains.length ([]:List QueuedM))[X.toNat]?).getD []=[];rw[uV];split<;>rfl
 have ht:∀X,tableL (comeM ⟨(newT n).up,(newT n).tables,(newT n).queues,(newT n).now,(newT n).injected+1,(newT n).drops⟩ (st 0).1 ⟨p,0,(newT n).injected+1,frameW n l⟩ 0) X=[]:=by
  intro X;rw[tableL,cs.tables];show ((List.replicate n.domains.length ([]:List EntryM))[X.toNat]?).getD []=[];rw[uV];split<;>rfl
 have hlen:(newT n).queues.length=n.domains.length:=xU;refine⟨by rw[cs.len];exact hlen,by rw[cs.up];exact ok_iff.2 ⟨xU,B.right,hc⟩,cs.now,λX=>?_,⟨[],⟨p,0,1,frameW n l⟩,?_,?_,E,.inl ⟨E,E⟩⟩,λX hX=>⟨0,0,?_,.inl E,.inl E⟩⟩
 .rw[ht];exact⟨by decide,λe he=>by cases he⟩
 .rw[Qk,hq,zE ⟨rfl,rfl,by show _<(newT n).queues.length;rw[hlen];exact hd.2,by decide⟩];rfl
 .rw[Da,zE q_]
 .rw[Qk,hq];have h0:(if 0<r then 1 else 2:Nat)=1:=zE q_;rw[h0];split<;>simp
theorem A2f(S:U6 n p l st)(hc:Cv n=true)(s4:(nth n.ports p).link<0):∀k,k<l.length->InvW n p l st r k (goW n p l k).m
 |0,_=>A1w W B hp hc s4
 |k+1,h=>by
  have I:=A2f S hc s4 k q_;have e:(linkW n (goW n p l k) (nth l ((k+1:Nat):Int))).m=upK n (goW n p l k).m (nth l ((k+1:Nat):Int)):=by
   rw[linkW,upK];split
   .rw[doW,doT,zD y_,zD y_,zD y_,zD y_,zE rfl,zE (by rw[upW,yQ,xU])]
   .rfl
  have h1:=A36 W B hp S hc s4 h I;rw[<-e]at h1;show InvW n p l st r (k+1) (S2 n (linkW n (goW n p l k) (nth l ((k+1:Nat):Int))) (nth l ((k:Nat):Int)).domain).m;rw[W.dom k q_];exact h1
theorem A2p(S:U6 n p l st)(hc:Cv n=true)(s4:(nth n.ports p).link<0){to:Int}(dr:0<=to/\to.toNat<n.ports.length)(ab:(nth n.ports to).link<0)(af:p≠to)(hg:inB (A0 n (st (l.length-1)).1) to=true):∃s∈(doT n (goW n p l (l.length-1)).m (pickX (goW n p l (l.length-1)).m (st (l.length-1)).1)).2,s.port=to/\s.origin=1:=by
 have ee:=W.pos;have hk:l.length-1<l.length:=by omega
 have I:=A2f W B hp S hc s4 _ hk;have hd:=W.ind B.right hp hk;obtain ⟨pre,q,h1,h2,h3,h4⟩:=I.last;have a7:=Ags W B hp hk h4 I.up;have ht:=I.tabs (st (l.length-1)).1;obtain ⟨_,b⟩:=Am8 W B hp S hk q_ h2 a7 ht.1 ht.2;have hF:=dB W B hp hk;have m8:=Afy (by rw[I.len];exact Ko hd) h1 (by rw[I.now];exact b);rw[m8,h3];have hm:=inB_iff.1 hg;have hx:to≠q.from_:=by
  rcases h4 with ⟨_,h⟩|⟨_,h⟩|⟨_,_,⟨h,_⟩|⟨z,hz,ez,h⟩⟩
  .rw[h];exact λe=>af e.symm
  .omega
  .omega
  .intro e;have ho:=Aai ez;have:=(I0 (i:=A4 n z) (by rw[Ud ho];exact((C1 B.right (W.ind B.right hp (i:=l.length-1-1) q_)).1 hz).1.1)).2.1;rw[<-h,<-e]at this;omega
 have a6:to∈C0 n (Kv n (goW n p l (l.length-1)).m.up) q.from_ (A7 n (st (l.length-1)).1):=by
  rw[C0,uB,Q2 B hd];refine⟨hm,?_⟩;rw[usableB,zL ab,zK hx];rfl
 refine⟨_,Agp n 1 _ _ (Si n (st (l.length-1)).1 (Da n l st r (l.length-1)) to) (uU _ (yS.2 ⟨to,a6,E⟩)) ?_,?_,E⟩
 .rw[Aik B hd hm hF];exact zE ab
 .rw[Aik B hd hm hF]
end
def eX(n:Net):∀(L:List StepM) (m:MacM) (x:StepM),Dn n m (L++[x])=((doT n (Dn n m L).1 x).1,(Dn n m L).2++(doT n (Dn n m L).1 x).2)
 |[],m,x=>by simp[Dn]
 |y::L,m,x=>by
  rw[wB,Dn,eX n L,Dn];simp
def Asc{n:Net}{s:GoM}(h:(Dn n (newT n) s.out).1=s.m)(x:StepM):(Dn n (newT n) (doW n s x).out).1=(doW n s x).m:=by
 rw[doW,eX,h]
def Arr(n:Net)(p:Int)(l:List Hop):∀k,(Dn n (newT n) (goW n p l k).out).1=(goW n p l k).m
 |0=>Asc rfl _
 |k+1=>by
  refine Asc ?_ _;rw[linkW];split
  .exact Asc (Arr n p l k) _
  .exact Arr n p l k
def A2e(n:Net)(p:Int)(l:List Hop):∀k,∃rest,(goW n p l k).out=injectW n p l::rest/\rest.length<=2*k/\∀y∈rest,(y.kind=2\/y.kind=5)/\y.bytes=[]
 |0=>⟨[],rfl,yE _,λy hy=>by cases hy⟩
 |k+1=>by
  obtain ⟨rest,h1,h2,h3⟩:=A2e n p l k;have hk:∀(m:MacM) (d:Int),(pickX m d).kind=2:=λ_ _=>rfl
  show ∃rest,(S2 n (linkW n (goW n p l k) (nth l ((k+1:Nat):Int))) (nth l ((k:Nat):Int)).domain).out=_/\_;rw[S2,doW,linkW];split
  .refine⟨rest++[⟨5,0,0,0,[],upW n (nth l ((k+1:Nat):Int))⟩]++[_],by rw[doW,h1];rfl,by simp;omega,λy hy=>?_⟩;simp only[yH,zX]at hy;rcases hy with (hy|rfl)|rfl
   .exact h3 y hy
   .exact⟨.inr E,E⟩
   .exact⟨.inl E,E⟩
  .refine⟨rest++[_],by rw[h1];rfl,by simp;omega,λy hy=>?_⟩;rcases yH.1 hy with hy|hy
   .exact h3 y hy
   .rw[zX.1 hy];exact⟨.inl rfl,rfl⟩
def Ah3{n:Net}(B:BuiltK n)(hc:Cv n=true){p to:Int}(h:(wscriptT n p to).2=0):∃rest x,(wscriptT n p to).1=injectW n p (wayT n p to).1::rest++[x]/\(rest.length+2<=4*n.domains.length+2)/\(∀y∈rest++[x],(y.kind=2\/y.kind=5)/\y.bytes=[]) /\
   ∃s∈(doT n (Dn n (newT n) (injectW n p (wayT n p to).1::rest)).1 x).2,s.port=to/\s.origin=1:=by
 rw[wscriptT]at h|-;split at h
 .rename_i hk;rw[zE hk];split at h
  .rename_i hw;rw[zE hw];obtain ⟨_,h1,h2,h3,m,x,g1,g2,g3,g4,g5⟩:=(way_short (n:=n) (p:=p) (to:=to)).1 hw;have hf:=Aoo B.num.addr hw;obtain ⟨st,r,W,hx,_⟩:=Aar g4;generalize (wayT n p to).1=l at *;have j7:=Le h1;have htt:=Le h2;simp only[J1,zG,zJ]at h1 h2;have S:U6 n p l st:=by
    intro k cx;rw[<-hx]at cx;have:=g5 k x cx g2;omega
   rw[hx]at g2;obtain ⟨rest,o1,o2,o3⟩:=A2e n p l (l.length-1);have hr:=Arr n p l (l.length-1);have hd:=W.dom (l.length-1) q_;have ei:((l.length:Int)-1)=((l.length-1:Nat):Int):=by omega
   obtain ⟨s,s1,s2⟩:=A2p W B j7 S hc h1.2 htt h2.2 h3 g2;refine⟨rest,pickX (goW n p l (l.length-1)).m (st (l.length-1)).1,?_,by omega,λy hy=>?_,s,?_,s2⟩
   .show (Ar2 n p l).out=_;rw[Ar2,S2,doW,ei,hd,o1]
   .rcases yH.1 hy with hy|hy
    .exact o3 y hy
    .rw[zX.1 hy];exact⟨.inl rfl,rfl⟩
   .rw[<-o1,hr];exact s1
  .cases h
 .cases h
def Az0{n:Net}{m:MacM}{x:StepM}(hx:x.kind≠1)(h:∀X,queueL m X=[]):(doT n m x).2=[]/\∀X,queueL (doT n m x).1 X=[]:=by
 have tk:∀d a,(takeM m d a).2.2=false/\∀X,queueL (takeM m d a).1 X=[]:=by
  intro d a;rw[takeM];split
  .exact⟨E,h⟩
  .have ht:takeT (queueL m d) a=(noQ,[],false):=by
    rw[h d,takeT,zE kO]
   rw[ht];refine⟨E,λX=>?_⟩;dsimp only;rw[Q0];split
   .rfl
   .exact h X
 rw[doT,zD hx];split
 .rw[pickT,zE (tk _ _).1];exact⟨E,(tk _ _).2⟩
 split
 .exact⟨E,(tk _ _).2⟩
 split
 .exact⟨E,h⟩
 split
 .split
  .exact⟨E,h⟩
  .exact⟨E,h⟩
 .exact⟨E,h⟩
def Afv{n:Net}:∀(l:List StepM) (m:MacM),(∀y∈l,y.kind≠1)->(∀X,queueL m X=[])->(Dn n m l).2=[]
 |[],_,_,_=>rfl
 |x::l,m,hl,h=>by
  obtain ⟨a,b⟩:=Az0 (n:=n) (hl x y_) h;rw[Dn,a,Afv l _ (λy hy=>hl y (by simp[hy])) b];rfl
def Afw{n:Net}{l:List StepM}(hl:∀y∈l,y.kind≠1):(Dn n (newT n) l).2=[]:=by
 refine Afv l _ hl λX=>?_
 show ((List.replicate n.domains.length ([]:List QueuedM))[X.toNat]?).getD []=[];rw[uV];split<;>rfl
def Ah4{n:Net}{f t:Int}(h:(wscriptT n f t).2=0):okB n (Aat n)=true:=by
 rw[wscriptT]at h;split at h
 .rename_i hc;exact hc.2.2.2
 .cases h
def Aiz{n:Net}(B:BuiltK n)(hc:Cv n=true){f t:Int}(h:(wscriptT n f t).2=0):(injectW n f (wayT n f t).1).bytes.length<=2000:=by
 rw[wscriptT]at h;split at h
 .split at h
  .rename_i hw;obtain ⟨_,h1,_,_,m,x,_,_,_,g4,_⟩:=(way_short (n:=n) (p:=f) (to:=t)).1 hw;obtain ⟨st,r,W,_,_⟩:=Aar g4;generalize (wayT n f t).1=l at *;have ee:=W.pos;have hF:=dB W B (Le h1) (k:=0) q_;rw[Da,zE q_]at hF;have hl:=hF.len;rw[injectW,Aff W B (Le h1)];dsimp only;rw[Js hF.ok];dsimp only;split
   .rw[(Aaz hF.typ q_).2,D9];simp;omega
   .rw[D9];omega
  .cases h
 .cases h
def anyS(t:Int)(l:List SeenM):Bool:=l.any λs=>decide (s.port=t)&&decide (s.origin=1)
attribute [local irreducible]G DR
set_option maxRecDepth 100000
end
section
structure FarK(n:Net):Prop where
 vrf:∀x∈n.irbs,0<=x.vrf/\x.vrf.toNat<n.vrfs.length
 far:∀x∈n.irbs,∀y∈n.irbs,(nth n.vrfs x.vrf).dev≠(nth n.vrfs y.vrf).dev->Uc x.addr x.bits y.addr=false
def Agz:FarK emptyN:=⟨λx hx=>(by cases hx),λx hx=>(by cases hx)⟩
def A4d{n:Net}{l:LineM}(h:FarK n):FarK (putT n l).1:=by
 have same:∀{m:Net},m.irbs=n.irbs->m.vrfs=n.vrfs->FarK m:=λ{m} h1 h2=>⟨by rw[h1,h2];exact h.vrf,by rw[h1,h2];exact h.far⟩
 have e:=Agz;rw[putT];split
 .rw[putDevice]
  repeat' split
  all_goals (first|exact e|exact same rfl rfl)
 split
 .rw[putPort]
  repeat' split
  all_goals (first|exact e|exact same rfl rfl)
 split
 .rw[putLink];dsimp only
  repeat' split
  all_goals (first|exact e|exact same rfl rfl)
 split
 .rw[putStatic];dsimp only
  repeat' split
  all_goals (first|exact e|exact same rfl rfl)
 split
 .rw[putVtep];dsimp only
  repeat' split
  all_goals (first|exact e|exact same rfl rfl)
 split
 .rw[putVni];dsimp only
  repeat' split
  all_goals (first|exact e|exact same rfl rfl)
 split
 .rw[putFlood];dsimp only
  repeat' split
  all_goals (first|exact e|exact same rfl rfl)
 split
 .rw[putVrf];dsimp only;split
  .exact e
  split
  .exact e
  split
  .exact e
  have key:∀x∈n.irbs,nth (n.vrfs++[(⟨l.row,(begT n l 8).1,l.name,l.imports,l.exports⟩:Vrf)]) x.vrf=nth n.vrfs x.vrf:=λx hx=>Ug (h.vrf x hx).2
  refine⟨λx hx=>?_,λx hx y hy af=>?_⟩
  .have:=h.vrf x hx;dsimp only;rw[zQ];omega
  .dsimp only at hx hy af|-;rw[key x hx,key y hy]at af;exact h.far x hx y hy af
 split
 .rw[putIrb];dsimp only;split
  .exact e
  split
  .exact e
  rename_i hv;split
  .exact e
  split
  .exact e
  rename_i hc;have hca:∀y∈n.irbs,clashB n (begT n l 9).1 l.addr l.bits y=false:=by
   have h1:n.irbs.any (clashB n (begT n l 9).1 l.addr l.bits)=false:=by
    cases hh:n.irbs.any (clashB n (begT n l 9).1 l.addr l.bits)
    .rfl
    .exact yA (.inr hh) hc
   simpa [wE] using h1
  have p1:=Ev (p:=λv:Vrf=>v.dev==(begT n l 9).1&&v.name==l.name) (l:=n.vrfs) (by show 0<=oM n (begT n l 9).1 l.name;omega);have a2:(nth n.vrfs (oM n (begT n l 9).1 l.name)).dev=(begT n l 9).1:=by
   have:=p1.2;simp only[zG,yJ]at this;exact this.1
  have a1:(oM n (begT n l 9).1 l.name).toNat<n.vrfs.length:=p1.1;have far2:∀y∈n.irbs,(nth n.vrfs y.vrf).dev≠(begT n l 9).1->Uc y.addr y.bits l.addr=false/\Uc l.addr l.bits y.addr=false:=λy hy af=>by
   have:=hca y hy;simp only[clashB,xX,yX,bne_eq_false_iff_eq]at this;rcases this.2 with h2|h2
   .exact yA h2 af
   .exact h2
  refine⟨λx hx=>?_,λx hx y hy af=>?_⟩
  .rcases yH.1 hx with hx|hx
   .exact h.vrf x hx
   .rw[zX.1 hx];exact⟨by dsimp only;omega,a1⟩
  .dsimp only at af;rcases yH.1 hx with hx|hx
   .rcases yH.1 hy with hy|hy
    .exact h.far x hx y hy af
    .rw[zX.1 hy]at af|-;dsimp only at af|-;rw[a2]at af;exact(far2 x hx af).1
   .rw[zX.1 hx]at af|-;dsimp only at af|-;rcases yH.1 hy with hy|hy
    .rw[a2]at af;exact(far2 y hy (λhh=>af hh.symm)).2
    .rw[zX.1 hy]at af;exact yA E af
 exact e
def A06{n:Net}(h:FarK n):FarK (Bz n):=⟨h.vrf,h.far⟩
def Ahc:∀(l:List LineM) (n:Net),FarK n->(Bv n l).2.2=0->FarK (Bv n l).1
 |[],n,hn,h=>by
  rw[Bv,finishT]at h|-;split at h
  .rename_i h1;exact yA h h1
  rename_i h1;rw[zD h1];split at h
  .simp at h
  rename_i h2;rw[zD h2];obtain ⟨e1,_⟩:=Oh (n:=n) q_;dsimp only;rw[e1];exact A06 hn
 |x::l,n,hn,h=>by
  rw[Bv]at h|-;split at h
  .rename_i h1;exact yA h h1
  rename_i h1;rw[zD h1];exact Ahc l _ (A4d hn) h
def Amg{n:Net}(hr:Ac n=true)(hu:C7 n)(hf:FarK n){irb dst:Int}(hd:0<=dst/\dst<4294967296)(h:(lookT n irb dst).2=true):Hc n dst=false:=by
 cases ht:Hc n dst with
 |false=>rfl
 |true=>
  obtain ⟨i,hi,ha⟩:=takenA_iff.1 ht;have hw:=(Ly h).1;obtain ⟨h1,h2,h3⟩:=mem_ways.1 hw;have cw:Oo n irb dst i=false:=by
   rw[lookT]at h;split at h
   .cases h
   .rename_i hc;cases hh:Oo n irb dst i
    .rfl
    .exact yA (xY.2 ⟨i,yV.2 hi,hh⟩) hc
  generalize (lookT n irb dst).1=to at *;simp only[Afr,zG,yJ]at h3;have hni:nth n.irbs (i:Int)=n.irbs[i]:=Ae (l:=n.irbs) (i:=(i:Int)) hi;have w7:Lb n i≠Lb n irb:=λhh=>by
   rw[Oo,hh,hni,ha]at cw;simp at cw
  have dv:∀(j:Nat) (hj:j<n.irbs.length),Lb n (j:Int)=(nth n.vrfs n.irbs[j].vrf).dev:=λj hj=>by
   have:=A2q hr hj;simp only[Aco,zG,yJ]at this;rw[Lb,Ae (l:=n.irbs) (i:=(j:Int)) hj];exact this.1.1.1.2
  have dr:((to.toNat:Nat):Int)=to:=yR h1.1;have d1:=dv to.toNat h1.2;rw[dr]at d1;have d2:=dv i hi;have hx:=hf.far n.irbs[to.toNat] (zI h1.2) n.irbs[i] (zI hi) (by rw[<-d1,<-d2,<-h3.1];exact λhh=>w7 hh.symm);rw[Ae h1.2,fD (Dl hr h1.2).2.2 (hu _ (zI h1.2)) hd]at h2;rw[ha]at hx;rw[hx]at h2;cases h2
structure EntF(f:FrameM):Prop where
 ok:FrameOK f
 typ:f.typ≠33024
 src:Du f.src=false
def RouteF(f:FrameM):Prop:=∃p:PacketM,ipTakeT f.body=(p,0)/\p.dst<4294967296/\f.dst=hostN p.dst
def M6(n:Net)(p X:Int)(f:FrameM):Prop:=EntF f/\∃k,Walk n p k (X,0)\/(Walk n p k (X,1)/\RouteF f)
def Amz{n:Net}{p X:Int}{f:FrameM}(h:M6 n p X f){g:Hop}(hg:g∈Dg n X):M6 n p g.domain f:=by
 obtain ⟨h1,k,h2⟩:=h;refine⟨h1,k+1,?_⟩;rcases h2 with h2|⟨h2,h3⟩
 .exact .inl (.step h2 (.inl ⟨g,hg,E⟩))
 .exact .inr ⟨.step h2 (.inl ⟨g,hg,E⟩),h3⟩
def Aos{P:Port}{tg:Bool}{er:Int}(h:(vlanT P tg er).2=true):(vlanT P tg er).1∈P.native::P.tagged/\(vlanT P tg er).1≠0:=by
 rw[vlanT]at h|-;split at h
 .rename_i hc;rw[zE hc];exact⟨List.mem_cons_self,zO h⟩
 .rename_i hc;rw[zD hc];split at h
  .rename_i hi;rw[zE hi];exact⟨List.mem_cons_of_mem _ (inB_iff.1 hi),λhh=>hc (.inr hh)⟩
  .cases h
def Adg{n:Net}{p:Int}{f:FrameM}{tg:Bool}{er:Int}(hf:FrameOK f)(ht:f.typ≠33024)(h:(He n p f tg er).2.2=0):EntF (He n p f tg er).2.1/\Aec n p ((He n p f tg er).1,0):=by
 rw[He]at h|-;split at h
 .cases h
 rename_i hg;rw[zD hg];split at h
 .cases h
 rename_i hv;rw[zD hv];have hv:(vlanT (nth n.ports p) tg er).2=true:=kS hv;obtain ⟨v1,v2⟩:=Aos hv;exact⟨⟨hf,ht,kS hg⟩,_,v1,v2,E⟩
def Aow{f:FrameM}(hf:FrameOK f)(h:(stripT f).2.2.2=0):FrameOK (stripT f).1/\(stripT f).1.typ≠33024:=by
 rw[stripT]at h|-;split at h
 .cases h
 rename_i h1;rw[zD h1];split at h
 .cases h
 rename_i h2;rw[zD h2];split at h
 .cases h
 rename_i h3;rw[zD h3];have hb:=hf.body;have a3:=Qv 2 ((f.body.drop 2).take 2) (by rw[zY,yP];omega);exact⟨⟨hf.dst,hf.src,by dsimp only;omega,by dsimp only;rw[yP];omega⟩,λhh=>h3 (.inr hh)⟩
def Axt{n:Net}{p:Int}{b:List UInt8}(h:(enterT n p b).2.2=0):EntF (enterT n p b).2.1/\Aec n p ((enterT n p b).1,0):=by
 rw[enterT]at h|-;split at h
 .cases h
 rename_i h1;rw[zD h1];split at h
 .rename_i h2;exact yA h h2
 rename_i h2;rw[zD h2];split at h
 .rename_i h3;rw[zE h3];split at h
  .rename_i h4;exact yA h h4
  rename_i h4;rw[zD h4];obtain ⟨s1,s2⟩:=Aow (Vn (Classical.byContradiction h2)) (Classical.byContradiction h4);exact Adg s1 s2 h
 .rename_i h3;rw[zD h3];exact Adg (Vn (Classical.byContradiction h2)) h3 h
def Ama{n:Net}(hr:Ac n=true){d p:Int}(hd:InD n d){f:FrameM}(hf:EntF f)(hl:(leaveT n p d f).2=0):p∈A0 n d/\((linkT n p (leaveT n p d f).1).2.2.2=0->linkDomT n p (nth n.domains d).vlan=((linkT n p (leaveT n p d f).1).2.1,true)/\(linkT n p (leaveT n p d f).1).2.2.1=f):=by
 rw[leaveT]at hl|-;split at hl
 .cases hl
 rename_i h1;rw[zD h1];split at hl
 .cases hl
 rename_i h2;rw[zD h2,zD hf.typ];rw[zD hf.typ]at hl;simp only[uF,Decidable.not_not,Bool.not_eq_false]at h1 h2;have hp:0<=p/\p.toNat<n.ports.length:=by
  have:=h1.1;simp only[Ag,zG,zJ]at this;omega
 refine⟨(C1 hr hd).2 ⟨hp,h2.1,h2.2⟩,?_⟩;by_cases ho:0<=A4 n p;rotate_left
 .rw[linkT,zE q_];intro hh;cases hh
 have yd:=D2 ho;have hq:0<=A4 n p/\(A4 n p).toNat<n.ports.length:=⟨ho,yd.2.2⟩
 have ay:Ag (A4 n p) n.ports.length=true:=by rw[Ag,zL ho,zL q_];rfl
 have fc:=(Er hr hd.2).2.1;rw[<-Ae hd.2]at fc;have gp:C4 n p (nth n.domains d).vlan≠0->linkDomT n p (nth n.domains d).vlan=(B5 n (nth n.ports (A4 n p)).dev (C4 n p (nth n.domains d).vlan),true):=λh=>by
  rw[linkDomT,show crossT n p (nth n.domains d).vlan=(A4 n p,C4 n p (nth n.domains d).vlan,true) from zE ⟨ho,h2.2,h⟩,zE rfl]
 rw[C4]at gp;rw[linkT,zD q_];by_cases c:(nth n.domains d).vlan=(nth n.ports p).native
 .rw[zE c]at gp|-;by_cases hn:(nth n.ports (A4 n p)).native=0
  .rw[enterT,zD (by rw[ay,hr];decide),Js hf.ok];dsimp only;rw[zD y_,zD hf.typ,He,hf.src,zD y_];have hv:vlanT (nth n.ports (A4 n p)) false 0=((nth n.ports (A4 n p)).native,false):=by rw[vlanT,zE (.inl rfl),zK (λhh=>hh hn)]
   rw[hv,zE rfl];intro hh;cases hh
  .rw[Wy hr hq hf.ok hf.typ hf.src hn];exact λ_=>⟨gp hn,E⟩
 .rw[zD c]at gp hl|-;split at hl
  .rename_i h3;exact yA hl h3
  rename_i h3;rw[zD h3];have hb:f.body.length<=1500:=by
   rw[tagT,zD hf.typ]at h3;split at h3
   .exact yA (show (14:Int)≠0 by decide) h3
   .omega
  cases hi:inB (nth n.ports (A4 n p)).tagged (nth n.domains d).vlan with
  |false=>
   obtain ⟨s1,s2,s3⟩:=eQ (v:=(nth n.domains d).vlan) hf.ok hf.typ hb ⟨by omega,fc.2⟩;rw[enterT,zD (by rw[ay,hr];decide),Js s1];dsimp only;rw[zD y_,zE s2,s3];dsimp only;rw[zD y_,He,hf.src,zD y_];have hv:vlanT (nth n.ports (A4 n p)) true (nth n.domains d).vlan=(0,false):=by rw[vlanT,zD (by rintro (hh|hh);cases hh;omega),hi];rfl
   rw[hv,zE rfl];intro hh;cases hh
  |true=>
   rw[hi,zE rfl]at gp;rw[Uw hr hq hf.ok hf.typ hb hf.src fc hi];exact λ_=>⟨gp q_,E⟩
def Aw1{n:Net}(hr:Ac n=true){p d i:Int}(hd:InD n d){f:FrameM}(hc:M6 n p d f)(hl:(leaveT n i d f).2=0)(he:(linkT n i (leaveT n i d f).1).2.2.2=0):M6 n p (linkT n i (leaveT n i d f).1).2.1 (linkT n i (leaveT n i d f).1).2.2.1:=by
 obtain ⟨hm,h⟩:=Ama hr hd hc.1 hl;obtain ⟨h1,h2⟩:=h he;rw[h2];have hg:(⟨1,i,(linkT n i (leaveT n i d f).1).2.1,0⟩:Hop)∈Dg n d:=by
  rw[Dg,zE ⟨⟨hd.1,by have:=hd.2;omega⟩,hr⟩,hopsL];refine uU _ (wA.2 ⟨i,hm,?_⟩);rw[linkHop,h1,zE rfl]
 exact Amz hc hg
def A07{n:Net}(B:BuiltK n){d k:Int}(hd:InD n d){f:FrameM}(hf:EntF f)(h:(meshT n d k f).2=0):k∈(nth n.domains d).peers/\comeT n (meshT n d k f).1=(d,k,f,0):=by
 have h0:=h;rw[meshT]at h;split at h
 .cases h
 split at h
 .cases h
 rename_i h2;have hk:k∈(nth n.domains d).peers:=inB_iff.1 (kS h2);rw[wrapT]at h;split at h
 .cases h
 split at h
 .cases h
 split at h
 .cases h
 rename_i h5;exact⟨hk,(fJ B hd hk hf.ok hf.typ q_ hf.src).2⟩
def Awo{n:Net}(B:BuiltK n){p d k:Int}(hd:InD n d){f:FrameM}(hc:M6 n p d f)(h:(meshT n d k f).2=0):M6 n p (comeT n (meshT n d k f).1).2.1 (comeT n (meshT n d k f).1).2.2.1:=by
 obtain ⟨h1,h2⟩:=A07 B hd hc.1 h;rw[h2];have hg:(⟨2,0,k,0⟩:Hop)∈Dg n d:=by
  rw[Dg,zE ⟨⟨hd.1,by have:=hd.2;omega⟩,B.right⟩,hopsL];exact wX _ (yS.2 ⟨k,h1,E⟩)
 exact Amz hc hg
def routed{n:Net}(B:BuiltK n)(hu:C7 n)(bx:FarK n){d:Int}(hd:InD n d){irb:Int}(he:(nth n.domains d).irb=irb)(hi:InIrbs n irb){dst:Int}(hx:0<=dst/\dst<4294967296)(h:(lookT n irb dst).2=true):∃q∈routesT n d,q.domain=(nth n.irbs (lookT n irb dst).1).domain:=by
 have hr:=B.right;have hfree:=Amg hr hu bx hx h;obtain ⟨h1,h2,_⟩:=mem_ways.1 (Ly h).1;have hlead:Qa n irb (lookT n irb dst).1 dst=true:=leadsB_iff.2 ⟨h,rfl,hfree⟩;generalize (lookT n irb dst).1=to at *;have mi:nth n.irbs to=n.irbs[to.toNat]'h1.2:=Ae h1.2;have a6:=(Wq _ _ _ (Dl hr h1.2).2.2 (hu _ (zI h1.2)) hx).1 (by rw[<-mi];exact h2);rw[<-mi]at a6;have zk:=Aof hu hr (irb:=irb) h1 _ (show Eg (nth n.irbs to).addr (nth n.irbs to).bits∈Adx n to by rw[Adx,A21];simp) (xZ _) (λa h1 h2=>by omega);have ha:(addrT n irb to).2=true:=by
  rw[addrT,zE ⟨⟨hi.1,by have:=hi.2;omega⟩,⟨h1.1,by have:=h1.2;omega⟩,hr⟩];rcases zk with hs|hs
  .exact hs.1
  .have:=hs.2 dst a6.1 a6.2;rw[hlead]at this;cases this
 refine⟨⟨to,(nth n.irbs to).domain,(addrT n irb to).1⟩,?_,E⟩;rw[routesT,he,zE ⟨⟨hd.1,by have:=hd.2;omega⟩,hi.1,hr⟩,Ul];have e:((to.toNat:Nat):Int)=to:=yR h1.1;refine wA.2 ⟨to.toNat,yV.2 h1.2,?_⟩;rw[leadF,e,zE ha]
def A13{n:Net}(B:BuiltK n)(hu:C7 n)(bx:FarK n){p d:Int}(hd:InD n d){f:FrameM}(hc:M6 n p d f)(ji:(routerT n d f.dst).2=true)(h:(hopT n (routerT n d f.dst).1 f).2.2=0):M6 n p (hopT n (routerT n d f.dst).1 f).1 (hopT n (routerT n d f.dst).1 f).2.1:=by
 have hr:=B.right;have sr:(routerT n d f.dst).1=(nth n.domains d).irb/\0<=(nth n.domains d).irb/\hostN (nth n.irbs (nth n.domains d).irb).addr=f.dst:=by
  rw[routerT]at ji|-;split at ji
  .cases ji
  rename_i h1;rw[zD h1];split at ji
  .cases ji
  rename_i h2;rw[zD h2];simp only[uF,Decidable.not_not]at h2;exact⟨E,by omega,h2.2⟩
 obtain ⟨e,h0,hm⟩:=sr;rw[e]at h |-;have hi:InIrbs n (nth n.domains d).irb:=⟨h0,by
  have h2:=(Er hr hd.2).2.2;rw[<- Ae hd.2]at h2;omega⟩
 have ug:=hu _ (Hs hi.2);rw[hopT]at h|-;split at h
 .cases h
 rename_i h1;rw[zD h1];split at h
 .cases h
 rename_i h2;rw[zD h2];split at h
 .rename_i h3;exact yA h h3
 rename_i h3;rw[zD h3];split at h
 .cases h
 rename_i h4;rw[zD h4];split at h
 .cases h
 rename_i h5;rw[zD h5];split at h
 .cases h
 rename_i h6;rw[zD h6];have h3:(ipTakeT f.body).2=0:=Classical.byContradiction h3;have h5:(lookT n (nth n.domains d).irb (ipTakeT f.body).1.dst).2=true:=kS h5;obtain ⟨hp,ay⟩:=Z6 h3;have pj:=hp.dst;have hx:0<=(((ipTakeT f.body).1.dst:Nat):Int)/\(((ipTakeT f.body).1.dst:Nat):Int)<4294967296:=⟨vG _,by omega⟩
 have dr:=(mem_ways.1 (Ly h5).1).1;obtain ⟨q,hq,sx⟩:=routed B hu bx hd rfl hi hx h5;have rj:=hu _ (Hs dr.2);obtain ⟨_,k,hw⟩:=hc;have hw:Walk n p k (d,0)\/(Walk n p k (d,1)/\f.dst=hostN (ipTakeT f.body).1.dst):=by
  rcases hw with hw|⟨hw,pk2,g1,_,g3⟩
  .exact .inl hw
  .exact .inr ⟨hw,by rw[g1];exact g3⟩
 generalize ipTakeT f.body=pk at *;obtain ⟨pk,pe⟩:=pk;dsimp only at *;refine⟨⟨⟨cO hx,cO rj,by dsimp only;decide,?_⟩,by dsimp only;decide,Acx rj⟩,?_⟩
 .dsimp only;rw[Hy];show 20+pk.body.length<=1504;omega
 rw[<-sx];refine⟨k+1,.inr ⟨?_,Ae0 pk,Aix (Att hp) (by show pk.body.length<=1480;omega),pj,E⟩⟩;rcases hw with hw|⟨hw,g3⟩
 .exact .step hw (.inr ⟨E,q,hq,E⟩)
 .exfalso;rw[g3]at hm;have ea:=cP ug.1 hx.1 hm;have ht:=Amg hr hu bx hx h5;have:Hc n ((pk.dst:Nat):Int)=true:=takenA_iff.2 ⟨_,hi.2,by rw[<-Ae hi.2];exact ea⟩;rw[this]at ht;cases ht
structure CameM(n:Net)(bp:Int->Int)(m:MacM):Prop where
 len:m.queues.length=n.domains.length
 all:∀X,InD n X->∀q∈queueL m X,M6 n (bp q.origin) X q.frame
def SawP(n:Net)(bp:Int->Int)(s:SeenM):Prop:=∃k y,Walk n (bp s.origin) k y/\s.port∈A0 n y.1
structure OutC(n:Net)(p:Int)(o:OutM):Prop where
 seen:o.kind=1->∃k y,Walk n p k y/\o.port∈A0 n y.1
 link:o.kind=2->(linkT n o.port o.bytes).2.2.2=0->M6 n p (linkT n o.port o.bytes).2.1 (linkT n o.port o.bytes).2.2.1
 mesh:o.kind=3->(comeT n o.bytes).2.2.2=0->M6 n p (comeT n o.bytes).2.1 (comeT n o.bytes).2.2.1
 route:o.kind=4->InD n o.domain/\M6 n p o.domain o.frame
def A0f{n:Net}{p:Int}{o:OutM}(h:o.kind=5):OutC n p o:=⟨λe=>by omega,λe=>by omega,λe=>by omega,λe=>by omega⟩
section
variable {n:Net} {bp:Int->Int}
theorem CameM.same{m m':MacM}(h:CameM n bp m)(e:m'.queues=m.queues):CameM n bp m':=⟨by rw[e];exact h.len,λX hX q hq=>h.all X hX q (by rw[queueL,e]at hq;exact hq)⟩
theorem CameM.setQ{m:MacM}(h:CameM n bp m){d:Int}{l:List QueuedM}(hl:InD n d->∀q∈l,M6 n (bp q.origin) d q.frame)(hd:0<=d):CameM n bp (setQ m d l):=by
 refine⟨by show (m.queues.set _ _).length=_;rw[yQ];exact h.len,λX hX q hq=>?_⟩;rw[Q0]at hq;split at hq
 .rename_i hc;have e:d=X:=by have:=hX.1;omega
  subst e;exact hl hX q hq
 .exact h.all X hX q hq
theorem CameM.come{m:MacM}(h:CameM n bp m){d:Int}{q:QueuedM}{e:Int}(hq:e=0->InD n d/\M6 n (bp q.origin) d q.frame):CameM n bp (comeM m d q e):=by
 rw[comeM];split
 .exact h.same E
 rename_i he;obtain ⟨hd,hc⟩:=hq (Classical.byContradiction he);split
 .refine h.setQ (λ_ x hx=>?_) hd.1;rw[pushT]at hx;split at hx
  .exact h.all d hd x hx
  .rcases yH.1 hx with hx|hx
   .exact h.all d hd x hx
   .rw[zX.1 hx];exact hc
 .exact h.same E
theorem CameM.goes{m:MacM}(h:CameM n bp m){o:OutM}{g:Int}(ho:OutC n (bp g) o):CameM n bp (goesM n m o g).1/\∀s∈(goesM n m o g).2,SawP n bp s:=by
 rw[goesM];split
 .rename_i hk;refine⟨h,λs hs=>?_⟩;rw[zX.1 hs];exact ho.seen hk
 split
 .rename_i hk;exact⟨h.come λe=>⟨Af9 e,ho.link hk e⟩,λs hs=>(by cases hs)⟩
 split
 .rename_i hk;exact⟨h.come λe=>⟨(lB e).2,ho.mesh hk e⟩,λs hs=>(by cases hs)⟩
 split
 .rename_i hk;exact⟨h.come (d:=o.domain) (q:=⟨-2,0,g,o.frame⟩) (e:=0) λ_=>ho.route hk,λs hs=>(by cases hs)⟩
 .exact⟨h.same rfl,λs hs=>(by cases hs)⟩
theorem CameM.goesL{g:Int}:∀(l:List OutM) {m:MacM},CameM n bp m->(∀o∈l,OutC n (bp g) o)->CameM n bp (goesL n m g l).1/\∀s∈(Go.Sy.Zaa.goesL n m g l).2,SawP n bp s
 |[],m,h,_=>⟨h,λs hs=>(by cases hs)⟩
 |o::l,m,h,ho=>by
  obtain ⟨h1,h2⟩:=h.goes (ho o y_);obtain ⟨h3,h4⟩:=CameM.goesL l h1 λo h=>ho o (by simp[h])
  rw[Go.Sy.Zaa.goesL];refine⟨h3,λs hs=>?_⟩;rcases yH.1 hs with hs|hs
  .exact h2 s hs
  .exact h4 s hs
theorem CameM.take{m:MacM}(h:CameM n bp m)(d a:Int):CameM n bp (takeM m d a).1/\((takeM m d a).2.2=true->InD n d/\M6 n (bp (takeM m d a).2.1.origin) d (takeM m d a).2.1.frame):=by
 rw[takeM];split
 .exact⟨h,λe=>(by cases e)⟩
 rename_i hp;have hd:InD n d:=by
  have hp:Ag d m.queues.length=true:=kS hp;rw[h.len]at hp;exact Lw hp
 rw[takeT];split
 .exact⟨h.setQ (λhd q hq=>h.all d hd q hq) hd.1,λe=>(by cases e)⟩
 .rename_i hc;refine⟨h.setQ (λhd q hq=>h.all d hd q (uT hq)) hd.1,λ_=>⟨hd,?_⟩⟩;exact h.all d hd _ (Ti q_)
end
section
variable {n:Net} (B:BuiltK n) (hu:C7 n) (bx:FarK n)
include B hu bx
theorem Anz{p X:Int}{fw:List Bool}{t:List EntryM}{q:QueuedM}{now:Int}(hX:InD n X)(hc:M6 n p X q.frame):∀o∈(bridgeT n fw t X q now).2.1,OutC n p o:=by
 intro o ho;rw[bridgeT]at ho;split at ho
 .cases ho
 split at ho
 .rename_i ji;split at ho
  .cases ho
  rename_i he;have he:(hopT n (routerT n X q.frame.dst).1 q.frame).2.2=0:=Classical.byContradiction he;rw[zX.1 ho];refine⟨λe=>(by cases e),λe=>(by cases e),λe=>(by cases e),λ_=>⟨?_,A13 B hu bx hX hc ji he⟩⟩;exact Am0 (λd hd=>(mem_ways.1 (Ly hd).1).1) he
 .rcases yH.1 ho with h|h
  .obtain ⟨i,_,rfl⟩:=yS.1 h;rw[Si,O8];split
   .exact A0f E
   rename_i he;have he:(leaveT n i X q.frame).2=0:=Classical.byContradiction he;refine⟨λ_=>?_,λ_ e=>Aw1 B.right hX hc he e,λe=>?_,λe=>?_⟩
   .have hm:=(Ama B.right hX hc.1 he).1;obtain ⟨_,k,hw⟩:=hc;rcases hw with hw|hw
    .exact⟨k,_,hw,hm⟩
    .exact⟨k,_,hw.1,hm⟩
   .dsimp only at e;split at e<;>cases e
   .dsimp only at e;split at e<;>cases e
  .obtain ⟨i,_,rfl⟩:=yS.1 h;rw[Vh,O8];split
   .exact A0f E
   rename_i he;have he:(meshT n X i q.frame).2=0:=Classical.byContradiction he;exact⟨λe=>(by cases e),λe=>(by cases e),λ_ _=>Awo B hX hc he,λe=>(by cases e)⟩
theorem CameM.pick{bp:Int->Int}{m:MacM}(h:CameM n bp m)(d a:Int):CameM n bp (pickT n m d a).1/\∀s∈(pickT n m d a).2,SawP n bp s:=by
 obtain ⟨h1,h2⟩:=h.take d a;rw[pickT];split
 .exact⟨h1,λs hs=>(by cases hs)⟩
 rename_i hc;obtain ⟨hd,hf⟩:=h2 (kS hc);refine CameM.goesL _ ?_ λo ho=>Anz B hu bx hd hf o ho
 rw[O2];split
 .exact h1.same E
 split
 .exact h1.same E
 .exact h1.same E
theorem CameM.do{bp:Int->Int}{m:MacM}(h:CameM n bp m)(x:StepM)(hx:Lz n x=1->bp (m.injected+1)=x.port):CameM n bp (doT n m x).1/\∀s∈(doT n m x).2,SawP n bp s:=by
 rw[doT];split
 .rename_i hk;refine⟨?_,λs hs=>(by cases hs)⟩;rw[injectT];split
  .exact h
  rename_i hc;have hi:Lz n x=1:=by
   rw[Lz,zE];simp only[uF,Bool.not_eq_false]at hc;exact⟨hk,hc.1,by omega⟩
  refine CameM.come (m:=⟨m.up,m.tables,m.queues,m.now,m.injected+1,m.drops⟩) (d:=(enterT n x.port x.bytes).1) (q:=⟨x.port,0,m.injected+1,(enterT n x.port x.bytes).2.1⟩) (e:=(enterT n x.port x.bytes).2.2) (h.same E) λe=>⟨aB e,?_⟩
  dsimp only;rw[hx hi];obtain ⟨h1,h2⟩:=Axt e;exact⟨h1,0,.inl (.start h2)⟩
 split
 .exact h.pick B hu bx _ _
 split
 .exact⟨(h.take _ _).1,λs hs=>(by cases hs)⟩
 split
 .exact⟨h.same rfl,λs hs=>(by cases hs)⟩
 split
 .split
  .exact⟨h.same rfl,λs hs=>(by cases hs)⟩
  .exact⟨h,λs hs=>(by cases hs)⟩
 .exact⟨h,λs hs=>(by cases hs)⟩
theorem CameM.run{bp:Int->Int}:∀(l:List StepM) {m:MacM},Hu m->CameM n bp m->(∀(i:Nat) (h:i<(l.filter λx=>decide (Lz n x=1)).length),bp (m.injected+1+i)=((l.filter λx=>decide (Lz n x=1))[i]).port)->∀s∈(Dn n m l).2,SawP n bp s
 |[],m,_,_,_,s,hs=>by cases hs
 |x::l,m,hg,h,hb,s,hs=>by
  obtain ⟨g1,g2⟩:=At5 (n:=n) hg x;have fx:Lz n x=1->bp (m.injected+1)=x.port:=λhi=>by
   have hf:(x::l).filter (λx=>decide (Lz n x=1))=x::l.filter λx=>decide (Lz n x=1):=vB (zL hi)
   have:=hb 0 (by rw[hf];simp);simp only[hf]at this;simpa using this
  obtain ⟨h1,h2⟩:=h.do B hu bx x fx
  rw[Dn]at hs;rcases yH.1 hs with hs|hs
  .exact h2 s hs
  .refine CameM.run l g1 h1 (λi hi=>?_) s hs;rw[g2];by_cases c:Lz n x=1
   .have hf:(x::l).filter (λx=>decide (Lz n x=1))=x::l.filter λx=>decide (Lz n x=1):=vB (zL c)
    have:=hb (i+1) (by rw[hf,yM];omega);simp only[hf,uI]at this;rw[<-this,c];congr 1;omega
   .have hf:(x::l).filter (λx=>decide (Lz n x=1))=l.filter λx=>decide (Lz n x=1):=uW (kS c)
    have hz:Lz n x=0:=by
     rw[Lz]at c|-;split at c
     .exact yA E c
     .rename_i hh;rw[zD hh]
    have:=hb i (by rw[hf];exact hi);simp only[hf]at this;rw[<-this,hz];congr 1;omega
end
def A0v(n:Net)(bp:Int->Int):CameM n bp (newT n):=by
 refine⟨by show (List.replicate n.domains.length ([]:List QueuedM)).length=_;simp,λX hX q hq=>?_⟩;have:queueL (newT n) X=[]:=by
  show ((List.replicate n.domains.length ([]:List QueuedM))[X.toNat]?).getD []=[];rw[uV];split<;>rfl
 rw[this]at hq;cases hq
def Af5{n:Net}{bp:Int->Int}{m:MacM}(h:CameM n bp m)(tabs:List (List EntryM)):∀j,CameM n bp (Kl m tabs j)
 |0=>h
 |j+1=>by
  rw[Kl,S8];have:=Af5 h tabs j;split
  .exact this
  rw[loadT]
  repeat' split
  all_goals (first|exact this.same rfl|exact this)
def nH{n:Net}{ow:List Int}{f:Nat}{a:Int}:∀(l:List Int) (i:Nat),Mw n ow f a i l=none->∀(k:Nat) (h:k<l.length),¬(a<0\/l[k]<0\/a=l[k])->(wayT n f ((i+k:Nat):Int)).2=false
 |[],i,_,k,h=>by cases h
 |b::r,i,hn,k,h=>by
  intro hk;rw[Mw]at hn;split at hn
  .cases hn
  rename_i hc;cases k with
  |zero=>
   have hw:¬(wayT n f ((i:Nat):Int)).2=true:=λhw=>hc ⟨hk,hw⟩
   simpa using hw
  |succ k=>
   have:=nH r (i+1) hn k (by rw[yM]at h;omega) hk;rw[show i+1+k=i+(k+1) by omega]at this;exact this
def nJ{n:Net}{ow:List Int}:∀(l:List Int) (i:Nat),(Sn n ow i l).2.2=false->∀(f:Nat) (hf:f<l.length) (t:Nat) (ht:t<ow.length),¬(l[f]<0\/ow[t]<0\/l[f]=ow[t])->(wayT n ((i+f:Nat):Int) (t:Nat)).2=false
 |[],i,_,f,hf=>by cases hf
 |a::r,i,hn,f,hf=>by
  intro t ht hk;rw[Sn]at hn;cases hl:Mw n ow i a 0 ow with
  |some to=>rw[hl]at hn;cases hn
  |none=>
   rw[hl]at hn;cases f with
   |zero=>
    have:=nH ow 0 hl t ht hk;rw[wF]at this;exact this
   |succ f=>
    have:=nJ r (i+1) hn f (by rw[yM]at hf;omega) t ht hk;rw[show i+1+f=i+(f+1) by omega]at this;exact this
def Arb{n:Net}{of:List Int}(ho:Ey n of=true)(h:(leaksT n of).2.2=false){p q:Int}(hp:Ag p of.length=true)(hq:Ag q of.length=true)(h1:0<=nth of p)(h2:0<=nth of q)(af:nth of p≠nth of q):(wayT n p q).2=false:=by
 rw[leaksT,zD (by rw[ho];decide)]at h;simp only[Ag,zG,zJ]at hp hq;have em:p.toNat<of.length:=by omega
 have hq2:q.toNat<of.length:=by omega
 have:=nJ of 0 h p.toNat em q.toNat hq2 (by
  rw[Ae em]at h1 af;rw[Ae hq2]at h2 af;rintro (hh|hh|hh)
  .omega
  .omega
  .exact af hh)
 rwa [wF,yR hp.1,yR hq.1]at this
def A1v{n:Net}{of:List Int}(ho:Ey n of=true)(x:StepM):injB of x=decide (Lz n x=1):=by
 have ha:=Xu ho;unfold injB Lz;by_cases hk:x.kind=1
 .cases hp:Ag x.port of.length
  .rw[ha.1]at hp;simp[hp]
  .have hw:=ha.2.2 x.port hp;rw[ha.1]at hp;by_cases hl:(nth n.ports x.port).link<0
   .rw[zE hl]at hw;simp[hk,hp,hl,hw.1]
   .rw[zD hl]at hw;simp[hk,hp,hl,hw]
 .simp[hk]
def Ag6{of gg:List Int}:∀l:List SeenM,(∀s∈l,nth of (nth gg (s.origin-1))=nth of s.port)->Ll of gg l=(0,0,false)
 |[],_=>rfl
 |s::l,h=>by
  rw[Ll,zD (λhh=>hh (h s y_))];exact Ag6 l λx hx=>h x (by simp[hx])
def Avx{n:Net}(B:BuiltK n)(hu:C7 n)(bx:FarK n){of:List Int}(ho:Ey n of=true)(hl:(leaksT n of).2.2=false)(tabs:List (List EntryM))(l:List StepM):Ll of (Ee of l) (Dn n (Jf n tabs) l).2=(0,0,false):=by
 have ha:=Xu ho;have j4:=Ab9 n tabs;have e:(l.filter λx=>decide (Lz n x=1)).map (·.port)=Ee of l:=by
  rw[Ee];congr 1;exact List.filter_congr λx _=>(A1v ho x).symm
 have hsaw:=CameM.run (n:=n) B hu bx (bp:=λ o=>nth (Ee of l) (o-1)) l j4.1 (Af5 (A0v n _) tabs tabs.length) (λ i hi=>by
  have j5:i<(Ee of l).length:=by rw[<-e,yW];exact hi
  rw[j4.2,show (0:Int)+1+(i:Int)-1=(i:Int) by omega,Ae (l:=Ee of l) (i:=(i:Int)) (kS j5)];simp only[<- e,vI,zZ])
 refine Ag6 _ λs hs=>Classical.byContradiction λaf=>?_
 obtain ⟨k,y,hw,hm⟩:=hsaw s hs;dsimp only at hw;have hr:=Aa9 ho tabs l s hs;have gm:=eY (n:=n) l j4.1 s hs;have hi:(s.origin-1).toNat<(Ee of l).length:=by omega
 have t8:nth (Ee of l) (s.origin-1)∈Ee of l:=Hs hi;obtain ⟨gb,em⟩:=Av1 _ t8;generalize nth (Ee of l) (s.origin-1)=p at *;have vm:∀{i:Int},Ag i of.length=true->(nth n.ports i).link<0->J1 n i=true:=λ{i} h1 h2=>by
  rw[ha.1]at h1;simp only[Ag,zG,zJ]at h1;rw[J1,zL h1.1,zL h1.2,zL h2];rfl
 have ay:(nth n.ports p).link<0:=Classical.byContradiction λhh=>by
  have:=ha.2.2 p gb;rw[zD hh]at this;omega
 have kz:=ha.2.2 s.port hr.1;rw[zE gm.2.1]at kz;have tr:=Arb ho hl gb hr.1 em kz.1 af;exact(way_short.2 tr).2 B.right (vm gb ay) (vm hr.1 gm.2.1) (λhh=>af (by rw[hh])) k y hw (inB_iff.2 hm)
def Aem{n:Net}(B:BuiltK n)(hu:C7 n)(bx:FarK n){of:List Int}(hl:(leaksT n of).2.2=false)(tabs:List (List EntryM))(l:List StepM):crossesT n of tabs l=(0,0,false):=by
 rw[crossesT];split
 .rename_i h;exact Avx B hu bx h.1 hl tabs l
 .rfl
end
end Go.Sy.Zaa
