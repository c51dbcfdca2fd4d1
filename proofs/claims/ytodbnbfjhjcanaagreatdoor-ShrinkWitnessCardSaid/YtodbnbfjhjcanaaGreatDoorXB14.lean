/- Parts of a proof. -/
import Derived.Test.YtodbnbfjhjcanaaGreatDoorXB12
set_option maxHeartbeats 8000000
set_option linter.all false
namespace Go.Sy.Zaa
open Go.Proofs Go.Proofs.Tryz
section
attribute [local irreducible]G DR
set_option maxRecDepth 20000
def Akz(D:List Hop)(hl:D.length<4294967296):Sq 198 [.osl 0] [(0,.row 4 Dh D)] (.tup []) [(0,.row 4 Dh D.reverse)]:=cT F198 ntmps198 λF hF=>by
 refine gO ?_;refine Bg (D.length/2) (λj=>[(0,.osl 0),(2,Aa j),(3,Aa ((D.length:Int)-1-j))]) (λj=>[(0,.row 4 Dh (Vg D j))]) []
  ⟨⟨rfl,rfl,rfl,rfl,zH (λz=>SV.val (.int .i64 z)) q_,rfl,trivial⟩,⟨.inl (zH (Ob.row 4 Dh) (fA D)),rfl,trivial⟩,rfl,rfl⟩ ?_
 intro i hi;have ox:=D7 D i;refine fU ?_;constructor<;>intro h2
 .have ab:2*i+1<D.length:=by have:=zO h2;omega
  obtain ⟨u,hu⟩:=kE (Vg D i);obtain ⟨k,hk⟩:=kE (D.length-1-i);have cx:(D.length:Int)-1-i=(k:Nat):=by omega
  rw[hu]at ox;have hs:=fB hu ab hk q_ q_;rw[hu,cx];refine fU ?_;refine⟨by omega,by omega,?_⟩;refine fW ?_;refine⟨E,by omega,?_⟩;refine fW ?_;refine⟨by omega,by omega,?_⟩;refine fW ?_;refine⟨E,by omega,?_⟩;refine fW ?_;refine⟨by omega,by omega,?_⟩;refine fW ?_;refine⟨E,by omega,u[k],E,E,?_⟩;refine fW ?_;refine⟨by omega,by simp;omega,?_⟩;refine fW ?_;refine⟨E,by simp;omega,u[i],E,E,?_⟩;refine fW ?_;refine⟨z_,?_⟩;refine gO ?_;refine iL ?_;refine fW ?_;refine Az [] q_ ⟨⟨E,E,E,E,zH (λz=>SV.val (.int .i64 z)) q_,E,Y⟩,⟨.inl (zH (Ob.row 4 Dh) hs.symm),E,Y⟩,E,E⟩
 .have h3:D.length<=2*i+1:=by have:=zT h2;omega
  rw[Abi D i h3];refine fU ?_;exact A6 E .nil [] [(0,.row 4 Dh D.reverse)] (λ_ h=>h) E E kU
def backC(l:List Fnd)(i:Int):List Hop :=
 if _h:0<=i/\(nth l i).ahead<i then (nth l i).hop::backC l (nth l i).ahead else []
 termination_by (i+1).toNat
 decreasing_by omega
def backT(l:List Fnd)(i:Int):List Hop:=(backC l i).reverse
def Backs(l:List Fnd):Prop:=∀i (h:i<l.length),-1<=l[i].ahead/\l[i].ahead<i
theorem Backs.snoc{l:List Fnd}(h:Backs l){f:Fnd}(hf:-1<=f.ahead/\f.ahead<l.length):Backs (l++[f]):=λi hi=>by
 by_cases hl:i<l.length
 .rw[yZ hl];exact h i hl
 .have:i=l.length:=by simp at hi;omega
  subst this;simpa using hf
theorem Backs.meet{S:Srch}(h:Backs S.list)(d k:Int)(hp:Hop){a:Int}(ha:-1<=a/\a<S.list.length):Backs (meetT S d k hp a).list/\S.list.length<=(meetT S d k hp a).list.length:=by
 rw[meetT];split
 .exact⟨h,yE _⟩
 .rw[O6];split
  .exact⟨h.snoc ha,by simp⟩
  .exact⟨h.snoc ha,by simp⟩
theorem Backs.ext1{k i:Int}:∀{l:List Hop} {S:Srch},Backs S.list->(-1<=i/\i<S.list.length)->Backs (ext1 S k i l).list/\S.list.length<=(ext1 S k i l).list.length
 |[],S,h,_=>⟨h,yE _⟩
 |x::l,S,h,hi=>by
  obtain ⟨h1,h2⟩:=h.meet x.domain k x hi;obtain ⟨h3,h4⟩:=Backs.ext1 (k:=k) (i:=i) (l:=l) h1 ⟨hi.1,by omega⟩;exact⟨h3,wT h2 h4⟩
theorem Backs.ext2{i:Int}:∀{l:List Lead} {S:Srch},Backs S.list->(-1<=i/\i<S.list.length)->Backs (ext2 S i l).list/\S.list.length<=(ext2 S i l).list.length
 |[],S,h,_=>⟨h,yE _⟩
 |x::l,S,h,hi=>by
  obtain ⟨h1,h2⟩:=h.meet x.domain 1 ⟨3,0,x.domain,x.addr⟩ hi;obtain ⟨h3,h4⟩:=Backs.ext2 (i:=i) (l:=l) h1 ⟨hi.1,by omega⟩;exact⟨h3,wT h2 h4⟩
theorem Backs.ext{n:Net}{S:Srch}(h:Backs S.list){i:Int}(hi:0<=i/\i<S.list.length):Backs (extT n S i).list/\S.list.length<=(extT n S i).list.length:=by
 rw[extT];split
 .obtain ⟨h1,h2⟩:=h.ext1 (k:=0) (i:=i) (l:=Dg n (nth S.list i).domain) ⟨by omega,hi.2⟩;obtain ⟨h3,h4⟩:=h1.ext2 (i:=i) (l:=routesT n (nth S.list i).domain) ⟨by omega,by omega⟩;exact⟨h3,wT h2 h4⟩
 .exact h.ext1 ⟨by omega,hi.2⟩
def U1(n:Net)(dev:Int)(l:List Int):Backs (Qn n dev l).list:=by
 suffices hs:∀(l:List Int) (S:Srch),Backs S.list->Backs (l.foldl (Kf n dev) S).list from hs l _ (λi h=>by simp[Kz]at h)
 intro l
 induction l with
 |nil=>exact λS h=>h
 |cons x l ih=>
  intro S hS;refine ih _ ?_;rw[Kf];split
  .exact hS
  .exact(hS.meet _ _ _ ⟨by omega,by omega⟩).1
abbrev srchA(n:Net)(S:Srch)(l:List Hop):Obs:=[(0,Aa4 n (.osl 1) (.osl 2) (.osl 3)),(1,.row 1 Ab S.m0),(2,.row 1 Ab S.m1),(3,.row 7 Zd S.list),(1000,.row 4 Dh l)]
def backS(n:Net)(S:Srch)(hB:Backs S.list)(hl:S.list.length<4000000)(i:Int)(hi:-1<=i/\i<S.list.length):Sq 117 [.ptr 0 0,Aa i] (lO n S) (.sl 4 Dh (backT S.list i)) (lO n S):=cT F117 ntmps117 λF hF=>by
 have ak:=backT.eq_1 S.list i;generalize backT S.list i=res at *;refine fW ?_;refine Ca 5 1000 4 Dh E E ?_;refine Cd (λx:Int×List Hop=>(-1<=x.1/\x.1<S.list.length)/\x.2.length+(x.1+1).toNat<=S.list.length/\x.2++backC S.list x.1=backC S.list i)
  (λx=>[(0,.ptr 0 0),(1,Aa x.1),(5,.osl 1000)]) (λx=>srchA n S x.2) (λx=>(x.1+1).toNat) (i,[]) [] ⟨hi,by simp;omega,rfl⟩
  kU ?_
 rintro ⟨z,acc⟩ ⟨hz,mh,iy⟩;dsimp only at hz mh iy;refine gJ ?_ ?_<;>intro h
 .have h0:0<=z:=zO h;have hk:z.toNat<S.list.length:=by omega
  have hb:=hB z.toNat hk;rw[backC,Ae hk]at iy;obtain ⟨f,hf⟩:=kE (S.list[z.toNat]'hk);rw[hf]at iy hb;rw[dif_pos ⟨h0,by omega⟩]at iy;refine fU ?_;refine⟨h0,hk,?_⟩;refine fW ?_;refine⟨by intro e;rw[e]at hk;simp at hk,?_⟩;refine fW ?_;refine⟨E,hk,?_⟩;rw[hf];refine fW ?_;refine Aj (Ah Γ.toTy 26 E E E E E (.row E) (.lit (e:=Dh) (l:=[f.hop]) E E) y_ kO kO) E E (fU ?_);refine⟨h0,hk,?_⟩;refine fW ?_;refine⟨by intro e;rw[e]at hk;simp at hk,?_⟩;refine fW ?_;refine⟨E,hk,?_⟩;rw[hf];refine fW ?_;exact Ax (f.ahead,acc++[f.hop]) [(1000,26)] ⟨⟨hb.1,by omega⟩,by simp;omega,by rw[xF];exact iy⟩ (by simp only;omega)
   kU
 .have h0:¬0<=z:=zT h;rw[backC,dif_neg (λe=>h0 e.1),xD]at iy;have q:=Akz acc q_;rw[<-iy]at ak;refine fU ?_;refine Aj (Ad [(0,1000)] E F198 q E ⟨E,Y⟩ E ⟨.inl E,Y⟩) E E (Ai 1000 E ?_);rw[<-ak];refine fU ?_;exact done E Aq [] (lO n S) (λ_ h=>h) E E kU
def Ew(n:Net)(to:Int):Nat->Srch->Nat->List Hop×Bool
 |0,_,_=>([],false)
 |k+1,S,i=>if i<S.list.length then (if inB (A0 n (nth S.list i).domain) to=true then (backT S.list i,true) else Ew n to k (extT n S i) (i+1)) else ([],false)
def wayT(n:Net)(from_ to:Int):List Hop×Bool :=
 if J1 n from_=true/\J1 n to=true/\from_≠to/\Ac n=true then Ew n to (2*n.domains.length+1) (beginT n from_) 0 else ([],false)
abbrev srchW(n:Net)(S:Srch):Obs:=[(32,Aa4 n (.osl 1001) (.osl 1002) (.osl 1003)),(1001,.row 1 Ab S.m0),(1002,.row 1 Ab S.m1),(1003,.row 7 Zd S.list)]
def Le{n:Net}{i:Int}(h:J1 n i=true):0<=i/\i.toNat<n.ports.length:=by
 simp only[J1,zG,zJ]at h;omega
def wayS(n:Net)(hn:n.Fin)(hu:C7 n)(from_ to:Int):Sp 60 [Am n,Aa from_,Aa to] (.tup [.sl 4 Dh (wayT n from_ to).1,Ab (wayT n from_ to).2]):=cT F60 ntmps60 λF hF=>by
 have ak:=wayT.eq_1 n from_ to;generalize wayT n from_ to=res at *;have hr:=A2 n hn;have h1:=aQ n from_;have h2:=aQ n to;refine fW ?_;refine Bf 3 8 (Am n) E E E (gM h1 F61 ?_);cases hf:J1 n from_
 .rw[zD (by simp[hf])]at ak;subst ak;refine fU ?_;exact Ao 6 4 Dh E gD
 refine gM h2 F61 ?_;cases ht:J1 n to
 .rw[zD (by simp[ht])]at ak;subst ak;refine fU ?_;exact Ao 6 4 Dh E gD
 refine gJ ?_ ?_<;>intro h
 .rw[zD (by have:from_=to:=(kS h);simp[this])]at ak;subst ak;refine fU ?_;exact Ao 6 4 Dh E gD
 have af:from_≠to:=kS h;refine gM hr F39 ?_;cases hb:Ac n
 .rw[zD (by simp[hb])]at ak;subst ak;refine fU ?_;exact Ao 6 4 Dh E gD
 rw[zE ⟨hf,ht,af,hb⟩]at ak;have hD:n.domains.length<1000000:=by have:=(Adi hb).2.2.2.1;omega
 have hp:=Le hf;have q0:=beginS n hn hb hD from_ hp;have xz:(beginT n from_).OK n:=by
  rw[beginT,Ae hp.2];exact X7 λv hv h0=>Ks hb hp.2 hv h0
 have x4:Backs (beginT n from_).list:=by rw[beginT];exact U1 _ _ _
 generalize beginT n from_=S0 at *;refine fU ?_;refine Aj (Ad [(0,32),(1,1001),(2,1002),(3,1003)] E F114 q0 E ⟨E,Y⟩ E kB) E E (fU ?_);refine Cd (λx:Srch×Nat=>x.1.OK n/\Backs x.1.list/\x.2<=x.1.list.length/\res=Ew n to (2*n.domains.length+1-x.2) x.1 x.2)
  (λx=>[(2,Aa to),(3,.ref 8 (Am n) 0),(8,.ptr 32 0),(9,Aa x.2)]) (λx=>srchW n x.1) (λx=>2*n.domains.length+1-x.2) (S0,0) [] ⟨xz,x4,xN _,ak⟩
  kU ?_
 clear ak xz x4 q0;rintro ⟨S,i⟩ ⟨ok,bk,hi,ak⟩;dsimp only at ok bk hi ak|-;have hle:=ok.le;obtain ⟨fuel,hfu⟩:∃k,2*n.domains.length+1-i=k+1:=⟨2*n.domains.length-i,by omega⟩
 rw[hfu,Ew]at ak;refine gJ ?_ ?_<;>intro h
 .have ab:i<S.list.length:=qA h;have dt:(i:Int).toNat<S.list.length:=kS ab;rw[zE ab,Ae dt]at ak;obtain ⟨f,ri⟩:=kE (S.list[(i:Int).toNat]'dt);rw[ri]at ak;have q1:=Sl n hn f.domain;have q2:=Ed (A0 n f.domain) to (K9 n hn f.domain);generalize A0 n f.domain=mem at *;refine fU ?_;refine⟨by omega,dt,?_⟩;refine fW ?_;refine⟨by intro e;rw[e]at ab;simp at ab,?_⟩;refine fW ?_;refine⟨by intro e;rw[e]at ab;simp at ab,?_⟩;refine fW ?_;refine⟨E,dt,?_⟩;rw[ri];refine fW ?_;refine cD q1 F116 (fU ?_);refine cD q2 F115 (fU ?_);refine⟨z_,?_⟩;refine fW ?_;generalize inB mem to=bm at *;cases bm
  .refine aF ?_;rw[zD y_]at ak;have q3:=A5a n hn hu hD S ok i ⟨by omega,dt⟩;have ok':=ok.ext i;have y0:=bk.ext (n:=n) (i:=i) ⟨by omega,by omega⟩;generalize extT n S i=S' at *;refine fU ?_;refine Aj (Ad [(0,32),(1,1001),(2,1002),(3,1003),(4,1004)] E F118 q3 E kA E kB) E E (gG ?_);exact Ax (S',i+1) [(1003,1004)] ⟨ok',y0.1,by simp only;omega,by simp only;rw[show 2*n.domains.length+1-(i+1)=fuel by omega];exact ak⟩ (by simp only;omega)
    kU
  .refine aT ?_;rw[zE rfl]at ak;subst ak;have q4:=backS n S bk q_ i ⟨by omega,by omega⟩;generalize backT S.list i=w at *;refine fU ?_;exact Aj (Ad [(0,32),(1,1001),(2,1002),(3,1003)] E F117 q4 E kA E kB) E E gD
 .have ab:¬i<S.list.length:=qB h;rw[zD ab]at ak;subst ak;refine fU ?_;exact Ao 6 4 Dh E gD
end
section
def eE(n:Net)(h:Hop):Prop:=(0<=h.domain/\h.domain.toNat<n.domains.length)/\0<=h.addr/\h.addr<4294967296
def Ayg{n:Net}{irb to e:Int}(he:e<4294967296):∀{x:Int},0<=x->0<=(addrGo n irb to e x).1/\(addrGo n irb to e x).1<4294967296:=by
 intro x
 induction x using addrGo.induct n irb to e with
 |case1 x h1 h2=>intro h0;rw[addrGo,zE h1,zE h2];exact⟨h0,by simp only;omega⟩
 |case2 x h1 h2 h3=>intro h0;rw[addrGo,zE h1,zD h2,zE h3];decide
 |case3 x h1 h2 h3 h4 ih=>intro h0;rw[addrGo,zE h1,zD h2,zD h3,zE h4];exact ih q_
 |case4 x h1 h2 h3 h4=>intro h0;rw[addrGo,zE h1,zD h2,zD h3,zD h4];decide
 |case5 x h1=>intro h0;rw[addrGo,zD h1];decide
def Aod{n:Net}(hu:C7 n)(irb to:Int):0<=(addrT n irb to).1/\(addrT n irb to).1<4294967296:=by
 rw[addrT];split
 .rename_i hc;have hk:to.toNat<n.irbs.length:=by omega
  rw[Ae hk];have nk:=hu _ (zI hk);exact Ayg (Td _ _ nk).2 (fZ _ _ nk).1
 .decide
def Amy{n:Net}{d:Int}{h:Hop}(hh:h∈Dg n d):eE n h:=by
 refine⟨Mj hh,?_⟩;rw[Dg]at hh;split at hh
 .rcases yH.1 hh with hh|hh
  .obtain ⟨p,_,hp⟩:=wA.1 hh;rw[linkHop]at hp;split at hp
   .simp only[Option.some.injEq]at hp;subst hp;exact⟨by simp,by simp⟩
   .cases hp
  .obtain ⟨p,hp,rfl⟩:=yS.1 hh;exact⟨by simp[K8],by simp[K8]⟩
 .cases hh
def Ah5{n:Net}(hu:C7 n){d:Int}{q:Lead}(hq:q∈routesT n d):0<=q.addr/\q.addr<4294967296:=by
 rw[routesT]at hq;split at hq
 .obtain ⟨i,hi,hp⟩:=wA.1 hq;rw[leadF]at hp;split at hp
  .simp only[Option.some.injEq]at hp;subst hp;exact Aod hu _ _
  .cases hp
 .cases hq
def HopsOK(n:Net)(l:List Fnd):Prop:=∀f∈l,eE n f.hop
theorem HopsOK.meet{n:Net}{S:Srch}(h:HopsOK n S.list)(d k:Int){hp:Hop}(hh:eE n hp)(a:Int):HopsOK n (meetT S d k hp a).list:=by
 rw[meetT];split
 .exact h
 .rw[O6];split<;>(intro f hf;rcases yH.1 hf with hf|hf;exact h f hf;rw[zX]at hf;subst hf;exact hh)
theorem HopsOK.ext1{n:Net}{k i:Int}:∀{l:List Hop} {S:Srch},HopsOK n S.list->(∀h∈l,eE n h)->HopsOK n (ext1 S k i l).list
 |[],S,h,_=>h
 |x::l,S,h,hl=>HopsOK.ext1 (l:=l) (h.meet x.domain k (hl x y_) i) (λy hy=>hl y (by simp[hy]))
theorem HopsOK.ext2{n:Net}{i:Int}:∀{l:List Lead} {S:Srch},HopsOK n S.list->(∀q∈l,eE n ⟨3,0,q.domain,q.addr⟩)->HopsOK n (ext2 S i l).list
 |[],S,h,_=>h
 |x::l,S,h,hl=>HopsOK.ext2 (l:=l) (h.meet x.domain 1 (hl x y_) i) (λy hy=>hl y (by simp[hy]))
theorem HopsOK.ext{n:Net}(hu:C7 n){S:Srch}(h:HopsOK n S.list)(i:Int):HopsOK n (extT n S i).list:=by
 rw[extT];split
 .exact(h.ext1 (λx hx=>Amy hx)).ext2 (λq hq=>⟨Ov hq,Ah5 hu hq⟩)
 .exact h.ext1 (λx hx=>Amy hx)
def An4{n:Net}{dev:Int}{l:List Int}(h:∀v∈l,v≠0->0<=B5 n dev v/\(B5 n dev v).toNat<n.domains.length):HopsOK n (Qn n dev l).list:=by
 suffices hs:∀(l:List Int) (S:Srch),HopsOK n S.list->(∀v∈l,v≠0->0<=B5 n dev v/\(B5 n dev v).toNat<n.domains.length)->HopsOK n (l.foldl (Kf n dev) S).list from hs l _ (λf hf=>by simp[Kz]at hf) h
 intro l
 induction l with
 |nil=>exact λS h _=>h
 |cons x l ih=>
  intro S hS hl;refine ih _ ?_ (λv hv=>hl v (by simp[hv]));rw[Kf];split
  .exact hS
  .rename_i hx;exact hS.meet _ _ ⟨hl x y_ hx,by simp,by simp⟩ _
def An6{l:List Fnd}(hB:Backs l){P:Hop->Prop}(hP:∀f∈l,P f.hop):∀(k:Nat) (i:Int),i<k->i<l.length->(∀h∈backC l i,P h)/\((backC l i).length:Int)<=i+1\/i<0:=by
 intro k
 induction k with
 |zero=>intro i hi _;exact .inr q_
 |succ k ih=>
  intro i hi hl;by_cases h0:0<=i
  .left;have hk:i.toNat<l.length:=by omega
   have hb:=hB i.toNat hk;rw[backC,Ae hk,dif_pos ⟨h0,by omega⟩];have hm:=hP _ (zI hk);rcases ih (l[i.toNat]'hk).ahead q_ q_ with ⟨h1,h2⟩|h1
   .refine⟨λh hh=>?_,by rw[yM];omega⟩;rcases yI.1 hh with rfl|hh
    .exact hm
    .exact h1 h hh
   .rw[backC,dif_neg (λe=>by omega)];refine⟨λh hh=>?_,by simp;omega⟩;rw[zX]at hh;subst hh;exact hm
  .exact .inr q_
def oB{l:List Fnd}(hB:Backs l){P:Hop->Prop}(hP:∀f∈l,P f.hop){i:Nat}(hi:i<l.length):(∀h∈backT l i,P h)/\(backT l i).length<=i+1/\backT l i≠[]:=by
 rcases An6 hB hP (i+1) i q_ q_ with ⟨h1,h2⟩|h
 .refine⟨λh hh=>h1 h (by simpa [backT] using hh),by rw[backT,List.length_reverse];omega,?_⟩;rw[backT];intro e;have hk:(i:Int).toNat<l.length:=kS hi;have hb:=hB (i:Int).toNat hk;rw[backC,Ae hk,dif_pos ⟨by omega,by omega⟩]at e;simp at e
 .omega
def Yt{n:Net}(hu:C7 n){to:Int}:∀(k:Nat) (S:Srch) (i:Nat),S.OK n->Backs S.list->HopsOK n S.list->i<=S.list.length->(Ew n to k S i).2=true ->
  (∀h∈(Ew n to k S i).1,eE n h)/\(Ew n to k S i).1.length<=2*n.domains.length/\(Ew n to k S i).1≠[]
 |0,S,i,_,_,_,_,h=>by cases h
 |k+1,S,i,ok,bk,hk,hi,h=>by
  rw[Ew]at h|-;split at h
  .rename_i ab;rw[zE ab];split at h
   .rename_i cd;rw[zE cd];have:=oB bk hk ab;have hle:=ok.le;exact⟨this.1,by have:=this.2.1;simp only;omega,this.2.2⟩
   .rename_i cd;rw[zD cd];have y0:=bk.ext (n:=n) (i:=i) ⟨by omega,by omega⟩;exact Yt hu k _ _ (ok.ext i) y0.1 (hk.ext hu i) q_ h
  .cases h
def Aoo{n:Net}(hu:C7 n){from_ to:Int}(h:(wayT n from_ to).2=true):(∀h∈(wayT n from_ to).1,eE n h)/\(wayT n from_ to).1.length<=2*n.domains.length/\(wayT n from_ to).1≠[]/\Ac n=true:=by
 rw[wayT]at h|-;split at h
 .rename_i hc;rw[zE hc];have hp:=Le hc.1;have xz:(beginT n from_).OK n:=by
   rw[beginT,Ae hp.2];exact X7 λv hv h0=>Ks hc.2.2.2 hp.2 hv h0
  have bd:HopsOK n (beginT n from_).list:=by
   rw[beginT,Ae hp.2];exact An4 λv hv h0=>Ks hc.2.2.2 hp.2 hv h0
  have x4:Backs (beginT n from_).list:=by rw[beginT];exact U1 _ _ _
  obtain ⟨h1,h2,h3⟩:=Yt hu _ _ _ xz x4 bd (xN _) h;exact⟨h1,h2,h3,hc.2.2.2⟩
 .cases h
def A26(a b:ByteArray):(a==b)=true↔a=b:=by
 cases a;cases b;rename_i x y;show (x==y)=true↔_;rw[yJ];simp
def Ai0{k:Type}{p:k->Bool}{l:List k}{i:Int}(h:Bs p l=i)(h0:0<=i):∃hi:i.toNat<l.length,p l[i.toNat]=true:=by
 unfold Bs at h;split at h
 .rename_i j hj;rw[wG]at hj;obtain ⟨h1,h2,_⟩:=hj;subst h;exact⟨kS h1,kS h2⟩
 .omega
attribute [local irreducible]G DR
set_option maxRecDepth 20000
def Mc{i:Int}{n:Nat}(h:0<=i/\i<n):Ag i n=true:=by simp only[Ag,zG,zJ];exact h
def Of{i:Int}{n:Nat}(h:¬(0<=i/\i<n)):Ag i n=false:=by simp only[Ag,yX,yB];omega
def Q9(c:Int->Int->Int)(l:List Int):Int:=if l=[] then -1 else Yj c l (l.length-1)
def Alx(c:Int->Int->Int)(l:List Int)(x:Int)(j:Nat)(h:j+1<=l.length):Yj c (l++[x]) j=Yj c l j:=by
 rw[Yj,Yj,List.drop_append_of_le_length q_,vD kO];congr 1;cases l with
 |nil=>simp at h
 |cons a l=>rfl
def Asn(c:Int->Int->Int)(l:List Int)(x:Int)(h:l≠[]):Q9 c (l++[x])=if 0<c x (Q9 c l) then x else Q9 c l:=by
 have hl:0<l.length:=xS.2 h;rw[Q9,zD y_,Q9,zD h];have e:(l++[x]).length-1=(l.length-1)+1:=by simp;omega
 rw[e,fK c (l++[x]) (l.length-1) kO,Alx c l x (l.length-1) q_];have e2:(l++[x])[l.length-1+1]'kO=x:=by
  have:l.length-1+1=l.length:=by omega
  simp[this]
 rw[e2]
def Ax6(c:Int->Int->Int)(x:Int):Q9 c [x]=x:=by
 rw[Q9,zD y_];rfl
def Ahf(c:Int->Int->Int)(l:List Int)(h:l≠[]):Q9 c l∈l:=by
 have hl:0<l.length:=xS.2 h;rw[Q9,zD h];exact Wh c l hl _ q_
def filtI_in{p:Nat->Bool}{j:Nat}{x:Int}(h:x∈Ii p j):0<=x/\x<j:=by
 have:=filtI_mem.1 h;omega
def Adh{n:Net}(h:Ac n=true){i:Nat}(hi:i<n.ports.length):0<=n.ports[i].native/\inB n.ports[i].tagged n.ports[i].native=false:=by
 have:=Ar5 h hi;simp only[Kj,zG,zJ,yU]at this;exact⟨this.1.1.1.1.1.1.1.2,this.1.1.1.1.2⟩
end
section
def oV(n:Net)(irb a:Int):Int:=(nth n.irbs a).bits*2+Aes n irb a
def Anu(n:Net)(irb a b:Int):0<aI n irb a b↔oV n irb b<oV n irb a:=by
 have h1:=Aag n irb a;have h2:=Aag n irb b;rw[aI,oV,oV];split<;>omega
def Ahe(n:Net)(irb:Int)(p:Nat->Bool):∀j,Ii p j≠[] ->
  ∀y∈Ii p j,oV n irb y<=oV n irb (Q9 (aI n irb) (Ii p j))/\(y<Q9 (aI n irb) (Ii p j)->oV n irb y<oV n irb (Q9 (aI n irb) (Ii p j)))
 |0,h=>yA rfl h
 |j+1,h=>by
  have ih:=Ahe n irb p j;have hm:=Ahf (aI n irb) (Ii p j);have a6:=λx=>@filtI_in p j x
  have hs:=Asn (aI n irb) (Ii p j) j;have ho:=Ax6 (aI n irb) j;rw[aA]at h|-;split
  .generalize Ii p j=u at *;by_cases hu:u=[]
   .subst hu;intro y hy;rw[wL]at hy|-;rw[ho];have:y=j:=kS hy;subst this;omega
   .have jn:=hs hu;have uq:=ih hu;have hmi:=a6 _ (hm hu);rw[jn];split
    .rename_i hc;rw[Anu]at hc;intro y hy;rcases yH.1 hy with h1|h1
     .have:=(uq y h1).1;omega
     .have:y=j:=by simpa using h1
      subst this;omega
    .rename_i hc;rw[Anu]at hc;intro y hy;rcases yH.1 hy with h1|h1
     .exact uq y h1
     .have:y=j:=by simpa using h1
      subst this;omega
  .rename_i hp;rw[zD hp]at h;exact ih h
def A1i{n:Net}{irb dst:Int}(h:(lookT n irb dst).2=true):Jq n irb dst≠[]/\(lookT n irb dst).1=Q9 (aI n irb) (Jq n irb dst):=by
 rw[lookT]at h|-;split at h
 .cases h
 .rename_i h1;rw[zD h1];split at h
  .cases h
  .rename_i h2;rw[zD h2];exact⟨h2,by rw[Q9,zD h2]⟩
def A1h{n:Net}{irb dst:Int}(h:(lookT n irb dst).2=false):(∃i,i<n.irbs.length/\Oo n irb dst i=true)\/Jq n irb dst=[]:=by
 rw[lookT]at h;split at h
 .rename_i h1;obtain ⟨i,hi,ht⟩:=xY.1 h1;exact .inl ⟨i,yV.1 hi,ht⟩
 .split at h
  .rename_i h2;exact .inr h2
  .cases h
def Ly{n:Net}{irb dst:Int}(h:(lookT n irb dst).2=true):(lookT n irb dst).1∈Jq n irb dst/\∀y∈Jq n irb dst,oV n irb y<=oV n irb (lookT n irb dst).1/\(y<(lookT n irb dst).1->oV n irb y<oV n irb (lookT n irb dst).1):=by
 obtain ⟨h1,h2⟩:=A1i h;rw[h2];exact⟨Ahf _ _ h1,Ahe n irb _ _ h1⟩
def mem_ways{n:Net}{irb dst i:Int}:i∈Jq n irb dst↔InIrbs n i/\Ae1 (nth n.irbs i).addr (nth n.irbs i).bits dst=true/\Afr n irb i=true:=by
 rw[Jq,filtI_mem];constructor
 .rintro ⟨h1,h2,h3⟩;have e:(i.toNat:Int)=i:=by omega
  rw[Zl,e,zG]at h3;exact⟨⟨h1,by omega⟩,h3⟩
 .rintro ⟨⟨h1,h2⟩,h3,h4⟩;have e:(i.toNat:Int)=i:=by omega
  refine⟨h1,by omega,?_⟩;rw[Zl,e,h3,h4];rfl
def takenA_iff{n:Net}{a:Int}:Hc n a=true↔∃i,∃h:i<n.irbs.length,n.irbs[i].addr=a:=by
 rw[Hc,I8,xY];constructor
 .rintro ⟨x,hx,hxa⟩;obtain ⟨i,hi,rfl⟩:=wN hx;exact⟨i,hi,kS hxa⟩
 .rintro ⟨i,hi,he⟩;exact⟨_,zI hi,kS he⟩
def Qa(n:Net)(irb to a:Int):Bool:=(lookT n irb a).2&&(lookT n irb a).1==to&&!Hc n a
def leadsB_iff{n:Net}{irb to a:Int}:Qa n irb to a=true↔(lookT n irb a).2=true/\(lookT n irb a).1=to/\Hc n a=false:=by
 simp[Qa,and_assoc]
def A21(n:Net)(to:Int)(j:Nat):List Int:=[Eg (nth n.irbs to).addr (nth n.irbs to).bits]++(n.irbs.take j).flatMap λx=>[x.addr+1,Hx x.addr x.bits+1]
def Adx(n:Net)(to:Int):List Int:=A21 n to n.irbs.length
def At9{n:Net}{to:Int}{i:Nat}(h:i<n.irbs.length):n.irbs[i].addr+1∈Adx n to/\Hx n.irbs[i].addr n.irbs[i].bits+1∈Adx n to:=by
 rw[Adx,A21,yN];constructor
 .exact wX _ (List.mem_flatMap.2 ⟨_,zI h,by simp⟩)
 .exact wX _ (List.mem_flatMap.2 ⟨_,zI h,by simp⟩)
def Aof{n:Net}(hu:C7 n)(hb:Ac n=true){irb to:Int}(ep:InIrbs n to):∀x,x∈Adx n to->Eg (nth n.irbs to).addr (nth n.irbs to).bits<=x ->
  (∀a,Eg (nth n.irbs to).addr (nth n.irbs to).bits<=a->a<x->Qa n irb to a=false) ->
  ((addrGo n irb to (Hx (nth n.irbs to).addr (nth n.irbs to).bits) x).2=true/\(addrGo n irb to (Hx (nth n.irbs to).addr (nth n.irbs to).bits) x).1∈Adx n to /\
    Qa n irb to (addrGo n irb to (Hx (nth n.irbs to).addr (nth n.irbs to).bits) x).1=true /\
    ∀ a,Eg (nth n.irbs to).addr (nth n.irbs to).bits<=a->a<(addrGo n irb to (Hx (nth n.irbs to).addr (nth n.irbs to).bits) x).1->Qa n irb to a=false) \/
   (addrGo n irb to (Hx (nth n.irbs to).addr (nth n.irbs to).bits) x)=(0,false)/\∀a,Eg (nth n.irbs to).addr (nth n.irbs to).bits<=a->a<=Hx (nth n.irbs to).addr (nth n.irbs to).bits->Qa n irb to a=false:=by
 have mi:nth n.irbs to=n.irbs[to.toNat]'ep.2:=Ae ep.2;have hut:=hu _ (zI ep.2);have hbt:=(Dl hb ep.2).2.2;rw[mi];have hf:=fZ _ (n.irbs[to.toNat]'ep.2).bits hut;have hl:=Td _ (n.irbs[to.toNat]'ep.2).bits hut;have hht:∀a,0<=a/\a<4294967296->(Ae1 (nth n.irbs to).addr (nth n.irbs to).bits a=true↔Eg (n.irbs[to.toNat]'ep.2).addr (n.irbs[to.toNat]'ep.2).bits<=a/\a<=Hx (n.irbs[to.toNat]'ep.2).addr (n.irbs[to.toNat]'ep.2).bits):=λa ha=>by
  rw[mi];exact Wq _ _ _ hbt hut ha
 generalize Eg (n.irbs[to.toNat]'ep.2).addr (n.irbs[to.toNat]'ep.2).bits=f at *;generalize Hx (n.irbs[to.toNat]'ep.2).addr (n.irbs[to.toNat]'ep.2).bits=e at *;have tr:∀a b,f<=a->a<=e->f<=b->b<=e->Qa n irb to a=true->to∈Jq n irb b:=λa b tt x5 fx dy h=>by
  obtain ⟨h1,h2,_⟩:=leadsB_iff.1 h;have h3:=(Ly h1).1;rw[h2]at h3;have h4:=mem_ways.1 h3;exact mem_ways.2 ⟨h4.1,(hht b q_).2 ⟨fx,dy⟩,h4.2.2⟩
 intro x
 induction x using addrGo.induct n irb to e with
 |case1 x h1 h2=>
  intro hc p8 cw;rw[addrGo,zE h1,zE h2];exact .inl ⟨E,hc,leadsB_iff.2 h2,cw⟩
 |case2 x h1 h2 h3=>
  intro hc p8 cw;rw[addrGo,zE h1,zD h2,zE h3];refine .inr ⟨E,λa tt x5=>?_⟩;cases d5:Qa n irb to a
  .rfl
  have hw:=tr a x tt x5 p8 h1 d5;rcases A1h h3.1 with ⟨i,hi,ht⟩|h
  .rw[Oo,Ae (l:=n.irbs) (i:=(i:Int)) (kS hi),zG]at ht;have:Hc n x=true:=takenA_iff.2 ⟨i,hi,kS ht.2⟩;rw[h3.2]at this;cases this
  .rw[h]at hw;cases hw
 |case3 x h1 h2 h3 h4 ih=>
  intro hc p8 cw;rw[addrGo,zE h1,zD h2,zD h3,zE h4];rw[pastI]at h4 ih|-;cases ht:Hc n x
  .rw[ht]at h2 h3 h4 ih;rw[zD y_]at h4 ih|-;have gz:(lookT n irb x).2=true:=by cases h:(lookT n irb x).2 with|true=>rfl|false=>exact yA ⟨h,rfl⟩ h3
   have af:(lookT n irb x).1≠to:=λh=>h2 ⟨gz,h,rfl⟩
   have xv:=Ly gz;have iz:=mem_ways.1 xv.1;have ox:=hu _ (zI iz.1.2);have mj:=(Dl hb iz.1.2).2.2;have uj:nth n.irbs (lookT n irb x).1=n.irbs[(lookT n irb x).1.toNat]'iz.1.2:=Ae iz.1.2;refine ih ?_ q_ (λa tt x5=>?_)
   .rw[uj];exact(At9 iz.1.2).2
   .rcases Int.lt_or_le a x with y1|y1
    .exact cw a tt y1
    cases d5:Qa n irb to a
    .rfl
    have oy:=leadsB_iff.1 d5;have hma:=Ly oy.1;rw[oy.2.1]at hma;have rj:=mem_ways.1 hma.1;rw[uj]at x5 iz;have hr:=Td _ (n.irbs[(lookT n irb x).1.toNat]'iz.1.2).bits ox;have ha:0<=a/\a<4294967296:=by omega
    have vu:=((hht a ha).1 rj.2.1).2;have hx:=(Wq _ _ _ mj ox (by omega:0<=x/\x<4294967296)).1 iz.2.1;have hla2:(lookT n irb x).1∈Jq n irb a:=mem_ways.2 ⟨iz.1,by rw[uj];exact(Wq _ _ _ mj ox ha).2 ⟨by omega,by omega⟩,iz.2.2⟩;have k1:=xv.2 to (tr a x tt vu p8 h1 d5);have k2:=hma.2 _ hla2;exact yA q_ af
  .rw[ht]at h4 ih;rw[zE rfl]at h4 ih|-;obtain ⟨i,hi,he⟩:=takenA_iff.1 ht;refine ih (by rw[<-he];exact(At9 hi).1) q_ (λa tt x5=>?_);rcases Int.lt_or_le a x with y1|y1
   .exact cw a tt y1
   .have:a=x:=by omega
    subst this;simp[Qa,ht]
 |case4 x h1 h2 h3 h4=>
  intro hc p8 cw;refine yA (Alf hu hb (irb:=irb) (a:=x) q_ (λht=>?_)).1 h4;cases h:(lookT n irb x).2 with
  |true=>rfl
  |false=>exact yA ⟨h,ht⟩ h3
 |case5 x h1=>
  intro hc p8 cw;rw[addrGo,zD h1];exact .inr ⟨E,λa tt x5=>cw a tt q_⟩
attribute [local irreducible]G DR
set_option maxRecDepth 20000
def Axu{n:Net}(h:Ac n=true){i:Nat}(hi:i<n.domains.length):n.domains[i].irb=-1\/InIrbs n n.domains[i].irb:=by
 have:=At1 h hi;simp only[Qo,Ag,zG,yO,yJ,zJ]at this;rcases this.1.2 with h1|h1
 .exact .inl h1
 .exact .inr ⟨h1.1.1,by omega⟩
structure WayD where
 (hops:List Hop) (routed:Bool)
instance:Inhabited WayD:=⟨⟨[],false⟩⟩
end
def Ug{k:Type}[Inhabited k]{l m:List k}{i:Int}(h:i.toNat<l.length):nth (l++m) i=nth l i:=by
 rw[nth,nth,xW h]
def U2{l m:List Fnd}(hB:Backs l):∀(k:Nat) (i:Int),i<k->i<l.length->backC (l++m) i=backC l i:=by
 intro k
 induction k with
 |zero=>
  intro i hi hl;rw[backC,dif_neg (λh=>by omega),backC,dif_neg (λh=>by omega)]
 |succ k ih=>
  intro i hi hl;by_cases h0:0<=i
  .have hk:i.toNat<l.length:=by omega
   have hb:=hB i.toNat hk;rw[backC,Ug hk,backC.eq_1 l i,Ae hk,dif_pos ⟨h0,by omega⟩,dif_pos ⟨h0,by omega⟩];rw[ih _ q_ q_]
  .rw[backC,dif_neg (λh=>h0 h.1),backC,dif_neg (λh=>h0 h.1)]
def Oi{l m:List Fnd}(hB:Backs l){i:Int}(h:i<l.length):backT (l++m) i=backT l i:=by
 rw[backT,backT,U2 hB (i+1).toNat i q_ h]
def Ad1{l:List Fnd}(hB:Backs l){f:Fnd}(hf:-1<=f.ahead/\f.ahead<l.length):backT (l++[f]) l.length=backT l f.ahead++[f.hop]:=by
 have e:nth (l++[f]) (l.length:Int)=f:=by
  rw[Ae (l:=l++[f]) (i:=(l.length:Int)) y_];simp
 rw[backT,backC,e,dif_pos ⟨by omega,by omega⟩,List.reverse_cons,U2 hB (f.ahead+1).toNat _ q_ q_];rfl
def Asp(l:List Fnd):backT l (-1)=[]:=by
 rw[backT,backC,dif_neg (λh=>by omega)];rfl
structure Met(n:Net)(S:Srch):Prop where
 ok:S.OK n
 bk:Backs S.list
 dom:∀f∈S.list,f.hop.domain=f.domain
 m:∀d:Int,0<=d/\d.toNat<n.domains.length->∀k:Int,(k=0\/k=1)->(Ui S d k=true↔∃f∈S.list,f.domain=d/\f.kind=k)
def Alq{l:List Bool}{a b:Nat}(hb:b<l.length):(l.set a true)[b]? = if a=b then some true else l[b]?:=by
 rw[tE];split
 .rename_i h;subst h;simp[hb]
 .rfl
def Aqv{n:Net}{S:Srch}(hS:S.OK n){d k:Int}(hd:0<=d/\d.toNat<n.domains.length)(hk:k=0\/k=1)(h:Hop)(a:Int)(d2 k2:Int)(jf:0<=d2/\d2.toNat<n.domains.length)(cx:k2=0\/k2=1):Ui (O6 S d k h a) d2 k2=true↔Ui S d2 k2=true\/(d2=d/\k2=k):=by
 have h0:d2.toNat<S.m0.length:=by rw[hS.l0];exact jf.2
 have h1:d2.toNat<S.m1.length:=by rw[hS.l1];exact jf.2
 have e:(d.toNat=d2.toNat)↔d2=d:=by omega
 rcases hk with rfl|rfl<;>rcases cx with rfl|rfl
 .rw[O6,zE rfl,Ui,zE rfl,Ui,zE rfl,nth,nth,Alq h0];by_cases h:d2=d
  .rw[zE (e.2 h)];simp[h]
  .rw[zD (λx=>h (e.1 x))];simp[h]
 .rw[O6,zE rfl,Ui,zD j_,Ui,zD j_];simp
 .rw[O6,zD j_,Ui,zE rfl,Ui,zE rfl];simp
 .rw[O6,zD j_,Ui,zD j_,Ui,zD j_,nth,nth,Alq h1];by_cases h:d2=d
  .rw[zE (e.2 h)];simp[h]
  .rw[zD (λx=>h (e.1 x))];simp[h]
def Z1(S:Srch)(d k:Int)(h:Hop)(a:Int):(O6 S d k h a).list=S.list++[⟨d,k,h,a⟩]:=by
 rw[O6];split<;>rfl
theorem Met.meet{n:Net}{S:Srch}(hS:Met n S){d k:Int}(hd:0<=d/\d.toNat<n.domains.length)(hk:k=0\/k=1){h:Hop}(hh:h.domain=d){a:Int}(ha:-1<=a/\a<S.list.length):Met n (meetT S d k h a) where
 ok:=hS.ok.meet hd hk h a
 bk:=(hS.bk.meet d k h ha).1
 dom:=by
  rw[meetT];split
  .exact hS.dom
  .rw[Z1];intro f hf;rcases yH.1 hf with h1|h1
   .exact hS.dom f h1
   .rw[zX.1 h1];exact hh
 m:=by
  rw[meetT];split
  .exact hS.m
  .intro d2 jf k2 cx;rw[Aqv hS.ok hd hk h a d2 k2 jf cx,hS.m d2 jf k2 cx,Z1];constructor
   .rintro (⟨f,hf,h1⟩|⟨rfl,rfl⟩)
    .exact⟨f,uU _ hf,h1⟩
    .exact⟨_,wX _ (zX.2 E),E,E⟩
   .rintro ⟨f,hf,h1,h2⟩;rcases yH.1 hf with h3|h3
    .exact .inl ⟨f,h3,h1,h2⟩
    .rw[zX.1 h3]at h1 h2;exact .inr ⟨h1.symm,h2.symm⟩
end Go.Sy.Zaa
