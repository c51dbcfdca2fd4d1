/- Parts of a proof. -/
import Derived.Test.YtodbnbfjhjcanaaGreatDoorXA13
set_option maxHeartbeats 8000000
set_option linter.all false
namespace Go.Sy.Zaa
open Go.Proofs Go.Proofs.Tryz
section
attribute [local irreducible]G DR
set_option maxRecDepth 20000
def ext1(S:Srch)(k i:Int)(l:List Hop):Srch:=l.foldl (λS h=>meetT S h.domain k h i) S
def ext2(S:Srch)(i:Int)(l:List Lead):Srch:=l.foldl (λS q=>meetT S q.domain 1 ⟨3,0,q.domain,q.addr⟩ i) S
def extT(n:Net)(S:Srch)(i:Int):Srch :=
 if (nth S.list i).kind=0 then ext2 (ext1 S 0 i (C4 n (nth S.list i).domain)) i (routesT n (nth S.list i).domain) else ext1 S 1 i (C4 n (nth S.list i).domain)
def Auu(S:Srch)(k i:Int){l:List Hop}{j:Nat}{h:Hop}(hj:j<l.length)(hh:l[j]=h):ext1 S k i (l.take (j+1))=meetT (ext1 S k i (l.take j)) h.domain k h i:=by
 subst hh;rw[ext1,vO,zR hj,xO];rfl
def Aut(S:Srch)(i:Int){l:List Lead}{j:Nat}{q:Lead}(hj:j<l.length)(hh:l[j]=q):ext2 S i (l.take (j+1))=meetT (ext2 S i (l.take j)) q.domain 1 ⟨3,0,q.domain,q.addr⟩ i:=by
 subst hh;rw[ext2,vO,zR hj,xO];rfl
theorem Srch.OK.ext1{n:Net}{k i:Int}(hk:k=0\/k=1):∀{l:List Hop} {S:Srch},S.OK n->(∀h∈l,0<=h.domain/\h.domain.toNat<n.domains.length)->(ext1 S k i l).OK n
 |[],S,h,_=>h
 |x::l,S,h,hl=>Srch.OK.ext1 hk (l:=l) (h.meet (hl x qq) hk x i) (λy hy=>hl y (by simp[hy]))
theorem Srch.OK.ext2{n:Net}{i:Int}:∀{l:List Lead} {S:Srch},S.OK n->(∀h∈l,0<=h.domain/\h.domain.toNat<n.domains.length)->(ext2 S i l).OK n
 |[],S,h,_=>h
 |x::l,S,h,hl=>Srch.OK.ext2 (l:=l) (h.meet (hl x qq) (.inr rfl) _ i) (λy hy=>hl y (by simp[hy]))
theorem Srch.OK.ext{n:Net}{S:Srch}(h:S.OK n)(i:Int):(extT n S i).OK n:=by
 rw[extT];split
 .exact(h.ext1 (.inl E) (λx hx=>Ok hx)).ext2 (λx hx=>Te hx)
 .exact h.ext1 (.inr E) (λx hx=>Ok hx)
def Akk{n:Net}(hn:n.Fin)(d:Int):(C4 n d).length<4294967296:=by
 have h1:=Kw n hn d;unfold An at h1;rw[C4];split
 .rename_i hd;have hk:d.toNat<n.domains.length:=by have:=hd.1;omega
  have h2:=hn.peers _ (zI hk);unfold An at h2;have h3:=uY (linkHop n d) (Bj n d);rw[hopsL,Ag hk,zU,yZ];omega
 .decide
def Aca{n:Net}(hn:n.Fin)(d:Int):(routesT n d).length<4294967296:=by
 have h1:=hn.irbs;unfold An at h1;rw[routesT];split
 .have:=X1 n (nth n.domains d).irb n.irbs.length;omega
 .decide
abbrev Awi(n:Net)(S:Srch)(d k:Int):Obs:=[(0,.box [.sl 5 A4 n.devices,.sl 7 Bd n.ports,.sl 3 Co n.links,.sl 6 At n.domains,.sl 4 Bb n.statics,.sl 4 Bm n.floods,.sl 5 Cu n.vrfs,.sl 5 Cr n.irbs,.osl 1,.osl 2,.osl 1000]),
 (1,.row 1 Ab S.m0),(2,.row 1 Ab S.m1),(3,.non),(1000,.row 7 X7 S.list),(4,.box [Aa d,Aa k])]
def A2d(n:Net)(hn:n.Fin)(hu:C7 n)(hD:n.domains.length<1000000)(S:Srch)(hS:S.OK n)(i:Int)(hi:0<=i/\i.toNat<S.list.length):Sq 118 [.ptr 0 0,Aa i] (dX n S) (.tup []) (Zn n (extT n S i)):=cT F118 ntmps118 λF hF=>by
 have ak:=extT.eq_1 n S i;rw[Ag hi.2]at ak;generalize extT n S i=res at *;have vd:=(hS.at_ _ (zI hi.2)).2;obtain ⟨f,hf⟩:=kE (S.list[i.toNat]'hi.2);rw[hf]at ak vd;obtain ⟨d,k,hp,ah⟩:=f;dsimp only at ak vd;have q1:=Anl n hn d;have q2:=Ac9 n hn hu d;have kw:=λh=>Ok (n:=n) (d:=d) (h:=h)
 have vf:=λh=>Te (n:=n) (d:=d) (q:=h)
 have hs1:=Akk hn d;have my:=Aca hn d;generalize C4 n d=hops at *;generalize routesT n d=leads at *;have xe:∀k,k=0\/k=1->∀j,(ext1 S k i (hops.take j)).OK n:=λk hk j=>hS.ext1 hk (λx hx=>kw x (wM hx))
 have ta:∀j,(ext2 (ext1 S 0 i hops) i (leads.take j)).OK n:=λj=>Srch.OK.ext2 (hS.ext1 (.inl rfl) (λx hx=>kw x hx)) (λx hx=>vf x (wM hx))
 have ai:=λk j h hj hh=>Auu S k i (l:=hops) (j:=j) (h:=h) hj hh
 have mc:=λj h hj hh=>Aut (ext1 S 0 i hops) i (l:=leads) (j:=j) (q:=h) hj hh
 refine fW ?_;refine⟨hi.1,hi.2,?_⟩;refine fW ?_;refine⟨by intro e;rw[e]at hi;simp at hi,?_⟩;refine fW ?_;refine⟨E,hi.2,?_⟩;rw[hf];refine fW ?_;rcases vd with rfl|rfl
 .rw[zE rfl]at ak;have xe:=xe 0 y_;have ai:=ai 0;refine fU ?_;refine cD q1 F199 (fU ?_);refine⟨j_,?_⟩;refine fW ?_;refine S3 3 1000 E E y_ ?_;refine A8 hops.length (λj=>[(0,.ptr 0 0),(1,Aa i),(4,.ptr 4 0),(23,.sl 4 Dc hops),(24,Aa hops.length),(25,Aa j)]) (λj=>Awi n (ext1 S 0 i (hops.take j)) d 0) []
   kU ?_
  intro j hj;have pv:=xe j;have lej:=pv.le;have l0:=pv.l0;have vg:=ai j;generalize uc:ext1 S 0 i (hops.take j)=Sj at *;refine gK ?_ ?_<;>intro h
  .have ab:j<hops.length:=by simpa using h
   have aj:(j:Int).toNat<hops.length:=kS ab;obtain ⟨hp,pw⟩:=kE (hops[(j:Int).toNat]'aj);have m6:=kw hp (by rw[<-pw];exact zI _);have sc:=vg hp ab pw;have q3:=Ayc n Sj hp.domain hp i (by rw[l0];exact m6) (by unfold An;omega);rw[<-sc]at q3;refine fU ?_;refine⟨E,by omega,aj,?_⟩;rw[pw];refine fW ?_;refine Ai (Ad [(0,0),(1,1),(2,2),(3,1000),(4,1001)] E F197 q3 E kA E kB) E E (gG ?_);exact Ax [(1000,1001)] ab kU
  .have:j=hops.length:=qB h;subst this;rw[yM]at uc;simp only[uc]at ak ta mc;refine fU ?_;refine cD q2 F200 (fU ?_);refine⟨j_,?_⟩;refine fW ?_;refine A8 leads.length (λj=>[(0,.ptr 0 0),(1,Aa i),(4,.ptr 4 0),(48,.sl 3 Oh leads),(49,Aa leads.length),(50,Aa j)]) (λj=>Awi n (ext2 Sj i (leads.take j)) d 0) []
    kU ?_
   intro j hj;have pv:=ta j;have lej:=pv.le;have l0:=pv.l1;have vg:=mc j;generalize hSk:ext2 Sj i (leads.take j)=Sk at *;refine gK ?_ ?_<;>intro h
   .have ab:j<leads.length:=by simpa using h
    have aj:(j:Int).toNat<leads.length:=kS ab;obtain ⟨hp,pw⟩:=kE (leads[(j:Int).toNat]'aj);have m6:=vf hp (by rw[<-pw];exact zI _);have sc:=vg hp ab pw;have q3:=Ayb n Sk hp.domain ⟨3,0,hp.domain,hp.addr⟩ i (by rw[l0];exact m6) (by unfold An;omega);rw[<-sc]at q3;refine fU ?_;refine⟨E,by omega,aj,?_⟩;rw[pw];refine fW ?_;refine Ai (Ad [(0,0),(1,1),(2,2),(3,1000),(4,1001)] E F197 q3 E kA E kB) E E (gG ?_);exact Ax [(1000,1001)] ab kU
   .have:j=leads.length:=qB h;subst this;rw[yM]at hSk;rw[hSk]at ak;subst ak;refine fU ?_;exact A2 E .nil [(4,1000)] (Zn n _) (λ_ h=>h) E E kU
 .rw[zD y_]at ak;clear ta mc q2 my vf;have xe:=xe 1 y_;have ai:=ai 1;refine fU ?_;refine cD q1 F199 (fU ?_);refine⟨j_,?_⟩;refine fW ?_;refine S3 3 1000 E E y_ ?_;refine A8 hops.length (λj=>[(0,.ptr 0 0),(1,Aa i),(4,.ptr 4 0),(23,.sl 4 Dc hops),(24,Aa hops.length),(25,Aa j)]) (λj=>Awi n (ext1 S 1 i (hops.take j)) d 1) []
   kU ?_
  intro j hj;have pv:=xe j;have lej:=pv.le;have l0:=pv.l1;have vg:=ai j;generalize uc:ext1 S 1 i (hops.take j)=Sj at *;refine gK ?_ ?_<;>intro h
  .have ab:j<hops.length:=by simpa using h
   have aj:(j:Int).toNat<hops.length:=kS ab;obtain ⟨hp,pw⟩:=kE (hops[(j:Int).toNat]'aj);have m6:=kw hp (by rw[<-pw];exact zI _);have sc:=vg hp ab pw;have q3:=Ayb n Sj hp.domain hp i (by rw[l0];exact m6) (by unfold An;omega);rw[<-sc]at q3;refine fU ?_;refine⟨E,by omega,aj,?_⟩;rw[pw];refine fW ?_;refine Ai (Ad [(0,0),(1,1),(2,2),(3,1000),(4,1001)] E F197 q3 E kA E kB) E E (gG ?_);exact Ax [(1000,1001)] ab kU
  .have:j=hops.length:=qB h;subst this;rw[yM]at uc;rw[uc]at ak;subst ak;refine fU ?_;exact A2 E .nil [(4,1000)] (Zn n _) (λ_ h=>h) E E kU
def J3(n:Net)(dev:Int)(S:Srch)(v:Int):Srch:=if v=0 then S else meetT S (Ce n dev v) 0 ⟨0,0,Ce n dev v,0⟩ (-1)
def Kq(n:Net):Srch:=⟨List.replicate n.domains.length false,List.replicate n.domains.length false,[]⟩
def Ou(n:Net)(dev:Int)(l:List Int):Srch:=l.foldl (J3 n dev) (Kq n)
def beginT(n:Net)(port:Int):Srch:=Ou n (nth n.ports port).dev ((nth n.ports port).native::(nth n.ports port).tagged)
def Alp(n:Net)(dev:Int){l:List Int}{j:Nat}{v:Int}(hj:j<l.length)(hh:l[j]=v):Ou n dev (l.take (j+1))=J3 n dev (Ou n dev (l.take j)) v:=by
 subst hh;rw[Ou,vO,zR hj,xO];rfl
def Aif(n:Net):(Kq n).OK n:=⟨by simp[Kq],by simp[Kq],λf hf=>by simp[Kq]at hf,by simp[Kq]⟩
def W7{n:Net}{dev:Int}{l:List Int}(h:∀v∈l,v≠0->0<=Ce n dev v/\(Ce n dev v).toNat<n.domains.length):(Ou n dev l).OK n:=by
 suffices hs:∀(l:List Int) (S:Srch),S.OK n->(∀v∈l,v≠0->0<=Ce n dev v/\(Ce n dev v).toNat<n.domains.length)->(l.foldl (J3 n dev) S).OK n from hs l _ (Aif n) h
 intro l
 induction l with
 |nil=>exact λS h _=>h
 |cons x l ih=>
  intro S hS hl;refine ih _ ?_ (λv hv=>hl v (by simp[hv]));rw[J3];split
  .exact hS
  .rename_i hx;exact hS.meet (hl x qq hx) (.inl E) _ _
def Ki{n:Net}(hb:Ac n=true){i:Nat}(hi:i<n.ports.length){v:Int}(hv:v∈n.ports[i].native::n.ports[i].tagged)(h0:v≠0):0<=Ce n n.ports[i].dev v/\(Ce n n.ports[i].dev v).toNat<n.domains.length:=by
 rw[Ce,zE hb];refine V5 hb hi ?_;simp only[Cz,zG,xC,yQ,yJ];refine⟨h0,?_⟩;rcases yH.1 hv with h|h
 .exact .inl h
 .exact .inr (wJ.2 ⟨v,h,by simp⟩)
abbrev nO(n:Net)(a b c:SV):Ob:=.box [.sl 5 A4 n.devices,.sl 7 Bd n.ports,.sl 3 Co n.links,.sl 6 At n.domains,.sl 4 Bb n.statics,.sl 4 Bm n.floods,.sl 5 Cu n.vrfs,.sl 5 Cr n.irbs,a,b,c]
abbrev aA:SV:=svN
def madeO(n:Net):Nat->Obs
 |0=>[(0,nO n aA aA aA)]
 |1=>[(0,nO n (.osl 1001) aA aA),(1001,.row 1 Ab (List.replicate n.domains.length false))]
 |_=>[(0,nO n (.osl 1001) (.osl 1002) aA),(1001,.row 1 Ab (List.replicate n.domains.length false)),(1002,.row 1 Ab (List.replicate n.domains.length false))]
abbrev srchB(n:Net)(S:Srch)(vs:List Int):Obs:=[(0,nO n (.osl 1001) (.osl 1002) (.osl 1003)),(1001,.row 1 Ab S.m0),(1002,.row 1 Ab S.m1),(1003,.row 7 X7 S.list),(38,.row 1 Aa vs)]
def beginS(n:Net)(hn:n.Fin)(hb:Ac n=true)(hD:n.domains.length<1000000)(port:Int)(hp:0<=port/\port.toNat<n.ports.length):Sq 114 [.ptr 0 0,Aa port] [(0,nO n aA aA aA)] (.tup []) (dX n (beginT n port)):=cT F114 ntmps114 λF hF=>by
 have ak:=beginT.eq_1 n port;rw[Ag hp.2]at ak;generalize beginT n port=res at *;have az:=λv hv h0=>Ki hb hp.2 (v:=v) hv h0
 have hts:=hn.tagged _ (zI hp.2);unfold An at hts;obtain ⟨p,l7⟩:=kE (n.ports[port.toNat]'hp.2);rw[l7]at ak az hts;have ar:∀j,(Ou n p.dev ((p.native::p.tagged).take j)).OK n:=λj=>W7 λv hv h0=>az v (wM hv) h0
 have xf:=λj v hj hh=>Alp n p.dev (l:=p.native::p.tagged) (j:=j) (v:=v) hj hh
 have hd:=λv=>Kt n hn p.dev v
 refine fW ?_;refine⟨E,hp.1,hp.2,?_⟩;rw[l7];refine fW ?_;refine Ba 4 7 (Bd p) E E E ?_;refine A7 2 (λ_=>True) (λj=>[(0,.ptr 0 0),(4,.ref 7 (Bd p) 0),(17,Aa j)]) (λj=>madeO n j) [] q_ kU ?_;intro j hj _;refine gK ?_ ?_<;>intro h
 .have ab:j<2:=qA h;have hj01:j=0\/j=1:=by omega
  rcases hj01 with rfl|rfl
  .refine fU ?_;refine Cc (B5 Γ.toTy (d:=28) (n:=n.domains.length) Ab false E E E E E E E E z_ z_ E E E) j_ E (fU ?_);refine⟨by decide,by decide,?_⟩;refine fW ?_;refine⟨j_,?_⟩;refine fW ?_;refine⟨by unfold I64;decide,?_⟩;refine fW ?_;exact A6 [(1001,28)] q_ y_ q_ kU
  .refine fU ?_;refine Cc (B5 Γ.toTy (d:=28) (n:=n.domains.length) Ab false E E E E E E E E z_ z_ E E E) j_ E (fU ?_);refine⟨by decide,by decide,?_⟩;refine fW ?_;refine⟨j_,?_⟩;refine fW ?_;refine⟨by unfold I64;decide,?_⟩;refine fW ?_;exact A6 [(1002,28)] q_ y_ q_ kU
 .have:j=2:=qB h;subst this;refine fU ?_;refine Ai (Ah Γ.toTy 38 E E E E E (.lit (e:=Aa) (l:=[p.native]) E E) .sl y_ kO kO) E E (O1 0 10 1003 7 X7 E E E E ?_);refine fU ?_;generalize jh:p.native::p.tagged=vs at *;have gl:vs.length=p.tagged.length+1:=by rw[<-jh];rfl
  refine A8 vs.length (λj=>[(0,.ptr 0 0),(4,.ref 7 (Bd p) 0),(38,.osl 38),(39,Aa vs.length),(40,Aa j)]) (λj=>srchB n (Ou n p.dev (vs.take j)) vs) []
   ⟨⟨rfl,rfl,rfl,rfl,rfl,rfl,zH Aa (by rw[gl];rfl),rfl,rfl,rfl,trivial⟩,⟨.inl rfl,rfl,.inl rfl,rfl,.inl rfl,rfl,.inl rfl,rfl,.inl (zH (Ob.row 1 Aa) jh.symm),rfl,trivial⟩,rfl,rfl⟩ ?_
  intro j hj;have pv:=ar j;have lej:=pv.le;have l0:=pv.l0;have vg:=xf j;generalize uc:Ou n p.dev (vs.take j)=Sj at *;refine gK ?_ ?_<;>intro h
  .have ab:j<vs.length:=by simpa using h
   have aj:(j:Int).toNat<vs.length:=kS ab;obtain ⟨v,hv⟩:=kE (vs[(j:Int).toNat]'aj);have jt:v∈vs:=by rw[<-hv];exact zI _
   have sc:=vg v ab hv;rw[J3]at sc;have hdv:=hd v;have hiv:=az v jt;generalize Ce n p.dev v=dm at *;refine fU ?_;refine⟨by omega,aj,?_⟩;refine fW ?_;refine⟨E,aj,?_⟩;rw[hv];refine fW ?_;constructor<;>intro h
   .have h0:v≠0:=by simpa using h
    rw[zD h0]at sc;have q3:=Ayc n Sj dm ⟨0,0,dm,0⟩ (-1) (by rw[l0];exact hiv h0) (by unfold An;omega);rw[<-sc]at q3;refine fU ?_;refine cD hdv F181 (fU ?_);refine⟨j_,?_⟩;refine fW ?_;refine Ai (Ad [(0,0),(1,1001),(2,1002),(3,1003),(4,1004)] E F197 q3 E kA E kB) E E (gG ?_);exact Ax [(1003,1004)] ab kU
   .have h0:v=0:=by simpa using h
    rw[zE h0]at sc;refine gG ?_;exact Ax [] ab ⟨kA,⟨.inl E,E,.inl (zH (λS=>Ob.row 1 Ab (Srch.m0 S)) sc),E,.inl (zH (λS=>Ob.row 1 Ab (Srch.m1 S)) sc),E,.inl (zH (λS=>Ob.row 7 X7 (Srch.list S)) sc),E,.inl E,E,q_⟩,E,E⟩
  .have:j=vs.length:=qB h;subst this;rw[yM]at uc;rw[uc]at ak;subst ak;refine fU ?_;exact A2 E .nil [(1,1001),(2,1002),(3,1003)] (dX n _) (λ_ h=>h) E E kU
def Ais(D:List Hop)(hl:D.length<4294967296):Sq 198 [.osl 0] [(0,.row 4 Dc D)] (.tup []) [(0,.row 4 Dc D.reverse)]:=cT F198 ntmps198 λF hF=>by
 refine gO ?_;refine A8 (D.length/2) (λj=>[(0,.osl 0),(2,Aa j),(3,Aa ((D.length:Int)-1-j))]) (λj=>[(0,.row 4 Dc (Ur D j))]) []
  ⟨⟨rfl,rfl,rfl,rfl,zH (λz=>SV.val (.int .i64 z)) z_,rfl,trivial⟩,⟨.inl (zH (Ob.row 4 Dc) (cQ D)),rfl,trivial⟩,rfl,rfl⟩ ?_
 intro i hi;have nf:=Dx D i;refine fU ?_;constructor<;>intro h2
 .have ab:2*i+1<D.length:=by have:=zO h2;omega
  obtain ⟨u,hu⟩:=kE (Ur D i);obtain ⟨k,hk⟩:=kE (D.length-1-i);have dw:(D.length:Int)-1-i=(k:Nat):=by omega
  rw[hu]at nf;have hs:=cR hu ab hk z_ z_;rw[hu,dw];refine fU ?_;refine⟨by omega,by omega,?_⟩;refine fW ?_;refine⟨E,by omega,?_⟩;refine fW ?_;refine⟨by omega,by omega,?_⟩;refine fW ?_;refine⟨E,by omega,?_⟩;refine fW ?_;refine⟨by omega,by omega,?_⟩;refine fW ?_;refine⟨E,by omega,u[k],E,E,?_⟩;refine fW ?_;refine⟨by omega,by simp;omega,?_⟩;refine fW ?_;refine⟨E,by simp;omega,u[i],E,E,?_⟩;refine fW ?_;refine⟨j_,?_⟩;refine gO ?_;refine iL ?_;refine fW ?_;refine Ax [] z_ ⟨⟨E,E,E,E,zH (λz=>SV.val (.int .i64 z)) z_,E,q_⟩,⟨.inl (zH (Ob.row 4 Dc) hs.symm),E,q_⟩,E,E⟩
 .have h3:D.length<=2*i+1:=by have:=zQ h2;omega
  rw[oA D i h3];refine fU ?_;exact A2 E .nil [] [(0,.row 4 Dc D.reverse)] (λ_ h=>h) E E kU
def backC(l:List Fnd)(i:Int):List Hop :=
 if _h:0<=i/\(nth l i).ahead<i then (nth l i).hop::backC l (nth l i).ahead else []
 termination_by (i+1).toNat
 decreasing_by omega
def backT(l:List Fnd)(i:Int):List Hop:=(backC l i).reverse
def Backs(l:List Fnd):Prop:=∀i (h:i<l.length),-1<=l[i].ahead/\l[i].ahead<i
theorem Backs.snoc{l:List Fnd}(h:Backs l){f:Fnd}(hf:-1<=f.ahead/\f.ahead<l.length):Backs (l++[f]):=λi hi=>by
 by_cases hl:i<l.length
 .rw[yT hl];exact h i hl
 .have:i=l.length:=by simp at hi;omega
  subst this;simpa using hf
theorem Backs.meet{S:Srch}(h:Backs S.list)(d k:Int)(hp:Hop){a:Int}(ha:-1<=a/\a<S.list.length):Backs (meetT S d k hp a).list/\S.list.length<=(meetT S d k hp a).list.length:=by
 rw[meetT];split
 .exact⟨h,yG _⟩
 .rw[Od];split
  .exact⟨h.snoc ha,by simp⟩
  .exact⟨h.snoc ha,by simp⟩
theorem Backs.ext1{k i:Int}:∀{l:List Hop} {S:Srch},Backs S.list->(-1<=i/\i<S.list.length)->Backs (ext1 S k i l).list/\S.list.length<=(ext1 S k i l).list.length
 |[],S,h,_=>⟨h,yG _⟩
 |x::l,S,h,hi=>by
  obtain ⟨h1,h2⟩:=h.meet x.domain k x hi;obtain ⟨h3,h4⟩:=Backs.ext1 (k:=k) (i:=i) (l:=l) h1 ⟨hi.1,by omega⟩;exact⟨h3,wQ h2 h4⟩
theorem Backs.ext2{i:Int}:∀{l:List Lead} {S:Srch},Backs S.list->(-1<=i/\i<S.list.length)->Backs (ext2 S i l).list/\S.list.length<=(ext2 S i l).list.length
 |[],S,h,_=>⟨h,yG _⟩
 |x::l,S,h,hi=>by
  obtain ⟨h1,h2⟩:=h.meet x.domain 1 ⟨3,0,x.domain,x.addr⟩ hi;obtain ⟨h3,h4⟩:=Backs.ext2 (i:=i) (l:=l) h1 ⟨hi.1,by omega⟩;exact⟨h3,wQ h2 h4⟩
theorem Backs.ext{n:Net}{S:Srch}(h:Backs S.list){i:Int}(hi:0<=i/\i<S.list.length):Backs (extT n S i).list/\S.list.length<=(extT n S i).list.length:=by
 rw[extT];split
 .obtain ⟨h1,h2⟩:=h.ext1 (k:=0) (i:=i) (l:=C4 n (nth S.list i).domain) ⟨by omega,hi.2⟩;obtain ⟨h3,h4⟩:=h1.ext2 (i:=i) (l:=routesT n (nth S.list i).domain) ⟨by omega,by omega⟩;exact⟨h3,wQ h2 h4⟩
 .exact h.ext1 ⟨by omega,hi.2⟩
def Ua(n:Net)(dev:Int)(l:List Int):Backs (Ou n dev l).list:=by
 suffices hs:∀(l:List Int) (S:Srch),Backs S.list->Backs (l.foldl (J3 n dev) S).list from hs l _ (λi h=>by simp[Kq]at h)
 intro l
 induction l with
 |nil=>exact λS h=>h
 |cons x l ih=>
  intro S hS;refine ih _ ?_;rw[J3];split
  .exact hS
  .exact(hS.meet _ _ _ ⟨by omega,by omega⟩).1
abbrev srchA(n:Net)(S:Srch)(l:List Hop):Obs:=[(0,nO n (.osl 1) (.osl 2) (.osl 3)),(1,.row 1 Ab S.m0),(2,.row 1 Ab S.m1),(3,.row 7 X7 S.list),(1000,.row 4 Dc l)]
def backS(n:Net)(S:Srch)(hB:Backs S.list)(hl:S.list.length<4000000)(i:Int)(hi:-1<=i/\i<S.list.length):Sq 117 [.ptr 0 0,Aa i] (dX n S) (.sl 4 Dc (backT S.list i)) (dX n S):=cT F117 ntmps117 λF hF=>by
 have ak:=backT.eq_1 S.list i;generalize backT S.list i=res at *;refine fW ?_;refine B6 5 1000 4 Dc E E ?_;refine Ci (λx:Int×List Hop=>(-1<=x.1/\x.1<S.list.length)/\x.2.length+(x.1+1).toNat<=S.list.length/\x.2++backC S.list x.1=backC S.list i)
  (λx=>[(0,.ptr 0 0),(1,Aa x.1),(5,.osl 1000)]) (λx=>srchA n S x.2) (λx=>(x.1+1).toNat) (i,[]) [] ⟨hi,by simp;omega,rfl⟩
  kU ?_
 rintro ⟨z,acc⟩ ⟨hz,lp,gy⟩;dsimp only at hz lp gy;refine gK ?_ ?_<;>intro h
 .have h0:0<=z:=zO h;have hk:z.toNat<S.list.length:=by omega
  have hb:=hB z.toNat hk;rw[backC,Ag hk]at gy;obtain ⟨f,hf⟩:=kE (S.list[z.toNat]'hk);rw[hf]at gy hb;rw[dif_pos ⟨h0,by omega⟩]at gy;refine fU ?_;refine⟨h0,hk,?_⟩;refine fW ?_;refine⟨by intro e;rw[e]at hk;simp at hk,?_⟩;refine fW ?_;refine⟨E,hk,?_⟩;rw[hf];refine fW ?_;refine Ai (Ah Γ.toTy 26 E E E E E (.row E) (.lit (e:=Dc) (l:=[f.hop]) E E) qq kO kO) E E (fU ?_);refine⟨h0,hk,?_⟩;refine fW ?_;refine⟨by intro e;rw[e]at hk;simp at hk,?_⟩;refine fW ?_;refine⟨E,hk,?_⟩;rw[hf];refine fW ?_;exact Ay (f.ahead,acc++[f.hop]) [(1000,26)] ⟨⟨hb.1,by omega⟩,by simp;omega,by rw[xF];exact gy⟩ (by simp only;omega)
   kU
 .have h0:¬0<=z:=zQ h;rw[backC,dif_neg (λe=>h0 e.1),xG]at gy;have q:=Ais acc z_;rw[<-gy]at ak;refine fU ?_;refine Ai (Ad [(0,1000)] E F198 q E ⟨E,q_⟩ E ⟨.inl E,q_⟩) E E (Aj 1000 E ?_);rw[<-ak];refine fU ?_;exact done E Ap [] (dX n S) (λ_ h=>h) E E kU
def Eh(n:Net)(to:Int):Nat->Srch->Nat->List Hop×Bool
 |0,_,_=>([],false)
 |k+1,S,i=>if i<S.list.length then (if inB (Bj n (nth S.list i).domain) to=true then (backT S.list i,true) else Eh n to k (extT n S i) (i+1)) else ([],false)
def wayT(n:Net)(from_ to:Int):List Hop×Bool :=
 if Eg n from_=true/\Eg n to=true/\from_≠to/\Ac n=true then Eh n to (2*n.domains.length+1) (beginT n from_) 0 else ([],false)
abbrev srchW(n:Net)(S:Srch):Obs:=[(32,nO n (.osl 1001) (.osl 1002) (.osl 1003)),(1001,.row 1 Ab S.m0),(1002,.row 1 Ab S.m1),(1003,.row 7 X7 S.list)]
def So{n:Net}{i:Int}(h:Eg n i=true):0<=i/\i.toNat<n.ports.length:=by
 simp only[Eg,zG,zJ]at h;omega
def wayS(n:Net)(hn:n.Fin)(hu:C7 n)(from_ to:Int):Sp 60 [Am n,Aa from_,Aa to] (.tup [.sl 4 Dc (wayT n from_ to).1,Ab (wayT n from_ to).2]):=cT F60 ntmps60 λF hF=>by
 have ak:=wayT.eq_1 n from_ to;generalize wayT n from_ to=res at *;have hr:=A0 n hn;have h1:=Zd n from_;have h2:=Zd n to;refine fW ?_;refine Ba 3 8 (Am n) E E E (gN h1 F61 ?_);cases hf:Eg n from_
 .rw[zD (by simp[hf])]at ak;subst ak;refine fU ?_;exact Ao 6 4 Dc E gD
 refine gN h2 F61 ?_;cases ht:Eg n to
 .rw[zD (by simp[ht])]at ak;subst ak;refine fU ?_;exact Ao 6 4 Dc E gD
 refine gK ?_ ?_<;>intro h
 .rw[zD (by have:from_=to:=(kS h);simp[this])]at ak;subst ak;refine fU ?_;exact Ao 6 4 Dc E gD
 have ag:from_≠to:=kS h;refine gN hr F39 ?_;cases hb:Ac n
 .rw[zD (by simp[hb])]at ak;subst ak;refine fU ?_;exact Ao 6 4 Dc E gD
 rw[zE ⟨hf,ht,ag,hb⟩]at ak;have hD:n.domains.length<1000000:=by have:=(Ak6 hb).2.2.2.1;omega
 have hp:=So hf;have q0:=beginS n hn hb hD from_ hp;have xg:(beginT n from_).OK n:=by
  rw[beginT,Ag hp.2];exact W7 λv hv h0=>Ki hb hp.2 hv h0
 have xh:Backs (beginT n from_).list:=by rw[beginT];exact Ua _ _ _
 generalize beginT n from_=S0 at *;refine fU ?_;refine Ai (Ad [(0,32),(1,1001),(2,1002),(3,1003)] E F114 q0 E ⟨E,q_⟩ E kB) E E (fU ?_);refine Ci (λx:Srch×Nat=>x.1.OK n/\Backs x.1.list/\x.2<=x.1.list.length/\res=Eh n to (2*n.domains.length+1-x.2) x.1 x.2)
  (λx=>[(2,Aa to),(3,.ref 8 (Am n) 0),(8,.ptr 32 0),(9,Aa x.2)]) (λx=>srchW n x.1) (λx=>2*n.domains.length+1-x.2) (S0,0) [] ⟨xg,xh,xX _,ak⟩
  kU ?_
 clear ak xg xh q0;rintro ⟨S,i⟩ ⟨ok,bk,hi,ak⟩;dsimp only at ok bk hi ak|-;have hle:=ok.le;obtain ⟨fuel,hfu⟩:∃k,2*n.domains.length+1-i=k+1:=⟨2*n.domains.length-i,by omega⟩
 rw[hfu,Eh]at ak;refine gK ?_ ?_<;>intro h
 .have ab:i<S.list.length:=qA h;have dq:(i:Int).toNat<S.list.length:=kS ab;rw[zE ab,Ag dq]at ak;obtain ⟨f,pj⟩:=kE (S.list[(i:Int).toNat]'dq);rw[pj]at ak;have q1:=Qu n hn f.domain;have q2:=D3 (Bj n f.domain) to (Kw n hn f.domain);generalize Bj n f.domain=mem at *;refine fU ?_;refine⟨by omega,dq,?_⟩;refine fW ?_;refine⟨by intro e;rw[e]at ab;simp at ab,?_⟩;refine fW ?_;refine⟨by intro e;rw[e]at ab;simp at ab,?_⟩;refine fW ?_;refine⟨E,dq,?_⟩;rw[pj];refine fW ?_;refine cD q1 F116 (fU ?_);refine cD q2 F115 (fU ?_);refine⟨j_,?_⟩;refine fW ?_;generalize inB mem to=bm at *;cases bm
  .refine aF ?_;rw[zD qq]at ak;have q3:=A2d n hn hu hD S ok i ⟨by omega,dq⟩;have ok':=ok.ext i;have y4:=bk.ext (n:=n) (i:=i) ⟨by omega,by omega⟩;generalize extT n S i=S' at *;refine fU ?_;refine Ai (Ad [(0,32),(1,1001),(2,1002),(3,1003),(4,1004)] E F118 q3 E kA E kB) E E (gG ?_);exact Ay (S',i+1) [(1003,1004)] ⟨ok',y4.1,by simp only;omega,by simp only;rw[show 2*n.domains.length+1-(i+1)=fuel by omega];exact ak⟩ (by simp only;omega)
    kU
  .refine aT ?_;rw[zE rfl]at ak;subst ak;have q4:=backS n S bk z_ i ⟨by omega,by omega⟩;generalize backT S.list i=w at *;refine fU ?_;exact Ai (Ad [(0,32),(1,1001),(2,1002),(3,1003)] E F117 q4 E kA E kB) E E gD
 .have ab:¬i<S.list.length:=qB h;rw[zD ab]at ak;subst ak;refine fU ?_;exact Ao 6 4 Dc E gD
end
section
def bW(n:Net)(h:Hop):Prop:=(0<=h.domain/\h.domain.toNat<n.domains.length)/\0<=h.addr/\h.addr<4294967296
def Avi{n:Net}{irb to e:Int}(he:e<4294967296):∀{x:Int},0<=x->0<=(addrGo n irb to e x).1/\(addrGo n irb to e x).1<4294967296:=by
 intro x
 induction x using addrGo.induct n irb to e with
 |case1 x h1 h2=>intro h0;rw[addrGo,zE h1,zE h2];exact⟨h0,by simp only;omega⟩
 |case2 x h1 h2 h3=>intro h0;rw[addrGo,zE h1,zD h2,zE h3];decide
 |case3 x h1 h2 h3 h4 ih=>intro h0;rw[addrGo,zE h1,zD h2,zD h3,zE h4];exact ih z_
 |case4 x h1 h2 h3 h4=>intro h0;rw[addrGo,zE h1,zD h2,zD h3,zD h4];decide
 |case5 x h1=>intro h0;rw[addrGo,zD h1];decide
def A0m{n:Net}(hu:C7 n)(irb to:Int):0<=(addrT n irb to).1/\(addrT n irb to).1<4294967296:=by
 rw[addrT];split
 .rename_i hc;have hk:to.toNat<n.irbs.length:=by omega
  rw[Ag hk];have mw:=hu _ (zI hk);exact Avi (Sl _ _ mw).2 (dI _ _ mw).1
 .decide
def Akl{n:Net}{d:Int}{h:Hop}(hh:h∈C4 n d):bW n h:=by
 refine⟨Ok hh,?_⟩;rw[C4]at hh;split at hh
 .rcases yI.1 hh with hh|hh
  .obtain ⟨p,_,hp⟩:=wL.1 hh;rw[linkHop]at hp;split at hp
   .simp only[Option.some.injEq]at hp;subst hp;exact⟨by simp,by simp⟩
   .cases hp
  .obtain ⟨p,hp,rfl⟩:=yS.1 hh;exact⟨by simp[Mr],by simp[Mr]⟩
 .cases hh
def Af4{n:Net}(hu:C7 n){d:Int}{q:Lead}(hq:q∈routesT n d):0<=q.addr/\q.addr<4294967296:=by
 rw[routesT]at hq;split at hq
 .obtain ⟨i,hi,hp⟩:=wL.1 hq;rw[leadF]at hp;split at hp
  .simp only[Option.some.injEq]at hp;subst hp;exact A0m hu _ _
  .cases hp
 .cases hq
def HopsOK(n:Net)(l:List Fnd):Prop:=∀f∈l,bW n f.hop
theorem HopsOK.meet{n:Net}{S:Srch}(h:HopsOK n S.list)(d k:Int){hp:Hop}(hh:bW n hp)(a:Int):HopsOK n (meetT S d k hp a).list:=by
 rw[meetT];split
 .exact h
 .rw[Od];split<;>(intro f hf;rcases yI.1 hf with hf|hf;exact h f hf;rw[zZ]at hf;subst hf;exact hh)
theorem HopsOK.ext1{n:Net}{k i:Int}:∀{l:List Hop} {S:Srch},HopsOK n S.list->(∀h∈l,bW n h)->HopsOK n (ext1 S k i l).list
 |[],S,h,_=>h
 |x::l,S,h,hl=>HopsOK.ext1 (l:=l) (h.meet x.domain k (hl x qq) i) (λy hy=>hl y (by simp[hy]))
theorem HopsOK.ext2{n:Net}{i:Int}:∀{l:List Lead} {S:Srch},HopsOK n S.list->(∀q∈l,bW n ⟨3,0,q.domain,q.addr⟩)->HopsOK n (ext2 S i l).list
 |[],S,h,_=>h
 |x::l,S,h,hl=>HopsOK.ext2 (l:=l) (h.meet x.domain 1 (hl x qq) i) (λy hy=>hl y (by simp[hy]))
theorem HopsOK.ext{n:Net}(hu:C7 n){S:Srch}(h:HopsOK n S.list)(i:Int):HopsOK n (extT n S i).list:=by
 rw[extT];split
 .exact(h.ext1 (λx hx=>Akl hx)).ext2 (λq hq=>⟨Te hq,Af4 hu hq⟩)
 .exact h.ext1 (λx hx=>Akl hx)
def Alq{n:Net}{dev:Int}{l:List Int}(h:∀v∈l,v≠0->0<=Ce n dev v/\(Ce n dev v).toNat<n.domains.length):HopsOK n (Ou n dev l).list:=by
 suffices hs:∀(l:List Int) (S:Srch),HopsOK n S.list->(∀v∈l,v≠0->0<=Ce n dev v/\(Ce n dev v).toNat<n.domains.length)->HopsOK n (l.foldl (J3 n dev) S).list from hs l _ (λf hf=>by simp[Kq]at hf) h
 intro l
 induction l with
 |nil=>exact λS h _=>h
 |cons x l ih=>
  intro S hS hl;refine ih _ ?_ (λv hv=>hl v (by simp[hv]));rw[J3];split
  .exact hS
  .rename_i hx;exact hS.meet _ _ ⟨hl x qq hx,by simp,by simp⟩ _
def Als{l:List Fnd}(hB:Backs l){P:Hop->Prop}(hP:∀f∈l,P f.hop):∀(k:Nat) (i:Int),i<k->i<l.length->(∀h∈backC l i,P h)/\((backC l i).length:Int)<=i+1\/i<0:=by
 intro k
 induction k with
 |zero=>intro i hi _;exact .inr z_
 |succ k ih=>
  intro i hi hl;by_cases h0:0<=i
  .left;have hk:i.toNat<l.length:=by omega
   have hb:=hB i.toNat hk;rw[backC,Ag hk,dif_pos ⟨h0,by omega⟩];have hm:=hP _ (zI hk);rcases ih (l[i.toNat]'hk).ahead z_ z_ with ⟨h1,h2⟩|h1
   .refine⟨λh hh=>?_,by rw[yL];omega⟩;rcases yH.1 hh with rfl|hh
    .exact hm
    .exact h1 h hh
   .rw[backC,dif_neg (λe=>by omega)];refine⟨λh hh=>?_,by simp;omega⟩;rw[zZ]at hh;subst hh;exact hm
  .exact .inr z_
def fI{l:List Fnd}(hB:Backs l){P:Hop->Prop}(hP:∀f∈l,P f.hop){i:Nat}(hi:i<l.length):(∀h∈backT l i,P h)/\(backT l i).length<=i+1/\backT l i≠[]:=by
 rcases Als hB hP (i+1) i z_ z_ with ⟨h1,h2⟩|h
 .refine⟨λh hh=>h1 h (by simpa [backT] using hh),by rw[backT,List.length_reverse];omega,?_⟩;rw[backT];intro e;have hk:(i:Int).toNat<l.length:=kS hi;have hb:=hB (i:Int).toNat hk;rw[backC,Ag hk,dif_pos ⟨by omega,by omega⟩]at e;simp at e
 .omega
def Xo{n:Net}(hu:C7 n){to:Int}:∀(k:Nat) (S:Srch) (i:Nat),S.OK n->Backs S.list->HopsOK n S.list->i<=S.list.length->(Eh n to k S i).2=true ->
  (∀h∈(Eh n to k S i).1,bW n h)/\(Eh n to k S i).1.length<=2*n.domains.length/\(Eh n to k S i).1≠[]
 |0,S,i,_,_,_,_,h=>by cases h
 |k+1,S,i,ok,bk,hk,hi,h=>by
  rw[Eh]at h|-;split at h
  .rename_i ab;rw[zE ab];split at h
   .rename_i bw;rw[zE bw];have:=fI bk hk ab;have hle:=ok.le;exact⟨this.1,by have:=this.2.1;simp only;omega,this.2.2⟩
   .rename_i bw;rw[zD bw];have y4:=bk.ext (n:=n) (i:=i) ⟨by omega,by omega⟩;exact Xo hu k _ _ (ok.ext i) y4.1 (hk.ext hu i) z_ h
  .cases h
theorem wayT_facts{n:Net}(hu:C7 n){from_ to:Int}(h:(wayT n from_ to).2=true):(∀h∈(wayT n from_ to).1,bW n h)/\(wayT n from_ to).1.length<=2*n.domains.length/\(wayT n from_ to).1≠[]/\Ac n=true:=by
 rw[wayT]at h|-;split at h
 .rename_i hc;rw[zE hc];have hp:=So hc.1;have xg:(beginT n from_).OK n:=by
   rw[beginT,Ag hp.2];exact W7 λv hv h0=>Ki hc.2.2.2 hp.2 hv h0
  have bh:HopsOK n (beginT n from_).list:=by
   rw[beginT,Ag hp.2];exact Alq λv hv h0=>Ki hc.2.2.2 hp.2 hv h0
  have xh:Backs (beginT n from_).list:=by rw[beginT];exact Ua _ _ _
  obtain ⟨h1,h2,h3⟩:=Xo hu _ _ _ xg xh bh (xX _) h;exact⟨h1,h2,h3,hc.2.2.2⟩
 .cases h
attribute [local irreducible]G DR
set_option maxRecDepth 20000
def Aa8{n:Net}(h:Ac n=true){i:Nat}(hi:i<n.ports.length):0<=n.ports[i].native/\inB n.ports[i].tagged n.ports[i].native=false:=by
 have:=Apk h hi;simp only[J7,zG,zJ,xB]at this;exact⟨this.1.1.1.1.1.1.1.2,this.1.1.1.1.2⟩
end
section
def lC(n:Net)(irb a:Int):Int:=(nth n.irbs a).bits*2+Acm n irb a
def Alg(n:Net)(irb a b:Int):0<Y7 n irb a b↔lC n irb b<lC n irb a:=by
 have h1:=lN n irb a;have h2:=lN n irb b;rw[Y7,lC,lC];split<;>omega
def Afd(n:Net)(irb:Int)(p:Nat->Bool):∀j,Im p j≠[] ->
  ∀y∈Im p j,lC n irb y<=lC n irb (Qi (Y7 n irb) (Im p j))/\(y<Qi (Y7 n irb) (Im p j)->lC n irb y<lC n irb (Qi (Y7 n irb) (Im p j)))
 |0,h=>zX rfl h
 |j+1,h=>by
  have ih:=Afd n irb p j;have hm:=Afe (Y7 n irb) (Im p j);have az:=λx=>@filtI_in p j x
  have hs:=Ap1 (Y7 n irb) (Im p j) j;have ho:=Au7 (Y7 n irb) j;rw[Y1]at h|-;split
  .generalize Im p j=u at *;by_cases hu:u=[]
   .subst hu;intro y hy;rw[wC]at hy|-;rw[ho];have:y=j:=kS hy;subst this;omega
   .have my:=hs hu;have t8:=ih hu;have hmi:=az _ (hm hu);rw[my];split
    .rename_i hc;rw[Alg]at hc;intro y hy;rcases yI.1 hy with h1|h1
     .have:=(t8 y h1).1;omega
     .have:y=j:=by simpa using h1
      subst this;omega
    .rename_i hc;rw[Alg]at hc;intro y hy;rcases yI.1 hy with h1|h1
     .exact t8 y h1
     .have:y=j:=by simpa using h1
      subst this;omega
  .rename_i hp;rw[zD hp]at h;exact ih h
def Aym{n:Net}{irb dst:Int}(h:(lookT n irb dst).2=true):Jj n irb dst≠[]/\(lookT n irb dst).1=Qi (Y7 n irb) (Jj n irb dst):=by
 rw[lookT]at h|-;split at h
 .cases h
 .rename_i h1;rw[zD h1];split at h
  .cases h
  .rename_i h2;rw[zD h2];exact⟨h2,by rw[Qi,zD h2]⟩
def Ayl{n:Net}{irb dst:Int}(h:(lookT n irb dst).2=false):(∃i,i<n.irbs.length/\Mv n irb dst i=true)\/Jj n irb dst=[]:=by
 rw[lookT]at h;split at h
 .rename_i h1;obtain ⟨i,hi,ht⟩:=wJ.1 h1;exact .inl ⟨i,xA.1 hi,ht⟩
 .split at h
  .rename_i h2;exact .inr h2
  .cases h
def Lf{n:Net}{irb dst:Int}(h:(lookT n irb dst).2=true):(lookT n irb dst).1∈Jj n irb dst/\∀y∈Jj n irb dst,lC n irb y<=lC n irb (lookT n irb dst).1/\(y<(lookT n irb dst).1->lC n irb y<lC n irb (lookT n irb dst).1):=by
 obtain ⟨h1,h2⟩:=Aym h;rw[h2];exact⟨Afe _ _ h1,Afd n irb _ _ h1⟩
def mem_ways{n:Net}{irb dst i:Int}:i∈Jj n irb dst↔InIrbs n i/\Acu (nth n.irbs i).addr (nth n.irbs i).bits dst=true/\Adt n irb i=true:=by
 rw[Jj,filtI_mem];constructor
 .rintro ⟨h1,h2,h3⟩;have e:(i.toNat:Int)=i:=by omega
  rw[Yg,e,zG]at h3;exact⟨⟨h1,by omega⟩,h3⟩
 .rintro ⟨⟨h1,h2⟩,h3,h4⟩;have e:(i.toNat:Int)=i:=by omega
  refine⟨h1,by omega,?_⟩;rw[Yg,e,h3,h4];rfl
def takenA_iff{n:Net}{a:Int}:Hp n a=true↔∃i,∃h:i<n.irbs.length,n.irbs[i].addr=a:=by
 rw[Hp,Iz,wJ];constructor
 .rintro ⟨x,hx,hxa⟩;obtain ⟨i,hi,rfl⟩:=wU hx;exact⟨i,hi,kS hxa⟩
 .rintro ⟨i,hi,he⟩;exact⟨_,zI hi,kS he⟩
def Og(n:Net)(irb to a:Int):Bool:=(lookT n irb a).2&&(lookT n irb a).1==to&&!Hp n a
def leadsB_iff{n:Net}{irb to a:Int}:Og n irb to a=true↔(lookT n irb a).2=true/\(lookT n irb a).1=to/\Hp n a=false:=by
 simp[Og,and_assoc]
def Az2(n:Net)(to:Int)(j:Nat):List Int:=[D9 (nth n.irbs to).addr (nth n.irbs to).bits]++(n.irbs.take j).flatMap λx=>[x.addr+1,H4 x.addr x.bits+1]
def Abn(n:Net)(to:Int):List Int:=Az2 n to n.irbs.length
def Arj{n:Net}{to:Int}{i:Nat}(h:i<n.irbs.length):n.irbs[i].addr+1∈Abn n to/\H4 n.irbs[i].addr n.irbs[i].bits+1∈Abn n to:=by
 rw[Abn,Az2,yM];constructor
 .exact uF _ (List.mem_flatMap.2 ⟨_,zI h,by simp⟩)
 .exact uF _ (List.mem_flatMap.2 ⟨_,zI h,by simp⟩)
def Alz{n:Net}(hu:C7 n)(hb:Ac n=true){irb to:Int}(ed:InIrbs n to):∀x,x∈Abn n to->D9 (nth n.irbs to).addr (nth n.irbs to).bits<=x ->
  (∀a,D9 (nth n.irbs to).addr (nth n.irbs to).bits<=a->a<x->Og n irb to a=false) ->
  ((addrGo n irb to (H4 (nth n.irbs to).addr (nth n.irbs to).bits) x).2=true/\(addrGo n irb to (H4 (nth n.irbs to).addr (nth n.irbs to).bits) x).1∈Abn n to /\
    Og n irb to (addrGo n irb to (H4 (nth n.irbs to).addr (nth n.irbs to).bits) x).1=true /\
    ∀ a,D9 (nth n.irbs to).addr (nth n.irbs to).bits<=a->a<(addrGo n irb to (H4 (nth n.irbs to).addr (nth n.irbs to).bits) x).1->Og n irb to a=false) \/
   (addrGo n irb to (H4 (nth n.irbs to).addr (nth n.irbs to).bits) x)=(0,false)/\∀a,D9 (nth n.irbs to).addr (nth n.irbs to).bits<=a->a<=H4 (nth n.irbs to).addr (nth n.irbs to).bits->Og n irb to a=false:=by
 have me:nth n.irbs to=n.irbs[to.toNat]'ed.2:=Ag ed.2;have hut:=hu _ (zI ed.2);have hbt:=(Dg hb ed.2).2.2;rw[me];have hf:=dI _ (n.irbs[to.toNat]'ed.2).bits hut;have hl:=Sl _ (n.irbs[to.toNat]'ed.2).bits hut;have hht:∀a,0<=a/\a<4294967296->(Acu (nth n.irbs to).addr (nth n.irbs to).bits a=true↔D9 (n.irbs[to.toNat]'ed.2).addr (n.irbs[to.toNat]'ed.2).bits<=a/\a<=H4 (n.irbs[to.toNat]'ed.2).addr (n.irbs[to.toNat]'ed.2).bits):=λa ha=>by
  rw[me];exact Vu _ _ _ hbt hut ha
 generalize D9 (n.irbs[to.toNat]'ed.2).addr (n.irbs[to.toNat]'ed.2).bits=f at *;generalize H4 (n.irbs[to.toNat]'ed.2).addr (n.irbs[to.toNat]'ed.2).bits=e at *;have tc:∀a b,f<=a->a<=e->f<=b->b<=e->Og n irb to a=true->to∈Jj n irb b:=λa b td xi d6 dx h=>by
  obtain ⟨h1,h2,_⟩:=leadsB_iff.1 h;have h3:=(Lf h1).1;rw[h2]at h3;have h4:=mem_ways.1 h3;exact mem_ways.2 ⟨h4.1,(hht b z_).2 ⟨d6,dx⟩,h4.2.2⟩
 intro x
 induction x using addrGo.induct n irb to e with
 |case1 x h1 h2=>
  intro hc oz cu;rw[addrGo,zE h1,zE h2];exact .inl ⟨E,hc,leadsB_iff.2 h2,cu⟩
 |case2 x h1 h2 h3=>
  intro hc oz cu;rw[addrGo,zE h1,zD h2,zE h3];refine .inr ⟨E,λa td xi=>?_⟩;cases gr:Og n irb to a
  .rfl
  have hw:=tc a x td xi oz h1 gr;rcases Ayl h3.1 with ⟨i,hi,ht⟩|h
  .rw[Mv,Ag (l:=n.irbs) (i:=(i:Int)) (kS hi),zG]at ht;have:Hp n x=true:=takenA_iff.2 ⟨i,hi,kS ht.2⟩;rw[h3.2]at this;cases this
  .rw[h]at hw;cases hw
 |case3 x h1 h2 h3 h4 ih=>
  intro hc oz cu;rw[addrGo,zE h1,zD h2,zD h3,zE h4];rw[pastI]at h4 ih|-;cases ht:Hp n x
  .rw[ht]at h2 h3 h4 ih;rw[zD qq]at h4 ih|-;have gd:(lookT n irb x).2=true:=by cases h:(lookT n irb x).2 with|true=>rfl|false=>exact zX ⟨h,rfl⟩ h3
   have ag:(lookT n irb x).1≠to:=λh=>h2 ⟨gd,h,rfl⟩
   have wz:=Lf gd;have iu:=mem_ways.1 wz.1;have nf:=hu _ (zI iu.1.2);have j4:=(Dg hb iu.1.2).2.2;have tp:nth n.irbs (lookT n irb x).1=n.irbs[(lookT n irb x).1.toNat]'iu.1.2:=Ag iu.1.2;refine ih ?_ z_ (λa td xi=>?_)
   .rw[tp];exact(Arj iu.1.2).2
   .rcases Int.lt_or_le a x with y5|y5
    .exact cu a td y5
    cases gr:Og n irb to a
    .rfl
    have xj:=leadsB_iff.1 gr;have hma:=Lf xj.1;rw[xj.2.1]at hma;have py:=mem_ways.1 hma.1;rw[tp]at xi iu;have hr:=Sl _ (n.irbs[(lookT n irb x).1.toNat]'iu.1.2).bits nf;have ha:0<=a/\a<4294967296:=by omega
    have vh:=((hht a ha).1 py.2.1).2;have hx:=(Vu _ _ _ j4 nf (by omega:0<=x/\x<4294967296)).1 iu.2.1;have hla2:(lookT n irb x).1∈Jj n irb a:=mem_ways.2 ⟨iu.1,by rw[tp];exact(Vu _ _ _ j4 nf ha).2 ⟨by omega,by omega⟩,iu.2.2⟩;have k1:=wz.2 to (tc a x td vh oz h1 gr);have k2:=hma.2 _ hla2;exact zX z_ ag
  .rw[ht]at h4 ih;rw[zE rfl]at h4 ih|-;obtain ⟨i,hi,he⟩:=takenA_iff.1 ht;refine ih (by rw[<-he];exact(Arj hi).1) z_ (λa td xi=>?_);rcases Int.lt_or_le a x with y5|y5
   .exact cu a td y5
   .have:a=x:=by omega
    subst this;simp[Og,ht]
 |case4 x h1 h2 h3 h4=>
  intro hc oz cu;refine zX (Ajb hu hb (irb:=irb) (a:=x) z_ (λht=>?_)).1 h4;cases h:(lookT n irb x).2 with
  |true=>rfl
  |false=>exact zX ⟨h,ht⟩ h3
 |case5 x h1=>
  intro hc oz cu;rw[addrGo,zD h1];exact .inr ⟨E,λa td xi=>cu a td z_⟩
attribute [local irreducible]G DR
set_option maxRecDepth 20000
def Auv{n:Net}(h:Ac n=true){i:Nat}(hi:i<n.domains.length):n.domains[i].irb=-1\/InIrbs n n.domains[i].irb:=by
 have:=Azt h hi;simp only[Ov,Af,zG,yQ,yJ,zJ]at this;rcases this.1.2 with h1|h1
 .exact .inl h1
 .exact .inr ⟨h1.1.1,by omega⟩
structure WayD where
 (hops:List Hop) (routed:Bool)
instance:Inhabited WayD:=⟨⟨[],false⟩⟩
end
def Yr{k:Type}[Inhabited k]{l m:List k}{i:Int}(h:i.toNat<l.length):nth (l++m) i=nth l i:=by
 rw[nth,nth,xQ h]
def Ub{l m:List Fnd}(hB:Backs l):∀(k:Nat) (i:Int),i<k->i<l.length->backC (l++m) i=backC l i:=by
 intro k
 induction k with
 |zero=>
  intro i hi hl;rw[backC,dif_neg (λh=>by omega),backC,dif_neg (λh=>by omega)]
 |succ k ih=>
  intro i hi hl;by_cases h0:0<=i
  .have hk:i.toNat<l.length:=by omega
   have hb:=hB i.toNat hk;rw[backC,Yr hk,backC.eq_1 l i,Ag hk,dif_pos ⟨h0,by omega⟩,dif_pos ⟨h0,by omega⟩];rw[ih _ z_ z_]
  .rw[backC,dif_neg (λh=>h0 h.1),backC,dif_neg (λh=>h0 h.1)]
def Mu{l m:List Fnd}(hB:Backs l){i:Int}(h:i<l.length):backT (l++m) i=backT l i:=by
 rw[backT,backT,Ub hB (i+1).toNat i z_ h]
def Abr{l:List Fnd}(hB:Backs l){f:Fnd}(hf:-1<=f.ahead/\f.ahead<l.length):backT (l++[f]) l.length=backT l f.ahead++[f.hop]:=by
 have e:nth (l++[f]) (l.length:Int)=f:=by
  rw[Ag (l:=l++[f]) (i:=(l.length:Int)) qq];simp
 rw[backT,backC,e,dif_pos ⟨by omega,by omega⟩,List.reverse_cons,Ub hB (f.ahead+1).toNat _ z_ z_];rfl
def Ap3(l:List Fnd):backT l (-1)=[]:=by
 rw[backT,backC,dif_neg (λh=>by omega)];rfl
structure Met(n:Net)(S:Srch):Prop where
 ok:S.OK n
 bk:Backs S.list
 dom:∀f∈S.list,f.hop.domain=f.domain
 m:∀d:Int,0<=d/\d.toNat<n.domains.length->∀k:Int,(k=0\/k=1)->(Tq S d k=true↔∃f∈S.list,f.domain=d/\f.kind=k)
def Ajm{l:List Bool}{a b:Nat}(hb:b<l.length):(l.set a true)[b]? = if a=b then some true else l[b]?:=by
 rw[uL];split
 .rename_i h;subst h;simp[hb]
 .rfl
def Aof{n:Net}{S:Srch}(hS:S.OK n){d k:Int}(hd:0<=d/\d.toNat<n.domains.length)(hk:k=0\/k=1)(h:Hop)(a:Int)(d2 k2:Int)(jc:0<=d2/\d2.toNat<n.domains.length)(dw:k2=0\/k2=1):Tq (Od S d k h a) d2 k2=true↔Tq S d2 k2=true\/(d2=d/\k2=k):=by
 have h0:d2.toNat<S.m0.length:=by rw[hS.l0];exact jc.2
 have h1:d2.toNat<S.m1.length:=by rw[hS.l1];exact jc.2
 have e:(d.toNat=d2.toNat)↔d2=d:=by omega
 rcases hk with rfl|rfl<;>rcases dw with rfl|rfl
 .rw[Od,zE rfl,Tq,zE rfl,Tq,zE rfl,nth,nth,Ajm h0];by_cases h:d2=d
  .rw[zE (e.2 h)];simp[h]
  .rw[zD (λx=>h (e.1 x))];simp[h]
 .rw[Od,zE rfl,Tq,zD y_,Tq,zD y_];simp
 .rw[Od,zD y_,Tq,zE rfl,Tq,zE rfl];simp
 .rw[Od,zD y_,Tq,zD y_,Tq,zD y_,nth,nth,Ajm h1];by_cases h:d2=d
  .rw[zE (e.2 h)];simp[h]
  .rw[zD (λx=>h (e.1 x))];simp[h]
def Ys(S:Srch)(d k:Int)(h:Hop)(a:Int):(Od S d k h a).list=S.list++[⟨d,k,h,a⟩]:=by
 rw[Od];split<;>rfl
theorem Met.meet{n:Net}{S:Srch}(hS:Met n S){d k:Int}(hd:0<=d/\d.toNat<n.domains.length)(hk:k=0\/k=1){h:Hop}(hh:h.domain=d){a:Int}(ha:-1<=a/\a<S.list.length):Met n (meetT S d k h a) where
 ok:=hS.ok.meet hd hk h a
 bk:=(hS.bk.meet d k h ha).1
 dom:=by
  rw[meetT];split
  .exact hS.dom
  .rw[Ys];intro f hf;rcases yI.1 hf with h1|h1
   .exact hS.dom f h1
   .rw[zZ.1 h1];exact hh
 m:=by
  rw[meetT];split
  .exact hS.m
  .intro d2 jc k2 dw;rw[Aof hS.ok hd hk h a d2 k2 jc dw,hS.m d2 jc k2 dw,Ys];constructor
   .rintro (⟨f,hf,h1⟩|⟨rfl,rfl⟩)
    .exact⟨f,tZ _ hf,h1⟩
    .exact⟨_,uF _ (zZ.2 E),E,E⟩
   .rintro ⟨f,hf,h1,h2⟩;rcases yI.1 hf with h3|h3
    .exact .inl ⟨f,h3,h1,h2⟩
    .rw[zZ.1 h3]at h1 h2;exact .inr ⟨h1.symm,h2.symm⟩
def Az9(a b:ByteArray):(a==b)=true↔a=b:=by
 cases a;cases b;rename_i x y;show (x==y)=true↔_;rw[yJ];simp
def A17{k:Type}{p:k->Bool}{l:List k}{i:Int}(h:Bs p l=i)(h0:0<=i):∃hi:i.toNat<l.length,p l[i.toNat]=true:=by
 unfold Bs at h;split at h
 .rename_i j hj;rw[wD]at hj;obtain ⟨h1,h2,_⟩:=hj;subst h;exact⟨kS h1,kS h2⟩
 .omega
end Go.Sy.Zaa
