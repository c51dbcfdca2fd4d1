/- Parts of a proof. -/
import Derived.Test.YticmobkdaneelaaGreatDoorYE22
set_option linter.all false
set_option linter.unusedVariables false
set_option linter.unusedSimpArgs false
set_option linter.deprecated false
namespace Go.Sy.YticmobkdaneelaaGreatDoor
def Le2(r c r' c':Int):Prop:=r<r'∨(r=r'∧c≤c')
def Ayk{x y:Item}(h:Ck y x=false):Le2 x.root x.cost y.root y.cost:=by
 simp only[Ck,xY,zX,yQ,zR]at h;unfold Le2;omega
def Ayj{a b c d e f:Int}(h1:Le2 a b c d)(h2:Le2 c d e f):Le2 a b e f:=by
 unfold Le2 at *;omega
def Aoy{a b c d m:Int}(h1:Le2 a b c d)(hm:0≤m):Le2 a b c (d+m):=by
 unfold Le2 at *;omega
def Ah8(n:Net)(up:List Bool)(i j:Nat):Prop:=i<n.ports.length∧Er n up i=j
def U4{n:Net}{up:List Bool}(hr:Ac n=true){i j:Nat}(h:Ah8 n up i j):j<n.ports.length:=by
 have:=Agb (up:=up) hr h.1 (by rw[h.2];omega);rw[h.2]at this;omega
def Ajb{n:Net}{up:List Bool}(hr:Ac n=true){i j:Nat}(h:Ah8 n up i j):∃k:Nat,k<n.links.length∧(nth n.ports i).link=k∧(nth n.ports j).link=k∧up.getD k false=true∧(((nth n.links k).a=i∧(nth n.links k).b=j)∨((nth n.links k).a=j∧(nth n.links k).b=i))∧Ij n i≠Ij n j:=by
 have hj:=U4 hr h;obtain ⟨hi,hf⟩:=h;have hp:=Sm hr hi;have bh:=V0 hr hi;simp only[Jd,zE,yM,yJ]at hp;have hp:=hp.2;have e:nth n.ports i=n.ports[i]:=Ai (l:=n.ports) (i:=(i:Int)) (by simpa using hi);unfold Er at hf;rw[Bo hi]at hf;simp only at hf;split at hf
 ·omega
 ·rename_i hc;simp only[yM,zJ,uC,yU,Bool.not_eq_false]at hc;rcases hp with hp|hp
  ·omega
  ·have hl:n.ports[i].link.toNat<n.links.length:=by omega
   have ak:=Aev hr hl;have he:=Qw hr hl;have ek:((n.ports[i].link.toNat:Nat):Int)=n.ports[i].link:=by omega
   refine⟨n.ports[i].link.toNat,hl,by rw[e];omega,?_⟩;simp only[Tp,zE,yJ,xG]at ak;obtain ⟨⟨⟨_,ag⟩,h1⟩,h2⟩:=ak;rw[ek];rw[Ai (l:=n.links) (i:=n.ports[i].link) q_]at hf hp⊢;generalize n.links[n.ports[i].link.toNat]=l at *;rcases hp.2 with ha|hb
   ·have hb:l.b=j:=by omega
    rw[ha,hb]at ag;rw[hb]at h2;exact⟨by omega,by simpa using hc.2,.inl ⟨ha,hb⟩,ag⟩
   ·have ha:l.a=j:=by omega
    rw[ha,hb]at ag;rw[ha]at h1;exact⟨by omega,by simpa using hc.2,.inr ⟨ha,hb⟩,λh=>ag h.symm⟩
def Apd{n:Net}{up:List Bool}(hr:Ac n=true){i j:Nat}(h:Ah8 n up i j):Ah8 n up j i:=by
 have hj:=U4 hr h;obtain ⟨k,hk,_,h2,h3,h4,_⟩:=Ajb hr h;refine⟨hj,?_⟩;unfold Er;have e:n.ports.getD j default=nth n.ports j:=rfl;rw[e];simp only[h2,zU,h3];rw[zD y_];omega
def V2{n:Net}(hr:Ac n=true){i:Nat}(hi:i<n.ports.length):0≤Ij n i∧Ij n i<n.devices.length:=by
 rw[Ij,Ai (l:=n.ports) (i:=(i:Int)) (by simpa using hi)];exact Ur hr hi
def Der(n:Net)(up:List Bool)(K R C:Int→Int)(r c d:Int):Prop :=
 (r=K d∧c=0)∨∃i j:Nat,Ah8 n up i j∧Ij n i=d∧0≤R (Ij n j)∧r=R (Ij n j)∧c=C (Ij n j)+Za n i
structure Dij(n:Net)(up:List Bool)(K:Int→Int)(q:List Item)(R C:Int→Int):Prop where
 heap:Of q q.length
 items:∀x∈q,Der n up K R C x.root x.cost x.dev
 done:∀d:Int,0≤d→d<n.devices.length→0≤R d→Der n up K R C (R d) (C d) d
 own:∀d:Int,0≤d→d<n.devices.length→R d<0→⟨K d,0,d⟩∈q
 push:∀i j:Nat,Ah8 n up i j→R (Ij n i)<0→0≤R (Ij n j)→⟨R (Ij n j),C (Ij n j)+Za n i,Ij n i⟩∈q
 low:∀d:Int,0≤d→d<n.devices.length→0≤R d→∀x∈q,Le2 (R d) (C d) x.root x.cost
 self:∀d:Int,0≤d→d<n.devices.length→0≤R d→Le2 (R d) (C d) (K d) 0
 tri:∀i j:Nat,Ah8 n up i j→0≤R (Ij n i)→0≤R (Ij n j)→Le2 (R (Ij n i)) (C (Ij n i)) (R (Ij n j)) (C (Ij n j)+Za n i)
def Aey(n:Net)(up:List Bool)(x:Item)(q:List Item)(y:Item):∀m,y∈(List.range m).foldl (Ei n up x) q↔y∈q∨∃i,i<m∧Ij n i=x.dev∧0≤Er n up i∧y=⟨x.root,x.cost+(nth n.ports (Er n up i)).cost,(nth n.ports (Er n up i)).dev⟩
 |0=>by simp
 |m+1=>by
  rw[wV,xO];simp only[vF,tI];rw[Ei];have ih:=Aey n up x q y m;have e:(n.ports.getD m default).dev=Ij n m:=rfl;rw[e];split
  ·rename_i h;rw[(Sr _ _).mem_iff,yH,ih];constructor
   ·rintro (h1|h1|⟨i,h1,h2⟩)
    ·exact .inr ⟨m,by omega,h.1,h.2,h1⟩
    ·exact .inl h1
    ·exact .inr ⟨i,by omega,h2⟩
   ·rintro (h1|⟨i,h1,h2,h3,h4⟩)
    ·exact .inr (.inl h1)
    ·by_cases hm:i=m
     ·subst hm;exact .inl h4
     ·exact .inr (.inr ⟨i,by omega,h2,h3,h4⟩)
  ·rename_i h;rw[ih];constructor
   ·rintro (h1|⟨i,h1,h2⟩)
    ·exact .inl h1
    ·exact .inr ⟨i,by omega,h2⟩
   ·rintro (h1|⟨i,h1,h2,h3,h4⟩)
    ·exact .inl h1
    ·by_cases hm:i=m
     ·subst hm;exact zY ⟨h2,h3⟩ h
     ·exact .inr ⟨i,by omega,h2,h3,h4⟩
def Ab7(n:Net)(up:List Bool)(x:Item)(q:List Item)(h:Of q q.length):∀m,Of ((List.range m).foldl (Ei n up x) q) ((List.range m).foldl (Ei n up x) q).length
 |0=>h
 |m+1=>by
  rw[wV,xO];simp only[vF,tI];have ih:=Ab7 n up x q h m;rw[Ei];split
  ·exact Ae3 _ _ ih
  ·exact ih
def Agl{n:Net}{up:List Bool}{K R C R' C':Int→Int}{r c d:Int}(h:Der n up K R C r c d)(hs:∀e,0≤R e→R' e=R e∧C' e=C e):Der n up K R' C' r c d:=by
 rcases h with h|⟨i,j,h1,h2,h3,h4,h5⟩
 ·exact .inl h
 ·obtain ⟨e1,e2⟩:=hs _ h3;exact .inr ⟨i,j,h1,h2,by rw[e1];exact h3,by rw[e1];exact h4,by rw[e2];exact h5⟩
def A3w{n:Net}{up:List Bool}{K R C:Int→Int}{q q':List Item}{x:Item}(h:Dij n up K q R C)(hp:(x::q').Perm q)(hh:Of q' q'.length)(hx:0≤R x.dev):Dij n up K q' R C:=by
 have hm:∀y,y∈q↔y=x∨y∈q':=λy=>by rw[←hp.mem_iff,yH]
 refine⟨hh,λy hy=>h.items y ((hm y).2 (.inr hy)),h.done,λd h0 h1 h2=>?_,λi j br h1 h2=>?_,λd h0 h1 h2 y hy=>h.low d h0 h1 h2 y ((hm y).2 (.inr hy)),h.self,h.tri⟩
 ·rcases (hm _).1 (h.own d h0 h1 h2) with e|e
  ·rw[←e]at hx;simp only at hx;omega
  ·exact e
 ·rcases (hm _).1 (h.push i j br h1 h2) with e|e
  ·rw[←e]at hx;simp only at hx;omega
  ·exact e
def A3v{n:Net}{up:List Bool}{K R C R' C':Int→Int}{q q':List Item}{x:Item}(hr:Ac n=true)(aj:Dk n=true)(h:Dij n up K q R C)(hp:(x::q').Perm q)(hh:Of q' q'.length)(hmin:∀y∈q,Ck y x=false)(hx:R x.dev<0)(iw:0≤x.root)(_hxd:0≤x.dev∧x.dev<n.devices.length)(hR:∀e,R' e=if e=x.dev then x.root else R e)(hC:∀e,C' e=if e=x.dev then x.cost else C e):Dij n up K ((List.range n.ports.length).foldl (Ei n up x) q') R' C':=by
 have hm:∀y,y∈q↔y=x∨y∈q':=λy=>by rw[←hp.mem_iff,yH]
 have hn:=λy=>Aey n up x q' y n.ports.length
 have hs:∀e,0≤R e→R' e=R e∧C' e=C e:=λe he=>by
  have:e≠x.dev:=λh=>by rw[h]at he;omega
  rw[hR,hC,zD this,zD this];exact⟨E,E⟩
 have p7:R' x.dev=x.root:=by rw[hR,zG rfl]
 have uh:C' x.dev=x.cost:=by rw[hC,zG rfl]
 have hxq:x∈q:=(hm x).2 (.inl rfl);have hle:∀y∈q,Le2 x.root x.cost y.root y.cost:=λy hy=>Ayk (hmin y hy)
 have a6:∀y,y∈(List.range n.ports.length).foldl (Ei n up x) q'↔y∈q'∨∃i j:Nat,Ah8 n up i j∧Ij n i=x.dev∧y=⟨x.root,x.cost+Za n j,Ij n j⟩:=λy=>by
  rw[hn y];constructor
  ·rintro (h1|⟨i,h1,h2,h3,h4⟩)
   ·exact .inl h1
   ·obtain ⟨j,hj⟩:∃j:Nat,Er n up i=j:=⟨(Er n up i).toNat,by omega⟩
    rw[hj]at h4;exact .inr ⟨i,j,⟨h1,hj⟩,h2,h4⟩
  ·rintro (h1|⟨i,j,h1,h2,h3⟩)
   ·exact .inl h1
   ·refine .inr ⟨i,h1.1,h2,by rw[h1.2];omega,?_⟩;rw[h1.2];exact h3
 refine⟨Ab7 n up x q' hh _,λy hy=>?_,λd h0 h1 h2=>?_,λd h0 h1 h2=>?_,λi j br h1 h2=>?_,λd h0 h1 h2 y hy=>?_,λd h0 h1 h2=>?_,λi j br h1 h2=>?_⟩
 ·rcases (a6 y).1 hy with hy|⟨i,j,h1,h2,rfl⟩
  ·exact Agl (h.items y ((hm y).2 (.inr hy))) hs
  ·exact .inr ⟨j,i,Apd hr h1,E,by rw[h2,p7];exact iw,by rw[h2,p7],by rw[h2,uh]⟩
 ·by_cases hd:d=x.dev
  ·subst hd;rw[p7,uh];exact Agl (h.items x hxq) hs
  ·rw[hR,zD hd]at h2;obtain ⟨e1,e2⟩:=hs d h2;rw[e1,e2];exact Agl (h.done d h0 h1 h2) hs
 ·have hd:d≠x.dev:=λe=>by rw[e,p7]at h2;omega
  rw[hR,zD hd]at h2;refine(a6 _).2 (.inl ?_);rcases (hm _).1 (h.own d h0 h1 h2) with e|e
  ·exact zY (zH Item.dev e) hd
  ·exact e
 ·have hd:Ij n i≠x.dev:=λe=>by rw[e,p7]at h1;omega
  rw[hR,zD hd]at h1;by_cases hj:Ij n j=x.dev
  ·rw[hj,p7,uh];exact(a6 _).2 (.inr ⟨j,i,Apd hr br,hj,E⟩)
  ·rw[hR,zD hj]at h2;obtain ⟨e1,e2⟩:=hs _ h2;rw[e1,e2];refine(a6 _).2 (.inl ?_);rcases (hm _).1 (h.push i j br h1 h2) with e|e
   ·exact zY (zH Item.dev e) hd
   ·exact e
 ·have hdx:Le2 (R' d) (C' d) x.root x.cost:=by
   by_cases hd:d=x.dev
   ·subst hd;rw[p7,uh];exact .inr ⟨rfl,xU _⟩
   ·rw[hR,zD hd]at h2;obtain ⟨e1,e2⟩:=hs d h2;rw[e1,e2];exact h.low d h0 h1 h2 x hxq
  rcases (a6 y).1 hy with hy|⟨i,j,h3,_,rfl⟩
  ·exact Ayj hdx (hle y ((hm y).2 (.inr hy)))
  ·exact Aoy hdx (by have:=Anv aj (U4 hr h3);omega)
 ·by_cases hd:d=x.dev
  ·subst hd;rw[p7,uh];exact hle _ (h.own _ h0 h1 hx)
  ·rw[hR,zD hd]at h2;obtain ⟨e1,e2⟩:=hs d h2;rw[e1,e2];exact h.self d h0 h1 h2
 ·have hj:=U4 hr br;have zd:=Anv aj br.1;have ag:=(Ajb hr br).choose_spec.2.2.2.2.2;by_cases hd:Ij n i=x.dev
  ·rw[hd,p7,uh];have th:Ij n j≠x.dev:=λe=>ag (by rw[hd,e])
   rw[hR,zD th]at h2;obtain ⟨e1,e2⟩:=hs _ h2;rw[e1,e2];exact hle _ (h.push i j br (by rw[hd];exact hx) h2)
  ·rw[hR,zD hd]at h1;obtain ⟨e1,e2⟩:=hs _ h1;rw[e1,e2];by_cases th:Ij n j=x.dev
   ·rw[th,p7,uh];have ga:=V2 hr br.1;exact Aoy (h.low _ ga.1 ga.2 h1 x hxq) q_
   ·rw[hR,zD th]at h2;obtain ⟨e3,e4⟩:=hs _ h2;rw[e3,e4];exact h.tri i j br h1 h2
def atI(l:List Int)(e:Int):Int:=if e<0 then -1 else nth l e
def Od{l:List Int}{e:Int}(h:0≤e):atI l e=nth l e:=by rw[atI,zD q_]
def Av4{l:List Int}{d v:Int}(h0:0≤d)(h1:d<l.length)(e:Int):atI (l.set d.toNat v) e=if e=d then v else atI l e:=by
 by_cases he:e<0
 ·rw[atI,zG he,zD q_,atI,zG he]
 ·rw[atI,zD he,atI,zD he,nth,nth,tV];by_cases hd:e=d
  ·subst hd;rw[zG rfl,zG rfl,zG q_];rfl
  ·rw[zD q_,zD hd]
structure DijS(n:Net)(up:List Bool)(ranks:List Int)(s:List Item×List Int×List Int):Prop where
 inv:ReachInv n s
 dij:Dij n up (atI ranks) s.1 (atI s.2.1) (atI s.2.2)
 bound:∀c∈s.2.2,0≤c∧c≤1000000
def Ar6(n:Net)(up:List Bool)(ranks:List Int)(hr:Ac n=true)(aj:Dk n=true)(s:List Item×List Int×List Int)(hI:DijS n up ranks s)(ag:s.1≠[]):DijS n up ranks (Sn n up s):=by
 have hf:=H7 hr;have h1:=(Mu n up hr aj s hI.inv ag).1;have da:=A1a s.1 ag;have lq:=A1b s.1 ag hI.dij.heap;have ui:=Axl s.1 hI.dij.heap;have hx:=hI.inv.items _ (da.mem_iff.1 (List.mem_cons_self ..));have vv:=hI.inv.rootsL;have j5:=hI.inv.costsL;have hd:=hI.dij;have hb:=hI.bound;rw[Sn,Afn ag,Anr s.1 ag]at *;generalize s.1.getD 0 default=x at *;try simp only at *
 have ea:nth s.2.1 x.dev=atI s.2.1 x.dev:=(Od hx.1).symm;rw[ea];rw[ea]at h1;split
 ·rename_i hc;rw[zG hc]at h1;exact⟨h1,A3w hd da lq hc,hb⟩
 ·rename_i hc;rw[zD hc]at h1;refine⟨h1,A3v hr aj hd da lq ui q_ hx.2.2.1 ⟨hx.1,hx.2.1⟩ (Av4 hx.1 q_) (Av4 hx.1 q_),λc hc=>?_⟩;rcases uW hc with h|h
  ·exact hb c h
  ·omega
def Ae1(n:Net)(up:List Bool)(ranks:List Int)(hr:Ac n=true)(aj:Dk n=true):∀(f:Nat) (s:List Item×List Int×List Int),DijS n up ranks s→reachM s≤f→DijS n up ranks (I6 n up f s)∧(I6 n up f s).1=[]
 |0,s,h,hf=>⟨h,zZ (by unfold reachM at hf;rw[I6];omega)⟩
 |f+1,s,h,hf=>by
  rw[I6];split
  ·rename_i he;exact⟨h,he⟩
  ·rename_i ag;exact Ae1 n up ranks hr aj f _ (Ar6 n up ranks hr aj s h ag) (by have:=(Mu n up hr aj s h.inv ag).2;omega)
structure Solved(n:Net)(up:List Bool)(ranks roots costs:List Int):Prop where
 rootsL:roots.length=n.devices.length
 costsL:costs.length=n.devices.length
 bound:∀c∈costs,0≤c∧c≤1000000
 root:∀d:Int,0≤d→d<n.devices.length→0≤nth roots d
 self:∀d:Int,0≤d→d<n.devices.length→Le2 (nth roots d) (nth costs d) (nth ranks d) 0
 tri:∀i j:Nat,Ah8 n up i j→Le2 (nth roots (Ij n i)) (nth costs (Ij n i)) (nth roots (Ij n j)) (nth costs (Ij n j)+Za n i)
 der:∀d:Int,0≤d→d<n.devices.length→(nth roots d=nth ranks d∧nth costs d=0)∨∃i j:Nat,Ah8 n up i j∧Ij n i=d∧nth roots d=nth roots (Ij n j)∧nth costs d=nth costs (Ij n j)+Za n i
def Awy(n:Net)(up:List Bool)(ranks:List Int)(hr:Ac n=true)(s:List Item×List Int×List Int)(h:DijS n up ranks s)(he:s.1=[]):Solved n up ranks s.2.1 s.2.2:=by
 have hd:=h.dij;rw[he]at hd;have h0:∀d:Int,0≤d→d<n.devices.length→0≤atI s.2.1 d:=λd h1 h2=>by
  by_cases hc:0≤atI s.2.1 d
  ·exact hc
  ·have:=hd.own d h1 h2 q_;simp at this
 refine⟨h.inv.rootsL,h.inv.costsL,h.bound,λd h1 h2=>?_,λd h1 h2=>?_,λi j br=>?_,λd h1 h2=>?_⟩
 ·have:=h0 d h1 h2;rwa [Od h1]at this
 ·have:=hd.self d h1 h2 (h0 d h1 h2);simpa only [Od h1] using this
 ·have hi:=V2 hr br.1;have hj:=V2 hr (U4 hr br);have:=hd.tri i j br (h0 _ hi.1 hi.2) (h0 _ hj.1 hj.2);simpa only [Od hi.1,Od hj.1] using this
 ·rcases hd.done d h1 h2 (h0 d h1 h2) with h3|⟨i,j,h3,h4,_,h5,h6⟩
  ·simp only[Od h1]at h3;exact .inl h3
  ·have hj:=V2 hr (U4 hr h3);simp only[Od h1,Od hj.1]at h5 h6;exact .inr ⟨i,j,h3,h4,h5,h6⟩
def Aau(ranks:List Int)(y:Item):∀j,y∈Hl ranks j↔∃i,i<j∧y=⟨ranks.getD i 0,0,i⟩
 |0=>by simp[Hl]
 |j+1=>by
  rw[Lm,(Sr _ _).mem_iff,yH,Aau ranks y j];constructor
  ·rintro (h|⟨i,h1,h2⟩)
   ·exact⟨j,by omega,h⟩
   ·exact⟨i,by omega,h2⟩
  ·rintro ⟨i,h1,h2⟩;by_cases h:i=j
   ·subst h;exact .inl h2
   ·exact .inr ⟨i,by omega,h2⟩
def Aej(ranks:List Int):∀j,Of (Hl ranks j) (Hl ranks j).length
 |0=>λc _ h2 _=>by simp[Hl]at h2
 |j+1=>by
  rw[Lm];exact Ae3 _ _ (Aej ranks j)
def Ahk{v:Int}{m:Nat}{d:Int}(h1:d<m)(h0:0≤d):nth (List.replicate m v) d=v:=by
 rw[Ai (by simp;omega)];simp
def Awv(n:Net)(up:List Bool)(ranks:List Int)(hr:Ac n=true)(nf:ranks.length=n.devices.length)(oe:∀r∈ranks,0≤r):DijS n up ranks (Hl ranks ranks.length,List.replicate n.devices.length (-1),List.replicate n.devices.length 0):=by
 have js:∀d:Int,0≤d→d<n.devices.length→atI (List.replicate n.devices.length (-1)) d=-1:=λd h0 h1=>by rw[Od h0,Ahk h1 h0]
 refine⟨Aif n ranks _ _ hr nf y_ y_ oe,⟨Aej ranks _,λx hx=>?_,λd h0 h1 h2=>?_,λd h0 h1 h2=>?_,λi j br h1 h2=>?_,λd h0 h1 h2=>?_,λd h0 h1 h2=>?_,λi j br h1 h2=>?_⟩,λc hc=>?_⟩
 ·obtain ⟨i,h1,rfl⟩:=(Aau ranks x _).1 hx;refine .inl ⟨?_,E⟩;simp only;rw[Od q_,Ai (by simpa using h1),Bo h1];rfl
 ·rw[js d h0 h1]at h2;omega
 ·refine(Aau ranks _ _).2 ⟨d.toNat,by omega,?_⟩;rw[Od h0,Ai q_,Bo q_,xD h0]
 ·have hj:=V2 hr (U4 hr br);rw[js _ hj.1 hj.2]at h2;omega
 ·rw[js d h0 h1]at h2;omega
 ·rw[js d h0 h1]at h2;omega
 ·have hj:=V2 hr (U4 hr br);rw[js _ hj.1 hj.2]at h2;omega
 ·have:=List.eq_of_mem_replicate hc;omega
def Un(n:Net)(up:List Bool)(ranks:List Int):List Item×List Int×List Int:=L1 n up (Hl ranks ranks.length,List.replicate n.devices.length (-1),List.replicate n.devices.length 0)
def Ag9(n:Net)(up:List Bool)(ranks:List Int)(hr:Ac n=true)(aj:Dk n=true)(nf:ranks.length=n.devices.length)(oe:∀r∈ranks,0≤r):Solved n up ranks (Un n up ranks).2.1 (Un n up ranks).2.2:=by
 obtain ⟨h1,h2⟩:=Ae1 n up ranks hr aj _ _ (Awv n up ranks hr nf oe) (yG _);exact Awy n up ranks hr _ h1 h2
section
variable {n:Net} {up:List Bool} {ranks roots costs:List Int}
def rolesL(n:Net)(up:List Bool)(ranks roots costs:List Int):List Int:=O6 n up ranks roots costs n.devices.length
def A3g(aw:List Int)(l:Link):Bool:=inB [nth aw l.a,nth aw l.b] 1&&inB [nth aw l.a,nth aw l.b] 2
def fwdL(n:Net)(aw:List Int):List Bool:=n.links.map (A3g aw)
end
open Go.Proofs Go.Proofs.Tryz
def G_lit{C:Cx}{k:List KI}{s:SS}(d:Nat){sz:Nat}{α:Type}(e:α→SV)(l:List α){svs:List SV}(h:s.h d=.lit sz svs)(hl:l.map e=svs)(hg:G C k ⟨s.σ,upd s.h d (.row sz e l)⟩):G C k s:=λκ a w hs=>by
 refine hg κ a w ⟨hs.defers,hs.size,hs.inv,hs.ctx,hs.slot,λj=>?_⟩;show ObOK κ w j (upd s.h d (.row sz e l) j);by_cases hj:j=d
 ·subst hj;rw[B1];have cj:=hs.obj j;rw[h]at cj;have hlen:l.length=svs.length:=by rw[←hl,xF]
  obtain ⟨b,cap,cs,T,fr,e1,e2,e3,e4,e5,e6⟩:=cj;exact .inr ⟨b,cap,cs,T,fr,by rw[hlen];exact e1,e2,e3,e4,by omega,λi x hx=>by rw[hlen];exact e6 i x (Qm hl i x hx)⟩
 ·rw[Cp _ _ hj];exact hs.obj j
attribute [local irreducible] Go.Sy.G Go.Sy.DR
set_option maxRecDepth 100000
set_option maxHeartbeats 4000000
def Aez(n:Net)(up:List Bool)(x:Item)(q:List Item):∀i,((List.range i).foldl (Ei n up x) q).length≤q.length+i
 |0=>by simp
 |i+1=>by
  have:=Aez n up x q i;rw[wV,xO];simp only[vF,tI];rw[Ei];split
  ·rw[Mg];omega
  ·omega
def reachS(n:Net)(up:List Bool)(ranks roots costs:List Int)(hr:Ac n=true)(hu:up.length=n.links.length)(aj:Dk n=true)(nf:ranks.length=n.devices.length)(gm:roots.length=n.devices.length)(hc:costs.length=n.devices.length)(oe:∀r∈ranks,0≤r)(D:List Item×List Int×List Int)(hD:L1 n up (Hl ranks ranks.length,roots,costs)=D):Sq 141 [.ptr 0 0] (Aii n up ranks roots costs) (.tup []) (Aii n up ranks D.2.1 D.2.2):=cT F141 ntmps141 λF hF=>by
 have hf:=H7 hr
 conv=>whnf
 refine G_lit 10 B3 [] E E ?_;refine A5 ranks.length (λj=>[(0,.ptr 0 0),(2,.ptr 11 0),(15,.sl 1 Aa ranks),(16,Aa ranks.length),(17,Aa j)]) (λj=>[(0,.box (Wr n up ranks (.osl 1) (.osl 2))),(1,.row 1 Aa roots),(2,.row 1 Aa costs),(11,.box [.osl 12]),(12,.row 3 B3 (Hl ranks j))]) [(12,10)]
  kU ?_
 intro j hj;refine oO ?_;constructor<;>intro h
 ·have ab:j<ranks.length:=by simpa using h
  have e1:ranks[(j:Int).toNat]'q_=ranks[j]:=rfl;have jd:=Ajc (Hl ranks j) ⟨ranks.getD j 0,0,j⟩ (by rw[O5];omega);have af:=Lm ranks j;rw[Bo (show j<ranks.length by omega)]at jd af;refine oO ?_;refine⟨by omega,by omega,?_⟩
  conv=>whnf
  refine⟨by omega,?_⟩;rw[e1]
  conv=>whnf
  refine Af (Ad [(0,11),(1,12),(2,28)] E F206 jd E ⟨E,E,Y⟩ E ⟨.inl E,.inl E,.inr E,Y⟩) E E ?_;refine gF ?_;refine Ay [(12,28)] ab ⟨⟨E,E,E,E,E,E,E,E,E,E,Y⟩,⟨.inl E,E,.inl E,E,.inl E,E,.inl E,E,.inl (zH (Ob.row 3 B3) af),E,Y⟩,E,E⟩
 ·have cg:j=ranks.length:=by
   have:¬j<ranks.length:=by simpa using h
   omega
  subst cg;refine oO ?_;refine Vr (α:={s:List Item×List Int×List Int // ReachInv n s∧L1 n up s=D}) (λp=>[(0,.ptr 0 0),(2,.ptr 11 0)]) (λp=>[(0,.box (Wr n up ranks (.osl 1) (.osl 2))),(1,.row 1 Aa p.1.2.1),(2,.row 1 Aa p.1.2.2),(11,.box [.osl 12]),(12,.row 3 B3 p.1.1)]) (λp=>reachM p.1) ⟨(Hl ranks ranks.length,roots,costs),Aif n ranks roots costs hr nf gm hc oe,hD⟩ []
   kU ?_
  rintro ⟨⟨q,ro,co⟩,hI,ze⟩;have hlen:=Aaz q;have vu:=Ar5 n up (q,ro,co);have j9:=Ani n up hr aj (q,ro,co) hI;dsimp only at vu j9⊢;refine oO ?_;refine Af (Iu [12] E F207 hlen (.cons (.row E E) .nil) E E) E E ?_;refine oO ?_;constructor<;>intro h2
  ·have ag:q≠[]:=λe=>by subst e;simp at h2
   have ug:=A26 q ag (by have:=hI.few;simp only at this;omega);have hx:=hI.items _ ((V1 q ag).mem_iff.1 (List.getLast_mem (E4 ag)));have cn:Sn n up (q,ro,co)=if 0≤nth ro ((D9 q).getLast (E4 ag)).dev then ((D9 q).dropLast,ro,co) else ((List.range n.ports.length).foldl (Ei n up ((D9 q).getLast (E4 ag))) (D9 q).dropLast,ro.set ((D9 q).getLast (E4 ag)).dev.toNat ((D9 q).getLast (E4 ag)).root,co.set ((D9 q).getLast (E4 ag)).dev.toNat ((D9 q).getLast (E4 ag)).cost):=by
    rw[Sn,Afn ag]
   have jl:=Mu n up hr aj (q,ro,co) hI ag;have uj:=j9 ag;rw[ze]at uj;rw[cn]at jl uj;generalize (D9 q).getLast (E4 ag)=x at *;have hroL:=hI.rootsL;have hcoL:=hI.costsL;dsimp only at hroL hcoL;rw[Ai (l:=ro) (i:=x.dev) q_]at jl uj;refine oO ?_;refine Af (Ad [(0,11),(1,12),(2,38)] E F208 ug E ⟨E,E,Y⟩ E ⟨.inl E,.inl E,.inr E,Y⟩) E E ?_;refine oO ?_;refine Af (Acq Γ.toTy E E E E) E E ?_
   (refine rg ?_;(conv=>whnf);refine aF ?_;refine oD ?_)
   have hx1:=hx.1;have w5:=hx.2.1;refine⟨by omega,by omega,?_⟩
   conv=>whnf
   refine⟨E,by omega,?_⟩
   conv=>whnf
   refine kW ?_;constructor<;>intro h3
   ·have h30:0≤ro[x.dev.toNat]'q_:=zK h3;rw[zG h30]at jl uj;refine oO ?_;exact Xk (α:={s:List Item×List Int×List Int // ReachInv n s∧L1 n up s=D}) (L:=λp=>[(0,.ptr 0 0),(2,.ptr 11 0)]) (O:=λp=>[(0,.box (Wr n up ranks (.osl 1) (.osl 2))),(1,.row 1 Aa p.1.2.1),(2,.row 1 Aa p.1.2.2),(11,.box [.osl 12]),(12,.row 3 B3 p.1.1)]) (μ:=λp=>reachM p.1) (x:=⟨(q,ro,co),hI,ze⟩)
     ⟨((D9 q).dropLast,ro,co),jl.1,uj.symm⟩ [(12,38)] jl.2
     kU
   ·have h30:¬0≤ro[x.dev.toNat]'q_:=zQ h3;rw[zD h30]at jl uj;refine oO ?_;refine⟨by omega,by omega,?_⟩
    conv=>whnf
    refine⟨by omega,by omega,?_⟩
    conv=>whnf
    refine⟨x.root,E,E,?_⟩
    conv=>whnf
    refine⟨by omega,by omega,E,by omega,x.cost,E,E,?_⟩
    conv=>whnf
    refine kW ?_;generalize ro.set x.dev.toNat x.root=ro' at *;generalize co.set x.dev.toNat x.cost=co' at *;refine A5 n.ports.length (λj=>[(0,.ptr 0 0),(2,.ptr 11 0),(5,.ptr 5 0),(77,.sl 7 A4 n.ports),(78,Aa n.ports.length),(79,Aa j)]) (λj=>[(0,.box (Wr n up ranks (.osl 1) (.osl 2))),(1,.row 1 Aa ro'),(2,.row 1 Aa co'),(5,.box [Aa x.root,Aa x.cost,Aa x.dev]),(11,.box [.osl 12]),(12,.row 3 B3 ((List.range j).foldl (Ei n up x) (D9 q).dropLast))]) [(12,38)]
     kU ?_
    intro j hj;refine oO ?_;constructor<;>intro h4
    ·have ab:j<n.ports.length:=by simpa using h4
     have e1:n.ports[(j:Int).toNat]'q_=n.ports[j]:=rfl;have bq:=farR n up ranks ro' co' j hr hu ab;have hql:(D9 q).dropLast.length≤q.length:=by rw[tA,Hi];omega
     have hlenQ:=Aez n up x (D9 q).dropLast j;have m5:=hI.few;dsimp only at m5;have af:(List.range (j+1)).foldl (Ei n up x) (D9 q).dropLast=Ei n up x ((List.range j).foldl (Ei n up x) (D9 q).dropLast) j:=by
      rw[wV,xO];rfl
     generalize (List.range j).foldl (Ei n up x) (D9 q).dropLast=Q at *;rw[Ei,Bo ab]at af;refine oO ?_;refine⟨by omega,by omega,?_⟩
     conv=>whnf
     refine⟨by omega,?_⟩;rw[e1]
     conv=>whnf
     refine Af (Ad [] E F142 bq E ⟨E,E,E,Y⟩ E ⟨.inl E,.inl E,.inl E,Y⟩) E E ?_;refine oO ?_;constructor<;>intro h5
     ·refine oO ?_;constructor<;>intro h6
      ·have cm:0≤Er n up j:=zK h6;have fg:=Agb (up:=up) hr ab cm;rw[zG ⟨by simpa using h5,cm⟩,Ai (l:=n.ports) (i:=Er n up j) q_]at af;have zd:1≤(n.ports[(Er n up j).toNat]'q_).cost∧(n.ports[(Er n up j).toNat]'q_).cost≤65535:=by
        simp only[Dk,yU,wM]at aj;have:=aj _ (zI (show (Er n up j).toNat<n.ports.length by omega));simp only[I2,yM,zJ,uC]at this;omega
       have hxc:=hx.2.2.2;have jd:=Ajc Q ⟨x.root,x.cost+(n.ports[(Er n up j).toNat]'q_).cost,(n.ports[(Er n up j).toNat]'q_).dev⟩ q_;refine oO ?_;refine⟨E,cm,by omega,?_⟩
       conv=>whnf
       refine iW ?_;refine⟨E,cm,by omega,?_⟩
       conv=>whnf
       refine Bw (Ad [(0,11),(1,12),(2,123)] E F206 jd E ⟨E,E,Y⟩ E ⟨.inl E,.inl E,.inr E,Y⟩) z_ E ?_;refine gH ?_;refine iW ?_;refine Ay [(12,123)] ab ⟨⟨E,E,E,E,E,E,E,E,E,E,E,E,Y⟩,⟨.inl E,E,.inl E,E,.inl E,E,.inl E,E,.inl E,E,.inl (zH (Ob.row 3 B3) af),E,Y⟩,E,E⟩
      ·rw[zD (λhh=>(zQ h6) hh.2)]at af;refine gF ?_;refine Ay [] ab ⟨⟨E,E,E,E,E,E,E,E,E,E,E,E,Y⟩,⟨.inl E,E,.inl E,E,.inl E,E,.inl E,E,.inl E,E,.inl (zH (Ob.row 3 B3) af),E,Y⟩,E,E⟩
     ·rw[zD (λhh=>zY hh.1 (by simpa using h5))]at af;refine oF ?_;refine iW ?_;refine Ay [] ab ⟨⟨E,E,E,E,E,E,E,E,E,E,E,E,Y⟩,⟨.inl E,E,.inl E,E,.inl E,E,.inl E,E,.inl E,E,.inl (zH (Ob.row 3 B3) af),E,Y⟩,E,E⟩
    ·have cg:j=n.ports.length:=by
      have:¬j<n.ports.length:=by simpa using h4
      omega
     subst cg;refine oO ?_;exact Xk (α:={s:List Item×List Int×List Int // ReachInv n s∧L1 n up s=D}) (L:=λp=>[(0,.ptr 0 0),(2,.ptr 11 0)]) (O:=λp=>[(0,.box (Wr n up ranks (.osl 1) (.osl 2))),(1,.row 1 Aa p.1.2.1),(2,.row 1 Aa p.1.2.2),(11,.box [.osl 12]),(12,.row 3 B3 p.1.1)]) (μ:=λp=>reachM p.1) (x:=⟨(q,ro,co),hI,ze⟩)
      ⟨((List.range n.ports.length).foldl (Ei n up x) (D9 q).dropLast,ro',co'),jl.1,uj.symm⟩ [] jl.2
      kU
  ·have he:q=[]:=zZ (by
    have:¬0<q.length:=by simpa using h2
    omega)
   have e:D=(q,ro,co):=by rw[←ze,vu he]
   rw[e];refine oO ?_;exact A6 E .nil [] (Aii n up ranks ro co) (λ_ h=>h) E E kU
def okB(n:Net)(up:List Bool):Bool:=decide (up.length=n.links.length)&&(Ac n&&Dk n)
def ok_iff{n:Net}{up:List Bool}:okB n up=true↔up.length=n.links.length∧Ac n=true∧Dk n=true:=by simp[okB]
def Aet(n:Net)(up:List Bool):List Int:=(Un n up (Ha n)).2.1
def Agn(n:Net)(up:List Bool):List Int:=(Un n up (Ha n)).2.2
def Ak3(n:Net)(up:List Bool):SV:=T9 n up (Ha n) (Aet n up) (Agn n up)
def A5f(n:Net)(up:List Bool)(hn:n.Fin)(h:okB n up=false):Sp 81 [Am n,.sl 1 Ab up] (.tup [.val (.pointer none),Aa 2]):=cT F81 ntmps81 λF hF=>by
 have h':¬(up.length=n.links.length∧Ac n=true∧Dk n=true):=λhh=>by rw[ok_iff.2 hh]at h;cases h
 conv=>whnf
 (repeat' (first|(refine⟨λh=>?_,λh=>?_⟩<;>(repeat (first|simp only[xG]at h|simp only[bne_eq_false_iff_eq]at h|simp only[yU]at h|simp only[wB]at h))<;>((refine oO ?_);repeat((refine aT ?_);(refine oO ?_))))|(refine c0 (A1 n hn) F22 ?_;((refine oO ?_)))|(refine c0 (A3y n hn.ports) F139 ?_;((refine oO ?_)))|refine At rfl (.cons .tmp (.cons .tmp .nil)) rfl rfl))
 all_goals exact zY ⟨by omega,by assumption,by assumption⟩ h'
def Tv(m j:Nat):List Int:=List.replicate j (-1)++List.replicate (m-j) 0
def Att(m:Nat):Tv m 0=List.replicate m 0:=by simp[Tv]
def Ayz(m:Nat):Tv m m=List.replicate m (-1):=by simp[Tv]
def Alo(m j:Nat)(h:j≤m):(Tv m j).length=m:=by simp[Tv];omega
def Atu(m j:Nat)(h:j<m):Tv m (j+1)=(Tv m j).set j (-1):=by
 have e:m-j=(m-(j+1))+1:=by omega
 rw[Tv,Tv,e,tT _ _ y_,uU,tQ,List.replicate_succ' (n:=j),List.replicate_succ (n:=m-(j+1))];simp
def openOK(n:Net)(up:List Bool)(hn:n.Fin)(hu:up.length=n.links.length)(hr:Ac n=true)(aj:Dk n=true):Sp 81 [Am n,.sl 1 Ab up] (.tup [Ak3 n up,Aa 0]):=cT F81 ntmps81 λF hF=>by
 have hf:=H7 hr;have sh:=A1 n hn;have y6:=A3y n hn.ports;have rq:=ranksS n hn;rw[hr]at sh;rw[aj]at y6;rw[hr,zG rfl]at rq;have nf:=O9 n;have oe:∀r∈Ha n,0≤r:=λr h=>(Ab9 n r h).1
 have hsv:Ak3 n up=T9 n up (Ha n) (Un n up (Ha n)).2.1 (Un n up (Ha n)).2.2:=rfl;rw[hsv];generalize Ha n=ranks at *;have jt:=λD hD=>reachS n up ranks (List.replicate n.devices.length (-1)) (List.replicate n.devices.length 0) hr hu aj nf y_ y_ oe D hD
 have hRT:L1 n up (Hl ranks ranks.length,List.replicate n.devices.length (-1),List.replicate n.devices.length 0)=Un n up ranks:=rfl;generalize Un n up ranks=D at *;have jt:=jt D hRT;clear hRT hsv
 conv=>whnf
 refine⟨λh=>zY h (by simp[hu]),λh=>?_⟩;refine oO ?_;refine c0 sh F22 ?_;refine oF ?_;refine c0 y6 F139 ?_;refine oF ?_;refine cD rq F140 ?_;refine oD ?_;refine Bw (Ce Γ.toTy (d:=31) (n:=n.devices.length) Aa 0 E E E E E E E E q_ q_ E E E) z_ E ?_;refine oD ?_;refine Bw (Ce Γ.toTy (d:=35) (n:=n.devices.length) Aa 0 E E E E E E E E q_ q_ E E E) z_ E ?_;refine gH ?_;refine A5 n.devices.length (λj=>[(6,.ptr 37 0),(42,Aa (List.replicate n.devices.length (0:Int)).length),(43,Aa j)]) (λj=>[(37,.box (Wr n up ranks (.osl 31) (.osl 35))),(31,.row 1 Aa (Tv n.devices.length j)),(35,.row 1 Aa (List.replicate n.devices.length 0))]) []
  ⟨⟨rfl,rfl,rfl,rfl,rfl,rfl,trivial⟩,⟨.inl rfl,rfl,.inl (by rw[Att];rfl),rfl,.inl rfl,rfl,trivial⟩,rfl,rfl⟩ ?_
 intro j hj;have hlen:=Alo n.devices.length j hj;refine oO ?_;constructor<;>intro h
 ·have ab:j<n.devices.length:=by simpa using h
  have af:=Atu n.devices.length j ab;generalize Tv n.devices.length j=u at *;refine oO ?_;refine⟨by omega,by omega,?_⟩
  conv=>whnf
  refine⟨E,by omega,-1,E,E,?_⟩
  conv=>whnf
  refine iW ?_;exact Ay [] ab ⟨⟨E,E,E,E,E,E,Y⟩,⟨.inl E,E,.inl (zH (Ob.row 1 Aa) af),E,.inl E,E,Y⟩,E,E⟩
 have cg:j=n.devices.length:=by
  have:¬j<n.devices.length:=by simpa using h
  omega
 subst cg;have dw:=Ayz n.devices.length;rw[←dw]at jt;refine oO ?_;refine Af (Ad [(0,37),(1,31),(2,35)] E F141 jt E ⟨E,E,E,Y⟩ E ⟨.inl E,.inl E,.inl E,Y⟩) E E ?_;refine Aj 31 E ?_;refine Aj 35 E ?_;refine Bf 37 12 (.agg (Wr n up ranks (.sl 1 Aa D.2.1) (.sl 1 Aa D.2.2))) E E E ?_;exact gE
def Amr{n:Net}{up:List Bool}(h:okB n up=true):Solved n up (Ha n) (Aet n up) (Agn n up):=by
 obtain ⟨hu,hr,aj⟩:=ok_iff.1 h;exact Ag9 n up (Ha n) hr aj (O9 n) (λr h=>(Ab9 n r h).1)
def Akr(n:Net)(up:List Bool):List Int:=rolesL n up (Ha n) (Aet n up) (Agn n up)
def fwdT(n:Net)(up:List Bool):List Bool:=fwdL n (Akr n up)
def Ag7(n:Net)(up:List Bool):(Akr n up).length=n.ports.length:=Le ..
def Asp(n:Net)(up:List Bool)(h:okB n up=true):Sp 82 [Ak3 n up] (.sl 1 Aa (Akr n up)):=by
 obtain ⟨hu,hr,aj⟩:=ok_iff.1 h;have S:=Amr h;exact rolesS n up (Ha n) (Aet n up) (Agn n up) hr hu aj (O9 n) S.rootsL S.costsL (λc hc=>by have:=S.bound c hc;omega)
def Af6(n:Net)(up:List Bool)(hn:n.Fin)(h:okB n up=false):Sp 29 [Am n,.sl 1 Ab up] (.tup [.sl 1 Ab [],Aa 2]):=cT F29 ntmps29 λF hF=>by
 conv=>whnf
 refine c0 (A5f n up hn h) F81 ?_;refine oT ?_;refine Au 4 1 Ab E ?_;exact dN
def Adp(n:Net)(aw:List Int)(j:Nat):List Bool:=(n.links.take j).map (A3g aw)++List.replicate (n.links.length-j) false
def Ayt(n:Net)(aw:List Int):Adp n aw 0=List.replicate n.links.length false:=by simp[Adp]
def A3f(n:Net)(aw:List Int):Adp n aw n.links.length=fwdL n aw:=by simp[Adp,fwdL]
def Api(n:Net)(aw:List Int)(j:Nat)(h:j≤n.links.length):(Adp n aw j).length=n.links.length:=by simp[Adp];omega
def Ayu(n:Net)(aw:List Int)(j:Nat)(h:j<n.links.length):Adp n aw (j+1)=(Adp n aw j).set j (A3g aw n.links[j]):=by
 have e:n.links.length-j=(n.links.length-(j+1))+1:=by omega
 have el:((n.links.take j).map (A3g aw)).length=j:=by simp;omega
 rw[Adp,Adp,tT _ _ q_,el,tQ,yD h,wU,e,List.replicate_succ,uD];simp
def Ajh(n:Net)(up:List Bool)(hn:n.Fin)(h:okB n up=true):Sp 29 [Am n,.sl 1 Ab up] (.tup [.sl 1 Ab (fwdT n up),Aa 0]):=cT F29 ntmps29 λF hF=>by
 obtain ⟨hu,hr,aj⟩:=ok_iff.1 h;have hf:=H7 hr;have ho:=openOK n up hn hu hr aj;have gm:=Asp n up h;have vv:=Ag7 n up;rw[fwdT];generalize Akr n up=aw at *;unfold Ak3 at ho gm;generalize Ha n=ranks at *;generalize Aet n up=roots at *;generalize Agn n up=costs at *
 conv=>whnf
 refine c0 ho F81 ?_;refine oF ?_;refine c0 gm F82 ?_;refine oO ?_;refine Af (Ce Γ.toTy (d:=27) (n:=n.links.length) Ab false E E E E E E E E q_ q_ E E E) E E ?_;rw[←Ayt n aw];refine oO ?_;refine A5 n.links.length (λj=>[(8,.sl 1 Aa aw),(9,.osl 27),(29,.sl 3 Bz n.links),(30,Aa n.links.length),(31,Aa j)]) (λj=>[(27,.row 1 Ab (Adp n aw j))]) []
  kU ?_
 intro j hj;have dw:=A3f n aw;refine oO ?_;constructor<;>intro h
 ·have ab:j<n.links.length:=by simpa using h
  have he:=Qw hr ab;have e1:n.links[(j:Int).toNat]'q_=n.links[j]:=rfl;have hlen:=Api n aw j hj;have af:=Ayu n aw j ab;generalize Adp n aw j=u at *;generalize n.links[j]=l at *;rw[A3g,Ai (l:=aw) (i:=l.a) q_,Ai (l:=aw) (i:=l.b) q_]at af;refine oO ?_;refine⟨E,by omega,by omega,?_⟩;rw[e1]
  conv=>whnf
  refine⟨E,by omega,by omega,?_⟩
  conv=>whnf
  refine⟨E,by omega,by omega,?_⟩
  conv=>whnf
  refine kW ?_;have hA:0≤l.a∧l.a<aw.length:=by omega
  have hB:0≤l.b∧l.b<aw.length:=by omega
  obtain ⟨x,hx⟩:∃x,aw[l.a.toNat]'q_=x:=⟨_,rfl⟩
  obtain ⟨y,hy⟩:∃y,aw[l.b.toNat]'q_=y:=⟨_,rfl⟩
  rw[hx,hy]at af;refine Ag4 46 (e:=Aa) (l:=[x,y]) E (by rw[←hx,←hy];rfl) ?_;refine Aj 46 E ?_;refine c0 (D7 [x,y] 1 (by unfold An;simp)) F38 ?_;refine oO ?_;constructor<;>intro h1
  ·rw[h1,yF]at af;refine oO ?_;refine c0 (D7 [x,y] 2 (by unfold An;simp)) F38 ?_;refine oO ?_;refine⟨by omega,by omega,?_⟩
   conv=>whnf
   refine⟨E,by omega,inB [x,y] 2,E,E,?_⟩
   conv=>whnf
   refine iW ?_;exact Ay [] ab ⟨⟨E,E,E,E,E,E,E,E,E,E,Y⟩,⟨.inl (zH (Ob.row 1 Ab) af),E,Y⟩,E,E⟩
  ·rw[h1,yE]at af;refine oO ?_;refine⟨by omega,by omega,?_⟩
   conv=>whnf
   refine⟨E,by omega,false,E,E,?_⟩
   conv=>whnf
   refine iW ?_;exact Ay [] ab ⟨⟨E,E,E,E,E,E,E,E,E,E,Y⟩,⟨.inl (zH (Ob.row 1 Ab) af),E,Y⟩,E,E⟩
 have cg:j=n.links.length:=by
  have:¬j<n.links.length:=by simpa using h
  omega
 subst cg;rw[←dw];refine oO ?_;refine Aj 27 E ?_;exact dN
end Go.Sy.YticmobkdaneelaaGreatDoor
namespace Go.Sy.YticmobkdaneelaaGreatDoor
section
variable {n:Net} {up:List Bool} {ranks roots costs:List Int}
end
instance:Inhabited Vec:=⟨⟨0,0,0,0,0⟩⟩
section
variable {n:Net} {up:List Bool} {ranks roots costs:List Int}
end
end Go.Sy.YticmobkdaneelaaGreatDoor
