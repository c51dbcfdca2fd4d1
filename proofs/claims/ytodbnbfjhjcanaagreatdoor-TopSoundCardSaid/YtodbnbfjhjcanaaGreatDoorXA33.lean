/- Parts of a proof. -/
import Derived.Test.YtodbnbfjhjcanaaGreatDoorXA32
set_option maxHeartbeats 4000000
set_option linter.all false
namespace Go.Sy.Zaa
section
def atI(l:List Int)(e:Int):Int:=if e<0 then -1 else nth l e
def Ox{l:List Int}{e:Int}(h:0<=e):atI l e=nth l e:=by rw[atI,zD z_]
def Arn{l:List Int}{d v:Int}(h0:0<=d)(h1:d<l.length)(e:Int):atI (l.set d.toNat v) e=if e=d then v else atI l e:=by
 by_cases he:e<0
 .rw[atI,zE he,zD z_,atI,zE he]
 .rw[atI,zD he,atI,zD he,nth,nth,uL];by_cases hd:e=d
  .subst hd;rw[zE rfl,zE rfl,zE z_];rfl
  .rw[zD z_,zD hd]
structure DijS(n:Net)(up:List Bool)(ranks:List Int)(s:List Item×List Int×List Int):Prop where
 inv:ReachInv n s
 dij:Dij n up (atI ranks) s.1 (atI s.2.1) (atI s.2.2)
 bound:∀c∈s.2.2,0<=c/\c<=1000000
def Ann(n:Net)(up:List Bool)(ranks:List Int)(hr:Ac n=true)(an:Do n=true)(s:List Item×List Int×List Int)(hI:DijS n up ranks s)(ag:s.1≠[]):DijS n up ranks (Ti n up s):=by
 have hf:=Ic hr;have h1:=(M4 n up hr an s hI.inv ag).1;have df:=Axa s.1 ag;have mo:=Axb s.1 ag hI.dij.heap;have vm:=As9 s.1 hI.dij.heap;have hx:=hI.inv.items _ (df.mem_iff.1 (List.mem_cons_self ..));have tu:=hI.inv.rootsL;have gq:=hI.inv.costsL;have hd:=hI.dij;have hb:=hI.bound;rw[Ti,Aag ag,Ai6 s.1 ag]at *;generalize s.1.getD 0 default=x at *;try simp only at *
 have ea:nth s.2.1 x.dev=atI s.2.1 x.dev:=(Ox hx.1).symm;rw[ea];rw[ea]at h1;split
 .rename_i hc;rw[zE hc]at h1;exact⟨h1,Azz hd df mo hc,hb⟩
 .rename_i hc;rw[zD hc]at h1;refine⟨h1,Azy hr an hd df mo vm z_ hx.2.2.1 ⟨hx.1,hx.2.1⟩ (Arn hx.1 z_) (Arn hx.1 z_),λc hc=>?_⟩;rcases uT hc with h|h
  .exact hb c h
  .omega
def oI(n:Net)(up:List Bool)(ranks:List Int)(hr:Ac n=true)(an:Do n=true):∀(f:Nat) (s:List Item×List Int×List Int),DijS n up ranks s->reachM s<=f->DijS n up ranks (Je n up f s)/\(Je n up f s).1=[]
 |0,s,h,hf=>⟨h,yB (by unfold reachM at hf;rw[Je];omega)⟩
 |f+1,s,h,hf=>by
  rw[Je];split
  .rename_i he;exact⟨h,he⟩
  .rename_i ag;exact oI n up ranks hr an f _ (Ann n up ranks hr an s h ag) (by have:=(M4 n up hr an s h.inv ag).2;omega)
structure Solved(n:Net)(up:List Bool)(ranks roots costs:List Int):Prop where
 rootsL:roots.length=n.devices.length
 costsL:costs.length=n.devices.length
 bound:∀c∈costs,0<=c/\c<=1000000
 root:∀d:Int,0<=d->d<n.devices.length->0<=nth roots d
 self:∀d:Int,0<=d->d<n.devices.length->Le2 (nth roots d) (nth costs d) (nth ranks d) 0
 tri:∀i j:Nat,Adb n up i j->Le2 (nth roots (Ip n i)) (nth costs (Ip n i)) (nth roots (Ip n j)) (nth costs (Ip n j)+Z4 n i)
 der:∀d:Int,0<=d->d<n.devices.length->(nth roots d=nth ranks d/\nth costs d=0)\/∃i j:Nat,Adb n up i j/\Ip n i=d/\nth roots d=nth roots (Ip n j)/\nth costs d=nth costs (Ip n j)+Z4 n i
def Asl(n:Net)(up:List Bool)(ranks:List Int)(hr:Ac n=true)(s:List Item×List Int×List Int)(h:DijS n up ranks s)(he:s.1=[]):Solved n up ranks s.2.1 s.2.2:=by
 have hd:=h.dij;rw[he]at hd;have h0:∀d:Int,0<=d->d<n.devices.length->0<=atI s.2.1 d:=λd h1 h2=>by
  by_cases hc:0<=atI s.2.1 d
  .exact hc
  .have:=hd.own d h1 h2 z_;simp at this
 refine⟨h.inv.rootsL,h.inv.costsL,h.bound,λd h1 h2=>?_,λd h1 h2=>?_,λi j cy=>?_,λd h1 h2=>?_⟩
 .have:=h0 d h1 h2;rwa [Ox h1]at this
 .have:=hd.self d h1 h2 (h0 d h1 h2);simpa only [Ox h1] using this
 .have hi:=Wt hr cy.1;have hj:=Wt hr (Vt hr cy);have:=hd.tri i j cy (h0 _ hi.1 hi.2) (h0 _ hj.1 hj.2);simpa only [Ox hi.1,Ox hj.1] using this
 .rcases hd.done d h1 h2 (h0 d h1 h2) with h3|⟨i,j,h3,h4,_,h5,h6⟩
  .simp only[Ox h1]at h3;exact .inl h3
  .have hj:=Wt hr (Vt hr h3);simp only[Ox h1,Ox hj.1]at h5 h6;exact .inr ⟨i,j,h3,h4,h5,h6⟩
def cM(ranks:List Int)(y:Item):∀j,y∈Hq ranks j↔∃i,i<j/\y=⟨ranks.getD i 0,0,i⟩
 |0=>by simp[Hq]
 |j+1=>by
  rw[Lt,(Tk _ _).mem_iff,yH,cM ranks y j];constructor
  .rintro (h|⟨i,h1,h2⟩)
   .exact⟨j,by omega,h⟩
   .exact⟨i,by omega,h2⟩
  .rintro ⟨i,h1,h2⟩;by_cases h:i=j
   .subst h;exact .inl h2
   .exact .inr ⟨i,by omega,h2⟩
def nN(ranks:List Int):∀j,Oz (Hq ranks j) (Hq ranks j).length
 |0=>λc _ h2 _=>by simp[Hq]at h2
 |j+1=>by
  rw[Lt];exact oK _ _ (nN ranks j)
def Aco{v:Int}{m:Nat}{d:Int}(h1:d<m)(h0:0<=d):nth (List.replicate m v) d=v:=by
 rw[Ag kO];simp
def Asj(n:Net)(up:List Bool)(ranks:List Int)(hr:Ac n=true)(nu:ranks.length=n.devices.length)(o6:∀r∈ranks,0<=r):DijS n up ranks (Hq ranks ranks.length,List.replicate n.devices.length (-1),List.replicate n.devices.length 0):=by
 have ju:∀d:Int,0<=d->d<n.devices.length->atI (List.replicate n.devices.length (-1)) d=-1:=λd h0 h1=>by rw[Ox h0,Aco h1 h0]
 refine⟨Adn n ranks _ _ hr nu qq qq o6,⟨nN ranks _,λx hx=>?_,λd h0 h1 h2=>?_,λd h0 h1 h2=>?_,λi j cy h1 h2=>?_,λd h0 h1 h2=>?_,λd h0 h1 h2=>?_,λi j cy h1 h2=>?_⟩,λc hc=>?_⟩
 .obtain ⟨i,h1,rfl⟩:=(cM ranks x _).1 hx;refine .inl ⟨?_,E⟩;simp only;rw[Ox z_,Ag (kS h1),Bo h1];rfl
 .rw[ju d h0 h1]at h2;omega
 .refine(cM ranks _ _).2 ⟨d.toNat,by omega,?_⟩;rw[Ox h0,Ag z_,Bo z_,yR h0]
 .have hj:=Wt hr (Vt hr cy);rw[ju _ hj.1 hj.2]at h2;omega
 .rw[ju d h0 h1]at h2;omega
 .rw[ju d h0 h1]at h2;omega
 .have hj:=Wt hr (Vt hr cy);rw[ju _ hj.1 hj.2]at h2;omega
 .have:=List.eq_of_mem_replicate hc;omega
def Vd(n:Net)(up:List Bool)(ranks:List Int):List Item×List Int×List Int:=L8 n up (Hq ranks ranks.length,List.replicate n.devices.length (-1),List.replicate n.devices.length 0)
def Ace(n:Net)(up:List Bool)(ranks:List Int)(hr:Ac n=true)(an:Do n=true)(nu:ranks.length=n.devices.length)(o6:∀r∈ranks,0<=r):Solved n up ranks (Vd n up ranks).2.1 (Vd n up ranks).2.2:=by
 obtain ⟨h1,h2⟩:=oI n up ranks hr an _ _ (Asj n up ranks hr nu o6) (yG _);exact Asl n up ranks hr _ h1 h2
section
variable {n:Net} {up:List Bool} {ranks roots costs:List Int}
def rolesL(n:Net)(up:List Bool)(ranks roots costs:List Int):List Int:=Qo n up ranks roots costs n.devices.length
def Azl(aw:List Int)(l:Link):Bool:=inB [nth aw l.a,nth aw l.b] 1&&inB [nth aw l.a,nth aw l.b] 2
def fwdL(n:Net)(aw:List Int):List Bool:=n.links.map (Azl aw)
end
open Go.Proofs Go.Proofs.Tryz
def G_lit{C:Cx}{k:List KI}{s:SS}(d:Nat){sz:Nat}{m:Type}(e:m->SV)(l:List m){svs:List SV}(h:s.h d=.lit sz svs)(hl:l.map e=svs)(hg:G C k ⟨s.σ,upd s.h d (.row sz e l)⟩):G C k s:=λr a w hs=>by
 refine hg r a w ⟨hs.defers,hs.size,hs.inv,hs.ctx,hs.slot,λj=>?_⟩;show ObOK r w j (upd s.h d (.row sz e l) j);by_cases hj:j=d
 .subst hj;rw[B1];have ck:=hs.obj j;rw[h]at ck;have hlen:l.length=svs.length:=by rw[<-hl,yZ]
  obtain ⟨b,cap,cs,T,fr,e1,e2,e3,e4,e5,e6⟩:=ck;exact .inr ⟨b,cap,cs,T,fr,by rw[hlen];exact e1,e2,e3,e4,by omega,λi x hx=>by rw[hlen];exact e6 i x (Q6 hl i x hx)⟩
 .rw[Cv _ _ hj];exact hs.obj j
attribute [local irreducible]G DR
set_option maxRecDepth 100000
def oG(n:Net)(up:List Bool)(x:Item)(q:List Item):∀i,((List.range i).foldl (Ee n up x) q).length<=q.length+i
 |0=>by simp
 |i+1=>by
  have:=oG n up x q i;rw[vB,xO];simp only[vJ,tH];rw[Ee];split
  .rw[Mo];omega
  .omega
def reachS(n:Net)(up:List Bool)(ranks roots costs:List Int)(hr:Ac n=true)(hu:up.length=n.links.length)(an:Do n=true)(nu:ranks.length=n.devices.length)(em:roots.length=n.devices.length)(hc:costs.length=n.devices.length)(o6:∀r∈ranks,0<=r)(D:List Item×List Int×List Int)(hD:L8 n up (Hq ranks ranks.length,roots,costs)=D):Sq 229 [.ptr 0 0] (Adr n up ranks roots costs) (.tup []) (Adr n up ranks D.2.1 D.2.2):=cT F229 ntmps229 λF hF=>by
 have hf:=Ic hr
 conv=>whnf
 refine G_lit 10 B4 [] E E ?_;refine A8 ranks.length (λj=>[(0,.ptr 0 0),(2,.ptr 11 0),(15,.sl 1 Aa ranks),(16,Aa ranks.length),(17,Aa j)]) (λj=>[(0,.box (Xn n up ranks (.osl 1) (.osl 2))),(1,.row 1 Aa roots),(2,.row 1 Aa costs),(11,.box [.osl 12]),(12,.row 3 B4 (Hq ranks j))]) [(12,10)]
  kU ?_
 intro j hj;refine gH ?_ ?_<;>intro h
 .have ab:j<ranks.length:=by simpa using h
  have e1:ranks[(j:Int).toNat]'z_=ranks[j]:=rfl;have jd:=Aen (Hq ranks j) ⟨ranks.getD j 0,0,j⟩ (by rw[Qm];omega);have ai:=Lt ranks j;rw[Bo (show j<ranks.length by omega)]at jd ai;refine oO ?_;refine⟨by omega,by omega,?_⟩
  conv=>whnf
  refine⟨by omega,?_⟩;rw[e1]
  conv=>whnf
  refine Ai (Ad [(0,11),(1,12),(2,28)] E F302 jd E ⟨E,E,q_⟩ E kB) E E (gF ?_);refine Ax [(12,28)] ab ⟨kA,⟨.inl E,E,.inl E,E,.inl E,E,.inl E,E,.inl (zH (Ob.row 3 B4) ai),E,q_⟩,E,E⟩
 .have cw:j=ranks.length:=by
   have:¬j<ranks.length:=kS h;omega
  subst cw;refine oO ?_;refine Wj (α:={s:List Item×List Int×List Int // ReachInv n s/\L8 n up s=D}) (λp=>[(0,.ptr 0 0),(2,.ptr 11 0)]) (λp=>[(0,.box (Xn n up ranks (.osl 1) (.osl 2))),(1,.row 1 Aa p.1.2.1),(2,.row 1 Aa p.1.2.2),(11,.box [.osl 12]),(12,.row 3 B4 p.1.1)]) (λp=>reachM p.1) ⟨(Hq ranks ranks.length,roots,costs),Adn n ranks roots costs hr nu em hc o6,hD⟩ []
   kU ?_
  rintro ⟨⟨q,ro,co⟩,hI,hDq⟩;have hlen:=cS q;have wu:=Anm n up (q,ro,co);have j6:=Aiz n up hr an (q,ro,co) hI;dsimp only at wu j6|-;refine oO ?_;refine Ai (I0 [12] E F303 hlen (.cons (.row E E) .nil) E E) E E (oO ?_);constructor<;>intro h2
  .have ag:q≠[]:=λe=>by subst e;simp at h2
   have vi:=Aza q ag (by have:=hI.few;simp only at this;omega);have hx:=hI.items _ ((Ws q ag).mem_iff.1 (List.getLast_mem (Ha ag)));have br:Ti n up (q,ro,co)=if 0<=nth ro ((D5 q).getLast (Ha ag)).dev then ((D5 q).dropLast,ro,co) else ((List.range n.ports.length).foldl (Ee n up ((D5 q).getLast (Ha ag))) (D5 q).dropLast,ro.set ((D5 q).getLast (Ha ag)).dev.toNat ((D5 q).getLast (Ha ag)).root,co.set ((D5 q).getLast (Ha ag)).dev.toNat ((D5 q).getLast (Ha ag)).cost):=by
    rw[Ti,Aag ag]
   have jm:=M4 n up hr an (q,ro,co) hI ag;have vo:=j6 ag;rw[hDq]at vo;rw[br]at jm vo;generalize (D5 q).getLast (Ha ag)=x at *;have hroL:=hI.rootsL;have hcoL:=hI.costsL;dsimp only at hroL hcoL;rw[Ag (l:=ro) (i:=x.dev) z_]at jm vo;refine oO ?_;refine Ai (Ad [(0,11),(1,12),(2,38)] E F304 vi E ⟨E,E,q_⟩ E kB) E E (oO ?_);refine Ai (eZ Γ.toTy E E E E) E E ?_
   (refine rg ?_;(conv=>whnf);refine aF ?_;refine oD ?_)
   have hx1:=hx.1;have x5:=hx.2.1;refine⟨by omega,by omega,?_⟩
   conv=>whnf
   refine⟨E,by omega,?_⟩
   conv=>whnf
   refine kW ?_;constructor<;>intro h3
   .have h30:0<=ro[x.dev.toNat]'z_:=zO h3;rw[zE h30]at jm vo;refine oO ?_;exact Ye (α:={s:List Item×List Int×List Int // ReachInv n s/\L8 n up s=D}) (L:=λp=>[(0,.ptr 0 0),(2,.ptr 11 0)]) (O:=λp=>[(0,.box (Xn n up ranks (.osl 1) (.osl 2))),(1,.row 1 Aa p.1.2.1),(2,.row 1 Aa p.1.2.2),(11,.box [.osl 12]),(12,.row 3 B4 p.1.1)]) (μ:=λp=>reachM p.1) (x:=⟨(q,ro,co),hI,hDq⟩)
     ⟨((D5 q).dropLast,ro,co),jm.1,vo.symm⟩ [(12,38)] jm.2
     kU
   .have h30:¬0<=ro[x.dev.toNat]'z_:=zQ h3;rw[zD h30]at jm vo;refine oO ?_;refine⟨by omega,by omega,?_⟩
    conv=>whnf
    refine⟨by omega,by omega,?_⟩
    conv=>whnf
    refine⟨x.root,E,E,?_⟩
    conv=>whnf
    refine⟨by omega,by omega,E,by omega,x.cost,E,E,?_⟩
    conv=>whnf
    refine kW ?_;generalize ro.set x.dev.toNat x.root=ro' at *;generalize co.set x.dev.toNat x.cost=co' at *;refine A8 n.ports.length (λj=>[(0,.ptr 0 0),(2,.ptr 11 0),(5,.ptr 5 0),(77,.sl 7 Bd n.ports),(78,Aa n.ports.length),(79,Aa j)]) (λj=>[(0,.box (Xn n up ranks (.osl 1) (.osl 2))),(1,.row 1 Aa ro'),(2,.row 1 Aa co'),(5,.box [Aa x.root,Aa x.cost,Aa x.dev]),(11,.box [.osl 12]),(12,.row 3 B4 ((List.range j).foldl (Ee n up x) (D5 q).dropLast))]) [(12,38)]
     kU ?_
    intro j hj;refine oO ?_;constructor<;>intro h4
    .have ab:j<n.ports.length:=by simpa using h4
     have e1:n.ports[(j:Int).toNat]'z_=n.ports[j]:=rfl;have cj:=farR n up ranks ro' co' j hr hu ab;have hql:(D5 q).dropLast.length<=q.length:=by rw[uX,Hm];omega
     have hlenQ:=oG n up x (D5 q).dropLast j;have nk:=hI.few;dsimp only at nk;have ai:(List.range (j+1)).foldl (Ee n up x) (D5 q).dropLast=Ee n up x ((List.range j).foldl (Ee n up x) (D5 q).dropLast) j:=by
      rw[vB,xO];rfl
     generalize (List.range j).foldl (Ee n up x) (D5 q).dropLast=Q at *;rw[Ee,Bo ab]at ai;refine oO ?_;refine⟨by omega,by omega,?_⟩
     conv=>whnf
     refine⟨by omega,?_⟩;rw[e1]
     conv=>whnf
     refine Ai (Ad [] E F230 cj E kA E kB) E E (oO ?_);constructor<;>intro h5
     .refine oO ?_;constructor<;>intro h6
      .have bh:0<=Eo n up j:=zO h6;have dh:=Aa4 (up:=up) hr ab bh;rw[zE ⟨kS h5,bh⟩,Ag (l:=n.ports) (i:=Eo n up j) z_]at ai;have hpc:1<=(n.ports[(Eo n up j).toNat]'z_).cost/\(n.ports[(Eo n up j).toNat]'z_).cost<=65535:=by
        simp only[Do,xB,wK]at an;have:=an _ (zI (show (Eo n up j).toNat<n.ports.length by omega));simp only[Ja,yQ,zJ,vW]at this;omega
       have hxc:=hx.2.2.2;have jd:=Aen Q ⟨x.root,x.cost+(n.ports[(Eo n up j).toNat]'z_).cost,(n.ports[(Eo n up j).toNat]'z_).dev⟩ z_;refine oO ?_;refine⟨E,bh,by omega,?_⟩
       conv=>whnf
       refine iW ?_;refine⟨E,bh,by omega,?_⟩
       conv=>whnf
       refine Cc (Ad [(0,11),(1,12),(2,123)] E F302 jd E ⟨E,E,q_⟩ E kB) j_ E (gM ?_);refine iW ?_;refine Ax [(12,123)] ab ⟨kA,⟨.inl E,E,.inl E,E,.inl E,E,.inl E,E,.inl E,E,.inl (zH (Ob.row 3 B4) ai),E,q_⟩,E,E⟩
      .rw[zD (λhh=>(zQ h6) hh.2)]at ai;refine gF ?_;refine Ax [] ab ⟨kA,⟨.inl E,E,.inl E,E,.inl E,E,.inl E,E,.inl E,E,.inl (zH (Ob.row 3 B4) ai),E,q_⟩,E,E⟩
     .rw[zD (λhh=>zX hh.1 (kS h5))]at ai;refine oF ?_;refine iW ?_;refine Ax [] ab ⟨kA,⟨.inl E,E,.inl E,E,.inl E,E,.inl E,E,.inl E,E,.inl (zH (Ob.row 3 B4) ai),E,q_⟩,E,E⟩
    .have cw:j=n.ports.length:=by
      have:¬j<n.ports.length:=kS h4;omega
     subst cw;refine oO ?_;exact Ye (α:={s:List Item×List Int×List Int // ReachInv n s/\L8 n up s=D}) (L:=λp=>[(0,.ptr 0 0),(2,.ptr 11 0)]) (O:=λp=>[(0,.box (Xn n up ranks (.osl 1) (.osl 2))),(1,.row 1 Aa p.1.2.1),(2,.row 1 Aa p.1.2.2),(11,.box [.osl 12]),(12,.row 3 B4 p.1.1)]) (μ:=λp=>reachM p.1) (x:=⟨(q,ro,co),hI,hDq⟩)
      ⟨((List.range n.ports.length).foldl (Ee n up x) (D5 q).dropLast,ro',co'),jm.1,vo.symm⟩ [] jm.2
      kU
  .have he:q=[]:=yB (by
    have:¬ 0<q.length:=kS h2;omega)
   have e:D=(q,ro,co):=by rw[<-hDq,wu he]
   rw[e];refine oO ?_;exact A2 E .nil [] (Adr n up ranks ro co) (λ_ h=>h) E E kU
def okB(n:Net)(up:List Bool):Bool:=decide (up.length=n.links.length)&&(Ac n&&Do n)
def ok_iff{n:Net}{up:List Bool}:okB n up=true↔up.length=n.links.length/\Ac n=true/\Do n=true:=by simp[okB]
def nX(n:Net)(up:List Bool):List Int:=(Vd n up (Hh n)).2.1
def Abg(n:Net)(up:List Bool):List Int:=(Vd n up (Hh n)).2.2
def Agj(n:Net)(up:List Bool):SV:=Uz n up (Hh n) (nX n up) (Abg n up)
def A1n(n:Net)(up:List Bool)(hn:n.Fin)(h:okB n up=false):Sp 160 [Am n,.sl 1 Ab up] (.tup [.val (.pointer none),Aa 2]):=cT F160 ntmps160 λF hF=>by
 have h':¬(up.length=n.links.length/\Ac n=true/\Do n=true):=λhh=>by rw[ok_iff.2 hh]at h;cases h
 conv=>whnf
 (repeat' (first|(refine⟨λh=>?_,λh=>?_⟩<;>(repeat (first|simp only[xC]at h|simp only[bne_eq_false_iff_eq]at h|simp only[xB]at h|simp only[wZ]at h))<;>((refine oO ?_);repeat((refine aT ?_);(refine oO ?_))))|(refine c0 (A0 n hn) F39 ?_;((refine oO ?_)))|(refine c0 (Az0 n hn.ports) F227 ?_;((refine oO ?_)))|refine Aq rfl (.cons .tmp Ap) rfl rfl))
 all_goals exact zX ⟨by omega,by assumption,by assumption⟩ h'
def Un(m j:Nat):List Int:=List.replicate j (-1)++List.replicate (m-j) 0
def Apd(m:Nat):Un m 0=List.replicate m 0:=by simp[Un]
def Aur(m:Nat):Un m m=List.replicate m (-1):=by simp[Un]
def Ag3(m j:Nat)(h:j<=m):(Un m j).length=m:=by simp[Un];omega
def Ape(m j:Nat)(h:j<m):Un m (j+1)=(Un m j).set j (-1):=by
 have e:m-j=(m-(j+1))+1:=by omega
 rw[Un,Un,e,tS _ _ qq,vC,tP,List.replicate_succ' (n:=j),tC (n:=m-(j+1))];simp
def openOK(n:Net)(up:List Bool)(hn:n.Fin)(hu:up.length=n.links.length)(hr:Ac n=true)(an:Do n=true):Sp 160 [Am n,.sl 1 Ab up] (.tup [Agj n up,Aa 0]):=cT F160 ntmps160 λF hF=>by
 have hf:=Ic hr;have ug:=A0 n hn;have hct:=Az0 n hn.ports;have ov:=ranksS n hn;rw[hr]at ug;rw[an]at hct;rw[hr,zE rfl]at ov;have nu:=Qr n;have o6:∀r∈Hh n,0<=r:=λr h=>(eG n r h).1
 have hsv:Agj n up=Uz n up (Hh n) (Vd n up (Hh n)).2.1 (Vd n up (Hh n)).2.2:=rfl;rw[hsv];generalize Hh n=ranks at *;have jv:=λD hD=>reachS n up ranks (List.replicate n.devices.length (-1)) (List.replicate n.devices.length 0) hr hu an nu qq qq o6 D hD
 have hRT:L8 n up (Hq ranks ranks.length,List.replicate n.devices.length (-1),List.replicate n.devices.length 0)=Vd n up ranks:=rfl;generalize Vd n up ranks=D at *;have jv:=jv D hRT;clear hRT hsv
 conv=>whnf
 refine⟨λh=>zX h (by simp[hu]),λh=>?_⟩;refine oO ?_;refine c0 ug F39 (oF ?_);refine c0 hct F227 (oF ?_);refine cD ov F228 (oD ?_);refine Cc (B5 Γ.toTy (d:=31) (n:=n.devices.length) Aa 0 E E E E E E E E z_ z_ E E E) j_ E (oD ?_);refine Cc (B5 Γ.toTy (d:=35) (n:=n.devices.length) Aa 0 E E E E E E E E z_ z_ E E E) j_ E (gM ?_);refine A8 n.devices.length (λj=>[(6,.ptr 37 0),(42,Aa (List.replicate n.devices.length (0:Int)).length),(43,Aa j)]) (λj=>[(37,.box (Xn n up ranks (.osl 31) (.osl 35))),(31,.row 1 Aa (Un n.devices.length j)),(35,.row 1 Aa (List.replicate n.devices.length 0))]) []
  ⟨⟨rfl,rfl,rfl,rfl,rfl,rfl,trivial⟩,⟨.inl rfl,rfl,.inl (by rw[Apd];rfl),rfl,.inl rfl,rfl,trivial⟩,rfl,rfl⟩ ?_
 intro j hj;have hlen:=Ag3 n.devices.length j hj;refine gH ?_ ?_<;>intro h
 .have ab:j<n.devices.length:=by simpa using h
  have ai:=Ape n.devices.length j ab;generalize Un n.devices.length j=u at *;refine oO ?_;refine⟨by omega,by omega,?_⟩
  conv=>whnf
  refine⟨E,by omega,-1,E,E,?_⟩
  conv=>whnf
  refine iW ?_;exact Ax [] ab ⟨kA,⟨.inl E,E,.inl (zH (Ob.row 1 Aa) ai),E,.inl E,E,q_⟩,E,E⟩
 have cw:j=n.devices.length:=by
  have:¬j<n.devices.length:=kS h;omega
 subst cw;have dp:=Aur n.devices.length;rw[<-dp]at jv;refine oO ?_;exact Ai (Ad [(0,37),(1,31),(2,35)] E F229 jv E kA E kB) E E (Aj 31 E (Aj 35 E (Ba 37 12 (.agg (Xn n up ranks (.sl 1 Aa D.2.1) (.sl 1 Aa D.2.2))) E E E gJ)))
def Ah6{n:Net}{up:List Bool}(h:okB n up=true):Solved n up (Hh n) (nX n up) (Abg n up):=by
 obtain ⟨hu,hr,an⟩:=ok_iff.1 h;exact Ace n up (Hh n) hr an (Qr n) (λr h=>(eG n r h).1)
def Af6(n:Net)(up:List Bool):List Int:=rolesL n up (Hh n) (nX n up) (Abg n up)
def fwdT(n:Net)(up:List Bool):List Bool:=fwdL n (Af6 n up)
def Acb(n:Net)(up:List Bool):(Af6 n up).length=n.ports.length:=Ln ..
def An7(n:Net)(up:List Bool)(h:okB n up=true):Sp 161 [Agj n up] (.sl 1 Aa (Af6 n up)):=by
 obtain ⟨hu,hr,an⟩:=ok_iff.1 h;have S:=Ah6 h;exact rolesS n up (Hh n) (nX n up) (Abg n up) hr hu an (Qr n) S.rootsL S.costsL (λc hc=>by have:=S.bound c hc;omega)
def Aa0(n:Net)(up:List Bool)(hn:n.Fin)(h:okB n up=false):Sp 101 [Am n,.sl 1 Ab up] (.tup [.sl 1 Ab [],Aa 2]):=cT F101 ntmps101 λF hF=>by
 conv=>whnf
 refine c0 (A1n n up hn h) F160 (oT ?_);exact Ao 4 1 Ab E dN
def lG(n:Net)(aw:List Int)(j:Nat):List Bool:=(n.links.take j).map (Azl aw)++List.replicate (n.links.length-j) false
def Aul(n:Net)(aw:List Int):lG n aw 0=List.replicate n.links.length false:=by simp[lG]
def Azk(n:Net)(aw:List Int):lG n aw n.links.length=fwdL n aw:=by simp[lG,fwdL]
def Aks(n:Net)(aw:List Int)(j:Nat)(h:j<=n.links.length):(lG n aw j).length=n.links.length:=by simp[lG];omega
def Aum(n:Net)(aw:List Int)(j:Nat)(h:j<n.links.length):lG n aw (j+1)=(lG n aw j).set j (Azl aw n.links[j]):=by
 have e:n.links.length-j=(n.links.length-(j+1))+1:=by omega
 have el:((n.links.take j).map (Azl aw)).length=j:=by simp;omega
 rw[lG,lG,tS _ _ z_,el,tP,yA h,xY,e,tC,uP];simp
def Aet(n:Net)(up:List Bool)(hn:n.Fin)(h:okB n up=true):Sp 101 [Am n,.sl 1 Ab up] (.tup [.sl 1 Ab (fwdT n up),Aa 0]):=cT F101 ntmps101 λF hF=>by
 obtain ⟨hu,hr,an⟩:=ok_iff.1 h;have hf:=Ic hr;have ho:=openOK n up hn hu hr an;have em:=An7 n up h;have tu:=Acb n up;rw[fwdT];generalize Af6 n up=aw at *;unfold Agj at ho em;generalize Hh n=ranks at *;generalize nX n up=roots at *;generalize Abg n up=costs at *
 conv=>whnf
 refine c0 ho F160 (oF ?_);refine gE em F161 ?_;refine Ai (B5 Γ.toTy (d:=27) (n:=n.links.length) Ab false E E E E E E E E z_ z_ E E E) E E ?_;rw[<-Aul n aw];refine oO ?_;refine A8 n.links.length (λj=>[(8,.sl 1 Aa aw),(9,.osl 27),(29,.sl 3 Co n.links),(30,Aa n.links.length),(31,Aa j)]) (λj=>[(27,.row 1 Ab (lG n aw j))]) []
  kU ?_
 intro j hj;have dp:=Azk n aw;refine gH ?_ ?_<;>intro h
 .have ab:j<n.links.length:=by simpa using h
  have he:=Si hr ab;have e1:n.links[(j:Int).toNat]'z_=n.links[j]:=rfl;have hlen:=Aks n aw j hj;have ai:=Aum n aw j ab;generalize lG n aw j=u at *;generalize n.links[j]=l at *;rw[Azl,Ag (l:=aw) (i:=l.a) z_,Ag (l:=aw) (i:=l.b) z_]at ai;refine oO ?_;refine⟨E,by omega,by omega,?_⟩;rw[e1]
  conv=>whnf
  refine⟨E,by omega,by omega,?_⟩
  conv=>whnf
  refine⟨E,by omega,by omega,?_⟩
  conv=>whnf
  refine kW ?_;have hA:0<=l.a/\l.a<aw.length:=by omega
  have hB:0<=l.b/\l.b<aw.length:=by omega
  obtain ⟨x,hx⟩:=kE (aw[l.a.toNat]'z_);obtain ⟨y,hy⟩:=kE (aw[l.b.toNat]'z_);rw[hx,hy]at ai;refine Al1 46 (e:=Aa) (l:=[x,y]) E (by rw[<-hx,<-hy];rfl) ?_;refine Aj 46 E (gE (D3 [x,y] 1 (by unfold An;simp)) F115 ?_);constructor<;>intro h1
  .rw[h1,yD]at ai;refine oO ?_;refine gE (D3 [x,y] 2 (by unfold An;simp)) F115 ?_;refine⟨by omega,by omega,?_⟩
   conv=>whnf
   refine⟨E,by omega,inB [x,y] 2,E,E,?_⟩
   conv=>whnf
   refine iW ?_;exact Ax [] ab ⟨kA,⟨.inl (zH (Ob.row 1 Ab) ai),E,q_⟩,E,E⟩
  .rw[h1,yC]at ai;refine oO ?_;refine⟨by omega,by omega,?_⟩
   conv=>whnf
   refine⟨E,by omega,false,E,E,?_⟩
   conv=>whnf
   refine iW ?_;exact Ax [] ab ⟨kA,⟨.inl (zH (Ob.row 1 Ab) ai),E,q_⟩,E,E⟩
 have cw:j=n.links.length:=by
  have:¬j<n.links.length:=kS h;omega
 subst cw;rw[<-dp];refine oO ?_;exact Aj 27 E dN
end
section
section
variable {n:Net} {up:List Bool} {ranks roots costs:List Int}
end
instance:Inhabited Vec:=⟨⟨0,0,0,0,0⟩⟩
section
variable {n:Net} {up:List Bool} {ranks roots costs:List Int}
end
end
end Go.Sy.Zaa
