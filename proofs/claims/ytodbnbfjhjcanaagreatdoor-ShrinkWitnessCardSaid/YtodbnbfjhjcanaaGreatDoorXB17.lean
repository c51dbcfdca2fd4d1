/- Parts of a proof. -/
import Derived.Test.YtodbnbfjhjcanaaGreatDoorXB16
set_option maxHeartbeats 4000000
set_option linter.all false
namespace Go.Sy.Zaa
section
section
variable {n:Net} {up:List Bool} {ranks roots costs:List Int}
theorem Vr(S:Solved n up ranks roots costs)(hr:Ac n=true){i j:Nat}(h:Ok n up i j):nth roots (B6 n i)=nth roots (B6 n j):=by
 have h1:=S.tri i j h;have h2:=S.tri j i (Wp hr h);unfold Le2 at h1 h2;omega
theorem Apo(S:Solved n up ranks roots costs)(hr:Ac n=true){i j:Nat}(h:Ok n up i j):nth costs (B6 n i)<=nth costs (B6 n j)+Me n i:=by
 have h1:=S.tri i j h;have h2:=Vr S hr h;unfold Le2 at h1;omega
theorem App(S:Solved n up ranks roots costs){d:Int}(h0:0<=d)(h1:d<n.devices.length)(h:nth roots d≠nth ranks d):∃i j:Nat,Ok n up i j/\B6 n i=d/\nth roots d=nth roots (B6 n j)/\nth costs d=nth costs (B6 n j)+Me n i:=by
 rcases S.der d h0 h1 with h2|h2
 .exact yA h2.1 h
 .exact h2
theorem best_mem{dev:Int}{v:Vec}:v∈Ln n up ranks roots costs dev n.ports.length↔∃i j:Nat,Ok n up i j/\B6 n i=dev/\v=⟨nth roots (B6 n j),nth costs (B6 n j)+Me n i,nth ranks (B6 n j),j,i⟩:=by
 rw[Ln,wA];constructor
 .rintro ⟨i,hi,he⟩;have hi:=yV.1 hi;unfold dR at he;simp only at he;split at he
  .rename_i hc;simp only[zG,yJ,zJ]at hc;obtain ⟨j,hj⟩:∃j:Nat,Eh n up i=j:=⟨(Eh n up i).toNat,by omega⟩
   rw[hj]at he;exact⟨i,j,⟨hi,hj⟩,hc.1,(Option.some.inj he).symm⟩
  .cases he
 .rintro ⟨i,j,⟨hi,hj⟩,hd,rfl⟩;refine⟨i,yV.2 hi,?_⟩;unfold dR;have e:(n.ports.getD i default).dev=dev:=hd;simp only[hj,e];rw[zE y_];rfl
theorem dS{d:Int}{i:Nat}(h:Hb n up ranks roots costs d=i):∃j:Nat,Ok n up i j/\B6 n i=d/\nth roots d≠nth ranks d/\(Kd (Ln n up ranks roots costs d n.ports.length)).1=⟨nth roots (B6 n j),nth costs (B6 n j)+Me n i,nth ranks (B6 n j),j,i⟩:=by
 have ey:=@Ara (Ln n up ranks roots costs d n.ports.length);unfold Hb at h;simp only at h;split at h
 .omega
 .rename_i hc;simp only[yO,yU,uF,Bool.not_eq_false,yJ]at hc;obtain ⟨i',j,h1,h2,h3⟩:=best_mem.1 (ey hc.1);rw[h3]at h;have:i'=i:=by simp only at h;omega
  subst this;exact⟨j,h1,h2,hc.2,h3⟩
theorem Ahd(S:Solved n up ranks roots costs)(hr:Ac n=true){d:Int}(h0:0<=d)(h1:d<n.devices.length)(h:nth roots d≠nth ranks d):∃i j:Nat,Ok n up i j/\B6 n i=d/\Hb n up ranks roots costs d=i/\nth costs d=nth costs (B6 n j)+Me n i:=by
 obtain ⟨p,q,g1,g2,g3,g4⟩:=App S h0 h1 h;have hm:=(best_mem (ranks:=ranks) (roots:=roots) (costs:=costs)).2 ⟨p,q,g1,g2,rfl⟩;have h2:(Kd (Ln n up ranks roots costs d n.ports.length)).2=true:=by
  cases hb:(Kd (Ln n up ranks roots costs d n.ports.length)).2
  .rw[(Ami hb).1]at hm;simp at hm
  .rfl
 obtain ⟨i,j,e1,e2,e3⟩:=best_mem.1 (Ara h2);have hle:=Aw4 _ _ hm;rw[e3]at hle;refine⟨i,j,e1,e2,?_,?_⟩
 .unfold Hb;simp only[h2,Bool.not_true,vQ,yJ];rw[zD h,e3]
 .have r1:=Vr S hr e1;have v1:=Apo S hr e1;rw[e2]at r1 v1;simp only[Hh]at hle
  grind
theorem lC(S:Solved n up ranks roots costs)(hr:Ac n=true){i j:Nat}(bu:Ok n up i j)(h:Hb n up ranks roots costs (B6 n i)=i):nth costs (B6 n i)=nth costs (B6 n j)+Me n i:=by
 have hd:=K3 hr bu.1;obtain ⟨_,_,_,af,_⟩:=dS h;obtain ⟨i',j',e1,e2,e3,e4⟩:=Ahd S hr hd.1 hd.2 af;have:i'=i:=by omega
 subst this;have:j'=j:=by
  have h1:=e1.2;have h2:=bu.2;omega
 subst this;exact e4
theorem Apy(n:Net)(up:List Bool)(ranks costs:List Int){p:Nat}(hp:p<n.ports.length):nth (Kc n up ranks costs n.ports.length) p=Yu n up ranks costs p:=by
 rw[Ae (by rw[Se];simpa using hp)];simp[Kc,hp]
theorem bI(n:Net)(up:List Bool)(ranks roots costs:List Int){p:Nat}(hp:p<n.ports.length):∀e:Nat,(∀d:Nat,d<e->Hb n up ranks roots costs d≠p)->nth (K0 n up ranks roots costs e) p=Yu n up ranks costs p
 |0,_=>Apy n up ranks costs hp
 |e+1,h=>by
  have ih:=bI n up ranks roots costs hp e (λd hd=>h d q_);have af:=h e q_;rw[K0];split
  .rw[nth,List.getElem?_set_ne q_];exact ih
  .exact ih
theorem lU(n:Net)(up:List Bool)(ranks roots costs:List Int){p:Nat}(hp:p<n.ports.length):∀(e d:Nat),d<e->Hb n up ranks roots costs d=p->nth (K0 n up ranks roots costs e) p=1
 |0,_,h,_=>yA h q_
 |e+1,d,h,hb=>by
  have hl:=Jt n up ranks roots costs e;rw[K0];by_cases hbe:Hb n up ranks roots costs e=p
  .rw[hbe,zE q_,nth,zZ,vT q_];rfl
  .have hde:d≠e:=λh=>hbe (by rw[<-h];exact hb)
   have ih:=lU n up ranks roots costs hp e d q_ hb;split
   .rw[nth,List.getElem?_set_ne q_];exact ih
   .exact ih
def Zw(n:Net)(up:List Bool)(ranks roots costs:List Int):List Int:=K0 n up ranks roots costs n.devices.length
theorem eZ(hr:Ac n=true){p:Nat}(hp:p<n.ports.length):nth (Zw n up ranks roots costs) p=if Hb n up ranks roots costs (B6 n p)=p then 1 else Yu n up ranks costs p:=by
 have hd:=K3 hr hp;split
 .rename_i h;refine lU n up ranks roots costs hp _ (B6 n p).toNat q_ ?_;rw[yR hd.1];exact h
 .rename_i h;refine bI n up ranks roots costs hp _ (λd _ hb=>h ?_);obtain ⟨_,_,h2,_⟩:=dS hb;rw[h2];exact hb
theorem Avq{p q:Nat}(h:Ok n up p q):Yu n up ranks costs p=if nth costs (B6 n p)<nth costs (B6 n q)\/(nth costs (B6 n p)=nth costs (B6 n q)/\nth ranks (B6 n p)<nth ranks (B6 n q)) then 2 else 3:=by
 rw[Yu,h.2,zD q_,zZ,Ol];have e1:(n.ports.getD p default).dev=B6 n p:=rfl;have e2:(n.ports.getD q default).dev=B6 n q:=rfl;simp only[e1,e2,yO,zJ,zG,yJ]
theorem Adz(S:Solved n up ranks roots costs)(hr:Ac n=true)(aj:Cv n=true){i j:Nat}(bu:Ok n up i j)(h:Hb n up ranks roots costs (B6 n i)=i):nth (Zw n up ranks roots costs) i=1/\nth (Zw n up ranks roots costs) j=2:=by
 have hj:=Ut hr bu;have hb:=Wp hr bu;have hc:=lC S hr bu h;have hp:=bS aj bu.1;have em:=bS aj hj;refine⟨by rw[eZ hr bu.1,zE h],?_⟩;rw[eZ hr hj,zD (λhbj=>?_),Avq hb,zE (.inl q_)];have:=lC S hr hb hbj;omega
def Ai4(aw:List Int)(l:Link):Bool:=inB [nth aw l.a,nth aw l.b] 1&&inB [nth aw l.a,nth aw l.b] 2
def Axk(n:Net)(aw:List Int):List Bool:=n.links.map (Ai4 aw)
theorem Al9(hr:Ac n=true){k:Nat}(hk:k<n.links.length):∃a b:Nat,n.links[k].a=a/\n.links[k].b=b/\a<n.ports.length/\b<n.ports.length/\B6 n a≠B6 n b/\(nth n.ports a).link=k/\(nth n.ports b).link=k:=by
 have he:=Om hr hk;have hl:=Zx hr hk;simp only[M2,zG,yJ,xC]at hl;have ea:((n.links[k].a.toNat:Nat):Int)=n.links[k].a:=by omega
 have eb:((n.links[k].b.toNat:Nat):Int)=n.links[k].b:=by omega
 exact⟨n.links[k].a.toNat,n.links[k].b.toNat,ea.symm,eb.symm,by omega,by omega,by rw[B6,B6,ea,eb];exact hl.1.1.2,by rw[ea];exact hl.1.2,by rw[eb];exact hl.2⟩
theorem cJ(_hr:Ac n=true){k a b:Nat}(hk:k<n.links.length)(ha:n.links[k].a=a)(hb:n.links[k].b=b)(d5:(nth n.ports a).link=k)(hp:a<n.ports.length)(hu:up.getD k false=true):Ok n up a b:=by
 refine⟨hp,?_⟩;unfold Eh;have e:n.ports.getD a default=nth n.ports a:=rfl;rw[e];simp only[d5,zZ,hu];rw[zD y_,Ae (l:=n.links) (i:=(k:Int)) (kS hk)];simp only[zZ];omega
theorem Af8{k a:Nat}(d5:(nth n.ports a).link=k)(hu:up.getD k false=false):Eh n up a=-1:=by
 unfold Eh;have e:n.ports.getD a default=nth n.ports a:=rfl;rw[e];simp only[d5,zZ,hu,wS,tH,if_true]
theorem Atw(S:Solved n up ranks roots costs)(hr:Ac n=true)(aj:Cv n=true){k a b:Nat}(hk:k<n.links.length)(ha:n.links[k].a=a)(hb:n.links[k].b=b)(o8:a<n.ports.length)(uw:b<n.ports.length)(d5:(nth n.ports a).link=k)(oy:(nth n.ports b).link=k):Ai4 (Zw n up ranks roots costs) n.links[k]=true↔up.getD k false=true/\(Hb n up ranks roots costs (B6 n a)=a\/Hb n up ranks roots costs (B6 n b)=b):=by
 rw[Ai4,ha,hb];have af:∀p:Nat,p<n.ports.length->nth (Zw n up ranks roots costs) p=1->Hb n up ranks roots costs (B6 n p)=p:=λp hp h=>by
  rw[eZ hr hp]at h;split at h
  .assumption
  .rw[Yu]at h;split at h
   .omega
   .split at h<;>omega
 constructor
 .intro h;simp only[inB,List.any_cons,List.any_nil,Bool.or_false,zG,yO,yJ]at h;have ns:Hb n up ranks roots costs (B6 n a)=a\/Hb n up ranks roots costs (B6 n b)=b:=by
   rcases h.1 with h1|h1
   .exact .inl (af a o8 h1)
   .exact .inr (af b uw h1)
  refine⟨?_,ns⟩;cases hu:up.getD k false
  .rcases ns with h1|h1
   .obtain ⟨j,h2,_⟩:=dS h1;have:=h2.2;rw[Af8 d5 hu]at this;omega
   .obtain ⟨j,h2,_⟩:=dS h1;have:=h2.2;rw[Af8 oy hu]at this;omega
  .rfl
 .rintro ⟨hu,h|h⟩
  .have hop:=cJ hr hk ha hb d5 o8 hu;obtain ⟨h1,h2⟩:=Adz S hr aj hop h;rw[h1,h2];rfl
  .have hop:=Wp hr (cJ hr hk ha hb d5 o8 hu);obtain ⟨h1,h2⟩:=Adz S hr aj hop h;rw[h1,h2];rfl
end
open Go.Proofs Go.Proofs.Tryz
def G_lit{C:Cx}{k:List KI}{s:SS}(d:Nat){sz:Nat}{m:Type}(e:m->SV)(l:List m){svs:List SV}(h:s.h d=.lit sz svs)(hl:l.map e=svs)(hg:G C k ⟨s.σ,upd s.h d (.row sz e l)⟩):G C k s:=λr a w hs=>by
 refine hg r a w ⟨hs.defers,hs.size,hs.inv,hs.ctx,hs.slot,λj=>?_⟩;show ObOK r w j (upd s.h d (.row sz e l) j);by_cases hj:j=d
 .subst hj;rw[B1];have cq:=hs.obj j;rw[h]at cq;have hlen:l.length=svs.length:=by rw[<-hl,yW]
  obtain ⟨b,cap,cs,T,fr,e1,e2,e3,e4,e5,e6⟩:=cq;exact .inr ⟨b,cap,cs,T,fr,by rw[hlen];exact e1,e2,e3,e4,by omega,λi x hx=>by rw[hlen];exact e6 i x (Sx hl i x hx)⟩
 .rw[Cz _ _ hj];exact hs.obj j
attribute [local irreducible]G DR
set_option maxRecDepth 100000
def Abl(n:Net)(up:List Bool)(x:Item)(q:List Item):∀i,((List.range i).foldl (Et n up x) q).length<=q.length+i
 |0=>by simp
 |i+1=>by
  have:=Abl n up x q i;rw[vH,xP];simp only[vP,tP];rw[Et];split
  .rw[Od];omega
  .omega
def reachS(n:Net)(up:List Bool)(ranks roots costs:List Int)(hr:Ac n=true)(hu:up.length=n.links.length)(aj:Cv n=true)(o6:ranks.length=n.devices.length)(ji:roots.length=n.devices.length)(hc:costs.length=n.devices.length)(p9:∀r∈ranks,0<=r)(D:List Item×List Int×List Int)(hD:Mv n up (H3 ranks ranks.length,roots,costs)=D):Sq 229 [.ptr 0 0] (Afq n up ranks roots costs) (.tup []) (Afq n up ranks D.2.1 D.2.2):=cT F229 ntmps229 λF hF=>by
 have hf:=Ip hr
 conv=>whnf
 refine G_lit 10 B3 [] E E ?_;refine Bg ranks.length (λj=>[(0,.ptr 0 0),(2,.ptr 11 0),(15,.sl 1 Aa ranks),(16,Aa ranks.length),(17,Aa j)]) (λj=>[(0,.box (Ys n up ranks (.osl 1) (.osl 2))),(1,.row 1 Aa roots),(2,.row 1 Aa costs),(11,.box [.osl 12]),(12,.row 3 B3 (H3 ranks j))]) [(12,10)]
  kU ?_
 intro j hj;refine gH ?_ ?_<;>intro h
 .have ab:j<ranks.length:=by simpa using h
  have e1:ranks[(j:Int).toNat]'q_=ranks[j]:=rfl;have jr:=Agl (H3 ranks j) ⟨ranks.getD j 0,0,j⟩ (by rw[Sc];omega);have ag:=L9 ranks j;rw[Bo (show j<ranks.length by omega)]at jr ag;refine oO ?_;refine⟨by omega,by omega,?_⟩
  conv=>whnf
  refine⟨by omega,?_⟩;rw[e1]
  conv=>whnf
  refine Aj (Ad [(0,11),(1,12),(2,28)] E F302 jr E ⟨E,E,Y⟩ E kB) E E (gF ?_);refine Az [(12,28)] ab ⟨kA,⟨.inl E,E,.inl E,E,.inl E,E,.inl E,E,.inl (zH (Ob.row 3 B3) ag),E,Y⟩,E,E⟩
 .have dq:j=ranks.length:=by
   have:¬j<ranks.length:=kS h;omega
  subst dq;refine oO ?_;refine Xk (α:={s:List Item×List Int×List Int // ReachInv n s/\Mv n up s=D}) (λp=>[(0,.ptr 0 0),(2,.ptr 11 0)]) (λp=>[(0,.box (Ys n up ranks (.osl 1) (.osl 2))),(1,.row 1 Aa p.1.2.1),(2,.row 1 Aa p.1.2.2),(11,.box [.osl 12]),(12,.row 3 B3 p.1.1)]) (λp=>reachM p.1) ⟨(H3 ranks ranks.length,roots,costs),Afn n ranks roots costs hr o6 ji hc p9,hD⟩ []
   kU ?_
  rintro ⟨⟨q,ro,co⟩,hI,hDq⟩;have hlen:=fC q;have xu:=Ap5 n up (q,ro,co);have tx:=Ak4 n up hr aj (q,ro,co) hI;dsimp only at xu tx|-;refine oO ?_;refine Aj (I9 [12] E F303 hlen (.cons (.row E E) .nil) E E) E E (oO ?_);constructor<;>intro h2
  .have af:q≠[]:=λe=>by subst e;simp at h2
   have vx:=A15 q af (by have:=hI.few;simp only at this;omega);have hx:=hI.items _ ((Xt q af).mem_iff.1 (List.getLast_mem (Hm af)));have br:T9 n up (q,ro,co)=if 0<=nth ro ((Ef q).getLast (Hm af)).dev then ((Ef q).dropLast,ro,co) else ((List.range n.ports.length).foldl (Et n up ((Ef q).getLast (Hm af))) (Ef q).dropLast,ro.set ((Ef q).getLast (Hm af)).dev.toNat ((Ef q).getLast (Hm af)).root,co.set ((Ef q).getLast (Hm af)).dev.toNat ((Ef q).getLast (Hm af)).cost):=by
    rw[T9,Ach af]
   have jh:=Oy n up hr aj (q,ro,co) hI af;have v8:=tx af;rw[hDq]at v8;rw[br]at jh v8;generalize (Ef q).getLast (Hm af)=x at *;have hroL:=hI.rootsL;have hcoL:=hI.costsL;dsimp only at hroL hcoL;rw[Ae (l:=ro) (i:=x.dev) q_]at jh v8;refine oO ?_;refine Aj (Ad [(0,11),(1,12),(2,38)] E F304 vx E ⟨E,E,Y⟩ E kB) E E (oO ?_);refine Aj (nR Γ.toTy E E E E) E E ?_
   (refine rg ?_;(conv=>whnf);refine aF ?_;refine oD ?_)
   have wa:=hx.1;have tz:=hx.2.1;refine⟨by omega,by omega,?_⟩
   conv=>whnf
   refine⟨E,by omega,?_⟩
   conv=>whnf
   refine kW ?_;constructor<;>intro h3
   .have h30:0<=ro[x.dev.toNat]'q_:=zO h3;rw[zE h30]at jh v8;refine oO ?_;exact Zj (α:={s:List Item×List Int×List Int // ReachInv n s/\Mv n up s=D}) (L:=λp=>[(0,.ptr 0 0),(2,.ptr 11 0)]) (O:=λp=>[(0,.box (Ys n up ranks (.osl 1) (.osl 2))),(1,.row 1 Aa p.1.2.1),(2,.row 1 Aa p.1.2.2),(11,.box [.osl 12]),(12,.row 3 B3 p.1.1)]) (μ:=λp=>reachM p.1) (x:=⟨(q,ro,co),hI,hDq⟩)
     ⟨((Ef q).dropLast,ro,co),jh.1,v8.symm⟩ [(12,38)] jh.2
     kU
   .have h30:¬0<=ro[x.dev.toNat]'q_:=zT h3;rw[zD h30]at jh v8;refine oO ?_;refine⟨by omega,by omega,?_⟩
    conv=>whnf
    refine⟨by omega,by omega,?_⟩
    conv=>whnf
    refine⟨x.root,E,E,?_⟩
    conv=>whnf
    refine⟨by omega,by omega,E,by omega,x.cost,E,E,?_⟩
    conv=>whnf
    refine kW ?_;generalize ro.set x.dev.toNat x.root=ro' at *;generalize co.set x.dev.toNat x.cost=co' at *;refine Bg n.ports.length (λj=>[(0,.ptr 0 0),(2,.ptr 11 0),(5,.ptr 5 0),(77,.sl 7 Bb n.ports),(78,Aa n.ports.length),(79,Aa j)]) (λj=>[(0,.box (Ys n up ranks (.osl 1) (.osl 2))),(1,.row 1 Aa ro'),(2,.row 1 Aa co'),(5,.box [Aa x.root,Aa x.cost,Aa x.dev]),(11,.box [.osl 12]),(12,.row 3 B3 ((List.range j).foldl (Et n up x) (Ef q).dropLast))]) [(12,38)]
     kU ?_
    intro j hj;refine oO ?_;constructor<;>intro h4
    .have ab:j<n.ports.length:=by simpa using h4
     have e1:n.ports[(j:Int).toNat]'q_=n.ports[j]:=rfl;have bx:=farR n up ranks ro' co' j hr hu ab;have hql:(Ef q).dropLast.length<=q.length:=by rw[tG,Hw];omega
     have hlenQ:=Abl n up x (Ef q).dropLast j;have mu:=hI.few;dsimp only at mu;have ag:(List.range (j+1)).foldl (Et n up x) (Ef q).dropLast=Et n up x ((List.range j).foldl (Et n up x) (Ef q).dropLast) j:=by
      rw[vH,xP];rfl
     generalize (List.range j).foldl (Et n up x) (Ef q).dropLast=Q at *;rw[Et,Bo ab]at ag;refine oO ?_;refine⟨by omega,by omega,?_⟩
     conv=>whnf
     refine⟨by omega,?_⟩;rw[e1]
     conv=>whnf
     refine Aj (Ad [] E F230 bx E kA E kB) E E (oO ?_);constructor<;>intro h5
     .refine oO ?_;constructor<;>intro h6
      .have bd:0<=Eh n up j:=zO h6;have cy:=Adc (up:=up) hr ab bd;rw[zE ⟨kS h5,bd⟩,Ae (l:=n.ports) (i:=Eh n up j) q_]at ag;have hpc:1<=(n.ports[(Eh n up j).toNat]'q_).cost/\(n.ports[(Eh n up j).toNat]'q_).cost<=65535:=by
        simp only[Cv,yU,wE]at aj;have:=aj _ (zI (show (Eh n up j).toNat<n.ports.length by omega));simp only[Iz,yO,zJ,uF]at this;omega
       have hxc:=hx.2.2.2;have jr:=Agl Q ⟨x.root,x.cost+(n.ports[(Eh n up j).toNat]'q_).cost,(n.ports[(Eh n up j).toNat]'q_).dev⟩ q_;refine oO ?_;refine⟨E,bd,by omega,?_⟩
       conv=>whnf
       refine iW ?_;refine⟨E,bd,by omega,?_⟩
       conv=>whnf
       refine Ce (Ad [(0,11),(1,12),(2,123)] E F302 jr E ⟨E,E,Y⟩ E kB) z_ E (gL ?_);refine iW ?_;refine Az [(12,123)] ab ⟨kA,⟨.inl E,E,.inl E,E,.inl E,E,.inl E,E,.inl E,E,.inl (zH (Ob.row 3 B3) ag),E,Y⟩,E,E⟩
      .rw[zD (λhh=>(zT h6) hh.2)]at ag;refine gF ?_;refine Az [] ab ⟨kA,⟨.inl E,E,.inl E,E,.inl E,E,.inl E,E,.inl E,E,.inl (zH (Ob.row 3 B3) ag),E,Y⟩,E,E⟩
     .rw[zD (λhh=>yA hh.1 (kS h5))]at ag;refine oF ?_;refine iW ?_;refine Az [] ab ⟨kA,⟨.inl E,E,.inl E,E,.inl E,E,.inl E,E,.inl E,E,.inl (zH (Ob.row 3 B3) ag),E,Y⟩,E,E⟩
    .have dq:j=n.ports.length:=by
      have:¬j<n.ports.length:=kS h4;omega
     subst dq;refine oO ?_;exact Zj (α:={s:List Item×List Int×List Int // ReachInv n s/\Mv n up s=D}) (L:=λp=>[(0,.ptr 0 0),(2,.ptr 11 0)]) (O:=λp=>[(0,.box (Ys n up ranks (.osl 1) (.osl 2))),(1,.row 1 Aa p.1.2.1),(2,.row 1 Aa p.1.2.2),(11,.box [.osl 12]),(12,.row 3 B3 p.1.1)]) (μ:=λp=>reachM p.1) (x:=⟨(q,ro,co),hI,hDq⟩)
      ⟨((List.range n.ports.length).foldl (Et n up x) (Ef q).dropLast,ro',co'),jh.1,v8.symm⟩ [] jh.2
      kU
  .have he:q=[]:=yC (by
    have:¬ 0<q.length:=kS h2;omega)
   have e:D=(q,ro,co):=by rw[<-hDq,xu he]
   rw[e];refine oO ?_;exact A6 E .nil [] (Afq n up ranks ro co) (λ_ h=>h) E E kU
def okB(n:Net)(up:List Bool):Bool:=decide (up.length=n.links.length)&&(Ac n&&Cv n)
def ok_iff{n:Net}{up:List Bool}:okB n up=true↔up.length=n.links.length/\Ac n=true/\Cv n=true:=by simp[okB]
def Mu(n:Net)(up:List Bool):List Int:=(V7 n up (Cw n)).2.1
def Mz(n:Net)(up:List Bool):List Int:=(V7 n up (Cw n)).2.2
def Ail(n:Net)(up:List Bool):SV:=Vq n up (Cw n) (Mu n up) (Mz n up)
def A4l(n:Net)(up:List Bool)(hn:n.Fin)(h:okB n up=false):Sp 160 [Am n,.sl 1 Ab up] (.tup [.val (.pointer none),Aa 2]):=cT F160 ntmps160 λF hF=>by
 have h':¬(up.length=n.links.length/\Ac n=true/\Cv n=true):=λhh=>by rw[ok_iff.2 hh]at h;cases h
 conv=>whnf
 (repeat' (first|(refine⟨λh=>?_,λh=>?_⟩<;>(repeat (first|simp only[xC]at h|simp only[bne_eq_false_iff_eq]at h|simp only[yU]at h|simp only[wW]at h))<;>((refine oO ?_);repeat((refine aT ?_);(refine oO ?_))))|(refine c0 (A2 n hn) F39 ?_;((refine oO ?_)))|(refine c0 (A2y n hn.ports) F227 ?_;((refine oO ?_)))|refine Ar rfl (.cons .tmp Aq) rfl rfl))
 all_goals exact yA ⟨by omega,by assumption,by assumption⟩ h'
def Vb(m j:Nat):List Int:=List.replicate j (-1)++List.replicate (m-j) 0
def Ary(m:Nat):Vb m 0=List.replicate m 0:=by simp[Vb]
def Axp(m:Nat):Vb m m=List.replicate m (-1):=by simp[Vb]
def Aja(m j:Nat)(h:j<=m):(Vb m j).length=m:=by simp[Vb];omega
def Arz(m j:Nat)(h:j<m):Vb m (j+1)=(Vb m j).set j (-1):=by
 have e:m-j=(m-(j+1))+1:=by omega
 rw[Vb,Vb,e,tZ _ _ y_,xU,tX,List.replicate_succ' (n:=j),tM (n:=m-(j+1))];simp
def openOK(n:Net)(up:List Bool)(hn:n.Fin)(hu:up.length=n.links.length)(hr:Ac n=true)(aj:Cv n=true):Sp 160 [Am n,.sl 1 Ab up] (.tup [Ail n up,Aa 0]):=cT F160 ntmps160 λF hF=>by
 have hf:=Ip hr;have sr:=A2 n hn;have hct:=A2y n hn.ports;have lg:=ranksS n hn;rw[hr]at sr;rw[aj]at hct;rw[hr,zE rfl]at lg;have o6:=Ju n;have p9:∀r∈Cw n,0<=r:=λr h=>(lX n r h).1
 have hsv:Ail n up=Vq n up (Cw n) (V7 n up (Cw n)).2.1 (V7 n up (Cw n)).2.2:=rfl;rw[hsv];generalize Cw n=ranks at *;have j9:=λD hD=>reachS n up ranks (List.replicate n.devices.length (-1)) (List.replicate n.devices.length 0) hr hu aj o6 y_ y_ p9 D hD
 have hRT:Mv n up (H3 ranks ranks.length,List.replicate n.devices.length (-1),List.replicate n.devices.length 0)=V7 n up ranks:=rfl;generalize V7 n up ranks=D at *;have j9:=j9 D hRT;clear hRT hsv
 conv=>whnf
 refine⟨λh=>yA h (by simp[hu]),λh=>?_⟩;refine oO ?_;refine c0 sr F39 (oF ?_);refine c0 hct F227 (oF ?_);refine cD lg F228 (oD ?_);refine Ce (B4 Γ.toTy (d:=31) (n:=n.devices.length) Aa 0 E E E E E E E E q_ q_ E E E) z_ E (oD ?_);refine Ce (B4 Γ.toTy (d:=35) (n:=n.devices.length) Aa 0 E E E E E E E E q_ q_ E E E) z_ E (gL ?_);refine Bg n.devices.length (λj=>[(6,.ptr 37 0),(42,Aa (List.replicate n.devices.length (0:Int)).length),(43,Aa j)]) (λj=>[(37,.box (Ys n up ranks (.osl 31) (.osl 35))),(31,.row 1 Aa (Vb n.devices.length j)),(35,.row 1 Aa (List.replicate n.devices.length 0))]) []
  ⟨⟨rfl,rfl,rfl,rfl,rfl,rfl,trivial⟩,⟨.inl rfl,rfl,.inl (by rw[Ary];rfl),rfl,.inl rfl,rfl,trivial⟩,rfl,rfl⟩ ?_
 intro j hj;have hlen:=Aja n.devices.length j hj;refine gH ?_ ?_<;>intro h
 .have ab:j<n.devices.length:=by simpa using h
  have ag:=Arz n.devices.length j ab;generalize Vb n.devices.length j=u at *;refine oO ?_;refine⟨by omega,by omega,?_⟩
  conv=>whnf
  refine⟨E,by omega,-1,E,E,?_⟩
  conv=>whnf
  refine iW ?_;exact Az [] ab ⟨kA,⟨.inl E,E,.inl (zH (Ob.row 1 Aa) ag),E,.inl E,E,Y⟩,E,E⟩
 have dq:j=n.devices.length:=by
  have:¬j<n.devices.length:=kS h;omega
 subst dq;have dp:=Axp n.devices.length;rw[<-dp]at j9;refine oO ?_;exact Aj (Ad [(0,37),(1,31),(2,35)] E F229 j9 E kA E kB) E E (Ai 31 E (Ai 35 E (Bf 37 12 (.agg (Ys n up ranks (.sl 1 Aa D.2.1) (.sl 1 Aa D.2.2))) E E E gI)))
def Qw{n:Net}{up:List Bool}(h:okB n up=true):Solved n up (Cw n) (Mu n up) (Mz n up):=by
 obtain ⟨hu,hr,aj⟩:=ok_iff.1 h;exact Aej n up (Cw n) hr aj (Ju n) (λr h=>(lX n r h).1)
def Abg(n:Net)(up:List Bool):List Int:=Zw n up (Cw n) (Mu n up) (Mz n up)
def fX(n:Net)(up:List Bool):List Bool:=Axk n (Abg n up)
def Aeh(n:Net)(up:List Bool):(Abg n up).length=n.ports.length:=Jt ..
def Aqo(n:Net)(up:List Bool)(h:okB n up=true):Sp 161 [Ail n up] (.sl 1 Aa (Abg n up)):=by
 obtain ⟨hu,hr,aj⟩:=ok_iff.1 h;have S:=Qw h;exact rolesS n up (Cw n) (Mu n up) (Mz n up) hr hu aj (Ju n) S.rootsL S.costsL (λc hc=>by have:=S.bound c hc;omega)
def Ac6(n:Net)(up:List Bool)(hn:n.Fin)(h:okB n up=false):Sp 101 [Am n,.sl 1 Ab up] (.tup [.sl 1 Ab [],Aa 2]):=cT F101 ntmps101 λF hF=>by
 conv=>whnf
 refine c0 (A4l n up hn h) F160 (oT ?_);exact Ao 4 1 Ab E dN
def oZ(n:Net)(aw:List Int)(j:Nat):List Bool:=(n.links.take j).map (Ai4 aw)++List.replicate (n.links.length-j) false
def Axi(n:Net)(aw:List Int):oZ n aw 0=List.replicate n.links.length false:=by simp[oZ]
def A2h(n:Net)(aw:List Int):oZ n aw n.links.length=Axk n aw:=by simp[oZ,Axk]
def Am3(n:Net)(aw:List Int)(j:Nat)(h:j<=n.links.length):(oZ n aw j).length=n.links.length:=by simp[oZ];omega
def Axj(n:Net)(aw:List Int)(j:Nat)(h:j<n.links.length):oZ n aw (j+1)=(oZ n aw j).set j (Ai4 aw n.links[j]):=by
 have e:n.links.length-j=(n.links.length-(j+1))+1:=by omega
 have el:((n.links.take j).map (Ai4 aw)).length=j:=by simp;omega
 rw[oZ,oZ,tZ _ _ q_,el,tX,yD h,wZ,e,tM,uY];simp
def Agu(n:Net)(up:List Bool)(hn:n.Fin)(h:okB n up=true):Sp 101 [Am n,.sl 1 Ab up] (.tup [.sl 1 Ab (fX n up),Aa 0]):=cT F101 ntmps101 λF hF=>by
 obtain ⟨hu,hr,aj⟩:=ok_iff.1 h;have hf:=Ip hr;have ho:=openOK n up hn hu hr aj;have ji:=Aqo n up h;have v7:=Aeh n up;rw[fX];generalize Abg n up=aw at *;unfold Ail at ho ji;generalize Cw n=ranks at *;generalize Mu n up=roots at *;generalize Mz n up=costs at *
 conv=>whnf
 refine c0 ho F160 (oF ?_);refine gE ji F161 ?_;refine Aj (B4 Γ.toTy (d:=27) (n:=n.links.length) Ab false E E E E E E E E q_ q_ E E E) E E ?_;rw[<-Axi n aw];refine oO ?_;refine Bg n.links.length (λj=>[(8,.sl 1 Aa aw),(9,.osl 27),(29,.sl 3 Ck n.links),(30,Aa n.links.length),(31,Aa j)]) (λj=>[(27,.row 1 Ab (oZ n aw j))]) []
  kU ?_
 intro j hj;have dp:=A2h n aw;refine gH ?_ ?_<;>intro h
 .have ab:j<n.links.length:=by simpa using h
  have he:=Om hr ab;have e1:n.links[(j:Int).toNat]'q_=n.links[j]:=rfl;have hlen:=Am3 n aw j hj;have ag:=Axj n aw j ab;generalize oZ n aw j=u at *;generalize n.links[j]=l at *;rw[Ai4,Ae (l:=aw) (i:=l.a) q_,Ae (l:=aw) (i:=l.b) q_]at ag;refine oO ?_;refine⟨E,by omega,by omega,?_⟩;rw[e1]
  conv=>whnf
  refine⟨E,by omega,by omega,?_⟩
  conv=>whnf
  refine⟨E,by omega,by omega,?_⟩
  conv=>whnf
  refine kW ?_;have hA:0<=l.a/\l.a<aw.length:=by omega
  have hB:0<=l.b/\l.b<aw.length:=by omega
  obtain ⟨x,hx⟩:=kE (aw[l.a.toNat]'q_);obtain ⟨y,hy⟩:=kE (aw[l.b.toNat]'q_);rw[hx,hy]at ag;refine Aoh 46 (e:=Aa) (l:=[x,y]) E (by rw[<-hx,<-hy];rfl) ?_;refine Ai 46 E (gE (Ed [x,y] 1 (by unfold An;simp)) F115 ?_);constructor<;>intro h1
  .rw[h1,yG]at ag;refine oO ?_;refine gE (Ed [x,y] 2 (by unfold An;simp)) F115 ?_;refine⟨by omega,by omega,?_⟩
   conv=>whnf
   refine⟨E,by omega,inB [x,y] 2,E,E,?_⟩
   conv=>whnf
   refine iW ?_;exact Az [] ab ⟨kA,⟨.inl (zH (Ob.row 1 Ab) ag),E,Y⟩,E,E⟩
  .rw[h1,yF]at ag;refine oO ?_;refine⟨by omega,by omega,?_⟩
   conv=>whnf
   refine⟨E,by omega,false,E,E,?_⟩
   conv=>whnf
   refine iW ?_;exact Az [] ab ⟨kA,⟨.inl (zH (Ob.row 1 Ab) ag),E,Y⟩,E,E⟩
 have dq:j=n.links.length:=by
  have:¬j<n.links.length:=kS h;omega
 subst dq;rw[<-dp];refine oO ?_;exact Ai 27 E dN
end
section
section
variable {n:Net} {up:List Bool} {ranks roots costs:List Int}
end
open Go.Proofs Go.Proofs.Tryz
attribute [local irreducible]G DR
set_option maxRecDepth 100000
def Avu(n:Net)(x y:Int)(h0:0<=x)(h1:x<n.devices.length)(h2:0<=y)(h3:y<n.devices.length)(h:nth (Cw n) x=nth (Cw n) y):x=y:=by
 have hl:=Ju n;rw[Ae q_,Ae q_]at h;by_cases y6:x.toNat=y.toNat
 .omega
 .exact yA h (Aia n q_ q_ y6)
def S5(m k:Nat):List Bool:=(List.replicate m false).set k true
def fH{m k i:Nat}(hi:i<m):(S5 m k).getD i false=decide (i=k):=by
 rw[Bo (by simpa [S5] using hi)];simp only[S5,vR,tR];by_cases h:k=i
 .simp[h]
 .rw[zD h];simp;omega
def A4p(n:Net)(k:Nat)(hk:k<n.links.length)(h:okB n (S5 n.links.length k)=true)(i:Nat)(hi:i<n.links.length):(fX n (S5 n.links.length k))[i]? = some (decide (i=k)):=by
 obtain ⟨hu,hr,aj⟩:=ok_iff.1 h;have S:=Qw h;obtain ⟨a,b,ha,hb,o8,uw,af,d5,oy⟩:=Al9 hr hi;have mw:=Atw S hr aj hi ha hb o8 uw d5 oy;rw[fH hi]at mw;simp only[fX,Axk,vU,zR hi,uL,Option.some.injEq];by_cases hik:i=k
 .subst hik;rw[zL rfl]at mw|-;refine mw.2 ⟨E,?_⟩;have mo:(S5 n.links.length i).getD i false=true:=by rw[fH hi];simp
  have hop:=cJ hr hi ha hb d5 o8 mo;have hda:=K3 hr o8;have hdb:=K3 hr uw;have ns:=Vr S hr hop;have y7:∀(p:Nat),p<n.ports.length->(p=a\/p=b)->nth (Mu n (S5 n.links.length i)) (B6 n p)≠nth (Cw n) (B6 n p)->Hb n (S5 n.links.length i) (Cw n) (Mu n (S5 n.links.length i)) (Mz n (S5 n.links.length i)) (B6 n p)=p:=λp hp hpab hn=>by
   have hdp:=K3 hr hp;obtain ⟨q,j,e1,e2,e3,_⟩:=Ahd S hr hdp.1 hdp.2 hn;obtain ⟨k',kr,h1,h2,h3,h4,_⟩:=fS hr e1;rw[fH kr]at h3;have pz:k'=i:=kS h3;subst pz;rw[Ae (l:=n.links) (i:=(k':Int)) (kS kr)]at h4;simp only[zZ]at h4;rw[ha,hb]at h4;rw[e3];have hqab:q=a\/q=b:=by omega
   rcases hpab with rfl|rfl<;>rcases hqab with rfl|rfl
   .rfl
   .exact yA e2.symm af
   .exact yA e2 af
   .rfl
  by_cases hra:nth (Mu n (S5 n.links.length i)) (B6 n a)=nth (Cw n) (B6 n a)
  .refine .inr (y7 b uw (.inr E) λhrb=>af (Avu n _ _ hda.1 hda.2 hdb.1 hdb.2 ?_));rw[<-hra,<-hrb,ns]
  .exact .inl (y7 a o8 (.inl E) hra)
 .rw[zK hik]at mw|-;cases hf:Ai4 (Abg n (S5 n.links.length k)) n.links[i]
  .rfl
  .exact yA (mw.1 hf).1 y_
end
section
instance:Inhabited Vec:=⟨⟨0,0,0,0,0⟩⟩
section
variable {n:Net} {up:List Bool} {ranks roots costs:List Int}
end
end
end Go.Sy.Zaa
