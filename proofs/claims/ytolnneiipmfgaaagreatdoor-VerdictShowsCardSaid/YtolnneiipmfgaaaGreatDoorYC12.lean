/- Parts of a proof. -/
import Derived.Test.YtolnneiipmfgaaaGreatDoorYC11
set_option linter.all false
set_option linter.unusedVariables false
set_option linter.unusedSimpArgs false
set_option linter.deprecated false
namespace Go.Sy.YtolnneiipmfgaaaGreatDoor
open Go.Proofs Go.Proofs.Tryz
def G_lit{C:Cx}{k:List KI}{s:SS}(d:Nat){sz:Nat}{α:Type}(e:α→SV)(l:List α){svs:List SV}(h:s.h d=.lit sz svs)(hl:l.map e=svs)(hg:G C k ⟨s.σ,upd s.h d (.row sz e l)⟩):G C k s:=λκ a w hs=>by
 refine hg κ a w ⟨hs.defers,hs.size,hs.inv,hs.ctx,hs.slot,λj=>?_⟩;show ObOK κ w j (upd s.h d (.row sz e l) j);by_cases hj:j=d
 ·subst hj;rw[B1];have cn:=hs.obj j;rw[h]at cn;have hlen:l.length=svs.length:=by rw[←hl,xA]
  obtain ⟨b,cap,cs,T,fr,e1,e2,e3,e4,e5,e6⟩:=cn;exact .inr ⟨b,cap,cs,T,fr,by rw[hlen];exact e1,e2,e3,e4,by omega,λi x hx=>by rw[hlen];exact e6 i x (Q5 hl i x hx)⟩
 ·rw[Cy _ _ hj];exact hs.obj j
attribute [local irreducible] Go.Sy.G Go.Sy.DR
set_option maxRecDepth 100000
set_option maxHeartbeats 4000000
def Afz(n:Net)(up:List Bool)(x:Item)(q:List Item):∀i,((List.range i).foldl (Ep n up x) q).length≤q.length+i
 |0=>by simp
 |i+1=>by
  have:=Afz n up x q i;rw[vA,xN];simp only[vG,tJ];rw[Ep];split
  ·rw[Mu];omega
  ·omega
def reachS(n:Net)(up:List Bool)(ranks roots costs:List Int)(hr:Ac n=true)(hu:up.length=n.links.length)(aj:Cu n=true)(np:ranks.length=n.devices.length)(nq:roots.length=n.devices.length)(hc:costs.length=n.devices.length)(o7:∀r∈ranks,0≤r)(D:List Item×List Int×List Int)(hD:Md n up (Hs ranks ranks.length,roots,costs)=D):Sq 172 [.ptr 0 0] (Ajr n up ranks roots costs) (.tup []) (Ajr n up ranks D.2.1 D.2.2):=cT F172 ntmps172 λF hF=>by
 have hf:=Ib hr
 conv=>whnf
 refine G_lit 10 B3 [] E E ?_;refine A8 ranks.length (λj=>[(0,.ptr 0 0),(2,.ptr 11 0),(15,.sl 1 Aa ranks),(16,Aa ranks.length),(17,Aa j)]) (λj=>[(0,.box (Xp n up ranks (.osl 1) (.osl 2))),(1,.row 1 Aa roots),(2,.row 1 Aa costs),(11,.box [.osl 12]),(12,.row 3 B3 (Hs ranks j))]) [(12,10)]
  uU ?_
 intro j hj;refine oO ?_;constructor<;>intro h
 ·have ab:j<ranks.length:=by simpa using h
  have e1:ranks[(j:Int).toNat]'q_=ranks[j]:=rfl;have je:=Akj (Hs ranks j) ⟨ranks.getD j 0,0,j⟩ (by rw[Qr];omega);have ag:=Ls ranks j;rw[Bn (show j<ranks.length by omega)]at je ag;refine oO ?_;refine⟨by omega,by omega,?_⟩
  conv=>whnf
  refine⟨by omega,?_⟩;rw[e1]
  conv=>whnf
  refine Ah (Ad [(0,11),(1,12),(2,28)] E F250 je E ⟨E,E,Y⟩ E ⟨.inl E,.inl E,.inr E,Y⟩) E E ?_;refine gE ?_;refine Az [(12,28)] ab ⟨⟨E,E,E,E,E,E,E,E,E,E,Y⟩,⟨.inl E,E,.inl E,E,.inl E,E,.inl E,E,.inl (zH (Ob.row 3 B3) ag),E,Y⟩,E,E⟩
 ·have er:j=ranks.length:=by
   have:¬j<ranks.length:=by simpa using h
   omega
  subst er;refine oO ?_;refine Wl (α:={s:List Item×List Int×List Int // ReachInv n s∧Md n up s=D}) (λp=>[(0,.ptr 0 0),(2,.ptr 11 0)]) (λp=>[(0,.box (Xp n up ranks (.osl 1) (.osl 2))),(1,.row 1 Aa p.1.2.1),(2,.row 1 Aa p.1.2.2),(11,.box [.osl 12]),(12,.row 3 B3 p.1.1)]) (λp=>reachM p.1) ⟨(Hs ranks ranks.length,roots,costs),Ajo n ranks roots costs hr np nq hc o7,hD⟩ []
   uU ?_
  rintro ⟨⟨q,ro,co⟩,hI,hDq⟩;have hlen:=Ab5 q;have wu:=Ath n up (q,ro,co);have u6:=Aoz n up hr aj (q,ro,co) hI;dsimp only at wu u6⊢;refine oO ?_;refine Ah (Iy [12] E F251 hlen (.cons (.row E E) .nil) E E) E E ?_;refine oO ?_;constructor<;>intro h2
  ·have af:q≠[]:=λe=>by subst e;simp at h2
   have uy:=A4m q af (by have:=hI.few;simp only at this;omega);have hx:=hI.items _ ((Ws q af).mem_iff.1 (List.getLast_mem (Hg af)));have br:Te n up (q,ro,co)=if 0≤nth ro ((Ec q).getLast (Hg af)).dev then ((Ec q).dropLast,ro,co) else ((List.range n.ports.length).foldl (Ep n up ((Ec q).getLast (Hg af))) (Ec q).dropLast,ro.set ((Ec q).getLast (Hg af)).dev.toNat ((Ec q).getLast (Hg af)).root,co.set ((Ec q).getLast (Hg af)).dev.toNat ((Ec q).getLast (Hg af)).cost):=by
    rw[Te,Agp af]
   have i7:=Od n up hr aj (q,ro,co) hI af;have u7:=u6 af;rw[hDq]at u7;rw[br]at i7 u7;generalize (Ec q).getLast (Hg af)=x at *;have hroL:=hI.rootsL;have hcoL:=hI.costsL;dsimp only at hroL hcoL;rw[Af (l:=ro) (i:=x.dev) q_]at i7 u7;refine oO ?_;refine Ah (Ad [(0,11),(1,12),(2,38)] E F252 uy E ⟨E,E,Y⟩ E ⟨.inl E,.inl E,.inr E,Y⟩) E E ?_;refine oO ?_;refine Ah (Adv Γ.toTy E E E E) E E ?_
   (refine rg ?_;(conv=>whnf);refine aF ?_;refine oD ?_)
   have hx1:=hx.1;have hx2:=hx.2.1;refine⟨by omega,by omega,?_⟩
   conv=>whnf
   refine⟨E,by omega,?_⟩
   conv=>whnf
   refine kW ?_;constructor<;>intro h3
   ·have h30:0≤ro[x.dev.toNat]'q_:=zO h3;rw[zE h30]at i7 u7;refine oO ?_;exact Ye (α:={s:List Item×List Int×List Int // ReachInv n s∧Md n up s=D}) (L:=λp=>[(0,.ptr 0 0),(2,.ptr 11 0)]) (O:=λp=>[(0,.box (Xp n up ranks (.osl 1) (.osl 2))),(1,.row 1 Aa p.1.2.1),(2,.row 1 Aa p.1.2.2),(11,.box [.osl 12]),(12,.row 3 B3 p.1.1)]) (μ:=λp=>reachM p.1) (x:=⟨(q,ro,co),hI,hDq⟩)
     ⟨((Ec q).dropLast,ro,co),i7.1,u7.symm⟩ [(12,38)] i7.2
     uU
   ·have h30:¬0≤ro[x.dev.toNat]'q_:=zT h3;rw[zD h30]at i7 u7;refine oO ?_;refine⟨by omega,by omega,?_⟩
    conv=>whnf
    refine⟨by omega,by omega,?_⟩
    conv=>whnf
    refine⟨x.root,E,E,?_⟩
    conv=>whnf
    refine⟨by omega,by omega,E,by omega,x.cost,E,E,?_⟩
    conv=>whnf
    refine kW ?_;generalize ro.set x.dev.toNat x.root=ro' at *;generalize co.set x.dev.toNat x.cost=co' at *;refine A8 n.ports.length (λj=>[(0,.ptr 0 0),(2,.ptr 11 0),(5,.ptr 5 0),(77,.sl 7 A7 n.ports),(78,Aa n.ports.length),(79,Aa j)]) (λj=>[(0,.box (Xp n up ranks (.osl 1) (.osl 2))),(1,.row 1 Aa ro'),(2,.row 1 Aa co'),(5,.box [Aa x.root,Aa x.cost,Aa x.dev]),(11,.box [.osl 12]),(12,.row 3 B3 ((List.range j).foldl (Ep n up x) (Ec q).dropLast))]) [(12,38)]
     uU ?_
    intro j hj;refine oO ?_;constructor<;>intro h4
    ·have ab:j<n.ports.length:=by simpa using h4
     have e1:n.ports[(j:Int).toNat]'q_=n.ports[j]:=rfl;have eu:=farR n up ranks ro' co' j hr hu ab;have hql:(Ec q).dropLast.length≤q.length:=by rw[uX,Hn];omega
     have hlenQ:=Afz n up x (Ec q).dropLast j;have ns:=hI.few;dsimp only at ns;have ag:(List.range (j+1)).foldl (Ep n up x) (Ec q).dropLast=Ep n up x ((List.range j).foldl (Ep n up x) (Ec q).dropLast) j:=by
      rw[vA,xN];rfl
     generalize (List.range j).foldl (Ep n up x) (Ec q).dropLast=Q at *;rw[Ep,Bn ab]at ag;refine oO ?_;refine⟨by omega,by omega,?_⟩
     conv=>whnf
     refine⟨by omega,?_⟩;rw[e1]
     conv=>whnf
     refine Ah (Ad [] E F173 eu E ⟨E,E,E,Y⟩ E ⟨.inl E,.inl E,.inl E,Y⟩) E E ?_;refine oO ?_;constructor<;>intro h5
     ·refine oO ?_;constructor<;>intro h6
      ·have bl:0≤Ed n up j:=zO h6;have cw:=Ahj (up:=up) hr ab bl;rw[zE ⟨by simpa using h5,bl⟩,Af (l:=n.ports) (i:=Ed n up j) q_]at ag;have hpc:1≤(n.ports[(Ed n up j).toNat]'q_).cost∧(n.ports[(Ed n up j).toNat]'q_).cost≤65535:=by
        simp only[Cu,yT,vD]at aj;have:=aj _ (zJ (show (Ed n up j).toNat<n.ports.length by omega));simp only[Im,yO,zK,uL]at this;omega
       have hxc:=hx.2.2.2;have je:=Akj Q ⟨x.root,x.cost+(n.ports[(Ed n up j).toNat]'q_).cost,(n.ports[(Ed n up j).toNat]'q_).dev⟩ q_;refine oO ?_;refine⟨E,bl,by omega,?_⟩
       conv=>whnf
       refine iW ?_;refine⟨E,bl,by omega,?_⟩
       conv=>whnf
       refine Bv (Ad [(0,11),(1,12),(2,123)] E F250 je E ⟨E,E,Y⟩ E ⟨.inl E,.inl E,.inr E,Y⟩) z_ E ?_;refine gH ?_;refine iW ?_;refine Az [(12,123)] ab ⟨⟨E,E,E,E,E,E,E,E,E,E,E,E,Y⟩,⟨.inl E,E,.inl E,E,.inl E,E,.inl E,E,.inl E,E,.inl (zH (Ob.row 3 B3) ag),E,Y⟩,E,E⟩
      ·rw[zD (λhh=>(zT h6) hh.2)]at ag;refine gE ?_;refine Az [] ab ⟨⟨E,E,E,E,E,E,E,E,E,E,E,E,Y⟩,⟨.inl E,E,.inl E,E,.inl E,E,.inl E,E,.inl E,E,.inl (zH (Ob.row 3 B3) ag),E,Y⟩,E,E⟩
     ·rw[zD (λhh=>yB hh.1 (by simpa using h5))]at ag;refine oF ?_;refine iW ?_;refine Az [] ab ⟨⟨E,E,E,E,E,E,E,E,E,E,E,E,Y⟩,⟨.inl E,E,.inl E,E,.inl E,E,.inl E,E,.inl E,E,.inl (zH (Ob.row 3 B3) ag),E,Y⟩,E,E⟩
    ·have er:j=n.ports.length:=by
      have:¬j<n.ports.length:=by simpa using h4
      omega
     subst er;refine oO ?_;exact Ye (α:={s:List Item×List Int×List Int // ReachInv n s∧Md n up s=D}) (L:=λp=>[(0,.ptr 0 0),(2,.ptr 11 0)]) (O:=λp=>[(0,.box (Xp n up ranks (.osl 1) (.osl 2))),(1,.row 1 Aa p.1.2.1),(2,.row 1 Aa p.1.2.2),(11,.box [.osl 12]),(12,.row 3 B3 p.1.1)]) (μ:=λp=>reachM p.1) (x:=⟨(q,ro,co),hI,hDq⟩)
      ⟨((List.range n.ports.length).foldl (Ep n up x) (Ec q).dropLast,ro',co'),i7.1,u7.symm⟩ [] i7.2
      uU
  ·have he:q=[]:=zX (by
    have:¬0<q.length:=by simpa using h2
    omega)
   have e:D=(q,ro,co):=by rw[←hDq,wu he]
   rw[e];refine oO ?_;exact A4 E .nil [] (Ajr n up ranks ro co) (λ_ h=>h) E E uU
def okB(n:Net)(up:List Bool):Bool:=decide (up.length=n.links.length)&&(Ac n&&Cu n)
def ok_iff{n:Net}{up:List Bool}:okB n up=true↔up.length=n.links.length∧Ac n=true∧Cu n=true:=by simp[okB]
def Mc(n:Net)(up:List Bool):List Int:=(Ve n up (Cv n)).2.1
def Mg(n:Net)(up:List Bool):List Int:=(Ve n up (Cv n)).2.2
def Amh(n:Net)(up:List Bool):SV:=U0 n up (Cv n) (Mc n up) (Mg n up)
def A6v(n:Net)(up:List Bool)(hn:n.Fin)(h:okB n up=false):Sp 101 [Ao n,.sl 1 Ab up] (.tup [.val (.pointer none),Aa 2]):=cT F101 ntmps101 λF hF=>by
 have h':¬(up.length=n.links.length∧Ac n=true∧Cu n=true):=λhh=>by rw[ok_iff.2 hh]at h;cases h
 conv=>whnf
 (repeat' (first|(refine⟨λh=>?_,λh=>?_⟩<;>(repeat (first|simp only[xB]at h|simp only[bne_eq_false_iff_eq]at h|simp only[yT]at h|simp only[wS]at h))<;>((refine oO ?_);repeat((refine aT ?_);(refine oO ?_))))|(refine c0 (A0 n hn) F20 ?_;((refine oO ?_)))|(refine c0 (A5b n hn.ports) F170 ?_;((refine oO ?_)))|refine As rfl (.cons .tmp (.cons .tmp .nil)) rfl rfl))
 all_goals exact yB ⟨by omega,by assumption,by assumption⟩ h'
def Uj(m j:Nat):List Int:=List.replicate j (-1)++List.replicate (m-j) 0
def Au5(m:Nat):Uj m 0=List.replicate m 0:=by simp[Uj]
def A0n(m:Nat):Uj m m=List.replicate m (-1):=by simp[Uj]
def Am7(m j:Nat)(h:j≤m):(Uj m j).length=m:=by simp[Uj];omega
def Au6(m j:Nat)(h:j<m):Uj m (j+1)=(Uj m j).set j (-1):=by
 have e:m-j=(m-(j+1))+1:=by omega
 rw[Uj,Uj,e,tV _ _ y_,xS,tS,List.replicate_succ' (n:=j),tF (n:=m-(j+1))];simp
def openOK(n:Net)(up:List Bool)(hn:n.Fin)(hu:up.length=n.links.length)(hr:Ac n=true)(aj:Cu n=true):Sp 101 [Ao n,.sl 1 Ab up] (.tup [Amh n up,Aa 0]):=cT F101 ntmps101 λF hF=>by
 have hf:=Ib hr;have tv:=A0 n hn;have hct:=A5b n hn.ports;have hrs:=ranksS n hn;rw[hr]at tv;rw[aj]at hct;rw[hr,zE rfl]at hrs;have np:=Jg n;have o7:∀r∈Cv n,0≤r:=λr h=>(Ada n r h).1
 have hsv:Amh n up=U0 n up (Cv n) (Ve n up (Cv n)).2.1 (Ve n up (Cv n)).2.2:=rfl;rw[hsv];generalize Cv n=ranks at *;have ju:=λD hD=>reachS n up ranks (List.replicate n.devices.length (-1)) (List.replicate n.devices.length 0) hr hu aj np y_ y_ o7 D hD
 have hRT:Md n up (Hs ranks ranks.length,List.replicate n.devices.length (-1),List.replicate n.devices.length 0)=Ve n up ranks:=rfl;generalize Ve n up ranks=D at *;have ju:=ju D hRT;clear hRT hsv
 conv=>whnf
 refine⟨λh=>yB h (by simp[hu]),λh=>?_⟩;refine oO ?_;refine c0 tv F20 ?_;refine oF ?_;refine c0 hct F170 ?_;refine oF ?_;refine cD hrs F171 ?_;refine oD ?_;refine Bv (B4 Γ.toTy (d:=31) (n:=n.devices.length) Aa 0 E E E E E E E E q_ q_ E E E) z_ E ?_;refine oD ?_;refine Bv (B4 Γ.toTy (d:=35) (n:=n.devices.length) Aa 0 E E E E E E E E q_ q_ E E E) z_ E ?_;refine gH ?_;refine A8 n.devices.length (λj=>[(6,.ptr 37 0),(42,Aa (List.replicate n.devices.length (0:Int)).length),(43,Aa j)]) (λj=>[(37,.box (Xp n up ranks (.osl 31) (.osl 35))),(31,.row 1 Aa (Uj n.devices.length j)),(35,.row 1 Aa (List.replicate n.devices.length 0))]) []
  ⟨⟨rfl,rfl,rfl,rfl,rfl,rfl,trivial⟩,⟨.inl rfl,rfl,.inl (by rw[Au5];rfl),rfl,.inl rfl,rfl,trivial⟩,rfl,rfl⟩ ?_
 intro j hj;have hlen:=Am7 n.devices.length j hj;refine oO ?_;constructor<;>intro h
 ·have ab:j<n.devices.length:=by simpa using h
  have ag:=Au6 n.devices.length j ab;generalize Uj n.devices.length j=u at *;refine oO ?_;refine⟨by omega,by omega,?_⟩
  conv=>whnf
  refine⟨E,by omega,-1,E,E,?_⟩
  conv=>whnf
  refine iW ?_;exact Az [] ab ⟨⟨E,E,E,E,E,E,Y⟩,⟨.inl E,E,.inl (zH (Ob.row 1 Aa) ag),E,.inl E,E,Y⟩,E,E⟩
 have er:j=n.devices.length:=by
  have:¬j<n.devices.length:=by simpa using h
  omega
 subst er;have df:=A0n n.devices.length;rw[←df]at ju;refine oO ?_;refine Ah (Ad [(0,37),(1,31),(2,35)] E F172 ju E ⟨E,E,E,Y⟩ E ⟨.inl E,.inl E,.inl E,Y⟩) E E ?_;refine Aj 31 E ?_;refine Aj 35 E ?_;refine Ba 37 12 (.agg (Xp n up ranks (.sl 1 Aa D.2.1) (.sl 1 Aa D.2.2))) E E E ?_;exact gF
def Qb{n:Net}{up:List Bool}(h:okB n up=true):Solved n up (Cv n) (Mc n up) (Mg n up):=by
 obtain ⟨hu,hr,aj⟩:=ok_iff.1 h;exact Ail n up (Cv n) hr aj (Jg n) (λr h=>(Ada n r h).1)
def Afu(n:Net)(up:List Bool):List Int:=Ys n up (Cv n) (Mc n up) (Mg n up)
def Ack(n:Net)(up:List Bool):List Bool:=A0i n (Afu n up)
def Aij(n:Net)(up:List Bool):(Afu n up).length=n.ports.length:=Jf ..
def Atz(n:Net)(up:List Bool)(h:okB n up=true):Sp 102 [Amh n up] (.sl 1 Aa (Afu n up)):=by
 obtain ⟨hu,hr,aj⟩:=ok_iff.1 h;have S:=Qb h;exact rolesS n up (Cv n) (Mc n up) (Mg n up) hr hu aj (Jg n) S.rootsL S.costsL (λc hc=>by have:=S.bound c hc;omega)
def Ahc(n:Net)(up:List Bool)(hn:n.Fin)(h:okB n up=false):Sp 37 [Ao n,.sl 1 Ab up] (.tup [.sl 1 Ab [],Aa 2]):=cT F37 ntmps37 λF hF=>by
 conv=>whnf
 refine c0 (A6v n up hn h) F101 ?_;refine oT ?_;refine An 4 1 Ab E ?_;exact dN
def Aeo(n:Net)(aw:List Int)(j:Nat):List Bool:=(n.links.take j).map (Am0 aw)++List.replicate (n.links.length-j) false
def A0g(n:Net)(aw:List Int):Aeo n aw 0=List.replicate n.links.length false:=by simp[Aeo]
def A4x(n:Net)(aw:List Int):Aeo n aw n.links.length=A0i n aw:=by simp[Aeo,A0i]
def Aqo(n:Net)(aw:List Int)(j:Nat)(h:j≤n.links.length):(Aeo n aw j).length=n.links.length:=by simp[Aeo];omega
def A0h(n:Net)(aw:List Int)(j:Nat)(h:j<n.links.length):Aeo n aw (j+1)=(Aeo n aw j).set j (Am0 aw n.links[j]):=by
 have e:n.links.length-j=(n.links.length-(j+1))+1:=by omega
 have el:((n.links.take j).map (Am0 aw)).length=j:=by simp;omega
 rw[Aeo,Aeo,tV _ _ q_,el,tS,yC h,wZ,e,tF,uR];simp
def Aks(n:Net)(up:List Bool)(hn:n.Fin)(h:okB n up=true):Sp 37 [Ao n,.sl 1 Ab up] (.tup [.sl 1 Ab (Ack n up),Aa 0]):=cT F37 ntmps37 λF hF=>by
 obtain ⟨hu,hr,aj⟩:=ok_iff.1 h;have hf:=Ib hr;have ho:=openOK n up hn hu hr aj;have nq:=Atz n up h;have wy:=Aij n up;rw[Ack];generalize Afu n up=aw at *;unfold Amh at ho nq;generalize Cv n=ranks at *;generalize Mc n up=roots at *;generalize Mg n up=costs at *
 conv=>whnf
 refine c0 ho F101 ?_;refine oF ?_;refine c0 nq F102 ?_;refine oO ?_;refine Ah (B4 Γ.toTy (d:=27) (n:=n.links.length) Ab false E E E E E E E E q_ q_ E E E) E E ?_;rw[←A0g n aw];refine oO ?_;refine A8 n.links.length (λj=>[(8,.sl 1 Aa aw),(9,.osl 27),(29,.sl 3 B5 n.links),(30,Aa n.links.length),(31,Aa j)]) (λj=>[(27,.row 1 Ab (Aeo n aw j))]) []
  uU ?_
 intro j hj;have df:=A4x n aw;refine oO ?_;constructor<;>intro h
 ·have ab:j<n.links.length:=by simpa using h
  have he:=M1 hr ab;have e1:n.links[(j:Int).toNat]'q_=n.links[j]:=rfl;have hlen:=Aqo n aw j hj;have ag:=A0h n aw j ab;generalize Aeo n aw j=u at *;generalize n.links[j]=l at *;rw[Am0,Af (l:=aw) (i:=l.a) q_,Af (l:=aw) (i:=l.b) q_]at ag;refine oO ?_;refine⟨E,by omega,by omega,?_⟩;rw[e1]
  conv=>whnf
  refine⟨E,by omega,by omega,?_⟩
  conv=>whnf
  refine⟨E,by omega,by omega,?_⟩
  conv=>whnf
  refine kW ?_;have hA:0≤l.a∧l.a<aw.length:=by omega
  have hB:0≤l.b∧l.b<aw.length:=by omega
  obtain ⟨x,hx⟩:∃x,aw[l.a.toNat]'q_=x:=⟨_,rfl⟩
  obtain ⟨y,hy⟩:∃y,aw[l.b.toNat]'q_=y:=⟨_,rfl⟩
  rw[hx,hy]at ag;refine Aru 46 (e:=Aa) (l:=[x,y]) E (by rw[←hx,←hy];rfl) ?_;refine Aj 46 E ?_;refine c0 (Eb [x,y] 1 (by unfold Am;simp)) F74 ?_;refine oO ?_;constructor<;>intro h1
  ·rw[h1,yF]at ag;refine oO ?_;refine c0 (Eb [x,y] 2 (by unfold Am;simp)) F74 ?_;refine oO ?_;refine⟨by omega,by omega,?_⟩
   conv=>whnf
   refine⟨E,by omega,inB [x,y] 2,E,E,?_⟩
   conv=>whnf
   refine iW ?_;exact Az [] ab ⟨⟨E,E,E,E,E,E,E,E,E,E,Y⟩,⟨.inl (zH (Ob.row 1 Ab) ag),E,Y⟩,E,E⟩
  ·rw[h1,yG]at ag;refine oO ?_;refine⟨by omega,by omega,?_⟩
   conv=>whnf
   refine⟨E,by omega,false,E,E,?_⟩
   conv=>whnf
   refine iW ?_;exact Az [] ab ⟨⟨E,E,E,E,E,E,E,E,E,E,Y⟩,⟨.inl (zH (Ob.row 1 Ab) ag),E,Y⟩,E,E⟩
 have er:j=n.links.length:=by
  have:¬j<n.links.length:=by simpa using h
  omega
 subst er;rw[←df];refine oO ?_;refine Aj 27 E ?_;exact dN
end Go.Sy.YtolnneiipmfgaaaGreatDoor
namespace Go.Sy.YtolnneiipmfgaaaGreatDoor
open Go.Proofs Go.Proofs.Tryz
structure MacM where
 up:List Bool
 tables:List (List EntryM)
 queues:List (List QueuedM)
 now:Int
 injected:Int
 drops:Nat→Int
def Dd(m:MacM)(e:Int):MacM:=⟨m.up,m.tables,m.queues,m.now,m.injected,λi=>if i=e.toNat then m.drops i+1 else m.drops i⟩
def queueL(m:MacM)(dom:Int):List QueuedM:=(m.queues[dom.toNat]?).getD []
def tableL(m:MacM)(dom:Int):List EntryM:=(m.tables[dom.toNat]?).getD []
def Q4(m:MacM)(dom:Int)(l:List QueuedM):MacM:=⟨m.up,m.tables,m.queues.set dom.toNat l,m.now,m.injected,m.drops⟩
def E1(m:MacM)(dom:Int)(t:List EntryM):MacM:=⟨m.up,m.tables.set dom.toNat t,m.queues,m.now,m.injected,m.drops⟩
def comeM(m:MacM)(dom:Int)(q:QueuedM)(e:Int):MacM :=
 if e≠0 then Dd m e else if (pushT (queueL m dom) q).2=true then Q4 m dom (pushT (queueL m dom) q).1 else Dd m 3
def takeM(m:MacM)(dom at_:Int):MacM×QueuedM×Bool :=
 if Ai dom m.queues.length=false then (m,noQ,false)
 else (Q4 m dom (takeT (queueL m dom) at_).2.1,(takeT (queueL m dom) at_).1,(takeT (queueL m dom) at_).2.2)
def injectT(n:Net)(m:MacM)(port:Int)(b:List UInt8):MacM :=
 if Ai port n.ports.length=false∨0≤(nth n.ports port).link then m
 else comeM ⟨m.up,m.tables,m.queues,m.now,m.injected+1,m.drops⟩ (enterT n port b).1 ⟨port,0,m.injected+1,(enterT n port b).2.1⟩ (enterT n port b).2.2
def goesM(n:Net)(m:MacM)(o:OutM)(origin:Int):MacM×List SeenM :=
 if o.kind=1 then (m,[⟨o.port,origin,o.bytes⟩])
 else if o.kind=2 then (comeM m (linkT n o.port o.bytes).2.1 ⟨(linkT n o.port o.bytes).1,0,origin,(linkT n o.port o.bytes).2.2.1⟩ (linkT n o.port o.bytes).2.2.2,[])
 else if o.kind=3 then (comeM m (comeT n o.bytes).2.1 ⟨-1,(comeT n o.bytes).1,origin,(comeT n o.bytes).2.2.1⟩ (comeT n o.bytes).2.2.2,[])
 else if o.kind=4 then (comeM m o.domain ⟨-2,0,origin,o.frame⟩ 0,[])
 else (Dd m o.error,[])
def By(n:Net)(m:MacM)(origin:Int):List OutM→MacM×List SeenM
 |[]=>(m,[])
 |o::l=>((By n (goesM n m o origin).1 origin l).1,(goesM n m o origin).2++(By n (goesM n m o origin).1 origin l).2)
def Ki(n:Net)(up:List Bool):List Bool:=if okB n up=true then Ack n up else []
def Z2(n:Net)(m:MacM)(dom:Int)(q:QueuedM):List EntryM×List OutM×Int:=bridgeT n (Ki n m.up) (tableL m dom) dom q m.now
def Vl(m:MacM)(dom:Int)(r:List EntryM×List OutM×Int):MacM :=
 if r.2.2=2 then Dd m 2 else if r.2.2≠0 then Dd (E1 m dom r.1) r.2.2 else E1 m dom r.1
def pickT(n:Net)(m:MacM)(dom at_:Int):MacM×List SeenM :=
 if (takeM m dom at_).2.2=false then ((takeM m dom at_).1,[])
 else By n (Vl (takeM m dom at_).1 dom (Z2 n (takeM m dom at_).1 dom (takeM m dom at_).2.1)) (takeM m dom at_).2.1.origin (Z2 n (takeM m dom at_).1 dom (takeM m dom at_).2.1).2.1
def Xo(m:MacM):MacM :=
 let now:=min (m.now+1) 1099511627776
 ⟨m.up,m.tables.map (λt=>ageT t now),m.queues,now,m.injected,m.drops⟩
def doT(n:Net)(m:MacM)(x:StepM):MacM×List SeenM :=
 if x.kind=1 then (injectT n m x.port x.bytes,[])
 else if x.kind=2 then pickT n m x.domain x.at_
 else if x.kind=3 then ((takeM m x.domain x.at_).1,[])
 else if x.kind=4 then (Xo m,[])
 else if x.kind=5 then ((if x.up.length=n.links.length then ⟨x.up,m.tables,m.queues,m.now,m.injected,m.drops⟩ else m),[])
 else (m,[])
def newT(n:Net):MacM:=⟨List.replicate n.links.length true,List.replicate n.domains.length [],List.replicate n.domains.length [],0,0,λ_=>0⟩
def D7(n:Net):MacM→List StepM→MacM×List SeenM
 |m,[]=>(m,[])
 |m,x::l=>((D7 n (doT n m x).1 l).1,(doT n m x).2++(D7 n (doT n m x).1 l).2)
def Cf(e:Int):Prop:=0≤e∧e<64
def DomIn(n:Net)(d:Int):Prop:=0≤d∧d.toNat<n.domains.length
def Oi{n:Net}{d:Int}(h:Ai d n.domains.length=true):DomIn n d:=by
 have:=C0 h;unfold DomIn;omega
def Abt(b:List UInt8):Cf (takeF b).2:=by
 unfold takeF Cf
 repeat' split
 all_goals (dsimp only;omega)
def Ar7(f:FrameM):Cf (stripT f).2.2.2:=by
 unfold stripT Cf
 repeat' split
 all_goals (dsimp only;omega)
def Ahl(n:Net)(port:Int)(b:List UInt8):Cf (enterT n port b).2.2:=by
 have h1:=Abt b;have h2:=Ar7 (takeF b).1;have h3:∀f tg v,Cf (J1 n port f tg v).2.2:=λf tg v=>by
  unfold J1 Cf
  repeat' split
  all_goals (dsimp only;omega)
 unfold enterT;split
 ·unfold Cf;dsimp only;omega
 split
 ·exact h1
 split
 ·split
  ·exact h2
  ·exact h3 _ _ _
 ·exact h3 _ _ _
def Az2(n:Net)(port:Int)(b:List UInt8):Cf (linkT n port b).2.2.2:=by
 unfold linkT;split
 ·unfold Cf;dsimp only;omega
 ·exact Ahl _ _ _
def Aue(n:Net)(port dom:Int)(f:FrameM):Cf (leaveT n port dom f).2:=by
 unfold leaveT;split
 ·unfold Cf;dsimp only;omega
 split
 ·unfold Cf;dsimp only;omega
 split
 ·unfold Cf;dsimp only;omega
 split
 ·unfold Cf;dsimp only;omega
 split
 ·show Cf (tagT f (nth n.domains dom).vlan).2;unfold tagT Cf
  repeat' split
  all_goals (dsimp only;omega)
 ·unfold Cf;dsimp only;omega
def Axr(a b:Nat)(v:Int)(f:FrameM):Cf (wrapT a b v f).2:=by
 unfold wrapT Cf
 repeat' split
 all_goals (dsimp only;omega)
def Azr(n:Net)(dom peer:Int)(f:FrameM):Cf (meshT n dom peer f).2:=by
 unfold meshT;split
 ·unfold Cf;dsimp only;omega
 split
 ·unfold Cf;dsimp only;omega
 ·exact Axr _ _ _ _
def Adq(b:List UInt8):Cf (ipTakeT b).2:=by
 unfold ipTakeT Cf
 repeat' split
 all_goals (dsimp only;omega)
def Alo(b:List UInt8):Cf (udpTakeT b).2.2.2:=by
 unfold udpTakeT Cf
 repeat' split
 all_goals (dsimp only;omega)
def A1p(b:List UInt8):Cf (vniT b).2.2:=by
 unfold vniT Cf
 repeat' split
 all_goals (dsimp only;omega)
def Atx(b:List UInt8):Cf (outerT b).2:=by
 unfold outerT;split
 ·exact Abt _
 split
 ·unfold Cf;dsimp only;omega
 split
 ·exact Adq _
 ·unfold Cf;dsimp only;split<;>omega
def Aut(b:List UInt8):Cf (Me b).2.2:=by
 unfold Me;split
 ·exact Alo _
 split
 ·unfold Cf;dsimp only;omega
 split
 ·exact A1p _
 split
 ·exact Abt _
 split
 ·unfold Cf;dsimp only;omega
 ·unfold Cf;dsimp only;omega
def Aoa(b:List UInt8):Cf (Cn b).2.2.2.2:=by
 unfold Cn;split
 ·exact Atx _
 split
 ·exact Aut _
 ·unfold Cf;dsimp only;omega
def A0y(n:Net)(b:List UInt8):Cf (comeT n b).2.2.2:=by
 unfold comeT;split
 ·unfold Cf;dsimp only;omega
 split
 ·exact Aoa _
 split
 ·unfold Cf;dsimp only;omega
 split
 ·unfold Cf;dsimp only;omega
 ·unfold Cf;dsimp only;omega
def A4k(n:Net)(irb:Int)(f:FrameM):Cf (hopT n irb f).2.2:=by
 unfold hopT;split
 ·unfold Cf;dsimp only;omega
 split
 ·unfold Cf;dsimp only;omega
 split
 ·exact Adq _
 split
 ·unfold Cf;dsimp only;omega
 split
 ·unfold Cf;dsimp only;omega
 split
 ·unfold Cf;dsimp only;omega
 ·unfold Cf;dsimp only;omega
def Ard(n:Net)(fw:List Bool)(t:List EntryM)(dom:Int)(q:QueuedM)(now:Int):Cf (bridgeT n fw t dom q now).2.2:=by
 unfold bridgeT;split
 ·unfold Cf;dsimp only;omega
 split
 ·split
  ·exact A4k _ _ _
  ·unfold Cf;dsimp only;omega
 ·unfold Cf;dsimp only;omega
def Axe{n:Net}{dev v:Int}(h:Eo n dev v=true):DomIn n (C5 n dev v):=by
 have h1:0≤C5 n dev v:=by simpa [Eo] using h
 have h2:C5 n dev v<n.domains.length:=Ij _ _;exact⟨h1,by omega⟩
def A1q{n:Net}(hb:Ac n=true){port:Int}(hp:Ai port n.ports.length=true){tg:Bool}{gr:Int}(h:(vlanT (nth n.ports port) tg gr).2=true):DomIn n (C5 n (nth n.ports port).dev (vlanT (nth n.ports port) tg gr).1):=by
 have hk:=C0 hp;have cq:port.toNat<n.ports.length:=by omega
 simp only[Ac,zG]at hb;have tw:=allB_iff.1 hb.1.1.1.1.1.2 _ cq;rw[Af cq]at h⊢;generalize n.ports[port.toNat]=p at *;simp only[J8,zG]at tw;obtain ⟨⟨⟨⟨⟨⟨⟨⟨g1,g2⟩,g3⟩,g4⟩,g5⟩,g6⟩,g7⟩,g8⟩,g9⟩:=tw;unfold vlanT at h⊢;split
 ·rw[zE (by assumption)]at h;have h1:p.native≠0:=by simpa using h
  have h2:0≤p.native:=by simpa using g2
  refine Axe ?_;have h3:decide (0<p.native)=true:=by simp;omega
  rw[h3,yF]at g8;simpa using g8
 ·rw[zD (by assumption)]at h;split
  ·rename_i h4;have h5:gr∈p.tagged:=inB_mem.1 h4;obtain ⟨i,hi,rfl⟩:=yZ.1 h5;exact Axe (allB_iff.1 g7 i hi)
  ·rw[zD (by assumption)]at h;cases h
def Ahm{n:Net}{port:Int}{b:List UInt8}(h:(enterT n port b).2.2=0):DomIn n (enterT n port b).1:=by
 unfold enterT at h⊢;split
 ·rw[zE (by assumption)]at h;cases h
 rename_i hc;rw[zD hc]at h;have hp:Ai port n.ports.length=true:=by cases hx:Ai port n.ports.length;exact yB (.inl hx) hc;rfl
 have hb:Ac n=true:=by cases hx:Ac n;exact yB (.inr hx) hc;rfl
 have key:∀f tg v,(J1 n port f tg v).2.2=0→DomIn n (J1 n port f tg v).1:=λf tg v h=>by
  unfold J1 at h⊢;split
  ·rw[zE (by assumption)]at h;cases h
  rw[zD (by assumption)]at h;split
  ·rw[zE (by assumption)]at h;cases h
  rename_i h5;show DomIn n (B6 n _ _);rw[B6,zE hb];exact A1q hb hp (by simpa using h5)
 split
 ·rename_i h2;rw[zE h2]at h;exact yB h h2
 rename_i h2;rw[zD h2]at h;split
 ·rename_i h3;rw[zE h3]at h;split
  ·rename_i h4;rw[zE h4]at h;exact yB h h4
  ·rename_i h4;rw[zD h4]at h;exact key _ _ _ h
 ·rename_i h3;rw[zD h3]at h;exact key _ _ _ h
def Az3{n:Net}{port:Int}{b:List UInt8}(h:(linkT n port b).2.2.2=0):DomIn n (linkT n port b).2.1:=by
 unfold linkT at h⊢;split
 ·rw[zE (by assumption)]at h;cases h
 ·rename_i h2;rw[zD h2]at h;exact Ahm h
def Apa{n:Net}(hb:Ac n=true){dom:Nat}(hd:dom<n.domains.length){k:Int}(hk:k∈n.domains[dom].peers):DomIn n k:=by
 simp only[Ac,zG]at hb;have:=allB_iff.1 hb.1.1.1.1.1.1.2 _ hd;obtain ⟨i,hi,rfl⟩:=yZ.1 hk;have h2:=allB_iff.1 this i hi;simp only[Sb,zG]at h2;exact Oi h2.1.1.1.1.1.1.1.1.1
def A43{n:Net}(hb:Ac n=true){src dst:Nat}{vni:Int}(h:¬(endsT n src dst vni).1<0):DomIn n (endsT n src dst vni).1∧DomIn n (endsT n src dst vni).2:=by
 unfold endsT at h⊢;dsimp only at h⊢;split
 ·rw[zE (by assumption)]at h;exact yB j_ h
 rename_i h1;rw[zD h1]at h;split
 ·rw[zE (by assumption)]at h;exact yB j_ h
 rename_i h2;have hd:=Ij (λd:Domain=>decide (d.dev=Br (λd:Device=>decide (d.vtep=(dst:Int))) n.devices)&&decide (d.vni=vni)) n.domains;generalize Br (λd:Domain=>decide (d.dev=Br (λd:Device=>decide (d.vtep=(dst:Int))) n.devices)&&decide (d.vni=vni)) n.domains=dom at *;have iv:dom.toNat<n.domains.length:=by omega
 have hi:=Ij (λk:Int=>decide (C6 n k=(src:Int))) (nth n.domains dom).peers;generalize Br (λk:Int=>decide (C6 n k=(src:Int))) (nth n.domains dom).peers=i at *;rw[Af iv]at hi⊢;have kg:i.toNat<(n.domains[dom.toNat]).peers.length:=by omega
 refine⟨?_,⟨by dsimp only;omega,iv⟩⟩;show DomIn n (nth (n.domains[dom.toNat]).peers i);rw[Af kg];exact Apa hb iv (zJ kg)
def Ak6{n:Net}{b:List UInt8}(h:(comeT n b).2.2.2=0):DomIn n (comeT n b).1∧DomIn n (comeT n b).2.1:=by
 unfold comeT at h⊢;split
 ·rw[zE (by assumption)]at h;cases h
 rename_i hb;rw[zD hb]at h;split
 ·rename_i h2;rw[zE h2]at h;exact yB h h2
 rename_i h2;rw[zD h2]at h;split
 ·rw[zE (by assumption)]at h;cases h
 rename_i h3;rw[zD h3]at h;split
 ·rw[zE (by assumption)]at h;cases h
 exact A43 (by simpa using hb) h3
def A4l{n:Net}{irb:Int}{f:FrameM}(ar:∀(d:Int),(lookT n irb d).2=true→0≤(lookT n irb d).1∧(lookT n irb d).1.toNat<n.irbs.length)(h:(hopT n irb f).2.2=0):DomIn n (hopT n irb f).1:=by
 unfold hopT at h⊢;split
 ·rw[zE (by assumption)]at h;cases h
 rename_i h1;rw[zD h1]at h;split
 ·rw[zE (by assumption)]at h;cases h
 rename_i h2;rw[zD h2]at h;split
 ·rename_i h3;rw[zE h3]at h;exact yB h h3
 rename_i h3;rw[zD h3]at h;split
 ·rw[zE (by assumption)]at h;cases h
 rename_i h4;rw[zD h4]at h;split
 ·rw[zE (by assumption)]at h;cases h
 rename_i h5;rw[zD h5]at h;split
 ·rw[zE (by assumption)]at h;cases h
 have hl:=ar ((ipTakeT f.body).1.dst:Int) (by simpa using h5);have hb:Ac n=true:=by cases hx:Ac n;exact yB (.inr hx) h1;rfl
 have:=(E8 hb hl.2).1;show DomIn n (nth n.irbs _).domain;rw[Af hl.2];exact this
attribute [local irreducible] Go.Sy.G Go.Sy.DR
set_option maxRecDepth 100000
set_option maxHeartbeats 4000000
def Y1(l:List Device)(p:Device→Bool)(f:FuncId)(first cap:List SV)(hc:(SV.clo (.func f) first cap).inn []=true)(hf:∀x∈l,Hb prog f (first++[Aw x]++cap) (Ab (p x)))(hl:Am l):Sp 202 [.sl 5 Aw l,.clo (.func f) first cap] (Aa (Br p l)):=cT F202 ntmps202 λF hF=>by
 unfold Am at hl;have ar:∀x:Device,B8 [] (first++[Aw x]++cap)=true:=λx=>C9 hc rfl
 refine fW ?_;refine Bi l.length (λj=>H8 (λ_ x=>!(p x)) l j) (λj=>[(0,.sl 5 Aw l),(1,.clo (.func f) first cap),(7,Aa l.length),(8,Aa j)]) (λ_=>[]) [] (Bo _ _) ⟨⟨E,E,Bd _,hc,E,E,E,E,Y⟩,Y,E,E⟩ ?_;intro j hj hI;refine fU ?_;constructor<;>intro h
 ·have h:=zO h;have an:j<l.length:=by omega
  refine fU ?_;refine⟨E,by omega,by omega,?_⟩;refine fW ?_;refine Eg (hf l[j] (zJ an)) E E E (by simp only[ar];rfl) E E ?_;refine fU ?_;constructor<;>intro h2
  ·refine fU ?_;refine As E (.cons .tmp .nil) (zH Aa ?_) E;exact Co an (λi hi bc=>by simpa using hI i hi bc) h2
  ·refine gG ?_;exact Bc [] hI an (Bl hI an (by simp[h2])) ⟨⟨E,E,Bd _,hc,E,E,E,E,Y⟩,Y,E,E⟩
 ·have h:=zT h;refine fU ?_;refine As E (.cons .tmp .nil) (zH Aa ?_) E;exact Di (λi hi=>by simpa using hI i hi q_)
def Anb{n:Net}(hb:Ac n=true){d:Int}(hd:DomIn n d):0≤(n.domains[d.toNat]'hd.2).dev∧(n.domains[d.toNat]'hd.2).dev.toNat<n.devices.length:=by
 simp only[Ac,zG]at hb;have:=Ari hb.1.1.1.1.1.1.1.2 hd.2;have:=C0 this;omega
def Anz{n:Net}(hb:Ac n=true){d:Int}(hd:DomIn n d):C6 n d=(n.devices[(n.domains[d.toNat]'hd.2).dev.toNat]'(Anb hb hd).2).vtep:=by
 rw[C6,Af hd.2,Af (Anb hb hd).2]
def Anx{n:Net}(hm:n.Num)(hb:Ac n=true){d:Int}(hd:DomIn n d):0≤C6 n d∧C6 n d<4294967296:=by
 rw[Anz hb hd];exact hm.vtep _ (zJ _)
def Yz(n:Net)(hb:Ac n=true)(d:Int)(hd:DomIn n d):Sp 269 [Ao n,Aa d] (A9 (C6 n d)):=cT F269 ntmps269 λF hF=>by
 have hv:=Anz hb hd;have h2:=Anb hb hd;obtain ⟨x,hx⟩:∃x,n.domains[d.toNat]'hd.2=x:=⟨_,rfl⟩
 rw[hx]at h2;simp only[hx]at hv;obtain ⟨y,hy⟩:∃y,n.devices[x.dev.toNat]'h2.2=y:=⟨_,rfl⟩
 rw[hy]at hv;rw[hv]
 conv=>whnf
 refine⟨E,hd.1,hd.2,?_⟩;rw[hx]
 conv=>whnf
 refine⟨E,h2.1,h2.2,?_⟩;rw[hy]
 conv=>whnf
 refine kW ?_;exact dN
def Auf(n:Net)(hn:n.Fin)(ay:n.Num)(dom peer:Int)(f:FrameM)(h:FrameOK f):Sp 188 [Ao n,Aa dom,Aa peer,De f] (.tup [.sl 1 Ak (meshT n dom peer f).1,Aa (meshT n dom peer f).2]):=cT F188 ntmps188 λF hF=>by
 have aa:=meshT.eq_1 n dom peer f;generalize meshT n dom peer f=res at *;have hr:=A0 n hn;have hpS:=Qj peer n.domains.length;have hdS:=Qj dom n.domains.length
 conv=>whnf
 refine Ba 4 8 (Ao n) E E E ?_;refine Ba 7 4 (De f) E E E ?_;refine oO ?_;refine c0 hpS F265 ?_;cases a7:Ai peer n.domains.length
 ·rw[zE (.inl a7)]at aa;subst aa
  (refine oT ?_;refine bT ?_;refine bT ?_)
  refine An 8 1 Ak E ?_;exact dN
 refine oF ?_;refine c0 hdS F265 ?_;cases fu:Ai dom n.domains.length
 ·rw[zE (.inr (.inl fu))]at aa;subst aa
  (refine oT ?_;refine bT ?_)
  refine An 8 1 Ak E ?_;exact dN
 refine oF ?_;refine c0 hr F20 ?_;cases hbn:Ac n
 ·rw[zE (.inr (.inr hbn))]at aa;subst aa;refine oT ?_;refine An 8 1 Ak E ?_;exact dN
 rw[zD (by simp[hbn,a7,fu])]at aa;have hd:=Oi fu;have hp:=Oi a7;have rk:=hd.1;have cd:=hd.2;have e2:nth n.domains dom=n.domains[dom.toNat]:=Af cd;have fm:=hn.peers _ (zJ cd);have va:=Anx ay hbn hd;have vb:=Anx ay hbn hp;have qa:=Yz n hbn dom hd;have qb:=Yz n hbn peer hp;generalize C6 n dom=a at *;generalize C6 n peer=c at *;obtain ⟨a,rfl⟩:=xK va.1;obtain ⟨c,rfl⟩:=xK vb.1;rw[zZ,zZ]at aa;obtain ⟨d,dr⟩:∃d,n.domains[dom.toNat]'cd=d:=⟨_,rfl⟩
 rw[dr]at e2 fm;rw[e2]at aa;have qc:=Eb d.peers peer fm;have qw:=A54 a c d.vni f q_ q_ h;refine oF ?_;refine⟨E,rk,cd,?_⟩;rw[dr]
 conv=>whnf
 refine c0 qc F74 ?_;cases hi:inB d.peers peer
 ·rw[zE hi]at aa;subst aa;refine oT ?_;refine An 8 1 Ak E ?_;exact dN
 rw[zD (by rw[hi];decide)]at aa;subst aa;refine oF ?_;refine cD qa F269 ?_;refine oD ?_;refine cD qb F269 ?_;refine oD ?_;refine⟨E,rk,cd,?_⟩;rw[dr]
 conv=>whnf
 refine cD qw F268 ?_;refine gH ?_;exact dN
def endsC1(dst:Int)(d:Device):Sp 339 [Aw d,.ref 1 (A9 dst) 0] (Ab (decide (d.vtep=dst))):=cT F339 ntmps339 λF hF=>by
 conv=>whnf
 refine As E (.cons .tmp .nil) (zH Ab ?_) E;rw[wF];simp
def endsC2(dev vni:Int)(d:Domain):Sp 340 [Aq d,.ref 1 (Aa dev) 0,.ref 1 (Aa vni) 0] (Ab (decide (d.dev=dev)&&decide (d.vni=vni))):=cT F340 ntmps340 λF hF=>by
 conv=>whnf
 constructor<;>intro h
 ·have h1:d.dev=dev:=by simpa using h
  refine oO ?_;refine As E (.cons .tmp .nil) (zH Ab ?_) E;rw[zL h1,yF,wF];simp
 ·have h1:¬d.dev=dev:=by simpa using h
  refine oO ?_;refine As E (.cons .tmp .nil) (zH Ab ?_) E;rw[zI h1,yG]
def endsC3(n:Net)(hb:Ac n=true)(src:Int)(k:Int)(hk:DomIn n k):Sp 342 [Aa k,.ref 8 (Ao n) 0,.ref 1 (A9 src) 0] (Ab (decide (C6 n k=src))):=cT F342 ntmps342 λF hF=>by
 have q:=Yz n hb k hk
 conv=>whnf
 refine cD q F269 ?_;refine gH ?_;refine As E (.cons .tmp .nil) (zH Ab ?_) E;rw[wF];simp
def endsS(n:Net)(hn:n.Fin)(hb:Ac n=true)(src dst:Nat)(vni:Int):Sp 273 [Ao n,A9 src,A9 dst,Aa vni] (.tup [Aa (endsT n src dst vni).1,Aa (endsT n src dst vni).2]):=cT F273 ntmps273 λF hF=>by
 have aa:=endsT.eq_1 n src dst vni;dsimp only at aa;generalize endsT n src dst vni=res at *;have q1:=Y1 n.devices (λd=>decide (d.vtep=(dst:Int))) 339 [] [.ref 1 (A9 dst) 0] rfl (λd _=>⟨⟨_,_,F339⟩,endsC1 dst d⟩) hn.devices;generalize Br (λd:Device=>decide (d.vtep=(dst:Int))) n.devices=dev at *;have q2:=E5 n.domains (λd=>decide (d.dev=dev)&&decide (d.vni=vni)) 340 [] [.ref 1 (Aa dev) 0,.ref 1 (Aa vni) 0] rfl (λd _=>⟨⟨_,_,F340⟩,endsC2 dev vni d⟩) hn.domains;have ab:=Ij (λd:Domain=>decide (d.dev=dev)&&decide (d.vni=vni)) n.domains;generalize Br (λd:Domain=>decide (d.dev=dev)&&decide (d.vni=vni)) n.domains=dom at *;refine fW ?_;refine Ba 4 8 (Ao n) E E E ?_;refine Ba 5 1 (A9 src) E E E ?_;refine Ba 6 1 (A9 dst) E E E ?_;refine Ba 7 1 (Aa vni) E E E ?_;refine fU ?_;refine c0 q1 F202 ?_;refine fU ?_;refine Ba 10 1 (Aa dev) E E E ?_;refine fU ?_;refine c0 q2 F198 ?_;refine fU ?_;constructor<;>intro h
 ·rw[zE (.inl (zO h))]at aa;subst aa;exact gC
 have h1:=zT h;clear h;refine fU ?_;constructor<;>intro h
 ·rw[zE (.inr (zO h))]at aa;subst aa;exact gC
 have h2:=zT h;clear h;rw[zD (λh=>h.elim h1 h2)]at aa;have rk:0≤dom:=by omega
 have cd:dom.toNat<n.domains.length:=by omega
 have e2:nth n.domains dom=n.domains[dom.toNat]:=Af cd;have fm:=hn.peers _ (zJ cd);have xy:∀k∈(n.domains[dom.toNat]'cd).peers,DomIn n k:=λk hk=>Apa hb cd hk
 obtain ⟨d,dr⟩:∃d,n.domains[dom.toNat]'cd=d:=⟨_,rfl⟩
 rw[dr]at e2 fm xy;rw[e2]at aa;have q3:=Ou d.peers (λk=>decide (C6 n k=(src:Int))) 342 [] [.ref 8 (Ao n) 0,.ref 1 (A9 src) 0] rfl (λk hk=>⟨⟨_,_,F342⟩,endsC3 n hb src k (xy k hk)⟩) fm;have cz:=Ij (λk:Int=>decide (C6 n k=(src:Int))) d.peers;generalize Br (λk:Int=>decide (C6 n k=(src:Int))) d.peers=i at *;refine fU ?_;refine⟨E,rk,cd,?_⟩;rw[dr];refine fW ?_;refine c0 q3 F341 ?_;refine fU ?_;constructor<;>intro h
 ·rw[zE (zO h)]at aa;subst aa;exact gC
 have h3:=zT h;clear h;rw[zD h3]at aa;have o8:i.toNat<d.peers.length:=by omega
 rw[Af o8]at aa;subst aa;refine fU ?_;refine⟨E,by omega,o8,?_⟩;refine fW ?_;exact dN
def Auh(n:Net)(hn:n.Fin)(b:List UInt8)(hb:b.length<100000):Sp 192 [Ao n,.sl 1 Ak b] (.tup [Aa (comeT n b).1,Aa (comeT n b).2.1,De (comeT n b).2.2.1,Aa (comeT n b).2.2.2]):=cT F192 ntmps192 λF hF=>by
 have aa:=comeT.eq_1 n b;generalize comeT n b=res at *;have hr:=A0 n hn;refine fW ?_;refine Ba 2 8 (Ao n) E E E ?_;refine fU ?_;refine c0 hr F20 ?_;cases hbn:Ac n
 ·rw[zE hbn]at aa;subst aa;refine fU ?_;refine Al 6 zF E vL ?_;exact dN
 rw[zD (by rw[hbn];decide)]at aa;have q1:=Axt b hb;have huo:=Afb b;generalize Cn b=u at *;obtain ⟨src,dst,vni,f,e⟩:=u;dsimp only at aa q1 huo;have ia:=huo.2.2.2.src;refine fU ?_;refine c0 q1 F272 ?_;refine fU ?_;constructor<;>intro h
 ·rw[zE (by simpa using h)]at aa;subst aa;refine fU ?_;refine Al 6 zF E vL ?_;exact dN
 rw[zD (by simpa using h)]at aa;clear h;have q2:=endsS n hn hbn src dst vni;generalize endsT n src dst vni=en at *;obtain ⟨fr,dom⟩:=en;dsimp only at aa q2;refine fU ?_;refine c0 q2 F273 ?_;refine fU ?_;constructor<;>intro h
 ·rw[zE (zO h)]at aa;subst aa;refine fU ?_;refine Al 6 zF E vL ?_;exact dN
 rw[zD (zT h)]at aa;clear h;have qg:=On f.src q_;refine fU ?_;refine c0 qg F177 ?_;cases hg:Dx f.src;rotate_left
 ·rw[zE hg]at aa;subst aa;refine fU ?_;refine Al 6 zF E vL ?_;exact dN
 rw[zD (by rw[hg];decide)]at aa;subst aa;refine fU ?_;refine⟨z_,?_⟩;refine fW ?_;exact dN
def A7n{n:Net}(hb:Ac n=true){d:Int}(hd:DomIn n d)(hi:0≤(n.domains[d.toNat]'hd.2).irb):∃h:(n.domains[d.toNat]'hd.2).irb.toNat<n.irbs.length,(n.irbs[(n.domains[d.toNat]'hd.2).irb.toNat]'h).domain=d:=by
 simp only[Ac,zG]at hb;have:=allB_iff.1 hb.1.1.1.1.1.1.1.2 _ hd.2;simp only[O4,zG,yO,yI]at this;have h2:=this.1.2;rcases h2 with h2|⟨h2,h3⟩
 ·omega
 ·have h4:=C0 h2;have h5:(n.domains[d.toNat]'hd.2).irb.toNat<n.irbs.length:=by omega
  rw[Af h5]at h3;have:=hd.1;exact⟨h5,by omega⟩
def An0(n:Net)(hn:n.Fin)(ay:n.Num)(dom:Int)(m:Nat):Sp 183 [Ao n,Aa dom,Bj m] (.tup [Aa (routerT n dom m).1,Ab (routerT n dom m).2]):=cT F183 ntmps183 λF hF=>by
 have aa:=routerT.eq_1 n dom m;generalize routerT n dom m=res at *;have hr:=A0 n hn
 conv=>whnf
 constructor<;>intro h
 ·have hp:Ai dom n.domains.length=false:=by
   cases hx:Ai dom n.domains.length
   ·rfl
   ·have:=C0 hx;have:=zO h;omega
  rw[zE (.inl hp)]at aa;subst aa
  (refine oT ?_;refine bT ?_)
  exact dN
 have h0:0≤dom:=qB h;clear h;refine oO ?_;constructor<;>intro h
 ·have hp:Ai dom n.domains.length=false:=by
   cases hx:Ai dom n.domains.length
   ·rfl
   ·have:=C0 hx;have:=zO h;omega
  rw[zE (.inl hp)]at aa;subst aa;refine oT ?_;exact dN
 have h1:dom<n.domains.length:=qB h;clear h;have a7:Ai dom n.domains.length=true:=Qg ⟨h0,h1⟩;refine oO ?_;refine c0 hr F20 ?_;cases hbn:Ac n
 ·rw[zE (.inr hbn)]at aa;subst aa;refine oT ?_;exact dN
 rw[zD (by simp[hbn,a7])]at aa;have hd:=Oi a7;have e2:nth n.domains dom=n.domains[dom.toNat]'hd.2:=Af hd.2;have m4:=A7n hbn hd;obtain ⟨d,dr⟩:∃d,n.domains[dom.toNat]'hd.2=d:=⟨_,rfl⟩
 simp only[dr]at e2 m4;rw[e2]at aa;refine oF ?_;refine⟨E,hd.1,hd.2,?_⟩;rw[dr]
 conv=>whnf
 constructor<;>intro h
 ·rw[zE (.inl (zO h))]at aa;subst aa;refine oT ?_;exact dN
 have dg:0≤d.irb:=qB h;clear h;obtain ⟨sq,kg⟩:=m4 dg;have ha:=ay.addr _ (zJ sq);rw[Af sq]at aa;obtain ⟨x,hx⟩:∃x,n.irbs[d.irb.toNat]'sq=x:=⟨_,rfl⟩
 rw[hx]at ha aa;obtain ⟨a,xz⟩:=xK ha.1;have qh:=Aki a q_;rw[←xz]at qh;refine oO ?_;refine⟨E,dg,sq,?_⟩;rw[hx]
 conv=>whnf
 refine c0 qh F151 ?_;refine oO ?_;constructor<;>intro h
 ·have af:hostN x.addr≠m:=λe=>by
   rw[e]at h;simp at h
  rw[zE (.inr af)]at aa;subst aa;exact gF
 ·have heq:hostN x.addr=m:=by
   have:(hostN x.addr:Int)=(m:Int):=by simpa using h
   omega
  rw[zD (λh=>h.elim q_ (λh2=>h2 heq))]at aa;subst aa;exact gF
def Air{n:Net}{i:Int}(h:Ai i n.irbs.length=true):InIrbs n i:=by
 have:=C0 h;exact⟨this.1,by omega⟩
def A7e{p:PacketM}(h:PacketOK p):PacketOK (Amx p):=⟨h.tos,h.id,by have:=h.ttl;show p.ttl-1≤255;omega,h.proto,h.src,h.dst⟩
def Aur(p:PacketM):ipPutT (Amx p)=if 1480<p.body.length then ([],14) else (H4 (Amx p),0):=rfl
def Ayt(n:Net)(hn:n.Fin)(ay:n.Num)(irb:Int)(f:FrameM)(hf:FrameOK f):Sp 184 [Ao n,Aa irb,De f] (.tup [Aa (hopT n irb f).1,De (hopT n irb f).2.1,Aa (hopT n irb f).2.2]):=cT F184 ntmps184 λF hF=>by
 have aa:=hopT.eq_1 n irb f;generalize hopT n irb f=res at *;have hr:=A0 n hn;have hb:=hf.body
 conv=>whnf
 constructor<;>intro h
 ·have hp:Ai irb n.irbs.length=false:=by
   cases hx:Ai irb n.irbs.length
   ·rfl
   ·have:=C0 hx;have:=zO h;omega
  rw[zE (.inl hp)]at aa;subst aa
  (refine oT ?_;refine bT ?_)
  refine Al 7 zF E vL ?_;exact dN
 have h0:0≤irb:=qB h;clear h;refine oO ?_;constructor<;>intro h
 ·have hp:Ai irb n.irbs.length=false:=by
   cases hx:Ai irb n.irbs.length
   ·rfl
   ·have:=C0 hx;have:=zO h;omega
  rw[zE (.inl hp)]at aa;subst aa;refine oT ?_;refine Al 7 zF E vL ?_;exact dN
 have h1:irb<n.irbs.length:=qB h;clear h;have a7:Ai irb n.irbs.length=true:=Qg ⟨h0,h1⟩;refine oO ?_;refine c0 hr F20 ?_;cases hbn:Ac n
 ·rw[zE (.inr hbn)]at aa;subst aa;refine oT ?_;refine Al 7 zF E vL ?_;exact dN
 rw[zD (by simp[hbn,a7])]at aa;refine Ba 3 8 (Ao n) E E E ?_;refine Ba 5 4 (De f) E E E ?_;refine oF ?_;constructor<;>intro h
 ·rw[zE (by have:¬(f.typ:Int)=2048:=(by simpa using h);omega)]at aa;subst aa;refine oO ?_;refine Al 7 zF E vL ?_;exact dN
 rw[zD (by have:(f.typ:Int)=2048:=(by simpa using h);omega)]at aa;clear h;have q1:=Aw2 f.body q_;have ax:=@Agw f.body;generalize ipTakeT f.body=tk at *;obtain ⟨p,e⟩:=tk;dsimp only at aa q1 ax;refine oO ?_;refine c0 q1 F261 ?_;refine oO ?_;by_cases he:e=0;rotate_left
 ·rw[zE he]at aa;subst aa;refine⟨λh=>yB (show e=0 by simpa using h) he,λ_=>?_⟩;refine oO ?_;refine⟨λ_=>?_,λh=>yB (show e=0 by simpa using h) he⟩;refine oO ?_;refine Al 7 zF E vL ?_;exact dN
 subst he;rw[zD y_]at aa;obtain ⟨mw,tw⟩:=ax rfl;have tx:=mw.ttl;have sk:=mw.dst;have q2:=ipHopS p q_ tx
 (refine⟨λ_=>?_,λh=>False.elim (yB h j_)⟩;refine rg ?_;conv=>whnf)
 by_cases ht:p.ttl≤1
 ·rw[zE ht]at aa;subst aa;rw[hop1,zE ht]at q2;refine c0 q2 F262 ?_;refine oT ?_;refine Al 7 zF E vL ?_;exact dN
 rw[zD ht]at aa;rw[hop1,zD ht]at q2;refine c0 q2 F262 ?_;have q3:=Awy n hn hbn irb p.dst (Air a7);have l4:=λh=>@Vq n irb p.dst h
 generalize lookT n irb p.dst=lk at *;obtain ⟨to,ok⟩:=lk;dsimp only at aa q3 l4;refine oF ?_;refine c0 q3 F263 ?_;cases ok
 ·rw[zE rfl]at aa;subst aa;refine oT ?_;refine Al 7 zF E vL ?_;exact dN
 rw[zD j_]at aa;have dt:=l4 rfl;have jt:=Aur p;have q4:=Amt (Amx p) (A7e mw) (by show p.body.length<100000;omega);rw[jt]at q4;clear jt;by_cases hl:1480<p.body.length
 ·rw[zE hl]at aa q4;subst aa;refine oF ?_;refine c0 q4 F150 ?_;refine oT ?_;refine Al 7 zF E vL ?_;exact dN
 rw[zD hl]at aa q4;have ha:=ay.addr _ (zJ dt.2);rw[Af dt.2]at aa;obtain ⟨x,hx⟩:∃x,n.irbs[to.toNat]'dt.2=x:=⟨_,rfl⟩
 rw[hx]at ha aa;obtain ⟨a,xz⟩:=xK ha.1;have qh:=Aki a q_;rw[←xz]at qh;have qd:=Aki p.dst sk;subst aa;refine oF ?_;refine c0 q4 F150 ?_;refine oF ?_;refine⟨E,dt.1,dt.2,?_⟩;rw[hx]
 conv=>whnf
 refine cD qd F151 ?_;refine oD ?_;refine⟨E,dt.1,dt.2,?_⟩;rw[hx]
 conv=>whnf
 refine cD qh F151 ?_;refine gH ?_;exact dN
end Go.Sy.YtolnneiipmfgaaaGreatDoor
namespace Go.Sy.YtolnneiipmfgaaaGreatDoor
open Go.Proofs Go.Proofs.Tryz
structure TabOK(t:List EntryM):Prop where
 short:Am t
 mac:∀e∈t,e.mac<18446744073709551616
 wh:∀e∈t,I64 e.where_
structure QueuedOK(q:QueuedM):Prop where
 frame:FrameOK q.frame
 from_:-2≤q.from_∧q.from_<1099511627776
 peer:0≤q.peer∧q.peer<1099511627776
def Jv(l:List QueuedM):Prop:=l.length≤64∧∀q∈l,QueuedOK q
structure MacOK(n:Net)(m:MacM)(J D:Int):Prop where
 up:m.up.length=n.links.length
 tabs:m.tables.length=n.domains.length
 ques:m.queues.length=n.domains.length
 tab:∀t∈m.tables,TabOK t
 que:∀l∈m.queues,Jv l
 now:0≤m.now∧m.now≤1099511627776
 inj:0≤m.injected∧m.injected≤J
 drp:∀i,0≤m.drops i∧m.drops i≤D
def J7{f:FrameM}(hf:FrameOK f){a b:Int}(c:Int)(h1:-2≤a∧a<1099511627776)(h2:0≤b∧b<1099511627776):QueuedOK ⟨a,b,c,f⟩:=⟨hf,h1,h2⟩
def A3i:QueuedOK noQ:=⟨Er,by decide,by decide⟩
def Acb:TabOK []:=⟨by unfold Am;decide,λ_ h=>(by cases h),λ_ h=>(by cases h)⟩
def Adh:Jv []:=⟨by decide,λ_ h=>(by cases h)⟩
def Agi{α:Type}{l:List α}{i:Nat}{x y:α}(h:y∈l.set i x):y=x∨y∈l:=by
 rcases Go.uU h with h|h
 ·exact .inr h
 ·exact .inl h
def Aha{α:Type}{l:List α}{i:Nat}{d:α}(h:i<l.length):(l[i]?).getD d∈l:=by
 rw[zU h];exact zJ h
def I3{n:Net}{m:MacM}{J D:Int}(h:MacOK n m J D)(dom:Int):Jv (queueL m dom):=by
 unfold queueL;by_cases hd:dom.toNat<m.queues.length
 ·exact h.que _ (Aha hd)
 ·rw[wT q_];exact Adh
def Abu{n:Net}{m:MacM}{J D:Int}(h:MacOK n m J D)(dom:Int):TabOK (tableL m dom):=by
 unfold tableL;by_cases hd:dom.toNat<m.tables.length
 ·exact h.tab _ (Aha hd)
 ·rw[wT q_];exact Acb
theorem MacOK.mono{n:Net}{m:MacM}{J D J' D':Int}(h:MacOK n m J D)(h1:J≤J')(h2:D≤D'):MacOK n m J' D' :=
 ⟨h.up,h.tabs,h.ques,h.tab,h.que,h.now,⟨h.inj.1,by have:=h.inj.2;omega⟩,λi=>⟨(h.drp i).1,by have:=(h.drp i).2;omega⟩⟩
def V9{n:Net}{m:MacM}{J D:Int}(h:MacOK n m J D)(_hD:0≤D)(e:Int):MacOK n (Dd m e) J (D+1):=by
 refine⟨h.up,h.tabs,h.ques,h.tab,h.que,h.now,h.inj,λi=>?_⟩;have:=h.drp i;show 0≤(if i=e.toNat then m.drops i+1 else m.drops i)∧(if i=e.toNat then m.drops i+1 else m.drops i)≤D+1;split<;>omega
def Awg{n:Net}{m:MacM}{J D:Int}(h:MacOK n m J D)(dom:Int){l:List QueuedM}(hl:Jv l):MacOK n (Q4 m dom l) J D:=by
 refine⟨h.up,h.tabs,by rw[Q4];simp[h.ques],h.tab,λx hx=>?_,h.now,h.inj,h.drp⟩;rcases Agi hx with rfl|hx
 ·exact hl
 ·exact h.que x hx
def Awf{n:Net}{m:MacM}{J D:Int}(h:MacOK n m J D)(dom:Int){l:List EntryM}(hl:TabOK l):MacOK n (E1 m dom l) J D:=by
 refine⟨h.up,by rw[E1];simp[h.tabs],h.ques,λx hx=>?_,h.que,h.now,h.inj,h.drp⟩;rcases Agi hx with rfl|hx
 ·exact hl
 ·exact h.tab x hx
def A2x{l:List QueuedM}(hl:Jv l){q:QueuedM}(hq:QueuedOK q):Jv (pushT l q).1:=by
 unfold pushT;split
 ·exact hl
 ·refine⟨by simp;omega,λx hx=>?_⟩;rcases yL.1 hx with hx|hx
  ·exact hl.2 x hx
  ·rw[yA.1 hx];exact hq
def A12{l:List QueuedM}(hl:Jv l)(at_:Int):QueuedOK (takeT l at_).1∧Jv (takeT l at_).2.1:=by
 unfold takeT;split
 ·exact⟨A3i,hl⟩
 ·rename_i h;refine⟨hl.2 _ (Aha q_),?_,λx hx=>hl.2 x (List.mem_of_mem_eraseIdx hx)⟩;have:=List.length_eraseIdx_le l at_.toNat;have:=hl.1;show (l.eraseIdx at_.toNat).length≤64;omega
def Aa6{n:Net}{m:MacM}{J D:Int}(h:MacOK n m J D)(hD:0≤D)(dom:Int){q:QueuedM}(hq:QueuedOK q)(e:Int):MacOK n (comeM m dom q e) J (D+1):=by
 unfold comeM;split
 ·exact V9 h hD e
 split
 ·exact(Awg h dom (A2x (I3 h dom) hq)).mono (wB _) q_
 ·exact V9 h hD 3
def Afe{n:Net}{m:MacM}{J D:Int}(h:MacOK n m J D)(dom at_:Int):MacOK n (takeM m dom at_).1 J D∧QueuedOK (takeM m dom at_).2.1:=by
 unfold takeM;split
 ·exact⟨h,A3i⟩
 ·have:=A12 (I3 h dom) at_;exact⟨Awg h dom this.2,this.1⟩
def Auu{n:Net}(hn:n.Fin){m:MacM}{J D:Int}(h:MacOK n m J D)(_hJ:0≤J)(hD:0≤D)(port:Int)(b:List UInt8):MacOK n (injectT n m port b) (J+1) (D+1):=by
 unfold injectT;split
 ·exact h.mono q_ q_
 ·rename_i hc;have hp:Ai port n.ports.length=true:=by cases hx:Ai port n.ports.length;exact yB (.inl hx) hc;rfl
  have j4:=C0 hp;have hs:=hn.ports;unfold Am at hs;have h1:=h.inj;have hm:MacOK n ⟨m.up,m.tables,m.queues,m.now,m.injected+1,m.drops⟩ (J+1) D:=⟨h.up,h.tabs,h.ques,h.tab,h.que,h.now,(by show 0≤m.injected+1∧m.injected+1≤J+1;omega),h.drp⟩
  exact Aa6 hm hD _ (J7 (Acm _ _ _) _ q_ q_) _
structure OutOK(n:Net)(o:OutM):Prop where
 kind:1≤o.kind∧o.kind≤5
 bytes:o.bytes.length≤1518
 frame:o.kind=4→FrameOK o.frame∧DomIn n o.domain
 err:o.kind=5→Cf o.error
def Azd{n:Net}(hn:n.Fin)(port:Int):-1≤Bb n port∧Bb n port<2147483648:=by
 unfold Bb;split
 ·rename_i h;obtain ⟨⟨h1,h2⟩,h3,hb⟩:=h;have hk:port.toNat<n.ports.length:=by omega
  rw[Af hk]at h3⊢;have hl:=(E7 hb hk h3).1;rw[Af hl];simp only[Ac,zG]at hb;have rq:=allB_iff.1 hb.1.1.1.1.2 _ hl;simp only[Mj,zG]at rq;have ha:=C0 rq.1.1.1.1;have dw:=C0 rq.1.1.1.2;have hs:=hn.ports;unfold Am at hs;split<;>omega
 ·omega
def Ap1{n:Net}(hn:n.Fin)(port:Int)(b:List UInt8):0≤(linkT n port b).1∧(linkT n port b).1<1099511627776:=by
 have:=Azd hn port;unfold linkT;split<;>dsimp only<;>omega
def Ahv{n:Net}(hn:n.Fin)(b:List UInt8):0≤(comeT n b).1∧(comeT n b).1<1099511627776:=by
 by_cases h:(comeT n b).2.2.2=0
 ·have:=(Ak6 h).1;have hs:=hn.domains;unfold Am at hs;unfold DomIn at this;omega
 ·unfold comeT at h⊢;split
  ·decide
  rename_i h1;rw[zD h1]at h;split
  ·exact⟨wB _,by dsimp only;omega⟩
  rename_i h1;rw[zD h1]at h;split
  ·decide
  rename_i h1;rw[zD h1]at h;split
  ·decide
  rename_i h1;rw[zD h1]at h;exact yB E h
def A4t{n:Net}(hn:n.Fin){m:MacM}{J D:Int}(h:MacOK n m J D)(hD:0≤D){o:OutM}(ho:OutOK n o)(origin:Int):MacOK n (goesM n m o origin).1 J (D+1):=by
 unfold goesM;split
 ·exact h.mono (wB _) q_
 split
 ·have:=Ap1 hn o.port o.bytes;exact Aa6 h hD _ (J7 (Ap2 _ _ _) _ q_ q_) _
 split
 ·exact Aa6 h hD _ (J7 (Aq9 _ _) _ q_ (Ahv hn o.bytes)) _
 split
 ·rename_i h4;exact Aa6 h hD o.domain (J7 (a:=-2) (b:=0) (ho.frame h4).1 origin j_ j_) 0
 ·exact V9 h hD _
def V2{n:Net}(hn:n.Fin)(origin:Int):∀(l:List OutM) {m:MacM} {J D:Int},MacOK n m J D→0≤D→(∀o∈l,OutOK n o)→MacOK n (By n m origin l).1 J (D+l.length)
 |[],m,J,D,h,_,_=>by
  rw[By];exact h.mono (wB _) y_
 |o::l,m,J,D,h,hD,ho=>by
  rw[By];have:=V2 hn origin l (A4t hn h hD (ho o y_) origin) q_ (λx hx=>ho x (by simp[hx]));exact this.mono (wB _) (by simp only[yM];omega)
def Apv{n:Net}{o:OutM}{r:List UInt8×Int}(hk:1≤o.kind∧o.kind≤3)(hr:r.1.length≤1518)(he:Cf r.2):OutOK n (Vo o r):=by
 unfold Vo;split
 ·exact⟨⟨by dsimp only;omega,by dsimp only;omega⟩,by simp,λh=>yB h (by dsimp only;omega),λ_=>he⟩
 ·exact⟨⟨hk.1,by have:=hk.2;dsimp only;omega⟩,hr,λh=>by have:=hk.2;dsimp only at h;omega,λh=>by have:=hk.2;dsimp only at h;omega⟩
def Az6{t:List EntryM}(h:TabOK t){m:Nat}(hm:m<18446744073709551616){wh:Int}(hw:I64 wh)(now:Int):TabOK (learnT t m wh now):=by
 have hs:=h.short;unfold Am at hs;have key:∀e:EntryM,e∈learnT t m wh now→e∈t∨e=⟨m,wh,now⟩:=λe he=>by
  unfold learnT at he;split at he
  ·exact .inl he
  split at he
  ·rcases Agi he with h|h
   ·exact .inr h
   ·exact .inl h
  ·rcases yL.1 he with h|h
   ·split at h
    ·exact .inl (List.mem_of_mem_eraseIdx h)
    ·exact .inl h
   ·exact .inr (yA.1 h)
 refine⟨?_,λe he=>?_,λe he=>?_⟩
 ·unfold learnT;split
  ·exact h.short
  rename_i hb;have h8:t.length≤8:=by
   have:tableB t=true:=by cases hx:tableB t;exact yB (.inl hx) hb;rfl
   simp only[tableB,zG,zK]at this;exact this.1
  split
  ·unfold Am;simp;omega
  ·unfold Am;split
   ·have:=List.length_eraseIdx_le t (oldestU t t.length);simp only[zQ,yM,xF];omega
   ·simp only[zQ,yM,xF];omega
 ·rcases key e he with h1|rfl
  ·exact h.mac e h1
  ·exact hm
 ·rcases key e he with h1|rfl
  ·exact h.wh e h1
  ·exact hw
def Ww{t:List EntryM}(h:TabOK t){q:QueuedM}(hq:QueuedOK q)(now:Int):TabOK (learnQ t q now):=by
 unfold learnQ;split
 ·exact h
 ·have hs:=hq.frame.src;refine Az6 h q_ ?_ now;have h1:=hq.from_;have h2:=hq.peer;unfold I64;split<;>omega
def A71{t:List EntryM}(h:TabOK t)(now:Int):TabOK (ageT t now):=by
 unfold ageT;split
 ·exact h
 ·have hs:=h.short;unfold Am at hs;refine⟨?_,λe he=>h.mac e (uO.1 he).1,λe he=>h.wh e (uO.1 he).1⟩;unfold Am;exact Nat.lt_of_le_of_lt (tU _ _) hs
def App(n:Net)(dom:Int):(A6 n dom).length≤n.ports.length:=by
 rw[A6];have:=I6 (Ug n (nth n.domains dom)) n.ports.length;exact this
attribute [local irreducible] Go.Sy.G Go.Sy.DR
set_option maxRecDepth 100000
set_option maxHeartbeats 4000000
def Ah4(m:Nat)(h:m<4294967296):bits .and .u64 (m:Int) 4294967295=(m:Int):=by
 have:=bits_and_u64_nat m 4294967295 q_ j_;rw[show ((4294967295:Nat):Int)=4294967295 from rfl]at this;rw[this];have h2:=uN m 32;rw[show 2^32-1=4294967295 from rfl,show 2^32=4294967296 from rfl]at h2;rw[h2,xH h]
def As4(m:Nat)(h:m<4294967296):(m:Int).fdiv (2^(min (Int.toNat 32) IntKind.u64.bits))=0:=by
 show (m:Int).fdiv 4294967296=0;rw[wL _ j_];omega
def mul64S(m:Nat)(h:m<4294967296):Sp 135 [Bj 1,Bj m] (.tup [Bj 0,Bj m]):=cT F135 ntmps135 λF hF=>by
 have e0:bits .and .u64 1 4294967295=1:=Ah4 1 j_;have e1:(1:Int).fdiv (2^(min (Int.toNat 32) IntKind.u64.bits))=0:=As4 1 j_;have e2:=Ah4 m h;have e3:=As4 m h;have w1:IntKind.u64.wrap (1*(m:Int))=m:=by rw[IntKind.wrap_u64];omega
 have w0:IntKind.u64.wrap (0*(m:Int))=0:=by rw[IntKind.wrap_u64];omega
 have z0:IntKind.u64.wrap (0+0)=0:=rfl;have a0:bits .and .u64 0 4294967295=0:=Ah4 0 j_;have s0:(0:Int).fdiv (2^(min (Int.toNat 32) IntKind.u64.bits))=0:=As4 0 j_
 conv=>whnf
 rw[e0];refine⟨by decide,?_⟩;rw[e1]
 conv=>whnf
 rw[e2];refine⟨by decide,?_⟩;rw[e3]
 conv=>whnf
 rw[w1,w0];refine⟨by decide,?_⟩;rw[e3]
 conv=>whnf
 rw[z0,a0];refine⟨by decide,?_⟩;rw[s0]
 conv=>whnf
 refine⟨by decide,?_⟩
 conv=>whnf
 refine As E (.cons .tmp (.cons .tmp .nil)) ?_ E;refine zH (λz:Int=>SV.tup [Bj 0,Bj z]) ?_;exact w1.symm
def mulS(m:Nat)(h:m<4294967296):Sp 67 [Bj 1,Bj m] (.tup [Bj 0,Bj m]):=cT F67 ntmps67 λF hF=>by
 ((conv=>whnf);refine aF ?_;refine rg ?_;conv=>whnf)
 refine c0 (mul64S m h) F135 ?_;exact gF
def Oa(m k:Nat):List Bool:=List.replicate k true++List.replicate (m-k) false
def Vb(m k:Nat)(h:k≤m):(Oa m k).length=m:=by simp[Oa];omega
def A2p(m:Nat):Oa m m=List.replicate m true:=by simp[Oa]
def Ayw(m k c:Nat)(_h:k≤m)(hc:c=min k (m-k)):(Oa m k).take k++(Oa m k).take c++(Oa m k).drop (k+c)=Oa m (k+c):=by
 have e1:(Oa m k).take k=List.replicate k true:=by
  rw[Oa,vO y_];simp
 have e2:(Oa m k).take c=List.replicate c true:=by
  rw[Oa,vO (by simp;omega)];simp;omega
 have e3:(Oa m k).drop (k+c)=List.replicate (m-(k+c)) false:=by
  rw[Oa,List.drop_append,vI y_,wP];simp;omega
 rw[e1,e2,e3,Oa,List.replicate_append_replicate]
def Awk(m:Nat)(h:m<2147483648):Sp 36 [.sl 1 Ab [true],Aa m] (.sl 1 Ab (List.replicate m true)):=cT F36 ntmps36 λF hF=>by
 have hw:IntKind.u64.wrap (m:Int)=m:=by rw[IntKind.wrap_u64];omega
 have x3:IntKind.i64.wrap (m:Int)=m:=by rw[IntKind.wrap_i64];omega
 have q:=mulS m q_;rw[←hw]at q
 ((conv=>whnf);refine aF ?_;refine rg ?_;conv=>whnf)
 refine c0 q F67 ?_;rw[hw];refine oF ?_;refine⟨λh1=>yB (zO h1) q_,λ_=>?_⟩;refine oO ?_;rw[x3];refine Ah (B4 Γ.toTy (d:=30) (n:=m) Ab false E E E E E E E E q_ q_ E E E) E E ?_;refine oO ?_;refine Ah (Wy Γ.toTy (l:=List.replicate m false) (m:=[true]) E E E E E .sl) E E ?_;have e0:[true].take (List.replicate m false).length++(List.replicate m false).drop [true].length=Oa m (min 1 m):=by
  cases m with
  |zero=>rfl
  |succ m=>simp[Oa,Nat.min_eq_left,tF]
 have e1:min [true].length (List.replicate m false).length=min 1 m:=by simp
 rw[e0,e1];refine oO ?_;refine Cj (λk:Nat=>min 1 m≤k∧k≤m) (λk=>[(7,.osl 30),(8,Aa k)]) (λk=>[(30,.row 1 Ab (Oa m k))]) (λk=>m-k) (min 1 m) [] q_ uU ?_;intro k hk;have hl:=Vb m k hk.2;refine oO ?_;constructor<;>intro h1
 ·have ab:k<m:=by have:=zO h1;rw[hl]at this;omega
  clear h1;have cw:1≤k:=by omega
  have af:Oa m k≠[]:=λe=>by rw[e]at hl;simp at hl;omega
  refine Arw 30 [7] E af (λi hi=>by simp at hi;subst hi;rfl) ?_;intro b cap hc;rw[hl]at hc⊢;have gn:¬cap=k:=by omega
  have nk:=Ayw m k (min k (m-k)) hk.2 rfl;refine oO ?_;refine Bv (Dp (lo:=k) (hi:=m) Γ.toTy E E E E (.inr ⟨_,_,E,E⟩) (.inl ⟨E,E⟩) q_ q_) z_ E ?_;refine oD ?_;refine Bv (Dp (lo:=0) (hi:=k) Γ.toTy E E E E (.inl ⟨E,E⟩) (.inr ⟨_,_,E,E⟩) q_ q_) z_ E ?_;refine oD ?_;refine Bv (X7 Γ.toTy 30 (lo:=k) (k:=k) E E E E (by rw[zD gn,Nat.mul_one]) E (by rw[zD q_,Nat.zero_mul]) E hl q_ q_) z_ E ?_;refine oD ?_;refine iW ?_;refine kW ?_;refine Abk 30 31 [7] m E E (by rw[nk,Vb m _ q_];exact yD _) (λi hi=>by simp at hi;subst hi;rfl) ?_;have fx:((Oa m k).take k++(Oa m k).take (min k (m-k))++(Oa m k).drop (k+min k (m-k))).take m=Oa m (k+min k (m-k)):=by
   rw[nk,xG (by rw[Vb m _ q_];exact yD _)]
  exact Ax (k+min k (m-k)) [(30,31)] q_ q_ ⟨⟨E,E,E,E,Y⟩,⟨.inl (zH (Ob.row 1 Ab) fx.symm),E,Y⟩,E,E⟩
 ·have hkm:k=m:=by have:=zT h1;rw[hl]at this;omega
  subst hkm;rw[A2p];refine oO ?_;refine Aj 30 E ?_;exact dN
def Qc(t:List EntryM):SV:=.sl 3 Bf t
def Q9(l:List QueuedM):SV:=.sl 7 Ca l
def Um(n:Net)(k:Nat)(now inj:Int)(d:Nat→Int):List SV :=
 [.sl 5 Aw n.devices,.sl 7 A7 n.ports,.sl 3 B5 n.links,.sl 6 Aq n.domains,.sl 4 A2 n.statics,.sl 4 Bh n.floods,.sl 5 Ck n.vrfs,.sl 5 Cb n.irbs,.ptr k 0,.osl 2,.osl 3,.val (.int .i64 now),.val (.int .i64 inj),
 .val (.int .i64 (d 0)),.val (.int .i64 (d 1)),.val (.int .i64 (d 2)),.val (.int .i64 (d 3)),.val (.int .i64 (d 4)),.val (.int .i64 (d 5)),.val (.int .i64 (d 6)),.val (.int .i64 (d 7)),.val (.int .i64 (d 8)),.val (.int .i64 (d 9)),.val (.int .i64 (d 10)),.val (.int .i64 (d 11)),.val (.int .i64 (d 12)),.val (.int .i64 (d 13)),.val (.int .i64 (d 14)),.val (.int .i64 (d 15)),.val (.int .i64 (d 16)),.val (.int .i64 (d 17)),.val (.int .i64 (d 18)),.val (.int .i64 (d 19)),.val (.int .i64 (d 20)),.val (.int .i64 (d 21)),.val (.int .i64 (d 22)),.val (.int .i64 (d 23)),.val (.int .i64 (d 24)),.val (.int .i64 (d 25)),.val (.int .i64 (d 26)),.val (.int .i64 (d 27)),.val (.int .i64 (d 28)),.val (.int .i64 (d 29)),.val (.int .i64 (d 30)),.val (.int .i64 (d 31)),.val (.int .i64 (d 32)),.val (.int .i64 (d 33)),.val (.int .i64 (d 34)),.val (.int .i64 (d 35)),.val (.int .i64 (d 36)),.val (.int .i64 (d 37)),.val (.int .i64 (d 38)),.val (.int .i64 (d 39)),.val (.int .i64 (d 40)),.val (.int .i64 (d 41)),.val (.int .i64 (d 42)),.val (.int .i64 (d 43)),.val (.int .i64 (d 44)),.val (.int .i64 (d 45)),.val (.int .i64 (d 46)),.val (.int .i64 (d 47)),.val (.int .i64 (d 48)),.val (.int .i64 (d 49)),.val (.int .i64 (d 50)),.val (.int .i64 (d 51)),.val (.int .i64 (d 52)),.val (.int .i64 (d 53)),.val (.int .i64 (d 54)),.val (.int .i64 (d 55)),.val (.int .i64 (d 56)),.val (.int .i64 (d 57)),.val (.int .i64 (d 58)),.val (.int .i64 (d 59)),.val (.int .i64 (d 60)),.val (.int .i64 (d 61)),.val (.int .i64 (d 62)),.val (.int .i64 (d 63))]
def onceL(up:List Bool)(done:Int)(fw:List Bool):List SV:=[.sl 1 Ab up,.val (.int .u32 done),.val (.int .i32 0),.val (.int .u32 0),.sl 1 Ab fw]
def Le(n:Net)(up:List Bool)(d:Bool):List SV:=onceL up (if d then 1 else 0) (if d then Ki n up else [])
def En(n:Net)(m:MacM)(d:Bool):Obs:=[(0,.box (Um n 1 m.now m.injected m.drops)),(1,.box (Le n m.up d)),(2,.row 1 Qc m.tables),(3,.row 1 Q9 m.queues)]
def getI_map(f:Nat→SV):∀(k a n:Nat),k<n→Ih ((List.range' a n).map f) k=some (f (a+k))
 |0,a,n+1,_=>rfl
 |k+1,a,n+1,h=>by
  show Ih ((List.range' (a+1) n).map f) k=_;rw[getI_map f k (a+1) n q_];congr 2;omega
def Awe(f:Nat→SV)(x:SV):∀(k a n:Nat),((List.range' a n).map f).set k x=(List.range' a n).map (λi=>if i=a+k then x else f i)
 |_,_,0=>rfl
 |0,a,n+1=>by
  show x::(List.range' (a+1) n).map f=(if a=a+0 then x else f a)::(List.range' (a+1) n).map _;rw[zE q_];congr 1;apply tE;intro i hi;have:=(List.mem_range'_1.1 hi).1;rw[zD q_]
 |k+1,a,n+1=>by
  show f a::((List.range' (a+1) n).map f).set k x=(if a=a+(k+1) then x else f a)::(List.range' (a+1) n).map _;rw[zD q_,Awe f x k (a+1) n];congr 1;apply tE;intro i _;rw[show a+1+k=a+(k+1) by omega]
def Yp(n:Net)(k:Nat)(now inj:Int)(d:Nat→Int):Um n k now inj d =
  .sl 5 Aw n.devices::.sl 7 A7 n.ports::.sl 3 B5 n.links::.sl 6 Aq n.domains::.sl 4 A2 n.statics::.sl 4 Bh n.floods::.sl 5 Ck n.vrfs::.sl 5 Cb n.irbs::.ptr k 0::.osl 2::.osl 3::.val (.int .i64 now)::.val (.int .i64 inj) ::
   (List.range' 0 64).map (λi=>.val (.int .i64 (d i))):=rfl
def A2i(n:Net)(k:Nat)(now inj:Int)(d:Nat→Int)(e:Nat)(he:e<64):Ih (Um n k now inj d) (13+e)=some (.val (.int .i64 (d e))):=by
 rw[Yp,tK];show Ih ((List.range' 0 64).map (λi=>SV.val (.int .i64 (d i)))) e=_;rw[getI_map _ e 0 64 he,wH]
def A2h(n:Net)(k:Nat)(now inj:Int)(d:Nat→Int)(e:Nat)(v:Int):(Um n k now inj d).set (13+e) (.val (.int .i64 v))=Um n k now inj (λi=>if i=e then v else d i):=by
 rw[Yp,Yp,tK];have h:=Awe (λi=>SV.val (.int .i64 (d i))) (.val (.int .i64 v)) e 0 64;have h2:(λi=>if i=0+e then SV.val (.int .i64 v) else SV.val (.int .i64 (d i)))=(λi=>SV.val (.int .i64 (if i=e then v else d i))):=by
  funext i;rw[wH];split<;>rfl
 rw[h2]at h;rw[←h];rfl
def add64(a:Addr)(x y:Int)(w:World)(hc:w.cell? a=some (.int .i64 x))(hz:w.frozen? a=false):(callFunc 270 #[.pointer (some a),.int .i64 y]).run prog w=.ok (.value (.int .i64 (IntKind.i64.wrap (x+y)))) (w.setCell a (.int .i64 (IntKind.i64.wrap (x+y)))) :=
 run_call_add func270 z_ z_ z_ .i64 z_ hc hz rfl
def Ayl(n:Net)(k:Nat)(m:MacM)(e:Int):Um n k m.now m.injected (Dd m e).drops=(Um n k m.now m.injected m.drops).set (13+e.toNat) (.val (.int .i64 (m.drops e.toNat+1))):=by
 rw[A2h];congr 1;funext i;show (if i=e.toNat then m.drops i+1 else m.drops i)=_;split
 ·rename_i h;rw[h]
 ·rfl
def Ave{x:Int}(h:0≤x∧x≤1000000000000):IntKind.i64.wrap (x+1)=x+1:=by
 rw[IntKind.wrap_i64];omega
def Avv(n:Net)(m:MacM)(d:Bool)(e:Int)(h0:0≤e)(h1:e<64)(hb:IntKind.i64.wrap (m.drops e.toNat+1)=m.drops e.toNat+1):Sq 190 [.ptr 0 (13+e.toNat),Aa 1] (En n m d) (Aa (m.drops e.toNat+1)) (En n (Dd m e) d):=cT F190 ntmps190 λF hF=>by
 have hg:=A2i n 1 m.now m.injected m.drops e.toNat q_;have hs:=Ayl n 1 m e;have ab:=Aex hg;refine fW ?_;refine Ah (Amz add64 E E E E hg hb) E E ?_;refine fU ?_;exact done E (.cons .tmp .nil) [] (En n (Dd m e) d) (λ_ h=>h) E E ⟨Y,⟨.inl (zH Ob.box hs),E,.inl E,E,.inl E,E,.inl E,E,Y⟩,E,E⟩
def Aq3(n:Net)(m:MacM)(d:Bool)(e:Int)(h0:0≤e)(h1:e<64)(hb:0≤m.drops e.toNat∧m.drops e.toNat≤1000000000000):Sq 117 [.ptr 0 0,Aa e] (En n m d) (.tup []) (En n (Dd m e) d):=cT F117 ntmps117 λF hF=>by
 refine fW ?_;refine⟨h0,by omega,?_⟩;refine fU ?_;refine Ah (Ad [] E F190 (Avv n m d e h0 h1 (Ave hb)) (zH (λz=>[SV.ptr 0 z,Aa 1]) (show 13+e.toNat=0+13+e.toNat*1 by omega)) ⟨E,E,E,E,Y⟩ E ⟨.inl E,.inl E,.inl E,.inl E,Y⟩) E E ?_;refine fU ?_;exact A4 E .nil [] (En n (Dd m e) d) (λ_ h=>h) E E uU
def Awc(n:Net)(m:MacM)(d:Bool)(dom:Int):Sq 78 [.ptr 0 0,Aa dom] (En n m d) (Ab (Ai dom m.queues.length)) (En n m d):=cT F78 ntmps78 λF hF=>by
 have aa:Ai dom m.queues.length=(decide (0≤dom)&&decide (dom<m.queues.length)):=rfl;generalize Ai dom m.queues.length=res at *;refine fW ?_;constructor<;>intro h
 ·refine fU ?_
  (repeat (first|(refine⟨λh=>False.elim (by first|(exact yB h j_)|(simp at h;done)|(simp at h;omega)),λ_=>?_⟩;(refine fU ?_))|(refine⟨λ_=>?_,λh=>False.elim (by first|(exact yB h j_)|(simp at h;done)|(simp at h;omega))⟩;(refine fU ?_))))
  refine done E (.cons .tmp .nil) [] (En n m d) (λ_ h=>h) ?_ E uU;rw[aa,h];rfl
 ·refine fU ?_
  (repeat (first|(refine⟨λh=>False.elim (by first|(exact yB h j_)|(simp at h;done)|(simp at h;omega)),λ_=>?_⟩;(refine fU ?_))|(refine⟨λ_=>?_,λh=>False.elim (by first|(exact yB h j_)|(simp at h;done)|(simp at h;omega))⟩;(refine fU ?_))))
  refine done E (.cons .tmp .nil) [] (En n m d) (λ_ h=>h) ?_ E uU;rw[aa,h];rfl
def Au7(f:FrameM)(hb:f.body.length<100000):Sp 208 [De f] (De f):=cT F208 ntmps208 λF hF=>by
 conv=>whnf
 refine Ah (B4 Γ.toTy (d:=7) (n:=f.body.length) Ak 0 E E E E E E E E q_ q_ E E E) E E ?_;refine oO ?_;refine Ah (Wy Γ.toTy (l:=List.replicate f.body.length 0) (m:=f.body) E E E E E .sl) E E ?_;refine oO ?_;refine Aj 7 E ?_;refine oO ?_;refine As E (.cons (.cell E E E E) .nil) ?_ E;show SV.agg [_,_,_,.sl 1 Ak f.body]=SV.agg [_,_,_,.sl 1 Ak (f.body.take (List.replicate f.body.length (0:UInt8)).length++(List.replicate f.body.length (0:UInt8)).drop f.body.length)];have e:f.body.take (List.replicate f.body.length (0:UInt8)).length++(List.replicate f.body.length (0:UInt8)).drop f.body.length=f.body:=by
  rw[xS,yN,vI y_,xM]
 rw[e];rfl
def Anh(q:QueuedM)(hb:q.frame.body.length<100000):Sp 147 [Ca q] (Ca q):=cT F147 ntmps147 λF hF=>by
 have qc:=Au7 q.frame hb
 conv=>whnf
 refine c0 qc F208 ?_;exact gF
def Wm(l:List QueuedM):Prop:=∀q∈l,q.frame.body.length<100000
def A7y(l:List QueuedM)(hl:l.length<1000000)(hb:Wm l):Sq 146 [.sl 7 Ca l] [] (.osl 0) [(0,.row 7 Ca l)]:=cT F146 ntmps146 λF hF=>by
 conv=>whnf
 refine Ce 3 1000 7 Ca E E ?_;refine A8 l.length (λj=>[(3,.osl 1000),(6,.sl 7 Ca l),(7,Aa l.length),(8,Aa j)]) (λj=>[(1000,.row 7 Ca (l.take j))]) [] uU ?_;intro j hj;refine oO ?_;constructor<;>intro h
 ·have ab:j<l.length:=qA h;have ai:(j:Int).toNat<l.length:=by simpa using ab
  obtain ⟨q,hq⟩:∃q,l[j]=q:=⟨_,rfl⟩
  have e1:l[(j:Int).toNat]'ai=q:=hq;have hs:l.take (j+1)=l.take j++[q]:=by rw[yC ab,hq]
  have li:=hb q (by rw[←hq];exact zJ ab);have kc:(l.take j).length=j:=by rw[zY];omega
  clear h;refine oO ?_;refine⟨E,by omega,ai,?_⟩;rw[e1]
  conv=>whnf
  refine c0 (Anh q li) F147 ?_;refine oO ?_;refine Ah (Ag Γ.toTy 16 E E E E E (.row E) (.lit (e:=Ca) (l:=[q]) E E) y_ (by rw[kc];simp;omega) (by rw[kc];simp;omega)) E E ?_;refine gE ?_;exact Az [(1000,16)] ab ⟨⟨E,E,E,E,E,E,E,E,Y⟩,⟨.inl (zH (Ob.row 7 Ca) hs),E,Y⟩,E,E⟩
 ·have jc:j=l.length:=qB h;subst jc;rw[yN];refine oO ?_;exact done E (.cons .tmp .nil) [(0,1000)] [(0,.row 7 Ca l)] (λ_ h=>h) E E uU
def Ao1(l:List QueuedM)(q:QueuedM)(hl:l.length<1000000)(hb:Wm l)(li:q.frame.body.length<100000):Sp 179 [.sl 7 Ca l,Ca q] (.tup [.sl 7 Ca (pushT l q).1,Ab (pushT l q).2]):=cT F179 ntmps179 λF hF=>by
 have aa:=pushT.eq_1 l q;generalize pushT l q=res at *
 conv=>whnf
 refine Ah (Ad [(0,55)] E F146 (A7y l hl hb) E Y E ⟨.inr E,Y⟩) E E ?_;refine oO ?_;constructor<;>intro h
 ·rw[zE (qA h)]at aa;subst aa;refine oO ?_;refine Aj 55 E ?_;exact dN
 ·rw[zD (qB h)]at aa;subst aa;refine oO ?_;refine c0 (Anh q li) F147 ?_;refine oO ?_;refine Ah (Ag Γ.toTy 17 E E E E E (.row E) (.lit (e:=Ca) (l:=[q]) E E) j_ (by simp;omega) (by simp;omega)) E E ?_;refine Aj 17 E ?_;exact gF
def Af5(l:List QueuedM)(at_:Int)(hl:l.length<1000000)(hb:Wm l):Sp 79 [.sl 7 Ca l,Aa at_] (.tup [Ca (takeT l at_).1,.sl 7 Ca (takeT l at_).2.1,Ab (takeT l at_).2.2]):=cT F79 ntmps79 λF hF=>by
 have aa:=takeT.eq_1 l at_;generalize takeT l at_=res at *
 conv=>whnf
 constructor<;>intro h
 ·rw[zE (.inl (zO h))]at aa;subst aa;refine oT ?_;refine Ah (Ad [(0,55)] E F146 (A7y l hl hb) E Y E ⟨.inr E,Y⟩) E E ?_;refine Aj 55 E ?_;refine oO ?_;refine Al 4 [Aa 0,Aa 0,Aa 0,Bj 0,Bj 0,Aa 0,.sl 1 Ak []] E vL ?_;exact dN
 have h0:0≤at_:=qB h;clear h;refine oO ?_;constructor<;>intro h
 ·rw[zE (.inr (zO h))]at aa;subst aa;refine oO ?_;refine Ah (Ad [(0,55)] E F146 (A7y l hl hb) E Y E ⟨.inr E,Y⟩) E E ?_;refine Aj 55 E ?_;refine oO ?_;refine Al 4 [Aa 0,Aa 0,Aa 0,Bj 0,Bj 0,Aa 0,.sl 1 Ak []] E vL ?_;exact dN
 have h1:at_<l.length:=qB h;clear h;have hk:at_.toNat<l.length:=by omega
 have af:l≠[]:=λe=>by rw[e]at hk;simp at hk
 have pp:((at_.toNat:Nat):Int)=at_:=by omega
 rw[zD q_,zU hk,Option.getD_some]at aa;obtain ⟨q,hq⟩:∃q,l[at_.toNat]'hk=q:=⟨_,rfl⟩
 rw[hq]at aa;have li:=hb q (by rw[←hq];exact zJ hk);refine G_dat 0 90 E af ?_;intro B off cap jm;refine run Γ hm 3 ?_
 conv=>whnf
 refine Bv (Ads 90 (.inl E) E E) z_ E ?_;refine oD ?_;refine⟨E,h0,hk,?_⟩;rw[hq]
 conv=>whnf
 refine cD (Anh q li) F147 ?_;refine oD ?_;refine Bv (Ai2 (hi:=at_.toNat) Γ.toTy E E E E (zH (λz=>SV.val (.int .i64 z)) pp.symm) (zH (λz=>SV.val (.int .i64 z)) pp.symm) q_) z_ E ?_;refine Bv (Ads 90 (.inl E) E E) z_ E ?_;refine oD ?_;refine iW ?_;refine Bv (D0 (lo:=at_.toNat+1) (hi:=l.length) Γ.toTy E E E E (.inr ⟨_,_,E,zH (λz=>SV.val (.int .i64 z)) q_⟩) (.inl ⟨E,E⟩) q_ (yD _)) z_ E ?_;have kc:((l.take l.length).drop (at_.toNat+1)).length=l.length-(at_.toNat+1):=by rw[yQ,zY];omega
 refine Bv (Ai6 Γ.toTy 90 E E E E E E (Nat.le_of_lt hk) E (by rw[kc];omega) (by rw[kc];omega)) z_ E ?_;have he:l.take at_.toNat++(l.take l.length).drop (at_.toNat+1)=l.eraseIdx at_.toNat:=by rw[yN,List.eraseIdx_eq_take_drop_succ]
 have hel:(l.take at_.toNat++(l.take l.length).drop (at_.toNat+1)).length<1000000:=by rw[he,List.length_eraseIdx];split<;>omega
 have heb:Wm (l.take at_.toNat++(l.take l.length).drop (at_.toNat+1)):=by rw[he];exact λx hx=>hb x (List.mem_of_mem_eraseIdx hx)
 refine oD ?_;refine Bv (Ad [(0,55)] E F146 (A7y _ hel heb) E Y E ⟨.inr E,Y⟩) z_ E ?_;refine gH ?_;refine Aj 55 E ?_;refine As E (.cons (.cell E E E E) (.cons .tmp (.cons .tmp .nil))) ?_ E;subst aa;show SV.tup [_,.sl 7 Ca (l.eraseIdx at_.toNat),_]=SV.tup [_,.sl 7 Ca (l.take at_.toNat++(l.take l.length).drop (at_.toNat+1)),_];rw[he];rfl
def I7{α:Type}(q:α→Bool)(l:List α):Nat→Nat
 |0=>0
 |j+1=>match l[j]? with
  |some x=>if q x=true then I7 q l j+1 else I7 q l j
  |none=>I7 q l j
def dfC{α:Type}(q:α→Bool)(l:List α):Nat→List α
 |0=>l
 |j+1=>match l[j]? with
  |some x=>if q x=true then (dfC q l j).set (I7 q l j) x else dfC q l j
  |none=>dfC q l j
def Ae1{α:Type}(q:α→Bool)(l:List α)(j:Nat):I7 q l j≤j:=by
 induction j with
 |zero=>exact yD _
 |succ j ih=>
  simp only[I7];split
  ·split<;>omega
  ·omega
def Y6{α:Type}(q:α→Bool)(l:List α)(j:Nat):(dfC q l j).length=l.length:=by
 induction j with
 |zero=>rfl
 |succ j ih=>
  simp only[dfC];split
  ·split
   ·rw[yP];exact ih
   ·exact ih
  ·exact ih
def Axh{α:Type}(q:α→Bool)(l:List α)(j k:Nat)(h:j≤k):(dfC q l j)[k]? = l[k]?:=by
 induction j with
 |zero=>rfl
 |succ j ih=>
  simp only[dfC];split
  ·split
   ·rw[List.getElem?_set_ne (by have:=Ae1 q l j;omega)];exact ih q_
   ·exact ih q_
  ·exact ih q_
def Aq6{α:Type}(q:α→Bool)(l:List α)(j:Nat)(h:j≤l.length):(dfC q l j).take (I7 q l j)=(l.take j).filter q:=by
 induction j with
 |zero=>rfl
 |succ j ih=>
  have hj:j<l.length:=by omega
  have ih:=ih q_;have hc:=Ae1 q l j;simp only[dfC,I7,zU hj];rw[vR,zU hj,List.filter_append];by_cases hq:q l[j]=true
  ·rw[zE hq,zE hq];have ab:I7 q l j<((dfC q l j).set (I7 q l j) l[j]).length:=by rw[yP,Y6];omega
   rw[vR,zU ab,uT];rw[List.take_set_of_le (yD _),ih];simp[hq]
  ·rw[zD hq,zD hq,ih];simp[hq]
def Ak1{α:Type}(q:α→Bool)(l:List α)(i:Nat)(hi:i≤l.length)(h:∀k (hk:k<l.length),k<i→q l[k]=true):dfC q l i=l∧I7 q l i=i:=by
 induction i with
 |zero=>exact⟨rfl,rfl⟩
 |succ i ih=>
  obtain ⟨h1,h2⟩:=ih q_ (λk hk o8=>h k hk q_);have ls:i<l.length:=by omega
  simp only[dfC,I7,zU ls];rw[zE (h i ls q_),zE (h i ls q_),h1,h2];exact⟨wO ls,E⟩
def Ov{α:Type}(p:α→Bool)(l:List α):(Br p l=-1∧∀x∈l,p x=false)∨∃(i:Nat) (hi:i<l.length),Br p l=i∧p l[i]=true∧∀k (hk:k<l.length),k<i→p l[k]=false:=by
 unfold Br;cases h:l.findIdx? p with
 |none=>exact .inl ⟨rfl,by simpa using h⟩
 |some i=>
  rw[xZ]at h;obtain ⟨hi,h1,h2⟩:=h;exact .inr ⟨i,hi,E,h1,λk hk o8=>by simpa using h2 k o8⟩
def Wb(l:List EntryM)(hl:l.length<2147483648):Sq 193 [.sl 3 Bf l] [] (.osl 0) [(0,.row 3 Bf l)]:=cT F193 ntmps193 λF hF=>by
 conv=>whnf
 refine Eh E (.inl E) E E E .sl E E ?_;intro b hb;cases b
 ·refine oF ?_;refine Ah (Ag Γ.toTy 7 E E E E E (.lit (e:=Bf) (l:=[]) E E) .sl y_ (by simp;omega) (by simp;omega)) E E ?_;refine oO ?_;exact done E (.cons .tmp .nil) [(0,7)] [(0,.row 3 Bf l)] (λ_ h=>h) E E uU
 ·have h0:l=[]:=zX (hb rfl);subst h0;refine oT ?_;refine Ce 2 1000 3 Bf E E ?_;exact done E (.cons .tmp .nil) [(0,1000)] [(0,.row 3 Bf [])] (λ_ h=>h) E E uU
def Si(l:List EntryM)(p:EntryM→Bool)(f:FuncId)(first cap:List SV)(hc:(SV.clo (.func f) first cap).inn []=true)(hf:∀x∈l,Hb prog f (first++[Bf x]++cap) (Ab (p x)))(hl:Am l):Sp 274 [.sl 3 Bf l,.clo (.func f) first cap] (Aa (Br p l)):=cT F274 ntmps274 λF hF=>by
 unfold Am at hl;have ar:∀x:EntryM,B8 [] (first++[Bf x]++cap)=true:=λx=>C9 hc rfl
 conv=>whnf
 refine Bi l.length (λj=>H8 (λ_ x=>!(p x)) l j) (λj=>[(0,.sl 3 Bf l),(1,.clo (.func f) first cap),(7,Aa l.length),(8,Aa j)]) (λ_=>[]) [] (Bo _ _) ⟨⟨E,E,Bd _,hc,E,E,E,E,Y⟩,Y,E,E⟩ ?_;intro j hj hI;refine oO ?_;constructor<;>intro h
 ·have h:=zO h;have an:j<l.length:=by omega
  refine oO ?_;refine⟨E,by omega,by omega,?_⟩
  conv=>whnf
  refine Eg (hf l[j] (zJ an)) E E E (by simp only[ar];rfl) E E ?_;refine oO ?_;constructor<;>intro h2
  ·refine oO ?_;refine As E (.cons .tmp .nil) (zH Aa ?_) E;exact Co an (λi hi bc=>by simpa using hI i hi bc) h2
  ·refine gE ?_;exact Bc [] hI an (Bl hI an (by simp[h2])) ⟨⟨E,E,Bd _,hc,E,E,E,E,Y⟩,Y,E,E⟩
 ·have h:=zT h;refine oO ?_;refine As E (.cons .tmp .nil) (zH Aa ?_) E;exact Di (λi hi=>by simpa using hI i hi q_)
def Aa2(l:List EntryM)(p:EntryM→Bool)(f:FuncId)(first cap:List SV)(hc:(SV.clo (.func f) first cap).inn []=true)(dx:(SV.clo (.func f) first cap).inn [0]=true)(hf:∀x∈l,Hb prog f (first++[Bf x]++cap) (Ab (p x)))(hl:Am l):Sq 195 [.osl 0,.clo (.func f) first cap] [(0,.row 3 Bf l)] (.osl 1) [(0,.non),(1,.row 3 Bf (l.filter λx=>!(p x)))]:=cT F195 ntmps195 λF hF=>by
 have qi:=Si l p f first cap hc hf hl
 unfold Am at hl;have ar:∀x:EntryM,B8 [] (first++[Bf x]++cap)=true:=λx=>C9 hc rfl
 conv=>whnf
 refine Axi [0] qi F274 E (.cons (.row E E) (.cons (.refl _) .nil)) (by simp only[B8,hc,uA];rfl) E E ?_;rcases Ov p l with ⟨h1,h2⟩|⟨i,hi,h1,h2,h3⟩
 ·rw[h1];have e1:(l.filter λx=>!(p x))=l:=List.filter_eq_self.2 (λx hx=>by simp[h2 x hx]);rw[e1];refine oT ?_;refine Av2 0 1000 [0,4] E E j_ (by simp;exact⟨E,E⟩) ?_;exact done E (.cons .tmp .nil) [(0,0),(1,1000)] _ (λ_ h=>h) E E uU
 obtain ⟨f1,f2⟩:=Ak1 (λx=>!(p x)) l i q_ (λk hk o8=>by simp[h3 k hk o8]);have g1:dfC (λx=>!(p x)) l (i+1+0)=l:=by
  show dfC (λx=>!(p x)) l (i+1)=l;simp only[dfC,zU hi];rw[zD (by simp[h2]),f1]
 have g2:I7 (λx=>!(p x)) l (i+1+0)=i:=by
  show I7 (λx=>!(p x)) l (i+1)=i;simp only[I7,zU hi];rw[zD (by simp[h2]),f2]
 rw[h1];refine oF ?_;refine iW ?_;refine A8 (l.length-(i+1)) (λj=>[(0,.osl 0),(1,.clo (.func f) first cap),(5,Aa (I7 (λx=>!(p x)) l (i+1+j))),(6,Aa ((i+1+j:Nat)))]) (λj=>[(0,.row 3 Bf (dfC (λx=>!(p x)) l (i+1+j)))]) []
  ⟨⟨rfl,rfl,Bd _,dx,zH Aa (zH Int.ofNat g2),rfl,zH (λz=>SV.val (.int .i64 z)) q_,rfl,trivial⟩,⟨.inl (zH (Ob.row 3 Bf) g1),rfl,trivial⟩,rfl,rfl⟩ ?_
 intro j hj;have gn:=Ae1 (λx=>!(p x)) l (i+1+j);have fu:=Y6 (λx=>!(p x)) l (i+1+j);have bg:=Axh (λx=>!(p x)) l (i+1+j) (i+1+j) (yD _);have s1:∀h:i+1+j<l.length,I7 (λx=>!(p x)) l (i+1+(j+1))=if (!(p l[i+1+j]))=true then I7 (λx=>!(p x)) l (i+1+j)+1 else I7 (λx=>!(p x)) l (i+1+j):=λab=>by
  show I7 (λx=>!(p x)) l (i+1+j+1)=_;simp only[I7,zU ab]
 have s2:∀h:i+1+j<l.length,dfC (λx=>!(p x)) l (i+1+(j+1))=if (!(p l[i+1+j]))=true then (dfC (λx=>!(p x)) l (i+1+j)).set (I7 (λx=>!(p x)) l (i+1+j)) l[i+1+j] else dfC (λx=>!(p x)) l (i+1+j):=λab=>by
  show dfC (λx=>!(p x)) l (i+1+j+1)=_;simp only[dfC,zU ab]
 have gw:=λh=>Aq6 (λx=>!(p x)) l (i+1+j) h
 obtain ⟨D,hD⟩:∃D,dfC (λx=>!(p x)) l (i+1+j)=D:=⟨_,rfl⟩
 obtain ⟨K,hK⟩:∃K,I7 (λx=>!(p x)) l (i+1+j)=K:=⟨_,rfl⟩
 rw[hD]at fu bg s2 gw⊢;rw[hK]at gn s1 s2 gw⊢;refine oO ?_;constructor<;>intro h
 ·have ab:i+1+j<l.length:=qA h;have x4:=hf l[i+1+j] (zJ ab);have s1:=s1 ab;have s2:=s2 ab;rw[zU ab,zU q_]at bg;have bg:=Option.some.inj bg;obtain ⟨x,hx⟩:∃x,l[i+1+j]=x:=⟨_,rfl⟩
  rw[hx]at x4 s1 s2 bg;refine oO ?_;refine⟨by omega,by simp;omega,?_⟩
  conv=>whnf
  refine⟨E,by omega,?_⟩;rw[show D[((i+1+j:Nat):Int).toNat]'q_=x from bg]
  conv=>whnf
  refine Eg x4 E E E (by simp only[ar];rfl) E E ?_;cases ru:p x
  ·rw[ru]at s1 s2;refine oT ?_;refine⟨by omega,by simp;omega,?_⟩
   conv=>whnf
   refine⟨E,by omega,x,E,E,?_⟩
   conv=>whnf
   refine iW ?_;refine iW ?_;exact Az [] q_ ⟨⟨E,E,Bd _,dx,zH Aa (zH Int.ofNat s1),E,zH (λz=>SV.val (.int .i64 z)) q_,E,Y⟩,⟨.inl (zH (Ob.row 3 Bf) s2),E,Y⟩,E,E⟩
  ·rw[ru]at s1 s2;refine oF ?_;refine iW ?_;exact Az [] q_ ⟨⟨E,E,Bd _,dx,zH Aa (zH Int.ofNat s1),E,zH (λz=>SV.val (.int .i64 z)) q_,E,Y⟩,⟨.inl (zH (Ob.row 3 Bf) s2),E,Y⟩,E,E⟩
 ·have jv:i+1+j=l.length:=qB h;have af:D≠[]:=λh=>by rw[h]at fu;simp at fu;omega
  have gw:=gw q_;rw[show l.take (i+1+j)=l from xG q_]at gw;refine Arw 0 [0] E af (by simp;rfl) ?_;intro b du jm;refine oO ?_;refine Ah (Dp Γ.toTy E E E E (.inr ⟨_,_,E,E⟩) (.inl ⟨E,E⟩) q_ q_) E E ?_;refine oO ?_;refine Ah (Ow Γ.toTy 0 (k:=K) E E E E j_ E E E q_ q_) E E ?_;refine oO ?_;refine Ah (Dp Γ.toTy E E E E (.inl ⟨E,E⟩) (.inr ⟨_,_,E,E⟩) q_ q_) E E ?_;refine oO ?_;refine Abk 0 1000 [4] K E E (by rw[zY];omega) (λi hi=>?_) ?_
  ·rw[yA]at hi;subst hi;show SV.val (.slice (some (if du=0 then ⟨b,0,none⟩ else ⟨b,0*3,none⟩)) (K-0) (du-0))=_;split<;>simp
  refine done E (.cons .tmp .nil) [(0,0),(1,1000)] _ (λ_ h=>h) E E ⟨Y,⟨.inl E,E,.inl ?_,E,Y⟩,E,E⟩;rw[←gw];exact zH (Ob.row 3 Bf) (by rw[List.take_take,Nat.min_self])
def Ai9(l:List EntryM)(i:Nat)(hi:i<l.length)(_hl:Am l):Sq 322 [.osl 0,Aa i,Aa ((i+1:Nat):Int)] [(0,.row 3 Bf l)] (.osl 1) [(0,.non),(1,.row 3 Bf (l.take i++l.drop (i+1)))]:=cT F322 ntmps322 λF hF=>by
 have af:l≠[]:=λh=>by rw[h]at hi;simp at hi
 refine fW ?_;refine Arw 0 [0,8] E af (by simp;exact⟨E,E⟩) ?_;intro b cap jm;refine fU ?_;refine Ah (Ai1 Γ.toTy E E E E E E E q_ q_ jm) E E ?_;refine fU ?_;refine⟨λh=>yB h (by simp;omega),λ_=>?_⟩;refine fU ?_;refine Bv (Dp Γ.toTy E E E E (.inl ⟨E,E⟩) (.inr ⟨_,_,E,E⟩) q_ q_) z_ E ?_;refine fU ?_;refine Bv (Dp (hi:=l.length) Γ.toTy E E E E (.inr ⟨_,_,E,E⟩) (.inl ⟨E,E⟩) q_ q_) z_ E ?_;refine fU ?_;have hif:(if cap=0 then (⟨b,0,none⟩:Addr) else ⟨b,0*3,none⟩)=⟨b,0,none⟩:=by split<;>simp
 refine Bv (Aen Γ.toTy 0 (n:=l.length) (i:=i) (j:=i+1) E E E (zH (λz=>SV.val (.slice (some z) i cap)) hif) E E E E q_ q_) z_ E ?_;refine fU ?_;refine⟨z_,?_⟩;refine fW ?_;refine Ah (Dp (lo:=i+(l.length-(i+1))) (hi:=l.length) Γ.toTy E E E E (.inr ⟨_,_,E,E⟩) (.inr ⟨_,_,E,E⟩) q_ q_) E E ?_;refine fU ?_;have kc:(l.take i++l.drop (i+1)).length=i+(l.length-(i+1)):=by rw[zQ,zY,yQ];omega
 refine Ah (Ow Γ.toTy 0 (k:=i+(l.length-(i+1))) E E E E j_ E E E q_ q_) E E ?_;refine fU ?_;refine Abk 0 1000 [6] (i+(l.length-(i+1))) E E (by rw[zY];omega) (by simp;rfl) ?_;refine done E (.cons .tmp .nil) [(0,0),(1,1000)] _ (λ_ h=>h) E E ⟨Y,⟨.inl E,E,.inl ?_,E,Y⟩,E,E⟩;exact zH (Ob.row 3 Bf) (by rw[List.take_take,Nat.min_self];exact(xG q_).symm)
def Acw(m:Nat)(h:m<18446744073709551616):Sp 258 [Bj m] (Ab (H2 m)):=cT F258 ntmps258 λF hF=>by
 have q:=On m h;refine fW ?_;constructor<;>intro h1
 ·have h2:m≤281474976710655:=by simp at h1;omega
  refine fU ?_;refine c0 q F177 ?_;refine fU ?_;exact As E (.cons .tmp .nil) (zH Ab (by rw[H2,zL h2,yF])) E
 ·have h2:¬m≤281474976710655:=by simp at h1;omega
  refine fU ?_;exact As E (.cons .tmp .nil) (zH Ab (by rw[H2,zI h2,yG])) E
def Yn(i:Int):Sp 194 [Aa i] (Ab (Hq i)):=cT F194 ntmps194 λF hF=>by
 conv=>whnf
 (repeat' (first|(refine⟨λh=>?_,λh=>?_⟩<;>(repeat (first|simp only[zK]at h|simp only[yE]at h))<;>((refine oO ?_)))|(refine As rfl (.cons .tmp .nil) ?_ rfl)))
 all_goals (refine zH Ab ?_)
 all_goals grind [Hq]
def Ax5(m:Nat)(e:EntryM):Sp 320 [Bf e,.ref 1 (Bj m) 0] (Ab (decide (e.mac=m))):=cT F320 ntmps320 λF hF=>by
 conv=>whnf
 refine As E (.cons .tmp .nil) ?_ E;refine zH Ab ?_;rw[wF];simp;omega
def Abw(t:List EntryM)(m:Nat)(hl:Am t):Sp 259 [.sl 3 Bf t,Bj m] (Aa (Dw t m)):=cT F259 ntmps259 λF hF=>by
 have q:=Si t (λe=>decide (e.mac=m)) 320 [] [.ref 1 (Bj m) 0] rfl (λx _=>⟨⟨_,_,F320⟩,Ax5 m x⟩) hl
 conv=>whnf
 refine Ba 3 1 (Bj m) E E E ?_;refine oO ?_;refine c0 q F274 ?_;exact gF
def A16(t:List EntryM)(m:Nat)(hl:Am t):Sp 333 [.sl 3 Bf t,Bj m] (.tup [Aa (findE t m).1,Ab (findE t m).2]):=cT F333 ntmps333 λF hF=>by
 have q:=Abw t m hl;have ab:Dw t m<t.length:=Ij _ _;have aa:=findE.eq_1 t m;generalize findE t m=res at *;generalize Dw t m=i at *
 conv=>whnf
 refine c0 q F259 ?_;refine oO ?_;constructor<;>intro h
 ·rw[zE (by simpa using h)]at aa;subst aa;exact gF
 ·have h0:¬i<0:=by simpa using h
  have hi:i.toNat<t.length:=by omega
  rw[zD h0,zU hi]at aa;subst aa;refine oO ?_;refine⟨E,by omega,by omega,?_⟩
  conv=>whnf
  exact dN
def Abv(t:List EntryM)(hl:Am t)(pq:∀e∈t,e.mac<18446744073709551616):Sp 181 [.sl 3 Bf t] (Ab (tableB t)):=cT F181 ntmps181 λF hF=>by
 unfold Am at hl;have aa:=tableB.eq_1 t;generalize tableB t=res at *
 conv=>whnf
 constructor<;>intro h
 ·have h8:¬t.length≤8:=by simp at h;omega
  rw[zI h8,yG]at aa;subst aa;exact gF
 have h8:t.length≤8:=by simp at h;omega
 rw[zL h8,yF]at aa;refine oO ?_;refine Bi t.length (λj=>H8 (Tz t) t j) (λj=>[(0,.sl 3 Bf t),(8,.sl 3 Bf t),(9,Aa t.length),(10,Aa j)]) (λ_=>[]) [] (Bo _ _) uU ?_;intro j hj hI;refine oO ?_;constructor<;>intro h
 ·have ab:j<t.length:=qA h;have q1:=Acw t[j].mac (pq _ (zJ ab));have q2:=Yn t[j].seen;have q3:=Abw t t[j].mac hl;have sr:Tz t j t[j]=(H2 t[j].mac&&Hq t[j].seen&&decide (Dw t t[j].mac=j)):=rfl;have d9:Tz t j t[j]=false→res=false:=λhf=>by rw[aa];exact Dg ab hf
  have x5:Tz t j t[j]=true→H8 (Tz t) t (j+1):=λht=>Bl hI ab ht
  refine oO ?_;refine⟨E,by omega,by omega,?_⟩;rw[show t[(j:Int).toNat]'q_=t[j] from rfl];generalize t[j]=x at *
  conv=>whnf
  refine c0 q1 F258 ?_;cases h1:H2 x.mac
  ·rw[d9 (by rw[sr,h1];rfl)]
   (refine oT ?_;refine bT ?_;refine bT ?_)
   exact dN
  refine oF ?_;refine c0 q2 F194 ?_;cases h2:Hq x.seen
  ·rw[d9 (by rw[sr,h1,h2];rfl)]
   (refine oT ?_;refine bT ?_)
   exact dN
  refine oF ?_;refine c0 q3 F259 ?_;refine oO ?_;constructor<;>intro h3
  ·rw[d9 (by rw[sr,h1,h2,zI (by simpa using h3)];rfl)];exact gF
  ·have h4:=x5 (by rw[sr,h1,h2,zL (by simpa using h3)];rfl);refine gE ?_;exact Bc [] hI q_ h4 uU
 ·have jv:j=t.length:=qB h;subst jv;rw[aa.trans (Hh hI (yD _))];exact gF
def A6f(now:Int)(hn:Hq now=true)(e:EntryM):Sp 196 [Bf e,.ref 1 (Aa now) 0] (Ab (decide (e.seen<now-4))):=cT F196 ntmps196 λF hF=>by
 have hn2:0≤now∧now≤1099511627776:=by simpa [Hq] using hn
 conv=>whnf
 refine iW ?_;exact dN
def A6e(t:List EntryM)(now:Int)(hl:Am t)(pq:∀e∈t,e.mac<18446744073709551616):Sp 119 [.sl 3 Bf t,Aa now] (.sl 3 Bf (ageT t now)):=cT F119 ntmps119 λF hF=>by
 have js:=hl;unfold Am at js;have aa:=ageT.eq_1 t now;generalize ageT t now=res at *;have q1:=Abv t hl pq;have q2:=Yn now
 conv=>whnf
 refine Ah (Ad [(0,55)] E F193 (Wb t js) E Y E ⟨.inr E,Y⟩) E E ?_;refine oO ?_;refine c0 q1 F181 ?_;cases h1:tableB t
 ·rw[zE (.inl h1)]at aa;subst aa
  (refine oT ?_;refine bT ?_)
  refine Aj 55 E ?_;exact dN
 refine oF ?_;refine c0 q2 F194 ?_;cases h2:Hq now
 ·rw[zE (.inr h2)]at aa;subst aa;refine oT ?_;refine Aj 55 E ?_;exact dN
 rw[zD (by simp[h1,h2])]at aa;refine oF ?_;refine Ba 3 1 (Aa now) E E E ?_;refine oO ?_;have q3:=Aa2 t (λe=>decide (e.seen<now-4)) 196 [] [.ref 1 (Aa now) 0] rfl rfl (λx _=>⟨⟨_,_,F196⟩,A6f now h2 x⟩) hl;refine Ah (Ad [(0,55),(1,56)] E F195 q3 E ⟨E,Y⟩ E ⟨.inl E,.inr E,Y⟩) E E ?_;refine oO ?_;refine Aj 56 E ?_;refine As E (.cons .tmp .nil) ?_ E;subst aa;refine zH (SV.sl 3 Bf) (List.filter_congr λe _=>?_);rw[wF];simp
def Agc(t:List EntryM)(j:Nat)(h:0<t.length)(hj:j≤t.length):oldestU t j<t.length:=by
 induction j with
 |zero=>exact h
 |succ j ih=>
  rw[oldestU];split
  ·omega
  ·exact ih q_
def Ar6(t:List EntryM)(hl:Am t)(h0:0<t.length):Sp 321 [.sl 3 Bf t] (Aa (oldestU t t.length:Nat)):=cT F321 ntmps321 λF hF=>by
 unfold Am at hl
 conv=>whnf
 refine A8 t.length (λj=>[(0,.sl 3 Bf t),(3,Aa (oldestU t j:Nat)),(6,.sl 3 Bf t),(7,Aa t.length),(8,Aa j)]) (λ_=>[]) [] uU ?_;intro j hj;refine oO ?_;constructor<;>intro h
 ·have ab:j<t.length:=qA h;have ky:=Agc t j h0 q_;have hs:=oldestU.eq_2 t j;rw[zU ab,zU ky]at hs;obtain ⟨o,ho⟩:∃o,oldestU t j=o:=⟨_,rfl⟩
  simp only[ho]at hs ky⊢;have m5:oldestU t (j+1)=if t[j].seen<t[o].seen then j else o:=hs
  refine oO ?_;refine⟨E,by omega,by omega,?_⟩;rw[show t[(j:Int).toNat]'q_=t[j] from rfl]
  conv=>whnf
  refine⟨E,by omega,by omega,?_⟩;rw[show t[(o:Int).toNat]'q_=t[o] from rfl]
  conv=>whnf
  refine kW ?_;constructor<;>intro h2
  ·rw[zE (zO h2)]at m5;refine gE ?_;exact Az [] q_ ⟨⟨E,E,zH (λz:Nat=>Aa z) m5,E,E,E,E,E,E,E,Y⟩,Y,E,E⟩
  ·rw[zD (zT h2)]at m5;refine gE ?_;exact Az [] q_ ⟨⟨E,E,zH (λz:Nat=>Aa z) m5,E,E,E,E,E,E,E,Y⟩,Y,E,E⟩
 ·have:j=t.length:=qB h;subst this;exact gF
def Ajl(t:List EntryM)(m:Nat)(wh now:Int)(hl:Am t)(pq:∀e∈t,e.mac<18446744073709551616)(u9:m<18446744073709551616):Sp 260 [.sl 3 Bf t,Bj m,Aa wh,Aa now] (.sl 3 Bf (learnT t m wh now)):=cT F260 ntmps260 λF hF=>by
 have js:=hl;unfold Am at js;have aa:=learnT.eq_1 t m wh now;generalize learnT t m wh now=res at *;have q1:=Abv t hl pq;have q2:=Acw m u9;have q3:=Yn now;have q4:=Abw t m hl
 conv=>whnf
 refine Ah (Ad [(0,55)] E F193 (Wb t js) E Y E ⟨.inr E,Y⟩) E E ?_;refine oO ?_;refine c0 q1 F181 ?_;cases h1:tableB t
 ·rw[zE (.inl h1)]at aa;subst aa
  (refine oT ?_;refine bT ?_;refine bT ?_)
  refine Aj 55 E ?_;exact dN
 refine oF ?_;refine c0 q2 F258 ?_;cases h2:H2 m
 ·rw[zE (.inr (.inl h2))]at aa;subst aa
  (refine oT ?_;refine bT ?_)
  refine Aj 55 E ?_;exact dN
 refine oF ?_;refine c0 q3 F194 ?_;cases h3:Hq now
 ·rw[zE (.inr (.inr h3))]at aa;subst aa;refine oT ?_;refine Aj 55 E ?_;exact dN
 rw[zD (by simp[h1,h2,h3])]at aa;have ht8:t.length≤8:=by simp only[tableB,zG,zK]at h1;exact h1.1
 have vc:∀hi:0≤Dw t m,∃h:(Dw t m).toNat<t.length,t[(Dw t m).toNat].mac=m:=λhi=>by
  rcases Ov (λe=>decide (EntryM.mac e=m)) t with ⟨h,_⟩|⟨k,hk,h,h2,_⟩
  ·rw[Dw,h]at hi;exact yB hi j_
  ·have e1:Dw t m=k:=h;simp only[e1,zZ];exact⟨hk,zO h2⟩
 generalize Dw t m=i at *;refine oF ?_;refine c0 q4 F259 ?_;refine oO ?_;constructor<;>intro h4
 ·have h5:0≤i:=by simpa using h4
  obtain ⟨hi,tz⟩:=vc h5;rw[zE h5]at aa;refine oO ?_;have af:t≠[]:=λh=>by rw[h]at hi;simp at hi
  refine⟨h5,by omega,?_⟩
  conv=>whnf
  refine⟨af,?_⟩
  conv=>whnf
  refine⟨E,hi,⟨t[i.toNat].mac,wh,t[i.toNat].seen⟩,E,E,?_⟩
  conv=>whnf
  refine⟨h5,by simp;omega,?_⟩
  conv=>whnf
  refine⟨by simp;exact af,?_⟩
  conv=>whnf
  refine⟨E,by simp;omega,⟨t[i.toNat].mac,wh,now⟩,by rw[uT];rfl,by rw[uT];rfl,?_⟩
  conv=>whnf
  refine Aj 55 E ?_;refine oO ?_;refine As E (.cons .tmp .nil) (zH (SV.sl 3 Bf) ?_) E;rw[aa,List.set_set,tz]
 ·have h5:¬0≤i:=by simp at h4⊢;omega
  rw[zD h5]at aa;refine oO ?_;constructor<;>intro h6
  ·have h7:t.length=8:=by simp at h6;omega
   rw[zE h7]at aa;have q5:=Ar6 t hl q_;have ky:=Agc t t.length q_ (yD _);refine oO ?_;refine Axi [55] q5 F321 E (.cons (.row E E) .nil) E E E ?_;generalize oldestU t t.length=o at *;have q6:=Ai9 t o ky hl;refine gE ?_;refine Ah (Ad [(0,55),(1,56)] E F322 q6 E ⟨E,Y⟩ E ⟨.inl E,.inr E,Y⟩) E E ?_;refine oO ?_;refine Ah (Ag Γ.toTy 60 rfl rfl rfl rfl rfl (.row rfl) (.lit (e:=Bf) (l:=[⟨m,wh,now⟩]) rfl rfl) (λj hj=>by cases hj;decide) (by simp;omega) (by simp;omega)) rfl rfl ?_;refine Aj 60 E ?_;refine oO ?_;refine As E (.cons .tmp .nil) (zH (SV.sl 3 Bf) ?_) E;rw[aa,List.eraseIdx_eq_take_drop_succ]
  ·have h7:¬t.length=8:=by simp at h6;omega
   rw[zD h7]at aa;refine oO ?_;refine Ah (Ag Γ.toTy 60 rfl rfl rfl rfl rfl (.row rfl) (.lit (e:=Bf) (l:=[⟨m,wh,now⟩]) rfl rfl) (λj hj=>by cases hj;decide) (by simp;omega) (by simp;omega)) rfl rfl ?_;refine Aj 60 E ?_;refine oO ?_;exact As E (.cons .tmp .nil) (zH (SV.sl 3 Bf) aa) E
def Anj(l:List Int)(hl:l.length<2147483648):Sq 111 [.sl 1 Aa l] [] (.osl 0) [(0,.row 1 Aa l)]:=cT F111 ntmps111 λF hF=>by
 conv=>whnf
 refine Eh E (.inl E) E E E .sl E E ?_;intro b hb;cases b
 ·refine oF ?_;refine Ah (Ag Γ.toTy 7 E E E E E (.lit (e:=Aa) (l:=[]) E E) .sl y_ (by simp;omega) (by simp;omega)) E E ?_;refine oO ?_;exact done E (.cons .tmp .nil) [(0,7)] [(0,.row 1 Aa l)] (λ_ h=>h) E E uU
 ·have h0:l=[]:=zX (hb rfl);subst h0;refine oT ?_;refine Ce 2 1000 1 Aa E E ?_;exact done E (.cons .tmp .nil) [(0,1000)] [(0,.row 1 Aa [])] (λ_ h=>h) E E uU
def Aep(l:List Int)(p:Int→Bool)(f:FuncId)(first cap:List SV)(hc:(SV.clo (.func f) first cap).inn []=true)(dx:(SV.clo (.func f) first cap).inn [0]=true)(hf:∀x∈l,Hb prog f (first++[Aa x]++cap) (Ab (p x)))(hl:Am l):Sq 319 [.osl 0,.clo (.func f) first cap] [(0,.row 1 Aa l)] (.osl 1) [(0,.non),(1,.row 1 Aa (l.filter λx=>!(p x)))]:=cT F319 ntmps319 λF hF=>by
 have qi:=Ou l p f first cap hc hf hl
 unfold Am at hl;have ar:∀x:Int,B8 [] (first++[Aa x]++cap)=true:=λx=>C9 hc rfl
 conv=>whnf
 refine Axi [0] qi F341 E (.cons (.row E E) (.cons (.refl _) .nil)) (by simp only[B8,hc,uA];rfl) E E ?_;rcases Ov p l with ⟨h1,h2⟩|⟨i,hi,h1,h2,h3⟩
 ·rw[h1];have e1:(l.filter λx=>!(p x))=l:=List.filter_eq_self.2 (λx hx=>by simp[h2 x hx]);rw[e1];refine oT ?_;refine Av2 0 1000 [0,4] E E j_ (by simp;exact⟨E,E⟩) ?_;exact done E (.cons .tmp .nil) [(0,0),(1,1000)] _ (λ_ h=>h) E E uU
 obtain ⟨f1,f2⟩:=Ak1 (λx=>!(p x)) l i q_ (λk hk o8=>by simp[h3 k hk o8]);have g1:dfC (λx=>!(p x)) l (i+1+0)=l:=by
  show dfC (λx=>!(p x)) l (i+1)=l;simp only[dfC,zU hi];rw[zD (by simp[h2]),f1]
 have g2:I7 (λx=>!(p x)) l (i+1+0)=i:=by
  show I7 (λx=>!(p x)) l (i+1)=i;simp only[I7,zU hi];rw[zD (by simp[h2]),f2]
 rw[h1];refine oF ?_;refine iW ?_;refine A8 (l.length-(i+1)) (λj=>[(0,.osl 0),(1,.clo (.func f) first cap),(5,Aa (I7 (λx=>!(p x)) l (i+1+j))),(6,Aa ((i+1+j:Nat)))]) (λj=>[(0,.row 1 Aa (dfC (λx=>!(p x)) l (i+1+j)))]) []
  ⟨⟨rfl,rfl,Bd _,dx,zH Aa (zH Int.ofNat g2),rfl,zH (λz=>SV.val (.int .i64 z)) q_,rfl,trivial⟩,⟨.inl (zH (Ob.row 1 Aa) g1),rfl,trivial⟩,rfl,rfl⟩ ?_
 intro j hj;have gn:=Ae1 (λx=>!(p x)) l (i+1+j);have fu:=Y6 (λx=>!(p x)) l (i+1+j);have bg:=Axh (λx=>!(p x)) l (i+1+j) (i+1+j) (yD _);have s1:∀h:i+1+j<l.length,I7 (λx=>!(p x)) l (i+1+(j+1))=if (!(p l[i+1+j]))=true then I7 (λx=>!(p x)) l (i+1+j)+1 else I7 (λx=>!(p x)) l (i+1+j):=λab=>by
  show I7 (λx=>!(p x)) l (i+1+j+1)=_;simp only[I7,zU ab]
 have s2:∀h:i+1+j<l.length,dfC (λx=>!(p x)) l (i+1+(j+1))=if (!(p l[i+1+j]))=true then (dfC (λx=>!(p x)) l (i+1+j)).set (I7 (λx=>!(p x)) l (i+1+j)) l[i+1+j] else dfC (λx=>!(p x)) l (i+1+j):=λab=>by
  show dfC (λx=>!(p x)) l (i+1+j+1)=_;simp only[dfC,zU ab]
 have gw:=λh=>Aq6 (λx=>!(p x)) l (i+1+j) h
 obtain ⟨D,hD⟩:∃D,dfC (λx=>!(p x)) l (i+1+j)=D:=⟨_,rfl⟩
 obtain ⟨K,hK⟩:∃K,I7 (λx=>!(p x)) l (i+1+j)=K:=⟨_,rfl⟩
 rw[hD]at fu bg s2 gw⊢;rw[hK]at gn s1 s2 gw⊢;refine oO ?_;constructor<;>intro h
 ·have ab:i+1+j<l.length:=qA h;have x4:=hf l[i+1+j] (zJ ab);have s1:=s1 ab;have s2:=s2 ab;rw[zU ab,zU q_]at bg;have bg:=Option.some.inj bg;obtain ⟨x,hx⟩:∃x,l[i+1+j]=x:=⟨_,rfl⟩
  rw[hx]at x4 s1 s2 bg;refine oO ?_;refine⟨by omega,by simp;omega,?_⟩
  conv=>whnf
  refine⟨E,by omega,?_⟩;rw[show D[((i+1+j:Nat):Int).toNat]'q_=x from bg]
  conv=>whnf
  refine Eg x4 E E E (by simp only[ar];rfl) E E ?_;cases ru:p x
  ·rw[ru]at s1 s2;refine oT ?_;refine⟨by omega,by simp;omega,?_⟩
   conv=>whnf
   refine⟨E,by omega,x,E,E,?_⟩
   conv=>whnf
   refine iW ?_;refine iW ?_;exact Az [] q_ ⟨⟨E,E,Bd _,dx,zH Aa (zH Int.ofNat s1),E,zH (λz=>SV.val (.int .i64 z)) q_,E,Y⟩,⟨.inl (zH (Ob.row 1 Aa) s2),E,Y⟩,E,E⟩
  ·rw[ru]at s1 s2;refine oF ?_;refine iW ?_;exact Az [] q_ ⟨⟨E,E,Bd _,dx,zH Aa (zH Int.ofNat s1),E,zH (λz=>SV.val (.int .i64 z)) q_,E,Y⟩,⟨.inl (zH (Ob.row 1 Aa) s2),E,Y⟩,E,E⟩
 ·have jv:i+1+j=l.length:=qB h;have af:D≠[]:=λh=>by rw[h]at fu;simp at fu;omega
  have gw:=gw q_;rw[show l.take (i+1+j)=l from xG q_]at gw;refine Arw 0 [0] E af (by simp;rfl) ?_;intro b du jm;refine oO ?_;refine Ah (Dp Γ.toTy E E E E (.inr ⟨_,_,E,E⟩) (.inl ⟨E,E⟩) q_ q_) E E ?_;refine oO ?_;refine Ah (Ow Γ.toTy 0 (k:=K) E E E E j_ E E E q_ q_) E E ?_;refine oO ?_;refine Ah (Dp Γ.toTy E E E E (.inl ⟨E,E⟩) (.inr ⟨_,_,E,E⟩) q_ q_) E E ?_;refine oO ?_;refine Abk 0 1000 [4] K E E (by rw[zY];omega) (λi hi=>?_) ?_
  ·rw[yA]at hi;subst hi;show SV.val (.slice (some (if du=0 then ⟨b,0,none⟩ else ⟨b,0*1,none⟩)) (K-0) (du-0))=_;split<;>simp
  refine done E (.cons .tmp .nil) [(0,0),(1,1000)] _ (λ_ h=>h) E E ⟨Y,⟨.inl E,E,.inl ?_,E,Y⟩,E,E⟩;rw[←gw];exact zH (Ob.row 1 Aa) (by rw[List.take_take,Nat.min_self])
def Ta(n:Net)(fw:List Bool)(at_ from_:Int)(ml:List Int):SV :=
 .agg [.sl 5 Aw n.devices,.sl 7 A7 n.ports,.sl 3 B5 n.links,.sl 6 Aq n.domains,.sl 4 A2 n.statics,.sl 4 Bh n.floods,.sl 5 Ck n.vrfs,.sl 5 Cb n.irbs,.sl 1 Ab fw,Aa at_,Aa from_,.sl 1 Aa ml]
def A56(n:Net)(fw:List Bool)(p:Int)(h0:0≤p)(hp:p<n.ports.length)(hl:(nth n.ports p).link<fw.length):Sp 318 [Ao n,.sl 1 Ab fw,Aa p] (Ab (usableB n fw p)):=cT F318 ntmps318 λF hF=>by
 have hk:p.toNat<n.ports.length:=by omega
 have e1:nth n.ports p=n.ports[p.toNat]:=Af hk;have hu:=usableB.eq_1 n fw p;generalize usableB n fw p=res at *;rw[e1]at hu hl;obtain ⟨q,hq⟩:∃q,n.ports[p.toNat]'hk=q:=⟨_,rfl⟩
 rw[hq]at hu hl
 conv=>whnf
 refine⟨E,h0,hk,?_⟩;rw[hq]
 conv=>whnf
 constructor<;>intro h
 ·rw[h,tR]at hu;subst hu;exact gF
 ·rw[h,uB]at hu;have h1:¬q.link<0:=zT h;have h2:q.link.toNat<fw.length:=by omega
  rw[zU h2]at hu;refine oO ?_;refine⟨E,by omega,h2,?_⟩
  conv=>whnf
  exact As E (.cons .tmp .nil) (zH Ab hu) E
def portsC(n:Net)(fw:List Bool)(at_ from_:Int)(ml:List Int)(p:Int)(h0:0≤p)(hp:p<n.ports.length)(hl:(nth n.ports p).link<fw.length):Sp 317 [Aa p,.ref 1 (.ref 12 (Ta n fw at_ from_ ml) 0) 0] (Ab (decide (p=from_)||!(usableB n fw p))):=cT F317 ntmps317 λF hF=>by
 have q:=A56 n fw p h0 hp hl
 conv=>whnf
 constructor<;>intro h
 ·have h1:p=from_:=by simpa using h
  refine gH ?_;exact As E (.cons .tmp .nil) (zH Ab (by rw[zL h1,tR])) E
 ·have h1:¬p=from_:=by simpa using h
  refine oD ?_;refine cD q F318 ?_;refine gH ?_;exact As E (.cons .tmp .nil) (zH Ab (by rw[zI h1,uB])) E
end Go.Sy.YtolnneiipmfgaaaGreatDoor
