/-
  T14 T19 T21 Z0 Z1 K35 K36 K37 K38 K39 K40 Z2 Z3 Z4 K41 K42 K8 K9 K10 K11: parts of a proof, joined by program.
-/
import Derived.Test.YtiijbikecbjdaaaGreatDoorXU12
import Derived.Test.YtiijbikecbjdaaaGreatDoorXU11
import Derived.Test.YtiijbikecbjdaaaGreatDoorXU10
import Derived.Test.YtiijbikecbjdaaaGreatDoorXU9
import Derived.Test.YtiijbikecbjdaaaGreatDoorXU7
set_option linter.all false
set_option linter.unusedVariables false
set_option linter.unusedSimpArgs false
set_option linter.deprecated false
namespace Go.Sy.YtiijbikecbjdaaaGreatDoor
open Go.Proofs
theorem G_lit {C:Cx} {k:List KI} {s:SS} (d:Nat) {sz:Nat} {α:Type} (e:α→SV) (l:List α) {svs:List SV} (h:s.h d=.lit sz svs) (hl:l.map e=svs) (hg:G C k ⟨s.σ,upd s.h d (.row sz e l)⟩):G C k s:=λ κ a w hs=>by
 refine hg κ a w ⟨hs.defers,hs.size,hs.inv,hs.ctx,hs.slot,λ j=>?_⟩
 show ObOK κ w j (upd s.h d (.row sz e l) j)
 by_cases hj:j=d
 ·subst hj
  rw[Bt]
  have hob:=hs.obj j
  rw[h]at hob
  have hlen:l.length=svs.length:=by rw[← hl,xJ]
  obtain ⟨b,cap,cs,T,fr,e1,e2,e3,e4,e5,e6⟩:=hob
  exact .inr ⟨b,cap,cs,T,fr,by rw[hlen];exact e1,e2,e3,e4,by omega,λ i x hx=>by rw[hlen];exact e6 i x (M2 hl i x hx)⟩
 ·rw[Ck _ _ hj];exact hs.obj j
attribute [local irreducible] Go.Sy.G Go.Sy.DR
set_option maxRecDepth 100000
set_option maxHeartbeats 4000000
theorem Ac8 (n:Net) (up:List Bool) (x:Item) (q:List Item):∀ i,((List.range i).foldl (Dx n up x) q).length≤q.length+i
 | 0=>by simp
 | i+1=>by
  have:=Ac8 n up x q i
  rw[wV,xF]
  simp only[uD,uX]
  rw[Dx]
  split
  ·rw[K3];omega
  ·omega
theorem reachS (n:Net) (up:List Bool) (ranks roots costs:List Int) (hr:Ac n=true) (hu:up.length=n.links.length) (hcost:Di n=true) (hrk:ranks.length=n.devices.length) (hro:roots.length=n.devices.length) (hc:costs.length=n.devices.length) (hrr:∀ r∈ranks,0≤r) (D:List Item × List Int × List Int) (hD:Kt n up (Ez ranks ranks.length,roots,costs)=D) :
  Sq 190 [.ptr 0 0] (Agl n up ranks roots costs) (.tup []) (Agl n up ranks D.2.1 D.2.2):=cT F190 Tryz.ntmps190 λ F hF=>by
 have hf:=Hf hr
 conv=>whnf
 refine G_lit 10 Bu [] E E ?_
 refine A9 ranks.length (λ j=>[(0,.ptr 0 0),(2,.ptr 11 0),(15,.sl 1 Aa ranks),(16,Aa ranks.length),(17,Aa j)]) (λ j=>[(0,.box (Uw n up ranks (.osl 1) (.osl 2))),(1,.row 1 Aa roots),(2,.row 1 Aa costs),(11,.box [.osl 12]),(12,.row 3 Bu (Ez ranks j))]) [(12,10)]
  ⟨⟨rfl,rfl,rfl,rfl,rfl,rfl,rfl,rfl,rfl,rfl,trivial⟩,⟨.inl rfl,rfl,.inl rfl,rfl,.inl rfl,rfl,.inl rfl,rfl,.inl rfl,rfl,trivial⟩,rfl,rfl⟩ ?_
 intro j hj
 refine oO ?_
 constructor<;>intro h
 ·have hlt:j<ranks.length:=by simpa using h
  have e1:ranks[(j:Int).toNat]'q_=ranks[j]:=rfl
  have hpush:=Ahd (Ez ranks j) ⟨ranks.getD j 0,0,j⟩ (by rw[Ml];omega)
  have hsucc:=J8 ranks j
  rw[Bi (show j<ranks.length by omega)]at hpush hsucc
  refine oO ?_
  refine⟨by omega,by omega,?_⟩
  conv=>whnf
  refine⟨by omega,?_⟩
  rw[e1]
  conv=>whnf
  refine Af (Ad [(0,11),(1,12),(2,28)] E F266 hpush E ⟨E,E,Y⟩ E ⟨.inl E,.inl E,.inr E,Y⟩) E E ?_
  refine oO ?_
  refine iW ?_
  refine A2 [(12,28)] hlt ⟨⟨E,E,E,E,E,E,E,E,E,E,Y⟩,⟨.inl E,E,.inl E,E,.inl E,E,.inl E,E,.inl (zG (Ob.row 3 Bu) hsucc),E,Y⟩,E,E⟩
 ·have hjl:j=ranks.length:=by
   have:¬ j<ranks.length:=by simpa using h
   omega
  subst hjl
  refine oO ?_
  refine Tv (α:={s:List Item × List Int × List Int // ReachInv n s∧Kt n up s=D}) (λ p=>[(0,.ptr 0 0),(2,.ptr 11 0)]) (λ p=>[(0,.box (Uw n up ranks (.osl 1) (.osl 2))),(1,.row 1 Aa p.1.2.1),(2,.row 1 Aa p.1.2.2),(11,.box [.osl 12]),(12,.row 3 Bu p.1.1)]) (λ p=>reachM p.1) ⟨(Ez ranks ranks.length,roots,costs),Agi n ranks roots costs hr hrk hro hc hrr,hD⟩ []
   ⟨⟨rfl,rfl,rfl,rfl,trivial⟩,⟨.inl rfl,rfl,.inl rfl,rfl,.inl rfl,rfl,.inl rfl,rfl,.inl rfl,rfl,trivial⟩,rfl,rfl⟩ ?_
  rintro ⟨⟨q,ro,co⟩,hI,hDq⟩
  have hlen:=Zj q
  have hdn:=Ao0 n up (q,ro,co)
  have hds:=Ak3 n up hr hcost (q,ro,co) hI
  dsimp only at hdn hds ⊢
  refine oO ?_
  refine Af (Hv [12] E F267 hlen (.cons (.row E E) .nil) E E) E E ?_
  refine oO ?_
  constructor<;>intro h2
  ·have hne:q≠[]:=λ e=>by subst e;simp at h2
   have hpop:=Aya q hne (by have:=hI.few;simp only at this;omega)
   have hx:=hI.items _ ((T5 q hne).mem_iff.1 (List.getLast_mem (Ep hne)))
   have hst:O4 n up (q,ro,co)=if 0≤nth ro ((Dp q).getLast (Ep hne)).dev then ((Dp q).dropLast,ro,co) else ((List.range n.ports.length).foldl (Dx n up ((Dp q).getLast (Ep hne))) (Dp q).dropLast,ro.set ((Dp q).getLast (Ep hne)).dev.toNat ((Dp q).getLast (Ep hne)).root,co.set ((Dp q).getLast (Ep hne)).dev.toNat ((Dp q).getLast (Ep hne)).cost):=by
    rw[O4,Adt hne]
   have hr1:=Lh n up hr hcost (q,ro,co) hI hne
   have hD1:=hds hne
   rw[hDq]at hD1
   rw[hst]at hr1 hD1
   generalize (Dp q).getLast (Ep hne)=x at *
   have hroL:=hI.rootsL
   have hcoL:=hI.costsL
   dsimp only at hroL hcoL
   rw[Aj (l:=ro) (i:=x.dev) q_]at hr1 hD1
   refine oO ?_
   refine Af (Ad [(0,11),(1,12),(2,38)] E F268 hpop E ⟨E,E,Y⟩ E ⟨.inl E,.inl E,.inr E,Y⟩) E E ?_
   refine oO ?_
   refine Af (Aay Γ.toTy E E E E) E E ?_
   (refine rg ?_;(conv=>whnf);refine aF ?_;refine oD ?_)
   have hx1:=hx.1
   have hx2:=hx.2.1
   refine⟨by omega,by omega,?_⟩
   conv=>whnf
   refine⟨E,by omega,?_⟩
   conv=>whnf
   refine kW ?_
   constructor<;>intro h3
   ·have h30:0≤ro[x.dev.toNat]'q_:=zK h3
    rw[zE h30]at hr1 hD1
    refine oO ?_
    exact Vl (α:={s:List Item × List Int × List Int // ReachInv n s∧Kt n up s=D}) (L:=λ p=>[(0,.ptr 0 0),(2,.ptr 11 0)]) (O:=λ p=>[(0,.box (Uw n up ranks (.osl 1) (.osl 2))),(1,.row 1 Aa p.1.2.1),(2,.row 1 Aa p.1.2.2),(11,.box [.osl 12]),(12,.row 3 Bu p.1.1)]) (μ:=λ p=>reachM p.1) (x:=⟨(q,ro,co),hI,hDq⟩)
     ⟨((Dp q).dropLast,ro,co),hr1.1,hD1.symm⟩ [(12,38)] hr1.2
     ⟨⟨rfl,rfl,rfl,rfl,trivial⟩,⟨.inl rfl,rfl,.inl rfl,rfl,.inl rfl,rfl,.inl rfl,rfl,.inl rfl,rfl,trivial⟩,rfl,rfl⟩
   ·have h30:¬ 0≤ro[x.dev.toNat]'q_:=zT h3
    rw[zD h30]at hr1 hD1
    refine oO ?_
    refine⟨by omega,by omega,?_⟩
    conv=>whnf
    refine⟨by omega,by omega,?_⟩
    conv=>whnf
    refine⟨x.root,E,E,?_⟩
    conv=>whnf
    refine⟨by omega,by omega,E,by omega,x.cost,E,E,?_⟩
    conv=>whnf
    refine kW ?_
    generalize ro.set x.dev.toNat x.root=ro' at *
    generalize co.set x.dev.toNat x.cost=co' at *
    refine A9 n.ports.length (λ j=>[(0,.ptr 0 0),(2,.ptr 11 0),(5,.ptr 5 0),(77,.sl 7 A3 n.ports),(78,Aa n.ports.length),(79,Aa j)]) (λ j=>[(0,.box (Uw n up ranks (.osl 1) (.osl 2))),(1,.row 1 Aa ro'),(2,.row 1 Aa co'),(5,.box [Aa x.root,Aa x.cost,Aa x.dev]),(11,.box [.osl 12]),(12,.row 3 Bu ((List.range j).foldl (Dx n up x) (Dp q).dropLast))]) [(12,38)]
     ⟨⟨rfl,rfl,rfl,rfl,rfl,rfl,rfl,rfl,rfl,rfl,rfl,rfl,trivial⟩,⟨.inl rfl,rfl,.inl rfl,rfl,.inl rfl,rfl,.inl rfl,rfl,.inl rfl,rfl,.inl rfl,rfl,trivial⟩,rfl,rfl⟩ ?_
    intro j hj
    refine oO ?_
    constructor<;>intro h4
    ·have hlt:j<n.ports.length:=by simpa using h4
     have e1:n.ports[(j:Int).toNat]'q_=n.ports[j]:=rfl
     have hfar:=farR n up ranks ro' co' j hr hu hlt
     have hql:(Dp q).dropLast.length≤q.length:=by rw[uN,Ex];omega
     have hlenQ:=Ac8 n up x (Dp q).dropLast j
     have hfew:=hI.few
     dsimp only at hfew
     have hsucc:(List.range (j+1)).foldl (Dx n up x) (Dp q).dropLast=Dx n up x ((List.range j).foldl (Dx n up x) (Dp q).dropLast) j:=by
      rw[wV,xF];rfl
     generalize (List.range j).foldl (Dx n up x) (Dp q).dropLast=Q at *
     rw[Dx,Bi hlt]at hsucc
     refine oO ?_
     refine⟨by omega,by omega,?_⟩
     conv=>whnf
     refine⟨by omega,?_⟩
     rw[e1]
     conv=>whnf
     refine Af (Ad [] E F191 hfar E ⟨E,E,E,Y⟩ E ⟨.inl E,.inl E,.inl E,Y⟩) E E ?_
     refine oO ?_
     constructor<;>intro h5
     ·refine oO ?_
      constructor<;>intro h6
      ·have hk0:0≤D7 n up j:=zK h6
       have hk1:=Aej (up:=up) hr hlt hk0
       rw[zE ⟨by simpa using h5,hk0⟩,Aj (l:=n.ports) (i:=D7 n up j) q_]at hsucc
       have hpc:1≤(n.ports[(D7 n up j).toNat]'q_).cost∧(n.ports[(D7 n up j).toNat]'q_).cost≤65535:=by
        simp only[Di,yX,uM]at hcost
        have:=hcost _ (zJ (show (D7 n up j).toNat<n.ports.length by omega))
        simp only[H5,yO,zQ,uU]at this
        omega
       have hxc:=hx.2.2.2
       have hpush:=Ahd Q ⟨x.root,x.cost+(n.ports[(D7 n up j).toNat]'q_).cost,(n.ports[(D7 n up j).toNat]'q_).dev⟩ q_
       refine oO ?_
       refine⟨E,hk0,by omega,?_⟩
       conv=>whnf
       refine iW ?_
       refine⟨E,hk0,by omega,?_⟩
       conv=>whnf
       refine Br (Ad [(0,11),(1,12),(2,123)] E F266 hpush E ⟨E,E,Y⟩ E ⟨.inl E,.inl E,.inr E,Y⟩) z_ E ?_
       refine oD ?_
       refine kW ?_
       refine iW ?_
       refine A2 [(12,123)] hlt ⟨⟨E,E,E,E,E,E,E,E,E,E,E,E,Y⟩,⟨.inl E,E,.inl E,E,.inl E,E,.inl E,E,.inl E,E,.inl (zG (Ob.row 3 Bu) hsucc),E,Y⟩,E,E⟩
      ·rw[zD (λ hh=>(zT h6) hh.2)]at hsucc
       refine oO ?_
       refine iW ?_
       refine A2 [] hlt ⟨⟨E,E,E,E,E,E,E,E,E,E,E,E,Y⟩,⟨.inl E,E,.inl E,E,.inl E,E,.inl E,E,.inl E,E,.inl (zG (Ob.row 3 Bu) hsucc),E,Y⟩,E,E⟩
     ·rw[zD (λ hh=>yB hh.1 (by simpa using h5))]at hsucc
      refine oF ?_
      refine iW ?_
      refine A2 [] hlt ⟨⟨E,E,E,E,E,E,E,E,E,E,E,E,Y⟩,⟨.inl E,E,.inl E,E,.inl E,E,.inl E,E,.inl E,E,.inl (zG (Ob.row 3 Bu) hsucc),E,Y⟩,E,E⟩
    ·have hjl:j=n.ports.length:=by
      have:¬ j<n.ports.length:=by simpa using h4
      omega
     subst hjl
     refine oO ?_
     exact Vl (α:={s:List Item × List Int × List Int // ReachInv n s∧Kt n up s=D}) (L:=λ p=>[(0,.ptr 0 0),(2,.ptr 11 0)]) (O:=λ p=>[(0,.box (Uw n up ranks (.osl 1) (.osl 2))),(1,.row 1 Aa p.1.2.1),(2,.row 1 Aa p.1.2.2),(11,.box [.osl 12]),(12,.row 3 Bu p.1.1)]) (μ:=λ p=>reachM p.1) (x:=⟨(q,ro,co),hI,hDq⟩)
      ⟨((List.range n.ports.length).foldl (Dx n up x) (Dp q).dropLast,ro',co'),hr1.1,hD1.symm⟩ [] hr1.2
      ⟨⟨rfl,rfl,rfl,rfl,trivial⟩,⟨.inl rfl,rfl,.inl rfl,rfl,.inl rfl,rfl,.inl rfl,rfl,.inl rfl,rfl,trivial⟩,rfl,rfl⟩
  ·have he:q=[]:=zU (by
    have:¬ 0<q.length:=by simpa using h2
    omega)
   have e:D=(q,ro,co):=by rw[← hDq,hdn he]
   rw[e]
   refine oO ?_
   exact A1 E .nil [] (Agl n up ranks ro co) (λ _ h=>h) E E ⟨Y,⟨.inl E,E,.inl E,E,.inl E,E,Y⟩,E,E⟩
end Go.Sy.YtiijbikecbjdaaaGreatDoor
namespace Go.Sy.YtiijbikecbjdaaaGreatDoor
open Go.Proofs
attribute [local irreducible] Go.Sy.G Go.Sy.DR
set_option maxRecDepth 100000
set_option maxHeartbeats 4000000
def okB (n:Net) (up:List Bool):Bool:=decide (up.length=n.links.length) && (Ac n && Di n)
theorem ok_iff {n:Net} {up:List Bool}:okB n up=true↔up.length=n.links.length∧Ac n=true∧Di n=true:=by simp[okB]
def Ac1 (n:Net) (up:List Bool):List Int:=(Sw n up (Ev n)).2.1
def Aev (n:Net) (up:List Bool):List Int:=(Sw n up (Ev n)).2.2
def Aiw (n:Net) (up:List Bool):SV:=Sf n up (Ev n) (Ac1 n up) (Aev n up)
theorem A0c (n:Net) (up:List Bool) (hn:n.Fin) (h:okB n up=false):Sp 134 [Al n,.sl 1 Ab up] (.tup [.val (.pointer none),Aa 2]):=cT F134 Tryz.ntmps134 λ F hF=>by
 have h':¬ (up.length=n.links.length∧Ac n=true∧Di n=true):=λ hh=>by rw[ok_iff.2 hh]at h;cases h
 conv=>whnf
 (repeat' (first | (refine⟨λ h=>?_,λ h=>?_⟩<;>(repeat (first | simp only[yQ]at h | simp only[bne_eq_false_iff_eq]at h | simp only[yX]at h | simp only[wT]at h))<;>((refine oO ?_);repeat((refine aT ?_);(refine oO ?_)))) | (refine c0 (Ax n hn) F24 ?_;((refine oO ?_))) | (refine c0 (Ayy n hn.ports) F188 ?_;((refine oO ?_))) | refine Aq rfl (.cons .tmp (.cons .tmp .nil)) rfl rfl))
 all_goals exact yB ⟨by omega,by assumption,by assumption⟩ h'
def Q1 (m j:Nat):List Int:=List.replicate j (-1)++List.replicate (m-j) 0
theorem Ap9 (m:Nat):Q1 m 0=List.replicate m 0:=by simp[Q1]
theorem Aul (m:Nat):Q1 m m=List.replicate m (-1):=by simp[Q1]
theorem Ajh (m j:Nat) (h:j≤m):(Q1 m j).length=m:=by simp[Q1];omega
theorem Aqa (m j:Nat) (h:j<m):Q1 m (j+1)=(Q1 m j).set j (-1):=by
 have e:m-j=(m-(j+1))+1:=by omega
 rw[Q1,Q1,e,tF _ _ y_,wW,tO,List.replicate_succ' (n:=j),uS (n:=m-(j+1))]
 simp
theorem openOK (n:Net) (up:List Bool) (hn:n.Fin) (hu:up.length=n.links.length) (hr:Ac n=true) (hcost:Di n=true):Sp 134 [Al n,.sl 1 Ab up] (.tup [Aiw n up,Aa 0]):=cT F134 Tryz.ntmps134 λ F hF=>by
 have hf:=Hf hr
 have hrt:=Ax n hn
 have hct:=Ayy n hn.ports
 have hrs:=ranksS n hn
 rw[hr]at hrt
 rw[hcost]at hct
 rw[hr,zE rfl]at hrs
 have hrk:=Mo n
 have hrr:∀ r∈Ev n,0≤r:=λ r h=>(Aaf n r h).1
 have hsv:Aiw n up=Sf n up (Ev n) (Sw n up (Ev n)).2.1 (Sw n up (Ev n)).2.2:=rfl
 rw[hsv]
 generalize Ev n=ranks at *
 have hreach:=λ D hD=>reachS n up ranks (List.replicate n.devices.length (-1)) (List.replicate n.devices.length 0) hr hu hcost hrk y_ y_ hrr D hD
 have hRT:Kt n up (Ez ranks ranks.length,List.replicate n.devices.length (-1),List.replicate n.devices.length 0)=Sw n up ranks:=rfl
 generalize Sw n up ranks=D at *
 have hreach:=hreach D hRT
 clear hRT hsv
 conv=>whnf
 refine⟨λ h=>yB h (by simp[hu]),λ h=>?_⟩
 refine oO ?_
 refine c0 hrt F24 ?_
 refine oF ?_
 refine c0 hct F188 ?_
 refine oF ?_
 refine cD hrs F189 ?_
 refine oD ?_
 refine Br (Bv Γ.toTy (d:=31) (n:=n.devices.length) Aa 0 E E E E E E E E q_ q_ E E E) z_ E ?_
 refine oD ?_
 refine Br (Bv Γ.toTy (d:=35) (n:=n.devices.length) Aa 0 E E E E E E E E q_ q_ E E E) z_ E ?_
 refine oD ?_
 refine kW ?_
 refine A9 n.devices.length (λ j=>[(6,.ptr 37 0),(42,Aa (List.replicate n.devices.length (0:Int)).length),(43,Aa j)]) (λ j=>[(37,.box (Uw n up ranks (.osl 31) (.osl 35))),(31,.row 1 Aa (Q1 n.devices.length j)),(35,.row 1 Aa (List.replicate n.devices.length 0))]) []
  ⟨⟨rfl,rfl,rfl,rfl,rfl,rfl,trivial⟩,⟨.inl rfl,rfl,.inl (by rw[Ap9];rfl),rfl,.inl rfl,rfl,trivial⟩,rfl,rfl⟩ ?_
 intro j hj
 have hlen:=Ajh n.devices.length j hj
 refine oO ?_
 constructor<;>intro h
 ·have hlt:j<n.devices.length:=by simpa using h
  have hsucc:=Aqa n.devices.length j hlt
  generalize Q1 n.devices.length j=u at *
  refine oO ?_
  refine⟨by omega,by omega,?_⟩
  conv=>whnf
  refine⟨E,by omega,-1,E,E,?_⟩
  conv=>whnf
  refine iW ?_
  exact A2 [] hlt ⟨⟨E,E,E,E,E,E,Y⟩,⟨.inl E,E,.inl (zG (Ob.row 1 Aa) hsucc),E,.inl E,E,Y⟩,E,E⟩
 have hjl:j=n.devices.length:=by
  have:¬ j<n.devices.length:=by simpa using h
  omega
 subst hjl
 have hall:=Aul n.devices.length
 rw[← hall]at hreach
 refine oO ?_
 refine Af (Ad [(0,37),(1,31),(2,35)] E F190 hreach E ⟨E,E,E,Y⟩ E ⟨.inl E,.inl E,.inl E,Y⟩) E E ?_
 refine Ag 31 E ?_
 refine Ag 35 E ?_
 refine A7 37 12 (.agg (Uw n up ranks (.sl 1 Aa D.2.1) (.sl 1 Aa D.2.2))) E E E ?_
 refine oO ?_
 exact dN
theorem Akf {n:Net} {up:List Bool} (h:okB n up=true):Solved n up (Ev n) (Ac1 n up) (Aev n up):=by
 obtain ⟨hu,hr,hcost⟩:=ok_iff.1 h
 exact Afl n up (Ev n) hr hcost (Mo n) (λ r h=>(Aaf n r h).1)
def Aih (n:Net) (up:List Bool):List Int:=rolesL n up (Ev n) (Ac1 n up) (Aev n up)
def fwdT (n:Net) (up:List Bool):List Bool:=fwdL n (Aih n up)
theorem Afj (n:Net) (up:List Bool):(Aih n up).length=n.ports.length:=J1 ..
theorem Apg (n:Net) (up:List Bool) (h:okB n up=true):Sp 135 [Aiw n up] (.sl 1 Aa (Aih n up)):=by
 obtain ⟨hu,hr,hcost⟩:=ok_iff.1 h
 have S:=Akf h
 exact rolesS n up (Ev n) (Ac1 n up) (Aev n up) hr hu hcost (Mo n) S.rootsL S.costsL (λ c hc=>by have:=S.bound c hc;omega)
theorem Aee (n:Net) (up:List Bool) (hn:n.Fin) (h:okB n up=false):Sp 78 [Al n,.sl 1 Ab up] (.tup [.sl 1 Ab [],Aa 2]):=cT F78 Tryz.ntmps78 λ F hF=>by
 conv=>whnf
 refine c0 (A0c n up hn h) F134 ?_
 refine oT ?_
 refine Am 4 1 Ab E ?_
 exact dN
def Abw (n:Net) (roles:List Int) (j:Nat):List Bool:=(n.links.take j).map (Ayk roles)++List.replicate (n.links.length-j) false
theorem Auh (n:Net) (roles:List Int):Abw n roles 0=List.replicate n.links.length false:=by simp[Abw]
theorem Ayj (n:Net) (roles:List Int):Abw n roles n.links.length=fwdL n roles:=by simp[Abw,fwdL]
theorem Amj (n:Net) (roles:List Int) (j:Nat) (h:j≤n.links.length):(Abw n roles j).length=n.links.length:=by simp[Abw];omega
theorem Aui (n:Net) (roles:List Int) (j:Nat) (h:j<n.links.length):Abw n roles (j+1)=(Abw n roles j).set j (Ayk roles n.links[j]):=by
 have e:n.links.length-j=(n.links.length-(j+1))+1:=by omega
 have el:((n.links.take j).map (Ayk roles)).length=j:=by simp;omega
 rw[Abw,Abw,tF _ _ q_,el,tO,zW h,vI,e,uS,tB]
 simp
theorem Ahi (n:Net) (up:List Bool) (hn:n.Fin) (h:okB n up=true):Sp 78 [Al n,.sl 1 Ab up] (.tup [.sl 1 Ab (fwdT n up),Aa 0]):=cT F78 Tryz.ntmps78 λ F hF=>by
 obtain ⟨hu,hr,hcost⟩:=ok_iff.1 h
 have hf:=Hf hr
 have ho:=openOK n up hn hu hr hcost
 have hro:=Apg n up h
 have hrl:=Afj n up
 rw[fwdT]
 generalize Aih n up=roles at *
 unfold Aiw at ho hro
 generalize Ev n=ranks at *
 generalize Ac1 n up=roots at *
 generalize Aev n up=costs at *
 conv=>whnf
 refine c0 ho F134 ?_
 refine oF ?_
 refine c0 hro F135 ?_
 refine oO ?_
 refine Af (Bv Γ.toTy (d:=27) (n:=n.links.length) Ab false E E E E E E E E q_ q_ E E E) E E ?_
 rw[← Auh n roles]
 refine oO ?_
 refine A9 n.links.length (λ j=>[(8,.sl 1 Aa roles),(9,.osl 27),(29,.sl 3 Bw n.links),(30,Aa n.links.length),(31,Aa j)]) (λ j=>[(27,.row 1 Ab (Abw n roles j))]) []
  ⟨⟨rfl,rfl,rfl,rfl,rfl,rfl,rfl,rfl,rfl,rfl,trivial⟩,⟨.inl rfl,rfl,trivial⟩,rfl,rfl⟩ ?_
 intro j hj
 have hall:=Ayj n roles
 refine oO ?_
 constructor<;>intro h
 ·have hlt:j<n.links.length:=by simpa using h
  have he:=Oa hr hlt
  have e1:n.links[(j:Int).toNat]'q_=n.links[j]:=rfl
  have hlen:=Amj n roles j hj
  have hsucc:=Aui n roles j hlt
  generalize Abw n roles j=u at *
  generalize n.links[j]=l at *
  rw[Ayk,Aj (l:=roles) (i:=l.a) q_,Aj (l:=roles) (i:=l.b) q_]at hsucc
  refine oO ?_
  refine⟨E,by omega,by omega,?_⟩
  rw[e1]
  conv=>whnf
  refine⟨E,by omega,by omega,?_⟩
  conv=>whnf
  refine⟨E,by omega,by omega,?_⟩
  conv=>whnf
  refine kW ?_
  have hA:0≤l.a∧l.a<roles.length:=by omega
  have hB:0≤l.b∧l.b<roles.length:=by omega
  obtain ⟨x,hx⟩:∃ x,roles[l.a.toNat]'q_=x:=⟨_,rfl⟩
  obtain ⟨y,hy⟩:∃ y,roles[l.b.toNat]'q_=y:=⟨_,rfl⟩
  rw[hx,hy]at hsucc
  refine Anj 46 (e:=Aa) (l:=[x,y]) E (by rw[← hx,← hy];rfl) ?_
  refine Ag 46 E ?_
  refine c0 (Do [x,y] 1 (by unfold Ak;simp)) F73 ?_
  refine oO ?_
  constructor<;>intro h1
  ·rw[h1,zZ]at hsucc
   refine oO ?_
   refine c0 (Do [x,y] 2 (by unfold Ak;simp)) F73 ?_
   refine oO ?_
   refine⟨by omega,by omega,?_⟩
   conv=>whnf
   refine⟨E,by omega,inB [x,y] 2,E,E,?_⟩
   conv=>whnf
   refine iW ?_
   exact A2 [] hlt ⟨⟨E,E,E,E,E,E,E,E,E,E,Y⟩,⟨.inl (zG (Ob.row 1 Ab) hsucc),E,Y⟩,E,E⟩
  ·rw[h1,yA]at hsucc
   refine oO ?_
   refine⟨by omega,by omega,?_⟩
   conv=>whnf
   refine⟨E,by omega,false,E,E,?_⟩
   conv=>whnf
   refine iW ?_
   exact A2 [] hlt ⟨⟨E,E,E,E,E,E,E,E,E,E,Y⟩,⟨.inl (zG (Ob.row 1 Ab) hsucc),E,Y⟩,E,E⟩
 have hjl:j=n.links.length:=by
  have:¬ j<n.links.length:=by simpa using h
  omega
 subst hjl
 rw[← hall]
 refine oO ?_
 refine Ag 27 E ?_
 exact dN
end Go.Sy.YtiijbikecbjdaaaGreatDoor
namespace Go.Sy.YtiijbikecbjdaaaGreatDoor
open Go.Proofs
structure MacM where
 up:List Bool
 tables:List (List EntryM)
 queues:List (List QueuedM)
 now:Int
 injected:Int
 drops:Nat→Int
def C0 (m:MacM) (e:Int):MacM:=⟨m.up,m.tables,m.queues,m.now,m.injected,λ i=>if i=e.toNat then m.drops i+1 else m.drops i⟩
def queueL (m:MacM) (dom:Int):List QueuedM:=(m.queues[dom.toNat]?).getD []
def tableL (m:MacM) (dom:Int):List EntryM:=(m.tables[dom.toNat]?).getD []
def As9 (m:MacM) (dom:Int) (l:List QueuedM):MacM:=⟨m.up,m.tables,m.queues.set dom.toNat l,m.now,m.injected,m.drops⟩
def H6 (m:MacM) (dom:Int) (t:List EntryM):MacM:=⟨m.up,m.tables.set dom.toNat t,m.queues,m.now,m.injected,m.drops⟩
def comeM (m:MacM) (dom:Int) (q:QueuedM) (e:Int):MacM :=
 if e≠0 then C0 m e else if (pushT (queueL m dom) q).2=true then As9 m dom (pushT (queueL m dom) q).1 else C0 m 3
def takeM (m:MacM) (dom at_:Int):MacM × QueuedM × Bool :=
 if An dom m.queues.length=false then (m,noQ,false)
 else (As9 m dom (takeT (queueL m dom) at_).2.1,(takeT (queueL m dom) at_).1,(takeT (queueL m dom) at_).2.2)
def injectT (n:Net) (m:MacM) (port:Int) (b:List UInt8):MacM :=
 if An port n.ports.length=false∨0≤(nth n.ports port).link then m
 else comeM ⟨m.up,m.tables,m.queues,m.now,m.injected+1,m.drops⟩ (enterT n port b).1 ⟨port,0,m.injected+1,(enterT n port b).2.1⟩ (enterT n port b).2.2
def goesM (n:Net) (m:MacM) (o:OutM) (origin:Int):MacM × List SeenM :=
 if o.kind=1 then (m,[⟨o.port,origin,o.bytes⟩])
 else if o.kind=2 then (comeM m (linkT n o.port o.bytes).2.1 ⟨(linkT n o.port o.bytes).1,0,origin,(linkT n o.port o.bytes).2.2.1⟩ (linkT n o.port o.bytes).2.2.2,[])
 else if o.kind=3 then (comeM m (comeT n o.bytes).2.1 ⟨-1,(comeT n o.bytes).1,origin,(comeT n o.bytes).2.2.1⟩ (comeT n o.bytes).2.2.2,[])
 else if o.kind=4 then (comeM m o.domain ⟨-2,0,origin,o.frame⟩ 0,[])
 else (C0 m o.error,[])
def Cc (n:Net) (m:MacM) (origin:Int):List OutM→MacM × List SeenM
 | []=>(m,[])
 | o::l=>((Cc n (goesM n m o origin).1 origin l).1,(goesM n m o origin).2++(Cc n (goesM n m o origin).1 origin l).2)
def Of (n:Net) (up:List Bool):List Bool:=if okB n up=true then fwdT n up else []
def Ald (n:Net) (m:MacM) (dom:Int) (q:QueuedM):List EntryM × List OutM × Int:=bridgeT n (Of n m.up) (tableL m dom) dom q m.now
def Xh (m:MacM) (dom:Int) (r:List EntryM × List OutM × Int):MacM :=
 if r.2.2=2 then C0 m 2 else if r.2.2≠0 then C0 (H6 m dom r.1) r.2.2 else H6 m dom r.1
def pickT (n:Net) (m:MacM) (dom at_:Int):MacM × List SeenM :=
 if (takeM m dom at_).2.2=false then ((takeM m dom at_).1,[])
 else Cc n (Xh (takeM m dom at_).1 dom (Ald n (takeM m dom at_).1 dom (takeM m dom at_).2.1)) (takeM m dom at_).2.1.origin (Ald n (takeM m dom at_).1 dom (takeM m dom at_).2.1).2.1
def Uv (m:MacM):MacM :=
 let now:=min (m.now+1) 1099511627776
 ⟨m.up,m.tables.map (λ t=>ageT t now),m.queues,now,m.injected,m.drops⟩
def doT (n:Net) (m:MacM) (x:StepM):MacM × List SeenM :=
 if x.kind=1 then (injectT n m x.port x.bytes,[])
 else if x.kind=2 then pickT n m x.domain x.at_
 else if x.kind=3 then ((takeM m x.domain x.at_).1,[])
 else if x.kind=4 then (Uv m,[])
 else if x.kind=5 then ((if x.up.length=n.links.length then ⟨x.up,m.tables,m.queues,m.now,m.injected,m.drops⟩ else m),[])
 else (m,[])
def newT (n:Net):MacM:=⟨List.replicate n.links.length true,List.replicate n.domains.length [],List.replicate n.domains.length [],0,0,λ _=>0⟩
def B5 (e:Int):Prop:=0≤e∧e<64
def DomIn (n:Net) (d:Int):Prop:=0≤d∧d.toNat<n.domains.length
theorem Lm {n:Net} {d:Int} (h:An d n.domains.length=true):DomIn n d:=by
 have:=Cn h
 unfold DomIn
 omega
theorem Y7 (b:List UInt8):B5 (takeF b).2:=by
 unfold takeF B5
 repeat' split
 all_goals (dsimp only;omega)
theorem Ans (f:FrameM):B5 (stripT f).2.2.2:=by
 unfold stripT B5
 repeat' split
 all_goals (dsimp only;omega)
theorem Aem (n:Net) (port:Int) (b:List UInt8):B5 (enterT n port b).2.2:=by
 have h1:=Y7 b
 have h2:=Ans (takeF b).1
 have h3:∀ f tg v,B5 (Lx n port f tg v).2.2:=λ f tg v=>by
  unfold Lx B5
  repeat' split
  all_goals (dsimp only;omega)
 unfold enterT
 split
 ·unfold B5;dsimp only;omega
 split
 ·exact h1
 split
 ·split
  ·exact h2
  ·exact h3 _ _ _
 ·exact h3 _ _ _
theorem At7 (n:Net) (port:Int) (b:List UInt8):B5 (linkT n port b).2.2.2:=by
 unfold linkT
 split
 ·unfold B5;dsimp only;omega
 ·exact Aem _ _ _
theorem Apn (n:Net) (port dom:Int) (f:FrameM):B5 (leaveT n port dom f).2:=by
 unfold leaveT
 split
 ·unfold B5;dsimp only;omega
 split
 ·unfold B5;dsimp only;omega
 split
 ·unfold B5;dsimp only;omega
 split
 ·unfold B5;dsimp only;omega
 split
 ·show B5 (tagT f (nth n.domains dom).vlan).2
  unfold tagT B5
  repeat' split
  all_goals (dsimp only;omega)
 ·unfold B5;dsimp only;omega
theorem Ash (a b:Nat) (v:Int) (f:FrameM):B5 (wrapT a b v f).2:=by
 unfold wrapT B5
 repeat' split
 all_goals (dsimp only;omega)
theorem At3 (n:Net) (dom peer:Int) (f:FrameM):B5 (meshT n dom peer f).2:=by
 unfold meshT
 split
 ·unfold B5;dsimp only;omega
 split
 ·unfold B5;dsimp only;omega
 ·exact Ash _ _ _ _
theorem Aau (b:List UInt8):B5 (ipTakeT b).2:=by
 unfold ipTakeT B5
 repeat' split
 all_goals (dsimp only;omega)
theorem Ah7 (b:List UInt8):B5 (udpTakeT b).2.2.2:=by
 unfold udpTakeT B5
 repeat' split
 all_goals (dsimp only;omega)
theorem Avl (b:List UInt8):B5 (vniT b).2.2:=by
 unfold vniT B5
 repeat' split
 all_goals (dsimp only;omega)
theorem Ape (b:List UInt8):B5 (outerT b).2:=by
 unfold outerT
 split
 ·exact Y7 _
 split
 ·unfold B5;dsimp only;omega
 split
 ·exact Aau _
 ·unfold B5;dsimp only;split<;>omega
theorem Apy (b:List UInt8):B5 (Mu b).2.2:=by
 unfold Mu
 split
 ·exact Ah7 _
 split
 ·unfold B5;dsimp only;omega
 split
 ·exact Avl _
 split
 ·exact Y7 _
 split
 ·unfold B5;dsimp only;omega
 ·unfold B5;dsimp only;omega
theorem Akd (b:List UInt8):B5 (Ci b).2.2.2.2:=by
 unfold Ci
 split
 ·exact Ape _
 split
 ·exact Apy _
 ·unfold B5;dsimp only;omega
theorem Auw (n:Net) (b:List UInt8):B5 (comeT n b).2.2.2:=by
 unfold comeT
 split
 ·unfold B5;dsimp only;omega
 split
 ·exact Akd _
 split
 ·unfold B5;dsimp only;omega
 split
 ·unfold B5;dsimp only;omega
 ·unfold B5;dsimp only;omega
theorem Ax8 (n:Net) (irb:Int) (f:FrameM):B5 (hopT n irb f).2.2:=by
 unfold hopT
 split
 ·unfold B5;dsimp only;omega
 split
 ·unfold B5;dsimp only;omega
 split
 ·exact Aau _
 split
 ·unfold B5;dsimp only;omega
 split
 ·unfold B5;dsimp only;omega
 split
 ·unfold B5;dsimp only;omega
 ·unfold B5;dsimp only;omega
theorem Am4 (n:Net) (fw:List Bool) (t:List EntryM) (dom:Int) (q:QueuedM) (now:Int):B5 (bridgeT n fw t dom q now).2.2:=by
 unfold bridgeT
 split
 ·unfold B5;dsimp only;omega
 split
 ·split
  ·exact Ax8 _ _ _
  ·unfold B5;dsimp only;omega
 ·unfold B5;dsimp only;omega
theorem Ar4 {n:Net} {dev v:Int} (h:Ea n dev v=true):DomIn n (Jm n dev v):=by
 have h1:0≤Jm n dev v:=by simpa [Ea] using h
 have h2:Jm n dev v<n.domains.length:=Hk _ _
 exact⟨h1,by omega⟩
theorem Avm {n:Net} (hb:Ac n=true) {port:Int} (hp:An port n.ports.length=true) {tg:Bool} {vid:Int} (h:(vlanT (nth n.ports port) tg vid).2=true):DomIn n (Jm n (nth n.ports port).dev (vlanT (nth n.ports port) tg vid).1):=by
 have hk:=Cn hp
 have hk2:port.toNat<n.ports.length:=by omega
 simp only[Ac,zH]at hb
 have hpb:=allB_iff.1 hb.1.1.1.1.1.2 _ hk2
 rw[Aj hk2]at h ⊢
 generalize n.ports[port.toNat]=p at *
 simp only[Ll,zH]at hpb
 obtain ⟨⟨⟨⟨⟨⟨⟨⟨g1,g2⟩,g3⟩,g4⟩,g5⟩,g6⟩,g7⟩,g8⟩,g9⟩:=hpb
 unfold vlanT at h ⊢
 split
 ·rw[zE (by assumption)]at h
  have h1:p.native≠0:=by simpa using h
  have h2:0≤p.native:=by simpa using g2
  refine Ar4 ?_
  have h3:decide (0<p.native)=true:=by simp;omega
  rw[h3,zZ]at g8
  simpa using g8
 ·rw[zD (by assumption)]at h
  split
  ·rename_i h4
   have h5:vid∈p.tagged:=inB_mem.1 h4
   obtain ⟨i,hi,rfl⟩:=yY.1 h5
   exact Ar4 (allB_iff.1 g7 i hi)
  ·rw[zD (by assumption)]at h
   cases h
theorem Aen {n:Net} {port:Int} {b:List UInt8} (h:(enterT n port b).2.2=0):DomIn n (enterT n port b).1:=by
 unfold enterT at h ⊢
 split
 ·rw[zE (by assumption)]at h;cases h
 rename_i hc
 rw[zD hc]at h
 have hp:An port n.ports.length=true:=by cases hx:An port n.ports.length;exact yB (.inl hx) hc;rfl
 have hb:Ac n=true:=by cases hx:Ac n;exact yB (.inr hx) hc;rfl
 have key:∀ f tg v,(Lx n port f tg v).2.2=0→DomIn n (Lx n port f tg v).1:=λ f tg v h=>by
  unfold Lx at h ⊢
  split
  ·rw[zE (by assumption)]at h;cases h
  rw[zD (by assumption)]at h
  split
  ·rw[zE (by assumption)]at h;cases h
  rename_i h5
  show DomIn n (De n _ _)
  rw[De,zE hb]
  exact Avm hb hp (by simpa using h5)
 split
 ·rename_i h2
  rw[zE h2]at h
  exact yB h h2
 rename_i h2
 rw[zD h2]at h
 split
 ·rename_i h3
  rw[zE h3]at h
  split
  ·rename_i h4
   rw[zE h4]at h
   exact yB h h4
  ·rename_i h4
   rw[zD h4]at h
   exact key _ _ _ h
 ·rename_i h3
  rw[zD h3]at h
  exact key _ _ _ h
theorem At8 {n:Net} {port:Int} {b:List UInt8} (h:(linkT n port b).2.2.2=0):DomIn n (linkT n port b).2.1:=by
 unfold linkT at h ⊢
 split
 ·rw[zE (by assumption)]at h;cases h
 ·rename_i h2
  rw[zD h2]at h
  exact Aen h
theorem Ale {n:Net} (hb:Ac n=true) {dom:Nat} (hd:dom<n.domains.length) {k:Int} (hk:k∈n.domains[dom].peers):DomIn n k:=by
 simp only[Ac,zH]at hb
 have:=allB_iff.1 hb.1.1.1.1.1.1.2 _ hd
 obtain ⟨i,hi,rfl⟩:=yY.1 hk
 have h2:=allB_iff.1 this i hi
 simp only[Adg,zH]at h2
 exact Lm h2.1.1.1.1.1.1.1.1.1
theorem Ayq {n:Net} (hb:Ac n=true) {src dst:Nat} {vni:Int} (h:¬ (endsT n src dst vni).1<0):DomIn n (endsT n src dst vni).1∧DomIn n (endsT n src dst vni).2:=by
 unfold endsT at h ⊢
 dsimp only at h ⊢
 split
 ·rw[zE (by assumption)]at h;exact yB j_ h
 rename_i h1
 rw[zD h1]at h
 split
 ·rw[zE (by assumption)]at h;exact yB j_ h
 rename_i h2
 have hd:=Hk (λ d:Domain=>decide (d.dev=Co (λ d:Device=>decide (d.vtep=(dst:Int))) n.devices) && decide (d.vni=vni)) n.domains
 generalize Co (λ d:Domain=>decide (d.dev=Co (λ d:Device=>decide (d.vtep=(dst:Int))) n.devices) && decide (d.vni=vni)) n.domains=dom at *
 have hd2:dom.toNat<n.domains.length:=by omega
 have hi:=Hk (λ k:Int=>decide (Kv n k=(src:Int))) (nth n.domains dom).peers
 generalize Co (λ k:Int=>decide (Kv n k=(src:Int))) (nth n.domains dom).peers=i at *
 rw[Aj hd2]at hi ⊢
 have hi2:i.toNat<(n.domains[dom.toNat]).peers.length:=by omega
 refine⟨?_,⟨by dsimp only;omega,hd2⟩⟩
 show DomIn n (nth (n.domains[dom.toNat]).peers i)
 rw[Aj hi2]
 exact Ale hb hd2 (zJ hi2)
theorem Ahu {n:Net} {b:List UInt8} (h:(comeT n b).2.2.2=0):DomIn n (comeT n b).1∧DomIn n (comeT n b).2.1:=by
 unfold comeT at h ⊢
 split
 ·rw[zE (by assumption)]at h;cases h
 rename_i hb
 rw[zD hb]at h
 split
 ·rename_i h2
  rw[zE h2]at h;exact yB h h2
 rename_i h2
 rw[zD h2]at h
 split
 ·rw[zE (by assumption)]at h;cases h
 rename_i h3
 rw[zD h3]at h
 split
 ·rw[zE (by assumption)]at h;cases h
 exact Ayq (by simpa using hb) h3
theorem Ax9 {n:Net} {irb:Int} {f:FrameM} (hin:∀ (d:Int),(lookT n irb d).2=true→0≤(lookT n irb d).1∧(lookT n irb d).1.toNat<n.irbs.length) (h:(hopT n irb f).2.2=0):DomIn n (hopT n irb f).1:=by
 unfold hopT at h ⊢
 split
 ·rw[zE (by assumption)]at h;cases h
 rename_i h1
 rw[zD h1]at h
 split
 ·rw[zE (by assumption)]at h;cases h
 rename_i h2
 rw[zD h2]at h
 split
 ·rename_i h3
  rw[zE h3]at h;exact yB h h3
 rename_i h3
 rw[zD h3]at h
 split
 ·rw[zE (by assumption)]at h;cases h
 rename_i h4
 rw[zD h4]at h
 split
 ·rw[zE (by assumption)]at h;cases h
 rename_i h5
 rw[zD h5]at h
 split
 ·rw[zE (by assumption)]at h;cases h
 have hl:=hin ((ipTakeT f.body).1.dst:Int) (by simpa using h5)
 have hb:Ac n=true:=by cases hx:Ac n;exact yB (.inr hx) h1;rfl
 have:=(Ei hb hl.2).1
 show DomIn n (nth n.irbs _).domain
 rw[Aj hl.2]
 exact this
end Go.Sy.YtiijbikecbjdaaaGreatDoor
namespace Go.Sy.YtiijbikecbjdaaaGreatDoor
open Go.Proofs
attribute [local irreducible] Go.Sy.G Go.Sy.DR
set_option maxRecDepth 100000
set_option maxHeartbeats 4000000
theorem V7 (l:List Device) (p:Device→Bool) (f:FuncId) (first cap:List SV) (hc:(SV.clo (.func f) first cap).inn []=true) (hf:∀ x∈l,D9 Tryz.prog f (first++[Au x]++cap) (Ab (p x))) (hl:Ak l) :
  Sp 182 [.sl 5 Au l,.clo (.func f) first cap] (Aa (Co p l)):=cT F182 Tryz.ntmps182 λ F hF=>by
 unfold Ak at hl
 have hin:∀ x:Device,By [] (first++[Au x]++cap)=true:=λ x=>Cs hc rfl
 refine fW ?_
 refine A5 l.length (λ j=>Hc (λ _ x=>!(p x)) l j) (λ j=>[(0,.sl 5 Au l),(1,.clo (.func f) first cap),(7,Aa l.length),(8,Aa j)]) (λ _=>[]) [] (Bj _ _) ⟨⟨E,E,A8 _,hc,E,E,E,E,Y⟩,Y,E,E⟩ ?_
 intro j hj hI
 refine fU ?_
 constructor<;>intro h
 ·have h:=zK h
  have hj2:j<l.length:=by omega
  refine fU ?_
  refine⟨E,by omega,by omega,?_⟩
  refine fW ?_
  refine Dj (hf l[j] (zJ hj2)) E E E (by simp only[hin];rfl) E E ?_
  refine fU ?_
  constructor<;>intro h2
  ·refine fU ?_
   refine Aq E (.cons .tmp .nil) (zG Aa ?_) E
   exact Cr hj2 (λ i hi hij=>by simpa using hI i hi hij) h2
  ·refine fU ?_
   refine iL ?_
   refine fW ?_
   exact A4 [] hI hj2 (Bh hI hj2 (by simp[h2])) ⟨⟨E,E,A8 _,hc,E,E,E,E,Y⟩,Y,E,E⟩
 ·have h:=zT h
  refine fU ?_
  refine Aq E (.cons .tmp .nil) (zG Aa ?_) E
  exact C7 (λ i hi=>by simpa using hI i hi q_)
theorem Ajk {n:Net} (hb:Ac n=true) {d:Int} (hd:DomIn n d):0≤(n.domains[d.toNat]'hd.2).dev∧(n.domains[d.toNat]'hd.2).dev.toNat<n.devices.length:=by
 simp only[Ac,zH]at hb
 have:=Am9 hb.1.1.1.1.1.1.1.2 hd.2
 have:=Cn this
 omega
theorem Aj3 {n:Net} (hb:Ac n=true) {d:Int} (hd:DomIn n d):Kv n d=(n.devices[(n.domains[d.toNat]'hd.2).dev.toNat]'(Ajk hb hd).2).vtep:=by
 rw[Kv,Aj hd.2,Aj (Ajk hb hd).2]
theorem Aj2 {n:Net} (hm:n.Num) (hb:Ac n=true) {d:Int} (hd:DomIn n d):0≤Kv n d∧Kv n d<4294967296:=by
 rw[Aj3 hb hd]
 exact hm.vtep _ (zJ _)
theorem V5 (n:Net) (hb:Ac n=true) (d:Int) (hd:DomIn n d):Sp 285 [Al n,Aa d] (A6 (Kv n d)):=cT F285 Tryz.ntmps285 λ F hF=>by
 have hv:=Aj3 hb hd
 have h2:=Ajk hb hd
 obtain ⟨x,hx⟩:∃ x,n.domains[d.toNat]'hd.2=x:=⟨_,rfl⟩
 rw[hx]at h2
 simp only[hx]at hv
 obtain ⟨y,hy⟩:∃ y,n.devices[x.dev.toNat]'h2.2=y:=⟨_,rfl⟩
 rw[hy]at hv
 rw[hv]
 conv=>whnf
 refine⟨E,hd.1,hd.2,?_⟩
 rw[hx]
 conv=>whnf
 refine⟨E,h2.1,h2.2,?_⟩
 rw[hy]
 conv=>whnf
 refine kW ?_
 exact dN
theorem Apo (n:Net) (hn:n.Fin) (hm0:n.Num) (dom peer:Int) (f:FrameM) (h:FrameOK f) :
  Sp 206 [Al n,Aa dom,Aa peer,Cy f] (.tup [.sl 1 Ah (meshT n dom peer f).1,Aa (meshT n dom peer f).2]):=cT F206 Tryz.ntmps206 λ F hF=>by
 have hres:=meshT.eq_1 n dom peer f
 generalize meshT n dom peer f=res at *
 have hr:=Ax n hn
 have hpS:=Md peer n.domains.length
 have hdS:=Md dom n.domains.length
 conv=>whnf
 refine A7 4 8 (Al n) E E E ?_
 refine A7 7 4 (Cy f) E E E ?_
 refine oO ?_
 refine c0 hpS F281 ?_
 cases hpl:An peer n.domains.length
 ·rw[zE (.inl hpl)]at hres
  subst hres
  (refine oT ?_;refine bT ?_;refine bT ?_)
  refine Am 8 1 Ah E ?_
  exact dN
 refine oF ?_
 refine c0 hdS F281 ?_
 cases hdl:An dom n.domains.length
 ·rw[zE (.inr (.inl hdl))]at hres
  subst hres
  (refine oT ?_;refine bT ?_)
  refine Am 8 1 Ah E ?_
  exact dN
 refine oF ?_
 refine c0 hr F24 ?_
 cases hbn:Ac n
 ·rw[zE (.inr (.inr hbn))]at hres
  subst hres
  refine oT ?_
  refine Am 8 1 Ah E ?_
  exact dN
 rw[zD (by simp[hbn,hpl,hdl])]at hres
 have hd:=Lm hdl
 have hp:=Lm hpl
 have hd0:=hd.1
 have hkd:=hd.2
 have e2:nth n.domains dom=n.domains[dom.toNat]:=Aj hkd
 have hpe:=hn.peers _ (zJ hkd)
 have va:=Aj2 hm0 hbn hd
 have vb:=Aj2 hm0 hbn hp
 have qa:=V5 n hbn dom hd
 have qb:=V5 n hbn peer hp
 generalize Kv n dom=a at *
 generalize Kv n peer=c at *
 obtain ⟨a,rfl⟩:=xA va.1
 obtain ⟨c,rfl⟩:=xA vb.1
 rw[yL,yL]at hres
 obtain ⟨d,hdd⟩:∃ d,n.domains[dom.toNat]'hkd=d:=⟨_,rfl⟩
 rw[hdd]at e2 hpe
 rw[e2]at hres
 have qc:=Do d.peers peer hpe
 have qw:=Azo a c d.vni f q_ q_ h
 refine oF ?_
 refine⟨E,hd0,hkd,?_⟩
 rw[hdd]
 conv=>whnf
 refine c0 qc F73 ?_
 cases hi:inB d.peers peer
 ·rw[zE hi]at hres
  subst hres
  refine oT ?_
  refine Am 8 1 Ah E ?_
  exact dN
 rw[zD (by rw[hi];decide)]at hres
 subst hres
 refine oF ?_
 refine cD qa F285 ?_
 refine oD ?_
 refine cD qb F285 ?_
 refine oD ?_
 refine⟨E,hd0,hkd,?_⟩
 rw[hdd]
 conv=>whnf
 refine cD qw F284 ?_
 refine oD ?_
 refine kW ?_
 exact dN
theorem endsC1 (dst:Int) (d:Device):Sp 350 [Au d,.ref 1 (A6 dst) 0] (Ab (decide (d.vtep=dst))):=cT F350 Tryz.ntmps350 λ F hF=>by
 conv=>whnf
 refine Aq E (.cons .tmp .nil) (zG Ab ?_) E
 rw[wA]
 simp
theorem endsC2 (dev vni:Int) (d:Domain):Sp 351 [Ap d,.ref 1 (Aa dev) 0,.ref 1 (Aa vni) 0] (Ab (decide (d.dev=dev) && decide (d.vni=vni))):=cT F351 Tryz.ntmps351 λ F hF=>by
 conv=>whnf
 constructor<;>intro h
 ·have h1:d.dev=dev:=by simpa using h
  refine oO ?_
  refine Aq E (.cons .tmp .nil) (zG Ab ?_) E
  rw[zR h1,zZ,wA]
  simp
 ·have h1:¬ d.dev=dev:=by simpa using h
  refine oO ?_
  refine Aq E (.cons .tmp .nil) (zG Ab ?_) E
  rw[zI h1,yA]
theorem endsC3 (n:Net) (hb:Ac n=true) (src:Int) (k:Int) (hk:DomIn n k):Sp 353 [Aa k,.ref 8 (Al n) 0,.ref 1 (A6 src) 0] (Ab (decide (Kv n k=src))):=cT F353 Tryz.ntmps353 λ F hF=>by
 have q:=V5 n hb k hk
 conv=>whnf
 refine cD q F285 ?_
 refine oD ?_
 refine kW ?_
 refine Aq E (.cons .tmp .nil) (zG Ab ?_) E
 rw[wA]
 simp
theorem endsS (n:Net) (hn:n.Fin) (hb:Ac n=true) (src dst:Nat) (vni:Int) :
  Sp 289 [Al n,A6 src,A6 dst,Aa vni] (.tup [Aa (endsT n src dst vni).1,Aa (endsT n src dst vni).2]):=cT F289 Tryz.ntmps289 λ F hF=>by
 have hres:=endsT.eq_1 n src dst vni
 dsimp only at hres
 generalize endsT n src dst vni=res at *
 have q1:=V7 n.devices (λ d=>decide (d.vtep=(dst:Int))) 350 [] [.ref 1 (A6 dst) 0] rfl (λ d _=>⟨⟨_,_,F350⟩,endsC1 dst d⟩) hn.devices
 generalize Co (λ d:Device=>decide (d.vtep=(dst:Int))) n.devices=dev at *
 have q2:=Eh n.domains (λ d=>decide (d.dev=dev) && decide (d.vni=vni)) 351 [] [.ref 1 (Aa dev) 0,.ref 1 (Aa vni) 0] rfl (λ d _=>⟨⟨_,_,F351⟩,endsC2 dev vni d⟩) hn.domains
 have hlt:=Hk (λ d:Domain=>decide (d.dev=dev) && decide (d.vni=vni)) n.domains
 generalize Co (λ d:Domain=>decide (d.dev=dev) && decide (d.vni=vni)) n.domains=dom at *
 refine fW ?_
 refine A7 4 8 (Al n) E E E ?_
 refine A7 5 1 (A6 src) E E E ?_
 refine A7 6 1 (A6 dst) E E E ?_
 refine A7 7 1 (Aa vni) E E E ?_
 refine fU ?_
 refine c0 q1 F182 ?_
 refine fU ?_
 refine A7 10 1 (Aa dev) E E E ?_
 refine fU ?_
 refine c0 q2 F178 ?_
 refine fU ?_
 constructor<;>intro h
 ·rw[zE (.inl (zK h))]at hres
  subst hres
  refine fU ?_
  exact dN
 have h1:=zT h
 clear h
 refine fU ?_
 constructor<;>intro h
 ·rw[zE (.inr (zK h))]at hres
  subst hres
  refine fU ?_
  exact dN
 have h2:=zT h
 clear h
 rw[zD (λ h=>h.elim h1 h2)]at hres
 have hd0:0≤dom:=by omega
 have hkd:dom.toNat<n.domains.length:=by omega
 have e2:nth n.domains dom=n.domains[dom.toNat]:=Aj hkd
 have hpe:=hn.peers _ (zJ hkd)
 have hpin:∀ k∈(n.domains[dom.toNat]'hkd).peers,DomIn n k:=λ k hk=>Ale hb hkd hk
 obtain ⟨d,hdd⟩:∃ d,n.domains[dom.toNat]'hkd=d:=⟨_,rfl⟩
 rw[hdd]at e2 hpe hpin
 rw[e2]at hres
 have q3:=Lt d.peers (λ k=>decide (Kv n k=(src:Int))) 353 [] [.ref 8 (Al n) 0,.ref 1 (A6 src) 0] rfl (λ k hk=>⟨⟨_,_,F353⟩,endsC3 n hb src k (hpin k hk)⟩) hpe
 have hlt2:=Hk (λ k:Int=>decide (Kv n k=(src:Int))) d.peers
 generalize Co (λ k:Int=>decide (Kv n k=(src:Int))) d.peers=i at *
 refine fU ?_
 refine⟨E,hd0,hkd,?_⟩
 rw[hdd]
 refine fW ?_
 refine c0 q3 F352 ?_
 refine fU ?_
 constructor<;>intro h
 ·rw[zE (zK h)]at hres
  subst hres
  refine fU ?_
  exact dN
 have h3:=zT h
 clear h
 rw[zD h3]at hres
 have hki:i.toNat<d.peers.length:=by omega
 rw[Aj hki]at hres
 subst hres
 refine fU ?_
 refine⟨E,by omega,hki,?_⟩
 refine fW ?_
 exact dN
theorem Apq (n:Net) (hn:n.Fin) (b:List UInt8) (hb:b.length<100000) :
  Sp 210 [Al n,.sl 1 Ah b] (.tup [Aa (comeT n b).1,Aa (comeT n b).2.1,Cy (comeT n b).2.2.1,Aa (comeT n b).2.2.2]):=cT F210 Tryz.ntmps210 λ F hF=>by
 have hres:=comeT.eq_1 n b
 generalize comeT n b=res at *
 have hr:=Ax n hn
 refine fW ?_
 refine A7 2 8 (Al n) E E E ?_
 refine fU ?_
 refine c0 hr F24 ?_
 cases hbn:Ac n
 ·rw[zE hbn]at hres
  subst hres
  refine fU ?_
  refine Ai 6 zF E vL ?_
  exact dN
 rw[zD (by rw[hbn];decide)]at hres
 have q1:=Asj b hb
 have huo:=Aci b
 generalize Ci b=u at *
 obtain ⟨src,dst,vni,f,e⟩:=u
 dsimp only at hres q1 huo
 have hsrc:=huo.2.2.2.src
 refine fU ?_
 refine c0 q1 F288 ?_
 refine fU ?_
 constructor<;>intro h
 ·rw[zE (by simpa using h)]at hres
  subst hres
  refine fU ?_
  refine Ai 6 zF E vL ?_
  exact dN
 rw[zD (by simpa using h)]at hres
 clear h
 have q2:=endsS n hn hbn src dst vni
 generalize endsT n src dst vni=en at *
 obtain ⟨fr,dom⟩:=en
 dsimp only at hres q2
 refine fU ?_
 refine c0 q2 F289 ?_
 refine fU ?_
 constructor<;>intro h
 ·rw[zE (zK h)]at hres
  subst hres
  refine fU ?_
  refine Ai 6 zF E vL ?_
  exact dN
 rw[zD (zT h)]at hres
 clear h
 have qg:=Lo f.src q_
 refine fU ?_
 refine c0 qg F195 ?_
 cases hg:Iu f.src
 rotate_left
 ·rw[zE hg]at hres
  subst hres
  refine fU ?_
  refine Ai 6 zF E vL ?_
  exact dN
 rw[zD (by rw[hg];decide)]at hres
 subst hres
 refine fU ?_
 refine⟨z_,?_⟩
 refine fW ?_
 exact dN
theorem A00 {n:Net} (hb:Ac n=true) {d:Int} (hd:DomIn n d) (hi:0≤(n.domains[d.toNat]'hd.2).irb) :
  ∃ h:(n.domains[d.toNat]'hd.2).irb.toNat<n.irbs.length,(n.irbs[(n.domains[d.toNat]'hd.2).irb.toNat]'h).domain=d:=by
 simp only[Ac,zH]at hb
 have:=allB_iff.1 hb.1.1.1.1.1.1.1.2 _ hd.2
 simp only[Q2,zH,yO,yF]at this
 have h2:=this.1.2
 rcases h2 with h2 | ⟨h2,h3⟩
 ·omega
 ·have h4:=Cn h2
  have h5:(n.domains[d.toNat]'hd.2).irb.toNat<n.irbs.length:=by omega
  rw[Aj h5]at h3
  have:=hd.1
  exact⟨h5,by omega⟩
theorem Aj4 (n:Net) (hn:n.Fin) (hm0:n.Num) (dom:Int) (m:Nat) :
  Sp 201 [Al n,Aa dom,Bf m] (.tup [Aa (routerT n dom m).1,Ab (routerT n dom m).2]):=cT F201 Tryz.ntmps201 λ F hF=>by
 have hres:=routerT.eq_1 n dom m
 generalize routerT n dom m=res at *
 have hr:=Ax n hn
 conv=>whnf
 constructor<;>intro h
 ·have hp:An dom n.domains.length=false:=by
   cases hx:An dom n.domains.length
   ·rfl
   ·have:=Cn hx;have:=zK h;omega
  rw[zE (.inl hp)]at hres
  subst hres
  (refine oT ?_;refine bT ?_)
  exact dN
 have h0:0≤dom:=qB h
 clear h
 refine oO ?_
 constructor<;>intro h
 ·have hp:An dom n.domains.length=false:=by
   cases hx:An dom n.domains.length
   ·rfl
   ·have:=Cn hx;have:=zK h;omega
  rw[zE (.inl hp)]at hres
  subst hres
  refine oT ?_
  exact dN
 have h1:dom<n.domains.length:=qB h
 clear h
 have hpl:An dom n.domains.length=true:=Mb ⟨h0,h1⟩
 refine oO ?_
 refine c0 hr F24 ?_
 cases hbn:Ac n
 ·rw[zE (.inr hbn)]at hres
  subst hres
  refine oT ?_
  exact dN
 rw[zD (by simp[hbn,hpl])]at hres
 have hd:=Lm hpl
 have e2:nth n.domains dom=n.domains[dom.toNat]'hd.2:=Aj hd.2
 have hir:=A00 hbn hd
 obtain ⟨d,hdd⟩:∃ d,n.domains[dom.toNat]'hd.2=d:=⟨_,rfl⟩
 simp only[hdd]at e2 hir
 rw[e2]at hres
 refine oF ?_
 refine⟨E,hd.1,hd.2,?_⟩
 rw[hdd]
 conv=>whnf
 constructor<;>intro h
 ·rw[zE (.inl (zK h))]at hres
  subst hres
  refine oT ?_
  exact dN
 have hi0:0≤d.irb:=qB h
 clear h
 obtain ⟨hi1,hi2⟩:=hir hi0
 have ha:=hm0.addr _ (zJ hi1)
 rw[Aj hi1]at hres
 obtain ⟨x,hx⟩:∃ x,n.irbs[d.irb.toNat]'hi1=x:=⟨_,rfl⟩
 rw[hx]at ha hres
 obtain ⟨a,hae⟩:=xA ha.1
 have qh:=Ahb a q_
 rw[← hae]at qh
 refine oO ?_
 refine⟨E,hi0,hi1,?_⟩
 rw[hx]
 conv=>whnf
 refine c0 qh F158 ?_
 refine oO ?_
 constructor<;>intro h
 ·have hne:Kf x.addr≠m:=λ e=>by
   rw[e]at h
   simp at h
  rw[zE (.inr hne)]at hres
  subst hres
  refine oO ?_
  exact dN
 ·have heq:Kf x.addr=m:=by
   have:(Kf x.addr:Int)=(m:Int):=by simpa using h
   omega
  rw[zD (λ h=>h.elim q_ (λ h2=>h2 heq))]at hres
  subst hres
  refine oO ?_
  exact dN
theorem Afr {n:Net} {i:Int} (h:An i n.irbs.length=true):InIrbs n i:=by
 have:=Cn h
 exact⟨this.1,by omega⟩
theorem A0s {p:PacketM} (h:PacketOK p):PacketOK (Ap0 p):=⟨h.tos,h.id,by have:=h.ttl;show p.ttl-1≤255;omega,h.proto,h.src,h.dst⟩
theorem Apw (p:PacketM):ipPutT (Ap0 p)=if 1480<p.body.length then ([],14) else (Abr (Ap0 p),0):=rfl
theorem Atf (n:Net) (hn:n.Fin) (hm0:n.Num) (irb:Int) (f:FrameM) (hf:FrameOK f) :
  Sp 202 [Al n,Aa irb,Cy f] (.tup [Aa (hopT n irb f).1,Cy (hopT n irb f).2.1,Aa (hopT n irb f).2.2]):=cT F202 Tryz.ntmps202 λ F hF=>by
 have hres:=hopT.eq_1 n irb f
 generalize hopT n irb f=res at *
 have hr:=Ax n hn
 have hb:=hf.body
 conv=>whnf
 constructor<;>intro h
 ·have hp:An irb n.irbs.length=false:=by
   cases hx:An irb n.irbs.length
   ·rfl
   ·have:=Cn hx;have:=zK h;omega
  rw[zE (.inl hp)]at hres
  subst hres
  (refine oT ?_;refine bT ?_)
  refine Ai 7 zF E vL ?_
  exact dN
 have h0:0≤irb:=qB h
 clear h
 refine oO ?_
 constructor<;>intro h
 ·have hp:An irb n.irbs.length=false:=by
   cases hx:An irb n.irbs.length
   ·rfl
   ·have:=Cn hx;have:=zK h;omega
  rw[zE (.inl hp)]at hres
  subst hres
  refine oT ?_
  refine Ai 7 zF E vL ?_
  exact dN
 have h1:irb<n.irbs.length:=qB h
 clear h
 have hpl:An irb n.irbs.length=true:=Mb ⟨h0,h1⟩
 refine oO ?_
 refine c0 hr F24 ?_
 cases hbn:Ac n
 ·rw[zE (.inr hbn)]at hres
  subst hres
  refine oT ?_
  refine Ai 7 zF E vL ?_
  exact dN
 rw[zD (by simp[hbn,hpl])]at hres
 refine A7 3 8 (Al n) E E E ?_
 refine A7 5 4 (Cy f) E E E ?_
 refine oF ?_
 constructor<;>intro h
 ·rw[zE (by have:¬ (f.typ:Int)=2048:=(by simpa using h);omega)]at hres
  subst hres
  refine oO ?_
  refine Ai 7 zF E vL ?_
  exact dN
 rw[zD (by have:(f.typ:Int)=2048:=(by simpa using h);omega)]at hres
 clear h
 have q1:=Arv f.body q_
 have hok:=@Ad0 f.body
 generalize ipTakeT f.body=tk at *
 obtain ⟨p,e⟩:=tk
 dsimp only at hres q1 hok
 refine oO ?_
 refine c0 q1 F277 ?_
 refine oO ?_
 by_cases he:e=0
 rotate_left
 ·rw[zE he]at hres
  subst hres
  refine⟨λ h=>yB (show e=0 by simpa using h) he,λ _=>?_⟩
  refine oO ?_
  refine⟨λ _=>?_,λ h=>yB (show e=0 by simpa using h) he⟩
  refine oO ?_
  refine Ai 7 zF E vL ?_
  exact dN
 subst he
 rw[zD y_]at hres
 obtain ⟨hpo,hpb⟩:=hok rfl
 have hpt:=hpo.ttl
 have hpd:=hpo.dst
 have q2:=ipHopS p q_ hpt
 (refine⟨λ _=>?_,λ h=>False.elim (yB h j_)⟩;refine rg ?_;conv=>whnf)
 by_cases ht:p.ttl≤1
 ·rw[zE ht]at hres
  subst hres
  rw[hop1,zE ht]at q2
  refine c0 q2 F278 ?_
  refine oT ?_
  refine Ai 7 zF E vL ?_
  exact dN
 rw[zD ht]at hres
 rw[hop1,zD ht]at q2
 refine c0 q2 F278 ?_
 have q3:=Ars n hn hbn irb p.dst (Afr hpl)
 have hth:=λ h=>@S5 n irb p.dst h
 generalize lookT n irb p.dst=lk at *
 obtain ⟨to,ok⟩:=lk
 dsimp only at hres q3 hth
 refine oF ?_
 refine c0 q3 F279 ?_
 cases ok
 ·rw[zE rfl]at hres
  subst hres
  refine oT ?_
  refine Ai 7 zF E vL ?_
  exact dN
 rw[zD j_]at hres
 have hto:=hth rfl
 have hpp:=Apw p
 have q4:=Ai8 (Ap0 p) (A0s hpo) (by show p.body.length<100000;omega)
 rw[hpp]at q4
 clear hpp
 by_cases hl:1480<p.body.length
 ·rw[zE hl]at hres q4
  subst hres
  refine oF ?_
  refine c0 q4 F157 ?_
  refine oT ?_
  refine Ai 7 zF E vL ?_
  exact dN
 rw[zD hl]at hres q4
 have ha:=hm0.addr _ (zJ hto.2)
 rw[Aj hto.2]at hres
 obtain ⟨x,hx⟩:∃ x,n.irbs[to.toNat]'hto.2=x:=⟨_,rfl⟩
 rw[hx]at ha hres
 obtain ⟨a,hae⟩:=xA ha.1
 have qh:=Ahb a q_
 rw[← hae]at qh
 have qd:=Ahb p.dst hpd
 subst hres
 refine oF ?_
 refine c0 q4 F157 ?_
 refine oF ?_
 refine⟨E,hto.1,hto.2,?_⟩
 rw[hx]
 conv=>whnf
 refine cD qd F158 ?_
 refine oD ?_
 refine⟨E,hto.1,hto.2,?_⟩
 rw[hx]
 conv=>whnf
 refine cD qh F158 ?_
 refine oD ?_
 refine kW ?_
 exact dN
end Go.Sy.YtiijbikecbjdaaaGreatDoor
namespace Go.Sy.YtiijbikecbjdaaaGreatDoor
open Go.Proofs
structure TabOK (t:List EntryM):Prop where
 short:Ak t
 mac:∀ e∈t,e.mac<18446744073709551616
 wh:∀ e∈t,I64 e.where_
structure QueuedOK (q:QueuedM):Prop where
 frame:FrameOK q.frame
 from_:-2≤q.from_∧q.from_<1099511627776
 peer:0≤q.peer∧q.peer<1099511627776
def Is (l:List QueuedM):Prop:=l.length≤64∧∀ q∈l,QueuedOK q
structure MacOK (n:Net) (m:MacM) (J D:Int):Prop where
 up:m.up.length=n.links.length
 tabs:m.tables.length=n.domains.length
 ques:m.queues.length=n.domains.length
 tab:∀ t∈m.tables,TabOK t
 que:∀ l∈m.queues,Is l
 now:0≤m.now∧m.now≤1099511627776
 inj:0≤m.injected∧m.injected≤J
 drp:∀ i,0≤m.drops i∧m.drops i≤D
theorem I0 {f:FrameM} (hf:FrameOK f) {a b:Int} (c:Int) (h1:-2≤a∧a<1099511627776) (h2:0≤b∧b<1099511627776):QueuedOK ⟨a,b,c,f⟩:=⟨hf,h1,h2⟩
theorem Axd:QueuedOK noQ:=⟨Dy,by decide,by decide⟩
theorem Zn:TabOK []:=⟨by unfold Ak;decide,λ _ h=>(by cases h),λ _ h=>(by cases h)⟩
theorem Aam:Is []:=⟨by decide,λ _ h=>(by cases h)⟩
theorem Adn {α:Type} {l:List α} {i:Nat} {x y:α} (h:y∈l.set i x):y=x∨y∈l:=by
 rcases uJ h with h | h
 ·exact .inr h
 ·exact .inl h
theorem Aec {α:Type} {l:List α} {i:Nat} {d:α} (h:i<l.length):(l[i]?).getD d∈l:=by
 rw[zO h]
 exact zJ h
theorem Hy {n:Net} {m:MacM} {J D:Int} (h:MacOK n m J D) (dom:Int):Is (queueL m dom):=by
 unfold queueL
 by_cases hd:dom.toNat<m.queues.length
 ·exact h.que _ (Aec hd)
 ·rw[vE q_];exact Aam
theorem Y8 {n:Net} {m:MacM} {J D:Int} (h:MacOK n m J D) (dom:Int):TabOK (tableL m dom):=by
 unfold tableL
 by_cases hd:dom.toNat<m.tables.length
 ·exact h.tab _ (Aec hd)
 ·rw[vE q_];exact Zn
theorem MacOK.mono {n:Net} {m:MacM} {J D J' D':Int} (h:MacOK n m J D) (h1:J≤J') (h2:D≤D'):MacOK n m J' D' :=
 ⟨h.up,h.tabs,h.ques,h.tab,h.que,h.now,⟨h.inj.1,by have:=h.inj.2;omega⟩,λ i=>⟨(h.drp i).1,by have:=(h.drp i).2;omega⟩⟩
theorem Tl {n:Net} {m:MacM} {J D:Int} (h:MacOK n m J D) (_hD:0≤D) (e:Int):MacOK n (C0 m e) J (D+1):=by
 refine⟨h.up,h.tabs,h.ques,h.tab,h.que,h.now,h.inj,λ i=>?_⟩
 have:=h.drp i
 show 0≤(if i=e.toNat then m.drops i+1 else m.drops i)∧(if i=e.toNat then m.drops i+1 else m.drops i)≤D+1
 split<;>omega
theorem Ard {n:Net} {m:MacM} {J D:Int} (h:MacOK n m J D) (dom:Int) {l:List QueuedM} (hl:Is l):MacOK n (As9 m dom l) J D:=by
 refine⟨h.up,h.tabs,by rw[As9];simp[h.ques],h.tab,λ x hx=>?_,h.now,h.inj,h.drp⟩
 rcases Adn hx with rfl | hx
 ·exact hl
 ·exact h.que x hx
theorem Arc {n:Net} {m:MacM} {J D:Int} (h:MacOK n m J D) (dom:Int) {l:List EntryM} (hl:TabOK l):MacOK n (H6 m dom l) J D:=by
 refine⟨h.up,by rw[H6];simp[h.tabs],h.ques,λ x hx=>?_,h.que,h.now,h.inj,h.drp⟩
 rcases Adn hx with rfl | hx
 ·exact hl
 ·exact h.tab x hx
theorem Awt {l:List QueuedM} (hl:Is l) {q:QueuedM} (hq:QueuedOK q):Is (pushT l q).1:=by
 unfold pushT
 split
 ·exact hl
 ·refine⟨by simp;omega,λ x hx=>?_⟩
  rcases yP.1 hx with hx | hx
  ·exact hl.2 x hx
  ·rw[yD.1 hx];exact hq
theorem Avx {l:List QueuedM} (hl:Is l) (at_:Int):QueuedOK (takeT l at_).1∧Is (takeT l at_).2.1:=by
 unfold takeT
 split
 ·exact⟨Axd,hl⟩
 ·rename_i h
  refine⟨hl.2 _ (Aec q_),?_,λ x hx=>hl.2 x (tS hx)⟩
  have:=List.length_eraseIdx_le l at_.toNat
  have:=hl.1
  show (l.eraseIdx at_.toNat).length≤64
  omega
theorem Yl {n:Net} {m:MacM} {J D:Int} (h:MacOK n m J D) (hD:0≤D) (dom:Int) {q:QueuedM} (hq:QueuedOK q) (e:Int):MacOK n (comeM m dom q e) J (D+1):=by
 unfold comeM
 split
 ·exact Tl h hD e
 split
 ·exact(Ard h dom (Awt (Hy h dom) hq)).mono (wE _) q_
 ·exact Tl h hD 3
theorem Acl {n:Net} {m:MacM} {J D:Int} (h:MacOK n m J D) (dom at_:Int):MacOK n (takeM m dom at_).1 J D∧QueuedOK (takeM m dom at_).2.1:=by
 unfold takeM
 split
 ·exact⟨h,Axd⟩
 ·have:=Avx (Hy h dom) at_
  exact⟨Ard h dom this.2,this.1⟩
theorem Apz {n:Net} (hn:n.Fin) {m:MacM} {J D:Int} (h:MacOK n m J D) (_hJ:0≤J) (hD:0≤D) (port:Int) (b:List UInt8):MacOK n (injectT n m port b) (J+1) (D+1):=by
 unfold injectT
 split
 ·exact h.mono q_ q_
 ·rename_i hc
  have hp:An port n.ports.length=true:=by cases hx:An port n.ports.length;exact yB (.inl hx) hc;rfl
  have hpi:=Cn hp
  have hs:=hn.ports
  unfold Ak at hs
  have h1:=h.inj
  have hm:MacOK n ⟨m.up,m.tables,m.queues,m.now,m.injected+1,m.drops⟩ (J+1) D:=⟨h.up,h.tabs,h.ques,h.tab,h.que,h.now,(by show 0≤m.injected+1∧m.injected+1≤J+1;omega),h.drp⟩
  exact Yl hm hD _ (I0 (Zw _ _ _) _ q_ q_) _
structure OutOK (n:Net) (o:OutM):Prop where
 kind:1≤o.kind∧o.kind≤5
 bytes:o.bytes.length≤1518
 frame:o.kind=4→FrameOK o.frame∧DomIn n o.domain
 err:o.kind=5→B5 o.error
theorem Ats {n:Net} (hn:n.Fin) (port:Int):-1≤D3 n port∧D3 n port<2147483648:=by
 unfold D3
 split
 ·rename_i h
  obtain ⟨⟨h1,h2⟩,h3,hb⟩:=h
  have hk:port.toNat<n.ports.length:=by omega
  rw[Aj hk]at h3 ⊢
  have hl:=(Km hb hk h3).1
  rw[Aj hl]
  simp only[Ac,zH]at hb
  have hlb:=allB_iff.1 hb.1.1.1.1.2 _ hl
  simp only[Xv,zH]at hlb
  have ha:=Cn hlb.1.1.1.1
  have hb2:=Cn hlb.1.1.1.2
  have hs:=hn.ports
  unfold Ak at hs
  split<;>omega
 ·omega
theorem Al1 {n:Net} (hn:n.Fin) (port:Int) (b:List UInt8):0≤(linkT n port b).1∧(linkT n port b).1<1099511627776:=by
 have:=Ats hn port
 unfold linkT
 split<;>dsimp only<;>omega
theorem Aew {n:Net} (hn:n.Fin) (b:List UInt8):0≤(comeT n b).1∧(comeT n b).1<1099511627776:=by
 by_cases h:(comeT n b).2.2.2=0
 ·have:=(Ahu h).1
  have hs:=hn.domains
  unfold Ak at hs
  unfold DomIn at this
  omega
 ·unfold comeT at h ⊢
  split
  ·decide
  rename_i h1
  rw[zD h1]at h
  split
  ·exact⟨wE _,by dsimp only;omega⟩
  rename_i h1
  rw[zD h1]at h
  split
  ·decide
  rename_i h1
  rw[zD h1]at h
  split
  ·decide
  rename_i h1
  rw[zD h1]at h
  exact yB E h
theorem Ayh {n:Net} (hn:n.Fin) {m:MacM} {J D:Int} (h:MacOK n m J D) (hD:0≤D) {o:OutM} (ho:OutOK n o) (origin:Int):MacOK n (goesM n m o origin).1 J (D+1):=by
 unfold goesM
 split
 ·exact h.mono (wE _) q_
 split
 ·have:=Al1 hn o.port o.bytes
  exact Yl h hD _ (I0 (Al2 _ _ _) _ q_ q_) _
 split
 ·exact Yl h hD _ (I0 (Amz _ _) _ q_ (Aew hn o.bytes)) _
 split
 ·rename_i h4
  exact Yl h hD o.domain (I0 (a:=-2) (b:=0) (ho.frame h4).1 origin j_ j_) 0
 ·exact Tl h hD _
theorem Th {n:Net} (hn:n.Fin) (origin:Int):∀ (l:List OutM) {m:MacM} {J D:Int},MacOK n m J D→0≤D→(∀ o∈l,OutOK n o)→MacOK n (Cc n m origin l).1 J (D+l.length)
 | [],m,J,D,h,_,_=>by
  rw[Cc]
  exact h.mono (wE _) y_
 | o::l,m,J,D,h,hD,ho=>by
  rw[Cc]
  have:=Th hn origin l (Ayh hn h hD (ho o y_) origin) q_ (λ x hx=>ho x (by simp[hx]))
  exact this.mono (wE _) (by simp only[yN];omega)
theorem Aly {n:Net} {o:OutM} {r:List UInt8 × Int} (hk:1≤o.kind∧o.kind≤3) (hr:r.1.length≤1518) (he:B5 r.2):OutOK n (Xr o r):=by
 unfold Xr
 split
 ·exact⟨⟨by dsimp only;omega,by dsimp only;omega⟩,by simp,λ h=>yB h (by dsimp only;omega),λ _=>he⟩
 ·exact⟨⟨hk.1,by have:=hk.2;dsimp only;omega⟩,hr,λ h=>by have:=hk.2;dsimp only at h;omega,λ h=>by have:=hk.2;dsimp only at h;omega⟩
theorem Aua {t:List EntryM} (h:TabOK t) {m:Nat} (hm:m<18446744073709551616) {wh:Int} (hw:I64 wh) (now:Int):TabOK (learnT t m wh now):=by
 have hs:=h.short
 unfold Ak at hs
 have key:∀ e:EntryM,e∈learnT t m wh now→e∈t∨e=⟨m,wh,now⟩:=λ e he=>by
  unfold learnT at he
  split at he
  ·exact .inl he
  split at he
  ·rcases Adn he with h | h
   ·exact .inr h
   ·exact .inl h
  ·rcases yP.1 he with h | h
   ·split at h
    ·exact .inl (tS h)
    ·exact .inl h
   ·exact .inr (yD.1 h)
 refine⟨?_,λ e he=>?_,λ e he=>?_⟩
 ·unfold learnT
  split
  ·exact h.short
  rename_i hb
  have h8:t.length≤8:=by
   have:tableB t=true:=by cases hx:tableB t;exact yB (.inl hx) hb;rfl
   simp only[tableB,zH,zQ]at this
   exact this.1
  split
  ·unfold Ak;simp;omega
  ·unfold Ak
   split
   ·have:=List.length_eraseIdx_le t (oldestU t t.length)
    simp only[yE,yN,xB]
    omega
   ·simp only[yE,yN,xB]
    omega
 ·rcases key e he with h1 | rfl
  ·exact h.mac e h1
  ·exact hm
 ·rcases key e he with h1 | rfl
  ·exact h.wh e h1
  ·exact hw
theorem T8 {t:List EntryM} (h:TabOK t) {q:QueuedM} (hq:QueuedOK q) (now:Int):TabOK (learnQ t q now):=by
 unfold learnQ
 split
 ·exact h
 ·have hs:=hq.frame.src
  refine Aua h q_ ?_ now
  have h1:=hq.from_
  have h2:=hq.peer
  unfold I64
  split<;>omega
theorem A1d {t:List EntryM} (h:TabOK t) (now:Int):TabOK (ageT t now):=by
 unfold ageT
 split
 ·exact h
 ·have hs:=h.short
  unfold Ak at hs
  refine⟨?_,λ e he=>h.mac e (List.mem_filter.1 he).1,λ e he=>h.wh e (List.mem_filter.1 he).1⟩
  unfold Ak
  exact Nat.lt_of_le_of_lt (List.length_filter_le _ _) hs
theorem Alu (n:Net) (dom:Int):(Bg n dom).length≤n.ports.length:=by
 rw[Bg]
 have:=H2 (Vc n (nth n.domains dom)) n.ports.length
 exact this
end Go.Sy.YtiijbikecbjdaaaGreatDoor
namespace Go.Sy.YtiijbikecbjdaaaGreatDoor
open Go.Proofs
attribute [local irreducible] Go.Sy.G Go.Sy.DR
set_option maxRecDepth 100000
set_option maxHeartbeats 4000000
theorem Ae5 (m:Nat) (h:m<4294967296):bits .and .u64 (m:Int) 4294967295=(m:Int):=by
 have:=bits_and_u64_nat m 4294967295 q_ j_
 rw[show ((4294967295:Nat):Int)=4294967295 from rfl]at this
 rw[this]
 have h2:=vW m 32
 rw[show 2 ^ 32-1=4294967295 from rfl,show 2 ^ 32=4294967296 from rfl]at h2
 rw[h2,xU h]
theorem Aon (m:Nat) (h:m<4294967296):(m:Int).fdiv (2 ^ (min (Int.toNat 32) IntKind.u64.bits))=0:=by
 show (m:Int).fdiv 4294967296=0
 rw[wC _ j_]
 omega
theorem mul64S (m:Nat) (h:m<4294967296):Sp 123 [Bf 1,Bf m] (.tup [Bf 0,Bf m]):=cT F123 Tryz.ntmps123 λ F hF=>by
 have e0:bits .and .u64 1 4294967295=1:=Ae5 1 j_
 have e1:(1:Int).fdiv (2 ^ (min (Int.toNat 32) IntKind.u64.bits))=0:=Aon 1 j_
 have e2:=Ae5 m h
 have e3:=Aon m h
 have w1:IntKind.u64.wrap (1 * (m:Int))=m:=by rw[IntKind.wrap_u64];omega
 have w0:IntKind.u64.wrap (0 * (m:Int))=0:=by rw[IntKind.wrap_u64];omega
 have z0:IntKind.u64.wrap (0+0)=0:=rfl
 have a0:bits .and .u64 0 4294967295=0:=Ae5 0 j_
 have s0:(0:Int).fdiv (2 ^ (min (Int.toNat 32) IntKind.u64.bits))=0:=Aon 0 j_
 conv=>whnf
 rw[e0]
 refine⟨by decide,?_⟩
 rw[e1]
 conv=>whnf
 rw[e2]
 refine⟨by decide,?_⟩
 rw[e3]
 conv=>whnf
 rw[w1,w0]
 refine⟨by decide,?_⟩
 rw[e3]
 conv=>whnf
 rw[z0,a0]
 refine⟨by decide,?_⟩
 rw[s0]
 conv=>whnf
 refine⟨by decide,?_⟩
 conv=>whnf
 refine Aq E (.cons .tmp (.cons .tmp .nil)) ?_ E
 refine zG (λ z:Int=>SV.tup [Bf 0,Bf z]) ?_
 exact w1.symm
theorem mulS (m:Nat) (h:m<4294967296):Sp 66 [Bf 1,Bf m] (.tup [Bf 0,Bf m]):=cT F66 Tryz.ntmps66 λ F hF=>by
 ((conv=>whnf);refine aF ?_;refine rg ?_;conv=>whnf)
 refine c0 (mul64S m h) F123 ?_
 refine oO ?_
 exact dN
def Lf (m k:Nat):List Bool:=List.replicate k true++List.replicate (m-k) false
theorem Su (m k:Nat) (h:k≤m):(Lf m k).length=m:=by simp[Lf];omega
theorem Awn (m:Nat):Lf m m=List.replicate m true:=by simp[Lf]
theorem Ath (m k c:Nat) (_h:k≤m) (hc:c=min k (m-k)):(Lf m k).take k++(Lf m k).take c++(Lf m k).drop (k+c)=Lf m (k+c):=by
 have e1:(Lf m k).take k=List.replicate k true:=by
  rw[Lf,vB y_];simp
 have e2:(Lf m k).take c=List.replicate c true:=by
  rw[Lf,vB (by simp;omega)];simp;omega
 have e3:(Lf m k).drop (k+c)=List.replicate (m-(k+c)) false:=by
  rw[Lf,List.drop_append,wY y_,wG]
  simp
  omega
 rw[e1,e2,e3,Lf,tZ]
theorem Arh (m:Nat) (h:m<2147483648):Sp 77 [.sl 1 Ab [true],Aa m] (.sl 1 Ab (List.replicate m true)):=cT F77 Tryz.ntmps77 λ F hF=>by
 have hw:IntKind.u64.wrap (m:Int)=m:=by rw[IntKind.wrap_u64];omega
 have hw2:IntKind.i64.wrap (m:Int)=m:=by rw[IntKind.wrap_i64];omega
 have q:=mulS m q_
 rw[← hw]at q
 ((conv=>whnf);refine aF ?_;refine rg ?_;conv=>whnf)
 refine c0 q F66 ?_
 rw[hw]
 refine oF ?_
 refine⟨λ h1=>yB (zK h1) q_,λ _=>?_⟩
 refine oO ?_
 rw[hw2]
 refine Af (Bv Γ.toTy (d:=30) (n:=m) Ab false E E E E E E E E q_ q_ E E E) E E ?_
 refine oO ?_
 refine Af (Ua Γ.toTy (l:=List.replicate m false) (m:=[true]) E E E E E .sl) E E ?_
 have e0:[true].take (List.replicate m false).length++(List.replicate m false).drop [true].length=Lf m (min 1 m):=by
  cases m with
  | zero=>rfl
  | succ m=>simp[Lf,Nat.min_eq_left,uS]
 have e1:min [true].length (List.replicate m false).length=min 1 m:=by simp
 rw[e0,e1]
 refine oO ?_
 refine B6 (λ k:Nat=>min 1 m≤k∧k≤m) (λ k=>[(7,.osl 30),(8,Aa k)]) (λ k=>[(30,.row 1 Ab (Lf m k))]) (λ k=>m-k) (min 1 m) [] q_ ⟨⟨E,E,E,E,Y⟩,⟨.inl E,E,Y⟩,E,E⟩ ?_
 intro k hk
 have hl:=Su m k hk.2
 refine oO ?_
 constructor<;>intro h1
 ·have hlt:k<m:=by have:=zK h1;rw[hl]at this;omega
  clear h1
  have hk1:1≤k:=by omega
  have hne:Lf m k≠[]:=λ e=>by rw[e]at hl;simp at hl;omega
  refine Anl 30 [7] E hne (λ i hi=>by simp at hi;subst hi;rfl) ?_
  intro b cap hc
  rw[hl]at hc ⊢
  have hcl:¬ cap=k:=by omega
  have hcp:=Ath m k (min k (m-k)) hk.2 rfl
  refine oO ?_
  refine Br (C4 (lo:=k) (hi:=m) Γ.toTy E E E E (.inr ⟨_,_,E,E⟩) (.inl ⟨E,E⟩) q_ q_) z_ E ?_
  refine oD ?_
  refine Br (C4 (lo:=0) (hi:=k) Γ.toTy E E E E (.inl ⟨E,E⟩) (.inr ⟨_,_,E,E⟩) q_ q_) z_ E ?_
  refine oD ?_
  refine Br (Vf Γ.toTy 30 (lo:=k) (k:=k) E E E E (by rw[zD hcl,Nat.mul_one]) E (by rw[zD q_,Nat.zero_mul]) E hl q_ q_) z_ E ?_
  refine oD ?_
  refine iW ?_
  refine kW ?_
  refine Yw 30 31 [7] m E E (by rw[hcp,Su m _ q_];exact yC _) (λ i hi=>by simp at hi;subst hi;rfl) ?_
  have hfin:((Lf m k).take k++(Lf m k).take (min k (m-k))++(Lf m k).drop (k+min k (m-k))).take m=Lf m (k+min k (m-k)):=by
   rw[hcp,xC (by rw[Su m _ q_];exact yC _)]
  exact Av (k+min k (m-k)) [(30,31)] q_ q_ ⟨⟨E,E,E,E,Y⟩,⟨.inl (zG (Ob.row 1 Ab) hfin.symm),E,Y⟩,E,E⟩
 ·have hkm:k=m:=by have:=zT h1;rw[hl]at this;omega
  subst hkm
  rw[Awn]
  refine oO ?_
  refine Ag 30 E ?_
  exact dN
def Mz (t:List EntryM):SV:=.sl 3 Bc t
def Qw (l:List QueuedM):SV:=.sl 7 B1 l
def Sg (n:Net) (k:Nat) (now inj:Int) (d:Nat→Int):List SV :=
 [.sl 5 Au n.devices,.sl 7 A3 n.ports,.sl 3 Bw n.links,.sl 6 Ap n.domains,.sl 4 Az n.statics,.sl 4 Be n.floods,.sl 5 Ca n.vrfs,.sl 5 B3 n.irbs,.ptr k 0,.osl 2,.osl 3,.val (.int .i64 now),.val (.int .i64 inj),
 .val (.int .i64 (d 0)),.val (.int .i64 (d 1)),.val (.int .i64 (d 2)),.val (.int .i64 (d 3)),.val (.int .i64 (d 4)),.val (.int .i64 (d 5)),.val (.int .i64 (d 6)),.val (.int .i64 (d 7)),.val (.int .i64 (d 8)),.val (.int .i64 (d 9)),.val (.int .i64 (d 10)),.val (.int .i64 (d 11)),.val (.int .i64 (d 12)),.val (.int .i64 (d 13)),.val (.int .i64 (d 14)),.val (.int .i64 (d 15)),.val (.int .i64 (d 16)),.val (.int .i64 (d 17)),.val (.int .i64 (d 18)),.val (.int .i64 (d 19)),.val (.int .i64 (d 20)),.val (.int .i64 (d 21)),.val (.int .i64 (d 22)),.val (.int .i64 (d 23)),.val (.int .i64 (d 24)),.val (.int .i64 (d 25)),.val (.int .i64 (d 26)),.val (.int .i64 (d 27)),.val (.int .i64 (d 28)),.val (.int .i64 (d 29)),.val (.int .i64 (d 30)),.val (.int .i64 (d 31)),.val (.int .i64 (d 32)),.val (.int .i64 (d 33)),.val (.int .i64 (d 34)),.val (.int .i64 (d 35)),.val (.int .i64 (d 36)),.val (.int .i64 (d 37)),.val (.int .i64 (d 38)),.val (.int .i64 (d 39)),.val (.int .i64 (d 40)),.val (.int .i64 (d 41)),.val (.int .i64 (d 42)),.val (.int .i64 (d 43)),.val (.int .i64 (d 44)),.val (.int .i64 (d 45)),.val (.int .i64 (d 46)),.val (.int .i64 (d 47)),.val (.int .i64 (d 48)),.val (.int .i64 (d 49)),.val (.int .i64 (d 50)),.val (.int .i64 (d 51)),.val (.int .i64 (d 52)),.val (.int .i64 (d 53)),.val (.int .i64 (d 54)),.val (.int .i64 (d 55)),.val (.int .i64 (d 56)),.val (.int .i64 (d 57)),.val (.int .i64 (d 58)),.val (.int .i64 (d 59)),.val (.int .i64 (d 60)),.val (.int .i64 (d 61)),.val (.int .i64 (d 62)),.val (.int .i64 (d 63))]
def onceL (up:List Bool) (done:Int) (fw:List Bool):List SV:=[.sl 1 Ab up,.val (.int .u32 done),.val (.int .i32 0),.val (.int .u32 0),.sl 1 Ab fw]
def Kc (n:Net) (up:List Bool) (d:Bool):List SV:=onceL up (if d then 1 else 0) (if d then Of n up else [])
def Dw (n:Net) (m:MacM) (d:Bool):Obs:=[(0,.box (Sg n 1 m.now m.injected m.drops)),(1,.box (Kc n m.up d)),(2,.row 1 Mz m.tables),(3,.row 1 Qw m.queues)]
theorem getI_map (f:Nat→SV):∀ (k a n:Nat),k<n→Hi ((List.range' a n).map f) k=some (f (a+k))
 | 0,a,n+1,_=>rfl
 | k+1,a,n+1,h=>by
  show Hi ((List.range' (a+1) n).map f) k=_
  rw[getI_map f k (a+1) n q_]
  congr 2;omega
theorem Arb (f:Nat→SV) (x:SV):∀ (k a n:Nat),((List.range' a n).map f).set k x=(List.range' a n).map (λ i=>if i=a+k then x else f i)
 | _,_,0=>rfl
 | 0,a,n+1=>by
  show x::(List.range' (a+1) n).map f=(if a=a+0 then x else f a)::(List.range' (a+1) n).map _
  rw[zE q_]
  congr 1
  apply tQ
  intro i hi
  have:=(List.mem_range'_1.1 hi).1
  rw[zD q_]
 | k+1,a,n+1=>by
  show f a::((List.range' (a+1) n).map f).set k x=(if a=a+(k+1) then x else f a)::(List.range' (a+1) n).map _
  rw[zD q_,Arb f x k (a+1) n]
  congr 1
  apply tQ
  intro i _
  rw[show a+1+k=a+(k+1) by omega]
theorem V1 (n:Net) (k:Nat) (now inj:Int) (d:Nat→Int):Sg n k now inj d =
  .sl 5 Au n.devices::.sl 7 A3 n.ports::.sl 3 Bw n.links::.sl 6 Ap n.domains::.sl 4 Az n.statics::.sl 4 Be n.floods::.sl 5 Ca n.vrfs::.sl 5 B3 n.irbs::.ptr k 0::.osl 2::.osl 3::.val (.int .i64 now)::.val (.int .i64 inj) ::
   (List.range' 0 64).map (λ i=>.val (.int .i64 (d i))):=rfl
theorem Awg (n:Net) (k:Nat) (now inj:Int) (d:Nat→Int) (e:Nat) (he:e<64):Hi (Sg n k now inj d) (13+e)=some (.val (.int .i64 (d e))):=by
 rw[V1,uY]
 show Hi ((List.range' 0 64).map (λ i=>SV.val (.int .i64 (d i)))) e=_
 rw[getI_map _ e 0 64 he,wD]
theorem Awf (n:Net) (k:Nat) (now inj:Int) (d:Nat→Int) (e:Nat) (v:Int):(Sg n k now inj d).set (13+e) (.val (.int .i64 v))=Sg n k now inj (λ i=>if i=e then v else d i):=by
 rw[V1,V1,uY]
 have h:=Arb (λ i=>SV.val (.int .i64 (d i))) (.val (.int .i64 v)) e 0 64
 have h2:(λ i=>if i=0+e then SV.val (.int .i64 v) else SV.val (.int .i64 (d i)))=(λ i=>SV.val (.int .i64 (if i=e then v else d i))):=by
  funext i
  rw[wD]
  split<;>rfl
 rw[h2]at h
 rw[← h]
 rfl
theorem add64 (a:Addr) (x y:Int) (w:World) (hc:w.cell? a=some (.int .i64 x)) (hz:w.frozen? a=false):(callFunc 286 #[.pointer (some a),.int .i64 y]).run Tryz.prog w=.ok (.value (.int .i64 (IntKind.i64.wrap (x+y)))) (w.setCell a (.int .i64 (IntKind.i64.wrap (x+y)))) :=
 run_call_add Tryz.func286 z_ z_ z_ .i64 z_ hc hz rfl
theorem As8 (n:Net) (k:Nat) (m:MacM) (e:Int):Sg n k m.now m.injected (C0 m e).drops=(Sg n k m.now m.injected m.drops).set (13+e.toNat) (.val (.int .i64 (m.drops e.toNat+1))):=by
 rw[Awf]
 congr 1
 funext i
 show (if i=e.toNat then m.drops i+1 else m.drops i)=_
 split
 ·rename_i h;rw[h]
 ·rfl
theorem Aqg {x:Int} (h:0≤x∧x≤1000000000000):IntKind.i64.wrap (x+1)=x+1:=by
 rw[IntKind.wrap_i64];omega
theorem Aqt (n:Net) (m:MacM) (d:Bool) (e:Int) (h0:0≤e) (h1:e<64) (hb:IntKind.i64.wrap (m.drops e.toNat+1)=m.drops e.toNat+1) :
  Sq 208 [.ptr 0 (13+e.toNat),Aa 1] (Dw n m d) (Aa (m.drops e.toNat+1)) (Dw n (C0 m e) d):=cT F208 Tryz.ntmps208 λ F hF=>by
 have hg:=Awg n 1 m.now m.injected m.drops e.toNat q_
 have hs:=As8 n 1 m e
 have hlt:=Ab4 hg
 refine fW ?_
 refine Af (Aja add64 E E E E hg hb) E E ?_
 refine fU ?_
 exact done E (.cons .tmp .nil) [] (Dw n (C0 m e) d) (λ _ h=>h) E E ⟨Y,⟨.inl (zG Ob.box hs),E,.inl E,E,.inl E,E,.inl E,E,Y⟩,E,E⟩
theorem Amu (n:Net) (m:MacM) (d:Bool) (e:Int) (h0:0≤e) (h1:e<64) (hb:0≤m.drops e.toNat∧m.drops e.toNat≤1000000000000) :
  Sq 150 [.ptr 0 0,Aa e] (Dw n m d) (.tup []) (Dw n (C0 m e) d):=cT F150 Tryz.ntmps150 λ F hF=>by
 refine fW ?_
 refine⟨h0,by omega,?_⟩
 refine fU ?_
 refine Af (Ad [] E F208 (Aqt n m d e h0 h1 (Aqg hb)) (zG (λ z=>[SV.ptr 0 z,Aa 1]) (show 13+e.toNat=0+13+e.toNat * 1 by omega)) ⟨E,E,E,E,Y⟩ E ⟨.inl E,.inl E,.inl E,.inl E,Y⟩) E E ?_
 refine fU ?_
 exact A1 E .nil [] (Dw n (C0 m e) d) (λ _ h=>h) E E ⟨Y,⟨.inl E,E,.inl E,E,.inl E,E,.inl E,E,Y⟩,E,E⟩
theorem Aq9 (n:Net) (m:MacM) (d:Bool) (dom:Int) :
  Sq 85 [.ptr 0 0,Aa dom] (Dw n m d) (Ab (An dom m.queues.length)) (Dw n m d):=cT F85 Tryz.ntmps85 λ F hF=>by
 have hres:An dom m.queues.length=(decide (0≤dom) && decide (dom<m.queues.length)):=rfl
 generalize An dom m.queues.length=res at *
 refine fW ?_
 constructor<;>intro h
 ·refine fU ?_
  (repeat (first | (refine⟨λ h=>False.elim (by first | (exact yB h j_) | (simp at h;done) | (simp at h;omega)),λ _=>?_⟩;(refine fU ?_)) | (refine⟨λ _=>?_,λ h=>False.elim (by first | (exact yB h j_) | (simp at h;done) | (simp at h;omega))⟩;(refine fU ?_))))
  refine done E (.cons .tmp .nil) [] (Dw n m d) (λ _ h=>h) ?_ E ⟨Y,⟨.inl E,E,.inl E,E,.inl E,E,.inl E,E,Y⟩,E,E⟩
  rw[hres,h]
  rfl
 ·refine fU ?_
  (repeat (first | (refine⟨λ h=>False.elim (by first | (exact yB h j_) | (simp at h;done) | (simp at h;omega)),λ _=>?_⟩;(refine fU ?_)) | (refine⟨λ _=>?_,λ h=>False.elim (by first | (exact yB h j_) | (simp at h;done) | (simp at h;omega))⟩;(refine fU ?_))))
  refine done E (.cons .tmp .nil) [] (Dw n m d) (λ _ h=>h) ?_ E ⟨Y,⟨.inl E,E,.inl E,E,.inl E,E,.inl E,E,Y⟩,E,E⟩
  rw[hres,h]
  rfl
theorem Aqc (f:FrameM) (hb:f.body.length<100000):Sp 215 [Cy f] (Cy f):=cT F215 Tryz.ntmps215 λ F hF=>by
 conv=>whnf
 refine Af (Bv Γ.toTy (d:=7) (n:=f.body.length) Ah 0 E E E E E E E E q_ q_ E E E) E E ?_
 refine oO ?_
 refine Af (Ua Γ.toTy (l:=List.replicate f.body.length 0) (m:=f.body) E E E E E .sl) E E ?_
 refine oO ?_
 refine Ag 7 E ?_
 refine oO ?_
 refine Aq E (.cons (.cell E E E E) .nil) ?_ E
 show SV.agg [_,_,_,.sl 1 Ah f.body]=SV.agg [_,_,_,.sl 1 Ah (f.body.take (List.replicate f.body.length (0:UInt8)).length++(List.replicate f.body.length (0:UInt8)).drop f.body.length)]
 have e:f.body.take (List.replicate f.body.length (0:UInt8)).length++(List.replicate f.body.length (0:UInt8)).drop f.body.length=f.body:=by
  rw[wW,yG,wY y_,xK]
 rw[e]
 rfl
theorem Ajo (q:QueuedM) (hb:q.frame.body.length<100000):Sp 154 [B1 q] (B1 q):=cT F154 Tryz.ntmps154 λ F hF=>by
 have qc:=Aqc q.frame hb
 conv=>whnf
 refine c0 qc F215 ?_
 refine oO ?_
 exact dN
def Tw (l:List QueuedM):Prop:=∀ q∈l,q.frame.body.length<100000
theorem A1a (l:List QueuedM) (hl:l.length<1000000) (hb:Tw l):Sq 153 [.sl 7 B1 l] [] (.osl 0) [(0,.row 7 B1 l)]:=cT F153 Tryz.ntmps153 λ F hF=>by
 conv=>whnf
 refine B9 3 1000 7 B1 E E ?_
 refine A9 l.length (λ j=>[(3,.osl 1000),(6,.sl 7 B1 l),(7,Aa l.length),(8,Aa j)]) (λ j=>[(1000,.row 7 B1 (l.take j))]) [] ⟨⟨E,E,E,E,E,E,E,E,Y⟩,⟨.inl E,E,Y⟩,E,E⟩ ?_
 intro j hj
 refine oO ?_
 constructor<;>intro h
 ·have hlt:j<l.length:=qA h
  have hj0:((j:Nat):Int).toNat<l.length:=by simpa using hlt
  obtain ⟨q,hq⟩:∃ q,l[j]=q:=⟨_,rfl⟩
  have e1:l[((j:Nat):Int).toNat]'hj0=q:=hq
  have hs:l.take (j+1)=l.take j++[q]:=by rw[zW hlt,hq]
  have hqb:=hb q (by rw[← hq];exact zJ hlt)
  have hll:(l.take j).length=j:=by rw[zX];omega
  clear h
  refine oO ?_
  refine⟨E,by omega,hj0,?_⟩
  rw[e1]
  conv=>whnf
  refine c0 (Ajo q hqb) F154 ?_
  refine oO ?_
  refine Af (Ae Γ.toTy 16 E E E E E (.row E) (.lit (e:=B1) (l:=[q]) E E) y_ (by rw[hll];simp;omega) (by rw[hll];simp;omega)) E E ?_
  refine oO ?_
  refine iW ?_
  exact A2 [(1000,16)] hlt ⟨⟨E,E,E,E,E,E,E,E,Y⟩,⟨.inl (zG (Ob.row 7 B1) hs),E,Y⟩,E,E⟩
 ·have hjj:j=l.length:=qB h
  subst hjj
  rw[yG]
  refine oO ?_
  exact done E (.cons .tmp .nil) [(0,1000)] [(0,.row 7 B1 l)] (λ _ h=>h) E E ⟨Y,⟨.inl E,E,Y⟩,E,E⟩
theorem Ak6 (l:List QueuedM) (q:QueuedM) (hl:l.length<1000000) (hb:Tw l) (hqb:q.frame.body.length<100000) :
  Sp 197 [.sl 7 B1 l,B1 q] (.tup [.sl 7 B1 (pushT l q).1,Ab (pushT l q).2]):=cT F197 Tryz.ntmps197 λ F hF=>by
 have hres:=pushT.eq_1 l q
 generalize pushT l q=res at *
 conv=>whnf
 refine Af (Ad [(0,55)] E F153 (A1a l hl hb) E Y E ⟨.inr E,Y⟩) E E ?_
 refine oO ?_
 constructor<;>intro h
 ·rw[zE (qA h)]at hres
  subst hres
  refine oO ?_
  refine Ag 55 E ?_
  exact dN
 ·rw[zD (qB h)]at hres
  subst hres
  refine oO ?_
  refine c0 (Ajo q hqb) F154 ?_
  refine oO ?_
  refine Af (Ae Γ.toTy 17 E E E E E (.row E) (.lit (e:=B1) (l:=[q]) E E) j_ (by simp;omega) (by simp;omega)) E E ?_
  refine Ag 17 E ?_
  refine oO ?_
  exact dN
theorem Adb (l:List QueuedM) (at_:Int) (hl:l.length<1000000) (hb:Tw l) :
  Sp 86 [.sl 7 B1 l,Aa at_] (.tup [B1 (takeT l at_).1,.sl 7 B1 (takeT l at_).2.1,Ab (takeT l at_).2.2]):=cT F86 Tryz.ntmps86 λ F hF=>by
 have hres:=takeT.eq_1 l at_
 generalize takeT l at_=res at *
 conv=>whnf
 constructor<;>intro h
 ·rw[zE (.inl (zK h))]at hres
  subst hres
  refine oT ?_
  refine Af (Ad [(0,55)] E F153 (A1a l hl hb) E Y E ⟨.inr E,Y⟩) E E ?_
  refine Ag 55 E ?_
  refine oO ?_
  refine Ai 4 [Aa 0,Aa 0,Aa 0,Bf 0,Bf 0,Aa 0,.sl 1 Ah []] E vL ?_
  exact dN
 have h0:0≤at_:=qB h
 clear h
 refine oO ?_
 constructor<;>intro h
 ·rw[zE (.inr (zK h))]at hres
  subst hres
  refine oO ?_
  refine Af (Ad [(0,55)] E F153 (A1a l hl hb) E Y E ⟨.inr E,Y⟩) E E ?_
  refine Ag 55 E ?_
  refine oO ?_
  refine Ai 4 [Aa 0,Aa 0,Aa 0,Bf 0,Bf 0,Aa 0,.sl 1 Ah []] E vL ?_
  exact dN
 have h1:at_<l.length:=qB h
 clear h
 have hk:at_.toNat<l.length:=by omega
 have hne:l≠[]:=λ e=>by rw[e]at hk;simp at hk
 have hkk:((at_.toNat:Nat):Int)=at_:=by omega
 rw[zD q_,zO hk,Option.getD_some]at hres
 obtain ⟨q,hq⟩:∃ q,l[at_.toNat]'hk=q:=⟨_,rfl⟩
 rw[hq]at hres
 have hqb:=hb q (by rw[← hq];exact zJ hk)
 refine G_dat 0 90 E hne ?_
 intro B off cap hcap
 refine run Γ hm 3 ?_
 conv=>whnf
 refine Br (Aav 90 (.inl E) E E) z_ E ?_
 refine oD ?_
 refine⟨E,h0,hk,?_⟩
 rw[hq]
 conv=>whnf
 refine cD (Ajo q hqb) F154 ?_
 refine oD ?_
 refine Br (Af1 (hi:=at_.toNat) Γ.toTy E E E E (zG (λ z=>SV.val (.int .i64 z)) hkk.symm) (zG (λ z=>SV.val (.int .i64 z)) hkk.symm) q_) z_ E ?_
 refine Br (Aav 90 (.inl E) E E) z_ E ?_
 refine oD ?_
 refine iW ?_
 refine Br (Dc (lo:=at_.toNat+1) (hi:=l.length) Γ.toTy E E E E (.inr ⟨_,_,E,zG (λ z=>SV.val (.int .i64 z)) q_⟩) (.inl ⟨E,E⟩) q_ (yC _)) z_ E ?_
 have hll:((l.take l.length).drop (at_.toNat+1)).length=l.length-(at_.toNat+1):=by rw[yM,zX];omega
 refine Br (Af5 Γ.toTy 90 E E E E E E (Nat.le_of_lt hk) E (by rw[hll];omega) (by rw[hll];omega)) z_ E ?_
 have he:l.take at_.toNat++(l.take l.length).drop (at_.toNat+1)=l.eraseIdx at_.toNat:=by rw[yG,List.eraseIdx_eq_take_drop_succ]
 have hel:(l.take at_.toNat++(l.take l.length).drop (at_.toNat+1)).length<1000000:=by rw[he,List.length_eraseIdx];split<;>omega
 have heb:Tw (l.take at_.toNat++(l.take l.length).drop (at_.toNat+1)):=by rw[he];exact λ x hx=>hb x (tS hx)
 refine oD ?_
 refine Br (Ad [(0,55)] E F153 (A1a _ hel heb) E Y E ⟨.inr E,Y⟩) z_ E ?_
 refine oD ?_
 refine kW ?_
 refine Ag 55 E ?_
 refine Aq E (.cons (.cell E E E E) (.cons .tmp (.cons .tmp .nil))) ?_ E
 subst hres
 show SV.tup [_,.sl 7 B1 (l.eraseIdx at_.toNat),_]=SV.tup [_,.sl 7 B1 (l.take at_.toNat++(l.take l.length).drop (at_.toNat+1)),_]
 rw[he]
 rfl
def H3 {α:Type} (q:α→Bool) (l:List α):Nat→Nat
 | 0=>0
 | j+1=>match l[j]? with
  | some x=>if q x=true then H3 q l j+1 else H3 q l j
  | none=>H3 q l j
def dfC {α:Type} (q:α→Bool) (l:List α):Nat→List α
 | 0=>l
 | j+1=>match l[j]? with
  | some x=>if q x=true then (dfC q l j).set (H3 q l j) x else dfC q l j
  | none=>dfC q l j
theorem Ab9 {α:Type} (q:α→Bool) (l:List α) (j:Nat):H3 q l j≤j:=by
 induction j with
 | zero=>exact yC _
 | succ j ih =>
  simp only[H3]
  split
  ·split<;>omega
  ·omega
theorem Wd {α:Type} (q:α→Bool) (l:List α) (j:Nat):(dfC q l j).length=l.length:=by
 induction j with
 | zero=>rfl
 | succ j ih =>
  simp only[dfC]
  split
  ·split
   ·rw[yW];exact ih
   ·exact ih
  ·exact ih
theorem Ar6 {α:Type} (q:α→Bool) (l:List α) (j k:Nat) (h:j≤k):(dfC q l j)[k]? = l[k]?:=by
 induction j with
 | zero=>rfl
 | succ j ih =>
  simp only[dfC]
  split
  ·split
   ·rw[List.getElem?_set_ne (by have:=Ab9 q l j;omega)];exact ih q_
   ·exact ih q_
  ·exact ih q_
theorem Amw {α:Type} (q:α→Bool) (l:List α) (j:Nat) (h:j≤l.length):(dfC q l j).take (H3 q l j)=(l.take j).filter q:=by
 induction j with
 | zero=>rfl
 | succ j ih =>
  have hj:j<l.length:=by omega
  have ih:=ih q_
  have hc:=Ab9 q l j
  simp only[dfC,H3,zO hj]
  rw[vD,zO hj,List.filter_append]
  by_cases hq:q l[j]=true
  ·rw[zE hq,zE hq]
   have hlt:H3 q l j<((dfC q l j).set (H3 q l j) l[j]).length:=by rw[yW,Wd];omega
   rw[vD,zO hlt,uI]
   rw[List.take_set_of_le (yC _),ih]
   simp[hq]
  ·rw[zD hq,zD hq,ih]
   simp[hq]
theorem Ahp {α:Type} (q:α→Bool) (l:List α) (i:Nat) (hi:i≤l.length) (h:∀ k (hk:k<l.length),k<i→q l[k]=true):dfC q l i=l∧H3 q l i=i:=by
 induction i with
 | zero=>exact⟨rfl,rfl⟩
 | succ i ih =>
  obtain ⟨h1,h2⟩:=ih q_ (λ k hk hki=>h k hk q_)
  have hil:i<l.length:=by omega
  simp only[dfC,H3,zO hil]
  rw[zE (h i hil q_),zE (h i hil q_),h1,h2]
  exact⟨wN hil,E⟩
theorem Qi {α:Type} (p:α→Bool) (l:List α):(Co p l=-1∧∀ x∈l,p x=false)∨∃ (i:Nat) (hi:i<l.length),Co p l=i∧p l[i]=true∧∀ k (hk:k<l.length),k<i→p l[k]=false:=by
 unfold Co
 cases h:l.findIdx? p with
 | none=>exact .inl ⟨rfl,by simpa using h⟩
 | some i =>
  rw[vO]at h
  obtain ⟨hi,h1,h2⟩:=h
  exact .inr ⟨i,hi,E,h1,λ k hk hki=>by simpa using h2 k hki⟩
theorem Tn (l:List EntryM) (hl:l.length<2147483648):Sq 211 [.sl 3 Bc l] [] (.osl 0) [(0,.row 3 Bc l)]:=cT F211 Tryz.ntmps211 λ F hF=>by
 conv=>whnf
 refine Ds E (.inl E) E E E .sl E E ?_
 intro b hb
 cases b
 ·refine oF ?_
  refine Af (Ae Γ.toTy 7 E E E E E (.lit (e:=Bc) (l:=[]) E E) .sl y_ (by simp;omega) (by simp;omega)) E E ?_
  refine oO ?_
  exact done E (.cons .tmp .nil) [(0,7)] [(0,.row 3 Bc l)] (λ _ h=>h) E E ⟨Y,⟨.inl E,E,Y⟩,E,E⟩
 ·have h0:l=[]:=zU (hb rfl)
  subst h0
  refine oT ?_
  refine B9 2 1000 3 Bc E E ?_
  exact done E (.cons .tmp .nil) [(0,1000)] [(0,.row 3 Bc [])] (λ _ h=>h) E E ⟨Y,⟨.inl E,E,Y⟩,E,E⟩
theorem Od (l:List EntryM) (p:EntryM→Bool) (f:FuncId) (first cap:List SV) (hc:(SV.clo (.func f) first cap).inn []=true) (hf:∀ x∈l,D9 Tryz.prog f (first++[Bc x]++cap) (Ab (p x))) (hl:Ak l) :
  Sp 290 [.sl 3 Bc l,.clo (.func f) first cap] (Aa (Co p l)):=cT F290 Tryz.ntmps290 λ F hF=>by
 unfold Ak at hl
 have hin:∀ x:EntryM,By [] (first++[Bc x]++cap)=true:=λ x=>Cs hc rfl
 conv=>whnf
 refine A5 l.length (λ j=>Hc (λ _ x=>!(p x)) l j) (λ j=>[(0,.sl 3 Bc l),(1,.clo (.func f) first cap),(7,Aa l.length),(8,Aa j)]) (λ _=>[]) [] (Bj _ _) ⟨⟨E,E,A8 _,hc,E,E,E,E,Y⟩,Y,E,E⟩ ?_
 intro j hj hI
 refine oO ?_
 constructor<;>intro h
 ·have h:=zK h
  have hj2:j<l.length:=by omega
  refine oO ?_
  refine⟨E,by omega,by omega,?_⟩
  conv=>whnf
  refine Dj (hf l[j] (zJ hj2)) E E E (by simp only[hin];rfl) E E ?_
  refine oO ?_
  constructor<;>intro h2
  ·refine oO ?_
   refine Aq E (.cons .tmp .nil) (zG Aa ?_) E
   exact Cr hj2 (λ i hi hij=>by simpa using hI i hi hij) h2
  ·refine oO ?_
   refine iW ?_
   exact A4 [] hI hj2 (Bh hI hj2 (by simp[h2])) ⟨⟨E,E,A8 _,hc,E,E,E,E,Y⟩,Y,E,E⟩
 ·have h:=zT h
  refine oO ?_
  refine Aq E (.cons .tmp .nil) (zG Aa ?_) E
  exact C7 (λ i hi=>by simpa using hI i hi q_)
theorem Yh (l:List EntryM) (p:EntryM→Bool) (f:FuncId) (first cap:List SV) (hc:(SV.clo (.func f) first cap).inn []=true) (hc0:(SV.clo (.func f) first cap).inn [0]=true) (hf:∀ x∈l,D9 Tryz.prog f (first++[Bc x]++cap) (Ab (p x))) (hl:Ak l) :
  Sq 213 [.osl 0,.clo (.func f) first cap] [(0,.row 3 Bc l)] (.osl 1) [(0,.non),(1,.row 3 Bc (l.filter λ x=>!(p x)))]:=cT F213 Tryz.ntmps213 λ F hF=>by
 have qi:=Od l p f first cap hc hf hl
 unfold Ak at hl
 have hin:∀ x:EntryM,By [] (first++[Bc x]++cap)=true:=λ x=>Cs hc rfl
 conv=>whnf
 refine Ar7 [0] qi F290 E (.cons (.row E E) (.cons (.refl _) .nil)) (by simp only[By,hc,vZ];rfl) E E ?_
 rcases Qi p l with ⟨h1,h2⟩ | ⟨i,hi,h1,h2,h3⟩
 ·rw[h1]
  have e1:(l.filter λ x=>!(p x))=l:=List.filter_eq_self.2 (λ x hx=>by simp[h2 x hx])
  rw[e1]
  refine oT ?_
  refine Aqy 0 1000 [0,4] E E j_ (by simp;exact⟨E,E⟩) ?_
  exact done E (.cons .tmp .nil) [(0,0),(1,1000)] _ (λ _ h=>h) E E ⟨Y,⟨.inl E,E,.inl E,E,Y⟩,E,E⟩
 obtain ⟨f1,f2⟩:=Ahp (λ x=>!(p x)) l i q_ (λ k hk hki=>by simp[h3 k hk hki])
 have g1:dfC (λ x=>!(p x)) l (i+1+0)=l:=by
  show dfC (λ x=>!(p x)) l (i+1)=l
  simp only[dfC,zO hi]
  rw[zD (by simp[h2]),f1]
 have g2:H3 (λ x=>!(p x)) l (i+1+0)=i:=by
  show H3 (λ x=>!(p x)) l (i+1)=i
  simp only[H3,zO hi]
  rw[zD (by simp[h2]),f2]
 rw[h1]
 refine oF ?_
 refine iW ?_
 refine A9 (l.length-(i+1)) (λ j=>[(0,.osl 0),(1,.clo (.func f) first cap),(5,Aa (H3 (λ x=>!(p x)) l (i+1+j))),(6,Aa ((i+1+j:Nat)))]) (λ j=>[(0,.row 3 Bc (dfC (λ x=>!(p x)) l (i+1+j)))]) []
  ⟨⟨rfl,rfl,A8 _,hc0,zG Aa (zG Int.ofNat g2),rfl,zG (λ z=>SV.val (.int .i64 z)) q_,rfl,trivial⟩,⟨.inl (zG (Ob.row 3 Bc) g1),rfl,trivial⟩,rfl,rfl⟩ ?_
 intro j hj
 have hcl:=Ab9 (λ x=>!(p x)) l (i+1+j)
 have hdl:=Wd (λ x=>!(p x)) l (i+1+j)
 have hget:=Ar6 (λ x=>!(p x)) l (i+1+j) (i+1+j) (yC _)
 have s1:∀ h:i+1+j<l.length,H3 (λ x=>!(p x)) l (i+1+(j+1))=if (!(p l[i+1+j]))=true then H3 (λ x=>!(p x)) l (i+1+j)+1 else H3 (λ x=>!(p x)) l (i+1+j):=λ hlt=>by
  show H3 (λ x=>!(p x)) l (i+1+j+1)=_
  simp only[H3,zO hlt]
 have s2:∀ h:i+1+j<l.length,dfC (λ x=>!(p x)) l (i+1+(j+1))=if (!(p l[i+1+j]))=true then (dfC (λ x=>!(p x)) l (i+1+j)).set (H3 (λ x=>!(p x)) l (i+1+j)) l[i+1+j] else dfC (λ x=>!(p x)) l (i+1+j):=λ hlt=>by
  show dfC (λ x=>!(p x)) l (i+1+j+1)=_
  simp only[dfC,zO hlt]
 have htk:=λ h=>Amw (λ x=>!(p x)) l (i+1+j) h
 obtain ⟨D,hD⟩:∃ D,dfC (λ x=>!(p x)) l (i+1+j)=D:=⟨_,rfl⟩
 obtain ⟨K,hK⟩:∃ K,H3 (λ x=>!(p x)) l (i+1+j)=K:=⟨_,rfl⟩
 rw[hD]at hdl hget s2 htk ⊢
 rw[hK]at hcl s1 s2 htk ⊢
 refine oO ?_
 constructor<;>intro h
 ·have hlt:i+1+j<l.length:=qA h
  have hfx:=hf l[i+1+j] (zJ hlt)
  have s1:=s1 hlt
  have s2:=s2 hlt
  rw[zO hlt,zO q_]at hget
  have hget:=Option.some.inj hget
  obtain ⟨x,hx⟩:∃ x,l[i+1+j]=x:=⟨_,rfl⟩
  rw[hx]at hfx s1 s2 hget
  refine oO ?_
  refine⟨by omega,by simp;omega,?_⟩
  conv=>whnf
  refine⟨E,by omega,?_⟩
  rw[show D[((i+1+j:Nat):Int).toNat]'q_=x from hget]
  conv=>whnf
  refine Dj hfx E E E (by simp only[hin];rfl) E E ?_
  cases hpx:p x
  ·rw[hpx]at s1 s2
   refine oT ?_
   refine⟨by omega,by simp;omega,?_⟩
   conv=>whnf
   refine⟨E,by omega,x,E,E,?_⟩
   conv=>whnf
   refine iW ?_
   refine iW ?_
   exact A2 [] q_ ⟨⟨E,E,A8 _,hc0,zG Aa (zG Int.ofNat s1),E,zG (λ z=>SV.val (.int .i64 z)) q_,E,Y⟩,⟨.inl (zG (Ob.row 3 Bc) s2),E,Y⟩,E,E⟩
  ·rw[hpx]at s1 s2
   refine oF ?_
   refine iW ?_
   exact A2 [] q_ ⟨⟨E,E,A8 _,hc0,zG Aa (zG Int.ofNat s1),E,zG (λ z=>SV.val (.int .i64 z)) q_,E,Y⟩,⟨.inl (zG (Ob.row 3 Bc) s2),E,Y⟩,E,E⟩
 ·have hend:i+1+j=l.length:=qB h
  have hne:D≠[]:=λ h=>by rw[h]at hdl;simp at hdl;omega
  have htk:=htk q_
  rw[show l.take (i+1+j)=l from xC q_]at htk
  refine Anl 0 [0] E hne (by simp;rfl) ?_
  intro b cap' hcap
  refine oO ?_
  refine Af (C4 Γ.toTy E E E E (.inr ⟨_,_,E,E⟩) (.inl ⟨E,E⟩) q_ q_) E E ?_
  refine oO ?_
  refine Af (Lu Γ.toTy 0 (k:=K) E E E E j_ E E E q_ q_) E E ?_
  refine oO ?_
  refine Af (C4 Γ.toTy E E E E (.inl ⟨E,E⟩) (.inr ⟨_,_,E,E⟩) q_ q_) E E ?_
  refine oO ?_
  refine Yw 0 1000 [4] K E E (by rw[zX];omega) (λ i hi=>?_) ?_
  ·rw[yD]at hi
   subst hi
   show SV.val (.slice (some (if cap'=0 then ⟨b,0,none⟩ else ⟨b,0 * 3,none⟩)) (K-0) (cap'-0))=_
   split<;>simp
  refine done E (.cons .tmp .nil) [(0,0),(1,1000)] _ (λ _ h=>h) E E ⟨Y,⟨.inl E,E,.inl ?_,E,Y⟩,E,E⟩
  rw[← htk]
  exact zG (Ob.row 3 Bc) (by rw[List.take_take,Nat.min_self])
theorem Af7 (l:List EntryM) (i:Nat) (hi:i<l.length) (_hl:Ak l) :
  Sq 333 [.osl 0,Aa i,Aa ((i+1:Nat):Int)] [(0,.row 3 Bc l)] (.osl 1) [(0,.non),(1,.row 3 Bc (l.take i++l.drop (i+1)))]:=cT F333 Tryz.ntmps333 λ F hF=>by
 have hne:l≠[]:=λ h=>by rw[h]at hi;simp at hi
 refine fW ?_
 refine Anl 0 [0,8] E hne (by simp;exact⟨E,E⟩) ?_
 intro b cap hcap
 refine fU ?_
 refine Af (Af0 Γ.toTy E E E E E E E q_ q_ hcap) E E ?_
 refine fU ?_
 refine⟨λ h=>yB h (by simp;omega),λ _=>?_⟩
 refine fU ?_
 refine Br (C4 Γ.toTy E E E E (.inl ⟨E,E⟩) (.inr ⟨_,_,E,E⟩) q_ q_) z_ E ?_
 refine fU ?_
 refine Br (C4 (hi:=l.length) Γ.toTy E E E E (.inr ⟨_,_,E,E⟩) (.inl ⟨E,E⟩) q_ q_) z_ E ?_
 refine fU ?_
 have hif:(if cap=0 then (⟨b,0,none⟩:Addr) else ⟨b,0 * 3,none⟩)=⟨b,0,none⟩:=by split<;>simp
 refine Br (Abv Γ.toTy 0 (n:=l.length) (i:=i) (j:=i+1) E E E (zG (λ z=>SV.val (.slice (some z) i cap)) hif) E E E E q_ q_) z_ E ?_
 refine fU ?_
 refine⟨z_,?_⟩
 refine fW ?_
 refine Af (C4 (lo:=i+(l.length-(i+1))) (hi:=l.length) Γ.toTy E E E E (.inr ⟨_,_,E,E⟩) (.inr ⟨_,_,E,E⟩) q_ q_) E E ?_
 refine fU ?_
 have hll:(l.take i++l.drop (i+1)).length=i+(l.length-(i+1)):=by rw[yE,zX,yM];omega
 refine Af (Lu Γ.toTy 0 (k:=i+(l.length-(i+1))) E E E E j_ E E E q_ q_) E E ?_
 refine fU ?_
 refine Yw 0 1000 [6] (i+(l.length-(i+1))) E E (by rw[zX];omega) (by simp;rfl) ?_
 refine done E (.cons .tmp .nil) [(0,0),(1,1000)] _ (λ _ h=>h) E E ⟨Y,⟨.inl E,E,.inl ?_,E,Y⟩,E,E⟩
 exact zG (Ob.row 3 Bc) (by rw[List.take_take,Nat.min_self];exact(xC q_).symm)
theorem Z4 (m:Nat) (h:m<18446744073709551616):Sp 274 [Bf m] (Ab (J7 m)):=cT F274 Tryz.ntmps274 λ F hF=>by
 have q:=Lo m h
 refine fW ?_
 constructor<;>intro h1
 ·have h2:m≤281474976710655:=by simp at h1;omega
  refine fU ?_
  refine c0 q F195 ?_
  refine fU ?_
  exact Aq E (.cons .tmp .nil) (zG Ab (by rw[J7,zR h2,zZ])) E
 ·have h2:¬ m≤281474976710655:=by simp at h1;omega
  refine fU ?_
  exact Aq E (.cons .tmp .nil) (zG Ab (by rw[J7,zI h2,yA])) E
theorem Vz (i:Int):Sp 212 [Aa i] (Ab (I6 i)):=cT F212 Tryz.ntmps212 λ F hF=>by
 conv=>whnf
 (repeat' (first | (refine⟨λ h=>?_,λ h=>?_⟩<;>(repeat (first | simp only[zQ]at h | simp only[zY]at h))<;>((refine oO ?_))) | (refine Aq rfl (.cons .tmp .nil) ?_ rfl)))
 all_goals (refine zG Ab ?_)
 all_goals grind [I6]
theorem Ass (m:Nat) (e:EntryM):Sp 331 [Bc e,.ref 1 (Bf m) 0] (Ab (decide (e.mac=m))):=cT F331 Tryz.ntmps331 λ F hF=>by
 conv=>whnf
 refine Aq E (.cons .tmp .nil) ?_ E
 refine zG Ab ?_
 rw[wA];simp;omega
theorem Za (t:List EntryM) (m:Nat) (hl:Ak t):Sp 275 [.sl 3 Bc t,Bf m] (Aa (Hu t m)):=cT F275 Tryz.ntmps275 λ F hF=>by
 have q:=Od t (λ e=>decide (e.mac=m)) 331 [] [.ref 1 (Bf m) 0] rfl (λ x _=>⟨⟨_,_,F331⟩,Ass m x⟩) hl
 conv=>whnf
 refine A7 3 1 (Bf m) E E E ?_
 refine oO ?_
 refine c0 q F290 ?_
 refine oO ?_
 exact dN
theorem Av1 (t:List EntryM) (m:Nat) (hl:Ak t):Sp 344 [.sl 3 Bc t,Bf m] (.tup [Aa (findE t m).1,Ab (findE t m).2]):=cT F344 Tryz.ntmps344 λ F hF=>by
 have q:=Za t m hl
 have hlt:Hu t m<t.length:=Hk _ _
 have hres:=findE.eq_1 t m
 generalize findE t m=res at *
 generalize Hu t m=i at *
 conv=>whnf
 refine c0 q F275 ?_
 refine oO ?_
 constructor<;>intro h
 ·rw[zE (by simpa using h)]at hres
  subst hres
  refine oO ?_
  exact dN
 ·have h0:¬ i<0:=by simpa using h
  have hi:i.toNat<t.length:=by omega
  rw[zD h0,zO hi]at hres
  subst hres
  refine oO ?_
  refine⟨E,by omega,by omega,?_⟩
  conv=>whnf
  exact dN
theorem Y9 (t:List EntryM) (hl:Ak t) (hmac:∀ e∈t,e.mac<18446744073709551616):Sp 199 [.sl 3 Bc t] (Ab (tableB t)):=cT F199 Tryz.ntmps199 λ F hF=>by
 unfold Ak at hl
 have hres:=tableB.eq_1 t
 generalize tableB t=res at *
 conv=>whnf
 constructor<;>intro h
 ·have h8:¬ t.length≤8:=by simp at h;omega
  rw[zI h8,yA]at hres
  subst hres
  refine oO ?_
  exact dN
 have h8:t.length≤8:=by simp at h;omega
 rw[zR h8,zZ]at hres
 refine oO ?_
 refine A5 t.length (λ j=>Hc (Zv t) t j) (λ j=>[(0,.sl 3 Bc t),(8,.sl 3 Bc t),(9,Aa t.length),(10,Aa j)]) (λ _=>[]) [] (Bj _ _) ⟨⟨E,E,E,E,E,E,E,E,Y⟩,Y,E,E⟩ ?_
 intro j hj hI
 refine oO ?_
 constructor<;>intro h
 ·have hlt:j<t.length:=qA h
  have q1:=Z4 t[j].mac (hmac _ (zJ hlt))
  have q2:=Vz t[j].seen
  have q3:=Za t t[j].mac hl
  have hent:Zv t j t[j]=(J7 t[j].mac && I6 t[j].seen && decide (Hu t t[j].mac=j)):=rfl
  have hbad:Zv t j t[j]=false→res=false:=λ hf=>by rw[hres];exact C1 hlt hf
  have hgood:Zv t j t[j]=true→Hc (Zv t) t (j+1):=λ ht=>Bh hI hlt ht
  refine oO ?_
  refine⟨E,by omega,by omega,?_⟩
  rw[show t[((j:Nat):Int).toNat]'q_=t[j] from rfl]
  generalize t[j]=x at *
  conv=>whnf
  refine c0 q1 F274 ?_
  cases h1:J7 x.mac
  ·rw[hbad (by rw[hent,h1];rfl)]
   (refine oT ?_;refine bT ?_;refine bT ?_)
   exact dN
  refine oF ?_
  refine c0 q2 F212 ?_
  cases h2:I6 x.seen
  ·rw[hbad (by rw[hent,h1,h2];rfl)]
   (refine oT ?_;refine bT ?_)
   exact dN
  refine oF ?_
  refine c0 q3 F275 ?_
  refine oO ?_
  constructor<;>intro h3
  ·rw[hbad (by rw[hent,h1,h2,zI (by simpa using h3)];rfl)]
   refine oO ?_
   exact dN
  ·have h4:=hgood (by rw[hent,h1,h2,zR (by simpa using h3)];rfl)
   refine oO ?_
   refine iW ?_
   exact A4 [] hI q_ h4 ⟨⟨E,E,E,E,E,E,E,E,Y⟩,Y,E,E⟩
 ·have hend:j=t.length:=qB h
  subst hend
  rw[hres.trans (Er hI (yC _))]
  refine oO ?_
  exact dN
theorem Az0 (now:Int) (hn:I6 now=true) (e:EntryM):Sp 214 [Bc e,.ref 1 (Aa now) 0] (Ab (decide (e.seen<now-4))):=cT F214 Tryz.ntmps214 λ F hF=>by
 have hn2:0≤now∧now≤1099511627776:=by simpa [I6] using hn
 conv=>whnf
 refine iW ?_
 exact dN
theorem Azz (t:List EntryM) (now:Int) (hl:Ak t) (hmac:∀ e∈t,e.mac<18446744073709551616):Sp 152 [.sl 3 Bc t,Aa now] (.sl 3 Bc (ageT t now)):=cT F152 Tryz.ntmps152 λ F hF=>by
 have hl2:=hl
 unfold Ak at hl2
 have hres:=ageT.eq_1 t now
 generalize ageT t now=res at *
 have q1:=Y9 t hl hmac
 have q2:=Vz now
 conv=>whnf
 refine Af (Ad [(0,55)] E F211 (Tn t hl2) E Y E ⟨.inr E,Y⟩) E E ?_
 refine oO ?_
 refine c0 q1 F199 ?_
 cases h1:tableB t
 ·rw[zE (.inl h1)]at hres
  subst hres
  (refine oT ?_;refine bT ?_)
  refine Ag 55 E ?_
  exact dN
 refine oF ?_
 refine c0 q2 F212 ?_
 cases h2:I6 now
 ·rw[zE (.inr h2)]at hres
  subst hres
  refine oT ?_
  refine Ag 55 E ?_
  exact dN
 rw[zD (by simp[h1,h2])]at hres
 refine oF ?_
 refine A7 3 1 (Aa now) E E E ?_
 refine oO ?_
 have q3:=Yh t (λ e=>decide (e.seen<now-4)) 214 [] [.ref 1 (Aa now) 0] rfl rfl (λ x _=>⟨⟨_,_,F214⟩,Az0 now h2 x⟩) hl
 refine Af (Ad [(0,55),(1,56)] E F213 q3 E ⟨E,Y⟩ E ⟨.inl E,.inr E,Y⟩) E E ?_
 refine oO ?_
 refine Ag 56 E ?_
 refine Aq E (.cons .tmp .nil) ?_ E
 subst hres
 refine zG (SV.sl 3 Bc) (List.filter_congr λ e _=>?_)
 rw[wA];simp
theorem Adj (t:List EntryM) (j:Nat) (h:0<t.length) (hj:j≤t.length):oldestU t j<t.length:=by
 induction j with
 | zero=>exact h
 | succ j ih =>
  rw[oldestU]
  split
  ·omega
  ·exact ih q_
theorem Anr (t:List EntryM) (hl:Ak t) (h0:0<t.length):Sp 332 [.sl 3 Bc t] (Aa (oldestU t t.length:Nat)):=cT F332 Tryz.ntmps332 λ F hF=>by
 unfold Ak at hl
 conv=>whnf
 refine A9 t.length (λ j=>[(0,.sl 3 Bc t),(3,Aa (oldestU t j:Nat)),(6,.sl 3 Bc t),(7,Aa t.length),(8,Aa j)]) (λ _=>[]) [] ⟨⟨E,E,E,E,E,E,E,E,E,E,Y⟩,Y,E,E⟩ ?_
 intro j hj
 refine oO ?_
 constructor<;>intro h
 ·have hlt:j<t.length:=qA h
  have hol:=Adj t j h0 q_
  have hs:=oldestU.eq_2 t j
  rw[zO hlt,zO hol]at hs
  obtain ⟨o,ho⟩:∃ o,oldestU t j=o:=⟨_,rfl⟩
  simp only[ho]at hs hol ⊢
  have hs2:oldestU t (j+1)=if t[j].seen<t[o].seen then j else o:=hs
  refine oO ?_
  refine⟨E,by omega,by omega,?_⟩
  rw[show t[((j:Nat):Int).toNat]'q_=t[j] from rfl]
  conv=>whnf
  refine⟨E,by omega,by omega,?_⟩
  rw[show t[((o:Nat):Int).toNat]'q_=t[o] from rfl]
  conv=>whnf
  refine kW ?_
  constructor<;>intro h2
  ·rw[zE (zK h2)]at hs2
   refine oO ?_
   refine iW ?_
   exact A2 [] q_ ⟨⟨E,E,zG (λ z:Nat=>Aa z) hs2,E,E,E,E,E,E,E,Y⟩,Y,E,E⟩
  ·rw[zD (zT h2)]at hs2
   refine oO ?_
   refine iW ?_
   exact A2 [] q_ ⟨⟨E,E,zG (λ z:Nat=>Aa z) hs2,E,E,E,E,E,E,E,Y⟩,Y,E,E⟩
 ·have:j=t.length:=qB h
  subst this
  refine oO ?_
  exact dN
theorem Agh (t:List EntryM) (m:Nat) (wh now:Int) (hl:Ak t) (hmac:∀ e∈t,e.mac<18446744073709551616) (hm64:m<18446744073709551616) :
  Sp 276 [.sl 3 Bc t,Bf m,Aa wh,Aa now] (.sl 3 Bc (learnT t m wh now)):=cT F276 Tryz.ntmps276 λ F hF=>by
 have hl2:=hl
 unfold Ak at hl2
 have hres:=learnT.eq_1 t m wh now
 generalize learnT t m wh now=res at *
 have q1:=Y9 t hl hmac
 have q2:=Z4 m hm64
 have q3:=Vz now
 have q4:=Za t m hl
 conv=>whnf
 refine Af (Ad [(0,55)] E F211 (Tn t hl2) E Y E ⟨.inr E,Y⟩) E E ?_
 refine oO ?_
 refine c0 q1 F199 ?_
 cases h1:tableB t
 ·rw[zE (.inl h1)]at hres
  subst hres
  (refine oT ?_;refine bT ?_;refine bT ?_)
  refine Ag 55 E ?_
  exact dN
 refine oF ?_
 refine c0 q2 F274 ?_
 cases h2:J7 m
 ·rw[zE (.inr (.inl h2))]at hres
  subst hres
  (refine oT ?_;refine bT ?_)
  refine Ag 55 E ?_
  exact dN
 refine oF ?_
 refine c0 q3 F212 ?_
 cases h3:I6 now
 ·rw[zE (.inr (.inr h3))]at hres
  subst hres
  refine oT ?_
  refine Ag 55 E ?_
  exact dN
 rw[zD (by simp[h1,h2,h3])]at hres
 have ht8:t.length≤8:=by simp only[tableB,zH,zQ]at h1;exact h1.1
 have hfound:∀ hi:0≤Hu t m,∃ h:(Hu t m).toNat<t.length,t[(Hu t m).toNat].mac=m:=λ hi=>by
  rcases Qi (λ e=>decide (EntryM.mac e=m)) t with ⟨h,_⟩ | ⟨k,hk,h,h2,_⟩
  ·rw[Hu,h]at hi
   exact yB hi j_
  ·have e1:Hu t m=k:=h
   simp only[e1,yL]
   exact⟨hk,zK h2⟩
 generalize Hu t m=i at *
 refine oF ?_
 refine c0 q4 F275 ?_
 refine oO ?_
 constructor<;>intro h4
 ·have h5:0≤i:=by simpa using h4
  obtain ⟨hi,hmm⟩:=hfound h5
  rw[zE h5]at hres
  refine oO ?_
  have hne:t≠[]:=λ h=>by rw[h]at hi;simp at hi
  refine⟨h5,by omega,?_⟩
  conv=>whnf
  refine⟨hne,?_⟩
  conv=>whnf
  refine⟨E,hi,⟨t[i.toNat].mac,wh,t[i.toNat].seen⟩,E,E,?_⟩
  conv=>whnf
  refine⟨h5,by simp;omega,?_⟩
  conv=>whnf
  refine⟨by simp;exact hne,?_⟩
  conv=>whnf
  refine⟨E,by simp;omega,⟨t[i.toNat].mac,wh,now⟩,by rw[uI];rfl,by rw[uI];rfl,?_⟩
  conv=>whnf
  refine Ag 55 E ?_
  refine oO ?_
  refine Aq E (.cons .tmp .nil) (zG (SV.sl 3 Bc) ?_) E
  rw[hres,List.set_set,hmm]
 ·have h5:¬ 0≤i:=by simp at h4 ⊢;omega
  rw[zD h5]at hres
  refine oO ?_
  constructor<;>intro h6
  ·have h7:t.length=8:=by simp at h6;omega
   rw[zE h7]at hres
   have q5:=Anr t hl q_
   have hol:=Adj t t.length q_ (yC _)
   refine oO ?_
   refine Ar7 [55] q5 F332 E (.cons (.row E E) .nil) E E E ?_
   generalize oldestU t t.length=o at *
   have q6:=Af7 t o hol hl
   refine oO ?_
   refine iW ?_
   refine Af (Ad [(0,55),(1,56)] E F333 q6 E ⟨E,Y⟩ E ⟨.inl E,.inr E,Y⟩) E E ?_
   refine oO ?_
   refine Af (Ae Γ.toTy 60 rfl rfl rfl rfl rfl (.row rfl) (.lit (e:=Bc) (l:=[⟨m,wh,now⟩]) rfl rfl) (λ j hj=>by cases hj;decide) (by simp;omega) (by simp;omega)) rfl rfl ?_
   refine Ag 60 E ?_
   refine oO ?_
   refine Aq E (.cons .tmp .nil) (zG (SV.sl 3 Bc) ?_) E
   rw[hres,List.eraseIdx_eq_take_drop_succ]
  ·have h7:¬ t.length=8:=by simp at h6;omega
   rw[zD h7]at hres
   refine oO ?_
   refine Af (Ae Γ.toTy 60 rfl rfl rfl rfl rfl (.row rfl) (.lit (e:=Bc) (l:=[⟨m,wh,now⟩]) rfl rfl) (λ j hj=>by cases hj;decide) (by simp;omega) (by simp;omega)) rfl rfl ?_
   refine Ag 60 E ?_
   refine oO ?_
   exact Aq E (.cons .tmp .nil) (zG (SV.sl 3 Bc) hres) E
end Go.Sy.YtiijbikecbjdaaaGreatDoor
