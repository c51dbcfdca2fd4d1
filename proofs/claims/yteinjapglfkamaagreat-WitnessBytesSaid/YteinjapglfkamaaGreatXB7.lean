/-
  T16 T17 T14 T19 T21 Z0 Z1 K35 K36 K37 K38 K39 K40 Z2 Sy36 Sy37 Sy38 Z3 Z4 K41 K42 K8 K9 K10 K11 K15 K16 K17 K18: parts of a proof, joined by program.
-/
import Derived.Test.YteinjapglfkamaaGreatXB6
import Derived.Test.YteinjapglfkamaaGreatXB5
import Derived.Laws.LoneSync
import Derived.Test.YteinjapglfkamaaGreatXB3
namespace Go.Sy.YteinjapglfkamaaGreat
def atI (l:List Int) (e:Int):Int:=if e<0 then -1 else nth l e
theorem It {l:List Int} {e:Int} (h:0≤e):atI l e=nth l e:=by rw[atI,if_neg qn]
theorem Ag3 {l:List Int} {d v:Int} (h0:0≤d) (h1:d<l.length) (e:Int):atI (l.set d.toNat v) e=if e=d then v else atI l e:=by
 by_cases he:e<0
 ·rw[atI,if_pos he,if_neg qn,atI,if_pos he]
 ·rw[atI,if_neg he,atI,if_neg he,nth,nth,List.getElem?_set]
  by_cases hd:e=d
  ·subst hd
   rw[if_pos rfl,if_pos rfl,if_pos qn]
   rfl
  ·rw[if_neg qn,if_neg hd]
structure DijS (n:Net) (up:List Bool) (ranks:List Int) (s:List Item × List Int × List Int):Prop where
 inv:ReachInv n s
 dij:Dij n up (atI ranks) s.1 (atI s.2.1) (atI s.2.2)
 bound:∀ c∈s.2.2,0≤c∧c≤1000000
theorem Aen (n:Net) (up:List Bool) (ranks:List Int) (hr:Ac n=true) (hcost:Cy n=true) (s:List Item × List Int × List Int) (hI:DijS n up ranks s) (hne:s.1≠[]):DijS n up ranks (Kl n up s):=by
 have hf:=Dq hr
 have h1:=(Ie n up hr hcost s hI.inv hne).1
 have hrest:=Akv s.1 hne
 have hheap:=Akw s.1 hne hI.dij.heap
 have hleast:=Aia s.1 hI.dij.heap
 have hx:=hI.inv.items _ (hrest.mem_iff.1 (List.mem_cons_self ..))
 have hrl:=hI.inv.rootsL
 have hcl:=hI.inv.costsL
 have hd:=hI.dij
 have hb:=hI.bound
 rw[Kl,We hne,Abx s.1 hne]at *
 generalize s.1.getD 0 default=x at *
 try simp only at *
 have ea:nth s.2.1 x.dev=atI s.2.1 x.dev:=(It hx.1).symm
 rw[ea];rw[ea]at h1
 split
 ·rename_i hc
  rw[if_pos hc]at h1
  exact⟨h1,Al7 hd hrest hheap hc,hb⟩
 ·rename_i hc
  rw[if_neg hc]at h1
  refine⟨h1,Al6 hr hcost hd hrest hheap hleast qn hx.2.2.1 ⟨hx.1,hx.2.1⟩ (Ag3 hx.1 qn) (Ag3 hx.1 qn),fun c hc=>?_⟩
  rcases List.mem_or_eq_of_mem_set hc with h | h
  ·exact hb c h
  ·omega
theorem V4 (n:Net) (up:List Bool) (ranks:List Int) (hr:Ac n=true) (hcost:Cy n=true):∀ (f:Nat) (s:List Item × List Int × List Int),DijS n up ranks s→reachM s≤f→DijS n up ranks (D8 n up f s)∧(D8 n up f s).1=[]
 | 0,s,h,hf=>⟨h,List.eq_nil_of_length_eq_zero (by unfold reachM at hf;rw[D8];omega)⟩
 | f+1,s,h,hf=>by
  rw[D8]
  split
  ·rename_i he;exact⟨h,he⟩
  ·rename_i hne
   exact V4 n up ranks hr hcost f _ (Aen n up ranks hr hcost s h hne) (by have:=(Ie n up hr hcost s h.inv hne).2;omega)
structure Solved (n:Net) (up:List Bool) (ranks roots costs:List Int):Prop where
 rootsL:roots.length=n.devices.length
 costsL:costs.length=n.devices.length
 bound:∀ c∈costs,0≤c∧c≤1000000
 root:∀ d:Int,0≤d→d<n.devices.length→0≤nth roots d
 self:∀ d:Int,0≤d→d<n.devices.length→Le2 (nth roots d) (nth costs d) (nth ranks d) 0
 tri:∀ i j:Nat,Ya n up i j→Le2 (nth roots (Dx n i)) (nth costs (Dx n i)) (nth roots (Dx n j)) (nth costs (Dx n j)+Qy n i)
 der:∀ d:Int,0≤d→d<n.devices.length→(nth roots d=nth ranks d∧nth costs d=0)∨∃ i j:Nat,Ya n up i j∧Dx n i=d∧nth roots d=nth roots (Dx n j)∧nth costs d=nth costs (Dx n j)+Qy n i
theorem Ahm (n:Net) (up:List Bool) (ranks:List Int) (hr:Ac n=true) (s:List Item × List Int × List Int) (h:DijS n up ranks s) (he:s.1=[]):Solved n up ranks s.2.1 s.2.2:=by
 have hd:=h.dij
 rw[he]at hd
 have h0:∀ d:Int,0≤d→d<n.devices.length→0≤atI s.2.1 d:=fun d h1 h2=>by
  by_cases hc:0≤atI s.2.1 d
  ·exact hc
  ·have:=hd.own d h1 h2 qn
   simp at this
 refine⟨h.inv.rootsL,h.inv.costsL,h.bound,fun d h1 h2=>?_,fun d h1 h2=>?_,fun i j hij=>?_,fun d h1 h2=>?_⟩
 ·have:=h0 d h1 h2
  rwa [It h1]at this
 ·have:=hd.self d h1 h2 (h0 d h1 h2)
  simpa only [It h1] using this
 ·have hi:=Ml hr hij.1
  have hj:=Ml hr (L0 hr hij)
  have:=hd.tri i j hij (h0 _ hi.1 hi.2) (h0 _ hj.1 hj.2)
  simpa only [It hi.1,It hj.1] using this
 ·rcases hd.done d h1 h2 (h0 d h1 h2) with h3 | ⟨i,j,h3,h4,_,h5,h6⟩
  ·simp only[It h1]at h3
   exact .inl h3
  ·have hj:=Ml hr (L0 hr h3)
   simp only[It h1,It hj.1]at h5 h6
   exact .inr ⟨i,j,h3,h4,h5,h6⟩
theorem Tg (ranks:List Int) (y:Item):∀ j,y∈Dh ranks j↔∃ i,i<j∧y=⟨ranks.getD i 0,0,i⟩
 | 0=>by simp[Dh]
 | j+1=>by
  rw[Hh,(Kn _ _).mem_iff,List.mem_cons,Tg ranks y j]
  constructor
  ·rintro (h | ⟨i,h1,h2⟩)
   ·exact⟨j,by omega,h⟩
   ·exact⟨i,by omega,h2⟩
  ·rintro ⟨i,h1,h2⟩
   by_cases h:i=j
   ·subst h;exact .inl h2
   ·exact .inr ⟨i,by omega,h2⟩
theorem Vo (ranks:List Int):∀ j,Iu (Dh ranks j) (Dh ranks j).length
 | 0=>fun c _ h2 _=>by simp[Dh]at h2
 | j+1=>by
  rw[Hh]
  exact V6 _ _ (Vo ranks j)
theorem Xw {v:Int} {m:Nat} {d:Int} (h1:d<m) (h0:0≤d):nth (List.replicate m v) d=v:=by
 rw[Ai (by simp;omega)];simp
theorem Ahk (n:Net) (up:List Bool) (ranks:List Int) (hr:Ac n=true) (hrk:ranks.length=n.devices.length) (hrr:∀ r∈ranks,0≤r) :
  DijS n up ranks (Dh ranks ranks.length,List.replicate n.devices.length (-1),List.replicate n.devices.length 0):=by
 have hneg:∀ d:Int,0≤d→d<n.devices.length→atI (List.replicate n.devices.length (-1)) d=-1:=fun d h0 h1=>by rw[It h0,Xw h1 h0]
 refine⟨Yg n ranks _ _ hr hrk qy qy hrr,⟨Vo ranks _,fun x hx=>?_,fun d h0 h1 h2=>?_,fun d h0 h1 h2=>?_,fun i j hij h1 h2=>?_,fun d h0 h1 h2=>?_,fun d h0 h1 h2=>?_,fun i j hij h1 h2=>?_⟩,fun c hc=>?_⟩
 ·obtain ⟨i,h1,rfl⟩:=(Tg ranks x _).1 hx
  refine .inl ⟨?_,E⟩
  simp only
  rw[It qn,Ai (by simpa using h1),A3 h1]
  rfl
 ·rw[hneg d h0 h1]at h2;omega
 ·refine(Tg ranks _ _).2 ⟨d.toNat,by omega,?_⟩
  rw[It h0,Ai qn,A3 qn,Int.toNat_of_nonneg h0]
 ·have hj:=Ml hr (L0 hr hij)
  rw[hneg _ hj.1 hj.2]at h2;omega
 ·rw[hneg d h0 h1]at h2;omega
 ·rw[hneg d h0 h1]at h2;omega
 ·have hj:=Ml hr (L0 hr hij)
  rw[hneg _ hj.1 hj.2]at h2;omega
 ·have:=List.eq_of_mem_replicate hc
  omega
def Ln (n:Net) (up:List Bool) (ranks:List Int):List Item × List Int × List Int:=Hr n up (Dh ranks ranks.length,List.replicate n.devices.length (-1),List.replicate n.devices.length 0)
theorem Xs (n:Net) (up:List Bool) (ranks:List Int) (hr:Ac n=true) (hcost:Cy n=true) (hrk:ranks.length=n.devices.length) (hrr:∀ r∈ranks,0≤r):Solved n up ranks (Ln n up ranks).2.1 (Ln n up ranks).2.2:=by
 obtain ⟨h1,h2⟩:=V4 n up ranks hr hcost _ _ (Ahk n up ranks hr hrk hrr) (Nat.le_refl _)
 exact Ahm n up ranks hr _ h1 h2
end Go.Sy.YteinjapglfkamaaGreat
namespace Go.Sy.YteinjapglfkamaaGreat
section
variable {n:Net} {up:List Bool} {ranks roots costs:List Int}
def rolesL (n:Net) (up:List Bool) (ranks roots costs:List Int):List Int:=I9 n up ranks roots costs n.devices.length
def Alz (roles:List Int) (l:Link):Bool:=inB [nth roles l.a,nth roles l.b] 1 && inB [nth roles l.a,nth roles l.b] 2
def fwdL (n:Net) (roles:List Int):List Bool:=n.links.map (Alz roles)
end
end Go.Sy.YteinjapglfkamaaGreat
namespace Go.Sy.YteinjapglfkamaaGreat
open Go.Proofs
theorem G_lit {C:Cx} {k:List KI} {s:SS} (d:Nat) {sz:Nat} {α:Type} (e:α→SV) (l:List α) {svs:List SV} (h:s.h d=.lit sz svs) (hl:l.map e=svs) (hg:G C k ⟨s.σ,upd s.h d (.row sz e l)⟩):G C k s:=fun κ a w hs=>by
 refine hg κ a w ⟨hs.defers,hs.size,hs.inv,hs.ctx,hs.slot,fun j=>?_⟩
 show ObOK κ w j (upd s.h d (.row sz e l) j)
 by_cases hj:j=d
 ·subst hj
  rw[Bc]
  have hob:=hs.obj j
  rw[h]at hob
  have hlen:l.length=svs.length:=by rw[← hl,List.length_map]
  obtain ⟨b,cap,cs,T,fr,e1,e2,e3,e4,e5,e6⟩:=hob
  exact .inr ⟨b,cap,cs,T,fr,by rw[hlen];exact e1,e2,e3,e4,by omega,fun i x hx=>by rw[hlen];exact e6 i x (Jp hl i x hx)⟩
 ·rw[Bv _ _ hj];exact hs.obj j
attribute [local irreducible] Go.Sy.G Go.Sy.DR
set_option maxRecDepth 100000
set_option maxHeartbeats 4000000
theorem V2 (n:Net) (up:List Bool) (x:Item) (q:List Item):∀ i,((List.range i).foldl (Cs n up x) q).length≤q.length+i
 | 0=>by simp
 | i+1=>by
  have:=V2 n up x q i
  rw[List.range_succ,List.foldl_append]
  simp only[List.foldl_cons,List.foldl_nil]
  rw[Cs]
  split
  ·rw[Hz];omega
  ·omega
theorem reachS (n:Net) (up:List Bool) (ranks roots costs:List Int) (hr:Ac n=true) (hu:up.length=n.links.length) (hcost:Cy n=true) (hrk:ranks.length=n.devices.length) (hro:roots.length=n.devices.length) (hc:costs.length=n.devices.length) (hrr:∀ r∈ranks,0≤r) (D:List Item × List Int × List Int) (hD:Hr n up (Dh ranks ranks.length,roots,costs)=D) :
  Sy.Spec Tryz.prog 221 [.ptr 0 0] (Yh n up ranks roots costs) (.tup []) (Yh n up ranks D.2.1 D.2.2):=cT F221 Tryz.ntmps221 fun F hF=>by
 have hf:=Dq hr
 conv=>whnf
 refine G_lit 10 Be [] E E ?_
 refine Az ranks.length (fun j=>[(0,.ptr 0 0),(2,.ptr 11 0),(15,.sl 1 Aa ranks),(16,Aa ranks.length),(17,Aa j)]) (fun j=>[(0,.box (M6 n up ranks (.osl 1) (.osl 2))),(1,.row 1 Aa roots),(2,.row 1 Aa costs),(11,.box [.osl 12]),(12,.row 3 Be (Dh ranks j))]) [(12,10)]
  ⟨⟨rfl,rfl,rfl,rfl,rfl,rfl,rfl,rfl,rfl,rfl,trivial⟩,⟨.inl rfl,rfl,.inl rfl,rfl,.inl rfl,rfl,.inl rfl,rfl,.inl rfl,rfl,trivial⟩,rfl,rfl⟩ ?_
 intro j hj
 refine oO ?_
 refine⟨fun h=>?_,fun h=>?_⟩
 ·have hlt:j<ranks.length:=by simpa using h
  have e1:ranks[(j:Int).toNat]'qn=ranks[j]:=rfl
  have hpush:=Yw (Dh ranks j) ⟨ranks.getD j 0,0,j⟩ (by rw[I8];omega)
  have hsucc:=Hh ranks j
  rw[A3 (show j<ranks.length by omega)]at hpush hsucc
  refine oO ?_
  refine⟨by omega,by omega,?_⟩
  conv=>whnf
  refine⟨by omega,?_⟩
  rw[e1]
  conv=>whnf
  refine Ad (Af [(0,11),(1,12),(2,28)] E F286 hpush E ⟨E,E,Y⟩ E ⟨.inl E,.inl E,.inr E,Y⟩) E E ?_
  refine oO ?_
  refine iW ?_
  refine Ar [(12,28)] hlt ⟨⟨E,E,E,E,E,E,E,E,E,E,Y⟩,⟨.inl E,E,.inl E,E,.inl E,E,.inl E,E,.inl (congrArg (Ob.row 3 Be) hsucc),E,Y⟩,E,E⟩
 ·have hjl:j=ranks.length:=by
   have:¬ j<ranks.length:=by simpa using h
   omega
  subst hjl
  refine oO ?_
  refine Me (α:={s:List Item × List Int × List Int // ReachInv n s∧Hr n up s=D}) (fun p=>[(0,.ptr 0 0),(2,.ptr 11 0)]) (fun p=>[(0,.box (M6 n up ranks (.osl 1) (.osl 2))),(1,.row 1 Aa p.1.2.1),(2,.row 1 Aa p.1.2.2),(11,.box [.osl 12]),(12,.row 3 Be p.1.1)]) (fun p=>reachM p.1) ⟨(Dh ranks ranks.length,roots,costs),Yg n ranks roots costs hr hrk hro hc hrr,hD⟩ []
   ⟨⟨rfl,rfl,rfl,rfl,trivial⟩,⟨.inl rfl,rfl,.inl rfl,rfl,.inl rfl,rfl,.inl rfl,rfl,.inl rfl,rfl,trivial⟩,rfl,rfl⟩ ?_
  rintro ⟨⟨q,ro,co⟩,hI,hDq⟩
  have hlen:=Ti q
  have hdn:=Aem n up (q,ro,co)
  have hds:=Abu n up hr hcost (q,ro,co) hI
  dsimp only at hdn hds ⊢
  refine oO ?_
  refine Ad (O4 [12] E F287 hlen (.cons (.row E E) .nil) E E) E E ?_
  refine oO ?_
  refine⟨fun h2=>?_,fun h2=>?_⟩
  ·have hne:q≠[]:=fun e=>by subst e;simp at h2
   have hpop:=Alp q hne (by have:=hI.few;simp only at this;omega)
   have hx:=hI.items _ ((Mk q hne).mem_iff.1 (List.getLast_mem (Dc hne)))
   have hst:Kl n up (q,ro,co)=if 0≤nth ro ((Ck q).getLast (Dc hne)).dev then ((Ck q).dropLast,ro,co) else ((List.range n.ports.length).foldl (Cs n up ((Ck q).getLast (Dc hne))) (Ck q).dropLast,ro.set ((Ck q).getLast (Dc hne)).dev.toNat ((Ck q).getLast (Dc hne)).root,co.set ((Ck q).getLast (Dc hne)).dev.toNat ((Ck q).getLast (Dc hne)).cost):=by
    rw[Kl,We hne]
   have hr1:=Ie n up hr hcost (q,ro,co) hI hne
   have hD1:=hds hne
   rw[hDq]at hD1
   rw[hst]at hr1 hD1
   generalize (Ck q).getLast (Dc hne)=x at *
   have hroL:=hI.rootsL
   have hcoL:=hI.costsL
   dsimp only at hroL hcoL
   rw[Ai (l:=ro) (i:=x.dev) qn]at hr1 hD1
   refine oO ?_
   refine Ad (Af [(0,11),(1,12),(2,38)] E F288 hpop E ⟨E,E,Y⟩ E ⟨.inl E,.inl E,.inr E,Y⟩) E E ?_
   refine oO ?_
   refine Ad (Ui Γ.toTy E E E E) E E ?_
   (refine rg ?_;(conv=>whnf);refine aF ?_;refine oD ?_)
   have hx1:=hx.1
   have hx2:=hx.2.1
   refine⟨by omega,by omega,?_⟩
   conv=>whnf
   refine⟨E,by omega,?_⟩
   conv=>whnf
   refine kW ?_
   refine⟨fun h3=>?_,fun h3=>?_⟩
   ·have h30:0≤ro[x.dev.toNat]'qn:=of_decide_eq_true h3
    rw[if_pos h30]at hr1 hD1
    refine oO ?_
    exact On (α:={s:List Item × List Int × List Int // ReachInv n s∧Hr n up s=D}) (L:=fun p=>[(0,.ptr 0 0),(2,.ptr 11 0)]) (O:=fun p=>[(0,.box (M6 n up ranks (.osl 1) (.osl 2))),(1,.row 1 Aa p.1.2.1),(2,.row 1 Aa p.1.2.2),(11,.box [.osl 12]),(12,.row 3 Be p.1.1)]) (μ:=fun p=>reachM p.1) (x:=⟨(q,ro,co),hI,hDq⟩)
     ⟨((Ck q).dropLast,ro,co),hr1.1,hD1.symm⟩ [(12,38)] hr1.2
     ⟨⟨rfl,rfl,rfl,rfl,trivial⟩,⟨.inl rfl,rfl,.inl rfl,rfl,.inl rfl,rfl,.inl rfl,rfl,.inl rfl,rfl,trivial⟩,rfl,rfl⟩
   ·have h30:¬ 0≤ro[x.dev.toNat]'qn:=of_decide_eq_false h3
    rw[if_neg h30]at hr1 hD1
    refine oO ?_
    refine⟨by omega,by omega,?_⟩
    conv=>whnf
    refine⟨by omega,by omega,?_⟩
    conv=>whnf
    refine⟨x.root,E,E,?_⟩
    conv=>whnf
    refine⟨by omega,by omega,E,by omega,x.cost,E,E,?_⟩
    conv=>whnf
    refine kW ?_
    generalize ro.set x.dev.toNat x.root=ro' at *
    generalize co.set x.dev.toNat x.cost=co' at *
    refine Az n.ports.length (fun j=>[(0,.ptr 0 0),(2,.ptr 11 0),(5,.ptr 5 0),(77,.sl 7 A2 n.ports),(78,Aa n.ports.length),(79,Aa j)]) (fun j=>[(0,.box (M6 n up ranks (.osl 1) (.osl 2))),(1,.row 1 Aa ro'),(2,.row 1 Aa co'),(5,.box [Aa x.root,Aa x.cost,Aa x.dev]),(11,.box [.osl 12]),(12,.row 3 Be ((List.range j).foldl (Cs n up x) (Ck q).dropLast))]) [(12,38)]
     ⟨⟨rfl,rfl,rfl,rfl,rfl,rfl,rfl,rfl,rfl,rfl,rfl,rfl,trivial⟩,⟨.inl rfl,rfl,.inl rfl,rfl,.inl rfl,rfl,.inl rfl,rfl,.inl rfl,rfl,.inl rfl,rfl,trivial⟩,rfl,rfl⟩ ?_
    intro j hj
    refine oO ?_
    refine⟨fun h4=>?_,fun h4=>?_⟩
    ·have hlt:j<n.ports.length:=by simpa using h4
     have e1:n.ports[(j:Int).toNat]'qn=n.ports[j]:=rfl
     have hfar:=farR n up ranks ro' co' j hr hu hlt
     have hql:(Ck q).dropLast.length≤q.length:=by rw[List.length_dropLast,Df];omega
     have hlenQ:=V2 n up x (Ck q).dropLast j
     have hfew:=hI.few
     dsimp only at hfew
     have hsucc:(List.range (j+1)).foldl (Cs n up x) (Ck q).dropLast=Cs n up x ((List.range j).foldl (Cs n up x) (Ck q).dropLast) j:=by
      rw[List.range_succ,List.foldl_append];rfl
     generalize (List.range j).foldl (Cs n up x) (Ck q).dropLast=Q at *
     rw[Cs,A3 hlt]at hsucc
     refine oO ?_
     refine⟨by omega,by omega,?_⟩
     conv=>whnf
     refine⟨by omega,?_⟩
     rw[e1]
     conv=>whnf
     refine Ad (Af [] E F222 hfar E ⟨E,E,E,Y⟩ E ⟨.inl E,.inl E,.inl E,Y⟩) E E ?_
     refine oO ?_
     refine⟨fun h5=>?_,fun h5=>?_⟩
     ·refine oO ?_
      refine⟨fun h6=>?_,fun h6=>?_⟩
      ·have hk0:0≤Cw n up j:=of_decide_eq_true h6
       have hk1:=Wz (up:=up) hr hlt hk0
       rw[if_pos ⟨by simpa using h5,hk0⟩,Ai (l:=n.ports) (i:=Cw n up j) qn]at hsucc
       have hpc:1≤(n.ports[(Cw n up j).toNat]'qn).cost∧(n.ports[(Cw n up j).toNat]'qn).cost≤65535:=by
        simp only[Cy,Bool.not_eq_true',List.any_eq_false]at hcost
        have:=hcost _ (List.getElem_mem (show (Cw n up j).toNat<n.ports.length by omega))
        simp only[I5,Bool.or_eq_true,decide_eq_true_eq,not_or]at this
        omega
       have hxc:=hx.2.2.2
       have hpush:=Yw Q ⟨x.root,x.cost+(n.ports[(Cw n up j).toNat]'qn).cost,(n.ports[(Cw n up j).toNat]'qn).dev⟩ qn
       refine oO ?_
       refine⟨E,hk0,by omega,?_⟩
       conv=>whnf
       refine iW ?_
       refine⟨E,hk0,by omega,?_⟩
       conv=>whnf
       refine Bk (Af [(0,11),(1,12),(2,123)] E F286 hpush E ⟨E,E,Y⟩ E ⟨.inl E,.inl E,.inr E,Y⟩) qq E ?_
       refine oD ?_
       refine kW ?_
       refine iW ?_
       refine Ar [(12,123)] hlt ⟨⟨E,E,E,E,E,E,E,E,E,E,E,E,Y⟩,⟨.inl E,E,.inl E,E,.inl E,E,.inl E,E,.inl E,E,.inl (congrArg (Ob.row 3 Be) hsucc),E,Y⟩,E,E⟩
      ·rw[if_neg (fun hh=>(of_decide_eq_false h6) hh.2)]at hsucc
       refine oO ?_
       refine iW ?_
       refine Ar [] hlt ⟨⟨E,E,E,E,E,E,E,E,E,E,E,E,Y⟩,⟨.inl E,E,.inl E,E,.inl E,E,.inl E,E,.inl E,E,.inl (congrArg (Ob.row 3 Be) hsucc),E,Y⟩,E,E⟩
     ·rw[if_neg (fun hh=>absurd hh.1 (by simpa using h5))]at hsucc
      refine oF ?_
      refine iW ?_
      refine Ar [] hlt ⟨⟨E,E,E,E,E,E,E,E,E,E,E,E,Y⟩,⟨.inl E,E,.inl E,E,.inl E,E,.inl E,E,.inl E,E,.inl (congrArg (Ob.row 3 Be) hsucc),E,Y⟩,E,E⟩
    ·have hjl:j=n.ports.length:=by
      have:¬ j<n.ports.length:=by simpa using h4
      omega
     subst hjl
     refine oO ?_
     exact On (α:={s:List Item × List Int × List Int // ReachInv n s∧Hr n up s=D}) (L:=fun p=>[(0,.ptr 0 0),(2,.ptr 11 0)]) (O:=fun p=>[(0,.box (M6 n up ranks (.osl 1) (.osl 2))),(1,.row 1 Aa p.1.2.1),(2,.row 1 Aa p.1.2.2),(11,.box [.osl 12]),(12,.row 3 Be p.1.1)]) (μ:=fun p=>reachM p.1) (x:=⟨(q,ro,co),hI,hDq⟩)
      ⟨((List.range n.ports.length).foldl (Cs n up x) (Ck q).dropLast,ro',co'),hr1.1,hD1.symm⟩ [] hr1.2
      ⟨⟨rfl,rfl,rfl,rfl,trivial⟩,⟨.inl rfl,rfl,.inl rfl,rfl,.inl rfl,rfl,.inl rfl,rfl,.inl rfl,rfl,trivial⟩,rfl,rfl⟩
  ·have he:q=[]:=List.eq_nil_of_length_eq_zero (by
    have:¬ 0<q.length:=by simpa using h2
    omega)
   have e:D=(q,ro,co):=by rw[← hDq,hdn he]
   rw[e]
   refine oO ?_
   exact A6 E .nil [] (Yh n up ranks ro co) (fun _ h=>h) E E ⟨Y,⟨.inl E,E,.inl E,E,.inl E,E,Y⟩,E,E⟩
end Go.Sy.YteinjapglfkamaaGreat
namespace Go.Sy.YteinjapglfkamaaGreat
open Go.Proofs
attribute [local irreducible] Go.Sy.G Go.Sy.DR
set_option maxRecDepth 100000
set_option maxHeartbeats 4000000
def okB (n:Net) (up:List Bool):Bool:=decide (up.length=n.links.length) && (Ac n && Cy n)
theorem ok_iff {n:Net} {up:List Bool}:okB n up=true↔up.length=n.links.length∧Ac n=true∧Cy n=true:=by simp[okB]
def Vx (n:Net) (up:List Bool):List Int:=(Ln n up (De n)).2.1
def W9 (n:Net) (up:List Bool):List Int:=(Ln n up (De n)).2.2
def Zx (n:Net) (up:List Bool):SV:=Lh n up (De n) (Vx n up) (W9 n up)
theorem And (n:Net) (up:List Bool) (hn:n.Fin) (h:okB n up=false):Sy.Spec Tryz.prog 160 [Al n,.sl 1 Ab up] [] (.tup [.val (.pointer none),Aa 2]) []:=cT F160 Tryz.ntmps160 fun F hF=>by
 have h':¬ (up.length=n.links.length∧Ac n=true∧Cy n=true):=fun hh=>by rw[ok_iff.2 hh]at h;cases h
 conv=>whnf
 (repeat' (first | (refine⟨fun h=>?_,fun h=>?_⟩<;>(repeat (first | simp only[bne_iff_ne]at h | simp only[bne_eq_false_iff_eq]at h | simp only[Bool.not_eq_true']at h | simp only[Bool.not_eq_false']at h))<;>((refine oO ?_);repeat((refine aT ?_);(refine oO ?_)))) | (refine c0 (A9 n hn) F23 ?_;((refine oO ?_))) | (refine c0 (Al8 n hn.ports) F219 ?_;((refine oO ?_))) | refine Am rfl (.cons .tmp (.cons .tmp .nil)) rfl rfl))
 all_goals exact absurd ⟨by omega,by assumption,by assumption⟩ h'
def K9 (m j:Nat):List Int:=List.replicate j (-1)++List.replicate (m-j) 0
theorem Afl (m:Nat):K9 m 0=List.replicate m 0:=by simp[K9]
theorem Ai3 (m:Nat):K9 m m=List.replicate m (-1):=by simp[K9]
theorem Aag (m j:Nat) (h:j≤m):(K9 m j).length=m:=by simp[K9];omega
theorem Afm (m j:Nat) (h:j<m):K9 m (j+1)=(K9 m j).set j (-1):=by
 have e:m-j=(m-(j+1))+1:=by omega
 rw[K9,K9,e,List.set_append_right _ _ qy,List.length_replicate,Nat.sub_self,List.replicate_succ' (n:=j),List.replicate_succ (n:=m-(j+1))]
 simp
theorem openOK (n:Net) (up:List Bool) (hn:n.Fin) (hu:up.length=n.links.length) (hr:Ac n=true) (hcost:Cy n=true):Sy.Spec Tryz.prog 160 [Al n,.sl 1 Ab up] [] (.tup [Zx n up,Aa 0]) []:=cT F160 Tryz.ntmps160 fun F hF=>by
 have hf:=Dq hr
 have hrt:=A9 n hn
 have hct:=Al8 n hn.ports
 have hrs:=ranksS n hn
 rw[hr]at hrt
 rw[hcost]at hct
 rw[hr,if_pos rfl]at hrs
 have hrk:=Jb n
 have hrr:∀ r∈De n,0≤r:=fun r h=>(T8 n r h).1
 have hsv:Zx n up=Lh n up (De n) (Ln n up (De n)).2.1 (Ln n up (De n)).2.2:=rfl
 rw[hsv]
 generalize De n=ranks at *
 have hreach:=fun D hD=>reachS n up ranks (List.replicate n.devices.length (-1)) (List.replicate n.devices.length 0) hr hu hcost hrk qy qy hrr D hD
 have hRT:Hr n up (Dh ranks ranks.length,List.replicate n.devices.length (-1),List.replicate n.devices.length 0)=Ln n up ranks:=rfl
 generalize Ln n up ranks=D at *
 have hreach:=hreach D hRT
 clear hRT hsv
 conv=>whnf
 refine⟨fun h=>absurd h (by simp[hu]),fun h=>?_⟩
 refine oO ?_
 refine c0 hrt F23 ?_
 refine oF ?_
 refine c0 hct F219 ?_
 refine oF ?_
 refine cD hrs F220 ?_
 refine oD ?_
 refine Bk (Bh Γ.toTy (d:=31) (n:=n.devices.length) Aa 0 E E E E E E E E qn qn E E E) qq E ?_
 refine oD ?_
 refine Bk (Bh Γ.toTy (d:=35) (n:=n.devices.length) Aa 0 E E E E E E E E qn qn E E E) qq E ?_
 refine oD ?_
 refine kW ?_
 refine Az n.devices.length (fun j=>[(6,.ptr 37 0),(42,Aa (List.replicate n.devices.length (0:Int)).length),(43,Aa j)]) (fun j=>[(37,.box (M6 n up ranks (.osl 31) (.osl 35))),(31,.row 1 Aa (K9 n.devices.length j)),(35,.row 1 Aa (List.replicate n.devices.length 0))]) []
  ⟨⟨rfl,rfl,rfl,rfl,rfl,rfl,trivial⟩,⟨.inl rfl,rfl,.inl (by rw[Afl];rfl),rfl,.inl rfl,rfl,trivial⟩,rfl,rfl⟩ ?_
 intro j hj
 have hlen:=Aag n.devices.length j hj
 refine oO ?_
 refine⟨fun h=>?_,fun h=>?_⟩
 ·have hlt:j<n.devices.length:=by simpa using h
  have hsucc:=Afm n.devices.length j hlt
  generalize K9 n.devices.length j=u at *
  refine oO ?_
  refine⟨by omega,by omega,?_⟩
  conv=>whnf
  refine⟨E,by omega,-1,E,E,?_⟩
  conv=>whnf
  refine iW ?_
  exact Ar [] hlt ⟨⟨E,E,E,E,E,E,Y⟩,⟨.inl E,E,.inl (congrArg (Ob.row 1 Aa) hsucc),E,.inl E,E,Y⟩,E,E⟩
 have hjl:j=n.devices.length:=by
  have:¬ j<n.devices.length:=by simpa using h
  omega
 subst hjl
 have hall:=Ai3 n.devices.length
 rw[← hall]at hreach
 refine oO ?_
 refine Ad (Af [(0,37),(1,31),(2,35)] E F221 hreach E ⟨E,E,E,Y⟩ E ⟨.inl E,.inl E,.inl E,Y⟩) E E ?_
 refine Aq 31 E ?_
 refine Aq 35 E ?_
 refine Ba 37 12 (.agg (M6 n up ranks (.sl 1 Aa D.2.1) (.sl 1 Aa D.2.2))) E E E ?_
 refine oO ?_
 exact dN
theorem Aa8 {n:Net} {up:List Bool} (h:okB n up=true):Solved n up (De n) (Vx n up) (W9 n up):=by
 obtain ⟨hu,hr,hcost⟩:=ok_iff.1 h
 exact Xs n up (De n) hr hcost (Jb n) (fun r h=>(T8 n r h).1)
def Zm (n:Net) (up:List Bool):List Int:=rolesL n up (De n) (Vx n up) (W9 n up)
def fwdT (n:Net) (up:List Bool):List Bool:=fwdL n (Zm n up)
theorem Xq (n:Net) (up:List Bool):(Zm n up).length=n.ports.length:=Hc ..
theorem Aeu (n:Net) (up:List Bool) (h:okB n up=true):Sy.Spec Tryz.prog 161 [Zx n up] [] (.sl 1 Aa (Zm n up)) []:=by
 obtain ⟨hu,hr,hcost⟩:=ok_iff.1 h
 have S:=Aa8 h
 exact rolesS n up (De n) (Vx n up) (W9 n up) hr hu hcost (Jb n) S.rootsL S.costsL (fun c hc=>by have:=S.bound c hc;omega)
theorem Wu (n:Net) (up:List Bool) (hn:n.Fin) (h:okB n up=false):Sy.Spec Tryz.prog 112 [Al n,.sl 1 Ab up] [] (.tup [.sl 1 Ab [],Aa 2]) []:=cT F112 Tryz.ntmps112 fun F hF=>by
 conv=>whnf
 refine c0 (And n up hn h) F160 ?_
 refine oT ?_
 refine Ak 4 1 Ab E ?_
 exact dN
def Uz (n:Net) (roles:List Int) (j:Nat):List Bool:=(n.links.take j).map (Alz roles)++List.replicate (n.links.length-j) false
theorem Aiy (n:Net) (roles:List Int):Uz n roles 0=List.replicate n.links.length false:=by simp[Uz]
theorem Aly (n:Net) (roles:List Int):Uz n roles n.links.length=fwdL n roles:=by simp[Uz,fwdL]
theorem Ac0 (n:Net) (roles:List Int) (j:Nat) (h:j≤n.links.length):(Uz n roles j).length=n.links.length:=by simp[Uz];omega
theorem Aiz (n:Net) (roles:List Int) (j:Nat) (h:j<n.links.length):Uz n roles (j+1)=(Uz n roles j).set j (Alz roles n.links[j]):=by
 have e:n.links.length-j=(n.links.length-(j+1))+1:=by omega
 have el:((n.links.take j).map (Alz roles)).length=j:=by simp;omega
 rw[Uz,Uz,List.set_append_right _ _ qn,el,Nat.sub_self,List.take_succ_eq_append_getElem h,List.map_append,e,List.replicate_succ,List.set_cons_zero]
 simp
theorem Yz (n:Net) (up:List Bool) (hn:n.Fin) (h:okB n up=true):Sy.Spec Tryz.prog 112 [Al n,.sl 1 Ab up] [] (.tup [.sl 1 Ab (fwdT n up),Aa 0]) []:=cT F112 Tryz.ntmps112 fun F hF=>by
 obtain ⟨hu,hr,hcost⟩:=ok_iff.1 h
 have hf:=Dq hr
 have ho:=openOK n up hn hu hr hcost
 have hro:=Aeu n up h
 have hrl:=Xq n up
 rw[fwdT]
 generalize Zm n up=roles at *
 unfold Zx at ho hro
 generalize De n=ranks at *
 generalize Vx n up=roots at *
 generalize W9 n up=costs at *
 conv=>whnf
 refine c0 ho F160 ?_
 refine oF ?_
 refine c0 hro F161 ?_
 refine oO ?_
 refine Ad (Bh Γ.toTy (d:=27) (n:=n.links.length) Ab false E E E E E E E E qn qn E E E) E E ?_
 rw[← Aiy n roles]
 refine oO ?_
 refine Az n.links.length (fun j=>[(8,.sl 1 Aa roles),(9,.osl 27),(29,.sl 3 Cb n.links),(30,Aa n.links.length),(31,Aa j)]) (fun j=>[(27,.row 1 Ab (Uz n roles j))]) []
  ⟨⟨rfl,rfl,rfl,rfl,rfl,rfl,rfl,rfl,rfl,rfl,trivial⟩,⟨.inl rfl,rfl,trivial⟩,rfl,rfl⟩ ?_
 intro j hj
 have hall:=Aly n roles
 refine oO ?_
 refine⟨fun h=>?_,fun h=>?_⟩
 ·have hlt:j<n.links.length:=by simpa using h
  have he:=Jy hr hlt
  have e1:n.links[(j:Int).toNat]'qn=n.links[j]:=rfl
  have hlen:=Ac0 n roles j hj
  have hsucc:=Aiz n roles j hlt
  generalize Uz n roles j=u at *
  generalize n.links[j]=l at *
  rw[Alz,Ai (l:=roles) (i:=l.a) qn,Ai (l:=roles) (i:=l.b) qn]at hsucc
  refine oO ?_
  refine⟨E,by omega,by omega,?_⟩
  rw[e1]
  conv=>whnf
  refine⟨E,by omega,by omega,?_⟩
  conv=>whnf
  refine⟨E,by omega,by omega,?_⟩
  conv=>whnf
  refine kW ?_
  have hA:0≤l.a∧l.a<roles.length:=by omega
  have hB:0≤l.b∧l.b<roles.length:=by omega
  obtain ⟨x,hx⟩:∃ x,roles[l.a.toNat]'qn=x:=⟨_,rfl⟩
  obtain ⟨y,hy⟩:∃ y,roles[l.b.toNat]'qn=y:=⟨_,rfl⟩
  rw[hx,hy]at hsucc
  refine Ady 46 (e:=Aa) (l:=[x,y]) E (by rw[← hx,← hy];rfl) ?_
  refine Aq 46 E ?_
  refine c0 (Cq [x,y] 1 (by unfold Aj;simp)) F25 ?_
  refine oO ?_
  refine⟨fun h1=>?_,fun h1=>?_⟩
  ·rw[h1,Bool.true_and]at hsucc
   refine oO ?_
   refine c0 (Cq [x,y] 2 (by unfold Aj;simp)) F25 ?_
   refine oO ?_
   refine⟨by omega,by omega,?_⟩
   conv=>whnf
   refine⟨E,by omega,inB [x,y] 2,E,E,?_⟩
   conv=>whnf
   refine iW ?_
   exact Ar [] hlt ⟨⟨E,E,E,E,E,E,E,E,E,E,Y⟩,⟨.inl (congrArg (Ob.row 1 Ab) hsucc),E,Y⟩,E,E⟩
  ·rw[h1,Bool.false_and]at hsucc
   refine oO ?_
   refine⟨by omega,by omega,?_⟩
   conv=>whnf
   refine⟨E,by omega,false,E,E,?_⟩
   conv=>whnf
   refine iW ?_
   exact Ar [] hlt ⟨⟨E,E,E,E,E,E,E,E,E,E,Y⟩,⟨.inl (congrArg (Ob.row 1 Ab) hsucc),E,Y⟩,E,E⟩
 have hjl:j=n.links.length:=by
  have:¬ j<n.links.length:=by simpa using h
  omega
 subst hjl
 rw[← hall]
 refine oO ?_
 refine Aq 27 E ?_
 exact dN
end Go.Sy.YteinjapglfkamaaGreat
namespace Go.Sy.YteinjapglfkamaaGreat
open Go.Proofs
structure MacM where
 up:List Bool
 tables:List (List EntryM)
 queues:List (List QueuedM)
 now:Int
 injected:Int
 drops:Nat→Int
def B6 (m:MacM) (e:Int):MacM:=⟨m.up,m.tables,m.queues,m.now,m.injected,fun i=>if i=e.toNat then m.drops i+1 else m.drops i⟩
def queueL (m:MacM) (dom:Int):List QueuedM:=(m.queues[dom.toNat]?).getD []
def tableL (m:MacM) (dom:Int):List EntryM:=(m.tables[dom.toNat]?).getD []
def Ahq (m:MacM) (dom:Int) (l:List QueuedM):MacM:=⟨m.up,m.tables,m.queues.set dom.toNat l,m.now,m.injected,m.drops⟩
def D7 (m:MacM) (dom:Int) (t:List EntryM):MacM:=⟨m.up,m.tables.set dom.toNat t,m.queues,m.now,m.injected,m.drops⟩
def comeM (m:MacM) (dom:Int) (q:QueuedM) (e:Int):MacM :=
 if e≠0 then B6 m e else if (pushT (queueL m dom) q).2=true then Ahq m dom (pushT (queueL m dom) q).1 else B6 m 3
def takeM (m:MacM) (dom at_:Int):MacM × QueuedM × Bool :=
 if Ag dom m.queues.length=false then (m,noQ,false)
 else (Ahq m dom (takeT (queueL m dom) at_).2.1,(takeT (queueL m dom) at_).1,(takeT (queueL m dom) at_).2.2)
def injectT (n:Net) (m:MacM) (port:Int) (b:List UInt8):MacM :=
 if Ag port n.ports.length=false∨0≤(nth n.ports port).link then m
 else comeM ⟨m.up,m.tables,m.queues,m.now,m.injected+1,m.drops⟩ (enterT n port b).1 ⟨port,0,m.injected+1,(enterT n port b).2.1⟩ (enterT n port b).2.2
def goesM (n:Net) (m:MacM) (o:OutM) (origin:Int):MacM × List SeenM :=
 if o.kind=1 then (m,[⟨o.port,origin,o.bytes⟩])
 else if o.kind=2 then (comeM m (linkT n o.port o.bytes).2.1 ⟨(linkT n o.port o.bytes).1,0,origin,(linkT n o.port o.bytes).2.2.1⟩ (linkT n o.port o.bytes).2.2.2,[])
 else if o.kind=3 then (comeM m (comeT n o.bytes).2.1 ⟨-1,(comeT n o.bytes).1,origin,(comeT n o.bytes).2.2.1⟩ (comeT n o.bytes).2.2.2,[])
 else if o.kind=4 then (comeM m o.domain ⟨-2,0,origin,o.frame⟩ 0,[])
 else (B6 m o.error,[])
def Bo (n:Net) (m:MacM) (origin:Int):List OutM→MacM × List SeenM
 | []=>(m,[])
 | o::l=>((Bo n (goesM n m o origin).1 origin l).1,(goesM n m o origin).2++(Bo n (goesM n m o origin).1 origin l).2)
def J4 (n:Net) (up:List Bool):List Bool:=if okB n up=true then fwdT n up else []
def Ab0 (n:Net) (m:MacM) (dom:Int) (q:QueuedM):List EntryM × List OutM × Int:=bridgeT n (J4 n m.up) (tableL m dom) dom q m.now
def Qx (m:MacM) (dom:Int) (r:List EntryM × List OutM × Int):MacM :=
 if r.2.2=2 then B6 m 2 else if r.2.2≠0 then B6 (D7 m dom r.1) r.2.2 else D7 m dom r.1
def pickT (n:Net) (m:MacM) (dom at_:Int):MacM × List SeenM :=
 if (takeM m dom at_).2.2=false then ((takeM m dom at_).1,[])
 else Bo n (Qx (takeM m dom at_).1 dom (Ab0 n (takeM m dom at_).1 dom (takeM m dom at_).2.1)) (takeM m dom at_).2.1.origin (Ab0 n (takeM m dom at_).1 dom (takeM m dom at_).2.1).2.1
def M5 (m:MacM):MacM :=
 let now:=min (m.now+1) 1099511627776
 ⟨m.up,m.tables.map (fun t=>ageT t now),m.queues,now,m.injected,m.drops⟩
def doT (n:Net) (m:MacM) (x:StepM):MacM × List SeenM :=
 if x.kind=1 then (injectT n m x.port x.bytes,[])
 else if x.kind=2 then pickT n m x.domain x.at_
 else if x.kind=3 then ((takeM m x.domain x.at_).1,[])
 else if x.kind=4 then (M5 m,[])
 else if x.kind=5 then ((if x.up.length=n.links.length then ⟨x.up,m.tables,m.queues,m.now,m.injected,m.drops⟩ else m),[])
 else (m,[])
def newT (n:Net):MacM:=⟨List.replicate n.links.length true,List.replicate n.domains.length [],List.replicate n.domains.length [],0,0,fun _=>0⟩
def Bj (e:Int):Prop:=0≤e∧e<64
def DomIn (n:Net) (d:Int):Prop:=0≤d∧d.toNat<n.domains.length
theorem Ih {n:Net} {d:Int} (h:Ag d n.domains.length=true):DomIn n d:=by
 have:=By h
 unfold DomIn
 omega
theorem Tc (b:List UInt8):Bj (takeF b).2:=by
 unfold takeF Bj
 repeat' split
 all_goals (dsimp only;omega)
theorem Ad7 (f:FrameM):Bj (stripT f).2.2.2:=by
 unfold stripT Bj
 repeat' split
 all_goals (dsimp only;omega)
theorem W0 (n:Net) (port:Int) (b:List UInt8):Bj (enterT n port b).2.2:=by
 have h1:=Tc b
 have h2:=Ad7 (takeF b).1
 have h3:∀ f tg v,Bj (Iq n port f tg v).2.2:=fun f tg v=>by
  unfold Iq Bj
  repeat' split
  all_goals (dsimp only;omega)
 unfold enterT
 split
 ·unfold Bj;dsimp only;omega
 split
 ·exact h1
 split
 ·split
  ·exact h2
  ·exact h3 _ _ _
 ·exact h3 _ _ _
theorem Ail (n:Net) (port:Int) (b:List UInt8):Bj (linkT n port b).2.2.2:=by
 unfold linkT
 split
 ·unfold Bj;dsimp only;omega
 ·exact W0 _ _ _
theorem Ae2 (n:Net) (port dom:Int) (f:FrameM):Bj (leaveT n port dom f).2:=by
 unfold leaveT
 split
 ·unfold Bj;dsimp only;omega
 split
 ·unfold Bj;dsimp only;omega
 split
 ·unfold Bj;dsimp only;omega
 split
 ·unfold Bj;dsimp only;omega
 split
 ·show Bj (tagT f (nth n.domains dom).vlan).2
  unfold tagT Bj
  repeat' split
  all_goals (dsimp only;omega)
 ·unfold Bj;dsimp only;omega
theorem Ag9 (a b:Nat) (v:Int) (f:FrameM):Bj (wrapT a b v f).2:=by
 unfold wrapT Bj
 repeat' split
 all_goals (dsimp only;omega)
theorem Aii (n:Net) (dom peer:Int) (f:FrameM):Bj (meshT n dom peer f).2:=by
 unfold meshT
 split
 ·unfold Bj;dsimp only;omega
 split
 ·unfold Bj;dsimp only;omega
 ·exact Ag9 _ _ _ _
theorem Ue (b:List UInt8):Bj (ipTakeT b).2:=by
 unfold ipTakeT Bj
 repeat' split
 all_goals (dsimp only;omega)
theorem Zf (b:List UInt8):Bj (udpTakeT b).2.2.2:=by
 unfold udpTakeT Bj
 repeat' split
 all_goals (dsimp only;omega)
theorem Ajv (b:List UInt8):Bj (vniT b).2.2:=by
 unfold vniT Bj
 repeat' split
 all_goals (dsimp only;omega)
theorem Aes (b:List UInt8):Bj (outerT b).2:=by
 unfold outerT
 split
 ·exact Tc _
 split
 ·unfold Bj;dsimp only;omega
 split
 ·exact Ue _
 ·unfold Bj;dsimp only;split<;>omega
theorem Afc (b:List UInt8):Bj (Jh b).2.2:=by
 unfold Jh
 split
 ·exact Zf _
 split
 ·unfold Bj;dsimp only;omega
 split
 ·exact Ajv _
 split
 ·exact Tc _
 split
 ·unfold Bj;dsimp only;omega
 ·unfold Bj;dsimp only;omega
theorem Aa6 (b:List UInt8):Bj (Br b).2.2.2.2:=by
 unfold Br
 split
 ·exact Aes _
 split
 ·exact Afc _
 ·unfold Bj;dsimp only;omega
theorem Ai9 (n:Net) (b:List UInt8):Bj (comeT n b).2.2.2:=by
 unfold comeT
 split
 ·unfold Bj;dsimp only;omega
 split
 ·exact Aa6 _
 split
 ·unfold Bj;dsimp only;omega
 split
 ·unfold Bj;dsimp only;omega
 ·unfold Bj;dsimp only;omega
theorem Aln (n:Net) (irb:Int) (f:FrameM):Bj (hopT n irb f).2.2:=by
 unfold hopT
 split
 ·unfold Bj;dsimp only;omega
 split
 ·unfold Bj;dsimp only;omega
 split
 ·exact Ue _
 split
 ·unfold Bj;dsimp only;omega
 split
 ·unfold Bj;dsimp only;omega
 split
 ·unfold Bj;dsimp only;omega
 ·unfold Bj;dsimp only;omega
theorem Adl (n:Net) (fw:List Bool) (t:List EntryM) (dom:Int) (q:QueuedM) (now:Int):Bj (bridgeT n fw t dom q now).2.2:=by
 unfold bridgeT
 split
 ·unfold Bj;dsimp only;omega
 split
 ·split
  ·exact Aln _ _ _
  ·unfold Bj;dsimp only;omega
 ·unfold Bj;dsimp only;omega
theorem Agz {n:Net} {dev v:Int} (h:Bt n dev v=true):DomIn n (Tx n dev v):=by
 have h1:0≤Tx n dev v:=by simpa [Bt] using h
 have h2:Tx n dev v<n.domains.length:=D3 _ _
 exact⟨h1,by omega⟩
theorem Ajw {n:Net} (hb:Ac n=true) {port:Int} (hp:Ag port n.ports.length=true) {tg:Bool} {vid:Int} (h:(vlanT (nth n.ports port) tg vid).2=true):DomIn n (Tx n (nth n.ports port).dev (vlanT (nth n.ports port) tg vid).1):=by
 have hk:=By hp
 have hk2:port.toNat<n.ports.length:=by omega
 simp only[Ac,Bool.and_eq_true]at hb
 have hpb:=allB_iff.1 hb.1.1.1.1.1.2 _ hk2
 rw[Ai hk2]at h ⊢
 generalize n.ports[port.toNat]=p at *
 simp only[Ec,Bool.and_eq_true]at hpb
 obtain ⟨⟨⟨⟨⟨⟨⟨⟨g1,g2⟩,g3⟩,g4⟩,g5⟩,g6⟩,g7⟩,g8⟩,g9⟩:=hpb
 unfold vlanT at h ⊢
 split
 ·rw[if_pos (by assumption)]at h
  have h1:p.native≠0:=by simpa using h
  have h2:0≤p.native:=by simpa using g2
  refine Agz ?_
  have h3:decide (0<p.native)=true:=by simp;omega
  rw[h3,Bool.true_and]at g8
  simpa using g8
 ·rw[if_neg (by assumption)]at h
  split
  ·rename_i h4
   have h5:vid∈p.tagged:=inB_mem.1 h4
   obtain ⟨i,hi,rfl⟩:=List.mem_iff_getElem.1 h5
   exact Agz (allB_iff.1 g7 i hi)
  ·rw[if_neg (by assumption)]at h
   cases h
theorem W1 {n:Net} {port:Int} {b:List UInt8} (h:(enterT n port b).2.2=0):DomIn n (enterT n port b).1:=by
 unfold enterT at h ⊢
 split
 ·rw[if_pos (by assumption)]at h;cases h
 rename_i hc
 rw[if_neg hc]at h
 have hp:Ag port n.ports.length=true:=by cases hx:Ag port n.ports.length;exact absurd (.inl hx) hc;rfl
 have hb:Ac n=true:=by cases hx:Ac n;exact absurd (.inr hx) hc;rfl
 have key:∀ f tg v,(Iq n port f tg v).2.2=0→DomIn n (Iq n port f tg v).1:=fun f tg v h=>by
  unfold Iq at h ⊢
  split
  ·rw[if_pos (by assumption)]at h;cases h
  rw[if_neg (by assumption)]at h
  split
  ·rw[if_pos (by assumption)]at h;cases h
  rename_i h5
  show DomIn n (Ch n _ _)
  rw[Ch,if_pos hb]
  exact Ajw hb hp (by simpa using h5)
 split
 ·rename_i h2
  rw[if_pos h2]at h
  exact absurd h h2
 rename_i h2
 rw[if_neg h2]at h
 split
 ·rename_i h3
  rw[if_pos h3]at h
  split
  ·rename_i h4
   rw[if_pos h4]at h
   exact absurd h h4
  ·rename_i h4
   rw[if_neg h4]at h
   exact key _ _ _ h
 ·rename_i h3
  rw[if_neg h3]at h
  exact key _ _ _ h
theorem Aim {n:Net} {port:Int} {b:List UInt8} (h:(linkT n port b).2.2.2=0):DomIn n (linkT n port b).2.1:=by
 unfold linkT at h ⊢
 split
 ·rw[if_pos (by assumption)]at h;cases h
 ·rename_i h2
  rw[if_neg h2]at h
  exact W1 h
theorem Ab1 {n:Net} (hb:Ac n=true) {dom:Nat} (hd:dom<n.domains.length) {k:Int} (hk:k∈n.domains[dom].peers):DomIn n k:=by
 simp only[Ac,Bool.and_eq_true]at hb
 have:=allB_iff.1 hb.1.1.1.1.1.1.2 _ hd
 obtain ⟨i,hi,rfl⟩:=List.mem_iff_getElem.1 hk
 have h2:=allB_iff.1 this i hi
 simp only[K5,Bool.and_eq_true]at h2
 exact Ih h2.1.1.1.1.1.1.1.1.1
theorem Al3 {n:Net} (hb:Ac n=true) {src dst:Nat} {vni:Int} (h:¬ (endsT n src dst vni).1<0):DomIn n (endsT n src dst vni).1∧DomIn n (endsT n src dst vni).2:=by
 unfold endsT at h ⊢
 dsimp only at h ⊢
 split
 ·rw[if_pos (by assumption)]at h;exact absurd qx h
 rename_i h1
 rw[if_neg h1]at h
 split
 ·rw[if_pos (by assumption)]at h;exact absurd qx h
 rename_i h2
 have hd:=D3 (fun d:Domain=>decide (d.dev=B8 (fun d:Device=>decide (d.vtep=(dst:Int))) n.devices) && decide (d.vni=vni)) n.domains
 generalize B8 (fun d:Domain=>decide (d.dev=B8 (fun d:Device=>decide (d.vtep=(dst:Int))) n.devices) && decide (d.vni=vni)) n.domains=dom at *
 have hd2:dom.toNat<n.domains.length:=by omega
 have hi:=D3 (fun k:Int=>decide (Hu n k=(src:Int))) (nth n.domains dom).peers
 generalize B8 (fun k:Int=>decide (Hu n k=(src:Int))) (nth n.domains dom).peers=i at *
 rw[Ai hd2]at hi ⊢
 have hi2:i.toNat<(n.domains[dom.toNat]).peers.length:=by omega
 refine⟨?_,⟨by dsimp only;omega,hd2⟩⟩
 show DomIn n (nth (n.domains[dom.toNat]).peers i)
 rw[Ai hi2]
 exact Ab1 hb hd2 (List.getElem_mem hi2)
theorem Y7 {n:Net} {b:List UInt8} (h:(comeT n b).2.2.2=0):DomIn n (comeT n b).1∧DomIn n (comeT n b).2.1:=by
 unfold comeT at h ⊢
 split
 ·rw[if_pos (by assumption)]at h;cases h
 rename_i hb
 rw[if_neg hb]at h
 split
 ·rename_i h2
  rw[if_pos h2]at h;exact absurd h h2
 rename_i h2
 rw[if_neg h2]at h
 split
 ·rw[if_pos (by assumption)]at h;cases h
 rename_i h3
 rw[if_neg h3]at h
 split
 ·rw[if_pos (by assumption)]at h;cases h
 exact Al3 (by simpa using hb) h3
theorem Alo {n:Net} {irb:Int} {f:FrameM} (hin:∀ (d:Int),(lookT n irb d).2=true→0≤(lookT n irb d).1∧(lookT n irb d).1.toNat<n.irbs.length) (h:(hopT n irb f).2.2=0):DomIn n (hopT n irb f).1:=by
 unfold hopT at h ⊢
 split
 ·rw[if_pos (by assumption)]at h;cases h
 rename_i h1
 rw[if_neg h1]at h
 split
 ·rw[if_pos (by assumption)]at h;cases h
 rename_i h2
 rw[if_neg h2]at h
 split
 ·rename_i h3
  rw[if_pos h3]at h;exact absurd h h3
 rename_i h3
 rw[if_neg h3]at h
 split
 ·rw[if_pos (by assumption)]at h;cases h
 rename_i h4
 rw[if_neg h4]at h
 split
 ·rw[if_pos (by assumption)]at h;cases h
 rename_i h5
 rw[if_neg h5]at h
 split
 ·rw[if_pos (by assumption)]at h;cases h
 have hl:=hin ((ipTakeT f.body).1.dst:Int) (by simpa using h5)
 have hb:Ac n=true:=by cases hx:Ac n;exact absurd (.inr hx) h1;rfl
 have:=(C3 hb hl.2).1
 show DomIn n (nth n.irbs _).domain
 rw[Ai hl.2]
 exact this
end Go.Sy.YteinjapglfkamaaGreat
namespace Go.Sy.YteinjapglfkamaaGreat
open Go.Proofs
attribute [local irreducible] Go.Sy.G Go.Sy.DR
set_option maxRecDepth 100000
set_option maxHeartbeats 4000000
theorem Sb (l:List Device) (p:Device→Bool) (f:FuncId) (first cap:List SV) (hc:(SV.clo (.func f) first cap).inn []=true) (hf:∀ x∈l,E6 Tryz.prog f (first++[Bf x]++cap) (Ab (p x))) (hl:Aj l) :
  Sy.Spec Tryz.prog 359 [.sl 5 Bf l,.clo (.func f) first cap] [] (Aa (B8 p l)) []:=cT F359 Tryz.ntmps359 fun F hF=>by
 unfold Aj at hl
 have hin:∀ x:Device,B1 [] (first++[Bf x]++cap)=true:=fun x=>Cj hc rfl
 conv=>whnf
 refine Ay l.length (fun j=>C4 (fun _ x=>!(p x)) l j) (fun j=>[(0,.sl 5 Bf l),(1,.clo (.func f) first cap),(7,Aa l.length),(8,Aa j)]) (fun _=>[]) [] (At _ _) ⟨⟨E,E,A7 _,hc,E,E,E,E,Y⟩,Y,E,E⟩ ?_
 intro j hj hI
 refine oO ?_
 refine⟨fun h=>?_,fun h=>?_⟩
 ·have h:=of_decide_eq_true h
  have hj2:j<l.length:=by omega
  refine oO ?_
  refine⟨E,by omega,by omega,?_⟩
  conv=>whnf
  refine Dp (hf l[j] (List.getElem_mem hj2)) E E E (by simp only[hin];rfl) E E ?_
  refine oO ?_
  refine⟨fun h2=>?_,fun h2=>?_⟩
  ·refine oO ?_
   refine Am E (.cons .tmp .nil) (congrArg Aa ?_) E
   exact C6 hj2 (fun i hi hij=>by simpa using hI i hi hij) h2
  ·refine oO ?_
   refine iW ?_
   exact Aw [] hI hj2 (Ap hI hj2 (by simp[h2])) ⟨⟨E,E,A7 _,hc,E,E,E,E,Y⟩,Y,E,E⟩
 ·have h:=of_decide_eq_false h
  refine oO ?_
  refine Am E (.cons .tmp .nil) (congrArg Aa ?_) E
  exact Ds (fun i hi=>by simpa using hI i hi qn)
theorem Aai {n:Net} (hb:Ac n=true) {d:Int} (hd:DomIn n d):0≤(n.domains[d.toNat]'hd.2).dev∧(n.domains[d.toNat]'hd.2).dev.toNat<n.devices.length:=by
 simp only[Ac,Bool.and_eq_true]at hb
 have:=Kb hb.1.1.1.1.1.1.1.2 hd.2
 have:=By this
 omega
theorem Aaw {n:Net} (hb:Ac n=true) {d:Int} (hd:DomIn n d):Hu n d=(n.devices[(n.domains[d.toNat]'hd.2).dev.toNat]'(Aai hb hd).2).vtep:=by
 rw[Hu,Ai hd.2,Ai (Aai hb hd).2]
theorem Aav {n:Net} (hm:n.Num) (hb:Ac n=true) {d:Int} (hd:DomIn n d):0≤Hu n d∧Hu n d<4294967296:=by
 rw[Aaw hb hd]
 exact hm.vtep _ (List.getElem_mem _)
theorem O1 (n:Net) (hb:Ac n=true) (d:Int) (hd:DomIn n d):Sy.Spec Tryz.prog 304 [Al n,Aa d] [] (Bi (Hu n d)) []:=cT F304 Tryz.ntmps304 fun F hF=>by
 have hv:=Aaw hb hd
 have h2:=Aai hb hd
 obtain ⟨x,hx⟩:∃ x,n.domains[d.toNat]'hd.2=x:=⟨_,rfl⟩
 rw[hx]at h2
 simp only[hx]at hv
 obtain ⟨y,hy⟩:∃ y,n.devices[x.dev.toNat]'h2.2=y:=⟨_,rfl⟩
 rw[hy]at hv
 rw[hv]
 conv=>whnf
 refine⟨E,hd.1,hd.2,?_⟩
 rw[hx]
 conv=>whnf
 refine⟨E,h2.1,h2.2,?_⟩
 rw[hy]
 conv=>whnf
 refine kW ?_
 exact dN
theorem Ae3 (n:Net) (hn:n.Fin) (hm0:n.Num) (dom peer:Int) (f:FrameM) (h:FrameOK f) :
  Sy.Spec Tryz.prog 237 [Al n,Aa dom,Aa peer,B4 f] [] (.tup [.sl 1 Ae (meshT n dom peer f).1,Aa (meshT n dom peer f).2]) []:=cT F237 Tryz.ntmps237 fun F hF=>by
 have hres:=meshT.eq_1 n dom peer f
 generalize meshT n dom peer f=res at *
 have hr:=A9 n hn
 have hpS:=I0 peer n.domains.length
 have hdS:=I0 dom n.domains.length
 conv=>whnf
 refine Ba 4 8 (Al n) E E E ?_
 refine Ba 7 4 (B4 f) E E E ?_
 refine oO ?_
 refine c0 hpS F300 ?_
 cases hpl:Ag peer n.domains.length
 ·rw[if_pos (.inl hpl)]at hres
  subst hres
  (refine oT ?_;refine bT ?_;refine bT ?_)
  refine Ak 8 1 Ae E ?_
  exact dN
 refine oF ?_
 refine c0 hdS F300 ?_
 cases hdl:Ag dom n.domains.length
 ·rw[if_pos (.inr (.inl hdl))]at hres
  subst hres
  (refine oT ?_;refine bT ?_)
  refine Ak 8 1 Ae E ?_
  exact dN
 refine oF ?_
 refine c0 hr F23 ?_
 cases hbn:Ac n
 ·rw[if_pos (.inr (.inr hbn))]at hres
  subst hres
  refine oT ?_
  refine Ak 8 1 Ae E ?_
  exact dN
 rw[if_neg (by simp[hbn,hpl,hdl])]at hres
 have hd:=Ih hdl
 have hp:=Ih hpl
 have hd0:=hd.1
 have hkd:=hd.2
 have e2:nth n.domains dom=n.domains[dom.toNat]:=Ai hkd
 have hpe:=hn.peers _ (List.getElem_mem hkd)
 have va:=Aav hm0 hbn hd
 have vb:=Aav hm0 hbn hp
 have qa:=O1 n hbn dom hd
 have qb:=O1 n hbn peer hp
 generalize Hu n dom=a at *
 generalize Hu n peer=c at *
 obtain ⟨a,rfl⟩:=Int.eq_ofNat_of_zero_le va.1
 obtain ⟨c,rfl⟩:=Int.eq_ofNat_of_zero_le vb.1
 rw[Int.toNat_natCast,Int.toNat_natCast]at hres
 obtain ⟨d,hdd⟩:∃ d,n.domains[dom.toNat]'hkd=d:=⟨_,rfl⟩
 rw[hdd]at e2 hpe
 rw[e2]at hres
 have qc:=Cq d.peers peer hpe
 have qw:=Amx a c d.vni f qn qn h
 refine oF ?_
 refine⟨E,hd0,hkd,?_⟩
 rw[hdd]
 conv=>whnf
 refine c0 qc F25 ?_
 cases hi:inB d.peers peer
 ·rw[if_pos hi]at hres
  subst hres
  refine oT ?_
  refine Ak 8 1 Ae E ?_
  exact dN
 rw[if_neg (by rw[hi];decide)]at hres
 subst hres
 refine oF ?_
 refine cD qa F304 ?_
 refine oD ?_
 refine cD qb F304 ?_
 refine oD ?_
 refine⟨E,hd0,hkd,?_⟩
 rw[hdd]
 conv=>whnf
 refine cD qw F303 ?_
 refine oD ?_
 refine kW ?_
 exact dN
theorem endsC1 (dst:Int) (d:Device):Sy.Spec Tryz.prog 360 [Bf d,.ref 1 (Bi dst) 0] [] (Ab (decide (d.vtep=dst))) []:=cT F360 Tryz.ntmps360 fun F hF=>by
 conv=>whnf
 refine Am E (.cons .tmp .nil) (congrArg Ab ?_) E
 rw[Bool.eq_iff_iff]
 simp
theorem endsC2 (dev vni:Int) (d:Domain):Sy.Spec Tryz.prog 361 [Ao d,.ref 1 (Aa dev) 0,.ref 1 (Aa vni) 0] [] (Ab (decide (d.dev=dev) && decide (d.vni=vni))) []:=cT F361 Tryz.ntmps361 fun F hF=>by
 conv=>whnf
 refine⟨fun h=>?_,fun h=>?_⟩
 ·have h1:d.dev=dev:=by simpa using h
  refine oO ?_
  refine Am E (.cons .tmp .nil) (congrArg Ab ?_) E
  rw[decide_eq_true h1,Bool.true_and,Bool.eq_iff_iff]
  simp
 ·have h1:¬ d.dev=dev:=by simpa using h
  refine oO ?_
  refine Am E (.cons .tmp .nil) (congrArg Ab ?_) E
  rw[decide_eq_false h1,Bool.false_and]
theorem endsC3 (n:Net) (hb:Ac n=true) (src:Int) (k:Int) (hk:DomIn n k):Sy.Spec Tryz.prog 363 [Aa k,.ref 8 (Al n) 0,.ref 1 (Bi src) 0] [] (Ab (decide (Hu n k=src))) []:=cT F363 Tryz.ntmps363 fun F hF=>by
 have q:=O1 n hb k hk
 conv=>whnf
 refine cD q F304 ?_
 refine oD ?_
 refine kW ?_
 refine Am E (.cons .tmp .nil) (congrArg Ab ?_) E
 rw[Bool.eq_iff_iff]
 simp
theorem endsS (n:Net) (hn:n.Fin) (hb:Ac n=true) (src dst:Nat) (vni:Int) :
  Sy.Spec Tryz.prog 309 [Al n,Bi src,Bi dst,Aa vni] [] (.tup [Aa (endsT n src dst vni).1,Aa (endsT n src dst vni).2]) []:=cT F309 Tryz.ntmps309 fun F hF=>by
 have hres:=endsT.eq_1 n src dst vni
 dsimp only at hres
 generalize endsT n src dst vni=res at *
 have q1:=Sb n.devices (fun d=>decide (d.vtep=(dst:Int))) 360 [] [.ref 1 (Bi dst) 0] rfl (fun d _=>⟨⟨_,_,F360⟩,endsC1 dst d⟩) hn.devices
 generalize B8 (fun d:Device=>decide (d.vtep=(dst:Int))) n.devices=dev at *
 have q2:=E1 n.domains (fun d=>decide (d.dev=dev) && decide (d.vni=vni)) 361 [] [.ref 1 (Aa dev) 0,.ref 1 (Aa vni) 0] rfl (fun d _=>⟨⟨_,_,F361⟩,endsC2 dev vni d⟩) hn.domains
 have hlt:=D3 (fun d:Domain=>decide (d.dev=dev) && decide (d.vni=vni)) n.domains
 generalize B8 (fun d:Domain=>decide (d.dev=dev) && decide (d.vni=vni)) n.domains=dom at *
 conv=>whnf
 refine Ba 4 8 (Al n) E E E ?_
 refine Ba 5 1 (Bi src) E E E ?_
 refine Ba 6 1 (Bi dst) E E E ?_
 refine Ba 7 1 (Aa vni) E E E ?_
 refine oO ?_
 refine c0 q1 F359 ?_
 refine oO ?_
 refine Ba 10 1 (Aa dev) E E E ?_
 refine oO ?_
 refine c0 q2 F201 ?_
 refine oO ?_
 refine⟨fun h=>?_,fun h=>?_⟩
 ·rw[if_pos (.inl (of_decide_eq_true h))]at hres
  subst hres
  refine oT ?_
  exact dN
 have h1:=of_decide_eq_false h
 clear h
 refine oO ?_
 refine⟨fun h=>?_,fun h=>?_⟩
 ·rw[if_pos (.inr (of_decide_eq_true h))]at hres
  subst hres
  refine oO ?_
  exact dN
 have h2:=of_decide_eq_false h
 clear h
 rw[if_neg (fun h=>h.elim h1 h2)]at hres
 have hd0:0≤dom:=by omega
 have hkd:dom.toNat<n.domains.length:=by omega
 have e2:nth n.domains dom=n.domains[dom.toNat]:=Ai hkd
 have hpe:=hn.peers _ (List.getElem_mem hkd)
 have hpin:∀ k∈(n.domains[dom.toNat]'hkd).peers,DomIn n k:=fun k hk=>Ab1 hb hkd hk
 obtain ⟨d,hdd⟩:∃ d,n.domains[dom.toNat]'hkd=d:=⟨_,rfl⟩
 rw[hdd]at e2 hpe hpin
 rw[e2]at hres
 have q3:=Im d.peers (fun k=>decide (Hu n k=(src:Int))) 363 [] [.ref 8 (Al n) 0,.ref 1 (Bi src) 0] rfl (fun k hk=>⟨⟨_,_,F363⟩,endsC3 n hb src k (hpin k hk)⟩) hpe
 have hlt2:=D3 (fun k:Int=>decide (Hu n k=(src:Int))) d.peers
 generalize B8 (fun k:Int=>decide (Hu n k=(src:Int))) d.peers=i at *
 refine oO ?_
 refine⟨E,hd0,hkd,?_⟩
 rw[hdd]
 conv=>whnf
 refine c0 q3 F362 ?_
 refine oO ?_
 refine⟨fun h=>?_,fun h=>?_⟩
 ·rw[if_pos (of_decide_eq_true h)]at hres
  subst hres
  refine oO ?_
  exact dN
 have h3:=of_decide_eq_false h
 clear h
 rw[if_neg h3]at hres
 have hki:i.toNat<d.peers.length:=by omega
 rw[Ai hki]at hres
 subst hres
 refine oO ?_
 refine⟨E,by omega,hki,?_⟩
 conv=>whnf
 exact dN
theorem Ae5 (n:Net) (hn:n.Fin) (b:List UInt8) (hb:b.length<100000) :
  Sy.Spec Tryz.prog 242 [Al n,.sl 1 Ae b] [] (.tup [Aa (comeT n b).1,Aa (comeT n b).2.1,B4 (comeT n b).2.2.1,Aa (comeT n b).2.2.2]) []:=cT F242 Tryz.ntmps242 fun F hF=>by
 have hres:=comeT.eq_1 n b
 generalize comeT n b=res at *
 have hr:=A9 n hn
 conv=>whnf
 refine Ba 2 8 (Al n) E E E ?_
 refine oO ?_
 refine c0 hr F23 ?_
 cases hbn:Ac n
 ·rw[if_pos hbn]at hres
  subst hres
  refine oT ?_
  refine A8 6 zF E (.cons (.refl _) (.cons (.refl _) (.cons (.refl _) (.cons .nil .nil)))) ?_
  exact dN
 rw[if_neg (by rw[hbn];decide)]at hres
 have q1:=Aha b hb
 have huo:=Vj b
 generalize Br b=u at *
 obtain ⟨src,dst,vni,f,e⟩:=u
 dsimp only at hres q1 huo
 have hsrc:=huo.2.2.2.src
 refine oF ?_
 refine c0 q1 F308 ?_
 refine oO ?_
 refine⟨fun h=>?_,fun h=>?_⟩
 ·rw[if_pos (by simpa using h)]at hres
  subst hres
  refine oO ?_
  refine A8 6 zF E (.cons (.refl _) (.cons (.refl _) (.cons (.refl _) (.cons .nil .nil)))) ?_
  exact dN
 rw[if_neg (by simpa using h)]at hres
 clear h
 have q2:=endsS n hn hbn src dst vni
 generalize endsT n src dst vni=en at *
 obtain ⟨fr,dom⟩:=en
 dsimp only at hres q2
 refine oO ?_
 refine c0 q2 F309 ?_
 refine oO ?_
 refine⟨fun h=>?_,fun h=>?_⟩
 ·rw[if_pos (of_decide_eq_true h)]at hres
  subst hres
  refine oO ?_
  refine A8 6 zF E (.cons (.refl _) (.cons (.refl _) (.cons (.refl _) (.cons .nil .nil)))) ?_
  exact dN
 rw[if_neg (of_decide_eq_false h)]at hres
 clear h
 have qg:=Jx f.src qn
 refine oO ?_
 refine c0 qg F226 ?_
 cases hg:E9 f.src
 rotate_left
 ·rw[if_pos hg]at hres
  subst hres
  refine oT ?_
  refine A8 6 zF E (.cons (.refl _) (.cons (.refl _) (.cons (.refl _) (.cons .nil .nil)))) ?_
  exact dN
 rw[if_neg (by rw[hg];decide)]at hres
 subst hres
 refine oF ?_
 refine kW ?_
 exact dN
theorem An2 {n:Net} (hb:Ac n=true) {d:Int} (hd:DomIn n d) (hi:0≤(n.domains[d.toNat]'hd.2).irb) :
  ∃ h:(n.domains[d.toNat]'hd.2).irb.toNat<n.irbs.length,(n.irbs[(n.domains[d.toNat]'hd.2).irb.toNat]'h).domain=d:=by
 simp only[Ac,Bool.and_eq_true]at hb
 have:=allB_iff.1 hb.1.1.1.1.1.1.1.2 _ hd.2
 simp only[E5,Bool.and_eq_true,Bool.or_eq_true,beq_iff_eq]at this
 have h2:=this.1.2
 rcases h2 with h2 | ⟨h2,h3⟩
 ·omega
 ·have h4:=By h2
  have h5:(n.domains[d.toNat]'hd.2).irb.toNat<n.irbs.length:=by omega
  rw[Ai h5]at h3
  have:=hd.1
  exact⟨h5,by omega⟩
theorem Aay (n:Net) (hn:n.Fin) (hm0:n.Num) (dom:Int) (m:Nat) :
  Sy.Spec Tryz.prog 232 [Al n,Aa dom,A5 m] [] (.tup [Aa (routerT n dom m).1,Ab (routerT n dom m).2]) []:=cT F232 Tryz.ntmps232 fun F hF=>by
 have hres:=routerT.eq_1 n dom m
 generalize routerT n dom m=res at *
 have hr:=A9 n hn
 conv=>whnf
 refine⟨fun h=>?_,fun h=>?_⟩
 ·have hp:Ag dom n.domains.length=false:=by
   cases hx:Ag dom n.domains.length
   ·rfl
   ·have:=By hx;have:=of_decide_eq_true h;omega
  rw[if_pos (.inl hp)]at hres
  subst hres
  (refine oT ?_;refine bT ?_)
  exact dN
 have h0:0≤dom:=qB h
 clear h
 refine oO ?_
 refine⟨fun h=>?_,fun h=>?_⟩
 ·have hp:Ag dom n.domains.length=false:=by
   cases hx:Ag dom n.domains.length
   ·rfl
   ·have:=By hx;have:=of_decide_eq_true h;omega
  rw[if_pos (.inl hp)]at hres
  subst hres
  refine oT ?_
  exact dN
 have h1:dom<n.domains.length:=qB h
 clear h
 have hpl:Ag dom n.domains.length=true:=Iy ⟨h0,h1⟩
 refine oO ?_
 refine c0 hr F23 ?_
 cases hbn:Ac n
 ·rw[if_pos (.inr hbn)]at hres
  subst hres
  refine oT ?_
  exact dN
 rw[if_neg (by simp[hbn,hpl])]at hres
 have hd:=Ih hpl
 have e2:nth n.domains dom=n.domains[dom.toNat]'hd.2:=Ai hd.2
 have hir:=An2 hbn hd
 obtain ⟨d,hdd⟩:∃ d,n.domains[dom.toNat]'hd.2=d:=⟨_,rfl⟩
 simp only[hdd]at e2 hir
 rw[e2]at hres
 refine oF ?_
 refine⟨E,hd.1,hd.2,?_⟩
 rw[hdd]
 conv=>whnf
 refine⟨fun h=>?_,fun h=>?_⟩
 ·rw[if_pos (.inl (of_decide_eq_true h))]at hres
  subst hres
  refine oT ?_
  exact dN
 have hi0:0≤d.irb:=qB h
 clear h
 obtain ⟨hi1,hi2⟩:=hir hi0
 have ha:=hm0.addr _ (List.getElem_mem hi1)
 rw[Ai hi1]at hres
 obtain ⟨x,hx⟩:∃ x,n.irbs[d.irb.toNat]'hi1=x:=⟨_,rfl⟩
 rw[hx]at ha hres
 obtain ⟨a,hae⟩:=Int.eq_ofNat_of_zero_le ha.1
 have qh:=Yu a qn
 rw[← hae]at qh
 refine oO ?_
 refine⟨E,hi0,hi1,?_⟩
 rw[hx]
 conv=>whnf
 refine c0 qh F44 ?_
 refine oO ?_
 refine⟨fun h=>?_,fun h=>?_⟩
 ·have hne:E2 x.addr≠m:=fun e=>by
   rw[e]at h
   simp at h
  rw[if_pos (.inr hne)]at hres
  subst hres
  refine oO ?_
  exact dN
 ·have heq:E2 x.addr=m:=by
   have:(E2 x.addr:Int)=(m:Int):=by simpa using h
   omega
  rw[if_neg (fun h=>h.elim qn (fun h2=>h2 heq))]at hres
  subst hres
  refine oO ?_
  exact dN
theorem Xt {n:Net} {i:Int} (h:Ag i n.irbs.length=true):InIrbs n i:=by
 have:=By h
 exact⟨this.1,by omega⟩
theorem Anu {p:PacketM} (h:PacketOK p):PacketOK (Afe p):=⟨h.tos,h.id,by have:=h.ttl;show p.ttl-1≤255;omega,h.proto,h.src,h.dst⟩
theorem Afa (p:PacketM):ipPutT (Afe p)=if 1480<p.body.length then ([],14) else (Q8 (Afe p),0):=rfl
theorem Ahx (n:Net) (hn:n.Fin) (hm0:n.Num) (irb:Int) (f:FrameM) (hf:FrameOK f) :
  Sy.Spec Tryz.prog 233 [Al n,Aa irb,B4 f] [] (.tup [Aa (hopT n irb f).1,B4 (hopT n irb f).2.1,Aa (hopT n irb f).2.2]) []:=cT F233 Tryz.ntmps233 fun F hF=>by
 have hres:=hopT.eq_1 n irb f
 generalize hopT n irb f=res at *
 have hr:=A9 n hn
 have hb:=hf.body
 conv=>whnf
 refine⟨fun h=>?_,fun h=>?_⟩
 ·have hp:Ag irb n.irbs.length=false:=by
   cases hx:Ag irb n.irbs.length
   ·rfl
   ·have:=By hx;have:=of_decide_eq_true h;omega
  rw[if_pos (.inl hp)]at hres
  subst hres
  (refine oT ?_;refine bT ?_)
  refine A8 7 zF E (.cons (.refl _) (.cons (.refl _) (.cons (.refl _) (.cons .nil .nil)))) ?_
  exact dN
 have h0:0≤irb:=qB h
 clear h
 refine oO ?_
 refine⟨fun h=>?_,fun h=>?_⟩
 ·have hp:Ag irb n.irbs.length=false:=by
   cases hx:Ag irb n.irbs.length
   ·rfl
   ·have:=By hx;have:=of_decide_eq_true h;omega
  rw[if_pos (.inl hp)]at hres
  subst hres
  refine oT ?_
  refine A8 7 zF E (.cons (.refl _) (.cons (.refl _) (.cons (.refl _) (.cons .nil .nil)))) ?_
  exact dN
 have h1:irb<n.irbs.length:=qB h
 clear h
 have hpl:Ag irb n.irbs.length=true:=Iy ⟨h0,h1⟩
 refine oO ?_
 refine c0 hr F23 ?_
 cases hbn:Ac n
 ·rw[if_pos (.inr hbn)]at hres
  subst hres
  refine oT ?_
  refine A8 7 zF E (.cons (.refl _) (.cons (.refl _) (.cons (.refl _) (.cons .nil .nil)))) ?_
  exact dN
 rw[if_neg (by simp[hbn,hpl])]at hres
 refine Ba 3 8 (Al n) E E E ?_
 refine Ba 5 4 (B4 f) E E E ?_
 refine oF ?_
 refine⟨fun h=>?_,fun h=>?_⟩
 ·rw[if_pos (by have:¬ (f.typ:Int)=2048:=(by simpa using h);omega)]at hres
  subst hres
  refine oO ?_
  refine A8 7 zF E (.cons (.refl _) (.cons (.refl _) (.cons (.refl _) (.cons .nil .nil)))) ?_
  exact dN
 rw[if_neg (by have:(f.typ:Int)=2048:=(by simpa using h);omega)]at hres
 clear h
 have q1:=Ags f.body qn
 have hok:=@Wi f.body
 generalize ipTakeT f.body=tk at *
 obtain ⟨p,e⟩:=tk
 dsimp only at hres q1 hok
 refine oO ?_
 refine c0 q1 F297 ?_
 refine oO ?_
 by_cases he:e=0
 rotate_left
 ·rw[if_pos he]at hres
  subst hres
  refine⟨fun h=>absurd (show e=0 by simpa using h) he,fun _=>?_⟩
  refine oO ?_
  refine⟨fun _=>?_,fun h=>absurd (show e=0 by simpa using h) he⟩
  refine oO ?_
  refine A8 7 zF E (.cons (.refl _) (.cons (.refl _) (.cons (.refl _) (.cons .nil .nil)))) ?_
  exact dN
 subst he
 rw[if_neg qy]at hres
 obtain ⟨hpo,hpb⟩:=hok rfl
 have hpt:=hpo.ttl
 have hpd:=hpo.dst
 have q2:=ipHopS p qn hpt
 (refine⟨fun _=>?_,fun h=>False.elim (absurd h qx)⟩;refine rg ?_;conv=>whnf)
 by_cases ht:p.ttl≤1
 ·rw[if_pos ht]at hres
  subst hres
  rw[hop1,if_pos ht]at q2
  refine c0 q2 F298 ?_
  refine oT ?_
  refine A8 7 zF E (.cons (.refl _) (.cons (.refl _) (.cons (.refl _) (.cons .nil .nil)))) ?_
  exact dN
 rw[if_neg ht]at hres
 rw[hop1,if_neg ht]at q2
 refine c0 q2 F298 ?_
 have q3:=Agp n hn hbn irb p.dst (Xt hpl)
 have hth:=fun h=>@Lt n irb p.dst h
 generalize lookT n irb p.dst=lk at *
 obtain ⟨to,ok⟩:=lk
 dsimp only at hres q3 hth
 refine oF ?_
 refine c0 q3 F271 ?_
 cases ok
 ·rw[if_pos rfl]at hres
  subst hres
  refine oT ?_
  refine A8 7 zF E (.cons (.refl _) (.cons (.refl _) (.cons (.refl _) (.cons .nil .nil)))) ?_
  exact dN
 rw[if_neg qx]at hres
 have hto:=hth rfl
 have hpp:=Afa p
 have q4:=Z6 (Afe p) (Anu hpo) (by show p.body.length<100000;omega)
 rw[hpp]at q4
 clear hpp
 by_cases hl:1480<p.body.length
 ·rw[if_pos hl]at hres q4
  subst hres
  refine oF ?_
  refine c0 q4 F43 ?_
  refine oT ?_
  refine A8 7 zF E (.cons (.refl _) (.cons (.refl _) (.cons (.refl _) (.cons .nil .nil)))) ?_
  exact dN
 rw[if_neg hl]at hres q4
 have ha:=hm0.addr _ (List.getElem_mem hto.2)
 rw[Ai hto.2]at hres
 obtain ⟨x,hx⟩:∃ x,n.irbs[to.toNat]'hto.2=x:=⟨_,rfl⟩
 rw[hx]at ha hres
 obtain ⟨a,hae⟩:=Int.eq_ofNat_of_zero_le ha.1
 have qh:=Yu a qn
 rw[← hae]at qh
 have qd:=Yu p.dst hpd
 subst hres
 refine oF ?_
 refine c0 q4 F43 ?_
 refine oF ?_
 refine⟨E,hto.1,hto.2,?_⟩
 rw[hx]
 conv=>whnf
 refine cD qd F44 ?_
 refine oD ?_
 refine⟨E,hto.1,hto.2,?_⟩
 rw[hx]
 conv=>whnf
 refine cD qh F44 ?_
 refine oD ?_
 refine kW ?_
 exact dN
end Go.Sy.YteinjapglfkamaaGreat
namespace Go.Sy.YteinjapglfkamaaGreat
open Go.Proofs
structure TabOK (t:List EntryM):Prop where
 short:Aj t
 mac:∀ e∈t,e.mac<18446744073709551616
 wh:∀ e∈t,I64 e.where_
structure QueuedOK (q:QueuedM):Prop where
 frame:FrameOK q.frame
 from_:-2≤q.from_∧q.from_<1099511627776
 peer:0≤q.peer∧q.peer<1099511627776
def Em (l:List QueuedM):Prop:=l.length≤64∧∀ q∈l,QueuedOK q
structure MacOK (n:Net) (m:MacM) (J D:Int):Prop where
 up:m.up.length=n.links.length
 tabs:m.tables.length=n.domains.length
 ques:m.queues.length=n.domains.length
 tab:∀ t∈m.tables,TabOK t
 que:∀ l∈m.queues,Em l
 now:0≤m.now∧m.now≤1099511627776
 inj:0≤m.injected∧m.injected≤J
 drp:∀ i,0≤m.drops i∧m.drops i≤D
theorem Es {f:FrameM} (hf:FrameOK f) {a b:Int} (c:Int) (h1:-2≤a∧a<1099511627776) (h2:0≤b∧b<1099511627776):QueuedOK ⟨a,b,c,f⟩:=⟨hf,h1,h2⟩
theorem Ak7:QueuedOK noQ:=⟨Ct,by decide,by decide⟩
theorem Tl:TabOK []:=⟨by unfold Aj;decide,fun _ h=>(by cases h),fun _ h=>(by cases h)⟩
theorem Uc:Em []:=⟨by decide,fun _ h=>(by cases h)⟩
theorem Z0 {α:Type} {l:List α} {i:Nat} {x y:α} (h:y∈l.set i x):y=x∨y∈l:=by
 rcases List.mem_or_eq_of_mem_set h with h | h
 ·exact .inr h
 ·exact .inl h
theorem Wt {α:Type} {l:List α} {i:Nat} {d:α} (h:i<l.length):(l[i]?).getD d∈l:=by
 rw[List.getElem?_eq_getElem h]
 exact List.getElem_mem h
theorem D2 {n:Net} {m:MacM} {J D:Int} (h:MacOK n m J D) (dom:Int):Em (queueL m dom):=by
 unfold queueL
 by_cases hd:dom.toNat<m.queues.length
 ·exact h.que _ (Wt hd)
 ·rw[List.getElem?_eq_none qn];exact Uc
theorem Td {n:Net} {m:MacM} {J D:Int} (h:MacOK n m J D) (dom:Int):TabOK (tableL m dom):=by
 unfold tableL
 by_cases hd:dom.toNat<m.tables.length
 ·exact h.tab _ (Wt hd)
 ·rw[List.getElem?_eq_none qn];exact Tl
theorem MacOK.mono {n:Net} {m:MacM} {J D J' D':Int} (h:MacOK n m J D) (h1:J≤J') (h2:D≤D'):MacOK n m J' D' :=
 ⟨h.up,h.tabs,h.ques,h.tab,h.que,h.now,⟨h.inj.1,by have:=h.inj.2;omega⟩,fun i=>⟨(h.drp i).1,by have:=(h.drp i).2;omega⟩⟩
theorem L7 {n:Net} {m:MacM} {J D:Int} (h:MacOK n m J D) (_hD:0≤D) (e:Int):MacOK n (B6 m e) J (D+1):=by
 refine⟨h.up,h.tabs,h.ques,h.tab,h.que,h.now,h.inj,fun i=>?_⟩
 have:=h.drp i
 show 0≤(if i=e.toNat then m.drops i+1 else m.drops i)∧(if i=e.toNat then m.drops i+1 else m.drops i)≤D+1
 split<;>omega
theorem Agf {n:Net} {m:MacM} {J D:Int} (h:MacOK n m J D) (dom:Int) {l:List QueuedM} (hl:Em l):MacOK n (Ahq m dom l) J D:=by
 refine⟨h.up,h.tabs,by rw[Ahq];simp[h.ques],h.tab,fun x hx=>?_,h.now,h.inj,h.drp⟩
 rcases Z0 hx with rfl | hx
 ·exact hl
 ·exact h.que x hx
theorem Age {n:Net} {m:MacM} {J D:Int} (h:MacOK n m J D) (dom:Int) {l:List EntryM} (hl:TabOK l):MacOK n (D7 m dom l) J D:=by
 refine⟨h.up,by rw[D7];simp[h.tabs],h.ques,fun x hx=>?_,h.que,h.now,h.inj,h.drp⟩
 rcases Z0 hx with rfl | hx
 ·exact hl
 ·exact h.tab x hx
theorem Aku {l:List QueuedM} (hl:Em l) {q:QueuedM} (hq:QueuedOK q):Em (pushT l q).1:=by
 unfold pushT
 split
 ·exact hl
 ·refine⟨by simp;omega,fun x hx=>?_⟩
  rcases List.mem_append.1 hx with hx | hx
  ·exact hl.2 x hx
  ·rw[List.mem_singleton.1 hx];exact hq
theorem Aj3 {l:List QueuedM} (hl:Em l) (at_:Int):QueuedOK (takeT l at_).1∧Em (takeT l at_).2.1:=by
 unfold takeT
 split
 ·exact⟨Ak7,hl⟩
 ·rename_i h
  refine⟨hl.2 _ (Wt qn),?_,fun x hx=>hl.2 x (List.mem_of_mem_eraseIdx hx)⟩
  have:=List.length_eraseIdx_le l at_.toNat
  have:=hl.1
  show (l.eraseIdx at_.toNat).length≤64
  omega
theorem Sw {n:Net} {m:MacM} {J D:Int} (h:MacOK n m J D) (hD:0≤D) (dom:Int) {q:QueuedM} (hq:QueuedOK q) (e:Int):MacOK n (comeM m dom q e) J (D+1):=by
 unfold comeM
 split
 ·exact L7 h hD e
 split
 ·exact(Agf h dom (Aku (D2 h dom) hq)).mono (Int.le_refl _) qn
 ·exact L7 h hD 3
theorem Vl {n:Net} {m:MacM} {J D:Int} (h:MacOK n m J D) (dom at_:Int):MacOK n (takeM m dom at_).1 J D∧QueuedOK (takeM m dom at_).2.1:=by
 unfold takeM
 split
 ·exact⟨h,Ak7⟩
 ·have:=Aj3 (D2 h dom) at_
  exact⟨Agf h dom this.2,this.1⟩
theorem Afd {n:Net} (hn:n.Fin) {m:MacM} {J D:Int} (h:MacOK n m J D) (_hJ:0≤J) (hD:0≤D) (port:Int) (b:List UInt8):MacOK n (injectT n m port b) (J+1) (D+1):=by
 unfold injectT
 split
 ·exact h.mono qn qn
 ·rename_i hc
  have hp:Ag port n.ports.length=true:=by cases hx:Ag port n.ports.length;exact absurd (.inl hx) hc;rfl
  have hpi:=By hp
  have hs:=hn.ports
  unfold Aj at hs
  have h1:=h.inj
  have hm:MacOK n ⟨m.up,m.tables,m.queues,m.now,m.injected+1,m.drops⟩ (J+1) D:=⟨h.up,h.tabs,h.ques,h.tab,h.que,h.now,(by show 0≤m.injected+1∧m.injected+1≤J+1;omega),h.drp⟩
  exact Sw hm hD _ (Es (Tv _ _ _) _ qn qn) _
structure OutOK (n:Net) (o:OutM):Prop where
 kind:1≤o.kind∧o.kind≤5
 bytes:o.bytes.length≤1518
 frame:o.kind=4→FrameOK o.frame∧DomIn n o.domain
 err:o.kind=5→Bj o.error
theorem Aid {n:Net} (hn:n.Fin) (port:Int):-1≤Cv n port∧Cv n port<2147483648:=by
 unfold Cv
 split
 ·rename_i h
  obtain ⟨⟨h1,h2⟩,h3,hb⟩:=h
  have hk:port.toNat<n.ports.length:=by omega
  rw[Ai hk]at h3 ⊢
  have hl:=(Ho hb hk h3).1
  rw[Ai hl]
  simp only[Ac,Bool.and_eq_true]at hb
  have hlb:=allB_iff.1 hb.1.1.1.1.2 _ hl
  simp only[Jz,Bool.and_eq_true]at hlb
  have ha:=By hlb.1.1.1.1
  have hb2:=By hlb.1.1.1.2
  have hs:=hn.ports
  unfold Aj at hs
  split<;>omega
 ·omega
theorem Acg {n:Net} (hn:n.Fin) (port:Int) (b:List UInt8):0≤(linkT n port b).1∧(linkT n port b).1<1099511627776:=by
 have:=Aid hn port
 unfold linkT
 split<;>dsimp only<;>omega
theorem Xa {n:Net} (hn:n.Fin) (b:List UInt8):0≤(comeT n b).1∧(comeT n b).1<1099511627776:=by
 by_cases h:(comeT n b).2.2.2=0
 ·have:=(Y7 h).1
  have hs:=hn.domains
  unfold Aj at hs
  unfold DomIn at this
  omega
 ·unfold comeT at h ⊢
  split
  ·decide
  rename_i h1
  rw[if_neg h1]at h
  split
  ·exact⟨Int.le_refl _,by dsimp only;omega⟩
  rename_i h1
  rw[if_neg h1]at h
  split
  ·decide
  rename_i h1
  rw[if_neg h1]at h
  split
  ·decide
  rename_i h1
  rw[if_neg h1]at h
  exact absurd E h
theorem Alw {n:Net} (hn:n.Fin) {m:MacM} {J D:Int} (h:MacOK n m J D) (hD:0≤D) {o:OutM} (ho:OutOK n o) (origin:Int):MacOK n (goesM n m o origin).1 J (D+1):=by
 unfold goesM
 split
 ·exact h.mono (Int.le_refl _) qn
 split
 ·have:=Acg hn o.port o.bytes
  exact Sw h hD _ (Es (Ach _ _ _) _ qn qn) _
 split
 ·exact Sw h hD _ (Es (Adf _ _) _ qn (Xa hn o.bytes)) _
 split
 ·rename_i h4
  exact Sw h hD o.domain (Es (a:=-2) (b:=0) (ho.frame h4).1 origin qx qx) 0
 ·exact L7 h hD _
theorem L3 {n:Net} (hn:n.Fin) (origin:Int):∀ (l:List OutM) {m:MacM} {J D:Int},MacOK n m J D→0≤D→(∀ o∈l,OutOK n o)→MacOK n (Bo n m origin l).1 J (D+l.length)
 | [],m,J,D,h,_,_=>by
  rw[Bo]
  exact h.mono (Int.le_refl _) qy
 | o::l,m,J,D,h,hD,ho=>by
  rw[Bo]
  have:=L3 hn origin l (Alw hn h hD (ho o qy) origin) qn (fun x hx=>ho x (by simp[hx]))
  exact this.mono (Int.le_refl _) (by simp only[List.length_cons];omega)
theorem Acd {n:Net} {o:OutM} {r:List UInt8 × Int} (hk:1≤o.kind∧o.kind≤3) (hr:r.1.length≤1518) (he:Bj r.2):OutOK n (Q4 o r):=by
 unfold Q4
 split
 ·exact⟨⟨by dsimp only;omega,by dsimp only;omega⟩,by simp,fun h=>absurd h (by dsimp only;omega),fun _=>he⟩
 ·exact⟨⟨hk.1,by have:=hk.2;dsimp only;omega⟩,hr,fun h=>by have:=hk.2;dsimp only at h;omega,fun h=>by have:=hk.2;dsimp only at h;omega⟩
theorem Ain {t:List EntryM} (h:TabOK t) {m:Nat} (hm:m<18446744073709551616) {wh:Int} (hw:I64 wh) (now:Int):TabOK (learnT t m wh now):=by
 have hs:=h.short
 unfold Aj at hs
 have key:∀ e:EntryM,e∈learnT t m wh now→e∈t∨e=⟨m,wh,now⟩:=fun e he=>by
  unfold learnT at he
  split at he
  ·exact .inl he
  split at he
  ·rcases Z0 he with h | h
   ·exact .inr h
   ·exact .inl h
  ·rcases List.mem_append.1 he with h | h
   ·split at h
    ·exact .inl (List.mem_of_mem_eraseIdx h)
    ·exact .inl h
   ·exact .inr (List.mem_singleton.1 h)
 refine⟨?_,fun e he=>?_,fun e he=>?_⟩
 ·unfold learnT
  split
  ·exact h.short
  rename_i hb
  have h8:t.length≤8:=by
   have:tableB t=true:=by cases hx:tableB t;exact absurd (.inl hx) hb;rfl
   simp only[tableB,Bool.and_eq_true,decide_eq_true_eq]at this
   exact this.1
  split
  ·unfold Aj;simp;omega
  ·unfold Aj
   split
   ·have:=List.length_eraseIdx_le t (oldestU t t.length)
    simp only[List.length_append,List.length_cons,List.length_nil]
    omega
   ·simp only[List.length_append,List.length_cons,List.length_nil]
    omega
 ·rcases key e he with h1 | rfl
  ·exact h.mac e h1
  ·exact hm
 ·rcases key e he with h1 | rfl
  ·exact h.wh e h1
  ·exact hw
theorem Mm {t:List EntryM} (h:TabOK t) {q:QueuedM} (hq:QueuedOK q) (now:Int):TabOK (learnQ t q now):=by
 unfold learnQ
 split
 ·exact h
 ·have hs:=hq.frame.src
  refine Ain h qn ?_ now
  have h1:=hq.from_
  have h2:=hq.peer
  unfold I64
  split<;>omega
theorem Aob {t:List EntryM} (h:TabOK t) (now:Int):TabOK (ageT t now):=by
 unfold ageT
 split
 ·exact h
 ·have hs:=h.short
  unfold Aj at hs
  refine⟨?_,fun e he=>h.mac e (List.mem_filter.1 he).1,fun e he=>h.wh e (List.mem_filter.1 he).1⟩
  unfold Aj
  exact Nat.lt_of_le_of_lt (List.length_filter_le _ _) hs
theorem Ab9 (n:Net) (dom:Int):(A0 n dom).length≤n.ports.length:=by
 rw[A0]
 have:=D4 (Og n (nth n.domains dom)) n.ports.length
 exact this
end Go.Sy.YteinjapglfkamaaGreat
namespace Go.Sy
theorem VwL.get {s:SS} {V:List Nat}:∀ {l m:List SV} (_:VwL s V l m) {i:Nat} {y:SV},Dv m i=some y→∃ x,Dv l i=some x∧Vw s V x y
 | _,_,.nil,i,y,h=>by cases i<;>simp[Dv]at h
 | _,_,.cons (x:=x) h0 hs,0,y,h=>by
  simp only[Dv,Option.some.injEq]at h
  subst h
  exact⟨x,E,h0⟩
 | _,_,.cons h0 hs,i+1,y,h=>VwL.get hs (i:=i) h
theorem VwL.len {s:SS} {V:List Nat}:∀ {l m:List SV} (_:VwL s V l m),m.length=l.length
 | _,_,.nil=>rfl
 | _,_,.cons _ hs=>by simp[VwL.len hs]
theorem Y5:∀ {l:List SV} {i:Nat} {x:SV},J6 l=true→Dv l i=some x→x.data=true
 | [],i,x,_,h=>by cases i<;>simp[Dv]at h
 | y::l,0,x,hd,h=>by
  simp only[Dv,Option.some.injEq]at h
  subst h
  simp only[J6,Bool.and_eq_true]at hd
  exact hd.1
 | y::l,i+1,x,hd,h=>by
  simp only[J6,Bool.and_eq_true]at hd
  exact Y5 hd.2 (i:=i) h
theorem Aau {C:Cx} {k:List KI} {s:SS} (d:Nat) {sz:Nat} {svs:List SV} (svs':List SV) (h:s.h d=.lit sz svs) (hv:VwL s [] svs svs') (hd:J6 svs'=true) (hg:G C k ⟨s.σ,upd s.h d (.lit sz svs')⟩):G C k s:=fun κ a w hs=>by
 refine hg κ a w ⟨hs.defers,hs.size,hs.inv,hs.ctx,hs.slot,fun j=>?_⟩
 show ObOK κ w j (upd s.h d (.lit sz svs') j)
 by_cases hj:j=d
 ·subst hj
  rw[Bc]
  have hob:=hs.obj j
  rw[h]at hob
  have hlen:=hv.len
  obtain ⟨b,cap,cs,T,fr,e1,e2,e3,e4,e5,e6⟩:=hob
  refine⟨b,cap,cs,T,fr,by rw[hlen];exact e1,e2,e3,e4,by omega,fun i x hx=>?_⟩
  obtain ⟨y,hy,hvw⟩:=hv.get hx
  obtain ⟨f1,u,f2,f3⟩:=e6 i y hy
  exact⟨by omega,u,Rd.data _ _ (Y5 hd hx) (hvw.rd hs.inv (fun n hn=>by cases hn) f2.toRd),f3⟩
 ·rw[Bv _ _ hj];exact hs.obj j
theorem RdL.setI {κ:Ka} {w:World} {x:SV} {v:Value} (hx:Rd κ w x v):∀ {l:List SV} {cs:List Value} (i:Nat),RdL κ w l cs→RdL κ w (l.set i x) (cs.set i v)
 | [],cs,i,h=>by simp only[RdL]at h;subst h;simp[RdL]
 | y::l,cs,0,h=>by
  simp only[RdL]at h
  obtain ⟨u,r,rfl,h1,h2⟩:=h
  simp only[List.set_cons_zero,RdL]
  exact⟨v,r,E,hx,h2⟩
 | y::l,cs,i+1,h=>by
  simp only[RdL]at h
  obtain ⟨u,r,rfl,h1,h2⟩:=h
  simp only[List.set_cons_succ,RdL]
  exact⟨u,_,E,h1,h2.setI hx i⟩
theorem Hp {κ:Ka} {w:World} {k:Nat} {l:List SV} (hi:Inv κ w) (h:ObOK κ w k (.box l)) {off:Nat} {x:SV} {v:Value} (_hx:x.plain=true) (hv:∀ κ w,Rd κ w x v) (h1:v.oneCell'=true) :
  ∃ b,κ k=.blk b∧(∀ j y,Dv l j=some y→∃ u,w.cell? ⟨b,j,none⟩=some u∧Rd κ w y u)∧(∀ j,j<l.length→w.frozen? ⟨b,j,none⟩=false) ∧
   Step (·=k) κ w κ (w.setCell ⟨b,off,none⟩ v)∧Inv κ (w.setCell ⟨b,off,none⟩ v)∧ObOK κ (w.setCell ⟨b,off,none⟩ v) k (.box (l.set off x)):=by
 obtain ⟨b,cs,T,fr,e1,e2,e3,e4,e5⟩:=h
 have hsame:(w.setCell ⟨b,off,none⟩ v).heap[b]? = some (.cells (cs.set off v).toArray T fr):=by
  simp[World.setCell,Array.getElem?_modify,e2]
 have hoth:∀ j,j≠b→(w.setCell ⟨b,off,none⟩ v).heap[j]? = w.heap[j]?:=fun j hj=>heap_setCell_other w ⟨b,off,none⟩ j v hj
 obtain ⟨st,inv⟩:=Kf (w':=w.setCell ⟨b,off,none⟩ v) hi (k:=k) (b:=b) (by rw[e1];rfl) rfl rfl rfl qy hoth
 have hlen:=e5.length
 refine⟨b,e1,fun j y hy=>?_,fun j hj=>?_,st,inv,b,_,T,fr,e1,hsame,by rw[List.length_set];exact e3,?_,(RdL.step st _ _ e5).setI (hv _ _) off⟩
 ·obtain ⟨u,hu,hr⟩:=e5.get hy
  exact⟨u,by rw[cell_of_row w b j cs.toArray T fr e2,List.getElem?_toArray];exact hu,hr⟩
 ·obtain ⟨lo,hi'⟩:=fr
  simp only[World.frozen?,e2]
  rcases e3 with h | h
  ·simp only at h;subst h;simp
  ·simp only at h;simp;omega
 ·intro c hc
  rcases List.mem_or_eq_of_mem_set hc with h | h
  ·exact e4 c h
  ·rw[h];exact h1
theorem X5 {P:Program} {o:Oper} {s:SS} {f:FuncId} {ik:IntKind} {ts:Array TypeId} {x:Operand} {k off:Nat} {l:List SV} {v:Int}
  (hf:∀ (a:Addr) (x:Int) (w:World),w.cell? a=some (.int ik x)→(callFunc f #[.pointer (some a)]).run P w=.ok (.value (.int ik x)) w)
  (h:o.op=.call ⟨.value (.func f),#[x],ts⟩) (hx:ev s x=.ptr k off) (hk:s.h k=.box l) (hy:Dv l off=some (.val (.int ik v))):Good P o s ⟨.val (.int ik v),[k],[]⟩ :=
 Good.pure fun κ a w hi hr ho=>by
  have h1:=hr x (by simp[h,Op.operands,Call.operands])
  rw[hx]at h1
  have h2:=ho k qy
  rw[hk]at h2
  obtain ⟨b,cs,T,fr,e1,e2,e3,e4,e5⟩:=h2
  simp only[Rd,e1]at h1
  obtain ⟨u,hu,hr2⟩:=e5.get hy
  have hc:w.cell? ⟨b,off,none⟩=some (.int ik v):=by rw[cell_of_row w b off cs.toArray T fr e2,List.getElem?_toArray,hu,hr2.val]
  have hrun:=hf ⟨b,off,none⟩ v w hc
  refine⟨.int ik v,?_,by simp only[Rd]⟩
  have hev:a.eval (.func f)=.func (.func f) #[] #[]:=rfl
  simp[execOp,h,resolve,hev,Deferred.ofValue,invoke,h1,hrun]
theorem Z8 {P:Program} {o:Oper} {s:SS} {f:FuncId} {ts:Array TypeId} {x y:Operand} {k off:Nat} {l:List SV} {v d:Int}
  (hf:∀ (a:Addr) (x y:Int) (w:World),w.cell? a=some (.int .i64 x)→w.frozen? a=false→(callFunc f #[.pointer (some a),.int .i64 y]).run P w=.ok (.value (.int .i64 (IntKind.i64.wrap (x+y)))) (w.setCell a (.int .i64 (IntKind.i64.wrap (x+y)))))
  (h:o.op=.call ⟨.value (.func f),#[x,y],ts⟩) (hx:ev s x=.ptr k off) (hy:ev s y=.val (.int .i64 d)) (hk:s.h k=.box l) (hl:Dv l off=some (.val (.int .i64 v))) (hv:IntKind.i64.wrap (v+d)=v+d) :
  Good P o s ⟨.val (.int .i64 (v+d)),[],[(k,.box (l.set off (.val (.int .i64 (v+d)))))]⟩:=by
 intro κ a w hi hr ho N Q hN
 have h1:=hr x (by simp[h,Op.operands,Call.operands])
 have h2:=hr y (by simp[h,Op.operands,Call.operands])
 rw[hx]at h1
 rw[hy]at h2
 have h3:=ho k (.inr (by simp[Up.ws]))
 rw[hk]at h3
 obtain ⟨b,e1,c1,c2,st,inv,ob⟩:=Hp (off:=off) (x:=.val (.int .i64 (v+d))) (v:=.int .i64 (v+d)) hi h3 rfl (fun _ _=>by simp only[Rd]) rfl
 simp only[Rd,e1]at h1
 obtain ⟨u,hu,hr2⟩:=c1 off _ hl
 rw[hr2.val]at hu
 have hrun:=hf ⟨b,off,none⟩ v d w hu (c2 off (U6 hl))
 rw[hv]at hrun
 have hrun2:(execOp a.eval o).run P w=.ok (.value (.int .i64 (v+d))) (w.setCell ⟨b,off,none⟩ (.int .i64 (v+d))):=by
  have hev:a.eval (.func f)=.func (.func f) #[] #[]:=rfl
  simp[execOp,h,resolve,hev,Deferred.ofValue,invoke,h1,h2.val,hrun]
 simp only[Oper.wp,hrun2,Oper.upon]
 refine hN _ κ _ (st.weaken (by simp[Up.ws])) inv (by simp only[Rd]) (fun p hp=>?_)
 simp only[List.mem_singleton]at hp
 subst hp
 exact ob
theorem X6 {P:Program} (Γ:Ty P) {o:Oper} {s:SS} (q:Nat) {t:TypeId} {ti:TI} {et:TypeId} {eb b n cap lo k c1 c2:Nat} {ez:List Value} {x y:Operand} {α:Type} {e:α→SV} {l:List α} {B B2:Option Addr}
  (h:o.op=.call ⟨.builtin .copy,#[x,y],#[t,t]⟩) (ht:Γ.get t=some ti) (hk:ti.k=.slice et 1 eb ez) (hx:ev s x=.val (.slice B (n-lo) c1)) (hB:B=some ⟨b,lo,none⟩) (hy:ev s y=.val (.slice B2 k c2)) (hB2:B2=some ⟨b,0,none⟩)
  (hq:s.h q=.pin b n cap 1 e l) (hl:l.length=n) (hk2:k≤n) (hpos:0<min k (n-lo)) :
  Good P o s ⟨.val (.int .i64 (min k (n-lo):Nat)),[],[(q,.pin b n cap 1 e (l.take lo++l.take (min k (n-lo))++l.drop (lo+min k (n-lo))))]⟩:=by
 intro κ a w hinv hr ho N Q hN
 have r1:=hr x (by simp[h,Op.operands,Call.operands])
 have r2:=hr y (by simp[h,Op.operands,Call.operands])
 rw[hx]at r1
 rw[hy]at r2
 subst hB
 subst hB2
 have hob:=ho q (.inr (by simp[Up.ws]))
 rw[hq]at hob
 obtain ⟨e0,b',cap',cs,T,fr,e1,e2,e3,e4,e5,e6⟩:=hob
 rw[e0]at e1
 cases e1
 obtain ⟨hu,ii,zv,q1,q2,q3,q4,q5⟩:=Bw Γ ht hk
 obtain ⟨mn,hmn⟩:∃ mn,min k (n-lo)=mn:=⟨_,rfl⟩
 rw[hmn]at hpos hN
 have hnc:n≤cs.length:=by omega
 have hall:∀ i,i<n→∃ u:Value,u.cells.size=1∧Ones u.cells.toList∧∀ j,j<1→cs[i * 1+j]? = u.cells[j]?:=fun i hi=>by
  obtain ⟨_,u,_,u2⟩:=e6 i (e l[i]) ⟨by omega,rfl⟩
  exact⟨u,u2⟩
 obtain ⟨news,hnews⟩:∃ news,news=cs.take mn:=⟨_,rfl⟩
 have hnl:news.length=mn:=by rw[hnews,List.length_take];omega
 have hget:∀ p,p<mn→news[p]? = cs[p]?:=fun p hp=>by rw[hnews,List.getElem?_take,if_pos hp]
 have hones:Ones news:=fun v hv=>by
  obtain ⟨p,hp,he⟩:=List.getElem_of_mem hv
  have h1:news[p]? = some v:=by rw[List.getElem?_eq_getElem hp,he]
  rw[hnl]at hp
  rw[hget p hp]at h1
  exact Abh (n:=n) hall qn h1
 obtain ⟨w',f1,f2,f3,f4,f5,f6,f7⟩:=B9 P b lo T fr news 0 cs w e2 e3 qn hones
 obtain ⟨st,inv⟩:=Lg hinv e0 f3 f4 f5 f6 f7
 have hcell:∀ p v,cs[p]? = some v→w.cell? ⟨b,p,none⟩=some v:=fun p v hp=>by simp[World.cell?,e2,hp]
 have hc:=Y6 (P:=P) w w' t t o.type et ⟨b,lo,none⟩ ⟨b,0,none⟩ (n-lo) c1 k c2 news hu q1 q2 (by rw[hnl,hmn]) (fun j v hv=>by
  rw[Addr.add_lit]
  have hlt:j<mn:=by rw[← hnl];exact(List.getElem?_eq_some_iff.1 hv).1
  rw[hget j hlt]at hv
  rw[Nat.zero_add]
  exact hcell _ _ hv) f1
 rw[hnl]at hc
 have hrun:(execOp a.eval o).run P w=.ok (.value (.int .i64 (mn:Nat))) w':=by
  simp[execOp,h,resolve,invoke,builtin,r1.val,r2.val,hc]
 simp only[Oper.wp,hrun,Oper.upon]
 refine hN _ κ w' (st.weaken (fun k hk=>by subst hk;simp[Up.ws])) inv (by simp only[Rd]) (fun p hp=>?_)
 simp only[List.mem_singleton]at hp
 subst hp
 refine⟨e0,b,cap,_,T,fr,e0,f2,by rw[Bn];exact e3,by rw[Bn];exact e4,e5,?_⟩
 rintro i z ⟨hi0,rfl⟩
 have hset:=Ia cs news (lo+0)
 have hlen:(l.take lo++l.take mn++l.drop (lo+mn)).length=n:=by
  simp only[List.length_append,List.length_take,List.length_drop];omega
 rw[hlen]at hi0
 have src:∀ j (hj:j<l.length),∃ u:Value,RdD (Own κ) w (e l[j]) u∧u.cells.size=1∧Ones u.cells.toList∧∀ p,p<1→cs[j * 1+p]? = u.cells[p]?:=fun j hj=>(e6 j (e l[j]) ⟨hj,rfl⟩).2
 by_cases hi1:i<lo
 ·obtain ⟨u,u1,u2,u3,u4⟩:=src i qn
  refine⟨hi0,u,?_,u2,u3,fun p hp=>?_⟩
  ·have:(l.take lo++l.take mn++l.drop (lo+mn))[i]'(by rw[hlen];exact hi0)=l[i]'qn:=by
    rw[List.getElem_append_left (by simp only[List.length_append,List.length_take];omega),List.getElem_append_left (by simp only[List.length_take];omega),List.getElem_take]
   rw[this]
   exact RdD.keep st.keeps _ _ u1
  ·rw[hset _ qn,if_neg qn,u4 p hp]
 ·by_cases hi2:i<lo+mn
  ·obtain ⟨u,u1,u2,u3,u4⟩:=src (i-lo) qn
   refine⟨hi0,u,?_,u2,u3,fun p hp=>?_⟩
   ·have:(l.take lo++l.take mn++l.drop (lo+mn))[i]'(by rw[hlen];exact hi0)=l[i-lo]'qn:=by
     rw[List.getElem_append_left (by simp only[List.length_append,List.length_take];omega),List.getElem_append_right (by simp only[List.length_take];omega),List.getElem_take]
     congr 1
     simp only[List.length_take];omega
    rw[this]
    exact RdD.keep st.keeps _ _ u1
   ·rw[hset _ qn,if_pos qn,hget _ qn,← u4 p hp]
    congr 1
    omega
  ·obtain ⟨u,u1,u2,u3,u4⟩:=src i qn
   refine⟨hi0,u,?_,u2,u3,fun p hp=>?_⟩
   ·have:(l.take lo++l.take mn++l.drop (lo+mn))[i]'(by rw[hlen];exact hi0)=l[i]'qn:=by
     rw[List.getElem_append_right (by simp only[List.length_append,List.length_take];omega),List.getElem_drop]
     congr 1
     simp only[List.length_append,List.length_take];omega
    rw[this]
    exact RdD.keep st.keeps _ _ u1
   ·rw[hset _ qn,if_neg qn,u4 p hp]
end Go.Sy
namespace Go.Sy.YteinjapglfkamaaGreat
open Go.Proofs
attribute [local irreducible] Go.Sy.G Go.Sy.DR
set_option maxRecDepth 100000
set_option maxHeartbeats 4000000
theorem Xf (m:Nat) (h:m<4294967296):bits .and .u64 (m:Int) 4294967295=(m:Int):=by
 have:=bits_and_u64_nat m 4294967295 qn qx
 rw[show ((4294967295:Nat):Int)=4294967295 from rfl]at this
 rw[this]
 have h2:=Nat.and_two_pow_sub_one_eq_mod m 32
 rw[show 2 ^ 32-1=4294967295 from rfl,show 2 ^ 32=4294967296 from rfl]at h2
 rw[h2,Nat.mod_eq_of_lt h]
theorem Aec (m:Nat) (h:m<4294967296):(m:Int).fdiv (2 ^ (min (Int.toNat 32) IntKind.u64.bits))=0:=by
 show (m:Int).fdiv 4294967296=0
 rw[Int.fdiv_eq_ediv_of_nonneg _ qx]
 omega
theorem mul64S (m:Nat) (h:m<4294967296):Sy.Spec Tryz.prog 218 [A5 1,A5 m] [] (.tup [A5 0,A5 m]) []:=cT F218 Tryz.ntmps218 fun F hF=>by
 have e0:bits .and .u64 1 4294967295=1:=Xf 1 qx
 have e1:(1:Int).fdiv (2 ^ (min (Int.toNat 32) IntKind.u64.bits))=0:=Aec 1 qx
 have e2:=Xf m h
 have e3:=Aec m h
 have w1:IntKind.u64.wrap (1 * (m:Int))=m:=by rw[IntKind.wrap_u64];omega
 have w0:IntKind.u64.wrap (0 * (m:Int))=0:=by rw[IntKind.wrap_u64];omega
 have z0:IntKind.u64.wrap (0+0)=0:=rfl
 have a0:bits .and .u64 0 4294967295=0:=Xf 0 qx
 have s0:(0:Int).fdiv (2 ^ (min (Int.toNat 32) IntKind.u64.bits))=0:=Aec 0 qx
 conv=>whnf
 rw[e0]
 refine⟨by decide,?_⟩
 rw[e1]
 conv=>whnf
 rw[e2]
 refine⟨by decide,?_⟩
 rw[e3]
 conv=>whnf
 rw[w1,w0]
 refine⟨by decide,?_⟩
 rw[e3]
 conv=>whnf
 rw[z0,a0]
 refine⟨by decide,?_⟩
 rw[s0]
 conv=>whnf
 refine⟨by decide,?_⟩
 conv=>whnf
 refine Am E (.cons .tmp (.cons .tmp .nil)) ?_ E
 refine congrArg (fun z:Int=>SV.tup [A5 0,A5 z]) ?_
 exact w1.symm
theorem mulS (m:Nat) (h:m<4294967296):Sy.Spec Tryz.prog 159 [A5 1,A5 m] [] (.tup [A5 0,A5 m]) []:=cT F159 Tryz.ntmps159 fun F hF=>by
 ((conv=>whnf);refine aF ?_;refine rg ?_;conv=>whnf)
 refine c0 (mul64S m h) F218 ?_
 refine oO ?_
 exact dN
def Id (m k:Nat):List Bool:=List.replicate k true++List.replicate (m-k) false
theorem Lm (m k:Nat) (h:k≤m):(Id m k).length=m:=by simp[Id];omega
theorem Akp (m:Nat):Id m m=List.replicate m true:=by simp[Id]
theorem Ah2 (m k c:Nat) (_h:k≤m) (hc:c=min k (m-k)):(Id m k).take k++(Id m k).take c++(Id m k).drop (k+c)=Id m (k+c):=by
 have e1:(Id m k).take k=List.replicate k true:=by
  rw[Id,List.take_append_of_le_length qy];simp
 have e2:(Id m k).take c=List.replicate c true:=by
  rw[Id,List.take_append_of_le_length (by simp;omega)];simp;omega
 have e3:(Id m k).drop (k+c)=List.replicate (m-(k+c)) false:=by
  rw[Id,List.drop_append,List.drop_eq_nil_of_le qy,List.nil_append]
  simp
  omega
 rw[e1,e2,e3,Id,List.replicate_append_replicate]
theorem Agj (m:Nat) (h:m<2147483648):Sy.Spec Tryz.prog 111 [.sl 1 Ab [true],Aa m] [] (.sl 1 Ab (List.replicate m true)) []:=cT F111 Tryz.ntmps111 fun F hF=>by
 have hw:IntKind.u64.wrap (m:Int)=m:=by rw[IntKind.wrap_u64];omega
 have hw2:IntKind.i64.wrap (m:Int)=m:=by rw[IntKind.wrap_i64];omega
 have q:=mulS m qn
 rw[← hw]at q
 ((conv=>whnf);refine aF ?_;refine rg ?_;conv=>whnf)
 refine c0 q F159 ?_
 rw[hw]
 refine oF ?_
 refine⟨fun h1=>absurd (of_decide_eq_true h1) qn,fun _=>?_⟩
 refine oO ?_
 rw[hw2]
 refine Ad (Bh Γ.toTy (d:=30) (n:=m) Ab false E E E E E E E E qn qn E E E) E E ?_
 refine oO ?_
 refine Ad (Tp Γ.toTy (l:=List.replicate m false) (m:=[true]) E E E E E .sl) E E ?_
 have e0:[true].take (List.replicate m false).length++(List.replicate m false).drop [true].length=Id m (min 1 m):=by
  cases m with
  | zero=>rfl
  | succ m=>simp[Id,Nat.min_eq_left,List.replicate_succ]
 have e1:min [true].length (List.replicate m false).length=min 1 m:=by simp
 rw[e0,e1]
 refine oO ?_
 refine Vc (fun k:Nat=>min 1 m≤k∧k≤m) (fun k=>[(7,.osl 30),(8,Aa k)]) (fun k=>[(30,.row 1 Ab (Id m k))]) (fun k=>m-k) (min 1 m) [] qn ⟨⟨E,E,E,E,Y⟩,⟨.inl E,E,Y⟩,E,E⟩ ?_
 intro k hk
 have hl:=Lm m k hk.2
 refine oO ?_
 refine⟨fun h1=>?_,fun h1=>?_⟩
 ·have hlt:k<m:=by have:=of_decide_eq_true h1;rw[hl]at this;omega
  clear h1
  have hk1:1≤k:=by omega
  have hne:Id m k≠[]:=fun e=>by rw[e]at hl;simp at hl;omega
  refine Ag8 30 [7] E hne (fun i hi=>by simp at hi;subst hi;rfl) ?_
  intro b cap hc
  rw[hl]at hc ⊢
  have hcl:¬ cap=k:=by omega
  have hcp:=Ah2 m k (min k (m-k)) hk.2 rfl
  refine oO ?_
  refine Bk (Co (lo:=k) (hi:=m) Γ.toTy E E E E (.inr ⟨_,_,E,E⟩) (.inl ⟨E,E⟩) qn qn) qq E ?_
  refine oD ?_
  refine Bk (Co (lo:=0) (hi:=k) Γ.toTy E E E E (.inl ⟨E,E⟩) (.inr ⟨_,_,E,E⟩) qn qn) qq E ?_
  refine oD ?_
  refine Bk (X6 Γ.toTy 30 (lo:=k) (k:=k) E E E E (by rw[if_neg hcl,Nat.mul_one]) E (by rw[if_neg qn,Nat.zero_mul]) E hl qn qn) qq E ?_
  refine oD ?_
  refine iW ?_
  refine kW ?_
  refine Vd 30 31 [7] m E E (by rw[hcp,Lm m _ qn];exact Nat.le_refl _) (fun i hi=>by simp at hi;subst hi;rfl) ?_
  have hfin:((Id m k).take k++(Id m k).take (min k (m-k))++(Id m k).drop (k+min k (m-k))).take m=Id m (k+min k (m-k)):=by
   rw[hcp,List.take_of_length_le (by rw[Lm m _ qn];exact Nat.le_refl _)]
  exact Iv (k+min k (m-k)) [(30,31)] qn qn ⟨⟨E,E,E,E,Y⟩,⟨.inl (congrArg (Ob.row 1 Ab) hfin.symm),E,Y⟩,E,E⟩
 ·have hkm:k=m:=by have:=of_decide_eq_false h1;rw[hl]at this;omega
  subst hkm
  rw[Akp]
  refine oO ?_
  refine Aq 30 E ?_
  exact dN
def Jm (t:List EntryM):SV:=.sl 3 Av t
def K4 (l:List QueuedM):SV:=.sl 7 Bg l
def Li (n:Net) (k:Nat) (now inj:Int) (d:Nat→Int):List SV :=
 [.sl 5 Bf n.devices,.sl 7 A2 n.ports,.sl 3 Cb n.links,.sl 6 Ao n.domains,.sl 4 Bd n.statics,.sl 4 Bs n.floods,.sl 5 Cn n.vrfs,.sl 5 Ca n.irbs,.ptr k 0,.osl 2,.osl 3,.val (.int .i64 now),.val (.int .i64 inj),
 .val (.int .i64 (d 0)),.val (.int .i64 (d 1)),.val (.int .i64 (d 2)),.val (.int .i64 (d 3)),.val (.int .i64 (d 4)),.val (.int .i64 (d 5)),.val (.int .i64 (d 6)),.val (.int .i64 (d 7)),.val (.int .i64 (d 8)),.val (.int .i64 (d 9)),.val (.int .i64 (d 10)),.val (.int .i64 (d 11)),.val (.int .i64 (d 12)),.val (.int .i64 (d 13)),.val (.int .i64 (d 14)),.val (.int .i64 (d 15)),.val (.int .i64 (d 16)),.val (.int .i64 (d 17)),.val (.int .i64 (d 18)),.val (.int .i64 (d 19)),.val (.int .i64 (d 20)),.val (.int .i64 (d 21)),.val (.int .i64 (d 22)),.val (.int .i64 (d 23)),.val (.int .i64 (d 24)),.val (.int .i64 (d 25)),.val (.int .i64 (d 26)),.val (.int .i64 (d 27)),.val (.int .i64 (d 28)),.val (.int .i64 (d 29)),.val (.int .i64 (d 30)),.val (.int .i64 (d 31)),.val (.int .i64 (d 32)),.val (.int .i64 (d 33)),.val (.int .i64 (d 34)),.val (.int .i64 (d 35)),.val (.int .i64 (d 36)),.val (.int .i64 (d 37)),.val (.int .i64 (d 38)),.val (.int .i64 (d 39)),.val (.int .i64 (d 40)),.val (.int .i64 (d 41)),.val (.int .i64 (d 42)),.val (.int .i64 (d 43)),.val (.int .i64 (d 44)),.val (.int .i64 (d 45)),.val (.int .i64 (d 46)),.val (.int .i64 (d 47)),.val (.int .i64 (d 48)),.val (.int .i64 (d 49)),.val (.int .i64 (d 50)),.val (.int .i64 (d 51)),.val (.int .i64 (d 52)),.val (.int .i64 (d 53)),.val (.int .i64 (d 54)),.val (.int .i64 (d 55)),.val (.int .i64 (d 56)),.val (.int .i64 (d 57)),.val (.int .i64 (d 58)),.val (.int .i64 (d 59)),.val (.int .i64 (d 60)),.val (.int .i64 (d 61)),.val (.int .i64 (d 62)),.val (.int .i64 (d 63))]
def onceL (up:List Bool) (done:Int) (fw:List Bool):List SV:=[.sl 1 Ab up,.val (.int .u32 done),.val (.int .i32 0),.val (.int .u32 0),.sl 1 Ab fw]
def Hj (n:Net) (up:List Bool) (d:Bool):List SV:=onceL up (if d then 1 else 0) (if d then J4 n up else [])
def Cp (n:Net) (m:MacM) (d:Bool):Obs:=[(0,.box (Li n 1 m.now m.injected m.drops)),(1,.box (Hj n m.up d)),(2,.row 1 Jm m.tables),(3,.row 1 K4 m.queues)]
theorem getI_map (f:Nat→SV):∀ (k a n:Nat),k<n→Dv ((List.range' a n).map f) k=some (f (a+k))
 | 0,a,n+1,_=>rfl
 | k+1,a,n+1,h=>by
  show Dv ((List.range' (a+1) n).map f) k=_
  rw[getI_map f k (a+1) n qn]
  congr 2;omega
theorem Agd (f:Nat→SV) (x:SV):∀ (k a n:Nat),((List.range' a n).map f).set k x=(List.range' a n).map (fun i=>if i=a+k then x else f i)
 | _,_,0=>rfl
 | 0,a,n+1=>by
  show x::(List.range' (a+1) n).map f=(if a=a+0 then x else f a)::(List.range' (a+1) n).map _
  rw[if_pos qn]
  congr 1
  apply List.map_congr_left
  intro i hi
  have:=(List.mem_range'_1.1 hi).1
  rw[if_neg qn]
 | k+1,a,n+1=>by
  show f a::((List.range' (a+1) n).map f).set k x=(if a=a+(k+1) then x else f a)::(List.range' (a+1) n).map _
  rw[if_neg qn,Agd f x k (a+1) n]
  congr 1
  apply List.map_congr_left
  intro i _
  rw[show a+1+k=a+(k+1) by omega]
theorem Ox (n:Net) (k:Nat) (now inj:Int) (d:Nat→Int):Li n k now inj d =
  .sl 5 Bf n.devices::.sl 7 A2 n.ports::.sl 3 Cb n.links::.sl 6 Ao n.domains::.sl 4 Bd n.statics::.sl 4 Bs n.floods::.sl 5 Cn n.vrfs::.sl 5 Ca n.irbs::.ptr k 0::.osl 2::.osl 3::.val (.int .i64 now)::.val (.int .i64 inj) ::
   (List.range' 0 64).map (fun i=>.val (.int .i64 (d i))):=rfl
theorem Aki (n:Net) (k:Nat) (now inj:Int) (d:Nat→Int) (e:Nat) (he:e<64):Dv (Li n k now inj d) (13+e)=some (.val (.int .i64 (d e))):=by
 rw[Ox,Nat.add_comm]
 show Dv ((List.range' 0 64).map (fun i=>SV.val (.int .i64 (d i)))) e=_
 rw[getI_map _ e 0 64 he,Nat.zero_add]
theorem Akh (n:Net) (k:Nat) (now inj:Int) (d:Nat→Int) (e:Nat) (v:Int):(Li n k now inj d).set (13+e) (.val (.int .i64 v))=Li n k now inj (fun i=>if i=e then v else d i):=by
 rw[Ox,Ox,Nat.add_comm]
 have h:=Agd (fun i=>SV.val (.int .i64 (d i))) (.val (.int .i64 v)) e 0 64
 have h2:(fun i=>if i=0+e then SV.val (.int .i64 v) else SV.val (.int .i64 (d i)))=(fun i=>SV.val (.int .i64 (if i=e then v else d i))):=by
  funext i
  rw[Nat.zero_add]
  split<;>rfl
 rw[h2]at h
 rw[← h]
 rfl
theorem add64 (a:Addr) (x y:Int) (w:World) (hc:w.cell? a=some (.int .i64 x)) (hz:w.frozen? a=false):(callFunc 307 #[.pointer (some a),.int .i64 y]).run Tryz.prog w=.ok (.value (.int .i64 (IntKind.i64.wrap (x+y)))) (w.setCell a (.int .i64 (IntKind.i64.wrap (x+y)))) :=
 run_call_add Tryz.func307 qq qq qq .i64 qq hc hz rfl
theorem Ahp (n:Net) (k:Nat) (m:MacM) (e:Int):Li n k m.now m.injected (B6 m e).drops=(Li n k m.now m.injected m.drops).set (13+e.toNat) (.val (.int .i64 (m.drops e.toNat+1))):=by
 rw[Akh]
 congr 1
 funext i
 show (if i=e.toNat then m.drops i+1 else m.drops i)=_
 split
 ·rename_i h;rw[h]
 ·rfl
theorem Afr {x:Int} (h:0≤x∧x≤1000000000000):IntKind.i64.wrap (x+1)=x+1:=by
 rw[IntKind.wrap_i64];omega
theorem Af2 (n:Net) (m:MacM) (d:Bool) (e:Int) (h0:0≤e) (h1:e<64) (hb:IntKind.i64.wrap (m.drops e.toNat+1)=m.drops e.toNat+1) :
  Sy.Spec Tryz.prog 240 [.ptr 0 (13+e.toNat),Aa 1] (Cp n m d) (Aa (m.drops e.toNat+1)) (Cp n (B6 m e) d):=cT F240 Tryz.ntmps240 fun F hF=>by
 have hg:=Aki n 1 m.now m.injected m.drops e.toNat qn
 have hs:=Ahp n 1 m e
 have hlt:=U6 hg
 ((conv=>whnf);repeat((first|refine aF ?_|refine aT ?_);(first|refine rG Γ hm ?_|refine rD Γ hm qq ?_);conv=>whnf))
 refine Ad (Z8 add64 E E E E hg hb) E E ?_
 ((first|refine rG Γ hm ?_|refine rD Γ hm qq ?_);(conv=>whnf);repeat((first|refine aF ?_|refine aT ?_);(first|refine rG Γ hm ?_|refine rD Γ hm qq ?_);conv=>whnf))
 exact done E (.cons .tmp .nil) [] (Cp n (B6 m e) d) (fun _ h=>h) E E ⟨Y,⟨.inl (congrArg Ob.box hs),E,.inl E,E,.inl E,E,.inl E,E,Y⟩,E,E⟩
theorem Adb (n:Net) (m:MacM) (d:Bool) (e:Int) (h0:0≤e) (h1:e<64) (hb:0≤m.drops e.toNat∧m.drops e.toNat≤1000000000000) :
  Sy.Spec Tryz.prog 176 [.ptr 0 0,Aa e] (Cp n m d) (.tup []) (Cp n (B6 m e) d):=cT F176 Tryz.ntmps176 fun F hF=>by
 ((conv=>whnf);repeat((first|refine aF ?_|refine aT ?_);(first|refine rG Γ hm ?_|refine rD Γ hm qq ?_);conv=>whnf))
 refine⟨h0,by omega,?_⟩
 ((first|refine rG Γ hm ?_|refine rD Γ hm qq ?_);(conv=>whnf);repeat((first|refine aF ?_|refine aT ?_);(first|refine rG Γ hm ?_|refine rD Γ hm qq ?_);conv=>whnf))
 refine Ad (Af [] E F240 (Af2 n m d e h0 h1 (Afr hb)) (congrArg (fun z=>[SV.ptr 0 z,Aa 1]) (show 13+e.toNat=0+13+e.toNat * 1 by omega)) ⟨E,E,E,E,Y⟩ E ⟨.inl E,.inl E,.inl E,.inl E,Y⟩) E E ?_
 ((first|refine rG Γ hm ?_|refine rD Γ hm qq ?_);(conv=>whnf);repeat((first|refine aF ?_|refine aT ?_);(first|refine rG Γ hm ?_|refine rD Γ hm qq ?_);conv=>whnf))
 exact A6 E .nil [] (Cp n (B6 m e) d) (fun _ h=>h) E E ⟨Y,⟨.inl E,E,.inl E,E,.inl E,E,.inl E,E,Y⟩,E,E⟩
theorem Agb (n:Net) (m:MacM) (d:Bool) (dom:Int) :
  Sy.Spec Tryz.prog 119 [.ptr 0 0,Aa dom] (Cp n m d) (Ab (Ag dom m.queues.length)) (Cp n m d):=cT F119 Tryz.ntmps119 fun F hF=>by
 have hres:Ag dom m.queues.length=(decide (0≤dom) && decide (dom<m.queues.length)):=rfl
 generalize Ag dom m.queues.length=res at *
 ((conv=>whnf);repeat((first|refine aF ?_|refine aT ?_);(first|refine rG Γ hm ?_|refine rD Γ hm qq ?_);conv=>whnf))
 refine⟨fun h=>?_,fun h=>?_⟩
 ·((first|refine rG Γ hm ?_|refine rD Γ hm qq ?_);(conv=>whnf);repeat((first|refine aF ?_|refine aT ?_);(first|refine rG Γ hm ?_|refine rD Γ hm qq ?_);conv=>whnf))
  (repeat (first | (refine⟨fun h=>False.elim (by first | (exact absurd h qx) | (simp at h;done) | (simp at h;omega)),fun _=>?_⟩;((first|refine rG Γ hm ?_|refine rD Γ hm qq ?_);(conv=>whnf);repeat((first|refine aF ?_|refine aT ?_);(first|refine rG Γ hm ?_|refine rD Γ hm qq ?_);conv=>whnf))) | (refine⟨fun _=>?_,fun h=>False.elim (by first | (exact absurd h qx) | (simp at h;done) | (simp at h;omega))⟩;((first|refine rG Γ hm ?_|refine rD Γ hm qq ?_);(conv=>whnf);repeat((first|refine aF ?_|refine aT ?_);(first|refine rG Γ hm ?_|refine rD Γ hm qq ?_);conv=>whnf)))))
  refine done E (.cons .tmp .nil) [] (Cp n m d) (fun _ h=>h) ?_ E ⟨Y,⟨.inl E,E,.inl E,E,.inl E,E,.inl E,E,Y⟩,E,E⟩
  rw[hres,h]
  rfl
 ·((first|refine rG Γ hm ?_|refine rD Γ hm qq ?_);(conv=>whnf);repeat((first|refine aF ?_|refine aT ?_);(first|refine rG Γ hm ?_|refine rD Γ hm qq ?_);conv=>whnf))
  (repeat (first | (refine⟨fun h=>False.elim (by first | (exact absurd h qx) | (simp at h;done) | (simp at h;omega)),fun _=>?_⟩;((first|refine rG Γ hm ?_|refine rD Γ hm qq ?_);(conv=>whnf);repeat((first|refine aF ?_|refine aT ?_);(first|refine rG Γ hm ?_|refine rD Γ hm qq ?_);conv=>whnf))) | (refine⟨fun _=>?_,fun h=>False.elim (by first | (exact absurd h qx) | (simp at h;done) | (simp at h;omega))⟩;((first|refine rG Γ hm ?_|refine rD Γ hm qq ?_);(conv=>whnf);repeat((first|refine aF ?_|refine aT ?_);(first|refine rG Γ hm ?_|refine rD Γ hm qq ?_);conv=>whnf)))))
  refine done E (.cons .tmp .nil) [] (Cp n m d) (fun _ h=>h) ?_ E ⟨Y,⟨.inl E,E,.inl E,E,.inl E,E,.inl E,E,Y⟩,E,E⟩
  rw[hres,h]
  rfl
theorem Afo (f:FrameM) (hb:f.body.length<100000):Sy.Spec Tryz.prog 247 [B4 f] [] (B4 f) []:=cT F247 Tryz.ntmps247 fun F hF=>by
 conv=>whnf
 refine Ad (Bh Γ.toTy (d:=7) (n:=f.body.length) Ae 0 E E E E E E E E qn qn E E E) E E ?_
 refine oO ?_
 refine Ad (Tp Γ.toTy (l:=List.replicate f.body.length 0) (m:=f.body) E E E E E .sl) E E ?_
 refine oO ?_
 refine Aq 7 E ?_
 refine oO ?_
 refine Am E (.cons (.cell E E E E) .nil) ?_ E
 show SV.agg [_,_,_,.sl 1 Ae f.body]=SV.agg [_,_,_,.sl 1 Ae (f.body.take (List.replicate f.body.length (0:UInt8)).length++(List.replicate f.body.length (0:UInt8)).drop f.body.length)]
 have e:f.body.take (List.replicate f.body.length (0:UInt8)).length++(List.replicate f.body.length (0:UInt8)).drop f.body.length=f.body:=by
  rw[List.length_replicate,List.take_length,List.drop_eq_nil_of_le qy,List.append_nil]
 rw[e]
 rfl
theorem Aam (q:QueuedM) (hb:q.frame.body.length<100000):Sy.Spec Tryz.prog 180 [Bg q] [] (Bg q) []:=cT F180 Tryz.ntmps180 fun F hF=>by
 have qc:=Afo q.frame hb
 conv=>whnf
 refine c0 qc F247 ?_
 refine oO ?_
 exact dN
def Mf (l:List QueuedM):Prop:=∀ q∈l,q.frame.body.length<100000
theorem Aoa (l:List QueuedM) (hl:l.length<1000000) (hb:Mf l):Sy.Spec Tryz.prog 179 [.sl 7 Bg l] [] (.osl 0) [(0,.row 7 Bg l)]:=cT F179 Tryz.ntmps179 fun F hF=>by
 conv=>whnf
 refine Cc 3 1000 7 Bg E E ?_
 refine Az l.length (fun j=>[(3,.osl 1000),(6,.sl 7 Bg l),(7,Aa l.length),(8,Aa j)]) (fun j=>[(1000,.row 7 Bg (l.take j))]) [] ⟨⟨E,E,E,E,E,E,E,E,Y⟩,⟨.inl E,E,Y⟩,E,E⟩ ?_
 intro j hj
 refine oO ?_
 refine⟨fun h=>?_,fun h=>?_⟩
 ·have hlt:j<l.length:=qA h
  have hj0:((j:Nat):Int).toNat<l.length:=by simpa using hlt
  obtain ⟨q,hq⟩:∃ q,l[j]=q:=⟨_,rfl⟩
  have e1:l[((j:Nat):Int).toNat]'hj0=q:=hq
  have hs:l.take (j+1)=l.take j++[q]:=by rw[List.take_succ_eq_append_getElem hlt,hq]
  have hqb:=hb q (by rw[← hq];exact List.getElem_mem hlt)
  have hll:(l.take j).length=j:=by rw[List.length_take];omega
  clear h
  refine oO ?_
  refine⟨E,by omega,hj0,?_⟩
  rw[e1]
  conv=>whnf
  refine c0 (Aam q hqb) F180 ?_
  refine oO ?_
  refine Ad (Ah Γ.toTy 16 E E E E E (.row E) (.lit (e:=Bg) (l:=[q]) E E) qy (by rw[hll];simp;omega) (by rw[hll];simp;omega)) E E ?_
  refine oO ?_
  refine iW ?_
  exact Ar [(1000,16)] hlt ⟨⟨E,E,E,E,E,E,E,E,Y⟩,⟨.inl (congrArg (Ob.row 7 Bg) hs),E,Y⟩,E,E⟩
 ·have hjj:j=l.length:=qB h
  subst hjj
  rw[List.take_length]
  refine oO ?_
  exact done E (.cons .tmp .nil) [(0,1000)] [(0,.row 7 Bg l)] (fun _ h=>h) E E ⟨Y,⟨.inl E,E,Y⟩,E,E⟩
theorem Abw (l:List QueuedM) (q:QueuedM) (hl:l.length<1000000) (hb:Mf l) (hqb:q.frame.body.length<100000) :
  Sy.Spec Tryz.prog 228 [.sl 7 Bg l,Bg q] [] (.tup [.sl 7 Bg (pushT l q).1,Ab (pushT l q).2]) []:=cT F228 Tryz.ntmps228 fun F hF=>by
 have hres:=pushT.eq_1 l q
 generalize pushT l q=res at *
 conv=>whnf
 refine Ad (Af [(0,55)] E F179 (Aoa l hl hb) E Y E ⟨.inr E,Y⟩) E E ?_
 refine oO ?_
 refine⟨fun h=>?_,fun h=>?_⟩
 ·rw[if_pos (qA h)]at hres
  subst hres
  refine oO ?_
  refine Aq 55 E ?_
  exact dN
 ·rw[if_neg (qB h)]at hres
  subst hres
  refine oO ?_
  refine c0 (Aam q hqb) F180 ?_
  refine oO ?_
  refine Ad (Ah Γ.toTy 17 E E E E E (.row E) (.lit (e:=Bg) (l:=[q]) E E) qx (by simp;omega) (by simp;omega)) E E ?_
  refine Aq 17 E ?_
  refine oO ?_
  exact dN
theorem V5 (l:List QueuedM) (at_:Int) (hl:l.length<1000000) (hb:Mf l) :
  Sy.Spec Tryz.prog 120 [.sl 7 Bg l,Aa at_] [] (.tup [Bg (takeT l at_).1,.sl 7 Bg (takeT l at_).2.1,Ab (takeT l at_).2.2]) []:=cT F120 Tryz.ntmps120 fun F hF=>by
 have hres:=takeT.eq_1 l at_
 generalize takeT l at_=res at *
 conv=>whnf
 refine⟨fun h=>?_,fun h=>?_⟩
 ·rw[if_pos (.inl (of_decide_eq_true h))]at hres
  subst hres
  refine oT ?_
  refine Ad (Af [(0,55)] E F179 (Aoa l hl hb) E Y E ⟨.inr E,Y⟩) E E ?_
  refine Aq 55 E ?_
  refine oO ?_
  refine A8 4 [Aa 0,Aa 0,Aa 0,A5 0,A5 0,Aa 0,.sl 1 Ae []] E (.cons (.refl _) (.cons (.refl _) (.cons (.refl _) (.cons (.refl _) (.cons (.refl _) (.cons (.refl _) (.cons .nil .nil))))))) ?_
  exact dN
 have h0:0≤at_:=qB h
 clear h
 refine oO ?_
 refine⟨fun h=>?_,fun h=>?_⟩
 ·rw[if_pos (.inr (of_decide_eq_true h))]at hres
  subst hres
  refine oO ?_
  refine Ad (Af [(0,55)] E F179 (Aoa l hl hb) E Y E ⟨.inr E,Y⟩) E E ?_
  refine Aq 55 E ?_
  refine oO ?_
  refine A8 4 [Aa 0,Aa 0,Aa 0,A5 0,A5 0,Aa 0,.sl 1 Ae []] E (.cons (.refl _) (.cons (.refl _) (.cons (.refl _) (.cons (.refl _) (.cons (.refl _) (.cons (.refl _) (.cons .nil .nil))))))) ?_
  exact dN
 have h1:at_<l.length:=qB h
 clear h
 have hk:at_.toNat<l.length:=by omega
 have hne:l≠[]:=fun e=>by rw[e]at hk;simp at hk
 have hkk:((at_.toNat:Nat):Int)=at_:=by omega
 rw[if_neg qn,List.getElem?_eq_getElem hk,Option.getD_some]at hres
 obtain ⟨q,hq⟩:∃ q,l[at_.toNat]'hk=q:=⟨_,rfl⟩
 rw[hq]at hres
 have hqb:=hb q (by rw[← hq];exact List.getElem_mem hk)
 refine G_dat 0 90 E hne ?_
 intro B off cap hcap
 refine run Γ hm 3 ?_
 conv=>whnf
 refine Bk (Uf 90 (.inl E) E E) qq E ?_
 refine oD ?_
 refine⟨E,h0,hk,?_⟩
 rw[hq]
 conv=>whnf
 refine cD (Aam q hqb) F180 ?_
 refine oD ?_
 refine Bk (X1 (hi:=at_.toNat) Γ.toTy E E E E (congrArg (fun z=>SV.val (.int .i64 z)) hkk.symm) (congrArg (fun z=>SV.val (.int .i64 z)) hkk.symm) qn) qq E ?_
 refine Bk (Uf 90 (.inl E) E E) qq E ?_
 refine oD ?_
 refine iW ?_
 refine Bk (Cf (lo:=at_.toNat+1) (hi:=l.length) Γ.toTy E E E E (.inr ⟨_,_,E,congrArg (fun z=>SV.val (.int .i64 z)) qn⟩) (.inl ⟨E,E⟩) qn (Nat.le_refl _)) qq E ?_
 have hll:((l.take l.length).drop (at_.toNat+1)).length=l.length-(at_.toNat+1):=by rw[List.length_drop,List.length_take];omega
 refine Bk (X7 Γ.toTy 90 E E E E E E (Nat.le_of_lt hk) E (by rw[hll];omega) (by rw[hll];omega)) qq E ?_
 have he:l.take at_.toNat++(l.take l.length).drop (at_.toNat+1)=l.eraseIdx at_.toNat:=by rw[List.take_length,List.eraseIdx_eq_take_drop_succ]
 have hel:(l.take at_.toNat++(l.take l.length).drop (at_.toNat+1)).length<1000000:=by rw[he,List.length_eraseIdx];split<;>omega
 have heb:Mf (l.take at_.toNat++(l.take l.length).drop (at_.toNat+1)):=by rw[he];exact fun x hx=>hb x (List.mem_of_mem_eraseIdx hx)
 refine oD ?_
 refine Bk (Af [(0,55)] E F179 (Aoa _ hel heb) E Y E ⟨.inr E,Y⟩) qq E ?_
 refine oD ?_
 refine kW ?_
 refine Aq 55 E ?_
 refine Am E (.cons (.cell E E E E) (.cons .tmp (.cons .tmp .nil))) ?_ E
 subst hres
 show SV.tup [_,.sl 7 Bg (l.eraseIdx at_.toNat),_]=SV.tup [_,.sl 7 Bg (l.take at_.toNat++(l.take l.length).drop (at_.toNat+1)),_]
 rw[he]
 rfl
def D5 {α:Type} (q:α→Bool) (l:List α):Nat→Nat
 | 0=>0
 | j+1=>match l[j]? with
  | some x=>if q x=true then D5 q l j+1 else D5 q l j
  | none=>D5 q l j
def dfC {α:Type} (q:α→Bool) (l:List α):Nat→List α
 | 0=>l
 | j+1=>match l[j]? with
  | some x=>if q x=true then (dfC q l j).set (D5 q l j) x else dfC q l j
  | none=>dfC q l j
theorem Va {α:Type} (q:α→Bool) (l:List α) (j:Nat):D5 q l j≤j:=by
 induction j with
 | zero=>exact Nat.le_refl _
 | succ j ih =>
  simp only[D5]
  split
  ·split<;>omega
  ·omega
theorem O8 {α:Type} (q:α→Bool) (l:List α) (j:Nat):(dfC q l j).length=l.length:=by
 induction j with
 | zero=>rfl
 | succ j ih =>
  simp only[dfC]
  split
  ·split
   ·rw[List.length_set];exact ih
   ·exact ih
  ·exact ih
theorem Ag1 {α:Type} (q:α→Bool) (l:List α) (j k:Nat) (h:j≤k):(dfC q l j)[k]? = l[k]?:=by
 induction j with
 | zero=>rfl
 | succ j ih =>
  simp only[dfC]
  split
  ·split
   ·rw[List.getElem?_set_ne (by have:=Va q l j;omega)];exact ih qn
   ·exact ih qn
  ·exact ih qn
theorem Adc {α:Type} (q:α→Bool) (l:List α) (j:Nat) (h:j≤l.length):(dfC q l j).take (D5 q l j)=(l.take j).filter q:=by
 induction j with
 | zero=>rfl
 | succ j ih =>
  have hj:j<l.length:=by omega
  have ih:=ih qn
  have hc:=Va q l j
  simp only[dfC,D5,List.getElem?_eq_getElem hj]
  rw[List.take_add_one,List.getElem?_eq_getElem hj,List.filter_append]
  by_cases hq:q l[j]=true
  ·rw[if_pos hq,if_pos hq]
   have hlt:D5 q l j<((dfC q l j).set (D5 q l j) l[j]).length:=by rw[List.length_set,O8];omega
   rw[List.take_add_one,List.getElem?_eq_getElem hlt,List.getElem_set_self]
   rw[List.take_set_of_le (Nat.le_refl _),ih]
   simp[hq]
  ·rw[if_neg hq,if_neg hq,ih]
   simp[hq]
theorem Y4 {α:Type} (q:α→Bool) (l:List α) (i:Nat) (hi:i≤l.length) (h:∀ k (hk:k<l.length),k<i→q l[k]=true):dfC q l i=l∧D5 q l i=i:=by
 induction i with
 | zero=>exact⟨rfl,rfl⟩
 | succ i ih =>
  obtain ⟨h1,h2⟩:=ih qn (fun k hk hki=>h k hk qn)
  have hil:i<l.length:=by omega
  simp only[dfC,D5,List.getElem?_eq_getElem hil]
  rw[if_pos (h i hil qn),if_pos (h i hil qn),h1,h2]
  exact⟨List.set_getElem_self hil,E⟩
theorem Kt {α:Type} (p:α→Bool) (l:List α):(B8 p l=-1∧∀ x∈l,p x=false)∨∃ (i:Nat) (hi:i<l.length),B8 p l=i∧p l[i]=true∧∀ k (hk:k<l.length),k<i→p l[k]=false:=by
 unfold B8
 cases h:l.findIdx? p with
 | none=>exact .inl ⟨rfl,by simpa using h⟩
 | some i =>
  rw[List.findIdx?_eq_some_iff_getElem]at h
  obtain ⟨hi,h1,h2⟩:=h
  exact .inr ⟨i,hi,E,h1,fun k hk hki=>by simpa using h2 k hki⟩
theorem L8 (l:List EntryM) (hl:l.length<2147483648):Sy.Spec Tryz.prog 243 [.sl 3 Av l] [] (.osl 0) [(0,.row 3 Av l)]:=cT F243 Tryz.ntmps243 fun F hF=>by
 conv=>whnf
 refine Dw E (.inl E) E E E .sl E E ?_
 intro b hb
 cases b
 ·refine oF ?_
  refine Ad (Ah Γ.toTy 7 E E E E E (.lit (e:=Av) (l:=[]) E E) .sl qy (by simp;omega) (by simp;omega)) E E ?_
  refine oO ?_
  exact done E (.cons .tmp .nil) [(0,7)] [(0,.row 3 Av l)] (fun _ h=>h) E E ⟨Y,⟨.inl E,E,Y⟩,E,E⟩
 ·have h0:l=[]:=List.eq_nil_of_length_eq_zero (hb rfl)
  subst h0
  refine oT ?_
  refine Cc 2 1000 3 Av E E ?_
  exact done E (.cons .tmp .nil) [(0,1000)] [(0,.row 3 Av [])] (fun _ h=>h) E E ⟨Y,⟨.inl E,E,Y⟩,E,E⟩
theorem J2 (l:List EntryM) (p:EntryM→Bool) (f:FuncId) (first cap:List SV) (hc:(SV.clo (.func f) first cap).inn []=true) (hf:∀ x∈l,E6 Tryz.prog f (first++[Av x]++cap) (Ab (p x))) (hl:Aj l) :
  Sy.Spec Tryz.prog 310 [.sl 3 Av l,.clo (.func f) first cap] [] (Aa (B8 p l)) []:=cT F310 Tryz.ntmps310 fun F hF=>by
 unfold Aj at hl
 have hin:∀ x:EntryM,B1 [] (first++[Av x]++cap)=true:=fun x=>Cj hc rfl
 conv=>whnf
 refine Ay l.length (fun j=>C4 (fun _ x=>!(p x)) l j) (fun j=>[(0,.sl 3 Av l),(1,.clo (.func f) first cap),(7,Aa l.length),(8,Aa j)]) (fun _=>[]) [] (At _ _) ⟨⟨E,E,A7 _,hc,E,E,E,E,Y⟩,Y,E,E⟩ ?_
 intro j hj hI
 refine oO ?_
 refine⟨fun h=>?_,fun h=>?_⟩
 ·have h:=of_decide_eq_true h
  have hj2:j<l.length:=by omega
  refine oO ?_
  refine⟨E,by omega,by omega,?_⟩
  conv=>whnf
  refine Dp (hf l[j] (List.getElem_mem hj2)) E E E (by simp only[hin];rfl) E E ?_
  refine oO ?_
  refine⟨fun h2=>?_,fun h2=>?_⟩
  ·refine oO ?_
   refine Am E (.cons .tmp .nil) (congrArg Aa ?_) E
   exact C6 hj2 (fun i hi hij=>by simpa using hI i hi hij) h2
  ·refine oO ?_
   refine iW ?_
   exact Aw [] hI hj2 (Ap hI hj2 (by simp[h2])) ⟨⟨E,E,A7 _,hc,E,E,E,E,Y⟩,Y,E,E⟩
 ·have h:=of_decide_eq_false h
  refine oO ?_
  refine Am E (.cons .tmp .nil) (congrArg Aa ?_) E
  exact Ds (fun i hi=>by simpa using hI i hi qn)
theorem Sr (l:List EntryM) (p:EntryM→Bool) (f:FuncId) (first cap:List SV) (hc:(SV.clo (.func f) first cap).inn []=true) (hc0:(SV.clo (.func f) first cap).inn [0]=true) (hf:∀ x∈l,E6 Tryz.prog f (first++[Av x]++cap) (Ab (p x))) (hl:Aj l) :
  Sy.Spec Tryz.prog 245 [.osl 0,.clo (.func f) first cap] [(0,.row 3 Av l)] (.osl 1) [(0,.non),(1,.row 3 Av (l.filter fun x=>!(p x)))]:=cT F245 Tryz.ntmps245 fun F hF=>by
 have qi:=J2 l p f first cap hc hf hl
 unfold Aj at hl
 have hin:∀ x:EntryM,B1 [] (first++[Av x]++cap)=true:=fun x=>Cj hc rfl
 conv=>whnf
 refine Adj [0] qi F310 E (.cons (.row E E) (.cons (.refl _) .nil)) (by simp only[B1,hc,Bool.and_true];rfl) E E ?_
 rcases Kt p l with ⟨h1,h2⟩ | ⟨i,hi,h1,h2,h3⟩
 ·rw[h1]
  have e1:(l.filter fun x=>!(p x))=l:=List.filter_eq_self.2 (fun x hx=>by simp[h2 x hx])
  rw[e1]
  refine oT ?_
  refine Af7 0 1000 [0,4] E E qx (by simp;exact⟨E,E⟩) ?_
  exact done E (.cons .tmp .nil) [(0,0),(1,1000)] _ (fun _ h=>h) E E ⟨Y,⟨.inl E,E,.inl E,E,Y⟩,E,E⟩
 obtain ⟨f1,f2⟩:=Y4 (fun x=>!(p x)) l i qn (fun k hk hki=>by simp[h3 k hk hki])
 have g1:dfC (fun x=>!(p x)) l (i+1+0)=l:=by
  show dfC (fun x=>!(p x)) l (i+1)=l
  simp only[dfC,List.getElem?_eq_getElem hi]
  rw[if_neg (by simp[h2]),f1]
 have g2:D5 (fun x=>!(p x)) l (i+1+0)=i:=by
  show D5 (fun x=>!(p x)) l (i+1)=i
  simp only[D5,List.getElem?_eq_getElem hi]
  rw[if_neg (by simp[h2]),f2]
 rw[h1]
 refine oF ?_
 refine iW ?_
 refine Az (l.length-(i+1)) (fun j=>[(0,.osl 0),(1,.clo (.func f) first cap),(5,Aa (D5 (fun x=>!(p x)) l (i+1+j))),(6,Aa ((i+1+j:Nat)))]) (fun j=>[(0,.row 3 Av (dfC (fun x=>!(p x)) l (i+1+j)))]) []
  ⟨⟨rfl,rfl,A7 _,hc0,congrArg Aa (congrArg Int.ofNat g2),rfl,congrArg (fun z=>SV.val (.int .i64 z)) qn,rfl,trivial⟩,⟨.inl (congrArg (Ob.row 3 Av) g1),rfl,trivial⟩,rfl,rfl⟩ ?_
 intro j hj
 have hcl:=Va (fun x=>!(p x)) l (i+1+j)
 have hdl:=O8 (fun x=>!(p x)) l (i+1+j)
 have hget:=Ag1 (fun x=>!(p x)) l (i+1+j) (i+1+j) (Nat.le_refl _)
 have s1:∀ h:i+1+j<l.length,D5 (fun x=>!(p x)) l (i+1+(j+1))=if (!(p l[i+1+j]))=true then D5 (fun x=>!(p x)) l (i+1+j)+1 else D5 (fun x=>!(p x)) l (i+1+j):=fun hlt=>by
  show D5 (fun x=>!(p x)) l (i+1+j+1)=_
  simp only[D5,List.getElem?_eq_getElem hlt]
 have s2:∀ h:i+1+j<l.length,dfC (fun x=>!(p x)) l (i+1+(j+1))=if (!(p l[i+1+j]))=true then (dfC (fun x=>!(p x)) l (i+1+j)).set (D5 (fun x=>!(p x)) l (i+1+j)) l[i+1+j] else dfC (fun x=>!(p x)) l (i+1+j):=fun hlt=>by
  show dfC (fun x=>!(p x)) l (i+1+j+1)=_
  simp only[dfC,List.getElem?_eq_getElem hlt]
 have htk:=fun h=>Adc (fun x=>!(p x)) l (i+1+j) h
 obtain ⟨D,hD⟩:∃ D,dfC (fun x=>!(p x)) l (i+1+j)=D:=⟨_,rfl⟩
 obtain ⟨K,hK⟩:∃ K,D5 (fun x=>!(p x)) l (i+1+j)=K:=⟨_,rfl⟩
 rw[hD]at hdl hget s2 htk ⊢
 rw[hK]at hcl s1 s2 htk ⊢
 refine oO ?_
 refine⟨fun h=>?_,fun h=>?_⟩
 ·have hlt:i+1+j<l.length:=qA h
  have hfx:=hf l[i+1+j] (List.getElem_mem hlt)
  have s1:=s1 hlt
  have s2:=s2 hlt
  rw[List.getElem?_eq_getElem hlt,List.getElem?_eq_getElem qn]at hget
  have hget:=Option.some.inj hget
  obtain ⟨x,hx⟩:∃ x,l[i+1+j]=x:=⟨_,rfl⟩
  rw[hx]at hfx s1 s2 hget
  refine oO ?_
  refine⟨by omega,by simp;omega,?_⟩
  conv=>whnf
  refine⟨E,by omega,?_⟩
  rw[show D[((i+1+j:Nat):Int).toNat]'qn=x from hget]
  conv=>whnf
  refine Dp hfx E E E (by simp only[hin];rfl) E E ?_
  cases hpx:p x
  ·rw[hpx]at s1 s2
   refine oT ?_
   refine⟨by omega,by simp;omega,?_⟩
   conv=>whnf
   refine⟨E,by omega,x,E,E,?_⟩
   conv=>whnf
   refine iW ?_
   refine iW ?_
   exact Ar [] qn ⟨⟨E,E,A7 _,hc0,congrArg Aa (congrArg Int.ofNat s1),E,congrArg (fun z=>SV.val (.int .i64 z)) qn,E,Y⟩,⟨.inl (congrArg (Ob.row 3 Av) s2),E,Y⟩,E,E⟩
  ·rw[hpx]at s1 s2
   refine oF ?_
   refine iW ?_
   exact Ar [] qn ⟨⟨E,E,A7 _,hc0,congrArg Aa (congrArg Int.ofNat s1),E,congrArg (fun z=>SV.val (.int .i64 z)) qn,E,Y⟩,⟨.inl (congrArg (Ob.row 3 Av) s2),E,Y⟩,E,E⟩
 ·have hend:i+1+j=l.length:=qB h
  have hne:D≠[]:=fun h=>by rw[h]at hdl;simp at hdl;omega
  have htk:=htk qn
  rw[show l.take (i+1+j)=l from List.take_of_length_le qn]at htk
  refine Ag8 0 [0] E hne (by simp;rfl) ?_
  intro b cap' hcap
  refine oO ?_
  refine Ad (Co Γ.toTy E E E E (.inr ⟨_,_,E,E⟩) (.inl ⟨E,E⟩) qn qn) E E ?_
  refine oO ?_
  refine Ad (Io Γ.toTy 0 (k:=K) E E E E qx E E E qn qn) E E ?_
  refine oO ?_
  refine Ad (Co Γ.toTy E E E E (.inl ⟨E,E⟩) (.inr ⟨_,_,E,E⟩) qn qn) E E ?_
  refine oO ?_
  refine Vd 0 1000 [4] K E E (by rw[List.length_take];omega) (fun i hi=>?_) ?_
  ·rw[List.mem_singleton]at hi
   subst hi
   show SV.val (.slice (some (if cap'=0 then ⟨b,0,none⟩ else ⟨b,0 * 3,none⟩)) (K-0) (cap'-0))=_
   split<;>simp
  refine done E (.cons .tmp .nil) [(0,0),(1,1000)] _ (fun _ h=>h) E E ⟨Y,⟨.inl E,E,.inl ?_,E,Y⟩,E,E⟩
  rw[← htk]
  exact congrArg (Ob.row 3 Av) (by rw[List.take_take,Nat.min_self])
theorem X8 (l:List EntryM) (i:Nat) (hi:i<l.length) (_hl:Aj l) :
  Sy.Spec Tryz.prog 344 [.osl 0,Aa i,Aa ((i+1:Nat):Int)] [(0,.row 3 Av l)] (.osl 1) [(0,.non),(1,.row 3 Av (l.take i++l.drop (i+1)))]:=cT F344 Tryz.ntmps344 fun F hF=>by
 have hne:l≠[]:=fun h=>by rw[h]at hi;simp at hi
 ((conv=>whnf);repeat((first|refine aF ?_|refine aT ?_);(first|refine rG Γ hm ?_|refine rD Γ hm qq ?_);conv=>whnf))
 refine Ag8 0 [0,8] E hne (by simp;exact⟨E,E⟩) ?_
 intro b cap hcap
 ((first|refine rG Γ hm ?_|refine rD Γ hm qq ?_);(conv=>whnf);repeat((first|refine aF ?_|refine aT ?_);(first|refine rG Γ hm ?_|refine rD Γ hm qq ?_);conv=>whnf))
 refine Ad (X0 Γ.toTy E E E E E E E qn qn hcap) E E ?_
 ((first|refine rG Γ hm ?_|refine rD Γ hm qq ?_);(conv=>whnf);repeat((first|refine aF ?_|refine aT ?_);(first|refine rG Γ hm ?_|refine rD Γ hm qq ?_);conv=>whnf))
 refine⟨fun h=>absurd h (by simp;omega),fun _=>?_⟩
 ((first|refine rG Γ hm ?_|refine rD Γ hm qq ?_);(conv=>whnf);repeat((first|refine aF ?_|refine aT ?_);(first|refine rG Γ hm ?_|refine rD Γ hm qq ?_);conv=>whnf))
 refine Bk (Co Γ.toTy E E E E (.inl ⟨E,E⟩) (.inr ⟨_,_,E,E⟩) qn qn) qq E ?_
 ((first|refine rG Γ hm ?_|refine rD Γ hm qq ?_);(conv=>whnf);repeat((first|refine aF ?_|refine aT ?_);(first|refine rG Γ hm ?_|refine rD Γ hm qq ?_);conv=>whnf))
 refine Bk (Co (hi:=l.length) Γ.toTy E E E E (.inr ⟨_,_,E,E⟩) (.inl ⟨E,E⟩) qn qn) qq E ?_
 ((first|refine rG Γ hm ?_|refine rD Γ hm qq ?_);(conv=>whnf);repeat((first|refine aF ?_|refine aT ?_);(first|refine rG Γ hm ?_|refine rD Γ hm qq ?_);conv=>whnf))
 have hif:(if cap=0 then (⟨b,0,none⟩:Addr) else ⟨b,0 * 3,none⟩)=⟨b,0,none⟩:=by split<;>simp
 refine Bk (Uy Γ.toTy 0 (n:=l.length) (i:=i) (j:=i+1) E E E (congrArg (fun z=>SV.val (.slice (some z) i cap)) hif) E E E E qn qn) qq E ?_
 ((first|refine rG Γ hm ?_|refine rD Γ hm qq ?_);(conv=>whnf);repeat((first|refine aF ?_|refine aT ?_);(first|refine rG Γ hm ?_|refine rD Γ hm qq ?_);conv=>whnf))
 refine⟨qq,?_⟩
 ((conv=>whnf);repeat((first|refine aF ?_|refine aT ?_);(first|refine rG Γ hm ?_|refine rD Γ hm qq ?_);conv=>whnf))
 refine Ad (Co (lo:=i+(l.length-(i+1))) (hi:=l.length) Γ.toTy E E E E (.inr ⟨_,_,E,E⟩) (.inr ⟨_,_,E,E⟩) qn qn) E E ?_
 ((first|refine rG Γ hm ?_|refine rD Γ hm qq ?_);(conv=>whnf);repeat((first|refine aF ?_|refine aT ?_);(first|refine rG Γ hm ?_|refine rD Γ hm qq ?_);conv=>whnf))
 have hll:(l.take i++l.drop (i+1)).length=i+(l.length-(i+1)):=by rw[List.length_append,List.length_take,List.length_drop];omega
 refine Ad (Io Γ.toTy 0 (k:=i+(l.length-(i+1))) E E E E qx E E E qn qn) E E ?_
 ((first|refine rG Γ hm ?_|refine rD Γ hm qq ?_);(conv=>whnf);repeat((first|refine aF ?_|refine aT ?_);(first|refine rG Γ hm ?_|refine rD Γ hm qq ?_);conv=>whnf))
 refine Vd 0 1000 [6] (i+(l.length-(i+1))) E E (by rw[List.length_take];omega) (by simp;rfl) ?_
 refine done E (.cons .tmp .nil) [(0,0),(1,1000)] _ (fun _ h=>h) E E ⟨Y,⟨.inl E,E,.inl ?_,E,Y⟩,E,E⟩
 exact congrArg (Ob.row 3 Av) (by rw[List.take_take,Nat.min_self];exact(List.take_of_length_le qn).symm)
theorem T0 (m:Nat) (h:m<18446744073709551616):Sy.Spec Tryz.prog 294 [A5 m] [] (Ab (Hg m)) []:=cT F294 Tryz.ntmps294 fun F hF=>by
 have q:=Jx m h
 conv=>whnf
 refine⟨fun h1=>?_,fun h1=>?_⟩
 ·have h2:m≤281474976710655:=by simp at h1;omega
  refine oO ?_
  refine c0 q F226 ?_
  refine oO ?_
  exact Am E (.cons .tmp .nil) (congrArg Ab (by rw[Hg,decide_eq_true h2,Bool.true_and])) E
 ·have h2:¬ m≤281474976710655:=by simp at h1;omega
  refine oO ?_
  exact Am E (.cons .tmp .nil) (congrArg Ab (by rw[Hg,decide_eq_false h2,Bool.false_and])) E
theorem Ov (i:Int):Sy.Spec Tryz.prog 244 [Aa i] [] (Ab (Ex i)) []:=cT F244 Tryz.ntmps244 fun F hF=>by
 conv=>whnf
 (repeat' (first | (refine⟨fun h=>?_,fun h=>?_⟩<;>(repeat (first | simp only[decide_eq_true_eq]at h | simp only[decide_eq_false_iff_not]at h))<;>((refine oO ?_))) | (refine Am rfl (.cons .tmp .nil) ?_ rfl)))
 all_goals (refine congrArg Ab ?_)
 all_goals grind [Ex]
theorem Ahg (m:Nat) (e:EntryM):Sy.Spec Tryz.prog 342 [Av e,.ref 1 (A5 m) 0] [] (Ab (decide (e.mac=m))) []:=cT F342 Tryz.ntmps342 fun F hF=>by
 conv=>whnf
 refine Am E (.cons .tmp .nil) ?_ E
 refine congrArg Ab ?_
 rw[Bool.eq_iff_iff];simp;omega
theorem Tf (t:List EntryM) (m:Nat) (hl:Aj t):Sy.Spec Tryz.prog 295 [.sl 3 Av t,A5 m] [] (Aa (D0 t m)) []:=cT F295 Tryz.ntmps295 fun F hF=>by
 have q:=J2 t (fun e=>decide (e.mac=m)) 342 [] [.ref 1 (A5 m) 0] rfl (fun x _=>⟨⟨_,_,F342⟩,Ahg m x⟩) hl
 conv=>whnf
 refine Ba 3 1 (A5 m) E E E ?_
 refine oO ?_
 refine c0 q F310 ?_
 refine oO ?_
 exact dN
theorem Aj7 (t:List EntryM) (m:Nat) (hl:Aj t):Sy.Spec Tryz.prog 349 [.sl 3 Av t,A5 m] [] (.tup [Aa (findE t m).1,Ab (findE t m).2]) []:=cT F349 Tryz.ntmps349 fun F hF=>by
 have q:=Tf t m hl
 have hlt:D0 t m<t.length:=D3 _ _
 have hres:=findE.eq_1 t m
 generalize findE t m=res at *
 generalize D0 t m=i at *
 conv=>whnf
 refine c0 q F295 ?_
 refine oO ?_
 refine⟨fun h=>?_,fun h=>?_⟩
 ·rw[if_pos (by simpa using h)]at hres
  subst hres
  refine oO ?_
  exact dN
 ·have h0:¬ i<0:=by simpa using h
  have hi:i.toNat<t.length:=by omega
  rw[if_neg h0,List.getElem?_eq_getElem hi]at hres
  subst hres
  refine oO ?_
  refine⟨E,by omega,by omega,?_⟩
  conv=>whnf
  exact dN
theorem Te (t:List EntryM) (hl:Aj t) (hmac:∀ e∈t,e.mac<18446744073709551616):Sy.Spec Tryz.prog 230 [.sl 3 Av t] [] (Ab (tableB t)) []:=cT F230 Tryz.ntmps230 fun F hF=>by
 unfold Aj at hl
 have hres:=tableB.eq_1 t
 generalize tableB t=res at *
 conv=>whnf
 refine⟨fun h=>?_,fun h=>?_⟩
 ·have h8:¬ t.length≤8:=by simp at h;omega
  rw[decide_eq_false h8,Bool.false_and]at hres
  subst hres
  refine oO ?_
  exact dN
 have h8:t.length≤8:=by simp at h;omega
 rw[decide_eq_true h8,Bool.true_and]at hres
 refine oO ?_
 refine Ay t.length (fun j=>C4 (Tu t) t j) (fun j=>[(0,.sl 3 Av t),(8,.sl 3 Av t),(9,Aa t.length),(10,Aa j)]) (fun _=>[]) [] (At _ _) ⟨⟨E,E,E,E,E,E,E,E,Y⟩,Y,E,E⟩ ?_
 intro j hj hI
 refine oO ?_
 refine⟨fun h=>?_,fun h=>?_⟩
 ·have hlt:j<t.length:=qA h
  have q1:=T0 t[j].mac (hmac _ (List.getElem_mem hlt))
  have q2:=Ov t[j].seen
  have q3:=Tf t t[j].mac hl
  have hent:Tu t j t[j]=(Hg t[j].mac && Ex t[j].seen && decide (D0 t t[j].mac=j)):=rfl
  have hbad:Tu t j t[j]=false→res=false:=fun hf=>by rw[hres];exact A1 hlt hf
  have hgood:Tu t j t[j]=true→C4 (Tu t) t (j+1):=fun ht=>Ap hI hlt ht
  refine oO ?_
  refine⟨E,by omega,by omega,?_⟩
  rw[show t[((j:Nat):Int).toNat]'qn=t[j] from rfl]
  generalize t[j]=x at *
  conv=>whnf
  refine c0 q1 F294 ?_
  cases h1:Hg x.mac
  ·rw[hbad (by rw[hent,h1];rfl)]
   (refine oT ?_;refine bT ?_;refine bT ?_)
   exact dN
  refine oF ?_
  refine c0 q2 F244 ?_
  cases h2:Ex x.seen
  ·rw[hbad (by rw[hent,h1,h2];rfl)]
   (refine oT ?_;refine bT ?_)
   exact dN
  refine oF ?_
  refine c0 q3 F295 ?_
  refine oO ?_
  refine⟨fun h3=>?_,fun h3=>?_⟩
  ·rw[hbad (by rw[hent,h1,h2,decide_eq_false (by simpa using h3)];rfl)]
   refine oO ?_
   exact dN
  ·have h4:=hgood (by rw[hent,h1,h2,decide_eq_true (by simpa using h3)];rfl)
   refine oO ?_
   refine iW ?_
   exact Aw [] hI qn h4 ⟨⟨E,E,E,E,E,E,E,E,Y⟩,Y,E,E⟩
 ·have hend:j=t.length:=qB h
  subst hend
  rw[hres.trans (B0 hI (Nat.le_refl _))]
  refine oO ?_
  exact dN
theorem Am5 (now:Int) (hn:Ex now=true) (e:EntryM):Sy.Spec Tryz.prog 246 [Av e,.ref 1 (Aa now) 0] [] (Ab (decide (e.seen<now-4))) []:=cT F246 Tryz.ntmps246 fun F hF=>by
 have hn2:0≤now∧now≤1099511627776:=by simpa [Ex] using hn
 conv=>whnf
 refine iW ?_
 exact dN
theorem Am4 (t:List EntryM) (now:Int) (hl:Aj t) (hmac:∀ e∈t,e.mac<18446744073709551616):Sy.Spec Tryz.prog 178 [.sl 3 Av t,Aa now] [] (.sl 3 Av (ageT t now)) []:=cT F178 Tryz.ntmps178 fun F hF=>by
 have hl2:=hl
 unfold Aj at hl2
 have hres:=ageT.eq_1 t now
 generalize ageT t now=res at *
 have q1:=Te t hl hmac
 have q2:=Ov now
 conv=>whnf
 refine Ad (Af [(0,55)] E F243 (L8 t hl2) E Y E ⟨.inr E,Y⟩) E E ?_
 refine oO ?_
 refine c0 q1 F230 ?_
 cases h1:tableB t
 ·rw[if_pos (.inl h1)]at hres
  subst hres
  (refine oT ?_;refine bT ?_)
  refine Aq 55 E ?_
  exact dN
 refine oF ?_
 refine c0 q2 F244 ?_
 cases h2:Ex now
 ·rw[if_pos (.inr h2)]at hres
  subst hres
  refine oT ?_
  refine Aq 55 E ?_
  exact dN
 rw[if_neg (by simp[h1,h2])]at hres
 refine oF ?_
 refine Ba 3 1 (Aa now) E E E ?_
 refine oO ?_
 have q3:=Sr t (fun e=>decide (e.seen<now-4)) 246 [] [.ref 1 (Aa now) 0] rfl rfl (fun x _=>⟨⟨_,_,F246⟩,Am5 now h2 x⟩) hl
 refine Ad (Af [(0,55),(1,56)] E F245 q3 E ⟨E,Y⟩ E ⟨.inl E,.inr E,Y⟩) E E ?_
 refine oO ?_
 refine Aq 56 E ?_
 refine Am E (.cons .tmp .nil) ?_ E
 subst hres
 refine congrArg (SV.sl 3 Av) (List.filter_congr fun e _=>?_)
 rw[Bool.eq_iff_iff];simp
theorem Wb (t:List EntryM) (j:Nat) (h:0<t.length) (hj:j≤t.length):oldestU t j<t.length:=by
 induction j with
 | zero=>exact h
 | succ j ih =>
  rw[oldestU]
  split
  ·omega
  ·exact ih qn
theorem Ad6 (t:List EntryM) (hl:Aj t) (h0:0<t.length):Sy.Spec Tryz.prog 343 [.sl 3 Av t] [] (Aa (oldestU t t.length:Nat)) []:=cT F343 Tryz.ntmps343 fun F hF=>by
 unfold Aj at hl
 conv=>whnf
 refine Az t.length (fun j=>[(0,.sl 3 Av t),(3,Aa (oldestU t j:Nat)),(6,.sl 3 Av t),(7,Aa t.length),(8,Aa j)]) (fun _=>[]) [] ⟨⟨E,E,E,E,E,E,E,E,E,E,Y⟩,Y,E,E⟩ ?_
 intro j hj
 refine oO ?_
 refine⟨fun h=>?_,fun h=>?_⟩
 ·have hlt:j<t.length:=qA h
  have hol:=Wb t j h0 qn
  have hs:=oldestU.eq_2 t j
  rw[List.getElem?_eq_getElem hlt,List.getElem?_eq_getElem hol]at hs
  obtain ⟨o,ho⟩:∃ o,oldestU t j=o:=⟨_,rfl⟩
  simp only[ho]at hs hol ⊢
  have hs2:oldestU t (j+1)=if t[j].seen<t[o].seen then j else o:=hs
  refine oO ?_
  refine⟨E,by omega,by omega,?_⟩
  rw[show t[((j:Nat):Int).toNat]'qn=t[j] from rfl]
  conv=>whnf
  refine⟨E,by omega,by omega,?_⟩
  rw[show t[((o:Nat):Int).toNat]'qn=t[o] from rfl]
  conv=>whnf
  refine kW ?_
  refine⟨fun h2=>?_,fun h2=>?_⟩
  ·rw[if_pos (of_decide_eq_true h2)]at hs2
   refine oO ?_
   refine iW ?_
   exact Ar [] qn ⟨⟨E,E,congrArg (fun z:Nat=>Aa z) hs2,E,E,E,E,E,E,E,Y⟩,Y,E,E⟩
  ·rw[if_neg (of_decide_eq_false h2)]at hs2
   refine oO ?_
   refine iW ?_
   exact Ar [] qn ⟨⟨E,E,congrArg (fun z:Nat=>Aa z) hs2,E,E,E,E,E,E,E,Y⟩,Y,E,E⟩
 ·have:j=t.length:=qB h
  subst this
  refine oO ?_
  exact dN
theorem Ye (t:List EntryM) (m:Nat) (wh now:Int) (hl:Aj t) (hmac:∀ e∈t,e.mac<18446744073709551616) (hm64:m<18446744073709551616) :
  Sy.Spec Tryz.prog 296 [.sl 3 Av t,A5 m,Aa wh,Aa now] [] (.sl 3 Av (learnT t m wh now)) []:=cT F296 Tryz.ntmps296 fun F hF=>by
 have hl2:=hl
 unfold Aj at hl2
 have hres:=learnT.eq_1 t m wh now
 generalize learnT t m wh now=res at *
 have q1:=Te t hl hmac
 have q2:=T0 m hm64
 have q3:=Ov now
 have q4:=Tf t m hl
 conv=>whnf
 refine Ad (Af [(0,55)] E F243 (L8 t hl2) E Y E ⟨.inr E,Y⟩) E E ?_
 refine oO ?_
 refine c0 q1 F230 ?_
 cases h1:tableB t
 ·rw[if_pos (.inl h1)]at hres
  subst hres
  (refine oT ?_;refine bT ?_;refine bT ?_)
  refine Aq 55 E ?_
  exact dN
 refine oF ?_
 refine c0 q2 F294 ?_
 cases h2:Hg m
 ·rw[if_pos (.inr (.inl h2))]at hres
  subst hres
  (refine oT ?_;refine bT ?_)
  refine Aq 55 E ?_
  exact dN
 refine oF ?_
 refine c0 q3 F244 ?_
 cases h3:Ex now
 ·rw[if_pos (.inr (.inr h3))]at hres
  subst hres
  refine oT ?_
  refine Aq 55 E ?_
  exact dN
 rw[if_neg (by simp[h1,h2,h3])]at hres
 have ht8:t.length≤8:=by simp only[tableB,Bool.and_eq_true,decide_eq_true_eq]at h1;exact h1.1
 have hfound:∀ hi:0≤D0 t m,∃ h:(D0 t m).toNat<t.length,t[(D0 t m).toNat].mac=m:=fun hi=>by
  rcases Kt (fun e=>decide (EntryM.mac e=m)) t with ⟨h,_⟩ | ⟨k,hk,h,h2,_⟩
  ·rw[D0,h]at hi
   exact absurd hi qx
  ·have e1:D0 t m=k:=h
   simp only[e1,Int.toNat_natCast]
   exact⟨hk,of_decide_eq_true h2⟩
 generalize D0 t m=i at *
 refine oF ?_
 refine c0 q4 F295 ?_
 refine oO ?_
 refine⟨fun h4=>?_,fun h4=>?_⟩
 ·have h5:0≤i:=by simpa using h4
  obtain ⟨hi,hmm⟩:=hfound h5
  rw[if_pos h5]at hres
  refine oO ?_
  have hne:t≠[]:=fun h=>by rw[h]at hi;simp at hi
  refine⟨h5,by omega,?_⟩
  conv=>whnf
  refine⟨hne,?_⟩
  conv=>whnf
  refine⟨E,hi,⟨t[i.toNat].mac,wh,t[i.toNat].seen⟩,E,E,?_⟩
  conv=>whnf
  refine⟨h5,by simp;omega,?_⟩
  conv=>whnf
  refine⟨by simp;exact hne,?_⟩
  conv=>whnf
  refine⟨E,by simp;omega,⟨t[i.toNat].mac,wh,now⟩,by rw[List.getElem_set_self];rfl,by rw[List.getElem_set_self];rfl,?_⟩
  conv=>whnf
  refine Aq 55 E ?_
  refine oO ?_
  refine Am E (.cons .tmp .nil) (congrArg (SV.sl 3 Av) ?_) E
  rw[hres,List.set_set,hmm]
 ·have h5:¬ 0≤i:=by simp at h4 ⊢;omega
  rw[if_neg h5]at hres
  refine oO ?_
  refine⟨fun h6=>?_,fun h6=>?_⟩
  ·have h7:t.length=8:=by simp at h6;omega
   rw[if_pos h7]at hres
   have q5:=Ad6 t hl qn
   have hol:=Wb t t.length qn (Nat.le_refl _)
   refine oO ?_
   refine Adj [55] q5 F343 E (.cons (.row E E) .nil) E E E ?_
   generalize oldestU t t.length=o at *
   have q6:=X8 t o hol hl
   refine oO ?_
   refine iW ?_
   refine Ad (Af [(0,55),(1,56)] E F344 q6 E ⟨E,Y⟩ E ⟨.inl E,.inr E,Y⟩) E E ?_
   refine oO ?_
   refine Ad (Ah Γ.toTy 60 rfl rfl rfl rfl rfl (.row rfl) (.lit (e:=Av) (l:=[⟨m,wh,now⟩]) rfl rfl) (fun j hj=>by cases hj;decide) (by simp;omega) (by simp;omega)) rfl rfl ?_
   refine Aq 60 E ?_
   refine oO ?_
   refine Am E (.cons .tmp .nil) (congrArg (SV.sl 3 Av) ?_) E
   rw[hres,List.eraseIdx_eq_take_drop_succ]
  ·have h7:¬ t.length=8:=by simp at h6;omega
   rw[if_neg h7]at hres
   refine oO ?_
   refine Ad (Ah Γ.toTy 60 rfl rfl rfl rfl rfl (.row rfl) (.lit (e:=Av) (l:=[⟨m,wh,now⟩]) rfl rfl) (fun j hj=>by cases hj;decide) (by simp;omega) (by simp;omega)) rfl rfl ?_
   refine Aq 60 E ?_
   refine oO ?_
   exact Am E (.cons .tmp .nil) (congrArg (SV.sl 3 Av) hres) E
theorem Aao (l:List Int) (hl:l.length<2147483648):Sy.Spec Tryz.prog 170 [.sl 1 Aa l] [] (.osl 0) [(0,.row 1 Aa l)]:=cT F170 Tryz.ntmps170 fun F hF=>by
 conv=>whnf
 refine Dw E (.inl E) E E E .sl E E ?_
 intro b hb
 cases b
 ·refine oF ?_
  refine Ad (Ah Γ.toTy 7 E E E E E (.lit (e:=Aa) (l:=[]) E E) .sl qy (by simp;omega) (by simp;omega)) E E ?_
  refine oO ?_
  exact done E (.cons .tmp .nil) [(0,7)] [(0,.row 1 Aa l)] (fun _ h=>h) E E ⟨Y,⟨.inl E,E,Y⟩,E,E⟩
 ·have h0:l=[]:=List.eq_nil_of_length_eq_zero (hb rfl)
  subst h0
  refine oT ?_
  refine Cc 2 1000 1 Aa E E ?_
  exact done E (.cons .tmp .nil) [(0,1000)] [(0,.row 1 Aa [])] (fun _ h=>h) E E ⟨Y,⟨.inl E,E,Y⟩,E,E⟩
theorem U0 (l:List Int) (p:Int→Bool) (f:FuncId) (first cap:List SV) (hc:(SV.clo (.func f) first cap).inn []=true) (hc0:(SV.clo (.func f) first cap).inn [0]=true) (hf:∀ x∈l,E6 Tryz.prog f (first++[Aa x]++cap) (Ab (p x))) (hl:Aj l) :
  Sy.Spec Tryz.prog 341 [.osl 0,.clo (.func f) first cap] [(0,.row 1 Aa l)] (.osl 1) [(0,.non),(1,.row 1 Aa (l.filter fun x=>!(p x)))]:=cT F341 Tryz.ntmps341 fun F hF=>by
 have qi:=Im l p f first cap hc hf hl
 unfold Aj at hl
 have hin:∀ x:Int,B1 [] (first++[Aa x]++cap)=true:=fun x=>Cj hc rfl
 conv=>whnf
 refine Adj [0] qi F362 E (.cons (.row E E) (.cons (.refl _) .nil)) (by simp only[B1,hc,Bool.and_true];rfl) E E ?_
 rcases Kt p l with ⟨h1,h2⟩ | ⟨i,hi,h1,h2,h3⟩
 ·rw[h1]
  have e1:(l.filter fun x=>!(p x))=l:=List.filter_eq_self.2 (fun x hx=>by simp[h2 x hx])
  rw[e1]
  refine oT ?_
  refine Af7 0 1000 [0,4] E E qx (by simp;exact⟨E,E⟩) ?_
  exact done E (.cons .tmp .nil) [(0,0),(1,1000)] _ (fun _ h=>h) E E ⟨Y,⟨.inl E,E,.inl E,E,Y⟩,E,E⟩
 obtain ⟨f1,f2⟩:=Y4 (fun x=>!(p x)) l i qn (fun k hk hki=>by simp[h3 k hk hki])
 have g1:dfC (fun x=>!(p x)) l (i+1+0)=l:=by
  show dfC (fun x=>!(p x)) l (i+1)=l
  simp only[dfC,List.getElem?_eq_getElem hi]
  rw[if_neg (by simp[h2]),f1]
 have g2:D5 (fun x=>!(p x)) l (i+1+0)=i:=by
  show D5 (fun x=>!(p x)) l (i+1)=i
  simp only[D5,List.getElem?_eq_getElem hi]
  rw[if_neg (by simp[h2]),f2]
 rw[h1]
 refine oF ?_
 refine iW ?_
 refine Az (l.length-(i+1)) (fun j=>[(0,.osl 0),(1,.clo (.func f) first cap),(5,Aa (D5 (fun x=>!(p x)) l (i+1+j))),(6,Aa ((i+1+j:Nat)))]) (fun j=>[(0,.row 1 Aa (dfC (fun x=>!(p x)) l (i+1+j)))]) []
  ⟨⟨rfl,rfl,A7 _,hc0,congrArg Aa (congrArg Int.ofNat g2),rfl,congrArg (fun z=>SV.val (.int .i64 z)) qn,rfl,trivial⟩,⟨.inl (congrArg (Ob.row 1 Aa) g1),rfl,trivial⟩,rfl,rfl⟩ ?_
 intro j hj
 have hcl:=Va (fun x=>!(p x)) l (i+1+j)
 have hdl:=O8 (fun x=>!(p x)) l (i+1+j)
 have hget:=Ag1 (fun x=>!(p x)) l (i+1+j) (i+1+j) (Nat.le_refl _)
 have s1:∀ h:i+1+j<l.length,D5 (fun x=>!(p x)) l (i+1+(j+1))=if (!(p l[i+1+j]))=true then D5 (fun x=>!(p x)) l (i+1+j)+1 else D5 (fun x=>!(p x)) l (i+1+j):=fun hlt=>by
  show D5 (fun x=>!(p x)) l (i+1+j+1)=_
  simp only[D5,List.getElem?_eq_getElem hlt]
 have s2:∀ h:i+1+j<l.length,dfC (fun x=>!(p x)) l (i+1+(j+1))=if (!(p l[i+1+j]))=true then (dfC (fun x=>!(p x)) l (i+1+j)).set (D5 (fun x=>!(p x)) l (i+1+j)) l[i+1+j] else dfC (fun x=>!(p x)) l (i+1+j):=fun hlt=>by
  show dfC (fun x=>!(p x)) l (i+1+j+1)=_
  simp only[dfC,List.getElem?_eq_getElem hlt]
 have htk:=fun h=>Adc (fun x=>!(p x)) l (i+1+j) h
 obtain ⟨D,hD⟩:∃ D,dfC (fun x=>!(p x)) l (i+1+j)=D:=⟨_,rfl⟩
 obtain ⟨K,hK⟩:∃ K,D5 (fun x=>!(p x)) l (i+1+j)=K:=⟨_,rfl⟩
 rw[hD]at hdl hget s2 htk ⊢
 rw[hK]at hcl s1 s2 htk ⊢
 refine oO ?_
 refine⟨fun h=>?_,fun h=>?_⟩
 ·have hlt:i+1+j<l.length:=qA h
  have hfx:=hf l[i+1+j] (List.getElem_mem hlt)
  have s1:=s1 hlt
  have s2:=s2 hlt
  rw[List.getElem?_eq_getElem hlt,List.getElem?_eq_getElem qn]at hget
  have hget:=Option.some.inj hget
  obtain ⟨x,hx⟩:∃ x,l[i+1+j]=x:=⟨_,rfl⟩
  rw[hx]at hfx s1 s2 hget
  refine oO ?_
  refine⟨by omega,by simp;omega,?_⟩
  conv=>whnf
  refine⟨E,by omega,?_⟩
  rw[show D[((i+1+j:Nat):Int).toNat]'qn=x from hget]
  conv=>whnf
  refine Dp hfx E E E (by simp only[hin];rfl) E E ?_
  cases hpx:p x
  ·rw[hpx]at s1 s2
   refine oT ?_
   refine⟨by omega,by simp;omega,?_⟩
   conv=>whnf
   refine⟨E,by omega,x,E,E,?_⟩
   conv=>whnf
   refine iW ?_
   refine iW ?_
   exact Ar [] qn ⟨⟨E,E,A7 _,hc0,congrArg Aa (congrArg Int.ofNat s1),E,congrArg (fun z=>SV.val (.int .i64 z)) qn,E,Y⟩,⟨.inl (congrArg (Ob.row 1 Aa) s2),E,Y⟩,E,E⟩
  ·rw[hpx]at s1 s2
   refine oF ?_
   refine iW ?_
   exact Ar [] qn ⟨⟨E,E,A7 _,hc0,congrArg Aa (congrArg Int.ofNat s1),E,congrArg (fun z=>SV.val (.int .i64 z)) qn,E,Y⟩,⟨.inl (congrArg (Ob.row 1 Aa) s2),E,Y⟩,E,E⟩
 ·have hend:i+1+j=l.length:=qB h
  have hne:D≠[]:=fun h=>by rw[h]at hdl;simp at hdl;omega
  have htk:=htk qn
  rw[show l.take (i+1+j)=l from List.take_of_length_le qn]at htk
  refine Ag8 0 [0] E hne (by simp;rfl) ?_
  intro b cap' hcap
  refine oO ?_
  refine Ad (Co Γ.toTy E E E E (.inr ⟨_,_,E,E⟩) (.inl ⟨E,E⟩) qn qn) E E ?_
  refine oO ?_
  refine Ad (Io Γ.toTy 0 (k:=K) E E E E qx E E E qn qn) E E ?_
  refine oO ?_
  refine Ad (Co Γ.toTy E E E E (.inl ⟨E,E⟩) (.inr ⟨_,_,E,E⟩) qn qn) E E ?_
  refine oO ?_
  refine Vd 0 1000 [4] K E E (by rw[List.length_take];omega) (fun i hi=>?_) ?_
  ·rw[List.mem_singleton]at hi
   subst hi
   show SV.val (.slice (some (if cap'=0 then ⟨b,0,none⟩ else ⟨b,0 * 1,none⟩)) (K-0) (cap'-0))=_
   split<;>simp
  refine done E (.cons .tmp .nil) [(0,0),(1,1000)] _ (fun _ h=>h) E E ⟨Y,⟨.inl E,E,.inl ?_,E,Y⟩,E,E⟩
  rw[← htk]
  exact congrArg (Ob.row 1 Aa) (by rw[List.take_take,Nat.min_self])
def Kh (n:Net) (fw:List Bool) (at_ from_:Int) (ml:List Int):SV :=
 .agg [.sl 5 Bf n.devices,.sl 7 A2 n.ports,.sl 3 Cb n.links,.sl 6 Ao n.domains,.sl 4 Bd n.statics,.sl 4 Bs n.floods,.sl 5 Cn n.vrfs,.sl 5 Ca n.irbs,.sl 1 Ab fw,Aa at_,Aa from_,.sl 1 Aa ml]
theorem Amy (n:Net) (fw:List Bool) (p:Int) (h0:0≤p) (hp:p<n.ports.length) (hl:(nth n.ports p).link<fw.length):Sy.Spec Tryz.prog 340 [Al n,.sl 1 Ab fw,Aa p] [] (Ab (usableB n fw p)) []:=cT F340 Tryz.ntmps340 fun F hF=>by
 have hk:p.toNat<n.ports.length:=by omega
 have e1:nth n.ports p=n.ports[p.toNat]:=Ai hk
 have hu:=usableB.eq_1 n fw p
 generalize usableB n fw p=res at *
 rw[e1]at hu hl
 obtain ⟨q,hq⟩:∃ q,n.ports[p.toNat]'hk=q:=⟨_,rfl⟩
 rw[hq]at hu hl
 conv=>whnf
 refine⟨E,h0,hk,?_⟩
 rw[hq]
 conv=>whnf
 refine⟨fun h=>?_,fun h=>?_⟩
 ·rw[h,Bool.true_or]at hu
  subst hu
  refine oO ?_
  exact dN
 ·rw[h,Bool.false_or]at hu
  have h1:¬ q.link<0:=of_decide_eq_false h
  have h2:q.link.toNat<fw.length:=by omega
  rw[List.getElem?_eq_getElem h2]at hu
  refine oO ?_
  refine⟨E,by omega,h2,?_⟩
  conv=>whnf
  exact Am E (.cons .tmp .nil) (congrArg Ab hu) E
theorem portsC (n:Net) (fw:List Bool) (at_ from_:Int) (ml:List Int) (p:Int) (h0:0≤p) (hp:p<n.ports.length) (hl:(nth n.ports p).link<fw.length) :
  Sy.Spec Tryz.prog 339 [Aa p,.ref 1 (.ref 12 (Kh n fw at_ from_ ml) 0) 0] [] (Ab (decide (p=from_) || !(usableB n fw p))) []:=cT F339 Tryz.ntmps339 fun F hF=>by
 have q:=Amy n fw p h0 hp hl
 conv=>whnf
 refine⟨fun h=>?_,fun h=>?_⟩
 ·have h1:p=from_:=by simpa using h
  refine oD ?_
  refine kW ?_
  exact Am E (.cons .tmp .nil) (congrArg Ab (by rw[decide_eq_true h1,Bool.true_or])) E
 ·have h1:¬ p=from_:=by simpa using h
  refine oD ?_
  refine cD q F340 ?_
  refine oD ?_
  refine kW ?_
  exact Am E (.cons .tmp .nil) (congrArg Ab (by rw[decide_eq_false h1,Bool.false_or])) E
def Ag6 (n:Net) (fw:List Bool) (l:List Int):Prop:=∀ p∈l,0≤p∧p<n.ports.length∧(nth n.ports p).link<fw.length
theorem Aep (n:Net) (fw:List Bool) (at_ from_:Int) (ml l:List Int) (hl:Aj l) (hp:Ag6 n fw l) :
  Sy.Spec Tryz.prog 292 [.ref 12 (Kh n fw at_ from_ ml) 0,.sl 1 Aa l] [] (.sl 1 Aa (Dm n fw from_ l)) []:=cT F292 Tryz.ntmps292 fun F hF=>by
 have q:=U0 l (fun p=>decide (p=from_) || !(usableB n fw p)) 339 [] [.ref 1 (.ref 12 (Kh n fw at_ from_ ml) 0) 0] rfl rfl (fun p h=>⟨⟨_,_,F339⟩,portsC n fw at_ from_ ml p (hp p h).1 (hp p h).2.1 (hp p h).2.2⟩) hl
 unfold Aj at hl
 conv=>whnf
 refine Ba 2 1 (.ref 12 (Kh n fw at_ from_ ml) 0) E E E ?_
 refine oO ?_
 refine Ad (Af [(0,55)] E F170 (Aao l hl) E Y E ⟨.inr E,Y⟩) E E ?_
 refine oO ?_
 refine Ad (Af [(0,55),(1,56)] E F341 q E ⟨E,Y⟩ E ⟨.inl E,.inr E,Y⟩) E E ?_
 refine oO ?_
 refine Aq 56 E ?_
 exact dN
theorem Agl (n:Net) (hn:n.Fin) (fw:List Bool) (dom from_:Int) (ml:List Int) (hd:Ag dom n.domains.length=true) :
  Sy.Spec Tryz.prog 293 [.ref 12 (Kh n fw dom from_ ml) 0] [] (.sl 1 Aa (peersOut n dom from_)) []:=cT F293 Tryz.ntmps293 fun F hF=>by
 have hdi:=By hd
 have hd0:0≤dom:=hdi.1
 have hkd:dom.toNat<n.domains.length:=by omega
 have e2:nth n.domains dom=n.domains[dom.toNat]:=Ai hkd
 have hpe:=hn.peers _ (List.getElem_mem hkd)
 have hres:=peersOut.eq_1 n dom from_
 generalize peersOut n dom from_=res at *
 rw[e2]at hres
 obtain ⟨d,hdd⟩:∃ d,n.domains[dom.toNat]'hkd=d:=⟨_,rfl⟩
 rw[hdd]at hres hpe
 have qc:=J7 d.peers hpe
 conv=>whnf
 refine⟨fun h=>?_,fun h=>?_⟩
 ·rw[if_pos (by simpa using h)]at hres
  subst hres
  refine oO ?_
  refine Ak 2 1 Aa E ?_
  exact dN
 ·rw[if_neg (by simpa using h)]at hres
  subst hres
  refine oO ?_
  refine⟨E,hd0,hkd,?_⟩
  rw[hdd]
  conv=>whnf
  refine cD qc F170 ?_
  refine oD ?_
  refine kW ?_
  exact dN
def L9 (n:Net) (fw:List Bool) (dom:Int):Bool:=Ag dom n.domains.length && decide (fw.length=n.links.length) && Ac n
theorem Agh (n:Net) (hn:n.Fin) (fw:List Bool) (dom from_:Int) (h:L9 n fw dom=false) :
  Sy.Spec Tryz.prog 291 [Al n,.sl 1 Ab fw,Aa dom,Aa from_] [] (.tup [.val (.pointer none),Ab false]) []:=cT F291 Tryz.ntmps291 fun F hF=>by
 have qr:=A9 n hn
 conv=>whnf
 refine⟨fun h1=>?_,fun h1=>?_⟩
 ·(refine oT ?_;refine bT ?_;refine bT ?_)
  exact dN
 refine oO ?_
 refine⟨fun h2=>?_,fun h2=>?_⟩
 ·(refine oT ?_;refine bT ?_)
  exact dN
 refine oO ?_
 refine⟨fun h3=>?_,fun h3=>?_⟩
 ·refine oT ?_
  exact dN
 refine oO ?_
 refine c0 qr F23 ?_
 cases hbn:Ac n
 ·refine oT ?_
  exact dN
 ·exfalso
  have h4:Ag dom n.domains.length=true:=Iy ⟨by simp at h1;omega,by simp at h2;omega⟩
  have h5:fw.length=n.links.length:=by simp at h3;omega
  simp[L9,h4,h5,hbn]at h
theorem Akm (n:Net) (hn:n.Fin) (fw:List Bool) (dom from_:Int) (h:L9 n fw dom=true) :
  Sy.Spec Tryz.prog 291 [Al n,.sl 1 Ab fw,Aa dom,Aa from_] [] (.tup [.ref 12 (Kh n fw dom from_ (A0 n dom)) 0,Ab (decide (from_=-1) || decide (from_=-2) || inB (A0 n dom) from_)]) []:=cT F291 Tryz.ntmps291 fun F hF=>by
 have qr:=A9 n hn
 simp only[L9,Bool.and_eq_true,decide_eq_true_eq]at h
 obtain ⟨⟨hd,hfw⟩,hbn⟩:=h
 rw[hbn]at qr
 have hdi:=By hd
 have qm:=Jc n hn dom
 have qc:=Cq (B5 n dom) from_ (E0 n hn dom)
 have hmt:B5 n dom=A0 n dom:=by rw[B5,if_pos ⟨⟨hdi.1,hdi.2⟩,hbn⟩]
 rw[hmt]at qm qc
 generalize A0 n dom=ml at *
 conv=>whnf
 refine⟨fun h1=>absurd h1 (by simp;omega),fun _=>?_⟩
 refine oO ?_
 refine⟨fun h1=>absurd h1 (by simp;omega),fun _=>?_⟩
 refine oO ?_
 refine⟨fun h1=>absurd h1 (by simp;omega),fun _=>?_⟩
 refine oO ?_
 refine c0 qr F23 ?_
 refine oF ?_
 refine cD qm F26 ?_
 refine oD ?_
 refine kW ?_
 refine⟨fun h1=>?_,fun h1=>?_⟩
 ·have h2:from_=-1:=by simpa using h1
  refine Ba 41 12 (Kh n fw dom from_ ml) E E E ?_
  refine oT ?_
  exact Am E (.cons .tmp (.cons .tmp .nil)) (congrArg (fun z=>SV.tup [_,Ab z]) (by simp[h2])) E
 have h2:¬ from_=-1:=by simpa using h1
 refine Ba 41 12 (Kh n fw dom from_ ml) E E E ?_
 refine oO ?_
 refine⟨fun h3=>?_,fun h3=>?_⟩
 ·have h4:from_=-2:=by simpa using h3
  refine oO ?_
  exact Am E (.cons .tmp (.cons .tmp .nil)) (congrArg (fun z=>SV.tup [_,Ab z]) (by simp[h4])) E
 have h4:¬ from_=-2:=by simpa using h3
 refine oO ?_
 refine c0 qc F25 ?_
 refine oO ?_
 exact Am E (.cons .tmp (.cons .tmp .nil)) (congrArg (fun z=>SV.tup [_,Ab z]) (by simp[h2,h4])) E
theorem Zt {n:Net} (hb:Ac n=true) {p:Int} (h0:0≤p) (hp:p<n.ports.length):(nth n.ports p).link<n.links.length:=by
 have hk:p.toNat<n.ports.length:=by omega
 have e1:nth n.ports p=n.ports[p.toNat]:=Ai hk
 rw[e1]
 by_cases hl:0≤n.ports[p.toNat].link
 ·have:=Ho hb hk hl
  omega
 ·omega
theorem V7 {n:Net} {fw:List Bool} (hb:Ac n=true) (hf:fw.length=n.links.length) {l:List Int} (h:∀ p∈l,0≤p∧p<n.ports.length):Ag6 n fw l:=fun p hp =>
 ⟨(h p hp).1,(h p hp).2,by rw[hf];exact Zt hb (h p hp).1 (h p hp).2⟩
theorem Dr {n:Net} {dom:Int}:∀ p∈A0 n dom,0≤p∧p<n.ports.length:=fun p hp=>by
 rw[A0,Ms]at hp
 exact⟨hp.1,hp.2.1⟩
theorem Jd {n:Net} (hn:n.Fin) (dom:Int):Aj (A0 n dom):=by
 have h1:=D4 (Og n (nth n.domains dom)) n.ports.length
 have h2:=hn.ports
 unfold Aj at *
 rw[A0]
 omega
theorem Lk (n:Net) (fw:List Bool) (dom from_:Int):K3 n fw dom from_=(L9 n fw dom && (decide (from_=-1) || decide (from_=-2) || inB (A0 n dom) from_)):=rfl
theorem floodS (n:Net) (hn:n.Fin) (fw:List Bool) (dom from_:Int) :
  Sy.Spec Tryz.prog 229 [Al n,.sl 1 Ab fw,Aa dom,Aa from_] [] (.tup [.sl 1 Aa (floodT n fw dom from_).1,.sl 1 Aa (floodT n fw dom from_).2.1,Aa (floodT n fw dom from_).2.2]) []:=cT F229 Tryz.ntmps229 fun F hF=>by
 have hres:=floodT.eq_1 n fw dom from_
 generalize floodT n fw dom from_=res at *
 rw[Lk]at hres
 cases hbase:L9 n fw dom
 ·rw[hbase,Bool.false_and,if_pos rfl]at hres
  subst hres
  have q:=Agh n hn fw dom from_ hbase
  conv=>whnf
  refine c0 q F291 ?_
  refine oT ?_
  refine Ak 8 1 Aa E ?_
  refine Ak 9 1 Aa E ?_
  exact dN
 rw[hbase,Bool.true_and]at hres
 have q:=Akm n hn fw dom from_ hbase
 have hb2:=hbase
 simp only[L9,Bool.and_eq_true,decide_eq_true_eq]at hb2
 obtain ⟨⟨hd,hfw⟩,hbn⟩:=hb2
 have qp:=Aep n fw dom from_ (A0 n dom) (A0 n dom) (Jd hn dom) (V7 hbn hfw Dr)
 have qe:=Agl n hn fw dom from_ (A0 n dom) hd
 generalize (decide (from_=-1) || decide (from_=-2) || inB (A0 n dom) from_)=ok at *
 generalize A0 n dom=ml at *
 conv=>whnf
 refine c0 q F291 ?_
 cases ok
 ·rw[if_pos rfl]at hres
  subst hres
  refine oT ?_
  refine Ak 8 1 Aa E ?_
  refine Ak 9 1 Aa E ?_
  exact dN
 rw[if_neg qx]at hres
 subst hres
 refine oF ?_
 refine c0 qp F292 ?_
 refine oO ?_
 refine c0 qe F293 ?_
 refine oO ?_
 exact dN
theorem Sa (l:List Static) (p:Static→Bool) (f:FuncId) (first cap:List SV) (hc:(SV.clo (.func f) first cap).inn []=true) (hf:∀ x∈l,E6 Tryz.prog f (first++[Bd x]++cap) (Ab (p x))) (hl:Aj l) :
  Sy.Spec Tryz.prog 386 [.sl 4 Bd l,.clo (.func f) first cap] [] (Aa (B8 p l)) []:=cT F386 Tryz.ntmps386 fun F hF=>by
 unfold Aj at hl
 have hin:∀ x:Static,B1 [] (first++[Bd x]++cap)=true:=fun x=>Cj hc rfl
 conv=>whnf
 refine Ay l.length (fun j=>C4 (fun _ x=>!(p x)) l j) (fun j=>[(0,.sl 4 Bd l),(1,.clo (.func f) first cap),(7,Aa l.length),(8,Aa j)]) (fun _=>[]) [] (At _ _) ⟨⟨E,E,A7 _,hc,E,E,E,E,Y⟩,Y,E,E⟩ ?_
 intro j hj hI
 refine oO ?_
 refine⟨fun h=>?_,fun h=>?_⟩
 ·have h:=of_decide_eq_true h
  have hj2:j<l.length:=by omega
  refine oO ?_
  refine⟨E,by omega,by omega,?_⟩
  conv=>whnf
  refine Dp (hf l[j] (List.getElem_mem hj2)) E E E (by simp only[hin];rfl) E E ?_
  refine oO ?_
  refine⟨fun h2=>?_,fun h2=>?_⟩
  ·refine oO ?_
   refine Am E (.cons .tmp .nil) (congrArg Aa ?_) E
   exact C6 hj2 (fun i hi hij=>by simpa using hI i hi hij) h2
  ·refine oO ?_
   refine iW ?_
   exact Aw [] hI hj2 (Ap hI hj2 (by simp[h2])) ⟨⟨E,E,A7 _,hc,E,E,E,E,Y⟩,Y,E,E⟩
 ·have h:=of_decide_eq_false h
  refine oO ?_
  refine Am E (.cons .tmp .nil) (congrArg Aa ?_) E
  exact Ds (fun i hi=>by simpa using hI i hi qn)
theorem entryC (dom:Int) (m:Nat) (s:Static):Sy.Spec Tryz.prog 387 [Bd s,.ref 1 (Aa dom) 0,.ref 1 (A5 m) 0] [] (Ab (decide (s.domain=dom) && decide (s.mac=(m:Int)))) []:=cT F387 Tryz.ntmps387 fun F hF=>by
 conv=>whnf
 refine⟨fun h=>?_,fun h=>?_⟩
 ·refine oO ?_
  refine Am E (.cons .tmp .nil) (congrArg Ab ?_) E
  have h1:s.domain=dom:=by simpa using h
  rw[decide_eq_true h1,Bool.true_and,Bool.eq_iff_iff]
  simp
 ·refine oO ?_
  refine Am E (.cons .tmp .nil) (congrArg Ab ?_) E
  have h1:¬ s.domain=dom:=by simpa using h
  rw[decide_eq_false h1,Bool.false_and]
theorem entryI (n:Net) (hn:n.Fin) (dom:Int) (m:Nat):Sy.Spec Tryz.prog 375 [Al n,Aa dom,A5 m] [] (Aa (Db n dom m)) []:=cT F375 Tryz.ntmps375 fun F hF=>by
 have q:=Sa n.statics (fun s:Static=>decide (s.domain=dom) && decide (s.mac=(m:Int))) 387 [] [.ref 1 (Aa dom) 0,.ref 1 (A5 m) 0] rfl (fun x _=>⟨⟨_,_,F387⟩,entryC dom m x⟩) hn.statics
 conv=>whnf
 refine Ba 4 1 (Aa dom) E E E ?_
 refine Ba 5 1 (A5 m) E E E ?_
 refine oO ?_
 refine c0 q F386 ?_
 refine oO ?_
 exact dN
def staticP (n:Net) (dom:Int) (m:Nat):Int:=if 0≤Db n dom m then (nth n.statics (Db n dom m)).port else -1
theorem Aft (n:Net) (hn:n.Fin) (hb:Ac n=true) (dom:Int) (m:Nat):Sy.Spec Tryz.prog 348 [Al n,Aa dom,A5 m] [] (Aa (staticP n dom m)) []:=cT F348 Tryz.ntmps348 fun F hF=>by
 have q:=entryI n hn dom m
 have qr:=A9 n hn
 rw[hb]at qr
 have hlt:Db n dom m<n.statics.length:=D3 _ _
 have hres:=staticP.eq_1 n dom m
 generalize staticP n dom m=res at *
 generalize Db n dom m=i at *
 conv=>whnf
 refine c0 q F375 ?_
 refine oO ?_
 refine⟨fun h=>?_,fun h=>?_⟩
 ·rw[if_neg (by simp at h;omega)]at hres
  subst hres
  refine oT ?_
  exact dN
 ·have h0:0≤i:=by simp at h;omega
  have hk:i.toNat<n.statics.length:=by omega
  have e1:nth n.statics i=n.statics[i.toNat]:=Ai hk
  rw[if_pos h0,e1]at hres
  refine oO ?_
  refine c0 qr F23 ?_
  refine oF ?_
  refine⟨E,h0,hk,?_⟩
  conv=>whnf
  exact Am E (.cons .tmp .nil) (congrArg Aa hres) E
end Go.Sy.YteinjapglfkamaaGreat
