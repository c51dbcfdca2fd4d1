/-
  T17 T14 T19 T21 Z0 Z1 K35 K36 K37 K38 K39 K40 Z2 Sy36 Sy37 Sy38 Z3 Z4 K41 K42 K8: parts of a proof, joined by program.
-/
import Derived.Test.YteinjapglfkamaaGreatXC7
import Derived.Test.YteinjapglfkamaaGreatXC6
import Derived.Test.YteinjapglfkamaaGreatXC5
import Derived.Laws.LoneSync
import Derived.Test.YteinjapglfkamaaGreatXC4
namespace Go.Sy.YteinjapglfkamaaGreat
section
variable {n:Net} {up:List Bool} {ranks roots costs:List Int}
theorem Ll (S:Solved n up ranks roots costs) (hr:Ac n=true) {i j:Nat} (h:Km n up i j):nth roots (Bl n i)=nth roots (Bl n j):=by
 have h1:=S.tri i j h
 have h2:=S.tri j i (Abl hr h)
 unfold Le2 at h1 h2
 omega
theorem Z6 (S:Solved n up ranks roots costs) (hr:Ac n=true) {i j:Nat} (h:Km n up i j):nth costs (Bl n i)≤nth costs (Bl n j)+Ie n i:=by
 have h1:=S.tri i j h
 have h2:=Ll S hr h
 unfold Le2 at h1
 omega
theorem Qm (S:Solved n up ranks roots costs) {d:Int} (h0:0≤d) (h1:d<n.devices.length):0≤nth costs d∧nth costs d≤1000000:=by
 have hl:=S.costsL
 rw[Ag qn]
 exact S.bound _ (List.getElem_mem _)
theorem Agn (S:Solved n up ranks roots costs) {d:Int} (h0:0≤d) (h1:d<n.devices.length) (h:nth roots d=nth ranks d):nth costs d=0:=by
 have h2:=S.self d h0 h1
 have h3:=Qm S h0 h1
 unfold Le2 at h2
 omega
theorem Ajr (S:Solved n up ranks roots costs) {d:Int} (h0:0≤d) (h1:d<n.devices.length) (h:nth roots d≠nth ranks d):∃ i j:Nat,Km n up i j∧Bl n i=d∧nth roots d=nth roots (Bl n j)∧nth costs d=nth costs (Bl n j)+Ie n i:=by
 rcases S.der d h0 h1 with h2 | h2
 ·exact absurd h2.1 h
 ·exact h2
theorem best_mem {dev:Int} {v:Vec}:v∈Il n up ranks roots costs dev n.ports.length↔∃ i j:Nat,Km n up i j∧Bl n i=dev∧v=⟨nth roots (Bl n j),nth costs (Bl n j)+Ie n i,nth ranks (Bl n j),j,i⟩:=by
 rw[Il,List.mem_filterMap]
 constructor
 ·rintro ⟨i,hi,he⟩
  have hi:=List.mem_range.1 hi
  unfold Wr at he
  simp only at he
  split at he
  ·rename_i hc
   simp only[Bool.and_eq_true,beq_iff_eq,decide_eq_true_eq]at hc
   obtain ⟨j,hj⟩:∃ j:Nat,B9 n up i=j:=⟨(B9 n up i).toNat,by omega⟩
   rw[hj]at he
   exact⟨i,j,⟨hi,hj⟩,hc.1,(Option.some.inj he).symm⟩
  ·cases he
 ·rintro ⟨i,j,⟨hi,hj⟩,hd,rfl⟩
  refine⟨i,List.mem_range.2 hi,?_⟩
  unfold Wr
  have e:(n.ports.getD i default).dev=dev:=hd
  simp only[hj,e]
  rw[if_pos qz]
  rfl
theorem Ap0 {d:Int} (h:nth roots d=nth ranks d):Hh n up ranks roots costs d=-1:=by
 simp only[Hh,h,beq_self_eq_true,Bool.or_true,if_true]
theorem Ab4 {d:Int} {i:Nat} (h:Hh n up ranks roots costs d=i):∃ j:Nat,Km n up i j∧Bl n i=d∧nth roots d≠nth ranks d∧(H9 (Il n up ranks roots costs d n.ports.length)).1=⟨nth roots (Bl n j),nth costs (Bl n j)+Ie n i,nth ranks (Bl n j),j,i⟩:=by
 have hmem:=@Alb (Il n up ranks roots costs d n.ports.length)
 unfold Hh at h
 simp only at h
 split at h
 ·omega
 ·rename_i hc
  simp only[Bool.or_eq_true,Bool.not_eq_true',not_or,Bool.not_eq_false,beq_iff_eq]at hc
  obtain ⟨i',j,h1,h2,h3⟩:=best_mem.1 (hmem hc.1)
  rw[h3]at h
  have:i'=i:=by simp only at h;omega
  subst this
  exact⟨j,h1,h2,hc.2,h3⟩
theorem Apz (S:Solved n up ranks roots costs) (hr:Ac n=true) {d:Int} (h0:0≤d) (h1:d<n.devices.length) (h:nth roots d≠nth ranks d):∃ i j:Nat,Km n up i j∧Bl n i=d∧Hh n up ranks roots costs d=i∧nth costs d=nth costs (Bl n j)+Ie n i:=by
 obtain ⟨p,q,g1,g2,g3,g4⟩:=Ajr S h0 h1 h
 have hm:=(best_mem (ranks:=ranks) (roots:=roots) (costs:=costs)).2 ⟨p,q,g1,g2,rfl⟩
 have h2:(H9 (Il n up ranks roots costs d n.ports.length)).2=true:=by
  cases hb:(H9 (Il n up ranks roots costs d n.ports.length)).2
  ·rw[(Ah7 hb).1]at hm;simp at hm
  ·rfl
 obtain ⟨i,j,e1,e2,e3⟩:=best_mem.1 (Alb h2)
 have hle:=Adl _ _ hm
 rw[e3]at hle
 refine⟨i,j,e1,e2,?_,?_⟩
 ·unfold Hh
  simp only[h2,Bool.not_true,Bool.false_or,beq_iff_eq]
  rw[if_neg h,e3]
 ·have r1:=Ll S hr e1
  have v1:=Z6 S hr e1
  rw[e2]at r1 v1
  simp only[Ch]at hle
  grind
theorem Ajy (n:Net) (up:List Bool) (ranks costs:List Int) {p:Nat} (hp:p<n.ports.length):nth (H7 n up ranks costs n.ports.length) p=Qp n up ranks costs p:=by
 rw[Ag (by rw[L0];simpa using hp)]
 simp[H7,hp]
theorem Vj (n:Net) (up:List Bool) (ranks roots costs:List Int) {p:Nat} (hp:p<n.ports.length):∀ e:Nat,(∀ d:Nat,d<e→Hh n up ranks roots costs d≠p)→nth (Ir n up ranks roots costs e) p=Qp n up ranks costs p
 | 0,_=>Ajy n up ranks costs hp
 | e+1,h=>by
  have ih:=Vj n up ranks roots costs hp e (fun d hd=>h d qn)
  have hne:=h e qn
  rw[Ir]
  split
  ·rw[nth,List.getElem?_set_ne qn]
   exact ih
  ·exact ih
theorem Yb (n:Net) (up:List Bool) (ranks roots costs:List Int) {p:Nat} (hp:p<n.ports.length):∀ (e d:Nat),d<e→Hh n up ranks roots costs d=p→nth (Ir n up ranks roots costs e) p=1
 | 0,_,h,_=>absurd h qn
 | e+1,d,h,hb=>by
  have hl:=Hp n up ranks roots costs e
  rw[Ir]
  by_cases hbe:Hh n up ranks roots costs e=p
  ·rw[hbe,if_pos qn,nth,Int.toNat_natCast,List.getElem?_set_self qn]
   rfl
  ·have hde:d≠e:=fun h=>hbe (by rw[← h];exact hb)
   have ih:=Yb n up ranks roots costs hp e d qn hb
   split
   ·rw[nth,List.getElem?_set_ne qn]
    exact ih
   ·exact ih
def Aq7 (n:Net) (up:List Bool) (ranks roots costs:List Int):List Int:=Ir n up ranks roots costs n.devices.length
theorem Ac8 (hr:Ac n=true) {p:Nat} (hp:p<n.ports.length):nth (Aq7 n up ranks roots costs) p=if Hh n up ranks roots costs (Bl n p)=p then 1 else Qp n up ranks costs p:=by
 have hd:=C2 hr hp
 split
 ·rename_i h
  refine Yb n up ranks roots costs hp _ (Bl n p).toNat qn ?_
  rw[Int.toNat_of_nonneg hd.1]
  exact h
 ·rename_i h
  refine Vj n up ranks roots costs hp _ (fun d _ hb=>h ?_)
  obtain ⟨_,_,h2,_⟩:=Ab4 hb
  rw[h2]
  exact hb
theorem Ajz {p:Nat} (h:B9 n up p<0):Qp n up ranks costs p=0:=by rw[Qp,if_pos h]
theorem Aod {p q:Nat} (h:Km n up p q):Qp n up ranks costs p=if nth costs (Bl n p)<nth costs (Bl n q)∨(nth costs (Bl n p)=nth costs (Bl n q)∧nth ranks (Bl n p)<nth ranks (Bl n q)) then 2 else 3:=by
 rw[Qp,h.2,if_neg qn,Int.toNat_natCast,Kn]
 have e1:(n.ports.getD p default).dev=Bl n p:=rfl
 have e2:(n.ports.getD q default).dev=Bl n q:=rfl
 simp only[e1,e2,Bool.or_eq_true,decide_eq_true_eq,Bool.and_eq_true,beq_iff_eq]
def Xv (roles:List Int) (l:Link):Bool:=inB [nth roles l.a,nth roles l.b] 1 && inB [nth roles l.a,nth roles l.b] 2
def fwdL (n:Net) (roles:List Int):List Bool:=n.links.map (Xv roles)
end
end Go.Sy.YteinjapglfkamaaGreat
namespace Go.Sy.YteinjapglfkamaaGreat
open Go.Proofs
theorem G_lit {C:Cx} {k:List KI} {s:SS} (d:Nat) {sz:Nat} {α:Type} (e:α→SV) (l:List α) {svs:List SV} (h:s.h d=.lit sz svs) (hl:l.map e=svs) (hg:G C k ⟨s.σ,upd s.h d (.row sz e l)⟩):G C k s:=fun κ a w hs=>by
 refine hg κ a w ⟨hs.defers,hs.size,hs.inv,hs.ctx,hs.slot,fun j=>?_⟩
 show ObOK κ w j (upd s.h d (.row sz e l) j)
 by_cases hj:j=d
 ·subst hj
  rw[Bu]
  have hob:=hs.obj j
  rw[h]at hob
  have hlen:l.length=svs.length:=by rw[← hl,List.length_map]
  obtain ⟨b,cap,cs,T,fr,e1,e2,e3,e4,e5,e6⟩:=hob
  exact .inr ⟨b,cap,cs,T,fr,by rw[hlen];exact e1,e2,e3,e4,by omega,fun i x hx=>by rw[hlen];exact e6 i x (Mg hl i x hx)⟩
 ·rw[Cd _ _ hj];exact hs.obj j
attribute [local irreducible] Go.Sy.G Go.Sy.DR
set_option maxRecDepth 100000
set_option maxHeartbeats 4000000
theorem Aar (n:Net) (up:List Bool) (x:Item) (q:List Item):∀ i,((List.range i).foldl (Do n up x) q).length≤q.length+i
 | 0=>by simp
 | i+1=>by
  have:=Aar n up x q i
  rw[List.range_succ,List.foldl_append]
  simp only[List.foldl_cons,List.foldl_nil]
  rw[Do]
  split
  ·rw[Kf];omega
  ·omega
theorem reachS (n:Net) (up:List Bool) (ranks roots costs:List Int) (hr:Ac n=true) (hu:up.length=n.links.length) (hcost:Cq n=true) (hrk:ranks.length=n.devices.length) (hro:roots.length=n.devices.length) (hc:costs.length=n.devices.length) (hrr:∀ r∈ranks,0≤r) (D:List Item × List Int × List Int) (hD:J5 n up (Eh ranks ranks.length,roots,costs)=D) :
  Sy.Spec Tryz.prog 221 [.ptr 0 0] (Ac7 n up ranks roots costs) (.tup []) (Ac7 n up ranks D.2.1 D.2.2):=cT F221 Tryz.ntmps221 fun F hF=>by
 have hf:=C4 hr
 conv=>whnf
 refine G_lit 10 Bv [] E E ?_
 refine Aq ranks.length (fun j=>[(0,.ptr 0 0),(2,.ptr 11 0),(15,.sl 1 Aa ranks),(16,Aa ranks.length),(17,Aa j)]) (fun j=>[(0,.box (To n up ranks (.osl 1) (.osl 2))),(1,.row 1 Aa roots),(2,.row 1 Aa costs),(11,.box [.osl 12]),(12,.row 3 Bv (Eh ranks j))]) [(12,10)]
  ⟨⟨rfl,rfl,rfl,rfl,rfl,rfl,rfl,rfl,rfl,rfl,trivial⟩,⟨.inl rfl,rfl,.inl rfl,rfl,.inl rfl,rfl,.inl rfl,rfl,.inl rfl,rfl,trivial⟩,rfl,rfl⟩ ?_
 intro j hj
 refine oO ?_
 refine⟨fun h=>?_,fun h=>?_⟩
 ·have hlt:j<ranks.length:=by simpa using h
  have e1:ranks[(j:Int).toNat]'qn=ranks[j]:=rfl
  have hpush:=Adt (Eh ranks j) ⟨ranks.getD j 0,0,j⟩ (by rw[Lx];omega)
  have hsucc:=Jq ranks j
  rw[A8 (show j<ranks.length by omega)]at hpush hsucc
  refine oO ?_
  refine⟨by omega,by omega,?_⟩
  conv=>whnf
  refine⟨by omega,?_⟩
  rw[e1]
  conv=>whnf
  refine Ae (Ah [(0,11),(1,12),(2,28)] E F286 hpush E ⟨E,E,Y⟩ E ⟨.inl E,.inl E,.inr E,Y⟩) E E ?_
  refine oO ?_
  refine iW ?_
  refine An [(12,28)] hlt ⟨⟨E,E,E,E,E,E,E,E,E,E,Y⟩,⟨.inl E,E,.inl E,E,.inl E,E,.inl E,E,.inl (congrArg (Ob.row 3 Bv) hsucc),E,Y⟩,E,E⟩
 ·have hjl:j=ranks.length:=by
   have:¬ j<ranks.length:=by simpa using h
   omega
  subst hjl
  refine oO ?_
  refine Sr (α:={s:List Item × List Int × List Int // ReachInv n s∧J5 n up s=D}) (fun p=>[(0,.ptr 0 0),(2,.ptr 11 0)]) (fun p=>[(0,.box (To n up ranks (.osl 1) (.osl 2))),(1,.row 1 Aa p.1.2.1),(2,.row 1 Aa p.1.2.2),(11,.box [.osl 12]),(12,.row 3 Bv p.1.1)]) (fun p=>reachM p.1) ⟨(Eh ranks ranks.length,roots,costs),Ac6 n ranks roots costs hr hrk hro hc hrr,hD⟩ []
   ⟨⟨rfl,rfl,rfl,rfl,trivial⟩,⟨.inl rfl,rfl,.inl rfl,rfl,.inl rfl,rfl,.inl rfl,rfl,.inl rfl,rfl,trivial⟩,rfl,rfl⟩ ?_
  rintro ⟨⟨q,ro,co⟩,hI,hDq⟩
  have hlen:=Xf q
  have hdn:=Akk n up (q,ro,co)
  have hds:=Ahh n up hr hcost (q,ro,co) hI
  dsimp only at hdn hds ⊢
  refine oO ?_
  refine Ae (Uv [12] E F287 hlen (.cons (.row E E) .nil) E E) E E ?_
  refine oO ?_
  refine⟨fun h2=>?_,fun h2=>?_⟩
  ·have hne:q≠[]:=fun e=>by subst e;simp at h2
   have hpop:=Asb q hne (by have:=hI.few;simp only at this;omega)
   have hx:=hI.items _ ((S2 q hne).mem_iff.1 (List.getLast_mem (D6 hne)))
   have hst:Oj n up (q,ro,co)=if 0≤nth ro ((De q).getLast (D6 hne)).dev then ((De q).dropLast,ro,co) else ((List.range n.ports.length).foldl (Do n up ((De q).getLast (D6 hne))) (De q).dropLast,ro.set ((De q).getLast (D6 hne)).dev.toNat ((De q).getLast (D6 hne)).root,co.set ((De q).getLast (D6 hne)).dev.toNat ((De q).getLast (D6 hne)).cost):=by
    rw[Oj,Aa7 hne]
   have hr1:=K0 n up hr hcost (q,ro,co) hI hne
   have hD1:=hds hne
   rw[hDq]at hD1
   rw[hst]at hr1 hD1
   generalize (De q).getLast (D6 hne)=x at *
   have hroL:=hI.rootsL
   have hcoL:=hI.costsL
   dsimp only at hroL hcoL
   rw[Ag (l:=ro) (i:=x.dev) qn]at hr1 hD1
   refine oO ?_
   refine Ae (Ah [(0,11),(1,12),(2,38)] E F288 hpop E ⟨E,E,Y⟩ E ⟨.inl E,.inl E,.inr E,Y⟩) E E ?_
   refine oO ?_
   refine Ae (Yy Γ.toTy E E E E) E E ?_
   (refine rg ?_;(conv=>whnf);refine aF ?_;refine oD ?_)
   have hx1:=hx.1
   have hx2:=hx.2.1
   refine⟨by omega,by omega,?_⟩
   conv=>whnf
   refine⟨E,by omega,?_⟩
   conv=>whnf
   refine kW ?_
   refine⟨fun h3=>?_,fun h3=>?_⟩
   ·have h30:0≤ro[x.dev.toNat]'qn:=of_decide_eq_true h3
    rw[if_pos h30]at hr1 hD1
    refine oO ?_
    exact Ub (α:={s:List Item × List Int × List Int // ReachInv n s∧J5 n up s=D}) (L:=fun p=>[(0,.ptr 0 0),(2,.ptr 11 0)]) (O:=fun p=>[(0,.box (To n up ranks (.osl 1) (.osl 2))),(1,.row 1 Aa p.1.2.1),(2,.row 1 Aa p.1.2.2),(11,.box [.osl 12]),(12,.row 3 Bv p.1.1)]) (μ:=fun p=>reachM p.1) (x:=⟨(q,ro,co),hI,hDq⟩)
     ⟨((De q).dropLast,ro,co),hr1.1,hD1.symm⟩ [(12,38)] hr1.2
     ⟨⟨rfl,rfl,rfl,rfl,trivial⟩,⟨.inl rfl,rfl,.inl rfl,rfl,.inl rfl,rfl,.inl rfl,rfl,.inl rfl,rfl,trivial⟩,rfl,rfl⟩
   ·have h30:¬ 0≤ro[x.dev.toNat]'qn:=of_decide_eq_false h3
    rw[if_neg h30]at hr1 hD1
    refine oO ?_
    refine⟨by omega,by omega,?_⟩
    conv=>whnf
    refine⟨by omega,by omega,?_⟩
    conv=>whnf
    refine⟨x.root,E,E,?_⟩
    conv=>whnf
    refine⟨by omega,by omega,E,by omega,x.cost,E,E,?_⟩
    conv=>whnf
    refine kW ?_
    generalize ro.set x.dev.toNat x.root=ro' at *
    generalize co.set x.dev.toNat x.cost=co' at *
    refine Aq n.ports.length (fun j=>[(0,.ptr 0 0),(2,.ptr 11 0),(5,.ptr 5 0),(77,.sl 7 A7 n.ports),(78,Aa n.ports.length),(79,Aa j)]) (fun j=>[(0,.box (To n up ranks (.osl 1) (.osl 2))),(1,.row 1 Aa ro'),(2,.row 1 Aa co'),(5,.box [Aa x.root,Aa x.cost,Aa x.dev]),(11,.box [.osl 12]),(12,.row 3 Bv ((List.range j).foldl (Do n up x) (De q).dropLast))]) [(12,38)]
     ⟨⟨rfl,rfl,rfl,rfl,rfl,rfl,rfl,rfl,rfl,rfl,rfl,rfl,trivial⟩,⟨.inl rfl,rfl,.inl rfl,rfl,.inl rfl,rfl,.inl rfl,rfl,.inl rfl,rfl,.inl rfl,rfl,trivial⟩,rfl,rfl⟩ ?_
    intro j hj
    refine oO ?_
    refine⟨fun h4=>?_,fun h4=>?_⟩
    ·have hlt:j<n.ports.length:=by simpa using h4
     have e1:n.ports[(j:Int).toNat]'qn=n.ports[j]:=rfl
     have hfar:=farR n up ranks ro' co' j hr hu hlt
     have hql:(De q).dropLast.length≤q.length:=by rw[List.length_dropLast,Ee];omega
     have hlenQ:=Aar n up x (De q).dropLast j
     have hfew:=hI.few
     dsimp only at hfew
     have hsucc:(List.range (j+1)).foldl (Do n up x) (De q).dropLast=Do n up x ((List.range j).foldl (Do n up x) (De q).dropLast) j:=by
      rw[List.range_succ,List.foldl_append];rfl
     generalize (List.range j).foldl (Do n up x) (De q).dropLast=Q at *
     rw[Do,A8 hlt]at hsucc
     refine oO ?_
     refine⟨by omega,by omega,?_⟩
     conv=>whnf
     refine⟨by omega,?_⟩
     rw[e1]
     conv=>whnf
     refine Ae (Ah [] E F222 hfar E ⟨E,E,E,Y⟩ E ⟨.inl E,.inl E,.inl E,Y⟩) E E ?_
     refine oO ?_
     refine⟨fun h5=>?_,fun h5=>?_⟩
     ·refine oO ?_
      refine⟨fun h6=>?_,fun h6=>?_⟩
      ·have hk0:0≤B9 n up j:=of_decide_eq_true h6
       have hk1:=Uw (up:=up) hr hlt hk0
       rw[if_pos ⟨by simpa using h5,hk0⟩,Ag (l:=n.ports) (i:=B9 n up j) qn]at hsucc
       have hpc:1≤(n.ports[(B9 n up j).toNat]'qn).cost∧(n.ports[(B9 n up j).toNat]'qn).cost≤65535:=by
        simp only[Cq,Bool.not_eq_true',List.any_eq_false]at hcost
        have:=hcost _ (List.getElem_mem (show (B9 n up j).toNat<n.ports.length by omega))
        simp only[I5,Bool.or_eq_true,decide_eq_true_eq,not_or]at this
        omega
       have hxc:=hx.2.2.2
       have hpush:=Adt Q ⟨x.root,x.cost+(n.ports[(B9 n up j).toNat]'qn).cost,(n.ports[(B9 n up j).toNat]'qn).dev⟩ qn
       refine oO ?_
       refine⟨E,hk0,by omega,?_⟩
       conv=>whnf
       refine iW ?_
       refine⟨E,hk0,by omega,?_⟩
       conv=>whnf
       refine Bb (Ah [(0,11),(1,12),(2,123)] E F286 hpush E ⟨E,E,Y⟩ E ⟨.inl E,.inl E,.inr E,Y⟩) qq E ?_
       refine oD ?_
       refine kW ?_
       refine iW ?_
       refine An [(12,123)] hlt ⟨⟨E,E,E,E,E,E,E,E,E,E,E,E,Y⟩,⟨.inl E,E,.inl E,E,.inl E,E,.inl E,E,.inl E,E,.inl (congrArg (Ob.row 3 Bv) hsucc),E,Y⟩,E,E⟩
      ·rw[if_neg (fun hh=>(of_decide_eq_false h6) hh.2)]at hsucc
       refine oO ?_
       refine iW ?_
       refine An [] hlt ⟨⟨E,E,E,E,E,E,E,E,E,E,E,E,Y⟩,⟨.inl E,E,.inl E,E,.inl E,E,.inl E,E,.inl E,E,.inl (congrArg (Ob.row 3 Bv) hsucc),E,Y⟩,E,E⟩
     ·rw[if_neg (fun hh=>absurd hh.1 (by simpa using h5))]at hsucc
      refine oF ?_
      refine iW ?_
      refine An [] hlt ⟨⟨E,E,E,E,E,E,E,E,E,E,E,E,Y⟩,⟨.inl E,E,.inl E,E,.inl E,E,.inl E,E,.inl E,E,.inl (congrArg (Ob.row 3 Bv) hsucc),E,Y⟩,E,E⟩
    ·have hjl:j=n.ports.length:=by
      have:¬ j<n.ports.length:=by simpa using h4
      omega
     subst hjl
     refine oO ?_
     exact Ub (α:={s:List Item × List Int × List Int // ReachInv n s∧J5 n up s=D}) (L:=fun p=>[(0,.ptr 0 0),(2,.ptr 11 0)]) (O:=fun p=>[(0,.box (To n up ranks (.osl 1) (.osl 2))),(1,.row 1 Aa p.1.2.1),(2,.row 1 Aa p.1.2.2),(11,.box [.osl 12]),(12,.row 3 Bv p.1.1)]) (μ:=fun p=>reachM p.1) (x:=⟨(q,ro,co),hI,hDq⟩)
      ⟨((List.range n.ports.length).foldl (Do n up x) (De q).dropLast,ro',co'),hr1.1,hD1.symm⟩ [] hr1.2
      ⟨⟨rfl,rfl,rfl,rfl,trivial⟩,⟨.inl rfl,rfl,.inl rfl,rfl,.inl rfl,rfl,.inl rfl,rfl,.inl rfl,rfl,trivial⟩,rfl,rfl⟩
  ·have he:q=[]:=List.eq_nil_of_length_eq_zero (by
    have:¬ 0<q.length:=by simpa using h2
    omega)
   have e:D=(q,ro,co):=by rw[← hDq,hdn he]
   rw[e]
   refine oO ?_
   exact Bg E .nil [] (Ac7 n up ranks ro co) (fun _ h=>h) E E ⟨Y,⟨.inl E,E,.inl E,E,.inl E,E,Y⟩,E,E⟩
end Go.Sy.YteinjapglfkamaaGreat
namespace Go.Sy.YteinjapglfkamaaGreat
open Go.Proofs
attribute [local irreducible] Go.Sy.G Go.Sy.DR
set_option maxRecDepth 100000
set_option maxHeartbeats 4000000
def okB (n:Net) (up:List Bool):Bool:=decide (up.length=n.links.length) && (Ac n && Cq n)
theorem ok_iff {n:Net} {up:List Bool}:okB n up=true↔up.length=n.links.length∧Ac n=true∧Cq n=true:=by simp[okB]
def Uj (n:Net) (up:List Bool):List Int:=(Qt n up (C0 n)).2.1
def U4 (n:Net) (up:List Bool):List Int:=(Qt n up (C0 n)).2.2
def Ae3 (n:Net) (up:List Bool):SV:=Ql n up (C0 n) (Uj n up) (U4 n up)
theorem At1 (n:Net) (up:List Bool) (hn:n.Fin) (h:okB n up=false):Sy.Spec Tryz.prog 160 [Aj n,.sl 1 Ab up] [] (.tup [.val (.pointer none),Aa 2]) []:=cT F160 Tryz.ntmps160 fun F hF=>by
 have h':¬ (up.length=n.links.length∧Ac n=true∧Cq n=true):=fun hh=>by rw[ok_iff.2 hh]at h;cases h
 conv=>whnf
 (repeat' (first | (refine⟨fun h=>?_,fun h=>?_⟩<;>(repeat (first | simp only[bne_iff_ne]at h | simp only[bne_eq_false_iff_eq]at h | simp only[Bool.not_eq_true']at h | simp only[Bool.not_eq_false']at h))<;>((refine oO ?_);repeat((refine aT ?_);(refine oO ?_)))) | (refine c0 (Br n hn) F23 ?_;((refine oO ?_))) | (refine c0 (Asw n hn.ports) F219 ?_;((refine oO ?_))) | refine Ao rfl (.cons .tmp (.cons .tmp .nil)) rfl rfl))
 all_goals exact absurd ⟨by omega,by assumption,by assumption⟩ h'
def O9 (m j:Nat):List Int:=List.replicate j (-1)++List.replicate (m-j) 0
theorem Alp (m:Nat):O9 m 0=List.replicate m 0:=by simp[O9]
theorem Apq (m:Nat):O9 m m=List.replicate m (-1):=by simp[O9]
theorem Afq (m j:Nat) (h:j≤m):(O9 m j).length=m:=by simp[O9];omega
theorem Alq (m j:Nat) (h:j<m):O9 m (j+1)=(O9 m j).set j (-1):=by
 have e:m-j=(m-(j+1))+1:=by omega
 rw[O9,O9,e,List.set_append_right _ _ qz,List.length_replicate,Nat.sub_self,List.replicate_succ' (n:=j),List.replicate_succ (n:=m-(j+1))]
 simp
theorem openOK (n:Net) (up:List Bool) (hn:n.Fin) (hu:up.length=n.links.length) (hr:Ac n=true) (hcost:Cq n=true):Sy.Spec Tryz.prog 160 [Aj n,.sl 1 Ab up] [] (.tup [Ae3 n up,Aa 0]) []:=cT F160 Tryz.ntmps160 fun F hF=>by
 have hf:=C4 hr
 have hrt:=Br n hn
 have hct:=Asw n hn.ports
 have hrs:=ranksS n hn
 rw[hr]at hrt
 rw[hcost]at hct
 rw[hr,if_pos rfl]at hrs
 have hrk:=Ey n
 have hrr:∀ r∈C0 n,0≤r:=fun r h=>(Yg n r h).1
 have hsv:Ae3 n up=Ql n up (C0 n) (Qt n up (C0 n)).2.1 (Qt n up (C0 n)).2.2:=rfl
 rw[hsv]
 generalize C0 n=ranks at *
 have hreach:=fun D hD=>reachS n up ranks (List.replicate n.devices.length (-1)) (List.replicate n.devices.length 0) hr hu hcost hrk qz qz hrr D hD
 have hRT:J5 n up (Eh ranks ranks.length,List.replicate n.devices.length (-1),List.replicate n.devices.length 0)=Qt n up ranks:=rfl
 generalize Qt n up ranks=D at *
 have hreach:=hreach D hRT
 clear hRT hsv
 conv=>whnf
 refine⟨fun h=>absurd h (by simp[hu]),fun h=>?_⟩
 refine oO ?_
 refine c0 hrt F23 ?_
 refine oF ?_
 refine c0 hct F219 ?_
 refine oF ?_
 refine cD hrs F220 ?_
 refine oD ?_
 refine Bb (Bm Γ.toTy (d:=31) (n:=n.devices.length) Aa 0 E E E E E E E E qn qn E E E) qq E ?_
 refine oD ?_
 refine Bb (Bm Γ.toTy (d:=35) (n:=n.devices.length) Aa 0 E E E E E E E E qn qn E E E) qq E ?_
 refine oD ?_
 refine kW ?_
 refine Aq n.devices.length (fun j=>[(6,.ptr 37 0),(42,Aa (List.replicate n.devices.length (0:Int)).length),(43,Aa j)]) (fun j=>[(37,.box (To n up ranks (.osl 31) (.osl 35))),(31,.row 1 Aa (O9 n.devices.length j)),(35,.row 1 Aa (List.replicate n.devices.length 0))]) []
  ⟨⟨rfl,rfl,rfl,rfl,rfl,rfl,trivial⟩,⟨.inl rfl,rfl,.inl (by rw[Alp];rfl),rfl,.inl rfl,rfl,trivial⟩,rfl,rfl⟩ ?_
 intro j hj
 have hlen:=Afq n.devices.length j hj
 refine oO ?_
 refine⟨fun h=>?_,fun h=>?_⟩
 ·have hlt:j<n.devices.length:=by simpa using h
  have hsucc:=Alq n.devices.length j hlt
  generalize O9 n.devices.length j=u at *
  refine oO ?_
  refine⟨by omega,by omega,?_⟩
  conv=>whnf
  refine⟨E,by omega,-1,E,E,?_⟩
  conv=>whnf
  refine iW ?_
  exact An [] hlt ⟨⟨E,E,E,E,E,E,Y⟩,⟨.inl E,E,.inl (congrArg (Ob.row 1 Aa) hsucc),E,.inl E,E,Y⟩,E,E⟩
 have hjl:j=n.devices.length:=by
  have:¬ j<n.devices.length:=by simpa using h
  omega
 subst hjl
 have hall:=Apq n.devices.length
 rw[← hall]at hreach
 refine oO ?_
 refine Ae (Ah [(0,37),(1,31),(2,35)] E F221 hreach E ⟨E,E,E,Y⟩ E ⟨.inl E,.inl E,.inl E,Y⟩) E E ?_
 refine Ap 31 E ?_
 refine Ap 35 E ?_
 refine A0 37 12 (.agg (To n up ranks (.sl 1 Aa D.2.1) (.sl 1 Aa D.2.2))) E E E ?_
 refine oO ?_
 exact dN
theorem X5 {n:Net} {up:List Bool} (h:okB n up=true):Solved n up (C0 n) (Uj n up) (U4 n up):=by
 obtain ⟨hu,hr,hcost⟩:=ok_iff.1 h
 exact Acj n up (C0 n) hr hcost (Ey n) (fun r h=>(Yg n r h).1)
def J3 (n:Net) (up:List Bool):List Int:=Aq7 n up (C0 n) (Uj n up) (U4 n up)
def Asl (n:Net) (up:List Bool):List Bool:=fwdL n (J3 n up)
theorem Lz (n:Net) (up:List Bool):(J3 n up).length=n.ports.length:=Hp ..
theorem Aku (n:Net) (up:List Bool) (h:okB n up=true):Sy.Spec Tryz.prog 161 [Ae3 n up] [] (.sl 1 Aa (J3 n up)) []:=by
 obtain ⟨hu,hr,hcost⟩:=ok_iff.1 h
 have S:=X5 h
 exact rolesS n up (C0 n) (Uj n up) (U4 n up) hr hu hcost (Ey n) S.rootsL S.costsL (fun c hc=>by have:=S.bound c hc;omega)
theorem Abs (n:Net) (up:List Bool) (hn:n.Fin) (h:okB n up=false):Sy.Spec Tryz.prog 112 [Aj n,.sl 1 Ab up] [] (.tup [.sl 1 Ab [],Aa 2]) []:=cT F112 Tryz.ntmps112 fun F hF=>by
 conv=>whnf
 refine c0 (At1 n up hn h) F160 ?_
 refine oT ?_
 refine Ai 4 1 Ab E ?_
 exact dN
def Ze (n:Net) (roles:List Int) (j:Nat):List Bool:=(n.links.take j).map (Xv roles)++List.replicate (n.links.length-j) false
theorem Apm (n:Net) (roles:List Int):Ze n roles 0=List.replicate n.links.length false:=by simp[Ze]
theorem Ask (n:Net) (roles:List Int):Ze n roles n.links.length=fwdL n roles:=by simp[Ze,fwdL]
theorem Aii (n:Net) (roles:List Int) (j:Nat) (h:j≤n.links.length):(Ze n roles j).length=n.links.length:=by simp[Ze];omega
theorem Apn (n:Net) (roles:List Int) (j:Nat) (h:j<n.links.length):Ze n roles (j+1)=(Ze n roles j).set j (Xv roles n.links[j]):=by
 have e:n.links.length-j=(n.links.length-(j+1))+1:=by omega
 have el:((n.links.take j).map (Xv roles)).length=j:=by simp;omega
 rw[Ze,Ze,List.set_append_right _ _ qn,el,Nat.sub_self,List.take_succ_eq_append_getElem h,List.map_append,e,List.replicate_succ,List.set_cons_zero]
 simp
theorem Adx (n:Net) (up:List Bool) (hn:n.Fin) (h:okB n up=true):Sy.Spec Tryz.prog 112 [Aj n,.sl 1 Ab up] [] (.tup [.sl 1 Ab (Asl n up),Aa 0]) []:=cT F112 Tryz.ntmps112 fun F hF=>by
 obtain ⟨hu,hr,hcost⟩:=ok_iff.1 h
 have hf:=C4 hr
 have ho:=openOK n up hn hu hr hcost
 have hro:=Aku n up h
 have hrl:=Lz n up
 rw[Asl]
 generalize J3 n up=roles at *
 unfold Ae3 at ho hro
 generalize C0 n=ranks at *
 generalize Uj n up=roots at *
 generalize U4 n up=costs at *
 conv=>whnf
 refine c0 ho F160 ?_
 refine oF ?_
 refine c0 hro F161 ?_
 refine oO ?_
 refine Ae (Bm Γ.toTy (d:=27) (n:=n.links.length) Ab false E E E E E E E E qn qn E E E) E E ?_
 rw[← Apm n roles]
 refine oO ?_
 refine Aq n.links.length (fun j=>[(8,.sl 1 Aa roles),(9,.osl 27),(29,.sl 3 Cp n.links),(30,Aa n.links.length),(31,Aa j)]) (fun j=>[(27,.row 1 Ab (Ze n roles j))]) []
  ⟨⟨rfl,rfl,rfl,rfl,rfl,rfl,rfl,rfl,rfl,rfl,trivial⟩,⟨.inl rfl,rfl,trivial⟩,rfl,rfl⟩ ?_
 intro j hj
 have hall:=Ask n roles
 refine oO ?_
 refine⟨fun h=>?_,fun h=>?_⟩
 ·have hlt:j<n.links.length:=by simpa using h
  have he:=Jd hr hlt
  have e1:n.links[(j:Int).toNat]'qn=n.links[j]:=rfl
  have hlen:=Aii n roles j hj
  have hsucc:=Apn n roles j hlt
  generalize Ze n roles j=u at *
  generalize n.links[j]=l at *
  rw[Xv,Ag (l:=roles) (i:=l.a) qn,Ag (l:=roles) (i:=l.b) qn]at hsucc
  refine oO ?_
  refine⟨E,by omega,by omega,?_⟩
  rw[e1]
  conv=>whnf
  refine⟨E,by omega,by omega,?_⟩
  conv=>whnf
  refine⟨E,by omega,by omega,?_⟩
  conv=>whnf
  refine kW ?_
  have hA:0≤l.a∧l.a<roles.length:=by omega
  have hB:0≤l.b∧l.b<roles.length:=by omega
  obtain ⟨x,hx⟩:∃ x,roles[l.a.toNat]'qn=x:=⟨_,rfl⟩
  obtain ⟨y,hy⟩:∃ y,roles[l.b.toNat]'qn=y:=⟨_,rfl⟩
  rw[hx,hy]at hsucc
  refine Ajg 46 (e:=Aa) (l:=[x,y]) E (by rw[← hx,← hy];rfl) ?_
  refine Ap 46 E ?_
  refine c0 (Dm [x,y] 1 (by unfold Al;simp)) F25 ?_
  refine oO ?_
  refine⟨fun h1=>?_,fun h1=>?_⟩
  ·rw[h1,Bool.true_and]at hsucc
   refine oO ?_
   refine c0 (Dm [x,y] 2 (by unfold Al;simp)) F25 ?_
   refine oO ?_
   refine⟨by omega,by omega,?_⟩
   conv=>whnf
   refine⟨E,by omega,inB [x,y] 2,E,E,?_⟩
   conv=>whnf
   refine iW ?_
   exact An [] hlt ⟨⟨E,E,E,E,E,E,E,E,E,E,Y⟩,⟨.inl (congrArg (Ob.row 1 Ab) hsucc),E,Y⟩,E,E⟩
  ·rw[h1,Bool.false_and]at hsucc
   refine oO ?_
   refine⟨by omega,by omega,?_⟩
   conv=>whnf
   refine⟨E,by omega,false,E,E,?_⟩
   conv=>whnf
   refine iW ?_
   exact An [] hlt ⟨⟨E,E,E,E,E,E,E,E,E,E,Y⟩,⟨.inl (congrArg (Ob.row 1 Ab) hsucc),E,Y⟩,E,E⟩
 have hjl:j=n.links.length:=by
  have:¬ j<n.links.length:=by simpa using h
  omega
 subst hjl
 rw[← hall]
 refine oO ?_
 refine Ap 27 E ?_
 exact dN
end Go.Sy.YteinjapglfkamaaGreat
namespace Go.Sy.YteinjapglfkamaaGreat
open Go.Proofs
structure MacM where
 up:List Bool
 tables:List (List EntryM)
 queues:List (List QueuedM)
 now:Int
 injected:Int
 drops:Nat→Int
def Bf (m:MacM) (e:Int):MacM:=⟨m.up,m.tables,m.queues,m.now,m.injected,fun i=>if i=e.toNat then m.drops i+1 else m.drops i⟩
def queueL (m:MacM) (dom:Int):List QueuedM:=(m.queues[dom.toNat]?).getD []
def tableL (m:MacM) (dom:Int):List EntryM:=(m.tables[dom.toNat]?).getD []
def Ags (m:MacM) (dom:Int) (l:List QueuedM):MacM:=⟨m.up,m.tables,m.queues.set dom.toNat l,m.now,m.injected,m.drops⟩
def Bz (m:MacM) (dom:Int) (t:List EntryM):MacM:=⟨m.up,m.tables.set dom.toNat t,m.queues,m.now,m.injected,m.drops⟩
def comeM (m:MacM) (dom:Int) (q:QueuedM) (e:Int):MacM :=
 if e≠0 then Bf m e else if (pushT (queueL m dom) q).2=true then Ags m dom (pushT (queueL m dom) q).1 else Bf m 3
def takeM (m:MacM) (dom at_:Int):MacM × QueuedM × Bool :=
 if Ak dom m.queues.length=false then (m,noQ,false)
 else (Ags m dom (takeT (queueL m dom) at_).2.1,(takeT (queueL m dom) at_).1,(takeT (queueL m dom) at_).2.2)
def injectT (n:Net) (m:MacM) (port:Int) (b:List UInt8):MacM :=
 if Ak port n.ports.length=false∨0≤(nth n.ports port).link then m
 else comeM ⟨m.up,m.tables,m.queues,m.now,m.injected+1,m.drops⟩ (enterT n port b).1 ⟨port,0,m.injected+1,(enterT n port b).2.1⟩ (enterT n port b).2.2
def goesM (n:Net) (m:MacM) (o:OutM) (origin:Int):MacM × List SeenM :=
 if o.kind=1 then (m,[⟨o.port,origin,o.bytes⟩])
 else if o.kind=2 then (comeM m (linkT n o.port o.bytes).2.1 ⟨(linkT n o.port o.bytes).1,0,origin,(linkT n o.port o.bytes).2.2.1⟩ (linkT n o.port o.bytes).2.2.2,[])
 else if o.kind=3 then (comeM m (comeT n o.bytes).2.1 ⟨-1,(comeT n o.bytes).1,origin,(comeT n o.bytes).2.2.1⟩ (comeT n o.bytes).2.2.2,[])
 else if o.kind=4 then (comeM m o.domain ⟨-2,0,origin,o.frame⟩ 0,[])
 else (Bf m o.error,[])
def A9 (n:Net) (m:MacM) (origin:Int):List OutM→MacM × List SeenM
 | []=>(m,[])
 | o::l=>((A9 n (goesM n m o origin).1 origin l).1,(goesM n m o origin).2++(A9 n (goesM n m o origin).1 origin l).2)
def I3 (n:Net) (up:List Bool):List Bool:=if okB n up=true then Asl n up else []
def Adc (n:Net) (m:MacM) (dom:Int) (q:QueuedM):List EntryM × List OutM × Int:=bridgeT n (I3 n m.up) (tableL m dom) dom q m.now
def K3 (m:MacM) (dom:Int) (r:List EntryM × List OutM × Int):MacM :=
 if r.2.2=2 then Bf m 2 else if r.2.2≠0 then Bf (Bz m dom r.1) r.2.2 else Bz m dom r.1
def pickT (n:Net) (m:MacM) (dom at_:Int):MacM × List SeenM :=
 if (takeM m dom at_).2.2=false then ((takeM m dom at_).1,[])
 else A9 n (K3 (takeM m dom at_).1 dom (Adc n (takeM m dom at_).1 dom (takeM m dom at_).2.1)) (takeM m dom at_).2.1.origin (Adc n (takeM m dom at_).1 dom (takeM m dom at_).2.1).2.1
def O4 (m:MacM):MacM :=
 let now:=min (m.now+1) 1099511627776
 ⟨m.up,m.tables.map (fun t=>ageT t now),m.queues,now,m.injected,m.drops⟩
def doT (n:Net) (m:MacM) (x:StepM):MacM × List SeenM :=
 if x.kind=1 then (injectT n m x.port x.bytes,[])
 else if x.kind=2 then pickT n m x.domain x.at_
 else if x.kind=3 then ((takeM m x.domain x.at_).1,[])
 else if x.kind=4 then (O4 m,[])
 else if x.kind=5 then ((if x.up.length=n.links.length then ⟨x.up,m.tables,m.queues,m.now,m.injected,m.drops⟩ else m),[])
 else (m,[])
def newT (n:Net):MacM:=⟨List.replicate n.links.length true,List.replicate n.domains.length [],List.replicate n.domains.length [],0,0,fun _=>0⟩
def By (e:Int):Prop:=0≤e∧e<64
def DomIn (n:Net) (d:Int):Prop:=0≤d∧d.toNat<n.domains.length
theorem E7 {n:Net} {d:Int} (h:Ak d n.domains.length=true):DomIn n d:=by
 have:=Bs h
 unfold DomIn
 omega
theorem W5 (b:List UInt8):By (takeF b).2:=by
 unfold takeF By
 repeat' split
 all_goals (dsimp only;omega)
theorem Ajo (f:FrameM):By (stripT f).2.2.2:=by
 unfold stripT By
 repeat' split
 all_goals (dsimp only;omega)
theorem Ux (n:Net) (port:Int) (b:List UInt8):By (enterT n port b).2.2:=by
 have h1:=W5 b
 have h2:=Ajo (takeF b).1
 have h3:∀ f tg v,By (Jk n port f tg v).2.2:=fun f tg v=>by
  unfold Jk By
  repeat' split
  all_goals (dsimp only;omega)
 unfold enterT
 split
 ·unfold By;dsimp only;omega
 split
 ·exact h1
 split
 ·split
  ·exact h2
  ·exact h3 _ _ _
 ·exact h3 _ _ _
theorem Adi (n:Net) (port:Int) (b:List UInt8):By (linkT n port b).2.2.2:=by
 unfold linkT
 split
 ·unfold By;dsimp only;omega
 ·exact Ux _ _ _
theorem Ak6 (n:Net) (port dom:Int) (f:FrameM):By (leaveT n port dom f).2:=by
 unfold leaveT
 split
 ·unfold By;dsimp only;omega
 split
 ·unfold By;dsimp only;omega
 split
 ·unfold By;dsimp only;omega
 split
 ·unfold By;dsimp only;omega
 split
 ·show By (tagT f (nth n.domains dom).vlan).2
  unfold tagT By
  repeat' split
  all_goals (dsimp only;omega)
 ·unfold By;dsimp only;omega
theorem Anp (a b:Nat) (v:Int) (f:FrameM):By (wrapT a b v f).2:=by
 unfold wrapT By
 repeat' split
 all_goals (dsimp only;omega)
theorem Apa (n:Net) (dom peer:Int) (f:FrameM):By (meshT n dom peer f).2:=by
 unfold meshT
 split
 ·unfold By;dsimp only;omega
 split
 ·unfold By;dsimp only;omega
 ·exact Anp _ _ _ _
theorem Ys (b:List UInt8):By (ipTakeT b).2:=by
 unfold ipTakeT By
 repeat' split
 all_goals (dsimp only;omega)
theorem Aeh (b:List UInt8):By (udpTakeT b).2.2.2:=by
 unfold udpTakeT By
 repeat' split
 all_goals (dsimp only;omega)
theorem Aqf (b:List UInt8):By (vniT b).2.2:=by
 unfold vniT By
 repeat' split
 all_goals (dsimp only;omega)
theorem Akq (b:List UInt8):By (outerT b).2:=by
 unfold outerT
 split
 ·exact W5 _
 split
 ·unfold By;dsimp only;omega
 split
 ·exact Ys _
 ·unfold By;dsimp only;split<;>omega
theorem Alh (b:List UInt8):By (innerT b).2.2:=by
 unfold innerT
 split
 ·exact Aeh _
 split
 ·unfold By;dsimp only;omega
 split
 ·exact Aqf _
 split
 ·exact W5 _
 split
 ·unfold By;dsimp only;omega
 ·unfold By;dsimp only;omega
theorem Agh (b:List UInt8):By (unwrapT b).2.2.2.2:=by
 unfold unwrapT
 split
 ·exact Akq _
 split
 ·exact Alh _
 ·unfold By;dsimp only;omega
theorem Ad4 (n:Net) (b:List UInt8):By (comeT n b).2.2.2:=by
 unfold comeT
 split
 ·unfold By;dsimp only;omega
 split
 ·exact Agh _
 split
 ·unfold By;dsimp only;omega
 split
 ·unfold By;dsimp only;omega
 ·unfold By;dsimp only;omega
theorem Ar9 (n:Net) (irb:Int) (f:FrameM):By (hopT n irb f).2.2:=by
 unfold hopT
 split
 ·unfold By;dsimp only;omega
 split
 ·unfold By;dsimp only;omega
 split
 ·exact Ys _
 split
 ·unfold By;dsimp only;omega
 split
 ·unfold By;dsimp only;omega
 split
 ·unfold By;dsimp only;omega
 ·unfold By;dsimp only;omega
theorem Y0 (n:Net) (fw:List Bool) (t:List EntryM) (dom:Int) (q:QueuedM) (now:Int):By (bridgeT n fw t dom q now).2.2:=by
 unfold bridgeT
 split
 ·unfold By;dsimp only;omega
 split
 ·split
  ·exact Ar9 _ _ _
  ·unfold By;dsimp only;omega
 ·unfold By;dsimp only;omega
theorem Anf {n:Net} {dev v:Int} (h:Ca n dev v=true):DomIn n (Ox n dev v):=by
 have h1:0≤Ox n dev v:=by simpa [Ca] using h
 have h2:Ox n dev v<n.domains.length:=Hd _ _
 exact⟨h1,by omega⟩
theorem Aqg {n:Net} (hb:Ac n=true) {port:Int} (hp:Ak port n.ports.length=true) {tg:Bool} {vid:Int} (h:(vlanT (nth n.ports port) tg vid).2=true):DomIn n (Ox n (nth n.ports port).dev (vlanT (nth n.ports port) tg vid).1):=by
 have hk:=Bs hp
 have hk2:port.toNat<n.ports.length:=by omega
 simp only[Ac,Bool.and_eq_true]at hb
 have hpb:=allB_iff.1 hb.1.1.1.1.1.2 _ hk2
 rw[Ag hk2]at h ⊢
 generalize n.ports[port.toNat]=p at *
 simp only[D8,Bool.and_eq_true]at hpb
 obtain ⟨⟨⟨⟨⟨⟨⟨⟨g1,g2⟩,g3⟩,g4⟩,g5⟩,g6⟩,g7⟩,g8⟩,g9⟩:=hpb
 unfold vlanT at h ⊢
 split
 ·rw[if_pos (by assumption)]at h
  have h1:p.native≠0:=by simpa using h
  have h2:0≤p.native:=by simpa using g2
  refine Anf ?_
  have h3:decide (0<p.native)=true:=by simp;omega
  rw[h3,Bool.true_and]at g8
  simpa using g8
 ·rw[if_neg (by assumption)]at h
  split
  ·rename_i h4
   have h5:vid∈p.tagged:=inB_mem.1 h4
   obtain ⟨i,hi,rfl⟩:=List.mem_iff_getElem.1 h5
   exact Anf (allB_iff.1 g7 i hi)
  ·rw[if_neg (by assumption)]at h
   cases h
theorem Uy {n:Net} {port:Int} {b:List UInt8} (h:(enterT n port b).2.2=0):DomIn n (enterT n port b).1:=by
 unfold enterT at h ⊢
 split
 ·rw[if_pos (by assumption)]at h;cases h
 rename_i hc
 rw[if_neg hc]at h
 have hp:Ak port n.ports.length=true:=by cases hx:Ak port n.ports.length;exact absurd (.inl hx) hc;rfl
 have hb:Ac n=true:=by cases hx:Ac n;exact absurd (.inr hx) hc;rfl
 have key:∀ f tg v,(Jk n port f tg v).2.2=0→DomIn n (Jk n port f tg v).1:=fun f tg v h=>by
  unfold Jk at h ⊢
  split
  ·rw[if_pos (by assumption)]at h;cases h
  rw[if_neg (by assumption)]at h
  split
  ·rw[if_pos (by assumption)]at h;cases h
  rename_i h5
  show DomIn n (B6 n _ _)
  rw[B6,if_pos hb]
  exact Aqg hb hp (by simpa using h5)
 split
 ·rename_i h2
  rw[if_pos h2]at h
  exact absurd h h2
 rename_i h2
 rw[if_neg h2]at h
 split
 ·rename_i h3
  rw[if_pos h3]at h
  split
  ·rename_i h4
   rw[if_pos h4]at h
   exact absurd h h4
  ·rename_i h4
   rw[if_neg h4]at h
   exact key _ _ _ h
 ·rename_i h3
  rw[if_neg h3]at h
  exact key _ _ _ h
theorem Adj {n:Net} {port:Int} {b:List UInt8} (h:(linkT n port b).2.2.2=0):DomIn n (linkT n port b).2.1:=by
 unfold linkT at h ⊢
 split
 ·rw[if_pos (by assumption)]at h;cases h
 ·rename_i h2
  rw[if_neg h2]at h
  exact Uy h
theorem Aa0 {n:Net} (hb:Ac n=true) {dom:Nat} (hd:dom<n.domains.length) {k:Int} (hk:k∈n.domains[dom].peers):DomIn n k:=by
 simp only[Ac,Bool.and_eq_true]at hb
 have:=allB_iff.1 hb.1.1.1.1.1.1.2 _ hd
 obtain ⟨i,hi,rfl⟩:=List.mem_iff_getElem.1 hk
 have h2:=allB_iff.1 this i hi
 simp only[O6,Bool.and_eq_true]at h2
 exact E7 h2.1.1.1.1.1.1.1.1.1
theorem Asp {n:Net} (hb:Ac n=true) {src dst:Nat} {vni:Int} (h:¬ (endsT n src dst vni).1<0):DomIn n (endsT n src dst vni).1∧DomIn n (endsT n src dst vni).2:=by
 unfold endsT at h ⊢
 dsimp only at h ⊢
 split
 ·rw[if_pos (by assumption)]at h;exact absurd qy h
 rename_i h1
 rw[if_neg h1]at h
 split
 ·rw[if_pos (by assumption)]at h;exact absurd qy h
 rename_i h2
 have hd:=Hd (fun d:Domain=>decide (d.dev=Cm (fun d:Device=>decide (d.vtep=(dst:Int))) n.devices) && decide (d.vni=vni)) n.domains
 generalize Cm (fun d:Domain=>decide (d.dev=Cm (fun d:Device=>decide (d.vtep=(dst:Int))) n.devices) && decide (d.vni=vni)) n.domains=dom at *
 have hd2:dom.toNat<n.domains.length:=by omega
 have hi:=Hd (fun k:Int=>decide (E2 n k=(src:Int))) (nth n.domains dom).peers
 generalize Cm (fun k:Int=>decide (E2 n k=(src:Int))) (nth n.domains dom).peers=i at *
 rw[Ag hd2]at hi ⊢
 have hi2:i.toNat<(n.domains[dom.toNat]).peers.length:=by omega
 refine⟨?_,⟨by dsimp only;omega,hd2⟩⟩
 show DomIn n (nth (n.domains[dom.toNat]).peers i)
 rw[Ag hi2]
 exact Aa0 hb hd2 (List.getElem_mem hi2)
theorem X3 {n:Net} {b:List UInt8} (h:(comeT n b).2.2.2=0):DomIn n (comeT n b).1∧DomIn n (comeT n b).2.1:=by
 unfold comeT at h ⊢
 split
 ·rw[if_pos (by assumption)]at h;cases h
 rename_i hb
 rw[if_neg hb]at h
 split
 ·rename_i h2
  rw[if_pos h2]at h;exact absurd h h2
 rename_i h2
 rw[if_neg h2]at h
 split
 ·rw[if_pos (by assumption)]at h;cases h
 rename_i h3
 rw[if_neg h3]at h
 split
 ·rw[if_pos (by assumption)]at h;cases h
 exact Asp (by simpa using hb) h3
theorem Asa {n:Net} {irb:Int} {f:FrameM} (hin:∀ (d:Int),(lookT n irb d).2=true→0≤(lookT n irb d).1∧(lookT n irb d).1.toNat<n.irbs.length) (h:(hopT n irb f).2.2=0):DomIn n (hopT n irb f).1:=by
 unfold hopT at h ⊢
 split
 ·rw[if_pos (by assumption)]at h;cases h
 rename_i h1
 rw[if_neg h1]at h
 split
 ·rw[if_pos (by assumption)]at h;cases h
 rename_i h2
 rw[if_neg h2]at h
 split
 ·rename_i h3
  rw[if_pos h3]at h;exact absurd h h3
 rename_i h3
 rw[if_neg h3]at h
 split
 ·rw[if_pos (by assumption)]at h;cases h
 rename_i h4
 rw[if_neg h4]at h
 split
 ·rw[if_pos (by assumption)]at h;cases h
 rename_i h5
 rw[if_neg h5]at h
 split
 ·rw[if_pos (by assumption)]at h;cases h
 have hl:=hin ((ipTakeT f.body).1.dst:Int) (by simpa using h5)
 have hb:Ac n=true:=by cases hx:Ac n;exact absurd (.inr hx) h1;rfl
 have:=(Cg hb hl.2).1
 show DomIn n (nth n.irbs _).domain
 rw[Ag hl.2]
 exact this
end Go.Sy.YteinjapglfkamaaGreat
namespace Go.Sy.YteinjapglfkamaaGreat
open Go.Proofs
attribute [local irreducible] Go.Sy.G Go.Sy.DR
set_option maxRecDepth 100000
set_option maxHeartbeats 4000000
theorem V6 (l:List Device) (p:Device→Bool) (f:FuncId) (first cap:List SV) (hc:(SV.clo (.func f) first cap).inn []=true) (hf:∀ x∈l,I7 Tryz.prog f (first++[Bn x]++cap) (Ab (p x))) (hl:Al l) :
  Sy.Spec Tryz.prog 359 [.sl 5 Bn l,.clo (.func f) first cap] [] (Aa (Cm p l)) []:=cT F359 Tryz.ntmps359 fun F hF=>by
 unfold Al at hl
 have hin:∀ x:Device,Cj [] (first++[Bn x]++cap)=true:=fun x=>Dd hc rfl
 conv=>whnf
 refine Av l.length (fun j=>Di (fun _ x=>!(p x)) l j) (fun j=>[(0,.sl 5 Bn l),(1,.clo (.func f) first cap),(7,Aa l.length),(8,Aa j)]) (fun _=>[]) [] (A2 _ _) ⟨⟨E,E,Bj _,hc,E,E,E,E,Y⟩,Y,E,E⟩ ?_
 intro j hj hI
 refine oO ?_
 refine⟨fun h=>?_,fun h=>?_⟩
 ·have h:=of_decide_eq_true h
  have hj2:j<l.length:=by omega
  refine oO ?_
  refine⟨E,by omega,by omega,?_⟩
  conv=>whnf
  refine Ex (hf l[j] (List.getElem_mem hj2)) E E E (by simp only[hin];rfl) E E ?_
  refine oO ?_
  refine⟨fun h2=>?_,fun h2=>?_⟩
  ·refine oO ?_
   refine Ao E (.cons .tmp .nil) (congrArg Aa ?_) E
   exact Ct hj2 (fun i hi hij=>by simpa using hI i hi hij) h2
  ·refine oO ?_
   refine iW ?_
   exact As [] hI hj2 (Ax hI hj2 (by simp[h2])) ⟨⟨E,E,Bj _,hc,E,E,E,E,Y⟩,Y,E,E⟩
 ·have h:=of_decide_eq_false h
  refine oO ?_
  refine Ao E (.cons .tmp .nil) (congrArg Aa ?_) E
  exact C6 (fun i hi=>by simpa using hI i hi qn)
theorem Zo {n:Net} (hb:Ac n=true) {d:Int} (hd:DomIn n d):0≤(n.domains[d.toNat]'hd.2).dev∧(n.domains[d.toNat]'hd.2).dev.toNat<n.devices.length:=by
 simp only[Ac,Bool.and_eq_true]at hb
 have:=M3 hb.1.1.1.1.1.1.1.2 hd.2
 have:=Bs this
 omega
theorem Zu {n:Net} (hb:Ac n=true) {d:Int} (hd:DomIn n d):E2 n d=(n.devices[(n.domains[d.toNat]'hd.2).dev.toNat]'(Zo hb hd).2).vtep:=by
 rw[E2,Ag hd.2,Ag (Zo hb hd).2]
theorem Vc {n:Net} (hm:n.Num) (hb:Ac n=true) {d:Int} (hd:DomIn n d):0≤E2 n d∧E2 n d<4294967296:=by
 rw[Zu hb hd]
 exact hm.vtep _ (List.getElem_mem _)
theorem Us (n:Net) (hb:Ac n=true) (d:Int) (hd:DomIn n d):Sy.Spec Tryz.prog 304 [Aj n,Aa d] [] (Bd (E2 n d)) []:=cT F304 Tryz.ntmps304 fun F hF=>by
 have hv:=Zu hb hd
 have h2:=Zo hb hd
 obtain ⟨x,hx⟩:∃ x,n.domains[d.toNat]'hd.2=x:=⟨_,rfl⟩
 rw[hx]at h2
 simp only[hx]at hv
 obtain ⟨y,hy⟩:∃ y,n.devices[x.dev.toNat]'h2.2=y:=⟨_,rfl⟩
 rw[hy]at hv
 rw[hv]
 conv=>whnf
 refine⟨E,hd.1,hd.2,?_⟩
 rw[hx]
 conv=>whnf
 refine⟨E,h2.1,h2.2,?_⟩
 rw[hy]
 conv=>whnf
 refine kW ?_
 exact dN
theorem Ul (n:Net) (hb:Ac n=true) (d:Int) (hd:DomIn n d):Sy.Spec Tryz.prog 322 [Aj n,Aa d] [] (Bd (E2 n d)) []:=cT F322 Tryz.ntmps322 fun F hF=>by
 have hv:=Zu hb hd
 have h2:=Zo hb hd
 obtain ⟨x,hx⟩:∃ x,n.domains[d.toNat]'hd.2=x:=⟨_,rfl⟩
 rw[hx]at h2
 simp only[hx]at hv
 obtain ⟨y,hy⟩:∃ y,n.devices[x.dev.toNat]'h2.2=y:=⟨_,rfl⟩
 rw[hy]at hv
 rw[hv]
 conv=>whnf
 refine⟨E,hd.1,hd.2,?_⟩
 rw[hx]
 conv=>whnf
 refine⟨E,h2.1,h2.2,?_⟩
 rw[hy]
 conv=>whnf
 refine kW ?_
 exact dN
theorem Ak7 (n:Net) (hn:n.Fin) (hm0:n.Num) (dom peer:Int) (f:FrameM) (h:FrameOK f) :
  Sy.Spec Tryz.prog 237 [Aj n,Aa dom,Aa peer,Bh f] [] (.tup [.sl 1 Af (meshT n dom peer f).1,Aa (meshT n dom peer f).2]) []:=cT F237 Tryz.ntmps237 fun F hF=>by
 have hres:=meshT.eq_1 n dom peer f
 generalize meshT n dom peer f=res at *
 have hr:=Br n hn
 have hpS:=Lr peer n.domains.length
 have hdS:=Lr dom n.domains.length
 conv=>whnf
 refine A0 4 8 (Aj n) E E E ?_
 refine A0 7 4 (Bh f) E E E ?_
 refine oO ?_
 refine c0 hpS F300 ?_
 cases hpl:Ak peer n.domains.length
 ·rw[if_pos (.inl hpl)]at hres
  subst hres
  (refine oT ?_;refine bT ?_;refine bT ?_)
  refine Ai 8 1 Af E ?_
  exact dN
 refine oF ?_
 refine c0 hdS F300 ?_
 cases hdl:Ak dom n.domains.length
 ·rw[if_pos (.inr (.inl hdl))]at hres
  subst hres
  (refine oT ?_;refine bT ?_)
  refine Ai 8 1 Af E ?_
  exact dN
 refine oF ?_
 refine c0 hr F23 ?_
 cases hbn:Ac n
 ·rw[if_pos (.inr (.inr hbn))]at hres
  subst hres
  refine oT ?_
  refine Ai 8 1 Af E ?_
  exact dN
 rw[if_neg (by simp[hbn,hpl,hdl])]at hres
 have hd:=E7 hdl
 have hp:=E7 hpl
 have hd0:=hd.1
 have hkd:=hd.2
 have e2:nth n.domains dom=n.domains[dom.toNat]:=Ag hkd
 have hpe:=hn.peers _ (List.getElem_mem hkd)
 have va:=Vc hm0 hbn hd
 have vb:=Vc hm0 hbn hp
 have qa:=Us n hbn dom hd
 have qb:=Us n hbn peer hp
 generalize E2 n dom=a at *
 generalize E2 n peer=c at *
 obtain ⟨a,rfl⟩:=Int.eq_ofNat_of_zero_le va.1
 obtain ⟨c,rfl⟩:=Int.eq_ofNat_of_zero_le vb.1
 rw[Int.toNat_natCast,Int.toNat_natCast]at hres
 obtain ⟨d,hdd⟩:∃ d,n.domains[dom.toNat]'hkd=d:=⟨_,rfl⟩
 rw[hdd]at e2 hpe
 rw[e2]at hres
 have qc:=Dm d.peers peer hpe
 have qw:=Ati a c d.vni f qn qn h
 refine oF ?_
 refine⟨E,hd0,hkd,?_⟩
 rw[hdd]
 conv=>whnf
 refine c0 qc F25 ?_
 cases hi:inB d.peers peer
 ·rw[if_pos hi]at hres
  subst hres
  refine oT ?_
  refine Ai 8 1 Af E ?_
  exact dN
 rw[if_neg (by rw[hi];decide)]at hres
 subst hres
 refine oF ?_
 refine cD qa F304 ?_
 refine oD ?_
 refine cD qb F304 ?_
 refine oD ?_
 refine⟨E,hd0,hkd,?_⟩
 rw[hdd]
 conv=>whnf
 refine cD qw F303 ?_
 refine oD ?_
 refine kW ?_
 exact dN
theorem Um (n:Net) (hn:n.Fin) (hm0:n.Num) (dom peer:Int) (f:FrameM) (h:FrameOK f) :
  Sy.Spec Tryz.prog 259 [Aj n,Aa dom,Aa peer,Bh f] [] (.tup [.sl 1 Af (meshT n dom peer f).1,Aa (meshT n dom peer f).2]) []:=cT F259 Tryz.ntmps259 fun F hF=>by
 have hres:=meshT.eq_1 n dom peer f
 generalize meshT n dom peer f=res at *
 have hr:=Dy n hn
 have hpS:=A1 peer n.domains.length
 have hdS:=A1 dom n.domains.length
 conv=>whnf
 refine A0 4 8 (Aj n) E E E ?_
 refine A0 7 4 (Bh f) E E E ?_
 refine oO ?_
 refine c0 hr F10 ?_
 cases hbn:Ac n
 ·rw[if_pos (.inr (.inr hbn))]at hres
  subst hres
  (refine oT ?_;refine bT ?_;refine bT ?_)
  refine Ai 8 1 Af E ?_
  exact dN
 refine oF ?_
 refine c0 hpS F46 ?_
 cases hpl:Ak peer n.domains.length
 ·rw[if_pos (.inl hpl)]at hres
  subst hres
  (refine oT ?_;refine bT ?_)
  refine Ai 8 1 Af E ?_
  exact dN
 refine oF ?_
 refine c0 hdS F46 ?_
 cases hdl:Ak dom n.domains.length
 ·rw[if_pos (.inr (.inl hdl))]at hres
  subst hres
  refine oT ?_
  refine Ai 8 1 Af E ?_
  exact dN
 rw[if_neg (by simp[hbn,hpl,hdl])]at hres
 have hd:=E7 hdl
 have hp:=E7 hpl
 have hd0:=hd.1
 have hkd:=hd.2
 have e2:nth n.domains dom=n.domains[dom.toNat]:=Ag hkd
 have hpe:=hn.peers _ (List.getElem_mem hkd)
 have va:=Vc hm0 hbn hd
 have vb:=Vc hm0 hbn hp
 have qa:=Ul n hbn dom hd
 have qb:=Ul n hbn peer hp
 generalize E2 n dom=a at *
 generalize E2 n peer=c at *
 obtain ⟨a,rfl⟩:=Int.eq_ofNat_of_zero_le va.1
 obtain ⟨c,rfl⟩:=Int.eq_ofNat_of_zero_le vb.1
 rw[Int.toNat_natCast,Int.toNat_natCast]at hres
 obtain ⟨d,hdd⟩:∃ d,n.domains[dom.toNat]'hkd=d:=⟨_,rfl⟩
 rw[hdd]at e2 hpe
 rw[e2]at hres
 have qc:=Dn d.peers peer hpe
 have qw:=Akg a c d.vni f qn qn h
 refine oF ?_
 refine⟨E,hd0,hkd,?_⟩
 rw[hdd]
 conv=>whnf
 refine c0 qc F36 ?_
 cases hi:inB d.peers peer
 ·rw[if_pos hi]at hres
  subst hres
  refine oT ?_
  refine Ai 8 1 Af E ?_
  exact dN
 rw[if_neg (by rw[hi];decide)]at hres
 subst hres
 refine oF ?_
 refine cD qa F322 ?_
 refine oD ?_
 refine cD qb F322 ?_
 refine oD ?_
 refine⟨E,hd0,hkd,?_⟩
 rw[hdd]
 conv=>whnf
 refine cD qw F321 ?_
 refine oD ?_
 refine kW ?_
 exact dN
theorem Aeu (b:List UInt8) (hb:b.length<100000) :
  Sy.Spec Tryz.prog 323 [.sl 1 Af b] [] (.tup [Bd (unwrapT b).1,Bd (unwrapT b).2.1,Aa (unwrapT b).2.2.1,Bh (unwrapT b).2.2.2.1,Aa (unwrapT b).2.2.2.2]) []:=cT F323 Tryz.ntmps323 fun F hF=>by
 have hres:=unwrapT.eq_1 b
 have ho:=outerT.eq_1 b
 generalize unwrapT b=res at *
 have q1:=Oi b hb
 have hok:=@Z0 b
 generalize takeF b=tk at *
 obtain ⟨f,e⟩:=tk
 dsimp only at ho q1 hok
 conv=>whnf
 refine c0 q1 F124 ?_
 refine oO ?_
 by_cases he:e=0
 rotate_left
 ·rw[if_pos he]at ho
  rw[ho,if_pos he]at hres
  subst hres
  refine⟨fun h=>absurd (show e=0 by simpa using h) he,fun _=>?_⟩
  refine oF ?_
  refine⟨fun _=>?_,fun h=>absurd (show e=0 by simpa using h) he⟩
  refine oO ?_
  refine kW ?_
  refine Ar 5 zF E (.cons (.refl _) (.cons (.refl _) (.cons (.refl _) (.cons .nil .nil)))) ?_
  exact dN
 subst he
 rw[if_neg qz]at ho
 have hfb:=(hok rfl).body
 (refine⟨fun _=>?_,fun h=>False.elim (absurd h qy)⟩;refine rg ?_;conv=>whnf)
 by_cases ht:f.typ=2048
 rotate_left
 ·rw[if_pos ht]at ho
  rw[ho,if_pos qz]at hres
  subst hres
  refine⟨fun _=>?_,fun h=>absurd (show (f.typ:Int)=2048 by simpa using h) qn⟩
  refine oT ?_
  refine kW ?_
  refine Ar 5 zF E (.cons (.refl _) (.cons (.refl _) (.cons (.refl _) (.cons .nil .nil)))) ?_
  exact dN
 rw[if_neg (fun h=>h ht)]at ho
 refine⟨fun h=>absurd (show ¬ (f.typ:Int)=2048 by simpa using h) qn,fun _=>?_⟩
 have q2:=Aan f.body qn
 have hio:=@Abe f.body
 generalize ipTakeT f.body=ip at *
 obtain ⟨p,e⟩:=ip
 dsimp only at ho q2 hio
 refine oF ?_
 refine c0 q2 F317 ?_
 refine oO ?_
 by_cases he:e=0
 rotate_left
 ·rw[if_pos he]at ho
  rw[ho,if_pos he]at hres
  subst hres
  refine⟨fun h=>absurd (show e=0 by simpa using h) he,fun _=>?_⟩
  refine oF ?_
  refine⟨fun _=>?_,fun h=>absurd (show e=0 by simpa using h) he⟩
  refine oO ?_
  refine kW ?_
  refine Ar 5 zF E (.cons (.refl _) (.cons (.refl _) (.cons (.refl _) (.cons .nil .nil)))) ?_
  exact dN
 subst he
 rw[if_neg qz]at ho
 have hpl:=(hio rfl).2
 (refine⟨fun _=>?_,fun h=>False.elim (absurd h qy)⟩;refine rg ?_;conv=>whnf)
 by_cases hp:p.proto=17
 rotate_left
 ·rw[if_pos hp]at ho
  rw[ho,if_pos qz]at hres
  subst hres
  refine⟨fun _=>?_,fun h=>absurd (show (p.proto:Int)=17 by simpa using h) qn⟩
  refine oT ?_
  refine kW ?_
  refine Ar 5 zF E (.cons (.refl _) (.cons (.refl _) (.cons (.refl _) (.cons .nil .nil)))) ?_
  exact dN
 rw[if_neg (fun h=>h hp)]at ho
 refine⟨fun h=>absurd (show ¬ (p.proto:Int)=17 by simpa using h) qn,fun _=>?_⟩
 rw[ho,if_neg qz]at hres
 clear ho
 dsimp only at hres
 have hi:=innerT.eq_1 p.body
 generalize innerT p.body=inn at *
 have q3:=Akh p.body qn
 have hul:=@Atd p.body
 generalize udpTakeT p.body=u at *
 obtain ⟨u1,u2,u3,e⟩:=u
 dsimp only at hi q3 hul
 refine oF ?_
 refine c0 q3 F370 ?_
 refine oO ?_
 by_cases he:e=0
 rotate_left
 ·rw[if_pos he]at hi
  rw[hi,if_pos he]at hres
  subst hres
  refine⟨fun h=>absurd (show e=0 by simpa using h) he,fun _=>?_⟩
  refine oF ?_
  refine⟨fun _=>?_,fun h=>absurd (show e=0 by simpa using h) he⟩
  refine oO ?_
  refine kW ?_
  refine Ar 5 zF E (.cons (.refl _) (.cons (.refl _) (.cons (.refl _) (.cons .nil .nil)))) ?_
  exact dN
 subst he
 rw[if_neg qz]at hi
 (refine⟨fun _=>?_,fun h=>False.elim (absurd h qy)⟩;refine rg ?_;conv=>whnf)
 by_cases h2:u2=4789
 rotate_left
 ·rw[if_pos h2]at hi
  rw[hi,if_pos qz]at hres
  subst hres
  refine⟨fun _=>?_,fun h=>absurd (show u2=4789 by simpa using h) h2⟩
  refine oT ?_
  refine kW ?_
  refine Ar 5 zF E (.cons (.refl _) (.cons (.refl _) (.cons (.refl _) (.cons .nil .nil)))) ?_
  exact dN
 rw[if_neg (fun h=>h h2)]at hi
 refine⟨fun h=>absurd h2 (by simpa using h),fun _=>?_⟩
 have q4:=Aot u3 qn
 have hvl:=@vniT_body u3
 generalize vniT u3=w at *
 obtain ⟨w1,w2,e⟩:=w
 dsimp only at hi q4 hvl
 refine oF ?_
 refine c0 q4 F371 ?_
 refine oO ?_
 by_cases he:e=0
 rotate_left
 ·rw[if_pos he]at hi
  rw[hi,if_pos he]at hres
  subst hres
  refine⟨fun _=>?_,fun h=>absurd (show e=0 by simpa using h) he⟩
  refine oO ?_
  refine kW ?_
  refine Ar 5 zF E (.cons (.refl _) (.cons (.refl _) (.cons (.refl _) (.cons .nil .nil)))) ?_
  exact dN
 subst he
 rw[if_neg qz]at hi
 (refine⟨fun h=>False.elim (absurd h qy),fun _=>?_⟩;refine rg ?_;conv=>whnf)
 have q5:=Oi w2 qn
 generalize takeF w2=tk at *
 obtain ⟨g,e⟩:=tk
 dsimp only at hi q5
 refine c0 q5 F124 ?_
 refine oO ?_
 by_cases he:e=0
 rotate_left
 ·rw[if_pos he]at hi
  rw[hi,if_pos he]at hres
  subst hres
  refine⟨fun h=>absurd (show e=0 by simpa using h) he,fun _=>?_⟩
  refine oF ?_
  refine⟨fun _=>?_,fun h=>absurd (show e=0 by simpa using h) he⟩
  refine oO ?_
  refine kW ?_
  refine Ar 5 zF E (.cons (.refl _) (.cons (.refl _) (.cons (.refl _) (.cons .nil .nil)))) ?_
  exact dN
 subst he
 rw[if_neg qz]at hi
 (refine⟨fun _=>?_,fun h=>False.elim (absurd h qy)⟩;refine rg ?_;conv=>whnf)
 by_cases hg:g.typ=33024
 ·rw[if_pos hg]at hi
  rw[hi,if_pos qz]at hres
  subst hres
  refine⟨fun _=>?_,fun h=>absurd (show ¬ (g.typ:Int)=33024 by simpa using h) qn⟩
  refine oT ?_
  refine kW ?_
  refine Ar 5 zF E (.cons (.refl _) (.cons (.refl _) (.cons (.refl _) (.cons .nil .nil)))) ?_
  exact dN
 rw[if_neg hg]at hi
 rw[hi,if_neg qz]at hres
 subst hres
 refine⟨fun h=>absurd (show (g.typ:Int)=33024 by simpa using h) qn,fun _=>?_⟩
 refine oF ?_
 refine kW ?_
 exact dN
theorem endsC1 (dst:Int) (d:Device):Sy.Spec Tryz.prog 360 [Bn d,.ref 1 (Bd dst) 0] [] (Ab (decide (d.vtep=dst))) []:=cT F360 Tryz.ntmps360 fun F hF=>by
 conv=>whnf
 refine Ao E (.cons .tmp .nil) (congrArg Ab ?_) E
 rw[Bool.eq_iff_iff]
 simp
theorem endsC2 (dev vni:Int) (d:Domain):Sy.Spec Tryz.prog 361 [Au d,.ref 1 (Aa dev) 0,.ref 1 (Aa vni) 0] [] (Ab (decide (d.dev=dev) && decide (d.vni=vni))) []:=cT F361 Tryz.ntmps361 fun F hF=>by
 conv=>whnf
 refine⟨fun h=>?_,fun h=>?_⟩
 ·have h1:d.dev=dev:=by simpa using h
  refine oO ?_
  refine Ao E (.cons .tmp .nil) (congrArg Ab ?_) E
  rw[decide_eq_true h1,Bool.true_and,Bool.eq_iff_iff]
  simp
 ·have h1:¬ d.dev=dev:=by simpa using h
  refine oO ?_
  refine Ao E (.cons .tmp .nil) (congrArg Ab ?_) E
  rw[decide_eq_false h1,Bool.false_and]
theorem endsC3 (n:Net) (hb:Ac n=true) (src:Int) (k:Int) (hk:DomIn n k):Sy.Spec Tryz.prog 363 [Aa k,.ref 8 (Aj n) 0,.ref 1 (Bd src) 0] [] (Ab (decide (E2 n k=src))) []:=cT F363 Tryz.ntmps363 fun F hF=>by
 have q:=Us n hb k hk
 conv=>whnf
 refine cD q F304 ?_
 refine oD ?_
 refine kW ?_
 refine Ao E (.cons .tmp .nil) (congrArg Ab ?_) E
 rw[Bool.eq_iff_iff]
 simp
theorem endsS (n:Net) (hn:n.Fin) (hb:Ac n=true) (src dst:Nat) (vni:Int) :
  Sy.Spec Tryz.prog 309 [Aj n,Bd src,Bd dst,Aa vni] [] (.tup [Aa (endsT n src dst vni).1,Aa (endsT n src dst vni).2]) []:=cT F309 Tryz.ntmps309 fun F hF=>by
 have hres:=endsT.eq_1 n src dst vni
 dsimp only at hres
 generalize endsT n src dst vni=res at *
 have q1:=V6 n.devices (fun d=>decide (d.vtep=(dst:Int))) 360 [] [.ref 1 (Bd dst) 0] rfl (fun d _=>⟨⟨_,_,F360⟩,endsC1 dst d⟩) hn.devices
 generalize Cm (fun d:Device=>decide (d.vtep=(dst:Int))) n.devices=dev at *
 have q2:=Iy n.domains (fun d=>decide (d.dev=dev) && decide (d.vni=vni)) 361 [] [.ref 1 (Aa dev) 0,.ref 1 (Aa vni) 0] rfl (fun d _=>⟨⟨_,_,F361⟩,endsC2 dev vni d⟩) hn.domains
 have hlt:=Hd (fun d:Domain=>decide (d.dev=dev) && decide (d.vni=vni)) n.domains
 generalize Cm (fun d:Domain=>decide (d.dev=dev) && decide (d.vni=vni)) n.domains=dom at *
 conv=>whnf
 refine A0 4 8 (Aj n) E E E ?_
 refine A0 5 1 (Bd src) E E E ?_
 refine A0 6 1 (Bd dst) E E E ?_
 refine A0 7 1 (Aa vni) E E E ?_
 refine oO ?_
 refine c0 q1 F359 ?_
 refine oO ?_
 refine A0 10 1 (Aa dev) E E E ?_
 refine oO ?_
 refine c0 q2 F201 ?_
 refine oO ?_
 refine⟨fun h=>?_,fun h=>?_⟩
 ·rw[if_pos (.inl (of_decide_eq_true h))]at hres
  subst hres
  refine oT ?_
  exact dN
 have h1:=of_decide_eq_false h
 clear h
 refine oO ?_
 refine⟨fun h=>?_,fun h=>?_⟩
 ·rw[if_pos (.inr (of_decide_eq_true h))]at hres
  subst hres
  refine oO ?_
  exact dN
 have h2:=of_decide_eq_false h
 clear h
 rw[if_neg (fun h=>h.elim h1 h2)]at hres
 have hd0:0≤dom:=by omega
 have hkd:dom.toNat<n.domains.length:=by omega
 have e2:nth n.domains dom=n.domains[dom.toNat]:=Ag hkd
 have hpe:=hn.peers _ (List.getElem_mem hkd)
 have hpin:∀ k∈(n.domains[dom.toNat]'hkd).peers,DomIn n k:=fun k hk=>Aa0 hb hkd hk
 obtain ⟨d,hdd⟩:∃ d,n.domains[dom.toNat]'hkd=d:=⟨_,rfl⟩
 rw[hdd]at e2 hpe hpin
 rw[e2]at hres
 have q3:=Lb d.peers (fun k=>decide (E2 n k=(src:Int))) 363 [] [.ref 8 (Aj n) 0,.ref 1 (Bd src) 0] rfl (fun k hk=>⟨⟨_,_,F363⟩,endsC3 n hb src k (hpin k hk)⟩) hpe
 have hlt2:=Hd (fun k:Int=>decide (E2 n k=(src:Int))) d.peers
 generalize Cm (fun k:Int=>decide (E2 n k=(src:Int))) d.peers=i at *
 refine oO ?_
 refine⟨E,hd0,hkd,?_⟩
 rw[hdd]
 conv=>whnf
 refine c0 q3 F362 ?_
 refine oO ?_
 refine⟨fun h=>?_,fun h=>?_⟩
 ·rw[if_pos (of_decide_eq_true h)]at hres
  subst hres
  refine oO ?_
  exact dN
 have h3:=of_decide_eq_false h
 clear h
 rw[if_neg h3]at hres
 have hki:i.toNat<d.peers.length:=by omega
 rw[Ag hki]at hres
 subst hres
 refine oO ?_
 refine⟨E,by omega,hki,?_⟩
 conv=>whnf
 exact dN
theorem Ak9 (n:Net) (hn:n.Fin) (b:List UInt8) (hb:b.length<100000) :
  Sy.Spec Tryz.prog 242 [Aj n,.sl 1 Af b] [] (.tup [Aa (comeT n b).1,Aa (comeT n b).2.1,Bh (comeT n b).2.2.1,Aa (comeT n b).2.2.2]) []:=cT F242 Tryz.ntmps242 fun F hF=>by
 have hres:=comeT.eq_1 n b
 generalize comeT n b=res at *
 have hr:=Br n hn
 conv=>whnf
 refine A0 2 8 (Aj n) E E E ?_
 refine oO ?_
 refine c0 hr F23 ?_
 cases hbn:Ac n
 ·rw[if_pos hbn]at hres
  subst hres
  refine oT ?_
  refine Ar 6 zF E (.cons (.refl _) (.cons (.refl _) (.cons (.refl _) (.cons .nil .nil)))) ?_
  exact dN
 rw[if_neg (by rw[hbn];decide)]at hres
 have q1:=Anq b hb
 have huo:=Ue b
 generalize unwrapT b=u at *
 obtain ⟨src,dst,vni,f,e⟩:=u
 dsimp only at hres q1 huo
 have hsrc:=huo.2.2.2.src
 refine oF ?_
 refine c0 q1 F308 ?_
 refine oO ?_
 refine⟨fun h=>?_,fun h=>?_⟩
 ·rw[if_pos (by simpa using h)]at hres
  subst hres
  refine oO ?_
  refine Ar 6 zF E (.cons (.refl _) (.cons (.refl _) (.cons (.refl _) (.cons .nil .nil)))) ?_
  exact dN
 rw[if_neg (by simpa using h)]at hres
 clear h
 have q2:=endsS n hn hbn src dst vni
 generalize endsT n src dst vni=en at *
 obtain ⟨fr,dom⟩:=en
 dsimp only at hres q2
 refine oO ?_
 refine c0 q2 F309 ?_
 refine oO ?_
 refine⟨fun h=>?_,fun h=>?_⟩
 ·rw[if_pos (of_decide_eq_true h)]at hres
  subst hres
  refine oO ?_
  refine Ar 6 zF E (.cons (.refl _) (.cons (.refl _) (.cons (.refl _) (.cons .nil .nil)))) ?_
  exact dN
 rw[if_neg (of_decide_eq_false h)]at hres
 clear h
 have qg:=Mo f.src qn
 refine oO ?_
 refine c0 qg F226 ?_
 cases hg:Ea f.src
 rotate_left
 ·rw[if_pos hg]at hres
  subst hres
  refine oT ?_
  refine Ar 6 zF E (.cons (.refl _) (.cons (.refl _) (.cons (.refl _) (.cons .nil .nil)))) ?_
  exact dN
 rw[if_neg (by rw[hg];decide)]at hres
 subst hres
 refine oF ?_
 refine kW ?_
 exact dN
theorem Akc (n:Net) (hn:n.Fin) (hb:Ac n=true) (src dst:Nat) (vni:Int) :
  Sy.Spec Tryz.prog 324 [Aj n,Bd src,Bd dst,Aa vni] [] (.tup [Aa (endsT n src dst vni).1,Aa (endsT n src dst vni).2]) []:=cT F324 Tryz.ntmps324 fun F hF=>by
 have hres:=endsT.eq_1 n src dst vni
 dsimp only at hres
 generalize endsT n src dst vni=res at *
 have hsd:=hn.devices
 have hsm:=hn.domains
 unfold Al at hsd hsm
 conv=>whnf
 refine A0 4 8 (Aj n) E E E ?_
 refine Av n.devices.length (fun j=>∀ i (h:i<n.devices.length),i<j→decide (n.devices[i].vtep=(dst:Int))=false) (fun j=>[(1,Bd src),(2,Bd dst),(3,Aa vni),(4,.ref 8 (Aj n) 0),(10,Aa j)]) (fun _=>[]) [] (fun i h h2=>by omega) ⟨⟨E,E,E,E,E,E,E,E,E,E,Y⟩,Y,E,E⟩ ?_
 intro j hj hI
 refine oO ?_
 refine⟨fun h=>?_,fun h=>?_⟩
 ·have hlt:j<n.devices.length:=qA h
  have hj0:((j:Nat):Int).toNat<n.devices.length:=by simpa using hlt
  obtain ⟨d,hd⟩:∃ d,n.devices[j]=d:=⟨_,rfl⟩
  have e1:n.devices[((j:Nat):Int).toNat]'hj0=d:=hd
  clear h
  refine oO ?_
  refine⟨E,by omega,hj0,?_⟩
  rw[e1]
  conv=>whnf
  refine⟨fun h=>?_,fun h=>?_⟩
  ·have hne:¬ d.vtep=(dst:Int):=by simpa using h
   refine oO ?_
   refine iW ?_
   refine As [] hI hlt (fun i hi h2=>?_) ⟨⟨E,E,E,E,E,E,E,E,E,E,Y⟩,Y,E,E⟩
   by_cases hij:i=j
   ·subst hij;rw[hd];exact decide_eq_false hne
   ·exact hI i hi qn
  have heq:d.vtep=(dst:Int):=by simpa using h
  clear h
  have hdev:Cm (fun d:Device=>decide (d.vtep=(dst:Int))) n.devices=(j:Int):=Ct hlt hI (by rw[hd];exact decide_eq_true heq)
  rw[hdev]at hres
  refine oO ?_
  refine Av n.domains.length (fun k=>∀ i (h:i<n.domains.length),i<k→(decide (n.domains[i].dev=(j:Int)) && decide (n.domains[i].vni=vni))=false) (fun k=>[(1,Bd src),(3,Aa vni),(4,.ref 8 (Aj n) 0),(10,Aa j),(11,Aa k)]) (fun _=>[]) [] (fun i h h2=>by omega) ⟨⟨E,E,E,E,E,E,E,E,E,E,Y⟩,Y,E,E⟩ ?_
  intro k hk hK
  refine oO ?_
  refine⟨fun h=>?_,fun h=>?_⟩
  ·have hlk:k<n.domains.length:=qA h
   have hk0:((k:Nat):Int).toNat<n.domains.length:=by simpa using hlk
   have hpe:=hn.peers _ (List.getElem_mem hlk)
   have hpin:∀ z∈(n.domains[k]'hlk).peers,DomIn n z:=fun z hz=>Aa0 hb hlk hz
   obtain ⟨x,hx⟩:∃ x,n.domains[k]=x:=⟨_,rfl⟩
   have e2:n.domains[((k:Nat):Int).toNat]'hk0=x:=hx
   have e3:nth n.domains (k:Int)=x:=by rw[Ag hk0];exact hx
   rw[hx]at hpe hpin
   clear h
   have next:(decide (x.dev=(j:Int)) && decide (x.vni=vni))=false→∀ i (h:i<n.domains.length),i<k+1→(decide (n.domains[i].dev=(j:Int)) && decide (n.domains[i].vni=vni))=false:=fun hf i hi h2=>by
    by_cases hik:i=k
    ·subst hik;rw[hx];exact hf
    ·exact hK i hi qn
   refine oO ?_
   refine⟨E,by omega,hk0,?_⟩
   rw[e2]
   conv=>whnf
   refine⟨fun h=>?_,fun h=>?_⟩
   ·have hne:¬ x.dev=(j:Int):=by simpa using h
    refine oT ?_
    refine iW ?_
    exact As [] hK hlk (next (by rw[decide_eq_false hne,Bool.false_and])) ⟨⟨E,E,E,E,E,E,E,E,E,E,Y⟩,Y,E,E⟩
   have hxd:x.dev=(j:Int):=by simpa using h
   clear h
   refine oO ?_
   refine⟨E,by omega,hk0,?_⟩
   rw[e2]
   conv=>whnf
   refine⟨fun h=>?_,fun h=>?_⟩
   ·have hne:¬ x.vni=vni:=by simpa using h
    refine oO ?_
    refine iW ?_
    exact As [] hK hlk (next (by rw[decide_eq_false hne,Bool.and_false])) ⟨⟨E,E,E,E,E,E,E,E,E,E,Y⟩,Y,E,E⟩
   have hxv:x.vni=vni:=by simpa using h
   clear h
   have hdom:Cm (fun d:Domain=>decide (d.dev=(j:Int)) && decide (d.vni=vni)) n.domains=(k:Int):=Ct hlk hK (by rw[hx,decide_eq_true hxd,decide_eq_true hxv];rfl)
   rw[hdom,if_neg qn,e3]at hres
   unfold Al at hpe
   refine oO ?_
   refine Av x.peers.length (fun m=>∀ i (h:i<x.peers.length),i<m→decide (E2 n x.peers[i]=(src:Int))=false) (fun m=>[(1,Bd src),(4,.ref 8 (Aj n) 0),(11,Aa k),(12,Aa m)]) (fun _=>[]) [] (fun i h h2=>by omega) ⟨⟨E,E,E,E,E,E,E,E,Y⟩,Y,E,E⟩ ?_
   intro m hm0 hM
   refine oO ?_
   refine⟨E,by omega,hk0,?_⟩
   rw[e2]
   conv=>whnf
   refine⟨fun h=>?_,fun h=>?_⟩
   ·have hlm:m<x.peers.length:=qA h
    have hm1:((m:Nat):Int).toNat<x.peers.length:=by simpa using hlm
    obtain ⟨z,hz⟩:∃ z,x.peers[m]=z:=⟨_,rfl⟩
    have e4:x.peers[((m:Nat):Int).toNat]'hm1=z:=hz
    have qv:=Ul n hb z (hpin z (by rw[← hz];exact List.getElem_mem hlm))
    clear h
    refine oO ?_
    refine⟨E,by omega,hk0,?_⟩
    rw[e2]
    conv=>whnf
    refine⟨E,by omega,hm1,?_⟩
    rw[e4]
    conv=>whnf
    refine cD qv F322 ?_
    refine oD ?_
    refine kW ?_
    refine⟨fun h=>?_,fun h=>?_⟩
    ·have hzv:E2 n z=(src:Int):=by simpa using h
     have hidx:Cm (fun k:Int=>decide (E2 n k=(src:Int))) x.peers=(m:Int):=Ct hlm hM (by rw[hz];exact decide_eq_true hzv)
     have e5:nth x.peers (m:Int)=z:=by rw[Ag hm1];exact hz
     rw[hidx,if_neg qn,e5]at hres
     subst hres
     refine oO ?_
     refine⟨E,by omega,hk0,?_⟩
     rw[e2]
     conv=>whnf
     refine⟨E,by omega,hm1,?_⟩
     rw[e4]
     conv=>whnf
     exact dN
    ·have hne:¬ E2 n z=(src:Int):=by simpa using h
     refine oO ?_
     refine iW ?_
     refine As [] hM hlm (fun i hi h2=>?_) ⟨⟨E,E,E,E,E,E,E,E,Y⟩,Y,E,E⟩
     by_cases him:i=m
     ·subst him;rw[hz];exact decide_eq_false hne
     ·exact hM i hi qn
   ·have hmm:m=x.peers.length:=qB h
    subst hmm
    have hidx:Cm (fun k:Int=>decide (E2 n k=(src:Int))) x.peers=-1:=C6 (fun i hi=>hM i hi hi)
    rw[hidx,if_pos qy]at hres
    subst hres
    refine oO ?_
    exact dN
  ·have hkk:k=n.domains.length:=qB h
   subst hkk
   have hdom:Cm (fun d:Domain=>decide (d.dev=(j:Int)) && decide (d.vni=vni)) n.domains=-1:=C6 (fun i hi=>hK i hi hi)
   rw[hdom,if_pos (.inr qy)]at hres
   subst hres
   refine oO ?_
   exact dN
 ·have hjj:j=n.devices.length:=qB h
  subst hjj
  have hdev:Cm (fun d:Device=>decide (d.vtep=(dst:Int))) n.devices=-1:=C6 (fun i hi=>hI i hi hi)
  rw[hdev,if_pos (.inl qy)]at hres
  subst hres
  refine oO ?_
  exact dN
theorem Akd (n:Net) (hn:n.Fin) (b:List UInt8) (hb:b.length<100000) :
  Sy.Spec Tryz.prog 261 [Aj n,.sl 1 Af b] [] (.tup [Aa (comeT n b).1,Aa (comeT n b).2.1,Bh (comeT n b).2.2.1,Aa (comeT n b).2.2.2]) []:=cT F261 Tryz.ntmps261 fun F hF=>by
 have hres:=comeT.eq_1 n b
 generalize comeT n b=res at *
 have hr:=Dy n hn
 conv=>whnf
 refine A0 2 8 (Aj n) E E E ?_
 refine oO ?_
 refine c0 hr F10 ?_
 cases hbn:Ac n
 ·rw[if_pos hbn]at hres
  subst hres
  refine oT ?_
  refine Ar 6 zF E (.cons (.refl _) (.cons (.refl _) (.cons (.refl _) (.cons .nil .nil)))) ?_
  exact dN
 rw[if_neg (by rw[hbn];decide)]at hres
 have q1:=Aeu b hb
 have huo:=Ue b
 generalize unwrapT b=u at *
 obtain ⟨src,dst,vni,f,e⟩:=u
 dsimp only at hres q1 huo
 have hsrc:=huo.2.2.2.src
 refine oF ?_
 refine c0 q1 F323 ?_
 refine oO ?_
 refine⟨fun h=>?_,fun h=>?_⟩
 ·rw[if_pos (by simpa using h)]at hres
  subst hres
  refine oO ?_
  refine Ar 6 zF E (.cons (.refl _) (.cons (.refl _) (.cons (.refl _) (.cons .nil .nil)))) ?_
  exact dN
 rw[if_neg (by simpa using h)]at hres
 clear h
 have q2:=Akc n hn hbn src dst vni
 generalize endsT n src dst vni=en at *
 obtain ⟨fr,dom⟩:=en
 dsimp only at hres q2
 refine oO ?_
 refine c0 q2 F324 ?_
 refine oO ?_
 refine⟨fun h=>?_,fun h=>?_⟩
 ·rw[if_pos (of_decide_eq_true h)]at hres
  subst hres
  refine oO ?_
  refine Ar 6 zF E (.cons (.refl _) (.cons (.refl _) (.cons (.refl _) (.cons .nil .nil)))) ?_
  exact dN
 rw[if_neg (of_decide_eq_false h)]at hres
 clear h
 have qg:=Js f.src qn
 refine oO ?_
 refine c0 qg F186 ?_
 cases hg:Ea f.src
 rotate_left
 ·rw[if_pos hg]at hres
  subst hres
  refine oT ?_
  refine Ar 6 zF E (.cons (.refl _) (.cons (.refl _) (.cons (.refl _) (.cons .nil .nil)))) ?_
  exact dN
 rw[if_neg (by rw[hg];decide)]at hres
 subst hres
 refine oF ?_
 refine kW ?_
 exact dN
theorem Ane {n:Net} (hb:Ac n=true) {d:Int} (hd:DomIn n d) (hi:0≤(n.domains[d.toNat]'hd.2).irb) :
  ∃ h:(n.domains[d.toNat]'hd.2).irb.toNat<n.irbs.length,(n.irbs[(n.domains[d.toNat]'hd.2).irb.toNat]'h).domain=d:=by
 simp only[Ac,Bool.and_eq_true]at hb
 have:=allB_iff.1 hb.1.1.1.1.1.1.1.2 _ hd.2
 simp only[I4,Bool.and_eq_true,Bool.or_eq_true,beq_iff_eq]at this
 have h2:=this.1.2
 rcases h2 with h2 | ⟨h2,h3⟩
 ·omega
 ·have h4:=Bs h2
  have h5:(n.domains[d.toNat]'hd.2).irb.toNat<n.irbs.length:=by omega
  rw[Ag h5]at h3
  have:=hd.1
  exact⟨h5,by omega⟩
theorem Aue {n:Net} (hb:Ac n=true) {i:Nat} (hi:i<n.irbs.length):(nth n.domains (n.irbs[i]'hi).domain).irb=(i:Int):=by
 have:=Avc hb hi
 simp only[Xp,Bool.and_eq_true,beq_iff_eq]at this
 exact this.1.1.2
theorem Af8 (n:Net) (hn:n.Fin) (hm0:n.Num) (dom:Int) (m:Nat) :
  Sy.Spec Tryz.prog 232 [Aj n,Aa dom,Aw m] [] (.tup [Aa (routerT n dom m).1,Ab (routerT n dom m).2]) []:=cT F232 Tryz.ntmps232 fun F hF=>by
 have hres:=routerT.eq_1 n dom m
 generalize routerT n dom m=res at *
 have hr:=Br n hn
 conv=>whnf
 refine⟨fun h=>?_,fun h=>?_⟩
 ·have hp:Ak dom n.domains.length=false:=by
   cases hx:Ak dom n.domains.length
   ·rfl
   ·have:=Bs hx;have:=of_decide_eq_true h;omega
  rw[if_pos (.inl hp)]at hres
  subst hres
  (refine oT ?_;refine bT ?_)
  exact dN
 have h0:0≤dom:=qB h
 clear h
 refine oO ?_
 refine⟨fun h=>?_,fun h=>?_⟩
 ·have hp:Ak dom n.domains.length=false:=by
   cases hx:Ak dom n.domains.length
   ·rfl
   ·have:=Bs hx;have:=of_decide_eq_true h;omega
  rw[if_pos (.inl hp)]at hres
  subst hres
  refine oT ?_
  exact dN
 have h1:dom<n.domains.length:=qB h
 clear h
 have hpl:Ak dom n.domains.length=true:=Ck ⟨h0,h1⟩
 refine oO ?_
 refine c0 hr F23 ?_
 cases hbn:Ac n
 ·rw[if_pos (.inr hbn)]at hres
  subst hres
  refine oT ?_
  exact dN
 rw[if_neg (by simp[hbn,hpl])]at hres
 have hd:=E7 hpl
 have e2:nth n.domains dom=n.domains[dom.toNat]'hd.2:=Ag hd.2
 have hir:=Ane hbn hd
 obtain ⟨d,hdd⟩:∃ d,n.domains[dom.toNat]'hd.2=d:=⟨_,rfl⟩
 simp only[hdd]at e2 hir
 rw[e2]at hres
 refine oF ?_
 refine⟨E,hd.1,hd.2,?_⟩
 rw[hdd]
 conv=>whnf
 refine⟨fun h=>?_,fun h=>?_⟩
 ·rw[if_pos (.inl (of_decide_eq_true h))]at hres
  subst hres
  refine oT ?_
  exact dN
 have hi0:0≤d.irb:=qB h
 clear h
 obtain ⟨hi1,hi2⟩:=hir hi0
 have ha:=hm0.addr _ (List.getElem_mem hi1)
 rw[Ag hi1]at hres
 obtain ⟨x,hx⟩:∃ x,n.irbs[d.irb.toNat]'hi1=x:=⟨_,rfl⟩
 rw[hx]at ha hres
 obtain ⟨a,hae⟩:=Int.eq_ofNat_of_zero_le ha.1
 have qh:=Ads a qn
 rw[← hae]at qh
 refine oO ?_
 refine⟨E,hi0,hi1,?_⟩
 rw[hx]
 conv=>whnf
 refine c0 qh F44 ?_
 refine oO ?_
 refine⟨fun h=>?_,fun h=>?_⟩
 ·have hne:Ev x.addr≠m:=fun e=>by
   rw[e]at h
   simp at h
  rw[if_pos (.inr hne)]at hres
  subst hres
  refine oO ?_
  exact dN
 ·have heq:Ev x.addr=m:=by
   have:(Ev x.addr:Int)=(m:Int):=by simpa using h
   omega
  rw[if_neg (fun h=>h.elim qn (fun h2=>h2 heq))]at hres
  subst hres
  refine oO ?_
  exact dN
theorem Aes (n:Net) (hn:n.Fin) (hm0:n.Num) (hb:Ac n=true) (dom:Int) (hpl:Ak dom n.domains.length=true) (m:Nat) :
  Sy.Spec Tryz.prog 254 [Aj n,Aa dom,Aw m] [] (.tup [Aa (routerT n dom m).1,Ab (routerT n dom m).2]) []:=cT F254 Tryz.ntmps254 fun F hF=>by
 have hres:=routerT.eq_1 n dom m
 generalize routerT n dom m=res at *
 rw[if_neg (by simp[hb,hpl])]at hres
 have hd:=E7 hpl
 have hir:=Ane hb hd
 have e2:nth n.domains dom=n.domains[dom.toNat]'hd.2:=Ag hd.2
 rw[e2]at hres
 have hs:=hn.irbs
 unfold Al at hs
 conv=>whnf
 refine A0 3 8 (Aj n) E E E ?_
 refine Av n.irbs.length (fun j=>∀ i (h:i<n.irbs.length),i<j→¬ (n.irbs[i].domain=dom∧Ev n.irbs[i].addr=m)) (fun j=>[(1,Aa dom),(2,Aw m),(3,.ref 8 (Aj n) 0),(8,Aa j)]) (fun _=>[]) [] (fun i h h2=>by omega) ⟨⟨E,E,E,E,E,E,E,E,Y⟩,Y,E,E⟩ ?_
 intro j hj hI
 refine oO ?_
 refine⟨fun h=>?_,fun h=>?_⟩
 ·have hlt:j<n.irbs.length:=qA h
  have hj0:((j:Nat):Int).toNat<n.irbs.length:=by simpa using hlt
  have hid:=Aue hb hlt
  have ha:=hm0.addr _ (List.getElem_mem hlt)
  obtain ⟨x,hx⟩:∃ x,n.irbs[j]=x:=⟨_,rfl⟩
  have e1:n.irbs[((j:Nat):Int).toNat]'hj0=x:=hx
  rw[hx]at hid ha
  obtain ⟨a,hae⟩:=Int.eq_ofNat_of_zero_le ha.1
  have qh:=Mj a qn
  rw[← hae]at qh
  have next:¬ (x.domain=dom∧Ev x.addr=m)→∀ i (h:i<n.irbs.length),i<j+1→¬ (n.irbs[i].domain=dom∧Ev n.irbs[i].addr=m):=fun hf i hi h2=>by
   by_cases hij:i=j
   ·subst hij;rw[hx];exact hf
   ·exact hI i hi qn
  clear h
  refine oO ?_
  refine⟨E,by omega,hj0,?_⟩
  rw[e1]
  conv=>whnf
  refine⟨fun h=>?_,fun h=>?_⟩
  ·have hxd:x.domain=dom:=by simpa using h
   clear h
   refine oO ?_
   refine⟨E,by omega,hj0,?_⟩
   rw[e1]
   conv=>whnf
   refine c0 qh F47 ?_
   refine oO ?_
   refine⟨fun h=>?_,fun h=>?_⟩
   ·have heq:Ev x.addr=m:=by
     have:(Ev x.addr:Int)=(m:Int):=by simpa using h
     omega
    rw[hxd,e2]at hid
    have e3:nth n.irbs (j:Int)=x:=by rw[Ag hj0];exact hx
    rw[hid,if_neg (fun h=>h.elim qn (fun h2=>h2 (by rw[e3];exact heq)))]at hres
    subst hres
    refine oO ?_
    exact dN
   ·have hne:¬ Ev x.addr=m:=fun e=>by rw[e]at h;simp at h
    refine oO ?_
    refine iW ?_
    exact As [] hI hlt (next (fun h=>hne h.2)) ⟨⟨E,E,E,E,E,E,E,E,Y⟩,Y,E,E⟩
  ·have hne:¬ x.domain=dom:=by simpa using h
   refine oF ?_
   refine iW ?_
   exact As [] hI hlt (next (fun h=>hne h.1)) ⟨⟨E,E,E,E,E,E,E,E,Y⟩,Y,E,E⟩
 ·have hjj:j=n.irbs.length:=qB h
  subst hjj
  have hr0:res=(0,false):=by
   by_cases hi0:(n.domains[dom.toNat]'hd.2).irb<0
   ·rw[if_pos (.inl hi0)]at hres;exact hres
   ·obtain ⟨hi1,hi2⟩:=hir qn
    rw[Ag hi1]at hres
    have:=hI _ hi1 hi1
    rw[if_pos (.inr (fun e=>this ⟨hi2,e⟩))]at hres
    exact hres
  subst hr0
  refine oO ?_
  exact dN
theorem Tw {n:Net} {i:Int} (h:Ak i n.irbs.length=true):InIrbs n i:=by
 have:=Bs h
 exact⟨this.1,by omega⟩
theorem Am7 {p:PacketM} (h:PacketOK p):PacketOK (Aie p):=⟨h.tos,h.id,by have:=h.ttl;show p.ttl-1≤255;omega,h.proto,h.src,h.dst⟩
theorem Abf (p:PacketM):ipPutT (Aie p)=if 1480<p.body.length then ([],14) else (V3 (Aie p),0):=rfl
theorem An9 (n:Net) (hn:n.Fin) (hm0:n.Num) (irb:Int) (f:FrameM) (hf:FrameOK f) :
  Sy.Spec Tryz.prog 233 [Aj n,Aa irb,Bh f] [] (.tup [Aa (hopT n irb f).1,Bh (hopT n irb f).2.1,Aa (hopT n irb f).2.2]) []:=cT F233 Tryz.ntmps233 fun F hF=>by
 have hres:=hopT.eq_1 n irb f
 generalize hopT n irb f=res at *
 have hr:=Br n hn
 have hb:=hf.body
 conv=>whnf
 refine⟨fun h=>?_,fun h=>?_⟩
 ·have hp:Ak irb n.irbs.length=false:=by
   cases hx:Ak irb n.irbs.length
   ·rfl
   ·have:=Bs hx;have:=of_decide_eq_true h;omega
  rw[if_pos (.inl hp)]at hres
  subst hres
  (refine oT ?_;refine bT ?_)
  refine Ar 7 zF E (.cons (.refl _) (.cons (.refl _) (.cons (.refl _) (.cons .nil .nil)))) ?_
  exact dN
 have h0:0≤irb:=qB h
 clear h
 refine oO ?_
 refine⟨fun h=>?_,fun h=>?_⟩
 ·have hp:Ak irb n.irbs.length=false:=by
   cases hx:Ak irb n.irbs.length
   ·rfl
   ·have:=Bs hx;have:=of_decide_eq_true h;omega
  rw[if_pos (.inl hp)]at hres
  subst hres
  refine oT ?_
  refine Ar 7 zF E (.cons (.refl _) (.cons (.refl _) (.cons (.refl _) (.cons .nil .nil)))) ?_
  exact dN
 have h1:irb<n.irbs.length:=qB h
 clear h
 have hpl:Ak irb n.irbs.length=true:=Ck ⟨h0,h1⟩
 refine oO ?_
 refine c0 hr F23 ?_
 cases hbn:Ac n
 ·rw[if_pos (.inr hbn)]at hres
  subst hres
  refine oT ?_
  refine Ar 7 zF E (.cons (.refl _) (.cons (.refl _) (.cons (.refl _) (.cons .nil .nil)))) ?_
  exact dN
 rw[if_neg (by simp[hbn,hpl])]at hres
 refine A0 3 8 (Aj n) E E E ?_
 refine A0 5 4 (Bh f) E E E ?_
 refine oF ?_
 refine⟨fun h=>?_,fun h=>?_⟩
 ·rw[if_pos (by have:¬ (f.typ:Int)=2048:=(by simpa using h);omega)]at hres
  subst hres
  refine oO ?_
  refine Ar 7 zF E (.cons (.refl _) (.cons (.refl _) (.cons (.refl _) (.cons .nil .nil)))) ?_
  exact dN
 rw[if_neg (by have:(f.typ:Int)=2048:=(by simpa using h);omega)]at hres
 clear h
 have q1:=Am4 f.body qn
 have hok:=@Abe f.body
 generalize ipTakeT f.body=tk at *
 obtain ⟨p,e⟩:=tk
 dsimp only at hres q1 hok
 refine oO ?_
 refine c0 q1 F297 ?_
 refine oO ?_
 by_cases he:e=0
 rotate_left
 ·rw[if_pos he]at hres
  subst hres
  refine⟨fun h=>absurd (show e=0 by simpa using h) he,fun _=>?_⟩
  refine oO ?_
  refine⟨fun _=>?_,fun h=>absurd (show e=0 by simpa using h) he⟩
  refine oO ?_
  refine Ar 7 zF E (.cons (.refl _) (.cons (.refl _) (.cons (.refl _) (.cons .nil .nil)))) ?_
  exact dN
 subst he
 rw[if_neg qz]at hres
 obtain ⟨hpo,hpb⟩:=hok rfl
 have hpt:=hpo.ttl
 have hpd:=hpo.dst
 have q2:=ipHopS p qn hpt
 (refine⟨fun _=>?_,fun h=>False.elim (absurd h qy)⟩;refine rg ?_;conv=>whnf)
 by_cases ht:p.ttl≤1
 ·rw[if_pos ht]at hres
  subst hres
  rw[hop1,if_pos ht]at q2
  refine c0 q2 F298 ?_
  refine oT ?_
  refine Ar 7 zF E (.cons (.refl _) (.cons (.refl _) (.cons (.refl _) (.cons .nil .nil)))) ?_
  exact dN
 rw[if_neg ht]at hres
 rw[hop1,if_neg ht]at q2
 refine c0 q2 F298 ?_
 have q3:=Amz n hn hbn irb p.dst (Tw hpl)
 have hth:=fun h=>@Qz n irb p.dst h
 generalize lookT n irb p.dst=lk at *
 obtain ⟨to,ok⟩:=lk
 dsimp only at hres q3 hth
 refine oF ?_
 refine c0 q3 F271 ?_
 cases ok
 ·rw[if_pos rfl]at hres
  subst hres
  refine oT ?_
  refine Ar 7 zF E (.cons (.refl _) (.cons (.refl _) (.cons (.refl _) (.cons .nil .nil)))) ?_
  exact dN
 rw[if_neg qy]at hres
 have hto:=hth rfl
 have hpp:=Abf p
 have q4:=Aff (Aie p) (Am7 hpo) (by show p.body.length<100000;omega)
 rw[hpp]at q4
 clear hpp
 by_cases hl:1480<p.body.length
 ·rw[if_pos hl]at hres q4
  subst hres
  refine oF ?_
  refine c0 q4 F43 ?_
  refine oT ?_
  refine Ar 7 zF E (.cons (.refl _) (.cons (.refl _) (.cons (.refl _) (.cons .nil .nil)))) ?_
  exact dN
 rw[if_neg hl]at hres q4
 have ha:=hm0.addr _ (List.getElem_mem hto.2)
 rw[Ag hto.2]at hres
 obtain ⟨x,hx⟩:∃ x,n.irbs[to.toNat]'hto.2=x:=⟨_,rfl⟩
 rw[hx]at ha hres
 obtain ⟨a,hae⟩:=Int.eq_ofNat_of_zero_le ha.1
 have qh:=Ads a qn
 rw[← hae]at qh
 have qd:=Ads p.dst hpd
 subst hres
 refine oF ?_
 refine c0 q4 F43 ?_
 refine oF ?_
 refine⟨E,hto.1,hto.2,?_⟩
 rw[hx]
 conv=>whnf
 refine cD qd F44 ?_
 refine oD ?_
 refine⟨E,hto.1,hto.2,?_⟩
 rw[hx]
 conv=>whnf
 refine cD qh F44 ?_
 refine oD ?_
 refine kW ?_
 exact dN
theorem Aor (n:Net) (hn:n.Fin) (hm0:n.Num) (irb:Int) (f:FrameM) (hf:FrameOK f) :
  Sy.Spec Tryz.prog 255 [Aj n,Aa irb,Bh f] [] (.tup [Aa (hopT n irb f).1,Bh (hopT n irb f).2.1,Aa (hopT n irb f).2.2]) []:=cT F255 Tryz.ntmps255 fun F hF=>by
 have hres:=hopT.eq_1 n irb f
 generalize hopT n irb f=res at *
 have hr:=Dy n hn
 have hpS:=A1 irb n.irbs.length
 have hb:=hf.body
 conv=>whnf
 refine A0 3 8 (Aj n) E E E ?_
 refine A0 5 4 (Bh f) E E E ?_
 refine oO ?_
 refine c0 hr F10 ?_
 cases hbn:Ac n
 ·rw[if_pos (.inr hbn)]at hres
  subst hres
  (refine oT ?_;refine bT ?_)
  refine Ar 7 zF E (.cons (.refl _) (.cons (.refl _) (.cons (.refl _) (.cons .nil .nil)))) ?_
  exact dN
 refine oF ?_
 refine c0 hpS F46 ?_
 cases hpl:Ak irb n.irbs.length
 ·rw[if_pos (.inl hpl)]at hres
  subst hres
  refine oT ?_
  refine Ar 7 zF E (.cons (.refl _) (.cons (.refl _) (.cons (.refl _) (.cons .nil .nil)))) ?_
  exact dN
 rw[if_neg (by simp[hbn,hpl])]at hres
 refine oF ?_
 refine⟨fun h=>?_,fun h=>?_⟩
 ·rw[if_pos (by have:¬ (f.typ:Int)=2048:=(by simpa using h);omega)]at hres
  subst hres
  refine oO ?_
  refine Ar 7 zF E (.cons (.refl _) (.cons (.refl _) (.cons (.refl _) (.cons .nil .nil)))) ?_
  exact dN
 rw[if_neg (by have:(f.typ:Int)=2048:=(by simpa using h);omega)]at hres
 clear h
 have q1:=Aan f.body qn
 have hok:=@Abe f.body
 generalize ipTakeT f.body=tk at *
 obtain ⟨p,e⟩:=tk
 dsimp only at hres q1 hok
 refine oO ?_
 refine c0 q1 F317 ?_
 refine oO ?_
 by_cases he:e=0
 rotate_left
 ·rw[if_pos he]at hres
  subst hres
  refine⟨fun _=>?_,fun h=>absurd (show e=0 by simpa using h) he⟩
  refine oO ?_
  refine Ar 7 zF E (.cons (.refl _) (.cons (.refl _) (.cons (.refl _) (.cons .nil .nil)))) ?_
  exact dN
 subst he
 rw[if_neg qz]at hres
 obtain ⟨hpo,hpb⟩:=hok rfl
 have hpt:=hpo.ttl
 have hpd:=hpo.dst
 have q2:=Aov p qn hpt
 (refine⟨fun h=>False.elim (absurd h qy),fun _=>?_⟩;refine rg ?_;conv=>whnf)
 by_cases ht:p.ttl≤1
 ·rw[if_pos ht]at hres
  subst hres
  rw[hop1,if_pos ht]at q2
  refine c0 q2 F318 ?_
  refine oT ?_
  refine Ar 7 zF E (.cons (.refl _) (.cons (.refl _) (.cons (.refl _) (.cons .nil .nil)))) ?_
  exact dN
 rw[if_neg ht]at hres
 rw[hop1,if_neg ht]at q2
 refine c0 q2 F318 ?_
 have q3:=Aah n hn hbn hm0.addr irb p.dst (Tw hpl) qn
 have hth:=fun h=>@Qz n irb p.dst h
 generalize lookT n irb p.dst=lk at *
 obtain ⟨to,ok⟩:=lk
 dsimp only at hres q3 hth
 refine oF ?_
 refine c0 q3 F214 ?_
 cases ok
 ·rw[if_pos rfl]at hres
  subst hres
  refine oT ?_
  refine Ar 7 zF E (.cons (.refl _) (.cons (.refl _) (.cons (.refl _) (.cons .nil .nil)))) ?_
  exact dN
 rw[if_neg qy]at hres
 have hto:=hth rfl
 have hpp:=Abf p
 have q4:=Xc (Aie p) (Am7 hpo) (by show p.body.length<100000;omega)
 rw[hpp]at q4
 clear hpp
 by_cases hl:1480<p.body.length
 ·rw[if_pos hl]at hres q4
  subst hres
  refine oF ?_
  refine c0 q4 F48 ?_
  refine oT ?_
  refine Ar 7 zF E (.cons (.refl _) (.cons (.refl _) (.cons (.refl _) (.cons .nil .nil)))) ?_
  exact dN
 rw[if_neg hl]at hres q4
 have ha:=hm0.addr _ (List.getElem_mem hto.2)
 rw[Ag hto.2]at hres
 obtain ⟨x,hx⟩:∃ x,n.irbs[to.toNat]'hto.2=x:=⟨_,rfl⟩
 rw[hx]at ha hres
 obtain ⟨a,hae⟩:=Int.eq_ofNat_of_zero_le ha.1
 have qh:=Mj a qn
 rw[← hae]at qh
 have qd:=Mj p.dst hpd
 subst hres
 refine oF ?_
 refine c0 q4 F48 ?_
 refine oF ?_
 refine⟨E,hto.1,hto.2,?_⟩
 rw[hx]
 conv=>whnf
 refine cD qd F47 ?_
 refine oD ?_
 refine cD qh F47 ?_
 refine oD ?_
 refine kW ?_
 exact dN
end Go.Sy.YteinjapglfkamaaGreat
namespace Go.Sy.YteinjapglfkamaaGreat
open Go.Proofs
structure TabOK (t:List EntryM):Prop where
 short:Al t
 mac:∀ e∈t,e.mac<18446744073709551616
 wh:∀ e∈t,I64 e.where_
structure QueuedOK (q:QueuedM):Prop where
 frame:FrameOK q.frame
 from_:-2≤q.from_∧q.from_<1099511627776
 peer:0≤q.peer∧q.peer<1099511627776
def Es (l:List QueuedM):Prop:=l.length≤64∧∀ q∈l,QueuedOK q
structure MacOK (n:Net) (m:MacM) (J D:Int):Prop where
 up:m.up.length=n.links.length
 tabs:m.tables.length=n.domains.length
 ques:m.queues.length=n.domains.length
 tab:∀ t∈m.tables,TabOK t
 que:∀ l∈m.queues,Es l
 now:0≤m.now∧m.now≤1099511627776
 inj:0≤m.injected∧m.injected≤J
 drp:∀ i,0≤m.drops i∧m.drops i≤D
theorem Dv {f:FrameM} (hf:FrameOK f) {a b:Int} (c:Int) (h1:-2≤a∧a<1099511627776) (h2:0≤b∧b<1099511627776):QueuedOK ⟨a,b,c,f⟩:=⟨hf,h1,h2⟩
theorem Arr:QueuedOK noQ:=⟨Dp,by decide,by decide⟩
theorem Xj:TabOK []:=⟨by unfold Al;decide,fun _ h=>(by cases h),fun _ h=>(by cases h)⟩
theorem Yl:Es []:=⟨by decide,fun _ h=>(by cases h)⟩
theorem Ae8 {α:Type} {l:List α} {i:Nat} {x y:α} (h:y∈l.set i x):y=x∨y∈l:=by
 rcases List.mem_or_eq_of_mem_set h with h | h
 ·exact .inr h
 ·exact .inl h
theorem Abr {α:Type} {l:List α} {i:Nat} {d:α} (h:i<l.length):(l[i]?).getD d∈l:=by
 rw[List.getElem?_eq_getElem h]
 exact List.getElem_mem h
theorem Cn {n:Net} {m:MacM} {J D:Int} (h:MacOK n m J D) (dom:Int):Es (queueL m dom):=by
 unfold queueL
 by_cases hd:dom.toNat<m.queues.length
 ·exact h.que _ (Abr hd)
 ·rw[List.getElem?_eq_none qn];exact Yl
theorem Md {n:Net} {m:MacM} {J D:Int} (h:MacOK n m J D) (dom:Int):TabOK (tableL m dom):=by
 unfold tableL
 by_cases hd:dom.toNat<m.tables.length
 ·exact h.tab _ (Abr hd)
 ·rw[List.getElem?_eq_none qn];exact Xj
theorem MacOK.mono {n:Net} {m:MacM} {J D J' D':Int} (h:MacOK n m J D) (h1:J≤J') (h2:D≤D'):MacOK n m J' D' :=
 ⟨h.up,h.tabs,h.ques,h.tab,h.que,h.now,⟨h.inj.1,by have:=h.inj.2;omega⟩,fun i=>⟨(h.drp i).1,by have:=(h.drp i).2;omega⟩⟩
theorem Sd {n:Net} {m:MacM} {J D:Int} (h:MacOK n m J D) (_hD:0≤D) (e:Int):MacOK n (Bf m e) J (D+1):=by
 refine⟨h.up,h.tabs,h.ques,h.tab,h.que,h.now,h.inj,fun i=>?_⟩
 have:=h.drp i
 show 0≤(if i=e.toNat then m.drops i+1 else m.drops i)∧(if i=e.toNat then m.drops i+1 else m.drops i)≤D+1
 split<;>omega
theorem Amo {n:Net} {m:MacM} {J D:Int} (h:MacOK n m J D) (dom:Int) {l:List QueuedM} (hl:Es l):MacOK n (Ags m dom l) J D:=by
 refine⟨h.up,h.tabs,by rw[Ags];simp[h.ques],h.tab,fun x hx=>?_,h.now,h.inj,h.drp⟩
 rcases Ae8 hx with rfl | hx
 ·exact hl
 ·exact h.que x hx
theorem Amn {n:Net} {m:MacM} {J D:Int} (h:MacOK n m J D) (dom:Int) {l:List EntryM} (hl:TabOK l):MacOK n (Bz m dom l) J D:=by
 refine⟨h.up,by rw[Bz];simp[h.tabs],h.ques,fun x hx=>?_,h.que,h.now,h.inj,h.drp⟩
 rcases Ae8 hx with rfl | hx
 ·exact hl
 ·exact h.tab x hx
theorem Arf {l:List QueuedM} (hl:Es l) {q:QueuedM} (hq:QueuedOK q):Es (pushT l q).1:=by
 unfold pushT
 split
 ·exact hl
 ·refine⟨by simp;omega,fun x hx=>?_⟩
  rcases List.mem_append.1 hx with hx | hx
  ·exact hl.2 x hx
  ·rw[List.mem_singleton.1 hx];exact hq
theorem Aqm {l:List QueuedM} (hl:Es l) (at_:Int):QueuedOK (takeT l at_).1∧Es (takeT l at_).2.1:=by
 unfold takeT
 split
 ·exact⟨Arr,hl⟩
 ·rename_i h
  refine⟨hl.2 _ (Abr qn),?_,fun x hx=>hl.2 x (List.mem_of_mem_eraseIdx hx)⟩
  have:=List.length_eraseIdx_le l at_.toNat
  have:=hl.1
  show (l.eraseIdx at_.toNat).length≤64
  omega
theorem Wp {n:Net} {m:MacM} {J D:Int} (h:MacOK n m J D) (hD:0≤D) (dom:Int) {q:QueuedM} (hq:QueuedOK q) (e:Int):MacOK n (comeM m dom q e) J (D+1):=by
 unfold comeM
 split
 ·exact Sd h hD e
 split
 ·exact(Amo h dom (Arf (Cn h dom) hq)).mono (Int.le_refl _) qn
 ·exact Sd h hD 3
theorem Vd {n:Net} {m:MacM} {J D:Int} (h:MacOK n m J D) (dom at_:Int):MacOK n (takeM m dom at_).1 J D∧QueuedOK (takeM m dom at_).2.1:=by
 unfold takeM
 split
 ·exact⟨h,Arr⟩
 ·have:=Aqm (Cn h dom) at_
  exact⟨Amo h dom this.2,this.1⟩
theorem Ali {n:Net} (hn:n.Fin) {m:MacM} {J D:Int} (h:MacOK n m J D) (_hJ:0≤J) (hD:0≤D) (port:Int) (b:List UInt8):MacOK n (injectT n m port b) (J+1) (D+1):=by
 unfold injectT
 split
 ·exact h.mono qn qn
 ·rename_i hc
  have hp:Ak port n.ports.length=true:=by cases hx:Ak port n.ports.length;exact absurd (.inl hx) hc;rfl
  have hpi:=Bs hp
  have hs:=hn.ports
  unfold Al at hs
  have h1:=h.inj
  have hm:MacOK n ⟨m.up,m.tables,m.queues,m.now,m.injected+1,m.drops⟩ (J+1) D:=⟨h.up,h.tabs,h.ques,h.tab,h.que,h.now,(by show 0≤m.injected+1∧m.injected+1≤J+1;omega),h.drp⟩
  exact Wp hm hD _ (Dv (Ta _ _ _) _ qn qn) _
structure OutOK (n:Net) (o:OutM):Prop where
 kind:1≤o.kind∧o.kind≤5
 bytes:o.bytes.length≤1518
 frame:o.kind=4→FrameOK o.frame∧DomIn n o.domain
 err:o.kind=5→By o.error
theorem Ao2 {n:Net} (hn:n.Fin) (port:Int):-1≤Cv n port∧Cv n port<2147483648:=by
 unfold Cv
 split
 ·rename_i h
  obtain ⟨⟨h1,h2⟩,h3,hb⟩:=h
  have hk:port.toNat<n.ports.length:=by omega
  rw[Ag hk]at h3 ⊢
  have hl:=(Ij hb hk h3).1
  rw[Ag hl]
  simp only[Ac,Bool.and_eq_true]at hb
  have hlb:=allB_iff.1 hb.1.1.1.1.2 _ hl
  simp only[J8,Bool.and_eq_true]at hlb
  have ha:=Bs hlb.1.1.1.1
  have hb2:=Bs hlb.1.1.1.2
  have hs:=hn.ports
  unfold Al at hs
  split<;>omega
 ·omega
theorem Aa4 {n:Net} (hn:n.Fin) (port:Int) (b:List UInt8):0≤(linkT n port b).1∧(linkT n port b).1<1099511627776:=by
 have:=Ao2 hn port
 unfold linkT
 split<;>dsimp only<;>omega
theorem U6 {n:Net} (hn:n.Fin) (b:List UInt8):0≤(comeT n b).1∧(comeT n b).1<1099511627776:=by
 by_cases h:(comeT n b).2.2.2=0
 ·have:=(X3 h).1
  have hs:=hn.domains
  unfold Al at hs
  unfold DomIn at this
  omega
 ·unfold comeT at h ⊢
  split
  ·decide
  rename_i h1
  rw[if_neg h1]at h
  split
  ·exact⟨Int.le_refl _,by dsimp only;omega⟩
  rename_i h1
  rw[if_neg h1]at h
  split
  ·decide
  rename_i h1
  rw[if_neg h1]at h
  split
  ·decide
  rename_i h1
  rw[if_neg h1]at h
  exact absurd E h
theorem Asj {n:Net} (hn:n.Fin) {m:MacM} {J D:Int} (h:MacOK n m J D) (hD:0≤D) {o:OutM} (ho:OutOK n o) (origin:Int):MacOK n (goesM n m o origin).1 J (D+1):=by
 unfold goesM
 split
 ·exact h.mono (Int.le_refl _) qn
 split
 ·have:=Aa4 hn o.port o.bytes
  exact Wp h hD _ (Dv (Aa5 _ _ _) _ qn qn) _
 split
 ·exact Wp h hD _ (Dv (Ab2 _ _) _ qn (U6 hn o.bytes)) _
 split
 ·rename_i h4
  exact Wp h hD o.domain (Dv (a:=-2) (b:=0) (ho.frame h4).1 origin qy qy) 0
 ·exact Sd h hD _
theorem Jy {n:Net} (hn:n.Fin) (origin:Int):∀ (l:List OutM) {m:MacM} {J D:Int},MacOK n m J D→0≤D→(∀ o∈l,OutOK n o)→MacOK n (A9 n m origin l).1 J (D+l.length)
 | [],m,J,D,h,_,_=>by
  rw[A9]
  exact h.mono (Int.le_refl _) qz
 | o::l,m,J,D,h,hD,ho=>by
  rw[A9]
  have:=Jy hn origin l (Asj hn h hD (ho o qz) origin) qn (fun x hx=>ho x (by simp[hx]))
  exact this.mono (Int.le_refl _) (by simp only[List.length_cons];omega)
theorem Ah0 {n:Net} {o:OutM} {r:List UInt8 × Int} (hk:1≤o.kind∧o.kind≤3) (hr:r.1.length≤1518) (he:By r.2):OutOK n (Ef o r):=by
 unfold Ef
 split
 ·exact⟨⟨by dsimp only;omega,by dsimp only;omega⟩,by simp,fun h=>absurd h (by dsimp only;omega),fun _=>he⟩
 ·exact⟨⟨hk.1,by have:=hk.2;dsimp only;omega⟩,hr,fun h=>by have:=hk.2;dsimp only at h;omega,fun h=>by have:=hk.2;dsimp only at h;omega⟩
theorem Apd {t:List EntryM} (h:TabOK t) {m:Nat} (hm:m<18446744073709551616) {wh:Int} (hw:I64 wh) (now:Int):TabOK (learnT t m wh now):=by
 have hs:=h.short
 unfold Al at hs
 have key:∀ e:EntryM,e∈learnT t m wh now→e∈t∨e=⟨m,wh,now⟩:=fun e he=>by
  unfold learnT at he
  split at he
  ·exact .inl he
  split at he
  ·rcases Ae8 he with h | h
   ·exact .inr h
   ·exact .inl h
  ·rcases List.mem_append.1 he with h | h
   ·split at h
    ·exact .inl (List.mem_of_mem_eraseIdx h)
    ·exact .inl h
   ·exact .inr (List.mem_singleton.1 h)
 refine⟨?_,fun e he=>?_,fun e he=>?_⟩
 ·unfold learnT
  split
  ·exact h.short
  rename_i hb
  have h8:t.length≤8:=by
   have:tableB t=true:=by cases hx:tableB t;exact absurd (.inl hx) hb;rfl
   simp only[tableB,Bool.and_eq_true,decide_eq_true_eq]at this
   exact this.1
  split
  ·unfold Al;simp;omega
  ·unfold Al
   split
   ·have:=List.length_eraseIdx_le t (oldestU t t.length)
    simp only[List.length_append,List.length_cons,List.length_nil]
    omega
   ·simp only[List.length_append,List.length_cons,List.length_nil]
    omega
 ·rcases key e he with h1 | rfl
  ·exact h.mac e h1
  ·exact hm
 ·rcases key e he with h1 | rfl
  ·exact h.wh e h1
  ·exact hw
theorem Mp {t:List EntryM} (h:TabOK t) {q:QueuedM} (hq:QueuedOK q) (now:Int):TabOK (learnQ t q now):=by
 unfold learnQ
 split
 ·exact h
 ·have hs:=hq.frame.src
  refine Apd h qn ?_ now
  have h1:=hq.from_
  have h2:=hq.peer
  unfold I64
  split<;>omega
theorem Aux {t:List EntryM} (h:TabOK t) (now:Int):TabOK (ageT t now):=by
 unfold ageT
 split
 ·exact h
 ·have hs:=h.short
  unfold Al at hs
  refine⟨?_,fun e he=>h.mac e (List.mem_filter.1 he).1,fun e he=>h.wh e (List.mem_filter.1 he).1⟩
  unfold Al
  exact Nat.lt_of_le_of_lt (List.length_filter_le _ _) hs
theorem Ahv (n:Net) (dom:Int):(Az n dom).length≤n.ports.length:=by
 rw[Az]
 have:=Ep (Jw n (nth n.domains dom)) n.ports.length
 exact this
end Go.Sy.YteinjapglfkamaaGreat
namespace Go.Sy
theorem VwL.get {s:SS} {V:List Nat}:∀ {l m:List SV} (_:VwL s V l m) {i:Nat} {y:SV},Eo m i=some y→∃ x,Eo l i=some x∧Vw s V x y
 | _,_,.nil,i,y,h=>by cases i<;>simp[Eo]at h
 | _,_,.cons (x:=x) h0 hs,0,y,h=>by
  simp only[Eo,Option.some.injEq]at h
  subst h
  exact⟨x,E,h0⟩
 | _,_,.cons h0 hs,i+1,y,h=>VwL.get hs (i:=i) h
theorem VwL.len {s:SS} {V:List Nat}:∀ {l m:List SV} (_:VwL s V l m),m.length=l.length
 | _,_,.nil=>rfl
 | _,_,.cons _ hs=>by simp[VwL.len hs]
theorem Ad2:∀ {l:List SV} {i:Nat} {x:SV},My l=true→Eo l i=some x→x.data=true
 | [],i,x,_,h=>by cases i<;>simp[Eo]at h
 | y::l,0,x,hd,h=>by
  simp only[Eo,Option.some.injEq]at h
  subst h
  simp only[My,Bool.and_eq_true]at hd
  exact hd.1
 | y::l,i+1,x,hd,h=>by
  simp only[My,Bool.and_eq_true]at hd
  exact Ad2 hd.2 (i:=i) h
theorem U8 {C:Cx} {k:List KI} {s:SS} (d:Nat) {sz:Nat} {svs:List SV} (svs':List SV) (h:s.h d=.lit sz svs) (hv:VwL s [] svs svs') (hd:My svs'=true) (hg:G C k ⟨s.σ,upd s.h d (.lit sz svs')⟩):G C k s:=fun κ a w hs=>by
 refine hg κ a w ⟨hs.defers,hs.size,hs.inv,hs.ctx,hs.slot,fun j=>?_⟩
 show ObOK κ w j (upd s.h d (.lit sz svs') j)
 by_cases hj:j=d
 ·subst hj
  rw[Bu]
  have hob:=hs.obj j
  rw[h]at hob
  have hlen:=hv.len
  obtain ⟨b,cap,cs,T,fr,e1,e2,e3,e4,e5,e6⟩:=hob
  refine⟨b,cap,cs,T,fr,by rw[hlen];exact e1,e2,e3,e4,by omega,fun i x hx=>?_⟩
  obtain ⟨y,hy,hvw⟩:=hv.get hx
  obtain ⟨f1,u,f2,f3⟩:=e6 i y hy
  exact⟨by omega,u,Rd.data _ _ (Ad2 hd hx) (hvw.rd hs.inv (fun n hn=>by cases hn) f2.toRd),f3⟩
 ·rw[Cd _ _ hj];exact hs.obj j
theorem RdL.setI {κ:Ka} {w:World} {x:SV} {v:Value} (hx:Rd κ w x v):∀ {l:List SV} {cs:List Value} (i:Nat),RdL κ w l cs→RdL κ w (l.set i x) (cs.set i v)
 | [],cs,i,h=>by simp only[RdL]at h;subst h;simp[RdL]
 | y::l,cs,0,h=>by
  simp only[RdL]at h
  obtain ⟨u,r,rfl,h1,h2⟩:=h
  simp only[List.set_cons_zero,RdL]
  exact⟨v,r,E,hx,h2⟩
 | y::l,cs,i+1,h=>by
  simp only[RdL]at h
  obtain ⟨u,r,rfl,h1,h2⟩:=h
  simp only[List.set_cons_succ,RdL]
  exact⟨u,_,E,h1,h2.setI hx i⟩
theorem J1 {κ:Ka} {w:World} {k:Nat} {l:List SV} (hi:Inv κ w) (h:ObOK κ w k (.box l)) {off:Nat} {x:SV} {v:Value} (_hx:x.plain=true) (hv:∀ κ w,Rd κ w x v) (h1:v.oneCell'=true) :
  ∃ b,κ k=.blk b∧(∀ j y,Eo l j=some y→∃ u,w.cell? ⟨b,j,none⟩=some u∧Rd κ w y u)∧(∀ j,j<l.length→w.frozen? ⟨b,j,none⟩=false) ∧
   Step (·=k) κ w κ (w.setCell ⟨b,off,none⟩ v)∧Inv κ (w.setCell ⟨b,off,none⟩ v)∧ObOK κ (w.setCell ⟨b,off,none⟩ v) k (.box (l.set off x)):=by
 obtain ⟨b,cs,T,fr,e1,e2,e3,e4,e5⟩:=h
 have hsame:(w.setCell ⟨b,off,none⟩ v).heap[b]? = some (.cells (cs.set off v).toArray T fr):=by
  simp[World.setCell,Array.getElem?_modify,e2]
 have hoth:∀ j,j≠b→(w.setCell ⟨b,off,none⟩ v).heap[j]? = w.heap[j]?:=fun j hj=>heap_setCell_other w ⟨b,off,none⟩ j v hj
 obtain ⟨st,inv⟩:=Oa (w':=w.setCell ⟨b,off,none⟩ v) hi (k:=k) (b:=b) (by rw[e1];rfl) rfl rfl rfl qz hoth
 have hlen:=e5.length
 refine⟨b,e1,fun j y hy=>?_,fun j hj=>?_,st,inv,b,_,T,fr,e1,hsame,by rw[List.length_set];exact e3,?_,(RdL.step st _ _ e5).setI (hv _ _) off⟩
 ·obtain ⟨u,hu,hr⟩:=e5.get hy
  exact⟨u,by rw[cell_of_row w b j cs.toArray T fr e2,List.getElem?_toArray];exact hu,hr⟩
 ·obtain ⟨lo,hi'⟩:=fr
  simp only[World.frozen?,e2]
  rcases e3 with h | h
  ·simp only at h;subst h;simp
  ·simp only at h;simp;omega
 ·intro c hc
  rcases List.mem_or_eq_of_mem_set hc with h | h
  ·exact e4 c h
  ·rw[h];exact h1
theorem Acw {P:Program} {o:Oper} {s:SS} {f:FuncId} {ik:IntKind} {ts:Array TypeId} {x:Operand} {k off:Nat} {l:List SV} {v:Int}
  (hf:∀ (a:Addr) (x:Int) (w:World),w.cell? a=some (.int ik x)→(callFunc f #[.pointer (some a)]).run P w=.ok (.value (.int ik x)) w)
  (h:o.op=.call ⟨.value (.func f),#[x],ts⟩) (hx:ev s x=.ptr k off) (hk:s.h k=.box l) (hy:Eo l off=some (.val (.int ik v))):Good P o s ⟨.val (.int ik v),[k],[]⟩ :=
 Good.pure fun κ a w hi hr ho=>by
  have h1:=hr x (by simp[h,Op.operands,Call.operands])
  rw[hx]at h1
  have h2:=ho k qz
  rw[hk]at h2
  obtain ⟨b,cs,T,fr,e1,e2,e3,e4,e5⟩:=h2
  simp only[Rd,e1]at h1
  obtain ⟨u,hu,hr2⟩:=e5.get hy
  have hc:w.cell? ⟨b,off,none⟩=some (.int ik v):=by rw[cell_of_row w b off cs.toArray T fr e2,List.getElem?_toArray,hu,hr2.val]
  have hrun:=hf ⟨b,off,none⟩ v w hc
  refine⟨.int ik v,?_,by simp only[Rd]⟩
  have hev:a.eval (.func f)=.func (.func f) #[] #[]:=rfl
  simp[execOp,h,resolve,hev,Deferred.ofValue,invoke,h1,hrun]
theorem Afh {P:Program} {o:Oper} {s:SS} {f:FuncId} {ts:Array TypeId} {x y:Operand} {k off:Nat} {l:List SV} {v d:Int}
  (hf:∀ (a:Addr) (x y:Int) (w:World),w.cell? a=some (.int .i64 x)→w.frozen? a=false→(callFunc f #[.pointer (some a),.int .i64 y]).run P w=.ok (.value (.int .i64 (IntKind.i64.wrap (x+y)))) (w.setCell a (.int .i64 (IntKind.i64.wrap (x+y)))))
  (h:o.op=.call ⟨.value (.func f),#[x,y],ts⟩) (hx:ev s x=.ptr k off) (hy:ev s y=.val (.int .i64 d)) (hk:s.h k=.box l) (hl:Eo l off=some (.val (.int .i64 v))) (hv:IntKind.i64.wrap (v+d)=v+d) :
  Good P o s ⟨.val (.int .i64 (v+d)),[],[(k,.box (l.set off (.val (.int .i64 (v+d)))))]⟩:=by
 intro κ a w hi hr ho N Q hN
 have h1:=hr x (by simp[h,Op.operands,Call.operands])
 have h2:=hr y (by simp[h,Op.operands,Call.operands])
 rw[hx]at h1
 rw[hy]at h2
 have h3:=ho k (.inr (by simp[Up.ws]))
 rw[hk]at h3
 obtain ⟨b,e1,c1,c2,st,inv,ob⟩:=J1 (off:=off) (x:=.val (.int .i64 (v+d))) (v:=.int .i64 (v+d)) hi h3 rfl (fun _ _=>by simp only[Rd]) rfl
 simp only[Rd,e1]at h1
 obtain ⟨u,hu,hr2⟩:=c1 off _ hl
 rw[hr2.val]at hu
 have hrun:=hf ⟨b,off,none⟩ v d w hu (c2 off (Lt hl))
 rw[hv]at hrun
 have hrun2:(execOp a.eval o).run P w=.ok (.value (.int .i64 (v+d))) (w.setCell ⟨b,off,none⟩ (.int .i64 (v+d))):=by
  have hev:a.eval (.func f)=.func (.func f) #[] #[]:=rfl
  simp[execOp,h,resolve,hev,Deferred.ofValue,invoke,h1,h2.val,hrun]
 simp only[Oper.wp,hrun2,Oper.upon]
 refine hN _ κ _ (st.weaken (by simp[Up.ws])) inv (by simp only[Rd]) (fun p hp=>?_)
 simp only[List.mem_singleton]at hp
 subst hp
 exact ob
theorem Acx {P:Program} (Γ:Ty P) {o:Oper} {s:SS} (q:Nat) {t:TypeId} {ti:TI} {et:TypeId} {eb b n cap lo k c1 c2:Nat} {ez:List Value} {x y:Operand} {α:Type} {e:α→SV} {l:List α} {B B2:Option Addr}
  (h:o.op=.call ⟨.builtin .copy,#[x,y],#[t,t]⟩) (ht:Γ.get t=some ti) (hk:ti.k=.slice et 1 eb ez) (hx:ev s x=.val (.slice B (n-lo) c1)) (hB:B=some ⟨b,lo,none⟩) (hy:ev s y=.val (.slice B2 k c2)) (hB2:B2=some ⟨b,0,none⟩)
  (hq:s.h q=.pin b n cap 1 e l) (hl:l.length=n) (hk2:k≤n) (hpos:0<min k (n-lo)) :
  Good P o s ⟨.val (.int .i64 (min k (n-lo):Nat)),[],[(q,.pin b n cap 1 e (l.take lo++l.take (min k (n-lo))++l.drop (lo+min k (n-lo))))]⟩:=by
 intro κ a w hinv hr ho N Q hN
 have r1:=hr x (by simp[h,Op.operands,Call.operands])
 have r2:=hr y (by simp[h,Op.operands,Call.operands])
 rw[hx]at r1
 rw[hy]at r2
 subst hB
 subst hB2
 have hob:=ho q (.inr (by simp[Up.ws]))
 rw[hq]at hob
 obtain ⟨e0,b',cap',cs,T,fr,e1,e2,e3,e4,e5,e6⟩:=hob
 rw[e0]at e1
 cases e1
 obtain ⟨hu,ii,zv,q1,q2,q3,q4,q5⟩:=Ce Γ ht hk
 obtain ⟨mn,hmn⟩:∃ mn,min k (n-lo)=mn:=⟨_,rfl⟩
 rw[hmn]at hpos hN
 have hnc:n≤cs.length:=by omega
 have hall:∀ i,i<n→∃ u:Value,u.cells.size=1∧Ones u.cells.toList∧∀ j,j<1→cs[i * 1+j]? = u.cells[j]?:=fun i hi=>by
  obtain ⟨_,u,_,u2⟩:=e6 i (e l[i]) ⟨by omega,rfl⟩
  exact⟨u,u2⟩
 obtain ⟨news,hnews⟩:∃ news,news=cs.take mn:=⟨_,rfl⟩
 have hnl:news.length=mn:=by rw[hnews,List.length_take];omega
 have hget:∀ p,p<mn→news[p]? = cs[p]?:=fun p hp=>by rw[hnews,List.getElem?_take,if_pos hp]
 have hones:Ones news:=fun v hv=>by
  obtain ⟨p,hp,he⟩:=List.getElem_of_mem hv
  have h1:news[p]? = some v:=by rw[List.getElem?_eq_getElem hp,he]
  rw[hnl]at hp
  rw[hget p hp]at h1
  exact Agu (n:=n) hall qn h1
 obtain ⟨w',f1,f2,f3,f4,f5,f6,f7⟩:=Cz P b lo T fr news 0 cs w e2 e3 qn hones
 obtain ⟨st,inv⟩:=Qj hinv e0 f3 f4 f5 f6 f7
 have hcell:∀ p v,cs[p]? = some v→w.cell? ⟨b,p,none⟩=some v:=fun p v hp=>by simp[World.cell?,e2,hp]
 have hc:=Ad3 (P:=P) w w' t t o.type et ⟨b,lo,none⟩ ⟨b,0,none⟩ (n-lo) c1 k c2 news hu q1 q2 (by rw[hnl,hmn]) (fun j v hv=>by
  rw[Addr.add_lit]
  have hlt:j<mn:=by rw[← hnl];exact(List.getElem?_eq_some_iff.1 hv).1
  rw[hget j hlt]at hv
  rw[Nat.zero_add]
  exact hcell _ _ hv) f1
 rw[hnl]at hc
 have hrun:(execOp a.eval o).run P w=.ok (.value (.int .i64 (mn:Nat))) w':=by
  simp[execOp,h,resolve,invoke,builtin,r1.val,r2.val,hc]
 simp only[Oper.wp,hrun,Oper.upon]
 refine hN _ κ w' (st.weaken (fun k hk=>by subst hk;simp[Up.ws])) inv (by simp only[Rd]) (fun p hp=>?_)
 simp only[List.mem_singleton]at hp
 subst hp
 refine⟨e0,b,cap,_,T,fr,e0,f2,by rw[B5];exact e3,by rw[B5];exact e4,e5,?_⟩
 rintro i z ⟨hi0,rfl⟩
 have hset:=Ku cs news (lo+0)
 have hlen:(l.take lo++l.take mn++l.drop (lo+mn)).length=n:=by
  simp only[List.length_append,List.length_take,List.length_drop];omega
 rw[hlen]at hi0
 have src:∀ j (hj:j<l.length),∃ u:Value,RdD (Own κ) w (e l[j]) u∧u.cells.size=1∧Ones u.cells.toList∧∀ p,p<1→cs[j * 1+p]? = u.cells[p]?:=fun j hj=>(e6 j (e l[j]) ⟨hj,rfl⟩).2
 by_cases hi1:i<lo
 ·obtain ⟨u,u1,u2,u3,u4⟩:=src i qn
  refine⟨hi0,u,?_,u2,u3,fun p hp=>?_⟩
  ·have:(l.take lo++l.take mn++l.drop (lo+mn))[i]'(by rw[hlen];exact hi0)=l[i]'qn:=by
    rw[List.getElem_append_left (by simp only[List.length_append,List.length_take];omega),List.getElem_append_left (by simp only[List.length_take];omega),List.getElem_take]
   rw[this]
   exact RdD.keep st.keeps _ _ u1
  ·rw[hset _ qn,if_neg qn,u4 p hp]
 ·by_cases hi2:i<lo+mn
  ·obtain ⟨u,u1,u2,u3,u4⟩:=src (i-lo) qn
   refine⟨hi0,u,?_,u2,u3,fun p hp=>?_⟩
   ·have:(l.take lo++l.take mn++l.drop (lo+mn))[i]'(by rw[hlen];exact hi0)=l[i-lo]'qn:=by
     rw[List.getElem_append_left (by simp only[List.length_append,List.length_take];omega),List.getElem_append_right (by simp only[List.length_take];omega),List.getElem_take]
     congr 1
     simp only[List.length_take];omega
    rw[this]
    exact RdD.keep st.keeps _ _ u1
   ·rw[hset _ qn,if_pos qn,hget _ qn,← u4 p hp]
    congr 1
    omega
  ·obtain ⟨u,u1,u2,u3,u4⟩:=src i qn
   refine⟨hi0,u,?_,u2,u3,fun p hp=>?_⟩
   ·have:(l.take lo++l.take mn++l.drop (lo+mn))[i]'(by rw[hlen];exact hi0)=l[i]'qn:=by
     rw[List.getElem_append_right (by simp only[List.length_append,List.length_take];omega),List.getElem_drop]
     congr 1
     simp only[List.length_append,List.length_take];omega
    rw[this]
    exact RdD.keep st.keeps _ _ u1
   ·rw[hset _ qn,if_neg qn,u4 p hp]
end Go.Sy
namespace Go.Sy.YteinjapglfkamaaGreat
open Go.Proofs
attribute [local irreducible] Go.Sy.G Go.Sy.DR
set_option maxRecDepth 100000
set_option maxHeartbeats 4000000
theorem Ab6 (m:Nat) (h:m<4294967296):bits .and .u64 (m:Int) 4294967295=(m:Int):=by
 have:=bits_and_u64_nat m 4294967295 qn qy
 rw[show ((4294967295:Nat):Int)=4294967295 from rfl]at this
 rw[this]
 have h2:=Nat.and_two_pow_sub_one_eq_mod m 32
 rw[show 2 ^ 32-1=4294967295 from rfl,show 2 ^ 32=4294967296 from rfl]at h2
 rw[h2,Nat.mod_eq_of_lt h]
theorem Aju (m:Nat) (h:m<4294967296):(m:Int).fdiv (2 ^ (min (Int.toNat 32) IntKind.u64.bits))=0:=by
 show (m:Int).fdiv 4294967296=0
 rw[Int.fdiv_eq_ediv_of_nonneg _ qy]
 omega
theorem mul64S (m:Nat) (h:m<4294967296):Sy.Spec Tryz.prog 218 [Aw 1,Aw m] [] (.tup [Aw 0,Aw m]) []:=cT F218 Tryz.ntmps218 fun F hF=>by
 have e0:bits .and .u64 1 4294967295=1:=Ab6 1 qy
 have e1:(1:Int).fdiv (2 ^ (min (Int.toNat 32) IntKind.u64.bits))=0:=Aju 1 qy
 have e2:=Ab6 m h
 have e3:=Aju m h
 have w1:IntKind.u64.wrap (1 * (m:Int))=m:=by rw[IntKind.wrap_u64];omega
 have w0:IntKind.u64.wrap (0 * (m:Int))=0:=by rw[IntKind.wrap_u64];omega
 have z0:IntKind.u64.wrap (0+0)=0:=rfl
 have a0:bits .and .u64 0 4294967295=0:=Ab6 0 qy
 have s0:(0:Int).fdiv (2 ^ (min (Int.toNat 32) IntKind.u64.bits))=0:=Aju 0 qy
 conv=>whnf
 rw[e0]
 refine⟨by decide,?_⟩
 rw[e1]
 conv=>whnf
 rw[e2]
 refine⟨by decide,?_⟩
 rw[e3]
 conv=>whnf
 rw[w1,w0]
 refine⟨by decide,?_⟩
 rw[e3]
 conv=>whnf
 rw[z0,a0]
 refine⟨by decide,?_⟩
 rw[s0]
 conv=>whnf
 refine⟨by decide,?_⟩
 conv=>whnf
 refine Ao E (.cons .tmp (.cons .tmp .nil)) ?_ E
 refine congrArg (fun z:Int=>SV.tup [Aw 0,Aw z]) ?_
 exact w1.symm
theorem mulS (m:Nat) (h:m<4294967296):Sy.Spec Tryz.prog 159 [Aw 1,Aw m] [] (.tup [Aw 0,Aw m]) []:=cT F159 Tryz.ntmps159 fun F hF=>by
 ((conv=>whnf);refine aF ?_;refine rg ?_;conv=>whnf)
 refine c0 (mul64S m h) F218 ?_
 refine oO ?_
 exact dN
def Ky (m k:Nat):List Bool:=List.replicate k true++List.replicate (m-k) false
theorem Qr (m k:Nat) (h:k≤m):(Ky m k).length=m:=by simp[Ky];omega
theorem Ara (m:Nat):Ky m m=List.replicate m true:=by simp[Ky]
theorem Aoi (m k c:Nat) (_h:k≤m) (hc:c=min k (m-k)):(Ky m k).take k++(Ky m k).take c++(Ky m k).drop (k+c)=Ky m (k+c):=by
 have e1:(Ky m k).take k=List.replicate k true:=by
  rw[Ky,List.take_append_of_le_length qz];simp
 have e2:(Ky m k).take c=List.replicate c true:=by
  rw[Ky,List.take_append_of_le_length (by simp;omega)];simp;omega
 have e3:(Ky m k).drop (k+c)=List.replicate (m-(k+c)) false:=by
  rw[Ky,List.drop_append,List.drop_eq_nil_of_le qz,List.nil_append]
  simp
  omega
 rw[e1,e2,e3,Ky,List.replicate_append_replicate]
theorem Amr (m:Nat) (h:m<2147483648):Sy.Spec Tryz.prog 111 [.sl 1 Ab [true],Aa m] [] (.sl 1 Ab (List.replicate m true)) []:=cT F111 Tryz.ntmps111 fun F hF=>by
 have hw:IntKind.u64.wrap (m:Int)=m:=by rw[IntKind.wrap_u64];omega
 have hw2:IntKind.i64.wrap (m:Int)=m:=by rw[IntKind.wrap_i64];omega
 have q:=mulS m qn
 rw[← hw]at q
 ((conv=>whnf);refine aF ?_;refine rg ?_;conv=>whnf)
 refine c0 q F159 ?_
 rw[hw]
 refine oF ?_
 refine⟨fun h1=>absurd (of_decide_eq_true h1) qn,fun _=>?_⟩
 refine oO ?_
 rw[hw2]
 refine Ae (Bm Γ.toTy (d:=30) (n:=m) Ab false E E E E E E E E qn qn E E E) E E ?_
 refine oO ?_
 refine Ae (Xt Γ.toTy (l:=List.replicate m false) (m:=[true]) E E E E E .sl) E E ?_
 have e0:[true].take (List.replicate m false).length++(List.replicate m false).drop [true].length=Ky m (min 1 m):=by
  cases m with
  | zero=>rfl
  | succ m=>simp[Ky,Nat.min_eq_left,List.replicate_succ]
 have e1:min [true].length (List.replicate m false).length=min 1 m:=by simp
 rw[e0,e1]
 refine oO ?_
 refine Tf (fun k:Nat=>min 1 m≤k∧k≤m) (fun k=>[(7,.osl 30),(8,Aa k)]) (fun k=>[(30,.row 1 Ab (Ky m k))]) (fun k=>m-k) (min 1 m) [] qn ⟨⟨E,E,E,E,Y⟩,⟨.inl E,E,Y⟩,E,E⟩ ?_
 intro k hk
 have hl:=Qr m k hk.2
 refine oO ?_
 refine⟨fun h1=>?_,fun h1=>?_⟩
 ·have hlt:k<m:=by have:=of_decide_eq_true h1;rw[hl]at this;omega
  clear h1
  have hk1:1≤k:=by omega
  have hne:Ky m k≠[]:=fun e=>by rw[e]at hl;simp at hl;omega
  refine Ano 30 [7] E hne (fun i hi=>by simp at hi;subst hi;rfl) ?_
  intro b cap hc
  rw[hl]at hc ⊢
  have hcl:¬ cap=k:=by omega
  have hcp:=Aoi m k (min k (m-k)) hk.2 rfl
  refine oO ?_
  refine Bb (Dh (lo:=k) (hi:=m) Γ.toTy E E E E (.inr ⟨_,_,E,E⟩) (.inl ⟨E,E⟩) qn qn) qq E ?_
  refine oD ?_
  refine Bb (Dh (lo:=0) (hi:=k) Γ.toTy E E E E (.inl ⟨E,E⟩) (.inr ⟨_,_,E,E⟩) qn qn) qq E ?_
  refine oD ?_
  refine Bb (Acx Γ.toTy 30 (lo:=k) (k:=k) E E E E (by rw[if_neg hcl,Nat.mul_one]) E (by rw[if_neg qn,Nat.zero_mul]) E hl qn qn) qq E ?_
  refine oD ?_
  refine iW ?_
  refine kW ?_
  refine Zs 30 31 [7] m E E (by rw[hcp,Qr m _ qn];exact Nat.le_refl _) (fun i hi=>by simp at hi;subst hi;rfl) ?_
  have hfin:((Ky m k).take k++(Ky m k).take (min k (m-k))++(Ky m k).drop (k+min k (m-k))).take m=Ky m (k+min k (m-k)):=by
   rw[hcp,List.take_of_length_le (by rw[Qr m _ qn];exact Nat.le_refl _)]
  exact Eb (k+min k (m-k)) [(30,31)] qn qn ⟨⟨E,E,E,E,Y⟩,⟨.inl (congrArg (Ob.row 1 Ab) hfin.symm),E,Y⟩,E,E⟩
 ·have hkm:k=m:=by have:=of_decide_eq_false h1;rw[hl]at this;omega
  subst hkm
  rw[Ara]
  refine oO ?_
  refine Ap 30 E ?_
  exact dN
def Id (t:List EntryM):SV:=.sl 3 Am t
def I8 (l:List QueuedM):SV:=.sl 7 Ay l
def Qn (n:Net) (k:Nat) (now inj:Int) (d:Nat→Int):List SV :=
 [.sl 5 Bn n.devices,.sl 7 A7 n.ports,.sl 3 Cp n.links,.sl 6 Au n.domains,.sl 4 Bk n.statics,.sl 4 B1 n.floods,.sl 5 C3 n.vrfs,.sl 5 Cr n.irbs,.ptr k 0,.osl 2,.osl 3,.val (.int .i64 now),.val (.int .i64 inj),
 .val (.int .i64 (d 0)),.val (.int .i64 (d 1)),.val (.int .i64 (d 2)),.val (.int .i64 (d 3)),.val (.int .i64 (d 4)),.val (.int .i64 (d 5)),.val (.int .i64 (d 6)),.val (.int .i64 (d 7)),.val (.int .i64 (d 8)),.val (.int .i64 (d 9)),.val (.int .i64 (d 10)),.val (.int .i64 (d 11)),.val (.int .i64 (d 12)),.val (.int .i64 (d 13)),.val (.int .i64 (d 14)),.val (.int .i64 (d 15)),.val (.int .i64 (d 16)),.val (.int .i64 (d 17)),.val (.int .i64 (d 18)),.val (.int .i64 (d 19)),.val (.int .i64 (d 20)),.val (.int .i64 (d 21)),.val (.int .i64 (d 22)),.val (.int .i64 (d 23)),.val (.int .i64 (d 24)),.val (.int .i64 (d 25)),.val (.int .i64 (d 26)),.val (.int .i64 (d 27)),.val (.int .i64 (d 28)),.val (.int .i64 (d 29)),.val (.int .i64 (d 30)),.val (.int .i64 (d 31)),.val (.int .i64 (d 32)),.val (.int .i64 (d 33)),.val (.int .i64 (d 34)),.val (.int .i64 (d 35)),.val (.int .i64 (d 36)),.val (.int .i64 (d 37)),.val (.int .i64 (d 38)),.val (.int .i64 (d 39)),.val (.int .i64 (d 40)),.val (.int .i64 (d 41)),.val (.int .i64 (d 42)),.val (.int .i64 (d 43)),.val (.int .i64 (d 44)),.val (.int .i64 (d 45)),.val (.int .i64 (d 46)),.val (.int .i64 (d 47)),.val (.int .i64 (d 48)),.val (.int .i64 (d 49)),.val (.int .i64 (d 50)),.val (.int .i64 (d 51)),.val (.int .i64 (d 52)),.val (.int .i64 (d 53)),.val (.int .i64 (d 54)),.val (.int .i64 (d 55)),.val (.int .i64 (d 56)),.val (.int .i64 (d 57)),.val (.int .i64 (d 58)),.val (.int .i64 (d 59)),.val (.int .i64 (d 60)),.val (.int .i64 (d 61)),.val (.int .i64 (d 62)),.val (.int .i64 (d 63))]
def onceL (up:List Bool) (done:Int) (fw:List Bool):List SV:=[.sl 1 Ab up,.val (.int .u32 done),.val (.int .i32 0),.val (.int .u32 0),.sl 1 Ab fw]
def Jv (n:Net) (up:List Bool) (d:Bool):List SV:=onceL up (if d then 1 else 0) (if d then I3 n up else [])
def Dk (n:Net) (m:MacM) (d:Bool):Obs:=[(0,.box (Qn n 1 m.now m.injected m.drops)),(1,.box (Jv n m.up d)),(2,.row 1 Id m.tables),(3,.row 1 I8 m.queues)]
theorem getI_map (f:Nat→SV):∀ (k a n:Nat),k<n→Eo ((List.range' a n).map f) k=some (f (a+k))
 | 0,a,n+1,_=>rfl
 | k+1,a,n+1,h=>by
  show Eo ((List.range' (a+1) n).map f) k=_
  rw[getI_map f k (a+1) n qn]
  congr 2;omega
theorem Aem (f:Nat→SV) (x:SV):∀ (k a n:Nat),((List.range' a n).map f).set k x=(List.range' a n).map (fun i=>if i=a+k then x else f i)
 | _,_,0=>rfl
 | 0,a,n+1=>by
  show x::(List.range' (a+1) n).map f=(if a=a+0 then x else f a)::(List.range' (a+1) n).map _
  rw[if_pos qn]
  congr 1
  apply List.map_congr_left
  intro i hi
  have:=(List.mem_range'_1.1 hi).1
  rw[if_neg qn]
 | k+1,a,n+1=>by
  show f a::((List.range' (a+1) n).map f).set k x=(if a=a+(k+1) then x else f a)::(List.range' (a+1) n).map _
  rw[if_neg qn,Aem f x k (a+1) n]
  congr 1
  apply List.map_congr_left
  intro i _
  rw[show a+1+k=a+(k+1) by omega]
theorem Uh (n:Net) (k:Nat) (now inj:Int) (d:Nat→Int):Qn n k now inj d =
  .sl 5 Bn n.devices::.sl 7 A7 n.ports::.sl 3 Cp n.links::.sl 6 Au n.domains::.sl 4 Bk n.statics::.sl 4 B1 n.floods::.sl 5 C3 n.vrfs::.sl 5 Cr n.irbs::.ptr k 0::.osl 2::.osl 3::.val (.int .i64 now)::.val (.int .i64 inj) ::
   (List.range' 0 64).map (fun i=>.val (.int .i64 (d i))):=rfl
theorem Aq1 (n:Net) (k:Nat) (now inj:Int) (d:Nat→Int) (e:Nat) (he:e<64):Eo (Qn n k now inj d) (13+e)=some (.val (.int .i64 (d e))):=by
 rw[Uh,Nat.add_comm]
 show Eo ((List.range' 0 64).map (fun i=>SV.val (.int .i64 (d i)))) e=_
 rw[getI_map _ e 0 64 he,Nat.zero_add]
theorem Aq0 (n:Net) (k:Nat) (now inj:Int) (d:Nat→Int) (e:Nat) (v:Int):(Qn n k now inj d).set (13+e) (.val (.int .i64 v))=Qn n k now inj (fun i=>if i=e then v else d i):=by
 rw[Uh,Uh,Nat.add_comm]
 have h:=Aem (fun i=>SV.val (.int .i64 (d i))) (.val (.int .i64 v)) e 0 64
 have h2:(fun i=>if i=0+e then SV.val (.int .i64 v) else SV.val (.int .i64 (d i)))=(fun i=>SV.val (.int .i64 (if i=e then v else d i))):=by
  funext i
  rw[Nat.zero_add]
  split<;>rfl
 rw[h2]at h
 rw[← h]
 rfl
theorem add64 (a:Addr) (x y:Int) (w:World) (hc:w.cell? a=some (.int .i64 x)) (hz:w.frozen? a=false):(callFunc 307 #[.pointer (some a),.int .i64 y]).run Tryz.prog w=.ok (.value (.int .i64 (IntKind.i64.wrap (x+y)))) (w.setCell a (.int .i64 (IntKind.i64.wrap (x+y)))) :=
 run_call_add Tryz.func307 qq qq qq .i64 qq hc hz rfl
theorem An2 (n:Net) (k:Nat) (m:MacM) (e:Int):Qn n k m.now m.injected (Bf m e).drops=(Qn n k m.now m.injected m.drops).set (13+e.toNat) (.val (.int .i64 (m.drops e.toNat+1))):=by
 rw[Aq0]
 congr 1
 funext i
 show (if i=e.toNat then m.drops i+1 else m.drops i)=_
 split
 ·rename_i h;rw[h]
 ·rfl
theorem Alw {x:Int} (h:0≤x∧x≤1000000000000):IntKind.i64.wrap (x+1)=x+1:=by
 rw[IntKind.wrap_i64];omega
theorem Amc (n:Net) (m:MacM) (d:Bool) (e:Int) (h0:0≤e) (h1:e<64) (hb:IntKind.i64.wrap (m.drops e.toNat+1)=m.drops e.toNat+1) :
  Sy.Spec Tryz.prog 240 [.ptr 0 (13+e.toNat),Aa 1] (Dk n m d) (Aa (m.drops e.toNat+1)) (Dk n (Bf m e) d):=cT F240 Tryz.ntmps240 fun F hF=>by
 have hg:=Aq1 n 1 m.now m.injected m.drops e.toNat qn
 have hs:=An2 n 1 m e
 have hlt:=Lt hg
 ((conv=>whnf);repeat((first|refine aF ?_|refine aT ?_);(first|refine rG Γ hm ?_|refine rD Γ hm qq ?_);conv=>whnf))
 refine Ae (Afh add64 E E E E hg hb) E E ?_
 ((first|refine rG Γ hm ?_|refine rD Γ hm qq ?_);(conv=>whnf);repeat((first|refine aF ?_|refine aT ?_);(first|refine rG Γ hm ?_|refine rD Γ hm qq ?_);conv=>whnf))
 exact done E (.cons .tmp .nil) [] (Dk n (Bf m e) d) (fun _ h=>h) E E ⟨Y,⟨.inl (congrArg Ob.box hs),E,.inl E,E,.inl E,E,.inl E,E,Y⟩,E,E⟩
theorem Aiw (n:Net) (m:MacM) (d:Bool) (e:Int) (h0:0≤e) (h1:e<64) (hb:0≤m.drops e.toNat∧m.drops e.toNat≤1000000000000) :
  Sy.Spec Tryz.prog 176 [.ptr 0 0,Aa e] (Dk n m d) (.tup []) (Dk n (Bf m e) d):=cT F176 Tryz.ntmps176 fun F hF=>by
 ((conv=>whnf);repeat((first|refine aF ?_|refine aT ?_);(first|refine rG Γ hm ?_|refine rD Γ hm qq ?_);conv=>whnf))
 refine⟨h0,by omega,?_⟩
 ((first|refine rG Γ hm ?_|refine rD Γ hm qq ?_);(conv=>whnf);repeat((first|refine aF ?_|refine aT ?_);(first|refine rG Γ hm ?_|refine rD Γ hm qq ?_);conv=>whnf))
 refine Ae (Ah [] E F240 (Amc n m d e h0 h1 (Alw hb)) (congrArg (fun z=>[SV.ptr 0 z,Aa 1]) (show 13+e.toNat=0+13+e.toNat * 1 by omega)) ⟨E,E,E,E,Y⟩ E ⟨.inl E,.inl E,.inl E,.inl E,Y⟩) E E ?_
 ((first|refine rG Γ hm ?_|refine rD Γ hm qq ?_);(conv=>whnf);repeat((first|refine aF ?_|refine aT ?_);(first|refine rG Γ hm ?_|refine rD Γ hm qq ?_);conv=>whnf))
 exact Bg E .nil [] (Dk n (Bf m e) d) (fun _ h=>h) E E ⟨Y,⟨.inl E,E,.inl E,E,.inl E,E,.inl E,E,Y⟩,E,E⟩
theorem Aml (n:Net) (m:MacM) (d:Bool) (dom:Int) :
  Sy.Spec Tryz.prog 119 [.ptr 0 0,Aa dom] (Dk n m d) (Ab (Ak dom m.queues.length)) (Dk n m d):=cT F119 Tryz.ntmps119 fun F hF=>by
 have hres:Ak dom m.queues.length=(decide (0≤dom) && decide (dom<m.queues.length)):=rfl
 generalize Ak dom m.queues.length=res at *
 ((conv=>whnf);repeat((first|refine aF ?_|refine aT ?_);(first|refine rG Γ hm ?_|refine rD Γ hm qq ?_);conv=>whnf))
 refine⟨fun h=>?_,fun h=>?_⟩
 ·((first|refine rG Γ hm ?_|refine rD Γ hm qq ?_);(conv=>whnf);repeat((first|refine aF ?_|refine aT ?_);(first|refine rG Γ hm ?_|refine rD Γ hm qq ?_);conv=>whnf))
  (repeat (first | (refine⟨fun h=>False.elim (by first | (exact absurd h qy) | (simp at h;done) | (simp at h;omega)),fun _=>?_⟩;((first|refine rG Γ hm ?_|refine rD Γ hm qq ?_);(conv=>whnf);repeat((first|refine aF ?_|refine aT ?_);(first|refine rG Γ hm ?_|refine rD Γ hm qq ?_);conv=>whnf))) | (refine⟨fun _=>?_,fun h=>False.elim (by first | (exact absurd h qy) | (simp at h;done) | (simp at h;omega))⟩;((first|refine rG Γ hm ?_|refine rD Γ hm qq ?_);(conv=>whnf);repeat((first|refine aF ?_|refine aT ?_);(first|refine rG Γ hm ?_|refine rD Γ hm qq ?_);conv=>whnf)))))
  refine done E (.cons .tmp .nil) [] (Dk n m d) (fun _ h=>h) ?_ E ⟨Y,⟨.inl E,E,.inl E,E,.inl E,E,.inl E,E,Y⟩,E,E⟩
  rw[hres,h]
  rfl
 ·((first|refine rG Γ hm ?_|refine rD Γ hm qq ?_);(conv=>whnf);repeat((first|refine aF ?_|refine aT ?_);(first|refine rG Γ hm ?_|refine rD Γ hm qq ?_);conv=>whnf))
  (repeat (first | (refine⟨fun h=>False.elim (by first | (exact absurd h qy) | (simp at h;done) | (simp at h;omega)),fun _=>?_⟩;((first|refine rG Γ hm ?_|refine rD Γ hm qq ?_);(conv=>whnf);repeat((first|refine aF ?_|refine aT ?_);(first|refine rG Γ hm ?_|refine rD Γ hm qq ?_);conv=>whnf))) | (refine⟨fun _=>?_,fun h=>False.elim (by first | (exact absurd h qy) | (simp at h;done) | (simp at h;omega))⟩;((first|refine rG Γ hm ?_|refine rD Γ hm qq ?_);(conv=>whnf);repeat((first|refine aF ?_|refine aT ?_);(first|refine rG Γ hm ?_|refine rD Γ hm qq ?_);conv=>whnf)))))
  refine done E (.cons .tmp .nil) [] (Dk n m d) (fun _ h=>h) ?_ E ⟨Y,⟨.inl E,E,.inl E,E,.inl E,E,.inl E,E,Y⟩,E,E⟩
  rw[hres,h]
  rfl
theorem Als (f:FrameM) (hb:f.body.length<100000):Sy.Spec Tryz.prog 247 [Bh f] [] (Bh f) []:=cT F247 Tryz.ntmps247 fun F hF=>by
 conv=>whnf
 refine Ae (Bm Γ.toTy (d:=7) (n:=f.body.length) Af 0 E E E E E E E E qn qn E E E) E E ?_
 refine oO ?_
 refine Ae (Xt Γ.toTy (l:=List.replicate f.body.length 0) (m:=f.body) E E E E E .sl) E E ?_
 refine oO ?_
 refine Ap 7 E ?_
 refine oO ?_
 refine Ao E (.cons (.cell E E E E) .nil) ?_ E
 show SV.agg [_,_,_,.sl 1 Af f.body]=SV.agg [_,_,_,.sl 1 Af (f.body.take (List.replicate f.body.length (0:UInt8)).length++(List.replicate f.body.length (0:UInt8)).drop f.body.length)]
 have e:f.body.take (List.replicate f.body.length (0:UInt8)).length++(List.replicate f.body.length (0:UInt8)).drop f.body.length=f.body:=by
  rw[List.length_replicate,List.take_length,List.drop_eq_nil_of_le qz,List.append_nil]
 rw[e]
 rfl
theorem Afw (q:QueuedM) (hb:q.frame.body.length<100000):Sy.Spec Tryz.prog 180 [Ay q] [] (Ay q) []:=cT F180 Tryz.ntmps180 fun F hF=>by
 have qc:=Als q.frame hb
 conv=>whnf
 refine c0 qc F247 ?_
 refine oO ?_
 exact dN
def Su (l:List QueuedM):Prop:=∀ q∈l,q.frame.body.length<100000
theorem Auw (l:List QueuedM) (hl:l.length<1000000) (hb:Su l):Sy.Spec Tryz.prog 179 [.sl 7 Ay l] [] (.osl 0) [(0,.row 7 Ay l)]:=cT F179 Tryz.ntmps179 fun F hF=>by
 conv=>whnf
 refine Bo 3 1000 7 Ay E E ?_
 refine Aq l.length (fun j=>[(3,.osl 1000),(6,.sl 7 Ay l),(7,Aa l.length),(8,Aa j)]) (fun j=>[(1000,.row 7 Ay (l.take j))]) [] ⟨⟨E,E,E,E,E,E,E,E,Y⟩,⟨.inl E,E,Y⟩,E,E⟩ ?_
 intro j hj
 refine oO ?_
 refine⟨fun h=>?_,fun h=>?_⟩
 ·have hlt:j<l.length:=qA h
  have hj0:((j:Nat):Int).toNat<l.length:=by simpa using hlt
  obtain ⟨q,hq⟩:∃ q,l[j]=q:=⟨_,rfl⟩
  have e1:l[((j:Nat):Int).toNat]'hj0=q:=hq
  have hs:l.take (j+1)=l.take j++[q]:=by rw[List.take_succ_eq_append_getElem hlt,hq]
  have hqb:=hb q (by rw[← hq];exact List.getElem_mem hlt)
  have hll:(l.take j).length=j:=by rw[List.length_take];omega
  clear h
  refine oO ?_
  refine⟨E,by omega,hj0,?_⟩
  rw[e1]
  conv=>whnf
  refine c0 (Afw q hqb) F180 ?_
  refine oO ?_
  refine Ae (Ad Γ.toTy 16 E E E E E (.row E) (.lit (e:=Ay) (l:=[q]) E E) qz (by rw[hll];simp;omega) (by rw[hll];simp;omega)) E E ?_
  refine oO ?_
  refine iW ?_
  exact An [(1000,16)] hlt ⟨⟨E,E,E,E,E,E,E,E,Y⟩,⟨.inl (congrArg (Ob.row 7 Ay) hs),E,Y⟩,E,E⟩
 ·have hjj:j=l.length:=qB h
  subst hjj
  rw[List.take_length]
  refine oO ?_
  exact done E (.cons .tmp .nil) [(0,1000)] [(0,.row 7 Ay l)] (fun _ h=>h) E E ⟨Y,⟨.inl E,E,Y⟩,E,E⟩
theorem Ahi (l:List QueuedM) (q:QueuedM) (hl:l.length<1000000) (hb:Su l) (hqb:q.frame.body.length<100000) :
  Sy.Spec Tryz.prog 228 [.sl 7 Ay l,Ay q] [] (.tup [.sl 7 Ay (pushT l q).1,Ab (pushT l q).2]) []:=cT F228 Tryz.ntmps228 fun F hF=>by
 have hres:=pushT.eq_1 l q
 generalize pushT l q=res at *
 conv=>whnf
 refine Ae (Ah [(0,55)] E F179 (Auw l hl hb) E Y E ⟨.inr E,Y⟩) E E ?_
 refine oO ?_
 refine⟨fun h=>?_,fun h=>?_⟩
 ·rw[if_pos (qA h)]at hres
  subst hres
  refine oO ?_
  refine Ap 55 E ?_
  exact dN
 ·rw[if_neg (qB h)]at hres
  subst hres
  refine oO ?_
  refine c0 (Afw q hqb) F180 ?_
  refine oO ?_
  refine Ae (Ad Γ.toTy 17 E E E E E (.row E) (.lit (e:=Ay) (l:=[q]) E E) qy (by simp;omega) (by simp;omega)) E E ?_
  refine Ap 17 E ?_
  refine oO ?_
  exact dN
theorem Aj8 (l:List QueuedM) (q:QueuedM) (hl:l.length<1000000) :
  Sy.Spec Tryz.prog 188 [.sl 7 Ay l,Ay q] [] (.tup [.sl 7 Ay (pushT l q).1,Ab (pushT l q).2]) []:=cT F188 Tryz.ntmps188 fun F hF=>by
 have hres:=pushT.eq_1 l q
 generalize pushT l q=res at *
 conv=>whnf
 refine Ae (Ad Γ.toTy 9 E E E E E (.lit (e:=Ay) (l:=[]) E E) .sl qz (by simp;omega) (by simp;omega)) E E ?_
 refine oO ?_
 refine⟨fun h=>?_,fun h=>?_⟩
 ·rw[if_pos (qA h)]at hres
  subst hres
  refine oO ?_
  refine Ap 9 E ?_
  exact dN
 ·rw[if_neg (qB h)]at hres
  subst hres
  refine oO ?_
  refine Ae (Ad Γ.toTy 17 E E E E E (.row E) (.lit (e:=Ay) (l:=[q]) E E) qy (by simp;omega) (by simp;omega)) E E ?_
  refine Ap 17 E ?_
  refine oO ?_
  exact dN
def O5 (l:List QueuedM) (at_:Int) (j:Nat):List QueuedM:=if 0≤at_∧at_<j then (l.take j).eraseIdx at_.toNat else l.take j
theorem Aj1 (l:List QueuedM) (at_:Int) {j:Nat} (h:j<l.length):O5 l at_ (j+1)=if (j:Int)≠at_ then O5 l at_ j++[l[j]] else O5 l at_ j:=by
 have hll:(l.take j).length=j:=by rw[List.length_take];omega
 unfold O5
 rw[List.take_succ_eq_append_getElem h]
 by_cases h1:(j:Int)=at_
 ·rw[if_neg (show ¬ (j:Int)≠at_ from fun h=>h h1),if_pos (show 0≤at_∧at_<((j+1:Nat):Int) by omega),if_neg (show ¬ (0≤at_∧at_<(j:Int)) by omega),show at_.toNat=j by omega,List.eraseIdx_append_of_length_le qn,hll,Nat.sub_self]
  simp
 ·rw[if_pos (show (j:Int)≠at_ from h1)]
  by_cases h2:0≤at_∧at_<j
  ·rw[if_pos h2,if_pos (show 0≤at_∧at_<((j+1:Nat):Int) by omega),List.eraseIdx_append_of_lt_length qn]
  ·rw[if_neg h2,if_neg (show ¬ (0≤at_∧at_<((j+1:Nat):Int)) by omega)]
theorem Aeq (l:List QueuedM) (at_:Int) (j:Nat):(O5 l at_ j).length≤l.length:=by
 unfold O5
 split
 ·exact Nat.le_trans (List.length_eraseIdx_le _ _) (by rw[List.length_take];omega)
 ·rw[List.length_take];omega
theorem Aj7 (l:List QueuedM) (at_:Int) (hl:l.length<1000000) :
  Sy.Spec Tryz.prog 191 [.sl 7 Ay l,Aa at_] [] (.tup [Ay (takeT l at_).1,.sl 7 Ay (takeT l at_).2.1,Ab (takeT l at_).2.2]) []:=cT F191 Tryz.ntmps191 fun F hF=>by
 have hres:=takeT.eq_1 l at_
 generalize takeT l at_=res at *
 conv=>whnf
 refine Bo 7 1000 7 Ay E E ?_
 refine Aq l.length (fun j=>[(0,.sl 7 Ay l),(1,Aa at_),(4,.ptr 4 0),(7,.osl 1000),(8,Aa j)]) (fun j=>[(4,.box [Aa 0,Aa 0,Aa 0,Aw 0,Aw 0,Aa 0,.val (.slice none 0 0)]),(1000,.row 7 Ay (O5 l at_ j))]) [(4,4),(1000,1000)] ⟨⟨E,E,E,E,E,E,E,E,E,E,Y⟩,⟨.inl E,E,.inl (congrArg (Ob.row 7 Ay) (by simp[O5])),E,Y⟩,E,E⟩ ?_
 intro j hj
 have hrl:=Aeq l at_ j
 refine oO ?_
 refine⟨fun h=>?_,fun h=>?_⟩
 ·have hlt:j<l.length:=qA h
  have hj0:((j:Nat):Int).toNat<l.length:=by simpa using hlt
  have hs:=Aj1 l at_ hlt
  obtain ⟨q,hq⟩:∃ q,l[j]=q:=⟨_,rfl⟩
  have e1:l[((j:Nat):Int).toNat]'hj0=q:=hq
  rw[hq]at hs
  clear h
  refine oO ?_
  refine⟨fun h=>?_,fun h=>?_⟩
  ·rw[if_pos (by simpa using h)]at hs
   refine oO ?_
   refine⟨E,by omega,hj0,?_⟩
   rw[e1]
   conv=>whnf
   refine Ae (Ad Γ.toTy 24 E E E E E (.row E) (.lit (e:=Ay) (l:=[q]) E E) qz (by simp;omega) (by simp;omega)) E E ?_
   refine oO ?_
   refine iW ?_
   exact An [(4,4),(1000,24)] hlt ⟨⟨E,E,E,E,E,E,E,E,E,E,Y⟩,⟨.inl E,E,.inl (congrArg (Ob.row 7 Ay) hs),E,Y⟩,E,E⟩
  ·rw[if_neg (by simpa using h)]at hs
   refine oO ?_
   refine iW ?_
   exact An [(4,4),(1000,1000)] hlt ⟨⟨E,E,E,E,E,E,E,E,E,E,Y⟩,⟨.inl E,E,.inl (congrArg (Ob.row 7 Ay) hs),E,Y⟩,E,E⟩
 have hjj:j=l.length:=qB h
 subst hjj
 clear h
 refine oO ?_
 have bad:at_<0∨(l.length:Int)≤at_→O5 l at_ l.length=l∧res=(noQ,l,false):=fun h=>by
  rw[if_pos h]at hres
  refine⟨?_,hres⟩
  rw[O5,if_neg qn,List.take_length]
 refine⟨fun h=>?_,fun h=>?_⟩
 ·obtain ⟨b1,b2⟩:=bad (.inl (of_decide_eq_true h))
  subst b2
  rw[b1]
  refine oT ?_
  refine Ap 1000 E ?_
  refine Ar 4 [Aa 0,Aa 0,Aa 0,Aw 0,Aw 0,Aa 0,.sl 1 Af []] E (.cons (.refl _) (.cons (.refl _) (.cons (.refl _) (.cons (.refl _) (.cons (.refl _) (.cons (.refl _) (.cons .nil .nil))))))) ?_
  exact dN
 have h0:0≤at_:=qB h
 clear h
 refine oO ?_
 refine⟨fun h=>?_,fun h=>?_⟩
 ·obtain ⟨b1,b2⟩:=bad (.inr (qA h))
  subst b2
  rw[b1]
  refine oO ?_
  refine Ap 1000 E ?_
  refine Ar 4 [Aa 0,Aa 0,Aa 0,Aw 0,Aw 0,Aa 0,.sl 1 Af []] E (.cons (.refl _) (.cons (.refl _) (.cons (.refl _) (.cons (.refl _) (.cons (.refl _) (.cons (.refl _) (.cons .nil .nil))))))) ?_
  exact dN
 have h1:at_<l.length:=qB h
 clear h bad
 have hk:at_.toNat<l.length:=by omega
 rw[if_neg qn,List.getElem?_eq_getElem hk,Option.getD_some]at hres
 obtain ⟨q,hq⟩:∃ q,l[at_.toNat]'hk=q:=⟨_,rfl⟩
 rw[hq]at hres
 have hru:O5 l at_ l.length=l.eraseIdx at_.toNat:=by rw[O5,if_pos ⟨h0,h1⟩,List.take_length]
 rw[hru]
 subst hres
 refine oO ?_
 refine⟨E,h0,hk,?_⟩
 rw[hq]
 conv=>whnf
 refine Ap 1000 E ?_
 exact dN
theorem Aav (l:List QueuedM) (at_:Int) (hl:l.length<1000000) (hb:Su l) :
  Sy.Spec Tryz.prog 120 [.sl 7 Ay l,Aa at_] [] (.tup [Ay (takeT l at_).1,.sl 7 Ay (takeT l at_).2.1,Ab (takeT l at_).2.2]) []:=cT F120 Tryz.ntmps120 fun F hF=>by
 have hres:=takeT.eq_1 l at_
 generalize takeT l at_=res at *
 conv=>whnf
 refine⟨fun h=>?_,fun h=>?_⟩
 ·rw[if_pos (.inl (of_decide_eq_true h))]at hres
  subst hres
  refine oT ?_
  refine Ae (Ah [(0,55)] E F179 (Auw l hl hb) E Y E ⟨.inr E,Y⟩) E E ?_
  refine Ap 55 E ?_
  refine oO ?_
  refine Ar 4 [Aa 0,Aa 0,Aa 0,Aw 0,Aw 0,Aa 0,.sl 1 Af []] E (.cons (.refl _) (.cons (.refl _) (.cons (.refl _) (.cons (.refl _) (.cons (.refl _) (.cons (.refl _) (.cons .nil .nil))))))) ?_
  exact dN
 have h0:0≤at_:=qB h
 clear h
 refine oO ?_
 refine⟨fun h=>?_,fun h=>?_⟩
 ·rw[if_pos (.inr (of_decide_eq_true h))]at hres
  subst hres
  refine oO ?_
  refine Ae (Ah [(0,55)] E F179 (Auw l hl hb) E Y E ⟨.inr E,Y⟩) E E ?_
  refine Ap 55 E ?_
  refine oO ?_
  refine Ar 4 [Aa 0,Aa 0,Aa 0,Aw 0,Aw 0,Aa 0,.sl 1 Af []] E (.cons (.refl _) (.cons (.refl _) (.cons (.refl _) (.cons (.refl _) (.cons (.refl _) (.cons (.refl _) (.cons .nil .nil))))))) ?_
  exact dN
 have h1:at_<l.length:=qB h
 clear h
 have hk:at_.toNat<l.length:=by omega
 have hne:l≠[]:=fun e=>by rw[e]at hk;simp at hk
 have hkk:((at_.toNat:Nat):Int)=at_:=by omega
 rw[if_neg qn,List.getElem?_eq_getElem hk,Option.getD_some]at hres
 obtain ⟨q,hq⟩:∃ q,l[at_.toNat]'hk=q:=⟨_,rfl⟩
 rw[hq]at hres
 have hqb:=hb q (by rw[← hq];exact List.getElem_mem hk)
 refine G_dat 0 90 E hne ?_
 intro B off cap hcap
 refine run Γ hm 3 ?_
 conv=>whnf
 refine Bb (Yv 90 (.inl E) E E) qq E ?_
 refine oD ?_
 refine⟨E,h0,hk,?_⟩
 rw[hq]
 conv=>whnf
 refine cD (Afw q hqb) F180 ?_
 refine oD ?_
 refine Bb (Acr (hi:=at_.toNat) Γ.toTy E E E E (congrArg (fun z=>SV.val (.int .i64 z)) hkk.symm) (congrArg (fun z=>SV.val (.int .i64 z)) hkk.symm) qn) qq E ?_
 refine Bb (Yv 90 (.inl E) E E) qq E ?_
 refine oD ?_
 refine iW ?_
 refine Bb (Bc (lo:=at_.toNat+1) (hi:=l.length) Γ.toTy E E E E (.inr ⟨_,_,E,congrArg (fun z=>SV.val (.int .i64 z)) qn⟩) (.inl ⟨E,E⟩) qn (Nat.le_refl _)) qq E ?_
 have hll:((l.take l.length).drop (at_.toNat+1)).length=l.length-(at_.toNat+1):=by rw[List.length_drop,List.length_take];omega
 refine Bb (Acy Γ.toTy 90 E E E E E E (Nat.le_of_lt hk) E (by rw[hll];omega) (by rw[hll];omega)) qq E ?_
 have he:l.take at_.toNat++(l.take l.length).drop (at_.toNat+1)=l.eraseIdx at_.toNat:=by rw[List.take_length,List.eraseIdx_eq_take_drop_succ]
 have hel:(l.take at_.toNat++(l.take l.length).drop (at_.toNat+1)).length<1000000:=by rw[he,List.length_eraseIdx];split<;>omega
 have heb:Su (l.take at_.toNat++(l.take l.length).drop (at_.toNat+1)):=by rw[he];exact fun x hx=>hb x (List.mem_of_mem_eraseIdx hx)
 refine oD ?_
 refine Bb (Ah [(0,55)] E F179 (Auw _ hel heb) E Y E ⟨.inr E,Y⟩) qq E ?_
 refine oD ?_
 refine kW ?_
 refine Ap 55 E ?_
 refine Ao E (.cons (.cell E E E E) (.cons .tmp (.cons .tmp .nil))) ?_ E
 subst hres
 show SV.tup [_,.sl 7 Ay (l.eraseIdx at_.toNat),_]=SV.tup [_,.sl 7 Ay (l.take at_.toNat++(l.take l.length).drop (at_.toNat+1)),_]
 rw[he]
 rfl
def He {α:Type} (q:α→Bool) (l:List α):Nat→Nat
 | 0=>0
 | j+1=>match l[j]? with
  | some x=>if q x=true then He q l j+1 else He q l j
  | none=>He q l j
def dfC {α:Type} (q:α→Bool) (l:List α):Nat→List α
 | 0=>l
 | j+1=>match l[j]? with
  | some x=>if q x=true then (dfC q l j).set (He q l j) x else dfC q l j
  | none=>dfC q l j
theorem Zp {α:Type} (q:α→Bool) (l:List α) (j:Nat):He q l j≤j:=by
 induction j with
 | zero=>exact Nat.le_refl _
 | succ j ih =>
  simp only[He]
  split
  ·split<;>omega
  ·omega
theorem U2 {α:Type} (q:α→Bool) (l:List α) (j:Nat):(dfC q l j).length=l.length:=by
 induction j with
 | zero=>rfl
 | succ j ih =>
  simp only[dfC]
  split
  ·split
   ·rw[List.length_set];exact ih
   ·exact ih
  ·exact ih
theorem Anh {α:Type} (q:α→Bool) (l:List α) (j k:Nat) (h:j≤k):(dfC q l j)[k]? = l[k]?:=by
 induction j with
 | zero=>rfl
 | succ j ih =>
  simp only[dfC]
  split
  ·split
   ·rw[List.getElem?_set_ne (by have:=Zp q l j;omega)];exact ih qn
   ·exact ih qn
  ·exact ih qn
theorem Aiy {α:Type} (q:α→Bool) (l:List α) (j:Nat) (h:j≤l.length):(dfC q l j).take (He q l j)=(l.take j).filter q:=by
 induction j with
 | zero=>rfl
 | succ j ih =>
  have hj:j<l.length:=by omega
  have ih:=ih qn
  have hc:=Zp q l j
  simp only[dfC,He,List.getElem?_eq_getElem hj]
  rw[List.take_add_one,List.getElem?_eq_getElem hj,List.filter_append]
  by_cases hq:q l[j]=true
  ·rw[if_pos hq,if_pos hq]
   have hlt:He q l j<((dfC q l j).set (He q l j) l[j]).length:=by rw[List.length_set,U2];omega
   rw[List.take_add_one,List.getElem?_eq_getElem hlt,List.getElem_set_self]
   rw[List.take_set_of_le (Nat.le_refl _),ih]
   simp[hq]
  ·rw[if_neg hq,if_neg hq,ih]
   simp[hq]
theorem Ad1 {α:Type} (q:α→Bool) (l:List α) (i:Nat) (hi:i≤l.length) (h:∀ k (hk:k<l.length),k<i→q l[k]=true):dfC q l i=l∧He q l i=i:=by
 induction i with
 | zero=>exact⟨rfl,rfl⟩
 | succ i ih =>
  obtain ⟨h1,h2⟩:=ih qn (fun k hk hki=>h k hk qn)
  have hil:i<l.length:=by omega
  simp only[dfC,He,List.getElem?_eq_getElem hil]
  rw[if_pos (h i hil qn),if_pos (h i hil qn),h1,h2]
  exact⟨List.set_getElem_self hil,E⟩
theorem Ia {α:Type} (p:α→Bool) (l:List α):(Cm p l=-1∧∀ x∈l,p x=false)∨∃ (i:Nat) (hi:i<l.length),Cm p l=i∧p l[i]=true∧∀ k (hk:k<l.length),k<i→p l[k]=false:=by
 unfold Cm
 cases h:l.findIdx? p with
 | none=>exact .inl ⟨rfl,by simpa using h⟩
 | some i =>
  rw[List.findIdx?_eq_some_iff_getElem]at h
  obtain ⟨hi,h1,h2⟩:=h
  exact .inr ⟨i,hi,E,h1,fun k hk hki=>by simpa using h2 k hki⟩
theorem Se (l:List EntryM) (hl:l.length<2147483648):Sy.Spec Tryz.prog 243 [.sl 3 Am l] [] (.osl 0) [(0,.row 3 Am l)]:=cT F243 Tryz.ntmps243 fun F hF=>by
 conv=>whnf
 refine E3 E (.inl E) E E E .sl E E ?_
 intro b hb
 cases b
 ·refine oF ?_
  refine Ae (Ad Γ.toTy 7 E E E E E (.lit (e:=Am) (l:=[]) E E) .sl qz (by simp;omega) (by simp;omega)) E E ?_
  refine oO ?_
  exact done E (.cons .tmp .nil) [(0,7)] [(0,.row 3 Am l)] (fun _ h=>h) E E ⟨Y,⟨.inl E,E,Y⟩,E,E⟩
 ·have h0:l=[]:=List.eq_nil_of_length_eq_zero (hb rfl)
  subst h0
  refine oT ?_
  refine Bo 2 1000 3 Am E E ?_
  exact done E (.cons .tmp .nil) [(0,1000)] [(0,.row 3 Am [])] (fun _ h=>h) E E ⟨Y,⟨.inl E,E,Y⟩,E,E⟩
theorem Ms (l:List EntryM) (p:EntryM→Bool) (f:FuncId) (first cap:List SV) (hc:(SV.clo (.func f) first cap).inn []=true) (hf:∀ x∈l,I7 Tryz.prog f (first++[Am x]++cap) (Ab (p x))) (hl:Al l) :
  Sy.Spec Tryz.prog 310 [.sl 3 Am l,.clo (.func f) first cap] [] (Aa (Cm p l)) []:=cT F310 Tryz.ntmps310 fun F hF=>by
 unfold Al at hl
 have hin:∀ x:EntryM,Cj [] (first++[Am x]++cap)=true:=fun x=>Dd hc rfl
 conv=>whnf
 refine Av l.length (fun j=>Di (fun _ x=>!(p x)) l j) (fun j=>[(0,.sl 3 Am l),(1,.clo (.func f) first cap),(7,Aa l.length),(8,Aa j)]) (fun _=>[]) [] (A2 _ _) ⟨⟨E,E,Bj _,hc,E,E,E,E,Y⟩,Y,E,E⟩ ?_
 intro j hj hI
 refine oO ?_
 refine⟨fun h=>?_,fun h=>?_⟩
 ·have h:=of_decide_eq_true h
  have hj2:j<l.length:=by omega
  refine oO ?_
  refine⟨E,by omega,by omega,?_⟩
  conv=>whnf
  refine Ex (hf l[j] (List.getElem_mem hj2)) E E E (by simp only[hin];rfl) E E ?_
  refine oO ?_
  refine⟨fun h2=>?_,fun h2=>?_⟩
  ·refine oO ?_
   refine Ao E (.cons .tmp .nil) (congrArg Aa ?_) E
   exact Ct hj2 (fun i hi hij=>by simpa using hI i hi hij) h2
  ·refine oO ?_
   refine iW ?_
   exact As [] hI hj2 (Ax hI hj2 (by simp[h2])) ⟨⟨E,E,Bj _,hc,E,E,E,E,Y⟩,Y,E,E⟩
 ·have h:=of_decide_eq_false h
  refine oO ?_
  refine Ao E (.cons .tmp .nil) (congrArg Aa ?_) E
  exact C6 (fun i hi=>by simpa using hI i hi qn)
theorem Wl (l:List EntryM) (p:EntryM→Bool) (f:FuncId) (first cap:List SV) (hc:(SV.clo (.func f) first cap).inn []=true) (hc0:(SV.clo (.func f) first cap).inn [0]=true) (hf:∀ x∈l,I7 Tryz.prog f (first++[Am x]++cap) (Ab (p x))) (hl:Al l) :
  Sy.Spec Tryz.prog 245 [.osl 0,.clo (.func f) first cap] [(0,.row 3 Am l)] (.osl 1) [(0,.non),(1,.row 3 Am (l.filter fun x=>!(p x)))]:=cT F245 Tryz.ntmps245 fun F hF=>by
 have qi:=Ms l p f first cap hc hf hl
 unfold Al at hl
 have hin:∀ x:EntryM,Cj [] (first++[Am x]++cap)=true:=fun x=>Dd hc rfl
 conv=>whnf
 refine Ad6 [0] qi F310 E (.cons (.row E E) (.cons (.refl _) .nil)) (by simp only[Cj,hc,Bool.and_true];rfl) E E ?_
 rcases Ia p l with ⟨h1,h2⟩ | ⟨i,hi,h1,h2,h3⟩
 ·rw[h1]
  have e1:(l.filter fun x=>!(p x))=l:=List.filter_eq_self.2 (fun x hx=>by simp[h2 x hx])
  rw[e1]
  refine oT ?_
  refine Ami 0 1000 [0,4] E E qy (by simp;exact⟨E,E⟩) ?_
  exact done E (.cons .tmp .nil) [(0,0),(1,1000)] _ (fun _ h=>h) E E ⟨Y,⟨.inl E,E,.inl E,E,Y⟩,E,E⟩
 obtain ⟨f1,f2⟩:=Ad1 (fun x=>!(p x)) l i qn (fun k hk hki=>by simp[h3 k hk hki])
 have g1:dfC (fun x=>!(p x)) l (i+1+0)=l:=by
  show dfC (fun x=>!(p x)) l (i+1)=l
  simp only[dfC,List.getElem?_eq_getElem hi]
  rw[if_neg (by simp[h2]),f1]
 have g2:He (fun x=>!(p x)) l (i+1+0)=i:=by
  show He (fun x=>!(p x)) l (i+1)=i
  simp only[He,List.getElem?_eq_getElem hi]
  rw[if_neg (by simp[h2]),f2]
 rw[h1]
 refine oF ?_
 refine iW ?_
 refine Aq (l.length-(i+1)) (fun j=>[(0,.osl 0),(1,.clo (.func f) first cap),(5,Aa (He (fun x=>!(p x)) l (i+1+j))),(6,Aa ((i+1+j:Nat)))]) (fun j=>[(0,.row 3 Am (dfC (fun x=>!(p x)) l (i+1+j)))]) []
  ⟨⟨rfl,rfl,Bj _,hc0,congrArg Aa (congrArg Int.ofNat g2),rfl,congrArg (fun z=>SV.val (.int .i64 z)) qn,rfl,trivial⟩,⟨.inl (congrArg (Ob.row 3 Am) g1),rfl,trivial⟩,rfl,rfl⟩ ?_
 intro j hj
 have hcl:=Zp (fun x=>!(p x)) l (i+1+j)
 have hdl:=U2 (fun x=>!(p x)) l (i+1+j)
 have hget:=Anh (fun x=>!(p x)) l (i+1+j) (i+1+j) (Nat.le_refl _)
 have s1:∀ h:i+1+j<l.length,He (fun x=>!(p x)) l (i+1+(j+1))=if (!(p l[i+1+j]))=true then He (fun x=>!(p x)) l (i+1+j)+1 else He (fun x=>!(p x)) l (i+1+j):=fun hlt=>by
  show He (fun x=>!(p x)) l (i+1+j+1)=_
  simp only[He,List.getElem?_eq_getElem hlt]
 have s2:∀ h:i+1+j<l.length,dfC (fun x=>!(p x)) l (i+1+(j+1))=if (!(p l[i+1+j]))=true then (dfC (fun x=>!(p x)) l (i+1+j)).set (He (fun x=>!(p x)) l (i+1+j)) l[i+1+j] else dfC (fun x=>!(p x)) l (i+1+j):=fun hlt=>by
  show dfC (fun x=>!(p x)) l (i+1+j+1)=_
  simp only[dfC,List.getElem?_eq_getElem hlt]
 have htk:=fun h=>Aiy (fun x=>!(p x)) l (i+1+j) h
 obtain ⟨D,hD⟩:∃ D,dfC (fun x=>!(p x)) l (i+1+j)=D:=⟨_,rfl⟩
 obtain ⟨K,hK⟩:∃ K,He (fun x=>!(p x)) l (i+1+j)=K:=⟨_,rfl⟩
 rw[hD]at hdl hget s2 htk ⊢
 rw[hK]at hcl s1 s2 htk ⊢
 refine oO ?_
 refine⟨fun h=>?_,fun h=>?_⟩
 ·have hlt:i+1+j<l.length:=qA h
  have hfx:=hf l[i+1+j] (List.getElem_mem hlt)
  have s1:=s1 hlt
  have s2:=s2 hlt
  rw[List.getElem?_eq_getElem hlt,List.getElem?_eq_getElem qn]at hget
  have hget:=Option.some.inj hget
  obtain ⟨x,hx⟩:∃ x,l[i+1+j]=x:=⟨_,rfl⟩
  rw[hx]at hfx s1 s2 hget
  refine oO ?_
  refine⟨by omega,by simp;omega,?_⟩
  conv=>whnf
  refine⟨E,by omega,?_⟩
  rw[show D[((i+1+j:Nat):Int).toNat]'qn=x from hget]
  conv=>whnf
  refine Ex hfx E E E (by simp only[hin];rfl) E E ?_
  cases hpx:p x
  ·rw[hpx]at s1 s2
   refine oT ?_
   refine⟨by omega,by simp;omega,?_⟩
   conv=>whnf
   refine⟨E,by omega,x,E,E,?_⟩
   conv=>whnf
   refine iW ?_
   refine iW ?_
   exact An [] qn ⟨⟨E,E,Bj _,hc0,congrArg Aa (congrArg Int.ofNat s1),E,congrArg (fun z=>SV.val (.int .i64 z)) qn,E,Y⟩,⟨.inl (congrArg (Ob.row 3 Am) s2),E,Y⟩,E,E⟩
  ·rw[hpx]at s1 s2
   refine oF ?_
   refine iW ?_
   exact An [] qn ⟨⟨E,E,Bj _,hc0,congrArg Aa (congrArg Int.ofNat s1),E,congrArg (fun z=>SV.val (.int .i64 z)) qn,E,Y⟩,⟨.inl (congrArg (Ob.row 3 Am) s2),E,Y⟩,E,E⟩
 ·have hend:i+1+j=l.length:=qB h
  have hne:D≠[]:=fun h=>by rw[h]at hdl;simp at hdl;omega
  have htk:=htk qn
  rw[show l.take (i+1+j)=l from List.take_of_length_le qn]at htk
  refine Ano 0 [0] E hne (by simp;rfl) ?_
  intro b cap' hcap
  refine oO ?_
  refine Ae (Dh Γ.toTy E E E E (.inr ⟨_,_,E,E⟩) (.inl ⟨E,E⟩) qn qn) E E ?_
  refine oO ?_
  refine Ae (Lc Γ.toTy 0 (k:=K) E E E E qy E E E qn qn) E E ?_
  refine oO ?_
  refine Ae (Dh Γ.toTy E E E E (.inl ⟨E,E⟩) (.inr ⟨_,_,E,E⟩) qn qn) E E ?_
  refine oO ?_
  refine Zs 0 1000 [4] K E E (by rw[List.length_take];omega) (fun i hi=>?_) ?_
  ·rw[List.mem_singleton]at hi
   subst hi
   show SV.val (.slice (some (if cap'=0 then ⟨b,0,none⟩ else ⟨b,0 * 3,none⟩)) (K-0) (cap'-0))=_
   split<;>simp
  refine done E (.cons .tmp .nil) [(0,0),(1,1000)] _ (fun _ h=>h) E E ⟨Y,⟨.inl E,E,.inl ?_,E,Y⟩,E,E⟩
  rw[← htk]
  exact congrArg (Ob.row 3 Am) (by rw[List.take_take,Nat.min_self])
theorem Acz (l:List EntryM) (i:Nat) (hi:i<l.length) (_hl:Al l) :
  Sy.Spec Tryz.prog 344 [.osl 0,Aa i,Aa ((i+1:Nat):Int)] [(0,.row 3 Am l)] (.osl 1) [(0,.non),(1,.row 3 Am (l.take i++l.drop (i+1)))]:=cT F344 Tryz.ntmps344 fun F hF=>by
 have hne:l≠[]:=fun h=>by rw[h]at hi;simp at hi
 ((conv=>whnf);repeat((first|refine aF ?_|refine aT ?_);(first|refine rG Γ hm ?_|refine rD Γ hm qq ?_);conv=>whnf))
 refine Ano 0 [0,8] E hne (by simp;exact⟨E,E⟩) ?_
 intro b cap hcap
 ((first|refine rG Γ hm ?_|refine rD Γ hm qq ?_);(conv=>whnf);repeat((first|refine aF ?_|refine aT ?_);(first|refine rG Γ hm ?_|refine rD Γ hm qq ?_);conv=>whnf))
 refine Ae (Acq Γ.toTy E E E E E E E qn qn hcap) E E ?_
 ((first|refine rG Γ hm ?_|refine rD Γ hm qq ?_);(conv=>whnf);repeat((first|refine aF ?_|refine aT ?_);(first|refine rG Γ hm ?_|refine rD Γ hm qq ?_);conv=>whnf))
 refine⟨fun h=>absurd h (by simp;omega),fun _=>?_⟩
 ((first|refine rG Γ hm ?_|refine rD Γ hm qq ?_);(conv=>whnf);repeat((first|refine aF ?_|refine aT ?_);(first|refine rG Γ hm ?_|refine rD Γ hm qq ?_);conv=>whnf))
 refine Bb (Dh Γ.toTy E E E E (.inl ⟨E,E⟩) (.inr ⟨_,_,E,E⟩) qn qn) qq E ?_
 ((first|refine rG Γ hm ?_|refine rD Γ hm qq ?_);(conv=>whnf);repeat((first|refine aF ?_|refine aT ?_);(first|refine rG Γ hm ?_|refine rD Γ hm qq ?_);conv=>whnf))
 refine Bb (Dh (hi:=l.length) Γ.toTy E E E E (.inr ⟨_,_,E,E⟩) (.inl ⟨E,E⟩) qn qn) qq E ?_
 ((first|refine rG Γ hm ?_|refine rD Γ hm qq ?_);(conv=>whnf);repeat((first|refine aF ?_|refine aT ?_);(first|refine rG Γ hm ?_|refine rD Γ hm qq ?_);conv=>whnf))
 have hif:(if cap=0 then (⟨b,0,none⟩:Addr) else ⟨b,0 * 3,none⟩)=⟨b,0,none⟩:=by split<;>simp
 refine Bb (Zd Γ.toTy 0 (n:=l.length) (i:=i) (j:=i+1) E E E (congrArg (fun z=>SV.val (.slice (some z) i cap)) hif) E E E E qn qn) qq E ?_
 ((first|refine rG Γ hm ?_|refine rD Γ hm qq ?_);(conv=>whnf);repeat((first|refine aF ?_|refine aT ?_);(first|refine rG Γ hm ?_|refine rD Γ hm qq ?_);conv=>whnf))
 refine⟨qq,?_⟩
 ((conv=>whnf);repeat((first|refine aF ?_|refine aT ?_);(first|refine rG Γ hm ?_|refine rD Γ hm qq ?_);conv=>whnf))
 refine Ae (Dh (lo:=i+(l.length-(i+1))) (hi:=l.length) Γ.toTy E E E E (.inr ⟨_,_,E,E⟩) (.inr ⟨_,_,E,E⟩) qn qn) E E ?_
 ((first|refine rG Γ hm ?_|refine rD Γ hm qq ?_);(conv=>whnf);repeat((first|refine aF ?_|refine aT ?_);(first|refine rG Γ hm ?_|refine rD Γ hm qq ?_);conv=>whnf))
 have hll:(l.take i++l.drop (i+1)).length=i+(l.length-(i+1)):=by rw[List.length_append,List.length_take,List.length_drop];omega
 refine Ae (Lc Γ.toTy 0 (k:=i+(l.length-(i+1))) E E E E qy E E E qn qn) E E ?_
 ((first|refine rG Γ hm ?_|refine rD Γ hm qq ?_);(conv=>whnf);repeat((first|refine aF ?_|refine aT ?_);(first|refine rG Γ hm ?_|refine rD Γ hm qq ?_);conv=>whnf))
 refine Zs 0 1000 [6] (i+(l.length-(i+1))) E E (by rw[List.length_take];omega) (by simp;rfl) ?_
 refine done E (.cons .tmp .nil) [(0,0),(1,1000)] _ (fun _ h=>h) E E ⟨Y,⟨.inl E,E,.inl ?_,E,Y⟩,E,E⟩
 exact congrArg (Ob.row 3 Am) (by rw[List.take_take,Nat.min_self];exact(List.take_of_length_le qn).symm)
end Go.Sy.YteinjapglfkamaaGreat
