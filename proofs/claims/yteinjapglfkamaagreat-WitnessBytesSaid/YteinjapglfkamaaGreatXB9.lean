/-
  D9 D10 D11 D12 H5 O5 Z17 H8 J27: parts of a proof, joined by program.
-/
import Derived.Test.YteinjapglfkamaaGreatXB5
import Derived.Test.YteinjapglfkamaaGreatXB4
import Derived.Test.YteinjapglfkamaaGreatXB8
import Derived.Test.YteinjapglfkamaaGreatXB3
import Derived.Test.YteinjapglfkamaaGreatRows
import Derived.ProofKit
namespace Go.Sy.YteinjapglfkamaaGreat
open Go.Proofs
attribute [local irreducible] Go.Sy.G Go.Sy.DR
set_option maxRecDepth 20000
set_option maxHeartbeats 8000000
structure WayD where
 (hops:List Hop) (routed:Bool)
instance:Inhabited WayD:=⟨⟨[],false⟩⟩
end Go.Sy.YteinjapglfkamaaGreat
namespace Go.Sy.YteinjapglfkamaaGreat
open Go.Proofs
structure Met (n:Net) (S:Srch):Prop where
 ok:S.OK n
 bk:Backs S.list
 dom:∀ f∈S.list,f.hop.domain=f.domain
 m:∀ d:Int,0≤d∧d.toNat<n.domains.length→∀ k:Int,(k=0∨k=1)→(M0 S d k=true↔∃ f∈S.list,f.domain=d∧f.kind=k)
theorem Ab7 {l:List Bool} {a b:Nat} (hb:b<l.length):(l.set a true)[b]? = if a=b then some true else l[b]?:=by
 rw[List.getElem?_set]
 split
 ·rename_i h;subst h;simp[hb]
 ·rfl
theorem Ae1 {n:Net} {S:Srch} (hS:S.OK n) {d k:Int} (hd:0≤d∧d.toNat<n.domains.length) (hk:k=0∨k=1) (h:Hop) (a:Int) (d2 k2:Int) (hd2:0≤d2∧d2.toNat<n.domains.length) (hk2:k2=0∨k2=1) :
  M0 (Ij S d k h a) d2 k2=true↔M0 S d2 k2=true∨(d2=d∧k2=k):=by
 have h0:d2.toNat<S.m0.length:=by rw[hS.l0];exact hd2.2
 have h1:d2.toNat<S.m1.length:=by rw[hS.l1];exact hd2.2
 have e:(d.toNat=d2.toNat)↔d2=d:=by omega
 rcases hk with rfl | rfl<;>rcases hk2 with rfl | rfl
 ·rw[Ij,if_pos rfl,M0,if_pos rfl,M0,if_pos rfl,nth,nth,Ab7 h0]
  by_cases h:d2=d
  ·rw[if_pos (e.2 h)];simp[h]
  ·rw[if_neg (fun x=>h (e.1 x))];simp[h]
 ·rw[Ij,if_pos rfl,M0,if_neg qx,M0,if_neg qx]
  simp
 ·rw[Ij,if_neg qx,M0,if_pos rfl,M0,if_pos rfl]
  simp
 ·rw[Ij,if_neg qx,M0,if_neg qx,M0,if_neg qx,nth,nth,Ab7 h1]
  by_cases h:d2=d
  ·rw[if_pos (e.2 h)];simp[h]
  ·rw[if_neg (fun x=>h (e.1 x))];simp[h]
theorem O0 (S:Srch) (d k:Int) (h:Hop) (a:Int):(Ij S d k h a).list=S.list++[⟨d,k,h,a⟩]:=by
 rw[Ij];split<;>rfl
theorem Met.meet {n:Net} {S:Srch} (hS:Met n S) {d k:Int} (hd:0≤d∧d.toNat<n.domains.length) (hk:k=0∨k=1) {h:Hop} (hh:h.domain=d) {a:Int} (ha:-1≤a∧a<S.list.length):Met n (meetT S d k h a) where
 ok:=hS.ok.meet hd hk h a
 bk:=(hS.bk.meet d k h ha).1
 dom:=by
  rw[meetT]
  split
  ·exact hS.dom
  ·rw[O0]
   intro f hf
   rcases List.mem_append.1 hf with h1 | h1
   ·exact hS.dom f h1
   ·rw[List.mem_singleton.1 h1];exact hh
 m:=by
  rw[meetT]
  split
  ·exact hS.m
  ·intro d2 hd2 k2 hk2
   rw[Ae1 hS.ok hd hk h a d2 k2 hd2 hk2,hS.m d2 hd2 k2 hk2,O0]
   constructor
   ·rintro (⟨f,hf,h1⟩ | ⟨rfl,rfl⟩)
    ·exact⟨f,List.mem_append_left _ hf,h1⟩
    ·exact⟨_,List.mem_append_right _ (List.mem_singleton.2 E),E,E⟩
   ·rintro ⟨f,hf,h1,h2⟩
    rcases List.mem_append.1 hf with h3 | h3
    ·exact .inl ⟨f,h3,h1,h2⟩
    ·rw[List.mem_singleton.1 h3]at h1 h2
     exact .inr ⟨h1.symm,h2.symm⟩
end Go.Sy.YteinjapglfkamaaGreat
namespace Go.Sy.YteinjapglfkamaaGreat
open Go.Proofs
attribute [local irreducible] Go.Sy.G Go.Sy.DR
set_option maxRecDepth 20000
set_option maxHeartbeats 8000000
theorem Yk (S:Srch) (d k:Int) (h:Hop) (a:Int):∃ m,(meetT S d k h a).list=S.list++m:=by
 rw[meetT]
 split
 ·exact⟨[],by simp⟩
 ·exact⟨_,O0 S d k h a⟩
theorem Met.ext1 {n:Net} {k i:Int} (hk:k=0∨k=1):∀ {l:List Hop} {S:Srch},Met n S→(-1≤i∧i<S.list.length)→(∀ h∈l,0≤h.domain∧h.domain.toNat<n.domains.length)→Met n (ext1 S k i l)∧∃ m,(ext1 S k i l).list=S.list++m
 | [],S,h,_,_=>⟨h,[],by simp[Sy.YteinjapglfkamaaGreat.ext1]⟩
 | x::l,S,h,hi,hl=>by
  have h1:=h.meet (hl x qy) hk (h:=x) rfl hi
  obtain ⟨m,hm2⟩:=Yk S x.domain k x i
  obtain ⟨h3,m2,h4⟩:=Met.ext1 hk (l:=l) h1 ⟨hi.1,by rw[hm2,List.length_append];omega⟩ (fun y hy=>hl y (by simp[hy]))
  exact⟨h3,m++m2,by rw[← List.append_assoc,← hm2];exact h4⟩
theorem Met.ext2 {n:Net} {i:Int}:∀ {l:List Lead} {S:Srch},Met n S→(-1≤i∧i<S.list.length)→(∀ h∈l,0≤h.domain∧h.domain.toNat<n.domains.length)→Met n (ext2 S i l)∧∃ m,(ext2 S i l).list=S.list++m
 | [],S,h,_,_=>⟨h,[],by simp[Sy.YteinjapglfkamaaGreat.ext2]⟩
 | x::l,S,h,hi,hl=>by
  have h1:=h.meet (hl x qy) (.inr rfl) (h:=⟨3,0,x.domain,x.addr⟩) rfl hi
  obtain ⟨m,hm2⟩:=Yk S x.domain 1 ⟨3,0,x.domain,x.addr⟩ i
  obtain ⟨h3,m2,h4⟩:=Met.ext2 (l:=l) h1 ⟨hi.1,by rw[hm2,List.length_append];omega⟩ (fun y hy=>hl y (by simp[hy]))
  exact⟨h3,m++m2,by rw[← List.append_assoc,← hm2];exact h4⟩
end Go.Sy.YteinjapglfkamaaGreat
namespace Go.Sy.YteinjapglfkamaaGreat
open Go.Proofs
theorem Wm {α:Type} (p:α→Bool) (l:List α) (j:Nat) (hj:j<l.length):B8 p (l.take (j+1))=if 0≤B8 p (l.take j) then B8 p (l.take j) else if p l[j]=true then (j:Int) else -1:=by
 rw[List.take_succ_eq_append_getElem hj]
 unfold B8
 rw[List.findIdx?_append]
 cases h:(l.take j).findIdx? p with
 | some i=>simp
 | none =>
  simp only[List.findIdx?_singleton,Option.none_or]
  cases hp:p l[j]
  ·simp
  ·simp[Nat.min_eq_left (Nat.le_of_lt hj)]
attribute [local irreducible] Go.Sy.G Go.Sy.DR
set_option maxRecDepth 100000
set_option maxHeartbeats 8000000
theorem Aei (n:Net) (hn:n.Fin) (hu:Ef n) (l:List Hop) (hl:Aj l) (hla:∀ h∈l,0≤h.addr∧h.addr<4294967296) :
  Sy.Spec Tryz.prog 15 [Al n,.sl 4 Bl l] [] (.tup [.sl 1 Ae (wayBytes n l).1,Aa (wayBytes n l).2]) []:=cT F15 Tryz.ntmps15 fun F hF=>by
 have hres:=wayBytes.eq_1 n l
 generalize wayBytes n l=res at *
 have hr:=Abq n hn
 have hl2:=hl
 unfold Aj at hl2
 conv=>whnf
 refine Ba 2 8 (Al n) E E E ?_
 refine T ?_
 refine C hr F10 ?_
 cases hb:Ac n
 ·rw[if_neg (fun x=>by rw[hb]at x;cases x.1)]at hres
  subst hres
  refine T ?_
  refine Ak 4 1 Ae E ?_
  exact D
 refine T ?_
 refine⟨fun h=>?_,fun h=>?_⟩
 ·have h0:l=[]:=List.eq_nil_of_length_eq_zero (qA h)
  rw[if_neg (fun x=>x.2.1 h0)]at hres
  subst hres
  refine T ?_
  refine Ak 4 1 Ae E ?_
  exact D
 have h0:0<l.length:=qB h
 clear h
 have hne:l≠[]:=fun e=>by rw[e]at h0;simp at h0
 refine T ?_
 refine Ay l.length (fun j=>C4 (stepB n l) l j) (fun j=>[(1,.sl 4 Bl l),(2,.ref 8 (Al n) 0),(6,Aa (Eo (l.take j))),(7,Aa j)]) (fun _=>[]) [] (At _ _) U ?_
 intro j hj hI
 refine T ?_
 refine⟨fun h=>?_,fun h=>?_⟩
 ·have hlt:j<l.length:=qA h
  have hj0:((j:Nat):Int).toNat<l.length:=by simpa using hlt
  have hts:=Wm (fun h:Hop=>decide (h.kind=3)) l j hlt
  have hrj:∀ k,B8 (fun h:Hop=>decide (h.kind=3)) (l.take k)=Eo (l.take k):=fun _=>rfl
  rw[hrj,hrj]at hts
  obtain ⟨x,hoo⟩:∃ x,l[j]=x:=⟨_,rfl⟩
  have e1:l[((j:Nat):Int).toNat]'hj0=x:=hoo
  have hst:=stepB.eq_1 n l j x
  have hbad:stepB n l j x=false→res=([],2):=fun h2=>by
   rw[if_neg (fun y=>by have:=allB_iff.1 y.2.2 j hlt;rw[hoo,h2]at this;cases this)]at hres
   exact hres
  rw[hoo]at hts
  have qp:=B3 x.domain n.domains.length
  clear h hrj
  refine S ?_
  refine⟨E,by omega,hj0,?_⟩
  rw[e1]
  refine T ?_
  refine C qp F46 ?_
  cases hpl:Ag x.domain n.domains.length
  ·rw[hpl,Bool.false_and]at hst
   have hres:=hbad hst
   subst hres
   refine T ?_
   refine Ak 4 1 Ae E ?_
   exact D
  rw[hpl,Bool.true_and]at hst
  refine T ?_
  rw[e1]
  by_cases hk:x.kind=3
  rotate_left
  ·rw[decide_eq_false hk,Bool.false_and]at hst
   rw[if_neg (show ¬ decide (x.kind=3)=true by simp[hk])]at hts
   have hts2:Eo (l.take (j+1))=Eo (l.take j):=by
    have:=Ans (fun h:Hop=>decide (h.kind=3)) (l.take j)
    show Eo (l.take (j+1))=_
    have e:Eo (l.take j)=B8 (fun h:Hop=>decide (h.kind=3)) (l.take j):=rfl
    rw[hts]
    split<;>omega
   refine⟨fun _=>?_,fun h=>absurd (by simpa using h) hk⟩
   refine T ?_
   exact Aw [] hI hlt (Ap hI hlt (by rw[hoo];exact hst)) ⟨⟨E,E,E,E,congrArg Aa hts2,E,E,E,Y⟩,Y,E,E⟩
  rw[decide_eq_true hk,Bool.true_and]at hst
  rw[if_pos (decide_eq_true hk)]at hts
  refine⟨fun h=>absurd hk (by simpa using h),fun _=>?_⟩
  by_cases hj1:j=0
  ·have hres:=hbad (by rw[hst,decide_eq_true hj1];rfl)
   subst hres
   refine T ?_
   refine Ak 4 1 Ae E ?_
   exact D
  rw[decide_eq_false hj1,Bool.false_or]at hst
  have hk1:((j:Int)-1).toNat<l.length:=by omega
  have hpr:=hI (j-1) qn qn
  have hpr2:Ag (l[((j:Int)-1).toNat]'hk1).domain n.domains.length=true:=by
   have e:((j:Int)-1).toNat=j-1:=by omega
   simp only[e]
   unfold stepB at hpr
   simp only[Bool.and_eq_true]at hpr
   exact hpr.1
  have hpi:=placeB_iff.1 hpr2
  rw[Ai hk1,Ai hpi.2]at hst
  have hie:=Tw hb hpi.2
  by_cases hir:(n.domains[(l[((j:Int)-1).toNat]'hk1).domain.toNat]'hpi.2).irb=-1
  ·have hres:=hbad (by rw[hst,decide_eq_true qn];rfl)
   subst hres
   refine T ?_
   refine⟨fun _=>?_,fun h=>absurd hir (by simpa using h)⟩
   refine T ?_
   refine Ak 4 1 Ae E ?_
   exact D
  have hin:=hie.resolve_left hir
  rw[decide_eq_false (by unfold InIrbs at hin;omega)]at hst
  clear hie hbad
  refine T ?_
  refine⟨fun h=>absurd (by simpa using h) hir,fun _=>?_⟩
  refine T ?_
  generalize hr1:Eo (l.take j)=r at *
  refine⟨fun h=>?_,fun h=>?_⟩
  ·rw[if_neg (qA h)]at hts
   refine T ?_
   exact Aw [] hI hlt (Ap hI hlt (by rw[hoo];exact hst)) ⟨⟨E,E,E,E,congrArg Aa hts,E,E,E,Y⟩,Y,E,E⟩
  ·rw[if_pos (qB h)]at hts
   refine T ?_
   exact Aw [] hI hlt (Ap hI hlt (by rw[hoo];exact hst)) ⟨⟨E,E,E,E,congrArg Aa hts,E,E,E,Y⟩,Y,E,E⟩
 ·have hjj:j=l.length:=qB h
  subst hjj
  clear h
  rw[List.take_length]
  have hall:Cg (stepB n l) l=true:=allB_iff.2 fun i hi=>hI i hi hi
  rw[if_pos ⟨hb,hne,hall⟩]at hres
  subst hres
  have hri:B8 (fun h=>decide (h.kind=3)) l=Eo l:=rfl
  have hlt:=D3 (fun h:Hop=>decide (h.kind=3)) l
  have his:=fun h0=>Agu hri h0
  rw[hri]at hlt
  have q7:=Ah6 (frameW n l) (Tt hu l)
  have hfw:=frameW.eq_1 n l
  have hirb:=irbOf.eq_1 n l
  generalize irbOf n l=ib at *
  generalize Eo l=r at *
  refine T ?_
  refine⟨fun h=>?_,fun h=>?_⟩
  ·have h1:0<r:=of_decide_eq_true h
   rw[if_pos h1]at hfw
   obtain ⟨hr0,hr3⟩:=his qn
   have hst:=allB_iff.1 hall r.toNat hr0
   have hk1:(r-1).toNat<l.length:=by omega
   have hpr2:Ag (l[(r-1).toNat]'hk1).domain n.domains.length=true:=by
    have hpr:=allB_iff.1 hall (r-1).toNat hk1
    unfold stepB at hpr
    simp only[Bool.and_eq_true]at hpr
    exact hpr.1
   have hpi:=placeB_iff.1 hpr2
   unfold stepB at hst
   rw[hr3,show ((r.toNat:Int)-1)=r-1 by omega,Ai hk1,Ai hpi.2]at hst
   simp only[Bool.and_eq_true,Bool.true_and,Bool.not_eq_true',Bool.or_eq_false_iff,decide_eq_false_iff_not]at hst
   have hin:=(Tw hb hpi.2).resolve_left qn
   have hin1:0≤(n.domains[(l[(r-1).toNat]'hk1).domain.toNat]'hpi.2).irb∧(n.domains[(l[(r-1).toNat]'hk1).domain.toNat]'hpi.2).irb.toNat<n.irbs.length:=by unfold InIrbs at hin;omega
   rw[Ai hk1,Ai hpi.2,Ai hin1.2]at hirb
   rw[Ai hr0]at hfw
   have ha:=hla _ (List.getElem_mem hr0)
   have hae:=Int.toNat_of_nonneg ha.1
   have hxa:=hu _ (List.getElem_mem hin1.2)
   have hxe:=Int.toNat_of_nonneg hxa.1
   have q5:Sy.Spec Tryz.prog 48 [.agg [Aa 0,Aa 0,Aa 64,Aa 17,Bi 1,Bi ((l[r.toNat]'hr0).addr.toNat:Nat),.sl 1 Ae []]] [] (.tup [.sl 1 Ae (ipPutT (La (l[r.toNat]'hr0).addr.toNat)).1,Aa (ipPutT (La (l[r.toNat]'hr0).addr.toNat)).2]) []:=Ah5 (La (l[r.toNat]'hr0).addr.toNat) (Adw _ qn) (by show 0<100000;decide)
   rw[hae]at q5
   have q6:=Aks (n.irbs[(n.domains[(l[(r-1).toNat]'hk1).domain.toNat]'hpi.2).irb.toNat]'hin1.2).addr.toNat qn
   rw[hxe]at q6
   subst hirb
   rw[hfw]at q7 ⊢
   clear hfw
   generalize (ipPutT (La (l[r.toNat]'hr0).addr.toNat)).1=bo at *
   refine T ?_
   refine C q6 F47 ?_
   refine Amq 87 (.agg [Aa 0,Aa 0,Aa 64,Aa 17,Bi 1,Bi (l[r.toNat]'hr0).addr,.sl 1 Ae []]) (.agg (.cons (.refl _) (.cons (.refl _) (.cons (.refl _) (.cons (.refl _) (.cons (.refl _) (.cons (.refl _) (.cons .nil .nil)))))))) ?_
   refine C q5 F48 ?_
   refine Ad (Af [(0,999)] E F49 q7 E Y E ⟨.inr E,Y⟩) E E ?_
   refine Aq 999 E ?_
   refine T ?_
   exact D
  ·have h1:¬ 0<r:=of_decide_eq_false h
   rw[if_neg h1]at hfw
   rw[hfw]at q7 ⊢
   clear hfw
   refine T ?_
   refine Amq 92 (.agg [A5 281474976710655,A5 Qm,Aa 34997,.sl 1 Ae []]) (.agg (.cons (.refl _) (.cons (.refl _) (.cons (.refl _) (.cons .nil .nil))))) ?_
   refine Ad (Af [(0,999)] E F49 q7 E Y E ⟨.inr E,Y⟩) E E ?_
   refine Aq 999 E ?_
   refine T ?_
   exact D
end Go.Sy.YteinjapglfkamaaGreat
namespace Go.Sy.YteinjapglfkamaaGreat
open Go.Proofs Go.ChangeShapes Go.WideShapes Go.ChangeAt Go.RowKit
set_option maxRecDepth 100000
section
variable {H:Type} {enc:TypeId × Value→H} {W:World}
def Hop.In (x:Hop):Prop:=wI .i64 x.kind∧wI .i64 x.port∧wI .i64 x.domain∧wI .u32 x.addr
theorem Ank:OpN enc Tryz.prog W 93 Bl Hop.In 4:=fun n cs y h=>by
 obtain ⟨xs,m,_,_,hlen,hx,hg⟩:=DataW.trod_struct Tryz.underlying93 h
 have hlen:cs.length=4:=hlen.trans (by kernel_rfl:Tryz.prog.cellsOf 93=4)
 have hx:xs.length=4:=hx
 match cs,hlen with
 | [c0,c1,c2,c3],_ =>
  have g0:DataW.trod enc Tryz.prog W 0 (fun _=>true) true m 3 (([c0,c1,c2,c3].drop 0).take (Tryz.prog.cellsOf 3))=xs[0]?:=hg 0 _ rfl
  rw[(by kernel_rfl:Tryz.prog.cellsOf 3=1),List.getElem?_eq_getElem qn]at g0
  obtain ⟨z0,p0,r0,o0⟩:=Bz Tryz.underlying3 _ _ _ g0
  have g1:DataW.trod enc Tryz.prog W 0 (fun _=>true) true m 3 (([c0,c1,c2,c3].drop 1).take (Tryz.prog.cellsOf 3))=xs[1]?:=hg 1 _ rfl
  rw[(by kernel_rfl:Tryz.prog.cellsOf 3=1),List.getElem?_eq_getElem qn]at g1
  obtain ⟨z1,p1,r1,o1⟩:=Bz Tryz.underlying3 _ _ _ g1
  have g2:DataW.trod enc Tryz.prog W 0 (fun _=>true) true m 3 (([c0,c1,c2,c3].drop 2).take (Tryz.prog.cellsOf 3))=xs[2]?:=hg 2 _ rfl
  rw[(by kernel_rfl:Tryz.prog.cellsOf 3=1),List.getElem?_eq_getElem qn]at g2
  obtain ⟨z2,p2,r2,o2⟩:=Bz Tryz.underlying3 _ _ _ g2
  have g3:DataW.trod enc Tryz.prog W 0 (fun _=>true) true m 75 (([c0,c1,c2,c3].drop 3).take (Tryz.prog.cellsOf 75))=xs[3]?:=hg 3 _ rfl
  rw[(by kernel_rfl:Tryz.prog.cellsOf 75=1),List.getElem?_eq_getElem qn]at g3
  obtain ⟨z3,p3,r3,o3⟩:=Bz Tryz.underlying75 _ _ _ g3
  refine⟨⟨z0,z1,z2,z3⟩,⟨p0,p1,p2,p3⟩,E,fun c hc=>?_,?_⟩
  ·simp only[List.mem_cons,List.not_mem_nil,or_false]at hc
   rcases hc with rfl | rfl | rfl | rfl<;>assumption
  ·simp only[Bl,cellsOf,RdL]
   exact⟨_,_,E,r0,_,_,E,r1,_,_,E,r2,_,_,E,r3,E⟩
theorem Anf:Op1 enc Tryz.prog W 34 (fun l:List Hop=>.sl 4 Bl l) (fun l=>(∀ x∈l,Hop.In x)∧l.length≤maxLen) :=
 Dy Tryz.underlying34 (by kernel_rfl:Tryz.prog.cellsOf 93=4) qx (fun _=>rfl) (fun _=>rfl) Ank
end
end Go.Sy.YteinjapglfkamaaGreat
namespace Go.Sy.YteinjapglfkamaaGreat
open Go.Proofs
attribute [local irreducible] Go.Sy.G Go.Sy.DR
set_option maxRecDepth 100000
set_option maxHeartbeats 4000000
theorem Adk (b:ByteArray):(b == b)=true:=by
 show (b.data == b.data)=true
 simp
end Go.Sy.YteinjapglfkamaaGreat
namespace Go.Sy.YteinjapglfkamaaGreat
open Go.Proofs
attribute [local irreducible] Go.Sy.G Go.Sy.DR
set_option maxRecDepth 100000
set_option maxHeartbeats 8000000
theorem Ajt {n:Net} (h:n.In):Ef n:=fun x hx=>by
 have:=(h.irbs.1 x hx).2.2.2.1
 simp only[wI,Lit.wf,decide_eq_true_eq,Bool.and_eq_true]at this
 exact⟨this.1,Int.lt_of_le_of_lt this.2 qx⟩
theorem Xn (n:Net) (hin:n.In) (l:List Hop) (hl:∀ h∈l,Hop.In h):Sy.Spec Tryz.prog 4 [Al n,.sl 4 Bl l] [] (Ab true) []:=cT F4 Tryz.ntmps4 fun F hF=>by
 conv=>whnf
 refine Ba 2 8 (Al n) E E E ?_
 refine T ?_
 refine C (greatS n) F7 ?_
 refine⟨fun hg=>?_,fun hg=>?_⟩
 ·refine T ?_
  refine C Ve F8 ?_
  exact D
 have hn:=Aad hg
 have hu:=Ajt hin
 refine T ?_
 refine⟨fun h=>?_,fun h=>?_⟩
 ·refine T ?_
  refine C Ve F8 ?_
  exact D
 have hlen:l.length≤200:=qB h
 clear h
 have hla:∀ h∈l,0≤h.addr∧h.addr<4294967296:=fun h hh=>by
  have:=(hl h hh).2.2.2
  simp only[wI,Lit.wf,decide_eq_true_eq,Bool.and_eq_true]at this
  exact⟨this.1,Int.lt_of_le_of_lt this.2 qx⟩
 have q1:=S8 n hn hu l (by unfold Aj;omega) hla
 have q2:=Aei n hn hu l (by unfold Aj;omega) hla
 have q4:=toldS l qn
 generalize wayBytes n l=b at *
 refine T ?_
 refine C q1 F14 ?_
 refine C q4 F13 ?_
 refine C q2 F15 ?_
 refine X (H6 Γ.toTy (bs:=b.1) E E E E E E E .sl) ?_
 refine X (H6 Γ.toTy (bs:=b.1) E E E E E E E .sl) ?_
 refine⟨fun _=>?_,fun h=>False.elim (by simp[Adk]at h)⟩
 refine T ?_
 refine C Ve F8 ?_
 exact D
end Go.Sy.YteinjapglfkamaaGreat
namespace Go.Proofs.YteinjapglfkamaaGreat
open Go.ChangeShapes Go.WideShapes Go.ChangeAt Go.RowKit
set_option maxRecDepth 100000
theorem Ld:Tryz.checked.prog.inPlace 4=Rows.witnessBytesRow.inPlace:=by kernel_rfl
theorem Jl:Tryz.checked.prog.unfollowed 4=Rows.witnessBytesRow.unfollowed:=by kernel_rfl
theorem Lb:Tryz.checked.prog.recurses 4=Rows.witnessBytesRow.recurses:=by kernel_rfl
theorem Oq:Tryz.checked.prog.varsNamed 4=Rows.witnessBytesRow.named:=by kernel_rfl
theorem Qb:Tryz.checked.prog.liftsFinal=Rows.witnessBytesRow.lifted:=by kernel_rfl
theorem Lc:laidOutB Tryz.checked.prog=true:=by kernel_rfl
theorem Ou:Tryz.checked.prog.mayEnter=true:=by kernel_rfl
theorem Or:Tryz.checked.prog.stopsHeard=true:=by kernel_rfl
theorem Ot:joinedFacts Tryz.checked.prog 4 Tryz.f4 Rows.witnessBytesSpec Rows.witnessBytesRow=true:=by
 unfold joinedFacts
 rw[Ld,Jl,Lb,Oq,Qb,Lc,Ou,Or]
 kernel_rfl
end Go.Proofs.YteinjapglfkamaaGreat
