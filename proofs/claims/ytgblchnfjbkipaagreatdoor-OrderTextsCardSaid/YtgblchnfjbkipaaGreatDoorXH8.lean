/-
  I8l Sy34 Sy35 Sy36 Sy37 Sy38 Sy39 Sy40 I29 I30 I36 I41 I37 I39 I38 I40 I42 I44 I45 I60 I61 J33: parts of a proof, joined by program.
-/
import Derived.Test.YtgblchnfjbkipaaGreatDoorXH7
import Derived.Test.YtgblchnfjbkipaaGreatDoorXH6
import Derived.Test.YtgblchnfjbkipaaGreatDoorXH3
import Derived.Laws.LoneSync
import Derived.Test.YtgblchnfjbkipaaGreatDoorXH2
import Derived.Defers
import Derived.Tactics
import Derived.Tactics2
import Derived.Laws.Pointers
import Derived.RegionTactic
import Derived.RegionCalls
import Derived.Test.YtgblchnfjbkipaaGreatDoorXH4
import Derived.Test.YtgblchnfjbkipaaGreatDoorXH5
import Derived.Test.YtgblchnfjbkipaaGreatDoorRows
import Derived.ProofKit
import Derived.Test.YtgblchnfjbkipaaGreatDoorCards
namespace Go.Sy.YtgblchnfjbkipaaGreatDoor
open Go.Proofs
attribute [local irreducible] Go.Sy.G Go.Sy.DR
set_option maxRecDepth 100000
set_option maxHeartbeats 4000000
theorem Adw (A W:List LineM) (x y:LineM):((A++x::y::W).set A.length y).set (A.length+1) x=A++y::x::W:=by
 rw[List.set_append_right _ _ (Nat.le_refl _),List.set_append_right _ _ j_]
 simp
theorem Jr (x y k:Nat) (hk:k=(x+y) / 2) (hs:x+y<1000000000):IntKind.i64.wrap ((IntKind.u64.wrap ((x:Int)+(y:Int))).fdiv (2 ^ min (Int.toNat 1) IntKind.u64.bits))=(k:Int):=by
 have e:((x:Int)+(y:Int))=((x+y:Nat):Int):=by omega
 have w:IntKind.u64.wrap ((x+y:Nat):Int)=((x+y:Nat):Int):=by rw[IntKind.wrap_u64];omega
 rw[e,w]
 show IntKind.i64.wrap ((((x+y:Nat):Int)).fdiv 2)=_
 rw[Int.fdiv_eq_ediv_of_nonneg _ qe,IntKind.wrap_i64]
 omega
abbrev Ig (x y:Int):Int:=IntKind.i64.wrap ((IntKind.u64.wrap (x+y)).fdiv (2 ^ min (Int.toNat 1) IntKind.u64.bits))
theorem Ada {α:Type} {D:List α} {z:Int} {k:Nat} (hz:z=(k:Int)) (h:z.toNat<D.length) (h2:(k:Int).toNat<D.length):D[z.toNat]'h=D[(k:Int).toNat]'h2:=by subst hz;rfl
def OneL (lt:LineM→LineM→Bool) (x:LineM) (R:List LineM) (q:Nat × Nat):Prop:=q.1≤q.2∧q.2≤R.length∧(q.1=0∨∃ h:q.1-1<R.length,lt R[q.1-1] x=true)∧(q.2=R.length∨∃ h:q.2<R.length,lt R[q.2] x=false)
theorem Adl (c:LineM→LineM→Int) (Q:LineM→Prop) (f:FuncId) (first cap:List SV) (hc:(SV.clo (.func f) first cap).inn []=true) (hf:∀ a b,Q a→Q b→Su Tryz.prog f (first++[Ac a,Ac b]++cap) (Aa (c a b)))
  (lt:LineM→LineM→Bool) (hlt:(fun x y=>decide (c x y<0))=lt) (ho:Ordy lt) (P R B:List LineM) (x:LineM) (hQx:Q x) (hQ:∀ y∈R,Q y) (hR:Srt lt R) (hl:(P++x::(R++B)).length<1000000) (a m b:Nat) (ha:a=P.length) (hm1:m=a+1) (hb1:b=m+R.length) :
  Sy.Spec Tryz.prog 169 [.osl 0,Aa a,Aa m,Aa b,.clo (.func f) first cap] [(0,.row 17 Ac (P++x::(R++B)))] (.tup []) [(0,.row 17 Ac (P++(A6 lt [x] R++B)))]:=cT F169 Tryz.ntmps169 fun F hF=>by
 have hin:∀ x y:LineM,Cg [] (first++[Ac x,Ac y]++cap)=true:=fun x y=>S5 hc rfl
 have hc':(SV.clo (.func f) first cap).inn [0]=true:=Ek _ hc
 have hll:P.length+1+R.length+B.length<1000000:=by simp only[List.length_append,List.length_cons]at hl;omega
 obtain ⟨D,hD⟩:∃ D,P++x::(R++B)=D:=⟨_,rfl⟩
 have hdl:D.length=P.length+1+R.length+B.length:=by rw[← hD];simp;omega
 have ex:∀ h:((a:Nat):Int).toNat<D.length,D[((a:Nat):Int).toNat]'h=x:=fun h=>by
  subst hD;subst ha
  simp only[Int.toNat_natCast]
  rw[List.getElem_append_right (Nat.le_refl _)]
  simp
 have er:∀ (k:Nat) (hk:k<R.length) (h:((m+k:Nat):Int).toNat<D.length),D[((m+k:Nat):Int).toNat]'h=R[k]:=fun k hk h=>by
  subst hD;subst hm1;subst ha
  simp only[Int.toNat_natCast]
  rw[List.getElem_append_right j_]
  simp only[show P.length+1+k-P.length=k+1 by omega,List.getElem_cons_succ]
  rw[List.getElem_append_left hk]
 rw[hD]
 refine T ?_
 refine Av (OneL lt x R) (fun q=>[(0,.osl 0),(1,Aa a),(4,.clo (.func f) first cap),(10,Aa ((m+q.1:Nat):Int)),(11,Aa ((m+q.2:Nat):Int))]) (fun _=>[(0,.row 17 Ac D)]) (fun q=>q.2-q.1) (0,R.length) [] ⟨Nat.zero_le _,Nat.le_refl _,.inl q_,.inl q_⟩ ⟨⟨q_,q_,q_,q_,Bo _,hc',q_,q_,congrArg Aa (by dsimp only;omega),q_,z_⟩,⟨.inl q_,q_,z_⟩,q_,q_⟩ ?_
 rintro ⟨s,r⟩ ⟨h1,h2,h3,h4⟩
 dsimp only at h1 h2 h3 h4 ⊢
 refine T ?_
 refine⟨fun h=>?_,fun h=>?_⟩
 ·have hsr:s<r:=qA h
  clear h
  obtain ⟨k,hk⟩:∃ k,k=(s+r) / 2:=⟨_,rfl⟩
  have hhs:=Jr (m+s) (m+r) (m+k) j_ j_
  have b0:((m+k:Nat):Int).toNat<D.length:=by omega
  have b1:(Ig ((m+s:Nat):Int) ((m+r:Nat):Int)).toNat<D.length:=by show (IntKind.i64.wrap _).toNat<_;rw[hhs];exact b0
  have b2:((a:Nat):Int).toNat<D.length:=by omega
  have hkr:k<R.length:=by omega
  have ez:D[(Ig ((m+s:Nat):Int) ((m+r:Nat):Int)).toNat]'b1=R[k]:=(Ada hhs b1 b0).trans (er k hkr b0)
  have hcc:lt R[k] x=decide (c (D[(Ig ((m+s:Nat):Int) ((m+r:Nat):Int)).toNat]'b1) (D[((a:Nat):Int).toNat]'b2)<0):=by rw[ez,ex b2,← hlt]
  have q1:=hf (D[(Ig ((m+s:Nat):Int) ((m+r:Nat):Int)).toNat]'b1) (D[((a:Nat):Int).toNat]'b2) (by rw[ez];exact hQ _ (List.getElem_mem _)) (by rw[ex b2];exact hQx)
  refine T ?_
  refine Qm q1 q_ q_ q_ (by simp only[hin];rfl) y_ q_ ?_
  refine T ?_
  refine⟨fun h=>?_,fun h=>?_⟩
  ·rw[h]at hcc
   refine T ?_
   refine Ag (k+1,r) [] ⟨by dsimp only;omega,h2,.inr ⟨by dsimp only;omega,hcc⟩,h4⟩ (by dsimp only;omega) ⟨⟨q_,q_,q_,q_,Bo _,hc',congrArg Aa (by dsimp only;omega),q_,q_,q_,z_⟩,⟨.inl q_,q_,z_⟩,q_,q_⟩
  ·rw[h]at hcc
   refine T ?_
   refine Ag (s,k) [] ⟨by dsimp only;omega,by dsimp only;omega,h3,.inr ⟨hkr,hcc⟩⟩ (by dsimp only;omega) ⟨⟨q_,q_,q_,q_,Bo _,hc',q_,q_,congrArg Aa (by dsimp only;omega),q_,z_⟩,⟨.inl q_,q_,z_⟩,q_,q_⟩
 ·have hsr:s=r:=qB h
  subst hsr
  have hmg:=Zg ho x hR s h2 h3 h4
  rw[hmg]
  clear h hmg
  refine T ?_
  refine Dk s (fun i=>[(0,.osl 0),(10,Aa ((m+s:Nat):Int)),(13,Aa ((a+i:Nat):Int))]) (fun i=>[(0,.row 17 Ac ((P++R.take i)++x::(R.drop i++B)))]) [] ⟨⟨q_,q_,q_,q_,congrArg Aa j_,q_,z_⟩,⟨.inl (congrArg (Ob.row 17 Ac) (by rw[← hD];simp)),q_,z_⟩,q_,q_⟩ ?_
  intro i hi
  refine T ?_
  refine⟨fun h=>?_,fun h=>?_⟩
  ·have his:i<s:=qA h
   have hir:i<R.length:=by omega
   have hdr:R.drop i++B=R[i]::(R.drop (i+1)++B):=by rw[List.drop_eq_getElem_cons hir];rfl
   have htk:R.take (i+1)=R.take i++[R[i]]:=List.take_succ_eq_append_getElem hir
   have hAl:(P++R.take i).length=a+i:=by rw[List.length_append,List.length_take];omega
   have hsp:=Adw (P++R.take i) (R.drop (i+1)++B) x R[i]
   have hfin:(P++R.take (i+1))++x::(R.drop (i+1)++B)=(P++R.take i)++R[i]::x::(R.drop (i+1)++B):=by rw[htk,← List.append_assoc P,List.append_assoc (P++R.take i)];rfl
   generalize R[i]=y at *
   rw[hdr]
   have hEl:((P++R.take i)++x::y::(R.drop (i+1)++B)).length=D.length:=by simp;omega
   have n1:(((a+i:Nat):Int)).toNat=(P++R.take i).length:=by omega
   have n2:(((a+i:Nat):Int)+1).toNat=(P++R.take i).length+1:=by omega
   have g1:∀ h,((P++R.take i)++x::y::(R.drop (i+1)++B))[(((a+i:Nat):Int)).toNat]'h=x:=fun h=>by simp only[n1];rw[List.getElem_append_right (Nat.le_refl _)];simp
   have g2:∀ h,((P++R.take i)++x::y::(R.drop (i+1)++B))[(((a+i:Nat):Int)+1).toNat]'h=y:=fun h=>by simp only[n2];rw[List.getElem_append_right j_];simp
   generalize hE:(P++R.take i)++x::y::(R.drop (i+1)++B)=E at *
   have c1:(((a+i:Nat):Int)).toNat<E.length:=by omega
   have c2:(((a+i:Nat):Int)+1).toNat<E.length:=by omega
   have c3:(((a+i:Nat):Int)+1).toNat<(E.set (((a+i:Nat):Int)).toNat (E[(((a+i:Nat):Int)+1).toNat]'c2)).length:=by rw[List.length_set];exact c2
   have hset:(E.set (((a+i:Nat):Int)).toNat (E[(((a+i:Nat):Int)+1).toNat]'c2)).set (((a+i:Nat):Int)+1).toNat (E[(((a+i:Nat):Int)).toNat]'c1)=(P++R.take i)++y::x::(R.drop (i+1)++B):=by
    rw[g1 c1,g2 c2];simp only[n1,n2];exact hsp
   clear h
   refine T ?_
   refine⟨E[(((a+i:Nat):Int)+1).toNat]'c2,q_,q_,?_⟩
   refine T ?_
   refine⟨E[(((a+i:Nat):Int)).toNat]'c1,q_,q_,?_⟩
   refine T ?_
   refine Dr [] his ⟨⟨q_,q_,q_,q_,congrArg Aa j_,q_,z_⟩,⟨.inl (congrArg (Ob.row 17 Ac) (by rw[hset,hfin])),q_,z_⟩,q_,q_⟩
  ·have his:i=s:=qB h
   subst his
   rw[show P++((R.take i++x::R.drop i)++B)=(P++R.take i)++x::(R.drop i++B) by simp]
   refine T ?_
   exact E0
def OneR (lt:LineM→LineM→Bool) (y:LineM) (L:List LineM) (q:Nat × Nat):Prop:=q.1≤q.2∧q.2≤L.length∧(q.1=0∨∃ h:q.1-1<L.length,lt y L[q.1-1]=false)∧(q.2=L.length∨∃ h:q.2<L.length,lt y L[q.2]=true)
theorem Adk (c:LineM→LineM→Int) (Q:LineM→Prop) (f:FuncId) (first cap:List SV) (hc:(SV.clo (.func f) first cap).inn []=true) (hf:∀ a b,Q a→Q b→Su Tryz.prog f (first++[Ac a,Ac b]++cap) (Aa (c a b)))
  (lt:LineM→LineM→Bool) (hlt:(fun x y=>decide (c x y<0))=lt) (ho:Ordy lt) (P L B:List LineM) (y:LineM) (hQx:Q y) (hQ:∀ x∈L,Q x) (hL:Srt lt L) (h2:2≤L.length) (hl:(P++(L++y::B)).length<1000000) (a m b:Nat) (ha:a=P.length) (hm1:m=a+L.length) (hb1:b=m+1) :
  Sy.Spec Tryz.prog 169 [.osl 0,Aa a,Aa m,Aa b,.clo (.func f) first cap] [(0,.row 17 Ac (P++(L++y::B)))] (.tup []) [(0,.row 17 Ac (P++(A6 lt L [y]++B)))]:=cT F169 Tryz.ntmps169 fun F hF=>by
 have hin:∀ x y:LineM,Cg [] (first++[Ac x,Ac y]++cap)=true:=fun x y=>S5 hc rfl
 have hc':(SV.clo (.func f) first cap).inn [0]=true:=Ek _ hc
 have hll:P.length+1+L.length+B.length<1000000:=by simp only[List.length_append,List.length_cons]at hl;omega
 obtain ⟨D,hD⟩:∃ D,P++(L++y::B)=D:=⟨_,rfl⟩
 have hdl:D.length=P.length+1+L.length+B.length:=by rw[← hD];simp;omega
 have ey:∀ h:((m:Nat):Int).toNat<D.length,D[((m:Nat):Int).toNat]'h=y:=fun h=>by
  subst hD;subst hm1;subst ha
  simp only[Int.toNat_natCast]
  rw[List.getElem_append_right j_]
  simp only[Nat.add_sub_cancel_left]
  rw[List.getElem_append_right (Nat.le_refl _)]
  simp
 have el:∀ (k:Nat) (hk:k<L.length) (h:((a+k:Nat):Int).toNat<D.length),D[((a+k:Nat):Int).toNat]'h=L[k]:=fun k hk h=>by
  subst hD;subst hm1;subst ha
  simp only[Int.toNat_natCast]
  rw[List.getElem_append_right j_]
  simp only[Nat.add_sub_cancel_left]
  rw[List.getElem_append_left hk]
 rw[hD]
 refine T ?_
 refine Av (OneR lt y L) (fun q=>[(0,.osl 0),(2,Aa m),(4,.clo (.func f) first cap),(14,Aa ((a+q.1:Nat):Int)),(15,Aa ((a+q.2:Nat):Int))]) (fun _=>[(0,.row 17 Ac D)]) (fun q=>q.2-q.1) (0,L.length) [] ⟨Nat.zero_le _,Nat.le_refl _,.inl q_,.inl q_⟩ ⟨⟨q_,q_,q_,q_,Bo _,hc',q_,q_,congrArg Aa (by dsimp only;omega),q_,z_⟩,⟨.inl q_,q_,z_⟩,q_,q_⟩ ?_
 rintro ⟨s,r⟩ ⟨h1,h3,h4,h5⟩
 dsimp only at h1 h3 h4 h5 ⊢
 refine T ?_
 refine⟨fun h=>?_,fun h=>?_⟩
 ·have hsr:s<r:=qA h
  clear h
  obtain ⟨k,hk⟩:∃ k,k=(s+r) / 2:=⟨_,rfl⟩
  have hhs:=Jr (a+s) (a+r) (a+k) j_ j_
  have b0:((a+k:Nat):Int).toNat<D.length:=by omega
  have b1:(Ig ((a+s:Nat):Int) ((a+r:Nat):Int)).toNat<D.length:=by show (IntKind.i64.wrap _).toNat<_;rw[hhs];exact b0
  have b2:((m:Nat):Int).toNat<D.length:=by omega
  have hkr:k<L.length:=by omega
  have ez:D[(Ig ((a+s:Nat):Int) ((a+r:Nat):Int)).toNat]'b1=L[k]:=(Ada hhs b1 b0).trans (el k hkr b0)
  have hcc:lt y L[k]=decide (c (D[((m:Nat):Int).toNat]'b2) (D[(Ig ((a+s:Nat):Int) ((a+r:Nat):Int)).toNat]'b1)<0):=by rw[ez,ey b2,← hlt]
  have q1:=hf (D[((m:Nat):Int).toNat]'b2) (D[(Ig ((a+s:Nat):Int) ((a+r:Nat):Int)).toNat]'b1) (by rw[ey b2];exact hQx) (by rw[ez];exact hQ _ (List.getElem_mem _))
  refine T ?_
  refine Qm q1 q_ q_ q_ (by simp only[hin];rfl) y_ q_ ?_
  cases hcv:lt y L[k]
  ·rw[hcv]at hcc
   refine T ?_
   refine⟨fun _=>?_,fun h=>?_⟩
   ·refine T ?_
    refine Ag (k+1,r) [] ⟨by dsimp only;omega,h3,.inr ⟨by dsimp only;omega,hcv⟩,h5⟩ (by dsimp only;omega) ⟨⟨q_,q_,q_,q_,Bo _,hc',congrArg Aa (by dsimp only;omega),q_,q_,q_,z_⟩,⟨.inl q_,q_,z_⟩,q_,q_⟩
   ·rw[← hcc]at h;cases h
  ·rw[hcv]at hcc
   refine T ?_
   refine⟨fun h=>?_,fun _=>?_⟩
   ·rw[← hcc]at h;cases h
   ·refine T ?_
    refine Ag (s,k) [] ⟨by dsimp only;omega,by dsimp only;omega,h4,.inr ⟨hkr,hcv⟩⟩ (by dsimp only;omega) ⟨⟨q_,q_,q_,q_,Bo _,hc',q_,q_,congrArg Aa (by dsimp only;omega),q_,z_⟩,⟨.inl q_,q_,z_⟩,q_,q_⟩
 ·have hsr:s=r:=qB h
  subst hsr
  have hmg:=Zf ho y hL s h3 h4 h5
  rw[hmg]
  clear h hmg
  refine T ?_
  refine Dk (L.length-s) (fun i=>[(0,.osl 0),(14,Aa ((a+s:Nat):Int)),(17,Aa ((m-i:Nat):Int))]) (fun i=>[(0,.row 17 Ac ((P++L.take (L.length-i))++y::(L.drop (L.length-i)++B)))]) [] ⟨⟨q_,q_,q_,q_,congrArg Aa j_,q_,z_⟩,⟨.inl (congrArg (Ob.row 17 Ac) (by rw[← hD];simp)),q_,z_⟩,q_,q_⟩ ?_
  intro i hi
  refine T ?_
  refine⟨fun h=>?_,fun h=>?_⟩
  ·have his:i<L.length-s:=qA h
   obtain ⟨j,hj⟩:∃ j,L.length-i=j+1:=⟨L.length-i-1,by omega⟩
   have hj2:L.length-(i+1)=j:=by omega
   have hjr:j<L.length:=by omega
   rw[hj]
   have htk:L.take (j+1)=L.take j++[L[j]]:=List.take_succ_eq_append_getElem hjr
   have hdr:L.drop j++B=L[j]::(L.drop (j+1)++B):=by rw[List.drop_eq_getElem_cons hjr];rfl
   have hAl:(P++L.take j).length=a+j:=by rw[List.length_append,List.length_take];omega
   have hsp:=Yd (P++L.take j) (L.drop (j+1)++B) L[j] y
   have hst:(P++L.take (j+1))++y::(L.drop (j+1)++B)=(P++L.take j)++L[j]::y::(L.drop (j+1)++B):=by rw[htk,← List.append_assoc P,List.append_assoc (P++L.take j)];rfl
   rw[hst]
   generalize L[j]=z at *
   have hEl:((P++L.take j)++z::y::(L.drop (j+1)++B)).length=D.length:=by simp;omega
   have n1:(((m-i:Nat):Int)).toNat=(P++L.take j).length+1:=by omega
   have n2:(((m-i:Nat):Int)-1).toNat=(P++L.take j).length:=by omega
   have g1:∀ h,((P++L.take j)++z::y::(L.drop (j+1)++B))[(((m-i:Nat):Int)).toNat]'h=y:=fun h=>by simp only[n1];rw[List.getElem_append_right j_];simp
   have g2:∀ h,((P++L.take j)++z::y::(L.drop (j+1)++B))[(((m-i:Nat):Int)-1).toNat]'h=z:=fun h=>by simp only[n2];rw[List.getElem_append_right (Nat.le_refl _)];simp
   generalize hE:(P++L.take j)++z::y::(L.drop (j+1)++B)=E at *
   have c1:(((m-i:Nat):Int)).toNat<E.length:=by omega
   have c2:(((m-i:Nat):Int)-1).toNat<E.length:=by omega
   have c3:(((m-i:Nat):Int)-1).toNat<(E.set (((m-i:Nat):Int)).toNat (E[(((m-i:Nat):Int)-1).toNat]'c2)).length:=by rw[List.length_set];exact c2
   have hset:(E.set (((m-i:Nat):Int)).toNat (E[(((m-i:Nat):Int)-1).toNat]'c2)).set (((m-i:Nat):Int)-1).toNat (E[(((m-i:Nat):Int)).toNat]'c1)=(P++L.take j)++y::z::(L.drop (j+1)++B):=by
    rw[g1 c1,g2 c2];simp only[n1,n2];exact hsp
   clear h
   refine T ?_
   refine⟨E[(((m-i:Nat):Int)-1).toNat]'c2,q_,q_,?_⟩
   refine T ?_
   refine⟨E[(((m-i:Nat):Int)).toNat]'c1,q_,q_,?_⟩
   refine T ?_
   refine Dr [] his ⟨⟨q_,q_,q_,q_,congrArg Aa j_,q_,z_⟩,⟨.inl (congrArg (Ob.row 17 Ac) (by rw[hset,hj2,hdr])),q_,z_⟩,q_,q_⟩
  ·have his:L.length-i=s:=qB h
   rw[his]
   rw[show P++((L.take s++y::L.drop s)++B)=(P++L.take s)++y::(L.drop s++B) by simp]
   refine T ?_
   exact E0
def CutA (lt:LineM→LineM→Bool) (L R:List LineM) (d i:Nat):Prop:=i=0∨R.length≤d-i∨∃ (hi:i-1<L.length) (hj:d-i<R.length),0<i∧lt R[d-i] L[i-1]=false
def CutB (lt:LineM→LineM→Bool) (L R:List LineM) (d i:Nat):Prop:=L.length≤i∨d-i=0∨∃ (hi:i<L.length) (hj:d-i-1<R.length),0<d-i∧lt R[d-i-1] L[i]=true
structure CutI (lt:LineM→LineM→Bool) (L R:List LineM) (d:Nat) (q:Nat × Nat):Prop where
 le:q.1≤q.2
 l:q.2≤L.length
 d2:q.2≤d
 r:d≤q.1+R.length
 h1:CutA lt L R d q.1
 h2:CutB lt L R d q.2
theorem U8 (c:LineM→LineM→Int) (Q:LineM→Prop) (f:FuncId) (first cap:List SV) (hc:(SV.clo (.func f) first cap).inn []=true) (hf:∀ a b,Q a→Q b→Su Tryz.prog f (first++[Ac a,Ac b]++cap) (Aa (c a b)))
  (lt:LineM→LineM→Bool) (hlt:(fun x y=>decide (c x y<0))=lt) (ho:Ordy lt):∀ (N:Nat) (P L R B:List LineM),L.length+R.length≤N→(∀ x∈L,Q x)→(∀ x∈R,Q x)→Srt lt L→Srt lt R→0<L.length→0<R.length→(P++(L++(R++B))).length<1000000 →
  ∀ a m b:Nat,a=P.length→m=a+L.length→b=m+R.length →
  Sy.Spec Tryz.prog 169 [.osl 0,Aa a,Aa m,Aa b,.clo (.func f) first cap] [(0,.row 17 Ac (P++(L++(R++B))))] (.tup []) [(0,.row 17 Ac (P++(A6 lt L R++B)))]:=by
 have hin:∀ x y:LineM,Cg [] (first++[Ac x,Ac y]++cap)=true:=fun x y=>S5 hc rfl
 have hc':(SV.clo (.func f) first cap).inn [0]=true:=Ek _ hc
 have hok:∀ a b n:Int,Cg [0] [.osl 0,Aa a,Aa b,Aa n,.clo (.func f) first cap]=true:=fun a b n=>by simp only[Cg,hc'];rfl
 intro N
 induction N with
 | zero=>intro P L R B h _ _ _ _ h1;omega
 | succ N ih =>
  intro P L R B hN hQL hQR hL hR hL0 hR0 hl a m b ha hm1 hb1
  have hll:P.length+L.length+R.length+B.length<1000000:=by simp only[List.length_append]at hl;omega
  by_cases hl1:L.length=1
  ·obtain ⟨x,rfl⟩:=List.length_eq_one_iff.1 hl1
   exact Adl c Q f first cap hc hf lt hlt ho P R B x (hQL x qf) hQR hR hl a m b ha hm1 hb1
  by_cases hr1:R.length=1
  ·obtain ⟨y,rfl⟩:=List.length_eq_one_iff.1 hr1
   exact Adk c Q f first cap hc hf lt hlt ho P L B y (hQR y qf) hQL hL j_ hl a m b ha hm1 hb1
  obtain ⟨mid,hmid⟩:∃ mid,mid=(a+b) / 2:=⟨_,rfl⟩
  have hhm:=Jr a b mid hmid j_
  obtain ⟨d,hd⟩:∃ d,mid=a+d:=⟨mid-a,by omega⟩
  obtain ⟨D,hD⟩:∃ D,P++(L++(R++B))=D:=⟨_,rfl⟩
  have hdl:D.length=P.length+L.length+R.length+B.length:=by rw[← hD];simp;omega
  have el:∀ (k:Nat) (hk:k<L.length) (z:Int) (hz:z=((a+k:Nat):Int)) (h:z.toNat<D.length),D[z.toNat]'h=L[k]:=fun k hk z hz h=>by
   subst hD;subst hm1;subst ha;subst hz
   simp only[Int.toNat_natCast]
   rw[List.getElem_append_right j_]
   simp only[Nat.add_sub_cancel_left]
   rw[List.getElem_append_left hk]
  have er:∀ (k:Nat) (hk:k<R.length) (z:Int) (hz:z=((m+k:Nat):Int)) (h:z.toNat<D.length),D[z.toNat]'h=R[k]:=fun k hk z hz h=>by
   subst hD;subst hm1;subst ha;subst hz
   simp only[Int.toNat_natCast]
   rw[List.getElem_append_right j_]
   simp only[show P.length+L.length+k-P.length=L.length+k by omega]
   rw[List.getElem_append_right j_]
   simp only[Nat.add_sub_cancel_left]
   rw[List.getElem_append_left hk]
  rw[hD]
  have hfin:∀ i,CutI lt L R d (i,i)→A6 lt L R=A6 lt (L.take i) (R.take (d-i))++A6 lt (L.drop i) (R.drop (d-i)):=fun i hi=>by
   refine Qe ho hL hR i (d-i) ?_ ?_
   ·exact hi.h1
   ·exact hi.h2
  have htarget:P++(A6 lt L R++B)=P++(A6 lt L R++B):=rfl
  refine Hd Γ hm 100 F169 Tryz.ntmps169 q_ fun F hF=>by
   refine T ?_
   by_cases hc1:mid<m
   rotate_left
   refine⟨fun h=>absurd (of_decide_eq_true h) j_,fun h=>?_⟩
   clear h
   refine T ?_
   refine Av (CutI lt L R d) (fun q=>[(0,.osl 0),(1,Aa a),(2,Aa m),(3,Aa b),(4,.clo (.func f) first cap),(18,Aa (mid:Nat)),(19,Aa ((mid+m:Nat):Int)),(20,Aa ((a+q.1:Nat):Int)),(21,Aa ((a+q.2:Nat):Int)),(22,Aa ((mid+m-1:Nat):Int))]) (fun _=>[(0,.row 17 Ac D)]) (fun q=>q.2-q.1) (0,L.length) [] ⟨Nat.zero_le _,Nat.le_refl _,by dsimp only;omega,by dsimp only;omega,.inl q_,.inl (Nat.le_refl _)⟩
    ⟨⟨rfl,rfl,rfl,rfl,rfl,rfl,rfl,rfl,Bo _,hc',congrArg Aa j_,rfl,congrArg Aa j_,rfl,rfl,rfl,congrArg Aa (by dsimp only;omega),rfl,congrArg Aa j_,rfl,trivial⟩,⟨.inl rfl,rfl,trivial⟩,rfl,rfl⟩ ?_
   rotate_left
   refine⟨fun h=>?_,fun h=>absurd (of_decide_eq_false h) j_⟩
   clear h
   refine T ?_
   refine Av (CutI lt L R d) (fun q=>[(0,.osl 0),(1,Aa a),(2,Aa m),(3,Aa b),(4,.clo (.func f) first cap),(18,Aa (mid:Nat)),(19,Aa ((mid+m:Nat):Int)),(20,Aa ((a+q.1:Nat):Int)),(21,Aa ((a+q.2:Nat):Int)),(22,Aa ((mid+m-1:Nat):Int))]) (fun _=>[(0,.row 17 Ac D)]) (fun q=>q.2-q.1) (d-R.length,d) [] ⟨Nat.sub_le _ _,by dsimp only;omega,Nat.le_refl _,by dsimp only;omega,(by show _∨_;dsimp only;omega),.inr (.inl (Nat.sub_self _))⟩
    ⟨⟨rfl,rfl,rfl,rfl,rfl,rfl,rfl,rfl,Bo _,hc',congrArg Aa j_,rfl,congrArg Aa j_,rfl,congrArg Aa (by dsimp only;omega),rfl,congrArg Aa (by dsimp only;omega),rfl,congrArg Aa j_,rfl,trivial⟩,⟨.inl rfl,rfl,trivial⟩,rfl,rfl⟩ ?_
   all_goals
    rintro ⟨i,r⟩ hq
    have hfi:=hfin i
    obtain ⟨g1,g2,g3,g4,g5,g6⟩:=hq
    dsimp only at g1 g2 g3 g4 g5 g6 ⊢
    refine T ?_
    refine⟨fun h=>?_,fun h=>?_⟩
    ·have hsr:i<r:=qA h
     clear h hfi
     obtain ⟨k,hk⟩:∃ k,k=(i+r) / 2:=⟨_,rfl⟩
     have hhs:=Jr (a+i) (a+r) (a+k) j_ j_
     obtain ⟨j,hj⟩:∃ j,d=k+j+1:=⟨d-k-1,by omega⟩
     have hkl:k<L.length:=by omega
     have hkr:j<R.length:=by omega
     have hzr:((mid+m-1:Nat):Int)-Ig ((a+i:Nat):Int) ((a+r:Nat):Int)=((m+j:Nat):Int):=by show _-IntKind.i64.wrap _=_;rw[hhs];omega
     have b1:(((mid+m-1:Nat):Int)-Ig ((a+i:Nat):Int) ((a+r:Nat):Int)).toNat<D.length:=by rw[hzr];omega
     have b2:(Ig ((a+i:Nat):Int) ((a+r:Nat):Int)).toNat<D.length:=by show (IntKind.i64.wrap _).toNat<_;rw[hhs];omega
     have e1:=er j hkr _ hzr b1
     have e2:=el k hkl _ hhs b2
     have hcc:lt R[j] L[k]=decide (c (D[(((mid+m-1:Nat):Int)-Ig ((a+i:Nat):Int) ((a+r:Nat):Int)).toNat]'b1) (D[(Ig ((a+i:Nat):Int) ((a+r:Nat):Int)).toNat]'b2)<0):=by rw[e1,e2,← hlt]
     have q1:=hf (D[(((mid+m-1:Nat):Int)-Ig ((a+i:Nat):Int) ((a+r:Nat):Int)).toNat]'b1) (D[(Ig ((a+i:Nat):Int) ((a+r:Nat):Int)).toNat]'b2) (by rw[e1];exact hQR _ (List.getElem_mem _)) (by rw[e2];exact hQL _ (List.getElem_mem _))
     refine T ?_
     refine Qm q1 q_ q_ q_ (by simp only[hin];rfl) y_ q_ ?_
     cases hcv:lt R[j] L[k]
     ·rw[hcv]at hcc
      refine T ?_
      refine⟨fun _=>?_,fun h=>?_⟩
      ·refine T ?_
       refine Ag (k+1,r) [] ⟨by dsimp only;omega,g2,g3,by dsimp only;omega,.inr (.inr ⟨by dsimp only;omega,by dsimp only;omega,Nat.succ_pos _,by
        have e:d-(k+1)=j:=by omega
        simp only[e,Nat.add_sub_cancel]
        exact hcv⟩),g6⟩ (by dsimp only;omega) ⟨⟨q_,q_,q_,q_,q_,q_,q_,q_,Bo _,hc',q_,q_,q_,q_,congrArg Aa (by dsimp only;omega),q_,q_,q_,q_,q_,z_⟩,⟨.inl q_,q_,z_⟩,q_,q_⟩
      ·rw[← hcc]at h;cases h
     ·rw[hcv]at hcc
      refine T ?_
      refine⟨fun h=>?_,fun _=>?_⟩
      ·rw[← hcc]at h;cases h
      ·refine T ?_
       refine Ag (i,k) [] ⟨by dsimp only;omega,by dsimp only;omega,by dsimp only;omega,g4,g5,.inr (.inr ⟨hkl,by dsimp only;omega,by dsimp only;omega,by
        have e:d-k-1=j:=by omega
        simp only[e]
        exact hcv⟩)⟩ (by dsimp only;omega) ⟨⟨q_,q_,q_,q_,q_,q_,q_,q_,Bo _,hc',q_,q_,q_,q_,q_,q_,congrArg Aa (by dsimp only;omega),q_,q_,q_,z_⟩,⟨.inl q_,q_,z_⟩,q_,q_⟩
    ·have hsr:i=r:=qB h
     subst hsr
     clear h er el
     have hcut:=hfi ⟨g1,g2,g3,g4,g5,g6⟩
     clear hfi
     have hLL:=List.take_append_drop i L
     have hRR:=List.take_append_drop (d-i) R
     have k1:(L.take i).length=i:=by rw[List.length_take];omega
     have k2:(L.drop i).length=L.length-i:=List.length_drop
     have k3:(R.take (d-i)).length=d-i:=by rw[List.length_take];omega
     have k4:(R.drop (d-i)).length=R.length-(d-i):=List.length_drop
     have m1:∀ x∈L.take i,Q x:=fun x hx=>hQL x (List.mem_of_mem_take hx)
     have m2:∀ x∈L.drop i,Q x:=fun x hx=>hQL x (List.mem_of_mem_drop hx)
     have m3:∀ x∈R.take (d-i),Q x:=fun x hx=>hQR x (List.mem_of_mem_take hx)
     have m4:∀ x∈R.drop (d-i),Q x:=fun x hx=>hQR x (List.mem_of_mem_drop hx)
     have s1:Srt lt (L.take i):=hL.sublist (List.take_sublist _ _)
     have s2:Srt lt (L.drop i):=hL.sublist (List.drop_sublist _ _)
     have s3:Srt lt (R.take (d-i)):=hR.sublist (List.take_sublist _ _)
     have s4:Srt lt (R.drop (d-i)):=hR.sublist (List.drop_sublist _ _)
     have hY0:P++(L.take i++(L.drop i++(R.take (d-i)++(R.drop (d-i)++B))))=D:=by
      rw[← hD,← List.append_assoc (L.take i),hLL,← List.append_assoc (R.take (d-i)),hRR]
     clear hD hLL hRR
     rw[hcut,List.append_assoc (A6 lt (L.take i) (R.take (d-i)))]
     clear hcut
     generalize L.take i=L1 at *
     generalize L.drop i=L2 at *
     generalize R.take (d-i)=R1 at *
     generalize R.drop (d-i)=R2 at *
     clear g5 g6 hdl hl1 hr1 hhm
     have hsz:P.length+L1.length+R1.length+L2.length+R2.length+B.length<1000000:=by omega
     obtain ⟨j,hj⟩:∃ j,d=i+j:=⟨d-i,by omega⟩
     have hLi:L1.length+L2.length=L.length:=by omega
     have hRi:R1.length+R2.length=R.length:=by omega
     have k1:L1.length=i:=k1
     have k3:R1.length=j:=by omega
     have hdN:d≤N:=by omega
     have hdN2:L.length+R.length≤N+d:=by omega
     clear k2 k4 g1 g2 g3 g4 hc1 hmid hL0 hR0 hll hl
     have hkk:=hok
     by_cases hrot:0<L2.length∧0<R1.length
     rotate_left
     have hY:P++(L1++(R1++(L2++(R2++B))))=D:=by
      rw[← hY0]
      rcases Nat.eq_zero_or_pos L2.length with h | h
      ·rw[List.eq_nil_of_length_eq_zero h];simp
      ·rw[List.eq_nil_of_length_eq_zero (show R1.length=0 by omega)];simp
     obtain ⟨cur,rfl⟩:∃ cur,cur=D:=⟨D,rfl⟩
     clear hY0
     by_cases hl2:L2.length=0
     clear hrot
     refine T ?_
     rotate_left
     have hl3:R1.length=0:=by omega
     clear hrot
     refine T ?_
     rotate_left
     have q:=Aie (P++L1) L2 R1 (R2++B) f first cap hc' hrot.1 hrot.2 (by simp only[List.length_append];omega) m (m+j) (by simp only[List.length_append];omega) j_
     rw[show (P++L1).length=a+i by simp only[List.length_append];omega,show ((m+j:Nat):Int)=((mid+m:Nat):Int)-((a+i:Nat):Int) by omega]at q
     simp only[List.append_assoc]at q
     rw[hY0]at q
     obtain ⟨cur,hY⟩:∃ cur,P++(L1++(R1++(L2++(R2++B))))=cur:=⟨_,rfl⟩
     rw[hY]at q
     have hok:=hkk ((a+i:Nat):Int) m (((mid+m:Nat):Int)-((a+i:Nat):Int))
     clear hY0
     refine T ?_
     refine X (Ae [] q_ F229 q (Ci _) ⟨q_,z_⟩ (by simp only[D0,Obs.keys,List.map_cons,List.map_nil,hok];rfl) ⟨.inl q_,z_⟩) ?_
     all_goals
      by_cases hc2:0<L1.length∧0<R1.length
      rotate_left
      have hY2:P++(A6 lt L1 R1++(L2++(R2++B)))=cur:=by
       rw[← hY]
       rcases Nat.eq_zero_or_pos L1.length with h | h
       ·rw[List.eq_nil_of_length_eq_zero h,Cb];rfl
       ·rw[List.eq_nil_of_length_eq_zero (show R1.length=0 by omega),C5];rfl
      obtain ⟨cur2,rfl⟩:∃ cur2,cur2=cur:=⟨cur,rfl⟩
      clear hY
      by_cases hc3:L1.length=0
      clear hc2
      refine T ?_
      rotate_left
      have hc4:R1.length=0:=by omega
      clear hc2
      refine T ?_
      rotate_left
      first
      | (exfalso;omega)
      | (have q:=ih P L1 R1 (L2++(R2++B)) j_ m1 m3 s1 s3 hc2.1 hc2.2 (by simp only[List.length_append];omega) a (a+i) mid ha j_ j_
         rw[hY]at q
         obtain ⟨cur2,hY2⟩:∃ cur2,P++(A6 lt L1 R1++(L2++(R2++B)))=cur2:=⟨_,rfl⟩
         rw[hY2]at q
         have hok:=hkk (a:Int) ((a+i:Nat):Int) mid
         clear hY
         refine T ?_
         refine X (Ae [] q_ F169 q (Ci _) ⟨q_,z_⟩ (by simp only[D0,Obs.keys,List.map_cons,List.map_nil,hok];rfl) ⟨.inl q_,z_⟩) ?_)
     all_goals
      by_cases hc5:0<L2.length∧0<R2.length
      rotate_left
      have hY3:P++(A6 lt L1 R1++(A6 lt L2 R2++B))=cur2:=by
       rw[← hY2]
       rcases Nat.eq_zero_or_pos L2.length with h | h
       ·rw[List.eq_nil_of_length_eq_zero h,Cb];rfl
       ·rw[List.eq_nil_of_length_eq_zero (show R2.length=0 by omega),C5];rfl
      by_cases hc6:L2.length=0
      clear hc5
      refine T ?_
      exact B1 q_ .nil [] [(0,.row 17 Ac (P++(A6 lt L1 R1++(A6 lt L2 R2++B))))] (fun _ h=>h) q_ q_ ⟨z_,⟨.inl (congrArg (Ob.row 17 Ac) hY3),q_,z_⟩,q_,q_⟩
      have hc7:R2.length=0:=by omega
      clear hc5
      refine T ?_
      exact B1 q_ .nil [] [(0,.row 17 Ac (P++(A6 lt L1 R1++(A6 lt L2 R2++B))))] (fun _ h=>h) q_ q_ ⟨z_,⟨.inl (congrArg (Ob.row 17 Ac) hY3),q_,z_⟩,q_,q_⟩
      first
      | (exfalso;omega)
      | (have hml:=Id lt L1 R1
         have q:=ih (P++A6 lt L1 R1) L2 R2 B j_ m2 m4 s2 s4 hc5.1 hc5.2 (by simp only[List.length_append];omega) mid (m+j) b (by simp only[List.length_append];omega) j_ j_
         rw[show ((m+j:Nat):Int)=((mid+m:Nat):Int)-((a+i:Nat):Int) by omega]at q
         simp only[List.append_assoc]at q
         rw[hY2]at q
         have hok:=hkk (mid:Int) (((mid+m:Nat):Int)-((a+i:Nat):Int)) b
         refine T ?_
         refine X (Ae [] q_ F169 q (Ci _) ⟨q_,z_⟩ (by simp only[D0,Obs.keys,List.map_cons,List.map_nil,hok];rfl) ⟨.inl q_,z_⟩) ?_
         exact E0)
def Ajd (lt:LineM→LineM→Bool) (s:Nat) (M Y:List LineM):Prop:=Y.length≤M.length∧bs lt s M=Y++bs lt s (M.drop Y.length)
def StbI (M:List LineM) (s:Nat):Prop:=20≤s∧s<2 * M.length+21
theorem Aa4 (c:LineM→LineM→Int) (Q:LineM→Prop) (f:FuncId) (first cap:List SV) (hc:(SV.clo (.func f) first cap).inn []=true) (hf:∀ a b,Q a→Q b→Su Tryz.prog f (first++[Ac a,Ac b]++cap) (Aa (c a b)))
  (lt:LineM→LineM→Bool) (hlt:(fun x y=>decide (c x y<0))=lt) (ho:Ordy lt) (M:List LineM) (hQ:∀ x∈M,Q x) (hl:M.length<100000) :
  Sy.Spec Tryz.prog 101 [.osl 0,Aa M.length,.clo (.func f) first cap] [(0,.row 17 Ac M)] (.tup []) [(0,.row 17 Ac (Bb lt M))]:=cT F101 Tryz.ntmps101 fun F hF=>by
 have hc':(SV.clo (.func f) first cap).inn [0]=true:=Ek _ hc
 have hok3:∀ a b:Int,Cg [0] [.osl 0,Aa a,Aa b,.clo (.func f) first cap]=true:=fun a b=>by simp only[Cg,hc'];rfl
 have hok4:∀ a b n:Int,Cg [0] [.osl 0,Aa a,Aa b,Aa n,.clo (.func f) first cap]=true:=fun a b n=>by simp only[Cg,hc'];rfl
 refine T ?_
 refine Av (Ajd lt 20 M) (fun Y=>[(0,.osl 0),(1,Aa M.length),(2,.clo (.func f) first cap),(6,Aa 20),(7,Aa Y.length),(8,Aa ((Y.length+20:Nat):Int))]) (fun Y=>[(0,.row 17 Ac (Y++M.drop Y.length))]) (fun Y=>M.length-Y.length) [] [] ⟨Nat.zero_le _,q_⟩ ⟨⟨q_,q_,q_,q_,Bo _,hc',q_,q_,q_,q_,q_,q_,z_⟩,⟨.inl q_,q_,z_⟩,q_,q_⟩ ?_
 intro Y hY
 obtain ⟨hY1,hY2⟩:=hY
 have hdl:(M.drop Y.length).length=M.length-Y.length:=List.length_drop
 refine T ?_
 refine⟨fun h=>?_,fun h=>?_⟩
 ·have hlt2:Y.length+20≤M.length:=qA h
  have hbm:=Oq lt (l:=M.drop Y.length) (s:=20) qe j_
  have hsp:=List.take_append_drop 20 (M.drop Y.length)
  have htl:((M.drop Y.length).take 20).length=20:=by rw[List.length_take];omega
  have q:=Zo c Q f first cap hc hf Y ((M.drop Y.length).take 20) ((M.drop Y.length).drop 20) (fun x hx=>hQ x (List.mem_of_mem_drop (List.mem_of_mem_take hx))) (by rw[hsp,List.length_append];omega) Y.length (Y.length+20) rfl (by rw[htl])
  rw[hsp,hlt]at q
  have hok:=hok3 Y.length ((Y.length+20:Nat):Int)
  have hsl:=Dl lt ((M.drop Y.length).take 20)
  rw[List.drop_drop]at hbm q
  rw[htl]at hsl
  generalize Bb lt ((M.drop Y.length).take 20)=Z at *
  have hYS:(Y++Z).length=Y.length+20:=by rw[List.length_append];omega
  have hI:Ajd lt 20 M (Y++Z):=⟨by omega,by rw[hY2,hbm,hYS,List.append_assoc]⟩
  clear h hbm hsp htl hY2
  refine T ?_
  refine X (Ae [] q_ F168 q (Ci _) ⟨q_,z_⟩ (by simp only[D0,Obs.keys,List.map_cons,List.map_nil,hok];rfl) ⟨.inl q_,z_⟩) ?_
  refine Ag (Y++Z) [] hI j_ ⟨⟨q_,q_,q_,q_,Bo _,hc',q_,q_,congrArg Aa j_,q_,congrArg Aa j_,q_,z_⟩,⟨.inl (congrArg (Ob.row 17 Ac) (by rw[hYS,List.append_assoc])),q_,z_⟩,q_,q_⟩
 ·have hlt2:¬ Y.length+20≤M.length:=qB h
  have hbf:=Kx lt (l:=M.drop Y.length) (s:=20) j_
  have q:=Zo c Q f first cap hc hf Y (M.drop Y.length) [] (fun x hx=>hQ x (List.mem_of_mem_drop hx)) (by rw[List.append_nil,List.length_append];omega) Y.length M.length rfl j_
  rw[List.append_nil,List.append_nil,hlt,← hbf,← hY2]at q
  have hok:=hok3 Y.length M.length
  clear h hbf hY2
  refine T ?_
  refine X (Ae [] q_ F168 q (Ci _) ⟨q_,z_⟩ (by simp only[D0,Obs.keys,List.map_cons,List.map_nil,hok];rfl) ⟨.inl q_,z_⟩) ?_
  clear q hok hdl hY1 hlt2
  refine Av (StbI M) (fun s=>[(0,.osl 0),(1,Aa M.length),(2,.clo (.func f) first cap),(6,Aa (s:Nat))]) (fun s=>[(0,.row 17 Ac (bs lt s M))]) (fun s=>2 * M.length+21-s) 20 [] ⟨by omega,by omega⟩ ⟨⟨q_,q_,q_,q_,Bo _,hc',q_,q_,z_⟩,⟨.inl q_,q_,z_⟩,q_,q_⟩ ?_
  rintro s ⟨hs1,hs2⟩
  refine T ?_
  refine⟨fun h=>?_,fun h=>?_⟩
  rotate_left
  ·rw[← Kx lt (l:=M) (s:=s) (qB h)]
   refine T ?_
   exact B1 q_ .nil [] [(0,.row 17 Ac (bs lt s M))] (fun _ h=>h) q_ q_ ⟨z_,⟨.inl q_,q_,z_⟩,q_,q_⟩
  have hsm:s<M.length:=qA h
  clear h
  refine T ?_
  refine Av (Ajd lt (2 * s) M) (fun Y=>[(0,.osl 0),(1,Aa M.length),(2,.clo (.func f) first cap),(6,Aa (s:Nat)),(7,Aa Y.length),(8,Aa ((Y.length+2 * s:Nat):Int))]) (fun Y=>[(0,.row 17 Ac (Y++bs lt s (M.drop Y.length)))]) (fun Y=>M.length-Y.length) [] [] ⟨Nat.zero_le _,q_⟩ ⟨⟨q_,q_,q_,q_,Bo _,hc',q_,q_,q_,q_,congrArg Aa (by simp only[List.length_nil];omega),q_,z_⟩,⟨.inl q_,q_,z_⟩,q_,q_⟩ ?_
  intro Y hY
  obtain ⟨hY1,hY2⟩:=hY
  have hdl:(M.drop Y.length).length=M.length-Y.length:=List.length_drop
  refine T ?_
  refine⟨fun h=>?_,fun h=>?_⟩
  ·have hlt2:Y.length+2 * s≤M.length:=qA h
   obtain ⟨hb1,hb2⟩:=bs_two ho (l:=M.drop Y.length) (s:=s) j_ j_
   have l1:=Dl lt ((M.drop Y.length).take s)
   have l2:=Dl lt (((M.drop Y.length).drop s).take s)
   have l3:=bs_len lt s _ ((M.drop Y.length).drop (2 * s)) rfl
   have t1:((M.drop Y.length).take s).length=s:=by rw[List.length_take];omega
   have t2:(((M.drop Y.length).drop s).take s).length=s:=by rw[List.length_take,List.length_drop];omega
   have t3:((M.drop Y.length).drop (2 * s)).length=M.length-Y.length-2 * s:=by rw[List.length_drop];omega
   have w1:=H5 ho ((M.drop Y.length).take s)
   have w2:=H5 ho (((M.drop Y.length).drop s).take s)
   have v1:∀ x∈Bb lt ((M.drop Y.length).take s),Q x:=fun x hx=>hQ x (List.mem_of_mem_drop (List.mem_of_mem_take (Es lt _ x hx)))
   have v2:∀ x∈Bb lt (((M.drop Y.length).drop s).take s),Q x:=fun x hx=>hQ x (List.mem_of_mem_drop (List.mem_of_mem_drop (List.mem_of_mem_take (Es lt _ x hx))))
   have hdd:(M.drop Y.length).drop (2 * s)=M.drop (Y.length+2 * s):=List.drop_drop ..
   rw[hdd]at hb1 hb2 l3 t3
   clear hdd
   rw[hb2]at hY2
   rw[hb1]
   generalize Bb lt ((M.drop Y.length).take s)=L at *
   generalize Bb lt (((M.drop Y.length).drop s).take s)=R at *
   have hml:=Id lt L R
   have q:=U8 c Q f first cap hc hf lt hlt ho _ Y L R (bs lt s (M.drop (Y.length+2 * s))) (Nat.le_refl _) v1 v2 w1 w2 j_ j_ (by simp only[List.length_append];omega) Y.length (Y.length+s) (Y.length+2 * s) rfl j_ j_
   rw[show ((Y.length+s:Nat):Int)=(Y.length:Int)+(s:Int) by omega]at q
   have hok:=hok4 Y.length ((Y.length:Int)+(s:Int)) ((Y.length+2 * s:Nat):Int)
   have hYS:(Y++A6 lt L R).length=Y.length+2 * s:=by rw[List.length_append];omega
   have hI:Ajd lt (2 * s) M (Y++A6 lt L R):=⟨by omega,by rw[hY2,hYS,List.append_assoc]⟩
   clear h hb1 hb2 hY2 w1 w2 v1 v2
   refine T ?_
   refine X (Ae [] q_ F169 q (Ci _) ⟨q_,z_⟩ (by simp only[D0,Obs.keys,List.map_cons,List.map_nil,hok];rfl) ⟨.inl q_,z_⟩) ?_
   refine Ag (Y++A6 lt L R) [] hI j_ ⟨⟨q_,q_,q_,q_,Bo _,hc',q_,q_,congrArg Aa j_,q_,congrArg Aa j_,q_,z_⟩,⟨.inl (congrArg (Ob.row 17 Ac) (by rw[hYS,List.append_assoc])),q_,z_⟩,q_,q_⟩
  ·have hlt2:¬ Y.length+2 * s≤M.length:=qB h
   clear h
   by_cases hm2:Y.length+s<M.length
   rotate_left
   ·have e1:=Kx lt (l:=M.drop Y.length) (s:=s) j_
    have e2:=Kx lt (l:=M.drop Y.length) (s:=2 * s) j_
    rw[e2,← e1]at hY2
    refine T ?_
    refine Ag (2 * s) [] ⟨by omega,by omega⟩ j_ ⟨⟨q_,q_,q_,q_,Bo _,hc',congrArg Aa j_,q_,z_⟩,⟨.inl (congrArg (Ob.row 17 Ac) hY2),q_,z_⟩,q_,q_⟩
   obtain ⟨hb1,hb2⟩:=Ai5 ho (l:=M.drop Y.length) (s:=s) j_ j_ j_
   have l1:=Dl lt ((M.drop Y.length).take s)
   have l2:=Dl lt ((M.drop Y.length).drop s)
   have t1:((M.drop Y.length).take s).length=s:=by rw[List.length_take];omega
   have t2:((M.drop Y.length).drop s).length=M.length-Y.length-s:=by rw[List.length_drop];omega
   have w1:=H5 ho ((M.drop Y.length).take s)
   have w2:=H5 ho ((M.drop Y.length).drop s)
   have v1:∀ x∈Bb lt ((M.drop Y.length).take s),Q x:=fun x hx=>hQ x (List.mem_of_mem_drop (List.mem_of_mem_take (Es lt _ x hx)))
   have v2:∀ x∈Bb lt ((M.drop Y.length).drop s),Q x:=fun x hx=>hQ x (List.mem_of_mem_drop (List.mem_of_mem_drop (Es lt _ x hx)))
   rw[hb2]at hY2
   rw[hb1]
   generalize Bb lt ((M.drop Y.length).take s)=L at *
   generalize Bb lt ((M.drop Y.length).drop s)=R at *
   have hml:=Id lt L R
   have q:=U8 c Q f first cap hc hf lt hlt ho _ Y L R [] (Nat.le_refl _) v1 v2 w1 w2 j_ j_ (by simp only[List.length_append,List.length_nil];omega) Y.length (Y.length+s) M.length rfl j_ j_
   rw[show ((Y.length+s:Nat):Int)=(Y.length:Int)+(s:Int) by omega,List.append_nil,List.append_nil,← hY2]at q
   have hok:=hok4 Y.length ((Y.length:Int)+(s:Int)) M.length
   clear hb1 hb2 hY2 w1 w2 v1 v2
   refine T ?_
   refine X (Ae [] q_ F169 q (Ci _) ⟨q_,z_⟩ (by simp only[D0,Obs.keys,List.map_cons,List.map_nil,hok];rfl) ⟨.inl q_,z_⟩) ?_
   refine Ag (2 * s) [] ⟨by omega,by omega⟩ j_ ⟨⟨q_,q_,q_,q_,Bo _,hc',congrArg Aa j_,q_,z_⟩,⟨.inl q_,q_,z_⟩,q_,q_⟩
theorem Afy (c:LineM→LineM→Int) (Q:LineM→Prop) (f:FuncId) (first cap:List SV) (hc:(SV.clo (.func f) first cap).inn []=true) (hf:∀ a b,Q a→Q b→Su Tryz.prog f (first++[Ac a,Ac b]++cap) (Aa (c a b)))
  (lt:LineM→LineM→Bool) (hlt:(fun x y=>decide (c x y<0))=lt) (ho:Ordy lt) (M:List LineM) (hQ:∀ x∈M,Q x) (hl:M.length<100000) :
  Sy.Spec Tryz.prog 36 [.osl 0,.clo (.func f) first cap] [(0,.row 17 Ac M)] (.tup []) [(0,.row 17 Ac (Bb lt M))]:=cT F36 Tryz.ntmps36 fun F hF=>by
 have hc':(SV.clo (.func f) first cap).inn [0]=true:=Ek _ hc
 have hok:Cg [0] [.osl 0,Aa M.length,.clo (.func f) first cap]=true:=by simp only[Cg,hc'];rfl
 have q:=Aa4 c Q f first cap hc hf lt hlt ho M hQ hl
 refine T ?_
 refine X (Ae [] q_ F101 q (Ci _) ⟨q_,z_⟩ (by simp only[D0,Obs.keys,List.map_cons,List.map_nil,hok];rfl) ⟨.inl q_,z_⟩) ?_
 exact B1 q_ .nil [] [(0,.row 17 Ac (Bb lt M))] (fun _ h=>h) q_ q_ ⟨z_,⟨.inl q_,q_,z_⟩,q_,q_⟩
end Go.Sy.YtgblchnfjbkipaaGreatDoor
namespace Go.Sy
theorem VwL.get {s:SS} {V:List Nat}:∀ {l m:List SV} (_:VwL s V l m) {i:Nat} {y:SV},Hm m i=some y→∃ x,Hm l i=some x∧Vw s V x y
 | _,_,.nil,i,y,h=>by cases i<;>simp[Hm]at h
 | _,_,.cons (x:=x) h0 hs,0,y,h=>by
  simp only[Hm,Option.some.injEq]at h
  subst h
  exact⟨x,q_,h0⟩
 | _,_,.cons h0 hs,i+1,y,h=>VwL.get hs (i:=i) h
theorem VwL.len {s:SS} {V:List Nat}:∀ {l m:List SV} (_:VwL s V l m),m.length=l.length
 | _,_,.nil=>rfl
 | _,_,.cons _ hs=>by simp[VwL.len hs]
theorem RdL.setI {κ:Ka} {w:World} {x:SV} {v:Value} (hx:Rd κ w x v):∀ {l:List SV} {cs:List Value} (i:Nat),RdL κ w l cs→RdL κ w (l.set i x) (cs.set i v)
 | [],cs,i,h=>by simp only[RdL]at h;subst h;simp[RdL]
 | y::l,cs,0,h=>by
  simp only[RdL]at h
  obtain ⟨u,r,rfl,h1,h2⟩:=h
  simp only[List.set_cons_zero,RdL]
  exact⟨v,r,q_,hx,h2⟩
 | y::l,cs,i+1,h=>by
  simp only[RdL]at h
  obtain ⟨u,r,rfl,h1,h2⟩:=h
  simp only[List.set_cons_succ,RdL]
  exact⟨u,_,q_,h1,h2.setI hx i⟩
theorem Si {κ:Ka} {w:World} {k:Nat} {l:List SV} (hi:Inv κ w) (h:ObOK κ w k (.box l)) {off:Nat} {x:SV} {v:Value} (_hx:x.plain=true) (hv:∀ κ w,Rd κ w x v) (h1:v.oneCell'=true) :
  ∃ b,κ k=.blk b∧(∀ j y,Hm l j=some y→∃ u,w.cell? ⟨b,j,none⟩=some u∧Rd κ w y u)∧(∀ j,j<l.length→w.frozen? ⟨b,j,none⟩=false) ∧
   Step (·=k) κ w κ (w.setCell ⟨b,off,none⟩ v)∧Inv κ (w.setCell ⟨b,off,none⟩ v)∧ObOK κ (w.setCell ⟨b,off,none⟩ v) k (.box (l.set off x)):=by
 obtain ⟨b,cs,T,fr,e1,e2,e3,e4,e5⟩:=h
 have hsame:(w.setCell ⟨b,off,none⟩ v).heap[b]? = some (.cells (cs.set off v).toArray T fr):=by
  simp[World.setCell,Array.getElem?_modify,e2]
 have hoth:∀ j,j≠b→(w.setCell ⟨b,off,none⟩ v).heap[j]? = w.heap[j]?:=fun j hj=>heap_setCell_other w ⟨b,off,none⟩ j v hj
 obtain ⟨st,inv⟩:=Jg (w':=w.setCell ⟨b,off,none⟩ v) hi (k:=k) (b:=b) (by rw[e1];rfl) rfl rfl rfl qf hoth
 have hlen:=e5.length
 refine⟨b,e1,fun j y hy=>?_,fun j hj=>?_,st,inv,b,_,T,fr,e1,hsame,by rw[List.length_set];exact e3,?_,(RdL.step st _ _ e5).setI (hv _ _) off⟩
 ·obtain ⟨u,hu,hr⟩:=e5.get hy
  exact⟨u,by rw[cell_of_row w b j cs.toArray T fr e2,List.getElem?_toArray];exact hu,hr⟩
 ·obtain ⟨lo,hi'⟩:=fr
  simp only[World.frozen?,e2]
  rcases e3 with h | h
  ·simp only at h;subst h;simp
  ·simp only at h;simp;omega
 ·intro c hc
  rcases List.mem_or_eq_of_mem_set hc with h | h
  ·exact e4 c h
  ·rw[h];exact h1
theorem Ctx.onward {F:Fr} {κ κ2:Ka} {w w2:World} {ds:List Deferred} (c:Ctx F κ w) (c2:Ctx ⟨w,κ,ds⟩ κ2 w2):Ctx F κ2 w2 where
 size:=Nat.le_trans c.size c2.size
 os:=c2.os.trans c.os
 tape:=c2.tape.trans c.tape
 output:=c2.output.trans c.output
 M:=c2.M.trans c.M
 old b hb h:=by
  refine(c2.old b (Nat.lt_of_lt_of_le hb c.size) (fun k hk=>?_)).trans (c.old b hb h)
  rcases c.own k b hk with h1 | ⟨j,h1⟩
  ·exact absurd hb (Nat.not_lt.2 h1)
  ·exact h j h1
 own k b hk:=by
  rcases c2.own k b hk with h | ⟨j,h⟩
  ·exact .inl (Nat.le_trans c.size h)
  ·exact c.own j b h
 nam k hk:=by
  have hn:∀ x,κ k=x→x≠.new→κ2 k=x∨κ2 k=.dead:=fun x hx hne=>by
   have h:κ2 k=κ k∨κ2 k=.dead:=c2.nam k (by show κ k≠.new;rw[hx];exact hne)
   rw[hx]at h
   exact h
  rcases c.nam k hk with h | h
  ·exact hn _ h hk
  ·rcases hn _ h (by intro e;cases e) with h2 | h2
   ·exact .inr h2
   ·exact .inr h2
def Ade (P:Program) (fn:Func) (F:Fr) (R:SV) (H':Obs):Exit→Act→World→Prop :=
 bodyPostD P fn fun e w'=>∃ v κ',e=.returned v∧Ctx F κ' w'∧Inv κ' w'∧Rd κ' w' R v∧H'.ok κ' w'
theorem Aa5 {P:Program} (Γ:Ty P) {f:FuncId} {fn:Func} {c:Code} {A:List SV} {H:Obs} {R:SV} {H':Obs} (hf:P.funcs[f]? = some fn) (hb:fn.body=some c) {n:Nat} (hn':fn.ntmps=n) (hn:A.length≤n)
  (h:∀ (F:Fr) (hF:∀ k,F.k0 k≠.new→k∈H.keys),F.ds=[]→G ⟨P,Γ,F,n,Ade P fn F R H',H.keys,hF⟩ [.code c] ⟨argσ A,mkh H⟩):Spec P f A H R H':=by
 subst hn'
 intro κ w vs hi hnew hA hH
 refine calls_of_wp_defers hf hb ?_
 have hlen:=hA.length
 refine h ⟨w,κ,[]⟩ hnew q_ κ _ w ⟨q_,?_,hi,Ctx.refl κ w,?_,?_⟩
 ·simp;omega
 ·intro i
  have:=hA.getD (fn.ntmps-vs.length) i
  have he:(vs.toArray++Array.replicate (fn.ntmps-vs.length) undef)=(vs++List.replicate (fn.ntmps-vs.length) undef).toArray:=by simp
  show Rd κ w _ ((vs.toArray++Array.replicate (fn.ntmps-vs.toArray.size) undef).getD i undef)
  rw[List.size_toArray,he]
  simpa using this
 ·intro k
  exact Abz hH (fun hk=>Classical.byContradiction fun hne=>hk (hnew k hne))
theorem Ae7 {P:Program} (Γ:TyE P) (hm:P.follows .mixedOrders=true) (N:Nat) {f:FuncId} {fn:Func} {c:Code} {A:List SV} {H:Obs} {R:SV} {H':Obs} (hF:Fun P f fn c) {n:Nat} (hn':fn.ntmps=n) (hn:Zl A n=true)
  (h:∀ (F:Fr) (hF:∀ k,F.k0 k≠.new→k∈H.keys),F.ds=[]→Ik ⟨P,Γ.toTy,F,n,Ade P fn F R H',H.keys,hF⟩ Γ N [.code c] ⟨argσ A,mkh H⟩):Sy.Spec P f A H R H' :=
 Aa5 Γ.toTy hF.1 hF.2 hn' (T6 hn) fun F hF h0=>run Γ hm N (h F hF h0)
theorem Aja {C:Cx} {k:List KI} {s:SS} {all:Array Oper} {o:Oper} {rest:List Oper} {x:Operand} {ts:Array TypeId} {g:FuncId} {cap:List SV} (h:o.op=.defer ⟨.value x,#[],ts⟩) (hx:ev s x=.clo (.func g) [] cap) (hd:o.dst=none)
  (hw:Dh C.n all o s=some true) (h0:C.F.ds=[]) (bn:List Nat) (hbn:∀ j,j∉bn→s.h j=.fresh)
  (hg:∀ (F:Fr) (hF:∀ j,F.k0 j≠.new→j∈bn) (cv:List Value),F.ds=[⟨.fn (.func g) cv.toArray,#[]⟩]→RdL F.k0 F.w0 cap cv→(∀ κ w,Ctx F κ w→Ctx C.F κ w)→G ⟨C.P,C.Γ,F,C.n,C.B,bn,hF⟩ (.ops all rest::k) s):G C (.ops all (o::rest)::k) s:=by
 intro κ a w hs
 refine wpList_step fun K hK=>?_
 rw[if_pos (K1 hs (C9 hw).2 (C9 hw).1)]
 have hr:=hs.ev x
 rw[hx]at hr
 simp only[Rd]at hr
 obtain ⟨fs,cs,hv,hfs,hcs⟩:=hr
 simp only[RdL]at hfs
 subst hfs
 have hF:∀ j,κ j≠.new→j∈bn:=fun j hj=>Classical.byContradiction fun hn=>hj (by
  have:=hs.obj j
  rw[hbn j hn]at this
  exact this)
 have hrun:(execOp a.eval o).run C.P w=.ok (.defer ⟨.fn (.func g) cs.toArray,#[]⟩) w:=by
  simp[execOp,h,resolve,Deferred.ofValue,hv]
 show o.upon C.P a K _ ((execOp a.eval o).run C.P w)
 rw[hrun,Oper.upon_defer,hd]
 refine hK _ _ (hg ⟨w,κ,[⟨.fn (.func g) cs.toArray,#[]⟩]⟩ hF cs rfl hcs (fun κ2 w2 c2=>hs.ctx.onward c2) κ { a with defers:=_::a.defers } w ⟨?_,hs.size,hs.inv,?_,hs.slot,hs.obj⟩)
 ·show _::a.defers=_
  rw[hs.defers,h0]
 ·have:=Ctx.refl κ w
  exact⟨this.size,this.os,this.tape,this.output,this.M,this.old,this.own,this.nam⟩
end Go.Sy
namespace Go.Sy.YtgblchnfjbkipaaGreatDoor
open Go.Proofs
attribute [local irreducible] Go.Sy.G Go.Sy.DR
set_option maxRecDepth 100000
set_option maxHeartbeats 4000000
theorem Uo (ae al:Addr) (e:Int) (x:Value) (u:FrameMode) (w:World) (he:w.cell? ae=some (.int .i64 e)) (hl:w.cell? al=some x) (hz:w.frozen? al=false) :
  CallsD Tryz.prog 108 #[.pointer (some ae),.pointer (some al)] u w fun r u' w'=>u'=u∧(r=.returned (.tuple #[])∧w'=if e=0 then w else w.setCell al (.slice none 0 0)):=by
 by_cases h:e=0
 ·subst h
  go_enter_d Tryz.func108,Tryz.ntmps108
  go_wp2
  go_end0
  exact⟨q_,by simp⟩
 ·rw[if_neg h]
  go_enter_d Tryz.func108,Tryz.ntmps108
  go_wp2
  go_end0
  exact⟨q_,q_⟩
theorem Agm {κ0' κ:Ka} {w0 w:World} {k:Nat} {v:Value} {l:List SV} (h0:Rd κ0' w0 (.ptr k 0) v) (hn:κ0' k≠.new→κ k=κ0' k∨κ k=.dead) (ho:ObOK κ w k (.box l)):∃ b,κ k=.blk b∧v=.pointer (some ⟨b,0,none⟩):=by
 obtain ⟨b,cs,T,fr,e1,_⟩:=ho
 refine⟨b,e1,?_⟩
 have hne:κ0' k≠.new:=fun e=>by simp only[Rd,e]at h0
 rcases hn hne with h | h
 ·rw[e1]at h
  simp only[Rd,← h]at h0
  exact h0
 ·rw[e1]at h;cases h
theorem Aic {F F2:Fr} {n:Nat} {bn:List Nat} {hbn:∀ k,F2.k0 k≠.new→k∈bn} {k:List KI} {s:SS} {L:List LineM} {row e:Int} {cv:List Value} (hd:F2.ds=[⟨.fn (.func 108) cv.toArray,#[]⟩])
  (hcv:RdL F2.k0 F2.w0 [.ptr 4 0,.ptr 2 0] cv) (hctx:∀ κ w,Ctx F2 κ w→Ctx F κ w) (h2:s.h 2=.box [.sl 17 Ac L]) (h4:s.h 4=.box [Aa e]) (h3:s.σ 3=Aa row) (p2:s.σ 2=.ptr 2 0) (p4:s.σ 4=.ptr 4 0) :
  G ⟨Tryz.prog,Γ.toTy,F2,n,Ade Tryz.prog Tryz.f46 F (.tup [.sl 17 Ac (if e=0 then L else []),Aa row,Aa e]) [],bn,hbn⟩ (.code .ret::k) s:=by
 refine Ajh fun κ a w hs=>?_
 have o2:=hs.obj 2
 rw[h2]at o2
 have o4:=hs.obj 4
 rw[h4]at o4
 simp only[RdL]at hcv
 obtain ⟨v4,r4,rfl,hv4,v2,r2,rfl,hv2,rfl⟩:=hcv
 obtain ⟨b4,k4,rfl⟩:=Agm hv4 (hs.ctx.nam 4) o4
 obtain ⟨b2,k2,rfl⟩:=Agm hv2 (hs.ctx.nam 2) o2
 obtain ⟨b2',e1,c1,c2,st1,inv1,ob1⟩:=Si (off:=0) (x:=.val (.slice none 0 0)) (v:=.slice none 0 0) hs.inv o2 rfl (fun κ w=>by simp only[Rd]) rfl
 have ob1:ObOK κ (w.setCell ⟨b2',0,none⟩ (.slice none 0 0)) 2 (.box [.sl 17 Ac []]):=by
  obtain ⟨b,cs,T,fr,f1,f2,f3,f4,f5⟩:=ob1
  refine⟨b,cs,T,fr,f1,f2,f3,f4,?_⟩
  have f5:RdL κ _ [.val (.slice none 0 0)] cs:=f5
  simp only[RdL,Rd]at f5 ⊢
  obtain ⟨v,r,rfl,rfl,rfl⟩:=f5
  exact⟨_,_,q_,by simp[RdD],q_⟩
 rw[k2]at e1
 cases e1
 obtain ⟨b4',e4,d1,_,_,_,_⟩:=Si (off:=0) (x:=Aa e) (v:=.int .i64 e) hs.inv o4 rfl (fun κ w=>by simp[Rd,Aa]) rfl
 rw[k4]at e4
 cases e4
 obtain ⟨u4,hu4,hr4⟩:=d1 0 (Aa e) rfl
 have hu4':u4=.int .i64 e:=by simpa [Aa,Rd] using hr4
 subst hu4'
 obtain ⟨u2,hu2,_⟩:=c1 0 _ rfl
 show Leaves Tryz.prog Tryz.f46 a.tmps _ a.defers .returning w
 rw[hs.defers,hd]
 refine leaves_cons (f:=108) (args:=#[.pointer (some ⟨b4,0,none⟩),.pointer (some ⟨b2,0,none⟩)]) qf (by simp[go_sem]) ?_
 refine(Uo ⟨b4,0,none⟩ ⟨b2,0,none⟩ e u2 .returning w hu4 hu2 (c2 0 qf)).mono ?_
 rintro r u' w'' ⟨rfl,rfl,rfl⟩
 by_cases he:e=0
 ·rw[if_pos he,if_pos he]
  obtain ⟨v,g1,g2⟩:=Ki (P:=Tryz.prog) (Γ:=Γ.toTy) hs (fn:=Tryz.f46) (xs:=[.sl 17 Ac L,Aa row,Aa e]) rfl (.cons (.cell p2 h2 rfl rfl) (.cons (h3 ▸ .tmp) (.cons (.cell p4 h4 rfl rfl) .nil)))
  exact⟨v,g1,v,κ,rfl,hctx _ _ hs.ctx,hs.inv,g2,fun p hp=>by cases hp⟩
 ·rw[if_neg he,if_neg he]
  have hs2:St F2 n ⟨s.σ,upd s.h 2 (.box [.sl 17 Ac []])⟩ κ a (w.setCell ⟨b2,0,none⟩ (.slice none 0 0)):=⟨hs.defers,hs.size,inv1,hs.ctx.step inv1 st1,fun i=>Rd.step st1 _ _ (hs.slot i),fun j=>by
   show ObOK κ _ j (upd s.h 2 _ j)
   by_cases hj:j=2
   ·subst hj;exact ob1
   ·have:upd s.h 2 (.box [.sl 17 Ac []]) j=s.h j:=by
     simp only[upd]
     have:Nat.beq j 2=false:=by
      cases hb:Nat.beq j 2
      ·rfl
      ·exact absurd (Nat.eq_of_beq_eq_true hb) hj
     rw[this];rfl
    rw[this]
    exact ObOK.step st1 (show ¬ j=2 from hj) _ (hs.obj j)⟩
  obtain ⟨v,g1,g2⟩:=Ki (P:=Tryz.prog) (Γ:=Γ.toTy) hs2 (fn:=Tryz.f46) (xs:=[.sl 17 Ac [],Aa row,Aa e]) rfl (.cons (.cell p2 rfl rfl rfl) (.cons (h3 ▸ .tmp) (.cons (.cell p4 h4 rfl rfl) .nil)))
  exact⟨v,g1,v,κ,rfl,hctx _ _ hs2.ctx,inv1,g2,fun p hp=>by cases hp⟩
theorem Ms {F F2:Fr} {n:Nat} {bn:List Nat} {hbn:∀ k,F2.k0 k≠.new→k∈bn} {k:List KI} {s:SS} {L L':List LineM} {row e:Int} {cv:List Value} (hd:F2.ds=[⟨.fn (.func 108) cv.toArray,#[]⟩])
  (hcv:RdL F2.k0 F2.w0 [.ptr 4 0,.ptr 2 0] cv) (hctx:∀ κ w,Ctx F2 κ w→Ctx F κ w) (hL:(if e=0 then L else [])=L') (h2:s.h 2=.box [.sl 17 Ac L]) (h4:s.h 4=.box [Aa e]) (h3:s.σ 3=Aa row) (p2:s.σ 2=.ptr 2 0) (p4:s.σ 4=.ptr 4 0) :
  G ⟨Tryz.prog,Γ.toTy,F2,n,Ade Tryz.prog Tryz.f46 F (.tup [.sl 17 Ac L',Aa row,Aa e]) [],bn,hbn⟩ (.code .ret::k) s:=by
 subst hL
 exact Aic hd hcv hctx h2 h4 h3 p2 p4
theorem Kh:∀ (l cur:List UInt8),∀ s∈Cm cur l,s.size≤cur.length+l.length
 | [],cur,s,hs=>by
  rw[Cm]at hs
  split at hs
  ·cases hs
  ·simp at hs;rw[hs,Ax];simp
 | c::l,cur,s,hs=>by
  rw[Cm]at hs
  split at hs
  ·rcases List.mem_cons.1 hs with hs | hs
   ·rw[hs,Ax];simp
   ·have:=Kh l [] s hs
    simp at this ⊢;omega
  ·have:=Kh l (cur++[c]) s hs
   simp at this ⊢;omega
theorem Kg (b:List UInt8):(rowsT b).1.length≤400∧∀ s∈(rowsT b).1,s.size≤20000:=by
 rw[rowsT]
 split
 ·exact⟨by simp,fun s hs=>by cases hs⟩
 ·rename_i h1
  split
  ·exact⟨by simp,fun s hs=>by cases hs⟩
  ·rename_i h2
   refine⟨by dsimp only;omega,fun s hs=>?_⟩
   have:=Kh b [] s hs
   simp at this;omega
theorem Mm (r:ByteArray) (hr:r.size≤20000):(wordsT r).1.length≤20001∧∀ s∈(wordsT r).1,s.size≤40:=by
 have hl:=Il r.data.toList []
 have hrs:r.data.toList.length=r.size:=rfl
 rw[wordsT]
 split
 ·rename_i h
  refine⟨by dsimp only;omega,fun s hs=>?_⟩
  rw[List.all_eq_true]at h
  have:=h s hs
  simp only[wordB,Bool.and_eq_true,decide_eq_true_eq]at this
  exact this.1.2
 ·exact⟨by simp,fun s hs=>by cases hs⟩
theorem Adj (b:List UInt8) (hb:b.length≤1000000):Sy.Spec Tryz.prog 46 [.sl 1 Ak b] [] (.tup [.sl 17 Ac (textT b).1,Aa (textT b).2.1,Aa (textT b).2.2]) []:=Ae7 Γ hm 100 F46 Tryz.ntmps46 rfl fun F hF h0=>by
 have q1:=Aet b hb
 have hres:=textT.eq_1 b
 have hsm:=Kg b
 generalize textT b=res at *
 generalize rowsT b=rt at *
 obtain ⟨rows,e0⟩:=rt
 dsimp only at hres hsm q1
 refine T ?_
 refine Aja q_ q_ q_ q_ h0 [2,4] (fun j hj=>?_) ?_
 ·simp only[List.mem_cons,List.not_mem_nil,or_false,not_or]at hj
  have n2:Nat.beq j 2=false:=by
   cases hb:Nat.beq j 2
   ·rfl
   ·exact absurd (Nat.eq_of_beq_eq_true hb) hj.1
  have n4:Nat.beq j 4=false:=by
   cases hb:Nat.beq j 4
   ·rfl
   ·exact absurd (Nat.eq_of_beq_eq_true hb) hj.2
  simp[SS.upd,J6,upd,mkh,n2,n4]
 intro F2 hF2 cv hd hcv hctx
 refine T ?_
 refine C q1 F109 ?_
 cases hz:(e0 != 0)
 rotate_left
 ·have he:e0≠0:=by simpa using hz
  rw[if_pos he]at hres
  subst hres
  refine T ?_
  refine An 2 [.sl 17 Ac []] q_ (.cons .nil .nil) ?_
  exact Ms (L:=[]) hd hcv hctx qf q_ q_ q_ q_ q_
 have he0:e0=0:=by simpa using hz
 rw[if_neg (by simp[he0])]at hres
 subst he0
 obtain ⟨hlen,hsz⟩:=hsm
 refine T ?_
 refine Aac 2 0 1000 17 Ac q_ q_ q_ q_ ?_
 refine Av (fun x:Nat × List LineM=>res=En x.1 (rows.drop x.1) x.2∧x.1≤rows.length∧x.2.length≤x.1) (fun x=>[(2,.ptr 2 0),(4,.ptr 4 0),(20,.sl 1 Ab rows),(21,Aa rows.length),(22,Aa x.1)]) (fun x=>[(2,.box [.osl 1000]),(4,.box [Aa 0]),(1000,.row 17 Ac x.2)]) (fun x=>rows.length-x.1) (0,[]) [] ⟨hres,by simp,by simp⟩ U ?_
 rintro ⟨j,out⟩ ⟨hI,hj,hol⟩
 dsimp only at hI hj hol ⊢
 refine T ?_
 refine⟨fun h=>?_,fun h=>?_⟩
 ·have hlt:j<rows.length:=qA h
  have hlt0:((j:Nat):Int).toNat<rows.length:=hlt
  have hr:(rows[((j:Nat):Int).toNat]'hlt0).size≤20000:=hsz _ (List.getElem_mem _)
  have hdr:rows.drop j=rows[((j:Nat):Int).toNat]'hlt0::rows.drop (j+1):=List.drop_eq_getElem_cons hlt
  rw[hdr,En]at hI
  clear h
  have q2:=Ab2 (rows[((j:Nat):Int).toNat]'hlt0) j_
  have hws:=Mm (rows[((j:Nat):Int).toNat]'hlt0) hr
  generalize wordsT (rows[((j:Nat):Int).toNat]'hlt0)=wt at *
  obtain ⟨ws,we⟩:=wt
  dsimp only at hI hws q2
  cases hz:(we != 0)
  rotate_left
  ·have he:we≠0:=by simpa using hz
   rw[if_pos he]at hI
   subst hI
   refine T ?_
   refine C q2 F110 ?_
   refine An 2 [.sl 17 Ac []] q_ (.cons .nil .nil) ?_
   exact Ms (L:=[]) hd hcv hctx qf q_ q_ q_ q_ q_
  have he:we=0:=by simpa using hz
  rw[if_neg (by simp[he])]at hI
  by_cases hw0:ws.length=0
  ·rw[if_pos (List.eq_nil_of_length_eq_zero hw0)]at hI
   have f0:((ws.length:Int) == 0)=true:=by rw[hw0];rfl
   refine T ?_
   refine C q2 F110 ?_
   exact Ag (j+1,out) [] ⟨hI,hlt,by dsimp only;omega⟩ (by dsimp only;omega) U
  ·rw[if_neg (fun e=>hw0 (by rw[e];rfl))]at hI
   have f0:((ws.length:Int) == 0)=false:=by rw[beq_eq_false_iff_ne];omega
   have q3:=Adr ws ((j:Int)+1) j_ hws.2
   generalize Ba ws ((j:Int)+1)=st at *
   obtain ⟨l,se⟩:=st
   dsimp only at hI q3
   cases hz2:(se != 0)
   rotate_left
   ·have he2:se≠0:=by simpa using hz2
    rw[if_pos he2]at hI
    subst hI
    refine T ?_
    refine C q2 F110 ?_
    refine C q3 F111 ?_
    refine A5 1000 q_ ?_
    exact Ms (L:=out) hd hcv hctx (if_neg he2) q_ q_ q_ q_ q_
   ·have he2:se=0:=by simpa using hz2
    rw[if_neg (by simp[he2])]at hI
    refine T ?_
    refine C q2 F110 ?_
    refine C q3 F111 ?_
    refine X (Ai Γ.toTy 56 q_ q_ q_ q_ q_ (.row q_) (.lit (e:=Ac) (l:=[l]) q_ q_) qf (by simp;omega) (by simp;omega)) ?_
    exact Ag (j+1,out++[l]) [(1000,56)] ⟨hI,hlt,by simp;omega⟩ (by dsimp only;omega) U
 ·have hje:j=rows.length:=qB h
  subst hje
  rw[List.drop_length,En]at hI
  subst hI
  clear h
  refine T ?_
  refine A5 1000 q_ ?_
  exact Ms (L:=out) hd hcv hctx (if_pos q_) q_ q_ q_ q_ q_
theorem Im:∀ (l:List ByteArray) (k:Nat),(∀ x∈l,x.size≤k)→Ea l≤k * l.length
 | [],k,_=>by simp[Ea]
 | x::l,k,h=>by
  have h1:=h x qf
  have h2:=Im l k (fun y hy=>h y (by simp[hy]))
  simp only[Ea,List.map_cons,List.sum_cons,List.length_cons]at h2 ⊢
  rw[Nat.mul_succ]
  omega
theorem Zj {l:List Int} (hl:l.length≤100000) (h:∀ x∈l,Dq x):(Dz l).size≤20000000:=by
 have h1:=Eo (l.map Al) comma
 have h2:=Ia (tx:=Al) l (fun x hx=>by have:=D3 (h x hx);omega)
 have h3:comma.size=1:=rfl
 rw[List.length_map,h3]at h1
 rw[Dz];omega
theorem Kd {l:List Int} (hl:l.length≤100000) (h:∀ x∈l,Dq x):(By l).size≤20000000:=by
 rw[By]
 split
 ·decide
 ·exact Zj hl h
theorem X1 {l:List Int} (hl:l.length≤100000):(B9 l).size≤20000000:=by
 have h1:=Eo (l.map Be) comma
 have h2:=Ia (tx:=Be) l (fun x _=>Cy x)
 have h3:comma.size=1:=rfl
 rw[List.length_map,h3]at h1
 rw[B9];omega
theorem Ab0 (m:Int):(Ao m).size≤20000000:=by
 have:=Od m.toNat 6
 rw[Ao,Ax];omega
theorem Us (a b:Int):(B0 a b).size≤20000000:=by
 rw[B0]
 split
 ·have h1:=Cy a
  have h2:=Bw 2 b.toNat j_
  rw[Ax,List.length_append,List.length_append,List.length_reverse]
  have:(Be a).data.toList.length=(Be a).size:=rfl
  simp;omega
 ·decide
theorem Qr {l:LineM} (h:LineX l):(Do l).length≤7∧∀ x∈Do l,x.size≤20000000:=by
 have hd:=h.w.dev;have hp:=h.w.port;have hpe:=h.w.peer;have hf:=h.w.far;have hn:=h.w.name
 have nv:=D3 h.vlan
 have nn:=D3 h.num
 have nc:=D3 h.cost
 have s1:=Kd h.w.fin.t h.tagged
 have s2:=Kd h.w.fin.i h.imports
 have s3:=Kd h.w.fin.e h.exports
 have s4:=X1 (l:=l.addrs) h.w.fin.a
 have s5:=Ab0 l.mac
 have s6:=Us l.addr l.bits
 have s7:=Cy l.addr
 have z1:accessT.size=6:=rfl
 have z2:trunkT.size=5:=rfl
 have z3:dash.size=1:=rfl
 have lz:∀ a:Array UInt8,a.size≤20→(⟨a⟩:ByteArray).size≤20000000:=fun a ha=>Nat.le_trans ha qe
 generalize e:Do l=ws
 rw[Do,Ah,Hk]at e
 repeat' split at e
 all_goals subst e
 all_goals refine⟨by simp,?_⟩
 all_goals try simp only[List.forall_mem_cons]
 all_goals repeat' apply And.intro
 all_goals first | omega | (split<;>omega) | (exact lz _ qe) | (intro x hx;cases hx)
theorem Zk {l:LineM} (h:LineX l):(Bn (Do l) space).size≤150000000:=by
 obtain ⟨h1,h2⟩:=Qr h
 have h3:=Eo (Do l) space
 have h4:=Im _ _ h2
 have h5:space.size=1:=rfl
 rw[h5]at h3
 have:20000000 * (Do l).length≤20000000 * 7:=Nat.mul_le_mul_left _ h1
 omega
theorem Aae (l:LineM):Do l=[]↔A7 l=false:=by
 rw[Do]
 cases hr:A7 l with
 | false=>simp
 | true =>
  have hk:=Tl hr
  rw[if_pos rfl]
  constructor
  ·intro e
   exfalso
   rcases (by omega:l.kind=1∨l.kind=2∨l.kind=3∨l.kind=4∨l.kind=5∨l.kind=6∨l.kind=7∨l.kind=8∨l.kind=9) with h9 | h9 | h9 | h9 | h9 | h9 | h9 | h9 | h9
   all_goals (simp(config:={decide:=true}) only [Ah,h9,Hk,if_true,if_false]at e)
   all_goals (repeat' split at e)
   all_goals first | (simp at e;done) | omega | (exact absurd e qf)
  ·intro e;cases e
theorem Aeu (l:List ByteArray) (h0:l.length≤100000) (h1:Ea l≤10000000000):Sy.Spec Tryz.prog 195 [.sl 1 Ab l] [] (Ab (Bn l space)) []:=cT F195 Tryz.ntmps195 fun F hF=>by
 have q:=Td l space j_ j_ (by show 1 * l.length≤_;omega)
 generalize Bn l space=r at *
 refine T ?_
 refine C q F255 ?_
 exact D
theorem Abq (l:LineM) (h:LineX l):Sy.Spec Tryz.prog 112 [Ac l] [] (.tup [Ab (if A7 l=true then Bn (Do l) space else ⟨#[]⟩),Aa (if A7 l=true then 0 else 2)]) []:=cT F112 Tryz.ntmps112 fun F hF=>by
 have q1:=Yy l h
 obtain ⟨z1,z2⟩:=Qr h
 have z3:=Im _ _ z2
 have z4:20000000 * (Do l).length≤20000000 * 7:=Nat.mul_le_mul_left _ z1
 have q2:=Aeu (Do l) j_ j_
 have hn:=Aae l
 generalize Do l=ws at *
 cases hr:A7 l with
 | true =>
  rw[if_pos rfl,if_pos rfl]
  have hne:ws.length≠0:=fun e=>by
   have:=hn.1 (List.eq_nil_of_length_eq_zero e)
   rw[hr]at this;cases this
  have f0:((ws.length:Int) == 0)=false:=by rw[beq_eq_false_iff_ne];omega
  refine T ?_
  refine C q1 F194 ?_
  refine C q2 F195 ?_
  exact D
 | false =>
  rw[if_neg qf,if_neg qf]
  have he:ws=[]:=hn.2 hr
  subst he
  refine T ?_
  refine C q1 F194 ?_
  exact D
theorem Yz (x:LineM) (r:List LineM) (b:List UInt8) (h:A7 x=false):Da (x::r) b=([],2):=by
 rw[Da,if_pos h]
theorem W7 (x:LineM) (r:List LineM) (b:List UInt8) (h:A7 x=true):Da (x::r) b=Da r (b++(Bn (Do x) space).data.toList++[10]):=by
 rw[Da,if_neg (by rw[h];simp),Do,if_pos h]
theorem Abo (l:List LineM) (h:∀ x∈l,LineX x) (hl:l.length≤100000):Sy.Spec Tryz.prog 47 [.sl 17 Ac l] [] (.tup [.sl 1 Ak (plainT l).1,Aa (plainT l).2]) []:=cT F47 Tryz.ntmps47 fun F hF=>by
 have hres:=plainT.eq_1 l
 generalize plainT l=res at *
 refine T ?_
 refine Ct 4 1000 1 Ak q_ q_ ?_
 refine T ?_
 refine Av (fun x:Nat × List UInt8=>Da l []=Da (l.drop x.1) x.2∧x.1≤l.length∧x.2.length≤200000000 * x.1) (fun x=>[(0,.sl 17 Ac l),(4,.osl 1000),(9,.sl 17 Ac l),(10,Aa l.length),(11,Aa x.1)]) (fun x=>[(1000,.row 1 Ak x.2)]) (fun x=>l.length-x.1) (0,[]) [] ⟨q_,by simp,by simp⟩ U ?_
 rintro ⟨j,b⟩ ⟨hI,hj,hbl⟩
 dsimp only at hI hj hbl ⊢
 refine T ?_
 refine⟨fun h2=>?_,fun h2=>?_⟩
 ·have hlt:j<l.length:=by have:=of_decide_eq_true h2;omega
  have hlt0:((j:Nat):Int).toNat<l.length:=hlt
  clear h2
  have hdr:l.drop j=l[((j:Nat):Int).toNat]'hlt0::l.drop (j+1):=List.drop_eq_getElem_cons hlt
  have hx:=h (l[((j:Nat):Int).toNat]'hlt0) (List.getElem_mem _)
  have q:=Abq _ hx
  have hsz:=Zk hx
  rw[hdr]at hI
  have hjb:200000000 * j≤200000000 * 100000:=Nat.mul_le_mul_left _ j_
  cases hr:A7 (l[((j:Nat):Int).toNat]'hlt0) with
  | false =>
   rw[hr,if_neg qf,if_neg qf]at q
   rw[Yz _ _ _ hr]at hI
   rw[hI,if_pos qe]at hres
   subst hres
   refine T ?_
   refine C q F112 ?_
   refine Bm 2 1 Ak q_ ?_
   refine T ?_
   exact D
  | true =>
   rw[hr,if_pos rfl,if_pos rfl]at q
   rw[W7 _ _ _ hr]at hI
   generalize Bn (Do (l[((j:Nat):Int).toNat]'hlt0)) space=t at *
   have htl:t.data.toList.length=t.size:=rfl
   refine T ?_
   refine C q F112 ?_
   refine X (Xp Γ.toTy 25 q_ q_ q_ q_ q_ q_ q_ (.row q_) q_ qe j_ j_) ?_
   refine X (Ai Γ.toTy 27 q_ q_ q_ q_ q_ (.row q_) (.lit (e:=Ak) (l:=[10]) q_ q_) qe (by simp;omega) (by simp;omega)) ?_
   refine Ag (j+1,b++t.data.toList++[10]) [(1000,27)] ⟨hI,hlt,?_⟩ (by dsimp only;omega) U
   simp only[List.length_append,List.length_singleton,htl]
   omega
 ·have hje:j=l.length:=by have:=of_decide_eq_false h2;omega
  subst hje
  clear h2
  rw[List.drop_length,Da]at hI
  rw[hI]at hres
  dsimp only at hres
  rw[if_neg qf]at hres
  by_cases c1:400<l.length
  ·rw[if_pos (.inl c1)]at hres
   have f1:decide ((l.length:Int)>400)=true:=decide_eq_true j_
   subst hres
   refine T ?_
   refine Bm 2 1 Ak q_ ?_
   refine T ?_
   exact D
  ·have f1:decide ((l.length:Int)>400)=false:=decide_eq_false j_
   by_cases c2:20000<b.length
   ·rw[if_pos (.inr c2)]at hres
    have f2:decide ((b.length:Int)>20000)=true:=decide_eq_true j_
    subst hres
    refine T ?_
    refine Bm 2 1 Ak q_ ?_
    refine T ?_
    exact D
   ·rw[if_neg j_]at hres
    have f2:decide ((b.length:Int)>20000)=false:=decide_eq_false j_
    subst hres
    refine T ?_
    refine A5 1000 q_ ?_
    refine T ?_
    exact D
end Go.Sy.YtgblchnfjbkipaaGreatDoor
namespace Go.Sy.YtgblchnfjbkipaaGreatDoor
open Go.Proofs
def exA:List UInt8:=[112,111,114,116,32,97,32,112,32,49,32,97,99,99,101,115,115,32,49,48,10,100,101,118,105,99,101,32,97,32,49,32,48,48,58,48,48,58,48,48,58,48,48,58,48,48,58,48,49]
def exB:List UInt8:=[100,101,118,105,99,101,32,97,32,49,32,48,48,58,48,48,58,48,48,58,48,48,58,48,48,58,48,49,10,112,111,114,116,32,97,32,112,32,49,32,97,99,99,101,115,115,32,49,48,10]
set_option maxRecDepth 100000 in
theorem Agq:orderT exA=(exB,0,0):=by kernel_rfl
set_option maxRecDepth 100000 in
theorem Q3:(textT exA).1=[{ lineZ with row:=1,kind:=2,dev:=⟨#[97]⟩,port:=⟨#[112]⟩,cost:=1,vlan:=10 },{ lineZ with row:=2,kind:=1,dev:=⟨#[97]⟩,num:=1,mac:=1 }]:=by kernel_rfl
end Go.Sy.YtgblchnfjbkipaaGreatDoor
namespace Go.Sy.YtgblchnfjbkipaaGreatDoor
open Go.Proofs
attribute [local irreducible] Go.Sy.G Go.Sy.DR
set_option maxRecDepth 100000
set_option maxHeartbeats 4000000
theorem Ads (l:LineM) (h:LineFin l):Sy.Spec Tryz.prog 35 [Ac l] [] (Ac l) []:=cT F35 Tryz.ntmps35 fun F hF=>by
 have ht:=h.t;have hi:=h.i;have he:=h.e;have ha:=h.a
 refine T ?_
 refine C (Ql l.tagged j_) F99 ?_
 refine C (Ql l.imports j_) F99 ?_
 refine C (Ql l.exports j_) F99 ?_
 refine C (Afb l.addrs j_) F100 ?_
 exact D
theorem Aez (M:List LineM) (h:∀ x∈M,LineFin x) (hl:M.length<1000000):Sy.Spec Tryz.prog 39 [.sl 17 Ac M,.clo (.func 38) [] []] [] (Af (Hr M)) []:=cT F39 Tryz.ntmps39 fun F hF=>by
 refine T ?_
 refine Av (fun i:Int=>-1≤i∧i+1≤M.length∧∀ j (hj:j+1<M.length),i≤j→Dd M[j+1] M[j]=false) (fun i=>[(0,.sl 17 Ac M),(1,.clo (.func 38) [] []),(5,Aa i)]) (fun _=>[]) (fun i=>(i+1).toNat) ((M.length:Int)-1) [] ⟨by omega,by omega,fun j hj h1=>by omega⟩ U ?_
 rintro i ⟨h1,h2,h3⟩
 refine T ?_
 refine⟨fun h4=>?_,fun h4=>?_⟩
 ·have hi:0<i:=by have:=of_decide_eq_true h4;omega
  clear h4
  have b1:i.toNat<M.length:=by omega
  have b2:(i-1).toNat<M.length:=by omega
  have g1:0≤i:=by omega
  have g2:0≤i-1:=by omega
  have q:=Iy (M[i.toNat]'b1) (M[(i-1).toNat]'b2) (h _ (List.getElem_mem _)) (h _ (List.getElem_mem _))
  have hB:Dd (M[i.toNat]'b1) (M[(i-1).toNat]'b2)=decide (Kq (M[i.toNat]'b1) (M[(i-1).toNat]'b2)<0):=rfl
  have hk:i.toNat=(i-1).toNat+1:=by omega
  cases hd:decide (Kq (M[i.toNat]'b1) (M[(i-1).toNat]'b2)<0) with
  | true =>
   rw[hd]at hB
   have hO:Hr M=false:=Y1 (j:=(i-1).toNat) j_ (by simp only[hk]at hB;exact hB)
   rw[hO]
   clear hB h3
   generalize Kq (M[i.toNat]'b1) (M[(i-1).toNat]'b2)=z at *
   refine T ?_
   refine Qm ⟨⟨_,_,F38⟩,q⟩ q_ q_ q_ q_ y_ q_ ?_
   refine T ?_
   exact D
  | false =>
   rw[hd]at hB
   generalize hz:Kq (M[i.toNat]'b1) (M[(i-1).toNat]'b2)=z at *
   refine T ?_
   refine Qm ⟨⟨_,_,F38⟩,q⟩ q_ q_ q_ q_ y_ q_ ?_
   refine T ?_
   refine Ag (i-1) [] ⟨by omega,by omega,fun j hj h9=>?_⟩ j_ U
   by_cases hji:i≤j
   ·exact h3 j hj hji
   ·have hj2:j=(i-1).toNat:=by omega
    subst hj2
    simp only[hk]at hB;exact hB
 ·have hi:i≤0:=by have:=of_decide_eq_false h4;omega
  have hO:Hr M=true:=W9 fun j hj=>h3 j hj j_
  rw[hO]
  clear h4 h3
  refine T ?_
  exact D
def C3 (k:Nat) (l:List LineM):List LineM:=Ic (l.take k)++l.drop k
theorem Th (k:Nat) (l:List LineM):(C3 k l).length=l.length:=by
 rw[C3,List.length_append,K4,← List.length_append,List.take_append_drop]
theorem Qy (l:List LineM):C3 0 l=l:=by simp[C3,Ic]
theorem Ti (l:List LineM):C3 l.length l=Ic l:=by simp[C3]
theorem Vd {k:Nat} {l:List LineM} (h:k<l.length) (h2:k<(C3 k l).length):(C3 k l)[k]'h2=l[k]:=by
 have e:(Ic (l.take k)).length=k:=by rw[K4,List.length_take];omega
 simp only[C3]
 rw[List.getElem_append_right j_]
 simp only[e,Nat.sub_self,List.getElem_drop,Nat.add_zero]
theorem Qz {k:Nat} {l:List LineM} (h:k<l.length):C3 (k+1) l=(C3 k l).set k { l[k] with row:=(k:Int)+1 }:=by
 have e:(Ic (l.take k)).length=k:=by rw[K4,List.length_take];omega
 rw[C3,C3,List.take_succ_eq_append_getElem h,List.set_append_right _ _ j_,e,Nat.sub_self,List.drop_eq_getElem_cons h,List.set_cons_zero]
 have:Ic (l.take k++[l[k]])=Ic (l.take k)++[{ l[k] with row:=(k:Int)+1 }]:=by
  unfold Ic
  rw[List.mapIdx_append]
  have:(l.take k).length=k:=by rw[List.length_take];omega
  simp[this]
 rw[this]
 simp
theorem Abu (M:List LineM) (h:∀ x∈M,LineFin x) (hl:M.length<100000):Sy.Spec Tryz.prog 15 [.sl 17 Ac M] [] (.sl 17 Ac (Bp M)) []:=cT F15 Tryz.ntmps15 fun F hF=>by
 have hsl:Bp M=Ic (Bb Dd M):=rfl
 have hlen:=Dl Dd M
 generalize Bp M=res at *
 refine T ?_
 refine Ct 3 1000 17 Ac q_ q_ ?_
 refine T ?_
 refine Av (fun j:Nat=>j≤M.length) (fun j=>[(0,.sl 17 Ac M),(3,.osl 1000),(7,.sl 17 Ac M),(8,Aa M.length),(9,Aa j)]) (fun j=>[(1000,.row 17 Ac (M.take j))]) (fun j=>M.length-j) 0 [] qf U ?_
 intro j hj
 have htl:(M.take j).length=j:=by rw[List.length_take];omega
 refine T ?_
 refine⟨fun h2=>?_,fun h2=>?_⟩
 ·have hlt:j<M.length:=by have:=of_decide_eq_true h2;omega
  have hlt0:((j:Nat):Int).toNat<M.length:=hlt
  clear h2
  have hdr:M.take (j+1)=M.take j++[M[((j:Nat):Int).toNat]'hlt0]:=List.take_succ_eq_append_getElem hlt
  have q:=Ads (M[((j:Nat):Int).toNat]'hlt0) (h _ (List.getElem_mem _))
  generalize M.take j=Q at *
  refine T ?_
  refine C q F35 ?_
  refine X (Ai Γ.toTy 17 q_ q_ q_ q_ q_ (.row q_) (.lit (e:=Ac) (l:=[M[((j:Nat):Int).toNat]'hlt0]) q_ q_) qf (by simp;omega) (by simp;omega)) ?_
  exact Ag (j+1) [(1000,17)] hlt j_ ⟨⟨q_,q_,q_,q_,q_,q_,q_,q_,q_,q_,z_⟩,⟨.inl (congrArg (Ob.row 17 Ac) hdr),q_,z_⟩,q_,q_⟩
 ·have hje:j=M.length:=by have:=of_decide_eq_false h2;omega
  subst hje
  clear h2
  rw[List.take_length]
  have q:=Afy Kq LineFin 37 [] [] rfl (fun a b ha hb=>⟨⟨_,_,F37⟩,Y2 a b ha hb⟩) Dd rfl lineB_ordy M h j_
  generalize Bb Dd M=Y at *
  have hl2:M.length=Y.length:=hlen.symm
  refine T ?_
  refine X (Ae [(0,1000)] q_ F36 q q_ ⟨q_,z_⟩ q_ ⟨.inl q_,z_⟩) ?_
  refine T ?_
  refine Av (fun j:Nat=>j≤Y.length) (fun j=>[(3,.osl 1000),(22,Aa Y.length),(23,Aa j)]) (fun j=>[(1000,.row 17 Ac (C3 j Y))]) (fun j=>Y.length-j) 0 [] qf ⟨⟨q_,q_,q_,q_,q_,q_,z_⟩,⟨.inl (congrArg (Ob.row 17 Ac) (Qy Y)),q_,z_⟩,q_,q_⟩ ?_
  intro j hj
  have hrl:=Th j Y
  refine T ?_
  refine⟨fun h2=>?_,fun h2=>?_⟩
  ·have hlt:j<Y.length:=by have:=of_decide_eq_true h2;omega
   have hlt0:((j:Nat):Int).toNat<(C3 j Y).length:=by show j<_;omega
   clear h2
   have hnx:=Qz hlt
   have hne:C3 j Y≠[]:=fun e=>by rw[e]at hrl;simp at hrl;omega
   have hat:(C3 j Y)[((j:Nat):Int).toNat]'hlt0=Y[j]:=Vd hlt _
   generalize Y[j]=l at *
   generalize C3 j Y=R at *
   refine T ?_
   rw[← hat]at hnx
   clear hat
   refine⟨hne,?_⟩
   refine T ?_
   refine⟨{ (R[((j:Nat):Int).toNat]'hlt0) with row:=(j:Int)+1 },rfl,rfl,?_⟩
   refine T ?_
   exact Ag (j+1) [] hlt j_ ⟨⟨q_,q_,q_,q_,q_,q_,z_⟩,⟨.inl (congrArg (Ob.row 17 Ac) hnx),q_,z_⟩,q_,q_⟩
  ·have hje:j=Y.length:=by have:=of_decide_eq_false h2;omega
   subst hje
   clear h2
   rw[Ti,← hsl]
   refine A5 1000 q_ ?_
   refine T ?_
   exact D
theorem Yb {M:List LineM} (h:∀ x∈M,LineX x):∀ x∈Bp M,LineX x:=by
 intro x hx
 rw[Bp,Ic,List.mem_mapIdx]at hx
 obtain ⟨i,hi,rfl⟩:=hx
 obtain ⟨⟨⟨a1,a2,a3,a4⟩,b2,b3,b4,b5,b6,b7⟩,c1,c2,c3,c4,c5,c6⟩:=h _ (Es _ _ _ (List.getElem_mem hi))
 exact⟨⟨⟨a1,a2,a3,a4⟩,⟨b2.mac,b2.addr,b2.addrs⟩,b3,b4,b5,b6,b7⟩,c1,c2,c3,c4,c5,c6⟩
theorem Tp (b:List UInt8) (hb:b.length≤1000000) (h:∀ x∈(textT b).1,LineX x) (hl:(textT b).1.length<100000):Sy.Spec Tryz.prog 21 [.sl 1 Ak b] [] (.tup [.sl 1 Ak (orderT b).1,Aa (orderT b).2.1,Aa (orderT b).2.2]) []:=cT F21 Tryz.ntmps21 fun F hF=>by
 have q1:=Adj b hb
 have q2:=Abu (textT b).1 (fun x hx=>(h x hx).w.fin) hl
 have hsl:(Bp (textT b).1).length=(textT b).1.length:=Lo _
 have q3:=Abo (Bp (textT b).1) (Yb h) j_
 have hres:=orderT.eq_1 b
 generalize orderT b=res at *
 generalize textT b=tt at *
 obtain ⟨M,r,e⟩:=tt
 dsimp only at q1 q2 q3 hres
 generalize Bp M=Y at *
 generalize plainT Y=pt at *
 obtain ⟨o,oe⟩:=pt
 dsimp only at q3 hres
 cases hz:(e != 0) with
 | true =>
  have he:e≠0:=by simpa using hz
  rw[if_pos he]at hres
  subst hres
  refine T ?_
  refine C q1 F46 ?_
  refine Bm 2 1 Ak q_ ?_
  refine T ?_
  exact D
 | false =>
  have he:e=0:=by simpa using hz
  rw[if_neg (by simp[he])]at hres
  subst hres
  refine T ?_
  refine C q1 F46 ?_
  refine C q2 F15 ?_
  refine C q3 F47 ?_
  exact D
theorem Xa:∀ x∈(textT exA).1,LineX x:=by
 rw[Q3]
 intro x hx
 simp only[List.mem_cons,List.not_mem_nil,or_false]at hx
 rcases hx with rfl | rfl
 all_goals exact⟨⟨⟨by decide,by decide,by decide,by decide⟩,⟨by decide,by decide,fun x hx=>(by cases hx)⟩,by decide,by decide,by decide,by decide,by decide⟩,(by unfold Dq;decide),(by unfold Dq;decide),(by unfold Dq;decide),fun x hx=>(by cases hx),fun x hx=>(by cases hx),fun x hx=>(by cases hx)⟩
theorem Vt:LineFin lineZ:=⟨by decide,by decide,by decide,by decide⟩
theorem Y0:Sy.Spec Tryz.prog 17 [.val (.slice none 0 0)] [] (Af true) []:=cT F17 Tryz.ntmps17 fun F hF=>by
 have q:=Aez [] (fun x hx=>by cases hx) qe
 rw[show Hr []=true from rfl]at q
 refine T ?_
 refine Bm 3 17 Ac q_ ?_
 refine C q F39 ?_
 exact D
theorem Afj:Sy.Spec Tryz.prog 13 [] [] (Af true) []:=cT F13 Tryz.ntmps13 fun F hF=>by
 have q1:=Tp exA qe Xa (by rw[Q3];decide)
 rw[Agq]at q1
 dsimp only at q1
 have q2:=Y0
 have q3:=Abv lineZ lineZ Vt Vt
 rw[lineB_ordy.ne lineZ]at q3
 have hb:((⟨exB.toArray⟩:ByteArray) == ⟨#[100,101,118,105,99,101,32,97,32,49,32,48,48,58,48,48,58,48,48,58,48,48,58,48,48,58,48,49,10,112,111,114,116,32,97,32,112,32,49,32,97,99,99,101,115,115,32,49,48,10]⟩)=true:=beq_iff_eq.2 rfl
 refine T ?_
 refine X (Ok Γ.toTy q_ q_ q_ q_ q_ q_ q_) ?_
 refine C7 5 Ak exA q_ q_ ?_
 refine A5 5 q_ ?_
 refine C q1 F21 ?_
 refine X (Bk Γ.toTy (bs:=exB) q_ q_ q_ q_ q_ q_ q_ .sl) ?_
 refine C q2 F17 ?_
 refine G_vw 26 (Ac lineZ) (.agg (.cons (.refl _) (.cons (.refl _) (.cons (.refl _) (.cons (.refl _) (.cons (.refl _) (.cons (.refl _) (.cons (.refl _) (.cons (.refl _) (.cons (.refl _) (.cons (.refl _) (.cons (.refl _) (.cons (.refl _) (.cons (.refl _) (.cons .nil (.cons .nil (.cons .nil (.cons .nil .nil)))))))))))))))))) ?_
 refine G_vw 27 (Ac lineZ) (.agg (.cons (.refl _) (.cons (.refl _) (.cons (.refl _) (.cons (.refl _) (.cons (.refl _) (.cons (.refl _) (.cons (.refl _) (.cons (.refl _) (.cons (.refl _) (.cons (.refl _) (.cons (.refl _) (.cons (.refl _) (.cons (.refl _) (.cons .nil (.cons .nil (.cons .nil (.cons .nil .nil)))))))))))))))))) ?_
 refine C q3 F19 ?_
 exact D
theorem Agv (M:List LineM) (h:∀ x∈M,LineF x) (hl:M.length<100000):Sy.Spec Tryz.prog 16 [.sl 17 Ac M] [] (.sl 17 Ac (Bp M)) []:=cT F16 Tryz.ntmps16 fun F hF=>by
 have hsl:Bp M=Ic (Bb Dd M):=rfl
 have hfull:=List.take_length (l:=M)
 generalize Bp M=res at *
 refine T ?_
 refine Ct 3 1000 17 Ac q_ q_ ?_
 refine T ?_
 refine Av (fun j:Nat=>j≤M.length) (fun j=>[(0,.sl 17 Ac M),(3,.osl 1000),(4,Aa j)]) (fun j=>[(1000,.row 17 Ac (Bb Dd (M.take j)))]) (fun j=>M.length-j) 0 [] qf U ?_
 intro j hj
 have hol:=Dl Dd (M.take j)
 rw[List.length_take]at hol
 have hjl:min j M.length=j:=by omega
 rw[hjl]at hol
 have hof:∀ y∈Bb Dd (M.take j),LineF y:=fun y hy=>h y (List.mem_of_mem_take (Es Dd _ y hy))
 refine T ?_
 refine⟨fun h2=>?_,fun h2=>?_⟩
 ·have hlt:j<M.length:=by have:=of_decide_eq_true h2;omega
  have hlt0:((j:Nat):Int).toNat<M.length:=hlt
  clear h2
  have hsn:Bb Dd (M.take (j+1))=Kr Dd (M[((j:Nat):Int).toNat]'hlt0) (Bb Dd (M.take j)):=by rw[List.take_succ_eq_append_getElem hlt,Ji];rfl
  have hx:=h (M[((j:Nat):Int).toNat]'hlt0) (List.getElem_mem _)
  generalize Bb Dd (M.take j)=out at *
  refine A5 1000 q_ ?_
  refine T ?_
  refine Av (InsI Dd (M[((j:Nat):Int).toNat]'hlt0) out) (fun q=>[(0,.sl 17 Ac M),(3,.sl 17 Ac out),(4,Aa j),(5,Aa q.1.length)]) (fun _=>[]) (fun q=>q.1.length) (out,[]) [] ⟨List.append_nil _,fun y hy=>(by cases hy)⟩ U ?_
  intro q hq
  obtain ⟨O1,O2⟩:=q
  obtain ⟨hq1,hq2⟩:=hq
  dsimp only at hq1 hq2 ⊢
  have hrun:=Zp Dd (M[((j:Nat):Int).toNat]'hlt0) O1 O2 hq2
  rw[hq1]at hrun
  have hlo:O1.length+O2.length=out.length:=by rw[← hq1,List.length_append]
  rcases List.eq_nil_or_concat O1 with e1 | ⟨c1,y,e1⟩
  ·subst e1
   have hrun:=hrun (.inl rfl)
   have f1:decide (((([]:List LineM).length:Nat):Int)>0)=false:=rfl
   refine T ?_
   refine X (Cw (lo:=0) (hi:=([]:List LineM).length) Γ.toTy ([]:List LineM) q_ q_ q_ q_ (.inl ⟨q_,q_⟩) (.inr ⟨_,_,q_,q_⟩) (Nat.zero_le _) j_ (by rw[List.drop_zero,← hq1];exact List.take_left' q_)) ?_
   refine X (Ai Γ.toTy 36 q_ q_ q_ q_ q_ (.lit (e:=Ac) (l:=[]) q_ q_) (.sl (l:=([]:List LineM))) qf (by simp only[List.length_nil];omega) (by simp only[List.length_nil];omega)) ?_
   refine X (Ai Γ.toTy 43 q_ q_ q_ q_ q_ (.row q_) (.lit (e:=Ac) (l:=[M[((j:Nat):Int).toNat]'hlt0]) q_ q_) qf (by simp only[List.length_append,List.length_nil,List.length_singleton];omega) (by simp only[List.length_append,List.length_nil,List.length_singleton];omega)) ?_
   refine X (Cw (lo:=([]:List LineM).length) (hi:=out.length) Γ.toTy O2 q_ q_ q_ q_ (.inr ⟨_,_,q_,q_⟩) (.inl ⟨q_,q_⟩) j_ (Nat.le_refl _) (by rw[List.take_length,← hq1];exact List.drop_left' q_)) ?_
   refine X (Ai Γ.toTy 48 q_ q_ q_ q_ q_ (.row q_) (.sl (l:=O2)) qf (by simp only[List.length_append,List.length_nil,List.length_singleton];omega) (by simp only[List.length_append,List.length_nil,List.length_singleton];omega)) ?_
   have hfin:Bb Dd (M.take (j+1))=[]++([]:List LineM)++[M[((j:Nat):Int).toNat]'hlt0]++O2:=by rw[hsn,hrun];simp
   exact Ag (j+1) [(1000,48)] hlt j_ ⟨⟨q_,q_,q_,q_,q_,q_,z_⟩,⟨.inl (congrArg (Ob.row 17 Ac) hfin),q_,z_⟩,q_,q_⟩
  ·subst e1
   have hcl:(c1.concat y).length=c1.length+1:=by simp
   have f1:decide (((c1.concat y).length:Int)>0)=true:=decide_eq_true j_
   have b1:(((c1.concat y).length:Int)-1).toNat<out.length:=by omega
   have ey:out[(((c1.concat y).length:Int)-1).toNat]'b1=y:=by
    have e:(((c1.concat y).length:Int)-1).toNat=c1.length:=by omega
    subst hq1
    simp only[e]
    rw[List.getElem_append_left j_]
    simp
   have q:=Agx (M[((j:Nat):Int).toNat]'hlt0) (out[(((c1.concat y).length:Int)-1).toNat]'b1) hx (hof _ (List.getElem_mem _))
   rw[ey]at q
   cases hd:Dd (M[((j:Nat):Int).toNat]'hlt0) y with
   | true =>
    rw[hd]at q
    rw[← ey]at q
    refine T ?_
    refine C q F20 ?_
    exact Ag (c1,y::O2) [] ⟨by rw[← hq1];simp,fun z hz=>by
     rcases List.mem_cons.1 hz with rfl | hz
     ·exact hd
     ·exact hq2 z hz⟩ (by dsimp only;omega) ⟨⟨q_,q_,q_,q_,q_,q_,congrArg Aa (by dsimp only;omega),q_,z_⟩,z_,q_,q_⟩
   | false =>
    rw[hd]at q
    rw[← ey]at q
    have hrun:=hrun (.inr ⟨c1,y,by simp,hd⟩)
    refine T ?_
    refine C q F20 ?_
    refine X (Cw (lo:=0) (hi:=(c1.concat y).length) Γ.toTy (c1.concat y) q_ q_ q_ q_ (.inl ⟨q_,q_⟩) (.inr ⟨_,_,q_,q_⟩) (Nat.zero_le _) j_ (by rw[List.drop_zero,← hq1];exact List.take_left' q_)) ?_
    refine X (Ai Γ.toTy 36 q_ q_ q_ q_ q_ (.lit (e:=Ac) (l:=[]) q_ q_) (.sl (l:=(c1.concat y))) qf (by simp only[List.length_nil];omega) (by simp only[List.length_nil];omega)) ?_
    refine X (Ai Γ.toTy 43 q_ q_ q_ q_ q_ (.row q_) (.lit (e:=Ac) (l:=[M[((j:Nat):Int).toNat]'hlt0]) q_ q_) qf (by simp only[List.length_append,List.length_nil,List.length_singleton];omega) (by simp only[List.length_append,List.length_nil,List.length_singleton];omega)) ?_
    refine X (Cw (lo:=(c1.concat y).length) (hi:=out.length) Γ.toTy O2 q_ q_ q_ q_ (.inr ⟨_,_,q_,q_⟩) (.inl ⟨q_,q_⟩) j_ (Nat.le_refl _) (by rw[List.take_length,← hq1];exact List.drop_left' q_)) ?_
    refine X (Ai Γ.toTy 48 q_ q_ q_ q_ q_ (.row q_) (.sl (l:=O2)) qf (by simp only[List.length_append,List.length_nil,List.length_singleton];omega) (by simp only[List.length_append,List.length_nil,List.length_singleton];omega)) ?_
    have hfin:Bb Dd (M.take (j+1))=[]++(c1.concat y)++[M[((j:Nat):Int).toNat]'hlt0]++O2:=by rw[hsn,hrun];simp
    exact Ag (j+1) [(1000,48)] hlt j_ ⟨⟨q_,q_,q_,q_,q_,q_,z_⟩,⟨.inl (congrArg (Ob.row 17 Ac) hfin),q_,z_⟩,q_,q_⟩
 ·have hje:j=M.length:=by have:=of_decide_eq_false h2;omega
  subst hje
  clear h2
  rw[hfull]
  rw[hfull]at hol
  generalize Bb Dd M=Y at *
  refine T ?_
  refine Av (fun j:Nat=>j≤Y.length) (fun j=>[(3,.osl 1000),(7,Aa j)]) (fun j=>[(1000,.row 17 Ac (C3 j Y))]) (fun j=>Y.length-j) 0 [] qf ⟨⟨q_,q_,q_,q_,z_⟩,⟨.inl (congrArg (Ob.row 17 Ac) (Qy Y)),q_,z_⟩,q_,q_⟩ ?_
  intro j hj
  have hrl:=Th j Y
  refine T ?_
  refine⟨fun h2=>?_,fun h2=>?_⟩
  ·have hlt:j<Y.length:=by have:=of_decide_eq_true h2;omega
   have hlt0:((j:Nat):Int).toNat<(C3 j Y).length:=by show j<_;omega
   clear h2
   have hnx:=Qz hlt
   have hne:C3 j Y≠[]:=fun e=>by rw[e]at hrl;simp at hrl;omega
   have hat:(C3 j Y)[((j:Nat):Int).toNat]'hlt0=Y[j]:=Vd hlt _
   generalize Y[j]=l at *
   generalize C3 j Y=R at *
   rw[← hat]at hnx
   clear hat
   refine T ?_
   refine⟨hne,?_⟩
   refine T ?_
   refine⟨{ (R[((j:Nat):Int).toNat]'hlt0) with row:=(j:Int)+1 },rfl,rfl,?_⟩
   refine T ?_
   exact Ag (j+1) [] hlt j_ ⟨⟨q_,q_,q_,q_,z_⟩,⟨.inl (congrArg (Ob.row 17 Ac) hnx),q_,z_⟩,q_,q_⟩
  ·have hje:j=Y.length:=by have:=of_decide_eq_false h2;omega
   subst hje
   clear h2
   rw[Ti,← hsl]
   refine A5 1000 q_ ?_
   refine T ?_
   exact D
theorem O6 (l:List Int) (hl:l.length≤1000000):Sy.Spec Tryz.prog 56 [.sl 1 Aa l,.sl 1 Aa l] [] (Af true) []:=cT F56 Tryz.ntmps56 fun F hF=>by
 have f0:((l.length:Int) != (l.length:Int))=false:=by simp
 refine T ?_
 refine Av (fun j:Nat=>j≤l.length) (fun j=>[(0,.sl 1 Aa l),(1,.sl 1 Aa l),(5,Aa j)]) (fun _=>[]) (fun j=>l.length-j) 0 [] qf U ?_
 intro j hj
 refine T ?_
 refine⟨fun h2=>?_,fun h2=>?_⟩
 ·have hlt:j<l.length:=by have:=of_decide_eq_true h2;omega
  have hlt0:((j:Nat):Int).toNat<l.length:=hlt
  clear h2
  have f1:(l[((j:Nat):Int).toNat]'hlt0 != l[((j:Nat):Int).toNat]'hlt0)=false:=by simp
  refine T ?_
  exact Ag (j+1) [] hlt j_ U
 ·refine T ?_
  exact D
theorem Abc (l:List Int) (hl:l.length≤1000000):Sy.Spec Tryz.prog 57 [.sl 1 A0 l,.sl 1 A0 l] [] (Af true) []:=cT F57 Tryz.ntmps57 fun F hF=>by
 have f0:((l.length:Int) != (l.length:Int))=false:=by simp
 refine T ?_
 refine Av (fun j:Nat=>j≤l.length) (fun j=>[(0,.sl 1 A0 l),(1,.sl 1 A0 l),(5,Aa j)]) (fun _=>[]) (fun j=>l.length-j) 0 [] qf U ?_
 intro j hj
 refine T ?_
 refine⟨fun h2=>?_,fun h2=>?_⟩
 ·have hlt:j<l.length:=by have:=of_decide_eq_true h2;omega
  have hlt0:((j:Nat):Int).toNat<l.length:=hlt
  clear h2
  have f1:(l[((j:Nat):Int).toNat]'hlt0 != l[((j:Nat):Int).toNat]'hlt0)=false:=by simp
  refine T ?_
  exact Ag (j+1) [] hlt j_ U
 ·refine T ?_
  exact D
theorem Abn (a:LineM) (h:LineFin a):Sy.Spec Tryz.prog 34 [Ac a,Ac a] [] (Af true) []:=cT F34 Tryz.ntmps34 fun F hF=>by
 have z1:=h.t;have z2:=h.i;have z3:=h.e;have z4:=h.a
 have f1:(a.row == a.row)=true:=by simp
 have f2:(a.kind == a.kind)=true:=by simp
 have f3:(a.dev == a.dev)=true:=by simp
 have f4:(a.port == a.port)=true:=by simp
 have f5:(a.peer == a.peer)=true:=by simp
 have f6:(a.far == a.far)=true:=by simp
 have f7:(a.name == a.name)=true:=by simp
 have f8:(a.mac == a.mac)=true:=by simp
 have f9:(a.addr == a.addr)=true:=by simp
 have f10:(a.bits == a.bits)=true:=by simp
 have f11:(a.vlan == a.vlan)=true:=by simp
 have f12:(a.num == a.num)=true:=by simp
 have f13:(a.cost == a.cost)=true:=by simp
 refine T ?_
 refine C (O6 a.tagged j_) F56 ?_
 refine C (O6 a.imports j_) F56 ?_
 refine C (O6 a.exports j_) F56 ?_
 refine C (Abc a.addrs j_) F57 ?_
 exact D
theorem Bc {l:List Int} {hi:Int} (h:Cs l hi=true):l.length≤16∧∀ x∈l,0≤x∧x≤hi:=by
 rcases listOK_iff.1 h with e | e
 ·subst e;simp
 ·obtain ⟨_,b,_,d⟩:=rising_iff.1 e
  exact⟨d,fun x hx=>⟨by have:=(b x hx).1;omega,(b x hx).2⟩⟩
theorem O7 (l:List Int) (hl:l.length≤16) (hw:∀ x∈l,0≤x∧x≤65535):Sy.Spec Tryz.prog 315 [.sl 1 Aa l] [] (Ab (By l)) []:=cT F315 Tryz.ntmps315 fun F hF=>by
 have q:=Yr l j_ fun x hx=>⟨(hw x hx).1,by have:=(hw x hx).2;omega⟩
 rw[By]
 by_cases h0:l.length=0
 ·have f:((l.length:Int) == 0)=true:=by rw[beq_iff_eq];omega
  rw[if_pos (List.length_eq_zero_iff.1 h0)]
  refine T ?_
  exact D
 ·have f:((l.length:Int) == 0)=false:=by rw[beq_eq_false_iff_ne];omega
  rw[if_neg (fun e=>h0 (by rw[e];rfl))]
  refine T ?_
  refine C q F360 ?_
  exact D
theorem Jn {n:Int} (h0:0≤n) (h1:n<1000000000):Sy.Spec Tryz.prog 306 [Aa n] [] (Ab (Al n)) []:=by
 obtain ⟨m,rfl⟩:∃ m:Nat,n=m:=⟨n.toNat,by omega⟩
 exact Iq m j_
theorem Xi {n:Int} (h:0≤n∧n<18446744073709551616):Sy.Spec Tryz.prog 307 [Bh n] [] (Ab (Ao n)) []:=by
 obtain ⟨m,rfl⟩:∃ m:Nat,n=m:=⟨n.toNat,by omega⟩
 exact Acv m j_
theorem addr3 {n:Int} (h:0≤n∧n<4294967296):Sy.Spec Tryz.prog 316 [A0 n] [] (Ab (Be n)) []:=by
 obtain ⟨m,rfl⟩:∃ m:Nat,n=m:=⟨n.toNat,by omega⟩
 exact Jl m j_
theorem Aij {n b:Int} (h:0≤n∧n<4294967296) (hb:0≤b∧b≤32):Sy.Spec Tryz.prog 318 [B8 n b] [] (Ab (B0 n b)) []:=by
 obtain ⟨m,rfl⟩:∃ m:Nat,n=m:=⟨n.toNat,by omega⟩
 exact Ur m b j_ hb
theorem Abl (l:LineM) (h:LineR l) (hk:l.kind=1):Sy.Spec Tryz.prog 267 [Ac l] [] (.sl 1 Ab (Ah l)) []:=cT F267 Tryz.ntmps267 fun F hF=>by
 have qv:=Jn h.vlan.1 (by have:=h.vlan.2;omega)
 have qn:=Jn h.num.1 (by have:=h.num.2;omega)
 have qm:=Xi h.ok.mac
 have hwo:Ah l=[(⟨#[100,101,118,105,99,101]⟩:ByteArray),l.dev,Al l.num,Ao l.mac]:=by
  simp only[Ah,hk]
  rfl
 rw[hwo]
 have f1:(l.kind == 1)=true:=by rw[hk];rfl
 clear hk hwo h
 generalize Al l.vlan=vv at *
 generalize Al l.num=nn at *
 generalize Ao l.mac=mm at *
 refine T ?_
 refine C qv F306 ?_
 refine C qn F306 ?_
 refine C qm F307 ?_
 refine C7 24 Ab [(⟨#[100,101,118,105,99,101]⟩:ByteArray),l.dev,nn,mm] q_ q_ ?_
 refine A5 24 q_ ?_
 refine T ?_
 exact D
theorem Abj (l:LineM) (h:LineR l) (hk:l.kind=3):Sy.Spec Tryz.prog 267 [Ac l] [] (.sl 1 Ab (Ah l)) []:=cT F267 Tryz.ntmps267 fun F hF=>by
 have qv:=Jn h.vlan.1 (by have:=h.vlan.2;omega)
 have qn:=Jn h.num.1 (by have:=h.num.2;omega)
 have qm:=Xi h.ok.mac
 have hwo:Ah l=[(⟨#[108,105,110,107]⟩:ByteArray),l.dev,l.port,l.peer,l.far]:=by
  simp only[Ah,hk]
  rfl
 rw[hwo]
 have f1:(l.kind == 1)=false:=by rw[hk];rfl
 have f2:(l.kind == 2)=false:=by rw[hk];rfl
 have f3:(l.kind == 3)=true:=by rw[hk];rfl
 clear hk hwo h
 generalize Al l.vlan=vv at *
 generalize Al l.num=nn at *
 generalize Ao l.mac=mm at *
 refine T ?_
 refine C qv F306 ?_
 refine C qn F306 ?_
 refine C qm F307 ?_
 refine C7 64 Ab [(⟨#[108,105,110,107]⟩:ByteArray),l.dev,l.port,l.peer,l.far] q_ q_ ?_
 refine A5 64 q_ ?_
 refine T ?_
 exact D
theorem Abi (l:LineM) (h:LineR l) (hk:l.kind=4):Sy.Spec Tryz.prog 267 [Ac l] [] (.sl 1 Ab (Ah l)) []:=cT F267 Tryz.ntmps267 fun F hF=>by
 have qv:=Jn h.vlan.1 (by have:=h.vlan.2;omega)
 have qn:=Jn h.num.1 (by have:=h.num.2;omega)
 have qm:=Xi h.ok.mac
 have hwo:Ah l=[(⟨#[115,116,97,116,105,99]⟩:ByteArray),l.dev,Al l.vlan,Ao l.mac,l.port]:=by
  simp only[Ah,hk]
  rfl
 rw[hwo]
 have f1:(l.kind == 1)=false:=by rw[hk];rfl
 have f2:(l.kind == 2)=false:=by rw[hk];rfl
 have f3:(l.kind == 3)=false:=by rw[hk];rfl
 have f4:(l.kind == 4)=true:=by rw[hk];rfl
 clear hk hwo h
 generalize Al l.vlan=vv at *
 generalize Al l.num=nn at *
 generalize Ao l.mac=mm at *
 refine T ?_
 refine C qv F306 ?_
 refine C qn F306 ?_
 refine C qm F307 ?_
 refine C7 73 Ab [(⟨#[115,116,97,116,105,99]⟩:ByteArray),l.dev,vv,mm,l.port] q_ q_ ?_
 refine A5 73 q_ ?_
 refine T ?_
 exact D
theorem Abh (l:LineM) (h:LineR l) (hk:l.kind=5):Sy.Spec Tryz.prog 267 [Ac l] [] (.sl 1 Ab (Ah l)) []:=cT F267 Tryz.ntmps267 fun F hF=>by
 have qv:=Jn h.vlan.1 (by have:=h.vlan.2;omega)
 have qn:=Jn h.num.1 (by have:=h.num.2;omega)
 have qm:=Xi h.ok.mac
 have q0:=addr3 h.ok.addr
 have hwo:Ah l=[(⟨#[118,116,101,112]⟩:ByteArray),l.dev,Be l.addr]:=by
  simp only[Ah,hk]
  rfl
 rw[hwo]
 have f1:(l.kind == 1)=false:=by rw[hk];rfl
 have f2:(l.kind == 2)=false:=by rw[hk];rfl
 have f3:(l.kind == 3)=false:=by rw[hk];rfl
 have f4:(l.kind == 4)=false:=by rw[hk];rfl
 have f5:(l.kind == 5)=true:=by rw[hk];rfl
 clear hk hwo h
 generalize Al l.vlan=vv at *
 generalize Al l.num=nn at *
 generalize Ao l.mac=mm at *
 generalize Be l.addr=aa at *
 refine T ?_
 refine C qv F306 ?_
 refine C qn F306 ?_
 refine C qm F307 ?_
 refine C q0 F316 ?_
 refine C7 81 Ab [(⟨#[118,116,101,112]⟩:ByteArray),l.dev,aa] q_ q_ ?_
 refine A5 81 q_ ?_
 refine T ?_
 exact D
theorem Abg (l:LineM) (h:LineR l) (hk:l.kind=6):Sy.Spec Tryz.prog 267 [Ac l] [] (.sl 1 Ab (Ah l)) []:=cT F267 Tryz.ntmps267 fun F hF=>by
 have qv:=Jn h.vlan.1 (by have:=h.vlan.2;omega)
 have qn:=Jn h.num.1 (by have:=h.num.2;omega)
 have qm:=Xi h.ok.mac
 have hwo:Ah l=[(⟨#[118,110,105]⟩:ByteArray),l.dev,Al l.vlan,Al l.num]:=by
  simp only[Ah,hk]
  rfl
 rw[hwo]
 have f1:(l.kind == 1)=false:=by rw[hk];rfl
 have f2:(l.kind == 2)=false:=by rw[hk];rfl
 have f3:(l.kind == 3)=false:=by rw[hk];rfl
 have f4:(l.kind == 4)=false:=by rw[hk];rfl
 have f5:(l.kind == 5)=false:=by rw[hk];rfl
 have f6:(l.kind == 6)=true:=by rw[hk];rfl
 clear hk hwo h
 generalize Al l.vlan=vv at *
 generalize Al l.num=nn at *
 generalize Ao l.mac=mm at *
 refine T ?_
 refine C qv F306 ?_
 refine C qn F306 ?_
 refine C qm F307 ?_
 refine C7 88 Ab [(⟨#[118,110,105]⟩:ByteArray),l.dev,vv,nn] q_ q_ ?_
 refine A5 88 q_ ?_
 refine T ?_
 exact D
theorem Abf (l:LineM) (h:LineR l) (hk:l.kind=7):Sy.Spec Tryz.prog 267 [Ac l] [] (.sl 1 Ab (Ah l)) []:=cT F267 Tryz.ntmps267 fun F hF=>by
 have qv:=Jn h.vlan.1 (by have:=h.vlan.2;omega)
 have qn:=Jn h.num.1 (by have:=h.num.2;omega)
 have qm:=Xi h.ok.mac
 have q0:=Wr l.addrs (by have:=h.addrs;omega) h.ok.addrs
 have hwo:Ah l=[(⟨#[102,108,111,111,100]⟩:ByteArray),l.dev,Al l.num,B9 l.addrs]:=by
  simp only[Ah,hk]
  rfl
 rw[hwo]
 have f1:(l.kind == 1)=false:=by rw[hk];rfl
 have f2:(l.kind == 2)=false:=by rw[hk];rfl
 have f3:(l.kind == 3)=false:=by rw[hk];rfl
 have f4:(l.kind == 4)=false:=by rw[hk];rfl
 have f5:(l.kind == 5)=false:=by rw[hk];rfl
 have f6:(l.kind == 6)=false:=by rw[hk];rfl
 have f7:(l.kind == 7)=true:=by rw[hk];rfl
 clear hk hwo h
 generalize Al l.vlan=vv at *
 generalize Al l.num=nn at *
 generalize Ao l.mac=mm at *
 generalize B9 l.addrs=aa at *
 refine T ?_
 refine C qv F306 ?_
 refine C qn F306 ?_
 refine C qm F307 ?_
 refine C q0 F317 ?_
 refine C7 97 Ab [(⟨#[102,108,111,111,100]⟩:ByteArray),l.dev,nn,aa] q_ q_ ?_
 refine A5 97 q_ ?_
 refine T ?_
 exact D
theorem Abe (l:LineM) (h:LineR l) (hk:l.kind=8):Sy.Spec Tryz.prog 267 [Ac l] [] (.sl 1 Ab (Ah l)) []:=cT F267 Tryz.ntmps267 fun F hF=>by
 have qv:=Jn h.vlan.1 (by have:=h.vlan.2;omega)
 have qn:=Jn h.num.1 (by have:=h.num.2;omega)
 have qm:=Xi h.ok.mac
 have q0:=O7 l.imports (Bc h.imports).1 (fun x hx=>(Bc h.imports).2 x hx)
 have q1:=O7 l.exports (Bc h.exports).1 (fun x hx=>(Bc h.exports).2 x hx)
 have hwo:Ah l=[(⟨#[118,114,102]⟩:ByteArray),l.dev,l.name,By l.imports,By l.exports]:=by
  simp only[Ah,hk]
  rfl
 rw[hwo]
 have f1:(l.kind == 1)=false:=by rw[hk];rfl
 have f2:(l.kind == 2)=false:=by rw[hk];rfl
 have f3:(l.kind == 3)=false:=by rw[hk];rfl
 have f4:(l.kind == 4)=false:=by rw[hk];rfl
 have f5:(l.kind == 5)=false:=by rw[hk];rfl
 have f6:(l.kind == 6)=false:=by rw[hk];rfl
 have f7:(l.kind == 7)=false:=by rw[hk];rfl
 have f8:(l.kind == 8)=true:=by rw[hk];rfl
 clear hk hwo h
 generalize Al l.vlan=vv at *
 generalize Al l.num=nn at *
 generalize Ao l.mac=mm at *
 generalize By l.imports=ii at *
 generalize By l.exports=ee at *
 refine T ?_
 refine C qv F306 ?_
 refine C qn F306 ?_
 refine C qm F307 ?_
 refine C q0 F315 ?_
 refine C q1 F315 ?_
 refine C7 110 Ab [(⟨#[118,114,102]⟩:ByteArray),l.dev,l.name,ii,ee] q_ q_ ?_
 refine A5 110 q_ ?_
 refine T ?_
 exact D
theorem Abd (l:LineM) (h:LineR l) (hk:l.kind=9):Sy.Spec Tryz.prog 267 [Ac l] [] (.sl 1 Ab (Ah l)) []:=cT F267 Tryz.ntmps267 fun F hF=>by
 have qv:=Jn h.vlan.1 (by have:=h.vlan.2;omega)
 have qn:=Jn h.num.1 (by have:=h.num.2;omega)
 have qm:=Xi h.ok.mac
 have q0:=Aij h.ok.addr h.bits
 have hwo:Ah l=[(⟨#[105,114,98]⟩:ByteArray),l.dev,Al l.vlan,l.name,B0 l.addr l.bits]:=by
  simp only[Ah,hk]
  rfl
 rw[hwo]
 have f1:(l.kind == 1)=false:=by rw[hk];rfl
 have f2:(l.kind == 2)=false:=by rw[hk];rfl
 have f3:(l.kind == 3)=false:=by rw[hk];rfl
 have f4:(l.kind == 4)=false:=by rw[hk];rfl
 have f5:(l.kind == 5)=false:=by rw[hk];rfl
 have f6:(l.kind == 6)=false:=by rw[hk];rfl
 have f7:(l.kind == 7)=false:=by rw[hk];rfl
 have f8:(l.kind == 8)=false:=by rw[hk];rfl
 have f9:(l.kind == 9)=true:=by rw[hk];rfl
 clear hk hwo h
 generalize Al l.vlan=vv at *
 generalize Al l.num=nn at *
 generalize Ao l.mac=mm at *
 generalize B0 l.addr l.bits=pp at *
 refine T ?_
 refine C qv F306 ?_
 refine C qn F306 ?_
 refine C qm F307 ?_
 refine C q0 F318 ?_
 refine C7 124 Ab [(⟨#[105,114,98]⟩:ByteArray),l.dev,vv,l.name,pp] q_ q_ ?_
 refine A5 124 q_ ?_
 refine T ?_
 exact D
theorem Abk (l:LineM) (h:LineR l) (hk:l.kind=2):Sy.Spec Tryz.prog 267 [Ac l] [] (.sl 1 Ab (Ah l)) []:=cT F267 Tryz.ntmps267 fun F hF=>by
 have qv:=Jn h.vlan.1 (by have:=h.vlan.2;omega)
 have qn:=Jn h.num.1 (by have:=h.num.2;omega)
 have qm:=Xi h.ok.mac
 have qc:=Jn h.cost.1 (by have:=h.cost.2;omega)
 have q0:=O7 l.tagged (Bc h.tagged).1 (fun x hx=>⟨((Bc h.tagged).2 x hx).1,by have:=((Bc h.tagged).2 x hx).2;omega⟩)
 have hwo:Ah l=Hk l:=by
  simp only[Ah,hk]
  rfl
 rw[hwo,Hk]
 have f1:(l.kind == 1)=false:=by rw[hk];rfl
 have f2:(l.kind == 2)=true:=by rw[hk];rfl
 clear hk hwo h
 by_cases h0:l.tagged.length=0
 ·have f0:((l.tagged.length:Int) == 0)=true:=by rw[h0];rfl
  rw[if_pos (List.eq_nil_of_length_eq_zero h0)]
  generalize Al l.vlan=vv at *
  generalize Al l.num=nn at *
  generalize Ao l.mac=mm at *
  generalize Al l.cost=cc at *
  refine T ?_
  refine C qv F306 ?_
  refine C qn F306 ?_
  refine C qm F307 ?_
  refine C qc F306 ?_
  refine C7 40 Ab [(⟨#[112,111,114,116]⟩:ByteArray),l.dev,l.port,cc,accessT,vv] q_ q_ ?_
  refine A5 40 q_ ?_
  refine T ?_
  exact D
 ·have f0:((l.tagged.length:Int) == 0)=false:=by rw[beq_eq_false_iff_ne];omega
  rw[if_neg (fun e=>h0 (by rw[e];rfl))]
  by_cases hv:l.vlan=0
  ·have f3:(l.vlan == 0)=true:=beq_iff_eq.2 hv
   rw[if_pos hv]
   clear hv
   generalize Al l.vlan=vv at *
   generalize Al l.num=nn at *
   generalize Ao l.mac=mm at *
   generalize Al l.cost=cc at *
   generalize By l.tagged=tt at *
   refine T ?_
   refine C qv F306 ?_
   refine C qn F306 ?_
   refine C qm F307 ?_
   refine C qc F306 ?_
   refine C q0 F315 ?_
   refine C7 53 Ab [(⟨#[112,111,114,116]⟩:ByteArray),l.dev,l.port,cc,trunkT,dash,tt] q_ q_ ?_
   refine A5 53 q_ ?_
   refine T ?_
   exact D
  ·have f3:(l.vlan == 0)=false:=beq_eq_false_iff_ne.2 hv
   rw[if_neg hv]
   clear hv
   generalize Al l.vlan=vv at *
   generalize Al l.num=nn at *
   generalize Ao l.mac=mm at *
   generalize Al l.cost=cc at *
   generalize By l.tagged=tt at *
   refine T ?_
   refine C qv F306 ?_
   refine C qn F306 ?_
   refine C qm F307 ?_
   refine C qc F306 ?_
   refine C q0 F315 ?_
   refine C7 53 Ab [(⟨#[112,111,114,116]⟩:ByteArray),l.dev,l.port,cc,trunkT,vv,tt] q_ q_ ?_
   refine A5 53 q_ ?_
   refine T ?_
   exact D
theorem Yh {l:LineM} (h:A7 l=true):1≤l.kind∧l.kind≤9:=by
 rw[A7,Bool.and_eq_true]at h
 by_cases hh:l.kind=1∨l.kind=2∨l.kind=3∨l.kind=4∨l.kind=5∨l.kind=6∨l.kind=7∨l.kind=8∨l.kind=9
 ·omega
 ·simp only[not_or]at hh
  have:=h.1
  simp[Aq,hh]at this
theorem Vl (l:LineM) (h:LineR l):Sy.Spec Tryz.prog 267 [Ac l] [] (.sl 1 Ab (Ah l)) []:=by
 have hk:=Yh h.right
 have hc:l.kind=1∨l.kind=2∨l.kind=3∨l.kind=4∨l.kind=5∨l.kind=6∨l.kind=7∨l.kind=8∨l.kind=9:=by omega
 rcases hc with k | k | k | k | k | k | k | k | k
 ·exact Abl l h k
 ·exact Abk l h k
 ·exact Abj l h k
 ·exact Abi l h k
 ·exact Abh l h k
 ·exact Abg l h k
 ·exact Abf l h k
 ·exact Abe l h k
 ·exact Abd l h k
theorem Kc {l:List Int} {hi:Int} (h:Cs l hi=true) (hh:hi≤65535):(By l).size≤2000:=by
 obtain ⟨h1,h2⟩:=Bc h
 rw[By]
 split
 ·decide
 ·have h3:=Eo (l.map Al) comma
  have h4:=Ia (tx:=Al) l (fun x hx=>by have:=D3 (n:=x) ⟨by have:=(h2 x hx).1;omega,by have:=(h2 x hx).2;omega⟩;omega)
  have h5:comma.size=1:=rfl
  rw[List.length_map,h5]at h3
  rw[Dz];omega
theorem J8 {l:LineM} (h:LineR l):(Ah l).length≤7∧∀ x∈Ah l,x.size≤2000:=by
 have hd:=h.dev;have hp:=h.port;have hpe:=h.peer;have hf:=h.far;have hn:=h.name
 have w64:∀ {n:Int},0≤n→n≤100000000→(Al n).size≤22:=fun {n} a b=>D3 (n:=n) ⟨by omega,by omega⟩
 have nv:=w64 h.vlan.1 (by have:=h.vlan.2;omega)
 have nn:=w64 h.num.1 (by have:=h.num.2;omega)
 have nc:=w64 h.cost.1 (by have:=h.cost.2;omega)
 have s1:=Kc h.tagged qe
 have s2:=Kc h.imports qe
 have s3:=Kc h.exports qe
 have s4:(B9 l.addrs).size≤2000:=by
  have h1:=Eo (l.addrs.map Be) comma
  have h2:=Ia (tx:=Be) l.addrs (fun x _=>Cy x)
  have h3:comma.size=1:=rfl
  rw[List.length_map,h3]at h1
  have:=h.addrs
  rw[B9];omega
 have s5:(Ao l.mac).size≤2000:=by
  have:=Od l.mac.toNat 6
  rw[Ao,Ax];omega
 have s6:(B0 l.addr l.bits).size≤2000:=by
  rw[B0]
  split
  ·have h1:=Cy l.addr
   have h2:=Bw 2 l.bits.toNat j_
   rw[Ax,List.length_append,List.length_append,List.length_reverse]
   have:(Be l.addr).data.toList.length=(Be l.addr).size:=rfl
   simp;omega
  ·decide
 have s7:=Cy l.addr
 have z1:accessT.size=6:=rfl
 have z2:trunkT.size=5:=rfl
 have z3:dash.size=1:=rfl
 have lz:∀ a:Array UInt8,a.size≤20→(⟨a⟩:ByteArray).size≤2000:=fun a ha=>Nat.le_trans ha qe
 generalize e:Ah l=ws
 rw[Ah,Hk]at e
 repeat' split at e
 all_goals subst e
 all_goals refine⟨by simp,?_⟩
 all_goals try simp only[List.forall_mem_cons]
 all_goals repeat' apply And.intro
 all_goals first | omega | (split<;>omega) | (exact lz _ qe) | (intro x hx;cases hx)
theorem LineR.fin {l:LineM} (h:LineR l):LineFin l:=⟨by have:=(Bc h.tagged).1;omega,by have:=(Bc h.imports).1;omega,by have:=(Bc h.exports).1;omega,by have:=h.addrs;omega⟩
theorem Aef (l:LineM) (h:LineR l):Sy.Spec Tryz.prog 266 [Ac l] [] (Af true) []:=cT F266 Tryz.ntmps266 fun F hF=>by
 have q1:=Vl l h
 have hz:=J8 h
 have q2:=Yu (Ah l) l.row j_ (fun s hs=>by have:=hz.2 s hs;omega)
 rw[Tm,Tk h.ok h.right]at q2
 have q3:=Abn l h.fin
 have z1:=(Bc h.tagged).1
 have z2:=(Bc h.imports).1
 have z3:=(Bc h.exports).1
 have z4:=h.addrs
 have f1:decide ((l.tagged.length:Int)>16)=false:=decide_eq_false j_
 have f2:decide ((l.imports.length:Int)>16)=false:=decide_eq_false j_
 have f3:decide ((l.exports.length:Int)>16)=false:=decide_eq_false j_
 have f4:decide ((l.addrs.length:Int)>16)=false:=decide_eq_false j_
 clear h hz
 refine T ?_
 refine C q1 F267 ?_
 refine C q2 F115 ?_
 refine C q3 F34 ?_
 exact D
theorem Age (b:List UInt8) (hb:b.length≤1000000):Sy.Spec Tryz.prog 48 [.sl 1 Ak b] [] (.tup [.sl 17 Ac (textT b).1,Aa (textT b).2.1,Aa (textT b).2.2]) []:=cT F48 Tryz.ntmps48 fun F hF=>by
 have q1:=Agk b hb
 have hsm:=Kg b
 have hres:=textT.eq_1 b
 generalize textT b=res at *
 generalize rowsT b=rt at *
 obtain ⟨R,e0⟩:=rt
 dsimp only at hsm hres q1
 by_cases h0:e0≠0
 ·have f0:(e0 != 0)=true:=by rw[bne_iff_ne];exact h0
  rw[if_pos h0]at hres
  subst hres
  refine T ?_
  refine C q1 F113 ?_
  refine Bm 2 17 Ac q_ ?_
  refine T ?_
  exact D
 have f0:(e0 != 0)=false:=by rw[bne_eq_false_iff_eq];omega
 rw[if_neg h0]at hres
 clear h0
 refine T ?_
 refine C q1 F113 ?_
 refine Ct 7 1000 17 Ac q_ q_ ?_
 refine T ?_
 refine Av (fun x:Nat × List LineM=>x.1≤R.length∧x.2.length≤x.1∧res=En x.1 (R.drop x.1) x.2) (fun x=>[(5,.sl 1 Ab R),(7,.osl 1000),(8,Aa x.1)]) (fun x=>[(1000,.row 17 Ac x.2)]) (fun x=>R.length-x.1) (0,[]) [] ⟨by simp,by simp,by simpa using hres⟩ U ?_
 clear hres
 rintro ⟨i,out⟩ ⟨h1,h2,hres⟩
 dsimp only at h1 h2 hres ⊢
 refine T ?_
 refine⟨fun h=>?_,fun h=>?_⟩
 ·have hlt:i<R.length:=qA h
  have hlt0:((i:Nat):Int).toNat<R.length:=hlt
  clear h
  have hRi:R[i]=R[((i:Nat):Int).toNat]'hlt0:=rfl
  have hrs:=hsm.2 _ (List.getElem_mem hlt0)
  have q2:=Aeg (R[((i:Nat):Int).toNat]'hlt0) j_
  have hws:=Mm _ hrs
  rw[List.drop_eq_getElem_cons hlt,En,hRi]at hres
  generalize wordsT (R[((i:Nat):Int).toNat]'hlt0)=wt at *
  obtain ⟨ws,e⟩:=wt
  dsimp only at hws hres q2
  by_cases he:e≠0
  ·have g1:(e == 0)=false:=by rw[beq_eq_false_iff_ne];exact he
   have g2:(e != 0)=true:=by rw[bne_iff_ne];exact he
   rw[if_pos he]at hres
   subst hres
   refine T ?_
   refine C q2 F114 ?_
   refine Bm 2 17 Ac q_ ?_
   refine T ?_
   exact D
  have g1:(e == 0)=true:=by rw[beq_iff_eq];omega
  have g2:(e != 0)=false:=by rw[bne_eq_false_iff_eq];omega
  rw[if_neg he]at hres
  by_cases hw:ws=[]
  ·have g3:((ws.length:Int) == 0)=true:=by rw[hw];rfl
   rw[if_pos hw]at hres
   refine T ?_
   refine C q2 F114 ?_
   exact Ag (i+1,out) [] ⟨hlt,by dsimp only;omega,hres⟩ (by dsimp only;omega) U
  have hwl:0<ws.length:=by
   cases ws with
   | nil=>exact absurd rfl hw
   | cons=>simp
  have g3:((ws.length:Int) == 0)=false:=by rw[beq_eq_false_iff_ne];omega
  rw[if_neg hw]at hres
  have q3:=Yu ws ((i:Int)+1) j_ (fun s hs=>by have:=hws.2 s hs;omega)
  rw[Tm]at q3
  generalize Ba ws ((i:Int)+1)=st at *
  obtain ⟨l,e3⟩:=st
  dsimp only at hres q3
  by_cases h3:e3≠0
  ·have g4:(e3 != 0)=true:=by rw[bne_iff_ne];exact h3
   rw[if_pos h3]at hres
   subst hres
   refine T ?_
   refine C q2 F114 ?_
   refine C q3 F115 ?_
   refine Bm 2 17 Ac q_ ?_
   refine T ?_
   exact D
  ·have g4:(e3 != 0)=false:=by rw[bne_eq_false_iff_eq];omega
   rw[if_neg h3]at hres
   refine T ?_
   refine C q2 F114 ?_
   refine C q3 F115 ?_
   refine X (Ai Γ.toTy 59 q_ q_ q_ q_ q_ (.row q_) (.lit (e:=Ac) (l:=[l]) q_ q_) qf (by simp only[List.length_singleton];omega) (by simp only[List.length_singleton];omega)) ?_
   exact Ag (i+1,out++[l]) [(1000,59)] ⟨hlt,by simp;omega,hres⟩ (by dsimp only;omega) U
 ·have hje:i=R.length:=qB h
  subst hje
  clear h
  rw[List.drop_length,En]at hres
  subst hres
  refine A5 1000 q_ ?_
  refine T ?_
  exact D
theorem Ad1 (l:LineM) (h:LineR l):Sy.Spec Tryz.prog 201 [Ac l] [] (.sl 1 Ab (Ah l)) []:=cT F201 Tryz.ntmps201 fun F hF=>by
 have q1:=Aef l h
 have q2:=Vl l h
 generalize Ah l=ws at *
 refine T ?_
 refine C q1 F266 ?_
 refine C q2 F267 ?_
 exact D
theorem Aaf {l:LineM} (h:LineR l):0<(Ah l).length:=by
 have e:=Tk h.ok h.right
 cases hw:Ah l with
 | nil =>
  rw[hw,Ba,if_pos (.inl rfl)]at e
  have:=congrArg Prod.snd e
  exact absurd this (by show ¬ (22:Int)=0;decide)
 | cons=>simp
theorem T5 {l:LineM} (h:LineR l):Ea (Ah l)≤14000∧(Bn (Ah l) space).size≤15000:=by
 obtain ⟨h1,h2⟩:=J8 h
 have h3:=Eo (Ah l) space
 have h4:=Im _ _ h2
 have h5:space.size=1:=rfl
 rw[h5]at h3
 omega
theorem Agd (l:LineM) (h:LineR l):Sy.Spec Tryz.prog 116 [Ac l] [] (.tup [Ab (Bn (Ah l) space),Aa 0]) []:=cT F116 Tryz.ntmps116 fun F hF=>by
 have q1:=Ad1 l h
 have hp:=Aaf h
 have hz:=J8 h
 have hz2:=T5 h
 have q2:=Agl (Ah l) j_ j_
 have f:(((Ah l).length:Int) == 0)=false:=by rw[beq_eq_false_iff_ne];omega
 generalize Bn (Ah l) space=j at *
 generalize Ah l=ws at *
 refine T ?_
 refine C q1 F201 ?_
 refine C q2 F202 ?_
 exact D
theorem Agc (M:List LineM) (h:∀ x∈M,LineR x) (hl:M.length≤10000):Sy.Spec Tryz.prog 49 [.sl 17 Ac M] [] (.tup [Ab (mkT (plainT M).1),Aa (plainT M).2]) []:=cT F49 Tryz.ntmps49 fun F hF=>by
 have hres:=plainT.eq_1 M
 generalize plainT M=res at *
 refine T ?_
 refine Av (fun x:Nat × List UInt8=>x.1≤M.length∧x.2.length≤20000 * x.1∧Da M []=Da (M.drop x.1) x.2) (fun x=>[(0,.sl 17 Ac M),(4,Ab (mkT x.2)),(5,Aa x.1)]) (fun _=>[]) (fun x=>M.length-x.1) (0,[]) [] ⟨by simp,by simp,by simp⟩ U ?_
 rintro ⟨j,b⟩ ⟨hj,hbl,hI⟩
 dsimp only at hj hbl hI ⊢
 rw[hI]at hres
 refine T ?_
 refine⟨fun h2=>?_,fun h2=>?_⟩
 ·have hlt:j<M.length:=by have:=of_decide_eq_true h2;omega
  have hlt0:((j:Nat):Int).toNat<M.length:=hlt
  clear h2 hres
  have hx:=h _ (List.getElem_mem hlt0)
  have q:=Agd (M[((j:Nat):Int).toNat]'hlt0) hx
  have hz:=(T5 hx).2
  have hMj:M[j]=M[((j:Nat):Int).toNat]'hlt0:=rfl
  rw[List.drop_eq_getElem_cons hlt,Da,hMj,if_neg (by rw[hx.right];simp)]at hI
  have hjl:(Bn (Ah (M[((j:Nat):Int).toNat]'hlt0)) space).data.toList.length=(Bn (Ah (M[((j:Nat):Int).toNat]'hlt0)) space).size:=rfl
  generalize Bn (Ah (M[((j:Nat):Int).toNat]'hlt0)) space=t at *
  have hz1:(mkT b).size=b.length:=Ax b
  have hzn:(⟨#[10]⟩:ByteArray).size=1:=rfl
  have g1:(mkT b).size+t.size≤9223372036854775807:=by omega
  have g2:(mkT b++t).size+(⟨#[10]⟩:ByteArray).size≤9223372036854775807:=by rw[ByteArray.size_append];omega
  have hnx:mkT (b++t.data.toList++[10])=mkT b++t++(⟨#[10]⟩:ByteArray):=by
   apply Dm
   rw[Ii,Ii,A2,A2]
  refine T ?_
  refine C q F116 ?_
  exact Ag (j+1,b++t.data.toList++[10]) [] ⟨hlt,by simp;omega,hI⟩ (by dsimp only;omega) ⟨⟨q_,q_,congrArg Ab hnx,q_,q_,q_,z_⟩,z_,q_,q_⟩
 ·have hje:j=M.length:=by have:=of_decide_eq_false h2;omega
  clear h2 hI
  subst hje
  rw[List.drop_length,Da]at hres
  dsimp only at hres
  rw[if_neg qf]at hres
  have hz1:(mkT b).size=b.length:=Ax b
  by_cases k1:400<M.length
  ·have f1:decide ((M.length:Int)>400)=true:=decide_eq_true j_
   rw[if_pos (.inl k1)]at hres
   subst hres
   refine T ?_
   exact D
  have f1:decide ((M.length:Int)>400)=false:=decide_eq_false j_
  by_cases k2:20000<b.length
  ·have f2:decide (((mkT b).size:Int)>20000)=true:=decide_eq_true j_
   rw[if_pos (.inr k2)]at hres
   subst hres
   refine T ?_
   exact D
  have f2:decide (((mkT b).size:Int)>20000)=false:=decide_eq_false j_
  rw[if_neg j_]at hres
  subst hres
  refine T ?_
  exact D
theorem Yc {M:List LineM} (h:∀ x∈M,LineR x):∀ x∈Bp M,LineR x:=by
 intro x hx
 rw[Bp,Ic,List.mem_mapIdx]at hx
 obtain ⟨i,hi,rfl⟩:=hx
 exact(h _ (Es _ _ _ (List.getElem_mem hi))).row _
theorem LineR.f {l:LineM} (h:LineR l):LineF l :=
 ⟨h.fin,h.ok,by have:=h.dev;omega,by have:=h.port;omega,by have:=h.peer;omega,by have:=h.far;omega,by have:=h.name;omega⟩
theorem LineR.x {l:LineM} (h:LineR l):LineX l :=
 ⟨⟨h.fin,h.ok,by have:=h.dev;omega,by have:=h.port;omega,by have:=h.peer;omega,by have:=h.far;omega,by have:=h.name;omega⟩,
  ⟨by have:=h.vlan;omega,by have:=h.vlan;omega⟩,⟨by have:=h.num;omega,by have:=h.num;omega⟩,⟨by have:=h.cost;omega,by have:=h.cost;omega⟩,
  fun x hx=>by have:=(Bc h.tagged).2 x hx;exact⟨by omega,by omega⟩,fun x hx=>by have:=(Bc h.imports).2 x hx;exact⟨by omega,by omega⟩,fun x hx=>by have:=(Bc h.exports).2 x hx;exact⟨by omega,by omega⟩⟩
theorem Lz:∀ (rs:List ByteArray) (i:Nat) (out:List LineM),(En i rs out).1.length≤out.length+rs.length
 | [],_,out=>by rw[En];simp
 | r::rs,i,out=>by
  rw[En]
  split
  ·simp
  ·split
   ·have:=Lz rs (i+1) out;rw[List.length_cons];omega
   ·split
    ·simp
    ·have:=Lz rs (i+1) (out++[(Ba (wordsT r).1 ((i:Int)+1)).1])
     rw[List.length_append,List.length_singleton]at this
     rw[List.length_cons];omega
theorem U6 (b:List UInt8):(textT b).1.length≤400:=by
 have h:=(Kg b).1
 unfold textT
 split
 ·simp
 ·have:=Lz (rowsT b).1 0 []
  rw[List.length_nil]at this
  omega
theorem Agb (b:List UInt8) (hb:b.length≤1000000):Sy.Spec Tryz.prog 22 [.sl 1 Ak b] [] (.tup [Ab (mkT (orderT b).1),Aa (orderT b).2.1,Aa (orderT b).2.2]) []:=cT F22 Tryz.ntmps22 fun F hF=>by
 have q1:=Age b hb
 have hR:=S9 b
 have hl:=U6 b
 have q2:=Agv (textT b).1 (fun x hx=>(hR x hx).f) j_
 have hsl:(Bp (textT b).1).length=(textT b).1.length:=Lo _
 have q3:=Agc (Bp (textT b).1) (Yc hR) j_
 have hres:=orderT.eq_1 b
 clear hR
 generalize orderT b=res at *
 generalize textT b=tt at *
 obtain ⟨M,r,e⟩:=tt
 dsimp only at *
 generalize Bp M=Z at *
 by_cases h0:e≠0
 ·have f0:(e != 0)=true:=by rw[bne_iff_ne];exact h0
  rw[if_pos h0]at hres
  subst hres
  refine T ?_
  refine C q1 F48 ?_
  exact D
 ·have f0:(e != 0)=false:=by rw[bne_eq_false_iff_eq];omega
  rw[if_neg h0]at hres
  subst hres
  refine T ?_
  refine C q1 F48 ?_
  refine C q2 F16 ?_
  refine C q3 F49 ?_
  exact D
theorem To (b:List UInt8):Sy.Spec Tryz.prog 4 [.sl 1 Ak b] [] (Af true) []:=cT F4 Tryz.ntmps4 fun F hF=>by
 have qw:=Afj
 by_cases c0:3000<b.length
 ·have f0:decide ((b.length:Int)>3000)=true:=decide_eq_true j_
  refine T ?_
  refine C qw F13 ?_
  exact D
 have f0:decide ((b.length:Int)>3000)=false:=decide_eq_false j_
 have hl:=U6 b
 have q1:=Tp b j_ (fun x hx=>(S9 b x hx).x) j_
 have q2:=Agb b j_
 generalize orderT b=res at *
 obtain ⟨s,r,e⟩:=res
 dsimp only at q1 q2
 have f1:((⟨s.toArray⟩:ByteArray) == mkT s)=true:=Bl rfl
 have f2:(r == r)=true:=by simp
 have f3:(e == e)=true:=by simp
 refine T ?_
 refine C q1 F21 ?_
 refine C q2 F22 ?_
 refine X (Bk Γ.toTy (bs:=s) q_ q_ q_ q_ q_ q_ q_ .sl) ?_
 refine C qw F13 ?_
 exact D
end Go.Sy.YtgblchnfjbkipaaGreatDoor
namespace Go.Proofs.YtgblchnfjbkipaaGreatDoor
open Go.ChangeShapes Go.WideShapes Go.ChangeAt Go.RowKit
set_option maxRecDepth 100000
theorem Ma:Tryz.checked.prog.inPlace 4=Rows.orderTextsRow.inPlace:=by kernel_rfl
theorem J7:Tryz.checked.prog.unfollowed 4=Rows.orderTextsRow.unfollowed:=by kernel_rfl
theorem Li:Tryz.checked.prog.recurses 4=Rows.orderTextsRow.recurses:=by kernel_rfl
theorem O9:Tryz.checked.prog.varsNamed 4=Rows.orderTextsRow.named:=by kernel_rfl
theorem So:Tryz.checked.prog.liftsFinal=Rows.orderTextsRow.lifted:=by kernel_rfl
theorem L9:laidOutB Tryz.checked.prog=true:=by kernel_rfl
theorem Qd:Tryz.checked.prog.mayEnter=true:=by kernel_rfl
theorem Qb:Tryz.checked.prog.stopsHeard=true:=by kernel_rfl
theorem Qc:joinedFacts Tryz.checked.prog 4 Tryz.f4 Rows.orderTextsSpec Rows.orderTextsRow=true:=by
 unfold joinedFacts
 rw[Ma,J7,Li,O9,So,L9,Qd,Qb]
 kernel_rfl
theorem Ut:Rows.orderTextsRow.wfByText (OpenSpec.ofChange Rows.orderTextsSpec)=true:=by kernel_rfl
theorem Sn : Tryz.pinned.checked.prog.mainIs = some (true, "3f6af94f8c32c5bce5a1ab8a14a0f655bb578ff8d5124cf5898aee3e9cdf08b6".toList) := by kernel_rfl
theorem orderTexts_fnamed : Tryz.prog.funcNamed "paling/palinglaw49.OrderTexts" = some 4 := by kernel_rfl
theorem Qa:false=Tryz.pinned.checked.prog.looks []:=by kernel_rfl
theorem L8:([35].all fun u=>!Tryz.prog.wantsStandIn u)=true:=by kernel_rfl
theorem Sq:false=Rows.orderTextsRow.goesBy Tryz.pinned.checked.prog:=by kernel_rfl
end Go.Proofs.YtgblchnfjbkipaaGreatDoor
