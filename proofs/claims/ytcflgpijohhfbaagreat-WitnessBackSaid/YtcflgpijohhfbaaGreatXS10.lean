/-
  NB12 NB13 NB16 NB17 NB18 NB19 I50 NB20 I23 I24 I62 I25 NB21 BN1 WB1: parts of a proof, joined by program.
-/
import Derived.Test.YtcflgpijohhfbaaGreatXS9
import Derived.Test.YtcflgpijohhfbaaGreatXS5
import Derived.Tactics
import Derived.Tactics2
import Derived.Defers
import Derived.Laws.Pointers
import Derived.Laws.LoneSync
import Derived.RegionTactic
import Derived.RegionCalls
import Derived.ChangeAlike
import Derived.Laws.NewBlocks
import Derived.Test.YtcflgpijohhfbaaGreatXS4
import Derived.Test.YtcflgpijohhfbaaGreatXS6
set_option linter.all false
set_option linter.unusedVariables false
set_option linter.unusedSimpArgs false
set_option linter.deprecated false
namespace Go.Sy.YtcflgpijohhfbaaGreat
open Go.Proofs
attribute [local irreducible] Go.Sy.G Go.Sy.DR
set_option maxRecDepth 100000
set_option maxHeartbeats 4000000
theorem Atw (n:Net) (hn:n.Fin) (ha:Cr n) (l:LineM) (hl:LineW l):Sy.Spec Tryz.prog 75 [Aj n,A2 l] [] (.tup [Aj (putT n l).1,Aa (putT n l).2]) []:=cT F75 Tryz.ntmps75 fun F hF=>by
 have hres:=putT.eq_1 n l
 generalize putT n l=res at *
 by_cases h1:l.kind=1
 ·have g1:(l.kind == 1)=true:=by rw[beq_iff_eq];exact h1
  have q:=Aki n hn l hl
  rw[if_pos h1]at hres
  rw[← hres]at q
  refine T ?_
  refine C q F122 ?_
  exact D
 have g1:(l.kind == 1)=false:=by rw[beq_eq_false_iff_ne];exact h1
 rw[if_neg h1]at hres
 by_cases h2:l.kind=2
 ·have g2:(l.kind == 2)=true:=by rw[beq_iff_eq];exact h2
  have q:=Aqh n hn l hl
  rw[if_pos h2]at hres
  rw[← hres]at q
  refine T ?_
  refine C q F123 ?_
  exact D
 have g2:(l.kind == 2)=false:=by rw[beq_eq_false_iff_ne];exact h2
 rw[if_neg h2]at hres
 by_cases h3:l.kind=3
 ·have g3:(l.kind == 3)=true:=by rw[beq_iff_eq];exact h3
  have q:=Ard n hn l hl
  rw[if_pos h3]at hres
  rw[← hres]at q
  refine T ?_
  refine C q F124 ?_
  exact D
 have g3:(l.kind == 3)=false:=by rw[beq_eq_false_iff_ne];exact h3
 rw[if_neg h3]at hres
 by_cases h4:l.kind=4
 ·have g4:(l.kind == 4)=true:=by rw[beq_iff_eq];exact h4
  have q:=Aik n hn l hl
  rw[if_pos h4]at hres
  rw[← hres]at q
  refine T ?_
  refine C q F125 ?_
  exact D
 have g4:(l.kind == 4)=false:=by rw[beq_eq_false_iff_ne];exact h4
 rw[if_neg h4]at hres
 by_cases h5:l.kind=5
 ·have g5:(l.kind == 5)=true:=by rw[beq_iff_eq];exact h5
  have q:=Atk n hn l hl
  rw[if_pos h5]at hres
  rw[← hres]at q
  refine T ?_
  refine C q F126 ?_
  exact D
 have g5:(l.kind == 5)=false:=by rw[beq_eq_false_iff_ne];exact h5
 rw[if_neg h5]at hres
 by_cases h6:l.kind=6
 ·have g6:(l.kind == 6)=true:=by rw[beq_iff_eq];exact h6
  have q:=ovVniS n hn l hl
  rw[if_pos h6]at hres
  rw[← hres]at q
  refine T ?_
  refine C q F127 ?_
  exact D
 have g6:(l.kind == 6)=false:=by rw[beq_eq_false_iff_ne];exact h6
 rw[if_neg h6]at hres
 by_cases h7:l.kind=7
 ·have g7:(l.kind == 7)=true:=by rw[beq_iff_eq];exact h7
  have q:=Aqo n hn l hl
  rw[if_pos h7]at hres
  rw[← hres]at q
  refine T ?_
  refine C q F128 ?_
  exact D
 have g7:(l.kind == 7)=false:=by rw[beq_eq_false_iff_ne];exact h7
 rw[if_neg h7]at hres
 by_cases h8:l.kind=8
 ·have g8:(l.kind == 8)=true:=by rw[beq_iff_eq];exact h8
  have q:=As5 n hn l hl
  rw[if_pos h8]at hres
  rw[← hres]at q
  refine T ?_
  refine C q F129 ?_
  exact D
 have g8:(l.kind == 8)=false:=by rw[beq_eq_false_iff_ne];exact h8
 rw[if_neg h8]at hres
 by_cases h9:l.kind=9
 ·have g9:(l.kind == 9)=true:=by rw[beq_iff_eq];exact h9
  have q:=At5 n hn ha l hl
  rw[if_pos h9]at hres
  rw[← hres]at q
  refine T ?_
  refine C q F130 ?_
  exact D
 have g9:(l.kind == 9)=false:=by rw[beq_eq_false_iff_ne];exact h9
 rw[if_neg h9]at hres
 subst hres
 refine T ?_
 refine Am 4 (Cn emptyN) E vL ?_
 refine T ?_
 exact D
theorem Al2 {n:Net} (h:Ac n=true) {i:Nat} (hi:i<n.floods.length):S1 n n.floods[i]=true:=by
 simp only[Ac,Bool.and_eq_true]at h
 exact allB_iff.1 h.1.1.2 i hi
theorem Auv (n:Net) (hn:n.Fin) (hr:Ac n=true) (f:Flood) (hf:f∈n.floods):Sy.Spec Tryz.prog 131 [Aj n,A0 f] [] (Ab (agreesB n f)) []:=cT F131 Tryz.ntmps131 fun F hF=>by
 have hfd:0≤f.dev∧f.dev.toNat<n.devices.length:=by
  obtain ⟨j,hj,rfl⟩:=List.getElem_of_mem hf
  have:=Al2 hr hj
  simp only[S1,Ai,Bool.and_eq_true,decide_eq_true_eq]at this
  omega
 have hfa:f.addrs.length<2147483648:=hn.addrs f hf
 have hown:(nth n.devices f.dev).vtep=(n.devices[f.dev.toNat]'hfd.2).vtep:=by rw[Ae hfd.2]
 have q1:=T3 n hn f.dev f.vni
 have hres:=agreesB.eq_1 n f
 have hag:∀ a,agreeA n f a=_:=agreeA.eq_1 n f
 generalize agreesB n f=res at *
 generalize Mw n f.dev f.vni=v0 at *
 refine T ?_
 refine Aw 2 8 (Aj n) E E E ?_
 refine Aw 3 4 (A0 f) E E E ?_
 refine T ?_
 refine C q1 F133 ?_
 refine C1 (fun j:Nat=>j≤f.addrs.length) (fun j=>[(2,.ref 8 (Aj n) 0),(3,.ref 4 (A0 f) 0),(5,A4 (n.devices[f.dev.toNat]'hfd.2).vtep),(6,Ab (decide (0≤v0) && (f.addrs.take j).all (agreeA n f))),(28,.sl 1 A4 f.addrs),(29,Aa f.addrs.length),(30,Aa j)]) (fun _=>[]) (fun j=>f.addrs.length-j) 0 [] q_ ⟨⟨E,E,E,E,E,E,congrArg Ab y_,E,E,E,E,E,E,E,Y⟩,Y,E,E⟩ ?_
 intro j hj
 refine T ?_
 refine⟨fun h=>?_,fun h=>?_⟩
 ·have hlt:j<f.addrs.length:=qA h
  have hj0:((j:Nat):Int).toNat<f.addrs.length:=hlt
  clear h
  have qo:=Ai7 n hn (f.addrs[((j:Nat):Int).toNat]'hj0)
  have hA:=hag (f.addrs[((j:Nat):Int).toNat]'hj0)
  have hsn:(f.addrs.take (j+1)).all (agreeA n f)=((f.addrs.take j).all (agreeA n f) && agreeA n f (f.addrs[((j:Nat):Int).toNat]'hj0)):=by
   rw[List.take_succ_eq_append_getElem hlt,List.all_append]
   simp only[List.all_cons,List.all_nil,Bool.and_true]
   rfl
  have hwhole:agreeA n f (f.addrs[((j:Nat):Int).toNat]'hj0)=false→f.addrs.all (agreeA n f)=false:=fun h=>by
   rw[List.all_eq_false]
   exact⟨_,List.getElem_mem hj0,by rw[h];simp⟩
  have hpart:(f.addrs.take j).all (agreeA n f)=false→f.addrs.all (agreeA n f)=false:=fun h=>by
   rw[List.all_eq_false]at h ⊢
   obtain ⟨x,hx,hx2⟩:=h
   exact⟨x,List.mem_of_mem_take hx,hx2⟩
  have qf:=T3 n hn (Ea n (f.addrs[((j:Nat):Int).toNat]'hj0)) f.vni
  have ql:=Adl n hn (Ea n (f.addrs[((j:Nat):Int).toNat]'hj0)) f.vni
  cases ho:(decide (0≤v0) && (f.addrs.take j).all (agreeA n f)) with
  | false =>
   have hr0:res=false:=by
    rw[hres]
    cases hd:decide (0≤v0)
    ·rfl
    ·rw[hd,Bool.true_and]at ho
     rw[hpart ho];rfl
   subst hr0
   generalize Ea n (f.addrs[((j:Nat):Int).toNat]'hj0)=dv at *
   refine T ?_
   refine C qo F134 ?_
   exact D
  | true =>
   have hdr:Ea n (f.addrs[((j:Nat):Int).toNat]'hj0)<0∨0≤Ea n (f.addrs[((j:Nat):Int).toNat]'hj0):=by omega
   have hlr:H8 n (Ea n (f.addrs[((j:Nat):Int).toNat]'hj0)) f.vni<0∨∃ k:Nat,H8 n (Ea n (f.addrs[((j:Nat):Int).toNat]'hj0)) f.vni=k∧k<n.floods.length:=by
    by_cases h:H8 n (Ea n (f.addrs[((j:Nat):Int).toNat]'hj0)) f.vni<0
    ·exact .inl h
    ·exact .inr (Ih h)
   generalize Mw n (Ea n (f.addrs[((j:Nat):Int).toNat]'hj0)) f.vni=fv at *
   generalize H8 n (Ea n (f.addrs[((j:Nat):Int).toNat]'hj0)) f.vni=lv at *
   generalize Ea n (f.addrs[((j:Nat):Int).toNat]'hj0)=dv at *
   by_cases k1:dv<0
   ·have g1:decide (dv≥0)=false:=decide_eq_false q_
    have g1n:(!(decide (dv≥0)))=true:=by rw[g1];rfl
    have hr0:res=false:=by rw[hres,hwhole (by rw[hA,decide_eq_false (by omega:¬ 0≤dv)];rfl),Bool.and_false]
    subst hr0
    refine T ?_
    refine C qo F134 ?_
    exact D
   have g1:decide (dv≥0)=true:=decide_eq_true q_
   rw[decide_eq_true (by omega:0≤dv),Bool.true_and]at hA
   by_cases k2:(f.addrs[((j:Nat):Int).toNat]'hj0)=0
   ·have g2:((f.addrs[((j:Nat):Int).toNat]'hj0) != 0)=false:=by rw[bne_eq_false_iff_eq];exact k2
    have g2n:(!((f.addrs[((j:Nat):Int).toNat]'hj0) != 0))=true:=by rw[g2];rfl
    have hr0:res=false:=by rw[hres,hwhole (by rw[hA,g2];rfl),Bool.and_false]
    subst hr0
    refine T ?_
    refine C qo F134 ?_
    exact D
   have g2:((f.addrs[((j:Nat):Int).toNat]'hj0) != 0)=true:=by rw[bne_iff_ne];exact k2
   rw[g2,Bool.true_and]at hA
   by_cases k3:fv<0
   ·have g3:decide (fv≥0)=false:=decide_eq_false q_
    have g3n:(!(decide (fv≥0)))=true:=by rw[g3];rfl
    have hr0:res=false:=by rw[hres,hwhole (by rw[hA,decide_eq_false (by omega:¬ 0≤fv)];rfl),Bool.and_false]
    subst hr0
    refine T ?_
    refine C qo F134 ?_
    refine C qf F133 ?_
    exact D
   have g3:decide (fv≥0)=true:=decide_eq_true q_
   rw[decide_eq_true (by omega:0≤fv),Bool.true_and]at hA
   by_cases k4:lv<0
   ·have g4:decide (lv≥0)=false:=decide_eq_false q_
    have g4n:(!(decide (lv≥0)))=true:=by rw[g4];rfl
    have hr0:res=false:=by rw[hres,hwhole (by rw[hA,decide_eq_false (by omega:¬ 0≤lv)];rfl),Bool.and_false]
    subst hr0
    refine T ?_
    refine C qo F134 ?_
    refine C qf F133 ?_
    refine C ql F132 ?_
    refine Ap E (.cons .tmp .nil) (congrArg Ab g4.symm) E
   have g4:decide (lv≥0)=true:=decide_eq_true q_
   have g4n:(!(decide (lv≥0)))=false:=by rw[g4];rfl
   rw[decide_eq_true (by omega:0≤lv),Bool.true_and]at hA
   obtain ⟨m,hm,hml⟩:=hlr.resolve_left k4
   subst hm
   have hm0:((m:Nat):Int).toNat<n.floods.length:=hml
   rw[Ae hm0,hown]at hA
   have hfar:=hn.addrs _ (List.getElem_mem hm0)
   have qc:=Me (n.floods[((m:Nat):Int).toNat]'hm0).addrs (n.devices[f.dev.toNat]'hfd.2).vtep hfar
   have qcb:=fun b=>Me (n.floods[((m:Nat):Int).toNat]'hm0).addrs b hfar
   have hnx:(decide (0≤v0) && (f.addrs.take (j+1)).all (agreeA n f))=(inB (n.floods[((m:Nat):Int).toNat]'hm0).addrs (n.devices[f.dev.toNat]'hfd.2).vtep && f.addrs.all fun b=>b == (f.addrs[((j:Nat):Int).toNat]'hj0) || inB (n.floods[((m:Nat):Int).toNat]'hm0).addrs b):=by
    rw[hsn,← Bool.and_assoc,ho,Bool.true_and,hA]
   clear hA hsn hwhole hpart ho hag
   refine T ?_
   refine C qo F134 ?_
   refine C qf F133 ?_
   refine C ql F132 ?_
   refine C ql F132 ?_
   refine C qc F194 ?_
   refine C1 (fun k:Nat=>k≤f.addrs.length) (fun k=>[(2,.ref 8 (Aj n) 0),(3,.ref 4 (A0 f) 0),(5,A4 (n.devices[f.dev.toNat]'hfd.2).vtep),(6,Ab (inB (n.floods[((m:Nat):Int).toNat]'hm0).addrs (n.devices[f.dev.toNat]'hfd.2).vtep && (f.addrs.take k).all fun b=>b == (f.addrs[((j:Nat):Int).toNat]'hj0) || inB (n.floods[((m:Nat):Int).toNat]'hm0).addrs b)),(8,A4 (f.addrs[((j:Nat):Int).toNat]'hj0)),(10,.sl 1 A4 (n.floods[((m:Nat):Int).toNat]'hm0).addrs),(28,.sl 1 A4 f.addrs),(29,Aa f.addrs.length),(30,Aa j),(78,.sl 1 A4 f.addrs),(79,Aa f.addrs.length),(80,Aa k)]) (fun _=>[]) (fun k=>f.addrs.length-k) 0 [] q_ ⟨⟨E,E,E,E,E,E,congrArg Ab y_,E,E,E,E,E,E,E,E,E,E,E,E,E,E,E,E,E,Y⟩,Y,E,E⟩ ?_
   intro k hk
   refine T ?_
   refine⟨fun h=>?_,fun h=>?_⟩
   ·have hlt2:k<f.addrs.length:=qA h
    have hk0:((k:Nat):Int).toNat<f.addrs.length:=hlt2
    clear h
    have hsn:(f.addrs.take (k+1)).all (fun b=>b == (f.addrs[((j:Nat):Int).toNat]'hj0) || inB (n.floods[((m:Nat):Int).toNat]'hm0).addrs b)=((f.addrs.take k).all (fun b=>b == (f.addrs[((j:Nat):Int).toNat]'hj0) || inB (n.floods[((m:Nat):Int).toNat]'hm0).addrs b) && ((f.addrs[((k:Nat):Int).toNat]'hk0) == (f.addrs[((j:Nat):Int).toNat]'hj0) || inB (n.floods[((m:Nat):Int).toNat]'hm0).addrs (f.addrs[((k:Nat):Int).toNat]'hk0))):=by
     rw[List.take_succ_eq_append_getElem hlt2,List.all_append]
     simp only[List.all_cons,List.all_nil,Bool.and_true]
     rfl
    have hst:(inB (n.floods[((m:Nat):Int).toNat]'hm0).addrs (n.devices[f.dev.toNat]'hfd.2).vtep && (f.addrs.take (k+1)).all fun b=>b == (f.addrs[((j:Nat):Int).toNat]'hj0) || inB (n.floods[((m:Nat):Int).toNat]'hm0).addrs b)=((inB (n.floods[((m:Nat):Int).toNat]'hm0).addrs (n.devices[f.dev.toNat]'hfd.2).vtep && (f.addrs.take k).all fun b=>b == (f.addrs[((j:Nat):Int).toNat]'hj0) || inB (n.floods[((m:Nat):Int).toNat]'hm0).addrs b) && ((f.addrs[((k:Nat):Int).toNat]'hk0) == (f.addrs[((j:Nat):Int).toNat]'hj0) || inB (n.floods[((m:Nat):Int).toNat]'hm0).addrs (f.addrs[((k:Nat):Int).toNat]'hk0))):=by
     rw[hsn,Bool.and_assoc]
    have qb:=qcb (f.addrs[((k:Nat):Int).toNat]'hk0)
    cases ho2:(inB (n.floods[((m:Nat):Int).toNat]'hm0).addrs (n.devices[f.dev.toNat]'hfd.2).vtep && (f.addrs.take k).all fun b=>b == (f.addrs[((j:Nat):Int).toNat]'hj0) || inB (n.floods[((m:Nat):Int).toNat]'hm0).addrs b) with
    | false =>
     rw[ho2,Bool.false_and]at hst
     refine T ?_
     exact Bg (k+1) [] hlt2 q_ ⟨⟨E,E,E,E,E,E,congrArg Ab hst,E,E,E,E,E,E,E,E,E,E,E,E,E,E,E,E,E,Y⟩,Y,E,E⟩
    | true =>
     rw[ho2,Bool.true_and]at hst
     cases he:((f.addrs[((k:Nat):Int).toNat]'hk0) == (f.addrs[((j:Nat):Int).toNat]'hj0)) with
     | true =>
      rw[he,Bool.true_or]at hst
      refine T ?_
      exact Bg (k+1) [] hlt2 q_ ⟨⟨E,E,E,E,E,E,congrArg Ab hst,E,E,E,E,E,E,E,E,E,E,E,E,E,E,E,E,E,Y⟩,Y,E,E⟩
     | false =>
      rw[he,Bool.false_or]at hst
      refine T ?_
      refine C qb F194 ?_
      exact Bg (k+1) [] hlt2 q_ ⟨⟨E,E,E,E,E,E,congrArg Ab hst,E,E,E,E,E,E,E,E,E,E,E,E,E,E,E,E,E,Y⟩,Y,E,E⟩
   ·have hke:k=f.addrs.length:=qB h
    clear h
    rw[hke,List.take_length]
    refine T ?_
    exact Bg (j+1) [] hlt q_ ⟨⟨E,E,E,E,E,E,congrArg Ab hnx,E,E,E,E,E,E,E,Y⟩,Y,E,E⟩
 ·have hje:j=f.addrs.length:=qB h
  clear h
  subst hje
  rw[List.take_length,← hres]
  refine T ?_
  exact D
theorem Zp {α:Type} {p:α→Bool}:∀ {l:List α} {j:Nat} (hj:j<l.length),(∀ k (hk:k<l.length),k<j→p l[k]=false)→p l[j]=true→l.find? p=some l[j]
 | x::l,0,_,_,h2=>by
  rw[List.getElem_cons_zero]at h2 ⊢
  rw[List.find?_cons,h2]
 | x::l,j+1,hj,h1,h2=>by
  rw[List.getElem_cons_succ]at h2 ⊢
  have h0:=h1 0 y_ q_
  rw[List.getElem_cons_zero]at h0
  rw[List.find?_cons,h0]
  exact Zp (by simpa using hj) (fun k hk hkj=>by
   have:=h1 (k+1) (by simp;omega) q_
   rwa [List.getElem_cons_succ]at this) h2
def Mx (n:Net) (j:Nat):List Domain:=(n.domains.take j).map (fun d=>{ d with peers:=peersT n d })++n.domains.drop j
theorem Anw (n:Net):Mx n 0=n.domains:=by simp[Mx]
theorem Aq1 (n:Net):Mx n n.domains.length=(Hd n).domains:=by simp[Mx,Hd]
theorem Aq0 (n:Net) {j:Nat} (hj:j≤n.domains.length):(Mx n j).length=n.domains.length:=by simp[Mx];omega
theorem Anx (n:Net) {j:Nat} (hj:j<n.domains.length) (h:((j:Nat):Int).toNat<(Mx n j).length) :
  (Mx n j)[((j:Nat):Int).toNat]'h=n.domains[j]∧(Mx n j).set ((j:Nat):Int).toNat { n.domains[j] with peers:=peersT n n.domains[j] }=Mx n (j+1):=by
 have hl:((n.domains.take j).map (fun d=>{ d with peers:=peersT n d })).length=j:=by simp;omega
 have e:Mx n j=(n.domains.take j).map (fun d=>{ d with peers:=peersT n d })++n.domains[j]::n.domains.drop (j+1):=by
  rw[Mx,List.drop_eq_getElem_cons hj]
 have e2:Mx n (j+1)=(n.domains.take j).map (fun d=>{ d with peers:=peersT n d })++{ n.domains[j] with peers:=peersT n n.domains[j] }::n.domains.drop (j+1):=by
  rw[Mx,List.take_succ_eq_append_getElem hj,List.map_append,List.map_cons,List.map_nil,List.append_assoc];rfl
 constructor
 ·simp only[Int.toNat_natCast,e]
  rw[List.getElem_append_right q_]
  simp only[hl,Nat.sub_self,List.getElem_cons_zero]
 ·rw[Int.toNat_natCast,e,e2,List.set_append_right _ _ q_,hl,Nat.sub_self]
  rfl
theorem Ar6 (n:Net) (h:Ac n=true):(∀ f∈n.floods,f.addrs.length≤16):=fun f hf=>by
 obtain ⟨j,hj,rfl⟩:=List.getElem_of_mem hf
 have:=Al2 h hj
 simp only[S1,Bool.and_eq_true,decide_eq_true_eq]at this
 exact this.2
theorem Anm {n:Net} (h:Ac n=true) (d:Domain):(peersT n d).length≤16:=by
 unfold peersT
 split
 ·rename_i hc
  rw[List.length_map]
  have hl:=Em (fun f:Flood=>f.dev == d.dev && f.vni == d.vni) n.floods
  have h0:(H8 n d.dev d.vni).toNat<n.floods.length:=by
   have e:H8 n d.dev d.vni=B9 (fun f:Flood=>f.dev == d.dev && f.vni == d.vni) n.floods:=rfl
   have:=hc.2
   omega
  rw[Ae h0]
  exact Ar6 n h _ (List.getElem_mem h0)
 ·simp
theorem Y2 {n:Net} (hn:n.Fin) (h:Ac n=true):(Hd n).Fin:=by
 have hl:(Hd n).domains.length=n.domains.length:=by simp[Hd]
 refine { hn with domains:=?_,peers:=?_ }
 ·show (Hd n).domains.length<_
  rw[hl];exact hn.domains
 ·intro p hp
  have hp:p∈n.domains.map fun d=>{ d with peers:=peersT n d }:=hp
  obtain ⟨d,_,rfl⟩:=List.mem_map.1 hp
  show (peersT n d).length<_
  have:=Anm h d
  omega
theorem meshS (n:Net) (hn:n.Fin):Sy.Spec Tryz.prog 76 [Aj n] [] (.tup [Aj (meshNT n).1,Aa (meshNT n).2.1,Aa (meshNT n).2.2]) []:=cT F76 Tryz.ntmps76 fun F hF=>by
 have qn:=At n hn
 have qcopy:=Md n hn
 have hres:=meshNT.eq_1 n
 generalize meshNT n=res at *
 cases hr:Ac n with
 | false =>
  rw[hr]at qn
  rw[hr,if_pos rfl]at hres
  subst hres
  refine T ?_
  refine C qn F12 ?_
  refine Am 2 (Cn emptyN) E vL ?_
  refine T ?_
  exact D
 | true =>
 rw[hr]at qn
 rw[hr,if_neg y_]at hres
 have hff:n.floods.length<2147483648:=hn.floods
 have hdd:n.domains.length<2147483648:=hn.domains
 refine T ?_
 refine C qn F12 ?_
 refine Aw 1 8 (Aj n) E E E ?_
 refine C1 (fun j:Nat=>j≤n.floods.length∧∀ k (hk:k<n.floods.length),k<j→agreesB n n.floods[k]=true) (fun j=>[(1,.ref 8 (Aj n) 0),(2,.ptr 1001 0),(18,.sl 4 A0 n.floods),(19,Aa n.floods.length),(20,Aa j)]) (fun _=>[(1001,.box [.val (.slice none 0 0),.val (.slice none 0 0),.val (.slice none 0 0),.val (.slice none 0 0),.val (.slice none 0 0),.val (.slice none 0 0),.val (.slice none 0 0),.val (.slice none 0 0)])]) (fun j=>n.floods.length-j) 0 [(1001,2)] ⟨by omega,fun k hk h=>by omega⟩ U ?_
 rintro j ⟨hj,hI⟩
 refine T ?_
 refine⟨fun h=>?_,fun h=>?_⟩
 ·have hlt:j<n.floods.length:=qA h
  have hj0:((j:Nat):Int).toNat<n.floods.length:=hlt
  clear h
  have q:=Auv n hn hr (n.floods[((j:Nat):Int).toNat]'hj0) (List.getElem_mem hj0)
  cases ha:agreesB n (n.floods[((j:Nat):Int).toNat]'hj0) with
  | false =>
   rw[ha]at q
   rw[Zp (p:=fun f=>!(agreesB n f)) hlt (fun k hk hkj=>by simp only[hI k hk hkj];rfl) (by show (!(agreesB n (n.floods[((j:Nat):Int).toNat]'hj0)))=true;rw[ha];rfl)]at hres
   dsimp only at hres
   subst hres
   refine T ?_
   refine C q F131 ?_
   refine Am 1001 (Cn emptyN) E vL ?_
   refine T ?_
   exact D
  | true =>
   rw[ha]at q
   refine T ?_
   refine C q F131 ?_
   refine Bg (j+1) [] ⟨hlt,fun k hk hkj=>?_⟩ q_ U
   by_cases e:k=j
   ·subst e;exact ha
   ·exact hI k hk q_
 ·have hje:j=n.floods.length:=qB h
  clear h
  have hnone:n.floods.find? (fun f=>!(agreesB n f))=none:=by
   rw[List.find?_eq_none]
   intro x hx
   obtain ⟨k,hk,rfl⟩:=List.getElem_of_mem hx
   rw[hI k hk q_];simp
  rw[hnone]at hres
  dsimp only at hres
  clear hI hj hje hnone
  refine T ?_
  refine X (Ad [(0,901),(1,902),(2,903),(3,904),(4,905),(5,906),(6,907),(7,908)] E F59 qcopy E W E V) ?_
  refine C1 (fun j:Nat=>j≤n.domains.length) (fun j=>[(1,.ref 8 (Aj n) 0),(2,.ptr 1001 0),(35,.sl 6 An n.domains),(36,Aa n.domains.length),(37,Aa j)]) (fun j=>[(1001,.box [.osl 901,.osl 902,.osl 903,.osl 1004,.osl 905,.osl 906,.osl 907,.osl 908]),(901,.row 5 Aq n.devices),(902,.row 7 Au n.ports),(903,.row 3 Bl n.links),(1004,.row 6 An (Mx n j)),(905,.row 4 As n.statics),(906,.row 4 A0 n.floods),(907,.row 5 Bv n.vrfs),(908,.row 5 Br n.irbs)]) (fun j=>n.domains.length-j) 0 [(1004,904)] q_ ⟨⟨E,E,E,E,E,E,E,E,E,E,Y⟩,⟨.inl E,E,.inl E,E,.inl E,E,.inl E,E,.inl (congrArg (Ob.row 6 An) (Anw n)),E,.inl E,E,.inl E,E,.inl E,E,.inl E,E,Y⟩,E,E⟩ ?_
  intro j hj
  have hml:=Aq0 n hj
  refine T ?_
  refine⟨fun h=>?_,fun h=>?_⟩
  ·have hlt:j<n.domains.length:=qA h
   have hj0:((j:Nat):Int).toNat<n.domains.length:=hlt
   clear h
   have hjm:((j:Nat):Int).toNat<(Mx n j).length:=by rw[hml];exact hj0
   obtain ⟨m1,m2⟩:=Anx n hlt hjm
   have hDj:n.domains[j]=(n.domains[((j:Nat):Int).toNat]'hj0):=rfl
   rw[hDj]at m1 m2
   have hne:Mx n j≠[]:=fun e=>by rw[e]at hjm;cases hjm
   have ql:=Adl n hn (n.domains[((j:Nat):Int).toNat]'hj0).dev (n.domains[((j:Nat):Int).toNat]'hj0).vni
   have hpt:=peersT.eq_1 n (n.domains[((j:Nat):Int).toNat]'hj0)
   have hlr:H8 n (n.domains[((j:Nat):Int).toNat]'hj0).dev (n.domains[((j:Nat):Int).toNat]'hj0).vni<0∨∃ k:Nat,H8 n (n.domains[((j:Nat):Int).toNat]'hj0).dev (n.domains[((j:Nat):Int).toNat]'hj0).vni=k∧k<n.floods.length:=by
    by_cases h:H8 n (n.domains[((j:Nat):Int).toNat]'hj0).dev (n.domains[((j:Nat):Int).toNat]'hj0).vni<0
    ·exact .inl h
    ·exact .inr (Ih h)
   generalize H8 n (n.domains[((j:Nat):Int).toNat]'hj0).dev (n.domains[((j:Nat):Int).toNat]'hj0).vni=lv at *
   generalize hpT:peersT n (n.domains[((j:Nat):Int).toNat]'hj0)=ps at *
   by_cases k1:(n.domains[((j:Nat):Int).toNat]'hj0).vni=0
   ·have g1:((n.domains[((j:Nat):Int).toNat]'hj0).vni != 0)=false:=by rw[bne_eq_false_iff_eq];exact k1
    rw[if_neg (fun h=>h.1 k1)]at hpt
    subst hpt
    refine T ?_
    refine Ao 9 1 Aa E ?_
    refine C ql F132 ?_
    refine⟨hne,?_⟩
    refine T ?_
    refine⟨(⟨(n.domains[((j:Nat):Int).toNat]'hj0).dev,(n.domains[((j:Nat):Int).toNat]'hj0).vlan,(n.domains[((j:Nat):Int).toNat]'hj0).vni,(n.domains[((j:Nat):Int).toNat]'hj0).irb,(n.domains[((j:Nat):Int).toNat]'hj0).row,[]⟩:Domain),by rw[m1];rfl,by rw[m1];rfl,?_⟩
    refine T ?_
    exact Bg (j+1) [] hlt q_ ⟨⟨E,E,E,E,E,E,E,E,E,E,Y⟩,⟨.inl E,E,.inl E,E,.inl E,E,.inl E,E,.inl (congrArg (Ob.row 6 An) m2.symm),E,.inl E,E,.inl E,E,.inl E,E,.inl E,E,Y⟩,E,E⟩
   have g1:((n.domains[((j:Nat):Int).toNat]'hj0).vni != 0)=true:=by rw[bne_iff_ne];exact k1
   by_cases k2:lv<0
   ·have g2:decide (lv≥0)=false:=decide_eq_false q_
    rw[if_neg (fun h=>by have:=h.2;omega)]at hpt
    subst hpt
    refine T ?_
    refine Ao 9 1 Aa E ?_
    refine C ql F132 ?_
    refine⟨hne,?_⟩
    refine T ?_
    refine⟨(⟨(n.domains[((j:Nat):Int).toNat]'hj0).dev,(n.domains[((j:Nat):Int).toNat]'hj0).vlan,(n.domains[((j:Nat):Int).toNat]'hj0).vni,(n.domains[((j:Nat):Int).toNat]'hj0).irb,(n.domains[((j:Nat):Int).toNat]'hj0).row,[]⟩:Domain),by rw[m1];rfl,by rw[m1];rfl,?_⟩
    refine T ?_
    exact Bg (j+1) [] hlt q_ ⟨⟨E,E,E,E,E,E,E,E,E,E,Y⟩,⟨.inl E,E,.inl E,E,.inl E,E,.inl E,E,.inl (congrArg (Ob.row 6 An) m2.symm),E,.inl E,E,.inl E,E,.inl E,E,.inl E,E,Y⟩,E,E⟩
   obtain ⟨m,hm,hmf⟩:=hlr.resolve_left k2
   subst hm
   clear hlr
   have g2:decide ((m:Int)≥0)=true:=decide_eq_true q_
   have hm0:((m:Nat):Int).toNat<n.floods.length:=hmf
   rw[if_pos ⟨k1,by omega⟩,Ae hm0]at hpt
   have hfa:=Ar6 n hr _ (List.getElem_mem hm0)
   refine T ?_
   refine Cc 9 1200 1 Aa E E ?_
   refine C ql F132 ?_
   refine Aw 8 6 (An (n.domains[((j:Nat):Int).toNat]'hj0)) E E E ?_
   refine C1 (fun k:Nat=>k≤(n.floods[((m:Nat):Int).toNat]'hm0).addrs.length) (fun k=>[(1,.ref 8 (Aj n) 0),(2,.ptr 1001 0),(7,Aa j),(8,.ref 6 (An (n.domains[((j:Nat):Int).toNat]'hj0)) 0),(9,.osl 1200),(35,.sl 6 An n.domains),(36,Aa n.domains.length),(37,Aa j),(60,.sl 1 A4 (n.floods[((m:Nat):Int).toNat]'hm0).addrs),(61,Aa (n.floods[((m:Nat):Int).toNat]'hm0).addrs.length),(62,Aa k)]) (fun k=>[(1001,.box [.osl 901,.osl 902,.osl 903,.osl 1004,.osl 905,.osl 906,.osl 907,.osl 908]),(901,.row 5 Aq n.devices),(902,.row 7 Au n.ports),(903,.row 3 Bl n.links),(1004,.row 6 An (Mx n j)),(905,.row 4 As n.statics),(906,.row 4 A0 n.floods),(907,.row 5 Bv n.vrfs),(908,.row 5 Br n.irbs),(1200,.row 1 Aa (((n.floods[((m:Nat):Int).toNat]'hm0).addrs.take k).map (fun a=>Mw n (Ea n a) (n.domains[((j:Nat):Int).toNat]'hj0).vni)))]) (fun k=>(n.floods[((m:Nat):Int).toNat]'hm0).addrs.length-k) 0 [] q_ U ?_
   intro k hk
   refine T ?_
   refine⟨fun h=>?_,fun h=>?_⟩
   ·have hlt2:k<(n.floods[((m:Nat):Int).toNat]'hm0).addrs.length:=qA h
    have hk0:((k:Nat):Int).toNat<(n.floods[((m:Nat):Int).toNat]'hm0).addrs.length:=hlt2
    clear h
    have qo:=Ai7 n hn ((n.floods[((m:Nat):Int).toNat]'hm0).addrs[((k:Nat):Int).toNat]'hk0)
    have qf:=T3 n hn (Ea n ((n.floods[((m:Nat):Int).toNat]'hm0).addrs[((k:Nat):Int).toNat]'hk0)) (n.domains[((j:Nat):Int).toNat]'hj0).vni
    have hsn:((n.floods[((m:Nat):Int).toNat]'hm0).addrs.take (k+1)).map (fun a=>Mw n (Ea n a) (n.domains[((j:Nat):Int).toNat]'hj0).vni)=((n.floods[((m:Nat):Int).toNat]'hm0).addrs.take k).map (fun a=>Mw n (Ea n a) (n.domains[((j:Nat):Int).toNat]'hj0).vni)++[Mw n (Ea n ((n.floods[((m:Nat):Int).toNat]'hm0).addrs[((k:Nat):Int).toNat]'hk0)) (n.domains[((j:Nat):Int).toNat]'hj0).vni]:=by
     rw[List.take_succ_eq_append_getElem hlt2,List.map_append];rfl
    have hrl:(((n.floods[((m:Nat):Int).toNat]'hm0).addrs.take k).map (fun a=>Mw n (Ea n a) (n.domains[((j:Nat):Int).toNat]'hj0).vni)).length≤16:=by rw[List.length_map,List.length_take];omega
    refine T ?_
    refine C qo F134 ?_
    refine C qf F133 ?_
    refine Xd (Ag Γ.toTy 75 E E E E E (.row E) (.lit (e:=Aa) (l:=[Mw n (Ea n ((n.floods[((m:Nat):Int).toNat]'hm0).addrs[((k:Nat):Int).toNat]'hk0)) (n.domains[((j:Nat):Int).toNat]'hj0).vni]) E E) j_ (by simp only[List.length_singleton];omega) (by simp only[List.length_singleton];omega)) ?_
    refine T ?_
    exact Bg (k+1) [(1200,75)] hlt2 q_ ⟨⟨E,E,E,E,E,E,E,E,E,E,E,E,E,E,E,E,E,E,E,E,E,E,Y⟩,⟨.inl E,E,.inl E,E,.inl E,E,.inl E,E,.inl E,E,.inl E,E,.inl E,E,.inl E,E,.inl E,E,.inl (congrArg (Ob.row 1 Aa) hsn),E,Y⟩,E,E⟩
   ·have hke:k=(n.floods[((m:Nat):Int).toNat]'hm0).addrs.length:=qB h
    clear h
    rw[hke,List.take_length,← hpt]
    refine Ah 1200 E ?_
    refine T ?_
    refine⟨hne,?_⟩
    refine T ?_
    refine⟨(⟨(n.domains[((j:Nat):Int).toNat]'hj0).dev,(n.domains[((j:Nat):Int).toNat]'hj0).vlan,(n.domains[((j:Nat):Int).toNat]'hj0).vni,(n.domains[((j:Nat):Int).toNat]'hj0).irb,(n.domains[((j:Nat):Int).toNat]'hj0).row,ps⟩:Domain),by rw[m1];rfl,by rw[m1];rfl,?_⟩
    refine T ?_
    exact Bg (j+1) [] hlt q_ ⟨⟨E,E,E,E,E,E,E,E,E,E,Y⟩,⟨.inl E,E,.inl E,E,.inl E,E,.inl E,E,.inl (congrArg (Ob.row 6 An) m2.symm),E,.inl E,E,.inl E,E,.inl E,E,.inl E,E,Y⟩,E,E⟩
  ·have hje:j=n.domains.length:=qB h
   clear h
   subst hje
   rw[Aq1]
   have qm:=At (Hd n) (Y2 hn hr)
   refine T ?_
   refine Ah 901 E ?_
   refine Ah 902 E ?_
   refine Ah 903 E ?_
   refine Ah 1004 E ?_
   refine Ah 905 E ?_
   refine Ah 906 E ?_
   refine Ah 907 E ?_
   refine Ah 908 E ?_
   cases hb:Ac (Hd n) with
   | false =>
    rw[hb]at qm
    rw[hb,if_pos rfl]at hres
    subst hres
    refine C qm F12 ?_
    refine Am 1001 (Cn emptyN) E vL ?_
    refine T ?_
    exact D
   | true =>
    rw[hb]at qm
    rw[hb,if_neg y_]at hres
    subst hres
    refine C qm F12 ?_
    exact D
end Go.Sy.YtcflgpijohhfbaaGreat
namespace Go.Sy.YtcflgpijohhfbaaGreat
open Go.Proofs
set_option maxHeartbeats 4000000
structure PutP (x:Net × Int):Prop where
 fin:x.1.Fin
 addrs:Cr x.1
 none:x.2≠0→x.1=emptyN
theorem Jl:emptyN.Fin:=by
 constructor<;>first | (show (0:Nat)<2147483648;decide) | (intro p hp;cases hp)
theorem Bc (e:Int):PutP (emptyN,e):=⟨Jl,(fun x hx=>by cases hx),fun _=>rfl⟩
theorem Jd {n:Net} (h:n.Fin) (a:Cr n):PutP (n,0):=⟨h,a,fun h=>absurd rfl h⟩
theorem Ov {n:Net} {l:LineM} {k:Int} (h:¬ fitsB n l k=false):n.devices.length≤8∧n.ports.length≤40∧n.links.length≤20∧n.domains.length≤48∧n.statics.length≤64∧n.floods.length≤48∧n.vrfs.length≤16∧n.irbs.length≤48:=by
 have h:fitsB n l k=true:=by simpa using h
 rw[fitsB,Bool.and_eq_true,Bool.and_eq_true]at h
 have h3:=h.2.2
 simp only[Ac,Bool.and_eq_true]at h3
 have h4:=h3.1.1.1.1.1.1.1.1
 simpa [Aj7,and_assoc] using h4
theorem U6 {n:Net} {l:LineM} {k:Int} (h:¬ (begT n l k).2≠0):n.devices.length≤8∧n.ports.length≤40∧n.links.length≤20∧n.domains.length≤48∧n.statics.length≤64∧n.floods.length≤48∧n.vrfs.length≤16∧n.irbs.length≤48:=by
 apply Ov (l:=l) (k:=k)
 intro h2
 rw[begT,if_pos h2]at h
 exact h j_
theorem Ct {α:Type} {l:List α} (h:l.length≤100000):Ak l:=by show l.length<2147483648;omega
theorem Xg (dev:Int):∀ (l:List Int) (ds:List Domain) (d:Domain),d∈Bd dev ds l→d∈ds∨d.peers=[]
 | [],_,_,h=>.inl h
 | v::l,ds,d,h=>by
  rcases Xg dev l (Dh dev ds v) d h with h | h
  ·unfold Dh at h
   split at h
   ·rcases List.mem_append.1 h with h | h
    ·exact .inl h
    ·rw[List.mem_singleton.1 h];exact .inr rfl
   ·exact .inl h
  ·exact .inr h
theorem Alp {α:Type} {l:List α} {i:Nat} {x y:α} (h:y∈l.set i x):y∈l∨y=x:=by
 rcases List.mem_or_eq_of_mem_set h with h | h
 ·exact .inl h
 ·exact .inr h
theorem Ajd {α:Type} [Inhabited α] {l:List α} {i:Int} (h:i.toNat<l.length):nth l i∈l:=by rw[Ae h];exact List.getElem_mem h
theorem Aat {n:Net} {l:LineM} (hn:n.Fin) (ha:Cr n):PutP (putDevice n l):=by
 unfold putDevice
 split
 ·exact Bc _
 rename_i h
 have:=Ov h
 split
 ·exact Bc _
 split
 ·exact Bc _
 exact Jd { hn with devices:=Ct (by rw[List.length_append,List.length_singleton];omega) } ha
theorem Afw {n:Net} {l:LineM} (hn:n.Fin) (ha:Cr n) (hl:LineW l):PutP (putPort n l):=by
 unfold putPort
 split
 ·exact Bc _
 rename_i h
 have:=Ov h
 split
 ·exact Bc _
 split
 ·exact Bc _
 split
 ·exact Bc _
 split
 ·exact Bc _
 refine Jd { hn with ports:=Ct (by rw[List.length_append,List.length_singleton];omega),domains:=Ct (by dsimp only;omega),tagged:=fun p hp=>?_,peers:=fun d hd=>?_ } ha
 ·rcases List.mem_append.1 hp with hp | hp
  ·exact hn.tagged p hp
  ·rw[List.mem_singleton.1 hp];exact Ct hl.fin.t
 ·rcases Xg _ _ _ _ hd with h | h
  ·exact hn.peers d h
  ·exact Ct (by rw[h];exact Nat.zero_le _)
theorem Ak2 {l:List Port} {i k:Int} {p:Port} (h:p∈Vj l i k) (hT:∀ p∈l,Ak p.tagged):Ak p.tagged:=by
 by_cases hi:i.toNat<l.length
 ·rcases Alp h with h | h
  ·exact hT p h
  ·rw[h];exact show Ak (nth l i).tagged from hT _ (Ajd hi)
 ·rw[Vj,List.set_eq_of_length_le q_]at h
  exact hT p h
theorem Afx {n:Net} {l:LineM} (hn:n.Fin) (ha:Cr n):PutP (putLink n l):=by
 unfold putLink
 split
 ·exact Bc _
 rename_i h
 have:=Ov h
 dsimp only
 split
 ·exact Bc _
 split
 ·exact Bc _
 split
 ·exact Bc _
 refine Jd { hn with ports:=Ct (by simp only[Vj,List.length_set];omega),links:=Ct (by rw[List.length_append,List.length_singleton];omega),tagged:=fun p hp=>Ak2 hp fun q hq=>Ak2 hq hn.tagged } ha
theorem Aas {n:Net} {l:LineM} (hn:n.Fin) (ha:Cr n):PutP (putStatic n l):=by
 unfold putStatic
 split
 ·exact Bc _
 rename_i h
 have:=Ov h
 dsimp only
 split
 ·exact Bc _
 split
 ·exact Bc _
 split
 ·exact Bc _
 split
 ·exact Bc _
 exact Jd { hn with statics:=Ct (by rw[List.length_append,List.length_singleton];omega) } ha
theorem Afv {n:Net} {l:LineM} (hn:n.Fin) (ha:Cr n):PutP (putVtep n l):=by
 unfold putVtep
 split
 ·exact Bc _
 rename_i h
 have:=U6 h
 dsimp only
 split
 ·exact Bc _
 exact Jd { hn with devices:=Ct (by simp only[Ac7,List.length_set];omega) } ha
theorem Al4 {l:List Domain} {i:Nat} {e d:Domain} (h:d∈l.set i e) (he:i<l.length→Ak e.peers) (hT:∀ p∈l,Ak p.peers):Ak d.peers:=by
 by_cases hi:i<l.length
 ·rcases Alp h with h | h
  ·exact hT d h
  ·rw[h];exact he hi
 ·rw[List.set_eq_of_length_le q_]at h
  exact hT d h
theorem Ai1 {n:Net} {l:LineM} (hn:n.Fin) (ha:Cr n):PutP (putVni n l):=by
 unfold putVni
 split
 ·exact Bc _
 rename_i h
 have:=U6 h
 dsimp only
 split
 ·exact Bc _
 split
 ·exact Bc _
 split
 ·exact Bc _
 exact Jd { hn with domains:=Ct (by simp only[List.length_set];omega),peers:=fun d hd=>Al4 hd (fun hi=>show Ak (nth n.domains _).peers from hn.peers _ (Ajd hi)) hn.peers } ha
theorem Adg {n:Net} {l:LineM} (hn:n.Fin) (ha:Cr n) (hl:LineW l):PutP (putFlood n l):=by
 unfold putFlood
 split
 ·exact Bc _
 rename_i h
 have:=U6 h
 dsimp only
 split
 ·exact Bc _
 split
 ·exact Bc _
 split
 ·exact Bc _
 split
 ·exact Bc _
 refine Jd { hn with floods:=Ct (by rw[List.length_append,List.length_singleton];omega),addrs:=fun p hp=>?_ } ha
 rcases List.mem_append.1 hp with hp | hp
 ·exact hn.addrs p hp
 ·rw[List.mem_singleton.1 hp];exact Ct hl.fin.a
theorem Ai0 {n:Net} {l:LineM} (hn:n.Fin) (ha:Cr n) (hl:LineW l):PutP (putVrf n l):=by
 unfold putVrf
 split
 ·exact Bc _
 rename_i h
 have:=U6 h
 dsimp only
 split
 ·exact Bc _
 split
 ·exact Bc _
 refine Jd { hn with vrfs:=Ct (by rw[List.length_append,List.length_singleton];omega),imports:=fun p hp=>?_,exports:=fun p hp=>?_ } ha
 ·rcases List.mem_append.1 hp with hp | hp
  ·exact hn.imports p hp
  ·rw[List.mem_singleton.1 hp];exact Ct hl.fin.i
 ·rcases List.mem_append.1 hp with hp | hp
  ·exact hn.exports p hp
  ·rw[List.mem_singleton.1 hp];exact Ct hl.fin.e
theorem Ai2 {n:Net} {l:LineM} (hn:n.Fin) (ha:Cr n) (hl:LineW l):PutP (putIrb n l):=by
 unfold putIrb
 split
 ·exact Bc _
 rename_i h
 have:=U6 h
 dsimp only
 split
 ·exact Bc _
 split
 ·exact Bc _
 split
 ·exact Bc _
 refine Jd { hn with domains:=Ct (by simp only[List.length_set];omega),peers:=fun d hd=>Al4 hd (fun hi=>show Ak (nth n.domains _).peers from hn.peers _ (Ajd hi)) hn.peers,irbs:=Ct (by rw[List.length_append,List.length_singleton];omega) } fun x hx=>?_
 rcases List.mem_append.1 hx with hx | hx
 ·exact ha x hx
 ·rw[List.mem_singleton.1 hx];exact hl.ok.addr
theorem Alg {n:Net} {l:LineM} (hn:n.Fin) (ha:Cr n) (hl:LineW l):PutP (putT n l):=by
 unfold putT
 split
 ·exact Aat hn ha
 split
 ·exact Afw hn ha hl
 split
 ·exact Afx hn ha
 split
 ·exact Aas hn ha
 split
 ·exact Afv hn ha
 split
 ·exact Ai1 hn ha
 split
 ·exact Adg hn ha hl
 split
 ·exact Ai0 hn ha hl
 split
 ·exact Ai2 hn ha hl
 exact Bc _
theorem Abx {n:Net} (hn:n.Fin):(meshNT n).1.Fin:=by
 unfold meshNT
 split
 ·exact Jl
 rename_i h
 have h:Ac n=true:=by simpa using h
 split
 ·exact Jl
 split
 ·exact Jl
 exact Y2 hn h
end Go.Sy.YtcflgpijohhfbaaGreat
namespace Go.Sy.YtcflgpijohhfbaaGreat
open Go.Proofs
attribute [local irreducible] Go.Sy.G Go.Sy.DR
set_option maxRecDepth 100000
set_option maxHeartbeats 4000000
def Tk (dn lk:Int) (M:List LineM) (n:Net) (row e:Int):List SV:=[.val (.int .u32 dn),.val (.int .i32 lk),.val (.int .u32 0),.sl 17 A2 M]++Cn n++[Aa row,Aa e]
def El (dn lk:Int) (M:List LineM) (x:Net × Int × Int):Obs:=[(0,.box (Tk dn lk M x.1 x.2.1 x.2.2))]
theorem Aq4 {n:Net} (h:(meshNT n).2.2=0):(meshNT n).2.1=0:=by
 unfold meshNT at h ⊢
 split
 ·rfl
 rename_i h1
 rw[if_neg h1]at h
 split at h
 ·cases h
 ·rename_i h2
  split at h
  ·cases h
  ·rename_i h3
   rw[if_neg h3]
theorem Aim (M:List LineM) (hM:∀ l∈M,LineW l) (hl:M.length<2147483648) (dn lk:Int):Sy.Spec Tryz.prog 30 [.ptr 0 0] (El dn lk M (emptyN,0,0)) (.tup []) (El dn lk M (Cv M)):=cT F30 Tryz.ntmps30 fun F hF=>by
 refine T ?_
 refine C1 (fun x:Nat × Net=>x.1≤M.length∧x.2.Fin∧Cr x.2∧Cv M=He x.2 (M.drop x.1)) (fun x=>[(0,.ptr 0 0),(9,.sl 17 A2 M),(10,Aa M.length),(11,Aa x.1)]) (fun x=>El dn lk M (x.2,0,0)) (fun x=>M.length-x.1) (0,emptyN) [] ⟨by omega,Jl,(fun x hx=>by cases hx),rfl⟩ U ?_
 rintro ⟨j,n⟩ ⟨hj,hn,ha,hI⟩
 dsimp only at hj hn ha hI ⊢
 refine T ?_
 refine⟨fun h=>?_,fun h=>?_⟩
 ·have hlt:j<M.length:=qA h
  have hj0:((j:Nat):Int).toNat<M.length:=hlt
  clear h
  have hw:=hM _ (List.getElem_mem hj0)
  have q:=Atw n hn ha _ hw
  have hp:=Alg hn ha hw
  rw[List.drop_eq_getElem_cons hlt,He]at hI
  refine T ?_
  refine cD q F75 ?_
  refine T ?_
  refine⟨fun h=>?_,fun h=>?_⟩
  ·have hne:(putT n (M[((j:Nat):Int).toNat]'hj0)).2≠0:=by intro e;rw[e]at h;cases h
   have he:=hp.none hne
   have hI2:Cv M=(emptyN,(M[((j:Nat):Int).toNat]'hj0).row,(putT n (M[((j:Nat):Int).toNat]'hj0)).2):=hI.trans (if_pos hne)
   rw[hI2,← he]
   clear h
   refine T ?_
   exact done E .nil [] (El dn lk M ((putT n (M[((j:Nat):Int).toNat]'hj0)).1,(M[((j:Nat):Int).toNat]'hj0).row,(putT n (M[((j:Nat):Int).toNat]'hj0)).2)) (fun _ h=>h) E E U
  ·have he:(putT n (M[((j:Nat):Int).toNat]'hj0)).2=0:=by simpa using h
   have hI2:Cv M=He (putT n (M[((j:Nat):Int).toNat]'hj0)).1 (M.drop (j+1)):=hI.trans (if_neg (fun hh=>hh he))
   clear h
   refine T ?_
   exact Bg (j+1,(putT n (M[((j:Nat):Int).toNat]'hj0)).1) [] ⟨hlt,hp.fin,hp.addrs,hI2⟩ (by dsimp only;omega) ⟨⟨E,E,E,E,E,E,E,E,Y⟩,⟨.inl (congrArg (fun e:Int=>Ob.box (Tk dn lk M (putT n (M[((j:Nat):Int).toNat]'hj0)).1 0 e)) he.symm),E,Y⟩,E,E⟩
 ·have hje:j=M.length:=qB h
  clear h
  rw[hje,List.drop_length,He]at hI
  rw[hI]
  have qm:=meshS n hn
  have hf:=finishT.eq_1 n
  refine T ?_
  refine C qm F76 ?_
  refine T ?_
  refine⟨fun h=>?_,fun h=>?_⟩
  ·have hne:(meshNT n).2.2≠0:=by intro e;rw[e]at h;cases h
   rw[if_pos hne]at hf
   rw[hf]
   clear h
   refine T ?_
   exact done E .nil [] (El dn lk M (meshNT n)) (fun _ h=>h) E E U
  have he:(meshNT n).2.2=0:=by simpa using h
  clear h
  have hrow:(meshNT n).2.1=0:=Aq4 he
  rw[if_neg (by rw[he];decide)]at hf
  have ql:=loopS (meshNT n).1 (Abx hn)
  refine T ?_
  refine C ql F77 ?_
  refine T ?_
  refine⟨fun h=>?_,fun h=>?_⟩
  ·rw[if_pos h]at hf
   rw[hf]
   clear h
   refine T ?_
   refine Am 0 (Tk dn lk M emptyN (loopT (meshNT n).1).1 38) E vL ?_
   exact A1 E .nil [] (El dn lk M (emptyN,(loopT (meshNT n).1).1,38)) (fun _ h=>h) E E U
  ·rw[if_neg (by rw[h];decide)]at hf
   rw[hf]
   clear h
   refine T ?_
   exact A1 E .nil [] (El dn lk M ((meshNT n).1,0,0)) (fun _ h=>h) E E ⟨Y,⟨.inl (congrArg (fun a:Int × Int=>Ob.box (Tk dn lk M (meshNT n).1 a.1 a.2)) (Prod.ext hrow.symm he.symm:((0:Int),(0:Int))=(meshNT n).2)),E,Y⟩,E,E⟩
theorem Als (a:Addr) (x:Int) (w:World) (hc:w.cell? a=some (.int .u32 x)):(callFunc 118 #[.pointer (some a)]).run Tryz.prog w=.ok (.value (.int .u32 x)) w :=
 run_call_load Tryz.func118 z_ z_ z_ .u32 z_ hc
theorem Q0 (w:World):(callFunc 242 #[]).run Tryz.prog w=.ok (.value (.tuple #[])) w:=run_call_mark0 Tryz.func242 z_ z_ z_ .disable z_ w
theorem Tu (w:World):(callFunc 244 #[]).run Tryz.prog w=.ok (.value (.tuple #[])) w:=run_call_mark0 Tryz.func244 z_ z_ z_ .enable z_ w
theorem Aar (a:Addr) (w:World):(callFunc 245 #[.pointer (some a)]).run Tryz.prog w=.ok (.value (.tuple #[])) w:=run_call_marked Tryz.func245 z_ z_ z_ .acquire z_ a w
theorem Aaq (a:Addr) (w:World):(callFunc 247 #[.pointer (some a)]).run Tryz.prog w=.ok (.value (.tuple #[])) w:=run_call_marked Tryz.func247 z_ z_ z_ .releaseMerge z_ a w
theorem Xi (a:Addr) (x:Value) (u:FrameMode) (w:World) (hc:w.cell? a=some x) (hz:w.frozen? a=false) :
  CallsD Tryz.prog 121 #[.pointer (some a),.bool true] u w fun e u' w'=>u'=u∧(e=.returned (.tuple #[])∧w'=w.drew.setCell a (.int .u32 1)):=by
 have hc':w.drew.cell? a=some x:=by go_simp
 have hz':w.drew.frozen? a=false:=by go_simp
 have hst:=run_call_store (P:=Tryz.prog) Tryz.func182 z_ z_ z_ z_ (k:=.u32) (y:=1) hc' hz'
 go_enter_d Tryz.func121,Tryz.ntmps121
 go_wp2
 go_region_calls
 all_goals (go_end0;exact⟨rfl,rfl⟩)
theorem Vi (a:Addr) (u:FrameMode) (w:World) (hc:w.cell? a=some (.int .i32 1)) (hz:w.frozen? a=false) :
  CallsD Tryz.prog 120 #[.pointer (some a)] u w fun e u' w'=>u'=u∧(e=.returned (.tuple #[])∧w'=w.setCell a (.int .i32 0)):=by
 have hd:=Q0
 have he:=Tu
 have hr:=Aaq
 have hadd:=run_call_add (P:=Tryz.prog) Tryz.func248 z_ z_ z_ .i32 z_ (y:=-1) (s:=0) hc hz (by simp[go_sem];rfl)
 have hcv:=run_convert_to_unsafe (P:=Tryz.prog) (src:=369) (dst:=373) Tryz.underlying369 Tryz.underlying373 z_ hc
 go_enter_d Tryz.func120,Tryz.ntmps120
 go_wp2
 go_end0
 go_wp2
 go_end0
 exact⟨E,E⟩
theorem Ajh (a:Addr) (w:World) (hc:w.cell? a=some (.int .i32 0)) (hz:w.frozen? a=false) :
  Calls Tryz.prog 119 #[.pointer (some a)] w fun e w'=>e=.returned (.tuple #[])∧w'=w.setCell a (.int .i32 1):=by
 have hd:=Q0
 have he:=Tu
 have ha:=Aar
 have hcas:=run_call_cas_hit (P:=Tryz.prog) Tryz.func243 z_ z_ z_ .i32 z_ (y:=1) hc hz
 have hc':(w.setCell a (.int .i32 1)).cell? a=some (.int .i32 1):=World.cell?_setCell_same w a _ hc
 have hcv:=run_convert_to_unsafe (P:=Tryz.prog) (src:=369) (dst:=373) Tryz.underlying369 Tryz.underlying373 z_ hc'
 go_enter Tryz.func119,Tryz.ntmps119
 go_wp2
 first | go_end0 | (simp only[Exit.inBlock,Exit.then];refine bodyPost_ret (results_none rfl _ _ _) rfl ?_) | refine bodyPost_ret (results_none rfl _ _ _) rfl ?_
 go_wp2
 go_end0
 exact⟨E,E⟩
theorem Ctx.behindN {K:Nat→Prop} {κ κ2:Ka} {w w1 w2:World} (s:Step K κ w κ w1) (c:Ctx ⟨w1,κ,[]⟩ κ2 w2):Ctx ⟨w,κ,[]⟩ κ2 w2 where
 size:=Nat.le_trans s.size c.size
 os:=c.os.trans s.os
 tape:=c.tape.trans s.tape
 output:=c.output.trans s.output
 M:=c.M
 old:=fun b hb h=>by
  refine(c.old b (Nat.lt_of_lt_of_le hb s.size) h).trans ?_
  by_cases hm:κ.M b
  ·exact s.mkeep b hm
  ·exact s.blk b hb (fun ho=>by
    rcases ho with ⟨k,hk⟩ | ho
    ·exact h k hk
    ·exact hm ho)
 own:=fun k b hk=>by
  rcases c.own k b hk with h | h
  ·exact .inl (Nat.le_trans s.size h)
  ·exact .inr h
 nam:=c.nam
theorem Ake {κ:Ka} {w:World} (hi:Inv κ w):Step (fun _=>False) κ w κ w.drew∧Inv κ w.drew:=by
 have g:=Grew.drew w
 exact⟨⟨g.size,g.os,g.tape,g.output,E,fun b _=>rfl,fun b _ _=>rfl,fun _ _ _ _=>rfl,fun _ _=>rfl,fun _ h=>h.elim,fun _ h=>.inl h⟩,⟨hi.inj,hi.bnd,hi.apart,hi.mbnd⟩⟩
theorem Am0 (M:List LineM) (hM:∀ l∈M,LineW l) (hl:M.length<2147483648) :
  Sy.Spec Tryz.prog 74 [.ptr 0 0,.clo (.func 30) [.ptr 0 0] []] (El 0 0 M (emptyN,0,0)) (.tup []) (El 1 0 M (Cv M)):=by
 intro κ w vs hi hnew hvs hok
 have o1:=hok (0,.box (Tk 0 0 M emptyN 0 0)) (by simp[El])
 obtain ⟨b,e1,c1,c2,st1,inv1,ob1⟩:=Dr (off:=1) (x:=.val (.int .i32 1)) (v:=.int .i32 1) hi o1 rfl (fun _ _=>by simp only[Rd]) rfl
 simp only[RdL,Rd,e1]at hvs
 obtain ⟨v0,r0,rfl,rfl,v1,r1,rfl,⟨fs,cs,rfl,hfs,hcs⟩,rfl⟩:=hvs
 obtain ⟨p3,q3,rfl,rfl,rfl⟩:=hfs
 subst hcs
 have hcl:=Aim M hM hl 0 1 κ (w.setCell ⟨b,1,none⟩ (.int .i32 1)) [.pointer (some ⟨b,0,none⟩)] inv1 hnew (by simp only[RdL,Rd,e1];exact⟨_,_,rfl,rfl,rfl⟩) (fun p hp=>by
  simp only[El,List.mem_cons,List.not_mem_nil,or_false]at hp
  rw[hp]
  exact ob1)
 obtain ⟨u1,hu1,hr1⟩:=c1 0 (.val (.int .u32 0)) rfl
 obtain ⟨u2,hu2,hr2⟩:=c1 1 (.val (.int .i32 0)) rfl
 rw[hr1.val]at hu1
 rw[hr2.val]at hu2
 have f1:=c2 0 (show 0<14 by decide)
 have f2:=c2 1 (show 1<14 by decide)
 have hl:=Als ⟨b,0,none⟩ 0 (w.setCell ⟨b,1,none⟩ (.int .i32 1)) ((World.cell?_setCell_other _ ⟨b,1,none⟩ ⟨b,0,none⟩ _ y_).trans hu1)
 have hnot:∀ (x:Bool) (w:World),(Op.unary .not (.bool x)).run Tryz.prog w=.ok (.bool (!x)) w:=fun _ _=>rfl
 go_enter_defers Tryz.func74,Tryz.ntmps74
 go_wp2_with (first | (go_at_call 119;refine(Ajh ⟨b,1,none⟩ _ (by assumption) (by assumption)).mono ?_;rintro e w' ⟨rfl,rfl⟩) | (go_at_call 30;refine hcl.mono ?_;rintro e w' ⟨v,κ2,rfl,hc2,hi2,hv2,ok2⟩) | (go_at_call 73;go_in))
 have p1:=ok2 (0,.box (Tk 0 1 M (Cv M).1 (Cv M).2.1 (Cv M).2.2)) (by simp[El])
 have k1:κ2 0=.blk b:=by
  obtain ⟨bb,_,_,_,q1,_⟩:=id p1
  rcases hc2.nam 0 (by rw[e1];intro h;cases h) with h | h
  ·rw[h];exact e1
  ·rw[h]at q1;cases q1
 obtain ⟨ba,a1,a2,a3,_,_,_⟩:=Dr (off:=0) (x:=.val (.int .u32 1)) (v:=.int .u32 1) hi2 p1 rfl (fun _ _=>by simp only[Rd]) rfl
 rw[k1]at a1
 cases a1
 obtain ⟨std,invd⟩:=Ake hi2
 have p2:=ObOK.step std (k:=0) (fun h=>h) _ p1
 obtain ⟨ba,a1,_,_,st3,inv3,ob3⟩:=Dr (off:=0) (x:=.val (.int .u32 1)) (v:=.int .u32 1) invd p2 rfl (fun _ _=>by simp only[Rd]) rfl
 rw[k1]at a1
 cases a1
 have ob3:ObOK κ2 (w'.drew.setCell ⟨b,0,none⟩ (.int .u32 1)) 0 (.box (Tk 1 1 M (Cv M).1 (Cv M).2.1 (Cv M).2.2)):=ob3
 obtain ⟨ba,a1,a4,a5,st4,inv4,ob4⟩:=Dr (off:=1) (x:=.val (.int .i32 0)) (v:=.int .i32 0) inv3 ob3 rfl (fun _ _=>by simp only[Rd]) rfl
 rw[k1]at a1
 cases a1
 have ob4:ObOK κ2 ((w'.drew.setCell ⟨b,0,none⟩ (.int .u32 1)).setCell ⟨b,1,none⟩ (.int .i32 0)) 0 (.box (Tk 1 0 M (Cv M).1 (Cv M).2.1 (Cv M).2.2)):=ob4
 obtain ⟨v1,hv1,hr1⟩:=a2 0 (.val (.int .u32 0)) rfl
 rw[hr1.val]at hv1
 obtain ⟨v2,hv2,hr2⟩:=a4 1 (.val (.int .i32 1)) rfl
 rw[hr2.val]at hv2
 refine leaves_cons (f:=121) (args:=#[.pointer (some ⟨b,0,none⟩),.bool true]) y_ (by simp[go_sem]) ?_
 refine(Xi ⟨b,0,none⟩ (.int .u32 0) .returning _ hv1 (a3 0 (show 0<14 by decide))).mono ?_
 rintro e u' w'' ⟨rfl,rfl,rfl⟩
 refine leaves_cons (f:=120) (args:=#[.pointer (some ⟨b,1,none⟩)]) (by simp[settle]) (by simp[go_sem]) ?_
 refine(Vi ⟨b,1,none⟩ _ _ hv2 (a5 1 (show 1<14 by decide))).mono ?_
 rintro e u' w'' ⟨rfl,rfl,rfl⟩
 have hst:Step (·=0) κ2 w' κ2 ((w'.drew.setCell ⟨b,0,none⟩ (.int .u32 1)).setCell ⟨b,1,none⟩ (.int .i32 0)):=(std.weaken (fun _ h=>h.elim)).trans (st3.trans st4)
 refine⟨.tuple #[],by simp[results,Tryz.results74],.tuple #[],κ2,E,Ctx.behindN st1 (hc2.step inv4 hst),inv4,⟨[],E,E⟩,fun p hp=>?_⟩
 simp only[El,List.mem_cons,List.not_mem_nil,or_false]at hp
 rw[hp]
 exact ob4
theorem Am1 (M:List LineM) (dn lk:Int) (x:Net × Int × Int):Sy.Spec Tryz.prog 73 [.ptr 0 0] (El dn lk M x) (Ab (dn != 0)) (El dn lk M x):=cT F73 Tryz.ntmps73 fun F hF=>by
 refine fW ?_
 refine Af (Sd Als E E E E) E E ?_
 refine fU ?_
 exact done E (.cons .tmp .nil) [] (El dn lk M x) (fun _ h=>h) E E U
theorem Ath (M:List LineM) (hM:∀ l∈M,LineW l) (hl:M.length<2147483648) :
  Sy.Spec Tryz.prog 29 [.ptr 0 0,.clo (.func 30) [.ptr 0 0] []] (El 0 0 M (emptyN,0,0)) (.tup []) (El 1 0 M (Cv M)):=cT F29 Tryz.ntmps29 fun F hF=>by
 have q1:Sy.Spec Tryz.prog 73 [.ptr 0 0] (El 0 0 M (emptyN,0,0)) (Ab false) (El 0 0 M (emptyN,0,0)):=Am1 M 0 0 (emptyN,0,0)
 have q2:=Am0 M hM hl
 refine fW ?_
 refine X (Ad [] E F73 q1 E W E V) ?_
 refine fU ?_
 refine X (Ad [] E F74 q2 E W E V) ?_
 refine fU ?_
 exact A1 E .nil [] (El 1 0 M (Cv M)) (fun _ h=>h) E E U
theorem Ap1 (M:List LineM) (hM:∀ l∈M,LineW l) (hl:M.length<2147483648):Sy.Spec Tryz.prog 10 [.ptr 0 0] (El 0 0 M (emptyN,0,0)) (.tup [Aj (Cv M).1,Aa (Cv M).2.1,Aa (Cv M).2.2]) (El 1 0 M (Cv M)):=cT F10 Tryz.ntmps10 fun F hF=>by
 have q:=Ath M hM hl
 refine T ?_
 refine X (Ad [] E F29 q E W E V) ?_
 refine T ?_
 exact done E (.cons (.cell E E E E) (.cons .tmp (.cons .tmp .nil))) [] (El 1 0 M (Cv M)) (fun _ h=>h) E E U
theorem Anu (M:List LineM) (hM:∀ l∈M,LineW l) (hl:M.length<2147483648):Sy.Spec Tryz.prog 6 [.sl 17 A2 M] [] (.tup [Aj (Cv M).1,Aa (Cv M).2.1,Aa (Cv M).2.2]) []:=cT F6 Tryz.ntmps6 fun F hF=>by
 have q:=Ap1 M hM hl
 refine T ?_
 refine Am 8 (Tk 0 0 M emptyN 0 0) E vL ?_
 refine X (Ad [(0,8)] E F10 q E W E V) ?_
 refine T ?_
 exact D
end Go.Sy.YtcflgpijohhfbaaGreat
namespace Go.Sy.YtcflgpijohhfbaaGreat
open Go.Proofs
set_option maxHeartbeats 4000000
structure LineR (l:LineM):Prop where
 right:C5 l=true
 ok:LineOK l
 vlan:0≤l.vlan∧l.vlan≤4094
 num:0≤l.num∧l.num≤16777215
 cost:0≤l.cost∧l.cost≤65535
 bits:0≤l.bits∧l.bits≤32
 tagged:H1 l.tagged 4094=true
 imports:H1 l.imports 65535=true
 exports:H1 l.exports 65535=true
 addrs:l.addrs.length≤16
 dev:l.dev.size≤12
 port:l.port.size≤12
 peer:l.peer.size≤12
 far:l.far.size≤12
 name:l.name.size≤12
theorem Aiv (l:LineM) (r:Int):C5 { l with row:=r }=C5 l:=by
 by_cases h1:l.kind=1
 ·simp[C5,Bn,K7,h1]
 by_cases h2:l.kind=2
 ·simp[C5,Bn,K7,h1,h2]
 by_cases h3:l.kind=3
 ·simp[C5,Bn,K7,h1,h2,h3]
 by_cases h4:l.kind=4
 ·simp[C5,Bn,K7,h1,h2,h3,h4]
 by_cases h5:l.kind=5
 ·simp[C5,Bn,K7,h1,h2,h3,h4,h5]
 by_cases h6:l.kind=6
 ·simp[C5,Bn,K7,h1,h2,h3,h4,h5,h6]
 by_cases h7:l.kind=7
 ·simp[C5,Bn,K7,h1,h2,h3,h4,h5,h6,h7]
 by_cases h8:l.kind=8
 ·simp[C5,Bn,K7,h1,h2,h3,h4,h5,h6,h7,h8]
 by_cases h9:l.kind=9
 ·simp[C5,Bn,K7,h1,h2,h3,h4,h5,h6,h7,h8,h9]
 simp[C5,Bn,K7,h1,h2,h3,h4,h5,h6,h7,h8,h9]
theorem LineR.row {l:LineM} (h:LineR l) (r:Int):LineR { l with row:=r } :=
 ⟨by rw[Aiv];exact h.right,⟨h.ok.mac,h.ok.addr,h.ok.addrs⟩,h.vlan,h.num,h.cost,h.bits,h.tagged,h.imports,h.exports,h.addrs,h.dev,h.port,h.peer,h.far,h.name⟩
end Go.Sy.YtcflgpijohhfbaaGreat
namespace Go.Sy.YtcflgpijohhfbaaGreat
open Go.Proofs
theorem Aty {n:Net} (h:(meshNT n).2.2=0):(meshNT n).1=Hd n∧(meshNT n).2.1=0∧Ac (Hd n)=true∧n.floods.find? (fun f=>!(agreesB n f))=none:=by
 rw[meshNT]at h ⊢
 split at h
 ·simp at h
 rename_i h1
 rw[if_neg h1]
 cases hf:n.floods.find? (fun f=>!(agreesB n f)) with
 | some f=>rw[hf]at h;simp at h
 | none =>
  rw[hf]at h
  dsimp only at h ⊢
  split at h
  ·simp at h
  rename_i h2
  rw[if_neg h2]
  exact⟨E,E,by simpa using h2,E⟩
end Go.Sy.YtcflgpijohhfbaaGreat
namespace Go.Sy.YtcflgpijohhfbaaGreat
open Go.Proofs
attribute [local irreducible] Go.Sy.G Go.Sy.DR
set_option maxRecDepth 100000
set_option maxHeartbeats 4000000
theorem Aub {l:List LineM} (h:linesGreat l=false):∀ x∈l,LineOK x→LineW x:=by
 intro x hx ho
 refine⟨Aog h x hx,ho,?_,?_,?_,?_,?_⟩
 all_goals
  rw[linesGreat]at h
  split at h
  ·cases h
  ·have:=Oh l 0 h x hx
   simp only[Q6,List.forall_mem_cons]at this
   omega
end Go.Sy.YtcflgpijohhfbaaGreat
namespace Go.Sy.YtcflgpijohhfbaaGreat
open Go.Proofs
theorem Aab:∀ (l:List LineM) (n:Net),n.Fin→Cr n→(∀ x∈l,LineW x)→(He n l).2.2=0→(He n l).1.Fin∧Cr (He n l).1
 | [],n,hn,ha,_,h=>by
  rw[He,finishT]at h ⊢
  split at h
  ·rename_i h1;exact absurd h h1
  rename_i h1
  rw[if_neg h1]
  split at h
  ·simp at h
  rename_i h2
  rw[if_neg h2]
  obtain ⟨e1,_⟩:=Aty (n:=n) q_
  refine⟨Abx hn,?_⟩
  dsimp only
  rw[e1]
  exact ha
 | x::l,n,hn,ha,hl,h=>by
  rw[He]at h ⊢
  split at h
  ·rename_i h1;exact absurd h h1
  rename_i h1
  rw[if_neg h1]
  have:=Alg hn ha (hl x y_)
  exact Aab l _ this.fin this.addrs (fun y hy=>hl y (by simp[hy])) h
end Go.Sy.YtcflgpijohhfbaaGreat
namespace Go.Sy.YtcflgpijohhfbaaGreat
open Go.Proofs
attribute [local irreducible] Go.Sy.G Go.Sy.DR
set_option maxRecDepth 100000
set_option maxHeartbeats 4000000
theorem Acw (M:List LineM) (hM:∀ z∈M,LineOK z) (f t:Int):Sy.Spec Tryz.prog 3 [.sl 17 A2 M,Aa f,Aa t] [] (Ab true) []:=cT F3 Tryz.ntmps3 fun F hF=>by
 have qw:=Apc
 by_cases c0:100<M.length
 ·have f0:decide ((M.length:Int)>100)=true:=decide_eq_true q_
  refine T ?_
  refine C qw F4 ?_
  refine T ?_
  exact D
 have f0:decide ((M.length:Int)>100)=false:=decide_eq_false q_
 have qg:=Agn M q_
 cases hg:linesGreat M with
 | true =>
  rw[hg]at qg
  refine T ?_
  refine C qw F4 ?_
  refine T ?_
  refine C qg F5 ?_
  refine T ?_
  exact D
 | false =>
 rw[hg]at qg
 have wM:∀ z∈M,LineW z:=fun z hz=>Aub hg z hz (hM z hz)
 have q1:=Anu M wM q_
 have hbb:=Aab M emptyN Jl (fun x hx=>(by cases hx)) wM
 have hb1:Cv M=He emptyN M:=rfl
 rw[← hb1]at hbb
 clear hg hM wM hb1
 generalize Cv M=r at *
 obtain ⟨n,row,e⟩:=r
 dsimp only at hbb q1
 refine T ?_
 refine C qw F4 ?_
 refine T ?_
 refine C qg F5 ?_
 refine T ?_
 refine C q1 F6 ?_
 by_cases e0:e=0
 ·have g0:(e != 0)=false:=by rw[e0];rfl
  obtain ⟨hn,hu⟩:=hbb e0
  by_cases i0:0<n.irbs.length
  ·have g1:decide ((n.irbs.length:Int)>0)=true:=decide_eq_true q_
   refine T ?_
   exact D
  have g1:decide ((n.irbs.length:Int)>0)=false:=decide_eq_false q_
  have hir:n.irbs=[]:=List.length_eq_zero_iff.1 q_
  have q2:=As1 n hn hu f t
  have q3:=As1 n hn hu t f
  obtain ⟨k1,k2⟩:=Ape hir f t
  generalize wayT n f t=a at *
  generalize wayT n t f=b at *
  obtain ⟨la,oa⟩:=a
  obtain ⟨lb,ob⟩:=b
  dsimp only at q2 q3 k1 k2
  have g2:(oa == ob)=true:=by rw[k1];simp
  have g3:((la.length:Int) == (lb.length:Int))=true:=by rw[k2];simp
  clear hbb k1 k2 hir
  refine T ?_
  refine C q2 F7 ?_
  refine T ?_
  refine C q3 F7 ?_
  refine T ?_
  exact Ap E (.cons .tmp .nil) (congrArg Ab g3.symm) E
 ·have g0:(e != 0)=true:=by rw[bne_iff_ne];exact e0
  refine T ?_
  exact D
end Go.Sy.YtcflgpijohhfbaaGreat
