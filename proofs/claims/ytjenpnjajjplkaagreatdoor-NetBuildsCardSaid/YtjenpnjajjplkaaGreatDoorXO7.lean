/-
  NB6 Sy34 Sy35 NB7 NB8 NB9 NB10 NB11 NB12 NB13 NB16 RB3 RB4 RB5 RB6 RB7 D0 D5 RB8: parts of a proof, joined by program.
-/
import Derived.Test.YtjenpnjajjplkaaGreatDoorXO6
import Derived.Test.YtjenpnjajjplkaaGreatDoorXO3
import Derived.Test.YtjenpnjajjplkaaGreatDoorXO2
import Derived.Test.YtjenpnjajjplkaaGreatDoorXO5
import Derived.Test.YtjenpnjajjplkaaGreatDoorXO4
set_option linter.all false
set_option linter.unusedVariables false
set_option linter.unusedSimpArgs false
set_option linter.deprecated false
namespace Go.Sy.YtjenpnjajjplkaaGreatDoor
open Go.Proofs
attribute [local irreducible] Go.Sy.G Go.Sy.DR
set_option maxRecDepth 100000
set_option maxHeartbeats 4000000
theorem Tv (l:List Static) (p:Static→Bool) (f:FuncId) (first cap:List SV) (hc:(SV.clo (.func f) first cap).inn []=true) (hf:∀ x∈l,Jz Tryz.prog f (first++[A8 x]++cap) (Ab (p x))) (hl:At l) :
  Sy.Spec Tryz.prog 412 [.sl 4 A8 l,.clo (.func f) first cap] [] (Aa (Dl p l)) []:=cT F412 Tryz.ntmps412 fun F hF=>by
 unfold At at hl
 have hin:∀ x:Static,C6 [] (first++[A8 x]++cap)=true:=fun x=>Er hc rfl
 ((conv=>whnf);repeat((first|refine aF ?_|refine aT ?_);(first|refine rG Γ hm ?_|refine rD Γ hm j_ ?_);conv=>whnf))
 refine A2 l.length (fun j=>Da (fun _ x=>!(p x)) l j) (fun j=>[(0,.sl 4 A8 l),(1,.clo (.func f) first cap),(7,Aa l.length),(8,Aa j)]) (fun _=>[]) [] (Av _ _) ⟨⟨Y,Y,B7 _,hc,Y,Y,Y,Y,q_⟩,q_,Y,Y⟩ ?_
 intro j hj hI
 ((first|refine rG Γ hm ?_|refine rD Γ hm j_ ?_);(conv=>whnf);repeat((first|refine aF ?_|refine aT ?_);(first|refine rG Γ hm ?_|refine rD Γ hm j_ ?_);conv=>whnf))
 refine⟨fun h=>?_,fun h=>?_⟩
 ·have h:=of_decide_eq_true h
  have hj2:j<l.length:=by omega
  ((first|refine rG Γ hm ?_|refine rD Γ hm j_ ?_);(conv=>whnf);repeat((first|refine aF ?_|refine aT ?_);(first|refine rG Γ hm ?_|refine rD Γ hm j_ ?_);conv=>whnf))
  refine⟨Y,by omega,by omega,?_⟩
  ((conv=>whnf);repeat((first|refine aF ?_|refine aT ?_);(first|refine rG Γ hm ?_|refine rD Γ hm j_ ?_);conv=>whnf))
  refine Jq (hf l[j] (List.getElem_mem hj2)) Y Y Y (by simp only[hin];rfl) Y Y ?_
  ((first|refine rG Γ hm ?_|refine rD Γ hm j_ ?_);(conv=>whnf);repeat((first|refine aF ?_|refine aT ?_);(first|refine rG Γ hm ?_|refine rD Γ hm j_ ?_);conv=>whnf))
  refine⟨fun h2=>?_,fun h2=>?_⟩
  ·((first|refine rG Γ hm ?_|refine rD Γ hm j_ ?_);(conv=>whnf);repeat((first|refine aF ?_|refine aT ?_);(first|refine rG Γ hm ?_|refine rD Γ hm j_ ?_);conv=>whnf))
   refine Ar Y (.cons .tmp .nil) (congrArg Aa ?_) Y
   exact Ck hj2 (fun i hi hij=>by simpa using hI i hi hij) h2
  ·((first|refine rG Γ hm ?_|refine rD Γ hm j_ ?_);(conv=>whnf);repeat((first|refine aF ?_|refine aT ?_);(first|refine rG Γ hm ?_|refine rD Γ hm j_ ?_);conv=>whnf))
   refine iL ?_
   ((conv=>whnf);repeat((first|refine aF ?_|refine aT ?_);(first|refine rG Γ hm ?_|refine rD Γ hm j_ ?_);conv=>whnf))
   exact Ba [] hI hj2 (Aq hI hj2 (by simp[h2])) ⟨⟨Y,Y,B7 _,hc,Y,Y,Y,Y,q_⟩,q_,Y,Y⟩
 ·have h:=of_decide_eq_false h
  ((first|refine rG Γ hm ?_|refine rD Γ hm j_ ?_);(conv=>whnf);repeat((first|refine aF ?_|refine aT ?_);(first|refine rG Γ hm ?_|refine rD Γ hm j_ ?_);conv=>whnf))
  refine Ar Y (.cons .tmp .nil) (congrArg Aa ?_) Y
  exact C2 (fun i hi=>by simpa using hI i hi z_)
theorem Ant (dom m:Int) (s:Static):Sy.Spec Tryz.prog 413 [A8 s,.ref 1 (Aa dom) 0,.ref 1 (B4 m) 0] [] (Ab (s.domain == dom && s.mac == m)) []:=cT F413 Tryz.ntmps413 fun F hF=>by
 cases h:(s.domain == dom)
 ·refine T ?_
  exact D
 ·refine T ?_
  exact D
theorem Ans (n:Net) (hn:n.Fin) (dom m:Int):Sy.Spec Tryz.prog 345 [Aj n,Aa dom,B4 m] [] (Aa (Jb n dom m)) []:=cT F345 Tryz.ntmps345 fun F hF=>by
 have q:=Tv n.statics (fun s:Static=>s.domain == dom && s.mac == m) 413 [] [.ref 1 (Aa dom) 0,.ref 1 (B4 m) 0] rfl (fun x _=>⟨⟨_,_,F413⟩,Ant dom m x⟩) hn.statics
 ((conv=>whnf);repeat((first|refine aF ?_|refine aT ?_);(first|refine rG Γ hm ?_|refine rD Γ hm j_ ?_);conv=>whnf))
 refine A6 4 1 (Aa dom) Y Y Y ?_
 refine A6 5 1 (B4 m) Y Y Y ?_
 refine c0 q F412 ?_
 ((first|refine rG Γ hm ?_|refine rD Γ hm j_ ?_);(conv=>whnf);repeat((first|refine aF ?_|refine aT ?_);(first|refine rG Γ hm ?_|refine rD Γ hm j_ ?_);conv=>whnf))
 exact dN
theorem Agl (n:Net) (hn:n.Fin) (l:LineM) (hl:LineW l):Sy.Spec Tryz.prog 283 [Aj n,Al l] [] (.tup [Aj (putStatic n l).1,Aa (putStatic n l).2]) []:=cT F283 Tryz.ntmps283 fun F hF=>by
 have qr:=I0 l hl
 have qn:=Cq n hn
 have qcopy:=Mc n hn
 have hres:=putStatic.eq_1 n l
 dsimp only at hres
 have hf:=fitsB.eq_1 n l 4
 generalize putStatic n l=res at *
 generalize fitsB n l 4=f at *
 cases h1:(l.kind == 4) with
 | false =>
  have g1:(l.kind != 4)=true:=by rw[bne,h1];rfl
  rw[h1,Bool.false_and]at hf
  rw[hf,if_pos rfl]at hres
  subst hres
  refine T ?_
  refine Ag 4 (Bj emptyN) Y (.cons .nil (.cons .nil (.cons .nil (.cons .nil (.cons .nil (.cons .nil (.cons .nil (.cons .nil .nil)))))))) ?_
  refine T ?_
  exact D
 | true =>
 have g1:(l.kind != 4)=false:=by rw[bne,h1];rfl
 rw[h1,Bool.true_and]at hf
 cases h2:B1 l with
 | false =>
  rw[h2]at qr hf
  rw[hf,Bool.false_and,if_pos rfl]at hres
  subst hres
  refine T ?_
  refine C qr F343 ?_
  refine Ag 4 (Bj emptyN) Y (.cons .nil (.cons .nil (.cons .nil (.cons .nil (.cons .nil (.cons .nil (.cons .nil (.cons .nil .nil)))))))) ?_
  refine T ?_
  exact D
 | true =>
 rw[h2]at qr hf
 cases hr:Ah n with
 | false =>
  rw[hr]at qn hf
  rw[hf,Bool.and_false,if_pos rfl]at hres
  subst hres
  refine T ?_
  refine C qr F343 ?_
  refine C qn F25 ?_
  refine Ag 4 (Bj emptyN) Y (.cons .nil (.cons .nil (.cons .nil (.cons .nil (.cons .nil (.cons .nil (.cons .nil (.cons .nil .nil)))))))) ?_
  refine T ?_
  exact D
 | true =>
 rw[hr]at qn hf
 rw[hf,if_neg qe]at hres
 have q1:=Ik n hn hr l.dev
 have q2:=Si n hn hr (Cn n l.dev) l.port
 have q3:=Ja n hn hr (Cn n l.dev) l.vlan
 have q5:=Ans n hn (Ds n (Cn n l.dev) l.vlan) l.mac
 have hpr:K5 n (Cn n l.dev) l.port<0∨∃ k:Nat,K5 n (Cn n l.dev) l.port=k∧k<n.ports.length:=by
  by_cases h:K5 n (Cn n l.dev) l.port<0
  ·exact .inl h
  ·exact .inr (D2 h)
 have hfl:n.statics.length<2147483648:=hn.statics
 generalize K5 n (Cn n l.dev) l.port=pt at *
 generalize Ds n (Cn n l.dev) l.vlan=dm at *
 generalize Cn n l.dev=dv at *
 generalize Jb n dm l.mac=en at *
 by_cases h3:dv<0
 ·have g3:decide (dv<0)=true:=decide_eq_true h3
  rw[if_pos (.inl h3)]at hres
  subst hres
  refine T ?_
  refine C qr F343 ?_
  refine C qn F25 ?_
  refine C q1 F340 ?_
  refine C q2 F341 ?_
  refine C q3 F168 ?_
  refine Ag 4 (Bj emptyN) Y (.cons .nil (.cons .nil (.cons .nil (.cons .nil (.cons .nil (.cons .nil (.cons .nil (.cons .nil .nil)))))))) ?_
  refine T ?_
  exact D
 have g3:decide (dv<0)=false:=decide_eq_false h3
 by_cases h4:pt<0
 ·have g4:decide (pt<0)=true:=decide_eq_true h4
  rw[if_pos (.inr h4)]at hres
  subst hres
  refine T ?_
  refine C qr F343 ?_
  refine C qn F25 ?_
  refine C q1 F340 ?_
  refine C q2 F341 ?_
  refine C q3 F168 ?_
  refine Ag 4 (Bj emptyN) Y (.cons .nil (.cons .nil (.cons .nil (.cons .nil (.cons .nil (.cons .nil (.cons .nil (.cons .nil .nil)))))))) ?_
  refine T ?_
  exact D
 have g4:decide (pt<0)=false:=decide_eq_false h4
 rw[if_neg (fun h=>h.elim h3 h4)]at hres
 obtain ⟨p,hp,hpl⟩:=hpr.resolve_left h4
 subst hp
 clear hpr
 have hp0:((p:Nat):Int).toNat<n.ports.length:=hpl
 have hnp:nth n.ports (p:Int)=n.ports[((p:Nat):Int).toNat]'hp0:=As hp0
 rw[hnp]at hres
 by_cases h5:dm<0
 ·have g5:decide (dm<0)=true:=decide_eq_true h5
  rw[if_pos (.inl h5)]at hres
  subst hres
  refine T ?_
  refine C qr F343 ?_
  refine C qn F25 ?_
  refine C q1 F340 ?_
  refine C q2 F341 ?_
  refine C q3 F168 ?_
  refine Ag 4 (Bj emptyN) Y (.cons .nil (.cons .nil (.cons .nil (.cons .nil (.cons .nil (.cons .nil (.cons .nil (.cons .nil .nil)))))))) ?_
  refine T ?_
  exact D
 have g5:decide (dm<0)=false:=decide_eq_false h5
 have q4:=Abm (n.ports[((p:Nat):Int).toNat]'hp0) l.vlan (hn.tagged _ (List.getElem_mem hp0))
 cases hb:C7 (n.ports[((p:Nat):Int).toNat]'hp0) l.vlan with
 | false =>
  rw[hb]at q4
  rw[if_pos (.inr hb)]at hres
  subst hres
  refine T ?_
  refine C qr F343 ?_
  refine C qn F25 ?_
  refine C q1 F340 ?_
  refine C q2 F341 ?_
  refine C q3 F168 ?_
  refine C q4 F179 ?_
  refine Ag 4 (Bj emptyN) Y (.cons .nil (.cons .nil (.cons .nil (.cons .nil (.cons .nil (.cons .nil (.cons .nil (.cons .nil .nil)))))))) ?_
  refine T ?_
  exact D
 | true =>
 rw[hb]at q4
 rw[if_neg (fun h=>h.elim h5 (by rw[hb];simp))]at hres
 by_cases h6:0≤en
 ·have g6:decide (en≥0)=true:=decide_eq_true h6
  rw[if_pos h6]at hres
  subst hres
  refine T ?_
  refine C qr F343 ?_
  refine C qn F25 ?_
  refine C q1 F340 ?_
  refine C q2 F341 ?_
  refine C q3 F168 ?_
  refine C q4 F179 ?_
  refine C q5 F345 ?_
  refine Ag 4 (Bj emptyN) Y (.cons .nil (.cons .nil (.cons .nil (.cons .nil (.cons .nil (.cons .nil (.cons .nil (.cons .nil .nil)))))))) ?_
  refine T ?_
  exact D
 have g6:decide (en≥0)=false:=decide_eq_false h6
 rw[if_neg h6]at hres
 by_cases h7:n.statics.length=64
 ·have g7:((n.statics.length:Int) == 64)=true:=by rw[beq_iff_eq];omega
  rw[if_pos h7]at hres
  subst hres
  refine T ?_
  refine C qr F343 ?_
  refine C qn F25 ?_
  refine C q1 F340 ?_
  refine C q2 F341 ?_
  refine C q3 F168 ?_
  refine C q4 F179 ?_
  refine C q5 F345 ?_
  refine Ag 4 (Bj emptyN) Y (.cons .nil (.cons .nil (.cons .nil (.cons .nil (.cons .nil (.cons .nil (.cons .nil (.cons .nil .nil)))))))) ?_
  refine T ?_
  exact D
 have g7:((n.statics.length:Int) == 64)=false:=by rw[beq_eq_false_iff_ne];omega
 rw[if_neg h7]at hres
 subst hres
 refine T ?_
 refine C qr F343 ?_
 refine C qn F25 ?_
 refine C q1 F340 ?_
 refine C q2 F341 ?_
 refine C q3 F168 ?_
 refine C q4 F179 ?_
 refine C q5 F345 ?_
 refine X (Af [(0,901),(1,902),(2,903),(3,904),(4,905),(5,906),(6,907),(7,908)] Y F61 qcopy Y W Y V) ?_
 refine X (Ak Γ.toTy 87 Y Y Y Y Y (.row Y) (.lit (e:=A8) (l:=[(⟨l.row,dm,(p:Int),l.mac⟩:Static)]) Y Y) y_ (by simp only[List.length_singleton];omega) (by simp only[List.length_singleton];omega)) ?_
 refine Ac 901 Y ?_
 refine Ac 902 Y ?_
 refine Ac 903 Y ?_
 refine Ac 904 Y ?_
 refine Ac 87 Y ?_
 refine Ac 906 Y ?_
 refine Ac 907 Y ?_
 refine Ac 908 Y ?_
 exact D
end Go.Sy.YtjenpnjajjplkaaGreatDoor
namespace Go.Sy
theorem Yi {f g:Nat→Option (Nat × Nat)}:∀ (ps:List (Nat × Value)) (cs:Array Value),(∀ p∈ps,f p.1=g p.1)→Instr.fill f cs ps=Instr.fill g cs ps
 | [],cs,_=>rfl
 | (i,v)::ps,cs,h=>by
  have h1:=h (i,v) qe
  simp only[Instr.fill]
  dsimp only at h1
  rw[h1]
  cases g i with
  | none=>rfl
  | some os =>
   dsimp only
   split
   ·rfl
   ·exact Yi ps _ (fun p hp=>h p (by simp[hp]))
theorem Aey {P:Program} (Γ:Ty P) {o:Oper} {s:SS} {t et:TypeId} {ti:TI} {len esz:Nat} {ps:List (Nat × Operand)} {out:List SV} (h:o.op=.build t ps.toArray) (ht:Γ.get t=some ti) (hk:ti.k=.array et len esz)
  (h1:Vq ti.zero=true) (hps:(ps.all fun p=>Nat.blt p.1 len)=true) (hf:Yj ((List.range len).map fun i=>(i * esz,esz)) (ti.zero.map .val) (ps.map fun p=>(p.1,ev s p.2))=some out):Good P o s ⟨.agg out,[],[]⟩ :=
 Good.pure fun κ a w _ hr _=>by
  obtain ⟨d,info,z,k1,k2,k3,k4,k5,k6⟩:=Γ.ok t ti ht
  obtain ⟨hu,i,q1,q2⟩:=O1 Γ ht hk
  have hops:∀ p∈ps,Rd κ w (ev s p.2) (a.eval p.2):=fun p hp=>hr p.2 (by
   simp only[h,Op.operands]
   simp only[List.mem_toArray,List.mem_map]
   exact⟨p,hp,Y⟩)
  obtain ⟨r,r1,r2,r3⟩:=Ab7 (κ:=κ) (w:=w) (a:=a) ps _ out z.cells (by rw[k6];exact Uf _) (by rw[k6];exact Og h1) hops hf
  refine⟨.agg r,?_,?_⟩
  ·have hcg:=Yi (f:=fun i=>some (i * esz,esz)) (g:=fun i=>((List.range len).map fun i=>(i * esz,esz))[i]?) (ps.map fun p=>(p.1,a.eval p.2)) z.cells (fun p hp=>by
    obtain ⟨x,hx,rfl⟩:=List.mem_map.1 hp
    have hlt:x.1<len:=Nat.le_of_ble_eq_true (List.all_eq_true.1 hps x hx)
    dsimp only
    rw[List.getElem?_map,List.getElem?_range hlt]
    rfl)
   simp only[execOp,h,Sem.run_bind,Instr.build,zeroValue,typeInfo,run_program,Result.andThen_ok,k3,k5,Sem.run_pure,run_underlying hu,sizeOf,q1,q2,List.map_toArray]
   rw[hcg,r1]
   simp
  ·simp only[Rd]
   exact⟨r.toList,by simp,r3,r2⟩
end Go.Sy
namespace Go.Sy.YtjenpnjajjplkaaGreatDoor
open Go.Proofs
attribute [local irreducible] Go.Sy.G Go.Sy.DR
set_option maxRecDepth 100000
set_option maxHeartbeats 4000000
theorem Aej (n:Net) (hn:n.Fin) (hr:Ah n=true) (dev port:ByteArray):Sy.Spec Tryz.prog 344 [Aj n,Ad dev,Ad port] [] (Aa (endI n dev port)) []:=cT F344 Tryz.ntmps344 fun F hF=>by
 have q1:=Ik n hn hr dev
 have q2:=Si n hn hr (Cn n dev) port
 have hres:=endI.eq_1 n dev port
 generalize endI n dev port=res at *
 generalize K5 n (Cn n dev) port=pt at *
 generalize Cn n dev=d at *
 by_cases h:d<0
 ·have g:decide (d<0)=true:=decide_eq_true h
  rw[if_pos h]at hres
  subst hres
  refine T ?_
  refine C q1 F340 ?_
  exact D
 ·have g:decide (d<0)=false:=decide_eq_false h
  rw[if_neg h]at hres
  subst hres
  refine T ?_
  refine C q1 F340 ?_
  refine C q2 F341 ?_
  exact D
theorem end_range {n:Net} {dev port:ByteArray} (h:¬ endI n dev port<0):∃ k:Nat,endI n dev port=k∧k<n.ports.length:=by
 unfold endI at h ⊢
 split
 ·rename_i h1;rw[if_pos h1]at h;omega
 ·rename_i h1;rw[if_neg h1]at h;exact D2 h
theorem An4 (n:Net) (hn:n.Fin) (l:LineM) (hl:LineW l):Sy.Spec Tryz.prog 282 [Aj n,Al l] [] (.tup [Aj (putLink n l).1,Aa (putLink n l).2]) []:=cT F282 Tryz.ntmps282 fun F hF=>by
 have qr:=I0 l hl
 have qn:=Cq n hn
 have qcopy:=Mc n hn
 have hres:=putLink.eq_1 n l
 dsimp only at hres
 have hf:=fitsB.eq_1 n l 3
 generalize putLink n l=res at *
 generalize fitsB n l 3=f at *
 cases h1:(l.kind == 3) with
 | false =>
  have g1:(l.kind != 3)=true:=by rw[bne,h1];rfl
  rw[h1,Bool.false_and]at hf
  rw[hf,if_pos rfl]at hres
  subst hres
  refine T ?_
  refine Ag 4 (Bj emptyN) Y (.cons .nil (.cons .nil (.cons .nil (.cons .nil (.cons .nil (.cons .nil (.cons .nil (.cons .nil .nil)))))))) ?_
  refine T ?_
  exact D
 | true =>
 have g1:(l.kind != 3)=false:=by rw[bne,h1];rfl
 rw[h1,Bool.true_and]at hf
 cases h2:B1 l with
 | false =>
  rw[h2]at qr hf
  rw[hf,Bool.false_and,if_pos rfl]at hres
  subst hres
  refine T ?_
  refine C qr F343 ?_
  refine Ag 4 (Bj emptyN) Y (.cons .nil (.cons .nil (.cons .nil (.cons .nil (.cons .nil (.cons .nil (.cons .nil (.cons .nil .nil)))))))) ?_
  refine T ?_
  exact D
 | true =>
 rw[h2]at qr hf
 cases hr:Ah n with
 | false =>
  rw[hr]at qn hf
  rw[hf,Bool.and_false,if_pos rfl]at hres
  subst hres
  refine T ?_
  refine C qr F343 ?_
  refine C qn F25 ?_
  refine Ag 4 (Bj emptyN) Y (.cons .nil (.cons .nil (.cons .nil (.cons .nil (.cons .nil (.cons .nil (.cons .nil (.cons .nil .nil)))))))) ?_
  refine T ?_
  exact D
 | true =>
 rw[hr]at qn hf
 rw[hf,if_neg qe]at hres
 have q1:=Aej n hn hr l.dev l.port
 have q2:=Aej n hn hr l.peer l.far
 have ra:=@end_range n l.dev l.port
 have rb:=@end_range n l.peer l.far
 have hfl:n.links.length<2147483648:=hn.links
 generalize endI n l.dev l.port=a at *
 generalize endI n l.peer l.far=b at *
 refine T ?_
 refine C qr F343 ?_
 refine C qn F25 ?_
 refine C q1 F344 ?_
 refine C q2 F344 ?_
 refine Xd (Aey Γ.toTy Y Y Y Y Y Y) ?_
 refine T ?_
 refine A6 2 8 (Aj n) Y Y Y ?_
 refine A6 3 17 (Al l) Y Y Y ?_
 refine A6 6 2 (.agg [Aa a,Aa b]) Y Y Y ?_
 refine Au (fun j:Nat=>j≤2∧(1≤j→¬ a<0)∧(2≤j→¬ b<0)) (fun j=>[(2,.ref 8 (Aj n) 0),(3,.ref 17 (Al l) 0),(4,.ptr 1001 0),(6,.ref 2 (.agg [Aa a,Aa b]) 0),(41,.agg [Aa a,Aa b]),(42,Aa j)]) (fun _=>[(1001,.box [.val (.slice none 0 0),.val (.slice none 0 0),.val (.slice none 0 0),.val (.slice none 0 0),.val (.slice none 0 0),.val (.slice none 0 0),.val (.slice none 0 0),.val (.slice none 0 0)])]) (fun j=>2-j) 0 [(1001,4)] ⟨by omega,by omega,by omega⟩ U ?_
 rintro j ⟨hj,ja,jb⟩
 have hc:j=0∨j=1∨j=2:=by omega
 rcases hc with rfl | rfl | rfl
 ·by_cases ka:a<0
  ·have g1:decide (a<0)=true:=decide_eq_true ka
   rw[if_pos (.inl ka)]at hres
   subst hres
   refine T ?_
   refine X (D6 (k:=.int .i64) Γ.toTy Y Y Y Tryz.underlying3 Y Y y_ y_ Y) ?_
   refine Ag 1001 (Bj emptyN) Y (.cons .nil (.cons .nil (.cons .nil (.cons .nil (.cons .nil (.cons .nil (.cons .nil (.cons .nil .nil)))))))) ?_
   refine T ?_
   exact D
  ·have g1:decide (a<0)=false:=decide_eq_false ka
   refine T ?_
   refine X (D6 (k:=.int .i64) Γ.toTy Y Y Y Tryz.underlying3 Y Y y_ y_ Y) ?_
   exact Ae 1 [] ⟨by omega,fun _=>ka,by omega⟩ z_ U
 ·have ka:=ja z_
  by_cases kb:b<0
  ·have g1:decide (b<0)=true:=decide_eq_true kb
   rw[if_pos (.inr kb)]at hres
   subst hres
   refine T ?_
   refine X (D6 (k:=.int .i64) Γ.toTy Y Y Y Tryz.underlying3 Y Y y_ y_ Y) ?_
   refine Ag 1001 (Bj emptyN) Y (.cons .nil (.cons .nil (.cons .nil (.cons .nil (.cons .nil (.cons .nil (.cons .nil (.cons .nil .nil)))))))) ?_
   refine T ?_
   exact D
  ·have g1:decide (b<0)=false:=decide_eq_false kb
   refine T ?_
   refine X (D6 (k:=.int .i64) Γ.toTy Y Y Y Tryz.underlying3 Y Y y_ y_ Y) ?_
   exact Ae 2 [] ⟨by omega,fun _=>ka,fun _=>kb⟩ z_ U
 ·have ka:=ja z_
  have kb:=jb z_
  obtain ⟨a,rfl,hal⟩:=ra ka
  obtain ⟨b,rfl,hbl⟩:=rb kb
  rw[if_neg (fun h=>h.elim ka kb)]at hres
  clear ja jb ra rb hj
  have ha0:((a:Nat):Int).toNat<n.ports.length:=hal
  have hb0:((b:Nat):Int).toNat<n.ports.length:=hbl
  have hna:nth n.ports (a:Int)=n.ports[((a:Nat):Int).toNat]'ha0:=As ha0
  have hnb:nth n.ports (b:Int)=n.ports[((b:Nat):Int).toNat]'hb0:=As hb0
  rw[hna,hnb]at hres
  by_cases k1:(n.ports[((a:Nat):Int).toNat]'ha0).dev=(n.ports[((b:Nat):Int).toNat]'hb0).dev
  ·have g1:((n.ports[((a:Nat):Int).toNat]'ha0).dev == (n.ports[((b:Nat):Int).toNat]'hb0).dev)=true:=by rw[beq_iff_eq];exact k1
   rw[if_pos (.inl k1)]at hres
   subst hres
   refine T ?_
   refine Ag 1001 (Bj emptyN) Y (.cons .nil (.cons .nil (.cons .nil (.cons .nil (.cons .nil (.cons .nil (.cons .nil (.cons .nil .nil)))))))) ?_
   refine T ?_
   exact D
  have g1:((n.ports[((a:Nat):Int).toNat]'ha0).dev == (n.ports[((b:Nat):Int).toNat]'hb0).dev)=false:=by rw[beq_eq_false_iff_ne];exact k1
  by_cases k2:0≤(n.ports[((a:Nat):Int).toNat]'ha0).link
  ·have g2:decide ((n.ports[((a:Nat):Int).toNat]'ha0).link≥0)=true:=decide_eq_true k2
   rw[if_pos (.inr (.inl k2))]at hres
   subst hres
   refine T ?_
   refine Ag 1001 (Bj emptyN) Y (.cons .nil (.cons .nil (.cons .nil (.cons .nil (.cons .nil (.cons .nil (.cons .nil (.cons .nil .nil)))))))) ?_
   refine T ?_
   exact D
  have g2:decide ((n.ports[((a:Nat):Int).toNat]'ha0).link≥0)=false:=decide_eq_false k2
  by_cases k3:0≤(n.ports[((b:Nat):Int).toNat]'hb0).link
  ·have g3:decide ((n.ports[((b:Nat):Int).toNat]'hb0).link≥0)=true:=decide_eq_true k3
   rw[if_pos (.inr (.inr k3))]at hres
   subst hres
   refine T ?_
   refine Ag 1001 (Bj emptyN) Y (.cons .nil (.cons .nil (.cons .nil (.cons .nil (.cons .nil (.cons .nil (.cons .nil (.cons .nil .nil)))))))) ?_
   refine T ?_
   exact D
  have g3:decide ((n.ports[((b:Nat):Int).toNat]'hb0).link≥0)=false:=decide_eq_false k3
  rw[if_neg (by rintro (h | h | h);exact k1 h;exact k2 h;exact k3 h)]at hres
  by_cases k4:n.links.length=20
  ·have g4:((n.links.length:Int) == 20)=true:=by rw[beq_iff_eq];omega
   rw[if_pos k4]at hres
   subst hres
   refine T ?_
   refine Ag 1001 (Bj emptyN) Y (.cons .nil (.cons .nil (.cons .nil (.cons .nil (.cons .nil (.cons .nil (.cons .nil (.cons .nil .nil)))))))) ?_
   refine T ?_
   exact D
  have g4:((n.links.length:Int) == 20)=false:=by rw[beq_eq_false_iff_ne];omega
  rw[if_neg k4]at hres
  have t1:K4 n.ports (a:Int) (n.links.length:Int)=n.ports.set ((a:Nat):Int).toNat (⟨(n.ports[((a:Nat):Int).toNat]'ha0).row,(n.ports[((a:Nat):Int).toNat]'ha0).dev,(n.ports[((a:Nat):Int).toNat]'ha0).native,(n.ports[((a:Nat):Int).toNat]'ha0).cost,(n.links.length:Int),(n.ports[((a:Nat):Int).toNat]'ha0).name,(n.ports[((a:Nat):Int).toNat]'ha0).tagged⟩:Port):=by rw[K4,hna]
  have l1:(K4 n.ports (a:Int) (n.links.length:Int)).length=n.ports.length:=by rw[K4,List.length_set]
  have hne:n.ports≠[]:=fun e=>by rw[e]at hal;cases hal
  obtain ⟨P1,hP1⟩:∃ P1,K4 n.ports (a:Int) (n.links.length:Int)=P1:=⟨_,rfl⟩
  rw[hP1]at hres t1 l1
  have hb1:((b:Nat):Int).toNat<P1.length:=by rw[l1];exact hb0
  have hn1:nth P1 (b:Int)=P1[((b:Nat):Int).toNat]'hb1:=As hb1
  have hne1:P1≠[]:=fun e=>by rw[e]at hb1;cases hb1
  have t2:K4 P1 (b:Int) (n.links.length:Int)=P1.set ((b:Nat):Int).toNat (⟨(P1[((b:Nat):Int).toNat]'hb1).row,(P1[((b:Nat):Int).toNat]'hb1).dev,(P1[((b:Nat):Int).toNat]'hb1).native,(P1[((b:Nat):Int).toNat]'hb1).cost,(n.links.length:Int),(P1[((b:Nat):Int).toNat]'hb1).name,(P1[((b:Nat):Int).toNat]'hb1).tagged⟩:Port):=by rw[K4,hn1]
  obtain ⟨P2,hP2⟩:∃ P2,K4 P1 (b:Int) (n.links.length:Int)=P2:=⟨_,rfl⟩
  rw[hP2]at hres t2
  subst hres
  refine T ?_
  refine X (Af [(0,901),(1,902),(2,903),(3,904),(4,905),(5,906),(6,907),(7,908)] Y F61 qcopy Y W Y V) ?_
  refine Au (fun j:Nat=>j≤2) (fun j=>[(3,.ref 17 (Al l) 0),(4,.ptr 1001 0),(6,.ref 2 (.agg [Aa (a:Int),Aa (b:Int)]) 0),(11,.ptr 1002 0),(86,.agg [Aa (a:Int),Aa (b:Int)]),(87,Aa j)]) (fun j=>[(1001,.box [.val (.slice none 0 0),.val (.slice none 0 0),.val (.slice none 0 0),.val (.slice none 0 0),.val (.slice none 0 0),.val (.slice none 0 0),.val (.slice none 0 0),.val (.slice none 0 0)]),(1002,.box [.osl 901,.osl 902,.osl 903,.osl 904,.osl 905,.osl 906,.osl 907,.osl 908]),(901,.row 5 Az n.devices),(902,.row 7 Bb (if j=0 then n.ports else if j=1 then P1 else P2)),(903,.row 3 B2 n.links),(904,.row 6 Am n.domains),(905,.row 4 A8 n.statics),(906,.row 4 A4 n.floods),(907,.row 5 Cd n.vrfs),(908,.row 5 Cf n.irbs)]) (fun j=>2-j) 0 [(1002,11)] z_ U ?_
  intro j hj
  have hc:j=0∨j=1∨j=2:=by omega
  rcases hc with rfl | rfl | rfl
  ·rw[if_pos rfl]
   refine T ?_
   refine X (D6 (k:=.int .i64) Γ.toTy Y Y Y Tryz.underlying3 Y Y y_ y_ Y) ?_
   refine T ?_
   refine⟨hne,?_⟩
   refine T ?_
   refine⟨(⟨(n.ports[((a:Nat):Int).toNat]'ha0).row,(n.ports[((a:Nat):Int).toNat]'ha0).dev,(n.ports[((a:Nat):Int).toNat]'ha0).native,(n.ports[((a:Nat):Int).toNat]'ha0).cost,(n.links.length:Int),(n.ports[((a:Nat):Int).toNat]'ha0).name,(n.ports[((a:Nat):Int).toNat]'ha0).tagged⟩:Port),Y,Y,?_⟩
   refine T ?_
   exact Ae 1 [] z_ z_ ⟨⟨Y,Y,Y,Y,Y,Y,Y,Y,Y,Y,Y,Y,q_⟩,⟨.inl Y,Y,.inl Y,Y,.inl Y,Y,.inl (congrArg (Ob.row 7 Bb) t1),Y,.inl Y,Y,.inl Y,Y,.inl Y,Y,.inl Y,Y,.inl Y,Y,.inl Y,Y,q_⟩,Y,Y⟩
  ·rw[if_neg y_,if_pos rfl]
   refine T ?_
   refine X (D6 (k:=.int .i64) Γ.toTy Y Y Y Tryz.underlying3 Y Y y_ y_ Y) ?_
   refine T ?_
   refine⟨hne1,?_⟩
   refine T ?_
   refine⟨(⟨(P1[((b:Nat):Int).toNat]'hb1).row,(P1[((b:Nat):Int).toNat]'hb1).dev,(P1[((b:Nat):Int).toNat]'hb1).native,(P1[((b:Nat):Int).toNat]'hb1).cost,(n.links.length:Int),(P1[((b:Nat):Int).toNat]'hb1).name,(P1[((b:Nat):Int).toNat]'hb1).tagged⟩:Port),Y,Y,?_⟩
   refine T ?_
   exact Ae 2 [] z_ z_ ⟨⟨Y,Y,Y,Y,Y,Y,Y,Y,Y,Y,Y,Y,q_⟩,⟨.inl Y,Y,.inl Y,Y,.inl Y,Y,.inl (congrArg (Ob.row 7 Bb) t2),Y,.inl Y,Y,.inl Y,Y,.inl Y,Y,.inl Y,Y,.inl Y,Y,.inl Y,Y,q_⟩,Y,Y⟩
  ·rw[if_neg y_,if_neg y_]
   refine T ?_
   refine X (Ak Γ.toTy 109 Y Y Y Y Y (.row Y) (.lit (e:=B2) (l:=[(⟨l.row,(a:Int),(b:Int)⟩:Link)]) Y Y) y_ (by simp only[List.length_singleton];omega) (by simp only[List.length_singleton];omega)) ?_
   refine T ?_
   refine Ac 901 Y ?_
   refine Ac 902 Y ?_
   refine Ac 109 Y ?_
   refine Ac 904 Y ?_
   refine Ac 905 Y ?_
   refine Ac 906 Y ?_
   refine Ac 907 Y ?_
   refine Ac 908 Y ?_
   exact D
abbrev Aik (n:Net):Obs:=[(900,.box [.osl 901,.osl 902,.osl 903,.osl 904,.osl 905,.osl 906,.osl 907,.osl 908]),(901,.row 5 Az n.devices),(902,.row 7 Bb n.ports),(903,.row 3 B2 n.links),(904,.row 6 Am n.domains),(905,.row 4 A8 n.statics),(906,.row 4 A4 n.floods),(907,.row 5 Cd n.vrfs),(908,.row 5 Cf n.irbs)]
theorem Vn (n:Net) (hn:n.Fin) (l:LineM) (hl:LineW l) (k:Int) (h:fitsB n l k=true):Sy.Spec Tryz.prog 337 [Aj n,Al l,Aa k] [] (.tup [.ptr 900 0,Ab true]) (Aik n):=cT F337 Tryz.ntmps337 fun F hF=>by
 have qr:=I0 l hl
 have qn:=Cq n hn
 have qcopy:=Mc n hn
 unfold fitsB at h
 simp only[Bool.and_eq_true]at h
 obtain ⟨h1,h2,h3⟩:=h
 have g1:(l.kind != k)=false:=by rw[bne,h1];rfl
 rw[h2]at qr
 rw[h3]at qn
 refine T ?_
 refine C qr F343 ?_
 refine C qn F25 ?_
 refine X (Af [(0,901),(1,902),(2,903),(3,904),(4,905),(5,906),(6,907),(7,908)] Y F61 qcopy Y W Y V) ?_
 exact done Y (.cons .tmp (.cons .tmp .nil)) [(900,25)] (Aik n) (fun _ h=>h) Y Y U
theorem Qv (n:Net) (hn:n.Fin) (l:LineM) (hl:LineW l) (k:Int) (h:fitsB n l k=false):Sy.Spec Tryz.prog 337 [Aj n,Al l,Aa k] [] (.tup [.val (.pointer none),Ab false]) []:=cT F337 Tryz.ntmps337 fun F hF=>by
 have qr:=I0 l hl
 have qn:=Cq n hn
 unfold fitsB at h
 cases h1:(l.kind == k) with
 | false =>
  have g1:(l.kind != k)=true:=by rw[bne,h1];rfl
  refine T ?_
  exact D
 | true =>
 have g1:(l.kind != k)=false:=by rw[bne,h1];rfl
 rw[h1,Bool.true_and]at h
 cases h2:B1 l with
 | false =>
  rw[h2]at qr
  refine T ?_
  refine C qr F343 ?_
  exact D
 | true =>
 rw[h2]at qr h
 rw[Bool.true_and]at h
 rw[h]at qn
 refine T ?_
 refine C qr F343 ?_
 refine C qn F25 ?_
 exact D
theorem Anl (l:LineM) (d:Device):Sy.Spec Tryz.prog 339 [Az d,.ref 17 (Al l) 0] [] (Ab (d.name == l.dev || d.mac == l.mac)) []:=cT F339 Tryz.ntmps339 fun F hF=>by
 cases h:(d.name == l.dev)
 ·refine T ?_
  exact D
 ·refine T ?_
  exact D
theorem Ail (n:Net) (hn:n.Fin) (l:LineM) (hl:LineW l):Sy.Spec Tryz.prog 280 [Aj n,Al l] [] (.tup [Aj (putDevice n l).1,Aa (putDevice n l).2]) []:=cT F280 Tryz.ntmps280 fun F hF=>by
 have hres:=putDevice.eq_1 n l
 generalize putDevice n l=res at *
 cases hf:fitsB n l 1 with
 | false =>
  have q1:=Qv n hn l hl 1 hf
  rw[hf,if_pos rfl]at hres
  subst hres
  refine T ?_
  refine C q1 F337 ?_
  refine Ag 4 (Bj emptyN) Y (.cons .nil (.cons .nil (.cons .nil (.cons .nil (.cons .nil (.cons .nil (.cons .nil (.cons .nil .nil)))))))) ?_
  refine T ?_
  exact D
 | true =>
 have q1:=Vn n hn l hl 1 hf
 rw[hf,if_neg qe]at hres
 have qc:=Oz n.devices (fun d=>d.name == l.dev || d.mac == l.mac) 339 [] [.ref 17 (Al l) 0] rfl (fun d _=>⟨⟨_,_,F339⟩,Anl l d⟩) hn.devices
 rw[Km]at qc
 have hfl:n.devices.length<2147483648:=hn.devices
 generalize n.devices.any (fun d=>d.name == l.dev || d.mac == l.mac)=cl at *
 cases cl with
 | true =>
  rw[if_pos rfl]at hres
  subst hres
  refine T ?_
  refine X (Af [] Y F337 q1 Y W Y V) ?_
  refine A6 3 17 (Al l) Y Y Y ?_
  refine X (Bu [901] Y F338 qc (.cons (.row Y Y) (.cons (.refl _) .nil)) Y Y) ?_
  refine Ag 4 (Bj emptyN) Y (.cons .nil (.cons .nil (.cons .nil (.cons .nil (.cons .nil (.cons .nil (.cons .nil (.cons .nil .nil)))))))) ?_
  refine T ?_
  exact D
 | false =>
 rw[if_neg qe]at hres
 by_cases h5:n.devices.length=8
 ·have g5:((n.devices.length:Int) == 8)=true:=by rw[beq_iff_eq];omega
  rw[if_pos h5]at hres
  subst hres
  refine T ?_
  refine X (Af [] Y F337 q1 Y W Y V) ?_
  refine A6 3 17 (Al l) Y Y Y ?_
  refine X (Bu [901] Y F338 qc (.cons (.row Y Y) (.cons (.refl _) .nil)) Y Y) ?_
  refine Ag 4 (Bj emptyN) Y (.cons .nil (.cons .nil (.cons .nil (.cons .nil (.cons .nil (.cons .nil (.cons .nil (.cons .nil .nil)))))))) ?_
  refine T ?_
  exact D
 have g5:((n.devices.length:Int) == 8)=false:=by rw[beq_eq_false_iff_ne];omega
 rw[if_neg h5]at hres
 subst hres
 refine T ?_
 refine X (Af [] Y F337 q1 Y W Y V) ?_
 refine A6 3 17 (Al l) Y Y Y ?_
 refine X (Bu [901] Y F338 qc (.cons (.row Y Y) (.cons (.refl _) .nil)) Y Y) ?_
 refine T ?_
 refine Xd (Ak Γ.toTy 52 Y Y Y Y Y (.row Y) (.lit (e:=Az) (l:=[(⟨l.row,l.num,l.dev,l.mac,0⟩:Device)]) Y Y) y_ (by simp only[List.length_singleton];omega) (by simp only[List.length_singleton];omega)) ?_
 refine T ?_
 refine Ac 52 Y ?_
 refine Ac 902 Y ?_
 refine Ac 903 Y ?_
 refine Ac 904 Y ?_
 refine Ac 905 Y ?_
 refine Ac 906 Y ?_
 refine Ac 907 Y ?_
 refine Ac 908 Y ?_
 exact D
end Go.Sy.YtjenpnjajjplkaaGreatDoor
namespace Go.Sy
theorem Q3 {P:Program} (Γ:Ty P) {o:Oper} {s:SS} (d q:Nat) {α:Type} {e:α→SV} {l:List α} (z:α) {sv:SV} {t:TypeId} {ti:TI} {et:TypeId} {sz eb:Nat} {ez:List Value} {x y:Operand} {k:Option Nat}
  (h:o.op=.call ⟨.builtin .append,#[x,y],#[t,t]⟩) (hd:s.h d=.fresh) (ht:Γ.get t=some ti) (hk:ti.k=.slice et sz eb ez) (hez:ez.length=sz)
  (hb:BaseT s sz e (ev s x) k l) (hy:ev s y=.osl q) (hq:s.h q=.lit sz [sv]) (hv:∀ (M:Nat→Prop) (w:World) (v:Value),RdD M w sv v→RdD M w (e z) v) (hkk:∀ j,k=some j→j≠d) (hbytes:(l.length+1) * eb≤140737488355328) (h63:l.length+1≤9223372036854775807) :
  Good P o s ⟨.osl d,[q],Mf k d (.row sz e (l++[z]))⟩:=by
 obtain ⟨f,hb,hf⟩:=hb.base
 have hs:AppSrc s sz (ev s y) [q] 1 (Zb [sv]):=by
  rw[hy]
  exact AppSrc.lit (sz:=sz) hq
 refine Vx Γ h hd ht hk hez hb hs hkk hbytes h63 fun κ w hr=>?_
 rcases hr with ⟨_,h2⟩ | ⟨b,cap,cs,T,fr,e1,e2,e3,e4,e5,e6⟩
 ·omega
 ·refine .inr ⟨b,cap,cs,T,fr,by simpa using e1,e2,e3,e4,by simpa using e5,fun i x hx=>?_⟩
  obtain ⟨hi,rfl⟩:=hx
  have hi2:i<l.length+1:=by simpa using hi
  by_cases hl:i<l.length
  ·have hx:rowF e l i ((l++[z])[i] |> e):=⟨hl,by rw[List.getElem_append_left hl]⟩
   obtain ⟨a1,a2⟩:=e6 i _ (.inl ⟨hl,hf i _ hx⟩)
   exact⟨by simpa using a1,a2⟩
  ·have hie:i=l.length:=by omega
   subst hie
   obtain ⟨a1,u,hu,hrest⟩:=e6 l.length sv (.inr ⟨Nat.le_refl _,by rw[Nat.sub_self];rfl⟩)
   refine⟨by simp,u,?_,hrest⟩
   have:=hv _ _ u hu
   simpa using this
end Go.Sy
namespace Go.Sy.YtjenpnjajjplkaaGreatDoor
open Go.Proofs
attribute [local irreducible] Go.Sy.G Go.Sy.DR
set_option maxRecDepth 100000
set_option maxHeartbeats 4000000
theorem T6 (dev v:Int) (d:Domain):Sy.Spec Tryz.prog 409 [Am d,.ref 1 (Aa dev) 0,.ref 1 (Aa v) 0] [] (Ab (d.dev == dev && d.vlan == v)) []:=cT F409 Tryz.ntmps409 fun F hF=>by
 cases h:(d.dev == dev)
 ·refine T ?_
  exact D
 ·refine T ?_
  exact D
abbrev Are (n:Net) (ds:List Domain):Obs:=[(900,.box [.osl 901,.osl 902,.osl 903,.osl 1904,.osl 905,.osl 906,.osl 907,.osl 908]),(901,.row 5 Az n.devices),(902,.row 7 Bb n.ports),(903,.row 3 B2 n.links),(904,.non),(1904,.row 6 Am ds),(905,.row 4 A8 n.statics),(906,.row 4 A4 n.floods),(907,.row 5 Cd n.vrfs),(908,.row 5 Cf n.irbs)]
theorem Kn (n:Net) (hl:n.domains.length<2147483648) (dev v:Int) (hc:¬ (0<v∧n.domains.any (fun d=>d.dev == dev && d.vlan == v)=false)):Sy.Spec Tryz.prog 342 [.ptr 900 0,Aa dev,Aa v] (Aik n) (.tup []) (Aik n):=cT F342 Tryz.ntmps342 fun F hF=>by
 have qc:=Jp n.domains (fun d=>d.dev == dev && d.vlan == v) 409 [] [.ref 1 (Aa dev) 0,.ref 1 (Aa v) 0] rfl (fun d _=>⟨⟨_,_,F409⟩,T6 dev v d⟩) hl
 rw[Km]at qc
 generalize n.domains.any (fun d=>d.dev == dev && d.vlan == v)=cl at *
 by_cases h1:0<v
 ·have g1:decide (v>0)=true:=decide_eq_true h1
  cases cl with
  | true =>
   refine T ?_
   refine A6 4 1 (Aa dev) Y Y Y ?_
   refine A6 5 1 (Aa v) Y Y Y ?_
   refine X (Bu [904] Y F408 qc (.cons (.row Y Y) (.cons (.refl _) .nil)) Y Y) ?_
   exact C3 Y .nil [] (Aik n) (fun _ h=>h) Y Y U
  | false=>exact absurd ⟨h1,rfl⟩ hc
 ·have g1:decide (v>0)=false:=decide_eq_false h1
  refine T ?_
  exact C3 Y .nil [] (Aik n) (fun _ h=>h) Y Y U
theorem Jy (n:Net) (hl:n.domains.length<2147483648) (dev v:Int) (hc:0<v∧n.domains.any (fun d=>d.dev == dev && d.vlan == v)=false):Sy.Spec Tryz.prog 342 [.ptr 900 0,Aa dev,Aa v] (Aik n) (.tup []) (Are n (n.domains++[(⟨dev,v,0,-1,0,[]⟩:Domain)])):=cT F342 Tryz.ntmps342 fun F hF=>by
 have qc:=Jp n.domains (fun d=>d.dev == dev && d.vlan == v) 409 [] [.ref 1 (Aa dev) 0,.ref 1 (Aa v) 0] rfl (fun d _=>⟨⟨_,_,F409⟩,T6 dev v d⟩) hl
 rw[Km,hc.2]at qc
 have g1:decide (v>0)=true:=decide_eq_true hc.1
 refine T ?_
 refine A6 4 1 (Aa dev) Y Y Y ?_
 refine A6 5 1 (Aa v) Y Y Y ?_
 refine X (Bu [904] Y F408 qc (.cons (.row Y Y) (.cons (.refl _) .nil)) Y Y) ?_
 refine T ?_
 refine Xd (Q3 Γ.toTy 28 27 (⟨dev,v,0,-1,0,[]⟩:Domain) Y Y Y Y Y (.row Y) Y Y (fun M w u hu=>Aaj (⟨dev,v,0,-1,0,[]⟩:Domain) Y hu) y_ z_ z_) ?_
 refine T ?_
 exact C3 Y .nil [(1904,28)] (Are n (n.domains++[(⟨dev,v,0,-1,0,[]⟩:Domain)])) (fun _ h=>h) Y Y U
theorem U9 {dev v:Int} {ds:List Domain} (h:¬ (0<v∧ds.any (fun d=>d.dev == dev && d.vlan == v)=false)):C8 dev ds v=ds:=by rw[C8,if_neg h]
theorem Sz {dev v:Int} {ds:List Domain} (h:0<v∧ds.any (fun d=>d.dev == dev && d.vlan == v)=false):C8 dev ds v=ds++[(⟨dev,v,0,-1,0,[]⟩:Domain)]:=by rw[C8,if_pos h]
theorem Mk (dev:Int):∀ (l:List Int) (ds:List Domain),(Ay dev ds l).length≤ds.length+l.length
 | [],ds=>by simp[Ay]
 | v::l,ds=>by
  have ih:=Mk dev l (C8 dev ds v)
  have h1:(C8 dev ds v).length≤ds.length+1:=by
   unfold C8
   split<;>simp
  have e:Ay dev ds (v::l)=Ay dev (C8 dev ds v) l:=rfl
  rw[e,List.length_cons];omega
theorem Mj (dev:Int) (ds:List Domain) (l:List Int) (v:Int):Ay dev ds (l++[v])=C8 dev (Ay dev ds l) v:=by
 unfold Ay
 rw[List.foldl_append];rfl
theorem Ang (n:Net) (hn:n.Fin) (l:LineM) (hl:LineW l):Sy.Spec Tryz.prog 281 [Aj n,Al l] [] (.tup [Aj (putPort n l).1,Aa (putPort n l).2]) []:=cT F281 Tryz.ntmps281 fun F hF=>by
 have hres:=putPort.eq_1 n l
 generalize putPort n l=res at *
 cases hf:fitsB n l 2 with
 | false =>
  have q1:=Qv n hn l hl 2 hf
  rw[hf,if_pos rfl]at hres
  subst hres
  refine T ?_
  refine C q1 F337 ?_
  refine Ag 4 (Bj emptyN) Y (.cons .nil (.cons .nil (.cons .nil (.cons .nil (.cons .nil (.cons .nil (.cons .nil (.cons .nil .nil)))))))) ?_
  refine T ?_
  exact D
 | true =>
 have q1:=Vn n hn l hl 2 hf
 have hr:Ah n=true:=by
  unfold fitsB at hf
  simp only[Bool.and_eq_true]at hf
  exact hf.2.2
 rw[hf,if_neg qe]at hres
 have q2:=Ik n hn hr l.dev
 have q3:=Si n hn hr (Cn n l.dev) l.port
 have hlt:=hl.fin.t
 have q5:=I8 l.tagged z_
 have hfl:n.ports.length≤40∧n.domains.length≤48:=⟨(Ae9 hr).2.1,(Ae9 hr).2.2.2.1⟩
 generalize K5 n (Cn n l.dev) l.port=pt at *
 generalize Cn n l.dev=dv at *
 by_cases h3:dv<0
 ·have g3:decide (dv<0)=true:=decide_eq_true h3
  rw[if_pos h3]at hres
  subst hres
  refine T ?_
  refine X (Af [] Y F337 q1 Y W Y V) ?_
  refine C q2 F340 ?_
  refine Ag 4 (Bj emptyN) Y (.cons .nil (.cons .nil (.cons .nil (.cons .nil (.cons .nil (.cons .nil (.cons .nil (.cons .nil .nil)))))))) ?_
  refine T ?_
  exact D
 have g3:decide (dv<0)=false:=decide_eq_false h3
 rw[if_neg h3]at hres
 by_cases h4:0≤pt
 ·have g4:decide (pt≥0)=true:=decide_eq_true h4
  rw[if_pos h4]at hres
  subst hres
  refine T ?_
  refine X (Af [] Y F337 q1 Y W Y V) ?_
  refine C q2 F340 ?_
  refine C q3 F341 ?_
  refine Ag 4 (Bj emptyN) Y (.cons .nil (.cons .nil (.cons .nil (.cons .nil (.cons .nil (.cons .nil (.cons .nil (.cons .nil .nil)))))))) ?_
  refine T ?_
  exact D
 have g4:decide (pt≥0)=false:=decide_eq_false h4
 rw[if_neg h4]at hres
 by_cases h5:n.ports.length=40
 ·have g5:((n.ports.length:Int) == 40)=true:=by rw[beq_iff_eq];omega
  rw[if_pos h5]at hres
  subst hres
  refine T ?_
  refine X (Af [] Y F337 q1 Y W Y V) ?_
  refine C q2 F340 ?_
  refine C q3 F341 ?_
  refine Ag 4 (Bj emptyN) Y (.cons .nil (.cons .nil (.cons .nil (.cons .nil (.cons .nil (.cons .nil (.cons .nil (.cons .nil .nil)))))))) ?_
  refine T ?_
  exact D
 have g5:((n.ports.length:Int) == 40)=false:=by rw[beq_eq_false_iff_ne];omega
 rw[if_neg h5]at hres
 have hd1l:(C8 dv n.domains l.vlan).length≤49:=by unfold C8;split<;>(try simp)<;>omega
 have hlenB:∀ j,(Ay dv (C8 dv n.domains l.vlan) (l.tagged.take j)).length≤200000:=fun j=>by
  have h1:=Mk dv (l.tagged.take j) (C8 dv n.domains l.vlan)
  rw[List.length_take]at h1
  omega
 by_cases hc:0<l.vlan∧n.domains.any (fun d=>d.dev == dv && d.vlan == l.vlan)=false
 ·have q6:=Jy ({ n with ports:=n.ports++[(⟨l.row,dv,l.vlan,l.cost,-1,l.port,l.tagged⟩:Port)] }:Net) (by show n.domains.length<_;omega) dv l.vlan hc
  obtain ⟨d1,hd1⟩:∃ d1,C8 dv n.domains l.vlan=d1:=⟨_,rfl⟩
  have hlenA:=hlenB
  rw[hd1]at hlenA
  have hde:=hd1.symm.trans (Sz hc)
  rw[← hde]at q6
  clear hlenB hde hc hd1l
  refine T ?_
  refine X (Af [] Y F337 q1 Y W Y V) ?_
  refine C q2 F340 ?_
  refine C q3 F341 ?_
  refine C q5 F159 ?_
  refine Xd (Ak Γ.toTy 66 Y Y Y Y Y (.row Y) (.lit (e:=Bb) (l:=[(⟨l.row,dv,l.vlan,l.cost,-1,l.port,l.tagged⟩:Port)]) Y Y) y_ (by simp only[List.length_singleton];omega) (by simp only[List.length_singleton];omega)) ?_
  refine T ?_
  refine X (Ax [(902,66),(1904,1101)] (A0 Y Y F342) q6 Y W Y V) ?_
  refine T ?_
  refine Au (fun j:Nat=>j≤l.tagged.length) (fun j=>[(4,.ptr 1001 0),(6,.ptr 900 0),(8,Aa dv),(9,.clo (.func 342) [] []),(77,.sl 1 Aa l.tagged),(78,Aa l.tagged.length),(79,Aa j)]) (fun j=>[(1001,.box [.val (.slice none 0 0),.val (.slice none 0 0),.val (.slice none 0 0),.val (.slice none 0 0),.val (.slice none 0 0),.val (.slice none 0 0),.val (.slice none 0 0),.val (.slice none 0 0)]),(900,.box [.osl 901,.osl 1002,.osl 903,.osl 1004,.osl 905,.osl 906,.osl 907,.osl 908]),(901,.row 5 Az n.devices),(1002,.row 7 Bb (n.ports++[(⟨l.row,dv,l.vlan,l.cost,-1,l.port,l.tagged⟩:Port)])),(903,.row 3 B2 n.links),(1004,.row 6 Am (Ay dv d1 (l.tagged.take j))),(905,.row 4 A8 n.statics),(906,.row 4 A4 n.floods),(907,.row 5 Cd n.vrfs),(908,.row 5 Cf n.irbs)]) (fun j=>l.tagged.length-j) 0 [(1001,4),(1002,66),(1004,1101)] z_ U ?_
  intro j hj
  have hlen:=hlenA j
  refine T ?_
  refine⟨fun h=>?_,fun h=>?_⟩
  ·have hlt:j<l.tagged.length:=qA h
   have hlt0:((j:Nat):Int).toNat<l.tagged.length:=hlt
   clear h
   have hsn:Ay dv d1 (l.tagged.take (j+1))=C8 dv (Ay dv d1 (l.tagged.take j)) (l.tagged[((j:Nat):Int).toNat]'hlt0):=by
    rw[List.take_succ_eq_append_getElem hlt,Mj];rfl
   by_cases hc:0<(l.tagged[((j:Nat):Int).toNat]'hlt0)∧(Ay dv d1 (l.tagged.take j)).any (fun d=>d.dev == dv && d.vlan == (l.tagged[((j:Nat):Int).toNat]'hlt0))=false
   ·have q:=Jy ({ n with ports:=n.ports++[(⟨l.row,dv,l.vlan,l.cost,-1,l.port,l.tagged⟩:Port)],domains:=Ay dv d1 (l.tagged.take j) }:Net) (by show (Ay dv d1 (l.tagged.take j)).length<_;omega) dv (l.tagged[((j:Nat):Int).toNat]'hlt0) hc
    rw[Sz hc]at hsn
    refine T ?_
    refine X (Ax [(902,1002),(904,1004),(1904,1102)] (A0 Y Y F342) q Y W Y V) ?_
    exact Ae (j+1) [(1004,1102)] hlt z_ ⟨⟨Y,Y,Y,Y,Y,Y,Y,Y,Y,Y,Y,Y,Y,Y,q_⟩,⟨.inl Y,Y,.inl Y,Y,.inl Y,Y,.inl Y,Y,.inl Y,Y,.inl (congrArg (Ob.row 6 Am) hsn),Y,.inl Y,Y,.inl Y,Y,.inl Y,Y,.inl Y,Y,q_⟩,Y,Y⟩
   ·have q:=Kn ({ n with ports:=n.ports++[(⟨l.row,dv,l.vlan,l.cost,-1,l.port,l.tagged⟩:Port)],domains:=Ay dv d1 (l.tagged.take j) }:Net) (by show (Ay dv d1 (l.tagged.take j)).length<_;omega) dv (l.tagged[((j:Nat):Int).toNat]'hlt0) hc
    rw[U9 hc]at hsn
    refine T ?_
    refine X (Ax [(902,1002),(904,1004)] (A0 Y Y F342) q Y W Y V) ?_
    exact Ae (j+1) [] hlt z_ ⟨⟨Y,Y,Y,Y,Y,Y,Y,Y,Y,Y,Y,Y,Y,Y,q_⟩,⟨.inl Y,Y,.inl Y,Y,.inl Y,Y,.inl Y,Y,.inl Y,Y,.inl (congrArg (Ob.row 6 Am) hsn),Y,.inl Y,Y,.inl Y,Y,.inl Y,Y,.inl Y,Y,q_⟩,Y,Y⟩
  ·have hje:j=l.tagged.length:=qB h
   clear h
   rw[hje,List.take_length]
   have hfull:Ay dv n.domains (l.vlan::l.tagged)=Ay dv d1 l.tagged:=(show Ay dv n.domains (l.vlan::l.tagged)=Ay dv (C8 dv n.domains l.vlan) l.tagged from rfl).trans (by rw[hd1])
   rw[hfull]at hres
   by_cases h9:48<(Ay dv d1 l.tagged).length
   ·have g9:decide (((Ay dv d1 l.tagged).length:Int)>48)=true:=decide_eq_true z_
    rw[if_pos h9]at hres
    subst hres
    refine T ?_
    refine Ag 1001 (Bj emptyN) Y (.cons .nil (.cons .nil (.cons .nil (.cons .nil (.cons .nil (.cons .nil (.cons .nil (.cons .nil .nil)))))))) ?_
    refine T ?_
    exact D
   ·have g9:decide (((Ay dv d1 l.tagged).length:Int)>48)=false:=decide_eq_false z_
    rw[if_neg h9]at hres
    subst hres
    refine T ?_
    refine Ac 901 Y ?_
    refine Ac 1002 Y ?_
    refine Ac 903 Y ?_
    refine Ac 1004 Y ?_
    refine Ac 905 Y ?_
    refine Ac 906 Y ?_
    refine Ac 907 Y ?_
    refine Ac 908 Y ?_
    exact D
 ·have q6:=Kn ({ n with ports:=n.ports++[(⟨l.row,dv,l.vlan,l.cost,-1,l.port,l.tagged⟩:Port)] }:Net) (by show n.domains.length<_;omega) dv l.vlan hc
  have hd1:C8 dv n.domains l.vlan=n.domains:=U9 hc
  have hlenA:=hlenB
  rw[hd1]at hlenA
  clear hlenB hc hd1l
  refine T ?_
  refine X (Af [] Y F337 q1 Y W Y V) ?_
  refine C q2 F340 ?_
  refine C q3 F341 ?_
  refine C q5 F159 ?_
  refine Xd (Ak Γ.toTy 66 Y Y Y Y Y (.row Y) (.lit (e:=Bb) (l:=[(⟨l.row,dv,l.vlan,l.cost,-1,l.port,l.tagged⟩:Port)]) Y Y) y_ (by simp only[List.length_singleton];omega) (by simp only[List.length_singleton];omega)) ?_
  refine T ?_
  refine X (Ax [(902,66)] (A0 Y Y F342) q6 Y W Y V) ?_
  refine T ?_
  refine Au (fun j:Nat=>j≤l.tagged.length) (fun j=>[(4,.ptr 1001 0),(6,.ptr 900 0),(8,Aa dv),(9,.clo (.func 342) [] []),(77,.sl 1 Aa l.tagged),(78,Aa l.tagged.length),(79,Aa j)]) (fun j=>[(1001,.box [.val (.slice none 0 0),.val (.slice none 0 0),.val (.slice none 0 0),.val (.slice none 0 0),.val (.slice none 0 0),.val (.slice none 0 0),.val (.slice none 0 0),.val (.slice none 0 0)]),(900,.box [.osl 901,.osl 1002,.osl 903,.osl 1004,.osl 905,.osl 906,.osl 907,.osl 908]),(901,.row 5 Az n.devices),(1002,.row 7 Bb (n.ports++[(⟨l.row,dv,l.vlan,l.cost,-1,l.port,l.tagged⟩:Port)])),(903,.row 3 B2 n.links),(1004,.row 6 Am (Ay dv n.domains (l.tagged.take j))),(905,.row 4 A8 n.statics),(906,.row 4 A4 n.floods),(907,.row 5 Cd n.vrfs),(908,.row 5 Cf n.irbs)]) (fun j=>l.tagged.length-j) 0 [(1001,4),(1002,66),(1004,904)] z_ U ?_
  intro j hj
  have hlen:=hlenA j
  refine T ?_
  refine⟨fun h=>?_,fun h=>?_⟩
  ·have hlt:j<l.tagged.length:=qA h
   have hlt0:((j:Nat):Int).toNat<l.tagged.length:=hlt
   clear h
   have hsn:Ay dv n.domains (l.tagged.take (j+1))=C8 dv (Ay dv n.domains (l.tagged.take j)) (l.tagged[((j:Nat):Int).toNat]'hlt0):=by
    rw[List.take_succ_eq_append_getElem hlt,Mj];rfl
   by_cases hc:0<(l.tagged[((j:Nat):Int).toNat]'hlt0)∧(Ay dv n.domains (l.tagged.take j)).any (fun d=>d.dev == dv && d.vlan == (l.tagged[((j:Nat):Int).toNat]'hlt0))=false
   ·have q:=Jy ({ n with ports:=n.ports++[(⟨l.row,dv,l.vlan,l.cost,-1,l.port,l.tagged⟩:Port)],domains:=Ay dv n.domains (l.tagged.take j) }:Net) (by show (Ay dv n.domains (l.tagged.take j)).length<_;omega) dv (l.tagged[((j:Nat):Int).toNat]'hlt0) hc
    rw[Sz hc]at hsn
    refine T ?_
    refine X (Ax [(902,1002),(904,1004),(1904,1102)] (A0 Y Y F342) q Y W Y V) ?_
    exact Ae (j+1) [(1004,1102)] hlt z_ ⟨⟨Y,Y,Y,Y,Y,Y,Y,Y,Y,Y,Y,Y,Y,Y,q_⟩,⟨.inl Y,Y,.inl Y,Y,.inl Y,Y,.inl Y,Y,.inl Y,Y,.inl (congrArg (Ob.row 6 Am) hsn),Y,.inl Y,Y,.inl Y,Y,.inl Y,Y,.inl Y,Y,q_⟩,Y,Y⟩
   ·have q:=Kn ({ n with ports:=n.ports++[(⟨l.row,dv,l.vlan,l.cost,-1,l.port,l.tagged⟩:Port)],domains:=Ay dv n.domains (l.tagged.take j) }:Net) (by show (Ay dv n.domains (l.tagged.take j)).length<_;omega) dv (l.tagged[((j:Nat):Int).toNat]'hlt0) hc
    rw[U9 hc]at hsn
    refine T ?_
    refine X (Ax [(902,1002),(904,1004)] (A0 Y Y F342) q Y W Y V) ?_
    exact Ae (j+1) [] hlt z_ ⟨⟨Y,Y,Y,Y,Y,Y,Y,Y,Y,Y,Y,Y,Y,Y,q_⟩,⟨.inl Y,Y,.inl Y,Y,.inl Y,Y,.inl Y,Y,.inl Y,Y,.inl (congrArg (Ob.row 6 Am) hsn),Y,.inl Y,Y,.inl Y,Y,.inl Y,Y,.inl Y,Y,q_⟩,Y,Y⟩
  ·have hje:j=l.tagged.length:=qB h
   clear h
   rw[hje,List.take_length]
   have hfull:Ay dv n.domains (l.vlan::l.tagged)=Ay dv n.domains l.tagged:=(show Ay dv n.domains (l.vlan::l.tagged)=Ay dv (C8 dv n.domains l.vlan) l.tagged from rfl).trans (by rw[hd1])
   rw[hfull]at hres
   by_cases h9:48<(Ay dv n.domains l.tagged).length
   ·have g9:decide (((Ay dv n.domains l.tagged).length:Int)>48)=true:=decide_eq_true z_
    rw[if_pos h9]at hres
    subst hres
    refine T ?_
    refine Ag 1001 (Bj emptyN) Y (.cons .nil (.cons .nil (.cons .nil (.cons .nil (.cons .nil (.cons .nil (.cons .nil (.cons .nil .nil)))))))) ?_
    refine T ?_
    exact D
   ·have g9:decide (((Ay dv n.domains l.tagged).length:Int)>48)=false:=decide_eq_false z_
    rw[if_neg h9]at hres
    subst hres
    refine T ?_
    refine Ac 901 Y ?_
    refine Ac 1002 Y ?_
    refine Ac 903 Y ?_
    refine Ac 1004 Y ?_
    refine Ac 905 Y ?_
    refine Ac 906 Y ?_
    refine Ac 907 Y ?_
    refine Ac 908 Y ?_
    exact D
theorem Ap9 (n:Net) (hn:n.Fin) (ha:Ha n) (l:LineM) (hl:LineW l):Sy.Spec Tryz.prog 206 [Aj n,Al l] [] (.tup [Aj (putT n l).1,Aa (putT n l).2]) []:=cT F206 Tryz.ntmps206 fun F hF=>by
 have hres:=putT.eq_1 n l
 generalize putT n l=res at *
 by_cases h1:l.kind=1
 ·have g1:(l.kind == 1)=true:=by rw[beq_iff_eq];exact h1
  have q:=Ail n hn l hl
  rw[if_pos h1]at hres
  rw[← hres]at q
  refine T ?_
  refine C q F280 ?_
  exact D
 have g1:(l.kind == 1)=false:=by rw[beq_eq_false_iff_ne];exact h1
 rw[if_neg h1]at hres
 by_cases h2:l.kind=2
 ·have g2:(l.kind == 2)=true:=by rw[beq_iff_eq];exact h2
  have q:=Ang n hn l hl
  rw[if_pos h2]at hres
  rw[← hres]at q
  refine T ?_
  refine C q F281 ?_
  exact D
 have g2:(l.kind == 2)=false:=by rw[beq_eq_false_iff_ne];exact h2
 rw[if_neg h2]at hres
 by_cases h3:l.kind=3
 ·have g3:(l.kind == 3)=true:=by rw[beq_iff_eq];exact h3
  have q:=An4 n hn l hl
  rw[if_pos h3]at hres
  rw[← hres]at q
  refine T ?_
  refine C q F282 ?_
  exact D
 have g3:(l.kind == 3)=false:=by rw[beq_eq_false_iff_ne];exact h3
 rw[if_neg h3]at hres
 by_cases h4:l.kind=4
 ·have g4:(l.kind == 4)=true:=by rw[beq_iff_eq];exact h4
  have q:=Agl n hn l hl
  rw[if_pos h4]at hres
  rw[← hres]at q
  refine T ?_
  refine C q F283 ?_
  exact D
 have g4:(l.kind == 4)=false:=by rw[beq_eq_false_iff_ne];exact h4
 rw[if_neg h4]at hres
 by_cases h5:l.kind=5
 ·have g5:(l.kind == 5)=true:=by rw[beq_iff_eq];exact h5
  have q:=Ap2 n hn l hl
  rw[if_pos h5]at hres
  rw[← hres]at q
  refine T ?_
  refine C q F284 ?_
  exact D
 have g5:(l.kind == 5)=false:=by rw[beq_eq_false_iff_ne];exact h5
 rw[if_neg h5]at hres
 by_cases h6:l.kind=6
 ·have g6:(l.kind == 6)=true:=by rw[beq_iff_eq];exact h6
  have q:=ovVniS n hn l hl
  rw[if_pos h6]at hres
  rw[← hres]at q
  refine T ?_
  refine C q F285 ?_
  exact D
 have g6:(l.kind == 6)=false:=by rw[beq_eq_false_iff_ne];exact h6
 rw[if_neg h6]at hres
 by_cases h7:l.kind=7
 ·have g7:(l.kind == 7)=true:=by rw[beq_iff_eq];exact h7
  have q:=Anm n hn l hl
  rw[if_pos h7]at hres
  rw[← hres]at q
  refine T ?_
  refine C q F286 ?_
  exact D
 have g7:(l.kind == 7)=false:=by rw[beq_eq_false_iff_ne];exact h7
 rw[if_neg h7]at hres
 by_cases h8:l.kind=8
 ·have g8:(l.kind == 8)=true:=by rw[beq_iff_eq];exact h8
  have q:=Apl n hn l hl
  rw[if_pos h8]at hres
  rw[← hres]at q
  refine T ?_
  refine C q F287 ?_
  exact D
 have g8:(l.kind == 8)=false:=by rw[beq_eq_false_iff_ne];exact h8
 rw[if_neg h8]at hres
 by_cases h9:l.kind=9
 ·have g9:(l.kind == 9)=true:=by rw[beq_iff_eq];exact h9
  have q:=Aqn n hn ha l hl
  rw[if_pos h9]at hres
  rw[← hres]at q
  refine T ?_
  refine C q F288 ?_
  exact D
 have g9:(l.kind == 9)=false:=by rw[beq_eq_false_iff_ne];exact h9
 rw[if_neg h9]at hres
 subst hres
 refine T ?_
 refine Ag 4 (Bj emptyN) Y (.cons .nil (.cons .nil (.cons .nil (.cons .nil (.cons .nil (.cons .nil (.cons .nil (.cons .nil .nil)))))))) ?_
 refine T ?_
 exact D
theorem Ab9 {n:Net} (h:Ah n=true) {i:Nat} (hi:i<n.floods.length):Is n n.floods[i]=true:=by
 simp only[Ah,Bool.and_eq_true]at h
 exact allB_iff.1 h.1.1.2 i hi
theorem Aq0 (n:Net) (hn:n.Fin) (hr:Ah n=true) (f:Flood) (hf:f∈n.floods):Sy.Spec Tryz.prog 60 [Aj n,A4 f] [] (Ab (agreesB n f)) []:=cT F60 Tryz.ntmps60 fun F hF=>by
 have hfd:0≤f.dev∧f.dev.toNat<n.devices.length:=by
  obtain ⟨j,hj,rfl⟩:=List.getElem_of_mem hf
  have:=Ab9 hr hj
  simp only[Is,Ap,Bool.and_eq_true,decide_eq_true_eq]at this
  omega
 have hfa:f.addrs.length<2147483648:=hn.addrs f hf
 have hown:(nth n.devices f.dev).vtep=(n.devices[f.dev.toNat]'hfd.2).vtep:=by rw[As hfd.2]
 have q1:=Tj n hn f.dev f.vni
 have hres:=agreesB.eq_1 n f
 have hag:∀ a,agreeA n f a=_:=agreeA.eq_1 n f
 generalize agreesB n f=res at *
 generalize Ia n f.dev f.vni=v0 at *
 refine T ?_
 refine A6 2 8 (Aj n) Y Y Y ?_
 refine A6 3 4 (A4 f) Y Y Y ?_
 refine T ?_
 refine C q1 F63 ?_
 refine Au (fun j:Nat=>j≤f.addrs.length) (fun j=>[(2,.ref 8 (Aj n) 0),(3,.ref 4 (A4 f) 0),(5,A3 (n.devices[f.dev.toNat]'hfd.2).vtep),(6,Ab (decide (0≤v0) && (f.addrs.take j).all (agreeA n f))),(28,.sl 1 A3 f.addrs),(29,Aa f.addrs.length),(30,Aa j)]) (fun _=>[]) (fun j=>f.addrs.length-j) 0 [] z_ ⟨⟨Y,Y,Y,Y,Y,Y,congrArg Ab qe,Y,Y,Y,Y,Y,Y,Y,q_⟩,q_,Y,Y⟩ ?_
 intro j hj
 refine T ?_
 refine⟨fun h=>?_,fun h=>?_⟩
 ·have hlt:j<f.addrs.length:=qA h
  have hj0:((j:Nat):Int).toNat<f.addrs.length:=hlt
  clear h
  have qo:=Ahn n hn (f.addrs[((j:Nat):Int).toNat]'hj0)
  have hA:=hag (f.addrs[((j:Nat):Int).toNat]'hj0)
  have hsn:(f.addrs.take (j+1)).all (agreeA n f)=((f.addrs.take j).all (agreeA n f) && agreeA n f (f.addrs[((j:Nat):Int).toNat]'hj0)):=by
   rw[List.take_succ_eq_append_getElem hlt,List.all_append]
   simp only[List.all_cons,List.all_nil,Bool.and_true]
   rfl
  have hwhole:agreeA n f (f.addrs[((j:Nat):Int).toNat]'hj0)=false→f.addrs.all (agreeA n f)=false:=fun h=>by
   rw[List.all_eq_false]
   exact⟨_,List.getElem_mem hj0,by rw[h];simp⟩
  have hpart:(f.addrs.take j).all (agreeA n f)=false→f.addrs.all (agreeA n f)=false:=fun h=>by
   rw[List.all_eq_false]at h ⊢
   obtain ⟨x,hx,hx2⟩:=h
   exact⟨x,List.mem_of_mem_take hx,hx2⟩
  have qf:=Tj n hn (Cz n (f.addrs[((j:Nat):Int).toNat]'hj0)) f.vni
  have ql:=Abe n hn (Cz n (f.addrs[((j:Nat):Int).toNat]'hj0)) f.vni
  cases ho:(decide (0≤v0) && (f.addrs.take j).all (agreeA n f)) with
  | false =>
   have hr0:res=false:=by
    rw[hres]
    cases hd:decide (0≤v0)
    ·rfl
    ·rw[hd,Bool.true_and]at ho
     rw[hpart ho];rfl
   subst hr0
   generalize Cz n (f.addrs[((j:Nat):Int).toNat]'hj0)=dv at *
   refine T ?_
   refine C qo F64 ?_
   exact D
  | true =>
   have hdr:Cz n (f.addrs[((j:Nat):Int).toNat]'hj0)<0∨0≤Cz n (f.addrs[((j:Nat):Int).toNat]'hj0):=by omega
   have hlr:Ee n (Cz n (f.addrs[((j:Nat):Int).toNat]'hj0)) f.vni<0∨∃ k:Nat,Ee n (Cz n (f.addrs[((j:Nat):Int).toNat]'hj0)) f.vni=k∧k<n.floods.length:=by
    by_cases h:Ee n (Cz n (f.addrs[((j:Nat):Int).toNat]'hj0)) f.vni<0
    ·exact .inl h
    ·exact .inr (D2 h)
   generalize Ia n (Cz n (f.addrs[((j:Nat):Int).toNat]'hj0)) f.vni=fv at *
   generalize Ee n (Cz n (f.addrs[((j:Nat):Int).toNat]'hj0)) f.vni=lv at *
   generalize Cz n (f.addrs[((j:Nat):Int).toNat]'hj0)=dv at *
   by_cases k1:dv<0
   ·have g1:decide (dv≥0)=false:=decide_eq_false z_
    have g1n:(!(decide (dv≥0)))=true:=by rw[g1];rfl
    have hr0:res=false:=by rw[hres,hwhole (by rw[hA,decide_eq_false (by omega:¬ 0≤dv)];rfl),Bool.and_false]
    subst hr0
    refine T ?_
    refine C qo F64 ?_
    exact D
   have g1:decide (dv≥0)=true:=decide_eq_true z_
   rw[decide_eq_true (by omega:0≤dv),Bool.true_and]at hA
   by_cases k2:(f.addrs[((j:Nat):Int).toNat]'hj0)=0
   ·have g2:((f.addrs[((j:Nat):Int).toNat]'hj0) != 0)=false:=by rw[bne_eq_false_iff_eq];exact k2
    have g2n:(!((f.addrs[((j:Nat):Int).toNat]'hj0) != 0))=true:=by rw[g2];rfl
    have hr0:res=false:=by rw[hres,hwhole (by rw[hA,g2];rfl),Bool.and_false]
    subst hr0
    refine T ?_
    refine C qo F64 ?_
    exact D
   have g2:((f.addrs[((j:Nat):Int).toNat]'hj0) != 0)=true:=by rw[bne_iff_ne];exact k2
   rw[g2,Bool.true_and]at hA
   by_cases k3:fv<0
   ·have g3:decide (fv≥0)=false:=decide_eq_false z_
    have g3n:(!(decide (fv≥0)))=true:=by rw[g3];rfl
    have hr0:res=false:=by rw[hres,hwhole (by rw[hA,decide_eq_false (by omega:¬ 0≤fv)];rfl),Bool.and_false]
    subst hr0
    refine T ?_
    refine C qo F64 ?_
    refine C qf F63 ?_
    exact D
   have g3:decide (fv≥0)=true:=decide_eq_true z_
   rw[decide_eq_true (by omega:0≤fv),Bool.true_and]at hA
   by_cases k4:lv<0
   ·have g4:decide (lv≥0)=false:=decide_eq_false z_
    have g4n:(!(decide (lv≥0)))=true:=by rw[g4];rfl
    have hr0:res=false:=by rw[hres,hwhole (by rw[hA,decide_eq_false (by omega:¬ 0≤lv)];rfl),Bool.and_false]
    subst hr0
    refine T ?_
    refine C qo F64 ?_
    refine C qf F63 ?_
    refine C ql F62 ?_
    refine Ar Y (.cons .tmp .nil) (congrArg Ab g4.symm) Y
   have g4:decide (lv≥0)=true:=decide_eq_true z_
   have g4n:(!(decide (lv≥0)))=false:=by rw[g4];rfl
   rw[decide_eq_true (by omega:0≤lv),Bool.true_and]at hA
   obtain ⟨m,hm,hml⟩:=hlr.resolve_left k4
   subst hm
   have hm0:((m:Nat):Int).toNat<n.floods.length:=hml
   rw[As hm0,hown]at hA
   have hfar:=hn.addrs _ (List.getElem_mem hm0)
   have qc:=Md (n.floods[((m:Nat):Int).toNat]'hm0).addrs (n.devices[f.dev.toNat]'hfd.2).vtep hfar
   have qcb:=fun b=>Md (n.floods[((m:Nat):Int).toNat]'hm0).addrs b hfar
   have hnx:(decide (0≤v0) && (f.addrs.take (j+1)).all (agreeA n f))=(inB (n.floods[((m:Nat):Int).toNat]'hm0).addrs (n.devices[f.dev.toNat]'hfd.2).vtep && f.addrs.all fun b=>b == (f.addrs[((j:Nat):Int).toNat]'hj0) || inB (n.floods[((m:Nat):Int).toNat]'hm0).addrs b):=by
    rw[hsn,← Bool.and_assoc,ho,Bool.true_and,hA]
   clear hA hsn hwhole hpart ho hag
   refine T ?_
   refine C qo F64 ?_
   refine C qf F63 ?_
   refine C ql F62 ?_
   refine C ql F62 ?_
   refine C qc F150 ?_
   refine Au (fun k:Nat=>k≤f.addrs.length) (fun k=>[(2,.ref 8 (Aj n) 0),(3,.ref 4 (A4 f) 0),(5,A3 (n.devices[f.dev.toNat]'hfd.2).vtep),(6,Ab (inB (n.floods[((m:Nat):Int).toNat]'hm0).addrs (n.devices[f.dev.toNat]'hfd.2).vtep && (f.addrs.take k).all fun b=>b == (f.addrs[((j:Nat):Int).toNat]'hj0) || inB (n.floods[((m:Nat):Int).toNat]'hm0).addrs b)),(8,A3 (f.addrs[((j:Nat):Int).toNat]'hj0)),(10,.sl 1 A3 (n.floods[((m:Nat):Int).toNat]'hm0).addrs),(28,.sl 1 A3 f.addrs),(29,Aa f.addrs.length),(30,Aa j),(78,.sl 1 A3 f.addrs),(79,Aa f.addrs.length),(80,Aa k)]) (fun _=>[]) (fun k=>f.addrs.length-k) 0 [] z_ ⟨⟨Y,Y,Y,Y,Y,Y,congrArg Ab qe,Y,Y,Y,Y,Y,Y,Y,Y,Y,Y,Y,Y,Y,Y,Y,Y,Y,q_⟩,q_,Y,Y⟩ ?_
   intro k hk
   refine T ?_
   refine⟨fun h=>?_,fun h=>?_⟩
   ·have hlt2:k<f.addrs.length:=qA h
    have hk0:((k:Nat):Int).toNat<f.addrs.length:=hlt2
    clear h
    have hsn:(f.addrs.take (k+1)).all (fun b=>b == (f.addrs[((j:Nat):Int).toNat]'hj0) || inB (n.floods[((m:Nat):Int).toNat]'hm0).addrs b)=((f.addrs.take k).all (fun b=>b == (f.addrs[((j:Nat):Int).toNat]'hj0) || inB (n.floods[((m:Nat):Int).toNat]'hm0).addrs b) && ((f.addrs[((k:Nat):Int).toNat]'hk0) == (f.addrs[((j:Nat):Int).toNat]'hj0) || inB (n.floods[((m:Nat):Int).toNat]'hm0).addrs (f.addrs[((k:Nat):Int).toNat]'hk0))):=by
     rw[List.take_succ_eq_append_getElem hlt2,List.all_append]
     simp only[List.all_cons,List.all_nil,Bool.and_true]
     rfl
    have hst:(inB (n.floods[((m:Nat):Int).toNat]'hm0).addrs (n.devices[f.dev.toNat]'hfd.2).vtep && (f.addrs.take (k+1)).all fun b=>b == (f.addrs[((j:Nat):Int).toNat]'hj0) || inB (n.floods[((m:Nat):Int).toNat]'hm0).addrs b)=((inB (n.floods[((m:Nat):Int).toNat]'hm0).addrs (n.devices[f.dev.toNat]'hfd.2).vtep && (f.addrs.take k).all fun b=>b == (f.addrs[((j:Nat):Int).toNat]'hj0) || inB (n.floods[((m:Nat):Int).toNat]'hm0).addrs b) && ((f.addrs[((k:Nat):Int).toNat]'hk0) == (f.addrs[((j:Nat):Int).toNat]'hj0) || inB (n.floods[((m:Nat):Int).toNat]'hm0).addrs (f.addrs[((k:Nat):Int).toNat]'hk0))):=by
     rw[hsn,Bool.and_assoc]
    have qb:=qcb (f.addrs[((k:Nat):Int).toNat]'hk0)
    cases ho2:(inB (n.floods[((m:Nat):Int).toNat]'hm0).addrs (n.devices[f.dev.toNat]'hfd.2).vtep && (f.addrs.take k).all fun b=>b == (f.addrs[((j:Nat):Int).toNat]'hj0) || inB (n.floods[((m:Nat):Int).toNat]'hm0).addrs b) with
    | false =>
     rw[ho2,Bool.false_and]at hst
     refine T ?_
     exact Ae (k+1) [] hlt2 z_ ⟨⟨Y,Y,Y,Y,Y,Y,congrArg Ab hst,Y,Y,Y,Y,Y,Y,Y,Y,Y,Y,Y,Y,Y,Y,Y,Y,Y,q_⟩,q_,Y,Y⟩
    | true =>
     rw[ho2,Bool.true_and]at hst
     cases he:((f.addrs[((k:Nat):Int).toNat]'hk0) == (f.addrs[((j:Nat):Int).toNat]'hj0)) with
     | true =>
      rw[he,Bool.true_or]at hst
      refine T ?_
      exact Ae (k+1) [] hlt2 z_ ⟨⟨Y,Y,Y,Y,Y,Y,congrArg Ab hst,Y,Y,Y,Y,Y,Y,Y,Y,Y,Y,Y,Y,Y,Y,Y,Y,Y,q_⟩,q_,Y,Y⟩
     | false =>
      rw[he,Bool.false_or]at hst
      refine T ?_
      refine C qb F150 ?_
      exact Ae (k+1) [] hlt2 z_ ⟨⟨Y,Y,Y,Y,Y,Y,congrArg Ab hst,Y,Y,Y,Y,Y,Y,Y,Y,Y,Y,Y,Y,Y,Y,Y,Y,Y,q_⟩,q_,Y,Y⟩
   ·have hke:k=f.addrs.length:=qB h
    clear h
    rw[hke,List.take_length]
    refine T ?_
    exact Ae (j+1) [] hlt z_ ⟨⟨Y,Y,Y,Y,Y,Y,congrArg Ab hnx,Y,Y,Y,Y,Y,Y,Y,q_⟩,q_,Y,Y⟩
 ·have hje:j=f.addrs.length:=qB h
  clear h
  subst hje
  rw[List.take_length,← hres]
  refine T ?_
  exact D
theorem Su {α:Type} {p:α→Bool}:∀ {l:List α} {j:Nat} (hj:j<l.length),(∀ k (hk:k<l.length),k<j→p l[k]=false)→p l[j]=true→l.find? p=some l[j]
 | x::l,0,_,_,h2=>by
  rw[List.getElem_cons_zero]at h2 ⊢
  rw[List.find?_cons,h2]
 | x::l,j+1,hj,h1,h2=>by
  rw[List.getElem_cons_succ]at h2 ⊢
  have h0:=h1 0 qe z_
  rw[List.getElem_cons_zero]at h0
  rw[List.find?_cons,h0]
  exact Su (by simpa using hj) (fun k hk hkj=>by
   have:=h1 (k+1) (by simp;omega) z_
   rwa [List.getElem_cons_succ]at this) h2
def Kr (n:Net) (j:Nat):List Domain:=(n.domains.take j).map (fun d=>{ d with peers:=peersT n d })++n.domains.drop j
theorem Z2 (n:Net):Kr n 0=n.domains:=by simp[Kr]
theorem Aed (n:Net):Kr n n.domains.length=(D7 n).domains:=by simp[Kr,D7]
theorem Aec (n:Net) {j:Nat} (hj:j≤n.domains.length):(Kr n j).length=n.domains.length:=by simp[Kr];omega
theorem Z3 (n:Net) {j:Nat} (hj:j<n.domains.length) (h:((j:Nat):Int).toNat<(Kr n j).length) :
  (Kr n j)[((j:Nat):Int).toNat]'h=n.domains[j]∧(Kr n j).set ((j:Nat):Int).toNat { n.domains[j] with peers:=peersT n n.domains[j] }=Kr n (j+1):=by
 have hl:((n.domains.take j).map (fun d=>{ d with peers:=peersT n d })).length=j:=by simp;omega
 have e:Kr n j=(n.domains.take j).map (fun d=>{ d with peers:=peersT n d })++n.domains[j]::n.domains.drop (j+1):=by
  rw[Kr,List.drop_eq_getElem_cons hj]
 have e2:Kr n (j+1)=(n.domains.take j).map (fun d=>{ d with peers:=peersT n d })++{ n.domains[j] with peers:=peersT n n.domains[j] }::n.domains.drop (j+1):=by
  rw[Kr,List.take_succ_eq_append_getElem hj,List.map_append,List.map_cons,List.map_nil,List.append_assoc];rfl
 constructor
 ·simp only[Int.toNat_natCast,e]
  rw[List.getElem_append_right z_]
  simp only[hl,Nat.sub_self,List.getElem_cons_zero]
 ·rw[Int.toNat_natCast,e,e2,List.set_append_right _ _ z_,hl,Nat.sub_self]
  rfl
theorem Aih (n:Net) (h:Ah n=true):(∀ f∈n.floods,f.addrs.length≤16):=fun f hf=>by
 obtain ⟨j,hj,rfl⟩:=List.getElem_of_mem hf
 have:=Ab9 h hj
 simp only[Is,Bool.and_eq_true,decide_eq_true_eq]at this
 exact this.2
theorem Ak3 {n:Net} (h:Ah n=true) (d:Domain):(peersT n d).length≤16:=by
 unfold peersT
 split
 ·rename_i hc
  rw[List.length_map]
  have hl:=Abx (fun f:Flood=>f.dev == d.dev && f.vni == d.vni) n.floods
  have h0:(Ee n d.dev d.vni).toNat<n.floods.length:=by
   have e:Ee n d.dev d.vni=Dl (fun f:Flood=>f.dev == d.dev && f.vni == d.vni) n.floods:=rfl
   have:=hc.2
   omega
  rw[As h0]
  exact Aih n h _ (List.getElem_mem h0)
 ·simp
theorem Sj {n:Net} (hn:n.Fin) (h:Ah n=true):(D7 n).Fin:=by
 have hl:(D7 n).domains.length=n.domains.length:=by simp[D7]
 refine { hn with domains:=?_,peers:=?_ }
 ·show (D7 n).domains.length<_
  rw[hl];exact hn.domains
 ·intro p hp
  have hp:p∈n.domains.map fun d=>{ d with peers:=peersT n d }:=hp
  obtain ⟨d,_,rfl⟩:=List.mem_map.1 hp
  show (peersT n d).length<_
  have:=Ak3 h d
  omega
theorem meshS (n:Net) (hn:n.Fin):Sy.Spec Tryz.prog 23 [Aj n] [] (.tup [Aj (meshNT n).1,Aa (meshNT n).2.1,Aa (meshNT n).2.2]) []:=cT F23 Tryz.ntmps23 fun F hF=>by
 have qn:=Cq n hn
 have qcopy:=Mc n hn
 have hres:=meshNT.eq_1 n
 generalize meshNT n=res at *
 cases hr:Ah n with
 | false =>
  rw[hr]at qn
  rw[hr,if_pos rfl]at hres
  subst hres
  refine T ?_
  refine C qn F25 ?_
  refine Ag 2 (Bj emptyN) Y (.cons .nil (.cons .nil (.cons .nil (.cons .nil (.cons .nil (.cons .nil (.cons .nil (.cons .nil .nil)))))))) ?_
  refine T ?_
  exact D
 | true =>
 rw[hr]at qn
 rw[hr,if_neg qe]at hres
 have hff:n.floods.length<2147483648:=hn.floods
 have hdd:n.domains.length<2147483648:=hn.domains
 refine T ?_
 refine C qn F25 ?_
 refine A6 1 8 (Aj n) Y Y Y ?_
 refine Au (fun j:Nat=>j≤n.floods.length∧∀ k (hk:k<n.floods.length),k<j→agreesB n n.floods[k]=true) (fun j=>[(1,.ref 8 (Aj n) 0),(2,.ptr 1001 0),(18,.sl 4 A4 n.floods),(19,Aa n.floods.length),(20,Aa j)]) (fun _=>[(1001,.box [.val (.slice none 0 0),.val (.slice none 0 0),.val (.slice none 0 0),.val (.slice none 0 0),.val (.slice none 0 0),.val (.slice none 0 0),.val (.slice none 0 0),.val (.slice none 0 0)])]) (fun j=>n.floods.length-j) 0 [(1001,2)] ⟨by omega,fun k hk h=>by omega⟩ U ?_
 rintro j ⟨hj,hI⟩
 refine T ?_
 refine⟨fun h=>?_,fun h=>?_⟩
 ·have hlt:j<n.floods.length:=qA h
  have hj0:((j:Nat):Int).toNat<n.floods.length:=hlt
  clear h
  have q:=Aq0 n hn hr (n.floods[((j:Nat):Int).toNat]'hj0) (List.getElem_mem hj0)
  cases ha:agreesB n (n.floods[((j:Nat):Int).toNat]'hj0) with
  | false =>
   rw[ha]at q
   rw[Su (p:=fun f=>!(agreesB n f)) hlt (fun k hk hkj=>by simp only[hI k hk hkj];rfl) (by show (!(agreesB n (n.floods[((j:Nat):Int).toNat]'hj0)))=true;rw[ha];rfl)]at hres
   dsimp only at hres
   subst hres
   refine T ?_
   refine C q F60 ?_
   refine Ag 1001 (Bj emptyN) Y (.cons .nil (.cons .nil (.cons .nil (.cons .nil (.cons .nil (.cons .nil (.cons .nil (.cons .nil .nil)))))))) ?_
   refine T ?_
   exact D
  | true =>
   rw[ha]at q
   refine T ?_
   refine C q F60 ?_
   refine Ae (j+1) [] ⟨hlt,fun k hk hkj=>?_⟩ z_ U
   by_cases e:k=j
   ·subst e;exact ha
   ·exact hI k hk z_
 ·have hje:j=n.floods.length:=qB h
  clear h
  have hnone:n.floods.find? (fun f=>!(agreesB n f))=none:=by
   rw[List.find?_eq_none]
   intro x hx
   obtain ⟨k,hk,rfl⟩:=List.getElem_of_mem hx
   rw[hI k hk z_];simp
  rw[hnone]at hres
  dsimp only at hres
  clear hI hj hje hnone
  refine T ?_
  refine X (Af [(0,901),(1,902),(2,903),(3,904),(4,905),(5,906),(6,907),(7,908)] Y F61 qcopy Y W Y V) ?_
  refine Au (fun j:Nat=>j≤n.domains.length) (fun j=>[(1,.ref 8 (Aj n) 0),(2,.ptr 1001 0),(35,.sl 6 Am n.domains),(36,Aa n.domains.length),(37,Aa j)]) (fun j=>[(1001,.box [.osl 901,.osl 902,.osl 903,.osl 1004,.osl 905,.osl 906,.osl 907,.osl 908]),(901,.row 5 Az n.devices),(902,.row 7 Bb n.ports),(903,.row 3 B2 n.links),(1004,.row 6 Am (Kr n j)),(905,.row 4 A8 n.statics),(906,.row 4 A4 n.floods),(907,.row 5 Cd n.vrfs),(908,.row 5 Cf n.irbs)]) (fun j=>n.domains.length-j) 0 [(1004,904)] z_ ⟨⟨Y,Y,Y,Y,Y,Y,Y,Y,Y,Y,q_⟩,⟨.inl Y,Y,.inl Y,Y,.inl Y,Y,.inl Y,Y,.inl (congrArg (Ob.row 6 Am) (Z2 n)),Y,.inl Y,Y,.inl Y,Y,.inl Y,Y,.inl Y,Y,q_⟩,Y,Y⟩ ?_
  intro j hj
  have hml:=Aec n hj
  refine T ?_
  refine⟨fun h=>?_,fun h=>?_⟩
  ·have hlt:j<n.domains.length:=qA h
   have hj0:((j:Nat):Int).toNat<n.domains.length:=hlt
   clear h
   have hjm:((j:Nat):Int).toNat<(Kr n j).length:=by rw[hml];exact hj0
   obtain ⟨m1,m2⟩:=Z3 n hlt hjm
   have hDj:n.domains[j]=(n.domains[((j:Nat):Int).toNat]'hj0):=rfl
   rw[hDj]at m1 m2
   have hne:Kr n j≠[]:=fun e=>by rw[e]at hjm;cases hjm
   have ql:=Abe n hn (n.domains[((j:Nat):Int).toNat]'hj0).dev (n.domains[((j:Nat):Int).toNat]'hj0).vni
   have hpt:=peersT.eq_1 n (n.domains[((j:Nat):Int).toNat]'hj0)
   have hlr:Ee n (n.domains[((j:Nat):Int).toNat]'hj0).dev (n.domains[((j:Nat):Int).toNat]'hj0).vni<0∨∃ k:Nat,Ee n (n.domains[((j:Nat):Int).toNat]'hj0).dev (n.domains[((j:Nat):Int).toNat]'hj0).vni=k∧k<n.floods.length:=by
    by_cases h:Ee n (n.domains[((j:Nat):Int).toNat]'hj0).dev (n.domains[((j:Nat):Int).toNat]'hj0).vni<0
    ·exact .inl h
    ·exact .inr (D2 h)
   generalize Ee n (n.domains[((j:Nat):Int).toNat]'hj0).dev (n.domains[((j:Nat):Int).toNat]'hj0).vni=lv at *
   generalize hpT:peersT n (n.domains[((j:Nat):Int).toNat]'hj0)=ps at *
   by_cases k1:(n.domains[((j:Nat):Int).toNat]'hj0).vni=0
   ·have g1:((n.domains[((j:Nat):Int).toNat]'hj0).vni != 0)=false:=by rw[bne_eq_false_iff_eq];exact k1
    rw[if_neg (fun h=>h.1 k1)]at hpt
    subst hpt
    refine T ?_
    refine Dh 9 1 Aa Y ?_
    refine C ql F62 ?_
    refine⟨hne,?_⟩
    refine T ?_
    refine⟨(⟨(n.domains[((j:Nat):Int).toNat]'hj0).dev,(n.domains[((j:Nat):Int).toNat]'hj0).vlan,(n.domains[((j:Nat):Int).toNat]'hj0).vni,(n.domains[((j:Nat):Int).toNat]'hj0).irb,(n.domains[((j:Nat):Int).toNat]'hj0).row,[]⟩:Domain),by rw[m1];rfl,by rw[m1];rfl,?_⟩
    refine T ?_
    exact Ae (j+1) [] hlt z_ ⟨⟨Y,Y,Y,Y,Y,Y,Y,Y,Y,Y,q_⟩,⟨.inl Y,Y,.inl Y,Y,.inl Y,Y,.inl Y,Y,.inl (congrArg (Ob.row 6 Am) m2.symm),Y,.inl Y,Y,.inl Y,Y,.inl Y,Y,.inl Y,Y,q_⟩,Y,Y⟩
   have g1:((n.domains[((j:Nat):Int).toNat]'hj0).vni != 0)=true:=by rw[bne_iff_ne];exact k1
   by_cases k2:lv<0
   ·have g2:decide (lv≥0)=false:=decide_eq_false z_
    rw[if_neg (fun h=>by have:=h.2;omega)]at hpt
    subst hpt
    refine T ?_
    refine Dh 9 1 Aa Y ?_
    refine C ql F62 ?_
    refine⟨hne,?_⟩
    refine T ?_
    refine⟨(⟨(n.domains[((j:Nat):Int).toNat]'hj0).dev,(n.domains[((j:Nat):Int).toNat]'hj0).vlan,(n.domains[((j:Nat):Int).toNat]'hj0).vni,(n.domains[((j:Nat):Int).toNat]'hj0).irb,(n.domains[((j:Nat):Int).toNat]'hj0).row,[]⟩:Domain),by rw[m1];rfl,by rw[m1];rfl,?_⟩
    refine T ?_
    exact Ae (j+1) [] hlt z_ ⟨⟨Y,Y,Y,Y,Y,Y,Y,Y,Y,Y,q_⟩,⟨.inl Y,Y,.inl Y,Y,.inl Y,Y,.inl Y,Y,.inl (congrArg (Ob.row 6 Am) m2.symm),Y,.inl Y,Y,.inl Y,Y,.inl Y,Y,.inl Y,Y,q_⟩,Y,Y⟩
   obtain ⟨m,hm,hmf⟩:=hlr.resolve_left k2
   subst hm
   clear hlr
   have g2:decide ((m:Int)≥0)=true:=decide_eq_true z_
   have hm0:((m:Nat):Int).toNat<n.floods.length:=hmf
   rw[if_pos ⟨k1,by omega⟩,As hm0]at hpt
   have hfa:=Aih n hr _ (List.getElem_mem hm0)
   refine T ?_
   refine C4 9 1200 1 Aa Y Y ?_
   refine C ql F62 ?_
   refine A6 8 6 (Am (n.domains[((j:Nat):Int).toNat]'hj0)) Y Y Y ?_
   refine Au (fun k:Nat=>k≤(n.floods[((m:Nat):Int).toNat]'hm0).addrs.length) (fun k=>[(1,.ref 8 (Aj n) 0),(2,.ptr 1001 0),(7,Aa j),(8,.ref 6 (Am (n.domains[((j:Nat):Int).toNat]'hj0)) 0),(9,.osl 1200),(35,.sl 6 Am n.domains),(36,Aa n.domains.length),(37,Aa j),(60,.sl 1 A3 (n.floods[((m:Nat):Int).toNat]'hm0).addrs),(61,Aa (n.floods[((m:Nat):Int).toNat]'hm0).addrs.length),(62,Aa k)]) (fun k=>[(1001,.box [.osl 901,.osl 902,.osl 903,.osl 1004,.osl 905,.osl 906,.osl 907,.osl 908]),(901,.row 5 Az n.devices),(902,.row 7 Bb n.ports),(903,.row 3 B2 n.links),(1004,.row 6 Am (Kr n j)),(905,.row 4 A8 n.statics),(906,.row 4 A4 n.floods),(907,.row 5 Cd n.vrfs),(908,.row 5 Cf n.irbs),(1200,.row 1 Aa (((n.floods[((m:Nat):Int).toNat]'hm0).addrs.take k).map (fun a=>Ia n (Cz n a) (n.domains[((j:Nat):Int).toNat]'hj0).vni)))]) (fun k=>(n.floods[((m:Nat):Int).toNat]'hm0).addrs.length-k) 0 [] z_ U ?_
   intro k hk
   refine T ?_
   refine⟨fun h=>?_,fun h=>?_⟩
   ·have hlt2:k<(n.floods[((m:Nat):Int).toNat]'hm0).addrs.length:=qA h
    have hk0:((k:Nat):Int).toNat<(n.floods[((m:Nat):Int).toNat]'hm0).addrs.length:=hlt2
    clear h
    have qo:=Ahn n hn ((n.floods[((m:Nat):Int).toNat]'hm0).addrs[((k:Nat):Int).toNat]'hk0)
    have qf:=Tj n hn (Cz n ((n.floods[((m:Nat):Int).toNat]'hm0).addrs[((k:Nat):Int).toNat]'hk0)) (n.domains[((j:Nat):Int).toNat]'hj0).vni
    have hsn:((n.floods[((m:Nat):Int).toNat]'hm0).addrs.take (k+1)).map (fun a=>Ia n (Cz n a) (n.domains[((j:Nat):Int).toNat]'hj0).vni)=((n.floods[((m:Nat):Int).toNat]'hm0).addrs.take k).map (fun a=>Ia n (Cz n a) (n.domains[((j:Nat):Int).toNat]'hj0).vni)++[Ia n (Cz n ((n.floods[((m:Nat):Int).toNat]'hm0).addrs[((k:Nat):Int).toNat]'hk0)) (n.domains[((j:Nat):Int).toNat]'hj0).vni]:=by
     rw[List.take_succ_eq_append_getElem hlt2,List.map_append];rfl
    have hrl:(((n.floods[((m:Nat):Int).toNat]'hm0).addrs.take k).map (fun a=>Ia n (Cz n a) (n.domains[((j:Nat):Int).toNat]'hj0).vni)).length≤16:=by rw[List.length_map,List.length_take];omega
    refine T ?_
    refine C qo F64 ?_
    refine C qf F63 ?_
    refine Xd (Ak Γ.toTy 75 Y Y Y Y Y (.row Y) (.lit (e:=Aa) (l:=[Ia n (Cz n ((n.floods[((m:Nat):Int).toNat]'hm0).addrs[((k:Nat):Int).toNat]'hk0)) (n.domains[((j:Nat):Int).toNat]'hj0).vni]) Y Y) y_ (by simp only[List.length_singleton];omega) (by simp only[List.length_singleton];omega)) ?_
    refine T ?_
    exact Ae (k+1) [(1200,75)] hlt2 z_ ⟨⟨Y,Y,Y,Y,Y,Y,Y,Y,Y,Y,Y,Y,Y,Y,Y,Y,Y,Y,Y,Y,Y,Y,q_⟩,⟨.inl Y,Y,.inl Y,Y,.inl Y,Y,.inl Y,Y,.inl Y,Y,.inl Y,Y,.inl Y,Y,.inl Y,Y,.inl Y,Y,.inl (congrArg (Ob.row 1 Aa) hsn),Y,q_⟩,Y,Y⟩
   ·have hke:k=(n.floods[((m:Nat):Int).toNat]'hm0).addrs.length:=qB h
    clear h
    rw[hke,List.take_length,← hpt]
    refine Ac 1200 Y ?_
    refine T ?_
    refine⟨hne,?_⟩
    refine T ?_
    refine⟨(⟨(n.domains[((j:Nat):Int).toNat]'hj0).dev,(n.domains[((j:Nat):Int).toNat]'hj0).vlan,(n.domains[((j:Nat):Int).toNat]'hj0).vni,(n.domains[((j:Nat):Int).toNat]'hj0).irb,(n.domains[((j:Nat):Int).toNat]'hj0).row,ps⟩:Domain),by rw[m1];rfl,by rw[m1];rfl,?_⟩
    refine T ?_
    exact Ae (j+1) [] hlt z_ ⟨⟨Y,Y,Y,Y,Y,Y,Y,Y,Y,Y,q_⟩,⟨.inl Y,Y,.inl Y,Y,.inl Y,Y,.inl Y,Y,.inl (congrArg (Ob.row 6 Am) m2.symm),Y,.inl Y,Y,.inl Y,Y,.inl Y,Y,.inl Y,Y,q_⟩,Y,Y⟩
  ·have hje:j=n.domains.length:=qB h
   clear h
   subst hje
   rw[Aed]
   have qm:=Cq (D7 n) (Sj hn hr)
   refine T ?_
   refine Ac 901 Y ?_
   refine Ac 902 Y ?_
   refine Ac 903 Y ?_
   refine Ac 1004 Y ?_
   refine Ac 905 Y ?_
   refine Ac 906 Y ?_
   refine Ac 907 Y ?_
   refine Ac 908 Y ?_
   cases hb:Ah (D7 n) with
   | false =>
    rw[hb]at qm
    rw[hb,if_pos rfl]at hres
    subst hres
    refine C qm F25 ?_
    refine Ag 1001 (Bj emptyN) Y (.cons .nil (.cons .nil (.cons .nil (.cons .nil (.cons .nil (.cons .nil (.cons .nil (.cons .nil .nil)))))))) ?_
    refine T ?_
    exact D
   | true =>
    rw[hb]at qm
    rw[hb,if_neg qe]at hres
    subst hres
    refine C qm F25 ?_
    exact D
end Go.Sy.YtjenpnjajjplkaaGreatDoor
namespace Go.Sy.YtjenpnjajjplkaaGreatDoor
open Go.Proofs
set_option maxHeartbeats 4000000
structure PutP (x:Net × Int):Prop where
 fin:x.1.Fin
 addrs:Ha x.1
 none:x.2≠0→x.1=emptyN
theorem Hf:emptyN.Fin:=by
 constructor<;>first | (show (0:Nat)<2147483648;decide) | (intro p hp;cases hp)
theorem Bh (e:Int):PutP (emptyN,e):=⟨Hf,(fun x hx=>by cases hx),fun _=>rfl⟩
theorem J4 {n:Net} (h:n.Fin) (a:Ha n):PutP (n,0):=⟨h,a,fun h=>absurd rfl h⟩
theorem Et {n:Net} {l:LineM} {k:Int} (h:¬ fitsB n l k=false):n.devices.length≤8∧n.ports.length≤40∧n.links.length≤20∧n.domains.length≤48∧n.statics.length≤64∧n.floods.length≤48∧n.vrfs.length≤16∧n.irbs.length≤48:=by
 have h:fitsB n l k=true:=by simpa using h
 rw[fitsB,Bool.and_eq_true,Bool.and_eq_true]at h
 have h3:=h.2.2
 simp only[Ah,Bool.and_eq_true]at h3
 have h4:=h3.1.1.1.1.1.1.1.1
 simpa [Alu,and_assoc] using h4
theorem Uc {n:Net} {l:LineM} {k:Int} (h:¬ (begT n l k).2≠0):n.devices.length≤8∧n.ports.length≤40∧n.links.length≤20∧n.domains.length≤48∧n.statics.length≤64∧n.floods.length≤48∧n.vrfs.length≤16∧n.irbs.length≤48:=by
 apply Et (l:=l) (k:=k)
 intro h2
 rw[begT,if_pos h2]at h
 exact h y_
theorem Dp {α:Type} {l:List α} (h:l.length≤100000):At l:=by show l.length<2147483648;omega
theorem V8 (dev:Int):∀ (l:List Int) (ds:List Domain) (d:Domain),d∈Ay dev ds l→d∈ds∨d.peers=[]
 | [],_,_,h=>.inl h
 | v::l,ds,d,h=>by
  rcases V8 dev l (C8 dev ds v) d h with h | h
  ·unfold C8 at h
   split at h
   ·rcases List.mem_append.1 h with h | h
    ·exact .inl h
    ·rw[List.mem_singleton.1 h];exact .inr rfl
   ·exact .inl h
  ·exact .inr h
theorem Abn {α:Type} {l:List α} {i:Nat} {x y:α} (h:y∈l.set i x):y∈l∨y=x:=by
 rcases List.mem_or_eq_of_mem_set h with h | h
 ·exact .inl h
 ·exact .inr h
theorem Ahr {α:Type} [Inhabited α] {l:List α} {i:Int} (h:i.toNat<l.length):nth l i∈l:=by rw[As h];exact List.getElem_mem h
theorem Y7 {n:Net} {l:LineM} (hn:n.Fin) (ha:Ha n):PutP (putDevice n l):=by
 unfold putDevice
 split
 ·exact Bh _
 rename_i h
 have:=Et h
 split
 ·exact Bh _
 split
 ·exact Bh _
 exact J4 { hn with devices:=Dp (by rw[List.length_append,List.length_singleton];omega) } ha
theorem Ady {n:Net} {l:LineM} (hn:n.Fin) (ha:Ha n) (hl:LineW l):PutP (putPort n l):=by
 unfold putPort
 split
 ·exact Bh _
 rename_i h
 have:=Et h
 split
 ·exact Bh _
 split
 ·exact Bh _
 split
 ·exact Bh _
 split
 ·exact Bh _
 refine J4 { hn with ports:=Dp (by rw[List.length_append,List.length_singleton];omega),domains:=Dp (by dsimp only;omega),tagged:=fun p hp=>?_,peers:=fun d hd=>?_ } ha
 ·rcases List.mem_append.1 hp with hp | hp
  ·exact hn.tagged p hp
  ·rw[List.mem_singleton.1 hp];exact Dp hl.fin.t
 ·rcases V8 _ _ _ _ hd with h | h
  ·exact hn.peers d h
  ·exact Dp (by rw[h];exact Nat.zero_le _)
theorem Ai0 {l:List Port} {i k:Int} {p:Port} (h:p∈K4 l i k) (hT:∀ p∈l,At p.tagged):At p.tagged:=by
 by_cases hi:i.toNat<l.length
 ·rcases Abn h with h | h
  ·exact hT p h
  ·rw[h];exact show At (nth l i).tagged from hT _ (Ahr hi)
 ·rw[K4,List.set_eq_of_length_le z_]at h
  exact hT p h
theorem Adz {n:Net} {l:LineM} (hn:n.Fin) (ha:Ha n):PutP (putLink n l):=by
 unfold putLink
 split
 ·exact Bh _
 rename_i h
 have:=Et h
 dsimp only
 split
 ·exact Bh _
 split
 ·exact Bh _
 split
 ·exact Bh _
 refine J4 { hn with ports:=Dp (by simp only[K4,List.length_set];omega),links:=Dp (by rw[List.length_append,List.length_singleton];omega),tagged:=fun p hp=>Ai0 hp fun q hq=>Ai0 hq hn.tagged } ha
theorem Y6 {n:Net} {l:LineM} (hn:n.Fin) (ha:Ha n):PutP (putStatic n l):=by
 unfold putStatic
 split
 ·exact Bh _
 rename_i h
 have:=Et h
 dsimp only
 split
 ·exact Bh _
 split
 ·exact Bh _
 split
 ·exact Bh _
 split
 ·exact Bh _
 exact J4 { hn with statics:=Dp (by rw[List.length_append,List.length_singleton];omega) } ha
theorem Adx {n:Net} {l:LineM} (hn:n.Fin) (ha:Ha n):PutP (putVtep n l):=by
 unfold putVtep
 split
 ·exact Bh _
 rename_i h
 have:=Uc h
 dsimp only
 split
 ·exact Bh _
 exact J4 { hn with devices:=Dp (by simp only[Sb,List.length_set];omega) } ha
theorem Ajn {l:List Domain} {i:Nat} {e d:Domain} (h:d∈l.set i e) (he:i<l.length→At e.peers) (hT:∀ p∈l,At p.peers):At d.peers:=by
 by_cases hi:i<l.length
 ·rcases Abn h with h | h
  ·exact hT d h
  ·rw[h];exact he hi
 ·rw[List.set_eq_of_length_le z_]at h
  exact hT d h
theorem Ahi {n:Net} {l:LineM} (hn:n.Fin) (ha:Ha n):PutP (putVni n l):=by
 unfold putVni
 split
 ·exact Bh _
 rename_i h
 have:=Uc h
 dsimp only
 split
 ·exact Bh _
 split
 ·exact Bh _
 split
 ·exact Bh _
 exact J4 { hn with domains:=Dp (by simp only[List.length_set];omega),peers:=fun d hd=>Ajn hd (fun hi=>show At (nth n.domains _).peers from hn.peers _ (Ahr hi)) hn.peers } ha
theorem Aba {n:Net} {l:LineM} (hn:n.Fin) (ha:Ha n) (hl:LineW l):PutP (putFlood n l):=by
 unfold putFlood
 split
 ·exact Bh _
 rename_i h
 have:=Uc h
 dsimp only
 split
 ·exact Bh _
 split
 ·exact Bh _
 split
 ·exact Bh _
 split
 ·exact Bh _
 refine J4 { hn with floods:=Dp (by rw[List.length_append,List.length_singleton];omega),addrs:=fun p hp=>?_ } ha
 rcases List.mem_append.1 hp with hp | hp
 ·exact hn.addrs p hp
 ·rw[List.mem_singleton.1 hp];exact Dp hl.fin.a
theorem Ahh {n:Net} {l:LineM} (hn:n.Fin) (ha:Ha n) (hl:LineW l):PutP (putVrf n l):=by
 unfold putVrf
 split
 ·exact Bh _
 rename_i h
 have:=Uc h
 dsimp only
 split
 ·exact Bh _
 split
 ·exact Bh _
 refine J4 { hn with vrfs:=Dp (by rw[List.length_append,List.length_singleton];omega),imports:=fun p hp=>?_,exports:=fun p hp=>?_ } ha
 ·rcases List.mem_append.1 hp with hp | hp
  ·exact hn.imports p hp
  ·rw[List.mem_singleton.1 hp];exact Dp hl.fin.i
 ·rcases List.mem_append.1 hp with hp | hp
  ·exact hn.exports p hp
  ·rw[List.mem_singleton.1 hp];exact Dp hl.fin.e
theorem Ahj {n:Net} {l:LineM} (hn:n.Fin) (ha:Ha n) (hl:LineW l):PutP (putIrb n l):=by
 unfold putIrb
 split
 ·exact Bh _
 rename_i h
 have:=Uc h
 dsimp only
 split
 ·exact Bh _
 split
 ·exact Bh _
 split
 ·exact Bh _
 refine J4 { hn with domains:=Dp (by simp only[List.length_set];omega),peers:=fun d hd=>Ajn hd (fun hi=>show At (nth n.domains _).peers from hn.peers _ (Ahr hi)) hn.peers,irbs:=Dp (by rw[List.length_append,List.length_singleton];omega) } fun x hx=>?_
 rcases List.mem_append.1 hx with hx | hx
 ·exact ha x hx
 ·rw[List.mem_singleton.1 hx];exact hl.ok.addr
theorem Aa9 {n:Net} {l:LineM} (hn:n.Fin) (ha:Ha n) (hl:LineW l):PutP (putT n l):=by
 unfold putT
 split
 ·exact Y7 hn ha
 split
 ·exact Ady hn ha hl
 split
 ·exact Adz hn ha
 split
 ·exact Y6 hn ha
 split
 ·exact Adx hn ha
 split
 ·exact Ahi hn ha
 split
 ·exact Aba hn ha hl
 split
 ·exact Ahh hn ha hl
 split
 ·exact Ahj hn ha hl
 exact Bh _
theorem Qc {n:Net} (hn:n.Fin):(meshNT n).1.Fin:=by
 unfold meshNT
 split
 ·exact Hf
 rename_i h
 have h:Ah n=true:=by simpa using h
 split
 ·exact Hf
 split
 ·exact Hf
 exact Sj hn h
end Go.Sy.YtjenpnjajjplkaaGreatDoor
namespace Go.Sy.YtjenpnjajjplkaaGreatDoor
open Go.Proofs
attribute [local irreducible] Go.Sy.G Go.Sy.DR
set_option maxRecDepth 100000
set_option maxHeartbeats 4000000
def Hn (l:LineM):Prop:=Sy.Spec Tryz.prog 292 [Al l] [] (Ab (B1 l)) []
theorem Kh (n:Net) (hn:n.Fin) (l:LineM) (hR:Hn l) (k:Int):Sy.Spec Tryz.prog 210 [Aj n,Al l,Aa k] [] (Ab (fitsB n l k)) []:=cT F210 Tryz.ntmps210 fun F hF=>by
 have q1:Sy.Spec Tryz.prog 292 [Al l] [] (Ab (B1 l)) []:=hR
 have q2:=M6 n hn
 have hf:=fitsB.eq_1 n l k
 cases h1:(l.kind == k) with
 | false =>
  rw[h1]at hf
  rw[hf]
  refine T ?_
  exact D
 | true =>
 rw[h1]at hf
 generalize B1 l=r1 at *
 generalize Ah n=r2 at *
 rw[hf]
 cases r1 with
 | false =>
  refine T ?_
  refine C q1 F292 ?_
  refine T ?_
  exact D
 | true =>
  refine T ?_
  refine C q1 F292 ?_
  refine T ?_
  refine C q2 F135 ?_
  refine T ?_
  exact D
theorem Ag3 (n:Net) (hn:n.Fin) (l:LineM) (hl:LineW l) (hR:Hn l):Sy.Spec Tryz.prog 126 [Aj n,Al l] [] (.tup [Aj (putDevice n l).1,Aa (putDevice n l).2]) []:=cT F126 Tryz.ntmps126 fun F hF=>by
 have q1:=Kh n hn l hR 1
 have qcopy:=Hp n hn
 have hres:=putDevice.eq_1 n l
 generalize putDevice n l=res at *
 have hd:n.devices.length<2147483648:=hn.devices
 cases hf:fitsB n l 1 with
 | false =>
  rw[hf]at q1
  rw[hf,if_pos rfl]at hres
  subst hres
  refine T ?_
  refine C q1 F210 ?_
  refine T ?_
  refine Ag 4 (Bj emptyN) Y (.cons .nil (.cons .nil (.cons .nil (.cons .nil (.cons .nil (.cons .nil (.cons .nil (.cons .nil .nil)))))))) ?_
  exact D
 | true =>
 rw[hf]at q1
 rw[hf,if_neg qe]at hres
 refine T ?_
 refine C q1 F210 ?_
 refine T ?_
 refine A6 2 8 (Aj n) Y Y Y ?_
 refine A6 3 17 (Al l) Y Y Y ?_
 refine Au (fun j:Nat=>j≤n.devices.length∧Da (fun _ (d:Device)=>!(d.name == l.dev || d.mac == l.mac)) n.devices j) (fun j=>[(2,.ref 8 (Aj n) 0),(3,.ref 17 (Al l) 0),(4,.ptr 4 0),(6,Aa j)]) (fun _=>[(4,.box [.val (.slice none 0 0),.val (.slice none 0 0),.val (.slice none 0 0),.val (.slice none 0 0),.val (.slice none 0 0),.val (.slice none 0 0),.val (.slice none 0 0),.val (.slice none 0 0)])]) (fun j=>n.devices.length-j) 0 [] ⟨by omega,Av _ _⟩ U ?_
 rintro j ⟨hj,hI⟩
 refine T ?_
 refine⟨fun h=>?_,fun h=>?_⟩
 ·have hlt:j<n.devices.length:=qA h
  have hj0:((j:Nat):Int).toNat<n.devices.length:=hlt
  clear h
  cases e0:((n.devices[((j:Nat):Int).toNat]'hj0).name == l.dev) with
  | true =>
   have ha:n.devices.any (fun d=>d.name == l.dev || d.mac == l.mac)=true:=List.any_eq_true.2 ⟨_,List.getElem_mem hj0,by rw[e0];rfl⟩
   rw[if_pos ha]at hres
   subst hres
   refine T ?_
   refine Ag 4 (Bj emptyN) Y (.cons .nil (.cons .nil (.cons .nil (.cons .nil (.cons .nil (.cons .nil (.cons .nil (.cons .nil .nil)))))))) ?_
   exact D
  | false =>
  cases e1:((n.devices[((j:Nat):Int).toNat]'hj0).mac == l.mac) with
  | true =>
   have ha:n.devices.any (fun d=>d.name == l.dev || d.mac == l.mac)=true:=List.any_eq_true.2 ⟨_,List.getElem_mem hj0,by rw[e0,e1];rfl⟩
   rw[if_pos ha]at hres
   subst hres
   refine T ?_
   refine Ag 4 (Bj emptyN) Y (.cons .nil (.cons .nil (.cons .nil (.cons .nil (.cons .nil (.cons .nil (.cons .nil (.cons .nil .nil)))))))) ?_
   exact D
  | false =>
   refine T ?_
   exact Ae (j+1) [] ⟨hlt,Aq hI hlt (by have g0:(n.devices[j].name == l.dev)=false:=e0;have g1:(n.devices[j].mac == l.mac)=false:=e1;rw[g0,g1];rfl)⟩ z_ U
 ·have hje:j=n.devices.length:=qB h
  clear h
  have ha:¬ n.devices.any (fun d=>d.name == l.dev || d.mac == l.mac)=true:=by
   rw[List.any_eq_true]
   rintro ⟨d,hd1,hd2⟩
   obtain ⟨i,hi,rfl⟩:=List.mem_iff_getElem.1 hd1
   have:=Dv hI i hi z_
   rw[this]at hd2
   cases hd2
  rw[if_neg ha]at hres
  have h8:=(Et (show ¬ fitsB n l 1=false by rw[hf];decide)).1
  by_cases h5:n.devices.length=8
  ·have g5:decide ((n.devices.length:Int)≥8)=true:=decide_eq_true z_
   rw[if_pos h5]at hres
   subst hres
   refine T ?_
   refine Ag 4 (Bj emptyN) Y (.cons .nil (.cons .nil (.cons .nil (.cons .nil (.cons .nil (.cons .nil (.cons .nil (.cons .nil .nil)))))))) ?_
   exact D
  have g5:decide ((n.devices.length:Int)≥8)=false:=decide_eq_false z_
  rw[if_neg h5]at hres
  subst hres
  refine T ?_
  refine X (Af [(0,901),(1,902),(2,903),(3,904),(4,905),(5,906),(6,907),(7,908)] Y F137 qcopy Y W Y V) ?_
  refine T ?_
  refine X (Ak Γ.toTy 60 Y Y Y Y Y (.row Y) (.lit (e:=Az) (l:=[(⟨l.row,l.num,l.dev,l.mac,0⟩:Device)]) Y Y) y_ (by simp only[List.length_singleton];omega) (by simp only[List.length_singleton];omega)) ?_
  refine T ?_
  refine Ac 60 Y ?_
  refine Ac 902 Y ?_
  refine Ac 903 Y ?_
  refine Ac 904 Y ?_
  refine Ac 905 Y ?_
  refine Ac 906 Y ?_
  refine Ac 907 Y ?_
  refine Ac 908 Y ?_
  exact D
theorem Aeu {α:Type} {p:α→Bool} {l:List α}:Dl p l<0↔l.any p=false:=by
 have h:=Km p l
 cases hb:l.any p with
 | true=>rw[hb]at h;have:=of_decide_eq_true h;exact⟨fun h1=>by omega,fun h1=>by cases h1⟩
 | false=>rw[hb]at h;have:=of_decide_eq_false h;exact⟨fun _=>rfl,fun _=>by omega⟩
theorem Am7 (n:Net) (hn:n.Fin) (l:LineM) (hl:LineW l) (hR:Hn l):Sy.Spec Tryz.prog 127 [Aj n,Al l] [] (.tup [Aj (putPort n l).1,Aa (putPort n l).2]) []:=cT F127 Tryz.ntmps127 fun F hF=>by
 have q1:=Kh n hn l hR 2
 have qcopy:=Hp n hn
 have qd:=I5 n l.dev hn.devices
 have qp:=Xk n (Cn n l.dev) l.port hn.ports
 have hres:=putPort.eq_1 n l
 generalize putPort n l=res at *
 have hd:n.ports.length<2147483648:=hn.ports
 have hdd:n.domains.length<2147483648:=hn.domains
 have htl:l.tagged.length≤100000:=hl.fin.t
 cases hf:fitsB n l 2 with
 | false =>
  rw[hf]at q1
  rw[hf,if_pos rfl]at hres
  subst hres
  refine T ?_
  refine C q1 F210 ?_
  refine T ?_
  refine Ag 4 (Bj emptyN) Y (.cons .nil (.cons .nil (.cons .nil (.cons .nil (.cons .nil (.cons .nil (.cons .nil (.cons .nil .nil)))))))) ?_
  exact D
 | true =>
 rw[hf]at q1
 rw[hf,if_neg qe]at hres
 have hfew:=Et (show ¬ fitsB n l 2=false by rw[hf];decide)
 by_cases h1:Cn n l.dev<0
 ·have g1:decide (Cn n l.dev<0)=true:=decide_eq_true h1
  rw[if_pos h1]at hres
  subst hres
  generalize Cn n l.dev=dev at *
  refine T ?_
  refine C q1 F210 ?_
  refine T ?_
  refine C qd F211 ?_
  refine T ?_
  refine Ag 4 (Bj emptyN) Y (.cons .nil (.cons .nil (.cons .nil (.cons .nil (.cons .nil (.cons .nil (.cons .nil (.cons .nil .nil)))))))) ?_
  exact D
 have g1:decide (Cn n l.dev<0)=false:=decide_eq_false h1
 rw[if_neg h1]at hres
 by_cases h2:0≤K5 n (Cn n l.dev) l.port
 ·have g2:decide (K5 n (Cn n l.dev) l.port≥0)=true:=decide_eq_true h2
  rw[if_pos h2]at hres
  subst hres
  generalize K5 n (Cn n l.dev) l.port=prt at *
  generalize Cn n l.dev=dev at *
  refine T ?_
  refine C q1 F210 ?_
  refine T ?_
  refine C qd F211 ?_
  refine T ?_
  refine C qp F212 ?_
  refine T ?_
  refine Ag 4 (Bj emptyN) Y (.cons .nil (.cons .nil (.cons .nil (.cons .nil (.cons .nil (.cons .nil (.cons .nil (.cons .nil .nil)))))))) ?_
  exact D
 have g2:decide (K5 n (Cn n l.dev) l.port≥0)=false:=decide_eq_false z_
 rw[if_neg h2]at hres
 generalize K5 n (Cn n l.dev) l.port=prt at *
 generalize Cn n l.dev=dev at *
 refine T ?_
 refine C q1 F210 ?_
 refine T ?_
 refine C qd F211 ?_
 refine T ?_
 refine C qp F212 ?_
 refine T ?_
 refine X (Af [(0,901),(1,902),(2,903),(3,904),(4,905),(5,906),(6,907),(7,908)] Y F137 qcopy Y W Y V) ?_
 refine T ?_
 refine Xd (He Γ.toTy 45 Y Y Y Y Y Y Y Y y_ z_ z_) ?_
 refine T ?_
 refine Xd (Ak Γ.toTy 48 Y Y Y Y Y (.row Y) (.lit (e:=Bb) (l:=[(⟨l.row,dev,l.vlan,l.cost,-1,l.port,l.tagged⟩:Port)]) Y Y) y_ (by simp only[List.length_singleton];omega) (by simp only[List.length_singleton];omega)) ?_
 refine T ?_
 refine X (Ak Γ.toTy 55 rfl rfl rfl rfl rfl (.lit (e:=Aa) (l:=[l.vlan]) rfl rfl) .sl (by intro k hk;cases hk;decide) (by simp only[List.length_singleton];omega) (by simp only[List.length_singleton];omega)) ?_
 refine T ?_
 refine A6 3 17 (Al l) Y Y Y ?_
 have hal:(l.vlan::l.tagged).length≤100001:=by rw[List.length_cons];omega
 refine Au (fun j:Nat=>j≤(l.vlan::l.tagged).length) (fun j=>[(4,.ptr 4 0),(6,Aa dev),(7,.ptr 7 0),(8,.osl 1055),(9,Aa j)]) (fun j=>[(4,.box [.val (.slice none 0 0),.val (.slice none 0 0),.val (.slice none 0 0),.val (.slice none 0 0),.val (.slice none 0 0),.val (.slice none 0 0),.val (.slice none 0 0),.val (.slice none 0 0)]),(7,.box [.osl 901,.osl 1002,.osl 903,.osl 1004,.osl 905,.osl 906,.osl 907,.osl 908]),(901,.row 5 Az n.devices),(1002,.row 7 Bb (n.ports++[(⟨l.row,dev,l.vlan,l.cost,-1,l.port,l.tagged⟩:Port)])),(903,.row 3 B2 n.links),(1004,.row 6 Am (Ay dev n.domains ((l.vlan::l.tagged).take j))),(905,.row 4 A8 n.statics),(906,.row 4 A4 n.floods),(907,.row 5 Cd n.vrfs),(908,.row 5 Cf n.irbs),(1055,.row 1 Aa (l.vlan::l.tagged))]) (fun j=>(l.vlan::l.tagged).length-j) 0 [(1002,48),(1004,904),(1055,55)] z_ U ?_
 intro j hj
 have hDl:(Ay dev n.domains ((l.vlan::l.tagged).take j)).length≤n.domains.length+j:=by
  have:=Mk dev ((l.vlan::l.tagged).take j) n.domains
  rw[List.length_take]at this
  omega
 refine T ?_
 refine⟨fun h=>?_,fun h=>?_⟩
 ·have hlt:j<(l.vlan::l.tagged).length:=qA h
  have hj0:((j:Nat):Int).toNat<(l.vlan::l.tagged).length:=hlt
  clear h
  have hnx:Ay dev n.domains ((l.vlan::l.tagged).take (j+1))=C8 dev (Ay dev n.domains ((l.vlan::l.tagged).take j)) ((l.vlan::l.tagged)[((j:Nat):Int).toNat]'hj0):=by
   rw[List.take_succ_eq_append_getElem hlt,Mj];rfl
  by_cases hv:(l.vlan::l.tagged)[((j:Nat):Int).toNat]'hj0>0
  ·have gv:decide ((l.vlan::l.tagged)[((j:Nat):Int).toNat]'hj0>0)=true:=decide_eq_true hv
   have qa:=Je { n with ports:=n.ports++[(⟨l.row,dev,l.vlan,l.cost,-1,l.port,l.tagged⟩:Port)],domains:=Ay dev n.domains ((l.vlan::l.tagged).take j) } dev ((l.vlan::l.tagged)[((j:Nat):Int).toNat]'hj0) (show (Ay dev n.domains ((l.vlan::l.tagged).take j)).length<2147483648 by omega)
   cases hany:(Ay dev n.domains ((l.vlan::l.tagged).take j)).any (fun d=>d.dev == dev && d.vlan == (l.vlan::l.tagged)[((j:Nat):Int).toNat]'hj0) with
   | true =>
    have hz:C8 dev (Ay dev n.domains ((l.vlan::l.tagged).take j)) ((l.vlan::l.tagged)[((j:Nat):Int).toNat]'hj0)=Ay dev n.domains ((l.vlan::l.tagged).take j):=by rw[C8,if_neg (by rw[hany];simp)]
    rw[hz]at hnx
    have ga:decide (Ds { n with ports:=n.ports++[(⟨l.row,dev,l.vlan,l.cost,-1,l.port,l.tagged⟩:Port)],domains:=Ay dev n.domains ((l.vlan::l.tagged).take j) } dev ((l.vlan::l.tagged)[((j:Nat):Int).toNat]'hj0)<0)=false:=decide_eq_false (by have:=(Aeu (p:=fun d:Domain=>d.dev == dev && d.vlan == (l.vlan::l.tagged)[((j:Nat):Int).toNat]'hj0) (l:=Ay dev n.domains ((l.vlan::l.tagged).take j))).1;intro h0;have:=this h0;rw[hany]at this;cases this)
    refine T ?_
    refine Xd (Bu [901,1002,903,1004,905,906,907,908] Y F213 qa (.cons (.agg (.cons (.row Y Y) (.cons (.row Y Y) (.cons (.row Y Y) (.cons (.row Y Y) (.cons (.row Y Y) (.cons (.row Y Y) (.cons (.row Y Y) (.cons (.row Y Y) .nil))))))))) (.cons (.refl _) (.cons (.refl _) .nil))) Y Y) ?_
    refine T ?_
    exact Ae (j+1) [] hlt z_ ⟨⟨Y,Y,Y,Y,Y,Y,Y,Y,Y,Y,q_⟩,⟨.inl Y,Y,.inl Y,Y,.inl Y,Y,.inl Y,Y,.inl Y,Y,.inl (congrArg (Ob.row 6 Am) hnx),Y,.inl Y,Y,.inl Y,Y,.inl Y,Y,.inl Y,Y,.inl Y,Y,q_⟩,Y,Y⟩
   | false =>
    have hz:C8 dev (Ay dev n.domains ((l.vlan::l.tagged).take j)) ((l.vlan::l.tagged)[((j:Nat):Int).toNat]'hj0)=Ay dev n.domains ((l.vlan::l.tagged).take j)++[(⟨dev,(l.vlan::l.tagged)[((j:Nat):Int).toNat]'hj0,0,-1,0,[]⟩:Domain)]:=by rw[C8,if_pos ⟨hv,hany⟩]
    rw[hz]at hnx
    have ga:decide (Ds { n with ports:=n.ports++[(⟨l.row,dev,l.vlan,l.cost,-1,l.port,l.tagged⟩:Port)],domains:=Ay dev n.domains ((l.vlan::l.tagged).take j) } dev ((l.vlan::l.tagged)[((j:Nat):Int).toNat]'hj0)<0)=true:=decide_eq_true ((Aeu (p:=fun d:Domain=>d.dev == dev && d.vlan == (l.vlan::l.tagged)[((j:Nat):Int).toNat]'hj0) (l:=Ay dev n.domains ((l.vlan::l.tagged).take j))).2 hany)
    refine T ?_
    refine Xd (Bu [901,1002,903,1004,905,906,907,908] Y F213 qa (.cons (.agg (.cons (.row Y Y) (.cons (.row Y Y) (.cons (.row Y Y) (.cons (.row Y Y) (.cons (.row Y Y) (.cons (.row Y Y) (.cons (.row Y Y) (.cons (.row Y Y) .nil))))))))) (.cons (.refl _) (.cons (.refl _) .nil))) Y Y) ?_
    refine T ?_
    refine Xd (Q3 Γ.toTy 86 85 ((⟨dev,(l.vlan::l.tagged)[((j:Nat):Int).toNat]'hj0,0,-1,0,[]⟩:Domain)) rfl rfl rfl rfl rfl (.row rfl) rfl rfl (fun M w u hu=>Aaj _ rfl hu) (by intro k hk;cases hk;decide) z_ z_) ?_
    refine T ?_
    exact Ae (j+1) [(1004,86)] hlt z_ ⟨⟨Y,Y,Y,Y,Y,Y,Y,Y,Y,Y,q_⟩,⟨.inl Y,Y,.inl Y,Y,.inl Y,Y,.inl Y,Y,.inl Y,Y,.inl (congrArg (Ob.row 6 Am) hnx),Y,.inl Y,Y,.inl Y,Y,.inl Y,Y,.inl Y,Y,.inl Y,Y,q_⟩,Y,Y⟩
  ·have gv:decide ((l.vlan::l.tagged)[((j:Nat):Int).toNat]'hj0>0)=false:=decide_eq_false hv
   have hz:C8 dev (Ay dev n.domains ((l.vlan::l.tagged).take j)) ((l.vlan::l.tagged)[((j:Nat):Int).toNat]'hj0)=Ay dev n.domains ((l.vlan::l.tagged).take j):=by rw[C8,if_neg (fun hh=>hv hh.1)]
   rw[hz]at hnx
   refine T ?_
   exact Ae (j+1) [] hlt z_ ⟨⟨Y,Y,Y,Y,Y,Y,Y,Y,Y,Y,q_⟩,⟨.inl Y,Y,.inl Y,Y,.inl Y,Y,.inl Y,Y,.inl Y,Y,.inl (congrArg (Ob.row 6 Am) hnx),Y,.inl Y,Y,.inl Y,Y,.inl Y,Y,.inl Y,Y,.inl Y,Y,q_⟩,Y,Y⟩
 ·have hje:j=(l.vlan::l.tagged).length:=qB h
  clear h
  subst hje
  rw[List.take_length]at *
  have hpl:(n.ports++[(⟨l.row,dev,l.vlan,l.cost,-1,l.port,l.tagged⟩:Port)]).length=n.ports.length+1:=by rw[List.length_append,List.length_singleton]
  by_cases h5:n.ports.length=40
  ·have g5:decide (((n.ports++[(⟨l.row,dev,l.vlan,l.cost,-1,l.port,l.tagged⟩:Port)]).length:Int)>40)=true:=decide_eq_true z_
   rw[if_pos h5]at hres
   subst hres
   refine T ?_
   refine Ag 4 (Bj emptyN) Y (.cons .nil (.cons .nil (.cons .nil (.cons .nil (.cons .nil (.cons .nil (.cons .nil (.cons .nil .nil)))))))) ?_
   exact D
  have g5:decide (((n.ports++[(⟨l.row,dev,l.vlan,l.cost,-1,l.port,l.tagged⟩:Port)]).length:Int)>40)=false:=decide_eq_false z_
  rw[if_neg h5]at hres
  by_cases h6:48<(Ay dev n.domains (l.vlan::l.tagged)).length
  ·have g6:decide (((Ay dev n.domains (l.vlan::l.tagged)).length:Int)>48)=true:=decide_eq_true z_
   rw[if_pos h6]at hres
   subst hres
   refine T ?_
   refine Ag 4 (Bj emptyN) Y (.cons .nil (.cons .nil (.cons .nil (.cons .nil (.cons .nil (.cons .nil (.cons .nil (.cons .nil .nil)))))))) ?_
   exact D
  have g6:decide (((Ay dev n.domains (l.vlan::l.tagged)).length:Int)>48)=false:=decide_eq_false z_
  rw[if_neg h6]at hres
  subst hres
  refine T ?_
  refine Ac 901 Y ?_
  refine Ac 1002 Y ?_
  refine Ac 903 Y ?_
  refine Ac 1004 Y ?_
  refine Ac 905 Y ?_
  refine Ac 906 Y ?_
  refine Ac 907 Y ?_
  refine Ac 908 Y ?_
  exact D
theorem Ai6 (n:Net) (hn:n.Fin) (dev port:ByteArray):Sy.Spec Tryz.prog 214 [Aj n,Ad dev,Ad port] [] (Aa (endI n dev port)) []:=cT F214 Tryz.ntmps214 fun F hF=>by
 have q1:=I5 n dev hn.devices
 have q2:=Xk n (Cn n dev) port hn.ports
 have hres:=endI.eq_1 n dev port
 generalize endI n dev port=res at *
 generalize K5 n (Cn n dev) port=pt at *
 generalize Cn n dev=d at *
 by_cases h:d<0
 ·have g:decide (d<0)=true:=decide_eq_true h
  rw[if_pos h]at hres
  subst hres
  refine T ?_
  refine C q1 F211 ?_
  refine T ?_
  exact D
 ·have g:decide (d<0)=false:=decide_eq_false h
  rw[if_neg h]at hres
  subst hres
  refine T ?_
  refine C q1 F211 ?_
  refine T ?_
  refine C q2 F212 ?_
  exact D
theorem X1 {n:Net} (hr:Ah n=true) {i:Nat} (hi:i<n.ports.length):(n.ports[i].link=-1)∨0≤n.ports[i].link:=by
 have hp:=Ab8 hr hi
 simp only[Jg,Bool.and_eq_true,Bool.or_eq_true,beq_iff_eq,Ap,decide_eq_true_eq]at hp
 rcases hp.2 with h | h
 ·exact .inl h
 ·exact .inr h.1.1
theorem Ap0 (n:Net) (hn:n.Fin) (l:LineM) (hl:LineW l) (hR:Hn l):Sy.Spec Tryz.prog 128 [Aj n,Al l] [] (.tup [Aj (putLink n l).1,Aa (putLink n l).2]) []:=cT F128 Tryz.ntmps128 fun F hF=>by
 have q1:=Kh n hn l hR 3
 have qcopy:=Hp n hn
 have qa:=Ai6 n hn l.dev l.port
 have qb:=Ai6 n hn l.peer l.far
 have ra:=@end_range n l.dev l.port
 have rb:=@end_range n l.peer l.far
 have hfl:n.links.length<2147483648:=hn.links
 have hres:=putLink.eq_1 n l
 dsimp only at hres
 generalize putLink n l=res at *
 cases hf:fitsB n l 3 with
 | false =>
  rw[hf]at q1
  rw[hf,if_pos rfl]at hres
  subst hres
  refine T ?_
  refine C q1 F210 ?_
  refine T ?_
  refine Ag 4 (Bj emptyN) Y (.cons .nil (.cons .nil (.cons .nil (.cons .nil (.cons .nil (.cons .nil (.cons .nil (.cons .nil .nil)))))))) ?_
  exact D
 | true =>
 rw[hf]at q1
 rw[hf,if_neg qe]at hres
 have hfew:=Et (show ¬ fitsB n l 3=false by rw[hf];decide)
 have hr:Ah n=true:=by
  rw[fitsB,Bool.and_eq_true,Bool.and_eq_true]at hf
  exact hf.2.2
 generalize endI n l.dev l.port=a at *
 generalize endI n l.peer l.far=b at *
 by_cases ka:a<0
 ·have g1:decide (a<0)=true:=decide_eq_true ka
  rw[if_pos (.inl ka)]at hres
  subst hres
  refine T ?_
  refine C q1 F210 ?_
  refine T ?_
  refine C qa F214 ?_
  refine T ?_
  refine C qb F214 ?_
  refine T ?_
  refine Ag 4 (Bj emptyN) Y (.cons .nil (.cons .nil (.cons .nil (.cons .nil (.cons .nil (.cons .nil (.cons .nil (.cons .nil .nil)))))))) ?_
  exact D
 have g1:decide (a<0)=false:=decide_eq_false ka
 by_cases kb:b<0
 ·have g2:decide (b<0)=true:=decide_eq_true kb
  rw[if_pos (.inr kb)]at hres
  subst hres
  refine T ?_
  refine C q1 F210 ?_
  refine T ?_
  refine C qa F214 ?_
  refine T ?_
  refine C qb F214 ?_
  refine T ?_
  refine Ag 4 (Bj emptyN) Y (.cons .nil (.cons .nil (.cons .nil (.cons .nil (.cons .nil (.cons .nil (.cons .nil (.cons .nil .nil)))))))) ?_
  exact D
 have g2:decide (b<0)=false:=decide_eq_false kb
 rw[if_neg (fun h=>h.elim ka kb)]at hres
 obtain ⟨a,rfl,hal⟩:=ra ka
 obtain ⟨b,rfl,hbl⟩:=rb kb
 clear ra rb
 have ha0:((a:Nat):Int).toNat<n.ports.length:=hal
 have hb0:((b:Nat):Int).toNat<n.ports.length:=hbl
 have hna:nth n.ports (a:Int)=n.ports[((a:Nat):Int).toNat]'ha0:=As ha0
 have hnb:nth n.ports (b:Int)=n.ports[((b:Nat):Int).toNat]'hb0:=As hb0
 have la:(n.ports[((a:Nat):Int).toNat]'ha0).link=-1∨0≤(n.ports[((a:Nat):Int).toNat]'ha0).link:=X1 hr hal
 have lb:(n.ports[((b:Nat):Int).toNat]'hb0).link=-1∨0≤(n.ports[((b:Nat):Int).toNat]'hb0).link:=X1 hr hbl
 rw[hna,hnb]at hres
 by_cases k1:(n.ports[((a:Nat):Int).toNat]'ha0).dev=(n.ports[((b:Nat):Int).toNat]'hb0).dev
 ·have g3:((n.ports[((a:Nat):Int).toNat]'ha0).dev == (n.ports[((b:Nat):Int).toNat]'hb0).dev)=true:=by rw[beq_iff_eq];exact k1
  rw[if_pos (.inl k1)]at hres
  subst hres
  refine T ?_
  refine C q1 F210 ?_
  refine T ?_
  refine C qa F214 ?_
  refine T ?_
  refine C qb F214 ?_
  refine T ?_
  refine Ag 4 (Bj emptyN) Y (.cons .nil (.cons .nil (.cons .nil (.cons .nil (.cons .nil (.cons .nil (.cons .nil (.cons .nil .nil)))))))) ?_
  exact D
 have g3:((n.ports[((a:Nat):Int).toNat]'ha0).dev == (n.ports[((b:Nat):Int).toNat]'hb0).dev)=false:=by rw[beq_eq_false_iff_ne];exact k1
 by_cases k2:0≤(n.ports[((a:Nat):Int).toNat]'ha0).link
 ·have g4:((n.ports[((a:Nat):Int).toNat]'ha0).link != -1)=true:=by rw[bne_iff_ne];omega
  rw[if_pos (.inr (.inl k2))]at hres
  subst hres
  refine T ?_
  refine C q1 F210 ?_
  refine T ?_
  refine C qa F214 ?_
  refine T ?_
  refine C qb F214 ?_
  refine T ?_
  refine Ag 4 (Bj emptyN) Y (.cons .nil (.cons .nil (.cons .nil (.cons .nil (.cons .nil (.cons .nil (.cons .nil (.cons .nil .nil)))))))) ?_
  exact D
 have g4:((n.ports[((a:Nat):Int).toNat]'ha0).link != -1)=false:=by rw[bne_eq_false_iff_eq];omega
 by_cases k3:0≤(n.ports[((b:Nat):Int).toNat]'hb0).link
 ·have g5:((n.ports[((b:Nat):Int).toNat]'hb0).link != -1)=true:=by rw[bne_iff_ne];omega
  rw[if_pos (.inr (.inr k3))]at hres
  subst hres
  refine T ?_
  refine C q1 F210 ?_
  refine T ?_
  refine C qa F214 ?_
  refine T ?_
  refine C qb F214 ?_
  refine T ?_
  refine Ag 4 (Bj emptyN) Y (.cons .nil (.cons .nil (.cons .nil (.cons .nil (.cons .nil (.cons .nil (.cons .nil (.cons .nil .nil)))))))) ?_
  exact D
 have g5:((n.ports[((b:Nat):Int).toNat]'hb0).link != -1)=false:=by rw[bne_eq_false_iff_eq];omega
 rw[if_neg (by rintro (h | h | h);exact k1 h;exact k2 h;exact k3 h)]at hres
 by_cases k4:n.links.length=20
 ·have g6:decide ((n.links.length:Int)≥20)=true:=decide_eq_true z_
  rw[if_pos k4]at hres
  subst hres
  refine T ?_
  refine C q1 F210 ?_
  refine T ?_
  refine C qa F214 ?_
  refine T ?_
  refine C qb F214 ?_
  refine T ?_
  refine Ag 4 (Bj emptyN) Y (.cons .nil (.cons .nil (.cons .nil (.cons .nil (.cons .nil (.cons .nil (.cons .nil (.cons .nil .nil)))))))) ?_
  exact D
 have g6:decide ((n.links.length:Int)≥20)=false:=decide_eq_false z_
 rw[if_neg k4]at hres
 have t1:K4 n.ports (a:Int) (n.links.length:Int)=n.ports.set ((a:Nat):Int).toNat (⟨(n.ports[((a:Nat):Int).toNat]'ha0).row,(n.ports[((a:Nat):Int).toNat]'ha0).dev,(n.ports[((a:Nat):Int).toNat]'ha0).native,(n.ports[((a:Nat):Int).toNat]'ha0).cost,(n.links.length:Int),(n.ports[((a:Nat):Int).toNat]'ha0).name,(n.ports[((a:Nat):Int).toNat]'ha0).tagged⟩:Port):=by rw[K4,hna]
 have l1:(K4 n.ports (a:Int) (n.links.length:Int)).length=n.ports.length:=by rw[K4,List.length_set]
 have hne:n.ports≠[]:=fun e=>by rw[e]at hal;cases hal
 obtain ⟨P1,hP1⟩:∃ P1,K4 n.ports (a:Int) (n.links.length:Int)=P1:=⟨_,rfl⟩
 rw[hP1]at hres t1 l1
 have hb1:((b:Nat):Int).toNat<P1.length:=by rw[l1];exact hb0
 have hn1:nth P1 (b:Int)=P1[((b:Nat):Int).toNat]'hb1:=As hb1
 have hne1:P1≠[]:=fun e=>by rw[e]at hb1;cases hb1
 have t2:K4 P1 (b:Int) (n.links.length:Int)=P1.set ((b:Nat):Int).toNat (⟨(P1[((b:Nat):Int).toNat]'hb1).row,(P1[((b:Nat):Int).toNat]'hb1).dev,(P1[((b:Nat):Int).toNat]'hb1).native,(P1[((b:Nat):Int).toNat]'hb1).cost,(n.links.length:Int),(P1[((b:Nat):Int).toNat]'hb1).name,(P1[((b:Nat):Int).toNat]'hb1).tagged⟩:Port):=by rw[K4,hn1]
 obtain ⟨P2,hP2⟩:∃ P2,K4 P1 (b:Int) (n.links.length:Int)=P2:=⟨_,rfl⟩
 rw[hP2]at hres t2
 subst hres
 refine T ?_
 refine C q1 F210 ?_
 refine T ?_
 refine C qa F214 ?_
 refine T ?_
 refine C qb F214 ?_
 refine T ?_
 refine X (Af [(0,901),(1,902),(2,903),(3,904),(4,905),(5,906),(6,907),(7,908)] Y F137 qcopy Y W Y V) ?_
 refine T ?_
 refine⟨hne,?_⟩
 refine T ?_
 refine⟨(⟨(n.ports[((a:Nat):Int).toNat]'ha0).row,(n.ports[((a:Nat):Int).toNat]'ha0).dev,(n.ports[((a:Nat):Int).toNat]'ha0).native,(n.ports[((a:Nat):Int).toNat]'ha0).cost,(n.links.length:Int),(n.ports[((a:Nat):Int).toNat]'ha0).name,(n.ports[((a:Nat):Int).toNat]'ha0).tagged⟩:Port),Y,Y,?_⟩
 rw[← t1]
 refine T ?_
 refine⟨hne1,?_⟩
 refine T ?_
 refine⟨(⟨(P1[((b:Nat):Int).toNat]'hb1).row,(P1[((b:Nat):Int).toNat]'hb1).dev,(P1[((b:Nat):Int).toNat]'hb1).native,(P1[((b:Nat):Int).toNat]'hb1).cost,(n.links.length:Int),(P1[((b:Nat):Int).toNat]'hb1).name,(P1[((b:Nat):Int).toNat]'hb1).tagged⟩:Port),Y,Y,?_⟩
 rw[← t2]
 refine T ?_
 refine X (Ak Γ.toTy 96 Y Y Y Y Y (.row Y) (.lit (e:=B2) (l:=[(⟨l.row,(a:Int),(b:Int)⟩:Link)]) Y Y) y_ (by simp only[List.length_singleton];omega) (by simp only[List.length_singleton];omega)) ?_
 refine T ?_
 refine Ac 901 Y ?_
 refine Ac 902 Y ?_
 refine Ac 96 Y ?_
 refine Ac 904 Y ?_
 refine Ac 905 Y ?_
 refine Ac 906 Y ?_
 refine Ac 907 Y ?_
 refine Ac 908 Y ?_
 exact D
def Z6 (n:Net) (d mac:Int):Int:=if Jb n d mac<0 then -1 else (nth n.statics (Jb n d mac)).port
theorem Ag2 (n:Net) (d mac:Int) (hl:At n.statics):Sy.Spec Tryz.prog 216 [Aj n,Aa d,B4 mac] [] (Aa (Z6 n d mac)) []:=cT F216 Tryz.ntmps216 fun F hF=>by
 unfold At at hl
 refine T ?_
 refine A6 3 8 (Aj n) Y Y Y ?_
 refine Au (fun j:Nat=>j≤n.statics.length∧Da (fun _ (x:Static)=>!(x.domain == d && x.mac == mac)) n.statics j) (fun j=>[(1,Aa d),(2,B4 mac),(3,.ref 8 (Aj n) 0),(7,Aa j)]) (fun _=>[]) (fun j=>n.statics.length-j) 0 [] ⟨by omega,Av _ _⟩ U ?_
 rintro j ⟨hj,hI⟩
 refine T ?_
 refine⟨fun h=>?_,fun h=>?_⟩
 ·have hlt:j<n.statics.length:=qA h
  have hj0:((j:Nat):Int).toNat<n.statics.length:=hlt
  clear h
  by_cases e0:((n.statics[((j:Nat):Int).toNat]'hj0).domain == d)=true
  case neg =>
   have e0:((n.statics[((j:Nat):Int).toNat]'hj0).domain == d)=false:=by simpa using e0
   refine T ?_
   exact Ae (j+1) [] ⟨hlt,Aq hI hlt (by have e:=e0;(try simp only[Int.toNat_natCast]at e);simp[e])⟩ z_ U
  by_cases e1:((n.statics[((j:Nat):Int).toNat]'hj0).mac == mac)=true
  case neg =>
   have e1:((n.statics[((j:Nat):Int).toNat]'hj0).mac == mac)=false:=by simpa using e1
   refine T ?_
   exact Ae (j+1) [] ⟨hlt,Aq hI hlt (by have e:=e1;(try simp only[Int.toNat_natCast]at e);simp[e])⟩ z_ U
  have hx:Jb n d mac=(j:Int):=Ck (p:=fun x:Static=>x.domain == d && x.mac == mac) (j:=j) hlt (fun i hi hij=>Dv hI i hi hij) (Bool.and_eq_true_iff.2 ⟨e0,e1⟩)
  refine T ?_
  refine Ar Y (.cons .tmp .nil) (congrArg Aa ?_) Y
  rw[Z6,hx,if_neg z_,As (show ((j:Nat):Int).toNat<n.statics.length from hlt)]
 ·have hje:j=n.statics.length:=qB h
  clear h
  have hx:Jb n d mac=-1:=C2 (p:=fun x:Static=>x.domain == d && x.mac == mac) (fun i hi=>Dv hI i hi z_)
  refine T ?_
  refine Ar Y (.cons .tmp .nil) (congrArg Aa ?_) Y
  rw[Z6,hx,if_pos y_]
theorem Aot {n:Net} (h:Ah n=true) {i:Nat} (hi:i<n.statics.length):Hu n n.statics[i]=true:=by
 simp only[Ah,Bool.and_eq_true]at h
 exact allB_iff.1 h.1.1.1.2 i hi
theorem look_iff {n:Net} (hr:Ah n=true) {d mac:Int}:0≤Z6 n d mac↔0≤Jb n d mac:=by
 rw[Z6]
 split
 ·rename_i h
  constructor
  ·intro h1;omega
  ·intro h1;omega
 ·rename_i h
  obtain ⟨k,hk,hlt⟩:=D2 (p:=fun x:Static=>x.domain == d && x.mac == mac) (l:=n.statics) h
  have hk:Jb n d mac=(k:Int):=hk
  rw[hk,As (show ((k:Nat):Int).toNat<n.statics.length from hlt)]
  have:=Aot hr hlt
  simp only[Hu,Bool.and_eq_true,Ap,decide_eq_true_eq]at this
  constructor
  ·intro _;omega
  ·intro _;exact this.1.1.2.1
theorem Ag1 (n:Net) (hn:n.Fin) (l:LineM) (hl:LineW l) (hR:Hn l):Sy.Spec Tryz.prog 129 [Aj n,Al l] [] (.tup [Aj (putStatic n l).1,Aa (putStatic n l).2]) []:=cT F129 Tryz.ntmps129 fun F hF=>by
 have q1:=Kh n hn l hR 4
 have qcopy:=Hp n hn
 have qd:=I5 n l.dev hn.devices
 have qp:=Xk n (Cn n l.dev) l.port hn.ports
 have qa:=Je n (Cn n l.dev) l.vlan hn.domains
 have ql:=Ag2 n (Ds n (Cn n l.dev) l.vlan) l.mac hn.statics
 have hfl:n.statics.length<2147483648:=hn.statics
 have hres:=putStatic.eq_1 n l
 dsimp only at hres
 generalize putStatic n l=res at *
 cases hf:fitsB n l 4 with
 | false =>
  rw[hf]at q1
  rw[hf,if_pos rfl]at hres
  subst hres
  refine T ?_
  refine C q1 F210 ?_
  refine T ?_
  refine Ag 4 (Bj emptyN) Y (.cons .nil (.cons .nil (.cons .nil (.cons .nil (.cons .nil (.cons .nil (.cons .nil (.cons .nil .nil)))))))) ?_
  exact D
 | true =>
 rw[hf]at q1
 rw[hf,if_neg qe]at hres
 have hfew:=Et (show ¬ fitsB n l 4=false by rw[hf];decide)
 have hr:Ah n=true:=by
  rw[fitsB,Bool.and_eq_true,Bool.and_eq_true]at hf
  exact hf.2.2
 have hlk:=@look_iff n hr (Ds n (Cn n l.dev) l.vlan) l.mac
 have hpr:K5 n (Cn n l.dev) l.port<0∨∃ k:Nat,K5 n (Cn n l.dev) l.port=k∧k<n.ports.length:=by
  by_cases h:K5 n (Cn n l.dev) l.port<0
  ·exact .inl h
  ·exact .inr (D2 h)
 generalize Z6 n (Ds n (Cn n l.dev) l.vlan) l.mac=lk at *
 generalize Jb n (Ds n (Cn n l.dev) l.vlan) l.mac=en at *
 generalize K5 n (Cn n l.dev) l.port=pt at *
 generalize Ds n (Cn n l.dev) l.vlan=dm at *
 generalize Cn n l.dev=dv at *
 by_cases ka:dv<0
 ·have g1:decide (dv<0)=true:=decide_eq_true ka
  rw[if_pos (.inl ka)]at hres
  subst hres
  refine T ?_
  refine C q1 F210 ?_
  refine T ?_
  refine C qd F211 ?_
  refine T ?_
  refine C qp F212 ?_
  refine T ?_
  refine Ag 4 (Bj emptyN) Y (.cons .nil (.cons .nil (.cons .nil (.cons .nil (.cons .nil (.cons .nil (.cons .nil (.cons .nil .nil)))))))) ?_
  exact D
 have g1:decide (dv<0)=false:=decide_eq_false ka
 by_cases kb:pt<0
 ·have g2:decide (pt<0)=true:=decide_eq_true kb
  rw[if_pos (.inr kb)]at hres
  subst hres
  refine T ?_
  refine C q1 F210 ?_
  refine T ?_
  refine C qd F211 ?_
  refine T ?_
  refine C qp F212 ?_
  refine T ?_
  refine Ag 4 (Bj emptyN) Y (.cons .nil (.cons .nil (.cons .nil (.cons .nil (.cons .nil (.cons .nil (.cons .nil (.cons .nil .nil)))))))) ?_
  exact D
 have g2:decide (pt<0)=false:=decide_eq_false kb
 rw[if_neg (fun h=>h.elim ka kb)]at hres
 obtain ⟨pt,rfl,hpt⟩:=hpr.resolve_left kb
 clear hpr
 have hp0:((pt:Nat):Int).toNat<n.ports.length:=hpt
 have hnp:nth n.ports (pt:Int)=n.ports[((pt:Nat):Int).toNat]'hp0:=As hp0
 rw[hnp]at hres
 have qm:=Lx (n.ports[((pt:Nat):Int).toNat]'hp0) l.vlan (hn.tagged _ (List.getElem_mem hp0))
 by_cases kc:dm<0
 ·have g3:decide (dm<0)=true:=decide_eq_true kc
  rw[if_pos (.inl kc)]at hres
  subst hres
  refine T ?_
  refine C q1 F210 ?_
  refine T ?_
  refine C qd F211 ?_
  refine T ?_
  refine C qp F212 ?_
  refine T ?_
  refine C qa F213 ?_
  refine T ?_
  refine Ag 4 (Bj emptyN) Y (.cons .nil (.cons .nil (.cons .nil (.cons .nil (.cons .nil (.cons .nil (.cons .nil (.cons .nil .nil)))))))) ?_
  exact D
 have g3:decide (dm<0)=false:=decide_eq_false kc
 cases hmb:C7 (n.ports[((pt:Nat):Int).toNat]'hp0) l.vlan with
 | false =>
  rw[hmb]at qm
  rw[if_pos (.inr hmb)]at hres
  subst hres
  refine T ?_
  refine C q1 F210 ?_
  refine T ?_
  refine C qd F211 ?_
  refine T ?_
  refine C qp F212 ?_
  refine T ?_
  refine C qa F213 ?_
  refine T ?_
  refine C qm F215 ?_
  refine T ?_
  refine Ag 4 (Bj emptyN) Y (.cons .nil (.cons .nil (.cons .nil (.cons .nil (.cons .nil (.cons .nil (.cons .nil (.cons .nil .nil)))))))) ?_
  exact D
 | true =>
 rw[hmb]at qm
 rw[if_neg (by rintro (h | h);exact kc h;rw[hmb]at h;cases h)]at hres
 by_cases kd:0≤en
 ·have g4:decide (lk≥0)=true:=decide_eq_true (hlk.2 kd)
  rw[if_pos kd]at hres
  subst hres
  refine T ?_
  refine C q1 F210 ?_
  refine T ?_
  refine C qd F211 ?_
  refine T ?_
  refine C qp F212 ?_
  refine T ?_
  refine C qa F213 ?_
  refine T ?_
  refine C qm F215 ?_
  refine T ?_
  refine C ql F216 ?_
  refine T ?_
  refine Ag 4 (Bj emptyN) Y (.cons .nil (.cons .nil (.cons .nil (.cons .nil (.cons .nil (.cons .nil (.cons .nil (.cons .nil .nil)))))))) ?_
  exact D
 have g4:decide (lk≥0)=false:=decide_eq_false (fun h=>kd (hlk.1 h))
 rw[if_neg kd]at hres
 by_cases ke:n.statics.length=64
 ·have g5:decide ((n.statics.length:Int)≥64)=true:=decide_eq_true z_
  rw[if_pos ke]at hres
  subst hres
  refine T ?_
  refine C q1 F210 ?_
  refine T ?_
  refine C qd F211 ?_
  refine T ?_
  refine C qp F212 ?_
  refine T ?_
  refine C qa F213 ?_
  refine T ?_
  refine C qm F215 ?_
  refine T ?_
  refine C ql F216 ?_
  refine T ?_
  refine Ag 4 (Bj emptyN) Y (.cons .nil (.cons .nil (.cons .nil (.cons .nil (.cons .nil (.cons .nil (.cons .nil (.cons .nil .nil)))))))) ?_
  exact D
 have g5:decide ((n.statics.length:Int)≥64)=false:=decide_eq_false z_
 rw[if_neg ke]at hres
 subst hres
 refine T ?_
 refine C q1 F210 ?_
 refine T ?_
 refine C qd F211 ?_
 refine T ?_
 refine C qp F212 ?_
 refine T ?_
 refine C qa F213 ?_
 refine T ?_
 refine C qm F215 ?_
 refine T ?_
 refine C ql F216 ?_
 refine T ?_
 refine X (Af [(0,901),(1,902),(2,903),(3,904),(4,905),(5,906),(6,907),(7,908)] Y F137 qcopy Y W Y V) ?_
 refine T ?_
 refine X (Ak Γ.toTy 74 Y Y Y Y Y (.row Y) (.lit (e:=A8) (l:=[(⟨l.row,dm,(pt:Int),l.mac⟩:Static)]) Y Y) y_ (by simp only[List.length_singleton];omega) (by simp only[List.length_singleton];omega)) ?_
 refine T ?_
 refine Ac 901 Y ?_
 refine Ac 902 Y ?_
 refine Ac 903 Y ?_
 refine Ac 904 Y ?_
 refine Ac 74 Y ?_
 refine Ac 906 Y ?_
 refine Ac 907 Y ?_
 refine Ac 908 Y ?_
 exact D
theorem e_vni {n:Net} (h:Ah n=true) {i:Nat} (hi:i<n.domains.length):0≤n.domains[i].vni:=by
 simp only[Ah,Bool.and_eq_true]at h
 have:=allB_iff.1 h.1.1.1.1.1.1.1.2 i hi
 simp only[Iy,Bool.and_eq_true,decide_eq_true_eq]at this
 exact this.1.1.1.2
theorem Uv (n:Net) (hn:n.Fin) (l:LineM) (hl:LineW l) (hR:Hn l) (k:Int):Sy.Spec Tryz.prog 217 [Aj n,Al l,Aa k] [] (.tup [Aa (begT n l k).1,Aa (begT n l k).2]) []:=cT F217 Tryz.ntmps217 fun F hF=>by
 have q1:=Kh n hn l hR k
 have q2:=I5 n l.dev hn.devices
 have hres:=begT.eq_1 n l k
 generalize begT n l k=res at *
 generalize Cn n l.dev=d at *
 cases hf:fitsB n l k with
 | false =>
  rw[hf]at q1
  rw[hf,if_pos rfl]at hres
  subst hres
  refine T ?_
  refine C q1 F210 ?_
  refine T ?_
  exact D
 | true =>
 rw[hf]at q1
 rw[hf,if_neg qe]at hres
 by_cases h:d<0
 ·have g:decide (d<0)=true:=decide_eq_true h
  rw[if_pos h]at hres
  subst hres
  refine T ?_
  refine C q1 F210 ?_
  refine T ?_
  refine C q2 F211 ?_
  refine T ?_
  exact D
 ·have g:decide (d<0)=false:=decide_eq_false h
  rw[if_neg h]at hres
  subst hres
  refine T ?_
  refine C q1 F210 ?_
  refine T ?_
  refine C q2 F211 ?_
  refine T ?_
  exact D
theorem Am5 (n:Net) (hn:n.Fin) (hv:∀ d∈n.devices,0≤d.vtep) (l:LineM) (hl:LineW l) (hR:Hn l):Sy.Spec Tryz.prog 130 [Aj n,Al l] [] (.tup [Aj (putVtep n l).1,Aa (putVtep n l).2]) []:=cT F130 Tryz.ntmps130 fun F hF=>by
 have hok:=@beg_ok n l 5
 have hres:=putVtep.eq_1 n l
 dsimp only at hres
 have q1:=Uv n hn l hl hR 5
 have qcopy:=Hp n hn
 generalize putVtep n l=res at *
 generalize begT n l 5=b at *
 obtain ⟨d,e⟩:=b
 dsimp only at hres hok q1
 have qo:=Uu n l.addr hn.devices
 by_cases h1:e≠0
 ·have g1:(e == 0)=false:=beq_eq_false_iff_ne.2 h1
  have g2:(e != 0)=true:=bne_iff_ne.2 h1
  rw[if_pos h1]at hres
  subst hres
  refine T ?_
  refine C q1 F217 ?_
  refine T ?_
  refine Ag 4 (Bj emptyN) Y (.cons .nil (.cons .nil (.cons .nil (.cons .nil (.cons .nil (.cons .nil (.cons .nil (.cons .nil .nil)))))))) ?_
  exact D
 have h1:e=0:=by omega
 subst h1
 rw[if_neg y_]at hres
 obtain ⟨_,hr,i,rfl,hi⟩:=hok rfl
 have hi0:((i:Nat):Int).toNat<n.devices.length:=hi
 have hni:nth n.devices (i:Int)=n.devices[((i:Nat):Int).toNat]'hi0:=As hi0
 have hv0:=hv _ (List.getElem_mem hi0)
 rw[hni]at hres
 generalize Cz n l.addr=ow at *
 by_cases k1:(n.devices[((i:Nat):Int).toNat]'hi0).vtep≠0
 ·have g1:decide ((n.devices[((i:Nat):Int).toNat]'hi0).vtep>0)=true:=decide_eq_true z_
  rw[if_pos (.inl k1)]at hres
  subst hres
  refine T ?_
  refine C q1 F217 ?_
  refine T ?_
  refine Ag 4 (Bj emptyN) Y (.cons .nil (.cons .nil (.cons .nil (.cons .nil (.cons .nil (.cons .nil (.cons .nil (.cons .nil .nil)))))))) ?_
  exact D
 have g1:decide ((n.devices[((i:Nat):Int).toNat]'hi0).vtep>0)=false:=decide_eq_false z_
 by_cases k2:0≤ow
 ·have g2:decide (ow≥0)=true:=decide_eq_true k2
  rw[if_pos (.inr k2)]at hres
  subst hres
  refine T ?_
  refine C q1 F217 ?_
  refine T ?_
  refine C qo F140 ?_
  refine T ?_
  refine Ag 4 (Bj emptyN) Y (.cons .nil (.cons .nil (.cons .nil (.cons .nil (.cons .nil (.cons .nil (.cons .nil (.cons .nil .nil)))))))) ?_
  exact D
 have g2:decide (ow≥0)=false:=decide_eq_false k2
 rw[if_neg (fun h=>h.elim k1 k2)]at hres
 have hne:n.devices≠[]:=fun e=>by rw[e]at hi;cases hi
 have t1:Sb n.devices (i:Int) l.addr=n.devices.set ((i:Nat):Int).toNat (⟨(n.devices[((i:Nat):Int).toNat]'hi0).row,(n.devices[((i:Nat):Int).toNat]'hi0).prio,(n.devices[((i:Nat):Int).toNat]'hi0).name,(n.devices[((i:Nat):Int).toNat]'hi0).mac,l.addr⟩:Device):=by rw[Sb,hni]
 rw[t1]at hres
 subst hres
 refine T ?_
 refine C q1 F217 ?_
 refine T ?_
 refine C qo F140 ?_
 refine T ?_
 refine X (Af [(0,901),(1,902),(2,903),(3,904),(4,905),(5,906),(6,907),(7,908)] Y F137 qcopy Y W Y V) ?_
 refine T ?_
 refine⟨hne,?_⟩
 refine T ?_
 refine⟨(⟨(n.devices[((i:Nat):Int).toNat]'hi0).row,(n.devices[((i:Nat):Int).toNat]'hi0).prio,(n.devices[((i:Nat):Int).toNat]'hi0).name,(n.devices[((i:Nat):Int).toNat]'hi0).mac,l.addr⟩:Device),Y,Y,?_⟩
 refine T ?_
 refine Ac 901 Y ?_
 refine Ac 902 Y ?_
 refine Ac 903 Y ?_
 refine Ac 904 Y ?_
 refine Ac 905 Y ?_
 refine Ac 906 Y ?_
 refine Ac 907 Y ?_
 refine Ac 908 Y ?_
 exact D
theorem Apz (n:Net) (hn:n.Fin) (l:LineM) (hl:LineW l) (hR:Hn l):Sy.Spec Tryz.prog 131 [Aj n,Al l] [] (.tup [Aj (putVni n l).1,Aa (putVni n l).2]) []:=cT F131 Tryz.ntmps131 fun F hF=>by
 have hok:=@beg_ok n l 6
 have hres:=putVni.eq_1 n l
 dsimp only at hres
 have q1:=Uv n hn l hl hR 6
 have qcopy:=Hp n hn
 generalize putVni n l=res at *
 generalize begT n l 6=b at *
 obtain ⟨d,e⟩:=b
 dsimp only at hres hok q1
 have qa:=Je n d l.vlan hn.domains
 have qf:=M7 n d l.num hn.domains
 by_cases h1:e≠0
 ·have g1:(e == 0)=false:=beq_eq_false_iff_ne.2 h1
  have g2:(e != 0)=true:=bne_iff_ne.2 h1
  rw[if_pos h1]at hres
  subst hres
  generalize Ds n d l.vlan=dm at *
  refine T ?_
  refine C q1 F217 ?_
  refine T ?_
  refine C qa F213 ?_
  refine T ?_
  refine Ag 4 (Bj emptyN) Y (.cons .nil (.cons .nil (.cons .nil (.cons .nil (.cons .nil (.cons .nil (.cons .nil (.cons .nil .nil)))))))) ?_
  exact D
 have h1:e=0:=by omega
 subst h1
 rw[if_neg y_]at hres
 obtain ⟨_,hr,i,rfl,hi⟩:=hok rfl
 have hi0:((i:Nat):Int).toNat<n.devices.length:=hi
 have hni:nth n.devices (i:Int)=n.devices[((i:Nat):Int).toNat]'hi0:=As hi0
 rw[hni]at hres
 have hdr:Ds n (i:Int) l.vlan<0∨∃ k:Nat,Ds n (i:Int) l.vlan=k∧k<n.domains.length:=by
  by_cases h:Ds n (i:Int) l.vlan<0
  ·exact .inl h
  ·exact .inr (D2 h)
 generalize Ds n (i:Int) l.vlan=dm at *
 generalize Ia n (i:Int) l.num=vi at *
 by_cases k1:(n.devices[((i:Nat):Int).toNat]'hi0).vtep=0
 ·have g1:((n.devices[((i:Nat):Int).toNat]'hi0).vtep == 0)=true:=beq_iff_eq.2 k1
  rw[if_pos k1]at hres
  subst hres
  refine T ?_
  refine C q1 F217 ?_
  refine T ?_
  refine C qa F213 ?_
  refine T ?_
  refine Ag 4 (Bj emptyN) Y (.cons .nil (.cons .nil (.cons .nil (.cons .nil (.cons .nil (.cons .nil (.cons .nil (.cons .nil .nil)))))))) ?_
  exact D
 have g1:((n.devices[((i:Nat):Int).toNat]'hi0).vtep == 0)=false:=beq_eq_false_iff_ne.2 k1
 rw[if_neg k1]at hres
 by_cases k2:dm<0
 ·have g2:decide (dm<0)=true:=decide_eq_true k2
  rw[if_pos k2]at hres
  subst hres
  refine T ?_
  refine C q1 F217 ?_
  refine T ?_
  refine C qa F213 ?_
  refine T ?_
  refine Ag 4 (Bj emptyN) Y (.cons .nil (.cons .nil (.cons .nil (.cons .nil (.cons .nil (.cons .nil (.cons .nil (.cons .nil .nil)))))))) ?_
  exact D
 have g2:decide (dm<0)=false:=decide_eq_false k2
 rw[if_neg k2]at hres
 obtain ⟨k,rfl,hkl⟩:=hdr.resolve_left k2
 clear hdr
 have hkl0:((k:Nat):Int).toNat<n.domains.length:=hkl
 have hnk:nth n.domains (k:Int)=n.domains[((k:Nat):Int).toNat]'hkl0:=As hkl0
 have hvn:0≤(n.domains[((k:Nat):Int).toNat]'hkl0).vni:=e_vni hr hkl
 rw[hnk]at hres
 by_cases k3:(n.domains[((k:Nat):Int).toNat]'hkl0).vni≠0
 ·have g3:decide ((n.domains[((k:Nat):Int).toNat]'hkl0).vni>0)=true:=decide_eq_true z_
  rw[if_pos (.inl k3)]at hres
  subst hres
  refine T ?_
  refine C q1 F217 ?_
  refine T ?_
  refine C qa F213 ?_
  refine T ?_
  refine Ag 4 (Bj emptyN) Y (.cons .nil (.cons .nil (.cons .nil (.cons .nil (.cons .nil (.cons .nil (.cons .nil (.cons .nil .nil)))))))) ?_
  exact D
 have g3:decide ((n.domains[((k:Nat):Int).toNat]'hkl0).vni>0)=false:=decide_eq_false z_
 by_cases k4:0≤vi
 ·have g4:decide (vi≥0)=true:=decide_eq_true k4
  rw[if_pos (.inr k4)]at hres
  subst hres
  refine T ?_
  refine C q1 F217 ?_
  refine T ?_
  refine C qa F213 ?_
  refine T ?_
  refine C qf F139 ?_
  refine T ?_
  refine Ag 4 (Bj emptyN) Y (.cons .nil (.cons .nil (.cons .nil (.cons .nil (.cons .nil (.cons .nil (.cons .nil (.cons .nil .nil)))))))) ?_
  exact D
 have g4:decide (vi≥0)=false:=decide_eq_false k4
 rw[if_neg (fun h=>h.elim k3 k4)]at hres
 have hne:n.domains≠[]:=fun e=>by rw[e]at hkl;cases hkl
 have hset:∀ x y,(n.domains.set ((k:Nat):Int).toNat x).set ((k:Nat):Int).toNat y=n.domains.set ((k:Nat):Int).toNat y:=fun x y=>List.set_set ..
 have hk2:∀ x,((k:Nat):Int).toNat<(n.domains.set ((k:Nat):Int).toNat x).length:=fun x=>by rw[List.length_set];exact hkl0
 have hne2:∀ x,n.domains.set ((k:Nat):Int).toNat x≠[]:=fun x e=>by
  have:=congrArg List.length e
  rw[List.length_set]at this
  simp at this;exact hne this
 have hget:∀ x,(n.domains.set ((k:Nat):Int).toNat x)[((k:Nat):Int).toNat]'(hk2 x)=x:=fun x=>List.getElem_set_self ..
 rw[← hset (⟨(n.domains[((k:Nat):Int).toNat]'hkl0).dev,(n.domains[((k:Nat):Int).toNat]'hkl0).vlan,l.num,(n.domains[((k:Nat):Int).toNat]'hkl0).irb,(n.domains[((k:Nat):Int).toNat]'hkl0).row,(n.domains[((k:Nat):Int).toNat]'hkl0).peers⟩:Domain)]at hres
 subst hres
 refine T ?_
 refine C q1 F217 ?_
 refine T ?_
 refine C qa F213 ?_
 refine T ?_
 refine C qf F139 ?_
 refine T ?_
 refine X (Af [(0,901),(1,902),(2,903),(3,904),(4,905),(5,906),(6,907),(7,908)] Y F137 qcopy Y W Y V) ?_
 refine T ?_
 refine⟨hne,?_⟩
 refine T ?_
 refine⟨(⟨(n.domains[((k:Nat):Int).toNat]'hkl0).dev,(n.domains[((k:Nat):Int).toNat]'hkl0).vlan,l.num,(n.domains[((k:Nat):Int).toNat]'hkl0).irb,(n.domains[((k:Nat):Int).toNat]'hkl0).row,(n.domains[((k:Nat):Int).toNat]'hkl0).peers⟩:Domain),Y,Y,?_⟩
 refine T ?_
 refine⟨hk2 _,?_⟩
 refine T ?_
 refine⟨hne2 _,?_⟩
 refine T ?_
 refine⟨hk2 _,(⟨(n.domains[((k:Nat):Int).toNat]'hkl0).dev,(n.domains[((k:Nat):Int).toNat]'hkl0).vlan,l.num,(n.domains[((k:Nat):Int).toNat]'hkl0).irb,l.row,(n.domains[((k:Nat):Int).toNat]'hkl0).peers⟩:Domain),by rw[hget];rfl,by rw[hget];rfl,?_⟩
 refine T ?_
 refine Ac 901 Y ?_
 refine Ac 902 Y ?_
 refine Ac 903 Y ?_
 refine Ac 904 Y ?_
 refine Ac 905 Y ?_
 refine Ac 906 Y ?_
 refine Ac 907 Y ?_
 refine Ac 908 Y ?_
 exact D
theorem Akl (n:Net) (hn:n.Fin) (l:LineM) (hl:LineW l) (hR:Hn l):Sy.Spec Tryz.prog 132 [Aj n,Al l] [] (.tup [Aj (putFlood n l).1,Aa (putFlood n l).2]) []:=cT F132 Tryz.ntmps132 fun F hF=>by
 have hok:=@beg_ok n l 7
 have hres:=putFlood.eq_1 n l
 dsimp only at hres
 have q1:=Uv n hn l hl hR 7
 have qcopy:=Hp n hn
 generalize putFlood n l=res at *
 generalize begT n l 7=b at *
 obtain ⟨d,e⟩:=b
 dsimp only at hres hok q1
 have qf:=M7 n d l.num hn.domains
 have ql:=Xj n d l.num hn.floods
 have hfl:n.floods.length<2147483648:=hn.floods
 have hla:l.addrs.length≤100000:=hl.fin.a
 by_cases h1:e≠0
 ·have g1:(e == 0)=false:=beq_eq_false_iff_ne.2 h1
  have g2:(e != 0)=true:=bne_iff_ne.2 h1
  rw[if_pos h1]at hres
  subst hres
  refine T ?_
  refine C q1 F217 ?_
  refine T ?_
  refine Ag 4 (Bj emptyN) Y (.cons .nil (.cons .nil (.cons .nil (.cons .nil (.cons .nil (.cons .nil (.cons .nil (.cons .nil .nil)))))))) ?_
  exact D
 have h1:e=0:=by omega
 subst h1
 rw[if_neg y_]at hres
 obtain ⟨hft,hr,i,rfl,hi⟩:=hok rfl
 have hfew:=Et (show ¬ fitsB n l 7=false by rw[hft];decide)
 have hi0:((i:Nat):Int).toNat<n.devices.length:=hi
 have hni:nth n.devices (i:Int)=n.devices[((i:Nat):Int).toNat]'hi0:=As hi0
 rw[hni]at hres
 have qh:=Aa8 l.addrs (n.devices[((i:Nat):Int).toNat]'hi0).vtep (by show _<_;omega)
 generalize Ia n (i:Int) l.num=vi at *
 generalize Ee n (i:Int) l.num=li at *
 generalize inB l.addrs (n.devices[((i:Nat):Int).toNat]'hi0).vtep=ha at *
 by_cases k1:vi<0
 ·have g1:decide (vi<0)=true:=decide_eq_true k1
  rw[if_pos k1]at hres
  subst hres
  refine T ?_
  refine C q1 F217 ?_
  refine T ?_
  refine C qf F139 ?_
  refine T ?_
  refine Ag 4 (Bj emptyN) Y (.cons .nil (.cons .nil (.cons .nil (.cons .nil (.cons .nil (.cons .nil (.cons .nil (.cons .nil .nil)))))))) ?_
  exact D
 have g1:decide (vi<0)=false:=decide_eq_false k1
 rw[if_neg k1]at hres
 by_cases k2:0≤li
 ·have g2:decide (li≥0)=true:=decide_eq_true k2
  rw[if_pos k2]at hres
  subst hres
  refine T ?_
  refine C q1 F217 ?_
  refine T ?_
  refine C qf F139 ?_
  refine T ?_
  refine C ql F138 ?_
  refine T ?_
  refine Ag 4 (Bj emptyN) Y (.cons .nil (.cons .nil (.cons .nil (.cons .nil (.cons .nil (.cons .nil (.cons .nil (.cons .nil .nil)))))))) ?_
  exact D
 have g2:decide (li≥0)=false:=decide_eq_false k2
 rw[if_neg k2]at hres
 cases ha with
 | true =>
  rw[if_pos rfl]at hres
  subst hres
  refine T ?_
  refine C q1 F217 ?_
  refine T ?_
  refine C qf F139 ?_
  refine T ?_
  refine C ql F138 ?_
  refine T ?_
  refine C qh F218 ?_
  refine T ?_
  refine Ag 4 (Bj emptyN) Y (.cons .nil (.cons .nil (.cons .nil (.cons .nil (.cons .nil (.cons .nil (.cons .nil (.cons .nil .nil)))))))) ?_
  exact D
 | false =>
 rw[if_neg y_]at hres
 by_cases k3:n.floods.length=48
 ·have g3:decide ((n.floods.length:Int)≥48)=true:=decide_eq_true z_
  rw[if_pos k3]at hres
  subst hres
  refine T ?_
  refine C q1 F217 ?_
  refine T ?_
  refine C qf F139 ?_
  refine T ?_
  refine C ql F138 ?_
  refine T ?_
  refine C qh F218 ?_
  refine T ?_
  refine Ag 4 (Bj emptyN) Y (.cons .nil (.cons .nil (.cons .nil (.cons .nil (.cons .nil (.cons .nil (.cons .nil (.cons .nil .nil)))))))) ?_
  exact D
 have g3:decide ((n.floods.length:Int)≥48)=false:=decide_eq_false z_
 rw[if_neg k3]at hres
 subst hres
 refine T ?_
 refine C q1 F217 ?_
 refine T ?_
 refine C qf F139 ?_
 refine T ?_
 refine C ql F138 ?_
 refine T ?_
 refine C qh F218 ?_
 refine T ?_
 refine X (Af [(0,901),(1,902),(2,903),(3,904),(4,905),(5,906),(6,907),(7,908)] Y F137 qcopy Y W Y V) ?_
 refine T ?_
 refine Xd (He Γ.toTy 72 Y Y Y Y Y Y Y Y y_ z_ z_) ?_
 refine T ?_
 refine Xd (Ak Γ.toTy 75 Y Y Y Y Y (.row Y) (.lit (e:=A4) (l:=[(⟨l.row,(i:Int),l.num,l.addrs⟩:Flood)]) Y Y) y_ (by simp only[List.length_singleton];omega) (by simp only[List.length_singleton];omega)) ?_
 refine T ?_
 refine Ac 901 Y ?_
 refine Ac 902 Y ?_
 refine Ac 903 Y ?_
 refine Ac 904 Y ?_
 refine Ac 905 Y ?_
 refine Ac 75 Y ?_
 refine Ac 907 Y ?_
 refine Ac 908 Y ?_
 exact D
end Go.Sy.YtjenpnjajjplkaaGreatDoor
namespace Go.Sy.YtjenpnjajjplkaaGreatDoor
open Go.Proofs
attribute [local irreducible] Go.Sy.G Go.Sy.DR
set_option maxRecDepth 20000
set_option maxHeartbeats 8000000
theorem Ad1 {i:Int} {n:Nat} (h:0≤i∧i<n):Ap i n=true:=by simp only[Ap,Bool.and_eq_true,decide_eq_true_eq];exact h
theorem Abc {i:Int} {n:Nat} (h:¬ (0≤i∧i<n)):Ap i n=false:=by simp only[Ap,Bool.and_eq_false_iff,decide_eq_false_iff_not];omega
theorem Ac7 (n:Net) (hn:n.Fin) (hb:Ah n=true) (i:Int):Sy.Spec Tryz.prog 362 [Aj n,Aa i] [] (.sl 1 Aa (E4 n i)) []:=cT F362 Tryz.ntmps362 fun F hF=>by
 have hpl:=Cp i n.domains.length
 have hsp:=hn.ports
 unfold At at hsp
 conv=>whnf
 refine A6 2 8 (Aj n) Y Y Y ?_
 refine oO ?_
 refine c0 hpl F294 ?_
 by_cases hi:0≤i∧i<n.domains.length
 rotate_left
 ·rw[E4,if_neg (fun h=>hi h.1),Abc hi]
  refine oT ?_
  refine Dh 4 1 Aa Y ?_
  refine oO ?_
  exact dN
 rw[E4,if_pos ⟨hi,hb⟩,Ad1 hi]
 have hk:i.toNat<n.domains.length:=by omega
 have e1:nth n.domains i=n.domains[i.toNat]:=As hk
 rw[Oj,e1]
 obtain ⟨d,hd⟩:∃ d,n.domains[i.toNat]=d:=⟨_,rfl⟩
 rw[hd]
 refine oF ?_
 refine⟨Y,hi.1,hk,?_⟩
 rw[hd]
 conv=>whnf
 refine A6 6 6 (Am d) Y Y Y ?_
 refine C4 5 1000 1 Aa Y Y ?_
 refine Dz n.ports.length (fun j=>[(2,.ref 8 (Aj n) 0),(5,.osl 1000),(6,.ref 6 (Am d) 0),(7,Aa j)]) (fun j=>[(1000,.row 1 Aa (Mo (Q0 n d) j))]) []
  ⟨⟨rfl,rfl,rfl,rfl,rfl,rfl,rfl,rfl,trivial⟩,⟨.inl rfl,rfl,trivial⟩,rfl,rfl⟩ ?_
 intro j hj
 refine oO ?_
 refine⟨fun h=>?_,fun h=>?_⟩
 ·have hlt:j<n.ports.length:=by simpa using h
  have hsucc:=Aia (Q0 n d) j
  have hfl:=T3 (Q0 n d) j
  have hin:Q0 n d j=((n.ports[j]).dev == d.dev && C7 n.ports[j] d.vlan):=by
   rw[Q0,As (l:=n.ports) (i:=(j:Int)) (by simpa using hlt)];rfl
  rw[hin]at hsucc
  have e1:n.ports[(j:Int).toNat]'z_=n.ports[j]:=rfl
  have hms:=Lx n.ports[j] d.vlan (hn.tagged _ (List.getElem_mem _))
  obtain ⟨p,hp⟩:∃ p,n.ports[j]=p:=⟨_,rfl⟩
  rw[hp]at e1 hsucc hms
  obtain ⟨u,hu⟩:∃ u,Mo (Q0 n d) j=u:=⟨_,rfl⟩
  rw[hu]at hsucc hfl ⊢
  refine oO ?_
  refine⟨Y,by omega,by omega,?_⟩
  rw[e1]
  conv=>whnf
  refine⟨fun h2=>?_,fun h2=>?_⟩
  ·rw[h2,Bool.true_and]at hsucc
   refine oD ?_
   refine⟨Y,by omega,by omega,?_⟩
   rw[e1]
   conv=>whnf
   refine cD hms F215 ?_
   refine oD ?_
   refine kW ?_
   refine⟨fun h4=>?_,fun h4=>?_⟩
   ·rw[if_pos h4]at hsucc
    refine oO ?_
    refine C0 (Ak Γ.toTy 48 Y Y Y Y Y (.row Y) (.lit (e:=Aa) (l:=[(j:Int)]) Y Y) qe (by simp;omega) (by simp;omega)) Y Y ?_
    refine oO ?_
    refine iW ?_
    exact D3 [(1000,48)] hlt ⟨⟨Y,Y,Y,Y,Y,Y,Y,Y,q_⟩,⟨.inl (congrArg (Ob.row 1 Aa) hsucc),Y,q_⟩,Y,Y⟩
   ·rw[if_neg (by simp[h4])]at hsucc
    refine oO ?_
    refine iW ?_
    exact D3 [] hlt ⟨⟨Y,Y,Y,Y,Y,Y,Y,Y,q_⟩,⟨.inl (congrArg (Ob.row 1 Aa) hsucc),Y,q_⟩,Y,Y⟩
  ·rw[h2,Bool.false_and,if_neg qe]at hsucc
   refine oD ?_
   refine⟨j_,?_⟩
   ((conv=>whnf);refine aF ?_;refine rg ?_;conv=>whnf)
   refine iW ?_
   exact D3 [] hlt ⟨⟨Y,Y,Y,Y,Y,Y,Y,Y,q_⟩,⟨.inl (congrArg (Ob.row 1 Aa) hsucc),Y,q_⟩,Y,Y⟩
 ·have:j=n.ports.length:=qB h
  subst this
  refine Ac 1000 Y ?_
  refine oO ?_
  exact dN
theorem Ac8 (a:Nat) (bits:Int) (ha:a<4294967296):Sy.Spec Tryz.prog 360 [Di a bits] [] (A3 (lastI a bits)) []:=cT F360 Tryz.ntmps360 fun F hF=>by
 have hr:=Ho a bits
 have hl:=lastI.eq_1 a bits
 by_cases hb:0≤bits∧bits≤32
 ·have hf:=Ur a bits ha
  have hs:=Ac6 a bits hb
  have hle:=Aag a bits ⟨by omega,by omega⟩
  have hll:=Aen a bits ⟨by omega,by omega⟩
  rw[decide_eq_true hb]at hr
  rw[if_pos hb]at hl
  obtain ⟨k,hk,hk2⟩:∃ k:Nat,(32-bits).toNat=k∧k≤32:=⟨_,rfl,by omega⟩
  have h1:=Nat.one_le_two_pow (n:=k)
  have hp:2 ^ k≤2 ^ 32:=Nat.pow_le_pow_right y_ hk2
  have e32:(2:Nat) ^ 32=4294967296:=rfl
  rw[e32]at hp
  rw[hk]at hs hl
  rw[show (2:Int) ^ k=((2 ^ k:Nat):Int) by rw[Int.natCast_pow];rfl]at hl
  generalize 2 ^ k=q at *
  generalize Ed a bits=f at *
  generalize lastI a bits=l at *
  conv=>whnf
  refine A6 1 2 (Di a bits) Y Y Y ?_
  refine oO ?_
  refine c0 hr F358 ?_
  refine oF ?_
  refine cD hf F359 ?_
  refine oD ?_
  refine cD hs F421 ?_
  refine oD ?_
  rw[Alo hle.1 z_]
  refine iW ?_
  refine iW ?_
  refine kW ?_
  refine Ar Y (.cons .tmp .nil) (congrArg (fun z=>SV.val (.int .u32 z)) ?_) Y
  rw[IntKind.wrap_u32]
  omega
 ·rw[if_neg hb]at hl
  rw[hl]
  rw[decide_eq_false hb]at hr
  conv=>whnf
  refine A6 1 2 (Di a bits) Y Y Y ?_
  refine oO ?_
  refine c0 hr F358 ?_
  refine oT ?_
  exact dN
theorem Ai4 (a b x:Int) (hb:0≤b∧b≤32) (ha:0≤a∧a<4294967296) (hx:0≤x∧x<4294967296):Sy.Spec Tryz.prog 293 [Ti a b,A3 x] [] (Ab (Aby a b x)) []:=cT F293 Tryz.ntmps293 fun F hF=>by
 have hi:=Aoi a b x hb ha hx
 generalize Aby a b x=r at *
 obtain ⟨y,hy⟩:=Int.eq_ofNat_of_zero_le ha.1
 have hr:=Ho a b
 have hf:=Ur y b z_
 have hl:=Ac8 y b z_
 rw[decide_eq_true hb]at hr
 rw[← hy]at hf hl
 generalize Ed a b=f at *
 generalize lastI a b=l at *
 conv=>whnf
 refine A6 2 2 (Ti a b) Y Y Y ?_
 refine oO ?_
 refine c0 hr F358 ?_
 refine oT ?_
 refine c0 hf F359 ?_
 refine oO ?_
 refine⟨fun h=>?_,fun h=>?_⟩
 ·have h1:f≤x:=of_decide_eq_true h
  refine oO ?_
  refine c0 hl F360 ?_
  refine oO ?_
  refine Ar Y (.cons .tmp .nil) (congrArg Ab ?_) Y
  cases r
  ·refine(decide_eq_false (fun h2=>?_)).symm
   simpa using hi.2 ⟨h1,h2⟩
  ·exact(decide_eq_true (hi.1 Y).2).symm
 ·have h1:¬ f≤x:=of_decide_eq_false h
  refine oO ?_
  refine Ar Y (.cons .tmp .nil) (congrArg Ab ?_) Y
  cases r
  ·rfl
  ·exact absurd (hi.1 Y).1 h1
end Go.Sy.YtjenpnjajjplkaaGreatDoor
namespace Go.Sy.YtjenpnjajjplkaaGreatDoor
open Go.Proofs
attribute [local irreducible] Go.Sy.G Go.Sy.DR
set_option maxRecDepth 100000
set_option maxHeartbeats 4000000
theorem Apw (n:Net) (hn:n.Fin) (l:LineM) (hl:LineW l) (hR:Hn l):Sy.Spec Tryz.prog 133 [Aj n,Al l] [] (.tup [Aj (putVrf n l).1,Aa (putVrf n l).2]) []:=cT F133 Tryz.ntmps133 fun F hF=>by
 have q1:=Kh n hn l hR 8
 have qcopy:=Hp n hn
 have qd:=I5 n l.dev hn.devices
 have qv:=Ai7 n (Cn n l.dev) l.name hn.vrfs
 have hfl:n.vrfs.length<2147483648:=hn.vrfs
 have hli:l.imports.length≤100000:=hl.fin.i
 have hle:l.exports.length≤100000:=hl.fin.e
 have hres:=putVrf.eq_1 n l
 have hbeg:=begT.eq_1 n l 8
 dsimp only at hres
 generalize putVrf n l=res at *
 generalize begT n l 8=bg at *
 cases hf:fitsB n l 8 with
 | false =>
  rw[hf]at q1
  rw[hf,if_pos rfl]at hbeg
  subst hbeg
  rw[if_pos y_]at hres
  subst hres
  refine T ?_
  refine C q1 F210 ?_
  refine T ?_
  refine Ag 4 (Bj emptyN) Y (.cons .nil (.cons .nil (.cons .nil (.cons .nil (.cons .nil (.cons .nil (.cons .nil (.cons .nil .nil)))))))) ?_
  exact D
 | true =>
 rw[hf]at q1
 rw[hf,if_neg qe]at hbeg
 have hfew:=Et (show ¬ fitsB n l 8=false by rw[hf];decide)
 generalize Cn n l.dev=dv at *
 by_cases ka:dv<0
 ·have g1:decide (dv<0)=true:=decide_eq_true ka
  rw[if_pos ka]at hbeg
  subst hbeg
  rw[if_pos y_]at hres
  subst hres
  refine T ?_
  refine C q1 F210 ?_
  refine T ?_
  refine C qd F211 ?_
  refine T ?_
  refine Ag 4 (Bj emptyN) Y (.cons .nil (.cons .nil (.cons .nil (.cons .nil (.cons .nil (.cons .nil (.cons .nil (.cons .nil .nil)))))))) ?_
  exact D
 have g1:decide (dv<0)=false:=decide_eq_false ka
 rw[if_neg ka]at hbeg
 subst hbeg
 dsimp only at hres
 rw[if_neg y_]at hres
 generalize Aco n dv l.name=vf at *
 by_cases kb:0≤vf
 ·have g2:decide (vf≥0)=true:=decide_eq_true kb
  rw[if_pos kb]at hres
  subst hres
  refine T ?_
  refine C q1 F210 ?_
  refine T ?_
  refine C qd F211 ?_
  refine T ?_
  refine C qv F219 ?_
  refine T ?_
  refine Ag 4 (Bj emptyN) Y (.cons .nil (.cons .nil (.cons .nil (.cons .nil (.cons .nil (.cons .nil (.cons .nil (.cons .nil .nil)))))))) ?_
  exact D
 have g2:decide (vf≥0)=false:=decide_eq_false kb
 rw[if_neg kb]at hres
 by_cases kc:n.vrfs.length=16
 ·have g3:decide ((n.vrfs.length:Int)≥16)=true:=decide_eq_true z_
  rw[if_pos kc]at hres
  subst hres
  refine T ?_
  refine C q1 F210 ?_
  refine T ?_
  refine C qd F211 ?_
  refine T ?_
  refine C qv F219 ?_
  refine T ?_
  refine Ag 4 (Bj emptyN) Y (.cons .nil (.cons .nil (.cons .nil (.cons .nil (.cons .nil (.cons .nil (.cons .nil (.cons .nil .nil)))))))) ?_
  exact D
 have g3:decide ((n.vrfs.length:Int)≥16)=false:=decide_eq_false z_
 rw[if_neg kc]at hres
 subst hres
 refine T ?_
 refine C q1 F210 ?_
 refine T ?_
 refine C qd F211 ?_
 refine T ?_
 refine C qv F219 ?_
 refine T ?_
 refine X (Af [(0,901),(1,902),(2,903),(3,904),(4,905),(5,906),(6,907),(7,908)] Y F137 qcopy Y W Y V) ?_
 refine T ?_
 refine Xd (He Γ.toTy 44 Y Y Y Y Y Y Y Y y_ z_ z_) ?_
 refine T ?_
 refine Xd (He Γ.toTy 48 Y Y Y Y Y Y Y Y y_ z_ z_) ?_
 refine T ?_
 refine Xd (Ak Γ.toTy 51 Y Y Y Y Y (.row Y) (.lit (e:=Cd) (l:=[(⟨l.row,dv,l.name,l.imports,l.exports⟩:Vrf)]) Y Y) y_ (by simp only[List.length_singleton];omega) (by simp only[List.length_singleton];omega)) ?_
 refine T ?_
 refine Ac 901 Y ?_
 refine Ac 902 Y ?_
 refine Ac 903 Y ?_
 refine Ac 904 Y ?_
 refine Ac 905 Y ?_
 refine Ac 906 Y ?_
 refine Ac 51 Y ?_
 refine Ac 908 Y ?_
 exact D
theorem Aov {n:Net} (h:Ah n=true) {i:Nat} (hi:i<n.domains.length):n.domains[i].irb=-1∨0≤n.domains[i].irb:=by
 simp only[Ah,Bool.and_eq_true]at h
 have:=allB_iff.1 h.1.1.1.1.1.1.1.2 i hi
 simp only[Iy,Bool.and_eq_true,Bool.or_eq_true,beq_iff_eq,Ap,decide_eq_true_eq]at this
 rcases this.1.2 with h | h
 ·exact .inl h
 ·exact .inr h.1.1
theorem Akj (n:Net) (hn:n.Fin) (hr:Ah n=true) (ha:Ha n) (dev a bits:Int) (h0:0≤a∧a<4294967296) (hb2:0≤bits∧bits≤32):Sy.Spec Tryz.prog 220 [Aj n,Aa dev,Ti a bits] [] (Ab (n.irbs.any (clashB n dev a bits))) []:=cT F220 Tryz.ntmps220 fun F hF=>by
 have hil:n.irbs.length<2147483648:=hn.irbs
 refine T ?_
 refine A6 3 8 (Aj n) Y Y Y ?_
 refine A6 5 2 (Ti a bits) Y Y Y ?_
 refine Au (fun j:Nat=>j≤n.irbs.length∧Da (fun _ (x:Irb)=>!(clashB n dev a bits x)) n.irbs j) (fun j=>[(1,Aa dev),(3,.ref 8 (Aj n) 0),(5,.ref 2 (Ti a bits) 0),(7,Aa j)]) (fun _=>[]) (fun j=>n.irbs.length-j) 0 [] ⟨by omega,Av _ _⟩ U ?_
 rintro j ⟨hj,hI⟩
 refine T ?_
 refine⟨fun h=>?_,fun h=>?_⟩
 ·have hlt:j<n.irbs.length:=qA h
  have hj0:((j:Nat):Int).toNat<n.irbs.length:=hlt
  clear h
  have hib:=Aou hr hlt
  have hx:=ha _ (List.getElem_mem hj0)
  simp only[Tu,Bool.and_eq_true,Ap,decide_eq_true_eq,beq_iff_eq]at hib
  obtain ⟨⟨⟨⟨⟨⟨d1,d2⟩,v1,v2⟩,dd⟩,_⟩,b1⟩,b2⟩:=hib
  have d1:0≤(n.irbs[((j:Nat):Int).toNat]'hj0).domain:=d1
  have d0:(n.irbs[((j:Nat):Int).toNat]'hj0).domain.toNat<n.domains.length:=by
   have:n.irbs[j].domain<n.domains.length:=d2
   have e:(n.irbs[((j:Nat):Int).toNat]'hj0).domain=n.irbs[j].domain:=rfl
   omega
  have hdv:(n.domains[(n.irbs[((j:Nat):Int).toNat]'hj0).domain.toNat]'d0).dev=(nth n.vrfs (n.irbs[((j:Nat):Int).toNat]'hj0).vrf).dev:=by
   rw[← As d0];exact dd
  have hc:=clashB.eq_1 n dev a bits (n.irbs[((j:Nat):Int).toNat]'hj0)
  rw[← hdv]at hc
  have p1:=Ai4 a bits (n.irbs[((j:Nat):Int).toNat]'hj0).addr hb2 h0 hx
  have p2:=Ai4 (n.irbs[((j:Nat):Int).toNat]'hj0).addr (n.irbs[((j:Nat):Int).toNat]'hj0).bits a (show 0≤n.irbs[j].bits∧n.irbs[j].bits≤32 from ⟨by omega,by omega⟩) hx h0
  rw[Qb hb2 h0 hx]at p1
  rw[Qb (show 0≤(n.irbs[((j:Nat):Int).toNat]'hj0).bits∧(n.irbs[((j:Nat):Int).toNat]'hj0).bits≤32 from (show 0≤n.irbs[j].bits∧n.irbs[j].bits≤32 from ⟨by omega,by omega⟩)) hx h0]at p2
  have hyes:clashB n dev a bits (n.irbs[((j:Nat):Int).toNat]'hj0)=true→n.irbs.any (clashB n dev a bits)=true:=fun e=>List.any_eq_true.2 ⟨_,List.getElem_mem hj0,e⟩
  have hno:clashB n dev a bits (n.irbs[((j:Nat):Int).toNat]'hj0)=false→Da (fun _ (x:Irb)=>!(clashB n dev a bits x)) n.irbs (j+1):=fun e=>Aq hI hlt (by
   have e:clashB n dev a bits n.irbs[j]=false:=e
   rw[e];rfl)
  generalize clashB n dev a bits (n.irbs[((j:Nat):Int).toNat]'hj0)=c at *
  generalize M8 a bits (n.irbs[((j:Nat):Int).toNat]'hj0).addr=x1 at *
  generalize M8 (n.irbs[((j:Nat):Int).toNat]'hj0).addr (n.irbs[((j:Nat):Int).toNat]'hj0).bits a=x2 at *
  clear dd hdv
  cases e0:((n.irbs[((j:Nat):Int).toNat]'hj0).addr == a) with
  | true =>
   rw[e0,Bool.true_or]at hc
   rw[hyes hc]
   refine T ?_
   exact D
  | false =>
  rw[e0,Bool.false_or]at hc
  cases e1:((n.domains[(n.irbs[((j:Nat):Int).toNat]'hj0).domain.toNat]'d0).dev != dev) with
  | false =>
   rw[e1,Bool.false_and]at hc
   have hno:=hno hc
   refine T ?_
   exact Ae (j+1) [] ⟨hlt,hno⟩ z_ U
  | true =>
  rw[e1,Bool.true_and]at hc
  cases x1 with
  | true =>
   rw[Bool.or_true]at hc
   rw[hyes hc]
   refine T ?_
   refine C p1 F293 ?_
   refine T ?_
   exact D
  | false =>
  rw[Bool.or_false]at hc
  subst hc
  cases c with
  | true =>
   rw[hyes rfl]
   refine T ?_
   refine C p1 F293 ?_
   refine T ?_
   refine C p2 F293 ?_
   refine T ?_
   exact D
  | false =>
   have hno:=hno rfl
   refine T ?_
   refine C p1 F293 ?_
   refine T ?_
   refine C p2 F293 ?_
   refine T ?_
   exact Ae (j+1) [] ⟨hlt,hno⟩ z_ U
 ·have hje:j=n.irbs.length:=qB h
  clear h
  have ha2:n.irbs.any (clashB n dev a bits)=false:=by
   rw[List.any_eq_false]
   intro x hx
   obtain ⟨i,hi,rfl⟩:=List.mem_iff_getElem.1 hx
   have:=Dv hI i hi z_
   rw[this];decide
  rw[ha2]
  refine T ?_
  exact D
theorem Apx (n:Net) (hn:n.Fin) (ha:Ha n) (l:LineM) (hl:LineW l) (hR:Hn l):Sy.Spec Tryz.prog 134 [Aj n,Al l] [] (.tup [Aj (putIrb n l).1,Aa (putIrb n l).2]) []:=cT F134 Tryz.ntmps134 fun F hF=>by
 have hok:=@beg_ok n l 9
 have q1:=Kh n hn l hR 9
 have qcopy:=Hp n hn
 have qd:=I5 n l.dev hn.devices
 have qv:=Ai7 n (Cn n l.dev) l.name hn.vrfs
 have qa:=Je n (Cn n l.dev) l.vlan hn.domains
 have hfl:n.irbs.length<2147483648:=hn.irbs
 have hres:=putIrb.eq_1 n l
 have hbeg:=begT.eq_1 n l 9
 dsimp only at hres
 generalize putIrb n l=res at *
 generalize begT n l 9=bg at *
 cases hf:fitsB n l 9 with
 | false =>
  rw[hf]at q1
  rw[hf,if_pos rfl]at hbeg
  subst hbeg
  rw[if_pos y_]at hres
  subst hres
  refine T ?_
  refine C q1 F210 ?_
  refine T ?_
  refine Ag 4 (Bj emptyN) Y (.cons .nil (.cons .nil (.cons .nil (.cons .nil (.cons .nil (.cons .nil (.cons .nil (.cons .nil .nil)))))))) ?_
  exact D
 | true =>
 rw[hf]at q1
 rw[hf,if_neg qe]at hbeg
 have hfew:=Et (show ¬ fitsB n l 9=false by rw[hf];decide)
 have hr:Ah n=true:=by
  rw[fitsB,Bool.and_eq_true,Bool.and_eq_true]at hf
  exact hf.2.2
 have hbits:0≤l.bits∧l.bits≤32:=by
  rw[fitsB,Bool.and_eq_true,Bool.and_eq_true]at hf
  exact Xa hf.2.1 (beq_iff_eq.1 hf.1)
 have qt:=Akj n hn hr ha (Cn n l.dev) l.addr l.bits hl.ok.addr ⟨by omega,by omega⟩
 have hdr:Ds n (Cn n l.dev) l.vlan<0∨∃ k:Nat,Ds n (Cn n l.dev) l.vlan=k∧k<n.domains.length:=by
  by_cases h:Ds n (Cn n l.dev) l.vlan<0
  ·exact .inl h
  ·exact .inr (D2 h)
 generalize Cn n l.dev=dv at *
 by_cases ka:dv<0
 ·have g1:decide (dv<0)=true:=decide_eq_true ka
  rw[if_pos ka]at hbeg
  subst hbeg
  rw[if_pos y_]at hres
  subst hres
  refine T ?_
  refine C q1 F210 ?_
  refine T ?_
  refine C qd F211 ?_
  refine T ?_
  refine Ag 4 (Bj emptyN) Y (.cons .nil (.cons .nil (.cons .nil (.cons .nil (.cons .nil (.cons .nil (.cons .nil (.cons .nil .nil)))))))) ?_
  exact D
 have g1:decide (dv<0)=false:=decide_eq_false ka
 rw[if_neg ka]at hbeg
 subst hbeg
 dsimp only at hres
 rw[if_neg y_]at hres
 generalize Aco n dv l.name=vf at *
 generalize Ds n dv l.vlan=dm at *
 generalize n.irbs.any (clashB n dv l.addr l.bits)=cl at *
 by_cases kb:vf<0
 ·have g2:decide (vf<0)=true:=decide_eq_true kb
  rw[if_pos kb]at hres
  subst hres
  refine T ?_
  refine C q1 F210 ?_
  refine T ?_
  refine C qd F211 ?_
  refine T ?_
  refine C qv F219 ?_
  refine T ?_
  refine Ag 4 (Bj emptyN) Y (.cons .nil (.cons .nil (.cons .nil (.cons .nil (.cons .nil (.cons .nil (.cons .nil (.cons .nil .nil)))))))) ?_
  exact D
 have g2:decide (vf<0)=false:=decide_eq_false kb
 rw[if_neg kb]at hres
 by_cases kc:dm<0
 ·have g3:decide (dm<0)=true:=decide_eq_true kc
  rw[if_pos kc]at hres
  subst hres
  refine T ?_
  refine C q1 F210 ?_
  refine T ?_
  refine C qd F211 ?_
  refine T ?_
  refine C qv F219 ?_
  refine T ?_
  refine C qa F213 ?_
  refine T ?_
  refine Ag 4 (Bj emptyN) Y (.cons .nil (.cons .nil (.cons .nil (.cons .nil (.cons .nil (.cons .nil (.cons .nil (.cons .nil .nil)))))))) ?_
  exact D
 have g3:decide (dm<0)=false:=decide_eq_false kc
 rw[if_neg kc]at hres
 obtain ⟨k,rfl,hkl⟩:=hdr.resolve_left kc
 clear hdr
 have hkl0:((k:Nat):Int).toNat<n.domains.length:=hkl
 have hnk:nth n.domains (k:Int)=n.domains[((k:Nat):Int).toNat]'hkl0:=As hkl0
 have him:(n.domains[((k:Nat):Int).toNat]'hkl0).irb=-1∨0≤(n.domains[((k:Nat):Int).toNat]'hkl0).irb:=Aov hr hkl
 rw[hnk]at hres
 by_cases kd:0≤(n.domains[((k:Nat):Int).toNat]'hkl0).irb
 ·have g4:((n.domains[((k:Nat):Int).toNat]'hkl0).irb != -1)=true:=by rw[bne_iff_ne];omega
  rw[if_pos (.inl kd)]at hres
  subst hres
  refine T ?_
  refine C q1 F210 ?_
  refine T ?_
  refine C qd F211 ?_
  refine T ?_
  refine C qv F219 ?_
  refine T ?_
  refine C qa F213 ?_
  refine T ?_
  refine Ag 4 (Bj emptyN) Y (.cons .nil (.cons .nil (.cons .nil (.cons .nil (.cons .nil (.cons .nil (.cons .nil (.cons .nil .nil)))))))) ?_
  exact D
 have g4:((n.domains[((k:Nat):Int).toNat]'hkl0).irb != -1)=false:=by rw[bne_eq_false_iff_eq];omega
 cases cl with
 | true =>
  rw[if_pos (.inr rfl)]at hres
  subst hres
  refine T ?_
  refine C q1 F210 ?_
  refine T ?_
  refine C qd F211 ?_
  refine T ?_
  refine C qv F219 ?_
  refine T ?_
  refine C qa F213 ?_
  refine T ?_
  refine C qt F220 ?_
  refine T ?_
  refine Ag 4 (Bj emptyN) Y (.cons .nil (.cons .nil (.cons .nil (.cons .nil (.cons .nil (.cons .nil (.cons .nil (.cons .nil .nil)))))))) ?_
  exact D
 | false =>
 rw[if_neg (fun h=>h.elim kd y_)]at hres
 have hne:n.domains≠[]:=fun e=>by rw[e]at hkl;cases hkl
 subst hres
 refine T ?_
 refine C q1 F210 ?_
 refine T ?_
 refine C qd F211 ?_
 refine T ?_
 refine C qv F219 ?_
 refine T ?_
 refine C qa F213 ?_
 refine T ?_
 refine C qt F220 ?_
 refine T ?_
 refine X (Af [(0,901),(1,902),(2,903),(3,904),(4,905),(5,906),(6,907),(7,908)] Y F137 qcopy Y W Y V) ?_
 refine T ?_
 refine⟨hne,?_⟩
 refine T ?_
 refine⟨(⟨(n.domains[((k:Nat):Int).toNat]'hkl0).dev,(n.domains[((k:Nat):Int).toNat]'hkl0).vlan,(n.domains[((k:Nat):Int).toNat]'hkl0).vni,(n.irbs.length:Int),(n.domains[((k:Nat):Int).toNat]'hkl0).row,(n.domains[((k:Nat):Int).toNat]'hkl0).peers⟩:Domain),Y,Y,?_⟩
 refine T ?_
 refine cD qv F219 ?_
 refine T ?_
 refine Xd (Ak Γ.toTy 82 Y Y Y Y Y (.row Y) (.lit (e:=Cf) (l:=[(⟨l.row,(k:Int),vf,l.addr,l.bits⟩:Irb)]) Y Y) y_ (by simp only[List.length_singleton];omega) (by simp only[List.length_singleton];omega)) ?_
 refine T ?_
 refine Ac 901 Y ?_
 refine Ac 902 Y ?_
 refine Ac 903 Y ?_
 refine Ac 904 Y ?_
 refine Ac 905 Y ?_
 refine Ac 906 Y ?_
 refine Ac 907 Y ?_
 refine Ac 82 Y ?_
 exact D
end Go.Sy.YtjenpnjajjplkaaGreatDoor
