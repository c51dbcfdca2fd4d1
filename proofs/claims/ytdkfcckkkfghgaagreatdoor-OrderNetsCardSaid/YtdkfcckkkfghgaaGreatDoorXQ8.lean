/-
  NB6 NB7 NB8 NB9 NB10 NB11 NB12 NB13 NB16 NB17 NB18 NB19 I50 NB20 I22 I23 I24 I62: parts of a proof, joined by program.
-/
import Derived.Test.YtdkfcckkkfghgaaGreatDoorXQ7
import Derived.Test.YtdkfcckkkfghgaaGreatDoorXQ5
import Derived.Test.YtdkfcckkkfghgaaGreatDoorXQ6
import Derived.Test.YtdkfcckkkfghgaaGreatDoorXQ3
import Derived.Tactics
import Derived.Tactics2
import Derived.Defers
import Derived.Laws.Pointers
import Derived.Laws.LoneSync
import Derived.RegionTactic
import Derived.RegionCalls
import Derived.ChangeAlike
import Derived.Laws.NewBlocks
set_option linter.all false
set_option linter.unusedVariables false
set_option linter.unusedSimpArgs false
set_option linter.deprecated false
namespace Go.Sy.YtdkfcckkkfghgaaGreatDoor
open Go.Proofs
attribute [local irreducible] Go.Sy.G Go.Sy.DR
set_option maxRecDepth 100000
set_option maxHeartbeats 4000000
theorem T5 (l:List Static) (p:Static→Bool) (f:FuncId) (first cap:List SV) (hc:(SV.clo (.func f) first cap).inn []=true) (hf:∀ x∈l,Hg Tryz.prog f (first++[Bb x]++cap) (Ab (p x))) (hl:Ax l) :
  Sy.Spec Tryz.prog 210 [.sl 4 Bb l,.clo (.func f) first cap] [] (Aa (B4 p l)) []:=cT F210 Tryz.ntmps210 fun F hF=>by
 unfold Ax at hl
 have hin:∀ x:Static,Bn [] (first++[Bb x]++cap)=true:=fun x=>Dd hc rfl
 ((conv=>whnf);repeat((first|refine aF ?_|refine aT ?_);(first|refine rG Γ hm ?_|refine rD Γ hm y_ ?_);conv=>whnf))
 refine Bf l.length (fun j=>I2 (fun _ x=>!(p x)) l j) (fun j=>[(0,.sl 4 Bb l),(1,.clo (.func f) first cap),(7,Aa l.length),(8,Aa j)]) (fun _=>[]) [] (Bt _ _) ⟨⟨q_,q_,Ay _,hc,q_,q_,q_,q_,z_⟩,z_,q_,q_⟩ ?_
 intro j hj hI
 ((first|refine rG Γ hm ?_|refine rD Γ hm y_ ?_);(conv=>whnf);repeat((first|refine aF ?_|refine aT ?_);(first|refine rG Γ hm ?_|refine rD Γ hm y_ ?_);conv=>whnf))
 refine⟨fun h=>?_,fun h=>?_⟩
 ·have h:=of_decide_eq_true h
  have hj2:j<l.length:=by omega
  ((first|refine rG Γ hm ?_|refine rD Γ hm y_ ?_);(conv=>whnf);repeat((first|refine aF ?_|refine aT ?_);(first|refine rG Γ hm ?_|refine rD Γ hm y_ ?_);conv=>whnf))
  refine⟨q_,by omega,by omega,?_⟩
  ((conv=>whnf);repeat((first|refine aF ?_|refine aT ?_);(first|refine rG Γ hm ?_|refine rD Γ hm y_ ?_);conv=>whnf))
  refine Iy (hf l[j] (List.getElem_mem hj2)) q_ q_ q_ (by simp only[hin];rfl) q_ q_ ?_
  ((first|refine rG Γ hm ?_|refine rD Γ hm y_ ?_);(conv=>whnf);repeat((first|refine aF ?_|refine aT ?_);(first|refine rG Γ hm ?_|refine rD Γ hm y_ ?_);conv=>whnf))
  refine⟨fun h2=>?_,fun h2=>?_⟩
  ·((first|refine rG Γ hm ?_|refine rD Γ hm y_ ?_);(conv=>whnf);repeat((first|refine aF ?_|refine aT ?_);(first|refine rG Γ hm ?_|refine rD Γ hm y_ ?_);conv=>whnf))
   refine Aw q_ (.cons .tmp .nil) (congrArg Aa ?_) q_
   exact Di hj2 (fun i hi hij=>by simpa using hI i hi hij) h2
  ·((first|refine rG Γ hm ?_|refine rD Γ hm y_ ?_);(conv=>whnf);repeat((first|refine aF ?_|refine aT ?_);(first|refine rG Γ hm ?_|refine rD Γ hm y_ ?_);conv=>whnf))
   refine iL ?_
   ((conv=>whnf);repeat((first|refine aF ?_|refine aT ?_);(first|refine rG Γ hm ?_|refine rD Γ hm y_ ?_);conv=>whnf))
   exact Bi [] hI hj2 (Bm hI hj2 (by simp[h2])) ⟨⟨q_,q_,Ay _,hc,q_,q_,q_,q_,z_⟩,z_,q_,q_⟩
 ·have h:=of_decide_eq_false h
  ((first|refine rG Γ hm ?_|refine rD Γ hm y_ ?_);(conv=>whnf);repeat((first|refine aF ?_|refine aT ?_);(first|refine rG Γ hm ?_|refine rD Γ hm y_ ?_);conv=>whnf))
  refine Aw q_ (.cons .tmp .nil) (congrArg Aa ?_) q_
  exact Hc (fun i hi=>by simpa using hI i hi j_)
theorem An7 (dom m:Int) (s:Static):Sy.Spec Tryz.prog 211 [Bb s,.ref 1 (Aa dom) 0,.ref 1 (Dp m) 0] [] (Ab (s.domain == dom && s.mac == m)) []:=cT F211 Tryz.ntmps211 fun F hF=>by
 cases h:(s.domain == dom)
 ·refine T ?_
  exact D
 ·refine T ?_
  exact D
theorem An6 (n:Net) (hn:n.Fin) (dom m:Int):Sy.Spec Tryz.prog 131 [Av n,Aa dom,Dp m] [] (Aa (Uf n dom m)) []:=cT F131 Tryz.ntmps131 fun F hF=>by
 have q:=T5 n.statics (fun s:Static=>s.domain == dom && s.mac == m) 211 [] [.ref 1 (Aa dom) 0,.ref 1 (Dp m) 0] rfl (fun x _=>⟨⟨_,_,F211⟩,An7 dom m x⟩) hn.statics
 ((conv=>whnf);repeat((first|refine aF ?_|refine aT ?_);(first|refine rG Γ hm ?_|refine rD Γ hm y_ ?_);conv=>whnf))
 refine B1 4 1 (Aa dom) q_ q_ q_ ?_
 refine B1 5 1 (Dp m) q_ q_ q_ ?_
 refine c0 q F210 ?_
 ((first|refine rG Γ hm ?_|refine rD Γ hm y_ ?_);(conv=>whnf);repeat((first|refine aF ?_|refine aT ?_);(first|refine rG Γ hm ?_|refine rD Γ hm y_ ?_);conv=>whnf))
 exact dN
theorem Ahf (n:Net) (hn:n.Fin) (l:LineM) (hl:LineW l):Sy.Spec Tryz.prog 75 [Av n,Ad l] [] (.tup [Av (putStatic n l).1,Aa (putStatic n l).2]) []:=cT F75 Tryz.ntmps75 fun F hF=>by
 have qr:=B8 l hl
 have qn:=Cb n hn
 have qcopy:=Mg n hn
 have hres:=putStatic.eq_1 n l
 dsimp only at hres
 have hf:=fitsB.eq_1 n l 4
 generalize putStatic n l=res at *
 generalize fitsB n l 4=f at *
 cases h1:(l.kind == 4) with
 | false =>
  have g1:(l.kind != 4)=true:=by rw[bne,h1];rfl
  rw[h1,Bool.false_and]at hf
  rw[hf,if_pos rfl]at hres
  subst hres
  refine T ?_
  refine Am 4 (C3 emptyN) q_ (.cons .nil (.cons .nil (.cons .nil (.cons .nil (.cons .nil (.cons .nil (.cons .nil (.cons .nil .nil)))))))) ?_
  refine T ?_
  exact D
 | true =>
 have g1:(l.kind != 4)=false:=by rw[bne,h1];rfl
 rw[h1,Bool.true_and]at hf
 cases h2:Ao l with
 | false =>
  rw[h2]at qr hf
  rw[hf,Bool.false_and,if_pos rfl]at hres
  subst hres
  refine T ?_
  refine C qr F108 ?_
  refine Am 4 (C3 emptyN) q_ (.cons .nil (.cons .nil (.cons .nil (.cons .nil (.cons .nil (.cons .nil (.cons .nil (.cons .nil .nil)))))))) ?_
  refine T ?_
  exact D
 | true =>
 rw[h2]at qr hf
 cases hr:Ah n with
 | false =>
  rw[hr]at qn hf
  rw[hf,Bool.and_false,if_pos rfl]at hres
  subst hres
  refine T ?_
  refine C qr F108 ?_
  refine C qn F81 ?_
  refine Am 4 (C3 emptyN) q_ (.cons .nil (.cons .nil (.cons .nil (.cons .nil (.cons .nil (.cons .nil (.cons .nil (.cons .nil .nil)))))))) ?_
  refine T ?_
  exact D
 | true =>
 rw[hr]at qn hf
 rw[hf,if_neg qe]at hres
 have q1:=Il n hn hr l.dev
 have q2:=Sk n hn hr (Ap n l.dev) l.port
 have q3:=Jc n hn hr (Ap n l.dev) l.vlan
 have q5:=An6 n hn (Bj n (Ap n l.dev) l.vlan) l.mac
 have hpr:E9 n (Ap n l.dev) l.port<0∨∃ k:Nat,E9 n (Ap n l.dev) l.port=k∧k<n.ports.length:=by
  by_cases h:E9 n (Ap n l.dev) l.port<0
  ·exact .inl h
  ·exact .inr (I9 h)
 have hfl:n.statics.length<2147483648:=hn.statics
 generalize E9 n (Ap n l.dev) l.port=pt at *
 generalize Bj n (Ap n l.dev) l.vlan=dm at *
 generalize Ap n l.dev=dv at *
 generalize Uf n dm l.mac=en at *
 by_cases h3:dv<0
 ·have g3:decide (dv<0)=true:=decide_eq_true h3
  rw[if_pos (.inl h3)]at hres
  subst hres
  refine T ?_
  refine C qr F108 ?_
  refine C qn F81 ?_
  refine C q1 F125 ?_
  refine C q2 F126 ?_
  refine C q3 F129 ?_
  refine Am 4 (C3 emptyN) q_ (.cons .nil (.cons .nil (.cons .nil (.cons .nil (.cons .nil (.cons .nil (.cons .nil (.cons .nil .nil)))))))) ?_
  refine T ?_
  exact D
 have g3:decide (dv<0)=false:=decide_eq_false h3
 by_cases h4:pt<0
 ·have g4:decide (pt<0)=true:=decide_eq_true h4
  rw[if_pos (.inr h4)]at hres
  subst hres
  refine T ?_
  refine C qr F108 ?_
  refine C qn F81 ?_
  refine C q1 F125 ?_
  refine C q2 F126 ?_
  refine C q3 F129 ?_
  refine Am 4 (C3 emptyN) q_ (.cons .nil (.cons .nil (.cons .nil (.cons .nil (.cons .nil (.cons .nil (.cons .nil (.cons .nil .nil)))))))) ?_
  refine T ?_
  exact D
 have g4:decide (pt<0)=false:=decide_eq_false h4
 rw[if_neg (fun h=>h.elim h3 h4)]at hres
 obtain ⟨p,hp,hpl⟩:=hpr.resolve_left h4
 subst hp
 clear hpr
 have hp0:((p:Nat):Int).toNat<n.ports.length:=hpl
 have hnp:nth n.ports (p:Int)=n.ports[((p:Nat):Int).toNat]'hp0:=A1 hp0
 rw[hnp]at hres
 by_cases h5:dm<0
 ·have g5:decide (dm<0)=true:=decide_eq_true h5
  rw[if_pos (.inl h5)]at hres
  subst hres
  refine T ?_
  refine C qr F108 ?_
  refine C qn F81 ?_
  refine C q1 F125 ?_
  refine C q2 F126 ?_
  refine C q3 F129 ?_
  refine Am 4 (C3 emptyN) q_ (.cons .nil (.cons .nil (.cons .nil (.cons .nil (.cons .nil (.cons .nil (.cons .nil (.cons .nil .nil)))))))) ?_
  refine T ?_
  exact D
 have g5:decide (dm<0)=false:=decide_eq_false h5
 have q4:=Acn (n.ports[((p:Nat):Int).toNat]'hp0) l.vlan (hn.tagged _ (List.getElem_mem hp0))
 cases hb:Ck (n.ports[((p:Nat):Int).toNat]'hp0) l.vlan with
 | false =>
  rw[hb]at q4
  rw[if_pos (.inr hb)]at hres
  subst hres
  refine T ?_
  refine C qr F108 ?_
  refine C qn F81 ?_
  refine C q1 F125 ?_
  refine C q2 F126 ?_
  refine C q3 F129 ?_
  refine C q4 F130 ?_
  refine Am 4 (C3 emptyN) q_ (.cons .nil (.cons .nil (.cons .nil (.cons .nil (.cons .nil (.cons .nil (.cons .nil (.cons .nil .nil)))))))) ?_
  refine T ?_
  exact D
 | true =>
 rw[hb]at q4
 rw[if_neg (fun h=>h.elim h5 (by rw[hb];simp))]at hres
 by_cases h6:0≤en
 ·have g6:decide (en≥0)=true:=decide_eq_true h6
  rw[if_pos h6]at hres
  subst hres
  refine T ?_
  refine C qr F108 ?_
  refine C qn F81 ?_
  refine C q1 F125 ?_
  refine C q2 F126 ?_
  refine C q3 F129 ?_
  refine C q4 F130 ?_
  refine C q5 F131 ?_
  refine Am 4 (C3 emptyN) q_ (.cons .nil (.cons .nil (.cons .nil (.cons .nil (.cons .nil (.cons .nil (.cons .nil (.cons .nil .nil)))))))) ?_
  refine T ?_
  exact D
 have g6:decide (en≥0)=false:=decide_eq_false h6
 rw[if_neg h6]at hres
 by_cases h7:n.statics.length=64
 ·have g7:((n.statics.length:Int) == 64)=true:=by rw[beq_iff_eq];omega
  rw[if_pos h7]at hres
  subst hres
  refine T ?_
  refine C qr F108 ?_
  refine C qn F81 ?_
  refine C q1 F125 ?_
  refine C q2 F126 ?_
  refine C q3 F129 ?_
  refine C q4 F130 ?_
  refine C q5 F131 ?_
  refine Am 4 (C3 emptyN) q_ (.cons .nil (.cons .nil (.cons .nil (.cons .nil (.cons .nil (.cons .nil (.cons .nil (.cons .nil .nil)))))))) ?_
  refine T ?_
  exact D
 have g7:((n.statics.length:Int) == 64)=false:=by rw[beq_eq_false_iff_ne];omega
 rw[if_neg h7]at hres
 subst hres
 refine T ?_
 refine C qr F108 ?_
 refine C qn F81 ?_
 refine C q1 F125 ?_
 refine C q2 F126 ?_
 refine C q3 F129 ?_
 refine C q4 F130 ?_
 refine C q5 F131 ?_
 refine X (Ac [(0,901),(1,902),(2,903),(3,904),(4,905),(5,906),(6,907),(7,908)] q_ F83 qcopy q_ W q_ V) ?_
 refine X (Aj Γ.toTy 87 q_ q_ q_ q_ q_ (.row q_) (.lit (e:=Bb) (l:=[(⟨l.row,dm,(p:Int),l.mac⟩:Static)]) q_ q_) qd (by simp only[List.length_singleton];omega) (by simp only[List.length_singleton];omega)) ?_
 refine Ai 901 q_ ?_
 refine Ai 902 q_ ?_
 refine Ai 903 q_ ?_
 refine Ai 904 q_ ?_
 refine Ai 87 q_ ?_
 refine Ai 906 q_ ?_
 refine Ai 907 q_ ?_
 refine Ai 908 q_ ?_
 exact D
theorem Afd (n:Net) (hn:n.Fin) (hr:Ah n=true) (dev port:ByteArray):Sy.Spec Tryz.prog 128 [Av n,Ae dev,Ae port] [] (Aa (endI n dev port)) []:=cT F128 Tryz.ntmps128 fun F hF=>by
 have q1:=Il n hn hr dev
 have q2:=Sk n hn hr (Ap n dev) port
 have hres:=endI.eq_1 n dev port
 generalize endI n dev port=res at *
 generalize E9 n (Ap n dev) port=pt at *
 generalize Ap n dev=d at *
 by_cases h:d<0
 ·have g:decide (d<0)=true:=decide_eq_true h
  rw[if_pos h]at hres
  subst hres
  refine T ?_
  refine C q1 F125 ?_
  exact D
 ·have g:decide (d<0)=false:=decide_eq_false h
  rw[if_neg h]at hres
  subst hres
  refine T ?_
  refine C q1 F125 ?_
  refine C q2 F126 ?_
  exact D
theorem end_range {n:Net} {dev port:ByteArray} (h:¬ endI n dev port<0):∃ k:Nat,endI n dev port=k∧k<n.ports.length:=by
 unfold endI at h ⊢
 split
 ·rename_i h1;rw[if_pos h1]at h;omega
 ·rename_i h1;rw[if_neg h1]at h;exact I9 h
theorem Aok (n:Net) (hn:n.Fin) (l:LineM) (hl:LineW l):Sy.Spec Tryz.prog 74 [Av n,Ad l] [] (.tup [Av (putLink n l).1,Aa (putLink n l).2]) []:=cT F74 Tryz.ntmps74 fun F hF=>by
 have qr:=B8 l hl
 have qn:=Cb n hn
 have qcopy:=Mg n hn
 have hres:=putLink.eq_1 n l
 dsimp only at hres
 have hf:=fitsB.eq_1 n l 3
 generalize putLink n l=res at *
 generalize fitsB n l 3=f at *
 cases h1:(l.kind == 3) with
 | false =>
  have g1:(l.kind != 3)=true:=by rw[bne,h1];rfl
  rw[h1,Bool.false_and]at hf
  rw[hf,if_pos rfl]at hres
  subst hres
  refine T ?_
  refine Am 4 (C3 emptyN) q_ (.cons .nil (.cons .nil (.cons .nil (.cons .nil (.cons .nil (.cons .nil (.cons .nil (.cons .nil .nil)))))))) ?_
  refine T ?_
  exact D
 | true =>
 have g1:(l.kind != 3)=false:=by rw[bne,h1];rfl
 rw[h1,Bool.true_and]at hf
 cases h2:Ao l with
 | false =>
  rw[h2]at qr hf
  rw[hf,Bool.false_and,if_pos rfl]at hres
  subst hres
  refine T ?_
  refine C qr F108 ?_
  refine Am 4 (C3 emptyN) q_ (.cons .nil (.cons .nil (.cons .nil (.cons .nil (.cons .nil (.cons .nil (.cons .nil (.cons .nil .nil)))))))) ?_
  refine T ?_
  exact D
 | true =>
 rw[h2]at qr hf
 cases hr:Ah n with
 | false =>
  rw[hr]at qn hf
  rw[hf,Bool.and_false,if_pos rfl]at hres
  subst hres
  refine T ?_
  refine C qr F108 ?_
  refine C qn F81 ?_
  refine Am 4 (C3 emptyN) q_ (.cons .nil (.cons .nil (.cons .nil (.cons .nil (.cons .nil (.cons .nil (.cons .nil (.cons .nil .nil)))))))) ?_
  refine T ?_
  exact D
 | true =>
 rw[hr]at qn hf
 rw[hf,if_neg qe]at hres
 have q1:=Afd n hn hr l.dev l.port
 have q2:=Afd n hn hr l.peer l.far
 have ra:=@end_range n l.dev l.port
 have rb:=@end_range n l.peer l.far
 have hfl:n.links.length<2147483648:=hn.links
 generalize endI n l.dev l.port=a at *
 generalize endI n l.peer l.far=b at *
 refine T ?_
 refine C qr F108 ?_
 refine C qn F81 ?_
 refine C q1 F128 ?_
 refine C q2 F128 ?_
 refine Xd (Afs Γ.toTy q_ q_ q_ q_ q_ q_) ?_
 refine T ?_
 refine B1 2 8 (Av n) q_ q_ q_ ?_
 refine B1 3 17 (Ad l) q_ q_ q_ ?_
 refine B1 6 2 (.agg [Aa a,Aa b]) q_ q_ q_ ?_
 refine Bk (fun j:Nat=>j≤2∧(1≤j→¬ a<0)∧(2≤j→¬ b<0)) (fun j=>[(2,.ref 8 (Av n) 0),(3,.ref 17 (Ad l) 0),(4,.ptr 1001 0),(6,.ref 2 (.agg [Aa a,Aa b]) 0),(41,.agg [Aa a,Aa b]),(42,Aa j)]) (fun _=>[(1001,.box [.val (.slice none 0 0),.val (.slice none 0 0),.val (.slice none 0 0),.val (.slice none 0 0),.val (.slice none 0 0),.val (.slice none 0 0),.val (.slice none 0 0),.val (.slice none 0 0)])]) (fun j=>2-j) 0 [(1001,4)] ⟨by omega,by omega,by omega⟩ U ?_
 rintro j ⟨hj,ja,jb⟩
 have hc:j=0∨j=1∨j=2:=by omega
 rcases hc with rfl | rfl | rfl
 ·by_cases ka:a<0
  ·have g1:decide (a<0)=true:=decide_eq_true ka
   rw[if_pos (.inl ka)]at hres
   subst hres
   refine T ?_
   refine X (Dn (k:=.int .i64) Γ.toTy q_ q_ q_ Tryz.underlying3 q_ q_ qd qd q_) ?_
   refine Am 1001 (C3 emptyN) q_ (.cons .nil (.cons .nil (.cons .nil (.cons .nil (.cons .nil (.cons .nil (.cons .nil (.cons .nil .nil)))))))) ?_
   refine T ?_
   exact D
  ·have g1:decide (a<0)=false:=decide_eq_false ka
   refine T ?_
   refine X (Dn (k:=.int .i64) Γ.toTy q_ q_ q_ Tryz.underlying3 q_ q_ qd qd q_) ?_
   exact Ar 1 [] ⟨by omega,fun _=>ka,by omega⟩ j_ U
 ·have ka:=ja j_
  by_cases kb:b<0
  ·have g1:decide (b<0)=true:=decide_eq_true kb
   rw[if_pos (.inr kb)]at hres
   subst hres
   refine T ?_
   refine X (Dn (k:=.int .i64) Γ.toTy q_ q_ q_ Tryz.underlying3 q_ q_ qd qd q_) ?_
   refine Am 1001 (C3 emptyN) q_ (.cons .nil (.cons .nil (.cons .nil (.cons .nil (.cons .nil (.cons .nil (.cons .nil (.cons .nil .nil)))))))) ?_
   refine T ?_
   exact D
  ·have g1:decide (b<0)=false:=decide_eq_false kb
   refine T ?_
   refine X (Dn (k:=.int .i64) Γ.toTy q_ q_ q_ Tryz.underlying3 q_ q_ qd qd q_) ?_
   exact Ar 2 [] ⟨by omega,fun _=>ka,fun _=>kb⟩ j_ U
 ·have ka:=ja j_
  have kb:=jb j_
  obtain ⟨a,rfl,hal⟩:=ra ka
  obtain ⟨b,rfl,hbl⟩:=rb kb
  rw[if_neg (fun h=>h.elim ka kb)]at hres
  clear ja jb ra rb hj
  have ha0:((a:Nat):Int).toNat<n.ports.length:=hal
  have hb0:((b:Nat):Int).toNat<n.ports.length:=hbl
  have hna:nth n.ports (a:Int)=n.ports[((a:Nat):Int).toNat]'ha0:=A1 ha0
  have hnb:nth n.ports (b:Int)=n.ports[((b:Nat):Int).toNat]'hb0:=A1 hb0
  rw[hna,hnb]at hres
  by_cases k1:(n.ports[((a:Nat):Int).toNat]'ha0).dev=(n.ports[((b:Nat):Int).toNat]'hb0).dev
  ·have g1:((n.ports[((a:Nat):Int).toNat]'ha0).dev == (n.ports[((b:Nat):Int).toNat]'hb0).dev)=true:=by rw[beq_iff_eq];exact k1
   rw[if_pos (.inl k1)]at hres
   subst hres
   refine T ?_
   refine Am 1001 (C3 emptyN) q_ (.cons .nil (.cons .nil (.cons .nil (.cons .nil (.cons .nil (.cons .nil (.cons .nil (.cons .nil .nil)))))))) ?_
   refine T ?_
   exact D
  have g1:((n.ports[((a:Nat):Int).toNat]'ha0).dev == (n.ports[((b:Nat):Int).toNat]'hb0).dev)=false:=by rw[beq_eq_false_iff_ne];exact k1
  by_cases k2:0≤(n.ports[((a:Nat):Int).toNat]'ha0).link
  ·have g2:decide ((n.ports[((a:Nat):Int).toNat]'ha0).link≥0)=true:=decide_eq_true k2
   rw[if_pos (.inr (.inl k2))]at hres
   subst hres
   refine T ?_
   refine Am 1001 (C3 emptyN) q_ (.cons .nil (.cons .nil (.cons .nil (.cons .nil (.cons .nil (.cons .nil (.cons .nil (.cons .nil .nil)))))))) ?_
   refine T ?_
   exact D
  have g2:decide ((n.ports[((a:Nat):Int).toNat]'ha0).link≥0)=false:=decide_eq_false k2
  by_cases k3:0≤(n.ports[((b:Nat):Int).toNat]'hb0).link
  ·have g3:decide ((n.ports[((b:Nat):Int).toNat]'hb0).link≥0)=true:=decide_eq_true k3
   rw[if_pos (.inr (.inr k3))]at hres
   subst hres
   refine T ?_
   refine Am 1001 (C3 emptyN) q_ (.cons .nil (.cons .nil (.cons .nil (.cons .nil (.cons .nil (.cons .nil (.cons .nil (.cons .nil .nil)))))))) ?_
   refine T ?_
   exact D
  have g3:decide ((n.ports[((b:Nat):Int).toNat]'hb0).link≥0)=false:=decide_eq_false k3
  rw[if_neg (by rintro (h | h | h);exact k1 h;exact k2 h;exact k3 h)]at hres
  by_cases k4:n.links.length=20
  ·have g4:((n.links.length:Int) == 20)=true:=by rw[beq_iff_eq];omega
   rw[if_pos k4]at hres
   subst hres
   refine T ?_
   refine Am 1001 (C3 emptyN) q_ (.cons .nil (.cons .nil (.cons .nil (.cons .nil (.cons .nil (.cons .nil (.cons .nil (.cons .nil .nil)))))))) ?_
   refine T ?_
   exact D
  have g4:((n.links.length:Int) == 20)=false:=by rw[beq_eq_false_iff_ne];omega
  rw[if_neg k4]at hres
  have t1:Cv n.ports (a:Int) (n.links.length:Int)=n.ports.set ((a:Nat):Int).toNat (⟨(n.ports[((a:Nat):Int).toNat]'ha0).row,(n.ports[((a:Nat):Int).toNat]'ha0).dev,(n.ports[((a:Nat):Int).toNat]'ha0).native,(n.ports[((a:Nat):Int).toNat]'ha0).cost,(n.links.length:Int),(n.ports[((a:Nat):Int).toNat]'ha0).name,(n.ports[((a:Nat):Int).toNat]'ha0).tagged⟩:Port):=by rw[Cv,hna]
  have l1:(Cv n.ports (a:Int) (n.links.length:Int)).length=n.ports.length:=by rw[Cv,List.length_set]
  have hne:n.ports≠[]:=fun e=>by rw[e]at hal;cases hal
  obtain ⟨P1,hP1⟩:∃ P1,Cv n.ports (a:Int) (n.links.length:Int)=P1:=⟨_,rfl⟩
  rw[hP1]at hres t1 l1
  have hb1:((b:Nat):Int).toNat<P1.length:=by rw[l1];exact hb0
  have hn1:nth P1 (b:Int)=P1[((b:Nat):Int).toNat]'hb1:=A1 hb1
  have hne1:P1≠[]:=fun e=>by rw[e]at hb1;cases hb1
  have t2:Cv P1 (b:Int) (n.links.length:Int)=P1.set ((b:Nat):Int).toNat (⟨(P1[((b:Nat):Int).toNat]'hb1).row,(P1[((b:Nat):Int).toNat]'hb1).dev,(P1[((b:Nat):Int).toNat]'hb1).native,(P1[((b:Nat):Int).toNat]'hb1).cost,(n.links.length:Int),(P1[((b:Nat):Int).toNat]'hb1).name,(P1[((b:Nat):Int).toNat]'hb1).tagged⟩:Port):=by rw[Cv,hn1]
  obtain ⟨P2,hP2⟩:∃ P2,Cv P1 (b:Int) (n.links.length:Int)=P2:=⟨_,rfl⟩
  rw[hP2]at hres t2
  subst hres
  refine T ?_
  refine X (Ac [(0,901),(1,902),(2,903),(3,904),(4,905),(5,906),(6,907),(7,908)] q_ F83 qcopy q_ W q_ V) ?_
  refine Bk (fun j:Nat=>j≤2) (fun j=>[(3,.ref 17 (Ad l) 0),(4,.ptr 1001 0),(6,.ref 2 (.agg [Aa (a:Int),Aa (b:Int)]) 0),(11,.ptr 1002 0),(86,.agg [Aa (a:Int),Aa (b:Int)]),(87,Aa j)]) (fun j=>[(1001,.box [.val (.slice none 0 0),.val (.slice none 0 0),.val (.slice none 0 0),.val (.slice none 0 0),.val (.slice none 0 0),.val (.slice none 0 0),.val (.slice none 0 0),.val (.slice none 0 0)]),(1002,.box [.osl 901,.osl 902,.osl 903,.osl 904,.osl 905,.osl 906,.osl 907,.osl 908]),(901,.row 5 A2 n.devices),(902,.row 7 Bd (if j=0 then n.ports else if j=1 then P1 else P2)),(903,.row 3 Cm n.links),(904,.row 6 An n.domains),(905,.row 4 Bb n.statics),(906,.row 4 Be n.floods),(907,.row 5 Ct n.vrfs),(908,.row 5 Cr n.irbs)]) (fun j=>2-j) 0 [(1002,11)] j_ U ?_
  intro j hj
  have hc:j=0∨j=1∨j=2:=by omega
  rcases hc with rfl | rfl | rfl
  ·rw[if_pos rfl]
   refine T ?_
   refine X (Dn (k:=.int .i64) Γ.toTy q_ q_ q_ Tryz.underlying3 q_ q_ qd qd q_) ?_
   refine T ?_
   refine⟨hne,?_⟩
   refine T ?_
   refine⟨(⟨(n.ports[((a:Nat):Int).toNat]'ha0).row,(n.ports[((a:Nat):Int).toNat]'ha0).dev,(n.ports[((a:Nat):Int).toNat]'ha0).native,(n.ports[((a:Nat):Int).toNat]'ha0).cost,(n.links.length:Int),(n.ports[((a:Nat):Int).toNat]'ha0).name,(n.ports[((a:Nat):Int).toNat]'ha0).tagged⟩:Port),q_,q_,?_⟩
   refine T ?_
   exact Ar 1 [] j_ j_ ⟨⟨q_,q_,q_,q_,q_,q_,q_,q_,q_,q_,q_,q_,z_⟩,⟨.inl q_,q_,.inl q_,q_,.inl q_,q_,.inl (congrArg (Ob.row 7 Bd) t1),q_,.inl q_,q_,.inl q_,q_,.inl q_,q_,.inl q_,q_,.inl q_,q_,.inl q_,q_,z_⟩,q_,q_⟩
  ·rw[if_neg qd,if_pos rfl]
   refine T ?_
   refine X (Dn (k:=.int .i64) Γ.toTy q_ q_ q_ Tryz.underlying3 q_ q_ qd qd q_) ?_
   refine T ?_
   refine⟨hne1,?_⟩
   refine T ?_
   refine⟨(⟨(P1[((b:Nat):Int).toNat]'hb1).row,(P1[((b:Nat):Int).toNat]'hb1).dev,(P1[((b:Nat):Int).toNat]'hb1).native,(P1[((b:Nat):Int).toNat]'hb1).cost,(n.links.length:Int),(P1[((b:Nat):Int).toNat]'hb1).name,(P1[((b:Nat):Int).toNat]'hb1).tagged⟩:Port),q_,q_,?_⟩
   refine T ?_
   exact Ar 2 [] j_ j_ ⟨⟨q_,q_,q_,q_,q_,q_,q_,q_,q_,q_,q_,q_,z_⟩,⟨.inl q_,q_,.inl q_,q_,.inl q_,q_,.inl (congrArg (Ob.row 7 Bd) t2),q_,.inl q_,q_,.inl q_,q_,.inl q_,q_,.inl q_,q_,.inl q_,q_,.inl q_,q_,z_⟩,q_,q_⟩
  ·rw[if_neg qd,if_neg qd]
   refine T ?_
   refine X (Aj Γ.toTy 109 q_ q_ q_ q_ q_ (.row q_) (.lit (e:=Cm) (l:=[(⟨l.row,(a:Int),(b:Int)⟩:Link)]) q_ q_) qd (by simp only[List.length_singleton];omega) (by simp only[List.length_singleton];omega)) ?_
   refine T ?_
   refine Ai 901 q_ ?_
   refine Ai 902 q_ ?_
   refine Ai 109 q_ ?_
   refine Ai 904 q_ ?_
   refine Ai 905 q_ ?_
   refine Ai 906 q_ ?_
   refine Ai 907 q_ ?_
   refine Ai 908 q_ ?_
   exact D
abbrev Aiz (n:Net):Obs:=[(900,.box [.osl 901,.osl 902,.osl 903,.osl 904,.osl 905,.osl 906,.osl 907,.osl 908]),(901,.row 5 A2 n.devices),(902,.row 7 Bd n.ports),(903,.row 3 Cm n.links),(904,.row 6 An n.domains),(905,.row 4 Bb n.statics),(906,.row 4 Be n.floods),(907,.row 5 Ct n.vrfs),(908,.row 5 Cr n.irbs)]
theorem Vz (n:Net) (hn:n.Fin) (l:LineM) (hl:LineW l) (k:Int) (h:fitsB n l k=true):Sy.Spec Tryz.prog 122 [Av n,Ad l,Aa k] [] (.tup [.ptr 900 0,Ab true]) (Aiz n):=cT F122 Tryz.ntmps122 fun F hF=>by
 have qr:=B8 l hl
 have qn:=Cb n hn
 have qcopy:=Mg n hn
 unfold fitsB at h
 simp only[Bool.and_eq_true]at h
 obtain ⟨h1,h2,h3⟩:=h
 have g1:(l.kind != k)=false:=by rw[bne,h1];rfl
 rw[h2]at qr
 rw[h3]at qn
 refine T ?_
 refine C qr F108 ?_
 refine C qn F81 ?_
 refine X (Ac [(0,901),(1,902),(2,903),(3,904),(4,905),(5,906),(6,907),(7,908)] q_ F83 qcopy q_ W q_ V) ?_
 exact done q_ (.cons .tmp (.cons .tmp .nil)) [(900,25)] (Aiz n) (fun _ h=>h) q_ q_ U
theorem Qu (n:Net) (hn:n.Fin) (l:LineM) (hl:LineW l) (k:Int) (h:fitsB n l k=false):Sy.Spec Tryz.prog 122 [Av n,Ad l,Aa k] [] (.tup [.val (.pointer none),Ab false]) []:=cT F122 Tryz.ntmps122 fun F hF=>by
 have qr:=B8 l hl
 have qn:=Cb n hn
 unfold fitsB at h
 cases h1:(l.kind == k) with
 | false =>
  have g1:(l.kind != k)=true:=by rw[bne,h1];rfl
  refine T ?_
  exact D
 | true =>
 have g1:(l.kind != k)=false:=by rw[bne,h1];rfl
 rw[h1,Bool.true_and]at h
 cases h2:Ao l with
 | false =>
  rw[h2]at qr
  refine T ?_
  refine C qr F108 ?_
  exact D
 | true =>
 rw[h2]at qr h
 rw[Bool.true_and]at h
 rw[h]at qn
 refine T ?_
 refine C qr F108 ?_
 refine C qn F81 ?_
 exact D
theorem Ant (l:LineM) (d:Device):Sy.Spec Tryz.prog 124 [A2 d,.ref 17 (Ad l) 0] [] (Ab (d.name == l.dev || d.mac == l.mac)) []:=cT F124 Tryz.ntmps124 fun F hF=>by
 cases h:(d.name == l.dev)
 ·refine T ?_
  exact D
 ·refine T ?_
  exact D
theorem Ai0 (n:Net) (hn:n.Fin) (l:LineM) (hl:LineW l):Sy.Spec Tryz.prog 72 [Av n,Ad l] [] (.tup [Av (putDevice n l).1,Aa (putDevice n l).2]) []:=cT F72 Tryz.ntmps72 fun F hF=>by
 have hres:=putDevice.eq_1 n l
 generalize putDevice n l=res at *
 cases hf:fitsB n l 1 with
 | false =>
  have q1:=Qu n hn l hl 1 hf
  rw[hf,if_pos rfl]at hres
  subst hres
  refine T ?_
  refine C q1 F122 ?_
  refine Am 4 (C3 emptyN) q_ (.cons .nil (.cons .nil (.cons .nil (.cons .nil (.cons .nil (.cons .nil (.cons .nil (.cons .nil .nil)))))))) ?_
  refine T ?_
  exact D
 | true =>
 have q1:=Vz n hn l hl 1 hf
 rw[hf,if_neg qe]at hres
 have qc:=Ot n.devices (fun d=>d.name == l.dev || d.mac == l.mac) 124 [] [.ref 17 (Ad l) 0] rfl (fun d _=>⟨⟨_,_,F124⟩,Ant l d⟩) hn.devices
 rw[Ll]at qc
 have hfl:n.devices.length<2147483648:=hn.devices
 generalize n.devices.any (fun d=>d.name == l.dev || d.mac == l.mac)=cl at *
 cases cl with
 | true =>
  rw[if_pos rfl]at hres
  subst hres
  refine T ?_
  refine X (Ac [] q_ F122 q1 q_ W q_ V) ?_
  refine B1 3 17 (Ad l) q_ q_ q_ ?_
  refine X (Ja [901] q_ F123 qc (.cons (.row q_ q_) (.cons (.refl _) .nil)) q_ q_) ?_
  refine Am 4 (C3 emptyN) q_ (.cons .nil (.cons .nil (.cons .nil (.cons .nil (.cons .nil (.cons .nil (.cons .nil (.cons .nil .nil)))))))) ?_
  refine T ?_
  exact D
 | false =>
 rw[if_neg qe]at hres
 by_cases h5:n.devices.length=8
 ·have g5:((n.devices.length:Int) == 8)=true:=by rw[beq_iff_eq];omega
  rw[if_pos h5]at hres
  subst hres
  refine T ?_
  refine X (Ac [] q_ F122 q1 q_ W q_ V) ?_
  refine B1 3 17 (Ad l) q_ q_ q_ ?_
  refine X (Ja [901] q_ F123 qc (.cons (.row q_ q_) (.cons (.refl _) .nil)) q_ q_) ?_
  refine Am 4 (C3 emptyN) q_ (.cons .nil (.cons .nil (.cons .nil (.cons .nil (.cons .nil (.cons .nil (.cons .nil (.cons .nil .nil)))))))) ?_
  refine T ?_
  exact D
 have g5:((n.devices.length:Int) == 8)=false:=by rw[beq_eq_false_iff_ne];omega
 rw[if_neg h5]at hres
 subst hres
 refine T ?_
 refine X (Ac [] q_ F122 q1 q_ W q_ V) ?_
 refine B1 3 17 (Ad l) q_ q_ q_ ?_
 refine X (Ja [901] q_ F123 qc (.cons (.row q_ q_) (.cons (.refl _) .nil)) q_ q_) ?_
 refine T ?_
 refine Xd (Aj Γ.toTy 52 q_ q_ q_ q_ q_ (.row q_) (.lit (e:=A2) (l:=[(⟨l.row,l.num,l.dev,l.mac,0⟩:Device)]) q_ q_) qd (by simp only[List.length_singleton];omega) (by simp only[List.length_singleton];omega)) ?_
 refine T ?_
 refine Ai 52 q_ ?_
 refine Ai 902 q_ ?_
 refine Ai 903 q_ ?_
 refine Ai 904 q_ ?_
 refine Ai 905 q_ ?_
 refine Ai 906 q_ ?_
 refine Ai 907 q_ ?_
 refine Ai 908 q_ ?_
 exact D
end Go.Sy.YtdkfcckkkfghgaaGreatDoor
namespace Go.Sy
theorem Z3 {P:Program} (Γ:Ty P) {o:Oper} {s:SS} (d q:Nat) {α:Type} {e:α→SV} {l:List α} (z:α) {sv:SV} {t:TypeId} {ti:TI} {et:TypeId} {sz eb:Nat} {ez:List Value} {x y:Operand} {k:Option Nat}
  (h:o.op=.call ⟨.builtin .append,#[x,y],#[t,t]⟩) (hd:s.h d=.fresh) (ht:Γ.get t=some ti) (hk:ti.k=.slice et sz eb ez) (hez:ez.length=sz)
  (hb:BaseT s sz e (ev s x) k l) (hy:ev s y=.osl q) (hq:s.h q=.lit sz [sv]) (hv:∀ (M:Nat→Prop) (w:World) (v:Value),RdD M w sv v→RdD M w (e z) v) (hkk:∀ j,k=some j→j≠d) (hbytes:(l.length+1) * eb≤140737488355328) (h63:l.length+1≤9223372036854775807) :
  Good P o s ⟨.osl d,[q],Hy k d (.row sz e (l++[z]))⟩:=by
 obtain ⟨f,hb,hf⟩:=hb.base
 have hs:AppSrc s sz (ev s y) [q] 1 (Zx [sv]):=by
  rw[hy]
  exact AppSrc.lit (sz:=sz) hq
 refine Wd Γ h hd ht hk hez hb hs hkk hbytes h63 fun κ w hr=>?_
 rcases hr with ⟨_,h2⟩ | ⟨b,cap,cs,T,fr,e1,e2,e3,e4,e5,e6⟩
 ·omega
 ·refine .inr ⟨b,cap,cs,T,fr,by simpa using e1,e2,e3,e4,by simpa using e5,fun i x hx=>?_⟩
  obtain ⟨hi,rfl⟩:=hx
  have hi2:i<l.length+1:=by simpa using hi
  by_cases hl:i<l.length
  ·have hx:rowF e l i ((l++[z])[i] |> e):=⟨hl,by rw[List.getElem_append_left hl]⟩
   obtain ⟨a1,a2⟩:=e6 i _ (.inl ⟨hl,hf i _ hx⟩)
   exact⟨by simpa using a1,a2⟩
  ·have hie:i=l.length:=by omega
   subst hie
   obtain ⟨a1,u,hu,hrest⟩:=e6 l.length sv (.inr ⟨Nat.le_refl _,by rw[Nat.sub_self];rfl⟩)
   refine⟨by simp,u,?_,hrest⟩
   have:=hv _ _ u hu
   simpa using this
end Go.Sy
namespace Go.Sy.YtdkfcckkkfghgaaGreatDoor
open Go.Proofs
attribute [local irreducible] Go.Sy.G Go.Sy.DR
set_option maxRecDepth 100000
set_option maxHeartbeats 4000000
theorem Ug (dev v:Int) (d:Domain):Sy.Spec Tryz.prog 207 [An d,.ref 1 (Aa dev) 0,.ref 1 (Aa v) 0] [] (Ab (d.dev == dev && d.vlan == v)) []:=cT F207 Tryz.ntmps207 fun F hF=>by
 cases h:(d.dev == dev)
 ·refine T ?_
  exact D
 ·refine T ?_
  exact D
abbrev Arl (n:Net) (ds:List Domain):Obs:=[(900,.box [.osl 901,.osl 902,.osl 903,.osl 1904,.osl 905,.osl 906,.osl 907,.osl 908]),(901,.row 5 A2 n.devices),(902,.row 7 Bd n.ports),(903,.row 3 Cm n.links),(904,.non),(1904,.row 6 An ds),(905,.row 4 Bb n.statics),(906,.row 4 Be n.floods),(907,.row 5 Ct n.vrfs),(908,.row 5 Cr n.irbs)]
theorem Kw (n:Net) (hl:n.domains.length<2147483648) (dev v:Int) (hc:¬ (0<v∧n.domains.any (fun d=>d.dev == dev && d.vlan == v)=false)):Sy.Spec Tryz.prog 127 [.ptr 900 0,Aa dev,Aa v] (Aiz n) (.tup []) (Aiz n):=cT F127 Tryz.ntmps127 fun F hF=>by
 have qc:=Jw n.domains (fun d=>d.dev == dev && d.vlan == v) 207 [] [.ref 1 (Aa dev) 0,.ref 1 (Aa v) 0] rfl (fun d _=>⟨⟨_,_,F207⟩,Ug dev v d⟩) hl
 rw[Ll]at qc
 generalize n.domains.any (fun d=>d.dev == dev && d.vlan == v)=cl at *
 by_cases h1:0<v
 ·have g1:decide (v>0)=true:=decide_eq_true h1
  cases cl with
  | true =>
   refine T ?_
   refine B1 4 1 (Aa dev) q_ q_ q_ ?_
   refine B1 5 1 (Aa v) q_ q_ q_ ?_
   refine X (Ja [904] q_ F206 qc (.cons (.row q_ q_) (.cons (.refl _) .nil)) q_ q_) ?_
   exact B0 q_ .nil [] (Aiz n) (fun _ h=>h) q_ q_ U
  | false=>exact absurd ⟨h1,rfl⟩ hc
 ·have g1:decide (v>0)=false:=decide_eq_false h1
  refine T ?_
  exact B0 q_ .nil [] (Aiz n) (fun _ h=>h) q_ q_ U
theorem J2 (n:Net) (hl:n.domains.length<2147483648) (dev v:Int) (hc:0<v∧n.domains.any (fun d=>d.dev == dev && d.vlan == v)=false):Sy.Spec Tryz.prog 127 [.ptr 900 0,Aa dev,Aa v] (Aiz n) (.tup []) (Arl n (n.domains++[(⟨dev,v,0,-1,0,[]⟩:Domain)])):=cT F127 Tryz.ntmps127 fun F hF=>by
 have qc:=Jw n.domains (fun d=>d.dev == dev && d.vlan == v) 207 [] [.ref 1 (Aa dev) 0,.ref 1 (Aa v) 0] rfl (fun d _=>⟨⟨_,_,F207⟩,Ug dev v d⟩) hl
 rw[Ll,hc.2]at qc
 have g1:decide (v>0)=true:=decide_eq_true hc.1
 refine T ?_
 refine B1 4 1 (Aa dev) q_ q_ q_ ?_
 refine B1 5 1 (Aa v) q_ q_ q_ ?_
 refine X (Ja [904] q_ F206 qc (.cons (.row q_ q_) (.cons (.refl _) .nil)) q_ q_) ?_
 refine T ?_
 refine Xd (Z3 Γ.toTy 28 27 (⟨dev,v,0,-1,0,[]⟩:Domain) q_ q_ q_ q_ q_ (.row q_) q_ q_ (fun M w u hu=>Ame (⟨dev,v,0,-1,0,[]⟩:Domain) q_ hu) qd j_ j_) ?_
 refine T ?_
 exact B0 q_ .nil [(1904,28)] (Arl n (n.domains++[(⟨dev,v,0,-1,0,[]⟩:Domain)])) (fun _ h=>h) q_ q_ U
theorem Vp {dev v:Int} {ds:List Domain} (h:¬ (0<v∧ds.any (fun d=>d.dev == dev && d.vlan == v)=false)):Bh dev ds v=ds:=by rw[Bh,if_neg h]
theorem S4 {dev v:Int} {ds:List Domain} (h:0<v∧ds.any (fun d=>d.dev == dev && d.vlan == v)=false):Bh dev ds v=ds++[(⟨dev,v,0,-1,0,[]⟩:Domain)]:=by rw[Bh,if_pos h]
theorem Uu (dev:Int):∀ (l:List Int) (ds:List Domain),(At dev ds l).length≤ds.length+l.length
 | [],ds=>by simp[At]
 | v::l,ds=>by
  have ih:=Uu dev l (Bh dev ds v)
  have h1:(Bh dev ds v).length≤ds.length+1:=by
   unfold Bh
   split<;>simp
  have e:At dev ds (v::l)=At dev (Bh dev ds v) l:=rfl
  rw[e,List.length_cons];omega
theorem Ut (dev:Int) (ds:List Domain) (l:List Int) (v:Int):At dev ds (l++[v])=Bh dev (At dev ds l) v:=by
 unfold At
 rw[List.foldl_append];rfl
theorem Anp (n:Net) (hn:n.Fin) (l:LineM) (hl:LineW l):Sy.Spec Tryz.prog 73 [Av n,Ad l] [] (.tup [Av (putPort n l).1,Aa (putPort n l).2]) []:=cT F73 Tryz.ntmps73 fun F hF=>by
 have hres:=putPort.eq_1 n l
 generalize putPort n l=res at *
 cases hf:fitsB n l 2 with
 | false =>
  have q1:=Qu n hn l hl 2 hf
  rw[hf,if_pos rfl]at hres
  subst hres
  refine T ?_
  refine C q1 F122 ?_
  refine Am 4 (C3 emptyN) q_ (.cons .nil (.cons .nil (.cons .nil (.cons .nil (.cons .nil (.cons .nil (.cons .nil (.cons .nil .nil)))))))) ?_
  refine T ?_
  exact D
 | true =>
 have q1:=Vz n hn l hl 2 hf
 have hr:Ah n=true:=by
  unfold fitsB at hf
  simp only[Bool.and_eq_true]at hf
  exact hf.2.2
 rw[hf,if_neg qe]at hres
 have q2:=Il n hn hr l.dev
 have q3:=Sk n hn hr (Ap n l.dev) l.port
 have hlt:=hl.fin.t
 have q5:=Es l.tagged j_
 have hfl:n.ports.length≤40∧n.domains.length≤48:=⟨(Ape hr).2.1,(Ape hr).2.2.2.1⟩
 generalize E9 n (Ap n l.dev) l.port=pt at *
 generalize Ap n l.dev=dv at *
 by_cases h3:dv<0
 ·have g3:decide (dv<0)=true:=decide_eq_true h3
  rw[if_pos h3]at hres
  subst hres
  refine T ?_
  refine X (Ac [] q_ F122 q1 q_ W q_ V) ?_
  refine C q2 F125 ?_
  refine Am 4 (C3 emptyN) q_ (.cons .nil (.cons .nil (.cons .nil (.cons .nil (.cons .nil (.cons .nil (.cons .nil (.cons .nil .nil)))))))) ?_
  refine T ?_
  exact D
 have g3:decide (dv<0)=false:=decide_eq_false h3
 rw[if_neg h3]at hres
 by_cases h4:0≤pt
 ·have g4:decide (pt≥0)=true:=decide_eq_true h4
  rw[if_pos h4]at hres
  subst hres
  refine T ?_
  refine X (Ac [] q_ F122 q1 q_ W q_ V) ?_
  refine C q2 F125 ?_
  refine C q3 F126 ?_
  refine Am 4 (C3 emptyN) q_ (.cons .nil (.cons .nil (.cons .nil (.cons .nil (.cons .nil (.cons .nil (.cons .nil (.cons .nil .nil)))))))) ?_
  refine T ?_
  exact D
 have g4:decide (pt≥0)=false:=decide_eq_false h4
 rw[if_neg h4]at hres
 by_cases h5:n.ports.length=40
 ·have g5:((n.ports.length:Int) == 40)=true:=by rw[beq_iff_eq];omega
  rw[if_pos h5]at hres
  subst hres
  refine T ?_
  refine X (Ac [] q_ F122 q1 q_ W q_ V) ?_
  refine C q2 F125 ?_
  refine C q3 F126 ?_
  refine Am 4 (C3 emptyN) q_ (.cons .nil (.cons .nil (.cons .nil (.cons .nil (.cons .nil (.cons .nil (.cons .nil (.cons .nil .nil)))))))) ?_
  refine T ?_
  exact D
 have g5:((n.ports.length:Int) == 40)=false:=by rw[beq_eq_false_iff_ne];omega
 rw[if_neg h5]at hres
 have hd1l:(Bh dv n.domains l.vlan).length≤49:=by unfold Bh;split<;>(try simp)<;>omega
 have hlenB:∀ j,(At dv (Bh dv n.domains l.vlan) (l.tagged.take j)).length≤200000:=fun j=>by
  have h1:=Uu dv (l.tagged.take j) (Bh dv n.domains l.vlan)
  rw[List.length_take]at h1
  omega
 by_cases hc:0<l.vlan∧n.domains.any (fun d=>d.dev == dv && d.vlan == l.vlan)=false
 ·have q6:=J2 ({ n with ports:=n.ports++[(⟨l.row,dv,l.vlan,l.cost,-1,l.port,l.tagged⟩:Port)] }:Net) (by show n.domains.length<_;omega) dv l.vlan hc
  obtain ⟨d1,hd1⟩:∃ d1,Bh dv n.domains l.vlan=d1:=⟨_,rfl⟩
  have hlenA:=hlenB
  rw[hd1]at hlenA
  have hde:=hd1.symm.trans (S4 hc)
  rw[← hde]at q6
  clear hlenB hde hc hd1l
  refine T ?_
  refine X (Ac [] q_ F122 q1 q_ W q_ V) ?_
  refine C q2 F125 ?_
  refine C q3 F126 ?_
  refine C q5 F21 ?_
  refine Xd (Aj Γ.toTy 66 q_ q_ q_ q_ q_ (.row q_) (.lit (e:=Bd) (l:=[(⟨l.row,dv,l.vlan,l.cost,-1,l.port,l.tagged⟩:Port)]) q_ q_) qd (by simp only[List.length_singleton];omega) (by simp only[List.length_singleton];omega)) ?_
  refine T ?_
  refine X (Aq [(902,66),(1904,1101)] (Au q_ q_ F127) q6 q_ W q_ V) ?_
  refine T ?_
  refine Bk (fun j:Nat=>j≤l.tagged.length) (fun j=>[(4,.ptr 1001 0),(6,.ptr 900 0),(8,Aa dv),(9,.clo (.func 127) [] []),(77,.sl 1 Aa l.tagged),(78,Aa l.tagged.length),(79,Aa j)]) (fun j=>[(1001,.box [.val (.slice none 0 0),.val (.slice none 0 0),.val (.slice none 0 0),.val (.slice none 0 0),.val (.slice none 0 0),.val (.slice none 0 0),.val (.slice none 0 0),.val (.slice none 0 0)]),(900,.box [.osl 901,.osl 1002,.osl 903,.osl 1004,.osl 905,.osl 906,.osl 907,.osl 908]),(901,.row 5 A2 n.devices),(1002,.row 7 Bd (n.ports++[(⟨l.row,dv,l.vlan,l.cost,-1,l.port,l.tagged⟩:Port)])),(903,.row 3 Cm n.links),(1004,.row 6 An (At dv d1 (l.tagged.take j))),(905,.row 4 Bb n.statics),(906,.row 4 Be n.floods),(907,.row 5 Ct n.vrfs),(908,.row 5 Cr n.irbs)]) (fun j=>l.tagged.length-j) 0 [(1001,4),(1002,66),(1004,1101)] j_ U ?_
  intro j hj
  have hlen:=hlenA j
  refine T ?_
  refine⟨fun h=>?_,fun h=>?_⟩
  ·have hlt:j<l.tagged.length:=qA h
   have hlt0:((j:Nat):Int).toNat<l.tagged.length:=hlt
   clear h
   have hsn:At dv d1 (l.tagged.take (j+1))=Bh dv (At dv d1 (l.tagged.take j)) (l.tagged[((j:Nat):Int).toNat]'hlt0):=by
    rw[List.take_succ_eq_append_getElem hlt,Ut];rfl
   by_cases hc:0<(l.tagged[((j:Nat):Int).toNat]'hlt0)∧(At dv d1 (l.tagged.take j)).any (fun d=>d.dev == dv && d.vlan == (l.tagged[((j:Nat):Int).toNat]'hlt0))=false
   ·have q:=J2 ({ n with ports:=n.ports++[(⟨l.row,dv,l.vlan,l.cost,-1,l.port,l.tagged⟩:Port)],domains:=At dv d1 (l.tagged.take j) }:Net) (by show (At dv d1 (l.tagged.take j)).length<_;omega) dv (l.tagged[((j:Nat):Int).toNat]'hlt0) hc
    rw[S4 hc]at hsn
    refine T ?_
    refine X (Aq [(902,1002),(904,1004),(1904,1102)] (Au q_ q_ F127) q q_ W q_ V) ?_
    exact Ar (j+1) [(1004,1102)] hlt j_ ⟨⟨q_,q_,q_,q_,q_,q_,q_,q_,q_,q_,q_,q_,q_,q_,z_⟩,⟨.inl q_,q_,.inl q_,q_,.inl q_,q_,.inl q_,q_,.inl q_,q_,.inl (congrArg (Ob.row 6 An) hsn),q_,.inl q_,q_,.inl q_,q_,.inl q_,q_,.inl q_,q_,z_⟩,q_,q_⟩
   ·have q:=Kw ({ n with ports:=n.ports++[(⟨l.row,dv,l.vlan,l.cost,-1,l.port,l.tagged⟩:Port)],domains:=At dv d1 (l.tagged.take j) }:Net) (by show (At dv d1 (l.tagged.take j)).length<_;omega) dv (l.tagged[((j:Nat):Int).toNat]'hlt0) hc
    rw[Vp hc]at hsn
    refine T ?_
    refine X (Aq [(902,1002),(904,1004)] (Au q_ q_ F127) q q_ W q_ V) ?_
    exact Ar (j+1) [] hlt j_ ⟨⟨q_,q_,q_,q_,q_,q_,q_,q_,q_,q_,q_,q_,q_,q_,z_⟩,⟨.inl q_,q_,.inl q_,q_,.inl q_,q_,.inl q_,q_,.inl q_,q_,.inl (congrArg (Ob.row 6 An) hsn),q_,.inl q_,q_,.inl q_,q_,.inl q_,q_,.inl q_,q_,z_⟩,q_,q_⟩
  ·have hje:j=l.tagged.length:=qB h
   clear h
   rw[hje,List.take_length]
   have hfull:At dv n.domains (l.vlan::l.tagged)=At dv d1 l.tagged:=(show At dv n.domains (l.vlan::l.tagged)=At dv (Bh dv n.domains l.vlan) l.tagged from rfl).trans (by rw[hd1])
   rw[hfull]at hres
   by_cases h9:48<(At dv d1 l.tagged).length
   ·have g9:decide (((At dv d1 l.tagged).length:Int)>48)=true:=decide_eq_true j_
    rw[if_pos h9]at hres
    subst hres
    refine T ?_
    refine Am 1001 (C3 emptyN) q_ (.cons .nil (.cons .nil (.cons .nil (.cons .nil (.cons .nil (.cons .nil (.cons .nil (.cons .nil .nil)))))))) ?_
    refine T ?_
    exact D
   ·have g9:decide (((At dv d1 l.tagged).length:Int)>48)=false:=decide_eq_false j_
    rw[if_neg h9]at hres
    subst hres
    refine T ?_
    refine Ai 901 q_ ?_
    refine Ai 1002 q_ ?_
    refine Ai 903 q_ ?_
    refine Ai 1004 q_ ?_
    refine Ai 905 q_ ?_
    refine Ai 906 q_ ?_
    refine Ai 907 q_ ?_
    refine Ai 908 q_ ?_
    exact D
 ·have q6:=Kw ({ n with ports:=n.ports++[(⟨l.row,dv,l.vlan,l.cost,-1,l.port,l.tagged⟩:Port)] }:Net) (by show n.domains.length<_;omega) dv l.vlan hc
  have hd1:Bh dv n.domains l.vlan=n.domains:=Vp hc
  have hlenA:=hlenB
  rw[hd1]at hlenA
  clear hlenB hc hd1l
  refine T ?_
  refine X (Ac [] q_ F122 q1 q_ W q_ V) ?_
  refine C q2 F125 ?_
  refine C q3 F126 ?_
  refine C q5 F21 ?_
  refine Xd (Aj Γ.toTy 66 q_ q_ q_ q_ q_ (.row q_) (.lit (e:=Bd) (l:=[(⟨l.row,dv,l.vlan,l.cost,-1,l.port,l.tagged⟩:Port)]) q_ q_) qd (by simp only[List.length_singleton];omega) (by simp only[List.length_singleton];omega)) ?_
  refine T ?_
  refine X (Aq [(902,66)] (Au q_ q_ F127) q6 q_ W q_ V) ?_
  refine T ?_
  refine Bk (fun j:Nat=>j≤l.tagged.length) (fun j=>[(4,.ptr 1001 0),(6,.ptr 900 0),(8,Aa dv),(9,.clo (.func 127) [] []),(77,.sl 1 Aa l.tagged),(78,Aa l.tagged.length),(79,Aa j)]) (fun j=>[(1001,.box [.val (.slice none 0 0),.val (.slice none 0 0),.val (.slice none 0 0),.val (.slice none 0 0),.val (.slice none 0 0),.val (.slice none 0 0),.val (.slice none 0 0),.val (.slice none 0 0)]),(900,.box [.osl 901,.osl 1002,.osl 903,.osl 1004,.osl 905,.osl 906,.osl 907,.osl 908]),(901,.row 5 A2 n.devices),(1002,.row 7 Bd (n.ports++[(⟨l.row,dv,l.vlan,l.cost,-1,l.port,l.tagged⟩:Port)])),(903,.row 3 Cm n.links),(1004,.row 6 An (At dv n.domains (l.tagged.take j))),(905,.row 4 Bb n.statics),(906,.row 4 Be n.floods),(907,.row 5 Ct n.vrfs),(908,.row 5 Cr n.irbs)]) (fun j=>l.tagged.length-j) 0 [(1001,4),(1002,66),(1004,904)] j_ U ?_
  intro j hj
  have hlen:=hlenA j
  refine T ?_
  refine⟨fun h=>?_,fun h=>?_⟩
  ·have hlt:j<l.tagged.length:=qA h
   have hlt0:((j:Nat):Int).toNat<l.tagged.length:=hlt
   clear h
   have hsn:At dv n.domains (l.tagged.take (j+1))=Bh dv (At dv n.domains (l.tagged.take j)) (l.tagged[((j:Nat):Int).toNat]'hlt0):=by
    rw[List.take_succ_eq_append_getElem hlt,Ut];rfl
   by_cases hc:0<(l.tagged[((j:Nat):Int).toNat]'hlt0)∧(At dv n.domains (l.tagged.take j)).any (fun d=>d.dev == dv && d.vlan == (l.tagged[((j:Nat):Int).toNat]'hlt0))=false
   ·have q:=J2 ({ n with ports:=n.ports++[(⟨l.row,dv,l.vlan,l.cost,-1,l.port,l.tagged⟩:Port)],domains:=At dv n.domains (l.tagged.take j) }:Net) (by show (At dv n.domains (l.tagged.take j)).length<_;omega) dv (l.tagged[((j:Nat):Int).toNat]'hlt0) hc
    rw[S4 hc]at hsn
    refine T ?_
    refine X (Aq [(902,1002),(904,1004),(1904,1102)] (Au q_ q_ F127) q q_ W q_ V) ?_
    exact Ar (j+1) [(1004,1102)] hlt j_ ⟨⟨q_,q_,q_,q_,q_,q_,q_,q_,q_,q_,q_,q_,q_,q_,z_⟩,⟨.inl q_,q_,.inl q_,q_,.inl q_,q_,.inl q_,q_,.inl q_,q_,.inl (congrArg (Ob.row 6 An) hsn),q_,.inl q_,q_,.inl q_,q_,.inl q_,q_,.inl q_,q_,z_⟩,q_,q_⟩
   ·have q:=Kw ({ n with ports:=n.ports++[(⟨l.row,dv,l.vlan,l.cost,-1,l.port,l.tagged⟩:Port)],domains:=At dv n.domains (l.tagged.take j) }:Net) (by show (At dv n.domains (l.tagged.take j)).length<_;omega) dv (l.tagged[((j:Nat):Int).toNat]'hlt0) hc
    rw[Vp hc]at hsn
    refine T ?_
    refine X (Aq [(902,1002),(904,1004)] (Au q_ q_ F127) q q_ W q_ V) ?_
    exact Ar (j+1) [] hlt j_ ⟨⟨q_,q_,q_,q_,q_,q_,q_,q_,q_,q_,q_,q_,q_,q_,z_⟩,⟨.inl q_,q_,.inl q_,q_,.inl q_,q_,.inl q_,q_,.inl q_,q_,.inl (congrArg (Ob.row 6 An) hsn),q_,.inl q_,q_,.inl q_,q_,.inl q_,q_,.inl q_,q_,z_⟩,q_,q_⟩
  ·have hje:j=l.tagged.length:=qB h
   clear h
   rw[hje,List.take_length]
   have hfull:At dv n.domains (l.vlan::l.tagged)=At dv n.domains l.tagged:=(show At dv n.domains (l.vlan::l.tagged)=At dv (Bh dv n.domains l.vlan) l.tagged from rfl).trans (by rw[hd1])
   rw[hfull]at hres
   by_cases h9:48<(At dv n.domains l.tagged).length
   ·have g9:decide (((At dv n.domains l.tagged).length:Int)>48)=true:=decide_eq_true j_
    rw[if_pos h9]at hres
    subst hres
    refine T ?_
    refine Am 1001 (C3 emptyN) q_ (.cons .nil (.cons .nil (.cons .nil (.cons .nil (.cons .nil (.cons .nil (.cons .nil (.cons .nil .nil)))))))) ?_
    refine T ?_
    exact D
   ·have g9:decide (((At dv n.domains l.tagged).length:Int)>48)=false:=decide_eq_false j_
    rw[if_neg h9]at hres
    subst hres
    refine T ?_
    refine Ai 901 q_ ?_
    refine Ai 1002 q_ ?_
    refine Ai 903 q_ ?_
    refine Ai 1004 q_ ?_
    refine Ai 905 q_ ?_
    refine Ai 906 q_ ?_
    refine Ai 907 q_ ?_
    refine Ai 908 q_ ?_
    exact D
theorem Aql (n:Net) (hn:n.Fin) (ha:I3 n) (l:LineM) (hl:LineW l):Sy.Spec Tryz.prog 37 [Av n,Ad l] [] (.tup [Av (putT n l).1,Aa (putT n l).2]) []:=cT F37 Tryz.ntmps37 fun F hF=>by
 have hres:=putT.eq_1 n l
 generalize putT n l=res at *
 by_cases h1:l.kind=1
 ·have g1:(l.kind == 1)=true:=by rw[beq_iff_eq];exact h1
  have q:=Ai0 n hn l hl
  rw[if_pos h1]at hres
  rw[← hres]at q
  refine T ?_
  refine C q F72 ?_
  exact D
 have g1:(l.kind == 1)=false:=by rw[beq_eq_false_iff_ne];exact h1
 rw[if_neg h1]at hres
 by_cases h2:l.kind=2
 ·have g2:(l.kind == 2)=true:=by rw[beq_iff_eq];exact h2
  have q:=Anp n hn l hl
  rw[if_pos h2]at hres
  rw[← hres]at q
  refine T ?_
  refine C q F73 ?_
  exact D
 have g2:(l.kind == 2)=false:=by rw[beq_eq_false_iff_ne];exact h2
 rw[if_neg h2]at hres
 by_cases h3:l.kind=3
 ·have g3:(l.kind == 3)=true:=by rw[beq_iff_eq];exact h3
  have q:=Aok n hn l hl
  rw[if_pos h3]at hres
  rw[← hres]at q
  refine T ?_
  refine C q F74 ?_
  exact D
 have g3:(l.kind == 3)=false:=by rw[beq_eq_false_iff_ne];exact h3
 rw[if_neg h3]at hres
 by_cases h4:l.kind=4
 ·have g4:(l.kind == 4)=true:=by rw[beq_iff_eq];exact h4
  have q:=Ahf n hn l hl
  rw[if_pos h4]at hres
  rw[← hres]at q
  refine T ?_
  refine C q F75 ?_
  exact D
 have g4:(l.kind == 4)=false:=by rw[beq_eq_false_iff_ne];exact h4
 rw[if_neg h4]at hres
 by_cases h5:l.kind=5
 ·have g5:(l.kind == 5)=true:=by rw[beq_iff_eq];exact h5
  have q:=Aqg n hn l hl
  rw[if_pos h5]at hres
  rw[← hres]at q
  refine T ?_
  refine C q F76 ?_
  exact D
 have g5:(l.kind == 5)=false:=by rw[beq_eq_false_iff_ne];exact h5
 rw[if_neg h5]at hres
 by_cases h6:l.kind=6
 ·have g6:(l.kind == 6)=true:=by rw[beq_iff_eq];exact h6
  have q:=ovVniS n hn l hl
  rw[if_pos h6]at hres
  rw[← hres]at q
  refine T ?_
  refine C q F77 ?_
  exact D
 have g6:(l.kind == 6)=false:=by rw[beq_eq_false_iff_ne];exact h6
 rw[if_neg h6]at hres
 by_cases h7:l.kind=7
 ·have g7:(l.kind == 7)=true:=by rw[beq_iff_eq];exact h7
  have q:=Anu n hn l hl
  rw[if_pos h7]at hres
  rw[← hres]at q
  refine T ?_
  refine C q F78 ?_
  exact D
 have g7:(l.kind == 7)=false:=by rw[beq_eq_false_iff_ne];exact h7
 rw[if_neg h7]at hres
 by_cases h8:l.kind=8
 ·have g8:(l.kind == 8)=true:=by rw[beq_iff_eq];exact h8
  have q:=Ap3 n hn l hl
  rw[if_pos h8]at hres
  rw[← hres]at q
  refine T ?_
  refine C q F79 ?_
  exact D
 have g8:(l.kind == 8)=false:=by rw[beq_eq_false_iff_ne];exact h8
 rw[if_neg h8]at hres
 by_cases h9:l.kind=9
 ·have g9:(l.kind == 9)=true:=by rw[beq_iff_eq];exact h9
  have q:=Aqr n hn ha l hl
  rw[if_pos h9]at hres
  rw[← hres]at q
  refine T ?_
  refine C q F80 ?_
  exact D
 have g9:(l.kind == 9)=false:=by rw[beq_eq_false_iff_ne];exact h9
 rw[if_neg h9]at hres
 subst hres
 refine T ?_
 refine Am 4 (C3 emptyN) q_ (.cons .nil (.cons .nil (.cons .nil (.cons .nil (.cons .nil (.cons .nil (.cons .nil (.cons .nil .nil)))))))) ?_
 refine T ?_
 exact D
theorem Aka {n:Net} (h:Ah n=true) {i:Nat} (hi:i<n.floods.length):Kt n n.floods[i]=true:=by
 simp only[Ah,Bool.and_eq_true]at h
 exact allB_iff.1 h.1.1.2 i hi
theorem Aq5 (n:Net) (hn:n.Fin) (hr:Ah n=true) (f:Flood) (hf:f∈n.floods):Sy.Spec Tryz.prog 82 [Av n,Be f] [] (Ab (agreesB n f)) []:=cT F82 Tryz.ntmps82 fun F hF=>by
 have hfd:0≤f.dev∧f.dev.toNat<n.devices.length:=by
  obtain ⟨j,hj,rfl⟩:=List.getElem_of_mem hf
  have:=Aka hr hj
  simp only[Kt,Af,Bool.and_eq_true,decide_eq_true_eq]at this
  omega
 have hfa:f.addrs.length<2147483648:=hn.addrs f hf
 have hown:(nth n.devices f.dev).vtep=(n.devices[f.dev.toNat]'hfd.2).vtep:=by rw[A1 hfd.2]
 have q1:=Ts n hn f.dev f.vni
 have hres:=agreesB.eq_1 n f
 have hag:∀ a,agreeA n f a=_:=agreeA.eq_1 n f
 generalize agreesB n f=res at *
 generalize Et n f.dev f.vni=v0 at *
 refine T ?_
 refine B1 2 8 (Av n) q_ q_ q_ ?_
 refine B1 3 4 (Be f) q_ q_ q_ ?_
 refine T ?_
 refine C q1 F85 ?_
 refine Bk (fun j:Nat=>j≤f.addrs.length) (fun j=>[(2,.ref 8 (Av n) 0),(3,.ref 4 (Be f) 0),(5,A7 (n.devices[f.dev.toNat]'hfd.2).vtep),(6,Ab (decide (0≤v0) && (f.addrs.take j).all (agreeA n f))),(28,.sl 1 A7 f.addrs),(29,Aa f.addrs.length),(30,Aa j)]) (fun _=>[]) (fun j=>f.addrs.length-j) 0 [] j_ ⟨⟨q_,q_,q_,q_,q_,q_,congrArg Ab qe,q_,q_,q_,q_,q_,q_,q_,z_⟩,z_,q_,q_⟩ ?_
 intro j hj
 refine T ?_
 refine⟨fun h=>?_,fun h=>?_⟩
 ·have hlt:j<f.addrs.length:=qA h
  have hj0:((j:Nat):Int).toNat<f.addrs.length:=hlt
  clear h
  have qo:=Ah3 n hn (f.addrs[((j:Nat):Int).toNat]'hj0)
  have hA:=hag (f.addrs[((j:Nat):Int).toNat]'hj0)
  have hsn:(f.addrs.take (j+1)).all (agreeA n f)=((f.addrs.take j).all (agreeA n f) && agreeA n f (f.addrs[((j:Nat):Int).toNat]'hj0)):=by
   rw[List.take_succ_eq_append_getElem hlt,List.all_append]
   simp only[List.all_cons,List.all_nil,Bool.and_true]
   rfl
  have hwhole:agreeA n f (f.addrs[((j:Nat):Int).toNat]'hj0)=false→f.addrs.all (agreeA n f)=false:=fun h=>by
   rw[List.all_eq_false]
   exact⟨_,List.getElem_mem hj0,by rw[h];simp⟩
  have hpart:(f.addrs.take j).all (agreeA n f)=false→f.addrs.all (agreeA n f)=false:=fun h=>by
   rw[List.all_eq_false]at h ⊢
   obtain ⟨x,hx,hx2⟩:=h
   exact⟨x,List.mem_of_mem_take hx,hx2⟩
  have qf:=Ts n hn (Bp n (f.addrs[((j:Nat):Int).toNat]'hj0)) f.vni
  have ql:=Ab7 n hn (Bp n (f.addrs[((j:Nat):Int).toNat]'hj0)) f.vni
  cases ho:(decide (0≤v0) && (f.addrs.take j).all (agreeA n f)) with
  | false =>
   have hr0:res=false:=by
    rw[hres]
    cases hd:decide (0≤v0)
    ·rfl
    ·rw[hd,Bool.true_and]at ho
     rw[hpart ho];rfl
   subst hr0
   generalize Bp n (f.addrs[((j:Nat):Int).toNat]'hj0)=dv at *
   refine T ?_
   refine C qo F86 ?_
   exact D
  | true =>
   have hdr:Bp n (f.addrs[((j:Nat):Int).toNat]'hj0)<0∨0≤Bp n (f.addrs[((j:Nat):Int).toNat]'hj0):=by omega
   have hlr:C4 n (Bp n (f.addrs[((j:Nat):Int).toNat]'hj0)) f.vni<0∨∃ k:Nat,C4 n (Bp n (f.addrs[((j:Nat):Int).toNat]'hj0)) f.vni=k∧k<n.floods.length:=by
    by_cases h:C4 n (Bp n (f.addrs[((j:Nat):Int).toNat]'hj0)) f.vni<0
    ·exact .inl h
    ·exact .inr (I9 h)
   generalize Et n (Bp n (f.addrs[((j:Nat):Int).toNat]'hj0)) f.vni=fv at *
   generalize C4 n (Bp n (f.addrs[((j:Nat):Int).toNat]'hj0)) f.vni=lv at *
   generalize Bp n (f.addrs[((j:Nat):Int).toNat]'hj0)=dv at *
   by_cases k1:dv<0
   ·have g1:decide (dv≥0)=false:=decide_eq_false j_
    have g1n:(!(decide (dv≥0)))=true:=by rw[g1];rfl
    have hr0:res=false:=by rw[hres,hwhole (by rw[hA,decide_eq_false (by omega:¬ 0≤dv)];rfl),Bool.and_false]
    subst hr0
    refine T ?_
    refine C qo F86 ?_
    exact D
   have g1:decide (dv≥0)=true:=decide_eq_true j_
   rw[decide_eq_true (by omega:0≤dv),Bool.true_and]at hA
   by_cases k2:(f.addrs[((j:Nat):Int).toNat]'hj0)=0
   ·have g2:((f.addrs[((j:Nat):Int).toNat]'hj0) != 0)=false:=by rw[bne_eq_false_iff_eq];exact k2
    have g2n:(!((f.addrs[((j:Nat):Int).toNat]'hj0) != 0))=true:=by rw[g2];rfl
    have hr0:res=false:=by rw[hres,hwhole (by rw[hA,g2];rfl),Bool.and_false]
    subst hr0
    refine T ?_
    refine C qo F86 ?_
    exact D
   have g2:((f.addrs[((j:Nat):Int).toNat]'hj0) != 0)=true:=by rw[bne_iff_ne];exact k2
   rw[g2,Bool.true_and]at hA
   by_cases k3:fv<0
   ·have g3:decide (fv≥0)=false:=decide_eq_false j_
    have g3n:(!(decide (fv≥0)))=true:=by rw[g3];rfl
    have hr0:res=false:=by rw[hres,hwhole (by rw[hA,decide_eq_false (by omega:¬ 0≤fv)];rfl),Bool.and_false]
    subst hr0
    refine T ?_
    refine C qo F86 ?_
    refine C qf F85 ?_
    exact D
   have g3:decide (fv≥0)=true:=decide_eq_true j_
   rw[decide_eq_true (by omega:0≤fv),Bool.true_and]at hA
   by_cases k4:lv<0
   ·have g4:decide (lv≥0)=false:=decide_eq_false j_
    have g4n:(!(decide (lv≥0)))=true:=by rw[g4];rfl
    have hr0:res=false:=by rw[hres,hwhole (by rw[hA,decide_eq_false (by omega:¬ 0≤lv)];rfl),Bool.and_false]
    subst hr0
    refine T ?_
    refine C qo F86 ?_
    refine C qf F85 ?_
    refine C ql F84 ?_
    refine Aw q_ (.cons .tmp .nil) (congrArg Ab g4.symm) q_
   have g4:decide (lv≥0)=true:=decide_eq_true j_
   have g4n:(!(decide (lv≥0)))=false:=by rw[g4];rfl
   rw[decide_eq_true (by omega:0≤lv),Bool.true_and]at hA
   obtain ⟨m,hm,hml⟩:=hlr.resolve_left k4
   subst hm
   have hm0:((m:Nat):Int).toNat<n.floods.length:=hml
   rw[A1 hm0,hown]at hA
   have hfar:=hn.addrs _ (List.getElem_mem hm0)
   have qc:=Mh (n.floods[((m:Nat):Int).toNat]'hm0).addrs (n.devices[f.dev.toNat]'hfd.2).vtep hfar
   have qcb:=fun b=>Mh (n.floods[((m:Nat):Int).toNat]'hm0).addrs b hfar
   have hnx:(decide (0≤v0) && (f.addrs.take (j+1)).all (agreeA n f))=(inB (n.floods[((m:Nat):Int).toNat]'hm0).addrs (n.devices[f.dev.toNat]'hfd.2).vtep && f.addrs.all fun b=>b == (f.addrs[((j:Nat):Int).toNat]'hj0) || inB (n.floods[((m:Nat):Int).toNat]'hm0).addrs b):=by
    rw[hsn,← Bool.and_assoc,ho,Bool.true_and,hA]
   clear hA hsn hwhole hpart ho hag
   refine T ?_
   refine C qo F86 ?_
   refine C qf F85 ?_
   refine C ql F84 ?_
   refine C ql F84 ?_
   refine C qc F133 ?_
   refine Bk (fun k:Nat=>k≤f.addrs.length) (fun k=>[(2,.ref 8 (Av n) 0),(3,.ref 4 (Be f) 0),(5,A7 (n.devices[f.dev.toNat]'hfd.2).vtep),(6,Ab (inB (n.floods[((m:Nat):Int).toNat]'hm0).addrs (n.devices[f.dev.toNat]'hfd.2).vtep && (f.addrs.take k).all fun b=>b == (f.addrs[((j:Nat):Int).toNat]'hj0) || inB (n.floods[((m:Nat):Int).toNat]'hm0).addrs b)),(8,A7 (f.addrs[((j:Nat):Int).toNat]'hj0)),(10,.sl 1 A7 (n.floods[((m:Nat):Int).toNat]'hm0).addrs),(28,.sl 1 A7 f.addrs),(29,Aa f.addrs.length),(30,Aa j),(78,.sl 1 A7 f.addrs),(79,Aa f.addrs.length),(80,Aa k)]) (fun _=>[]) (fun k=>f.addrs.length-k) 0 [] j_ ⟨⟨q_,q_,q_,q_,q_,q_,congrArg Ab qe,q_,q_,q_,q_,q_,q_,q_,q_,q_,q_,q_,q_,q_,q_,q_,q_,q_,z_⟩,z_,q_,q_⟩ ?_
   intro k hk
   refine T ?_
   refine⟨fun h=>?_,fun h=>?_⟩
   ·have hlt2:k<f.addrs.length:=qA h
    have hk0:((k:Nat):Int).toNat<f.addrs.length:=hlt2
    clear h
    have hsn:(f.addrs.take (k+1)).all (fun b=>b == (f.addrs[((j:Nat):Int).toNat]'hj0) || inB (n.floods[((m:Nat):Int).toNat]'hm0).addrs b)=((f.addrs.take k).all (fun b=>b == (f.addrs[((j:Nat):Int).toNat]'hj0) || inB (n.floods[((m:Nat):Int).toNat]'hm0).addrs b) && ((f.addrs[((k:Nat):Int).toNat]'hk0) == (f.addrs[((j:Nat):Int).toNat]'hj0) || inB (n.floods[((m:Nat):Int).toNat]'hm0).addrs (f.addrs[((k:Nat):Int).toNat]'hk0))):=by
     rw[List.take_succ_eq_append_getElem hlt2,List.all_append]
     simp only[List.all_cons,List.all_nil,Bool.and_true]
     rfl
    have hst:(inB (n.floods[((m:Nat):Int).toNat]'hm0).addrs (n.devices[f.dev.toNat]'hfd.2).vtep && (f.addrs.take (k+1)).all fun b=>b == (f.addrs[((j:Nat):Int).toNat]'hj0) || inB (n.floods[((m:Nat):Int).toNat]'hm0).addrs b)=((inB (n.floods[((m:Nat):Int).toNat]'hm0).addrs (n.devices[f.dev.toNat]'hfd.2).vtep && (f.addrs.take k).all fun b=>b == (f.addrs[((j:Nat):Int).toNat]'hj0) || inB (n.floods[((m:Nat):Int).toNat]'hm0).addrs b) && ((f.addrs[((k:Nat):Int).toNat]'hk0) == (f.addrs[((j:Nat):Int).toNat]'hj0) || inB (n.floods[((m:Nat):Int).toNat]'hm0).addrs (f.addrs[((k:Nat):Int).toNat]'hk0))):=by
     rw[hsn,Bool.and_assoc]
    have qb:=qcb (f.addrs[((k:Nat):Int).toNat]'hk0)
    cases ho2:(inB (n.floods[((m:Nat):Int).toNat]'hm0).addrs (n.devices[f.dev.toNat]'hfd.2).vtep && (f.addrs.take k).all fun b=>b == (f.addrs[((j:Nat):Int).toNat]'hj0) || inB (n.floods[((m:Nat):Int).toNat]'hm0).addrs b) with
    | false =>
     rw[ho2,Bool.false_and]at hst
     refine T ?_
     exact Ar (k+1) [] hlt2 j_ ⟨⟨q_,q_,q_,q_,q_,q_,congrArg Ab hst,q_,q_,q_,q_,q_,q_,q_,q_,q_,q_,q_,q_,q_,q_,q_,q_,q_,z_⟩,z_,q_,q_⟩
    | true =>
     rw[ho2,Bool.true_and]at hst
     cases he:((f.addrs[((k:Nat):Int).toNat]'hk0) == (f.addrs[((j:Nat):Int).toNat]'hj0)) with
     | true =>
      rw[he,Bool.true_or]at hst
      refine T ?_
      exact Ar (k+1) [] hlt2 j_ ⟨⟨q_,q_,q_,q_,q_,q_,congrArg Ab hst,q_,q_,q_,q_,q_,q_,q_,q_,q_,q_,q_,q_,q_,q_,q_,q_,q_,z_⟩,z_,q_,q_⟩
     | false =>
      rw[he,Bool.false_or]at hst
      refine T ?_
      refine C qb F133 ?_
      exact Ar (k+1) [] hlt2 j_ ⟨⟨q_,q_,q_,q_,q_,q_,congrArg Ab hst,q_,q_,q_,q_,q_,q_,q_,q_,q_,q_,q_,q_,q_,q_,q_,q_,q_,z_⟩,z_,q_,q_⟩
   ·have hke:k=f.addrs.length:=qB h
    clear h
    rw[hke,List.take_length]
    refine T ?_
    exact Ar (j+1) [] hlt j_ ⟨⟨q_,q_,q_,q_,q_,q_,congrArg Ab hnx,q_,q_,q_,q_,q_,q_,q_,z_⟩,z_,q_,q_⟩
 ·have hje:j=f.addrs.length:=qB h
  clear h
  subst hje
  rw[List.take_length,← hres]
  refine T ?_
  exact D
theorem Y0 {α:Type} {p:α→Bool}:∀ {l:List α} {j:Nat} (hj:j<l.length),(∀ k (hk:k<l.length),k<j→p l[k]=false)→p l[j]=true→l.find? p=some l[j]
 | x::l,0,_,_,h2=>by
  rw[List.getElem_cons_zero]at h2 ⊢
  rw[List.find?_cons,h2]
 | x::l,j+1,hj,h1,h2=>by
  rw[List.getElem_cons_succ]at h2 ⊢
  have h0:=h1 0 qe j_
  rw[List.getElem_cons_zero]at h0
  rw[List.find?_cons,h0]
  exact Y0 (by simpa using hj) (fun k hk hkj=>by
   have:=h1 (k+1) (by simp;omega) j_
   rwa [List.getElem_cons_succ]at this) h2
def Mt (n:Net) (j:Nat):List Domain:=(n.domains.take j).map (fun d=>{ d with peers:=peersT n d })++n.domains.drop j
theorem Alj (n:Net):Mt n 0=n.domains:=by simp[Mt]
theorem Aoa (n:Net):Mt n n.domains.length=(Al n).domains:=by simp[Mt,Al]
theorem An9 (n:Net) {j:Nat} (hj:j≤n.domains.length):(Mt n j).length=n.domains.length:=by simp[Mt];omega
theorem Alk (n:Net) {j:Nat} (hj:j<n.domains.length) (h:((j:Nat):Int).toNat<(Mt n j).length) :
  (Mt n j)[((j:Nat):Int).toNat]'h=n.domains[j]∧(Mt n j).set ((j:Nat):Int).toNat { n.domains[j] with peers:=peersT n n.domains[j] }=Mt n (j+1):=by
 have hl:((n.domains.take j).map (fun d=>{ d with peers:=peersT n d })).length=j:=by simp;omega
 have e:Mt n j=(n.domains.take j).map (fun d=>{ d with peers:=peersT n d })++n.domains[j]::n.domains.drop (j+1):=by
  rw[Mt,List.drop_eq_getElem_cons hj]
 have e2:Mt n (j+1)=(n.domains.take j).map (fun d=>{ d with peers:=peersT n d })++{ n.domains[j] with peers:=peersT n n.domains[j] }::n.domains.drop (j+1):=by
  rw[Mt,List.take_succ_eq_append_getElem hj,List.map_append,List.map_cons,List.map_nil,List.append_assoc];rfl
 constructor
 ·simp only[Int.toNat_natCast,e]
  rw[List.getElem_append_right j_]
  simp only[hl,Nat.sub_self,List.getElem_cons_zero]
 ·rw[Int.toNat_natCast,e,e2,List.set_append_right _ _ j_,hl,Nat.sub_self]
  rfl
theorem Apf (n:Net) (h:Ah n=true):(∀ f∈n.floods,f.addrs.length≤16):=fun f hf=>by
 obtain ⟨j,hj,rfl⟩:=List.getElem_of_mem hf
 have:=Aka h hj
 simp only[Kt,Bool.and_eq_true,decide_eq_true_eq]at this
 exact this.2
theorem Ald {n:Net} (h:Ah n=true) (d:Domain):(peersT n d).length≤16:=by
 unfold peersT
 split
 ·rename_i hc
  rw[List.length_map]
  have hl:=Acz (fun f:Flood=>f.dev == d.dev && f.vni == d.vni) n.floods
  have h0:(C4 n d.dev d.vni).toNat<n.floods.length:=by
   have e:C4 n d.dev d.vni=B4 (fun f:Flood=>f.dev == d.dev && f.vni == d.vni) n.floods:=rfl
   have:=hc.2
   omega
  rw[A1 h0]
  exact Apf n h _ (List.getElem_mem h0)
 ·simp
theorem Yd {n:Net} (hn:n.Fin) (h:Ah n=true):(Al n).Fin:=by
 have hl:(Al n).domains.length=n.domains.length:=by simp[Al]
 refine { hn with domains:=?_,peers:=?_ }
 ·show (Al n).domains.length<_
  rw[hl];exact hn.domains
 ·intro p hp
  have hp:p∈n.domains.map fun d=>{ d with peers:=peersT n d }:=hp
  obtain ⟨d,_,rfl⟩:=List.mem_map.1 hp
  show (peersT n d).length<_
  have:=Ald h d
  omega
theorem meshS (n:Net) (hn:n.Fin):Sy.Spec Tryz.prog 38 [Av n] [] (.tup [Av (meshNT n).1,Aa (meshNT n).2.1,Aa (meshNT n).2.2]) []:=cT F38 Tryz.ntmps38 fun F hF=>by
 have qn:=Cb n hn
 have qcopy:=Mg n hn
 have hres:=meshNT.eq_1 n
 generalize meshNT n=res at *
 cases hr:Ah n with
 | false =>
  rw[hr]at qn
  rw[hr,if_pos rfl]at hres
  subst hres
  refine T ?_
  refine C qn F81 ?_
  refine Am 2 (C3 emptyN) q_ (.cons .nil (.cons .nil (.cons .nil (.cons .nil (.cons .nil (.cons .nil (.cons .nil (.cons .nil .nil)))))))) ?_
  refine T ?_
  exact D
 | true =>
 rw[hr]at qn
 rw[hr,if_neg qe]at hres
 have hff:n.floods.length<2147483648:=hn.floods
 have hdd:n.domains.length<2147483648:=hn.domains
 refine T ?_
 refine C qn F81 ?_
 refine B1 1 8 (Av n) q_ q_ q_ ?_
 refine Bk (fun j:Nat=>j≤n.floods.length∧∀ k (hk:k<n.floods.length),k<j→agreesB n n.floods[k]=true) (fun j=>[(1,.ref 8 (Av n) 0),(2,.ptr 1001 0),(18,.sl 4 Be n.floods),(19,Aa n.floods.length),(20,Aa j)]) (fun _=>[(1001,.box [.val (.slice none 0 0),.val (.slice none 0 0),.val (.slice none 0 0),.val (.slice none 0 0),.val (.slice none 0 0),.val (.slice none 0 0),.val (.slice none 0 0),.val (.slice none 0 0)])]) (fun j=>n.floods.length-j) 0 [(1001,2)] ⟨by omega,fun k hk h=>by omega⟩ U ?_
 rintro j ⟨hj,hI⟩
 refine T ?_
 refine⟨fun h=>?_,fun h=>?_⟩
 ·have hlt:j<n.floods.length:=qA h
  have hj0:((j:Nat):Int).toNat<n.floods.length:=hlt
  clear h
  have q:=Aq5 n hn hr (n.floods[((j:Nat):Int).toNat]'hj0) (List.getElem_mem hj0)
  cases ha:agreesB n (n.floods[((j:Nat):Int).toNat]'hj0) with
  | false =>
   rw[ha]at q
   rw[Y0 (p:=fun f=>!(agreesB n f)) hlt (fun k hk hkj=>by simp only[hI k hk hkj];rfl) (by show (!(agreesB n (n.floods[((j:Nat):Int).toNat]'hj0)))=true;rw[ha];rfl)]at hres
   dsimp only at hres
   subst hres
   refine T ?_
   refine C q F82 ?_
   refine Am 1001 (C3 emptyN) q_ (.cons .nil (.cons .nil (.cons .nil (.cons .nil (.cons .nil (.cons .nil (.cons .nil (.cons .nil .nil)))))))) ?_
   refine T ?_
   exact D
  | true =>
   rw[ha]at q
   refine T ?_
   refine C q F82 ?_
   refine Ar (j+1) [] ⟨hlt,fun k hk hkj=>?_⟩ j_ U
   by_cases e:k=j
   ·subst e;exact ha
   ·exact hI k hk j_
 ·have hje:j=n.floods.length:=qB h
  clear h
  have hnone:n.floods.find? (fun f=>!(agreesB n f))=none:=by
   rw[List.find?_eq_none]
   intro x hx
   obtain ⟨k,hk,rfl⟩:=List.getElem_of_mem hx
   rw[hI k hk j_];simp
  rw[hnone]at hres
  dsimp only at hres
  clear hI hj hje hnone
  refine T ?_
  refine X (Ac [(0,901),(1,902),(2,903),(3,904),(4,905),(5,906),(6,907),(7,908)] q_ F83 qcopy q_ W q_ V) ?_
  refine Bk (fun j:Nat=>j≤n.domains.length) (fun j=>[(1,.ref 8 (Av n) 0),(2,.ptr 1001 0),(35,.sl 6 An n.domains),(36,Aa n.domains.length),(37,Aa j)]) (fun j=>[(1001,.box [.osl 901,.osl 902,.osl 903,.osl 1004,.osl 905,.osl 906,.osl 907,.osl 908]),(901,.row 5 A2 n.devices),(902,.row 7 Bd n.ports),(903,.row 3 Cm n.links),(1004,.row 6 An (Mt n j)),(905,.row 4 Bb n.statics),(906,.row 4 Be n.floods),(907,.row 5 Ct n.vrfs),(908,.row 5 Cr n.irbs)]) (fun j=>n.domains.length-j) 0 [(1004,904)] j_ ⟨⟨q_,q_,q_,q_,q_,q_,q_,q_,q_,q_,z_⟩,⟨.inl q_,q_,.inl q_,q_,.inl q_,q_,.inl q_,q_,.inl (congrArg (Ob.row 6 An) (Alj n)),q_,.inl q_,q_,.inl q_,q_,.inl q_,q_,.inl q_,q_,z_⟩,q_,q_⟩ ?_
  intro j hj
  have hml:=An9 n hj
  refine T ?_
  refine⟨fun h=>?_,fun h=>?_⟩
  ·have hlt:j<n.domains.length:=qA h
   have hj0:((j:Nat):Int).toNat<n.domains.length:=hlt
   clear h
   have hjm:((j:Nat):Int).toNat<(Mt n j).length:=by rw[hml];exact hj0
   obtain ⟨m1,m2⟩:=Alk n hlt hjm
   have hDj:n.domains[j]=(n.domains[((j:Nat):Int).toNat]'hj0):=rfl
   rw[hDj]at m1 m2
   have hne:Mt n j≠[]:=fun e=>by rw[e]at hjm;cases hjm
   have ql:=Ab7 n hn (n.domains[((j:Nat):Int).toNat]'hj0).dev (n.domains[((j:Nat):Int).toNat]'hj0).vni
   have hpt:=peersT.eq_1 n (n.domains[((j:Nat):Int).toNat]'hj0)
   have hlr:C4 n (n.domains[((j:Nat):Int).toNat]'hj0).dev (n.domains[((j:Nat):Int).toNat]'hj0).vni<0∨∃ k:Nat,C4 n (n.domains[((j:Nat):Int).toNat]'hj0).dev (n.domains[((j:Nat):Int).toNat]'hj0).vni=k∧k<n.floods.length:=by
    by_cases h:C4 n (n.domains[((j:Nat):Int).toNat]'hj0).dev (n.domains[((j:Nat):Int).toNat]'hj0).vni<0
    ·exact .inl h
    ·exact .inr (I9 h)
   generalize C4 n (n.domains[((j:Nat):Int).toNat]'hj0).dev (n.domains[((j:Nat):Int).toNat]'hj0).vni=lv at *
   generalize hpT:peersT n (n.domains[((j:Nat):Int).toNat]'hj0)=ps at *
   by_cases k1:(n.domains[((j:Nat):Int).toNat]'hj0).vni=0
   ·have g1:((n.domains[((j:Nat):Int).toNat]'hj0).vni != 0)=false:=by rw[bne_eq_false_iff_eq];exact k1
    rw[if_neg (fun h=>h.1 k1)]at hpt
    subst hpt
    refine T ?_
    refine Db 9 1 Aa q_ ?_
    refine C ql F84 ?_
    refine⟨hne,?_⟩
    refine T ?_
    refine⟨(⟨(n.domains[((j:Nat):Int).toNat]'hj0).dev,(n.domains[((j:Nat):Int).toNat]'hj0).vlan,(n.domains[((j:Nat):Int).toNat]'hj0).vni,(n.domains[((j:Nat):Int).toNat]'hj0).irb,(n.domains[((j:Nat):Int).toNat]'hj0).row,[]⟩:Domain),by rw[m1];rfl,by rw[m1];rfl,?_⟩
    refine T ?_
    exact Ar (j+1) [] hlt j_ ⟨⟨q_,q_,q_,q_,q_,q_,q_,q_,q_,q_,z_⟩,⟨.inl q_,q_,.inl q_,q_,.inl q_,q_,.inl q_,q_,.inl (congrArg (Ob.row 6 An) m2.symm),q_,.inl q_,q_,.inl q_,q_,.inl q_,q_,.inl q_,q_,z_⟩,q_,q_⟩
   have g1:((n.domains[((j:Nat):Int).toNat]'hj0).vni != 0)=true:=by rw[bne_iff_ne];exact k1
   by_cases k2:lv<0
   ·have g2:decide (lv≥0)=false:=decide_eq_false j_
    rw[if_neg (fun h=>by have:=h.2;omega)]at hpt
    subst hpt
    refine T ?_
    refine Db 9 1 Aa q_ ?_
    refine C ql F84 ?_
    refine⟨hne,?_⟩
    refine T ?_
    refine⟨(⟨(n.domains[((j:Nat):Int).toNat]'hj0).dev,(n.domains[((j:Nat):Int).toNat]'hj0).vlan,(n.domains[((j:Nat):Int).toNat]'hj0).vni,(n.domains[((j:Nat):Int).toNat]'hj0).irb,(n.domains[((j:Nat):Int).toNat]'hj0).row,[]⟩:Domain),by rw[m1];rfl,by rw[m1];rfl,?_⟩
    refine T ?_
    exact Ar (j+1) [] hlt j_ ⟨⟨q_,q_,q_,q_,q_,q_,q_,q_,q_,q_,z_⟩,⟨.inl q_,q_,.inl q_,q_,.inl q_,q_,.inl q_,q_,.inl (congrArg (Ob.row 6 An) m2.symm),q_,.inl q_,q_,.inl q_,q_,.inl q_,q_,.inl q_,q_,z_⟩,q_,q_⟩
   obtain ⟨m,hm,hmf⟩:=hlr.resolve_left k2
   subst hm
   clear hlr
   have g2:decide ((m:Int)≥0)=true:=decide_eq_true j_
   have hm0:((m:Nat):Int).toNat<n.floods.length:=hmf
   rw[if_pos ⟨k1,by omega⟩,A1 hm0]at hpt
   have hfa:=Apf n hr _ (List.getElem_mem hm0)
   refine T ?_
   refine C0 9 1200 1 Aa q_ q_ ?_
   refine C ql F84 ?_
   refine B1 8 6 (An (n.domains[((j:Nat):Int).toNat]'hj0)) q_ q_ q_ ?_
   refine Bk (fun k:Nat=>k≤(n.floods[((m:Nat):Int).toNat]'hm0).addrs.length) (fun k=>[(1,.ref 8 (Av n) 0),(2,.ptr 1001 0),(7,Aa j),(8,.ref 6 (An (n.domains[((j:Nat):Int).toNat]'hj0)) 0),(9,.osl 1200),(35,.sl 6 An n.domains),(36,Aa n.domains.length),(37,Aa j),(60,.sl 1 A7 (n.floods[((m:Nat):Int).toNat]'hm0).addrs),(61,Aa (n.floods[((m:Nat):Int).toNat]'hm0).addrs.length),(62,Aa k)]) (fun k=>[(1001,.box [.osl 901,.osl 902,.osl 903,.osl 1004,.osl 905,.osl 906,.osl 907,.osl 908]),(901,.row 5 A2 n.devices),(902,.row 7 Bd n.ports),(903,.row 3 Cm n.links),(1004,.row 6 An (Mt n j)),(905,.row 4 Bb n.statics),(906,.row 4 Be n.floods),(907,.row 5 Ct n.vrfs),(908,.row 5 Cr n.irbs),(1200,.row 1 Aa (((n.floods[((m:Nat):Int).toNat]'hm0).addrs.take k).map (fun a=>Et n (Bp n a) (n.domains[((j:Nat):Int).toNat]'hj0).vni)))]) (fun k=>(n.floods[((m:Nat):Int).toNat]'hm0).addrs.length-k) 0 [] j_ U ?_
   intro k hk
   refine T ?_
   refine⟨fun h=>?_,fun h=>?_⟩
   ·have hlt2:k<(n.floods[((m:Nat):Int).toNat]'hm0).addrs.length:=qA h
    have hk0:((k:Nat):Int).toNat<(n.floods[((m:Nat):Int).toNat]'hm0).addrs.length:=hlt2
    clear h
    have qo:=Ah3 n hn ((n.floods[((m:Nat):Int).toNat]'hm0).addrs[((k:Nat):Int).toNat]'hk0)
    have qf:=Ts n hn (Bp n ((n.floods[((m:Nat):Int).toNat]'hm0).addrs[((k:Nat):Int).toNat]'hk0)) (n.domains[((j:Nat):Int).toNat]'hj0).vni
    have hsn:((n.floods[((m:Nat):Int).toNat]'hm0).addrs.take (k+1)).map (fun a=>Et n (Bp n a) (n.domains[((j:Nat):Int).toNat]'hj0).vni)=((n.floods[((m:Nat):Int).toNat]'hm0).addrs.take k).map (fun a=>Et n (Bp n a) (n.domains[((j:Nat):Int).toNat]'hj0).vni)++[Et n (Bp n ((n.floods[((m:Nat):Int).toNat]'hm0).addrs[((k:Nat):Int).toNat]'hk0)) (n.domains[((j:Nat):Int).toNat]'hj0).vni]:=by
     rw[List.take_succ_eq_append_getElem hlt2,List.map_append];rfl
    have hrl:(((n.floods[((m:Nat):Int).toNat]'hm0).addrs.take k).map (fun a=>Et n (Bp n a) (n.domains[((j:Nat):Int).toNat]'hj0).vni)).length≤16:=by rw[List.length_map,List.length_take];omega
    refine T ?_
    refine C qo F86 ?_
    refine C qf F85 ?_
    refine Xd (Aj Γ.toTy 75 q_ q_ q_ q_ q_ (.row q_) (.lit (e:=Aa) (l:=[Et n (Bp n ((n.floods[((m:Nat):Int).toNat]'hm0).addrs[((k:Nat):Int).toNat]'hk0)) (n.domains[((j:Nat):Int).toNat]'hj0).vni]) q_ q_) qd (by simp only[List.length_singleton];omega) (by simp only[List.length_singleton];omega)) ?_
    refine T ?_
    exact Ar (k+1) [(1200,75)] hlt2 j_ ⟨⟨q_,q_,q_,q_,q_,q_,q_,q_,q_,q_,q_,q_,q_,q_,q_,q_,q_,q_,q_,q_,q_,q_,z_⟩,⟨.inl q_,q_,.inl q_,q_,.inl q_,q_,.inl q_,q_,.inl q_,q_,.inl q_,q_,.inl q_,q_,.inl q_,q_,.inl q_,q_,.inl (congrArg (Ob.row 1 Aa) hsn),q_,z_⟩,q_,q_⟩
   ·have hke:k=(n.floods[((m:Nat):Int).toNat]'hm0).addrs.length:=qB h
    clear h
    rw[hke,List.take_length,← hpt]
    refine Ai 1200 q_ ?_
    refine T ?_
    refine⟨hne,?_⟩
    refine T ?_
    refine⟨(⟨(n.domains[((j:Nat):Int).toNat]'hj0).dev,(n.domains[((j:Nat):Int).toNat]'hj0).vlan,(n.domains[((j:Nat):Int).toNat]'hj0).vni,(n.domains[((j:Nat):Int).toNat]'hj0).irb,(n.domains[((j:Nat):Int).toNat]'hj0).row,ps⟩:Domain),by rw[m1];rfl,by rw[m1];rfl,?_⟩
    refine T ?_
    exact Ar (j+1) [] hlt j_ ⟨⟨q_,q_,q_,q_,q_,q_,q_,q_,q_,q_,z_⟩,⟨.inl q_,q_,.inl q_,q_,.inl q_,q_,.inl q_,q_,.inl (congrArg (Ob.row 6 An) m2.symm),q_,.inl q_,q_,.inl q_,q_,.inl q_,q_,.inl q_,q_,z_⟩,q_,q_⟩
  ·have hje:j=n.domains.length:=qB h
   clear h
   subst hje
   rw[Aoa]
   have qm:=Cb (Al n) (Yd hn hr)
   refine T ?_
   refine Ai 901 q_ ?_
   refine Ai 902 q_ ?_
   refine Ai 903 q_ ?_
   refine Ai 1004 q_ ?_
   refine Ai 905 q_ ?_
   refine Ai 906 q_ ?_
   refine Ai 907 q_ ?_
   refine Ai 908 q_ ?_
   cases hb:Ah (Al n) with
   | false =>
    rw[hb]at qm
    rw[hb,if_pos rfl]at hres
    subst hres
    refine C qm F81 ?_
    refine Am 1001 (C3 emptyN) q_ (.cons .nil (.cons .nil (.cons .nil (.cons .nil (.cons .nil (.cons .nil (.cons .nil (.cons .nil .nil)))))))) ?_
    refine T ?_
    exact D
   | true =>
    rw[hb]at qm
    rw[hb,if_neg qe]at hres
    subst hres
    refine C qm F81 ?_
    exact D
end Go.Sy.YtdkfcckkkfghgaaGreatDoor
namespace Go.Sy.YtdkfcckkkfghgaaGreatDoor
open Go.Proofs
set_option maxHeartbeats 4000000
structure PutP (x:Net × Int):Prop where
 fin:x.1.Fin
 addrs:I3 x.1
 none:x.2≠0→x.1=emptyN
theorem Lm:emptyN.Fin:=by
 constructor<;>first | (show (0:Nat)<2147483648;decide) | (intro p hp;cases hp)
theorem A4 (e:Int):PutP (emptyN,e):=⟨Lm,(fun x hx=>by cases hx),fun _=>rfl⟩
theorem J9 {n:Net} (h:n.Fin) (a:I3 n):PutP (n,0):=⟨h,a,fun h=>absurd rfl h⟩
theorem Oq {n:Net} {l:LineM} {k:Int} (h:¬ fitsB n l k=false):n.devices.length≤8∧n.ports.length≤40∧n.links.length≤20∧n.domains.length≤48∧n.statics.length≤64∧n.floods.length≤48∧n.vrfs.length≤16∧n.irbs.length≤48:=by
 have h:fitsB n l k=true:=by simpa using h
 rw[fitsB,Bool.and_eq_true,Bool.and_eq_true]at h
 have h3:=h.2.2
 simp only[Ah,Bool.and_eq_true]at h3
 have h4:=h3.1.1.1.1.1.1.1.1
 simpa [Afy,and_assoc] using h4
theorem Uq {n:Net} {l:LineM} {k:Int} (h:¬ (begT n l k).2≠0):n.devices.length≤8∧n.ports.length≤40∧n.links.length≤20∧n.domains.length≤48∧n.statics.length≤64∧n.floods.length≤48∧n.vrfs.length≤16∧n.irbs.length≤48:=by
 apply Oq (l:=l) (k:=k)
 intro h2
 rw[begT,if_pos h2]at h
 exact h qd
theorem C1 {α:Type} {l:List α} (h:l.length≤100000):Ax l:=by show l.length<2147483648;omega
theorem Wp (dev:Int):∀ (l:List Int) (ds:List Domain) (d:Domain),d∈At dev ds l→d∈ds∨d.peers=[]
 | [],_,_,h=>.inl h
 | v::l,ds,d,h=>by
  rcases Wp dev l (Bh dev ds v) d h with h | h
  ·unfold Bh at h
   split at h
   ·rcases List.mem_append.1 h with h | h
    ·exact .inl h
    ·rw[List.mem_singleton.1 h];exact .inr rfl
   ·exact .inl h
  ·exact .inr h
theorem mem_set {α:Type} {l:List α} {i:Nat} {x y:α} (h:y∈l.set i x):y∈l∨y=x:=by
 rcases List.mem_or_eq_of_mem_set h with h | h
 ·exact .inl h
 ·exact .inr h
theorem Ah9 {α:Type} [Inhabited α] {l:List α} {i:Int} (h:i.toNat<l.length):nth l i∈l:=by rw[A1 h];exact List.getElem_mem h
theorem Zq {n:Net} {l:LineM} (hn:n.Fin) (ha:I3 n):PutP (putDevice n l):=by
 unfold putDevice
 split
 ·exact A4 _
 rename_i h
 have:=Oq h
 split
 ·exact A4 _
 split
 ·exact A4 _
 exact J9 { hn with devices:=C1 (by rw[List.length_append,List.length_singleton];omega) } ha
theorem Aef {n:Net} {l:LineM} (hn:n.Fin) (ha:I3 n) (hl:LineW l):PutP (putPort n l):=by
 unfold putPort
 split
 ·exact A4 _
 rename_i h
 have:=Oq h
 split
 ·exact A4 _
 split
 ·exact A4 _
 split
 ·exact A4 _
 split
 ·exact A4 _
 refine J9 { hn with ports:=C1 (by rw[List.length_append,List.length_singleton];omega),domains:=C1 (by dsimp only;omega),tagged:=fun p hp=>?_,peers:=fun d hd=>?_ } ha
 ·rcases List.mem_append.1 hp with hp | hp
  ·exact hn.tagged p hp
  ·rw[List.mem_singleton.1 hp];exact C1 hl.fin.t
 ·rcases Wp _ _ _ _ hd with h | h
  ·exact hn.peers d h
  ·exact C1 (by rw[h];exact Nat.zero_le _)
theorem Ajh {l:List Port} {i k:Int} {p:Port} (h:p∈Cv l i k) (hT:∀ p∈l,Ax p.tagged):Ax p.tagged:=by
 by_cases hi:i.toNat<l.length
 ·rcases mem_set h with h | h
  ·exact hT p h
  ·rw[h];exact show Ax (nth l i).tagged from hT _ (Ah9 hi)
 ·rw[Cv,List.set_eq_of_length_le j_]at h
  exact hT p h
theorem Aeg {n:Net} {l:LineM} (hn:n.Fin) (ha:I3 n):PutP (putLink n l):=by
 unfold putLink
 split
 ·exact A4 _
 rename_i h
 have:=Oq h
 dsimp only
 split
 ·exact A4 _
 split
 ·exact A4 _
 split
 ·exact A4 _
 refine J9 { hn with ports:=C1 (by simp only[Cv,List.length_set];omega),links:=C1 (by rw[List.length_append,List.length_singleton];omega),tagged:=fun p hp=>Ajh hp fun q hq=>Ajh hq hn.tagged } ha
theorem Zp {n:Net} {l:LineM} (hn:n.Fin) (ha:I3 n):PutP (putStatic n l):=by
 unfold putStatic
 split
 ·exact A4 _
 rename_i h
 have:=Oq h
 dsimp only
 split
 ·exact A4 _
 split
 ·exact A4 _
 split
 ·exact A4 _
 split
 ·exact A4 _
 exact J9 { hn with statics:=C1 (by rw[List.length_append,List.length_singleton];omega) } ha
theorem Aee {n:Net} {l:LineM} (hn:n.Fin) (ha:I3 n):PutP (putVtep n l):=by
 unfold putVtep
 split
 ·exact A4 _
 rename_i h
 have:=Uq h
 dsimp only
 split
 ·exact A4 _
 exact J9 { hn with devices:=C1 (by simp only[U4,List.length_set];omega) } ha
theorem Akd {l:List Domain} {i:Nat} {e d:Domain} (h:d∈l.set i e) (he:i<l.length→Ax e.peers) (hT:∀ p∈l,Ax p.peers):Ax d.peers:=by
 by_cases hi:i<l.length
 ·rcases mem_set h with h | h
  ·exact hT d h
  ·rw[h];exact he hi
 ·rw[List.set_eq_of_length_le j_]at h
  exact hT d h
theorem Ahv {n:Net} {l:LineM} (hn:n.Fin) (ha:I3 n):PutP (putVni n l):=by
 unfold putVni
 split
 ·exact A4 _
 rename_i h
 have:=Uq h
 dsimp only
 split
 ·exact A4 _
 split
 ·exact A4 _
 split
 ·exact A4 _
 exact J9 { hn with domains:=C1 (by simp only[List.length_set];omega),peers:=fun d hd=>Akd hd (fun hi=>show Ax (nth n.domains _).peers from hn.peers _ (Ah9 hi)) hn.peers } ha
theorem Abt {n:Net} {l:LineM} (hn:n.Fin) (ha:I3 n) (hl:LineW l):PutP (putFlood n l):=by
 unfold putFlood
 split
 ·exact A4 _
 rename_i h
 have:=Uq h
 dsimp only
 split
 ·exact A4 _
 split
 ·exact A4 _
 split
 ·exact A4 _
 split
 ·exact A4 _
 refine J9 { hn with floods:=C1 (by rw[List.length_append,List.length_singleton];omega),addrs:=fun p hp=>?_ } ha
 rcases List.mem_append.1 hp with hp | hp
 ·exact hn.addrs p hp
 ·rw[List.mem_singleton.1 hp];exact C1 hl.fin.a
theorem Ahu {n:Net} {l:LineM} (hn:n.Fin) (ha:I3 n) (hl:LineW l):PutP (putVrf n l):=by
 unfold putVrf
 split
 ·exact A4 _
 rename_i h
 have:=Uq h
 dsimp only
 split
 ·exact A4 _
 split
 ·exact A4 _
 refine J9 { hn with vrfs:=C1 (by rw[List.length_append,List.length_singleton];omega),imports:=fun p hp=>?_,exports:=fun p hp=>?_ } ha
 ·rcases List.mem_append.1 hp with hp | hp
  ·exact hn.imports p hp
  ·rw[List.mem_singleton.1 hp];exact C1 hl.fin.i
 ·rcases List.mem_append.1 hp with hp | hp
  ·exact hn.exports p hp
  ·rw[List.mem_singleton.1 hp];exact C1 hl.fin.e
theorem Ahw {n:Net} {l:LineM} (hn:n.Fin) (ha:I3 n) (hl:LineW l):PutP (putIrb n l):=by
 unfold putIrb
 split
 ·exact A4 _
 rename_i h
 have:=Uq h
 dsimp only
 split
 ·exact A4 _
 split
 ·exact A4 _
 split
 ·exact A4 _
 refine J9 { hn with domains:=C1 (by simp only[List.length_set];omega),peers:=fun d hd=>Akd hd (fun hi=>show Ax (nth n.domains _).peers from hn.peers _ (Ah9 hi)) hn.peers,irbs:=C1 (by rw[List.length_append,List.length_singleton];omega) } fun x hx=>?_
 rcases List.mem_append.1 hx with hx | hx
 ·exact ha x hx
 ·rw[List.mem_singleton.1 hx];exact hl.ok.addr
theorem Aqd {n:Net} {l:LineM} (hn:n.Fin) (ha:I3 n) (hl:LineW l):PutP (putT n l):=by
 unfold putT
 split
 ·exact Zq hn ha
 split
 ·exact Aef hn ha hl
 split
 ·exact Aeg hn ha
 split
 ·exact Zp hn ha
 split
 ·exact Aee hn ha
 split
 ·exact Ahv hn ha
 split
 ·exact Abt hn ha hl
 split
 ·exact Ahu hn ha hl
 split
 ·exact Ahw hn ha hl
 exact A4 _
theorem Alp {n:Net} (hn:n.Fin):(meshNT n).1.Fin:=by
 unfold meshNT
 split
 ·exact Lm
 rename_i h
 have h:Ah n=true:=by simpa using h
 split
 ·exact Lm
 split
 ·exact Lm
 exact Yd hn h
end Go.Sy.YtdkfcckkkfghgaaGreatDoor
namespace Go.Sy.YtdkfcckkkfghgaaGreatDoor
open Go.Proofs
attribute [local irreducible] Go.Sy.G Go.Sy.DR
set_option maxRecDepth 100000
set_option maxHeartbeats 4000000
def Te (dn lk:Int) (M:List LineM) (n:Net) (row e:Int):List SV:=[.val (.int .u32 dn),.val (.int .i32 lk),.val (.int .u32 0),.sl 17 Ad M]++C3 n++[Aa row,Aa e]
def Ew (dn lk:Int) (M:List LineM) (x:Net × Int × Int):Obs:=[(0,.box (Te dn lk M x.1 x.2.1 x.2.2))]
theorem Aob {n:Net} (h:(meshNT n).2.2=0):(meshNT n).2.1=0:=by
 unfold meshNT at h ⊢
 split
 ·rfl
 rename_i h1
 rw[if_neg h1]at h
 split at h
 ·cases h
 ·rename_i h2
  split at h
  ·cases h
  ·rename_i h3
   rw[if_neg h3]
theorem Ahl (M:List LineM) (hM:∀ l∈M,LineW l) (hl:M.length<2147483648) (dn lk:Int):Sy.Spec Tryz.prog 20 [.ptr 0 0] (Ew dn lk M (emptyN,0,0)) (.tup []) (Ew dn lk M (Ca M)):=cT F20 Tryz.ntmps20 fun F hF=>by
 refine T ?_
 refine Bk (fun x:Nat × Net=>x.1≤M.length∧x.2.Fin∧I3 x.2∧Ca M=Hx x.2 (M.drop x.1)) (fun x=>[(0,.ptr 0 0),(9,.sl 17 Ad M),(10,Aa M.length),(11,Aa x.1)]) (fun x=>Ew dn lk M (x.2,0,0)) (fun x=>M.length-x.1) (0,emptyN) [] ⟨by omega,Lm,(fun x hx=>by cases hx),rfl⟩ U ?_
 rintro ⟨j,n⟩ ⟨hj,hn,ha,hI⟩
 dsimp only at hj hn ha hI ⊢
 refine T ?_
 refine⟨fun h=>?_,fun h=>?_⟩
 ·have hlt:j<M.length:=qA h
  have hj0:((j:Nat):Int).toNat<M.length:=hlt
  clear h
  have hw:=hM _ (List.getElem_mem hj0)
  have q:=Aql n hn ha _ hw
  have hp:=Aqd hn ha hw
  rw[List.drop_eq_getElem_cons hlt,Hx]at hI
  refine T ?_
  refine cD q F37 ?_
  refine T ?_
  refine⟨fun h=>?_,fun h=>?_⟩
  ·have hne:(putT n (M[((j:Nat):Int).toNat]'hj0)).2≠0:=by intro e;rw[e]at h;cases h
   have he:=hp.none hne
   have hI2:Ca M=(emptyN,(M[((j:Nat):Int).toNat]'hj0).row,(putT n (M[((j:Nat):Int).toNat]'hj0)).2):=hI.trans (if_pos hne)
   rw[hI2,← he]
   clear h
   refine T ?_
   exact done q_ .nil [] (Ew dn lk M ((putT n (M[((j:Nat):Int).toNat]'hj0)).1,(M[((j:Nat):Int).toNat]'hj0).row,(putT n (M[((j:Nat):Int).toNat]'hj0)).2)) (fun _ h=>h) q_ q_ U
  ·have he:(putT n (M[((j:Nat):Int).toNat]'hj0)).2=0:=by simpa using h
   have hI2:Ca M=Hx (putT n (M[((j:Nat):Int).toNat]'hj0)).1 (M.drop (j+1)):=hI.trans (if_neg (fun hh=>hh he))
   clear h
   refine T ?_
   exact Ar (j+1,(putT n (M[((j:Nat):Int).toNat]'hj0)).1) [] ⟨hlt,hp.fin,hp.addrs,hI2⟩ (by dsimp only;omega) ⟨⟨q_,q_,q_,q_,q_,q_,q_,q_,z_⟩,⟨.inl (congrArg (fun e:Int=>Ob.box (Te dn lk M (putT n (M[((j:Nat):Int).toNat]'hj0)).1 0 e)) he.symm),q_,z_⟩,q_,q_⟩
 ·have hje:j=M.length:=qB h
  clear h
  rw[hje,List.drop_length,Hx]at hI
  rw[hI]
  have qm:=meshS n hn
  have hf:=finishT.eq_1 n
  refine T ?_
  refine C qm F38 ?_
  refine T ?_
  refine⟨fun h=>?_,fun h=>?_⟩
  ·have hne:(meshNT n).2.2≠0:=by intro e;rw[e]at h;cases h
   rw[if_pos hne]at hf
   rw[hf]
   clear h
   refine T ?_
   exact done q_ .nil [] (Ew dn lk M (meshNT n)) (fun _ h=>h) q_ q_ U
  have he:(meshNT n).2.2=0:=by simpa using h
  clear h
  have hrow:(meshNT n).2.1=0:=Aob he
  rw[if_neg (by rw[he];decide)]at hf
  have ql:=loopS (meshNT n).1 (Alp hn)
  refine T ?_
  refine C ql F39 ?_
  refine T ?_
  refine⟨fun h=>?_,fun h=>?_⟩
  ·rw[if_pos h]at hf
   rw[hf]
   clear h
   refine T ?_
   refine Am 0 (Te dn lk M emptyN (loopT (meshNT n).1).1 38) q_ (.cons (.refl _) (.cons (.refl _) (.cons (.refl _) (.cons (.refl _) (.cons .nil (.cons .nil (.cons .nil (.cons .nil (.cons .nil (.cons .nil (.cons .nil (.cons .nil (.cons (.refl _) (.cons (.refl _) .nil)))))))))))))) ?_
   exact B0 q_ .nil [] (Ew dn lk M (emptyN,(loopT (meshNT n).1).1,38)) (fun _ h=>h) q_ q_ U
  ·rw[if_neg (by rw[h];decide)]at hf
   rw[hf]
   clear h
   refine T ?_
   exact B0 q_ .nil [] (Ew dn lk M ((meshNT n).1,0,0)) (fun _ h=>h) q_ q_ ⟨z_,⟨.inl (congrArg (fun a:Int × Int=>Ob.box (Te dn lk M (meshNT n).1 a.1 a.2)) (Prod.ext hrow.symm he.symm:((0:Int),(0:Int))=(meshNT n).2)),q_,z_⟩,q_,q_⟩
theorem Aj3 (a:Addr) (x:Int) (w:World) (hc:w.cell? a=some (.int .u32 x)):(callFunc 68 #[.pointer (some a)]).run Tryz.prog w=.ok (.value (.int .u32 x)) w :=
 run_call_load Tryz.func68 y_ y_ y_ .u32 y_ hc
theorem Qt (w:World):(callFunc 194 #[]).run Tryz.prog w=.ok (.value (.tuple #[])) w:=run_call_mark0 Tryz.func194 y_ y_ y_ .disable y_ w
theorem Tp (w:World):(callFunc 196 #[]).run Tryz.prog w=.ok (.value (.tuple #[])) w:=run_call_mark0 Tryz.func196 y_ y_ y_ .enable y_ w
theorem Zo (a:Addr) (w:World):(callFunc 197 #[.pointer (some a)]).run Tryz.prog w=.ok (.value (.tuple #[])) w:=run_call_marked Tryz.func197 y_ y_ y_ .acquire y_ a w
theorem Zn (a:Addr) (w:World):(callFunc 199 #[.pointer (some a)]).run Tryz.prog w=.ok (.value (.tuple #[])) w:=run_call_marked Tryz.func199 y_ y_ y_ .releaseMerge y_ a w
theorem Ws (a:Addr) (x:Value) (u:FrameMode) (w:World) (hc:w.cell? a=some x) (hz:w.frozen? a=false) :
  CallsD Tryz.prog 71 #[.pointer (some a),.bool true] u w fun e u' w'=>u'=u∧(e=.returned (.tuple #[])∧w'=w.drew.setCell a (.int .u32 1)):=by
 have hc':w.drew.cell? a=some x:=by go_simp
 have hz':w.drew.frozen? a=false:=by go_simp
 have hst:=run_call_store (P:=Tryz.prog) Tryz.func120 y_ y_ y_ y_ (k:=.u32) (y:=1) hc' hz'
 go_enter_d Tryz.func71,Tryz.ntmps71
 go_wp2
 go_region_calls
 all_goals (go_end0;exact⟨rfl,rfl⟩)
theorem Uy (a:Addr) (u:FrameMode) (w:World) (hc:w.cell? a=some (.int .i32 1)) (hz:w.frozen? a=false) :
  CallsD Tryz.prog 70 #[.pointer (some a)] u w fun e u' w'=>u'=u∧(e=.returned (.tuple #[])∧w'=w.setCell a (.int .i32 0)):=by
 have hd:=Qt
 have he:=Tp
 have hr:=Zn
 have hadd:=run_call_add (P:=Tryz.prog) Tryz.func200 y_ y_ y_ .i32 y_ (y:=-1) (s:=0) hc hz (by simp[go_sem];rfl)
 have hcv:=run_convert_to_unsafe (P:=Tryz.prog) (src:=257) (dst:=261) Tryz.underlying257 Tryz.underlying261 y_ hc
 go_enter_d Tryz.func70,Tryz.ntmps70
 go_wp2
 go_end0
 go_wp2
 go_end0
 exact⟨q_,q_⟩
theorem Aii (a:Addr) (w:World) (hc:w.cell? a=some (.int .i32 0)) (hz:w.frozen? a=false) :
  Calls Tryz.prog 69 #[.pointer (some a)] w fun e w'=>e=.returned (.tuple #[])∧w'=w.setCell a (.int .i32 1):=by
 have hd:=Qt
 have he:=Tp
 have ha:=Zo
 have hcas:=run_call_cas_hit (P:=Tryz.prog) Tryz.func195 y_ y_ y_ .i32 y_ (y:=1) hc hz
 have hc':(w.setCell a (.int .i32 1)).cell? a=some (.int .i32 1):=World.cell?_setCell_same w a _ hc
 have hcv:=run_convert_to_unsafe (P:=Tryz.prog) (src:=257) (dst:=261) Tryz.underlying257 Tryz.underlying261 y_ hc'
 go_enter Tryz.func69,Tryz.ntmps69
 go_wp2
 first | go_end0 | (simp only[Exit.inBlock,Exit.then];refine bodyPost_ret (results_none rfl _ _ _) rfl ?_) | refine bodyPost_ret (results_none rfl _ _ _) rfl ?_
 go_wp2
 go_end0
 exact⟨q_,q_⟩
theorem Ctx.behindN {K:Nat→Prop} {κ κ2:Ka} {w w1 w2:World} (s:Step K κ w κ w1) (c:Ctx ⟨w1,κ,[]⟩ κ2 w2):Ctx ⟨w,κ,[]⟩ κ2 w2 where
 size:=Nat.le_trans s.size c.size
 os:=c.os.trans s.os
 tape:=c.tape.trans s.tape
 output:=c.output.trans s.output
 M:=c.M
 old:=fun b hb h=>by
  refine(c.old b (Nat.lt_of_lt_of_le hb s.size) h).trans ?_
  by_cases hm:κ.M b
  ·exact s.mkeep b hm
  ·exact s.blk b hb (fun ho=>by
    rcases ho with ⟨k,hk⟩ | ho
    ·exact h k hk
    ·exact hm ho)
 own:=fun k b hk=>by
  rcases c.own k b hk with h | h
  ·exact .inl (Nat.le_trans s.size h)
  ·exact .inr h
 nam:=c.nam
theorem Aiy {κ:Ka} {w:World} (hi:Inv κ w):Step (fun _=>False) κ w κ w.drew∧Inv κ w.drew:=by
 have g:=Grew.drew w
 exact⟨⟨g.size,g.os,g.tape,g.output,q_,fun b _=>rfl,fun b _ _=>rfl,fun _ _ _ _=>rfl,fun _ _=>rfl,fun _ h=>h.elim,fun _ h=>.inl h⟩,⟨hi.inj,hi.bnd,hi.apart,hi.mbnd⟩⟩
theorem Ak3 (M:List LineM) (hM:∀ l∈M,LineW l) (hl:M.length<2147483648) :
  Sy.Spec Tryz.prog 36 [.ptr 0 0,.clo (.func 20) [.ptr 0 0] []] (Ew 0 0 M (emptyN,0,0)) (.tup []) (Ew 1 0 M (Ca M)):=by
 intro κ w vs hi hnew hvs hok
 have o1:=hok (0,.box (Te 0 0 M emptyN 0 0)) (by simp[Ew])
 obtain ⟨b,e1,c1,c2,st1,inv1,ob1⟩:=Ib (off:=1) (x:=.val (.int .i32 1)) (v:=.int .i32 1) hi o1 rfl (fun _ _=>by simp only[Rd]) rfl
 simp only[RdL,Rd,e1]at hvs
 obtain ⟨v0,r0,rfl,rfl,v1,r1,rfl,⟨fs,cs,rfl,hfs,hcs⟩,rfl⟩:=hvs
 obtain ⟨p3,q3,rfl,rfl,rfl⟩:=hfs
 subst hcs
 have hcl:=Ahl M hM hl 0 1 κ (w.setCell ⟨b,1,none⟩ (.int .i32 1)) [.pointer (some ⟨b,0,none⟩)] inv1 hnew (by simp only[RdL,Rd,e1];exact⟨_,_,rfl,rfl,rfl⟩) (fun p hp=>by
  simp only[Ew,List.mem_cons,List.not_mem_nil,or_false]at hp
  rw[hp]
  exact ob1)
 obtain ⟨u1,hu1,hr1⟩:=c1 0 (.val (.int .u32 0)) rfl
 obtain ⟨u2,hu2,hr2⟩:=c1 1 (.val (.int .i32 0)) rfl
 rw[hr1.val]at hu1
 rw[hr2.val]at hu2
 have f1:=c2 0 (show 0<14 by decide)
 have f2:=c2 1 (show 1<14 by decide)
 have hl:=Aj3 ⟨b,0,none⟩ 0 (w.setCell ⟨b,1,none⟩ (.int .i32 1)) ((World.cell?_setCell_other _ ⟨b,1,none⟩ ⟨b,0,none⟩ _ qe).trans hu1)
 have hnot:∀ (x:Bool) (w:World),(Op.unary .not (.bool x)).run Tryz.prog w=.ok (.bool (!x)) w:=fun _ _=>rfl
 go_enter_defers Tryz.func36,Tryz.ntmps36
 go_wp2_with (first | (go_at_call 69;refine(Aii ⟨b,1,none⟩ _ (by assumption) (by assumption)).mono ?_;rintro e w' ⟨rfl,rfl⟩) | (go_at_call 20;refine hcl.mono ?_;rintro e w' ⟨v,κ2,rfl,hc2,hi2,hv2,ok2⟩) | (go_at_call 35;go_in))
 have p1:=ok2 (0,.box (Te 0 1 M (Ca M).1 (Ca M).2.1 (Ca M).2.2)) (by simp[Ew])
 have k1:κ2 0=.blk b:=by
  obtain ⟨bb,_,_,_,q1,_⟩:=id p1
  rcases hc2.nam 0 (by rw[e1];intro h;cases h) with h | h
  ·rw[h];exact e1
  ·rw[h]at q1;cases q1
 obtain ⟨ba,a1,a2,a3,_,_,_⟩:=Ib (off:=0) (x:=.val (.int .u32 1)) (v:=.int .u32 1) hi2 p1 rfl (fun _ _=>by simp only[Rd]) rfl
 rw[k1]at a1
 cases a1
 obtain ⟨std,invd⟩:=Aiy hi2
 have p2:=ObOK.step std (k:=0) (fun h=>h) _ p1
 obtain ⟨ba,a1,_,_,st3,inv3,ob3⟩:=Ib (off:=0) (x:=.val (.int .u32 1)) (v:=.int .u32 1) invd p2 rfl (fun _ _=>by simp only[Rd]) rfl
 rw[k1]at a1
 cases a1
 have ob3:ObOK κ2 (w'.drew.setCell ⟨b,0,none⟩ (.int .u32 1)) 0 (.box (Te 1 1 M (Ca M).1 (Ca M).2.1 (Ca M).2.2)):=ob3
 obtain ⟨ba,a1,a4,a5,st4,inv4,ob4⟩:=Ib (off:=1) (x:=.val (.int .i32 0)) (v:=.int .i32 0) inv3 ob3 rfl (fun _ _=>by simp only[Rd]) rfl
 rw[k1]at a1
 cases a1
 have ob4:ObOK κ2 ((w'.drew.setCell ⟨b,0,none⟩ (.int .u32 1)).setCell ⟨b,1,none⟩ (.int .i32 0)) 0 (.box (Te 1 0 M (Ca M).1 (Ca M).2.1 (Ca M).2.2)):=ob4
 obtain ⟨v1,hv1,hr1⟩:=a2 0 (.val (.int .u32 0)) rfl
 rw[hr1.val]at hv1
 obtain ⟨v2,hv2,hr2⟩:=a4 1 (.val (.int .i32 1)) rfl
 rw[hr2.val]at hv2
 refine leaves_cons (f:=71) (args:=#[.pointer (some ⟨b,0,none⟩),.bool true]) qe (by simp[go_sem]) ?_
 refine(Ws ⟨b,0,none⟩ (.int .u32 0) .returning _ hv1 (a3 0 (show 0<14 by decide))).mono ?_
 rintro e u' w'' ⟨rfl,rfl,rfl⟩
 refine leaves_cons (f:=70) (args:=#[.pointer (some ⟨b,1,none⟩)]) (by simp[settle]) (by simp[go_sem]) ?_
 refine(Uy ⟨b,1,none⟩ _ _ hv2 (a5 1 (show 1<14 by decide))).mono ?_
 rintro e u' w'' ⟨rfl,rfl,rfl⟩
 have hst:Step (·=0) κ2 w' κ2 ((w'.drew.setCell ⟨b,0,none⟩ (.int .u32 1)).setCell ⟨b,1,none⟩ (.int .i32 0)):=(std.weaken (fun _ h=>h.elim)).trans (st3.trans st4)
 refine⟨.tuple #[],by simp[results,Tryz.results36],.tuple #[],κ2,q_,Ctx.behindN st1 (hc2.step inv4 hst),inv4,⟨[],q_,q_⟩,fun p hp=>?_⟩
 simp only[Ew,List.mem_cons,List.not_mem_nil,or_false]at hp
 rw[hp]
 exact ob4
theorem Ak4 (M:List LineM) (dn lk:Int) (x:Net × Int × Int):Sy.Spec Tryz.prog 35 [.ptr 0 0] (Ew dn lk M x) (Ab (dn != 0)) (Ew dn lk M x):=cT F35 Tryz.ntmps35 fun F hF=>by
 ((conv=>whnf);repeat((first|refine aF ?_|refine aT ?_);(first|refine rG Γ hm ?_|refine rD Γ hm y_ ?_);conv=>whnf))
 refine Cj (Z2 Aj3 q_ q_ q_ q_) q_ q_ ?_
 ((first|refine rG Γ hm ?_|refine rD Γ hm y_ ?_);(conv=>whnf);repeat((first|refine aF ?_|refine aT ?_);(first|refine rG Γ hm ?_|refine rD Γ hm y_ ?_);conv=>whnf))
 exact done q_ (.cons .tmp .nil) [] (Ew dn lk M x) (fun _ h=>h) q_ q_ U
theorem Ap8 (M:List LineM) (hM:∀ l∈M,LineW l) (hl:M.length<2147483648) :
  Sy.Spec Tryz.prog 19 [.ptr 0 0,.clo (.func 20) [.ptr 0 0] []] (Ew 0 0 M (emptyN,0,0)) (.tup []) (Ew 1 0 M (Ca M)):=cT F19 Tryz.ntmps19 fun F hF=>by
 have q1:Sy.Spec Tryz.prog 35 [.ptr 0 0] (Ew 0 0 M (emptyN,0,0)) (Ab false) (Ew 0 0 M (emptyN,0,0)):=Ak4 M 0 0 (emptyN,0,0)
 have q2:=Ak3 M hM hl
 ((conv=>whnf);repeat((first|refine aF ?_|refine aT ?_);(first|refine rG Γ hm ?_|refine rD Γ hm y_ ?_);conv=>whnf))
 refine X (Ac [] q_ F35 q1 q_ W q_ V) ?_
 ((first|refine rG Γ hm ?_|refine rD Γ hm y_ ?_);(conv=>whnf);repeat((first|refine aF ?_|refine aT ?_);(first|refine rG Γ hm ?_|refine rD Γ hm y_ ?_);conv=>whnf))
 refine X (Ac [] q_ F36 q2 q_ W q_ V) ?_
 ((first|refine rG Γ hm ?_|refine rD Γ hm y_ ?_);(conv=>whnf);repeat((first|refine aF ?_|refine aT ?_);(first|refine rG Γ hm ?_|refine rD Γ hm y_ ?_);conv=>whnf))
 exact B0 q_ .nil [] (Ew 1 0 M (Ca M)) (fun _ h=>h) q_ q_ U
theorem Am9 (M:List LineM) (hM:∀ l∈M,LineW l) (hl:M.length<2147483648):Sy.Spec Tryz.prog 11 [.ptr 0 0] (Ew 0 0 M (emptyN,0,0)) (.tup [Av (Ca M).1,Aa (Ca M).2.1,Aa (Ca M).2.2]) (Ew 1 0 M (Ca M)):=cT F11 Tryz.ntmps11 fun F hF=>by
 have q:=Ap8 M hM hl
 refine T ?_
 refine X (Ac [] q_ F19 q q_ W q_ V) ?_
 refine T ?_
 exact done q_ (.cons (.cell q_ q_ q_ q_) (.cons .tmp (.cons .tmp .nil))) [] (Ew 1 0 M (Ca M)) (fun _ h=>h) q_ q_ U
theorem Aal (M:List LineM) (hM:∀ l∈M,LineW l) (hl:M.length<2147483648):Sy.Spec Tryz.prog 6 [.sl 17 Ad M] [] (.tup [Av (Ca M).1,Aa (Ca M).2.1,Aa (Ca M).2.2]) []:=cT F6 Tryz.ntmps6 fun F hF=>by
 have q:=Am9 M hM hl
 refine T ?_
 refine Am 8 (Te 0 0 M emptyN 0 0) q_ (.cons (.refl _) (.cons (.refl _) (.cons (.refl _) (.cons (.refl _) (.cons .nil (.cons .nil (.cons .nil (.cons .nil (.cons .nil (.cons .nil (.cons .nil (.cons .nil (.cons (.refl _) (.cons (.refl _) .nil)))))))))))))) ?_
 refine X (Ac [(0,8)] q_ F11 q q_ W q_ V) ?_
 refine T ?_
 exact D
end Go.Sy.YtdkfcckkkfghgaaGreatDoor
namespace Go.Sy.YtdkfcckkkfghgaaGreatDoor
open Go.Proofs
set_option maxHeartbeats 4000000
structure LineR (l:LineM):Prop where
 right:Ao l=true
 ok:LineOK l
 vlan:0≤l.vlan∧l.vlan≤4094
 num:0≤l.num∧l.num≤16777215
 cost:0≤l.cost∧l.cost≤65535
 bits:0≤l.bits∧l.bits≤32
 tagged:E5 l.tagged 4094=true
 imports:E5 l.imports 65535=true
 exports:E5 l.exports 65535=true
 addrs:l.addrs.length≤16
 dev:l.dev.size≤12
 port:l.port.size≤12
 peer:l.peer.size≤12
 far:l.far.size≤12
 name:l.name.size≤12
theorem Ahs (l:LineM) (r:Int):Ao { l with row:=r }=Ao l:=by
 by_cases h1:l.kind=1
 ·simp[Ao,A0,E3,h1]
 by_cases h2:l.kind=2
 ·simp[Ao,A0,E3,h1,h2]
 by_cases h3:l.kind=3
 ·simp[Ao,A0,E3,h1,h2,h3]
 by_cases h4:l.kind=4
 ·simp[Ao,A0,E3,h1,h2,h3,h4]
 by_cases h5:l.kind=5
 ·simp[Ao,A0,E3,h1,h2,h3,h4,h5]
 by_cases h6:l.kind=6
 ·simp[Ao,A0,E3,h1,h2,h3,h4,h5,h6]
 by_cases h7:l.kind=7
 ·simp[Ao,A0,E3,h1,h2,h3,h4,h5,h6,h7]
 by_cases h8:l.kind=8
 ·simp[Ao,A0,E3,h1,h2,h3,h4,h5,h6,h7,h8]
 by_cases h9:l.kind=9
 ·simp[Ao,A0,E3,h1,h2,h3,h4,h5,h6,h7,h8,h9]
 simp[Ao,A0,E3,h1,h2,h3,h4,h5,h6,h7,h8,h9]
theorem LineR.row {l:LineM} (h:LineR l) (r:Int):LineR { l with row:=r } :=
 ⟨by rw[Ahs];exact h.right,⟨h.ok.mac,h.ok.addr,h.ok.addrs⟩,h.vlan,h.num,h.cost,h.bits,h.tagged,h.imports,h.exports,h.addrs,h.dev,h.port,h.peer,h.far,h.name⟩
end Go.Sy.YtdkfcckkkfghgaaGreatDoor
namespace Go.Sy.YtdkfcckkkfghgaaGreatDoor
open Go.Proofs
attribute [local irreducible] Go.Sy.G Go.Sy.DR
set_option maxRecDepth 100000
set_option maxHeartbeats 4000000
theorem LineR.w {l:LineM} (h:LineR l):LineW l where
 fin:=by
  have e:∀ {l:List Int} {m:Int},E5 l m=true→m≤65535→l.length≤100000:=fun {l} {m} hl hm=>by
   rcases listOK_iff.1 hl with h | h
   ·rw[h];exact Nat.zero_le _
   ·have:=(rising_iff.1 h).2.2.2;omega
  exact⟨e h.tagged qd,e h.imports qd,e h.exports qd,by have:=h.addrs;omega⟩
 ok:=h.ok
 dev:=by have:=h.dev;omega
 port:=by have:=h.port;omega
 peer:=by have:=h.peer;omega
 far:=by have:=h.far;omega
 name:=by have:=h.name;omega
end Go.Sy.YtdkfcckkkfghgaaGreatDoor
namespace Go.Sy.YtdkfcckkkfghgaaGreatDoor
open Go.Proofs
theorem Ed {α:Type} [Inhabited α] (l:List α) (x:α) {i:Int} (h:i.toNat<l.length):nth (l++[x]) i=nth l i:=by
 rw[nth,nth,List.getElem?_append_left h]
theorem Da {α:Type} [Inhabited α] (l:List α) (x:α):nth (l++[x]) (l.length:Int)=x:=by
 rw[nth,Int.toNat_natCast,List.getElem?_append_right (Nat.le_refl _),Nat.sub_self];rfl
theorem place_iff {i:Int} {k:Nat}:Af i k=true↔0≤i∧i<k:=by simp[Af]
theorem Em {α:Type} [Inhabited α] (l:List α) (x:α) {i:Int} {j:Nat} (h:i.toNat≠j):nth (l.set j x) i=nth l i:=by
 rw[nth,nth,List.getElem?_set_ne (fun e=>h e.symm)]
theorem X9 {α:Type} [Inhabited α] (l:List α) (x:α) {j:Nat} (h:j<l.length):nth (l.set j x) (j:Int)=x:=by
 rw[nth,Int.toNat_natCast,List.getElem?_set_self h];rfl
theorem Jl {α:Type} [Inhabited α] (l:List α) {i:Int} {j:Nat} (h:i.toNat=j):nth l i=nth l (j:Int):=by
 rw[nth,nth,h,Int.toNat_natCast]
theorem Cc {α:Type} [Inhabited α] (l:List α) (i:Nat) (h:i<l.length):l[i]=nth l (i:Int):=(A1 (i:=(i:Int)) h).symm
structure NetR (n:Net):Prop where
 few:Afy n=true
 bare:∀ i:Nat,i<n.domains.length→Ur n i (nth n.domains i)=true
 peers:∀ i:Nat,i<n.domains.length→Kn n i (nth n.domains i)=true
 port:∀ i:Nat,i<n.ports.length→Lk n i (nth n.ports i)=true
 link:∀ i:Nat,i<n.links.length→V9 n i (nth n.links i)=true
 static:∀ i:Nat,i<n.statics.length→K0 n (nth n.statics i)=true
 flood:∀ i:Nat,i<n.floods.length→Kt n (nth n.floods i)=true
 vrf:∀ i:Nat,i<n.vrfs.length→Ado n (nth n.vrfs i)=true
 irb:∀ i:Nat,i<n.irbs.length→Zy n i (nth n.irbs i)=true
theorem Us {α:Type} [Inhabited α] {p:Nat→α→Bool} {l:List α}:Hf p l=true↔∀ i:Nat,i<l.length→p i (nth l i)=true:=by
 rw[allB_iff]
 constructor
 ·intro h i hi
  rw[← Cc l i hi];exact h i hi
 ·intro h i hi
  rw[Cc l i hi];exact h i hi
theorem netR_iff {n:Net}:Ah n=true↔NetR n:=by
 simp only[Ah,Bool.and_eq_true,Us]
 constructor
 ·rintro ⟨⟨⟨⟨⟨⟨⟨⟨a,b⟩,c⟩,d⟩,e⟩,f⟩,g⟩,h⟩,i⟩
  exact⟨a,b,c,d,e,f,g,h,i⟩
 ·rintro ⟨a,b,c,d,e,f,g,h,i⟩
  exact⟨⟨⟨⟨⟨⟨⟨⟨a,b⟩,c⟩,d⟩,e⟩,f⟩,g⟩,h⟩,i⟩
theorem peerB_iff {n:Net} {i:Nat} {d:Domain} {k:Int}:Qv n i d k=true↔Af k n.domains.length=true∧k≠i∧Af (nth n.domains k).dev n.devices.length=true∧(nth n.domains k).dev≠d.dev∧(nth n.domains k).vni=d.vni∧d.vni≠0∧Jf n (nth n.domains k)=true∧Jf n d=true∧inB (nth n.domains k).peers i=true:=by
 simp only[Qv,Bool.and_eq_true,bne_iff_ne,beq_iff_eq,ne_eq]
 constructor
 ·rintro ⟨⟨⟨⟨⟨⟨⟨⟨a,b⟩,c⟩,d⟩,e⟩,f⟩,g⟩,h⟩,i⟩
  exact⟨a,b,c,d,e,f,g,h,i⟩
 ·rintro ⟨a,b,c,d,e,f,g,h,i⟩
  exact⟨⟨⟨⟨⟨⟨⟨⟨a,b⟩,c⟩,d⟩,e⟩,f⟩,g⟩,h⟩,i⟩
theorem Ji {n m:Net} {i:Nat} {d e:Domain} (hd:e.peers=d.peers) (h:Kn n i d=true) (hp:∀ k,Qv n i d k=true→Qv m i e k=true):Kn m i e=true:=by
 rw[Kn,hd]
 rw[Kn]at h
 rw[Us]at h ⊢
 intro j hj
 have:=h j hj
 rw[Bool.and_eq_true]at this ⊢
 exact⟨hp _ this.1,this.2⟩
theorem bareB_iff {n:Net} {i:Nat} {d:Domain}:Ur n i d=true↔Af d.dev n.devices.length=true∧(1≤d.vlan∧d.vlan≤4094)∧(0≤d.vni∧d.vni≤16777215)∧(d.irb=-1∨Af d.irb n.irbs.length=true∧(nth n.irbs d.irb).domain=i)∧Bj n d.dev d.vlan=i:=by
 simp only[Ur,Bool.and_eq_true,Bool.or_eq_true,decide_eq_true_eq,beq_iff_eq]
 constructor
 ·rintro ⟨⟨⟨⟨⟨⟨a,b⟩,c⟩,d⟩,e⟩,f⟩,g⟩
  exact⟨a,⟨b,c⟩,⟨d,e⟩,f,g⟩
 ·rintro ⟨a,⟨b,c⟩,⟨d,e⟩,f,g⟩
  exact⟨⟨⟨⟨⟨⟨a,b⟩,c⟩,d⟩,e⟩,f⟩,g⟩
theorem portB_iff {n:Net} {i:Nat} {p:Port}:Lk n i p=true↔Af p.dev n.devices.length=true∧(0≤p.native∧p.native≤4094)∧Qr p.tagged 4094=true∧inB p.tagged p.native=false∧¬ (p.native=0∧p.tagged=[])∧(∀ v∈p.tagged,0≤Bj n p.dev v) ∧
  (0<p.native→0≤Bj n p.dev p.native)∧(p.link=-1∨Af p.link n.links.length=true∧((nth n.links p.link).a=i∨(nth n.links p.link).b=i)):=by
 have e:Hf (fun _ v=>decide (0≤Bj n p.dev v)) p.tagged=true↔∀ v∈p.tagged,0≤Bj n p.dev v:=by
  rw[allB_iff]
  simp only[decide_eq_true_eq]
  constructor
  ·intro h v hv
   obtain ⟨j,hj,rfl⟩:=List.mem_iff_getElem.1 hv
   exact h j hj
  ·intro h j hj
   exact h _ (List.getElem_mem hj)
 simp only[Lk,D5]
 simp only[Bool.and_eq_true,Bool.or_eq_true,e,Bool.not_eq_eq_eq_not,Bool.not_true,Bool.and_eq_false_imp,decide_eq_true_eq,decide_eq_false_iff_not,beq_iff_eq,Qr,List.length_eq_zero_iff]
 constructor
 ·rintro ⟨⟨⟨⟨⟨⟨⟨⟨a,b⟩,c⟩,d⟩,e⟩,f⟩,g⟩,h⟩,i⟩
  refine⟨a,⟨b,c⟩,d,e,fun x=>f x.1 x.2,g,fun x=>?_,i⟩
  simpa using h x
 ·rintro ⟨a,⟨b,c⟩,d,e,f,g,h,i⟩
  refine⟨⟨⟨⟨⟨⟨⟨⟨a,b⟩,c⟩,d⟩,e⟩,fun x y=>f ⟨x,y⟩⟩,g⟩,fun x=>?_⟩,i⟩
  simpa using h x
theorem linkB_iff {n:Net} {i:Nat} {l:Link}:V9 n i l=true↔Af l.a n.ports.length=true∧Af l.b n.ports.length=true∧(nth n.ports l.a).dev≠(nth n.ports l.b).dev∧(nth n.ports l.a).link=i∧(nth n.ports l.b).link=i:=by
 simp only[V9,Bool.and_eq_true,bne_iff_ne,beq_iff_eq,ne_eq,and_assoc]
theorem staticB_iff {n:Net} {s:Static}:K0 n s=true↔Af s.domain n.domains.length=true∧Af s.port n.ports.length=true∧(nth n.ports s.port).dev=(nth n.domains s.domain).dev∧Ck (nth n.ports s.port) (nth n.domains s.domain).vlan=true:=by
 simp only[K0,Bool.and_eq_true,beq_iff_eq,and_assoc]
theorem irbB_iff {n:Net} {i:Nat} {x:Irb}:Zy n i x=true↔Af x.domain n.domains.length=true∧Af x.vrf n.vrfs.length=true∧(nth n.domains x.domain).dev=(nth n.vrfs x.vrf).dev∧(nth n.domains x.domain).irb=i∧1≤x.bits∧x.bits≤30:=by
 simp only[Zy,Bool.and_eq_true,beq_iff_eq,decide_eq_true_eq,and_assoc]
theorem floodB_iff {n:Net} {f:Flood}:Kt n f=true↔Af f.dev n.devices.length=true∧f.addrs.length≤16:=by simp[Kt]
theorem vrfB_iff {n:Net} {v:Vrf}:Ado n v=true↔Af v.dev n.devices.length=true∧Qr v.imports 65535=true∧Qr v.exports 65535=true:=by simp[Ado,and_assoc]
theorem few_iff {n:Net}:Afy n=true↔n.devices.length≤8∧n.ports.length≤40∧n.links.length≤20∧n.domains.length≤48∧n.statics.length≤64∧n.floods.length≤48∧n.vrfs.length≤16∧n.irbs.length≤48:=by
 simp[Afy,and_assoc]
theorem Er {i:Int} {k m:Nat} (h:Af i k=true) (hkm:k≤m):Af i m=true:=by
 rw[place_iff]at h ⊢;omega
theorem Ade {n:Net} (h:NetR n) (x:Device) (hx:n.devices.length<8):NetR { n with devices:=n.devices++[x] }:=by
 have hp:∀ {i:Int},Af i n.devices.length=true→Af i (n.devices++[x]).length=true:=fun h=>Er h qe
 have hv:∀ d:Domain,Af d.dev n.devices.length=true→Jf { n with devices:=n.devices++[x] } d=Jf n d:=fun d hd=>by
  have:=place_iff.1 hd
  simp only[Jf]
  rw[Ed _ _ j_]
 refine⟨?_,fun i hi=>?_,fun i hi=>?_,fun i hi=>?_,h.link,h.static,fun i hi=>?_,fun i hi=>?_,h.irb⟩
 ·have:=few_iff.1 h.few
  exact few_iff.2 (by simp only[List.length_append,List.length_singleton];omega)
 ·have:=bareB_iff.1 (h.bare i hi)
  exact bareB_iff.2 ⟨hp this.1,this.2⟩
 ·have hb:=(bareB_iff.1 (h.bare i hi)).1
  refine Ji q_ (h.peers i hi) fun k hk=>?_
  obtain ⟨a,b,c,d,e,f,g,q,r⟩:=peerB_iff.1 hk
  exact peerB_iff.2 ⟨a,b,hp c,d,e,f,(hv _ c).trans g,(hv _ hb).trans q,r⟩
 ·have:=portB_iff.1 (h.port i hi)
  exact portB_iff.2 ⟨hp this.1,this.2⟩
 ·have:=floodB_iff.1 (h.flood i hi)
  exact floodB_iff.2 ⟨hp this.1,this.2⟩
 ·have:=vrfB_iff.1 (h.vrf i hi)
  exact vrfB_iff.2 ⟨hp this.1,this.2⟩
theorem Abl {n:Net} (h:NetR n) (x:Static) (hx:K0 n x=true) (hl:n.statics.length<64):NetR { n with statics:=n.statics++[x] }:=by
 refine⟨?_,h.bare,h.peers,h.port,h.link,fun i hi=>?_,h.flood,h.vrf,h.irb⟩
 ·have:=few_iff.1 h.few
  exact few_iff.2 (by simp only[List.length_append,List.length_singleton];omega)
 ·simp only[List.length_append,List.length_singleton]at hi
  by_cases e:i<n.statics.length
  ·rw[show nth (n.statics++[x]) (i:Int)=nth n.statics (i:Int) from Ed _ _ e]
   exact h.static i e
  ·rw[show i=n.statics.length by omega,Da]
   exact hx
theorem Afu {n:Net} (h:NetR n) (x:Flood) (hx:Kt n x=true) (hl:n.floods.length<48):NetR { n with floods:=n.floods++[x] }:=by
 refine⟨?_,h.bare,h.peers,h.port,h.link,h.static,fun i hi=>?_,h.vrf,h.irb⟩
 ·have:=few_iff.1 h.few
  exact few_iff.2 (by simp only[List.length_append,List.length_singleton];omega)
 ·simp only[List.length_append,List.length_singleton]at hi
  by_cases e:i<n.floods.length
  ·rw[show nth (n.floods++[x]) (i:Int)=nth n.floods (i:Int) from Ed _ _ e]
   exact h.flood i e
  ·rw[show i=n.floods.length by omega,Da]
   exact hx
theorem Ako {n:Net} (h:NetR n) (x:Vrf) (hx:Ado n x=true) (hl:n.vrfs.length<16):NetR { n with vrfs:=n.vrfs++[x] }:=by
 refine⟨?_,h.bare,h.peers,h.port,h.link,h.static,h.flood,fun i hi=>?_,fun i hi=>?_⟩
 ·have:=few_iff.1 h.few
  exact few_iff.2 (by simp only[List.length_append,List.length_singleton];omega)
 ·simp only[List.length_append,List.length_singleton]at hi
  by_cases e:i<n.vrfs.length
  ·rw[show nth (n.vrfs++[x]) (i:Int)=nth n.vrfs (i:Int) from Ed _ _ e]
   exact h.vrf i e
  ·rw[show i=n.vrfs.length by omega,Da]
   exact hx
 ·obtain ⟨a,b,c,d,e⟩:=irbB_iff.1 (h.irb i hi)
  have hb:=place_iff.1 b
  exact irbB_iff.2 ⟨a,Er b qe,by rw[show nth (n.vrfs++[x]) (nth n.irbs (i:Int)).vrf=nth n.vrfs (nth n.irbs (i:Int)).vrf from Ed _ _ j_];exact c,d,e⟩
theorem Agr {n:Net} (h:NetR n) (j:Nat) (a:Int) (ha:a≠0):NetR { n with devices:=n.devices.set j { nth n.devices j with vtep:=a } }:=by
 have hp:(n.devices.set j { nth n.devices j with vtep:=a }).length=n.devices.length:=List.length_set
 have hv:∀ d:Domain,Jf n d=true→Jf { n with devices:=n.devices.set j { nth n.devices j with vtep:=a } } d=true:=fun d hd=>by
  simp only[Jf,bne_iff_ne,ne_eq]at hd ⊢
  by_cases e:d.dev.toNat=j
  ·by_cases hl:j<n.devices.length
   ·have:nth (n.devices.set j { nth n.devices j with vtep:=a }) d.dev={ nth n.devices j with vtep:=a }:=by
     rw[nth,e,List.getElem?_set_self hl];rfl
    rw[this];exact ha
   ·rw[List.set_eq_of_length_le j_];exact hd
  ·rw[Em _ _ e];exact hd
 refine⟨?_,fun i hi=>?_,fun i hi=>?_,fun i hi=>?_,h.link,h.static,fun i hi=>?_,fun i hi=>?_,h.irb⟩
 ·have:=few_iff.1 h.few
  exact few_iff.2 (by rw[hp];exact this)
 ·have:=bareB_iff.1 (h.bare i hi)
  exact bareB_iff.2 ⟨by rw[hp];exact this.1,this.2⟩
 ·refine Ji q_ (h.peers i hi) fun k hk=>?_
  obtain ⟨a,b,c,d,e,f,g,q,r⟩:=peerB_iff.1 hk
  exact peerB_iff.2 ⟨a,b,by rw[hp];exact c,d,e,f,hv _ g,hv _ q,r⟩
 ·have:=portB_iff.1 (h.port i hi)
  exact portB_iff.2 ⟨by rw[hp];exact this.1,this.2⟩
 ·have:=floodB_iff.1 (h.flood i hi)
  exact floodB_iff.2 ⟨by rw[hp];exact this.1,this.2⟩
 ·have:=vrfB_iff.1 (h.vrf i hi)
  exact vrfB_iff.2 ⟨by rw[hp];exact this.1,this.2⟩
theorem Aoy {α:Type} (p:α→Bool) (l:List α) (j:Nat) (x:α) (h:∀ y,l[j]? = some y→p x=p y):B4 p (l.set j x)=B4 p l:=by
 have e:(l.set j x).findIdx? p=l.findIdx? p:=by
  induction l generalizing j with
  | nil=>rfl
  | cons z l ih =>
   cases j with
   | zero =>
    rw[List.set_cons_zero,List.findIdx?_cons,List.findIdx?_cons,h z rfl]
   | succ j =>
    rw[List.set_cons_succ,List.findIdx?_cons,List.findIdx?_cons,ih j (fun y hy=>h y (by simpa using hy))]
 rw[B4,B4,e]
theorem Af4 {n:Net} {j:Nat} (hj:j<n.domains.length) (x:Domain) (h1:x.dev=(nth n.domains j).dev) (h2:x.vlan=(nth n.domains j).vlan) (m:Net) (hm:m.domains=n.domains.set j x) (dev vlan:Int):Bj m dev vlan=Bj n dev vlan:=by
 rw[Bj,hm,Aoy _ _ _ _ (fun y hy=>?_)]
 ·rfl
 ·rw[List.getElem?_eq_getElem hj]at hy
  simp only[Option.some.injEq]at hy
  rw[Cc _ _ hj]at hy
  rw[← hy,h1,h2]
theorem H6 {α:Type} [Inhabited α] (l:List α) (x:α) (j:Nat) (i:Int) (f:α→Int) (hf:f x=f (nth l j)) (hj:j<l.length):f (nth (l.set j x) i)=f (nth l i):=by
 by_cases e:i.toNat=j
 ·have:nth (l.set j x) i=x:=by rw[nth,e,List.getElem?_set_self hj];rfl
  have h2:nth l i=nth l (j:Int):=Jl _ e
  rw[this,h2,hf]
 ·rw[Em _ _ e]
theorem Akp {n:Net} (h:NetR n) (j:Nat) (hj:j<n.domains.length) (h0:(nth n.domains j).vni=0) (v r:Int) (hv:0≤v∧v≤16777215):NetR { n with domains:=n.domains.set j { nth n.domains j with vni:=v,row:=r } }:=by
 have hl:(n.domains.set j { nth n.domains j with vni:=v,row:=r }).length=n.domains.length:=List.length_set
 have hdom:=Af4 (n:=n) hj { nth n.domains j with vni:=v,row:=r } rfl rfl { n with domains:=n.domains.set j { nth n.domains j with vni:=v,row:=r } } rfl
 have hdev:=fun i=>H6 n.domains { nth n.domains j with vni:=v,row:=r } j i Domain.dev rfl hj
 have hvl:=fun i=>H6 n.domains { nth n.domains j with vni:=v,row:=r } j i Domain.vlan rfl hj
 have hir:=fun i=>H6 n.domains { nth n.domains j with vni:=v,row:=r } j i Domain.irb rfl hj
 have hne:∀ i:Nat,i≠j→nth (n.domains.set j { nth n.domains j with vni:=v,row:=r }) (i:Int)=nth n.domains (i:Int):=fun i hi=>Em _ _ (by rw[Int.toNat_natCast];exact hi)
 refine⟨?_,fun i hi=>?_,fun i hi=>?_,fun i hi=>?_,h.link,fun i hi=>?_,h.flood,h.vrf,fun i hi=>?_⟩
 ·have:=few_iff.1 h.few
  exact few_iff.2 (by rw[hl];exact this)
 ·rw[hl]at hi
  obtain ⟨a,b,c,d,e⟩:=bareB_iff.1 (h.bare i hi)
  refine bareB_iff.2 ⟨by rw[hdev];exact a,by rw[hvl];exact b,?_,by rw[hir];exact d,by rw[hdom,hdev,hvl];exact e⟩
  by_cases ij:i=j
  ·subst ij
   show 0≤(nth (n.domains.set i { nth n.domains i with vni:=v,row:=r }) (i:Int)).vni∧(nth (n.domains.set i { nth n.domains i with vni:=v,row:=r }) (i:Int)).vni≤_
   rw[X9 _ _ hj];exact hv
  ·rw[hne i ij];exact c
 ·rw[hl]at hi
  have hpi:=h.peers i hi
  by_cases ij:i=j
  ·subst ij
   rw[X9 _ _ hj]
   have:(nth n.domains (i:Int)).peers=[]:=by
    cases hp:(nth n.domains (i:Int)).peers with
    | nil=>rfl
    | cons k r =>
     rw[Kn,hp,Us]at hpi
     have:=hpi 0 qe
     rw[Bool.and_eq_true]at this
     exact absurd h0 (peerB_iff.1 this.1).2.2.2.2.2.1
   rw[Kn]
   dsimp only
   rw[this]
   rfl
  ·rw[hne i ij]
   refine Ji q_ hpi fun k hk=>?_
   obtain ⟨a,b,c,d,e,f,g,q,rr⟩:=peerB_iff.1 hk
   have hk:=place_iff.1 a
   have kj:k.toNat≠j:=fun kj=>by
    have:nth n.domains k=nth n.domains (j:Int):=Jl _ kj
    rw[this,h0]at e
    exact f e.symm
   have hkn:nth (n.domains.set j { nth n.domains j with vni:=v,row:=r }) k=nth n.domains k:=Em _ _ kj
   exact peerB_iff.2 ⟨by rw[hl];exact a,b,by rw[hkn];exact c,by rw[hkn];exact d,by rw[hkn];exact e,f,by rw[hkn];exact g,q,by rw[hkn];exact rr⟩
 ·obtain ⟨a,b,c,d,e,f,g,q⟩:=portB_iff.1 (h.port i hi)
  exact portB_iff.2 ⟨a,b,c,d,e,fun v hv=>by rw[hdom];exact f v hv,fun hv=>by rw[hdom];exact g hv,q⟩
 ·obtain ⟨a,b,c,d⟩:=staticB_iff.1 (h.static i hi)
  exact staticB_iff.2 ⟨by rw[hl];exact a,b,by rw[hdev];exact c,by rw[hvl];exact d⟩
 ·obtain ⟨a,b,c,d,e⟩:=irbB_iff.1 (h.irb i hi)
  exact irbB_iff.2 ⟨by rw[hl];exact a,b,by rw[hdev];exact c,by rw[hir];exact d,e⟩
theorem Al5 {n:Net} (h:NetR n) (j:Nat) (hj:j<n.domains.length) (h0:(nth n.domains j).irb<0) (x:Irb) (hx:x.domain=j) (hv:Af x.vrf n.vrfs.length=true) (hd:(nth n.domains j).dev=(nth n.vrfs x.vrf).dev) (hb:1≤x.bits∧x.bits≤30) :
  NetR { n with domains:=n.domains.set j { nth n.domains j with irb:=n.irbs.length },irbs:=n.irbs++[x] }:=by
 have hl:(n.domains.set j { nth n.domains j with irb:=n.irbs.length }).length=n.domains.length:=List.length_set
 have hdom:=Af4 (n:=n) hj { nth n.domains j with irb:=n.irbs.length } rfl rfl { n with domains:=n.domains.set j { nth n.domains j with irb:=n.irbs.length },irbs:=n.irbs++[x] } rfl
 have hdev:=fun i=>H6 n.domains { nth n.domains j with irb:=n.irbs.length } j i Domain.dev rfl hj
 have hvl:=fun i=>H6 n.domains { nth n.domains j with irb:=n.irbs.length } j i Domain.vlan rfl hj
 have hvn:=fun i=>H6 n.domains { nth n.domains j with irb:=n.irbs.length } j i Domain.vni rfl hj
 have hpe:∀ i,(nth (n.domains.set j { nth n.domains j with irb:=n.irbs.length }) i).peers=(nth n.domains i).peers:=fun i=>by
  by_cases e:i.toNat=j
  ·have:nth (n.domains.set j { nth n.domains j with irb:=n.irbs.length }) i={ nth n.domains j with irb:=n.irbs.length }:=by rw[nth,e,List.getElem?_set_self hj];rfl
   have h2:nth n.domains i=nth n.domains (j:Int):=Jl _ e
   rw[this,h2]
  ·rw[Em _ _ e]
 have hne:∀ i:Nat,i≠j→nth (n.domains.set j { nth n.domains j with irb:=n.irbs.length }) (i:Int)=nth n.domains (i:Int):=fun i hi=>Em _ _ (by rw[Int.toNat_natCast];exact hi)
 have hself:nth (n.domains.set j { nth n.domains j with irb:=n.irbs.length }) (j:Int)={ nth n.domains j with irb:=n.irbs.length }:=X9 _ _ hj
 have hfew:n.irbs.length<48:=by
  have hf:=few_iff.1 h.few
  refine Nat.lt_of_lt_of_le ?_ hf.2.2.2.1
  have inj:∀ a b:Nat,a<n.irbs.length→b<n.irbs.length→(nth n.irbs (a:Int)).domain=(nth n.irbs (b:Int)).domain→a=b:=fun a b ha hb e=>by
   have h1:=(irbB_iff.1 (h.irb a ha)).2.2.2.1
   have h2:=(irbB_iff.1 (h.irb b hb)).2.2.2.1
   rw[e,h2]at h1
   omega
  have hsub:((List.range n.irbs.length).map fun a:Nat=>(nth n.irbs (a:Int)).domain.toNat).length≤((List.range n.domains.length).erase j).length:=by
   refine List.Nodup.length_le_of_subset ?_ ?_
   ·rw[List.nodup_iff_pairwise_ne,List.pairwise_map]
    refine List.Pairwise.imp_of_mem ?_ List.pairwise_lt_range
    intro a b ha hb hab e
    have ha:=List.mem_range.1 ha
    have hb:=List.mem_range.1 hb
    have p1:=place_iff.1 (irbB_iff.1 (h.irb a ha)).1
    have p2:=place_iff.1 (irbB_iff.1 (h.irb b hb)).1
    have:=inj a b ha hb j_
    omega
   ·intro y hy
    obtain ⟨a,ha,rfl⟩:=List.mem_map.1 hy
    have ha:=List.mem_range.1 ha
    have p1:=place_iff.1 (irbB_iff.1 (h.irb a ha)).1
    have p2:=(irbB_iff.1 (h.irb a ha)).2.2.2.1
    rw[List.mem_erase_of_ne]
    ·exact List.mem_range.2 j_
    ·intro e
     have:nth n.domains (nth n.irbs (a:Int)).domain=nth n.domains (j:Int):=Jl _ e
     rw[this]at p2
     omega
  rw[List.length_map,List.length_range,List.length_erase_of_mem (List.mem_range.2 hj),List.length_range]at hsub
  omega
 refine⟨?_,fun i hi=>?_,fun i hi=>?_,fun i hi=>?_,h.link,fun i hi=>?_,h.flood,h.vrf,fun i hi=>?_⟩
 ·have:=few_iff.1 h.few
  exact few_iff.2 (by rw[hl];simp only[List.length_append,List.length_singleton];omega)
 ·rw[hl]at hi
  obtain ⟨a,b,c,d,e⟩:=bareB_iff.1 (h.bare i hi)
  refine bareB_iff.2 ⟨by rw[hdev];exact a,by rw[hvl];exact b,by rw[hvn];exact c,?_,by rw[hdom,hdev,hvl];exact e⟩
  by_cases ij:i=j
  ·subst ij
   rw[hself]
   refine .inr ⟨place_iff.2 (by simp;omega),?_⟩
   show (nth (n.irbs++[x]) (n.irbs.length:Int)).domain=_
   rw[Da,hx]
  ·rw[hne i ij]
   rcases d with d | ⟨d1,d2⟩
   ·exact .inl d
   ·have:=place_iff.1 d1
    exact .inr ⟨Er d1 qe,by rw[show nth (n.irbs++[x]) (nth n.domains (i:Int)).irb=nth n.irbs (nth n.domains (i:Int)).irb from Ed _ _ j_];exact d2⟩
 ·rw[hl]at hi
  refine Ji (hpe _) (h.peers i hi) fun k hk=>?_
  obtain ⟨a,b,c,d,e,f,g,q,r⟩:=peerB_iff.1 hk
  have hvt:∀ k,Jf { n with domains:=n.domains.set j { nth n.domains j with irb:=n.irbs.length },irbs:=n.irbs++[x] } (nth (n.domains.set j { nth n.domains j with irb:=n.irbs.length }) k)=Jf n (nth n.domains k):=fun k=>by
   simp only[Jf];rw[hdev]
  exact peerB_iff.2 ⟨by rw[hl];exact a,b,by rw[hdev];exact c,by rw[hdev,hdev];exact d,by rw[hvn,hvn];exact e,by rw[hvn];exact f,(hvt k).trans g,(hvt i).trans q,by rw[hpe];exact r⟩
 ·obtain ⟨a,b,c,d,e,f,g,q⟩:=portB_iff.1 (h.port i hi)
  exact portB_iff.2 ⟨a,b,c,d,e,fun v hv=>by rw[hdom];exact f v hv,fun hv=>by rw[hdom];exact g hv,q⟩
 ·obtain ⟨a,b,c,d⟩:=staticB_iff.1 (h.static i hi)
  exact staticB_iff.2 ⟨by rw[hl];exact a,b,by rw[hdev];exact c,by rw[hvl];exact d⟩
 ·simp only[List.length_append,List.length_singleton]at hi
  by_cases e:i<n.irbs.length
  ·rw[show nth (n.irbs++[x]) (i:Int)=nth n.irbs (i:Int) from Ed _ _ e]
   obtain ⟨a,b,c,d,e⟩:=irbB_iff.1 (h.irb i e)
   have pa:=place_iff.1 a
   have hdj:(nth n.irbs (i:Int)).domain.toNat≠j:=fun e=>by
    have:nth n.domains (nth n.irbs (i:Int)).domain=nth n.domains (j:Int):=Jl _ e
    rw[this]at d
    omega
   have hk:nth (n.domains.set j { nth n.domains j with irb:=n.irbs.length }) (nth n.irbs (i:Int)).domain=nth n.domains (nth n.irbs (i:Int)).domain:=Em _ _ hdj
   exact irbB_iff.2 ⟨by rw[hl];exact a,b,by rw[hk];exact c,by rw[hk];exact d,e⟩
  ·rw[show i=n.irbs.length by omega,Da]
   refine irbB_iff.2 ⟨by rw[hl];exact place_iff.2 j_,hv,?_,?_,hb⟩
   ·rw[hx,hself];exact hd
   ·rw[hx,hself]
theorem idxI_nonneg {α:Type} {p:α→Bool} {l:List α}:0≤B4 p l↔l.any p=true:=by
 rw[List.any_eq_true]
 constructor
 ·intro h
  cases hf:l.findIdx? p with
  | none=>simp only[B4,hf]at h;omega
  | some i =>
   rw[List.findIdx?_eq_some_iff_getElem]at hf
   obtain ⟨h1,h2,_⟩:=hf
   exact⟨l[i],List.getElem_mem h1,h2⟩
 ·rintro ⟨x,hx,hp⟩
  cases hf:l.findIdx? p with
  | none =>
   rw[List.findIdx?_eq_none_iff]at hf
   rw[hf x hx]at hp;cases hp
  | some i=>simp only[B4,hf];omega
theorem Ir {α:Type} [Inhabited α] {p:α→Bool} {l:List α} (h:0≤B4 p l):(B4 p l).toNat<l.length∧p (nth l (B4 p l))=true:=by
 cases hf:l.findIdx? p with
 | none=>simp only[B4,hf]at h;omega
 | some i =>
  have e:B4 p l=i:=by simp only[B4,hf]
  rw[List.findIdx?_eq_some_iff_getElem]at hf
  obtain ⟨h1,h2,_⟩:=hf
  rw[e,Int.toNat_natCast]
  refine⟨h1,?_⟩
  rw[← Cc l i h1];exact h2
theorem Afp {α:Type} (p:α→Bool) (l e:List α) (h:0≤B4 p l):B4 p (l++e)=B4 p l:=by
 cases hf:l.findIdx? p with
 | none=>simp only[B4,hf]at h;omega
 | some i =>
  have:(l++e).findIdx? p=some i:=by rw[List.findIdx?_append,hf];rfl
  simp only[B4,hf,this]
theorem Aax {α:Type} (p:α→Bool) (l:List α) (x:α) (h:l.any p=false) (hx:p x=true):B4 p (l++[x])=l.length:=by
 refine Di (j:=l.length) qe (fun i hi hij=>?_) ?_
 ·rw[List.getElem_append_left hij]
  rw[List.any_eq_false]at h
  have:=h l[i] (List.getElem_mem hij)
  simpa using this
 ·rw[List.getElem_append_right (Nat.le_refl _)]
  simpa using hx
theorem Adb {n:Net} (h:NetR n) (dev v:Int) (hd:Af dev n.devices.length=true) (hv:1≤v∧v≤4094) (ha:n.domains.any (fun d=>d.dev == dev && d.vlan == v)=false) (m:Net) (hm:m={ n with domains:=n.domains++[⟨dev,v,0,-1,0,[]⟩] }) (hl:n.domains.length<48):NetR m:=by
 subst hm
 have hn:∀ {i:Int},i.toNat<n.domains.length→nth (n.domains++[(⟨dev,v,0,-1,0,[]⟩:Domain)]) i=nth n.domains i:=fun h=>Ed _ _ h
 have hnn:∀ {i:Nat},i<n.domains.length→nth (n.domains++[(⟨dev,v,0,-1,0,[]⟩:Domain)]) (i:Int)=nth n.domains (i:Int):=fun h=>Ed _ _ h
 have hdm:∀ a b,0≤Bj n a b→Bj { n with domains:=n.domains++[⟨dev,v,0,-1,0,[]⟩] } a b=Bj n a b:=fun a b h=>Afp _ _ _ h
 refine⟨?_,fun i hi=>?_,fun i hi=>?_,fun i hi=>?_,h.link,fun i hi=>?_,h.flood,h.vrf,fun i hi=>?_⟩
 ·have:=few_iff.1 h.few
  exact few_iff.2 (by simp only[List.length_append,List.length_singleton];omega)
 ·simp only[List.length_append,List.length_singleton]at hi
  by_cases e:i<n.domains.length
  ·rw[hnn e]
   obtain ⟨a,b,c,d,f⟩:=bareB_iff.1 (h.bare i e)
   exact bareB_iff.2 ⟨a,b,c,d,by rw[hdm _ _ j_];exact f⟩
  ·rw[show i=n.domains.length by omega,Da]
   refine bareB_iff.2 ⟨hd,hv,⟨Int.le_refl _,by show (0:Int)≤_;decide⟩,.inl q_,?_⟩
   exact Aax _ _ _ ha qe
 ·simp only[List.length_append,List.length_singleton]at hi
  by_cases e:i<n.domains.length
  ·rw[hnn e]
   refine Ji q_ (h.peers i e) fun k hk=>?_
   obtain ⟨a,b,c,d,f,g,o,q,r⟩:=peerB_iff.1 hk
   have ha:=place_iff.1 a
   exact peerB_iff.2 ⟨Er a qe,b,by rw[hn j_];exact c,by rw[hn j_];exact d,by rw[hn j_];exact f,g,by rw[hn j_];exact o,q,by rw[hn j_];exact r⟩
  ·rw[show i=n.domains.length by omega,Da]
   rfl
 ·obtain ⟨a,b,c,d,e,f,g,q⟩:=portB_iff.1 (h.port i hi)
  exact portB_iff.2 ⟨a,b,c,d,e,fun v hv=>by rw[hdm _ _ (f v hv)];exact f v hv,fun hv=>by rw[hdm _ _ (g hv)];exact g hv,q⟩
 ·obtain ⟨a,b,c,d⟩:=staticB_iff.1 (h.static i hi)
  have pa:=place_iff.1 a
  have e1:=hn (i:=(nth n.statics (i:Int)).domain) j_
  exact staticB_iff.2 ⟨Er a qe,b,c.trans (congrArg Domain.dev e1).symm,by have:=d;rw[← congrArg Domain.vlan e1]at this;exact this⟩
 ·obtain ⟨a,b,c,d,e⟩:=irbB_iff.1 (h.irb i hi)
  have pa:=place_iff.1 a
  have e1:=hn (i:=(nth n.irbs (i:Int)).domain) j_
  exact irbB_iff.2 ⟨Er a qe,b,(congrArg Domain.dev e1).trans c,(congrArg Domain.irb e1).trans d,e⟩
theorem Wq (dev:Int):∀ (l:List Int) (ds:List Domain),ds.length≤(At dev ds l).length
 | [],ds=>Nat.le_refl _
 | v::l,ds=>by
  refine Nat.le_trans ?_ (Wq dev l (Bh dev ds v))
  rw[Bh]
  split<;>simp
theorem Q8 {dev:Int}:∀ (l:List Int) (n:Net),NetR n→Af dev n.devices.length=true→(∀ v∈l,v≤4094)→(At dev n.domains l).length≤48→NetR { n with domains:=At dev n.domains l }∧∀ v∈l,0<v→0≤Bj { n with domains:=At dev n.domains l } dev v
 | [],n,h,_,_,_=>⟨h,fun v hv=>by cases hv⟩
 | v::l,n,h,hd,hv,hl=>by
  have hlen:=Wq dev l (Bh dev n.domains v)
  have e:At dev n.domains (v::l)=At dev (Bh dev n.domains v) l:=rfl
  rw[e]at hl ⊢
  have h1:NetR { n with domains:=Bh dev n.domains v }∧(0<v→0≤Bj { n with domains:=Bh dev n.domains v } dev v):=by
   rw[Bh]at hlen ⊢
   split
   ·rename_i hc
    rw[if_pos hc]at hlen
    refine⟨Adb h dev v hd ⟨by omega,hv v qe⟩ hc.2 _ q_ ?_,fun _=>?_⟩
    ·have hl':=hl
     rw[Bh,if_pos hc]at hl'
     simp only[List.length_append,List.length_singleton]at hlen
     omega
    ·rw[Bj,Aax _ _ _ hc.2 qe];omega
   ·rename_i hc
    refine⟨h,fun h0=>?_⟩
    have:n.domains.any (fun d=>d.dev == dev && d.vlan == v)=true:=by
     cases ha:n.domains.any (fun d=>d.dev == dev && d.vlan == v)
     ·exact absurd ⟨h0,ha⟩ hc
     ·rfl
    exact idxI_nonneg.2 this
  obtain ⟨r1,r2⟩:=Q8 l { n with domains:=Bh dev n.domains v } h1.1 hd (fun x hx=>hv x (by simp[hx])) hl
  refine⟨r1,fun x hx h0=>?_⟩
  rcases List.mem_cons.1 hx with rfl | hx
  ·have h2:=h1.2 h0
   have:∀ (l:List Int) (ds:List Domain),0≤B4 (fun d:Domain=>d.dev == dev && d.vlan == x) ds→0≤B4 (fun d:Domain=>d.dev == dev && d.vlan == x) (At dev ds l):=by
    intro l
    induction l with
    | nil=>exact fun ds h=>h
    | cons y l ih =>
     intro ds h
     refine ih (Bh dev ds y) ?_
     rw[Bh]
     split
     ·rw[Afp _ _ _ h];exact h
     ·exact h
   exact this l _ h2
  ·exact r2 x hx h0
theorem Ahx {n:Net} (h:NetR n) (p:Port) (hp:Lk n n.ports.length p=true) (hl:n.ports.length<40):NetR { n with ports:=n.ports++[p] }:=by
 have hn:∀ {i:Int},i.toNat<n.ports.length→nth (n.ports++[p]) i=nth n.ports i:=fun h=>Ed _ _ h
 refine⟨?_,h.bare,h.peers,fun i hi=>?_,fun i hi=>?_,fun i hi=>?_,h.flood,h.vrf,h.irb⟩
 ·have:=few_iff.1 h.few
  exact few_iff.2 (by simp only[List.length_append,List.length_singleton];omega)
 ·simp only[List.length_append,List.length_singleton]at hi
  by_cases e:i<n.ports.length
  ·have e1:nth (n.ports++[p]) (i:Int)=nth n.ports (i:Int):=hn (i:=(i:Int)) e
   rw[e1];exact h.port i e
  ·rw[show i=n.ports.length by omega,Da];exact hp
 ·obtain ⟨a,b,c,d,e⟩:=linkB_iff.1 (h.link i hi)
  have pa:=place_iff.1 a
  have pb:=place_iff.1 b
  have e1:=hn (i:=(nth n.links (i:Int)).a) j_
  have e2:=hn (i:=(nth n.links (i:Int)).b) j_
  exact linkB_iff.2 ⟨Er a qe,Er b qe,fun x=>c ((congrArg Port.dev e1).symm.trans (x.trans (congrArg Port.dev e2))),(congrArg Port.link e1).trans d,(congrArg Port.link e2).trans e⟩
 ·obtain ⟨a,b,c,d⟩:=staticB_iff.1 (h.static i hi)
  have pb:=place_iff.1 b
  have e1:=hn (i:=(nth n.statics (i:Int)).port) j_
  exact staticB_iff.2 ⟨a,Er b qe,(congrArg Port.dev e1).trans c,by have:=d;rw[← e1]at this;exact this⟩
theorem Aik {n:Net} (h:NetR n) (a b:Nat) (ha:a<n.ports.length) (hb:b<n.ports.length) (hd:(nth n.ports a).dev≠(nth n.ports b).dev) (h1:(nth n.ports a).link<0) (h2:(nth n.ports b).link<0) (row:Int) (hl:n.links.length<20) :
  NetR { n with ports:=Cv (Cv n.ports a n.links.length) b n.links.length,links:=n.links++[⟨row,a,b⟩] }:=by
 have hab:a≠b:=fun e=>hd (by rw[e])
 have hlen:(Cv (Cv n.ports a n.links.length) b n.links.length).length=n.ports.length:=by simp[Cv]
 have hi1:∀ i:Int,i.toNat≠a→i.toNat≠b→nth (Cv (Cv n.ports a n.links.length) b n.links.length) i=nth n.ports i:=fun i x y=>by
  rw[Cv,Int.toNat_natCast,Em _ _ y,Cv,Int.toNat_natCast,Em _ _ x]
 have hia:∀ i:Int,i.toNat=a→nth (Cv (Cv n.ports a n.links.length) b n.links.length) i={ nth n.ports a with link:=n.links.length }:=fun i x=>by
  rw[Cv,Int.toNat_natCast,Em _ _ j_,Cv,Int.toNat_natCast,nth,x,List.getElem?_set_self ha]
  rfl
 have hib:∀ i:Int,i.toNat=b→nth (Cv (Cv n.ports a n.links.length) b n.links.length) i={ nth n.ports b with link:=n.links.length }:=fun i x=>by
  have e:nth (Cv n.ports a n.links.length) (b:Int)=nth n.ports b:=by rw[Cv,Int.toNat_natCast,Em _ _ (by rw[Int.toNat_natCast];omega)]
  rw[Cv,Int.toNat_natCast,e,nth,x,List.getElem?_set_self (by rw[Cv,List.length_set];exact hb)]
  rfl
 have same:∀ {β:Type} (f:Port→β),(∀ p k,f { p with link:=k }=f p)→∀ i:Int,f (nth (Cv (Cv n.ports a n.links.length) b n.links.length) i)=f (nth n.ports i):=fun f hf i=>by
  by_cases x:i.toNat=a
  ·rw[hia i x,hf,nth,nth,x,Int.toNat_natCast]
  ·by_cases y:i.toNat=b
   ·rw[hib i y,hf,nth,nth,y,Int.toNat_natCast]
   ·rw[hi1 i x y]
 have sd:=same Port.dev (fun _ _=>rfl)
 have sn:=same Port.native (fun _ _=>rfl)
 have st:=same Port.tagged (fun _ _=>rfl)
 have sm:=same (fun p v=>Ck p v) (fun _ _=>rfl)
 refine⟨?_,h.bare,h.peers,fun i hi=>?_,fun i hi=>?_,fun i hi=>?_,h.flood,h.vrf,h.irb⟩
 ·have:=few_iff.1 h.few
  exact few_iff.2 (by rw[hlen];simp only[List.length_append,List.length_singleton];omega)
 ·rw[hlen]at hi
  obtain ⟨c1,c2,c3,c4,c5,c6,c7,c8⟩:=portB_iff.1 (h.port i hi)
  refine portB_iff.2 ⟨by rw[sd];exact c1,by rw[sn];exact c2,by rw[st];exact c3,by rw[st,sn];exact c4,by rw[sn,st];exact c5,by rw[st,sd];exact c6,by rw[sn,sd];exact c7,?_⟩
  have nl:nth (n.links++[(⟨row,a,b⟩:Link)]) (n.links.length:Int)=⟨row,a,b⟩:=Da _ _
  by_cases x:i=a
  ·rw[hia i (by rw[Int.toNat_natCast];exact x)]
   refine .inr ⟨place_iff.2 (by simp;omega),.inl ?_⟩
   show (nth (n.links++[(⟨row,a,b⟩:Link)]) (n.links.length:Int)).a=_
   rw[nl,x]
  ·by_cases y:i=b
   ·rw[hib i (by rw[Int.toNat_natCast];exact y)]
    refine .inr ⟨place_iff.2 (by simp;omega),.inr ?_⟩
    show (nth (n.links++[(⟨row,a,b⟩:Link)]) (n.links.length:Int)).b=_
    rw[nl,y]
   ·rw[hi1 i (by rw[Int.toNat_natCast];exact x) (by rw[Int.toNat_natCast];exact y)]
    rcases c8 with c8 | ⟨d1,d2⟩
    ·exact .inl c8
    ·have pd:=place_iff.1 d1
     exact .inr ⟨Er d1 qe,by rw[show nth (n.links++[(⟨row,a,b⟩:Link)]) (nth n.ports (i:Int)).link=nth n.links (nth n.ports (i:Int)).link from Ed _ _ j_];exact d2⟩
 ·simp only[List.length_append,List.length_singleton]at hi
  by_cases e:i<n.links.length
  ·rw[show nth (n.links++[(⟨row,a,b⟩:Link)]) (i:Int)=nth n.links (i:Int) from Ed _ _ e]
   obtain ⟨c1,c2,c3,c4,c5⟩:=linkB_iff.1 (h.link i e)
   have off:∀ k:Int,(nth n.ports k).link=(i:Int)→nth (Cv (Cv n.ports a n.links.length) b n.links.length) k=nth n.ports k:=fun k hk=>by
    refine hi1 k (fun x=>?_) (fun x=>?_)
    ·have:nth n.ports k=nth n.ports (a:Int):=Jl _ x
     rw[this]at hk;omega
    ·have:nth n.ports k=nth n.ports (b:Int):=Jl _ x
     rw[this]at hk;omega
   exact linkB_iff.2 ⟨by rw[hlen];exact c1,by rw[hlen];exact c2,by rw[sd,sd];exact c3,by rw[off _ c4];exact c4,by rw[off _ c5];exact c5⟩
  ·rw[show i=n.links.length by omega,Da]
   refine linkB_iff.2 ⟨by rw[hlen];exact place_iff.2 ⟨by show (0:Int)≤(a:Int);omega,by show (a:Int)<_;omega⟩,by rw[hlen];exact place_iff.2 ⟨by show (0:Int)≤(b:Int);omega,by show (b:Int)<_;omega⟩,by rw[sd,sd];exact hd,?_,?_⟩
   ·rw[hia (a:Int) (Int.toNat_natCast a)]
   ·rw[hib (b:Int) (Int.toNat_natCast b)]
 ·obtain ⟨c1,c2,c3,c4⟩:=staticB_iff.1 (h.static i hi)
  refine staticB_iff.2 ⟨c1,by rw[hlen];exact c2,by rw[sd];exact c3,?_⟩
  have:=sm (nth n.statics (i:Int)).port
  exact(congrFun this _).trans c4
theorem Oo {n:Net} {l:LineM} {k:Int} (h:¬ fitsB n l k=false):l.kind=k∧(A0 l).2=true∧NetR n:=by
 have h:fitsB n l k=true:=by simpa using h
 simp only[fitsB,Ao,Bool.and_eq_true,beq_iff_eq]at h
 exact⟨h.1,h.2.1.1,netR_iff.1 h.2.2⟩
theorem Lr {n:Net} {l:LineM} {k:Int} (h:¬ (begT n l k).2≠0):l.kind=k∧(A0 l).2=true∧NetR n∧0≤Ap n l.dev∧(Ap n l.dev).toNat<n.devices.length∧(begT n l k).1=Ap n l.dev:=by
 rw[begT]at h ⊢
 split at h
 ·simp at h
 ·rename_i h1
  rw[if_neg h1]
  split at h
  ·simp at h
  ·rename_i h2
   rw[if_neg h2]
   obtain ⟨a,b,c⟩:=Oo h1
   exact⟨a,b,c,by omega,(Ir (p:=fun d:Device=>d.name == l.dev) (by show 0≤Ap n l.dev;omega)).1,q_⟩
theorem O7 {l:List Int} {v:Int}:inB l v=l.contains v:=by
 induction l with
 | nil=>rfl
 | cons x l ih =>
  rw[inB,List.any_cons,List.contains_cons]
  rw[inB]at ih
  rw[ih]
  congr 1
  exact Bool.beq_comm
theorem Aaj {n:Net} {l:LineM} (h:(putT n l).2=0):NetR (putT n l).1:=by
 rw[putT]at h ⊢
 by_cases k1:l.kind=1
 ·rw[if_pos k1]at h ⊢
  rw[putDevice]at h ⊢
  repeat' split at h
  all_goals (try (simp at h;done))
  rename_i h1 h2 h3
  rw[if_neg h1,if_neg h2,if_neg h3]
  obtain ⟨_,_,hr⟩:=Oo h1
  have:=few_iff.1 hr.few
  exact Ade hr _ j_
 rw[if_neg k1]at h ⊢
 by_cases k2:l.kind=2
 ·rw[if_pos k2]at h ⊢
  rw[putPort]at h ⊢
  repeat' split at h
  all_goals (try (simp at h;done))
  rename_i h1 h2 h3 h4 h5
  rw[if_neg h1,if_neg h2,if_neg h3,if_neg h4,if_neg h5]
  obtain ⟨_,hu,hr⟩:=Oo h1
  have hf:=few_iff.1 hr.few
  simp only[A0,if_neg k1,if_pos k2,Bool.and_eq_true]at hu
  obtain ⟨u1,u2,u3,u4,u5⟩:=hu
  have hv:=within_iff.1 u3
  have hp:=(Ir (p:=fun d:Device=>d.name == l.dev) (l:=n.devices) (by show 0≤Ap n l.dev;omega)).1
  have hpl:Af (Ap n l.dev) n.devices.length=true:=place_iff.2 ⟨by omega,by have:(Ap n l.dev).toNat<n.devices.length:=hp;omega⟩
  have htag:∀ v∈l.tagged,1≤v∧v≤4094:=fun v hv=>by
   rcases listOK_iff.1 u4 with e | e
   ·rw[e]at hv;cases hv
   ·exact(rising_iff.1 e).2.1 v hv
  obtain ⟨r1,r2⟩:=Q8 (l.vlan::l.tagged) n hr hpl (fun v hv=>by
   rcases List.mem_cons.1 hv with rfl | hv
   ·omega
   ·exact(htag v hv).2) j_
  refine Ahx r1 _ (portB_iff.2 ⟨hpl,hv,u4,?_,?_,fun v hv=>r2 v (by simp[hv]) (by have:=htag v hv;omega),fun h0=>r2 _ qe h0,.inl q_⟩) (by show n.ports.length<40;omega)
  ·simp only[membersB,Bool.and_eq_true,Bool.not_eq_eq_eq_not,Bool.not_true]at u5
   rw[O7];exact u5.2
  ·rintro ⟨e1,e2⟩
   dsimp only at e1 e2
   simp[membersB,e1,e2]at u5
 rw[if_neg k2]at h ⊢
 by_cases k3:l.kind=3
 ·rw[if_pos k3]at h ⊢
  rw[putLink]at h ⊢
  dsimp only at h ⊢
  repeat' split at h
  all_goals (try (simp at h;done))
  rename_i h1 h2 h3 h4
  rw[if_neg h1,if_neg h2,if_neg h3,if_neg h4]
  obtain ⟨_,hu,hr⟩:=Oo h1
  have hf:=few_iff.1 hr.few
  have hend:∀ d p,0≤endI n d p→(endI n d p).toNat<n.ports.length:=fun d p h=>by
   rw[endI]at h ⊢
   split at h
   ·omega
   ·rename_i hx
    rw[if_neg hx]
    exact(Ir h).1
  have ha:=hend l.dev l.port j_
  have hb:=hend l.peer l.far j_
  generalize endI n l.dev l.port=a at *
  generalize endI n l.peer l.far=b at *
  obtain ⟨a,rfl⟩:∃ k:Nat,a=k:=⟨a.toNat,by omega⟩
  obtain ⟨b,rfl⟩:∃ k:Nat,b=k:=⟨b.toNat,by omega⟩
  rw[Int.toNat_natCast]at ha hb
  simp only[not_or]at h3
  exact Aik hr a b ha hb h3.1 j_ j_ l.row j_
 rw[if_neg k3]at h ⊢
 by_cases k4:l.kind=4
 ·rw[if_pos k4]at h ⊢
  rw[putStatic]at h ⊢
  dsimp only at h ⊢
  repeat' split at h
  all_goals (try (simp at h;done))
  rename_i h1 h2 h3 h4 h5
  rw[if_neg h1,if_neg h2,if_neg h3,if_neg h4,if_neg h5]
  obtain ⟨_,hu,hr⟩:=Oo h1
  have hf:=few_iff.1 hr.few
  simp only[not_or]at h2 h3
  have p1:=Ir (p:=fun p:Port=>p.dev == Ap n l.dev && p.name == l.port) (l:=n.ports) (by show 0≤E9 n (Ap n l.dev) l.port;omega)
  have p2:=Ir (p:=fun d:Domain=>d.dev == Ap n l.dev && d.vlan == l.vlan) (l:=n.domains) (by show 0≤Bj n (Ap n l.dev) l.vlan;omega)
  obtain ⟨a1,a2⟩:=p1
  obtain ⟨b1,b2⟩:=p2
  have a1:(E9 n (Ap n l.dev) l.port).toNat<n.ports.length:=a1
  have b1:(Bj n (Ap n l.dev) l.vlan).toNat<n.domains.length:=b1
  simp only[Bool.and_eq_true,beq_iff_eq]at a2 b2
  have a2:(nth n.ports (E9 n (Ap n l.dev) l.port)).dev=Ap n l.dev:=a2.1
  have b2:(nth n.domains (Bj n (Ap n l.dev) l.vlan)).dev=Ap n l.dev∧(nth n.domains (Bj n (Ap n l.dev) l.vlan)).vlan=l.vlan:=b2
  refine Abl hr _ (staticB_iff.2 ⟨place_iff.2 ⟨?_,?_⟩,place_iff.2 ⟨?_,?_⟩,?_,?_⟩) j_
  ·show 0≤Bj n (Ap n l.dev) l.vlan;omega
  ·show Bj n (Ap n l.dev) l.vlan<_;omega
  ·show 0≤E9 n (Ap n l.dev) l.port;omega
  ·show E9 n (Ap n l.dev) l.port<_;omega
  ·exact a2.trans b2.1.symm
  ·show Ck _ (nth n.domains (Bj n (Ap n l.dev) l.vlan)).vlan=true
   rw[b2.2]
   simpa using h3.2
 rw[if_neg k4]at h ⊢
 by_cases k5:l.kind=5
 ·rw[if_pos k5]at h ⊢
  rw[putVtep]at h ⊢
  dsimp only at h ⊢
  by_cases h1:(begT n l 5).2≠0
  ·rw[if_pos h1]at h;exact absurd h h1
  rw[if_neg h1]at h ⊢
  split at h
  ·simp at h
  rename_i h2
  rw[if_neg h2]
  obtain ⟨_,hu,hr,d0,d1,d2⟩:=Lr h1
  simp only[A0,if_neg k1,if_neg k2,if_neg k3,if_neg k4,if_pos k5,decide_eq_true_eq]at hu
  rw[d2]
  have:=Agr hr (Ap n l.dev).toNat l.addr hu
  rw[Int.toNat_of_nonneg d0]at this
  exact this
 rw[if_neg k5]at h ⊢
 by_cases k6:l.kind=6
 ·rw[if_pos k6]at h ⊢
  rw[putVni]at h ⊢
  dsimp only at h ⊢
  by_cases h1:(begT n l 6).2≠0
  ·rw[if_pos h1]at h;exact absurd h h1
  rw[if_neg h1]at h ⊢
  obtain ⟨_,hu,hr,d0,d1,d2⟩:=Lr h1
  rw[d2]at h ⊢
  repeat' split at h
  all_goals (try (simp at h;done))
  rename_i h2 h3 h4
  rw[if_neg h2,if_neg h3,if_neg h4]
  simp only[A0,if_neg k1,if_neg k2,if_neg k3,if_neg k4,if_neg k5,if_pos k6,Bool.and_eq_true]at hu
  have hv:=within_iff.1 hu.2
  have b1:(Bj n (Ap n l.dev) l.vlan).toNat<n.domains.length:=(Ir (p:=fun d:Domain=>d.dev == Ap n l.dev && d.vlan == l.vlan) (l:=n.domains) (by show 0≤Bj n (Ap n l.dev) l.vlan;omega)).1
  simp only[not_or,Decidable.not_not]at h4
  generalize Bj n (Ap n l.dev) l.vlan=j at *
  obtain ⟨j,rfl⟩:∃ k:Nat,j=k:=⟨j.toNat,by omega⟩
  rw[Int.toNat_natCast]at b1 ⊢
  exact Akp hr j b1 h4.1 l.num l.row ⟨by omega,hv.2⟩
 rw[if_neg k6]at h ⊢
 by_cases k7:l.kind=7
 ·rw[if_pos k7]at h ⊢
  rw[putFlood]at h ⊢
  dsimp only at h ⊢
  by_cases h1:(begT n l 7).2≠0
  ·rw[if_pos h1]at h;exact absurd h h1
  rw[if_neg h1]at h ⊢
  obtain ⟨_,hu,hr,d0,d1,d2⟩:=Lr h1
  rw[d2]at h ⊢
  repeat' split at h
  all_goals (try (simp at h;done))
  rename_i h2 h3 h4 h5
  rw[if_neg h2,if_neg h3,if_neg h4,if_neg h5]
  have hf:=few_iff.1 hr.few
  simp only[A0,if_neg k1,if_neg k2,if_neg k3,if_neg k4,if_neg k5,if_neg k6,if_pos k7,Bool.and_eq_true,Hz,decide_eq_true_eq]at hu
  exact Afu hr _ (floodB_iff.2 ⟨place_iff.2 ⟨d0,by show Ap n l.dev<_;omega⟩,hu.2.2.2⟩) j_
 rw[if_neg k7]at h ⊢
 by_cases k8:l.kind=8
 ·rw[if_pos k8]at h ⊢
  rw[putVrf]at h ⊢
  dsimp only at h ⊢
  by_cases h1:(begT n l 8).2≠0
  ·rw[if_pos h1]at h;exact absurd h h1
  rw[if_neg h1]at h ⊢
  obtain ⟨_,hu,hr,d0,d1,d2⟩:=Lr h1
  rw[d2]at h ⊢
  repeat' split at h
  all_goals (try (simp at h;done))
  rename_i h2 h3
  rw[if_neg h2,if_neg h3]
  have hf:=few_iff.1 hr.few
  simp only[A0,if_neg k1,if_neg k2,if_neg k3,if_neg k4,if_neg k5,if_neg k6,if_neg k7,if_pos k8,Bool.and_eq_true]at hu
  exact Ako hr _ (vrfB_iff.2 ⟨place_iff.2 ⟨d0,by show Ap n l.dev<_;omega⟩,hu.2.1,hu.2.2⟩) j_
 rw[if_neg k8]at h ⊢
 by_cases k9:l.kind=9
 ·rw[if_pos k9]at h ⊢
  rw[putIrb]at h ⊢
  dsimp only at h ⊢
  by_cases h1:(begT n l 9).2≠0
  ·rw[if_pos h1]at h;exact absurd h h1
  rw[if_neg h1]at h ⊢
  obtain ⟨_,hu,hr,d0,d1,d2⟩:=Lr h1
  rw[d2]at h ⊢
  repeat' split at h
  all_goals (try (simp at h;done))
  rename_i h2 h3 h4
  rw[if_neg h2,if_neg h3,if_neg h4]
  simp only[A0,if_neg k1,if_neg k2,if_neg k3,if_neg k4,if_neg k5,if_neg k6,if_neg k7,if_neg k8,if_pos k9,Bool.and_eq_true]at hu
  have hb:=Mv hu.2.2
  have p1:=Ir (p:=fun v:Vrf=>v.dev == Ap n l.dev && v.name == l.name) (l:=n.vrfs) (by show 0≤Sa n (Ap n l.dev) l.name;omega)
  have p2:=Ir (p:=fun d:Domain=>d.dev == Ap n l.dev && d.vlan == l.vlan) (l:=n.domains) (by show 0≤Bj n (Ap n l.dev) l.vlan;omega)
  have a1:(Sa n (Ap n l.dev) l.name).toNat<n.vrfs.length:=p1.1
  have a2:(nth n.vrfs (Sa n (Ap n l.dev) l.name)).dev=Ap n l.dev:=by
   have:=p1.2
   simp only[Bool.and_eq_true,beq_iff_eq]at this
   exact this.1
  have b1:(Bj n (Ap n l.dev) l.vlan).toNat<n.domains.length:=p2.1
  have b2:(nth n.domains (Bj n (Ap n l.dev) l.vlan)).dev=Ap n l.dev:=by
   have:=p2.2
   simp only[Bool.and_eq_true,beq_iff_eq]at this
   exact this.1
  simp only[not_or]at h4
  generalize Bj n (Ap n l.dev) l.vlan=j at *
  obtain ⟨j,rfl⟩:∃ k:Nat,j=k:=⟨j.toNat,by omega⟩
  rw[Int.toNat_natCast]at b1 ⊢
  exact Al5 hr j b1 j_ ⟨l.row,j,Sa n (Ap n l.dev) l.name,l.addr,l.bits⟩ q_ (place_iff.2 ⟨by dsimp only;omega,by dsimp only;omega⟩) (b2.trans a2.symm) hb
 ·rw[if_neg k9]at h
  simp at h
theorem K8:NetR emptyN:=netR_iff.1 (by decide +kernel)
end Go.Sy.YtdkfcckkkfghgaaGreatDoor
namespace Go.Sy.YtdkfcckkkfghgaaGreatDoor
open Go.Proofs
set_option maxHeartbeats 4000000
def Cg (l:List LineM) (k:Int):Nat:=(l.filter fun x=>x.kind == k).length
structure Many (n:Net) (c:Int→Nat):Prop where
 c1:n.devices.length=c 1
 c2:n.ports.length=c 2
 c3:n.links.length=c 3
 c4:n.statics.length=c 4
 c7:n.floods.length=c 7
 c8:n.vrfs.length=c 8
 c9:n.irbs.length=c 9
theorem Ie (l:List Port) (i k:Int):(Cv l i k).length=l.length:=List.length_set
theorem Ec (l:List Device) (i k:Int):(U4 l i k).length=l.length:=List.length_set
theorem Ae8 {n:Net} {x:LineM} (h:(putDevice n x).2=0):(putDevice n x).1.devices.length=n.devices.length+1∧(putDevice n x).1.ports.length=n.ports.length∧(putDevice n x).1.links.length=n.links.length∧(putDevice n x).1.statics.length=n.statics.length∧(putDevice n x).1.floods.length=n.floods.length∧(putDevice n x).1.vrfs.length=n.vrfs.length∧(putDevice n x).1.irbs.length=n.irbs.length:=by
 unfold putDevice at h ⊢
 by_cases h0:fitsB n x 1=false
 ·rw[if_pos h0]at h;cases h
 rw[if_neg h0]at h ⊢
 try dsimp only at h ⊢
 split at h
 ·cases h
 rename_i h1
 rw[if_neg h1]
 split at h
 ·cases h
 rename_i h2
 rw[if_neg h2]
 simp[Ie,Ec]
theorem Als {n:Net} {x:LineM} (h:(putPort n x).2=0):(putPort n x).1.devices.length=n.devices.length∧(putPort n x).1.ports.length=n.ports.length+1∧(putPort n x).1.links.length=n.links.length∧(putPort n x).1.statics.length=n.statics.length∧(putPort n x).1.floods.length=n.floods.length∧(putPort n x).1.vrfs.length=n.vrfs.length∧(putPort n x).1.irbs.length=n.irbs.length:=by
 unfold putPort at h ⊢
 by_cases h0:fitsB n x 2=false
 ·rw[if_pos h0]at h;cases h
 rw[if_neg h0]at h ⊢
 try dsimp only at h ⊢
 split at h
 ·cases h
 rename_i h1
 rw[if_neg h1]
 split at h
 ·cases h
 rename_i h2
 rw[if_neg h2]
 split at h
 ·cases h
 rename_i h3
 rw[if_neg h3]
 split at h
 ·cases h
 rename_i h4
 rw[if_neg h4]
 simp[Ie,Ec]
theorem Alt {n:Net} {x:LineM} (h:(putLink n x).2=0):(putLink n x).1.devices.length=n.devices.length∧(putLink n x).1.ports.length=n.ports.length∧(putLink n x).1.links.length=n.links.length+1∧(putLink n x).1.statics.length=n.statics.length∧(putLink n x).1.floods.length=n.floods.length∧(putLink n x).1.vrfs.length=n.vrfs.length∧(putLink n x).1.irbs.length=n.irbs.length:=by
 unfold putLink at h ⊢
 by_cases h0:fitsB n x 3=false
 ·rw[if_pos h0]at h;cases h
 rw[if_neg h0]at h ⊢
 try dsimp only at h ⊢
 split at h
 ·cases h
 rename_i h1
 rw[if_neg h1]
 split at h
 ·cases h
 rename_i h2
 rw[if_neg h2]
 split at h
 ·cases h
 rename_i h3
 rw[if_neg h3]
 simp[Ie,Ec]
theorem Ae7 {n:Net} {x:LineM} (h:(putStatic n x).2=0):(putStatic n x).1.devices.length=n.devices.length∧(putStatic n x).1.ports.length=n.ports.length∧(putStatic n x).1.links.length=n.links.length∧(putStatic n x).1.statics.length=n.statics.length+1∧(putStatic n x).1.floods.length=n.floods.length∧(putStatic n x).1.vrfs.length=n.vrfs.length∧(putStatic n x).1.irbs.length=n.irbs.length:=by
 unfold putStatic at h ⊢
 by_cases h0:fitsB n x 4=false
 ·rw[if_pos h0]at h;cases h
 rw[if_neg h0]at h ⊢
 try dsimp only at h ⊢
 split at h
 ·cases h
 rename_i h1
 rw[if_neg h1]
 split at h
 ·cases h
 rename_i h2
 rw[if_neg h2]
 split at h
 ·cases h
 rename_i h3
 rw[if_neg h3]
 split at h
 ·cases h
 rename_i h4
 rw[if_neg h4]
 simp[Ie,Ec]
theorem Alr {n:Net} {x:LineM} (h:(putVtep n x).2=0):(putVtep n x).1.devices.length=n.devices.length∧(putVtep n x).1.ports.length=n.ports.length∧(putVtep n x).1.links.length=n.links.length∧(putVtep n x).1.statics.length=n.statics.length∧(putVtep n x).1.floods.length=n.floods.length∧(putVtep n x).1.vrfs.length=n.vrfs.length∧(putVtep n x).1.irbs.length=n.irbs.length:=by
 unfold putVtep at h ⊢
 by_cases h0:(begT n x 5).2≠0
 ·rw[if_pos h0]at h;exact absurd h h0
 rw[if_neg h0]at h ⊢
 try dsimp only at h ⊢
 split at h
 ·cases h
 rename_i h1
 rw[if_neg h1]
 simp[Ie,Ec]
theorem Aoe {n:Net} {x:LineM} (h:(putVni n x).2=0):(putVni n x).1.devices.length=n.devices.length∧(putVni n x).1.ports.length=n.ports.length∧(putVni n x).1.links.length=n.links.length∧(putVni n x).1.statics.length=n.statics.length∧(putVni n x).1.floods.length=n.floods.length∧(putVni n x).1.vrfs.length=n.vrfs.length∧(putVni n x).1.irbs.length=n.irbs.length:=by
 unfold putVni at h ⊢
 by_cases h0:(begT n x 6).2≠0
 ·rw[if_pos h0]at h;exact absurd h h0
 rw[if_neg h0]at h ⊢
 try dsimp only at h ⊢
 split at h
 ·cases h
 rename_i h1
 rw[if_neg h1]
 split at h
 ·cases h
 rename_i h2
 rw[if_neg h2]
 split at h
 ·cases h
 rename_i h3
 rw[if_neg h3]
 simp[Ie,Ec]
theorem Aif {n:Net} {x:LineM} (h:(putFlood n x).2=0):(putFlood n x).1.devices.length=n.devices.length∧(putFlood n x).1.ports.length=n.ports.length∧(putFlood n x).1.links.length=n.links.length∧(putFlood n x).1.statics.length=n.statics.length∧(putFlood n x).1.floods.length=n.floods.length+1∧(putFlood n x).1.vrfs.length=n.vrfs.length∧(putFlood n x).1.irbs.length=n.irbs.length:=by
 unfold putFlood at h ⊢
 by_cases h0:(begT n x 7).2≠0
 ·rw[if_pos h0]at h;exact absurd h h0
 rw[if_neg h0]at h ⊢
 try dsimp only at h ⊢
 split at h
 ·cases h
 rename_i h1
 rw[if_neg h1]
 split at h
 ·cases h
 rename_i h2
 rw[if_neg h2]
 split at h
 ·cases h
 rename_i h3
 rw[if_neg h3]
 split at h
 ·cases h
 rename_i h4
 rw[if_neg h4]
 simp[Ie,Ec]
theorem Aod {n:Net} {x:LineM} (h:(putVrf n x).2=0):(putVrf n x).1.devices.length=n.devices.length∧(putVrf n x).1.ports.length=n.ports.length∧(putVrf n x).1.links.length=n.links.length∧(putVrf n x).1.statics.length=n.statics.length∧(putVrf n x).1.floods.length=n.floods.length∧(putVrf n x).1.vrfs.length=n.vrfs.length+1∧(putVrf n x).1.irbs.length=n.irbs.length:=by
 unfold putVrf at h ⊢
 by_cases h0:(begT n x 8).2≠0
 ·rw[if_pos h0]at h;exact absurd h h0
 rw[if_neg h0]at h ⊢
 try dsimp only at h ⊢
 split at h
 ·cases h
 rename_i h1
 rw[if_neg h1]
 split at h
 ·cases h
 rename_i h2
 rw[if_neg h2]
 simp[Ie,Ec]
theorem Aof {n:Net} {x:LineM} (h:(putIrb n x).2=0):(putIrb n x).1.devices.length=n.devices.length∧(putIrb n x).1.ports.length=n.ports.length∧(putIrb n x).1.links.length=n.links.length∧(putIrb n x).1.statics.length=n.statics.length∧(putIrb n x).1.floods.length=n.floods.length∧(putIrb n x).1.vrfs.length=n.vrfs.length∧(putIrb n x).1.irbs.length=n.irbs.length+1:=by
 unfold putIrb at h ⊢
 by_cases h0:(begT n x 9).2≠0
 ·rw[if_pos h0]at h;exact absurd h h0
 rw[if_neg h0]at h ⊢
 try dsimp only at h ⊢
 split at h
 ·cases h
 rename_i h1
 rw[if_neg h1]
 split at h
 ·cases h
 rename_i h2
 rw[if_neg h2]
 split at h
 ·cases h
 rename_i h3
 rw[if_neg h3]
 simp[Ie,Ec]
theorem Anm {n:Net} {c:Int→Nat} {x:LineM} (hm:Many n c) (h:(putT n x).2=0):Many (putT n x).1 (fun k=>c k+if x.kind=k then 1 else 0):=by
 obtain ⟨c1,c2,c3,c4,c7,c8,c9⟩:=hm
 unfold putT at h ⊢
 by_cases k1:x.kind=1
 ·rw[if_pos k1]at h ⊢
  obtain ⟨e1,e2,e3,e4,e7,e8,e9⟩:=Ae8 h
  constructor<;>simp[*]
 rw[if_neg k1]at h ⊢
 by_cases k2:x.kind=2
 ·rw[if_pos k2]at h ⊢
  obtain ⟨e1,e2,e3,e4,e7,e8,e9⟩:=Als h
  constructor<;>simp[*]
 rw[if_neg k2]at h ⊢
 by_cases k3:x.kind=3
 ·rw[if_pos k3]at h ⊢
  obtain ⟨e1,e2,e3,e4,e7,e8,e9⟩:=Alt h
  constructor<;>simp[*]
 rw[if_neg k3]at h ⊢
 by_cases k4:x.kind=4
 ·rw[if_pos k4]at h ⊢
  obtain ⟨e1,e2,e3,e4,e7,e8,e9⟩:=Ae7 h
  constructor<;>simp[*]
 rw[if_neg k4]at h ⊢
 by_cases k5:x.kind=5
 ·rw[if_pos k5]at h ⊢
  obtain ⟨e1,e2,e3,e4,e7,e8,e9⟩:=Alr h
  constructor<;>simp[*]
 rw[if_neg k5]at h ⊢
 by_cases k6:x.kind=6
 ·rw[if_pos k6]at h ⊢
  obtain ⟨e1,e2,e3,e4,e7,e8,e9⟩:=Aoe h
  constructor<;>simp[*]
 rw[if_neg k6]at h ⊢
 by_cases k7:x.kind=7
 ·rw[if_pos k7]at h ⊢
  obtain ⟨e1,e2,e3,e4,e7,e8,e9⟩:=Aif h
  constructor<;>simp[*]
 rw[if_neg k7]at h ⊢
 by_cases k8:x.kind=8
 ·rw[if_pos k8]at h ⊢
  obtain ⟨e1,e2,e3,e4,e7,e8,e9⟩:=Aod h
  constructor<;>simp[*]
 rw[if_neg k8]at h ⊢
 by_cases k9:x.kind=9
 ·rw[if_pos k9]at h ⊢
  obtain ⟨e1,e2,e3,e4,e7,e8,e9⟩:=Aof h
  constructor<;>simp[*]
 rw[if_neg k9]at h ⊢
 cases h
theorem Mc:Many emptyN (fun _=>0):=⟨rfl,rfl,rfl,rfl,rfl,rfl,rfl⟩
end Go.Sy.YtdkfcckkkfghgaaGreatDoor
