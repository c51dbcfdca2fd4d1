/-
  E6 M12 M13 M14 V2 V3 V4 V5 X1 D2 M1 M2 M15 A1 A3 Sy20 Sy21 A4 R1 R2 A5 R3 R5 R6 A6 R7 R8 K0 E7 E8 E9 E10 E11 E12 E13 E14 E15 A7 E21 E29 I6 I11 I41 S0 I31 I7l I8l S3 I37 I15 I16 I17 I18 I12 I13 I14 I19 Sy30: parts of a proof, joined by program.
-/
import Derived.Test.YtcflgpijohhfbaaGreatXS3
import Derived.RangeFuncNested
import Derived.RangeFuncCalls
import Derived.RangeFuncLeaves
import Derived.Shelf.Abstract
import Derived.Shelf.RegionOpen
import Derived.WalkKit
import Derived.OwnWalkIn
import Derived.TacticsInMore
import Derived.LoopNIn
import Derived.LoopIn
import Derived.Test.YtcflgpijohhfbaaGreatProg
import Derived.ProofKit
import Derived.OpenShut
import Derived.Scope
import Derived.Laws.Bits64b
import Derived.Test.YtcflgpijohhfbaaGreatXS1
set_option linter.all false
set_option linter.unusedVariables false
set_option linter.unusedSimpArgs false
set_option linter.deprecated false
namespace Go.Sy.YtcflgpijohhfbaaGreat
open Go.Proofs
attribute [local irreducible] Go.Sy.G Go.Sy.DR
set_option maxRecDepth 20000
set_option maxHeartbeats 4000000
theorem Ad2 (n:Net) (hn:n.Fin) (l:List Domain) (p:Domain→Bool) (f:FuncId) (first cap:List SV) (hc:(SV.clo (.func f) first cap).inn []=true) (hf:∀ x∈l,Ek Tryz.prog f (first++[An x]++cap) (Ab (p x))) (hl:Ak l) :
  Sy.Spec Tryz.prog 87 [Aj n,.sl 6 An l,.clo (.func f) first cap] [] (Aa (if Ac n=true then B9 p l else -1)) []:=cT F87 Tryz.ntmps87 fun F hF=>by
 have hr:=At n hn
 have q:=Dn l p f first cap hc hf hl
 conv=>whnf
 refine c0 hr F12 ?_
 cases hb:Ac n
 ·rw[if_neg y_]
  refine oT ?_
  exact dN
 rw[if_pos rfl]
 refine oF ?_
 refine Kl q F139 E E (by simp only[By,hc,Bool.and_true];rfl) E E ?_
 refine oO ?_
 exact dN
theorem Adq (dev vlan:Int) (d:Domain):Sy.Spec Tryz.prog 88 [An d,.ref 1 (Aa dev) 0,.ref 1 (Aa vlan) 0] [] (Ab (d.dev == dev && d.vlan == vlan)) []:=cT F88 Tryz.ntmps88 fun F hF=>by
 conv=>whnf
 (repeat' (first | (refine⟨fun h=>?_,fun h=>?_⟩<;>(repeat (first | simp only[beq_iff_eq]at h | simp only[beq_eq_false_iff_ne]at h))<;>((refine oO ?_))) | (refine Ap rfl (.cons .tmp .nil) ?_ rfl)))
 all_goals (refine congrArg Ab ?_)
 all_goals simp_all
def B1 (n:Net) (dev vlan:Int):Int:=if Ac n=true then Ej n dev vlan else -1
theorem Hx (n:Net) (hn:n.Fin) (dev vlan:Int):Sy.Spec Tryz.prog 49 [Aj n,Aa dev,Aa vlan] [] (Aa (B1 n dev vlan)) []:=cT F49 Tryz.ntmps49 fun F hF=>by
 have q:=Ad2 n hn n.domains (fun d=>d.dev == dev && d.vlan == vlan) 88 [] [.ref 1 (Aa dev) 0,.ref 1 (Aa vlan) 0] rfl (fun d _=>⟨⟨_,_,F88⟩,Adq dev vlan d⟩) hn.domains
 conv=>whnf
 refine Aw 4 1 (Aa dev) E E E ?_
 refine Aw 5 1 (Aa vlan) E E E ?_
 refine c0 q F87 ?_
 refine oO ?_
 exact dN
def B3 (n:Net) (i:Int):Int :=
 if (0≤i∧i<n.ports.length)∧0≤(nth n.ports i).link∧Ac n=true then
  (if (nth n.links (nth n.ports i).link).a=i then (nth n.links (nth n.ports i).link).b else (nth n.links (nth n.ports i).link).a) else -1
theorem Ew {n:Net} (h:Ac n=true) {i:Nat} (hi:i<n.ports.length) (hl:0≤n.ports[i].link) :
  n.ports[i].link.toNat<n.links.length∧((nth n.links n.ports[i].link).a=i∨(nth n.links n.ports[i].link).b=i):=by
 have:=Aka h hi
 simp only[I7,Ai,Bool.and_eq_true,Bool.or_eq_true,decide_eq_true_eq,beq_iff_eq]at this
 rcases this.2 with h1 | h1
 ·omega
 ·exact⟨by omega,h1.2⟩
theorem Ub (n:Net) (hn:n.Fin) (i:Int):Sy.Spec Tryz.prog 205 [Aj n,Aa i] [] (Aa (B3 n i)) []:=cT F205 Tryz.ntmps205 fun F hF=>by
 have hr:=At n hn
 conv=>whnf
 refine⟨fun h=>?_,fun h=>?_⟩
 ·have h1:i<0:=of_decide_eq_true h
  rw[B3,if_neg q_]
  (refine oT ?_;refine bT ?_;refine bT ?_)
  exact dN
 have h1:0≤i:=qB h
 refine oO ?_
 refine⟨fun h=>?_,fun h=>?_⟩
 ·have h2:n.ports.length≤i:=of_decide_eq_true h
  rw[B3,if_neg q_]
  (refine oT ?_;refine bT ?_)
  exact dN
 have h2:i<n.ports.length:=qB h
 have hk:i.toNat<n.ports.length:=by omega
 have e1:nth n.ports i=n.ports[i.toNat]:=Ae hk
 have hlk:=fun (hb:Ac n=true)=>Ew hb hk
 rw[B3,e1]
 obtain ⟨p,hp⟩:∃ p,n.ports[i.toNat]=p:=⟨_,rfl⟩
 rw[hp]at hlk ⊢
 refine oO ?_
 refine⟨E,h1,hk,?_⟩
 rw[hp]
 conv=>whnf
 refine⟨fun h=>?_,fun h=>?_⟩
 ·have h3:p.link<0:=of_decide_eq_true h
  rw[if_neg q_]
  refine oT ?_
  exact dN
 have h3:0≤p.link:=qB h
 refine oO ?_
 refine c0 hr F12 ?_
 cases hb:Ac n
 ·rw[if_neg y_]
  refine oT ?_
  exact dN
 rw[if_pos ⟨⟨h1,h2⟩,h3,rfl⟩]
 have hq:=hlk hb h3
 have e2:nth n.links p.link=n.links[p.link.toNat]:=Ae hq.1
 rw[e2]
 obtain ⟨l,hl⟩:∃ l,n.links[p.link.toNat]'hq.1=l:=⟨_,rfl⟩
 rw[hl]
 refine oF ?_
 refine⟨E,h1,hk,?_⟩
 rw[hp]
 conv=>whnf
 refine⟨E,h3,hq.1,?_⟩
 rw[hl]
 conv=>whnf
 refine kW ?_
 refine⟨fun h=>?_,fun h=>?_⟩
 ·have h4:l.a=i:=by simpa using h
  rw[if_pos h4]
  refine oO ?_
  exact dN
 ·have h4:¬ l.a=i:=by simpa using h
  rw[if_neg h4]
  refine oO ?_
  exact dN
end Go.Sy.YtcflgpijohhfbaaGreat
namespace Go.Sy.YtcflgpijohhfbaaGreat
open Go.Proofs
attribute [local irreducible] Go.Sy.G Go.Sy.DR
set_option maxRecDepth 100000
set_option maxHeartbeats 4000000
def Asd (c:UInt8) (s:ByteArray):ByteArray × ByteArray × Bool :=
 if 0≤Lib.indexByte s.data.toList c then (s.extract 0 (At6 c s.data.toList),s.extract (At6 c s.data.toList+1) s.size,true) else (s,⟨#[]⟩,false)
def digV (l:List UInt8):Int:=l.foldl (fun n c=>10 * n+((c.toNat:Int)-48)) 0
def negB (s:ByteArray):Bool:=s.data.toList.head? == some 45
def Ahe (s:ByteArray):List UInt8:=if negB s=true then s.data.toList.drop 1 else s.data.toList
def Atv (s:ByteArray):Int:=if negB s=true then 0-digV (Ahe s) else digV (Ahe s)
def Adp (s:ByteArray) (lo hi:Int):Int × Bool :=
 if (Ahe s).length<1∨10<(Ahe s).length then (0,false) else if (Ahe s).all Asc=false then (0,false)
 else if Atv s<lo∨hi<Atv s then (0,false) else if (numT (Atv s) == s)=true then (Atv s,true) else (0,false)
theorem Auo {s:ByteArray} {i:Nat} (h:i<s.data.toList.length):Ep s i=s.data.toList[i]:=by
 rw[Ep,List.getD_eq_getElem?_getD,List.getElem?_eq_getElem h];rfl
end Go.Sy.YtcflgpijohhfbaaGreat
namespace Go.Sy.YtcflgpijohhfbaaGreat
open Go.Proofs
attribute [local irreducible] Go.Sy.G Go.Sy.DR
set_option maxRecDepth 20000
set_option maxHeartbeats 4000000
def Ok (lt:Int→Int→Bool) (x:Int):List Int→List Int
 | []=>[x]
 | y::r=>if lt x y then y::Ok lt x r else x::y::r
def Es (lt:Int→Int→Bool) (l:List Int):List Int:=l.foldl (fun r x=>Ok lt x r) []
def Sa (lt:Int→Int→Bool) (l:List Int):List Int:=(Es lt l).reverse
theorem V2 (lt:Int→Int→Bool) (x:Int):∀ r,(Ok lt x r).Perm (x::r)
 | []=>.refl _
 | y::r=>by
  rw[Ok]
  split
  ·exact((V2 lt x r).cons y).trans (.swap x y r)
  ·exact .refl _
theorem Mu (lt:Int→Int→Bool):∀ (l r:List Int),(l.foldl (fun r x=>Ok lt x r) r).Perm (l++r)
 | [],r=>.refl _
 | x::l,r=>by
  rw[List.foldl_cons]
  refine(Mu lt l _).trans ?_
  refine((V2 lt x r).append_left l).trans ?_
  simp
theorem Kk (lt:Int→Int→Bool) (l:List Int):(Es lt l).Perm l:=by
 have:=Mu lt l []
 simpa [Es] using this
theorem Sv (lt:Int→Int→Bool) (l:List Int):(Sa lt l).Perm l:=(List.reverse_perm _).trans (Kk lt l)
theorem Ags (lt:Int→Int→Bool) (l:List Int) (i:Nat) (h:i<l.length):Es lt (l.take (i+1))=Ok lt l[i] (Es lt (l.take i)):=by
 rw[List.take_succ_eq_append_getElem h,Es,List.foldl_append]
 rfl
mutual
theorem Ug {K:List Nat}:∀ x:SV,x.inn []=true→x.inn K=true
 | .ptr _ _,h=>by simp[SV.inn,Le]at h
 | .rpt _ _ _ _,h=>by simp[SV.inn,Le]at h
 | .osl _,h=>by simp[SV.inn,Le]at h
 | .agg l,h=>by simp only[SV.inn]at h ⊢;exact Ol l h
 | .tup l,h=>by simp only[SV.inn]at h ⊢;exact Ol l h
 | .ifc _ x,h=>by simp only[SV.inn]at h ⊢;exact Ug x h
 | .clo _ f l,h=>by simp only[SV.inn,Bool.and_eq_true]at h ⊢;exact⟨Ol f h.1,Ol l h.2⟩
 | .top,_=>rfl
 | .val _,_=>rfl
 | .sl _ _ _,_=>rfl
 | .ref _ _ _,_=>rfl
theorem Ol {K:List Nat}:∀ l:List SV,By [] l=true→By K l=true
 | [],_=>rfl
 | x::l,h=>by simp only[By,Bool.and_eq_true]at h ⊢;exact⟨Ug x h.1,Ol l h.2⟩
end
theorem Zd (l:List Int) (c:Int→Int→Int) (Q:Int→Prop) (f:FuncId) (first cap:List SV) (hc:(SV.clo (.func f) first cap).inn []=true) (hf:∀ a b,Q a→Q b→Ek Tryz.prog f (first++[Aa a,Aa b]++cap) (Aa (c a b))) (hQ:∀ a∈l,Q a) (hl:Ak l) :
  Sy.Spec Tryz.prog 314 [.osl 0,Aa 0,Aa l.length,.clo (.func f) first cap] [(0,.row 1 Aa l)] (.tup []) [(0,.row 1 Aa (Sa (fun a b=>decide (c a b<0)) l))]:=cT F314 Tryz.ntmps314 fun F hF=>by
 unfold Ak at hl
 have hin:∀ x y:Int,By [] (first++[Aa x,Aa y]++cap)=true:=fun x y=>Cj hc rfl
 have hc':(SV.clo (.func f) first cap).inn [0]=true:=Ug _ hc
 generalize hlt:(fun a b=>decide (c a b<0))=lt
 conv=>whnf
 (repeat' (refine⟨by (unfold I64;omega),?_⟩;((conv=>whnf))))
 refine Be l.length (fun _=>True) (fun j=>[(0,.osl 0),(1,Aa 0),(2,Aa l.length),(3,.clo (.func f) first cap),(8,Aa ((j:Int)+1))]) (fun j=>[(0,.row 1 Aa ((Es lt (l.take (j+1))).reverse++l.drop (j+1)))]) [] Y ⟨⟨E,E,E,E,E,E,A5 _,hc',E,E,Y⟩,⟨.inl (congrArg (Ob.row 1 Aa) ?_),E,Y⟩,E,E⟩ ?_
 ·cases l with
  | nil=>rfl
  | cons a l=>simp[Es,Ok]
 intro j hj _
 refine oO ?_
 refine⟨fun h=>?_,fun h=>?_⟩
 ·have hjl:j+1<l.length:=qA h
  have hdrop:l.drop (j+1)=l[j+1]::l.drop (j+1+1):=List.drop_eq_getElem_cons hjl
  have htake:=Ags lt l (j+1) hjl
  have hr:(Es lt (l.take (j+1))).length=j+1:=by rw[(Kk lt _).length_eq];simp;omega
  have hQx:Q l[j+1]:=hQ _ (List.getElem_mem hjl)
  have hQr:∀ z∈Es lt (l.take (j+1)),Q z:=fun z hz=>hQ z (List.mem_of_mem_take ((Kk lt _).mem_iff.1 hz))
  rw[hdrop]
  generalize l[j+1]=x at htake hQx
  generalize Es lt (l.take (j+1))=r at htake hr hQr
  generalize hR:l.drop (j+1+1)=R at *
  refine oO ?_
  refine O6 (α:={p:List Int × List Int // Ok lt x r=p.2.reverse++Ok lt x p.1∧p.1.length+p.2.length=j+1∧∀ z∈p.1,Q z}) (fun p=>[(0,.osl 0),(1,Aa 0),(2,Aa l.length),(3,.clo (.func f) first cap),(8,Aa ((j:Int)+1)),(9,Aa p.1.1.length)]) (fun p=>[(0,.row 1 Aa (p.1.1.reverse++x::(p.1.2++R)))]) (fun p=>p.1.1.length) ⟨(r,[]),by simp,by simpa using hr,hQr⟩ []
   ⟨⟨rfl,rfl,rfl,rfl,rfl,rfl,A5 _,hc',rfl,rfl,congrArg Aa (by rw[hr];omega),rfl,trivial⟩,⟨.inl rfl,rfl,trivial⟩,rfl,rfl⟩ ?_
  rintro ⟨⟨A,B⟩,hp1,hp2,hp3⟩
  simp only at hp1 hp2 hp3
  dsimp only
  cases A with
  | nil =>
   simp only[Ok]at hp1
   (refine rg ?_;(conv=>whnf);refine aF ?_;refine oD ?_)
   refine⟨z_,?_⟩
   ((conv=>whnf);refine aF ?_;refine rg ?_;conv=>whnf)
   refine iW ?_
   refine Bb [] Y q_ Y ⟨⟨E,E,E,E,E,E,A5 _,hc',congrArg Aa q_,E,Y⟩,⟨.inl (congrArg (Ob.row 1 Aa) ?_),E,Y⟩,E,E⟩
   show (Es lt (l.take (j+1+1))).reverse++l.drop (j+1+1)=[].reverse++x::(B++R)
   rw[htake,hp1,hR]
   simp
  | cons y A =>
   have hQy:=hp3 y y_
   refine oO ?_
   refine⟨fun _=>?_,fun h=>absurd (of_decide_eq_false h) y_⟩
   refine oD ?_
   have e1:((y::A).reverse++x::(B++R))[(((y::A).length:Nat):Int).toNat]'y_=x:=by simp
   have e2:((y::A).reverse++x::(B++R))[((((y::A).length:Nat):Int)-1).toNat]'y_=y:=by simp
   refine⟨by omega,by simp,?_⟩
   conv=>whnf
   refine⟨E,by simp,?_⟩
   rw[e1]
   conv=>whnf
   refine⟨by unfold I64;simp at hp2;simp;omega,?_⟩
   conv=>whnf
   refine⟨by simp,by simp,?_⟩
   conv=>whnf
   refine⟨E,by simp,?_⟩
   rw[e2]
   conv=>whnf
   refine Akm (hf x y hQx hQy) E E E (by simp only[hin];rfl) z_ E ?_
   refine oD ?_
   refine kW ?_
   refine⟨fun h2=>?_,fun h2=>?_⟩
   ·refine oO ?_
    refine⟨by unfold I64;simp at hp2;simp;omega,?_⟩
    conv=>whnf
    refine⟨by unfold I64;simp at hp2;simp;omega,?_⟩
    conv=>whnf
    refine⟨by simp,by simp,?_⟩
    conv=>whnf
    refine⟨E,by simp,?_⟩
    rw[e2]
    conv=>whnf
    refine⟨by omega,by simp,?_⟩
    conv=>whnf
    refine⟨E,by simp,?_⟩
    rw[e1]
    conv=>whnf
    refine⟨by omega,by simp,?_⟩
    conv=>whnf
    refine⟨E,by simp,y,E,E,?_⟩
    conv=>whnf
    refine⟨by simp,by simp,?_⟩
    conv=>whnf
    refine⟨E,by simp,x,E,E,?_⟩
    conv=>whnf
    refine kW ?_
    refine⟨by unfold I64;simp at hp2;simp;omega,?_⟩
    conv=>whnf
    have hxy:lt x y=true:=by rw[← hlt];exact h2
    refine Si (α:={p:List Int × List Int // Ok lt x r=p.2.reverse++Ok lt x p.1∧p.1.length+p.2.length=j+1∧∀ z∈p.1,Q z}) (L:=fun p=>[(0,.osl 0),(1,Aa 0),(2,Aa l.length),(3,.clo (.func f) first cap),(8,Aa ((j:Int)+1)),(9,Aa p.1.1.length)]) (O:=fun p=>[(0,.row 1 Aa (p.1.1.reverse++x::(p.1.2++R)))]) (μ:=fun p=>p.1.1.length) (x:=⟨(y::A,B),hp1,hp2,hp3⟩)
     ⟨(A,y::B),by simp only[hp1,Ok,hxy,if_true];simp,by simp at hp2 ⊢;omega,fun z hz=>hp3 z (by simp[hz])⟩ [] y_
     ⟨⟨rfl,rfl,rfl,rfl,rfl,rfl,A5 _,hc',rfl,rfl,congrArg Aa y_,rfl,trivial⟩,⟨.inl (congrArg (Ob.row 1 Aa) ?_),rfl,trivial⟩,rfl,rfl⟩
    simp
   ·refine oO ?_
    have hxy:lt x y=false:=by rw[← hlt];exact h2
    refine iW ?_
    refine Bb [] Y q_ Y ⟨⟨E,E,E,E,E,E,A5 _,hc',congrArg Aa q_,E,Y⟩,⟨.inl (congrArg (Ob.row 1 Aa) ?_),E,Y⟩,E,E⟩
    show (Es lt (l.take (j+1+1))).reverse++l.drop (j+1+1)=(y::A).reverse++x::(B++R)
    rw[htake,hp1,hR,Ok,hxy]
    simp
 ·have h:=of_decide_eq_false h
  have e:(Es lt (l.take (j+1))).reverse++l.drop (j+1)=Sa lt l:=by
   rw[List.take_of_length_le q_,List.drop_of_length_le q_,List.append_nil]
   rfl
  rw[e]
  refine oO ?_
  exact A1 E .nil [] [(0,.row 1 Aa (Sa lt l))] (fun _ h=>h) E E ⟨Y,⟨.inl E,E,Y⟩,E,E⟩
theorem Atg (l:List Int) (c:Int→Int→Int) (Q:Int→Prop) (f:FuncId) (first cap:List SV) (hc:(SV.clo (.func f) first cap).inn []=true) (hf:∀ a b,Q a→Q b→Ek Tryz.prog f (first++[Aa a,Aa b]++cap) (Aa (c a b))) (hQ:∀ a∈l,Q a) (hl:l.length<20) :
  Sy.Spec Tryz.prog 271 [.osl 0,Aa l.length,.clo (.func f) first cap] [(0,.row 1 Aa l)] (.tup []) [(0,.row 1 Aa (Sa (fun a b=>decide (c a b<0)) l))]:=cT F271 Tryz.ntmps271 fun F hF=>by
 have hc':(SV.clo (.func f) first cap).inn [0]=true:=Ug _ hc
 have hins:=Zd l c Q f first cap hc hf hQ (by unfold Ak;omega)
 generalize Sa (fun a b=>decide (c a b<0)) l=l' at hins
 conv=>whnf
 refine A3 0 (fun j=>[(0,.osl 0),(1,Aa l.length),(2,.clo (.func f) first cap),(6,Aa 20),(7,Aa 0),(8,Aa 20)]) (fun _=>[(0,.row 1 Aa l)]) [] ⟨⟨E,E,E,E,A5 _,hc',E,E,E,E,E,E,Y⟩,⟨.inl E,E,Y⟩,E,E⟩ ?_
 intro j hj
 refine oO ?_
 refine⟨fun h=>absurd (of_decide_eq_true h) q_,fun _=>?_⟩
 refine oO ?_
 refine Af (Ad [] E F314 hins (Hb _) ⟨E,Y⟩ (by
  have h0:By [0] [.osl 0,Aa 0,Aa l.length,.clo (.func f) first cap]=true:=by simp only[By,hc'];rfl
  simp only[I4,Obs.keys,List.map_cons,List.map_nil,h0];rfl) ⟨.inl rfl,trivial⟩) rfl rfl ?_
 refine oO ?_
 refine A3 0 (fun j=>[(1,Aa l.length),(6,Aa 20)]) (fun _=>[(0,.row 1 Aa l')]) [] ⟨⟨E,E,E,E,Y⟩,⟨.inl E,E,Y⟩,E,E⟩ ?_
 clear hj
 intro j hj
 refine oO ?_
 refine⟨fun h=>absurd (of_decide_eq_true h) q_,fun _=>?_⟩
 refine oO ?_
 exact A1 E .nil [] [(0,.row 1 Aa l')] (fun _ h=>h) E E ⟨Y,⟨.inl E,E,Y⟩,E,E⟩
theorem Afa (l:List Int) (c:Int→Int→Int) (Q:Int→Prop) (f:FuncId) (first cap:List SV) (hc:(SV.clo (.func f) first cap).inn []=true) (hf:∀ a b,Q a→Q b→Ek Tryz.prog f (first++[Aa a,Aa b]++cap) (Aa (c a b))) (hQ:∀ a∈l,Q a) (hl:l.length<20) :
  Sy.Spec Tryz.prog 213 [.osl 0,.clo (.func f) first cap] [(0,.row 1 Aa l)] (.tup []) [(0,.row 1 Aa (Sa (fun a b=>decide (c a b<0)) l))]:=cT F213 Tryz.ntmps213 fun F hF=>by
 have hc':(SV.clo (.func f) first cap).inn [0]=true:=Ug _ hc
 have hst:=Atg l c Q f first cap hc hf hQ hl
 generalize Sa (fun a b=>decide (c a b<0)) l=l' at hst
 conv=>whnf
 refine Af (Ad [] E F271 hst (Hb _) ⟨E,Y⟩ (by
  have h0:By [0] [.osl 0,Aa l.length,.clo (.func f) first cap]=true:=by simp only[By,hc'];rfl
  simp only[I4,Obs.keys,List.map_cons,List.map_nil,h0];rfl) ⟨.inl rfl,trivial⟩) rfl rfl ?_
 refine oO ?_
 exact A1 E .nil [] [(0,.row 1 Aa l')] (fun _ h=>h) E E ⟨Y,⟨.inl E,E,Y⟩,E,E⟩
def Aa2 (n:Net) (a b:Int):Int:=orI [cmpI (nth n.devices a).prio (nth n.devices b).prio,cmpI (nth n.devices a).mac (nth n.devices b).mac]
theorem ranks1 (n:Net) (a b:Int) (ha:0≤a∧a<n.devices.length) (hb:0≤b∧b<n.devices.length):Sy.Spec Tryz.prog 214 [Aa a,Aa b,.ref 8 (Aj n) 0] [] (Aa (Aa2 n a b)) []:=cT F214 Tryz.ntmps214 fun F hF=>by
 have e1:Aa2 n a b=orI [cmpI (n.devices[a.toNat]'q_).prio (n.devices[b.toNat]'q_).prio,cmpI (n.devices[a.toNat]'q_).mac (n.devices[b.toNat]'q_).mac]:=by
  rw[Aa2,Ae q_,Ae q_]
 rw[e1]
 conv=>whnf
 (repeat' (first | (refine Ap rfl (.cons .tmp .nil) ?_ rfl) | (refine⟨z_,?_⟩;((conv=>whnf))) | (refine⟨by (omega),by (omega),?_⟩;((conv=>whnf))) | (refine cD (Hs (n.devices[a.toNat]'q_).prio (n.devices[b.toNat]'q_).prio) F216 ?_;((refine rd z_ ?_);(conv=>whnf))) | (refine cD (Ahh (n.devices[a.toNat]'q_).mac (n.devices[b.toNat]'q_).mac) F217 ?_;((refine rd z_ ?_);(conv=>whnf))) | (refine Asf [28] (orS [cmpI (n.devices[a.toNat]'q_).prio (n.devices[b.toNat]'q_).prio,cmpI (n.devices[a.toNat]'q_).mac (n.devices[b.toNat]'q_).mac] (by simp[Ak])) F215 rfl (.cons (.lit rfl rfl rfl) .nil) rfl z_ rfl ?_;((refine rd z_ ?_);(conv=>whnf)))))
 all_goals rfl
def T4 (m:Nat):List Int:=(List.range m).map fun (i:Nat)=>(i:Int)
theorem Abu (m:Nat):T4 (m+1)=T4 m++[(m:Int)]:=by simp[T4,List.range_succ]
theorem Ir (m:Nat):(T4 m).length=m:=by simp[T4]
def Hw (ord:List Int):Nat→List Int
 | 0=>List.replicate ord.length 0
 | j+1=>(Hw ord j).set (nth ord j).toNat j
theorem Hc (ord:List Int):∀ j,(Hw ord j).length=ord.length
 | 0=>by simp[Hw]
 | j+1=>by simp[Hw,Hc ord j]
def D5 (n:Net):List Int:=Sa (fun a b=>decide (Aa2 n a b<0)) (T4 n.devices.length)
def D0 (n:Net):List Int:=Hw (D5 n) n.devices.length
theorem ranksS (n:Net) (hn:n.Fin):Sy.Spec Tryz.prog 152 [Aj n] [] (.sl 1 Aa (if Ac n then D0 n else [])) []:=cT F152 Tryz.ntmps152 fun F hF=>by
 have hl:=hn.devices
 unfold Ak at hl
 conv=>whnf
 refine c0 (At n hn) F12 ?_
 refine oO ?_
 refine⟨fun h=>?_,fun h=>?_⟩
 ·have h:Ac n=false:=by simpa using h
  refine oO ?_
  refine Ao 2 1 Aa E ?_
  exact Ap E (.cons .tmp .nil) (by rw[h];rfl) E
 have h:Ac n=true:=by simpa using h
 have h8:n.devices.length≤8:=by
  simp only[Ac,Aj7,Bool.and_eq_true,decide_eq_true_eq]at h
  exact h.1.1.1.1.1.1.1.1.1.1.1.1.1.1.1
 rw[h,if_pos rfl,D0]
 refine oO ?_
 refine Aw 1 8 (Aj n) E E E ?_
 refine Cc 3 1000 1 Aa E E ?_
 refine A3 n.devices.length (fun j=>[(1,.ref 8 (Aj n) 0),(3,.osl 1000),(13,Aa n.devices.length),(14,Aa j)]) (fun j=>[(1000,.row 1 Aa (T4 j))]) [] ⟨⟨E,E,E,E,E,E,E,E,Y⟩,⟨.inl E,E,Y⟩,E,E⟩ ?_
 intro j hj
 refine oO ?_
 refine⟨fun h2=>?_,fun h2=>?_⟩
 ·have hlt:j<n.devices.length:=by simpa using h2
  refine oO ?_
  refine Af (Ag Γ.toTy 20 E E E E E (.row E) (.lit (l:=[(j:Int)]) E E) y_ (by simp[Ir];omega) (by simp[Ir];omega)) E E ?_
  refine oO ?_
  refine iW ?_
  exact Av [(1000,20)] hlt ⟨⟨E,E,E,E,E,E,E,E,Y⟩,⟨.inl (congrArg (Ob.row 1 Aa) (Abu j)),E,Y⟩,E,E⟩
 have hjl:j=n.devices.length:=by have:¬ j<n.devices.length:=(by simpa using h2);omega
 subst hjl
 refine oO ?_
 have hsort:=Afa (T4 n.devices.length) (Aa2 n) (fun a=>0≤a∧a<n.devices.length) 214 [] [.ref 8 (Aj n) 0] rfl (fun a b ha hb=>⟨⟨_,_,F214⟩,ranks1 n a b ha hb⟩) (fun a ha=>by
  obtain ⟨i,hi,rfl⟩:=List.mem_map.1 ha
  have:=List.mem_range.1 hi
  omega) (by rw[Ir];omega)
 have hslen:(D5 n).length=n.devices.length:=by rw[D5,(Sv _ _).length_eq,Ir]
 have hsm:∀ a∈D5 n,0≤a∧a<n.devices.length:=fun a ha=>by
  have:=(Sv _ _).mem_iff.1 ha
  obtain ⟨i,hi,rfl⟩:=List.mem_map.1 this
  have:=List.mem_range.1 hi
  omega
 change Sy.Spec _ _ _ _ _ [(0,.row 1 Aa (D5 n))]at hsort
 generalize D5 n=sl at hsort hslen hsm
 refine Af (Ad [(0,1000)] E F213 hsort E ⟨E,Y⟩ E ⟨.inl E,Y⟩) E E ?_
 refine oO ?_
 refine Af (Bp Γ.toTy (d:=27) (n:=sl.length) Aa 0 E E E E E E E E q_ q_ E E E) E E ?_
 refine oO ?_
 refine A3 sl.length (fun j=>[(5,.osl 27),(28,.osl 1000),(29,Aa sl.length),(30,Aa j)]) (fun j=>[(1000,.row 1 Aa sl),(27,.row 1 Aa (Hw sl j))]) [] ⟨⟨E,E,E,E,E,E,E,E,Y⟩,⟨.inl E,E,.inl E,E,Y⟩,E,E⟩ ?_
 clear hj h2
 intro j hj
 refine oO ?_
 refine⟨fun h2=>?_,fun h2=>?_⟩
 ·have hlt:j<sl.length:=by simpa using h2
  have hmj:=hsm _ (List.getElem_mem hlt)
  have hnth:nth sl j=sl[j]:=Ae (by simpa using hlt)
  have hfl:=Hc sl j
  refine oO ?_
  refine⟨by omega,by omega,?_⟩
  conv=>whnf
  refine⟨E,by omega,?_⟩
  conv=>whnf
  refine⟨hmj.1,by rw[hfl];exact(by omega:sl[j].toNat<sl.length),?_⟩
  conv=>whnf
  refine⟨E,by rw[hfl];exact(by omega:sl[j].toNat<sl.length),(j:Int),E,E,?_⟩
  conv=>whnf
  refine iW ?_
  exact Av [] hlt ⟨⟨E,E,E,E,E,E,E,E,Y⟩,⟨.inl E,E,.inl (congrArg (Ob.row 1 Aa) (by rw[Hw,hnth];rfl)),E,Y⟩,E,E⟩
 have hjl:j=n.devices.length:=by
  have:¬ j<sl.length:=by simpa using h2
  omega
 subst hjl
 refine oO ?_
 refine Ah 27 E ?_
 exact dN
def Co (n:Net) (a b:Int):Bool :=
 if (nth n.devices a).prio≠(nth n.devices b).prio then decide ((nth n.devices a).prio<(nth n.devices b).prio) else
  if (nth n.devices a).mac≠(nth n.devices b).mac then decide ((nth n.devices a).mac<(nth n.devices b).mac) else decide (a<b)
def Lb (n:Net):List Int:=(List.range n.devices.length).map fun (i:Nat)=>(((List.range n.devices.length).countP fun k=>Co n (k:Nat) i:Nat):Int)
end Go.Sy.YtcflgpijohhfbaaGreat
namespace Go.Sy.YtcflgpijohhfbaaGreat
theorem key_lt (n:Net) (a b:Int):decide (Aa2 n a b<0)=if (nth n.devices a).prio≠(nth n.devices b).prio then decide ((nth n.devices a).prio<(nth n.devices b).prio) else
  if (nth n.devices a).mac≠(nth n.devices b).mac then decide ((nth n.devices a).mac<(nth n.devices b).mac) else false:=by
 rw[Aa2,L0,L0]
 rfl
theorem Mj (n:Net) (a:Int):Co n a a=false:=by simp[Co]
theorem Xb (n:Net) {a b c:Int} (h1:Co n a b=true) (h2:Co n b c=true):Co n a c=true:=by
 unfold Co at *
 generalize nth n.devices a=x at *
 generalize nth n.devices b=y at *
 generalize nth n.devices c=z at *
 grind
theorem Ahw (n:Net) {a b:Int} (h1:Co n a b=true):Co n b a=false:=by
 cases h:Co n b a with
 | false=>rfl
 | true=>have:=Xb n h1 h;rw[Mj]at this;cases this
theorem Ab2 (n:Net) {x y:Int} (h:y<x):decide (Aa2 n x y<0)=Co n x y:=by
 rw[key_lt]
 unfold Co
 generalize nth n.devices x=p at *
 generalize nth n.devices y=q at *
 grind
theorem At2 (n:Net) {x y:Int} (h:y<x) (hk:Co n x y=false):Co n y x=true:=by
 unfold Co at *
 generalize nth n.devices x=p at *
 generalize nth n.devices y=q at *
 grind
theorem Ab6 (n:Net) (x:Int):∀ (r:List Int),(∀ y∈r,y<x)→r.Pairwise (fun a b=>Co n b a=true)→(Ok (fun a b=>decide (Aa2 n a b<0)) x r).Pairwise (fun a b=>Co n b a=true)
 | [],_,_=>by simp[Ok]
 | y::r,hx,hp=>by
  have hy:=hx y y_
  rw[List.pairwise_cons]at hp
  rw[Ok]
  split
  ·rename_i hlt
   rw[Ab2 n hy]at hlt
   rw[List.pairwise_cons]
   refine⟨fun z hz=>?_,Ab6 n x r (fun z hz=>hx z (by simp[hz])) hp.2⟩
   rcases List.mem_cons.1 ((V2 _ x r).mem_iff.1 hz) with rfl | hz
   ·exact hlt
   ·exact hp.1 z hz
  ·rename_i hlt
   rw[Ab2 n hy]at hlt
   have hyx:=At2 n hy (by simpa using hlt)
   rw[List.pairwise_cons,List.pairwise_cons]
   refine⟨fun z hz=>?_,hp⟩
   rcases List.mem_cons.1 hz with rfl | hz
   ·exact hyx
   ·exact Xb n (hp.1 z hz) hyx
theorem Wu (n:Net):∀ m,(Es (fun a b=>decide (Aa2 n a b<0)) (T4 m)).Pairwise (fun a b=>Co n b a=true)
 | 0=>by simp[Es,T4]
 | m+1=>by
  rw[Abu,Es,List.foldl_append]
  refine Ab6 n m _ (fun y hy=>?_) (Wu n m)
  have:=(Kk _ _).mem_iff.1 hy
  obtain ⟨i,hi,rfl⟩:=List.mem_map.1 this
  have:=List.mem_range.1 hi
  omega
theorem Vr (n:Net):(D5 n).Pairwise (fun a b=>Co n a b=true):=by
 rw[D5,Sa,List.pairwise_reverse]
 exact Wu n _
theorem Ac3 (n:Net):(D5 n).Perm (T4 n.devices.length):=Sv _ _
theorem Ahg (n:Net) {l:List Int} (hp:l.Pairwise (fun a b=>Co n a b=true)) (r:Nat) (hr:r<l.length):l.countP (fun k=>Co n k l[r])=r:=by
 have hsplit:l=l.take r++l[r]::l.drop (r+1):=by
  rw[← List.drop_eq_getElem_cons hr,List.take_append_drop]
 have h1:(l.take r).countP (fun k=>Co n k l[r])=r:=by
  rw[List.countP_eq_length.2 (fun k hk=>?_),List.length_take]
  ·omega
  ·obtain ⟨i,hi,rfl⟩:=List.mem_iff_getElem.1 hk
   simp only[List.length_take]at hi
   rw[List.getElem_take]
   exact List.pairwise_iff_getElem.1 hp i r q_ hr q_
 have h2:(l.drop (r+1)).countP (fun k=>Co n k l[r])=0:=by
  rw[List.countP_eq_zero]
  intro k hk
  obtain ⟨i,hi,rfl⟩:=List.mem_iff_getElem.1 hk
  simp only[List.length_drop]at hi
  rw[List.getElem_drop]
  have:=List.pairwise_iff_getElem.1 hp r (r+1+i) hr q_ q_
  simp[Ahw n this]
 calc l.countP (fun k=>Co n k l[r])=(l.take r++l[r]::l.drop (r+1)).countP (fun k=>Co n k l[r]):=congrArg _ hsplit
  _=r:=by rw[List.countP_append,List.countP_cons,h1,h2,Mj];simp
theorem Tt (L:List Int) (hn:L.Nodup) (hm:∀ a∈L,0≤a∧a<L.length):∀ (j:Nat),j≤L.length→∀ (r:Nat) (hr:r<L.length),r<j→(Hw L j)[L[r].toNat]? = some (r:Int)
 | 0,_,r,_,h=>by omega
 | j+1,hj,r,hr,h=>by
  have hmr:=hm _ (List.getElem_mem hr)
  have hlen:=Hc L j
  have hnth:nth L (j:Int)=L[j]:=Ae (by simp;omega)
  rw[Hw,hnth,List.getElem?_set]
  split
  ·rename_i he
   have hmj:=hm _ (List.getElem_mem (show j<L.length by omega))
   have hjr:L[j]=L[r]:=by omega
   have:j=r:=by
    have:=(List.getElem_inj (i:=j) (j:=r) (h₀:=by omega) (h₁:=hr) hn).1 hjr
    exact this
   subst this
   rw[if_pos q_]
  ·rename_i he
   have hne:r≠j:=fun e=>he (by subst e;rfl)
   exact Tt L hn hm j q_ r hr q_
theorem Ajb (m:Nat):(T4 m).Nodup:=by
 rw[T4]
 exact List.Pairwise.map _ (fun (a b:Nat) (h:a≠b)=>by intro e;exact h q_) List.nodup_range
theorem Aft (n:Net):D0 n=Lb n:=by
 have hp:=Ac3 n
 have hlen:(D5 n).length=n.devices.length:=by rw[hp.length_eq,Ir]
 have hnd:(D5 n).Nodup:=hp.nodup_iff.2 (Ajb _)
 have hm:∀ a∈D5 n,0≤a∧a<(D5 n).length:=fun a ha=>by
  obtain ⟨i,hi,rfl⟩:=List.mem_map.1 (hp.mem_iff.1 ha)
  have:=List.mem_range.1 hi
  omega
 refine List.ext_getElem? fun i=>?_
 rcases Nat.lt_or_ge i n.devices.length with hi | hi
 ·have hin:(i:Int)∈D5 n:=hp.mem_iff.2 (List.mem_map.2 ⟨i,List.mem_range.2 hi,rfl⟩)
  obtain ⟨r,hr,he⟩:=List.mem_iff_getElem.1 hin
  have h1:=Tt (D5 n) hnd hm n.devices.length q_ r hr q_
  rw[he]at h1
  have h2:=Ahg n (Vr n) r hr
  rw[he,hp.countP_eq]at h2
  rw[D0,Lb,List.getElem?_map,List.getElem?_range hi]
  simp only[Int.toNat_natCast]at h1
  rw[h1]
  simp only[Option.map_some]
  congr 2
  rw[← h2,T4,List.countP_map]
  rfl
 ·rw[List.getElem?_eq_none,List.getElem?_eq_none]
  ·simp[Lb];omega
  ·rw[D0,Hc];omega
theorem G_vw {C:Cx} {k:List KI} {s:SS} (d:Nat) (x:SV) (h:Vw s [] (s.σ d) x) (hg:G C k ⟨upd s.σ d x,s.h⟩):G C k s:=fun κ a w hs =>
 hg κ a w ⟨hs.defers,hs.size,hs.inv,hs.ctx,fun i=>by
  show Rd κ w (upd s.σ d x i) _
  by_cases hi:i=d
  ·subst hi;rw[Bi];exact Vw.rd hs.inv (fun _ hn=>by cases hn) h (hs.slot i)
  ·rw[B6 _ _ hi];exact hs.slot i,hs.obj⟩
end Go.Sy.YtcflgpijohhfbaaGreat
namespace Go.Sy.YtcflgpijohhfbaaGreat
open Go.Proofs
attribute [local irreducible] Go.Sy.G Go.Sy.DR
set_option maxRecDepth 20000
set_option maxHeartbeats 4000000
def Kn (p:Port):Bool:=decide (p.cost<1) || decide (p.cost>65535)
theorem costs1 (p:Port):Sy.Spec Tryz.prog 212 [Au p] [] (Ab (Kn p)) []:=cT F212 Tryz.ntmps212 fun F hF=>by
 conv=>whnf
 (repeat' (first | (refine⟨fun h=>?_,fun h=>?_⟩<;>(repeat (first | simp only[decide_eq_true_eq]at h | simp only[decide_eq_false_iff_not]at h))<;>((refine oO ?_))) | (refine Ap rfl (.cons .tmp .nil) ?_ rfl)))
 all_goals (refine congrArg Ab ?_;clear hF;grind [Kn])
theorem S5 (l:List Port) (p:Port→Bool) (f:FuncId) (first cap:List SV) (hc:(SV.clo (.func f) first cap).inn []=true) (hf:∀ x∈l,Ek Tryz.prog f (first++[Au x]++cap) (Ab (p x))) (hl:Ak l) :
  Sy.Spec Tryz.prog 211 [.sl 7 Au l,.clo (.func f) first cap] [] (Ab (l.any p)) []:=cT F211 Tryz.ntmps211 fun F hF=>by
 have h0:By [] [.sl 7 Au l,.clo (.func f) first cap]=true:=by simp only[By,hc];rfl
 conv=>whnf
 refine Kl (Mq l p f first cap hc hf hl) F270 E E (by simp only[h0];rfl) E E ?_
 refine oO ?_
 exact Ap E (.cons .tmp .nil) (congrArg Ab (J3 _ _).symm) E
def Dg (n:Net):Bool:=!(n.ports.any Kn)
theorem Ase (n:Net) (hl:Ak n.ports):Sy.Spec Tryz.prog 151 [Aj n] [] (Ab (Dg n)) []:=cT F151 Tryz.ntmps151 fun F hF=>by
 conv=>whnf
 refine c0 (S5 n.ports Kn 212 [] [] E (fun x _=>⟨⟨_,_,F212⟩,costs1 x⟩) hl) F211 ?_
 refine oO ?_
 exact dN
end Go.Sy.YtcflgpijohhfbaaGreat
namespace Go.Sy.YtcflgpijohhfbaaGreat
open Go.Proofs
attribute [local irreducible] Go.Sy.G Go.Sy.DR
set_option maxRecDepth 100000
set_option maxHeartbeats 4000000
theorem Ba {α:Type} {l:List α} {i:Nat} {d:α} (h:i<l.length):l.getD i d=l[i]:=by simp[List.getD,h]
theorem Lw {n:Net} (h:Ac n=true) {i:Nat} (hi:i<n.ports.length):I7 n i n.ports[i]=true:=by
 simp only[Ac,Bool.and_eq_true]at h
 exact allB_iff.1 h.1.1.1.1.1.2 i hi
theorem Yl {n:Net} (h:Ac n=true) {i:Nat} (hi:i<n.links.length):Og n i n.links[i]=true:=by
 simp only[Ac,Bool.and_eq_true]at h
 exact allB_iff.1 h.1.1.1.1.2 i hi
theorem Ee {n:Net} (h:Ac n=true):n.devices.length≤8∧n.ports.length≤40∧n.links.length≤20:=by
 simp only[Ac,Aj7,Bool.and_eq_true,decide_eq_true_eq]at h
 omega
theorem Qb {n:Net} (h:Ac n=true) {i:Nat} (hi:i<n.ports.length):n.ports[i].link=-1∨(0≤n.ports[i].link∧n.ports[i].link<n.links.length):=by
 have:=Lw h hi
 simp only[I7,Ai,Bool.and_eq_true,Bool.or_eq_true,beq_iff_eq,decide_eq_true_eq]at this
 rcases this.2 with h1 | h1
 ·exact .inl h1
 ·exact .inr h1.1
theorem M8 {n:Net} (h:Ac n=true) {i:Nat} (hi:i<n.ports.length):0≤n.ports[i].dev∧n.ports[i].dev<n.devices.length:=by
 have:=Lw h hi
 simp only[I7,Ai,Bool.and_eq_true,decide_eq_true_eq]at this
 exact this.1.1.1.1.1.1.1.1
theorem Lf {n:Net} (h:Ac n=true) {i:Nat} (hi:i<n.links.length):(0≤n.links[i].a∧n.links[i].a<n.ports.length)∧0≤n.links[i].b∧n.links[i].b<n.ports.length:=by
 have:=Yl h hi
 simp only[Og,Ai,Bool.and_eq_true,decide_eq_true_eq]at this
 exact⟨this.1.1.1.1,this.1.1.1.2⟩
def Eo (n:Net) (i:Nat):Int:=(nth n.ports i).dev
def T0 (n:Net) (i:Nat):Int:=(nth n.ports i).cost
theorem Af4 {n:Net} (hcost:Dg n=true) {i:Nat} (hi:i<n.ports.length):1≤T0 n i∧T0 n i≤65535:=by
 rw[T0,Ae (l:=n.ports) (i:=(i:Int)) (by simpa using hi)]
 simp only[Dg,Bool.not_eq_true',List.any_eq_false]at hcost
 have:=hcost _ (List.getElem_mem hi)
 simp only[Kn,Bool.or_eq_true,decide_eq_true_eq,not_or]at this
 simp only[Int.toNat_natCast]
 omega
def Ar8 (d:Domain):SV:=.agg [Aa d.dev,Aa d.vlan,Aa d.vni,Aa d.irb,Aa d.row,.val (.slice none 0 0)]
theorem Aot {M:Nat→Prop} {w:World} (p:Domain) (hp:p.peers=[]) {v:Value} (h:RdD M w (Ar8 p) v):RdD M w (An p) v:=by
 simp only[Ar8,An,RdD,RdDL,hp]at h ⊢
 obtain ⟨cs,h1,h2,v0,r0,h3,h4,v1,r1,h5,h6,v2,r2,h7,h8,v3,r3,h9,h10,v4,r4,h11,h12,v5,r5,h13,h14,h15⟩:=h
 exact⟨cs,h1,h2,v0,r0,h3,h4,v1,r1,h5,h6,v2,r2,h7,h8,v3,r3,h9,h10,v4,r4,h11,h12,v5,r5,h13,.inl ⟨Y,none,0,h14⟩,h15⟩
def Auk (c:UInt8):Int:=if 48≤c.toNat∧c.toNat≤57 then (c.toNat:Int)-48 else if 97≤c.toNat∧c.toNat≤102 then (c.toNat:Int)-87 else 16
end Go.Sy.YtcflgpijohhfbaaGreat
namespace Go.Sy
open Go.RowKit
def OwnT {β:Type} (B:Nat) (T:Nat→Prop) (I:β→World→Prop):Prop :=
 ∀ s W W' row,I s W→W.grownBy W' row→(∀ r,row=some r→T r∨(B≤r∧∃ o:Obj,W.heap[r]? = some o∧o.isCells=false))→I s W'
theorem OwnT.alloc {β:Type} {B:Nat} {T:Nat→Prop} {I:β→World→Prop} (h:OwnT B T I) {s:β} {W:World} (o:Obj) (hs:I s W):I s (W.alloc o) :=
 h s W _ none hs ⟨rfl,rfl,rfl,by simp,fun k hk _=>Below.heap_alloc _ _ _ hk⟩ (fun r e=>by cases e)
variable {F:Fence} {n:Nat} {P:Program}
end Go.Sy
namespace Go.Proofs
open Go.RowKit Go.Shelf Go.Sy Go.Sy.YtcflgpijohhfbaaGreat
attribute [local go_sem] Oper.semAt_some
structure SeqBox (W:World) (bp bs bv:Nat) (t:ByteArray):Prop where
 p:W.cell? ⟨bp,0,none⟩=some (.string ⟨#[46]⟩)
 s:W.cell? ⟨bs,0,none⟩=some (.string t)
 v:W.cell? ⟨bv,0,none⟩=some (.int .i64 0)
 f:W.frozen? ⟨bs,0,none⟩=false
def SameAt (bp bs bv:Nat) (W W':World):Prop:=W'.heap[bp]? = W.heap[bp]? ∧ W'.heap[bs]? = W.heap[bs]? ∧ W'.heap[bv]? = W.heap[bv]?
theorem SeqBox.keep {W W':World} {bp bs bv:Nat} {t:ByteArray} (h:SeqBox W bp bs bv t) (k:SameAt bp bs bv W W'):SeqBox W' bp bs bv t :=
 ⟨(World.cell?_of_block k.1).trans h.p,(World.cell?_of_block k.2.1).trans h.s,(World.cell?_of_block k.2.2).trans h.v,by
  have:W'.frozen? ⟨bs,0,none⟩=W.frozen? ⟨bs,0,none⟩:=by unfold World.frozen?;rw[k.2.1]
  rw[this];exact h.f⟩
end Go.Proofs
namespace Go.Sy
open Go.ChangeShapes Go.WideShapes Go.ChangeAt Go.RowKit
def κ0:Ka:=⟨fun _=>.new,fun _=>False⟩
theorem inv0 (w:World):Inv κ0 w :=
 ⟨fun i j b h=>(by cases h),fun k b h=>(by cases h),fun k b h=>(by cases h),fun b h=>False.elim h⟩
theorem Aej {w w':World} {κ':Ka} (c:Ctx ⟨w,κ0,[]⟩ κ' w'):Below w.heap.size w w' :=
 ⟨c.os,c.tape,c.output,c.size,fun k hk=>c.old k hk (fun j h=>by cases h)⟩
section
variable {H:Type} {enc:TypeId × Value→H} {P:Program}
theorem Qu {W W':World} (hl:laidOutB P=true) (hb:Below W.heap.size W W'):∀ {ts:List TypeId} {vs:List Value} {ds:List (DataW H)} {ps:List MemPlace},(∀ t∈ts,P.readableRec t=true∧t<P.types.size) →
  (∀ x∈ps,x.block<W.heap.size)→DataW.TrodAll enc P W 0 (fun _=>true) true ts vs ds ps→DataW.TrodAll enc P W' 0 (fun b=>decide (b<W.heap.size)) true ts vs ds ps
 | [],_,_,_,_,_,h=>by
  obtain ⟨rfl,rfl,rfl⟩:=trodAll_nil h
  rfl
 | t::ts,_,_,_,ht,hp,h=>by
  obtain ⟨v,vs,d,ds,p,q,rfl,rfl,rfl,h1,h2⟩:=trodAll_cons h
  have:=ht t y_
  exact⟨p,q,Below.trod hl this.1 this.2 h1 hb (fun x hx=>hp x (by simp[hx])),Qu hl hb (fun t h=>ht t (by simp[h])) (fun x hx=>hp x (by simp[hx])) h2,E⟩
theorem Aob {f:FuncId} {fn:Func} {s:ChangeSpec} {W:World} {args:Array Value} {ds gs:List (DataW H)} {before:List MemPlace} {tb:TypeId} {A:List SV} (hv:s.vars=[]) (hl:laidOutB P=true)
  (hW:DataW.Whole enc P fn.params.toList s.vars false W args.toList ds gs before) (hts:∀ t∈fn.params.toList,P.readableRec t=true∧t<P.types.size) (hrt:fn.resultTypes=#[tb]) (hbt:P.underlying tb=some .bool)
  (hfn:∀ gs:List (DataW H),gs=[]→s.fn H (ds++gs)={ results:=[.lit (.bool true)],args:=ds }) (hA:RdL κ0 W A args.toList) (hs:Sy.Spec P f A [] (Ab true) []) :
  Calls P f args W fun e W'=>∃ v,e=.returned v∧s.post enc P fn false true false false W args v W':=by
 have hc:=hs κ0 W args.toList (inv0 W) (fun k hk=>absurd rfl hk) hA (fun p hp=>by cases hp)
 simp only[Array.toArray_toList]at hc
 refine hc.mono ?_
 rintro e W' ⟨v,κ',rfl,ctx,inv,hR,_⟩
 have hvv:v=.bool true:=by simpa [Ab,Rd] using hR
 subst hvv
 have hb:=Aej ctx
 have hW':=hW
 obtain ⟨p,q,h1,h2,h3,h4,h5⟩:=hW
 have hgs:gs=[]∧q=[]:=by
  rw[hv]at h2
  exact trodVars_none h2
 obtain ⟨rfl,rfl⟩:=hgs
 rw[List.append_nil]at h3
 subst h3
 have hlt:∀ x∈before,x.block<W.heap.size:=fun x hx=>by simpa using hW'.lt x hx
 refine⟨_,rfl,ds,[],before,[],before,[],hW',?_,?_,?_,?_,fun h=>by cases h⟩
 ·rw[hfn [] rfl,hrt]
  exact trodAll_mk1 (shut_bool hbt true)
 ·rw[hfn [] rfl]
  exact Qu hl hb hts hlt h1
 ·rw[hv,hfn [] rfl]
  rfl
 ·exact hb.frame _
end
end Go.Sy
namespace Go.Sy
open Go.RowKit
theorem Z9 {A B:World} {row:Option Nat} {k:Nat} {v:Value} (h:A.cell? ⟨k,0,none⟩=some v) (hg:A.grownBy B row) (hr:row≠some k):B.cell? ⟨k,0,none⟩=some v∧B.frozen? ⟨k,0,none⟩=A.frozen? ⟨k,0,none⟩:=by
 obtain ⟨o,ho,_⟩:=cells_of_cell h
 obtain ⟨_,_,_,_,h5⟩:=hg
 have e:B.heap[k]? = A.heap[k]?:=h5 k (Array.getElem?_eq_some_iff.1 ho).1 (fun e=>hr e.symm)
 refine⟨(World.cell?_of_block e).trans h,?_⟩
 unfold World.frozen?
 rw[e]
def Var1 (W:World) (k:Nat) (v:Value):Prop:=W.cell? ⟨k,0,none⟩=some v∧W.frozen? ⟨k,0,none⟩=false
theorem Var1.at {W:World} {B:Nat} {v:Value} {t:TypeId} (h:W.heap[B]? = some (.cells #[v] t (0,0))):Var1 W B v:=by
 constructor<;>simp[World.cell?,World.frozen?,h]
theorem Var1.new (W:World) (v:Value) (t:TypeId) {k:Nat} (hk:k=W.heap.size):Var1 (W.alloc (.cells #[v] t)) k v:=by
 subst hk
 exact Var1.at (World.alloc_heap_new W _)
theorem Var1.grown {A B:World} {row:Option Nat} {k:Nat} {v:Value} (h:Var1 A k v) (hg:A.grownBy B row) (hr:row≠some k):Var1 B k v :=
 ⟨(Z9 h.1 hg hr).1,(Z9 h.1 hg hr).2.trans h.2⟩
theorem Var1.alloc {A:World} {k:Nat} {v:Value} (h:Var1 A k v) (o:Obj):Var1 (A.alloc o) k v:=h.grown (World.grownBy_alloc A o none) y_
theorem Var1.set {A:World} {k:Nat} {v:Value} (h:Var1 A k v) (u:Value):Var1 (A.setCell ⟨k,0,none⟩ u) k u :=
 ⟨World.cell?_setCell_same' _ _ _ (by rw[h.1];rfl),by rw[World.frozen?_setCell];exact h.2⟩
theorem Var1.other {A:World} {k b:Nat} {v:Value} (h:Var1 A k v) (hb:b≠k) (u:Value):Var1 (A.setCell ⟨b,0,none⟩ u) k v :=
 ⟨(World.cell?_setCell_other _ _ _ _ (by intro e;cases e;exact hb rfl)).trans h.1,by rw[World.frozen?_setCell];exact h.2⟩
end Go.Sy
namespace Go.Proofs
open Go.RowKit Go.Shelf Go.Sy Go.Sy.YtcflgpijohhfbaaGreat
attribute [local go_sem] Oper.semAt_some
def addrV:List ByteArray→Int
 | []=>0
 | l=>l.foldl (fun a x=>bits .or .u32 (IntKind.u32.wrap (a * 2 ^ 8)) (IntKind.u32.wrap (Ac4 x 255).1)) 0
def octB (x:ByteArray):Bool:=(Ac4 x 255).2
def Abr (s:ByteArray):Int × Bool:=if (Ac2 46 s).length=4∧(Ac2 46 s).all octB=true then (addrV (Ac2 46 s),true) else (0,false)
end Go.Proofs
namespace Go.Sy.YtcflgpijohhfbaaGreat
open Go.Proofs
end Go.Sy.YtcflgpijohhfbaaGreat
namespace Go.Sy.YtcflgpijohhfbaaGreat
open Go.Proofs
attribute [local irreducible] Go.Sy.G Go.Sy.DR
set_option maxRecDepth 100000
set_option maxHeartbeats 4000000
theorem Ap7 (i:Int) (h0:0≤i) (h5:i≤5):Sy.Spec Tryz.prog 117 [Aa i] [] (A9 (8 * (5-i))) []:=cT F117 Tryz.ntmps117 fun F hF=>by
 conv=>whnf
 refine iW ?_
 refine iW ?_
 refine Ap E (.cons .tmp .nil) (congrArg (fun z=>SV.val (.int .u64 z)) ?_) E
 rw[IntKind.wrap_u64]
 omega
def be:Nat→Nat→List UInt8
 | 0,_=>[]
 | k+1,m=>UInt8.ofNat (m / 256 ^ k)::be k m
theorem Dl (m:Nat):∀ k,(be k m).length=k
 | 0=>rfl
 | k+1=>by simp[be,Dl m k]
theorem Aek (m:Nat):∀ (k j:Nat) (_h:j<k),(be k m).take (j+1)=(be k m).take j++[UInt8.ofNat (m / 256 ^ (k-1-j))]
 | 0,j,h=>by omega
 | k+1,0,h=>by simp[be]
 | k+1,j+1,h=>by
  have:=Aek m k j q_
  simp only[be,List.take_succ_cons,List.cons_append,this]
  rw[show k+1-1-(j+1)=k-1-j by omega]
theorem Afe (m k:Nat) (hk:k≤7):IntKind.u8.wrap ((m:Int).fdiv (2 ^ (min (8 * (k:Int)).toNat IntKind.u64.bits)))=((UInt8.ofNat (m / 256 ^ k)).toNat:Int):=by
 have h1:min (8 * (k:Int)).toNat IntKind.u64.bits=8 * k:=by simp[IntKind.bits];omega
 rw[h1,Int.fdiv_eq_ediv_of_nonneg _ (by exact Int.pow_nonneg j_),IntKind.wrap_u8]
 have h2:(2:Int) ^ (8 * k)=((256 ^ k:Nat):Int):=by rw[Int.pow_mul];simp
 rw[h2]
 simp
theorem put2 (l:List UInt8) (hl:l.length<1000000) (m:Nat):Sy.Spec Tryz.prog 72 [.osl 0,A9 m] [(0,.row 1 Al l)] (.osl 1) [(0,.non),(1,.row 1 Al (l++be 6 m))]:=cT F72 Tryz.ntmps72 fun F hF=>by
 conv=>whnf
 refine Akx 0 1 [0] E E j_ (by simp;rfl) ?_
 refine A3 6 (fun j=>[(0,.osl 1),(1,A9 m),(6,Aa j)]) (fun j=>[(0,.non),(1,.row 1 Al (l++(be 6 m).take j))]) [(0,0),(1,1)] ⟨⟨E,E,E,E,E,E,Y⟩,⟨.inl E,E,.inl (congrArg (Ob.row 1 Al) (List.append_nil l)),E,Y⟩,E,E⟩ ?_
 intro j hj
 refine oO ?_
 refine⟨fun h=>?_,fun h=>?_⟩
 ·have hlt:j<6:=qA h
  refine oO ?_
  refine c0 (Ap7 j q_ q_) F117 ?_
  refine oO ?_
  refine⟨by omega,?_⟩
  conv=>whnf
  refine Af (Ag Γ.toTy 16 E E E E E (.row E) (.lit (l:=[UInt8.ofNat (m / 256 ^ (5-j))]) E ?_) y_ ?_ ?_) E E ?_
  ·have:=Afe m (5-j) q_
   rw[show ((5-j:Nat):Int)=5-(j:Int) by omega]at this
   simp only[List.map_cons,List.map_nil,Al,← this]
  ·simp[Dl];omega
  ·simp[Dl];omega
  refine oO ?_
  refine iW ?_
  exact Av [(0,0),(1,16)] hlt ⟨⟨E,E,E,E,E,E,Y⟩,⟨.inl E,E,.inl (congrArg (Ob.row 1 Al) (by rw[Aek _ _ _ hlt,List.append_assoc])),E,Y⟩,E,E⟩
 ·have:j=6:=qB h
  subst this
  refine oO ?_
  exact done E (.cons .tmp .nil) [(0,0),(1,1)] _ (fun _ h=>h) E E ⟨Y,⟨.inl E,E,.inl E,E,Y⟩,E,E⟩
theorem put2n (m:Nat):Sy.Spec Tryz.prog 72 [.val (.slice none 0 0),A9 m] [] (.osl 0) [(0,.row 1 Al (be 6 m))]:=cT F72 Tryz.ntmps72 fun F hF=>by
 conv=>whnf
 refine Cc 0 1000 1 Al E E ?_
 refine A3 6 (fun j=>[(0,.osl 1000),(1,A9 m),(6,Aa j)]) (fun j=>[(1000,.row 1 Al ((be 6 m).take j))]) [] ⟨⟨E,E,E,E,E,E,Y⟩,⟨.inl E,E,Y⟩,E,E⟩ ?_
 intro j hj
 refine oO ?_
 refine⟨fun h=>?_,fun h=>?_⟩
 ·have hlt:j<6:=qA h
  refine oO ?_
  refine c0 (Ap7 j q_ q_) F117 ?_
  refine oO ?_
  refine⟨by omega,?_⟩
  conv=>whnf
  refine Af (Ag Γ.toTy 16 E E E E E (.row E) (.lit (l:=[UInt8.ofNat (m / 256 ^ (5-j))]) E ?_) y_ ?_ ?_) E E ?_
  ·have:=Afe m (5-j) q_
   rw[show ((5-j:Nat):Int)=5-(j:Int) by omega]at this
   simp only[List.map_cons,List.map_nil,Al,← this]
  ·simp[Dl];omega
  ·simp[Dl];omega
  refine oO ?_
  refine iW ?_
  exact Av [(1000,16)] hlt ⟨⟨E,E,E,E,E,E,Y⟩,⟨.inl (congrArg (Ob.row 1 Al) (Aek _ _ _ hlt)),E,Y⟩,E,E⟩
 ·have:j=6:=qB h
  subst this
  refine oO ?_
  exact done E (.cons .tmp .nil) [(0,1000)] _ (fun _ h=>h) E E ⟨Y,⟨.inl E,E,Y⟩,E,E⟩
def Arz (d s:Nat) (t:Int) (body:List UInt8):SV:=.agg [A9 d,A9 s,Aa t,.sl 1 Al body]
def frame (d s t:Nat) (body:List UInt8):List UInt8:=be 6 d++be 6 s++[UInt8.ofNat (t / 256),UInt8.ofNat t]++body
theorem Ex (t:Nat):[UInt8.ofNat (t / 256),UInt8.ofNat t].map Al=[SV.val (.int .u8 (IntKind.u8.wrap ((t:Int).fdiv (2 ^ (min (Int.toNat 8) IntKind.i64.bits))))),SV.val (.int .u8 (IntKind.u8.wrap (t:Int)))]:=by
 have h1:IntKind.u8.wrap ((t:Int).fdiv (2 ^ (min (Int.toNat 8) IntKind.i64.bits)))=((UInt8.ofNat (t / 256)).toNat:Int):=by
  show IntKind.u8.wrap ((t:Int).fdiv 256)=_
  rw[Int.fdiv_eq_ediv_of_nonneg _ j_,IntKind.wrap_u8]
  simp
 have h2:IntKind.u8.wrap (t:Int)=((UInt8.ofNat t).toNat:Int):=by
  rw[IntKind.wrap_u8]
  simp
 rw[h1,h2]
 rfl
theorem Ag7 (d s t:Nat) (body:List UInt8) (hd:d<281474976710656) (hs:s<281474976710656) (ht:t≤65535) (hb:body.length≤1504):Sy.Spec Tryz.prog 28 [Arz d s t body] [] (.tup [.osl 0,Aa 0]) [(0,.row 1 Al (frame d s t body))]:=cT F28 Tryz.ntmps28 fun F hF=>by
 conv=>whnf
 refine⟨fun h=>absurd (of_decide_eq_true h) q_,fun _=>?_⟩
 refine oO ?_
 refine⟨fun h=>absurd (of_decide_eq_true h) q_,fun _=>?_⟩
 refine oF ?_
 refine⟨fun h=>absurd (of_decide_eq_true h) q_,fun _=>?_⟩
 refine oO ?_
 refine⟨fun h=>absurd (of_decide_eq_true h) q_,fun _=>?_⟩
 refine oO ?_
 refine Bm (Ad [(0,31)] E F72 (put2n d) E Y E ⟨.inr E,Y⟩) z_ E ?_
 refine oD ?_
 refine Bm (Ad [(0,31),(1,34)] E F72 (put2 (be 6 d) (by simp[Dl]) s) E ⟨E,Y⟩ E ⟨.inl E,.inr E,Y⟩) z_ E ?_
 refine oD ?_
 refine kW ?_
 refine⟨by decide,?_⟩
 conv=>whnf
 refine Bm (Ag Γ.toTy 44 E E E E E (.row E) (.lit (l:=[UInt8.ofNat (t / 256),UInt8.ofNat t]) E (Ex t)) j_ ?_ ?_) z_ E ?_
 ·simp[Dl]
 ·simp[Dl]
 refine oD ?_
 refine Bm (Ag Γ.toTy 47 E E E E E (.row E) .sl j_ ?_ ?_) z_ E ?_
 ·simp[Dl];omega
 ·simp[Dl];omega
 refine oD ?_
 refine kW ?_
 exact done E (.cons .tmp (.cons .tmp .nil)) [(0,47)] _ (fun _ h=>h) E E ⟨Y,⟨.inl E,E,Y⟩,E,E⟩
end Go.Sy.YtcflgpijohhfbaaGreat
namespace Go.Sy.YtcflgpijohhfbaaGreat
structure FrameM where
 dst:Nat
 src:Nat
 typ:Nat
 body:List UInt8
def Ce (f:FrameM):SV:=Arz f.dst f.src f.typ f.body
structure StepM where
 kind:Int
 port:Int
 domain:Int
 at_:Int
 bytes:List UInt8
 up:List Bool
def Eh (x:StepM):SV:=.agg [Aa x.kind,Aa x.port,Aa x.domain,Aa x.at_,.sl 1 Al x.bytes,.sl 1 Ab x.up]
structure SeenM where
 port:Int
 origin:Int
 bytes:List UInt8
def D6 (x:SeenM):SV:=.agg [Aa x.port,Aa x.origin,.sl 1 Al x.bytes]
def Iv (ip:Int):Nat:=2199023255552+ip.toNat
def E6 (a bits:Int):Int:=if 0≤bits∧bits≤32 then a-a % 2 ^ (32-bits).toNat else 0
def Ia (n:Nat):Nat:=if n=0 then 0 else (n-1) % 65535+1
end Go.Sy.YtcflgpijohhfbaaGreat
namespace Go.Sy.YtcflgpijohhfbaaGreat
open Go.Proofs
attribute [local irreducible] Go.Sy.G Go.Sy.DR
set_option maxRecDepth 100000
set_option maxHeartbeats 4000000
def Lc (a bits:Int):SV:=.agg [A4 a,Aa bits]
theorem Aai (a bits:Int):Sy.Spec Tryz.prog 206 [Lc a bits] [] (Ab (decide (0≤bits∧bits≤32))) []:=cT F206 Tryz.ntmps206 fun F hF=>by
 conv=>whnf
 (repeat' (first | (refine⟨fun h=>?_,fun h=>?_⟩<;>(repeat (first | simp only[decide_eq_true_eq]at h | simp only[decide_eq_false_iff_not]at h))<;>((refine oO ?_))) | (refine Ap rfl (.cons .tmp .nil) ?_ rfl)))
 all_goals (refine congrArg Ab ?_;clear hF;grind)
theorem Acs (a bits:Int) (h:0≤bits∧bits≤32):Sy.Spec Tryz.prog 207 [Lc a bits] [] (A4 (2 ^ (32-bits).toNat-1)) []:=cT F207 Tryz.ntmps207 fun F hF=>by
 conv=>whnf
 refine iW ?_
 refine⟨by omega,?_⟩
 conv=>whnf
 refine Ap E (.cons .tmp .nil) ?_ E
 refine congrArg (fun z=>SV.val (.int .u32 z)) ?_
 obtain ⟨k,hk,hk2⟩:∃ k:Nat,(32-bits).toNat=k∧k≤32:=⟨_,rfl,by omega⟩
 have h1:min (32-bits).toNat IntKind.u32.bits=k:=by show min (32-bits).toNat 32=k;omega
 rw[h1,hk,IntKind.wrap_u32,IntKind.wrap_u32]
 have h2:(2:Int) ^ k≤4294967296:=by
  have:=Nat.pow_le_pow_right (n:=2) j_ hk2
  rw[show (2:Int) ^ k=((2 ^ k:Nat):Int) by rw[Int.natCast_pow];rfl]
  have e:(2:Nat) ^ 32=4294967296:=rfl
  rw[e]at this
  omega
 have h0:(1:Int)≤2 ^ k:=by
  have:=Nat.one_le_two_pow (n:=k)
  rw[show (2:Int) ^ k=((2 ^ k:Nat):Int) by rw[Int.natCast_pow];rfl]
  omega
 generalize (2:Int) ^ k=q at *
 omega
theorem Aae (a k:Nat) (ha:a<4294967296) (hk:k≤32):bits .andNot .u32 (a:Int) ((2 ^ k-1:Nat):Int)=((a-a % 2 ^ k:Nat):Int):=by
 have hp:=Nat.pow_le_pow_right (n:=2) j_ hk
 have e32:(2:Nat) ^ 32=4294967296:=rfl
 rw[e32]at hp
 have h1:=Nat.one_le_two_pow (n:=k)
 have x1:(BitVec.ofInt 32 (a:Int)).toNat=a:=by rw[BitVec.ofInt_natCast,BitVec.toNat_ofNat];exact Nat.mod_eq_of_lt q_
 have x2:(BitVec.ofInt 32 ((2 ^ k-1:Nat):Int)).toNat=2 ^ k-1:=by rw[BitVec.ofInt_natCast,BitVec.toNat_ofNat];exact Nat.mod_eq_of_lt q_
 have key:(BitVec.ofInt 32 (a:Int) &&& ~~~ BitVec.ofInt 32 ((2 ^ k-1:Nat):Int)).toNat=a-a % 2 ^ k:=by
  have hd:a-a % 2 ^ k=2 ^ k * (a / 2 ^ k):=by have:=Nat.div_add_mod a (2 ^ k);omega
  rw[hd]
  refine Nat.eq_of_testBit_eq fun i=>?_
  rw[BitVec.testBit_toNat,BitVec.getLsbD_and,BitVec.getLsbD_not,← BitVec.testBit_toNat,← BitVec.testBit_toNat,x1,x2,Nat.testBit_two_pow_sub_one,Nat.testBit_two_pow_mul,Nat.testBit_div_two_pow]
  by_cases hi:i<k
  ·have:¬ i≥k:=by omega
   simp[hi,this]
  ·have h2:i≥k:=by omega
   have h3:i-k+k=i:=by omega
   by_cases h4:i<32
   ·simp[hi,h2,h4,h3]
   ·have h5:a.testBit i=false:=Nat.testBit_lt_two_pow (Nat.lt_of_lt_of_le (by rw[← e32]at ha;exact ha) (Nat.pow_le_pow_right j_ q_))
    rw[h3,h5]
    simp
 show IntKind.u32.wrap (((BitVec.ofInt 32 (a:Int) &&& ~~~ BitVec.ofInt 32 ((2 ^ k-1:Nat):Int)).toNat:Nat):Int)=_
 rw[key,IntKind.wrap_u32]
 omega
theorem Ii (a k:Nat) (bits:Int) (h:0≤bits∧bits≤32) (hk:(32-bits).toNat=k):E6 a bits=((a-a % 2 ^ k:Nat):Int):=by
 rw[E6,if_pos h,hk]
 have h1:=Nat.mod_le a (2 ^ k)
 rw[show (2:Int) ^ k=((2 ^ k:Nat):Int) by rw[Int.natCast_pow];rfl]
 omega
theorem Aak (a:Nat) (bits:Int) (ha:a<4294967296):Sy.Spec Tryz.prog 143 [Lc a bits] [] (A4 (E6 a bits)) []:=cT F143 Tryz.ntmps143 fun F hF=>by
 have hr:=Aai a bits
 by_cases hb:0≤bits∧bits≤32
 ·have hrest:=Acs a bits hb
  rw[decide_eq_true hb]at hr
  obtain ⟨k,hk,hk2⟩:∃ k:Nat,(32-bits).toNat=k∧k≤32:=⟨_,rfl,by omega⟩
  have hn:=Aae a k ha hk2
  have hf:=Ii a k bits hb hk
  have h1:=Nat.one_le_two_pow (n:=k)
  have e2:(2:Int) ^ k-1=((2 ^ k-1:Nat):Int):=by
   rw[show (2:Int) ^ k=((2 ^ k:Nat):Int) by rw[Int.natCast_pow];rfl]
   omega
  rw[hk,e2]at hrest
  rw[hf,← hn]
  refine fW ?_
  refine c0 hr F206 ?_
  refine fU ?_
  first | refine cD hrest F207 ?_ | refine c0 hrest F207 ?_
  refine fU ?_
  first | (refine⟨z_,?_⟩;(refine fW ?_)) | skip
  exact dN
 ·rw[decide_eq_false hb]at hr
  have hf:E6 a bits=0:=by rw[E6,if_neg hb]
  rw[hf]
  refine fW ?_
  refine c0 hr F206 ?_
  refine fU ?_
  exact dN
def J1 (a bits:Int):Int:=if 0≤bits∧bits≤32 then E6 a bits+2 ^ (32-bits).toNat-1 else 0
theorem or_low (a k:Nat) (ha:a<4294967296) (hk:k≤32):bits .or .u32 (a:Int) ((2 ^ k-1:Nat):Int)=((a-a % 2 ^ k+(2 ^ k-1):Nat):Int):=by
 have hp:=Nat.pow_le_pow_right (n:=2) j_ hk
 have e32:(2:Nat) ^ 32=4294967296:=rfl
 rw[e32]at hp
 have h1:=Nat.one_le_two_pow (n:=k)
 have x1:(BitVec.ofInt 32 (a:Int)).toNat=a:=by rw[BitVec.ofInt_natCast,BitVec.toNat_ofNat];exact Nat.mod_eq_of_lt q_
 have x2:(BitVec.ofInt 32 ((2 ^ k-1:Nat):Int)).toNat=2 ^ k-1:=by rw[BitVec.ofInt_natCast,BitVec.toNat_ofNat];exact Nat.mod_eq_of_lt q_
 have hd:a-a % 2 ^ k=2 ^ k * (a / 2 ^ k):=by have:=Nat.div_add_mod a (2 ^ k);omega
 have hsum:=Nat.two_pow_add_eq_or_of_lt (i:=k) (b:=2 ^ k-1) q_ (a / 2 ^ k)
 have key:(BitVec.ofInt 32 (a:Int) ||| BitVec.ofInt 32 ((2 ^ k-1:Nat):Int)).toNat=a-a % 2 ^ k+(2 ^ k-1):=by
  rw[hd,hsum]
  refine Nat.eq_of_testBit_eq fun i=>?_
  rw[BitVec.testBit_toNat,BitVec.getLsbD_or,← BitVec.testBit_toNat,← BitVec.testBit_toNat,x1,x2,Nat.testBit_or,Nat.testBit_two_pow_sub_one,Nat.testBit_two_pow_mul,Nat.testBit_div_two_pow]
  by_cases hi:i<k
  ·simp[hi]
  ·have h2:i≥k:=by omega
   have h3:i-k+k=i:=by omega
   simp[hi,h2,h3]
 show IntKind.u32.wrap (((BitVec.ofInt 32 (a:Int) ||| BitVec.ofInt 32 ((2 ^ k-1:Nat):Int)).toNat:Nat):Int)=_
 have hlt:(BitVec.ofInt 32 (a:Int) ||| BitVec.ofInt 32 ((2 ^ k-1:Nat):Int)).toNat<4294967296:=BitVec.isLt _
 rw[key]at hlt
 rw[key,IntKind.wrap_u32]
 omega
theorem V1 (a k:Nat) (bits:Int) (h:0≤bits∧bits≤32) (hk:(32-bits).toNat=k):J1 a bits=((a-a % 2 ^ k+(2 ^ k-1):Nat):Int):=by
 rw[J1,if_pos h,hk,Ii a k bits h hk]
 have h1:=Nat.one_le_two_pow (n:=k)
 rw[show (2:Int) ^ k=((2 ^ k:Nat):Int) by rw[Int.natCast_pow];rfl]
 omega
theorem Wa (a:Nat) (bits:Int) (ha:a<4294967296):Sy.Spec Tryz.prog 144 [Lc a bits] [] (A4 (J1 a bits)) []:=cT F144 Tryz.ntmps144 fun F hF=>by
 have hr:=Aai a bits
 by_cases hb:0≤bits∧bits≤32
 ·have hrest:=Acs a bits hb
  rw[decide_eq_true hb]at hr
  obtain ⟨k,hk,hk2⟩:∃ k:Nat,(32-bits).toNat=k∧k≤32:=⟨_,rfl,by omega⟩
  have hn:=or_low a k ha hk2
  have hf:=V1 a k bits hb hk
  have h1:=Nat.one_le_two_pow (n:=k)
  have e2:(2:Int) ^ k-1=((2 ^ k-1:Nat):Int):=by
   rw[show (2:Int) ^ k=((2 ^ k:Nat):Int) by rw[Int.natCast_pow];rfl]
   omega
  rw[hk,e2]at hrest
  rw[hf,← hn]
  refine fW ?_
  refine c0 hr F206 ?_
  refine fU ?_
  first | refine cD hrest F207 ?_ | refine c0 hrest F207 ?_
  refine fU ?_
  first | (refine⟨z_,?_⟩;(refine fW ?_)) | skip
  exact dN
 ·rw[decide_eq_false hb]at hr
  have hf:J1 a bits=0:=by rw[J1,if_neg hb]
  rw[hf]
  refine fW ?_
  refine c0 hr F206 ?_
  refine fU ?_
  exact dN
theorem Asz (a b:Nat) (ha:a<4294967296) (hb:b<4294967296):bits .xor .u32 (a:Int) (b:Int)=((a ^^^ b:Nat):Int):=by
 have x1:(BitVec.ofInt 32 (a:Int)).toNat=a:=by rw[BitVec.ofInt_natCast,BitVec.toNat_ofNat];exact Nat.mod_eq_of_lt q_
 have x2:(BitVec.ofInt 32 (b:Int)).toNat=b:=by rw[BitVec.ofInt_natCast,BitVec.toNat_ofNat];exact Nat.mod_eq_of_lt q_
 show IntKind.u32.wrap (((BitVec.ofInt 32 (a:Int) ^^^ BitVec.ofInt 32 (b:Int)).toNat:Nat):Int)=_
 have hlt:(BitVec.ofInt 32 (a:Int) ^^^ BitVec.ofInt 32 (b:Int)).toNat<4294967296:=BitVec.isLt _
 rw[BitVec.toNat_xor,x1,x2]at hlt ⊢
 rw[IntKind.wrap_u32]
 omega
theorem Aq8 (a x k:Nat) (ha:a<4294967296) (hx:x<4294967296) (hk:k≤32):(bits .andNot .u32 (bits .xor .u32 (a:Int) (x:Int)) ((2 ^ k-1:Nat):Int) == 0)=decide (a / 2 ^ k=x / 2 ^ k):=by
 have hxl:a ^^^ x<4294967296:=Nat.xor_lt_two_pow (n:=32) ha hx
 rw[Asz a x ha hx,Aae _ k hxl hk]
 have hd:(a ^^^ x)-(a ^^^ x) % 2 ^ k=2 ^ k * ((a ^^^ x) / 2 ^ k):=by have:=Nat.div_add_mod (a ^^^ x) (2 ^ k);omega
 rw[hd,Nat.xor_div_two_pow]
 have h1:=Nat.one_le_two_pow (n:=k)
 by_cases h:a / 2 ^ k=x / 2 ^ k
 ·rw[h,Nat.xor_self]
  simp
 ·rw[decide_eq_false h]
  have:a / 2 ^ k ^^^ x / 2 ^ k≠0:=fun e=>h (by
   have:=congrArg (fun z=>z ^^^ x / 2 ^ k) e
   simpa [Nat.xor_assoc] using this)
  rw[beq_eq_false_iff_ne]
  intro e
  have e:=Int.natCast_eq_zero.1 e
  rcases Nat.mul_eq_zero.1 e with e | e
  ·omega
  ·exact this e
theorem Am8 (a x q:Nat) (hq:0<q):(a / q=x / q)↔(a-a % q≤x∧x≤a-a % q+(q-1)):=by
 have h1:=Nat.div_add_mod a q
 have hd:a-a % q=q * (a / q):=by omega
 rw[hd]
 constructor
 ·intro e
  have h2:=Nat.div_add_mod x q
  have h3:=Nat.mod_lt x hq
  rw[← e]at h2
  omega
 ·rintro ⟨h2,h3⟩
  symm
  rw[Nat.div_eq_iff hq]
  generalize a / q=m at *
  have:q * m=m * q:=Nat.mul_comm ..
  constructor<;>omega
def Cr (n:Net):Prop:=∀ x∈n.irbs,0≤x.addr∧x.addr<4294967296
end Go.Sy.YtcflgpijohhfbaaGreat
namespace Go.Sy.YtcflgpijohhfbaaGreat
theorem Aj0 {α:Type} {l:List α} {i:Nat} {d:α} (h:i<l.length):l.getD i d=l[i]:=by simp[List.getD,h]
theorem Ag3 {n:Nat} (h:n≤65535):Ia n=n:=by
 unfold Ia
 split<;>omega
theorem Aj2 {n:Nat} (h:65535<n):Ia (n / 65536+n % 65536)=Ia n∧n / 65536+n % 65536<n:=by
 unfold Ia
 rw[if_neg q_,if_neg q_]
 omega
theorem Ar0 (n:Nat):Ia n≤65535:=by
 unfold Ia
 split<;>omega
def S8 (l:List UInt8):Nat→Nat
 | 0=>0
 | j+1=>S8 l j+((l.getD (2 * j) 0).toNat * 256+(l.getD (2 * j+1) 0).toNat)
theorem Aky (l:List UInt8):∀ j,S8 l j≤65535 * j
 | 0=>Nat.le_refl _
 | j+1=>by
  have ih:=Aky l j
  have h1:=(l.getD (2 * j) 0).toNat_lt
  have h2:=(l.getD (2 * j+1) 0).toNat_lt
  rw[S8]
  omega
def Ak4 (l:List UInt8):Nat:=65535-Ia (S8 l (l.length / 2))
end Go.Sy.YtcflgpijohhfbaaGreat
namespace Go.Sy.YtcflgpijohhfbaaGreat
open Go.Proofs
attribute [local irreducible] Go.Sy.G Go.Sy.DR
set_option maxRecDepth 100000
set_option maxHeartbeats 4000000
theorem Ij (a b:Nat) (ha:a<9223372036854775808) (hb:b<9223372036854775808):bits .and .i64 (a:Int) (b:Int)=((a &&& b:Nat):Int):=by
 have hx:a &&& b<2 ^ 63:=Nat.lt_of_le_of_lt Nat.and_le_left ha
 have h1:(BitVec.ofInt 64 (a:Int)).toNat=a:=by
  rw[BitVec.ofInt_natCast,BitVec.toNat_ofNat];exact Nat.mod_eq_of_lt q_
 have h2:(BitVec.ofInt 64 (b:Int)).toNat=b:=by
  rw[BitVec.ofInt_natCast,BitVec.toNat_ofNat];exact Nat.mod_eq_of_lt q_
 show IntKind.i64.wrap ((BitVec.ofInt 64 (a:Int) &&& BitVec.ofInt 64 (b:Int)).toNat:Int)=_
 rw[BitVec.toNat_and,h1,h2,IntKind.wrap_i64]
 omega
theorem Dk (a b:Nat) (ha:a<9223372036854775808) (hb:b<9223372036854775808):bits .or .i64 (a:Int) (b:Int)=((a ||| b:Nat):Int):=by
 have hx:a ||| b<2 ^ 63:=Nat.or_lt_two_pow q_ q_
 have h1:(BitVec.ofInt 64 (a:Int)).toNat=a:=by
  rw[BitVec.ofInt_natCast,BitVec.toNat_ofNat];exact Nat.mod_eq_of_lt q_
 have h2:(BitVec.ofInt 64 (b:Int)).toNat=b:=by
  rw[BitVec.ofInt_natCast,BitVec.toNat_ofNat];exact Nat.mod_eq_of_lt q_
 show IntKind.i64.wrap ((BitVec.ofInt 64 (a:Int) ||| BitVec.ofInt 64 (b:Int)).toNat:Int)=_
 rw[BitVec.toNat_or,h1,h2,IntKind.wrap_i64]
 omega
theorem Ak7 (n k:Nat) (hk:k<64):(n:Int).fdiv (2 ^ (min (Int.toNat (k:Int)) IntKind.i64.bits))=((n / 2 ^ k:Nat):Int):=by
 have h1:min (Int.toNat (k:Int)) IntKind.i64.bits=k:=by simp[IntKind.bits];omega
 rw[h1,Int.fdiv_eq_ediv_of_nonneg _ (by exact Int.pow_nonneg j_)]
 simp
theorem Aup (n:Nat) (h:n<9223372036854775808):bits .and .i64 (n:Int) 65535=((n % 65536:Nat):Int):=by
 have:=Ij n 65535 h j_
 rw[show ((65535:Nat):Int)=65535 from rfl]at this
 rw[this]
 have h2:=Nat.and_two_pow_sub_one_eq_mod n 16
 rw[show 2 ^ 16-1=65535 from rfl,show 2 ^ 16=65536 from rfl]at h2
 rw[h2]
theorem Aos (n:Nat) (h:n<9223372036854775808):Sy.Spec Tryz.prog 241 [.ptr 0 0] [(0,.box [Aa n])] (.tup []) [(0,.box [Aa (n / 65536+n % 65536:Nat)])]:=cT F241 Tryz.ntmps241 fun F hF=>by
 have e1:(n:Int).fdiv (2 ^ (min (Int.toNat 16) IntKind.i64.bits))=((n / 65536:Nat):Int):=Ak7 n 16 j_
 have e2:=Aup n h
 conv=>whnf
 first | (refine⟨by omega,?_⟩;(conv=>whnf)) | skip
 rw[e1,e2]
 refine iW ?_
 exact A1 E .nil [] [(0,.box [Aa (n / 65536+n % 65536:Nat)])] (fun _ h=>h) E E ⟨Y,⟨.inl E,E,Y⟩,E,E⟩
theorem Apv (n:Nat) (h:n<9223372036854775808):Sy.Spec Tryz.prog 179 [Aa n] [] (Aa (Ia n)) []:=cT F179 Tryz.ntmps179 fun F hF=>by
 conv=>whnf
 refine O6 (α:={m:Nat // Ia m=Ia n∧m≤n}) (fun m=>[(3,.clo (.func 241) [] [.ptr 1 0]),(1,.ptr 1 0)]) (fun m=>[(1,.box [Aa m.1])]) (fun m=>m.1) ⟨n,E,Nat.le_refl _⟩ []
  ⟨⟨rfl,rfl,rfl,rfl,trivial⟩,⟨.inl rfl,rfl,trivial⟩,rfl,rfl⟩ ?_
 rintro ⟨m,h1,h2⟩
 dsimp only
 refine oO ?_
 refine⟨fun h3=>?_,fun h3=>?_⟩
 ·have hmm:65535<m:=by have:=of_decide_eq_true h3;omega
  obtain ⟨g1,g2⟩:=Aj2 hmm
  refine oO ?_
  refine Af (Bs [(0,1)] (B4 E E F241) (Aos m q_) E ⟨E,Y⟩ E ⟨.inl E,Y⟩) E E ?_
  refine oO ?_
  exact Si (α:={m:Nat // Ia m=Ia n∧m≤n}) (x:=⟨m,h1,h2⟩) ⟨m / 65536+m % 65536,by rw[g1,h1],by omega⟩ [] g2 ⟨⟨E,E,E,E,Y⟩,⟨.inl E,E,Y⟩,E,E⟩
 ·have hmm:m≤65535:=by have:=of_decide_eq_false h3;omega
  have e:Ia n=m:=by rw[← h1,Ag3 hmm]
  refine oO ?_
  refine Ap E (.cons .tmp .nil) ?_ E
  exact congrArg (fun z:Nat=>Aa z) e
theorem E1 (a b:UInt8):bits .or .i64 (IntKind.i64.wrap ((IntKind.i64.wrap (a.toNat:Int)) * 2 ^ min (Int.toNat 8) IntKind.i64.bits)) (IntKind.i64.wrap (b.toNat:Int))=((a.toNat * 256+b.toNat:Nat):Int):=by
 have h1:=a.toNat_lt
 have h2:=b.toNat_lt
 have e1:IntKind.i64.wrap (a.toNat:Int)=(a.toNat:Int):=by rw[IntKind.wrap_i64];omega
 have e2:IntKind.i64.wrap (b.toNat:Int)=(b.toNat:Int):=by rw[IntKind.wrap_i64];omega
 rw[e1,e2]
 have h3:IntKind.i64.wrap ((a.toNat:Int) * 2 ^ min (Int.toNat 8) IntKind.i64.bits)=((a.toNat * 256:Nat):Int):=by
  show IntKind.i64.wrap ((a.toNat:Int) * 256)=_
  rw[IntKind.wrap_i64]
  omega
 rw[h3,Dk _ _ q_ q_]
 congr 1
 have h:=Nat.two_pow_add_eq_or_of_lt (i:=8) (b:=b.toNat) q_ a.toNat
 rw[Nat.mul_comm a.toNat 256]
 exact h.symm
theorem Ak5 (l:List UInt8) (hl:l.length<100000) (h2:l.length % 2=0):Sy.Spec Tryz.prog 116 [.sl 1 Al l] [] (Aa (Ia (S8 l (l.length / 2)))) []:=cT F116 Tryz.ntmps116 fun F hF=>by
 conv=>whnf
 refine A3 (l.length / 2) (fun j=>[(0,.sl 1 Al l),(3,Aa (S8 l j)),(4,Aa (2 * (j:Int)))]) (fun _=>[]) [] ⟨⟨E,E,E,E,E,E,Y⟩,Y,E,E⟩ ?_
 intro j hj
 have hw:=Aky l j
 refine oO ?_
 refine iW ?_
 refine⟨fun h=>?_,fun h=>?_⟩
 ·have hlt:2 * j+1<l.length:=qA h
  have hs:S8 l (j+1)=S8 l j+((l[2 * j]'q_).toNat * 256+(l[2 * j+1]'hlt).toNat):=by
   rw[S8,Aj0 (show 2 * j<l.length by omega),Aj0 hlt]
  have e1:l[(2 * (j:Int)).toNat]'q_=l[2 * j]'q_:=by congr 1
  have e2:l[(2 * (j:Int)+1).toNat]'q_=l[2 * j+1]'hlt:=by congr 1
  have hp:=E1 (l[2 * j]'q_) (l[2 * j+1]'hlt)
  have hb1:=(l[2 * j]'q_).toNat_lt
  have hb2:=(l[2 * j+1]'hlt).toNat_lt
  rw[← e1,← e2]at hp hs
  rw[← e1]at hb1
  rw[← e2]at hb2
  refine oO ?_
  refine⟨E,by omega,by omega,?_⟩
  conv=>whnf
  refine⟨by omega,?_⟩
  conv=>whnf
  refine iW ?_
  refine⟨E,by omega,by omega,?_⟩
  conv=>whnf
  refine⟨(by rw[hp];unfold I64;omega),?_⟩
  conv=>whnf
  refine kW ?_
  refine iW ?_
  refine Av [] q_ ⟨⟨E,E,congrArg (fun z=>SV.val (.int .i64 z)) ?_,E,congrArg (fun z=>SV.val (.int .i64 z)) ?_,E,Y⟩,Y,E,E⟩
  ·rw[hp,hs];omega
  ·omega
 have hjl:j=l.length / 2:=by
  have:=of_decide_eq_false h
  omega
 have hpar:¬ bits .and .i64 (l.length:Int) 1=1:=by
  have:=Ij l.length 1 q_ j_
  rw[show ((1:Nat):Int)=1 from rfl]at this
  rw[this,Nat.and_one_is_mod,h2]
  decide
 have hd:=Apv (S8 l j) q_
 rw[hjl]at hd ⊢
 clear hjl
 refine oO ?_
 refine⟨fun h=>absurd (of_decide_eq_true h) hpar,fun _=>?_⟩
 refine oO ?_
 refine c0 hd F179 ?_
 refine oO ?_
 exact dN
theorem sumOfS (l:List UInt8) (hl:l.length<100000) (h2:l.length % 2=0):Sy.Spec Tryz.prog 71 [.sl 1 Al l] [] (Aa (Ak4 l)) []:=cT F71 Tryz.ntmps71 fun F hF=>by
 have ha:=Ak5 l hl h2
 have hle:=Ar0 (S8 l (l.length / 2))
 conv=>whnf
 refine c0 ha F116 ?_
 refine oO ?_
 refine iW ?_
 refine Ap E (.cons .tmp .nil) ?_ E
 refine congrArg Aa ?_
 rw[Ak4]
 omega
def Aqy (n:Nat):SV:=Aa n
def Jw (l:List Nat):List UInt8:=l.flatMap fun n=>[UInt8.ofNat (n / 256),UInt8.ofNat n]
theorem Aaw (l:List Nat):(Jw l).length=2 * l.length:=by
 induction l with
 | nil=>rfl
 | cons a l ih=>simp only[Jw,List.flatMap_cons,List.length_append,List.length_cons,List.length_nil]at ih ⊢;omega
theorem Af5 (l:List Nat) (n:Nat):Jw (l++[n])=Jw l++[UInt8.ofNat (n / 256),UInt8.ofNat n]:=by simp[Jw]
theorem Ac5 (a b:Int) (h:0≤a∧a≤b):Sy.Spec Tryz.prog 69 [Aa a,Aa b] [] (Ab true) []:=cT F69 Tryz.ntmps69 fun F hF=>by
 conv=>whnf
 refine⟨fun _=>?_,fun h2=>absurd (of_decide_eq_false h2) q_⟩
 refine oO ?_
 refine Ap E (.cons .tmp .nil) ?_ E
 exact congrArg Ab (decide_eq_true h.2).symm
theorem Arh (l:List Nat) (hl:l.length<100000):Sy.Spec Tryz.prog 70 [.val (.slice none 0 0),.sl 1 Aqy l] [] (.osl 0) [(0,.row 1 Al (Jw l))]:=cT F70 Tryz.ntmps70 fun F hF=>by
 conv=>whnf
 refine Cc 0 1000 1 Al E E ?_
 refine A3 l.length (fun j=>[(0,.osl 1000),(7,.sl 1 Aqy l),(8,Aa l.length),(9,Aa j)]) (fun j=>[(1000,.row 1 Al (Jw (l.take j)))]) [] ⟨⟨E,E,E,E,E,E,E,E,Y⟩,⟨.inl E,E,Y⟩,E,E⟩ ?_
 intro j hj
 have hpl:=Aaw (l.take j)
 refine oO ?_
 refine⟨fun h=>?_,fun h=>?_⟩
 ·have hlt:j<l.length:=by simpa using h
  have e1:l[(j:Int).toNat]'q_=l[j]:=rfl
  have hsucc:Jw (l.take (j+1))=Jw (l.take j)++[UInt8.ofNat (l[j] / 256),UInt8.ofNat l[j]]:=by
   rw[List.take_succ_eq_append_getElem hlt,Af5]
  obtain ⟨n,hn⟩:∃ n,l[j]=n:=⟨_,rfl⟩
  rw[hn]at e1 hsucc
  have htb:=Ex n
  refine oO ?_
  refine⟨E,by omega,by omega,?_⟩
  rw[e1]
  conv=>whnf
  refine⟨by omega,?_⟩
  conv=>whnf
  refine Af (Ag Γ.toTy 20 E E E E E (.row E) (.lit (e:=Al) (l:=[UInt8.ofNat (n / 256),UInt8.ofNat n]) E htb) y_ (by simp[hpl];omega) (by simp[hpl];omega)) E E ?_
  refine oO ?_
  refine iW ?_
  exact Av [(1000,20)] hlt ⟨⟨E,E,E,E,E,E,E,E,Y⟩,⟨.inl (congrArg (Ob.row 1 Al) hsucc),E,Y⟩,E,E⟩
 ·have hjl:j=l.length:=by
   have:¬ j<l.length:=by simpa using h
   omega
  subst hjl
  rw[List.take_length]
  refine oO ?_
  exact done E (.cons .tmp .nil) [(0,1000)] [(0,.row 1 Al (Jw l))] (fun _ h=>h) E E ⟨Y,⟨.inl E,E,Y⟩,E,E⟩
theorem u8_of (n:Nat):IntKind.u8.wrap (n:Int)=((UInt8.ofNat n).toNat:Int):=by
 rw[IntKind.wrap_u8]
 simp
theorem X0 {x:Int} (h0:0≤x) (h1:x<18446744073709551616):IntKind.u64.wrap x=x:=by rw[IntKind.wrap_u64];omega
theorem Ab9 (ip:Nat) (h:ip<4294967296):Sy.Spec Tryz.prog 27 [A4 ip] [] (A9 (Iv ip)) []:=cT F27 Tryz.ntmps27 fun F hF=>by
 conv=>whnf
 refine Ap E (.cons .tmp .nil) ?_ E
 refine congrArg (fun z=>SV.val (.int .u64 z)) ?_
 have e:IntKind.u64.wrap (ip:Int)=ip:=X0 q_ q_
 rw[e]
 have hb:=bits_or_u64_nat 2199023255552 ip j_ q_
 rw[show ((2199023255552:Nat):Int)=2199023255552 from rfl]at hb
 rw[hb,Iv,Int.toNat_natCast]
 have h2:=Nat.two_pow_add_eq_or_of_lt (i:=32) (b:=ip) q_ 512
 rw[show 2 ^ 32 * 512=2199023255552 from rfl]at h2
 rw[← h2]
theorem tagIsS (d s:Nat) (t:Int) (body:List UInt8) (ht:t≠33024):Sy.Spec Tryz.prog 115 [Arz d s t body] [] (Ab false) []:=cT F115 Tryz.ntmps115 fun F hF=>by
 conv=>whnf
 refine Ap E (.cons .tmp .nil) ?_ E
 exact congrArg Ab (beq_eq_false_iff_ne.2 ht).symm
theorem Atn (v:Nat) (hv:v<9223372036854775808):bits .or .i64 (IntKind.i64.wrap (0 * 2 ^ min (Int.toNat 12) IntKind.i64.bits)) (v:Int)=v:=by
 have h:=Dk 0 v j_ hv
 rw[Nat.zero_or]at h
 exact h
theorem Atd (d s t v:Nat) (body:List UInt8) (ht:t≠33024) (ht2:t≤65535) (hv:v≤4094) (hb:body.length≤1500) :
  Sy.Spec Tryz.prog 68 [Arz d s t body,Aa v,Aa 0] [] (.tup [Arz d s 33024 ([UInt8.ofNat (v / 256),UInt8.ofNat v,UInt8.ofNat (t / 256),UInt8.ofNat t]++body),Aa 0]) []:=cT F68 Tryz.ntmps68 fun F hF=>by
 have hor:=Atn v q_
 have tb1:=Ex v
 have tb2:=Ex t
 conv=>whnf
 refine c0 (tagIsS d s t body q_) F115 ?_
 (refine oF ?_;refine bF ?_)
 refine⟨fun h=>absurd (of_decide_eq_true h) q_,fun _=>?_⟩
 (refine oF ?_;refine bF ?_;refine bF ?_)
 refine⟨fun h=>absurd (of_decide_eq_true h) q_,fun _=>?_⟩
 refine oO ?_
 refine⟨fun h=>absurd (of_decide_eq_true h) q_,fun _=>?_⟩
 refine oO ?_
 refine⟨by omega,?_⟩
 conv=>whnf
 rw[hor]
 refine⟨by omega,?_⟩
 conv=>whnf
 refine⟨by omega,?_⟩
 conv=>whnf
 refine Bm (Ag Γ.toTy 70 E E E E E (.lit (e:=Al) (l:=[UInt8.ofNat (v / 256),UInt8.ofNat v,UInt8.ofNat (t / 256),UInt8.ofNat t]) E ?_) .sl y_ (by simp;omega) (by simp;omega)) z_ E ?_
 ·have h1:=List.cons.inj tb1
  have h2:=List.cons.inj tb2
  have h3:=List.cons.inj h1.2
  have h4:=List.cons.inj h2.2
  simp only[List.map_cons,List.map_nil]
  rw[h1.1,h3.1,h2.1,h4.1]
 refine oD ?_
 refine kW ?_
 refine Ah 70 E ?_
 exact dN
end Go.Sy.YtcflgpijohhfbaaGreat
namespace Go.Sy.YtcflgpijohhfbaaGreat
open Go.Proofs
def I9 (l:List UInt8):Nat:=l.foldl (fun n c=>n * 256+c.toNat) 0
theorem Abj (l:List UInt8) (c:UInt8):I9 (l++[c])=I9 l * 256+c.toNat:=by
 rw[I9,List.foldl_append];rfl
theorem Lq:∀ (k:Nat) (l:List UInt8),l.length=k→I9 l<256 ^ k
 | 0,l,h=>by rw[List.length_eq_zero_iff.1 h];decide
 | k+1,l,h=>by
  have hne:l≠[]:=fun e=>by rw[e]at h;cases h
  have e:=List.dropLast_concat_getLast hne
  have h1:=Lq k l.dropLast (by rw[List.length_dropLast];omega)
  have h2:=(l.getLast hne).toNat_lt
  rw[← e,Abj,Nat.pow_succ]
  omega
theorem Aml (l:List UInt8) {j:Nat} (h:j<l.length):I9 (l.take (j+1))=I9 (l.take j) * 256+l[j].toNat:=by
 rw[List.take_succ_eq_append_getElem h,Abj]
theorem Ata (m:Nat) (c:UInt8) (h:m<1099511627776) :
  bits .or .u64 (IntKind.u64.wrap ((m:Int) * 2 ^ min (Int.toNat 8) IntKind.u64.bits)) (IntKind.u64.wrap (c.toNat:Int))=((m * 256+c.toNat:Nat):Int):=by
 have hc:=c.toNat_lt
 have e1:IntKind.u64.wrap ((m:Int) * 2 ^ min (Int.toNat 8) IntKind.u64.bits)=((m * 256:Nat):Int):=by
  show IntKind.u64.wrap ((m:Int) * 256)=_
  rw[IntKind.wrap_u64];omega
 have e2:IntKind.u64.wrap (c.toNat:Int)=(c.toNat:Int):=by rw[IntKind.wrap_u64];omega
 rw[e1,e2,bits_or_u64_nat _ _ q_ q_]
 congr 1
 have h:=Nat.two_pow_add_eq_or_of_lt (i:=8) (b:=c.toNat) q_ m
 rw[Nat.mul_comm m 256]
 exact h.symm
def Hh (m:Nat):Bool:=decide (m / 1099511627776 % 2=1)
theorem Auq (m k:Nat):m &&& 2 ^ k=if m / 2 ^ k % 2=1 then 2 ^ k else 0:=by
 apply Nat.eq_of_testBit_eq
 intro i
 rw[Nat.testBit_and,Nat.testBit_two_pow]
 by_cases hi:k=i
 ·subst hi
  rw[decide_eq_true rfl,Bool.and_true,Nat.testBit_eq_decide_div_mod_eq]
  split
  ·rename_i h;rw[decide_eq_true h,Nat.testBit_two_pow_self]
  ·rename_i h;rw[decide_eq_false h,Nat.zero_testBit]
 ·rw[decide_eq_false hi,Bool.and_false]
  split
  ·rw[Nat.testBit_two_pow,decide_eq_false hi]
  ·rw[Nat.zero_testBit]
theorem Acd (m:Nat) (h:m<18446744073709551616):(bits .and .u64 (m:Int) 1099511627776 != 0)=Hh m:=by
 have e:=bits_and_u64_nat m 1099511627776 h j_
 rw[show ((1099511627776:Nat):Int)=1099511627776 from rfl]at e
 rw[e,show (1099511627776:Nat)=2 ^ 40 from rfl,Auq,Hh,show (1099511627776:Nat)=2 ^ 40 from rfl]
 split
 ·rename_i h;rw[decide_eq_true h];rfl
 ·rename_i h;rw[decide_eq_false h];rfl
end Go.Sy.YtcflgpijohhfbaaGreat
namespace Go.Sy.YtcflgpijohhfbaaGreat
open Go.Proofs
attribute [local irreducible] Go.Sy.G Go.Sy.DR
set_option maxRecDepth 20000
set_option maxHeartbeats 4000000
theorem e_link {n:Net} (h:Ac n=true) {i:Nat} (hi:i<n.links.length):(0≤n.links[i].a∧n.links[i].a.toNat<n.ports.length)∧(0≤n.links[i].b∧n.links[i].b.toNat<n.ports.length):=by
 simp only[Ac,Bool.and_eq_true]at h
 have:=allB_iff.1 h.1.1.1.1.2 i hi
 simp only[Og,Ai,Bool.and_eq_true,decide_eq_true_eq]at this
 omega
theorem D7 {n:Net} {i:Int} (h:0≤B3 n i):(0≤i∧i.toNat<n.ports.length)∧Ac n=true∧(B3 n i).toNat<n.ports.length:=by
 unfold B3 at h ⊢
 split at h
 ·rename_i hc
  rw[if_pos hc]
  have hk:i.toNat<n.ports.length:=by omega
  have e1:nth n.ports i=n.ports[i.toNat]:=Ae hk
  rw[e1]at hc h ⊢
  have hq:=Ew hc.2.2 hk hc.2.1
  have e2:nth n.links n.ports[i.toNat].link=n.links[n.ports[i.toNat].link.toNat]:=Ae hq.1
  have hl:=e_link hc.2.2 hq.1
  rw[e2]at h ⊢
  refine⟨by omega,hc.2.2,?_⟩
  split
  ·exact hl.2.2
  ·exact hl.1.2
 ·omega
def Dd (n:Net) (i v:Int):Int:=if v=(nth n.ports i).native then (nth n.ports (B3 n i)).native else if inB (nth n.ports (B3 n i)).tagged v=true then v else 0
def crossT (n:Net) (i v:Int):Int × Int × Bool :=
 if 0≤B3 n i∧Ci (nth n.ports i) v=true∧Dd n i v≠0 then (B3 n i,Dd n i v,true) else (0,0,false)
theorem Agj (n:Net) (hn:n.Fin) (i v:Int):Sy.Spec Tryz.prog 142 [Aj n,Aa i,Aa v] [] (.tup [Aa (crossT n i v).1,Aa (crossT n i v).2.1,Ab (crossT n i v).2.2]) []:=cT F142 Tryz.ntmps142 fun F hF=>by
 have q:=Ub n hn i
 have hth:=D7 (n:=n) (i:=i)
 have hc:=crossT.eq_1 n i v
 unfold Dd at hc
 generalize crossT n i v=r at *
 obtain ⟨far,hfar⟩:∃ far,B3 n i=far:=⟨_,rfl⟩
 rw[hfar]at q hth hc
 refine fW ?_
 refine c0 q F205 ?_
 refine fU ?_
 refine⟨fun h=>?_,fun h=>?_⟩
 ·have h1:far<0:=of_decide_eq_true h
  rw[if_neg q_]at hc
  subst hc
  refine fU ?_
  exact dN
 have h1:0≤far:=qB h
 obtain ⟨⟨hi0,hk⟩,hb,hfk⟩:=hth h1
 have e1:nth n.ports i=n.ports[i.toNat]:=Ae hk
 have e2:nth n.ports far=n.ports[far.toNat]:=Ae hfk
 rw[e1,e2]at hc
 have ht1:=hn.tagged _ (List.getElem_mem hk)
 have ht2:=hn.tagged _ (List.getElem_mem hfk)
 obtain ⟨p,hp⟩:∃ p,n.ports[i.toNat]=p:=⟨_,rfl⟩
 obtain ⟨o,ho⟩:∃ o,n.ports[far.toNat]=o:=⟨_,rfl⟩
 rw[hp]at hc ht1
 rw[ho]at hc ht2
 have hms:=T8 p v ht1
 have hcs:=C0 o.tagged v ht2
 refine Aw 3 8 (Aj n) E E E ?_
 refine fU ?_
 refine⟨E,hi0,hk,?_⟩
 rw[hp]
 refine fW ?_
 refine c0 hms F53 ?_
 cases hm2:Ci p v
 ·rw[if_neg (by simp[hm2])]at hc
  subst hc
  refine fU ?_
  exact dN
 refine fU ?_
 refine⟨E,h1,hfk,?_⟩
 rw[ho]
 refine fW ?_
 refine⟨E,hi0,hk,?_⟩
 rw[hp]
 refine fW ?_
 refine⟨fun h=>?_,fun h=>?_⟩
 ·have h2:v=p.native:=by simpa using h
  rw[if_pos h2]at hc
  refine fU ?_
  refine⟨fun h=>?_,fun h=>?_⟩
  ·have h3:o.native=0:=by simpa using h
   rw[if_neg (fun hh=>hh.2.2 h3)]at hc
   subst hc
   refine fU ?_
   exact dN
  ·have h3:o.native≠0:=by simpa using h
   rw[if_pos ⟨h1,hm2,h3⟩]at hc
   subst hc
   refine fU ?_
   exact dN
 have h2:¬ v=p.native:=by simpa using h
 rw[if_neg h2]at hc
 refine fU ?_
 refine c0 hcs F14 ?_
 cases hin:inB o.tagged v
 ·rw[hin,if_neg y_]at hc
  subst hc
  refine fU ?_
  exact dN
 rw[hin,if_pos rfl]at hc
 refine fU ?_
 refine⟨fun h=>?_,fun h=>?_⟩
 ·have h3:v=0:=by simpa using h
  rw[if_neg (fun hh=>hh.2.2 h3)]at hc
  subst hc
  refine fU ?_
  exact dN
 ·have h3:v≠0:=by simpa using h
  rw[if_pos ⟨h1,hm2,h3⟩]at hc
  subst hc
  refine fU ?_
  exact dN
def linkDomT (n:Net) (i v:Int):Int × Bool:=if (crossT n i v).2.2=true then (B1 n (nth n.ports (crossT n i v).1).dev (crossT n i v).2.1,true) else (0,false)
theorem Uz {n:Net} {i v:Int} (h:(crossT n i v).2.2=true):0≤(crossT n i v).1∧(crossT n i v).1.toNat<n.ports.length:=by
 unfold crossT at h ⊢
 split at h
 ·rename_i hc
  rw[if_pos hc]
  exact⟨hc.1,(D7 hc.1).2.2⟩
 ·cases h
theorem Uc (n:Net) (hn:n.Fin) (i v:Int):Sy.Spec Tryz.prog 90 [Aj n,Aa i,Aa v] [] (.tup [Aa (linkDomT n i v).1,Ab (linkDomT n i v).2]) []:=cT F90 Tryz.ntmps90 fun F hF=>by
 have q:=Agj n hn i v
 have hth:=Uz (n:=n) (i:=i) (v:=v)
 have hc:=linkDomT.eq_1 n i v
 generalize linkDomT n i v=r at *
 generalize crossT n i v=x at *
 obtain ⟨far,to,ok⟩:=x
 refine fW ?_
 refine c0 q F142 ?_
 cases ok
 ·rw[if_neg y_]at hc
  subst hc
  refine fU ?_
  exact dN
 rw[if_pos rfl]at hc
 have hf:=hth rfl
 dsimp only at hf hc
 have e2:nth n.ports far=n.ports[far.toNat]:=Ae hf.2
 rw[e2]at hc
 obtain ⟨o,ho⟩:∃ o,n.ports[far.toNat]'hf.2=o:=⟨_,rfl⟩
 rw[ho]at hc
 have q2:=Hx n hn o.dev to
 subst hc
 refine Aw 3 8 (Aj n) E E E ?_
 refine fU ?_
 refine⟨E,hf.1,hf.2,?_⟩
 rw[ho]
 refine fW ?_
 refine cD q2 F49 ?_
 refine fU ?_
 refine⟨z_,?_⟩
 refine fW ?_
 exact dN
theorem J2 (l:List Int) (p:Int→Bool) (f:FuncId) (first cap:List SV) (hc:(SV.clo (.func f) first cap).inn []=true) (hf:∀ x∈l,Ek Tryz.prog f (first++[Aa x]++cap) (Ab (p x))) (hl:Ak l) :
  Sy.Spec Tryz.prog 295 [.sl 1 Aa l,.clo (.func f) first cap] [] (Aa (B9 p l)) []:=cT F295 Tryz.ntmps295 fun F hF=>by
 unfold Ak at hl
 have hin:∀ x:Int,By [] (first++[Aa x]++cap)=true:=fun x=>Cj hc rfl
 conv=>whnf
 refine Be l.length (fun j=>Hk (fun _ x=>!(p x)) l j) (fun j=>[(0,.sl 1 Aa l),(1,.clo (.func f) first cap),(7,Aa l.length),(8,Aa j)]) (fun _=>[]) [] (Bk _ _) ⟨⟨E,E,A5 _,hc,E,E,E,E,Y⟩,Y,E,E⟩ ?_
 intro j hj hI
 refine oO ?_
 refine⟨fun h=>?_,fun h=>?_⟩
 ·have h:=of_decide_eq_true h
  have hj2:j<l.length:=by omega
  refine oO ?_
  refine⟨E,by omega,by omega,?_⟩
  conv=>whnf
  refine Dq (hf l[j] (List.getElem_mem hj2)) E E E (by simp only[hin];rfl) E E ?_
  refine oO ?_
  refine⟨fun h2=>?_,fun h2=>?_⟩
  ·refine oO ?_
   refine Ap E (.cons .tmp .nil) (congrArg Aa ?_) E
   exact Cm hj2 (fun i hi hij=>by simpa using hI i hi hij) h2
  ·refine oO ?_
   refine iW ?_
   exact Bb [] hI hj2 (Bf hI hj2 (by simp[h2])) ⟨⟨E,E,A5 _,hc,E,E,E,E,Y⟩,Y,E,E⟩
 ·have h:=of_decide_eq_false h
  refine oO ?_
  refine Ap E (.cons .tmp .nil) (congrArg Aa ?_) E
  exact Cy (fun i hi=>by simpa using hI i hi q_)
theorem U1 (l:List Int) (p:Int→Bool) (f:FuncId) (first cap:List SV) (hc:(SV.clo (.func f) first cap).inn []=true) (hf:∀ x∈l,Ek Tryz.prog f (first++[Aa x]++cap) (Ab (p x))) (hl:Ak l) :
  Sy.Spec Tryz.prog 321 [.sl 1 Aa l,.clo (.func f) first cap] [] (Ab (decide (0≤B9 p l))) []:=cT F321 Tryz.ntmps321 fun F hF=>by
 have h0:By [] [.sl 1 Aa l,.clo (.func f) first cap]=true:=by simp only[By,hc];rfl
 conv=>whnf
 refine Kl (J2 l p f first cap hc hf hl) F295 E E (by simp only[h0];rfl) E E ?_
 refine oO ?_
 exact dN
theorem Zf (l:List Irb) (p:Irb→Bool) (f:FuncId) (first cap:List SV) (hc:(SV.clo (.func f) first cap).inn []=true) (hf:∀ x∈l,Ek Tryz.prog f (first++[Br x]++cap) (Ab (p x))) (hl:Ak l) :
  Sy.Spec Tryz.prog 209 [.sl 5 Br l,.clo (.func f) first cap] [] (Aa (B9 p l)) []:=cT F209 Tryz.ntmps209 fun F hF=>by
 unfold Ak at hl
 have hin:∀ x:Irb,By [] (first++[Br x]++cap)=true:=fun x=>Cj hc rfl
 refine fW ?_
 refine Be l.length (fun j=>Hk (fun _ x=>!(p x)) l j) (fun j=>[(0,.sl 5 Br l),(1,.clo (.func f) first cap),(7,Aa l.length),(8,Aa j)]) (fun _=>[]) [] (Bk _ _) ⟨⟨E,E,A5 _,hc,E,E,E,E,Y⟩,Y,E,E⟩ ?_
 intro j hj hI
 refine fU ?_
 refine⟨fun h=>?_,fun h=>?_⟩
 ·have h:=of_decide_eq_true h
  have hj2:j<l.length:=by omega
  refine fU ?_
  refine⟨E,by omega,by omega,?_⟩
  refine fW ?_
  refine Dq (hf l[j] (List.getElem_mem hj2)) E E E (by simp only[hin];rfl) E E ?_
  refine fU ?_
  refine⟨fun h2=>?_,fun h2=>?_⟩
  ·refine fU ?_
   refine Ap E (.cons .tmp .nil) (congrArg Aa ?_) E
   exact Cm hj2 (fun i hi hij=>by simpa using hI i hi hij) h2
  ·refine fU ?_
   refine iL ?_
   refine fW ?_
   exact Bb [] hI hj2 (Bf hI hj2 (by simp[h2])) ⟨⟨E,E,A5 _,hc,E,E,E,E,Y⟩,Y,E,E⟩
 ·have h:=of_decide_eq_false h
  refine fU ?_
  refine Ap E (.cons .tmp .nil) (congrArg Aa ?_) E
  exact Cy (fun i hi=>by simpa using hI i hi q_)
theorem H7 (l:List Irb) (p:Irb→Bool) (f:FuncId) (first cap:List SV) (hc:(SV.clo (.func f) first cap).inn []=true) (hf:∀ x∈l,Ek Tryz.prog f (first++[Br x]++cap) (Ab (p x))) (hl:Ak l) :
  Sy.Spec Tryz.prog 146 [.sl 5 Br l,.clo (.func f) first cap] [] (Ab (decide (0≤B9 p l))) []:=cT F146 Tryz.ntmps146 fun F hF=>by
 have h0:By [] [.sl 5 Br l,.clo (.func f) first cap]=true:=by simp only[By,hc];rfl
 refine fW ?_
 refine Kl (Zf l p f first cap hc hf hl) F209 E E (by simp only[h0];rfl) E E ?_
 refine fU ?_
 exact dN
theorem As2 (v:Vrf) (hv:Ak v.imports) (t:Int):Sy.Spec Tryz.prog 320 [Aa t,.ref 5 (Bv v) 0] [] (Ab (inB v.imports t)) []:=cT F320 Tryz.ntmps320 fun F hF=>by
 have q:=C0 v.imports t hv
 conv=>whnf
 refine c0 q F14 ?_
 refine oO ?_
 exact dN
def Ajn (n:Net) (i k:Int):Bool:=i == k || (nth n.vrfs i).dev == (nth n.vrfs k).dev && decide (0≤B9 (inB (nth n.vrfs k).imports) (nth n.vrfs i).exports)
theorem Ah4 (n:Net) (hn:n.Fin) (hb:Ac n=true) (i k:Int) (hi:0≤i∧i.toNat<n.vrfs.length) (hk:0≤k∧k.toNat<n.vrfs.length) :
  Sy.Spec Tryz.prog 313 [Aj n,Aa i,Aa k] [] (Ab (Ajn n i k)) []:=cT F313 Tryz.ntmps313 fun F hF=>by
 have hr:=At n hn
 rw[hb]at hr
 have him:=hn.imports _ (List.getElem_mem hk.2)
 have hex:=hn.exports _ (List.getElem_mem hi.2)
 rw[Ajn,Ae hi.2,Ae hk.2]
 obtain ⟨a,ha⟩:∃ a,n.vrfs[i.toNat]'hi.2=a:=⟨_,rfl⟩
 obtain ⟨b,hbb⟩:∃ b,n.vrfs[k.toNat]'hk.2=b:=⟨_,rfl⟩
 rw[ha]at hex ⊢
 rw[hbb]at him ⊢
 have q:=U1 a.exports (inB b.imports) 320 [] [.ref 5 (Bv b) 0] rfl (fun t _=>⟨⟨_,_,F320⟩,As2 b him t⟩) hex
 conv=>whnf
 refine⟨fun h=>absurd (of_decide_eq_true h) q_,fun _=>?_⟩
 refine oO ?_
 refine⟨fun h=>absurd (of_decide_eq_true h) q_,fun _=>?_⟩
 refine oO ?_
 refine⟨fun h=>absurd (of_decide_eq_true h) q_,fun _=>?_⟩
 refine oO ?_
 refine⟨fun h=>absurd (of_decide_eq_true h) q_,fun _=>?_⟩
 refine oO ?_
 refine c0 hr F12 ?_
 refine oF ?_
 refine⟨E,hi.1,hi.2,?_⟩
 rw[ha]
 conv=>whnf
 refine⟨E,hk.1,hk.2,?_⟩
 rw[hbb]
 conv=>whnf
 refine kW ?_
 refine⟨fun h=>?_,fun h=>?_⟩
 ·rw[h,Bool.true_or]
  refine oO ?_
  exact dN
 rw[h,Bool.false_or]
 refine oO ?_
 refine⟨fun h=>?_,fun h=>?_⟩
 ·rw[h,Bool.true_and]
  refine Aw 8 5 (Bv b) E E E ?_
  refine oO ?_
  refine c0 q F321 ?_
  refine oO ?_
  exact dN
 ·rw[h,Bool.false_and]
  refine oO ?_
  exact dN
def Ky (n:Net) (i:Int):Int:=(nth n.domains (nth n.irbs i).domain).dev
theorem Au8 {n:Net} (h:Ac n=true) {i:Nat} (hi:i<n.irbs.length):Ajq n i n.irbs[i]=true:=by
 simp only[Ac,Bool.and_eq_true]at h
 exact allB_iff.1 h.2 i hi
theorem Dp {n:Net} (h:Ac n=true) {i:Nat} (hi:i<n.irbs.length) :
  (0≤n.irbs[i].domain∧n.irbs[i].domain.toNat<n.domains.length)∧(0≤n.irbs[i].vrf∧n.irbs[i].vrf.toNat<n.vrfs.length)∧(0≤n.irbs[i].bits∧n.irbs[i].bits≤32):=by
 have:=Au8 h hi
 simp only[Ajq,Ai,Bool.and_eq_true,decide_eq_true_eq]at this
 omega
theorem Jb (n:Net) (hb:Ac n=true) (i:Int) (hi:0≤i∧i.toNat<n.irbs.length):Sy.Spec Tryz.prog 265 [Aj n,Aa i] [] (Aa (Ky n i)) []:=cT F265 Tryz.ntmps265 fun F hF=>by
 have hf:=(Dp hb hi.2).1
 rw[Ky,Ae hi.2]
 obtain ⟨x,hx⟩:∃ x,n.irbs[i.toNat]'hi.2=x:=⟨_,rfl⟩
 rw[hx]at hf ⊢
 rw[Ae hf.2]
 obtain ⟨d,hd⟩:∃ d,n.domains[x.domain.toNat]'hf.2=d:=⟨_,rfl⟩
 rw[hd]
 conv=>whnf
 refine⟨E,hi.1,hi.2,?_⟩
 rw[hx]
 conv=>whnf
 refine⟨E,hf.1,hf.2,?_⟩
 rw[hd]
 conv=>whnf
 refine kW ?_
 exact dN
def Alb (n:Net) (i k:Int):Bool:=Ky n i == Ky n k && Ajn n (nth n.irbs k).vrf (nth n.irbs i).vrf
theorem Air (n:Net) (hn:n.Fin) (hb:Ac n=true) (i k:Int) (hi:0≤i∧i.toNat<n.irbs.length) (hk:0≤k∧k.toNat<n.irbs.length) :
  Sy.Spec Tryz.prog 266 [Aj n,Aa i,Aa k] [] (Ab (Alb n i k)) []:=cT F266 Tryz.ntmps266 fun F hF=>by
 have q1:=Jb n hb i hi
 have q2:=Jb n hb k hk
 have f1:=(Dp hb hi.2).2.1
 have f2:=(Dp hb hk.2).2.1
 have q3:=Ah4 n hn hb _ _ f2 f1
 rw[Alb,Ae hi.2,Ae hk.2]
 obtain ⟨x,hx⟩:∃ x,n.irbs[i.toNat]'hi.2=x:=⟨_,rfl⟩
 obtain ⟨y,hy⟩:∃ y,n.irbs[k.toNat]'hk.2=y:=⟨_,rfl⟩
 rw[hx,hy]at q3
 rw[hx,hy]
 generalize Ky n i=di at *
 generalize Ky n k=dk at *
 conv=>whnf
 refine cD q1 F265 ?_
 refine oD ?_
 refine cD q2 F265 ?_
 refine oD ?_
 refine⟨fun h=>?_,fun h=>?_⟩
 ·rw[h,Bool.true_and]
  refine oD ?_
  refine⟨E,hk.1,hk.2,?_⟩
  rw[hy]
  conv=>whnf
  refine⟨E,hi.1,hi.2,?_⟩
  rw[hx]
  conv=>whnf
  refine cD q3 F313 ?_
  refine oD ?_
  refine kW ?_
  exact dN
 ·rw[h,Bool.false_and]
  refine oD ?_
  refine kW ?_
  exact dN
abbrev Ali (a b:Int):SV:=.agg [A4 a,Aa b]
theorem Anl (a b:Int) (h:0≤b∧b≤32):Sy.Spec Tryz.prog 206 [Ali a b] [] (Ab true) []:=cT F206 Tryz.ntmps206 fun F hF=>by
 conv=>whnf
 refine⟨fun _=>?_,fun h2=>absurd (of_decide_eq_false h2) q_⟩
 refine oO ?_
 refine Ap E (.cons .tmp .nil) (congrArg Ab ?_) E
 simp;omega
def Afp (b:Int):Int:=IntKind.u32.wrap (IntKind.u32.wrap (1 * 2 ^ (min (32-b).toNat IntKind.u32.bits))-1)
theorem Aql (a b:Int) (h:0≤b∧b≤32):Sy.Spec Tryz.prog 207 [Ali a b] [] (A4 (Afp b)) []:=cT F207 Tryz.ntmps207 fun F hF=>by
 conv=>whnf
 refine iW ?_
 refine⟨by omega,?_⟩
 conv=>whnf
 exact dN
def Ag1 (a b x:Int):Bool:=bits .andNot .u32 (bits .xor .u32 a x) (Afp b) == 0
theorem Aaj (a b x:Int) (h:0≤b∧b≤32):Sy.Spec Tryz.prog 264 [Ali a b,A4 x] [] (Ab (Ag1 a b x)) []:=cT F264 Tryz.ntmps264 fun F hF=>by
 have q1:=Anl a b h
 have q2:=Aql a b h
 rw[Ag1]
 generalize Afp b=r at *
 conv=>whnf
 refine cD q1 F206 ?_
 (refine oD ?_;refine aT ?_;refine oD ?_)
 refine cD q2 F207 ?_
 refine oD ?_
 refine kW ?_
 exact dN
def Y4 (c:Int→Int→Int) (l:List Int) (j:Nat):Int:=((l.drop 1).take j).foldl (fun m x=>if 0<c x m then x else m) (nth l 0)
theorem Aby (c:Int→Int→Int) (l:List Int) (j:Nat) (h:j+1<l.length):Y4 c l (j+1)=if 0<c l[j+1] (Y4 c l j) then l[j+1] else Y4 c l j:=by
 have hl:j<(l.drop 1).length:=by rw[List.length_drop];omega
 rw[Y4,List.take_succ_eq_append_getElem hl,List.foldl_append]
 have e:(l.drop 1)[j]=l[j+1]:=by rw[List.getElem_drop];congr 1;omega
 simp only[List.foldl_cons,List.foldl_nil,e]
 rfl
theorem T9 (c:Int→Int→Int) (l:List Int) (h:0<l.length):∀ j,j+1≤l.length→Y4 c l j∈l
 | 0,_=>by
  rw[Y4,List.take_zero,List.foldl_nil,Ae (l:=l) (i:=0) (by simpa using h)]
  exact List.getElem_mem _
 | j+1,hj=>by
  rw[Aby c l j q_]
  split
  ·exact List.getElem_mem _
  ·exact T9 c l h j q_
theorem Aq7 (l:List Int) (c:Int→Int→Int) (f:FuncId) (first cap:List SV) (hc:(SV.clo (.func f) first cap).inn []=true) (h0:0<l.length) (hl:Ak l)
  (hf:∀ x∈l,∀ y∈l,Ek Tryz.prog f (first++[Aa x,Aa y]++cap) (Aa (c x y))) :
  Sy.Spec Tryz.prog 268 [.sl 1 Aa l,.clo (.func f) first cap] [] (Aa (Y4 c l (l.length-1))) []:=cT F268 Tryz.ntmps268 fun F hF=>by
 unfold Ak at hl
 have hin:∀ x y:Int,By [] (first++[Aa x,Aa y]++cap)=true:=fun x y=>Cj hc rfl
 have hmem:=T9 c l h0
 have hsucc:=Aby c l
 have hz:Y4 c l 0=l[0]:=by rw[Y4,List.take_zero,List.foldl_nil,Ae (l:=l) (i:=0) (by simpa using h0)];rfl
 generalize Y4 c l=m at *
 conv=>whnf
 refine⟨fun h=>absurd (of_decide_eq_true h) q_,fun _=>?_⟩
 refine oO ?_
 refine⟨E,by omega,by simpa using h0,?_⟩
 conv=>whnf
 refine A3 (l.length-1) (fun j=>[(0,.sl 1 Aa l),(1,.clo (.func f) first cap),(5,Aa (m j)),(6,Aa ((j:Int)+1))]) (fun _=>[]) []
  ⟨⟨rfl,rfl,A5 _,hc,congrArg Aa hz,rfl,rfl,rfl,trivial⟩,trivial,rfl,rfl⟩ ?_
 intro j hj
 have hmj:=hmem j q_
 have hsj:=hsucc j
 refine oO ?_
 refine⟨fun h=>?_,fun h=>?_⟩
 ·have hlt:j+1<l.length:=qA h
  have hsj:=hsj hlt
  have hk:((j:Int)+1).toNat<l.length:=by omega
  have e1:l[((j:Int)+1).toNat]'hk=l[j+1]:=by congr 1
  obtain ⟨x,hx⟩:∃ x,l[j+1]=x:=⟨_,rfl⟩
  have hxm:x∈l:=hx ▸ List.getElem_mem hlt
  rw[hx]at e1 hsj
  refine oO ?_
  refine⟨E,by omega,hk,?_⟩
  rw[e1]
  conv=>whnf
  refine Dq (hf x hxm (m j) hmj) E E E (by simp only[hin];rfl) E E ?_
  refine oO ?_
  refine⟨fun h2=>?_,fun h2=>?_⟩
  ·rw[if_pos (of_decide_eq_true h2)]at hsj
   refine oO ?_
   refine⟨E,by omega,hk,?_⟩
   rw[e1]
   conv=>whnf
   refine iW ?_
   exact Av [] q_ ⟨⟨E,E,A5 _,hc,congrArg Aa hsj,E,congrArg Aa q_,E,Y⟩,Y,E,E⟩
  ·rw[if_neg (of_decide_eq_false h2)]at hsj
   refine oO ?_
   refine iW ?_
   exact Av [] q_ ⟨⟨E,E,A5 _,hc,congrArg Aa hsj,E,congrArg Aa q_,E,Y⟩,Y,E,E⟩
 ·have:j=l.length-1:=qB h
  subst this
  refine oO ?_
  exact dN
def Adk (n:Net) (irb i:Int):Int:=if (nth n.irbs i).vrf=(nth n.irbs irb).vrf then 1 else 0
abbrev InIrbs (n:Net) (i:Int):Prop:=0≤i∧i.toNat<n.irbs.length
theorem Agg (n:Net) (irb i:Int) (hi:InIrbs n i) (hk:InIrbs n irb):Sy.Spec Tryz.prog 267 [Aa i,.ref 8 (Aj n) 0,.ref 1 (Aa irb) 0] [] (Aa (Adk n irb i)) []:=cT F267 Tryz.ntmps267 fun F hF=>by
 rw[Adk,Ae hi.2,Ae hk.2]
 obtain ⟨x,hx⟩:∃ x,n.irbs[i.toNat]'hi.2=x:=⟨_,rfl⟩
 obtain ⟨y,hy⟩:∃ y,n.irbs[irb.toNat]'hk.2=y:=⟨_,rfl⟩
 rw[hx,hy]
 conv=>whnf
 refine⟨E,hi.1,hi.2,?_⟩
 rw[hx]
 conv=>whnf
 refine⟨E,hk.1,hk.2,?_⟩
 rw[hy]
 conv=>whnf
 refine kW ?_
 refine⟨fun h=>?_,fun h=>?_⟩
 ·rw[if_pos (by simpa using h)]
  refine oO ?_
  exact dN
 ·rw[if_neg (by simpa using h)]
  refine oO ?_
  exact dN
def Aow (n:Net) (irb a b:Int):Int:=if (nth n.irbs a).bits≠(nth n.irbs b).bits then (nth n.irbs a).bits-(nth n.irbs b).bits else Adk n irb a-Adk n irb b
theorem Alk (n:Net) (irb i:Int):0≤Adk n irb i∧Adk n irb i≤1:=by
 unfold Adk;split<;>omega
theorem Aq9 (n:Net) (hb:Ac n=true) (irb a b:Int) (hk:InIrbs n irb) (ha:InIrbs n a) (hb2:InIrbs n b) :
  Sy.Spec Tryz.prog 269 [Aa a,Aa b,.ref 8 (Aj n) 0,.ref 1 (.clo (.func 267) [] [.ref 8 (Aj n) 0,.ref 1 (Aa irb) 0]) 0] [] (Aa (Aow n irb a b)) []:=cT F269 Tryz.ntmps269 fun F hF=>by
 have fa:=(Dp hb ha.2).2.2
 have fb:=(Dp hb hb2.2).2.2
 have q1:=Agg n irb a ha hk
 have q2:=Agg n irb b hb2 hk
 have l1:=Alk n irb a
 have l2:=Alk n irb b
 rw[Aow,Ae ha.2,Ae hb2.2]
 obtain ⟨x,hx⟩:∃ x,n.irbs[a.toNat]'ha.2=x:=⟨_,rfl⟩
 obtain ⟨y,hy⟩:∃ y,n.irbs[b.toNat]'hb2.2=y:=⟨_,rfl⟩
 rw[hx]at fa ⊢
 rw[hy]at fb ⊢
 generalize Adk n irb a=oa at *
 generalize Adk n irb b=ob at *
 conv=>whnf
 refine⟨E,ha.1,ha.2,?_⟩
 rw[hx]
 conv=>whnf
 refine⟨E,hb2.1,hb2.2,?_⟩
 rw[hy]
 conv=>whnf
 refine kW ?_
 refine⟨fun h=>?_,fun h=>?_⟩
 ·rw[if_pos (by simpa using h)]
  refine oO ?_
  refine iW ?_
  exact dN
 ·rw[if_neg (by simpa using h)]
  refine oO ?_
  refine Akm ⟨⟨_,_,F267⟩,q1⟩ E E E E z_ E ?_
  refine oD ?_
  refine Akm ⟨⟨_,_,F267⟩,q2⟩ E E E E z_ E ?_
  refine oD ?_
  refine iW ?_
  refine kW ?_
  exact dN
def Vk (n:Net) (irb dst:Int) (i:Nat):Bool:=Ky n i == Ky n irb && (nth n.irbs i).addr == dst
def Vg (n:Net) (irb dst:Int) (i:Nat):Bool:=Ag1 (nth n.irbs i).addr (nth n.irbs i).bits dst && Alb n irb i
def Mm (n:Net) (irb dst:Int):List Int:=J7 (Vg n irb dst) n.irbs.length
def lookT (n:Net) (irb dst:Int):Int × Bool :=
 if (List.range n.irbs.length).any (Vk n irb dst)=true then (0,false)
 else if Mm n irb dst=[] then (0,false) else (Y4 (Aow n irb) (Mm n irb dst) ((Mm n irb dst).length-1),true)
theorem Alr (n:Net) (hn:n.Fin) (hb:Ac n=true) (irb dst:Int) (hk:InIrbs n irb):Sy.Spec Tryz.prog 208 [Aj n,Aa irb,A4 dst] [] (.tup [Aa (lookT n irb dst).1,Ab (lookT n irb dst).2]) []:=cT F208 Tryz.ntmps208 fun F hF=>by
 have hlk:=lookT.eq_1 n irb dst
 generalize lookT n irb dst=r at *
 have hsi:=hn.irbs
 unfold Ak at hsi
 have qk:=Jb n hb irb hk
 conv=>whnf
 refine Aw 3 8 (Aj n) E E E ?_
 refine Aw 4 1 (Aa irb) E E E ?_
 refine Cc 8 1000 1 Aa E E ?_
 refine Be n.irbs.length (fun j=>∀ i,i<j→Vk n irb dst i=false) (fun j=>[(2,A4 dst),(3,.ref 8 (Aj n) 0),(4,.ref 1 (Aa irb) 0),(8,.osl 1000),(13,.sl 5 Br n.irbs),(14,Aa n.irbs.length),(15,Aa j)]) (fun j=>[(1000,.row 1 Aa (J7 (Vg n irb dst) j))]) [] (fun i hi=>absurd hi q_)
  ⟨⟨rfl,rfl,rfl,rfl,rfl,rfl,rfl,rfl,rfl,rfl,rfl,rfl,rfl,rfl,trivial⟩,⟨.inl rfl,rfl,trivial⟩,rfl,rfl⟩ ?_
 intro j hj hI
 refine oO ?_
 refine⟨fun h=>?_,fun h=>?_⟩
 ·have hlt:j<n.irbs.length:=by simpa using h
  have hij:InIrbs n (j:Int):=⟨by omega,by simpa using hlt⟩
  have qj:=Jb n hb j hij
  have hsucc:=Zq (Vg n irb dst) j
  have hfl:=Ez (Vg n irb dst) j
  have hta:Vk n irb dst j=(Ky n j == Ky n irb && (nth n.irbs j).addr == dst):=rfl
  have hwa:Vg n irb dst j=(Ag1 (nth n.irbs j).addr (nth n.irbs j).bits dst && Alb n irb j):=rfl
  have enj:nth n.irbs (j:Int)=n.irbs[j]:=Ae (l:=n.irbs) (i:=(j:Int)) (by simpa using hlt)
  have hf:=(Dp hb hlt).2.2
  have e1:n.irbs[(j:Int).toNat]'q_=n.irbs[j]:=rfl
  rw[enj]at hta hwa
  obtain ⟨x,hx⟩:∃ x,n.irbs[j]=x:=⟨_,rfl⟩
  rw[hx]at e1 hta hwa hf
  have q1:=Aaj x.addr x.bits dst hf
  have q2:=Air n hn hb irb j hk hij
  rw[hwa]at hsucc
  obtain ⟨u,hu⟩:∃ u,J7 (Vg n irb dst) j=u:=⟨_,rfl⟩
  rw[hu]at hsucc hfl ⊢
  refine oO ?_
  refine⟨E,by omega,by omega,?_⟩
  rw[e1]
  conv=>whnf
  refine cD qj F265 ?_
  refine oD ?_
  refine cD qk F265 ?_
  refine oD ?_
  refine⟨fun h2=>?_,fun h2=>?_⟩
  ·rw[h2,Bool.true_and]at hta
   refine oD ?_
   refine kW ?_
   refine⟨fun h3=>?_,fun h3=>?_⟩
   ·have:(List.range n.irbs.length).any (Vk n irb dst)=true:=List.any_eq_true.2 ⟨j,by simpa using hlt,hta.trans h3⟩
    rw[if_pos this]at hlk
    subst hlk
    refine oO ?_
    exact dN
   ·have hnt:=hta.trans h3
    refine oO ?_
    refine c0 q1 F264 ?_
    refine oO ?_
    refine⟨fun h4=>?_,fun h4=>?_⟩
    ·rw[h4,Bool.true_and]at hsucc
     refine oO ?_
     refine c0 q2 F266 ?_
     refine oO ?_
     refine⟨fun h5=>?_,fun h5=>?_⟩
     ·rw[if_pos h5]at hsucc
      refine oO ?_
      refine Af (Ag Γ.toTy 47 E E E E E (.row E) (.lit (e:=Aa) (l:=[(j:Int)]) E E) y_ (by simp;omega) (by simp;omega)) E E ?_
      refine oO ?_
      refine iW ?_
      exact Bb [(1000,47)] hI hlt (fun i hi=>if e:i=j then (by rw[e];exact hnt) else hI i q_) ⟨⟨E,E,E,E,E,E,E,E,E,E,E,E,E,E,Y⟩,⟨.inl (congrArg (Ob.row 1 Aa) hsucc),E,Y⟩,E,E⟩
     ·rw[if_neg (by simp[h5])]at hsucc
      refine oO ?_
      refine iW ?_
      exact Bb [] hI hlt (fun i hi=>if e:i=j then (by rw[e];exact hnt) else hI i q_) ⟨⟨E,E,E,E,E,E,E,E,E,E,E,E,E,E,Y⟩,⟨.inl (congrArg (Ob.row 1 Aa) hsucc),E,Y⟩,E,E⟩
    ·rw[if_neg (by simp[h4])]at hsucc
     refine oF ?_
     refine iW ?_
     exact Bb [] hI hlt (fun i hi=>if e:i=j then (by rw[e];exact hnt) else hI i q_) ⟨⟨E,E,E,E,E,E,E,E,E,E,E,E,E,E,Y⟩,⟨.inl (congrArg (Ob.row 1 Aa) hsucc),E,Y⟩,E,E⟩
  ·have hnt:Vk n irb dst j=false:=by rw[hta,h2,Bool.false_and]
   refine oD ?_
   refine⟨z_,?_⟩
   ((conv=>whnf);refine aF ?_;refine rg ?_;conv=>whnf)
   refine c0 q1 F264 ?_
   refine oO ?_
   refine⟨fun h4=>?_,fun h4=>?_⟩
   ·rw[h4,Bool.true_and]at hsucc
    refine oO ?_
    refine c0 q2 F266 ?_
    refine oO ?_
    refine⟨fun h5=>?_,fun h5=>?_⟩
    ·rw[if_pos h5]at hsucc
     refine oO ?_
     refine Af (Ag Γ.toTy 47 E E E E E (.row E) (.lit (e:=Aa) (l:=[(j:Int)]) E E) y_ (by simp;omega) (by simp;omega)) E E ?_
     refine oO ?_
     refine iW ?_
     exact Bb [(1000,47)] hI hlt (fun i hi=>if e:i=j then (by rw[e];exact hnt) else hI i q_) ⟨⟨E,E,E,E,E,E,E,E,E,E,E,E,E,E,Y⟩,⟨.inl (congrArg (Ob.row 1 Aa) hsucc),E,Y⟩,E,E⟩
    ·rw[if_neg (by simp[h5])]at hsucc
     refine oO ?_
     refine iW ?_
     exact Bb [] hI hlt (fun i hi=>if e:i=j then (by rw[e];exact hnt) else hI i q_) ⟨⟨E,E,E,E,E,E,E,E,E,E,E,E,E,E,Y⟩,⟨.inl (congrArg (Ob.row 1 Aa) hsucc),E,Y⟩,E,E⟩
   ·rw[if_neg (by simp[h4])]at hsucc
    refine oF ?_
    refine iW ?_
    exact Bb [] hI hlt (fun i hi=>if e:i=j then (by rw[e];exact hnt) else hI i q_) ⟨⟨E,E,E,E,E,E,E,E,E,E,E,E,E,E,Y⟩,⟨.inl (congrArg (Ob.row 1 Aa) hsucc),E,Y⟩,E,E⟩
 ·have:j=n.irbs.length:=qB h
  subst this
  have hno:¬ (List.range n.irbs.length).any (Vk n irb dst)=true:=fun h=>by
   obtain ⟨i,h1,h2⟩:=List.any_eq_true.1 h
   rw[hI i (by simpa using h1)]at h2
   cases h2
  rw[if_neg hno]at hlk
  have hin:∀ y∈Mm n irb dst,InIrbs n y:=fun y hy=>by
   have:=(Lj (p:=Vg n irb dst) (j:=n.irbs.length)).1 hy
   exact⟨this.1,by omega⟩
  have hwl:=Ez (Vg n irb dst) n.irbs.length
  have hwe:J7 (Vg n irb dst) n.irbs.length=Mm n irb dst:=rfl
  rw[hwe]at hwl ⊢
  have q:∀ h0:0<(Mm n irb dst).length,_:=fun h0=>Aq7 (Mm n irb dst) (Aow n irb) 269 [] [.ref 8 (Aj n) 0,.ref 1 (.clo (.func 267) [] [.ref 8 (Aj n) 0,.ref 1 (Aa irb) 0]) 0] rfl h0 (by unfold Ak;omega) (fun y hy z hz=>⟨⟨_,_,F269⟩,Aq9 n hb irb y z hk (hin y hy) (hin z hz)⟩)
  generalize Mm n irb dst=l at *
  refine Ah 1000 E ?_
  refine oO ?_
  refine⟨fun h3=>?_,fun h3=>?_⟩
  ·have h4:l=[]:=by simpa using h3
   rw[if_pos h4]at hlk
   subst hlk
   refine oO ?_
   exact dN
  ·have h4:¬ l=[]:=by simpa using h3
   rw[if_neg h4]at hlk
   have q:=q (List.length_pos_iff.2 h4)
   subst hlk
   refine oO ?_
   refine Aw 11 1 (.clo (.func 267) [] [.ref 8 (Aj n) 0,.ref 1 (Aa irb) 0]) E E E ?_
   refine oO ?_
   refine c0 q F268 ?_
   refine oO ?_
   exact dN
theorem Ac9 (n:Net) (hn:n.Fin) (hb:Ac n=true) (irb dst:Int) (hk:InIrbs n irb):Sy.Spec Tryz.prog 145 [Aj n,Aa irb,A4 dst] [] (.tup [Aa (lookT n irb dst).1,Ab (lookT n irb dst).2]) []:=cT F145 Tryz.ntmps145 fun F hF=>by
 have hr:=At n hn
 rw[hb]at hr
 have q:=Alr n hn hb irb dst hk
 generalize lookT n irb dst=r at *
 refine fW ?_
 refine⟨fun h=>absurd (of_decide_eq_true h) q_,fun _=>?_⟩
 refine fU ?_
 refine⟨fun h=>absurd (of_decide_eq_true h) q_,fun _=>?_⟩
 refine fU ?_
 refine c0 hr F12 ?_
 refine fU ?_
 refine c0 q F208 ?_
 refine fU ?_
 exact dN
theorem Oe {n:Net} {irb dst:Int} (h:(lookT n irb dst).2=true):InIrbs n (lookT n irb dst).1:=by
 unfold lookT at h ⊢
 split at h
 ·cases h
 rename_i h1
 rw[if_neg h1]
 split at h
 ·cases h
 rename_i h2
 rw[if_neg h2]
 have hm:=T9 (Aow n irb) (Mm n irb dst) (List.length_pos_iff.2 h2) ((Mm n irb dst).length-1) (by have:=List.length_pos_iff.2 h2;omega)
 have:=(Lj (p:=Vg n irb dst) (j:=n.irbs.length)).1 hm
 exact⟨this.1,by omega⟩
end Go.Sy.YtcflgpijohhfbaaGreat
namespace Go.Sy.YtcflgpijohhfbaaGreat
open Go.Proofs
set_option maxRecDepth 20000
set_option maxHeartbeats 4000000
theorem Qg {x:Int} (h0:0≤x) (h1:x<4294967297):IntKind.i64.wrap x=x:=by
 rw[IntKind.wrap_i64];omega
theorem Amm {x:Int} (h0:0≤x) (h1:x<4294967296):IntKind.u32.wrap x=x:=by
 rw[IntKind.wrap_u32];omega
theorem Abq (b:Int) (h:0≤b∧b≤32):Afp b=((2 ^ (32-b).toNat-1:Nat):Int):=by
 obtain ⟨k,hk,hk2⟩:∃ k:Nat,(32-b).toNat=k∧k≤32:=⟨_,rfl,by omega⟩
 have h1:min (32-b).toNat IntKind.u32.bits=k:=by show min (32-b).toNat 32=k;omega
 have hp:=Nat.pow_le_pow_right (n:=2) j_ hk2
 have e32:(2:Nat) ^ 32=4294967296:=rfl
 rw[e32]at hp
 have h0:=Nat.one_le_two_pow (n:=k)
 rw[Afp,h1,hk,IntKind.wrap_u32,IntKind.wrap_u32,show (2:Int) ^ k=((2 ^ k:Nat):Int) by rw[Int.natCast_pow];rfl]
 generalize 2 ^ k=q at *
 omega
theorem Arq (a b x:Int) (hb:0≤b∧b≤32) (ha:0≤a∧a<4294967296) (hx:0≤x∧x<4294967296):Ag1 a b x=true↔E6 a b≤x∧x≤J1 a b:=by
 obtain ⟨a,rfl⟩:=Int.eq_ofNat_of_zero_le ha.1
 obtain ⟨x,rfl⟩:=Int.eq_ofNat_of_zero_le hx.1
 obtain ⟨k,hk,hk2⟩:∃ k:Nat,(32-b).toNat=k∧k≤32:=⟨_,rfl,by omega⟩
 have h0:=Nat.one_le_two_pow (n:=k)
 rw[Ag1,Abq b hb,hk,Aq8 a x k q_ q_ hk2,decide_eq_true_iff,Am8 a x (2 ^ k) q_,Ii a k b hb hk,V1 a k b hb hk]
 omega
theorem Ue (a b:Int) (ha:0≤a∧a<4294967296):0≤J1 a b∧J1 a b<4294967296:=by
 by_cases hb:0≤b∧b≤32
 ·obtain ⟨a,rfl⟩:=Int.eq_ofNat_of_zero_le ha.1
  obtain ⟨k,hk,hk2⟩:∃ k:Nat,(32-b).toNat=k∧k≤32:=⟨_,rfl,by omega⟩
  have h0:=Nat.one_le_two_pow (n:=k)
  rw[V1 a k b hb hk]
  have hd:a-a % 2 ^ k=2 ^ k * (a / 2 ^ k):=by have:=Nat.div_add_mod a (2 ^ k);omega
  have h32:2 ^ k * 2 ^ (32-k)=4294967296:=by
   rw[← Nat.pow_add,show k+(32-k)=32 by omega]
  have:a / 2 ^ k<2 ^ (32-k):=by rw[Nat.div_lt_iff_lt_mul q_,Nat.mul_comm,h32];omega
  have:2 ^ k * (a / 2 ^ k)+2 ^ k≤2 ^ k * 2 ^ (32-k):=by
   rw[← Nat.mul_succ];exact Nat.mul_le_mul_left _ this
  omega
 ·rw[J1,if_neg hb];omega
theorem Acj (a b:Int) (ha:0≤a∧a<4294967296):0≤E6 a b∧E6 a b<4294967296:=by
 by_cases hb:0≤b∧b≤32
 ·obtain ⟨a,rfl⟩:=Int.eq_ofNat_of_zero_le ha.1
  rw[Ii a _ b hb rfl]
  omega
 ·rw[E6,if_neg hb];omega
end Go.Sy.YtcflgpijohhfbaaGreat
namespace Go.Sy.YtcflgpijohhfbaaGreat
open Go.Proofs
attribute [local irreducible] Go.Sy.G Go.Sy.DR
set_option maxRecDepth 20000
set_option maxHeartbeats 4000000
theorem An2 {n:Net} {irb dst:Int} (h:(lookT n irb dst).2=true):Vg n irb dst (lookT n irb dst).1.toNat=true:=by
 unfold lookT at h ⊢
 split at h
 ·cases h
 rename_i h1
 rw[if_neg h1]
 split at h
 ·cases h
 rename_i h2
 rw[if_neg h2]
 have hm:=T9 (Aow n irb) (Mm n irb dst) (List.length_pos_iff.2 h2) ((Mm n irb dst).length-1) (by have:=List.length_pos_iff.2 h2;omega)
 exact((Lj (p:=Vg n irb dst) (j:=n.irbs.length)).1 hm).2.2
theorem Am9 (x:Int) (i:Irb):Sy.Spec Tryz.prog 210 [Br i,.ref 1 (A4 x) 0] [] (Ab (i.addr == x)) []:=cT F210 Tryz.ntmps210 fun F hF=>by
 refine fW ?_
 exact dN
theorem Ana (x:Int) (i:Irb):Sy.Spec Tryz.prog 147 [Br i,.ref 1 (A4 x) 0] [] (Ab (i.addr == x)) []:=cT F147 Tryz.ntmps147 fun F hF=>by
 refine fW ?_
 exact dN
def Lr (n:Net) (a:Int):Bool:=decide (0≤B9 (fun i:Irb=>i.addr == a) n.irbs)
def pastI (n:Net) (a led:Int):Int:=if Lr n a=true then a+1 else J1 (nth n.irbs led).addr (nth n.irbs led).bits+1
theorem Ahl (n:Net) (hn:n.Fin) (hu:Cr n) (a led:Int) (ha:0≤a∧a<4294967296) (hl:Lr n a=false→InIrbs n led) :
  Sy.Spec Tryz.prog 148 [Aj n,A4 a,Aa led] [] (Aa (pastI n a led)) []:=cT F148 Tryz.ntmps148 fun F hF=>by
 have hlk:=pastI.eq_1 n a led
 generalize pastI n a led=res at *
 have q7:=H7 n.irbs (fun i:Irb=>i.addr == a) 210 [] [.ref 1 (A4 a) 0] rfl (fun i _=>⟨⟨_,_,F210⟩,Am9 a i⟩) hn.irbs
 have ht:decide (0≤B9 (fun i:Irb=>i.addr == a) n.irbs)=Lr n a:=rfl
 rw[ht]at q7
 generalize Lr n a=tk at *
 refine fW ?_
 refine Aw 3 8 (Aj n) E E E ?_
 refine Aw 4 1 (A4 a) E E E ?_
 refine fU ?_
 refine c0 q7 F146 ?_
 cases tk
 rotate_left
 ·rw[if_pos rfl]at hlk
  subst hlk
  refine fU ?_
  rw[Qg q_ q_]
  refine iL ?_
  refine fW ?_
  exact dN
 rw[if_neg y_]at hlk
 have hli:=hl rfl
 rw[Ae hli.2]at hlk
 have hui:=hu _ (List.getElem_mem hli.2)
 obtain ⟨x,hx⟩:∃ x,n.irbs[led.toNat]'hli.2=x:=⟨_,rfl⟩
 rw[hx]at hlk hui
 obtain ⟨y,hy⟩:=Int.eq_ofNat_of_zero_le hui.1
 have q:=Wa y x.bits q_
 have hle:=Ue x.addr x.bits hui
 rw[← hy]at q
 generalize J1 x.addr x.bits=z at *
 subst hlk
 refine fU ?_
 refine⟨E,hli.1,hli.2,?_⟩
 rw[hx]
 refine fW ?_
 first | refine cD q F144 ?_ | refine c0 q F144 ?_
 refine fU ?_
 rw[Qg q_ q_]
 refine iL ?_
 refine fW ?_
 exact dN
theorem Aqm {n:Net} (hu:Cr n) (hb:Ac n=true) {irb a:Int} (ha:0≤a∧a<4294967296) (h:Lr n a=false→(lookT n irb a).2=true) :
  a<pastI n a (lookT n irb a).1∧pastI n a (lookT n irb a).1≤4294967296:=by
 rw[pastI]
 split
 ·omega
 rename_i ht
 have h2:=h (by simpa using ht)
 have hw:=An2 h2
 have hi:=Oe h2
 have e:((lookT n irb a).1.toNat:Int)=(lookT n irb a).1:=by have:=hi.1;omega
 rw[Vg,Bool.and_eq_true,e]at hw
 rw[Ae hi.2]at hw ⊢
 have hui:=hu _ (List.getElem_mem hi.2)
 have hbi:=(Dp hb hi.2).2.2
 have h3:=(Arq _ _ _ hbi hui ha).1 hw.1
 have h4:=Ue _ (n.irbs[(lookT n irb a).1.toNat]'hi.2).bits hui
 omega
def addrGo (n:Net) (irb to e:Int) (x:Int):Int × Bool :=
 if x≤e then
  if (lookT n irb x).2=true∧(lookT n irb x).1=to∧Lr n x=false then (x,true)
  else if (lookT n irb x).2=false∧Lr n x=false then (0,false)
  else if x<pastI n x (lookT n irb x).1 then addrGo n irb to e (pastI n x (lookT n irb x).1) else (0,false)
 else (0,false)
 termination_by (e+1-x).toNat
 decreasing_by omega
def addrT (n:Net) (irb to:Int):Int × Bool :=
 if (0≤irb∧irb<n.irbs.length)∧(0≤to∧to<n.irbs.length)∧Ac n=true then
  addrGo n irb to (J1 (nth n.irbs to).addr (nth n.irbs to).bits) (E6 (nth n.irbs to).addr (nth n.irbs to).bits) else (0,false)
theorem Z8 (n:Net) (hn:n.Fin) (hu:Cr n) (irb to:Int):Sy.Spec Tryz.prog 91 [Aj n,Aa irb,Aa to] [] (.tup [A4 (addrT n irb to).1,Ab (addrT n irb to).2]) []:=cT F91 Tryz.ntmps91 fun F hF=>by
 have hlk:=addrT.eq_1 n irb to
 generalize addrT n irb to=res at *
 have hr:=At n hn
 have hsi:=hn.irbs
 unfold Ak at hsi
 refine fW ?_
 refine⟨fun h=>?_,fun h=>?_⟩
 ·rw[if_neg (qA h)]at hlk
  subst hlk
  refine fU ?_
  exact dN
 have h1:¬ irb<0:=of_decide_eq_false h
 refine fU ?_
 refine⟨fun h=>?_,fun h=>?_⟩
 ·rw[if_neg (qA h)]at hlk
  subst hlk
  refine fU ?_
  exact dN
 have h2:¬ to<0:=of_decide_eq_false h
 refine Aw 3 8 (Aj n) E E E ?_
 refine fU ?_
 refine⟨fun h=>?_,fun h=>?_⟩
 ·rw[if_neg (qA h)]at hlk
  subst hlk
  refine fU ?_
  exact dN
 have h3:irb<n.irbs.length:=qB h
 refine fU ?_
 refine⟨fun h=>?_,fun h=>?_⟩
 ·rw[if_neg (qA h)]at hlk
  subst hlk
  refine fU ?_
  exact dN
 have h4:to<n.irbs.length:=qB h
 refine fU ?_
 refine c0 hr F12 ?_
 cases hb:Ac n
 ·rw[if_neg (by simp[hb])]at hlk
  subst hlk
  refine fU ?_
  exact dN
 rw[if_pos ⟨⟨by omega,h3⟩,⟨by omega,h4⟩,hb⟩]at hlk
 have hti:InIrbs n to:=⟨by omega,by omega⟩
 have hii:InIrbs n irb:=⟨by omega,by omega⟩
 rw[Ae hti.2]at hlk
 have hui:=hu _ (List.getElem_mem hti.2)
 obtain ⟨x,hx⟩:∃ x,n.irbs[to.toNat]'hti.2=x:=⟨_,rfl⟩
 rw[hx]at hlk hui
 obtain ⟨y,hy⟩:=Int.eq_ofNat_of_zero_le hui.1
 have q1:=Aak y x.bits q_
 have q2:=Wa y x.bits q_
 have hf:=Acj x.addr x.bits hui
 have hle:=Ue x.addr x.bits hui
 rw[← hy]at q1 q2
 generalize J1 x.addr x.bits=e at *
 generalize E6 x.addr x.bits=s at *
 refine fU ?_
 refine⟨E,hti.1,hti.2,?_⟩
 rw[hx]
 refine fW ?_
 refine cD q1 F143 ?_
 refine fU ?_
 refine cD q2 F144 ?_
 refine fU ?_
 refine⟨z_,?_⟩
 refine fW ?_
 refine C1 (fun z:Int=>0≤z∧z≤4294967296∧res=addrGo n irb to e z) (fun z=>[(1,Aa irb),(2,Aa to),(3,.ref 8 (Aj n) 0),(9,Aa z),(10,Aa e)]) (fun _=>[]) (fun z=>(e+1-z).toNat) s [] ⟨hf.1,by omega,hlk⟩
  ⟨⟨rfl,rfl,rfl,rfl,rfl,rfl,congrArg Aa (Qg (x:=s) q_ q_).symm,rfl,congrArg Aa (Qg (x:=e) q_ q_).symm,rfl,trivial⟩,trivial,rfl,rfl⟩ ?_
 clear hlk
 rintro z ⟨hz0,hz1,hlk⟩
 refine fU ?_
 refine⟨fun h=>?_,fun h=>?_⟩
 ·have h5:z≤e:=of_decide_eq_true h
  rw[addrGo,if_pos h5]at hlk
  have hz2:0≤z∧z<4294967296:=by omega
  have q6:=Ac9 n hn hb irb z hii
  have hgt:=Aqm (irb:=irb) hu hb hz2
  have hth:=Oe (n:=n) (irb:=irb) (dst:=z)
  have q8:=fun led hl=>Ahl n hn hu z led hz2 hl
  have q7:=H7 n.irbs (fun i:Irb=>i.addr == z) 147 [] [.ref 1 (A4 z) 0] rfl (fun i _=>⟨⟨_,_,F147⟩,Ana z i⟩) hn.irbs
  have ht:decide (0≤B9 (fun i:Irb=>i.addr == z) n.irbs)=Lr n z:=rfl
  rw[ht]at q7
  clear ht
  generalize Lr n z=tk at *
  generalize lookT n irb z=ld at *
  obtain ⟨led,ok⟩:=ld
  dsimp only at *
  refine fU ?_
  rw[Amm hz2.1 hz2.2]
  refine c0 q6 F145 ?_
  refine Aw 11 1 (A4 z) E E E ?_
  refine fU ?_
  refine c0 q7 F146 ?_
  cases ok
  ·cases tk
   ·rw[if_neg y_,if_pos ⟨rfl,rfl⟩]at hlk
    subst hlk
    refine fU ?_
    exact dN
   ·rw[if_neg y_,if_neg y_,if_pos (hgt (fun h=>by cases h)).1]at hlk
    have hg:=hgt (fun h=>by cases h)
    have q:=q8 led (fun h=>by cases h)
    generalize pastI n z led=nx at *
    refine fU ?_
    refine c0 q F148 ?_
    refine fU ?_
    exact Bg nx [] ⟨by omega,hg.2,hlk⟩ q_ ⟨⟨E,E,E,E,E,E,E,E,E,E,Y⟩,Y,E,E⟩
  ·have q:=q8 led (fun _=>hth rfl)
   have hg:=hgt (fun _=>rfl)
   cases tk
   ·by_cases hto:led=to
    ·subst hto
     rw[if_pos ⟨rfl,rfl,rfl⟩]at hlk
     subst hlk
     refine fU ?_
     refine⟨fun h=>?_,fun h=>?_⟩
     ·refine fU ?_
      exact dN
     ·simp at h
    ·rw[if_neg (by simp[hto]),if_neg y_,if_pos hg.1]at hlk
     generalize pastI n z led=nx at *
     refine fU ?_
     refine⟨fun h=>absurd (by simpa using h) hto,fun h=>?_⟩
     refine fU ?_
     refine c0 q F148 ?_
     refine fU ?_
     exact Bg nx [] ⟨by omega,hg.2,hlk⟩ q_ ⟨⟨E,E,E,E,E,E,E,E,E,E,Y⟩,Y,E,E⟩
   ·rw[if_neg y_,if_neg y_,if_pos hg.1]at hlk
    generalize pastI n z led=nx at *
    refine fU ?_
    refine⟨fun h=>?_,fun h=>?_⟩
    ·refine fU ?_
     refine c0 q F148 ?_
     refine fU ?_
     exact Bg nx [] ⟨by omega,hg.2,hlk⟩ q_ ⟨⟨E,E,E,E,E,E,E,E,E,E,Y⟩,Y,E,E⟩
    ·refine fU ?_
     refine c0 q F148 ?_
     refine fU ?_
     exact Bg nx [] ⟨by omega,hg.2,hlk⟩ q_ ⟨⟨E,E,E,E,E,E,E,E,E,E,Y⟩,Y,E,E⟩
 ·have h5:¬ z≤e:=of_decide_eq_false h
  rw[addrGo,if_neg h5]at hlk
  subst hlk
  refine fU ?_
  exact dN
end Go.Sy.YtcflgpijohhfbaaGreat
namespace Go.Sy.YtcflgpijohhfbaaGreat
open Go.Proofs
theorem Ae3 (a b:ByteArray):(a == b)=true↔a=b:=by
 cases a with
 | mk a =>
  cases b with
  | mk b =>
   show (a == b)=true↔_
   simp
instance:LawfulBEq ByteArray where
 eq_of_beq h:=(Ae3 _ _).1 h
 rfl:=(Ae3 _ _).2 rfl
def Are (c:UInt8):Bool:=decide (97≤c.toNat) && decide (c.toNat≤122)
def Au4:List UInt8→Bool
 | []=>false
 | c::l=>Are c && l.all fun c=>Are c || Asc c
def Cu (s:ByteArray):Bool:=Au4 s.data.toList && decide (s.size≤12)
def macAt (s:ByteArray) (i:Nat):Bool:=decide (Auk (Ep s (3 * i))≤15) && decide (Auk (Ep s (3 * i+1))≤15) && (decide (5≤i) || decide ((Ep s (3 * i+2)).toNat=58))
def macV (s:ByteArray):Nat→Int
 | 0=>0
 | i+1=>macV s i * 256+Auk (Ep s (3 * i)) * 16+Auk (Ep s (3 * i+1))
def Xk (s:ByteArray):Int × Bool:=if s.size=17∧(List.range 6).all (macAt s)=true then (macV s 6,true) else (0,false)
def L9 (m:Int):Bool:=decide (m % 281474976710656 / 4294967296=512)
def statB (m:Int):Bool:=decide (m≤281474976710655) && !(L9 m) && !(Hh m.toNat)
def Alv (one:ByteArray→Int × Bool):List Int→List ByteArray→List Int × Bool
 | out,[]=>(out,true)
 | out,p::r=>if (one p).2=false∨out.length=16∨(∃ x,out.getLast? = some x∧(one p).1≤x) then ([],false) else Alv one (out++[(one p).1]) r
def Arg (one:ByteArray→Int × Bool) (s:ByteArray):List Int × Bool:=Alv one [] (Ac2 44 s)
def dash:ByteArray:=⟨#[45]⟩
def Ws (most:Int) (s:ByteArray):List Int × Bool:=if s=dash then ([],true) else Arg (fun p=>Adp p 1 most) s
def Aku (s:ByteArray):List Int × Bool:=Arg Abr s
def Tw (s:ByteArray):(Int × Int) × Bool :=
 if (Asd 47 s).2.2=false∨(Abr (Asd 47 s).1).2=false∨(Ac4 (Asd 47 s).2.1 32).2=false then ((0,0),false) else (((Abr (Asd 47 s).1).1,(Ac4 (Asd 47 s).2.1 32).1),true)
def subnetB (a bits:Int):Bool:=decide (1≤bits) && decide (bits≤30) && decide (a≠E6 a bits) && decide (a≠J1 a bits)
def Wt (s:ByteArray):Int :=
 if s=⟨#[100,101,118,105,99,101]⟩ then 1 else if s=⟨#[112,111,114,116]⟩ then 2 else if s=⟨#[108,105,110,107]⟩ then 3 else if s=⟨#[115,116,97,116,105,99]⟩ then 4
 else if s=⟨#[118,116,101,112]⟩ then 5 else if s=⟨#[118,110,105]⟩ then 6 else if s=⟨#[102,108,111,111,100]⟩ then 7 else if s=⟨#[118,114,102]⟩ then 8 else if s=⟨#[105,114,98]⟩ then 9 else 0
def Ama:ByteArray:=⟨#[97,99,99,101,115,115]⟩
def Apo:ByteArray:=⟨#[116,114,117,110,107]⟩
def wdT (w:List ByteArray) (i:Nat):ByteArray:=(w[i]?).getD ⟨#[]⟩
def membersB (vlan:Int) (tagged:List Int):Bool:=(decide (0<vlan) || !tagged.isEmpty) && !(tagged.contains vlan)
def lineZ:LineM:=⟨0,0,⟨#[]⟩,⟨#[]⟩,⟨#[]⟩,⟨#[]⟩,⟨#[]⟩,0,0,0,0,0,0,[],[],[],[]⟩
def Mn (s:ByteArray):Int × Bool:=Adp s 1 4094
def As7 (s:ByteArray):Int × Bool:=Adp s 1 16777215
def Afy (w:List ByteArray):Int × List Int × List (Bool × Int) :=
 if wdT w 4=Ama then ((Mn (wdT w 5)).1,[],[(!(Mn (wdT w 5)).2,21)])
 else if wdT w 4=Apo then
  (if wdT w 5=dash then (0,(Ws 4094 (wdT w 6)).1,[(!(Ws 4094 (wdT w 6)).2,21)])
   else ((Mn (wdT w 5)).1,(Ws 4094 (wdT w 6)).1,[(!(Mn (wdT w 5)).2,21),(!(Ws 4094 (wdT w 6)).2,21)]))
 else (0,[],[])
def Abn (w:List ByteArray) (row:Int):LineM × List (Bool × Int) :=
 let n:=fun i=>(!(Cu (wdT w i)),(20:Int))
 let k:=Wt (wdT w 0)
 if k=1 then ({ lineZ with row:=row,kind:=1,dev:=wdT w 1,num:=(Adp (wdT w 2) 0 65535).1,mac:=(Xk (wdT w 3)).1 },[n 1,(!(Adp (wdT w 2) 0 65535).2,21),(!((Xk (wdT w 3)).2 && statB (Xk (wdT w 3)).1),21)])
 else if k=2 then ({ lineZ with row:=row,kind:=2,dev:=wdT w 1,port:=wdT w 2,cost:=(Adp (wdT w 3) 1 65535).1,vlan:=(Afy w).1,tagged:=(Afy w).2.1 },
  [n 1,n 2,(!(Adp (wdT w 3) 1 65535).2,21),(decide (wdT w 4≠Ama) && decide (wdT w 4≠Apo),20)]++(Afy w).2.2++[(!(membersB (Afy w).1 (Afy w).2.1),21)])
 else if k=3 then ({ lineZ with row:=row,kind:=3,dev:=wdT w 1,port:=wdT w 2,peer:=wdT w 3,far:=wdT w 4 },[n 1,n 2,n 3,n 4])
 else if k=4 then ({ lineZ with row:=row,kind:=4,dev:=wdT w 1,vlan:=(Mn (wdT w 2)).1,mac:=(Xk (wdT w 3)).1,port:=wdT w 4 },[n 1,(!(Mn (wdT w 2)).2,21),(!((Xk (wdT w 3)).2 && statB (Xk (wdT w 3)).1),21),n 4])
 else if k=5 then ({ lineZ with row:=row,kind:=5,dev:=wdT w 1,addr:=(Abr (wdT w 2)).1 },[n 1,(!((Abr (wdT w 2)).2 && decide ((Abr (wdT w 2)).1≠0)),21)])
 else if k=6 then ({ lineZ with row:=row,kind:=6,dev:=wdT w 1,vlan:=(Mn (wdT w 2)).1,num:=(As7 (wdT w 3)).1 },[n 1,(!(Mn (wdT w 2)).2,21),(!(As7 (wdT w 3)).2,21)])
 else if k=7 then ({ lineZ with row:=row,kind:=7,dev:=wdT w 1,num:=(As7 (wdT w 2)).1,addrs:=(Aku (wdT w 3)).1 },[n 1,(!(As7 (wdT w 2)).2,21),(!((Aku (wdT w 3)).2 && decide ((Aku (wdT w 3)).1.head? ≠ some 0)),21)])
 else if k=8 then ({ lineZ with row:=row,kind:=8,dev:=wdT w 1,name:=wdT w 2,imports:=(Ws 65535 (wdT w 3)).1,exports:=(Ws 65535 (wdT w 4)).1 },[n 1,n 2,(!(Ws 65535 (wdT w 3)).2,21),(!(Ws 65535 (wdT w 4)).2,21)])
 else ({ lineZ with row:=row,kind:=9,dev:=wdT w 1,vlan:=(Mn (wdT w 2)).1,name:=wdT w 3,addr:=(Tw (wdT w 4)).1.1,bits:=(Tw (wdT w 4)).1.2 },
  [n 1,(!(Mn (wdT w 2)).2,21),n 3,(!((Tw (wdT w 4)).2 && subnetB (Tw (wdT w 4)).1.1 (Tw (wdT w 4)).1.2),21)])
def K7 (a b:LineM):Bool :=
 a.row == b.row && (a.kind == b.kind && (a.dev == b.dev && (a.port == b.port && (a.peer == b.peer && (a.far == b.far && (a.name == b.name && (a.mac == b.mac && (a.addr == b.addr && (a.bits == b.bits &&
 (a.vlan == b.vlan && (a.num == b.num && (a.cost == b.cost && (a.tagged == b.tagged && (a.imports == b.imports && (a.exports == b.exports && a.addrs == b.addrs)))))))))))))))
def Cb (n lo hi:Int):Bool:=decide (lo≤n) && decide (n≤hi)
abbrev H1 (l:List Int) (hi:Int):Bool:=Afl l hi
def Mk (l:List Int):Bool:=(List.range l.length).all (fun i=>decide (l.getD i 0≠0) && (i == 0 || decide (l.getD (i-1) 0<l.getD i 0))) && (decide (0<l.length) && decide (l.length≤16))
def Bn (l:LineM):LineM × Bool :=
 let u:LineM:={ lineZ with row:=l.row,kind:=l.kind,dev:=l.dev }
 if l.kind=1 then ({ u with num:=l.num,mac:=l.mac },Cb l.num 0 65535 && statB l.mac)
 else if l.kind=2 then ({ u with port:=l.port,cost:=l.cost,vlan:=l.vlan,tagged:=l.tagged },Cu l.port && (Cb l.cost 1 65535 && (Cb l.vlan 0 4094 && (H1 l.tagged 4094 && membersB l.vlan l.tagged))))
 else if l.kind=3 then ({ u with port:=l.port,peer:=l.peer,far:=l.far },Cu l.port && (Cu l.peer && Cu l.far))
 else if l.kind=4 then ({ u with vlan:=l.vlan,mac:=l.mac,port:=l.port },Cb l.vlan 1 4094 && (statB l.mac && Cu l.port))
 else if l.kind=5 then ({ u with addr:=l.addr },decide (l.addr≠0))
 else if l.kind=6 then ({ u with vlan:=l.vlan,num:=l.num },Cb l.vlan 1 4094 && Cb l.num 1 16777215)
 else if l.kind=7 then ({ u with num:=l.num,addrs:=l.addrs },Cb l.num 1 16777215 && Mk l.addrs)
 else if l.kind=8 then ({ u with name:=l.name,imports:=l.imports,exports:=l.exports },Cu l.name && (H1 l.imports 65535 && H1 l.exports 65535))
 else if l.kind=9 then ({ u with vlan:=l.vlan,name:=l.name,addr:=l.addr,bits:=l.bits },Cb l.vlan 1 4094 && (Cu l.name && subnetB l.addr l.bits))
 else (u,false)
def C5 (l:LineM):Bool:=(Bn l).2 && (Cu l.dev && K7 (Bn l).1 l)
end Go.Sy.YtcflgpijohhfbaaGreat
namespace Go.Sy.YtcflgpijohhfbaaGreat
open Go.Proofs
attribute [local irreducible] Go.Sy.G Go.Sy.DR
structure Bx (Q:Prop):Prop where out:Q
theorem sE {α:Sort _} {a b:α} {K:Prop} (e:a=b) (h:K):a=b∧K:=⟨e,h⟩
theorem xE {α:Sort _} {a b:α} {K:a=b→Prop} (e:a=b) (h:K e):∃ e:a=b,K e:=⟨e,h⟩
theorem sL {a b:Int} {K:Prop} (e:a≤b) (h:K):a≤b∧K:=⟨e,h⟩
theorem xL {a b:Int} {K:a≤b→Prop} (e:a≤b) (h:K e):∃ e:a≤b,K e:=⟨e,h⟩
theorem sM {a b:Nat} {K:Prop} (e:a≤b) (h:K):a≤b∧K:=⟨e,h⟩
theorem sT {a b:Nat} {K:Prop} (e:a<b) (h:K):a<b∧K:=⟨e,h⟩
theorem xT {a b:Nat} {K:a<b→Prop} (e:a<b) (h:K e):∃ e:a<b,K e:=⟨e,h⟩
theorem sN {a b:Int} {K:Prop} (e:a≠b) (h:K):a≠b∧K:=⟨e,h⟩
theorem sI {a:Int} {K:Prop} (e:I64 a) (h:K):I64 a∧K:=⟨e,h⟩
theorem ct {p q:Prop} {b:Bool} (h:q) (e:b=true→False:=by
 intro _h
 first | exact absurd _h j_ | exact Bool.false_ne_true (Eq.trans (Eq.symm (by with_reducible assumption)) _h) | (simp at _h;done) | (simp at _h;omega)):(b=true→p)∧(b=false→q):=⟨fun x=>(e x).elim,fun _=>h⟩
theorem cf {p q:Prop} {b:Bool} (h:p) (e:b=false→False:=by
 intro _h
 first | exact absurd _h j_ | exact Bool.false_ne_true (Eq.trans (Eq.symm _h) (by with_reducible assumption)) | (simp at _h;done) | (simp at _h;omega)):(b=true→p)∧(b=false→q):=⟨fun _=>h,fun x=>(e x).elim⟩
theorem S {P Q:Prop} (h:Q) (e:Bx Q→P:=by
 intro hb
 first | refine rg ?_ | refine rd z_ ?_ | skip
 conv=>whnf
 repeat (first
  | ((first | refine aF ?_ | refine aT ?_ | refine ct ?_ | refine cf ?_);(first | refine rg ?_ | refine rd z_ ?_);(conv=>whnf))
  | ((first | refine⟨(by kernel_rfl:Ad8 _ _=true),?_⟩ | refine sI (by unfold I64;omega) ?_);(conv=>whnf)))
 exact hb.out):P:=e ⟨h⟩
theorem T {P Q:Prop} (h:Q) (e:Bx Q→P:=by
 intro hb
 refine S ?_
 repeat ((first | refine sE (by exact rfl) ?_ | refine sL (by first | omega | decide) ?_ | refine xL (by first | omega | decide) ?_ | refine sT (by first | omega | decide) ?_ | refine xT (by first | omega | decide) ?_ | refine sM (by first | omega | decide) ?_ | refine sN (by first | omega | decide) ?_ | refine xE (by exact rfl) ?_);refine S ?_)
 exact hb.out):P:=e ⟨h⟩
theorem D {P:Prop} (h:P:=by
 apply Ap
 ·exact E
 ·(repeat (first | exact ResVs.nil | (apply ResVs.cons;(first | exact .tmp | exact .cell rfl rfl rfl rfl))))
 ·exact E
 ·exact E):P:=h
theorem U {P:Prop} (h:P:=by
 refine⟨?_,?_,E,E⟩
 ·repeat (first | exact trivial | exact rfl | refine⟨rfl,rfl,?_⟩)
 ·repeat (first | exact trivial | refine⟨.inl rfl,rfl,?_⟩ | refine⟨.inr rfl,rfl,?_⟩)):P:=h
theorem W {P:Prop} (h:P:=by
 repeat (first | exact trivial | exact rfl | refine⟨rfl,?_⟩)):P:=h
theorem V {P:Prop} (h:P:=by
 repeat (first | exact trivial | refine⟨.inl rfl,?_⟩ | refine⟨.inr rfl,?_⟩)):P:=h
theorem C {P:Program} {f:FuncId} {fn:Func} {c:Code} {A:List SV} {R:SV} {Z Q:Prop} (hs:Sy.Spec P f A [] R []) (hf:Fun P f fn c) (h:Q) (e:Sy.Spec P f A [] R []→Fun P f fn c→Bx Q→Z:=by
 intro hs hf hb
 first | refine Kl hs hf rfl rfl rfl rfl rfl ?_ | refine Asg hs hf rfl rfl rfl z_ rfl ?_
 refine T ?_
 exact hb.out):Z:=e hs hf ⟨h⟩
theorem X {C:Cx} {k:List KI} {s:SS} {all:Array Oper} {o:Oper} {rest:List Oper} {V:Up} {Q:Prop} (hg:Good C.P o s V) (h:Q) (hd:Oy C.n o=true:=by exact rfl) (hw:Dt C.n all o s=some true:=by exact rfl) (e:Bx Q→G C (.ops all rest::k) (s.upd o.dst V):=by
 intro hb
 refine T ?_
 exact hb.out):G C (.ops all (o::rest)::k) s:=Af hg hd hw (e ⟨h⟩)
theorem Xd {C:Cx} {k:List KI} {s:SS} {all:Array Oper} {done:List Stp} {o:Oper} {rest:List Oper} {V:Up} {Q:Prop} (hg:Good C.P o s V) (h:Q) (hi:all[done.length]? = some o:=by kernel_rfl) (hw:Dt C.n all o s=some true:=by exact rfl) (hn:(Hp o || Kx o)=false:=by exact rfl) (e:Bx Q→DR C k all (done++[⟨done.length,o,V,true⟩]) rest (s.upd o.dst V):=by
 intro hb
 refine T ?_
 exact hb.out):DR C k all done (o::rest) s:=Bm hg hi hw (e ⟨h⟩) hn
theorem Xe {C:Cx} {k:List KI} {s:SS} {all:Array Oper} {done:List Stp} {o:Oper} {rest:List Oper} {V:Up} {Q:Prop} (hg:Good C.P o s V) (h:Q) (hk:KeepL s V.objs:=by exact W) (hi:all[done.length]? = some o:=by kernel_rfl) (hw:Dt C.n all o s=some true:=by exact rfl) (hn:(Hp o || Kx o)=false:=by exact rfl) (e:Bx Q→DR C k all (done++[⟨done.length,o,⟨V.v,V.rd++V.ws,[]⟩,true⟩]) rest (s.upd o.dst ⟨V.v,V.rd++V.ws,[]⟩):=by
 intro hb
 refine T ?_
 exact hb.out):DR C k all done (o::rest) s:=stepD2 hg hk hi hw (e ⟨h⟩) hn
end Go.Sy.YtcflgpijohhfbaaGreat
namespace Go.Sy.YtcflgpijohhfbaaGreat
open Go.Proofs
attribute [local irreducible] Go.Sy.G Go.Sy.DR
set_option maxRecDepth 100000
set_option maxHeartbeats 4000000
structure LineFin (l:LineM):Prop where
 t:l.tagged.length≤100000
 i:l.imports.length≤100000
 e:l.exports.length≤100000
 a:l.addrs.length≤100000
theorem Hm {κ:Ka} {w:World} {k sz:Nat} {α:Type} {e:α→SV} {l:List α} (hne:l≠[]) (h:ObOK κ w k (.row sz e l)):∃ b n c,κ k=.row b n c:=by
 rcases h with ⟨_,h⟩ | ⟨b,cap,_,_,_,h,_⟩
 ·exact absurd h hne
 ·exact⟨b,_,cap,h⟩
theorem Aeh (l:List Device) (hl:l.length<2147483648):Sy.Spec Tryz.prog 95 [.sl 5 Aq l] [] (.sl 5 Aq l) []:=cT F95 Tryz.ntmps95 fun F hF=>by
 conv=>whnf
 refine C3 E (.inl E) E E E .sl E E ?_
 intro b hb
 cases b
 ·refine oF ?_
  refine Af (Ag Γ.toTy 7 E E E E E (.lit (e:=Aq) (l:=[]) E E) .sl y_ (by simp;omega) (by simp;omega)) E E ?_
  refine Ah 7 E ?_
  refine oO ?_
  exact dN
 ·have h0:l=[]:=List.eq_nil_of_length_eq_zero (hb rfl)
  subst h0
  refine oT ?_
  refine Ao 2 5 Aq E ?_
  exact dN
theorem Akj (l:List Link) (hl:l.length<2147483648):Sy.Spec Tryz.prog 97 [.sl 3 Bl l] [] (.sl 3 Bl l) []:=cT F97 Tryz.ntmps97 fun F hF=>by
 conv=>whnf
 refine C3 E (.inl E) E E E .sl E E ?_
 intro b hb
 cases b
 ·refine oF ?_
  refine Af (Ag Γ.toTy 7 E E E E E (.lit (e:=Bl) (l:=[]) E E) .sl y_ (by simp;omega) (by simp;omega)) E E ?_
  refine Ah 7 E ?_
  refine oO ?_
  exact dN
 ·have h0:l=[]:=List.eq_nil_of_length_eq_zero (hb rfl)
  subst h0
  refine oT ?_
  refine Ao 2 3 Bl E ?_
  exact dN
theorem Aee (l:List Static) (hl:l.length<2147483648):Sy.Spec Tryz.prog 99 [.sl 4 As l] [] (.sl 4 As l) []:=cT F99 Tryz.ntmps99 fun F hF=>by
 conv=>whnf
 refine C3 E (.inl E) E E E .sl E E ?_
 intro b hb
 cases b
 ·refine oF ?_
  refine Af (Ag Γ.toTy 7 E E E E E (.lit (e:=As) (l:=[]) E E) .sl y_ (by simp;omega) (by simp;omega)) E E ?_
  refine Ah 7 E ?_
  refine oO ?_
  exact dN
 ·have h0:l=[]:=List.eq_nil_of_length_eq_zero (hb rfl)
  subst h0
  refine oT ?_
  refine Ao 2 4 As E ?_
  exact dN
theorem Aox (l:List Irb) (hl:l.length<2147483648):Sy.Spec Tryz.prog 102 [.sl 5 Br l] [] (.sl 5 Br l) []:=cT F102 Tryz.ntmps102 fun F hF=>by
 conv=>whnf
 refine C3 E (.inl E) E E E .sl E E ?_
 intro b hb
 cases b
 ·refine oF ?_
  refine Af (Ag Γ.toTy 7 E E E E E (.lit (e:=Br) (l:=[]) E E) .sl y_ (by simp;omega) (by simp;omega)) E E ?_
  refine Ah 7 E ?_
  refine oO ?_
  exact dN
 ·have h0:l=[]:=List.eq_nil_of_length_eq_zero (hb rfl)
  subst h0
  refine oT ?_
  refine Ao 2 5 Br E ?_
  exact dN
theorem Dj (l:List Int) (hl:l.length<2147483648):Sy.Spec Tryz.prog 103 [.sl 1 Aa l] [] (.sl 1 Aa l) []:=cT F103 Tryz.ntmps103 fun F hF=>by
 conv=>whnf
 refine C3 E (.inl E) E E E .sl E E ?_
 intro b hb
 cases b
 ·refine oF ?_
  refine Af (Ag Γ.toTy 7 E E E E E (.lit (e:=Aa) (l:=[]) E E) .sl y_ (by simp;omega) (by simp;omega)) E E ?_
  refine Ah 7 E ?_
  refine oO ?_
  exact dN
 ·have h0:l=[]:=List.eq_nil_of_length_eq_zero (hb rfl)
  subst h0
  refine oT ?_
  refine Ao 2 1 Aa E ?_
  exact dN
theorem V9 (l:List Int) (hl:l.length<2147483648):Sy.Spec Tryz.prog 104 [.sl 1 A4 l] [] (.sl 1 A4 l) []:=cT F104 Tryz.ntmps104 fun F hF=>by
 conv=>whnf
 refine C3 E (.inl E) E E E .sl E E ?_
 intro b hb
 cases b
 ·refine oF ?_
  refine Af (Ag Γ.toTy 7 E E E E E (.lit (e:=A4) (l:=[]) E E) .sl y_ (by simp;omega) (by simp;omega)) E E ?_
  refine Ah 7 E ?_
  refine oO ?_
  exact dN
 ·have h0:l=[]:=List.eq_nil_of_length_eq_zero (hb rfl)
  subst h0
  refine oT ?_
  refine Ao 2 1 A4 E ?_
  exact dN
theorem Akl (l:List Bool) (hl:l.length<2147483648):Sy.Spec Tryz.prog 64 [.sl 1 Ab l] [] (.sl 1 Ab l) []:=cT F64 Tryz.ntmps64 fun F hF=>by
 conv=>whnf
 refine C3 E (.inl E) E E E .sl E E ?_
 intro b hb
 cases b
 ·refine oF ?_
  refine Af (Ag Γ.toTy 7 E E E E E (.lit (e:=Ab) (l:=[]) E E) .sl y_ (by simp;omega) (by simp;omega)) E E ?_
  refine Ah 7 E ?_
  refine oO ?_
  exact dN
 ·have h0:l=[]:=List.eq_nil_of_length_eq_zero (hb rfl)
  subst h0
  refine oT ?_
  refine Ao 2 1 Ab E ?_
  exact dN
theorem Z7 (l:List Port) (hl:l.length<2147483648):Sy.Spec Tryz.prog 96 [.sl 7 Au l] [] (.osl 0) [(0,.row 7 Au l)]:=cT F96 Tryz.ntmps96 fun F hF=>by
 conv=>whnf
 refine C3 E (.inl E) E E E .sl E E ?_
 intro b hb
 cases b
 ·refine oF ?_
  refine Af (Ag Γ.toTy 7 E E E E E (.lit (e:=Au) (l:=[]) E E) .sl y_ (by simp;omega) (by simp;omega)) E E ?_
  refine oO ?_
  exact done E (.cons .tmp .nil) [(0,7)] [(0,.row 7 Au l)] (fun _ h=>h) E E ⟨Y,⟨.inl E,E,Y⟩,E,E⟩
 ·have h0:l=[]:=List.eq_nil_of_length_eq_zero (hb rfl)
  subst h0
  refine oT ?_
  refine Cc 2 1000 7 Au E E ?_
  exact done E (.cons .tmp .nil) [(0,1000)] [(0,.row 7 Au [])] (fun _ h=>h) E E ⟨Y,⟨.inl E,E,Y⟩,E,E⟩
theorem U3 (l:List Domain) (hl:l.length<2147483648):Sy.Spec Tryz.prog 98 [.sl 6 An l] [] (.osl 0) [(0,.row 6 An l)]:=cT F98 Tryz.ntmps98 fun F hF=>by
 conv=>whnf
 refine C3 E (.inl E) E E E .sl E E ?_
 intro b hb
 cases b
 ·refine oF ?_
  refine Af (Ag Γ.toTy 7 E E E E E (.lit (e:=An) (l:=[]) E E) .sl y_ (by simp;omega) (by simp;omega)) E E ?_
  refine oO ?_
  exact done E (.cons .tmp .nil) [(0,7)] [(0,.row 6 An l)] (fun _ h=>h) E E ⟨Y,⟨.inl E,E,Y⟩,E,E⟩
 ·have h0:l=[]:=List.eq_nil_of_length_eq_zero (hb rfl)
  subst h0
  refine oT ?_
  refine Cc 2 1000 6 An E E ?_
  exact done E (.cons .tmp .nil) [(0,1000)] [(0,.row 6 An [])] (fun _ h=>h) E E ⟨Y,⟨.inl E,E,Y⟩,E,E⟩
theorem W4 (l:List Flood) (hl:l.length<2147483648):Sy.Spec Tryz.prog 100 [.sl 4 A0 l] [] (.osl 0) [(0,.row 4 A0 l)]:=cT F100 Tryz.ntmps100 fun F hF=>by
 conv=>whnf
 refine C3 E (.inl E) E E E .sl E E ?_
 intro b hb
 cases b
 ·refine oF ?_
  refine Af (Ag Γ.toTy 7 E E E E E (.lit (e:=A0) (l:=[]) E E) .sl y_ (by simp;omega) (by simp;omega)) E E ?_
  refine oO ?_
  exact done E (.cons .tmp .nil) [(0,7)] [(0,.row 4 A0 l)] (fun _ h=>h) E E ⟨Y,⟨.inl E,E,Y⟩,E,E⟩
 ·have h0:l=[]:=List.eq_nil_of_length_eq_zero (hb rfl)
  subst h0
  refine oT ?_
  refine Cc 2 1000 4 A0 E E ?_
  exact done E (.cons .tmp .nil) [(0,1000)] [(0,.row 4 A0 [])] (fun _ h=>h) E E ⟨Y,⟨.inl E,E,Y⟩,E,E⟩
theorem Acq (l:List Vrf) (hl:l.length<2147483648):Sy.Spec Tryz.prog 101 [.sl 5 Bv l] [] (.osl 0) [(0,.row 5 Bv l)]:=cT F101 Tryz.ntmps101 fun F hF=>by
 conv=>whnf
 refine C3 E (.inl E) E E E .sl E E ?_
 intro b hb
 cases b
 ·refine oF ?_
  refine Af (Ag Γ.toTy 7 E E E E E (.lit (e:=Bv) (l:=[]) E E) .sl y_ (by simp;omega) (by simp;omega)) E E ?_
  refine oO ?_
  exact done E (.cons .tmp .nil) [(0,7)] [(0,.row 5 Bv l)] (fun _ h=>h) E E ⟨Y,⟨.inl E,E,Y⟩,E,E⟩
 ·have h0:l=[]:=List.eq_nil_of_length_eq_zero (hb rfl)
  subst h0
  refine oT ?_
  refine Cc 2 1000 5 Bv E E ?_
  exact done E (.cons .tmp .nil) [(0,1000)] [(0,.row 5 Bv [])] (fun _ h=>h) E E ⟨Y,⟨.inl E,E,Y⟩,E,E⟩
theorem copyS (n:Net) (hn:n.Fin) :
  Sy.Spec Tryz.prog 59 [Aj n] [] (Aj n) []:=cT F59 Tryz.ntmps59 fun F hF=>by
 have h1:n.devices.length<2147483648∧n.ports.length<2147483648∧n.links.length<2147483648∧n.domains.length<2147483648∧n.statics.length<2147483648∧n.floods.length<2147483648∧n.vrfs.length<2147483648∧n.irbs.length<2147483648:=⟨hn.devices,hn.ports,hn.links,hn.domains,hn.statics,hn.floods,hn.vrfs,hn.irbs⟩
 have h2:(∀ p∈n.ports,p.tagged.length<2147483648)∧(∀ p∈n.domains,p.peers.length<2147483648)∧(∀ p∈n.floods,p.addrs.length<2147483648)∧(∀ p∈n.vrfs,p.imports.length<2147483648∧p.exports.length<2147483648):=⟨hn.tagged,hn.peers,hn.addrs,fun v hv=>⟨hn.imports v hv,hn.exports v hv⟩⟩
 conv=>whnf
 refine cD (Aeh n.devices h1.1) F95 ?_
 refine oD ?_
 refine Bm (Ad [(0,14)] E F96 (Z7 n.ports h1.2.1) E Y E ⟨.inr E,Y⟩) z_ E ?_
 refine oD ?_
 refine cD (Akj n.links h1.2.2.1) F97 ?_
 refine oD ?_
 refine Bm (Ad [(0,20)] E F98 (U3 n.domains h1.2.2.2.1) E Y E ⟨.inr E,Y⟩) z_ E ?_
 refine oD ?_
 refine cD (Aee n.statics h1.2.2.2.2.1) F99 ?_
 refine oD ?_
 refine Bm (Ad [(0,26)] E F100 (W4 n.floods h1.2.2.2.2.2.1) E Y E ⟨.inr E,Y⟩) z_ E ?_
 refine oD ?_
 refine Bm (Ad [(0,29)] E F101 (Acq n.vrfs h1.2.2.2.2.2.2.1) E Y E ⟨.inr E,Y⟩) z_ E ?_
 refine oD ?_
 refine cD (Aox n.irbs h1.2.2.2.2.2.2.2) F102 ?_
 refine oD ?_
 refine kW ?_
 refine A3 n.ports.length (fun j=>[(2,.ptr 2 0),(3,.ptr 3 0),(36,Aa n.ports.length),(37,Aa j)]) (fun _=>[(2,.box [.val (.slice none 0 0),.val (.slice none 0 0),.val (.slice none 0 0),.val (.slice none 0 0),.val (.slice none 0 0),.val (.slice none 0 0),.val (.slice none 0 0),.val (.slice none 0 0)]),(3,.box [.sl 5 Aq n.devices,.osl 14,.sl 3 Bl n.links,.osl 20,.sl 4 As n.statics,.osl 26,.osl 29,.sl 5 Br n.irbs]),(14,.row 7 Au n.ports),(20,.row 6 An n.domains),(26,.row 4 A0 n.floods),(29,.row 5 Bv n.vrfs)]) []
  ⟨⟨rfl,rfl,rfl,rfl,rfl,rfl,rfl,rfl,trivial⟩,⟨.inl rfl,rfl,.inl rfl,rfl,.inl rfl,rfl,.inl rfl,rfl,.inl rfl,rfl,.inl rfl,rfl,trivial⟩,rfl,rfl⟩ ?_
 intro j hj
 refine oO ?_
 refine⟨fun h=>?_,fun h=>?_⟩
 ·have hlt:j<n.ports.length:=by simpa using h
  obtain ⟨p,hp⟩:∃ p,n.ports[(j:Int).toNat]'q_=p:=⟨_,rfl⟩
  have hne:n.ports≠[]:=fun e=>by rw[e]at hlt;cases hlt
  have hset:n.ports.set (j:Int).toNat p=n.ports:=by rw[← hp];exact List.set_getElem_self _
  have hpl:=h2.1 p (by rw[← hp];exact List.getElem_mem _)
  refine oO ?_
  refine⟨by omega,by show _<n.ports.length;omega,?_⟩
  conv=>whnf
  refine⟨hne,?_⟩
  conv=>whnf
  refine⟨E,by omega,?_⟩
  rw[hp]
  conv=>whnf
  refine cD (Dj p.tagged hpl) F103 ?_
  refine oD ?_
  refine⟨by omega,by show _<n.ports.length;omega,?_⟩
  conv=>whnf
  refine⟨hne,?_⟩
  conv=>whnf
  refine⟨E,by omega,p,(by rw[hp];rfl),(by rw[hp];rfl),?_⟩
  conv=>whnf
  refine kW ?_
  refine iW ?_
  exact Av [] hlt ⟨⟨E,E,E,E,E,E,E,E,Y⟩,⟨.inl E,E,.inl E,E,.inl (congrArg (Ob.row 7 Au) hset.symm),E,.inl E,E,.inl E,E,.inl E,E,Y⟩,E,E⟩
 ·refine oO ?_
  refine A3 n.domains.length (fun j=>[(2,.ptr 2 0),(3,.ptr 3 0),(55,Aa n.domains.length),(56,Aa j)]) (fun _=>[(2,.box [.val (.slice none 0 0),.val (.slice none 0 0),.val (.slice none 0 0),.val (.slice none 0 0),.val (.slice none 0 0),.val (.slice none 0 0),.val (.slice none 0 0),.val (.slice none 0 0)]),(3,.box [.sl 5 Aq n.devices,.osl 14,.sl 3 Bl n.links,.osl 20,.sl 4 As n.statics,.osl 26,.osl 29,.sl 5 Br n.irbs]),(14,.row 7 Au n.ports),(20,.row 6 An n.domains),(26,.row 4 A0 n.floods),(29,.row 5 Bv n.vrfs)]) []
   ⟨⟨rfl,rfl,rfl,rfl,rfl,rfl,rfl,rfl,trivial⟩,⟨.inl rfl,rfl,.inl rfl,rfl,.inl rfl,rfl,.inl rfl,rfl,.inl rfl,rfl,.inl rfl,rfl,trivial⟩,rfl,rfl⟩ ?_
  intro j hj
  refine oO ?_
  refine⟨fun h=>?_,fun h=>?_⟩
  ·have hlt:j<n.domains.length:=by simpa using h
   obtain ⟨p,hp⟩:∃ p,n.domains[(j:Int).toNat]'q_=p:=⟨_,rfl⟩
   have hne:n.domains≠[]:=fun e=>by rw[e]at hlt;cases hlt
   have hset:n.domains.set (j:Int).toNat p=n.domains:=by rw[← hp];exact List.set_getElem_self _
   have hpl:=h2.2.1 p (by rw[← hp];exact List.getElem_mem _)
   refine oO ?_
   refine⟨by omega,by show _<n.domains.length;omega,?_⟩
   conv=>whnf
   refine⟨hne,?_⟩
   conv=>whnf
   refine⟨E,by omega,?_⟩
   rw[hp]
   conv=>whnf
   refine cD (Dj p.peers hpl) F103 ?_
   refine oD ?_
   refine⟨by omega,by show _<n.domains.length;omega,?_⟩
   conv=>whnf
   refine⟨hne,?_⟩
   conv=>whnf
   refine⟨E,by omega,p,(by rw[hp];rfl),(by rw[hp];rfl),?_⟩
   conv=>whnf
   refine kW ?_
   refine iW ?_
   exact Av [] hlt ⟨⟨E,E,E,E,E,E,E,E,Y⟩,⟨.inl E,E,.inl E,E,.inl E,E,.inl (congrArg (Ob.row 6 An) hset.symm),E,.inl E,E,.inl E,E,Y⟩,E,E⟩
  ·refine oO ?_
   refine A3 n.floods.length (fun j=>[(2,.ptr 2 0),(3,.ptr 3 0),(74,Aa n.floods.length),(75,Aa j)]) (fun _=>[(2,.box [.val (.slice none 0 0),.val (.slice none 0 0),.val (.slice none 0 0),.val (.slice none 0 0),.val (.slice none 0 0),.val (.slice none 0 0),.val (.slice none 0 0),.val (.slice none 0 0)]),(3,.box [.sl 5 Aq n.devices,.osl 14,.sl 3 Bl n.links,.osl 20,.sl 4 As n.statics,.osl 26,.osl 29,.sl 5 Br n.irbs]),(14,.row 7 Au n.ports),(20,.row 6 An n.domains),(26,.row 4 A0 n.floods),(29,.row 5 Bv n.vrfs)]) []
    ⟨⟨rfl,rfl,rfl,rfl,rfl,rfl,rfl,rfl,trivial⟩,⟨.inl rfl,rfl,.inl rfl,rfl,.inl rfl,rfl,.inl rfl,rfl,.inl rfl,rfl,.inl rfl,rfl,trivial⟩,rfl,rfl⟩ ?_
   intro j hj
   refine oO ?_
   refine⟨fun h=>?_,fun h=>?_⟩
   ·have hlt:j<n.floods.length:=by simpa using h
    obtain ⟨p,hp⟩:∃ p,n.floods[(j:Int).toNat]'q_=p:=⟨_,rfl⟩
    have hne:n.floods≠[]:=fun e=>by rw[e]at hlt;cases hlt
    have hset:n.floods.set (j:Int).toNat p=n.floods:=by rw[← hp];exact List.set_getElem_self _
    have hpl:=h2.2.2.1 p (by rw[← hp];exact List.getElem_mem _)
    refine oO ?_
    refine⟨by omega,by show _<n.floods.length;omega,?_⟩
    conv=>whnf
    refine⟨hne,?_⟩
    conv=>whnf
    refine⟨E,by omega,?_⟩
    rw[hp]
    conv=>whnf
    refine cD (V9 p.addrs hpl) F104 ?_
    refine oD ?_
    refine⟨by omega,by show _<n.floods.length;omega,?_⟩
    conv=>whnf
    refine⟨hne,?_⟩
    conv=>whnf
    refine⟨E,by omega,p,(by rw[hp];rfl),(by rw[hp];rfl),?_⟩
    conv=>whnf
    refine kW ?_
    refine iW ?_
    exact Av [] hlt ⟨⟨E,E,E,E,E,E,E,E,Y⟩,⟨.inl E,E,.inl E,E,.inl E,E,.inl E,E,.inl (congrArg (Ob.row 4 A0) hset.symm),E,.inl E,E,Y⟩,E,E⟩
   ·refine oO ?_
    refine A3 n.vrfs.length (fun j=>[(2,.ptr 2 0),(3,.ptr 3 0),(93,Aa n.vrfs.length),(94,Aa j)]) (fun _=>[(2,.box [.val (.slice none 0 0),.val (.slice none 0 0),.val (.slice none 0 0),.val (.slice none 0 0),.val (.slice none 0 0),.val (.slice none 0 0),.val (.slice none 0 0),.val (.slice none 0 0)]),(3,.box [.sl 5 Aq n.devices,.osl 14,.sl 3 Bl n.links,.osl 20,.sl 4 As n.statics,.osl 26,.osl 29,.sl 5 Br n.irbs]),(14,.row 7 Au n.ports),(20,.row 6 An n.domains),(26,.row 4 A0 n.floods),(29,.row 5 Bv n.vrfs)]) []
     ⟨⟨rfl,rfl,rfl,rfl,rfl,rfl,rfl,rfl,trivial⟩,⟨.inl rfl,rfl,.inl rfl,rfl,.inl rfl,rfl,.inl rfl,rfl,.inl rfl,rfl,.inl rfl,rfl,trivial⟩,rfl,rfl⟩ ?_
    intro j hj
    refine oO ?_
    refine⟨fun h=>?_,fun h=>?_⟩
    ·have hlt:j<n.vrfs.length:=by simpa using h
     obtain ⟨p,hp⟩:∃ p,n.vrfs[(j:Int).toNat]'q_=p:=⟨_,rfl⟩
     have hne:n.vrfs≠[]:=fun e=>by rw[e]at hlt;cases hlt
     have hset:n.vrfs.set (j:Int).toNat p=n.vrfs:=by rw[← hp];exact List.set_getElem_self _
     have hpl:=h2.2.2.2 p (by rw[← hp];exact List.getElem_mem _)
     refine oO ?_
     have hne2:n.vrfs.set (j:Int).toNat p≠[]:=by rw[hset];exact hne
     have hp2:(n.vrfs.set (j:Int).toNat p)[(j:Int).toNat]'(by rw[hset];omega)=p:=by simp
     have hset2:(n.vrfs.set (j:Int).toNat p).set (j:Int).toNat p=n.vrfs:=by rw[hset,hset]
     refine⟨by omega,by show _<n.vrfs.length;omega,?_⟩
     conv=>whnf
     refine Bm (Cd E (.inr (.inr (.inr ⟨29,5,_,0,E,fun κ w h=>Hm hne h,E⟩)))) z_ E ?_
     refine oD ?_
     refine⟨hne,?_⟩
     conv=>whnf
     refine⟨E,by omega,?_⟩
     rw[hp]
     conv=>whnf
     refine cD (Dj p.imports hpl.1) F103 ?_
     refine oD ?_
     refine Bm (Cd E (.inr (.inr (.inr ⟨29,5,_,0,E,fun κ w h=>Hm hne h,E⟩)))) z_ E ?_
     refine oD ?_
     refine⟨hne,?_⟩
     conv=>whnf
     refine⟨E,by omega,?_⟩
     rw[hp]
     conv=>whnf
     refine cD (Dj p.exports hpl.2) F103 ?_
     refine oD ?_
     refine Bm (Cd E (.inr (.inr (.inr ⟨29,5,_,0,E,fun κ w h=>Hm hne h,E⟩)))) z_ E ?_
     refine oD ?_
     refine⟨hne,?_⟩
     conv=>whnf
     refine⟨E,by omega,p,(by rw[hp];rfl),(by rw[hp];rfl),?_⟩
     conv=>whnf
     refine Bm (Cd E (.inr (.inr (.inr ⟨29,5,_,0,E,fun κ w h=>Hm hne2 h,E⟩)))) z_ E ?_
     refine oD ?_
     refine⟨hne2,?_⟩
     conv=>whnf
     refine⟨E,by rw[hset];omega,p,(by rw[hp2];rfl),(by rw[hp2];rfl),?_⟩
     conv=>whnf
     refine kW ?_
     refine iW ?_
     exact Av [] hlt ⟨⟨E,E,E,E,E,E,E,E,Y⟩,⟨.inl E,E,.inl E,E,.inl E,E,.inl E,E,.inl E,E,.inl (congrArg (Ob.row 5 Bv) hset2.symm),E,Y⟩,E,E⟩
    ·refine oO ?_
     refine Ah 14 E ?_
     refine Ah 20 E ?_
     refine Ah 26 E ?_
     refine Ah 29 E ?_
     exact dN
def Q4 (i:Nat) (c:UInt8):Bool:=Are c || (Asc c && decide (i≠0))
theorem Aqz (s:ByteArray):Cu s=(Er Q4 s.data.toList && (decide (0<s.size) && decide (s.size≤12))):=by
 have hsz:s.data.toList.length=s.size:=rfl
 rw[Cu,← hsz]
 cases hl:s.data.toList with
 | nil=>rfl
 | cons c l =>
  have e:Er Q4 (c::l)=(Are c && l.all fun c=>Are c || Asc c):=by
   rw[Bool.eq_iff_iff,allB_iff,Bool.and_eq_true,List.all_eq_true]
   constructor
   ·intro h
    refine⟨by have:=h 0 y_;simpa [Q4] using this,fun x hx=>?_⟩
    obtain ⟨i,hi,rfl⟩:=List.mem_iff_getElem.1 hx
    have:=h (i+1) (by simp;omega)
    simpa [Q4] using this
   ·rintro ⟨h1,h2⟩ i hi
    cases i with
    | zero=>simp[Q4,h1]
    | succ i =>
     have:=h2 (l[i]'(by simp at hi;omega)) (List.getElem_mem _)
     simpa [Q4] using this
  rw[e,Au4]
  simp
theorem It (s:ByteArray) (hs:s.size≤1000000):Sy.Spec Tryz.prog 257 [C7 s] [] (Ab (Cu s)) []:=cT F257 Tryz.ntmps257 fun F hF=>by
 have hsz:s.data.toList.length=s.size:=rfl
 have hw:=Aqz s
 obtain ⟨r,hr⟩:∃ r,Cu s=r:=⟨_,rfl⟩
 rw[hr]at hw ⊢
 refine T ?_
 refine Be s.size (fun j=>Hk Q4 s.data.toList j) (fun j=>[(0,C7 s),(7,Aa s.size),(8,Aa j)]) (fun _=>[]) [] (Bk _ _) U ?_
 intro j hj hI
 refine T ?_
 refine⟨fun h=>?_,fun h=>?_⟩
 ·have hlt:j<s.data.toList.length:=qA h
  have hb:Ep s j=s.data.toList[j]:=Auo hlt
  have hno:=fun h=>Ch (p:=Q4) hlt h
  have hnx:=fun h=>Bf (p:=Q4) hI hlt h
  rw[← hb]at hno hnx
  clear h
  have hx:Q4 j (Ep s j)=((decide (97≤(Ep s j).toNat) && decide ((Ep s j).toNat≤122)) || ((decide (48≤(Ep s j).toNat) && decide ((Ep s j).toNat≤57)) && decide (j≠0))):=rfl
  rcases (by omega:(Ep s j).toNat<48∨(48≤(Ep s j).toNat∧(Ep s j).toNat≤57)∨(57<(Ep s j).toNat∧(Ep s j).toNat<97)∨(97≤(Ep s j).toNat∧(Ep s j).toNat≤122)∨122<(Ep s j).toNat) with h | h | h | h | h
  ·rw[hno (by rw[hx,decide_eq_false (by omega:¬ 97≤(Ep s j).toNat),decide_eq_false (by omega:¬ 48≤(Ep s j).toNat)];rfl),Bool.false_and]at hw
   subst hw
   refine T ?_
   exact D
  ·by_cases h0:j=0
   ·subst h0
    rw[hno (by rw[hx,decide_eq_false (by omega:¬ 97≤(Ep s 0).toNat)];simp),Bool.false_and]at hw
    subst hw
    refine T ?_
    exact D
   ·refine T ?_
    exact Bb [] hI q_ (hnx (by rw[hx];simp[h,h0])) U
  ·rw[hno (by rw[hx,decide_eq_false (by omega:¬ 97≤(Ep s j).toNat),decide_eq_false (by omega:¬ (Ep s j).toNat≤57)];simp),Bool.false_and]at hw
   subst hw
   refine T ?_
   exact D
  ·refine T ?_
   exact Bb [] hI q_ (hnx (by rw[hx];simp[h])) U
  ·rw[hno (by rw[hx,decide_eq_false (by omega:¬ (Ep s j).toNat≤122),decide_eq_false (by omega:¬ (Ep s j).toNat≤57)];simp),Bool.false_and]at hw
   subst hw
   refine T ?_
   exact D
 ·have hje:j=s.size:=qB h
  subst hje
  rw[Dy hI (Nat.le_refl _),Bool.true_and]at hw
  clear h
  subst hw
  by_cases h0:0<s.size
  ·refine T ?_
   refine⟨fun _=>?_,fun h=>absurd (of_decide_eq_false h) q_⟩
   refine T ?_
   refine Ap E (.cons .tmp .nil) (congrArg Ab ?_) E
   rw[decide_eq_true h0,Bool.true_and]
   exact decide_eq_decide.2 q_
  ·rw[decide_eq_false h0,Bool.false_and]
   refine T ?_
   exact D
theorem Agt (m:Nat) (h:m<18446744073709551616):(((bits .and .u64 (m:Int) 281474976710655).fdiv (2 ^ min (Int.toNat 32) IntKind.u64.bits)) != 512)=!(L9 m):=by
 have e:=bits_and_u64_nat m 281474976710655 h j_
 have e2:m &&& 281474976710655=m % 281474976710656:=Nat.and_two_pow_sub_one_eq_mod m 48
 have e3:bits .and .u64 (m:Int) 281474976710655=((m % 281474976710656:Nat):Int):=by rw[← e2];exact e
 have e4:((m % 281474976710656:Nat):Int).fdiv (2 ^ min (Int.toNat 32) IntKind.u64.bits)=((m % 281474976710656 / 4294967296:Nat):Int):=by
  show ((m % 281474976710656:Nat):Int).fdiv 4294967296=_
  rw[Int.fdiv_eq_ediv_of_nonneg _ j_,Int.natCast_ediv];rfl
 rw[e3,e4,L9]
 by_cases hh:m % 281474976710656 / 4294967296=512
 ·rw[hh,decide_eq_true q_];rfl
 ·rw[decide_eq_false q_]
  simp;omega
def Arl (m:Int):Int:=if L9 m=true then IntKind.u32.wrap (bits .and .u64 m 281474976710655) else 0
theorem At4 (m:Nat) (h:m<18446744073709551616):Sy.Spec Tryz.prog 319 [A9 m] [] (.tup [A4 (Arl m),Ab (L9 m)]) []:=cT F319 Tryz.ntmps319 fun F hF=>by
 have hb:=Agt m h
 rw[Arl]
 cases hh:L9 m with
 | true =>
  have hb:=hb.trans (by rw[hh];rfl:_=false)
  rw[if_pos rfl]
  refine T ?_
  exact D
 | false =>
  have hb:=hb.trans (by rw[hh];rfl:_=true)
  rw[if_neg y_]
  refine T ?_
  exact D
theorem An1 (m:Nat) (h:m<18446744073709551616):Sy.Spec Tryz.prog 158 [A9 m] [] (Ab (Hh m)) []:=cT F158 Tryz.ntmps158 fun F hF=>by
 have hb:=Acd m h
 refine T ?_
 exact Ap E (.cons .tmp .nil) (congrArg Ab hb.symm) E
theorem Ae8 (m:Nat) (h:m<18446744073709551616):Sy.Spec Tryz.prog 305 [A9 m] [] (Ab (statB m)) []:=cT F305 Tryz.ntmps305 fun F hF=>by
 have q1:=At4 m h
 have q2:=An1 m h
 have hw:=statB.eq_1 (m:Int)
 rw[Int.toNat_natCast]at hw
 generalize statB (m:Int)=r at *
 generalize Arl (m:Int)=hv at *
 by_cases c1:(m:Int)≤281474976710655
 ·rw[decide_eq_true c1,Bool.true_and]at hw
  have f1:decide ((m:Int)≤281474976710655)=true:=decide_eq_true c1
  cases hh:L9 m with
  | true =>
   rw[hh]at q1 hw
   simp at hw
   subst hw
   refine T ?_
   refine C q1 F319 ?_
   exact D
  | false =>
   rw[hh]at q1 hw
   simp at hw
   subst hw
   refine T ?_
   refine C q1 F319 ?_
   refine C q2 F158 ?_
   exact D
 ·rw[decide_eq_false c1]at hw
  have f1:decide ((m:Int)≤281474976710655)=false:=decide_eq_false c1
  simp at hw
  subst hw
  refine T ?_
  refine C q1 F319 ?_
  exact D
end Go.Sy.YtcflgpijohhfbaaGreat
namespace Go.Sy.YtcflgpijohhfbaaGreat
open Go.Proofs
set_option maxHeartbeats 4000000
theorem k1:Wt ⟨#[100,101,118,105,99,101]⟩=1:=by decide +kernel
theorem k2:Wt ⟨#[112,111,114,116]⟩=2:=by decide +kernel
theorem k3:Wt ⟨#[108,105,110,107]⟩=3:=by decide +kernel
theorem k4:Wt ⟨#[115,116,97,116,105,99]⟩=4:=by decide +kernel
theorem k5:Wt ⟨#[118,116,101,112]⟩=5:=by decide +kernel
theorem k6:Wt ⟨#[118,110,105]⟩=6:=by decide +kernel
theorem k7:Wt ⟨#[102,108,111,111,100]⟩=7:=by decide +kernel
theorem wd0 (a:ByteArray) (l:List ByteArray):wdT (a::l) 0=a:=rfl
theorem st1 (d n m:ByteArray) (r:Int):Abn [⟨#[100,101,118,105,99,101]⟩,d,n,m] r=({ lineZ with row:=r,kind:=1,dev:=d,num:=(Adp n 0 65535).1,mac:=(Xk m).1 },[(!(Cu d),20),(!(Adp n 0 65535).2,21),(!((Xk m).2 && statB (Xk m).1),21)]):=by
 unfold Abn
 simp only[wd0,k1]
 rfl
theorem st3 (d p q f:ByteArray) (r:Int):Abn [⟨#[108,105,110,107]⟩,d,p,q,f] r=({ lineZ with row:=r,kind:=3,dev:=d,port:=p,peer:=q,far:=f },[(!(Cu d),20),(!(Cu p),20),(!(Cu q),20),(!(Cu f),20)]):=by
 unfold Abn
 simp only[wd0,k3]
 rfl
theorem st4 (d v m p:ByteArray) (r:Int):Abn [⟨#[115,116,97,116,105,99]⟩,d,v,m,p] r=({ lineZ with row:=r,kind:=4,dev:=d,vlan:=(Mn v).1,mac:=(Xk m).1,port:=p },[(!(Cu d),20),(!(Mn v).2,21),(!((Xk m).2 && statB (Xk m).1),21),(!(Cu p),20)]):=by
 unfold Abn
 simp only[wd0,k4]
 rfl
theorem Ae6 {a b:Int} (h:subnetB a b=true):1≤b∧b≤30:=by
 simp only[subnetB,Bool.and_eq_true,decide_eq_true_eq]at h
 omega
structure LineOK (l:LineM):Prop where
 mac:0≤l.mac∧l.mac<18446744073709551616
 addr:0≤l.addr∧l.addr<4294967296
 addrs:∀ x∈l.addrs,0≤x∧x<4294967296
end Go.Sy.YtcflgpijohhfbaaGreat
namespace Go.Sy.YtcflgpijohhfbaaGreat
open Go.Proofs
attribute [local irreducible] Go.Sy.G Go.Sy.DR
set_option maxRecDepth 100000
set_option maxHeartbeats 4000000
theorem Ae7 (a:Nat) (b:Int) (ha:a<4294967296):Sy.Spec Tryz.prog 309 [Lc a b] [] (Ab (subnetB a b)) []:=cT F309 Tryz.ntmps309 fun F hF=>by
 have q1:=Aak a b ha
 have q2:=Wa a b ha
 have hs:=subnetB.eq_1 (a:Int) b
 generalize subnetB (a:Int) b=r at *
 generalize E6 (a:Int) b=fi at *
 generalize J1 (a:Int) b=la at *
 by_cases h1:1≤b
 ·by_cases h2:b≤30
  ·by_cases h3:(a:Int)=fi
   ·have f3:((a:Int) != fi)=false:=by rw[bne_eq_false_iff_eq];exact h3
    have hr:r=false:=by rw[hs];simp[h3]
    subst hr
    refine T ?_
    refine C q1 F143 ?_
    exact D
   ·have f3:((a:Int) != fi)=true:=by rw[bne_iff_ne];exact h3
    by_cases h4:(a:Int)=la
    ·have f4:((a:Int) != la)=false:=by rw[bne_eq_false_iff_eq];exact h4
     have hr:r=false:=by rw[hs];simp[h4]
     subst hr
     refine T ?_
     refine C q1 F143 ?_
     refine C q2 F144 ?_
     refine Ap E (.cons .tmp .nil) (congrArg Ab f4.symm) E
    ·have f4:((a:Int) != la)=true:=by rw[bne_iff_ne];exact h4
     have hr:r=true:=by rw[hs];simp[h1,h2,h3,h4]
     subst hr
     refine T ?_
     refine C q1 F143 ?_
     refine C q2 F144 ?_
     refine Ap E (.cons .tmp .nil) (congrArg Ab f4.symm) E
  ·have hr:r=false:=by rw[hs];simp[h2]
   subst hr
   refine T ?_
   exact D
 ·have hr:r=false:=by rw[hs];simp[h1]
  subst hr
  refine T ?_
  exact D
theorem Agw (l:List Int) (v:Int):l.contains v=inB l v:=by
 induction l with
 | nil=>rfl
 | cons x l ih =>
  rw[List.contains_cons,ih,inB,inB,List.any_cons]
  congr 1
  exact Bool.beq_comm
theorem Ac1 (l:LineM) (hl:Ak l.tagged):Sy.Spec Tryz.prog 307 [A2 l] [] (Ab (membersB l.vlan l.tagged)) []:=cT F307 Tryz.ntmps307 fun F hF=>by
 have q:=C0 l.tagged l.vlan hl
 have hm2:=membersB.eq_1 l.vlan l.tagged
 rw[Agw]at hm2
 generalize membersB l.vlan l.tagged=r at *
 generalize inB l.tagged l.vlan=ib at *
 unfold Ak at hl
 by_cases h1:0<l.vlan
 ·have hr:r=!ib:=by rw[hm2];simp[h1]
  subst hr
  refine T ?_
  refine C q F14 ?_
  exact D
 ·by_cases h2:l.tagged.length=0
  ·have hr:r=false:=by
    rw[hm2,decide_eq_false h1,List.eq_nil_of_length_eq_zero h2];rfl
   subst hr
   refine T ?_
   exact D
  ·have hr:r=!ib:=by
    rw[hm2]
    have:l.tagged.isEmpty=false:=by cases ht:l.tagged<;>simp_all
    simp[this]
   have f2:decide ((l.tagged.length:Int)>0)=true:=decide_eq_true q_
   subst hr
   refine T ?_
   refine C q F14 ?_
   exact D
end Go.Sy.YtcflgpijohhfbaaGreat
