/-
  V1 V2 V3 V4 V5 X1 D2 D0 A6 D5 D6 E16 E17 E18 E29 E31 D3 D4 D7 D8 R3 R5 R6 R7 R8 K0 KM K25 Sy30 Sy20 Sy21 Sy31 Sy32 Sy33: parts of a proof, joined by program.
-/
import Derived.Test.YteinjapglfkamaaGreatXC4
import Derived.Test.YteinjapglfkamaaGreatXC3
import Derived.Test.YteinjapglfkamaaGreatXC2
import Derived.ProofKit
import Derived.OpenShut
namespace Go.Sy.YteinjapglfkamaaGreat
open Go.Proofs
attribute [local irreducible] Go.Sy.G Go.Sy.DR
set_option maxRecDepth 20000
set_option maxHeartbeats 4000000
theorem Adp (a:Int):Sy.Spec Tryz.prog 334 [Aa a] [] (Ab false) []:=cT F334 Tryz.ntmps334 fun F hF=>by
 conv=>whnf
 exact Ao E (.cons .tmp .nil) (congrArg Ab qz) E
theorem Ado (a:Int):Sy.Spec Tryz.prog 335 [Aw a] [] (Ab false) []:=cT F335 Tryz.ntmps335 fun F hF=>by
 conv=>whnf
 exact Ao E (.cons .tmp .nil) (congrArg Ab qz) E
def cmpI (a b:Int):Int:=if a<b then -1 else if a>b then 1 else 0
theorem Ik (a b:Int):Sy.Spec Tryz.prog 284 [Aa a,Aa b] [] (Aa (cmpI a b)) []:=cT F284 Tryz.ntmps284 fun F hF=>by
 conv=>whnf
 (repeat' (first | (refine⟨fun h=>?_,fun h=>?_⟩<;>(repeat (first | simp only[decide_eq_true_eq]at h | simp only[decide_eq_false_iff_not]at h))<;>((refine oO ?_))) | (refine Ao rfl (.cons .tmp .nil) ?_ rfl) | (refine c0 (Adp a) F334 ?_;((refine oO ?_))) | (refine c0 (Adp b) F334 ?_;((refine oO ?_);repeat((refine aF ?_);(refine oO ?_))))))
 all_goals (refine congrArg Aa ?_;clear hF;grind [cmpI])
theorem Ai0 (a b:Int):Sy.Spec Tryz.prog 285 [Aw a,Aw b] [] (Aa (cmpI a b)) []:=cT F285 Tryz.ntmps285 fun F hF=>by
 conv=>whnf
 (repeat' (first | (refine⟨fun h=>?_,fun h=>?_⟩<;>(repeat (first | simp only[decide_eq_true_eq]at h | simp only[decide_eq_false_iff_not]at h))<;>((refine oO ?_))) | (refine Ao rfl (.cons .tmp .nil) ?_ rfl) | (refine c0 (Ado a) F335 ?_;((refine oO ?_))) | (refine c0 (Ado b) F335 ?_;((refine oO ?_);repeat((refine aF ?_);(refine oO ?_))))))
 all_goals (refine congrArg Aa ?_;clear hF;grind [cmpI])
def orI:List Int→Int
 | []=>0
 | x::l=>if x=0 then orI l else x
theorem Aa2:∀ {l:List Int} {j:Nat},(∀ i (h:i<l.length),i<j→l[i]=0)→orI l=orI (l.drop j)
 | l,0,_=>rfl
 | [],j+1,_=>rfl
 | x::l,j+1,h=>by
  have h0:=h 0 qz qn
  simp only[List.getElem_cons_zero]at h0
  rw[orI,if_pos h0,List.drop_succ_cons]
  exact Aa2 fun i hi hij=>h (i+1) (by simp;omega) qn
theorem orS (l:List Int) (hl:Al l):Sy.Spec Tryz.prog 283 [.sl 1 Aa l] [] (Aa (orI l)) []:=cT F283 Tryz.ntmps283 fun F hF=>by
 unfold Al at hl
 conv=>whnf
 refine Av l.length (fun j=>∀ i (h:i<l.length),i<j→l[i]=0) (fun j=>[(3,Aa 0),(6,.sl 1 Aa l),(7,Aa l.length),(8,Aa j)]) (fun _=>[]) [] (fun i h hj=>absurd hj qn) ⟨⟨E,E,E,E,E,E,E,E,Y⟩,Y,E,E⟩ ?_
 intro j hj hI
 refine oO ?_
 (repeat' (first | (refine⟨fun h=>?_,fun h=>?_⟩<;>(repeat (first | simp only[decide_eq_true_eq]at h | simp only[decide_eq_false_iff_not]at h | simp only[bne_iff_ne]at h | simp only[bne_eq_false_iff_eq]at h))<;>((refine oO ?_))) | (refine Ao rfl (.cons .tmp .nil) ?_ rfl) | (refine⟨qq,?_⟩;((conv=>whnf))) | (refine⟨by (omega),by (omega),?_⟩;((conv=>whnf))) | (refine⟨by (unfold I64;omega),?_⟩;((conv=>whnf))) | refine As [] hI qn ?_ ⟨⟨rfl,rfl,rfl,rfl,rfl,rfl,rfl,rfl,trivial⟩,trivial,rfl,rfl⟩))
 all_goals try (refine congrArg Aa ?_)
 ·have hj2:j<l.length:=by omega
  rw[Aa2 hI,List.drop_eq_getElem_cons hj2,orI,if_neg (by simpa using h)]
  rfl
 ·intro i hi hij
  rcases Nat.lt_or_ge i j with h1 | h1
  ·exact hI i hi h1
  ·have:i=j:=by omega
   subst this
   simpa using h
 ·rw[Aa2 hI,List.drop_of_length_le qn]
  rfl
theorem Om (a b:Int) (l:List Int):decide (orI (cmpI a b::l)<0)=if a≠b then decide (a<b) else decide (orI l<0):=by
 rw[orI,cmpI]
 by_cases h1:a<b
 ·simp[h1,show a≠b by omega]
 ·by_cases h2:a>b
  ·simp[h1,h2,show a≠b by omega]
  ·simp[show a=b by omega]
structure Vec where
 (root cost bridge port own:Int)
def D2 (v:Vec):SV:=.agg [Aa v.root,Aa v.cost,Aa v.bridge,Aa v.port,Aa v.own]
def Ch (a b:Vec):Bool :=
 if a.root≠b.root then decide (a.root<b.root) else if a.cost≠b.cost then decide (a.cost<b.cost) else if a.bridge≠b.bridge then decide (a.bridge<b.bridge) else
  if a.port≠b.port then decide (a.port<b.port) else decide (a.own<b.own)
theorem lessS (a b:Vec):Sy.Spec Tryz.prog 338 [D2 a,D2 b] [] (Ab (Ch a b)) []:=cT F338 Tryz.ntmps338 fun F hF=>by
 conv=>whnf
 (repeat' (first | (refine⟨fun h=>?_,fun h=>?_⟩<;>(repeat (first | simp only[beq_iff_eq]at h | simp only[beq_eq_false_iff_ne]at h | simp only[Bool.and_eq_true]at h | simp only[Bool.and_eq_false_iff]at h))<;>((refine oO ?_))) | (refine Ao rfl (.cons .tmp .nil) ?_ rfl) | (refine⟨qq,?_⟩;((conv=>whnf))) | (refine cD (Ik a.root b.root) F284 ?_;((refine rd qq ?_);(conv=>whnf))) | (refine cD (Ik a.cost b.cost) F284 ?_;((refine rd qq ?_);(conv=>whnf))) | (refine cD (Ik a.bridge b.bridge) F284 ?_;((refine rd qq ?_);(conv=>whnf))) | (refine cD (Ik a.port b.port) F284 ?_;((refine rd qq ?_);(conv=>whnf))) | (refine cD (Ik a.own b.own) F284 ?_;((refine rd qq ?_);(conv=>whnf))) | (refine Asx [33] (orS [cmpI a.root b.root,cmpI a.cost b.cost,cmpI a.bridge b.bridge,cmpI a.port b.port,cmpI a.own b.own] (by simp[Al])) F283 rfl (.cons (.lit rfl rfl rfl) .nil) rfl qq rfl ?_;((refine rd qq ?_);(conv=>whnf)))))
 all_goals (refine congrArg Ab ?_;clear hF)
 ·grind [Ch]
 ·rw[Om,Om,Om,Om,Om,Ch]
  by_cases h1:a.own=b.own
  ·simp[h1,orI]
  ·simp[h1]
theorem Ard (a b:Vec):Sy.Spec Tryz.prog 313 [D2 a,D2 b] [] (Ab (Ch a b)) []:=cT F313 Tryz.ntmps313 fun F hF=>by
 conv=>whnf
 (repeat' (first | (refine⟨fun h=>?_,fun h=>?_⟩<;>(repeat (first | simp only[bne_iff_ne]at h | simp only[bne_eq_false_iff_eq]at h))<;>((refine oO ?_))) | (refine Ao rfl (.cons .tmp .nil) ?_ rfl)))
 all_goals (refine congrArg Ab ?_;clear hF;grind [Ch])
def Q3 (lt:Int→Int→Bool) (x:Int):List Int→List Int
 | []=>[x]
 | y::r=>if lt x y then y::Q3 lt x r else x::y::r
def E8 (lt:Int→Int→Bool) (l:List Int):List Int:=l.foldl (fun r x=>Q3 lt x r) []
def T1 (lt:Int→Int→Bool) (l:List Int):List Int:=(E8 lt l).reverse
theorem Xq (lt:Int→Int→Bool) (x:Int):∀ r,(Q3 lt x r).Perm (x::r)
 | []=>.refl _
 | y::r=>by
  rw[Q3]
  split
  ·exact((Xq lt x r).cons y).trans (.swap x y r)
  ·exact .refl _
theorem O8 (lt:Int→Int→Bool):∀ (l r:List Int),(l.foldl (fun r x=>Q3 lt x r) r).Perm (l++r)
 | [],r=>.refl _
 | x::l,r=>by
  rw[List.foldl_cons]
  refine(O8 lt l _).trans ?_
  refine((Xq lt x r).append_left l).trans ?_
  simp
theorem Ls (lt:Int→Int→Bool) (l:List Int):(E8 lt l).Perm l:=by
 have:=O8 lt l []
 simpa [E8] using this
theorem Ut (lt:Int→Int→Bool) (l:List Int):(T1 lt l).Perm l:=(List.reverse_perm _).trans (Ls lt l)
theorem Aia (lt:Int→Int→Bool) (l:List Int) (i:Nat) (h:i<l.length):E8 lt (l.take (i+1))=Q3 lt l[i] (E8 lt (l.take i)):=by
 rw[List.take_succ_eq_append_getElem h,E8,List.foldl_append]
 rfl
mutual
theorem V4 {K:List Nat}:∀ x:SV,x.inn []=true→x.inn K=true
 | .ptr _ _,h=>by simp[SV.inn,Mn]at h
 | .rpt _ _ _ _,h=>by simp[SV.inn,Mn]at h
 | .osl _,h=>by simp[SV.inn,Mn]at h
 | .agg l,h=>by simp only[SV.inn]at h ⊢;exact Q4 l h
 | .tup l,h=>by simp only[SV.inn]at h ⊢;exact Q4 l h
 | .ifc _ x,h=>by simp only[SV.inn]at h ⊢;exact V4 x h
 | .clo _ f l,h=>by simp only[SV.inn,Bool.and_eq_true]at h ⊢;exact⟨Q4 f h.1,Q4 l h.2⟩
 | .top,_=>rfl
 | .val _,_=>rfl
 | .sl _ _ _,_=>rfl
 | .ref _ _ _,_=>rfl
theorem Q4 {K:List Nat}:∀ l:List SV,Cj [] l=true→Cj K l=true
 | [],_=>rfl
 | x::l,h=>by simp only[Cj,Bool.and_eq_true]at h ⊢;exact⟨V4 x h.1,Q4 l h.2⟩
end
theorem Abg (l:List Int) (c:Int→Int→Int) (Q:Int→Prop) (f:FuncId) (first cap:List SV) (hc:(SV.clo (.func f) first cap).inn []=true) (hf:∀ a b,Q a→Q b→I7 Tryz.prog f (first++[Aa a,Aa b]++cap) (Aa (c a b))) (hQ:∀ a∈l,Q a) (hl:Al l) :
  Sy.Spec Tryz.prog 373 [.osl 0,Aa 0,Aa l.length,.clo (.func f) first cap] [(0,.row 1 Aa l)] (.tup []) [(0,.row 1 Aa (T1 (fun a b=>decide (c a b<0)) l))]:=cT F373 Tryz.ntmps373 fun F hF=>by
 unfold Al at hl
 have hin:∀ x y:Int,Cj [] (first++[Aa x,Aa y]++cap)=true:=fun x y=>Dd hc rfl
 have hc':(SV.clo (.func f) first cap).inn [0]=true:=V4 _ hc
 generalize hlt:(fun a b=>decide (c a b<0))=lt
 conv=>whnf
 (repeat' (refine⟨by (unfold I64;omega),?_⟩;((conv=>whnf))))
 refine Av l.length (fun _=>True) (fun j=>[(0,.osl 0),(1,Aa 0),(2,Aa l.length),(3,.clo (.func f) first cap),(8,Aa ((j:Int)+1))]) (fun j=>[(0,.row 1 Aa ((E8 lt (l.take (j+1))).reverse++l.drop (j+1)))]) [] Y ⟨⟨E,E,E,E,E,E,Bj _,hc',E,E,Y⟩,⟨.inl (congrArg (Ob.row 1 Aa) ?_),E,Y⟩,E,E⟩ ?_
 ·cases l with
  | nil=>rfl
  | cons a l=>simp[E8,Q3]
 intro j hj _
 refine oO ?_
 refine⟨fun h=>?_,fun h=>?_⟩
 ·have hjl:j+1<l.length:=qA h
  have hdrop:l.drop (j+1)=l[j+1]::l.drop (j+1+1):=List.drop_eq_getElem_cons hjl
  have htake:=Aia lt l (j+1) hjl
  have hr:(E8 lt (l.take (j+1))).length=j+1:=by rw[(Ls lt _).length_eq];simp;omega
  have hQx:Q l[j+1]:=hQ _ (List.getElem_mem hjl)
  have hQr:∀ z∈E8 lt (l.take (j+1)),Q z:=fun z hz=>hQ z (List.mem_of_mem_take ((Ls lt _).mem_iff.1 hz))
  rw[hdrop]
  generalize l[j+1]=x at htake hQx
  generalize E8 lt (l.take (j+1))=r at htake hr hQr
  generalize hR:l.drop (j+1+1)=R at *
  refine oO ?_
  refine Sr (α:={p:List Int × List Int // Q3 lt x r=p.2.reverse++Q3 lt x p.1∧p.1.length+p.2.length=j+1∧∀ z∈p.1,Q z}) (fun p=>[(0,.osl 0),(1,Aa 0),(2,Aa l.length),(3,.clo (.func f) first cap),(8,Aa ((j:Int)+1)),(9,Aa p.1.1.length)]) (fun p=>[(0,.row 1 Aa (p.1.1.reverse++x::(p.1.2++R)))]) (fun p=>p.1.1.length) ⟨(r,[]),by simp,by simpa using hr,hQr⟩ []
   ⟨⟨rfl,rfl,rfl,rfl,rfl,rfl,Bj _,hc',rfl,rfl,congrArg Aa (by rw[hr];omega),rfl,trivial⟩,⟨.inl rfl,rfl,trivial⟩,rfl,rfl⟩ ?_
  rintro ⟨⟨A,B⟩,hp1,hp2,hp3⟩
  simp only at hp1 hp2 hp3
  dsimp only
  cases A with
  | nil =>
   simp only[Q3]at hp1
   (refine rg ?_;(conv=>whnf);refine aF ?_;refine oD ?_)
   refine⟨qq,?_⟩
   ((conv=>whnf);refine aF ?_;refine rg ?_;conv=>whnf)
   refine iW ?_
   refine As [] Y qn Y ⟨⟨E,E,E,E,E,E,Bj _,hc',congrArg Aa qn,E,Y⟩,⟨.inl (congrArg (Ob.row 1 Aa) ?_),E,Y⟩,E,E⟩
   show (E8 lt (l.take (j+1+1))).reverse++l.drop (j+1+1)=[].reverse++x::(B++R)
   rw[htake,hp1,hR]
   simp
  | cons y A =>
   have hQy:=hp3 y qz
   refine oO ?_
   refine⟨fun _=>?_,fun h=>absurd (of_decide_eq_false h) qz⟩
   refine oD ?_
   have e1:((y::A).reverse++x::(B++R))[(((y::A).length:Nat):Int).toNat]'qz=x:=by simp
   have e2:((y::A).reverse++x::(B++R))[((((y::A).length:Nat):Int)-1).toNat]'qz=y:=by simp
   refine⟨by omega,by simp,?_⟩
   conv=>whnf
   refine⟨E,by simp,?_⟩
   rw[e1]
   conv=>whnf
   refine⟨by unfold I64;simp at hp2;simp;omega,?_⟩
   conv=>whnf
   refine⟨by simp,by simp,?_⟩
   conv=>whnf
   refine⟨E,by simp,?_⟩
   rw[e2]
   conv=>whnf
   refine Al4 (hf x y hQx hQy) E E E (by simp only[hin];rfl) qq E ?_
   refine oD ?_
   refine kW ?_
   refine⟨fun h2=>?_,fun h2=>?_⟩
   ·refine oO ?_
    refine⟨by unfold I64;simp at hp2;simp;omega,?_⟩
    conv=>whnf
    refine⟨by unfold I64;simp at hp2;simp;omega,?_⟩
    conv=>whnf
    refine⟨by simp,by simp,?_⟩
    conv=>whnf
    refine⟨E,by simp,?_⟩
    rw[e2]
    conv=>whnf
    refine⟨by omega,by simp,?_⟩
    conv=>whnf
    refine⟨E,by simp,?_⟩
    rw[e1]
    conv=>whnf
    refine⟨by omega,by simp,?_⟩
    conv=>whnf
    refine⟨E,by simp,y,E,E,?_⟩
    conv=>whnf
    refine⟨by simp,by simp,?_⟩
    conv=>whnf
    refine⟨E,by simp,x,E,E,?_⟩
    conv=>whnf
    refine kW ?_
    refine⟨by unfold I64;simp at hp2;simp;omega,?_⟩
    conv=>whnf
    have hxy:lt x y=true:=by rw[← hlt];exact h2
    refine Ub (α:={p:List Int × List Int // Q3 lt x r=p.2.reverse++Q3 lt x p.1∧p.1.length+p.2.length=j+1∧∀ z∈p.1,Q z}) (L:=fun p=>[(0,.osl 0),(1,Aa 0),(2,Aa l.length),(3,.clo (.func f) first cap),(8,Aa ((j:Int)+1)),(9,Aa p.1.1.length)]) (O:=fun p=>[(0,.row 1 Aa (p.1.1.reverse++x::(p.1.2++R)))]) (μ:=fun p=>p.1.1.length) (x:=⟨(y::A,B),hp1,hp2,hp3⟩)
     ⟨(A,y::B),by simp only[hp1,Q3,hxy,if_true];simp,by simp at hp2 ⊢;omega,fun z hz=>hp3 z (by simp[hz])⟩ [] qz
     ⟨⟨rfl,rfl,rfl,rfl,rfl,rfl,Bj _,hc',rfl,rfl,congrArg Aa qz,rfl,trivial⟩,⟨.inl (congrArg (Ob.row 1 Aa) ?_),rfl,trivial⟩,rfl,rfl⟩
    simp
   ·refine oO ?_
    have hxy:lt x y=false:=by rw[← hlt];exact h2
    refine iW ?_
    refine As [] Y qn Y ⟨⟨E,E,E,E,E,E,Bj _,hc',congrArg Aa qn,E,Y⟩,⟨.inl (congrArg (Ob.row 1 Aa) ?_),E,Y⟩,E,E⟩
    show (E8 lt (l.take (j+1+1))).reverse++l.drop (j+1+1)=(y::A).reverse++x::(B++R)
    rw[htake,hp1,hR,Q3,hxy]
    simp
 ·have h:=of_decide_eq_false h
  have e:(E8 lt (l.take (j+1))).reverse++l.drop (j+1)=T1 lt l:=by
   rw[List.take_of_length_le qn,List.drop_of_length_le qn,List.append_nil]
   rfl
  rw[e]
  refine oO ?_
  exact Bg E .nil [] [(0,.row 1 Aa (T1 lt l))] (fun _ h=>h) E E ⟨Y,⟨.inl E,E,Y⟩,E,E⟩
theorem Atr (l:List Int) (c:Int→Int→Int) (Q:Int→Prop) (f:FuncId) (first cap:List SV) (hc:(SV.clo (.func f) first cap).inn []=true) (hf:∀ a b,Q a→Q b→I7 Tryz.prog f (first++[Aa a,Aa b]++cap) (Aa (c a b))) (hQ:∀ a∈l,Q a) (hl:l.length<20) :
  Sy.Spec Tryz.prog 333 [.osl 0,Aa l.length,.clo (.func f) first cap] [(0,.row 1 Aa l)] (.tup []) [(0,.row 1 Aa (T1 (fun a b=>decide (c a b<0)) l))]:=cT F333 Tryz.ntmps333 fun F hF=>by
 have hc':(SV.clo (.func f) first cap).inn [0]=true:=V4 _ hc
 have hins:=Abg l c Q f first cap hc hf hQ (by unfold Al;omega)
 generalize T1 (fun a b=>decide (c a b<0)) l=l' at hins
 conv=>whnf
 refine Aq 0 (fun j=>[(0,.osl 0),(1,Aa l.length),(2,.clo (.func f) first cap),(6,Aa 20),(7,Aa 0),(8,Aa 20)]) (fun _=>[(0,.row 1 Aa l)]) [] ⟨⟨E,E,E,E,Bj _,hc',E,E,E,E,E,E,Y⟩,⟨.inl E,E,Y⟩,E,E⟩ ?_
 intro j hj
 refine oO ?_
 refine⟨fun h=>absurd (of_decide_eq_true h) qn,fun _=>?_⟩
 refine oO ?_
 refine Ae (Ah [] E F373 hins (Hz _) ⟨E,Y⟩ (by
  have h0:Cj [0] [.osl 0,Aa 0,Aa l.length,.clo (.func f) first cap]=true:=by simp only[Cj,hc'];rfl
  simp only[J6,Obs.keys,List.map_cons,List.map_nil,h0];rfl) ⟨.inl rfl,trivial⟩) rfl rfl ?_
 refine oO ?_
 refine Aq 0 (fun j=>[(1,Aa l.length),(6,Aa 20)]) (fun _=>[(0,.row 1 Aa l')]) [] ⟨⟨E,E,E,E,Y⟩,⟨.inl E,E,Y⟩,E,E⟩ ?_
 clear hj
 intro j hj
 refine oO ?_
 refine⟨fun h=>absurd (of_decide_eq_true h) qn,fun _=>?_⟩
 refine oO ?_
 exact Bg E .nil [] [(0,.row 1 Aa l')] (fun _ h=>h) E E ⟨Y,⟨.inl E,E,Y⟩,E,E⟩
theorem Agm (l:List Int) (c:Int→Int→Int) (Q:Int→Prop) (f:FuncId) (first cap:List SV) (hc:(SV.clo (.func f) first cap).inn []=true) (hf:∀ a b,Q a→Q b→I7 Tryz.prog f (first++[Aa a,Aa b]++cap) (Aa (c a b))) (hQ:∀ a∈l,Q a) (hl:l.length<20) :
  Sy.Spec Tryz.prog 281 [.osl 0,.clo (.func f) first cap] [(0,.row 1 Aa l)] (.tup []) [(0,.row 1 Aa (T1 (fun a b=>decide (c a b<0)) l))]:=cT F281 Tryz.ntmps281 fun F hF=>by
 have hc':(SV.clo (.func f) first cap).inn [0]=true:=V4 _ hc
 have hst:=Atr l c Q f first cap hc hf hQ hl
 generalize T1 (fun a b=>decide (c a b<0)) l=l' at hst
 conv=>whnf
 refine Ae (Ah [] E F333 hst (Hz _) ⟨E,Y⟩ (by
  have h0:Cj [0] [.osl 0,Aa l.length,.clo (.func f) first cap]=true:=by simp only[Cj,hc'];rfl
  simp only[J6,Obs.keys,List.map_cons,List.map_nil,h0];rfl) ⟨.inl rfl,trivial⟩) rfl rfl ?_
 refine oO ?_
 exact Bg E .nil [] [(0,.row 1 Aa l')] (fun _ h=>h) E E ⟨Y,⟨.inl E,E,Y⟩,E,E⟩
def Aco (n:Net) (a b:Int):Int:=orI [cmpI (nth n.devices a).prio (nth n.devices b).prio,cmpI (nth n.devices a).mac (nth n.devices b).mac]
theorem ranks1 (n:Net) (a b:Int) (ha:0≤a∧a<n.devices.length) (hb:0≤b∧b<n.devices.length):Sy.Spec Tryz.prog 282 [Aa a,Aa b,.ref 8 (Aj n) 0] [] (Aa (Aco n a b)) []:=cT F282 Tryz.ntmps282 fun F hF=>by
 have e1:Aco n a b=orI [cmpI (n.devices[a.toNat]'qn).prio (n.devices[b.toNat]'qn).prio,cmpI (n.devices[a.toNat]'qn).mac (n.devices[b.toNat]'qn).mac]:=by
  rw[Aco,Ag qn,Ag qn]
 rw[e1]
 conv=>whnf
 (repeat' (first | (refine Ao rfl (.cons .tmp .nil) ?_ rfl) | (refine⟨qq,?_⟩;((conv=>whnf))) | (refine⟨by (omega),by (omega),?_⟩;((conv=>whnf))) | (refine cD (Ik (n.devices[a.toNat]'qn).prio (n.devices[b.toNat]'qn).prio) F284 ?_;((refine rd qq ?_);(conv=>whnf))) | (refine cD (Ai0 (n.devices[a.toNat]'qn).mac (n.devices[b.toNat]'qn).mac) F285 ?_;((refine rd qq ?_);(conv=>whnf))) | (refine Asx [28] (orS [cmpI (n.devices[a.toNat]'qn).prio (n.devices[b.toNat]'qn).prio,cmpI (n.devices[a.toNat]'qn).mac (n.devices[b.toNat]'qn).mac] (by simp[Al])) F283 rfl (.cons (.lit rfl rfl rfl) .nil) rfl qq rfl ?_;((refine rd qq ?_);(conv=>whnf)))))
 all_goals rfl
def Vt (m:Nat):List Int:=(List.range m).map fun (i:Nat)=>(i:Int)
theorem Ade (m:Nat):Vt (m+1)=Vt m++[(m:Int)]:=by simp[Vt,List.range_succ]
theorem Ju (m:Nat):(Vt m).length=m:=by simp[Vt]
def It (ord:List Int):Nat→List Int
 | 0=>List.replicate ord.length 0
 | j+1=>(It ord j).set (nth ord j).toNat j
theorem H1 (ord:List Int):∀ j,(It ord j).length=ord.length
 | 0=>by simp[It]
 | j+1=>by simp[It,H1 ord j]
def Ei (n:Net):List Int:=T1 (fun a b=>decide (Aco n a b<0)) (Vt n.devices.length)
def C0 (n:Net):List Int:=It (Ei n) n.devices.length
theorem ranksS (n:Net) (hn:n.Fin):Sy.Spec Tryz.prog 220 [Aj n] [] (.sl 1 Aa (if Ac n then C0 n else [])) []:=cT F220 Tryz.ntmps220 fun F hF=>by
 have hl:=hn.devices
 unfold Al at hl
 conv=>whnf
 refine c0 (Br n hn) F23 ?_
 refine oO ?_
 refine⟨fun h=>?_,fun h=>?_⟩
 ·have h:Ac n=false:=by simpa using h
  refine oO ?_
  refine Ai 2 1 Aa E ?_
  exact Ao E (.cons .tmp .nil) (by rw[h];rfl) E
 have h:Ac n=true:=by simpa using h
 have h8:n.devices.length≤8:=by
  simp only[Ac,Alr,Bool.and_eq_true,decide_eq_true_eq]at h
  exact h.1.1.1.1.1.1.1.1.1.1.1.1.1.1.1
 rw[h,if_pos rfl,C0]
 refine oO ?_
 refine A0 1 8 (Aj n) E E E ?_
 refine Bo 3 1000 1 Aa E E ?_
 refine Aq n.devices.length (fun j=>[(1,.ref 8 (Aj n) 0),(3,.osl 1000),(13,Aa n.devices.length),(14,Aa j)]) (fun j=>[(1000,.row 1 Aa (Vt j))]) [] ⟨⟨E,E,E,E,E,E,E,E,Y⟩,⟨.inl E,E,Y⟩,E,E⟩ ?_
 intro j hj
 refine oO ?_
 refine⟨fun h2=>?_,fun h2=>?_⟩
 ·have hlt:j<n.devices.length:=by simpa using h2
  refine oO ?_
  refine Ae (Ad Γ.toTy 20 E E E E E (.row E) (.lit (l:=[(j:Int)]) E E) qz (by simp[Ju];omega) (by simp[Ju];omega)) E E ?_
  refine oO ?_
  refine iW ?_
  exact An [(1000,20)] hlt ⟨⟨E,E,E,E,E,E,E,E,Y⟩,⟨.inl (congrArg (Ob.row 1 Aa) (Ade j)),E,Y⟩,E,E⟩
 have hjl:j=n.devices.length:=by have:¬ j<n.devices.length:=(by simpa using h2);omega
 subst hjl
 refine oO ?_
 have hsort:=Agm (Vt n.devices.length) (Aco n) (fun a=>0≤a∧a<n.devices.length) 282 [] [.ref 8 (Aj n) 0] rfl (fun a b ha hb=>⟨⟨_,_,F282⟩,ranks1 n a b ha hb⟩) (fun a ha=>by
  obtain ⟨i,hi,rfl⟩:=List.mem_map.1 ha
  have:=List.mem_range.1 hi
  omega) (by rw[Ju];omega)
 have hslen:(Ei n).length=n.devices.length:=by rw[Ei,(Ut _ _).length_eq,Ju]
 have hsm:∀ a∈Ei n,0≤a∧a<n.devices.length:=fun a ha=>by
  have:=(Ut _ _).mem_iff.1 ha
  obtain ⟨i,hi,rfl⟩:=List.mem_map.1 this
  have:=List.mem_range.1 hi
  omega
 change Sy.Spec _ _ _ _ _ [(0,.row 1 Aa (Ei n))]at hsort
 generalize Ei n=sl at hsort hslen hsm
 refine Ae (Ah [(0,1000)] E F281 hsort E ⟨E,Y⟩ E ⟨.inl E,Y⟩) E E ?_
 refine oO ?_
 refine Ae (Bm Γ.toTy (d:=27) (n:=sl.length) Aa 0 E E E E E E E E qn qn E E E) E E ?_
 refine oO ?_
 refine Aq sl.length (fun j=>[(5,.osl 27),(28,.osl 1000),(29,Aa sl.length),(30,Aa j)]) (fun j=>[(1000,.row 1 Aa sl),(27,.row 1 Aa (It sl j))]) [] ⟨⟨E,E,E,E,E,E,E,E,Y⟩,⟨.inl E,E,.inl E,E,Y⟩,E,E⟩ ?_
 clear hj h2
 intro j hj
 refine oO ?_
 refine⟨fun h2=>?_,fun h2=>?_⟩
 ·have hlt:j<sl.length:=by simpa using h2
  have hmj:=hsm _ (List.getElem_mem hlt)
  have hnth:nth sl j=sl[j]:=Ag (by simpa using hlt)
  have hfl:=H1 sl j
  refine oO ?_
  refine⟨by omega,by omega,?_⟩
  conv=>whnf
  refine⟨E,by omega,?_⟩
  conv=>whnf
  refine⟨hmj.1,by rw[hfl];exact(by omega:sl[j].toNat<sl.length),?_⟩
  conv=>whnf
  refine⟨E,by rw[hfl];exact(by omega:sl[j].toNat<sl.length),(j:Int),E,E,?_⟩
  conv=>whnf
  refine iW ?_
  exact An [] hlt ⟨⟨E,E,E,E,E,E,E,E,Y⟩,⟨.inl E,E,.inl (congrArg (Ob.row 1 Aa) (by rw[It,hnth];rfl)),E,Y⟩,E,E⟩
 have hjl:j=n.devices.length:=by
  have:¬ j<sl.length:=by simpa using h2
  omega
 subst hjl
 refine oO ?_
 refine Ap 27 E ?_
 exact dN
def Ci (n:Net) (a b:Int):Bool :=
 if (nth n.devices a).prio≠(nth n.devices b).prio then decide ((nth n.devices a).prio<(nth n.devices b).prio) else
  if (nth n.devices a).mac≠(nth n.devices b).mac then decide ((nth n.devices a).mac<(nth n.devices b).mac) else decide (a<b)
theorem aheadS (n:Net) (a b:Int) (ha:0≤a∧a<n.devices.length) (hb:0≤b∧b<n.devices.length):Sy.Spec Tryz.prog 364 [Aj n,Aa a,Aa b] [] (Ab (Ci n a b)) []:=cT F364 Tryz.ntmps364 fun F hF=>by
 have e1:=Ag (l:=n.devices) (i:=a) qn
 have e2:=Ag (l:=n.devices) (i:=b) qn
 unfold Ci
 rw[e1,e2]
 conv=>whnf
 (repeat' (first | (refine⟨fun h=>?_,fun h=>?_⟩<;>(repeat (first | simp only[bne_iff_ne]at h | simp only[bne_eq_false_iff_eq]at h))<;>((refine oO ?_))) | (refine Ao rfl (.cons .tmp .nil) ?_ rfl) | (refine⟨qq,?_⟩;((conv=>whnf))) | (refine⟨by (omega),by (omega),?_⟩;((conv=>whnf)))))
 all_goals (refine congrArg Ab ?_;clear hF;grind)
def Ko (n:Net):List Int:=(List.range n.devices.length).map fun (i:Nat)=>(((List.range n.devices.length).countP fun k=>Ci n (k:Nat) i:Nat):Int)
theorem Aol (n:Net) (hn:n.Fin):Sy.Spec Tryz.prog 312 [Aj n] [] (.sl 1 Aa (Ko n)) []:=cT F312 Tryz.ntmps312 fun F hF=>by
 have hl:=hn.devices
 unfold Al at hl
 conv=>whnf
 refine A0 1 8 (Aj n) E E E ?_
 refine Bo 3 1000 1 Aa E E ?_
 refine Aq n.devices.length (fun j=>[(1,.ref 8 (Aj n) 0),(3,.osl 1000),(4,Aa j)]) (fun j=>[(1000,.row 1 Aa ((List.range j).map fun (i:Nat)=>(((List.range n.devices.length).countP fun k=>Ci n (k:Nat) i:Nat):Int)))]) [] ⟨⟨E,E,E,E,E,E,Y⟩,⟨.inl E,E,Y⟩,E,E⟩ ?_
 intro j hj
 refine oO ?_
 refine⟨fun h2=>?_,fun h2=>?_⟩
 ·have hlt:j<n.devices.length:=by simpa using h2
  refine oO ?_
  refine Aq n.devices.length (fun k=>[(1,.ref 8 (Aj n) 0),(3,.osl 1000),(4,Aa j),(5,Aa ((List.range k).countP fun q=>Ci n (q:Nat) j:Nat)),(6,Aa k)]) (fun _=>[(1000,.row 1 Aa ((List.range j).map fun (i:Nat)=>(((List.range n.devices.length).countP fun k=>Ci n (k:Nat) i:Nat):Int)))]) [] ⟨⟨E,E,E,E,E,E,E,E,E,E,Y⟩,⟨.inl E,E,Y⟩,E,E⟩ ?_
  intro k hk
  have hcnt:((List.range k).countP fun q=>Ci n (q:Nat) j)≤k:=by
   have:=List.countP_le_length (p:=fun q=>Ci n (q:Nat) j) (l:=List.range k)
   simpa using this
  refine oO ?_
  refine⟨fun h3=>?_,fun h3=>?_⟩
  ·have hlt2:k<n.devices.length:=by simpa using h3
   refine oO ?_
   refine c0 (aheadS n k j qn qn) F364 ?_
   refine oO ?_
   refine⟨fun h4=>?_,fun h4=>?_⟩
   ·refine oO ?_
    refine iW ?_
    refine iW ?_
    exact An [] hlt2 ⟨⟨E,E,E,E,E,E,congrArg Aa (by rw[List.range_succ];simp[h4]),E,E,E,Y⟩,⟨.inl E,E,Y⟩,E,E⟩
   ·refine oO ?_
    refine iW ?_
    exact An [] hlt2 ⟨⟨E,E,E,E,E,E,congrArg Aa (by rw[List.range_succ];simp[h4]),E,E,E,Y⟩,⟨.inl E,E,Y⟩,E,E⟩
  have hkl:k=n.devices.length:=by
   have:¬ k<n.devices.length:=by simpa using h3
   omega
  subst hkl
  refine oO ?_
  refine Ae (Ad Γ.toTy 30 E E E E E (.row E) (.lit (l:=[_]) E E) qz (by simp;omega) (by simp;omega)) E E ?_
  refine oO ?_
  refine iW ?_
  exact An [(1000,30)] hlt ⟨⟨E,E,E,E,E,E,Y⟩,⟨.inl (congrArg (Ob.row 1 Aa) (by rw[List.range_succ,List.map_append];rfl)),E,Y⟩,E,E⟩
 have hjl:j=n.devices.length:=by
  have:¬ j<n.devices.length:=by simpa using h2
  omega
 subst hjl
 refine oO ?_
 refine Ap 1000 E ?_
 exact dN
end Go.Sy.YteinjapglfkamaaGreat
namespace Go.Sy.YteinjapglfkamaaGreat
theorem key_lt (n:Net) (a b:Int):decide (Aco n a b<0)=if (nth n.devices a).prio≠(nth n.devices b).prio then decide ((nth n.devices a).prio<(nth n.devices b).prio) else
  if (nth n.devices a).mac≠(nth n.devices b).mac then decide ((nth n.devices a).mac<(nth n.devices b).mac) else false:=by
 rw[Aco,Om,Om]
 rfl
theorem O1 (n:Net) (a:Int):Ci n a a=false:=by simp[Ci]
theorem Y3 (n:Net) {a b c:Int} (h1:Ci n a b=true) (h2:Ci n b c=true):Ci n a c=true:=by
 unfold Ci at *
 generalize nth n.devices a=x at *
 generalize nth n.devices b=y at *
 generalize nth n.devices c=z at *
 grind
theorem Ajc (n:Net) {a b:Int} (h1:Ci n a b=true):Ci n b a=false:=by
 cases h:Ci n b a with
 | false=>rfl
 | true=>have:=Y3 n h1 h;rw[O1]at this;cases this
theorem Adn (n:Net) {x y:Int} (h:y<x):decide (Aco n x y<0)=Ci n x y:=by
 rw[key_lt]
 unfold Ci
 generalize nth n.devices x=p at *
 generalize nth n.devices y=q at *
 grind
theorem Auc (n:Net) {x y:Int} (h:y<x) (hk:Ci n x y=false):Ci n y x=true:=by
 unfold Ci at *
 generalize nth n.devices x=p at *
 generalize nth n.devices y=q at *
 grind
theorem Adq (n:Net) (x:Int):∀ (r:List Int),(∀ y∈r,y<x)→r.Pairwise (fun a b=>Ci n b a=true)→(Q3 (fun a b=>decide (Aco n a b<0)) x r).Pairwise (fun a b=>Ci n b a=true)
 | [],_,_=>by simp[Q3]
 | y::r,hx,hp=>by
  have hy:=hx y qz
  rw[List.pairwise_cons]at hp
  rw[Q3]
  split
  ·rename_i hlt
   rw[Adn n hy]at hlt
   rw[List.pairwise_cons]
   refine⟨fun z hz=>?_,Adq n x r (fun z hz=>hx z (by simp[hz])) hp.2⟩
   rcases List.mem_cons.1 ((Xq _ x r).mem_iff.1 hz) with rfl | hz
   ·exact hlt
   ·exact hp.1 z hz
  ·rename_i hlt
   rw[Adn n hy]at hlt
   have hyx:=Auc n hy (by simpa using hlt)
   rw[List.pairwise_cons,List.pairwise_cons]
   refine⟨fun z hz=>?_,hp⟩
   rcases List.mem_cons.1 hz with rfl | hz
   ·exact hyx
   ·exact Y3 n (hp.1 z hz) hyx
theorem Yr (n:Net):∀ m,(E8 (fun a b=>decide (Aco n a b<0)) (Vt m)).Pairwise (fun a b=>Ci n b a=true)
 | 0=>by simp[E8,Vt]
 | m+1=>by
  rw[Ade,E8,List.foldl_append]
  refine Adq n m _ (fun y hy=>?_) (Yr n m)
  have:=(Ls _ _).mem_iff.1 hy
  obtain ⟨i,hi,rfl⟩:=List.mem_map.1 this
  have:=List.mem_range.1 hi
  omega
theorem W9 (n:Net):(Ei n).Pairwise (fun a b=>Ci n a b=true):=by
 rw[Ei,T1,List.pairwise_reverse]
 exact Yr n _
theorem Aej (n:Net):(Ei n).Perm (Vt n.devices.length):=Ut _ _
theorem Aiz (n:Net) {l:List Int} (hp:l.Pairwise (fun a b=>Ci n a b=true)) (r:Nat) (hr:r<l.length):l.countP (fun k=>Ci n k l[r])=r:=by
 have hsplit:l=l.take r++l[r]::l.drop (r+1):=by
  rw[← List.drop_eq_getElem_cons hr,List.take_append_drop]
 have h1:(l.take r).countP (fun k=>Ci n k l[r])=r:=by
  rw[List.countP_eq_length.2 (fun k hk=>?_),List.length_take]
  ·omega
  ·obtain ⟨i,hi,rfl⟩:=List.mem_iff_getElem.1 hk
   simp only[List.length_take]at hi
   rw[List.getElem_take]
   exact List.pairwise_iff_getElem.1 hp i r qn hr qn
 have h2:(l.drop (r+1)).countP (fun k=>Ci n k l[r])=0:=by
  rw[List.countP_eq_zero]
  intro k hk
  obtain ⟨i,hi,rfl⟩:=List.mem_iff_getElem.1 hk
  simp only[List.length_drop]at hi
  rw[List.getElem_drop]
  have:=List.pairwise_iff_getElem.1 hp r (r+1+i) hr qn qn
  simp[Ajc n this]
 calc l.countP (fun k=>Ci n k l[r])=(l.take r++l[r]::l.drop (r+1)).countP (fun k=>Ci n k l[r]):=congrArg _ hsplit
  _=r:=by rw[List.countP_append,List.countP_cons,h1,h2,O1];simp
theorem Vr (L:List Int) (hn:L.Nodup) (hm:∀ a∈L,0≤a∧a<L.length):∀ (j:Nat),j≤L.length→∀ (r:Nat) (hr:r<L.length),r<j→(It L j)[L[r].toNat]? = some (r:Int)
 | 0,_,r,_,h=>by omega
 | j+1,hj,r,hr,h=>by
  have hmr:=hm _ (List.getElem_mem hr)
  have hlen:=H1 L j
  have hnth:nth L (j:Int)=L[j]:=Ag (by simp;omega)
  rw[It,hnth,List.getElem?_set]
  split
  ·rename_i he
   have hmj:=hm _ (List.getElem_mem (show j<L.length by omega))
   have hjr:L[j]=L[r]:=by omega
   have:j=r:=by
    have:=(List.getElem_inj (i:=j) (j:=r) (h₀:=by omega) (h₁:=hr) hn).1 hjr
    exact this
   subst this
   rw[if_pos qn]
  ·rename_i he
   have hne:r≠j:=fun e=>he (by subst e;rfl)
   exact Vr L hn hm j qn r hr qn
theorem Akt (m:Nat):(Vt m).Nodup:=by
 rw[Vt]
 exact List.Pairwise.map _ (fun (a b:Nat) (h:a≠b)=>by intro e;exact h qn) List.nodup_range
theorem Aau (n:Net):C0 n=Ko n:=by
 have hp:=Aej n
 have hlen:(Ei n).length=n.devices.length:=by rw[hp.length_eq,Ju]
 have hnd:(Ei n).Nodup:=hp.nodup_iff.2 (Akt _)
 have hm:∀ a∈Ei n,0≤a∧a<(Ei n).length:=fun a ha=>by
  obtain ⟨i,hi,rfl⟩:=List.mem_map.1 (hp.mem_iff.1 ha)
  have:=List.mem_range.1 hi
  omega
 refine List.ext_getElem? fun i=>?_
 rcases Nat.lt_or_ge i n.devices.length with hi | hi
 ·have hin:(i:Int)∈Ei n:=hp.mem_iff.2 (List.mem_map.2 ⟨i,List.mem_range.2 hi,rfl⟩)
  obtain ⟨r,hr,he⟩:=List.mem_iff_getElem.1 hin
  have h1:=Vr (Ei n) hnd hm n.devices.length qn r hr qn
  rw[he]at h1
  have h2:=Aiz n (W9 n) r hr
  rw[he,hp.countP_eq]at h2
  rw[C0,Ko,List.getElem?_map,List.getElem?_range hi]
  simp only[Int.toNat_natCast]at h1
  rw[h1]
  simp only[Option.map_some]
  congr 2
  rw[← h2,Vt,List.countP_map]
  rfl
 ·rw[List.getElem?_eq_none,List.getElem?_eq_none]
  ·simp[Ko];omega
  ·rw[C0,H1];omega
theorem Aqa {C:Cx} {k:List KI} {s:SS} (d:Nat) (x:SV) (h:Vw s [] (s.σ d) x) (hg:G C k ⟨upd s.σ d x,s.h⟩):G C k s:=fun κ a w hs =>
 hg κ a w ⟨hs.defers,hs.size,hs.inv,hs.ctx,fun i=>by
  show Rd κ w (upd s.σ d x i) _
  by_cases hi:i=d
  ·subst hi;rw[Bu];exact Vw.rd hs.inv (fun _ hn=>by cases hn) h (hs.slot i)
  ·rw[Cd _ _ hi];exact hs.slot i,hs.obj⟩
end Go.Sy.YteinjapglfkamaaGreat
namespace Go.Sy.YteinjapglfkamaaGreat
open Go.Proofs
attribute [local irreducible] Go.Sy.G Go.Sy.DR
set_option maxRecDepth 20000
set_option maxHeartbeats 4000000
def I5 (p:Port):Bool:=decide (p.cost<1) || decide (p.cost>65535)
theorem costs1 (p:Port):Sy.Spec Tryz.prog 280 [A7 p] [] (Ab (I5 p)) []:=cT F280 Tryz.ntmps280 fun F hF=>by
 conv=>whnf
 (repeat' (first | (refine⟨fun h=>?_,fun h=>?_⟩<;>(repeat (first | simp only[decide_eq_true_eq]at h | simp only[decide_eq_false_iff_not]at h))<;>((refine oO ?_))) | (refine Ao rfl (.cons .tmp .nil) ?_ rfl)))
 all_goals (refine congrArg Ab ?_;clear hF;grind [I5])
theorem U5 (l:List Port) (p:Port→Bool) (f:FuncId) (first cap:List SV) (hc:(SV.clo (.func f) first cap).inn []=true) (hf:∀ x∈l,I7 Tryz.prog f (first++[A7 x]++cap) (Ab (p x))) (hl:Al l) :
  Sy.Spec Tryz.prog 279 [.sl 7 A7 l,.clo (.func f) first cap] [] (Ab (l.any p)) []:=cT F279 Tryz.ntmps279 fun F hF=>by
 have h0:Cj [] [.sl 7 A7 l,.clo (.func f) first cap]=true:=by simp only[Cj,hc];rfl
 conv=>whnf
 refine T9 (Y9 l p f first cap hc hf hl) F332 E E (by simp only[h0];rfl) E E ?_
 refine oO ?_
 exact Ao E (.cons .tmp .nil) (congrArg Ab (V7 _ _).symm) E
def Cq (n:Net):Bool:=!(n.ports.any I5)
theorem Asw (n:Net) (hl:Al n.ports):Sy.Spec Tryz.prog 219 [Aj n] [] (Ab (Cq n)) []:=cT F219 Tryz.ntmps219 fun F hF=>by
 conv=>whnf
 refine c0 (U5 n.ports I5 280 [] [] E (fun x _=>⟨⟨_,_,F280⟩,costs1 x⟩) hl) F279 ?_
 refine oO ?_
 exact dN
theorem Aoq (n:Net) (hl:Al n.ports):Sy.Spec Tryz.prog 311 [Aj n] [] (Ab (Cq n)) []:=cT F311 Tryz.ntmps311 fun F hF=>by
 unfold Al at hl
 conv=>whnf
 refine A0 1 8 (Aj n) E E E ?_
 refine Av n.ports.length (fun j=>Di (fun _ p=>!(I5 p)) n.ports j) (fun j=>[(1,.ref 8 (Aj n) 0),(3,Aa j)]) (fun _=>[]) [] (A2 _ _) ⟨⟨E,E,E,E,Y⟩,Y,E,E⟩ ?_
 intro j hj hI
 refine oO ?_
 (repeat' (first | (refine⟨fun h=>?_,fun h=>?_⟩<;>(repeat (first | simp only[decide_eq_true_eq]at h | simp only[decide_eq_false_iff_not]at h))<;>((refine oO ?_);repeat((refine aT ?_);(refine oO ?_)))) | (refine Ao rfl (.cons .tmp .nil) ?_ rfl) | (refine⟨qq,?_⟩;((conv=>whnf))) | (refine⟨by (omega),by (omega),?_⟩;((conv=>whnf))) | (refine⟨by (unfold I64;omega),?_⟩;((conv=>whnf))) | refine As [] hI qn ?_ ⟨⟨rfl,rfl,rfl,rfl,trivial⟩,trivial,rfl,rfl⟩))
 all_goals (simp only[Int.toNat_natCast]at *)
 all_goals first
  | exact Ax hI qn (by clear hI hF;grind [I5])
  | (refine congrArg Ab ?_;rw[Cq,M4 (j:=j) qn (by clear hI hF;grind [I5])];rfl)
  | (refine congrArg Ab ?_;rw[Cq,Kr hI qn];rfl)
def Je (n:Net):Bool :=
 decide (200<n.devices.length) || decide (200<n.ports.length) || decide (200<n.links.length) || decide (200<n.domains.length) || decide (200<n.statics.length) || decide (200<n.floods.length) || decide (200<n.vrfs.length) || decide (200<n.irbs.length) ||
  n.ports.any (fun p=>decide (100<p.tagged.length)) || n.domains.any (fun d=>decide (100<d.peers.length)) || n.floods.any (fun f=>decide (100<f.addrs.length)) || n.vrfs.any (fun v=>decide (100<v.imports.length) || decide (100<v.exports.length))
theorem Afn {n:Net} (h:Je n=false):n.Fin:=by
 simp only[Je,Bool.or_eq_false_iff,decide_eq_false_iff_not,List.any_eq_false,decide_eq_true_eq,Bool.or_eq_true,not_or]at h
 obtain ⟨⟨⟨⟨⟨⟨⟨⟨⟨⟨⟨h1,h2⟩,h3⟩,h4⟩,h5⟩,h6⟩,h7⟩,h8⟩,h9⟩,h10⟩,h11⟩,h12⟩:=h
 exact⟨by unfold Al;omega,by unfold Al;omega,by unfold Al;omega,by unfold Al;omega,by unfold Al;omega,by unfold Al;omega,by unfold Al;omega,by unfold Al;omega,
  fun p hp=>by have:=h9 p hp;unfold Al;omega,fun p hp=>by have:=h10 p hp;unfold Al;omega,fun p hp=>by have:=h11 p hp;unfold Al;omega,fun p hp=>by have:=h12 p hp;unfold Al;omega,fun p hp=>by have:=h12 p hp;unfold Al;omega⟩
end Go.Sy.YteinjapglfkamaaGreat
namespace Go.Sy.YteinjapglfkamaaGreat
open Go.Proofs
attribute [local irreducible] Go.Sy.G Go.Sy.DR
set_option maxRecDepth 100000
set_option maxHeartbeats 4000000
theorem A8 {α:Type} {l:List α} {i:Nat} {d:α} (h:i<l.length):l.getD i d=l[i]:=by simp[List.getD,h]
theorem Kx {n:Net} (h:Ac n=true) {i:Nat} (hi:i<n.ports.length):D8 n i n.ports[i]=true:=by
 simp only[Ac,Bool.and_eq_true]at h
 exact allB_iff.1 h.1.1.1.1.1.2 i hi
theorem Uk {n:Net} (h:Ac n=true) {i:Nat} (hi:i<n.links.length):J8 n i n.links[i]=true:=by
 simp only[Ac,Bool.and_eq_true]at h
 exact allB_iff.1 h.1.1.1.1.2 i hi
theorem C4 {n:Net} (h:Ac n=true):n.devices.length≤8∧n.ports.length≤40∧n.links.length≤20:=by
 simp only[Ac,Alr,Bool.and_eq_true,decide_eq_true_eq]at h
 omega
theorem Hb {n:Net} (h:Ac n=true) {i:Nat} (hi:i<n.ports.length):n.ports[i].link=-1∨(0≤n.ports[i].link∧n.ports[i].link<n.links.length):=by
 have:=Kx h hi
 simp only[D8,Ak,Bool.and_eq_true,Bool.or_eq_true,beq_iff_eq,decide_eq_true_eq]at this
 rcases this.2 with h1 | h1
 ·exact .inl h1
 ·exact .inr h1.1
theorem Qu {n:Net} (h:Ac n=true) {i:Nat} (hi:i<n.ports.length):0≤n.ports[i].dev∧n.ports[i].dev<n.devices.length:=by
 have:=Kx h hi
 simp only[D8,Ak,Bool.and_eq_true,decide_eq_true_eq]at this
 exact this.1.1.1.1.1.1.1.1
theorem Jd {n:Net} (h:Ac n=true) {i:Nat} (hi:i<n.links.length):(0≤n.links[i].a∧n.links[i].a<n.ports.length)∧0≤n.links[i].b∧n.links[i].b<n.ports.length:=by
 have:=Uk h hi
 simp only[J8,Ak,Bool.and_eq_true,decide_eq_true_eq]at this
 exact⟨this.1.1.1.1,this.1.1.1.2⟩
def Bl (n:Net) (i:Nat):Int:=(nth n.ports i).dev
def Ie (n:Net) (i:Nat):Int:=(nth n.ports i).cost
theorem K4 {n:Net} (hcost:Cq n=true) {i:Nat} (hi:i<n.ports.length):1≤Ie n i∧Ie n i≤65535:=by
 rw[Ie,Ag (l:=n.ports) (i:=(i:Int)) (by simpa using hi)]
 simp only[Cq,Bool.not_eq_true',List.any_eq_false]at hcost
 have:=hcost _ (List.getElem_mem hi)
 simp only[I5,Bool.or_eq_true,decide_eq_true_eq,not_or]at this
 simp only[Int.toNat_natCast]
 omega
def K6 (ls:List Link) (i:Int):Int:=match ls.find? (fun l=>l.a == i || l.b == i) with | some l=>if l.a=i then l.b else l.a | none=>-1
theorem Aks (n:Net) (i:Int) (hl:Al n.links):Sy.Spec Tryz.prog 211 [Aj n,Aa i] [] (Aa (K6 n.links i)) []:=cT F211 Tryz.ntmps211 fun F hF=>by
 unfold Al at hl
 conv=>whnf
 refine A0 2 8 (Aj n) E E E ?_
 refine Av n.links.length (fun j=>∀ q (hq:q<n.links.length),q<j→n.links[q].a≠i∧n.links[q].b≠i) (fun j=>[(1,Aa i),(2,.ref 8 (Aj n) 0),(5,Aa j)]) (fun _=>[]) [] (fun q _ h=>absurd h qn) ⟨⟨E,E,E,E,E,E,Y⟩,Y,E,E⟩ ?_
 intro j hj hI
 refine oO ?_
 refine⟨fun h=>?_,fun h=>?_⟩
 ·have hlt:j<n.links.length:=by simpa using h
  have e1:n.links[(j:Int).toNat]'qn=n.links[j]:=rfl
  have hfind:(n.links[j].a=i∨n.links[j].b=i)→n.links.find? (fun l=>l.a == i || l.b == i)=some n.links[j]:=fun h=>by
   rw[List.find?_eq_some_iff_getElem]
   refine⟨by simpa using h,j,hlt,E,fun q hq=>?_⟩
   have:=hI q qn hq
   simp[this.1,this.2]
  obtain ⟨l,hlk⟩:∃ l,n.links[j]=l:=⟨_,rfl⟩
  rw[hlk]at e1 hfind
  refine oO ?_
  refine⟨E,by omega,by omega,?_⟩
  rw[e1]
  conv=>whnf
  refine⟨fun h1=>?_,fun h1=>?_⟩
  ·have ha:l.a=i:=by simpa using h1
   have hres:K6 n.links i=l.b:=by rw[K6,hfind (.inl ha)];simp[ha]
   rw[hres]
   refine oO ?_
   refine⟨E,by omega,by omega,?_⟩
   rw[e1]
   conv=>whnf
   exact dN
  have ha:¬ l.a=i:=by simpa using h1
  refine oO ?_
  refine⟨E,by omega,by omega,?_⟩
  rw[e1]
  conv=>whnf
  refine⟨fun h2=>?_,fun h2=>?_⟩
  ·have hb:l.b=i:=by simpa using h2
   have hres:K6 n.links i=l.a:=by rw[K6,hfind (.inr hb)];simp[ha]
   rw[hres]
   refine oO ?_
   refine⟨E,by omega,by omega,?_⟩
   rw[e1]
   conv=>whnf
   exact dN
  have hb:¬ l.b=i:=by simpa using h2
  refine oO ?_
  refine iW ?_
  refine As [] hI hlt (fun q hq hqj=>?_) ⟨⟨E,E,E,E,E,E,Y⟩,Y,E,E⟩
  by_cases hqe:q=j
  ·subst hqe;rw[hlk];exact⟨ha,hb⟩
  ·exact hI q hq qn
 ·have hres:K6 n.links i=-1:=by
   have:¬ j<n.links.length:=by simpa using h
   rw[K6,List.find?_eq_none.2]
   intro x hx
   obtain ⟨q,hq,rfl⟩:=List.getElem_of_mem hx
   have:=hI q hq qn
   simp[this.1,this.2]
  rw[hres]
  refine oO ?_
  exact dN
end Go.Sy.YteinjapglfkamaaGreat
namespace Go.Sy.YteinjapglfkamaaGreat
open Go.Proofs
attribute [local irreducible] Go.Sy.G Go.Sy.DR
set_option maxRecDepth 20000
set_option maxHeartbeats 4000000
theorem Ao3 {n:Net} (hb:Ac n=true) (i:Int):K6 n.links i=Cv n i:=by
 have hlr:∀ (k:Nat) (hk:k<n.links.length),J8 n k n.links[k]=true:=fun k hk=>by
  have h:=hb
  simp only[Ac,Bool.and_eq_true]at h
  exact allB_iff.1 h.1.1.1.1.2 k hk
 have hin:∀ (k:Nat) (hk:k<n.links.length),(n.links[k].a=i∨n.links[k].b=i)→(0≤i∧i.toNat<n.ports.length)∧(nth n.ports i).link=k:=fun k hk h=>by
  have:=hlr k hk
  simp only[J8,Ak,Bool.and_eq_true,decide_eq_true_eq,beq_iff_eq]at this
  rcases h with h | h<;>rw[h]at this
  ·exact⟨by omega,this.1.2⟩
  ·exact⟨by omega,this.2⟩
 rw[K6,Cv]
 cases hf:n.links.find? (fun l=>l.a == i || l.b == i) with
 | none =>
  rw[List.find?_eq_none]at hf
  dsimp only
  split
  ·rename_i hc
   have hk:i.toNat<n.ports.length:=by omega
   have e1:nth n.ports i=n.ports[i.toNat]:=Ag hk
   rw[e1]at hc
   have hq:=Ij hb hk hc.2.1
   have e2:nth n.links n.ports[i.toNat].link=n.links[n.ports[i.toNat].link.toNat]:=Ag hq.1
   rw[e2]at hq
   have:=hf _ (List.getElem_mem hq.1)
   have e3:((i.toNat:Nat):Int)=i:=by omega
   rw[e3]at hq
   simp at this
   rcases hq.2 with h | h
   ·exact absurd h this.1
   ·exact absurd h this.2
  ·rfl
 | some l =>
  rw[List.find?_eq_some_iff_getElem]at hf
  obtain ⟨hl,k,hk,rfl,_⟩:=hf
  have h2:=hin k hk (by simpa using hl)
  have e2:nth n.links (nth n.ports i).link=n.links[k]:=by rw[h2.2];exact Ag (l:=n.links) (i:=(k:Int)) (by simpa using hk)
  rw[if_pos ⟨by omega,by omega,hb⟩,e2]
theorem Ac9 (n:Net) (hn:n.Fin) (hb:Ac n=true) (i:Int):Sy.Spec Tryz.prog 211 [Aj n,Aa i] [] (Aa (Cv n i)) []:=by
 rw[← Ao3 hb]
 exact Aks n i hn.links
end Go.Sy.YteinjapglfkamaaGreat
namespace Go.Sy.YteinjapglfkamaaGreat
open Go.Proofs
attribute [local irreducible] Go.Sy.G Go.Sy.DR
set_option maxRecDepth 20000
set_option maxHeartbeats 8000000
theorem Ck {i:Int} {n:Nat} (h:0≤i∧i<n):Ak i n=true:=by simp only[Ak,Bool.and_eq_true,decide_eq_true_eq];exact h
theorem Iv {i:Int} {n:Nat} (h:¬ (0≤i∧i<n)):Ak i n=false:=by simp only[Ak,Bool.and_eq_false_iff,decide_eq_false_iff_not];omega
theorem E5 (n:Net) (hn:n.Fin) (hb:Ac n=true) (i:Int):Sy.Spec Tryz.prog 37 [Aj n,Aa i] [] (.sl 1 Aa (A4 n i)) []:=cT F37 Tryz.ntmps37 fun F hF=>by
 have hpl:=A1 i n.domains.length
 have hsp:=hn.ports
 unfold Al at hsp
 conv=>whnf
 refine A0 2 8 (Aj n) E E E ?_
 refine oO ?_
 refine c0 hpl F46 ?_
 by_cases hi:0≤i∧i<n.domains.length
 rotate_left
 ·rw[A4,if_neg (fun h=>hi h.1),Iv hi]
  refine oT ?_
  refine Ai 4 1 Aa E ?_
  refine oO ?_
  exact dN
 rw[A4,if_pos ⟨hi,hb⟩,Ck hi]
 have hk:i.toNat<n.domains.length:=by omega
 have e1:nth n.domains i=n.domains[i.toNat]:=Ag hk
 rw[Az,e1]
 obtain ⟨d,hd⟩:∃ d,n.domains[i.toNat]=d:=⟨_,rfl⟩
 rw[hd]
 refine oF ?_
 refine⟨E,hi.1,hk,?_⟩
 rw[hd]
 conv=>whnf
 refine A0 6 6 (Au d) E E E ?_
 refine Bo 5 1000 1 Aa E E ?_
 refine Aq n.ports.length (fun j=>[(2,.ref 8 (Aj n) 0),(5,.osl 1000),(6,.ref 6 (Au d) 0),(7,Aa j)]) (fun j=>[(1000,.row 1 Aa (Dg (Jw n d) j))]) []
  ⟨⟨rfl,rfl,rfl,rfl,rfl,rfl,rfl,rfl,trivial⟩,⟨.inl rfl,rfl,trivial⟩,rfl,rfl⟩ ?_
 intro j hj
 refine oO ?_
 refine⟨fun h=>?_,fun h=>?_⟩
 ·have hlt:j<n.ports.length:=by simpa using h
  have hsucc:=Le (Jw n d) j
  have hfl:=Ep (Jw n d) j
  have hin:Jw n d j=((n.ports[j]).dev == d.dev && Da n.ports[j] d.vlan):=by
   rw[Jw,Ag (l:=n.ports) (i:=(j:Int)) (by simpa using hlt)];rfl
  rw[hin]at hsucc
  have e1:n.ports[(j:Int).toNat]'qn=n.ports[j]:=rfl
  have hms:=Vq n.ports[j] d.vlan (hn.tagged _ (List.getElem_mem _))
  obtain ⟨p,hp⟩:∃ p,n.ports[j]=p:=⟨_,rfl⟩
  rw[hp]at e1 hsucc hms
  obtain ⟨u,hu⟩:∃ u,Dg (Jw n d) j=u:=⟨_,rfl⟩
  rw[hu]at hsucc hfl ⊢
  refine oO ?_
  refine⟨E,by omega,by omega,?_⟩
  rw[e1]
  conv=>whnf
  refine⟨fun h2=>?_,fun h2=>?_⟩
  ·rw[h2,Bool.true_and]at hsucc
   refine oD ?_
   refine⟨E,by omega,by omega,?_⟩
   rw[e1]
   conv=>whnf
   refine cD hms F99 ?_
   refine oD ?_
   refine kW ?_
   refine⟨fun h4=>?_,fun h4=>?_⟩
   ·rw[if_pos h4]at hsucc
    refine oO ?_
    refine Ae (Ad Γ.toTy 48 E E E E E (.row E) (.lit (e:=Aa) (l:=[(j:Int)]) E E) qz (by simp;omega) (by simp;omega)) E E ?_
    refine oO ?_
    refine iW ?_
    exact An [(1000,48)] hlt ⟨⟨E,E,E,E,E,E,E,E,Y⟩,⟨.inl (congrArg (Ob.row 1 Aa) hsucc),E,Y⟩,E,E⟩
   ·rw[if_neg (by simp[h4])]at hsucc
    refine oO ?_
    refine iW ?_
    exact An [] hlt ⟨⟨E,E,E,E,E,E,E,E,Y⟩,⟨.inl (congrArg (Ob.row 1 Aa) hsucc),E,Y⟩,E,E⟩
  ·rw[h2,Bool.false_and,if_neg qz]at hsucc
   refine oD ?_
   refine⟨qq,?_⟩
   ((conv=>whnf);refine aF ?_;refine rg ?_;conv=>whnf)
   refine iW ?_
   exact An [] hlt ⟨⟨E,E,E,E,E,E,E,E,Y⟩,⟨.inl (congrArg (Ob.row 1 Aa) hsucc),E,Y⟩,E,E⟩
 ·have:j=n.ports.length:=qB h
  subst this
  refine Ap 1000 E ?_
  refine oO ?_
  exact dN
end Go.Sy.YteinjapglfkamaaGreat
namespace Go.Sy.YteinjapglfkamaaGreat
open Go.Proofs
attribute [local irreducible] Go.Sy.G Go.Sy.DR
set_option maxRecDepth 100000
set_option maxHeartbeats 4000000
theorem L2 (a bits:Int):Sy.Spec Tryz.prog 212 [Hq a bits] [] (Ab (decide (0≤bits∧bits≤32))) []:=cT F212 Tryz.ntmps212 fun F hF=>by
 conv=>whnf
 (repeat' (first | (refine⟨fun h=>?_,fun h=>?_⟩<;>(repeat (first | simp only[decide_eq_true_eq]at h | simp only[decide_eq_false_iff_not]at h))<;>((refine oO ?_))) | (refine Ao rfl (.cons .tmp .nil) ?_ rfl)))
 all_goals (refine congrArg Ab ?_;clear hF;grind)
theorem Ag3 (a bits:Int) (h:0≤bits∧bits≤32):Sy.Spec Tryz.prog 213 [Hq a bits] [] (Aa (2 ^ (32-bits).toNat:Nat)) []:=cT F213 Tryz.ntmps213 fun F hF=>by
 obtain ⟨k,hk,hk2⟩:∃ k:Nat,(32-bits).toNat=k∧k≤32:=⟨_,rfl,by omega⟩
 rw[hk]
 conv=>whnf
 refine Aq k (fun j=>[(1,.ptr 1 0),(3,Aa (2 ^ j:Nat)),(4,Aa (bits+j))]) (fun _=>[(1,.box [Bd a,Aa bits])]) [] ⟨⟨E,E,E,E,congrArg (fun z=>SV.val (.int .i64 z)) qz,E,Y⟩,⟨.inl E,E,Y⟩,E,E⟩ ?_
 intro j hj
 have hp:2 ^ j≤2 ^ 32:=Nat.pow_le_pow_right qy qn
 have e32:(2:Nat) ^ 32=4294967296:=rfl
 have hs:2 ^ (j+1)=2 ^ j * 2:=Nat.pow_succ ..
 rw[e32]at hp
 obtain ⟨q,hq⟩:∃ q:Nat,2 ^ j=q:=⟨_,rfl⟩
 rw[hq]at hp hs ⊢
 refine oO ?_
 refine⟨fun h2=>?_,fun h2=>?_⟩
 ·have hlt:j<k:=by have:=of_decide_eq_true h2;omega
  refine oO ?_
  refine iW ?_
  refine iW ?_
  refine An [] hlt ⟨⟨E,E,congrArg (fun z=>SV.val (.int .i64 z)) ?_,E,congrArg (fun z=>SV.val (.int .i64 z)) ?_,E,Y⟩,⟨.inl E,E,Y⟩,E,E⟩
  ·rw[hs];omega
  ·omega
 ·have hjk:j=k:=by have:=of_decide_eq_false h2;omega
  subst hjk
  rw[hq]
  refine oO ?_
  exact dN
theorem Xb (a:Nat) (bits:Int) (ha:a<4294967296):Sy.Spec Tryz.prog 153 [Hq a bits] [] (Bd (Cw a bits)) []:=cT F153 Tryz.ntmps153 fun F hF=>by
 have hr:=L2 a bits
 by_cases hb:0≤bits∧bits≤32
 ·have hsz:=Ag3 a bits hb
  rw[decide_eq_true hb]at hr
  obtain ⟨k,hk,hk2⟩:∃ k:Nat,(32-bits).toNat=k∧k≤32:=⟨_,rfl,by omega⟩
  have hf:=Ld a k bits hb hk
  have h1:=Nat.one_le_two_pow (n:=k)
  have hp:2 ^ k≤2 ^ 32:=Nat.pow_le_pow_right qy hk2
  have e32:(2:Nat) ^ 32=4294967296:=rfl
  have hdm:=Nat.div_add_mod a (2 ^ k)
  have hml:=Nat.mod_le a (2 ^ k)
  have hdl:=Nat.div_le_self a (2 ^ k)
  rw[e32]at hp
  rw[hk]at hsz
  rw[hf]
  generalize 2 ^ k=q at *
  have w1:IntKind.i64.wrap (a:Int)=a:=by rw[IntKind.wrap_i64];omega
  have w2:IntKind.i64.wrap ((IntKind.i64.wrap (a:Int)).tdiv (q:Int))=((a / q:Nat):Int):=by
   rw[w1,Int.tdiv_eq_ediv_of_nonneg qn,IntKind.wrap_i64]
   have:((a:Int) / (q:Int))=((a / q:Nat):Int):=by simp
   rw[this]
   obtain ⟨d,hd⟩:∃ d:Nat,a / q=d:=⟨_,rfl⟩
   rw[hd]at hdl ⊢
   omega
  have hmul:((a / q:Nat):Int) * (q:Int)=((q * (a / q):Nat):Int):=by rw[Int.natCast_mul,Int.mul_comm]
  conv=>whnf
  refine c0 hr F212 ?_
  refine oF ?_
  refine cD hsz F213 ?_
  refine oD ?_
  refine⟨by omega,?_⟩
  conv=>whnf
  refine cD hsz F213 ?_
  refine oD ?_
  refine⟨(by rw[w2,hmul];unfold I64;omega),?_⟩
  conv=>whnf
  refine kW ?_
  refine Ao E (.cons .tmp .nil) ?_ E
  refine congrArg (fun z=>SV.val (.int .u32 z)) ?_
  rw[w2,hmul,IntKind.wrap_u32]
  omega
 ·rw[decide_eq_false hb]at hr
  have hf:Cw a bits=0:=by rw[Cw,if_neg hb]
  rw[hf]
  conv=>whnf
  refine c0 hr F212 ?_
  refine oT ?_
  exact dN
end Go.Sy.YteinjapglfkamaaGreat
namespace Go.Sy.YteinjapglfkamaaGreat
open Go.Proofs
attribute [local irreducible] Go.Sy.G Go.Sy.DR
set_option maxRecDepth 20000
set_option maxHeartbeats 8000000
theorem Ag6 (a:Nat) (bits:Int) (ha:a<4294967296):Sy.Spec Tryz.prog 154 [Hq a bits] [] (Bd (lastI a bits)) []:=cT F154 Tryz.ntmps154 fun F hF=>by
 have hr:=L2 a bits
 have hl:=lastI.eq_1 a bits
 by_cases hb:0≤bits∧bits≤32
 ·have hf:=Xb a bits ha
  have hs:=Ag3 a bits hb
  have hle:=Ji a bits ⟨by omega,by omega⟩
  have hll:=Hu a bits ⟨by omega,by omega⟩
  rw[decide_eq_true hb]at hr
  rw[if_pos hb]at hl
  obtain ⟨k,hk,hk2⟩:∃ k:Nat,(32-bits).toNat=k∧k≤32:=⟨_,rfl,by omega⟩
  have h1:=Nat.one_le_two_pow (n:=k)
  have hp:2 ^ k≤2 ^ 32:=Nat.pow_le_pow_right qy hk2
  have e32:(2:Nat) ^ 32=4294967296:=rfl
  rw[e32]at hp
  rw[hk]at hs hl
  rw[show (2:Int) ^ k=((2 ^ k:Nat):Int) by rw[Int.natCast_pow];rfl]at hl
  generalize 2 ^ k=q at *
  generalize Cw a bits=f at *
  generalize lastI a bits=l at *
  conv=>whnf
  refine A0 1 2 (Hq a bits) E E E ?_
  refine oO ?_
  refine c0 hr F212 ?_
  refine oF ?_
  refine cD hf F153 ?_
  refine oD ?_
  refine cD hs F213 ?_
  refine oD ?_
  rw[Ig hle.1 qn]
  refine iW ?_
  refine iW ?_
  refine kW ?_
  refine Ao E (.cons .tmp .nil) (congrArg (fun z=>SV.val (.int .u32 z)) ?_) E
  rw[IntKind.wrap_u32]
  omega
 ·rw[if_neg hb]at hl
  rw[hl]
  rw[decide_eq_false hb]at hr
  conv=>whnf
  refine A0 1 2 (Hq a bits) E E E ?_
  refine oO ?_
  refine c0 hr F212 ?_
  refine oT ?_
  exact dN
theorem Atu (a b x:Int) (hb:0≤b∧b≤32) (ha:0≤a∧a<4294967296) (hx:0≤x∧x<4294967296):Sy.Spec Tryz.prog 275 [Ahl a b,Bd x] [] (Ab (Za a b x)) []:=cT F275 Tryz.ntmps275 fun F hF=>by
 have hi:=Mu a b x hb ha hx
 generalize Za a b x=r at *
 obtain ⟨y,hy⟩:=Int.eq_ofNat_of_zero_le ha.1
 have hr:=L2 a b
 have hf:=Xb y b qn
 have hl:=Ag6 y b qn
 rw[decide_eq_true hb]at hr
 rw[← hy]at hf hl
 generalize Cw a b=f at *
 generalize lastI a b=l at *
 conv=>whnf
 refine A0 2 2 (Ahl a b) E E E ?_
 refine oO ?_
 refine c0 hr F212 ?_
 refine oT ?_
 refine c0 hf F153 ?_
 refine oO ?_
 refine⟨fun h=>?_,fun h=>?_⟩
 ·have h1:f≤x:=of_decide_eq_true h
  refine oO ?_
  refine c0 hl F154 ?_
  refine oO ?_
  refine Ao E (.cons .tmp .nil) (congrArg Ab ?_) E
  cases r
  ·refine(decide_eq_false (fun h2=>?_)).symm
   simpa using hi.2 ⟨h1,h2⟩
  ·exact(decide_eq_true (hi.1 E).2).symm
 ·have h1:¬ f≤x:=of_decide_eq_false h
  refine oO ?_
  refine Ao E (.cons .tmp .nil) (congrArg Ab ?_) E
  cases r
  ·rfl
  ·exact absurd (hi.1 E).1 h1
theorem Aon (n:Net) (hn:n.Fin) (i k:Int) (hi:0≤i∧i.toNat<n.vrfs.length) (hk:0≤k∧k.toNat<n.vrfs.length) :
  Sy.Spec Tryz.prog 276 [Aj n,Aa i,Aa k] [] (Ab (leaksB n i k)) []:=cT F276 Tryz.ntmps276 fun F hF=>by
 have hp1:=A1 i n.vrfs.length
 have hp2:=A1 k n.vrfs.length
 rw[Ck ⟨hi.1,by omega⟩]at hp1
 rw[Ck ⟨hk.1,by omega⟩]at hp2
 have him:=hn.imports _ (List.getElem_mem hk.2)
 have hex:=hn.exports _ (List.getElem_mem hi.2)
 unfold Al at hex
 have hlk:=leaksB.eq_1 n i k
 rw[Ag hi.2,Ag hk.2,V7]at hlk
 generalize leaksB n i k=res at *
 conv=>whnf
 refine A0 3 8 (Aj n) E E E ?_
 refine oO ?_
 refine c0 hp1 F46 ?_
 refine oF ?_
 refine c0 hp2 F46 ?_
 refine oF ?_
 refine⟨fun h=>?_,fun h=>?_⟩
 ·rw[h,Bool.true_or]at hlk
  subst hlk
  refine oO ?_
  exact dN
 rw[h,Bool.false_or]at hlk
 refine oO ?_
 refine Av (n.vrfs[i.toNat]'hi.2).exports.length (fun j=>∀ q (hq:q<(n.vrfs[i.toNat]'hi.2).exports.length),q<j→((n.vrfs[i.toNat]'hi.2).dev == (n.vrfs[k.toNat]'hk.2).dev && inB (n.vrfs[k.toNat]'hk.2).imports (n.vrfs[i.toNat]'hi.2).exports[q])=false) (fun j=>[(1,Aa i),(2,Aa k),(3,.ref 8 (Aj n) 0),(7,Aa j)]) (fun _=>[]) [] (fun q _ h=>absurd h qn) ⟨⟨E,E,E,E,E,E,E,E,Y⟩,Y,E,E⟩ ?_
 intro j hj hI
 refine oO ?_
 refine⟨E,hi.1,hi.2,?_⟩
 conv=>whnf
 refine⟨fun h=>?_,fun h=>?_⟩
 ·have hlt:j<(n.vrfs[i.toNat]'hi.2).exports.length:=by simpa using h
  have hj0:((j:Nat):Int).toNat<(n.vrfs[i.toNat]'hi.2).exports.length:=by simpa using hlt
  have hin:=Dn (n.vrfs[k.toNat]'hk.2).imports ((n.vrfs[i.toNat]'hi.2).exports[((j:Nat):Int).toNat]'hj0) him
  have hnx:((n.vrfs[i.toNat]'hi.2).dev == (n.vrfs[k.toNat]'hk.2).dev && inB (n.vrfs[k.toNat]'hk.2).imports ((n.vrfs[i.toNat]'hi.2).exports[((j:Nat):Int).toNat]'hj0))=false→∀ q (hq:q<(n.vrfs[i.toNat]'hi.2).exports.length),q<j+1→((n.vrfs[i.toNat]'hi.2).dev == (n.vrfs[k.toNat]'hk.2).dev && inB (n.vrfs[k.toNat]'hk.2).imports (n.vrfs[i.toNat]'hi.2).exports[q])=false:=fun hz q hq hqj=>by
   rcases Nat.lt_or_ge q j with h1 | h1
   ·exact hI q hq h1
   ·have:q=j:=by omega
    subst this;exact hz
  refine oO ?_
  refine⟨E,hi.1,hi.2,?_⟩
  conv=>whnf
  refine⟨E,hk.1,hk.2,?_⟩
  conv=>whnf
  refine⟨fun h=>?_,fun h=>?_⟩
  ·have hdv:=h
   rw[h,Bool.true_and]at hlk
   refine oD ?_
   refine⟨E,hk.1,hk.2,?_⟩
   conv=>whnf
   refine⟨E,hi.1,hi.2,?_⟩
   conv=>whnf
   refine⟨E,by omega,hj0,?_⟩
   conv=>whnf
   refine cD hin F36 ?_
   refine oD ?_
   refine kW ?_
   refine⟨fun h=>?_,fun h=>?_⟩
   ·have e:(n.vrfs[i.toNat]'hi.2).exports.any (inB (n.vrfs[k.toNat]'hk.2).imports)=true:=List.any_eq_true.2 ⟨_,List.getElem_mem hlt,h⟩
    rw[e]at hlk
    subst hlk
    refine oO ?_
    exact dN
   ·refine oO ?_
    refine iW ?_
    exact As [] hI qn (hnx (by rw[hdv,h];rfl)) ⟨⟨E,E,E,E,E,E,E,E,Y⟩,Y,E,E⟩
  ·have hdv:=h
   rw[h,Bool.false_and]at hlk
   refine oD ?_
   refine⟨qq,?_⟩
   ((conv=>whnf);refine aF ?_;refine rg ?_;conv=>whnf)
   refine iW ?_
   exact As [] hI qn (hnx (by rw[hdv];rfl)) ⟨⟨E,E,E,E,E,E,E,E,Y⟩,Y,E,E⟩
 ·have:j=(n.vrfs[i.toNat]'hi.2).exports.length:=qB h
  subst this
  have e:((n.vrfs[i.toNat]'hi.2).dev == (n.vrfs[k.toNat]'hk.2).dev && (n.vrfs[i.toNat]'hi.2).exports.any (inB (n.vrfs[k.toNat]'hk.2).imports))=false:=by
   cases hd:(n.vrfs[i.toNat]'hi.2).dev == (n.vrfs[k.toNat]'hk.2).dev
   ·rfl
   ·rw[Bool.true_and,List.any_eq_false]
    intro x hx
    obtain ⟨q,hq,rfl⟩:=List.getElem_of_mem hx
    have:=hI q hq hq
    rw[hd,Bool.true_and]at this
    simp[this]
  rw[e]at hlk
  subst hlk
  refine oO ?_
  exact dN
theorem Aaj (n:Net) (hb:Ac n=true) (i:Int) (hi:InIrbs n i):Sy.Spec Tryz.prog 274 [Aj n,Aa i] [] (Aa (D9 n i)) []:=cT F274 Tryz.ntmps274 fun F hF=>by
 have hf:=(Cg hb hi.2).1
 rw[D9,Ag hi.2,Ag hf.2]
 obtain ⟨x,hx⟩:∃ x,n.irbs[i.toNat]'hi.2=x:=⟨_,rfl⟩
 have hf2:(0≤x.domain∧x.domain.toNat<n.domains.length):=by rw[← hx];exact hf
 have e:n.domains[(n.irbs[i.toNat]'hi.2).domain.toNat]'hf.2=n.domains[x.domain.toNat]'hf2.2:=by simp only[hx]
 rw[e]
 obtain ⟨d,hd⟩:∃ d,n.domains[x.domain.toNat]'hf2.2=d:=⟨_,rfl⟩
 rw[hd]
 conv=>whnf
 refine⟨E,hi.1,hi.2,?_⟩
 rw[hx]
 conv=>whnf
 refine⟨E,hf2.1,hf2.2,?_⟩
 rw[hd]
 conv=>whnf
 refine kW ?_
 exact dN
theorem Aj6 (n:Net) (irb a b:Int) (hk:InIrbs n irb) (ha:InIrbs n a) (hb:InIrbs n b) :
  Sy.Spec Tryz.prog 277 [Aj n,Aa irb,Aa a,Aa b] [] (Ab (decide (0<cmpR n irb a b))) []:=cT F277 Tryz.ntmps277 fun F hF=>by
 have hc:=cmpR.eq_1 n irb a b
 unfold Aa1 at hc
 rw[Ag hk.2,Ag ha.2,Ag hb.2]at hc
 generalize cmpR n irb a b=r at *
 conv=>whnf
 refine⟨E,ha.1,ha.2,?_⟩
 conv=>whnf
 refine⟨E,hb.1,hb.2,?_⟩
 conv=>whnf
 refine kW ?_
 refine⟨fun h=>?_,fun h=>?_⟩
 ·have h1:(n.irbs[a.toNat]'ha.2).bits≠(n.irbs[b.toNat]'hb.2).bits:=by simpa using h
  rw[if_pos h1]at hc
  subst hc
  refine oO ?_
  refine⟨E,ha.1,ha.2,?_⟩
  conv=>whnf
  refine⟨E,hb.1,hb.2,?_⟩
  conv=>whnf
  refine kW ?_
  refine Ao E (.cons .tmp .nil) (congrArg Ab ?_) E
  refine decide_eq_decide.2 ?_
  omega
 ·have h1:¬ (n.irbs[a.toNat]'ha.2).bits≠(n.irbs[b.toNat]'hb.2).bits:=by simpa using h
  rw[if_neg h1]at hc
  refine oO ?_
  refine⟨E,ha.1,ha.2,?_⟩
  conv=>whnf
  refine⟨E,hk.1,hk.2,?_⟩
  conv=>whnf
  refine⟨fun h=>?_,fun h=>?_⟩
  ·have h2:(n.irbs[a.toNat]'ha.2).vrf=(n.irbs[irb.toNat]'hk.2).vrf:=by simpa using h
   rw[if_pos h2]at hc
   refine oD ?_
   refine⟨E,hb.1,hb.2,?_⟩
   conv=>whnf
   refine⟨E,hk.1,hk.2,?_⟩
   conv=>whnf
   refine kW ?_
   refine Ao E (.cons .tmp .nil) (congrArg Ab ?_) E
   subst hc
   split<;>simp_all
  ·have h2:¬ (n.irbs[a.toNat]'ha.2).vrf=(n.irbs[irb.toNat]'hk.2).vrf:=by simpa using h
   rw[if_neg h2]at hc
   refine oD ?_
   refine kW ?_
   refine Ao E (.cons .tmp .nil) (congrArg Ab ?_) E
   subst hc
   split<;>simp_all
def D4 (c:Int→Int→Int) (l:List Int):Int:=if l=[] then -1 else Tj c l (l.length-1)
theorem Ahw (c:Int→Int→Int) (l:List Int) (x:Int) (j:Nat) (h:j+1≤l.length):Tj c (l++[x]) j=Tj c l j:=by
 rw[Tj,Tj,List.drop_append_of_le_length qn,List.take_append_of_le_length (by simp;omega)]
 congr 1
 cases l with
 | nil=>simp at h
 | cons a l=>rfl
theorem Ab5 (c:Int→Int→Int) (l:List Int) (x:Int) (h:l≠[]):D4 c (l++[x])=if 0<c x (D4 c l) then x else D4 c l:=by
 have hl:0<l.length:=List.length_pos_iff.2 h
 rw[D4,if_neg qz,D4,if_neg h]
 have e:(l++[x]).length-1=(l.length-1)+1:=by simp;omega
 rw[e,Xk c (l++[x]) (l.length-1) (by simp;omega),Ahw c l x (l.length-1) qn]
 have e2:(l++[x])[l.length-1+1]'(by simp;omega)=x:=by
  have:l.length-1+1=l.length:=by omega
  simp[this]
 rw[e2]
theorem Ad8 (c:Int→Int→Int) (x:Int):D4 c [x]=x:=by
 rw[D4,if_neg qz];rfl
theorem Td (c:Int→Int→Int) (l:List Int) (h:l≠[]):D4 c l∈l:=by
 have hl:0<l.length:=List.length_pos_iff.2 h
 rw[D4,if_neg h]
 exact Qy c l hl _ qn
theorem filtI_in {p:Nat→Bool} {j:Nat} {x:Int} (h:x∈Dg p j):0≤x∧x<j:=by
 have:=filtI_mem.1 h
 omega
theorem Ak4 {n:Net} {irb dst:Int} (h:∀ i,i<n.irbs.length→E4 n irb dst i=false) :
  lookT n irb dst=if E1 n irb dst=[] then (0,false) else (D4 (cmpR n irb) (E1 n irb dst),true):=by
 have:¬ (List.range n.irbs.length).any (E4 n irb dst)=true:=fun ha=>by
  obtain ⟨i,hi,ht⟩:=List.any_eq_true.1 ha
  rw[h i (List.mem_range.1 hi)]at ht
  cases ht
 rw[lookT,if_neg this]
 split
 ·rfl
 ·rename_i hw
  rw[D4,if_neg hw]
set_option maxHeartbeats 16000000 in
theorem Aah (n:Net) (hn:n.Fin) (hb:Ac n=true) (hu:Dj n) (irb dst:Int) (hk:InIrbs n irb) (hd:0≤dst∧dst<4294967296) :
  Sy.Spec Tryz.prog 214 [Aj n,Aa irb,Bd dst] [] (.tup [Aa (lookT n irb dst).1,Ab (lookT n irb dst).2]) []:=cT F214 Tryz.ntmps214 fun F hF=>by
 have hp:=A1 irb n.irbs.length
 rw[Ck ⟨hk.1,by have:=hk.2;omega⟩]at hp
 have hlk:=Ak4 (n:=n) (irb:=irb) (dst:=dst)
 have hlk0:=lookT.eq_1 n irb dst
 have hwl:E1 n irb dst=Dg (Ja n irb dst) n.irbs.length:=rfl
 generalize lookT n irb dst=res at *
 have hsi:=hn.irbs
 unfold Al at hsi
 have qk:=Aaj n hb irb hk
 have hfk:=(Cg hb hk.2).2.1
 conv=>whnf
 refine A0 3 8 (Aj n) E E E ?_
 refine oO ?_
 refine c0 hp F46 ?_
 refine oF ?_
 refine Av n.irbs.length (fun j=>∀ i,i<j→E4 n irb dst i=false) (fun j=>[(1,Aa irb),(2,Bd dst),(3,.ref 8 (Aj n) 0),(8,Aa (D4 (cmpR n irb) (Dg (Ja n irb dst) j))),(9,Aa j)]) (fun _=>[]) [] (fun i hi=>absurd hi qn) ⟨⟨E,E,E,E,E,E,E,E,E,E,Y⟩,Y,E,E⟩ ?_
 intro j hj hI
 refine oO ?_
 refine⟨fun h=>?_,fun h=>?_⟩
 ·have hlt:j<n.irbs.length:=by simpa using h
  have hj0:((j:Nat):Int).toNat<n.irbs.length:=by simpa using hlt
  have hij:InIrbs n (j:Int):=⟨by omega,hj0⟩
  have qj:=Aaj n hb j hij
  have hsucc:=Le (Ja n irb dst) j
  have hta:E4 n irb dst j=(D9 n j == D9 n irb && (nth n.irbs j).addr == dst):=rfl
  have hwa:Ja n irb dst j=(Za (nth n.irbs j).addr (nth n.irbs j).bits dst && Z8 n irb j):=rfl
  have hse:Z8 n irb j=(D9 n irb == D9 n j && leaksB n (nth n.irbs j).vrf (nth n.irbs irb).vrf):=rfl
  have enj:nth n.irbs (j:Int)=n.irbs[((j:Nat):Int).toNat]'hj0:=Ag (l:=n.irbs) (i:=(j:Int)) hj0
  rw[enj]at hta hwa hse
  rw[Ag hk.2]at hse
  have hfj:=Cg hb hj0
  have hua:=hu _ (List.getElem_mem hj0)
  have q1:=Atu (n.irbs[((j:Nat):Int).toNat]'hj0).addr (n.irbs[((j:Nat):Int).toNat]'hj0).bits dst hfj.2.2 hua hd
  have q2:=Aon n hn (n.irbs[((j:Nat):Int).toNat]'hj0).vrf (n.irbs[irb.toNat]'hk.2).vrf hfj.2.1 hfk
  have hnx:E4 n irb dst j=false→∀ i,i<j+1→E4 n irb dst i=false:=fun hz i hi=>by
   rcases Nat.lt_or_ge i j with h1 | h1
   ·exact hI i h1
   ·have:i=j:=by omega
    subst this;exact hz
  have hbs:=Ab5 (cmpR n irb) (Dg (Ja n irb dst) j) j
  have hbm:=Td (cmpR n irb) (Dg (Ja n irb dst) j)
  have hbi:=fun x=>@filtI_in (Ja n irb dst) j x
  have hbo:=Ad8 (cmpR n irb) j
  have hbn:D4 (cmpR n irb) []=-1:=rfl
  generalize Dg (Ja n irb dst) j=u at *
  refine oO ?_
  refine cD qj F274 ?_
  refine oD ?_
  refine cD qk F274 ?_
  refine oD ?_
  refine kW ?_
  refine⟨fun h2=>?_,fun h2=>?_⟩
  ·have h3:D9 n j≠D9 n irb:=by simpa using h2
   have e1:E4 n irb dst j=false:=by rw[hta];simp[h3]
   have e2:Ja n irb dst j=false:=by rw[hwa,hse];simp[Ne.symm h3]
   rw[if_neg (by rw[e2];simp)]at hsucc
   refine oO ?_
   refine iW ?_
   exact As [] hI qn (hnx e1) ⟨⟨E,E,E,E,E,E,congrArg (fun z=>Aa (D4 (cmpR n irb) z)) hsucc,E,E,E,Y⟩,Y,E,E⟩
  have h3:D9 n j=D9 n irb:=by simpa using h2
  refine oO ?_
  refine⟨E,hij.1,hj0,?_⟩
  conv=>whnf
  refine⟨fun h4=>?_,fun h4=>?_⟩
  ·have e1:E4 n irb dst j=true:=by rw[hta,h3,h4];simp
   rw[if_pos (List.any_eq_true.2 ⟨j,List.mem_range.2 hlt,e1⟩)]at hlk0
   subst hlk0
   refine oO ?_
   exact dN
  have e1:E4 n irb dst j=false:=by rw[hta,h4];simp
  obtain ⟨hv,hhv⟩:∃ hv,Za (n.irbs[((j:Nat):Int).toNat]'hj0).addr (n.irbs[((j:Nat):Int).toNat]'hj0).bits dst=hv:=⟨_,rfl⟩
  obtain ⟨lv,hlv⟩:∃ lv,leaksB n (n.irbs[((j:Nat):Int).toNat]'hj0).vrf (n.irbs[irb.toNat]'hk.2).vrf=lv:=⟨_,rfl⟩
  rw[hhv]at q1 hwa
  rw[hlv]at q2 hse
  cases hv
  ·rw[if_neg (by rw[hwa];simp)]at hsucc
   refine oO ?_
   refine⟨E,hij.1,hj0,?_⟩
   conv=>whnf
   refine cD q1 F275 ?_
   (refine oD ?_;refine aT ?_;refine oD ?_)
   refine⟨qq,?_⟩
   ((conv=>whnf);refine aT ?_;refine rg ?_;conv=>whnf)
   refine iW ?_
   exact As [] hI qn (hnx e1) ⟨⟨E,E,E,E,E,E,congrArg (fun z=>Aa (D4 (cmpR n irb) z)) hsucc,E,E,E,Y⟩,Y,E,E⟩
  cases lv
  ·rw[if_neg (by rw[hwa,hse];simp)]at hsucc
   refine oO ?_
   refine⟨E,hij.1,hj0,?_⟩
   conv=>whnf
   refine cD q1 F275 ?_
   (refine oD ?_;refine aF ?_;refine oD ?_)
   refine⟨E,hij.1,hj0,?_⟩
   conv=>whnf
   refine⟨E,hk.1,hk.2,?_⟩
   conv=>whnf
   refine cD q2 F276 ?_
   refine oD ?_
   refine⟨qq,?_⟩
   ((conv=>whnf);refine aT ?_;refine rg ?_;conv=>whnf)
   refine iW ?_
   exact As [] hI qn (hnx e1) ⟨⟨E,E,E,E,E,E,congrArg (fun z=>Aa (D4 (cmpR n irb) z)) hsucc,E,E,E,Y⟩,Y,E,E⟩
  rw[if_pos (by rw[hwa,hse,h3];simp)]at hsucc
  refine oO ?_
  refine⟨E,hij.1,hj0,?_⟩
  conv=>whnf
  refine cD q1 F275 ?_
  (refine oD ?_;refine aF ?_;refine oD ?_)
  refine⟨E,hij.1,hj0,?_⟩
  conv=>whnf
  refine⟨E,hk.1,hk.2,?_⟩
  conv=>whnf
  refine cD q2 F276 ?_
  refine oD ?_
  refine⟨qq,?_⟩
  ((conv=>whnf);refine aF ?_;refine rg ?_;conv=>whnf)
  refine⟨fun h=>?_,fun h=>?_⟩
  ·have hlt0:D4 (cmpR n irb) u<0:=of_decide_eq_true h
   have hne:u=[]:=Classical.byContradiction fun hne=>by have:=hbi _ (hbm hne);omega
   subst hne
   refine oT ?_
   refine iW ?_
   exact As [] hI qn (hnx e1) ⟨⟨E,E,E,E,E,E,congrArg Aa (by rw[hsucc];exact hbo),E,E,E,Y⟩,Y,E,E⟩
  have hge0:¬ D4 (cmpR n irb) u<0:=of_decide_eq_false h
  have hne:u≠[]:=fun e=>by rw[e]at hge0;exact hge0 (by rw[hbn];omega)
  have hbe:=hbi _ (hbm hne)
  have hbs2:=hbs hne
  rw[← hsucc]at hbs2
  have hbI:InIrbs n (D4 (cmpR n irb) u):=⟨hbe.1,by omega⟩
  have q3:=Aj6 n irb j (D4 (cmpR n irb) u) hk hij hbI
  generalize D4 (cmpR n irb) u=b at *
  refine oO ?_
  refine c0 q3 F277 ?_
  by_cases hc:0<cmpR n irb j b
  ·rw[if_pos hc]at hbs2
   rw[decide_eq_true hc]
   refine oT ?_
   refine iW ?_
   exact As [] hI qn (hnx e1) ⟨⟨E,E,E,E,E,E,congrArg Aa hbs2,E,E,E,Y⟩,Y,E,E⟩
  ·rw[if_neg hc]at hbs2
   rw[decide_eq_false hc]
   refine oF ?_
   refine iW ?_
   exact As [] hI qn (hnx e1) ⟨⟨E,E,E,E,E,E,congrArg Aa hbs2,E,E,E,Y⟩,Y,E,E⟩
 ·have hje:j=n.irbs.length:=qB h
  subst hje
  have hlk2:=hlk (fun i hi=>hI i hi)
  rw[hwl]at hlk2
  have hbm:=Td (cmpR n irb) (Dg (Ja n irb dst) n.irbs.length)
  have hbi:=fun x=>@filtI_in (Ja n irb dst) n.irbs.length x
  have hbn:D4 (cmpR n irb) []=-1:=rfl
  generalize Dg (Ja n irb dst) n.irbs.length=u at *
  by_cases hne:u=[]
  ·rw[if_pos hne]at hlk2
   subst hlk2 hne
   rw[hbn]
   refine oT ?_
   exact dN
  rw[if_neg hne]at hlk2
  have hbe:=hbi _ (hbm hne)
  generalize D4 (cmpR n irb) u=b at *
  subst hlk2
  refine oO ?_
  refine⟨fun h=>absurd (of_decide_eq_true h) qn,fun _=>?_⟩
  refine oO ?_
  exact dN
theorem Uz {n:Net} (h:Ac n=true) {i:Nat} (hi:i<n.ports.length):0≤n.ports[i].native∧inB n.ports[i].tagged n.ports[i].native=false:=by
 have:=X0 h hi
 simp only[D8,Bool.and_eq_true,decide_eq_true_eq,Bool.not_eq_true']at this
 exact⟨this.1.1.1.1.1.1.1.2,this.1.1.1.1.2⟩
theorem Aop (n:Net) (hn:n.Fin) (hb:Ac n=true) (i v:Int):Sy.Spec Tryz.prog 152 [Aj n,Aa i,Aa v] [] (.tup [Aa (crossT n i v).1,Aa (crossT n i v).2.1,Ab (crossT n i v).2.2]) []:=cT F152 Tryz.ntmps152 fun F hF=>by
 have q:=Ac9 n hn hb i
 have hth:=Iw (n:=n) (i:=i)
 have hc:=crossT.eq_1 n i v
 unfold Wn at hc
 generalize crossT n i v=r at *
 obtain ⟨far,hfar⟩:∃ far,Cv n i=far:=⟨_,rfl⟩
 rw[hfar]at q hth hc
 conv=>whnf
 refine A0 3 8 (Aj n) E E E ?_
 refine oO ?_
 refine c0 q F211 ?_
 refine oO ?_
 refine⟨fun h=>?_,fun h=>?_⟩
 ·have h1:far<0:=of_decide_eq_true h
  rw[if_neg qn]at hc
  subst hc
  refine oT ?_
  exact dN
 have h1:0≤far:=qB h
 refine oO ?_
 refine⟨fun h=>?_,fun h=>?_⟩
 ·have h2:v=0:=by simpa using h
  rw[if_neg (fun hh=>by have:=hh.2.1;simp[Da,h2]at this)]at hc
  subst hc
  refine oO ?_
  exact dN
 have hv0:v≠0:=by simpa using h
 obtain ⟨⟨hi0,hk⟩,_,hfk⟩:=hth h1
 have e1:nth n.ports i=n.ports[i.toNat]:=Ag hk
 have e2:nth n.ports far=n.ports[far.toNat]:=Ag hfk
 rw[e1,e2]at hc
 have ht1:=hn.tagged _ (List.getElem_mem hk)
 have ht2:=hn.tagged _ (List.getElem_mem hfk)
 have hn1:=Uz hb hk
 have hn2:=Uz hb hfk
 obtain ⟨p,hp⟩:∃ p,n.ports[i.toNat]=p:=⟨_,rfl⟩
 obtain ⟨o,ho⟩:∃ o,n.ports[far.toNat]=o:=⟨_,rfl⟩
 rw[hp]at hc ht1 hn1
 rw[ho]at hc ht2 hn2
 have hi1:=Dn p.tagged v ht1
 have hi2:=Dn o.tagged v ht2
 refine oO ?_
 refine⟨E,hi0,hk,?_⟩
 rw[hp]
 conv=>whnf
 refine⟨E,h1,hfk,?_⟩
 rw[ho]
 conv=>whnf
 refine kW ?_
 refine⟨fun h=>?_,fun h=>?_⟩
 ·have h2:p.native=v:=by simpa using h
  rw[if_pos h2.symm]at hc
  refine oO ?_
  refine⟨fun h=>?_,fun h=>?_⟩
  ·have h3:0<o.native:=of_decide_eq_true h
   rw[if_pos ⟨h1,by simp[Da,h2,hv0],by omega⟩]at hc
   subst hc
   refine oO ?_
   refine kW ?_
   exact dN
  ·have h3:¬ 0<o.native:=of_decide_eq_false h
   rw[if_neg (fun hh=>hh.2.2 qn)]at hc
   subst hc
   rw[h2]at hn1
   refine oO ?_
   refine c0 hi1 F36 ?_
   rw[hn1.2]
   (refine oF ?_;refine bF ?_)
   exact dN
 have h2:¬ v=p.native:=fun e=>by simp[e]at h
 rw[if_neg h2]at hc
 refine oF ?_
 refine c0 hi1 F36 ?_
 cases hin:inB p.tagged v
 ·rw[if_neg (fun hh=>by have:=hh.2.1;simp[Da,h2,hin]at this)]at hc
  subst hc
  (refine oF ?_;refine bF ?_)
  exact dN
 refine oT ?_
 refine c0 hi2 F36 ?_
 cases hin2:inB o.tagged v
 ·rw[hin2,if_neg qz]at hc
  subst hc
  refine oF ?_
  exact dN
 rw[hin2,if_pos rfl,if_pos ⟨h1,by simp[Da,hv0,hin],hv0⟩]at hc
 subst hc
 refine oT ?_
 exact dN
theorem Aai (n:Net) (hn:n.Fin) (hb:Ac n=true) (i v:Int):Sy.Spec Tryz.prog 101 [Aj n,Aa i,Aa v] [] (.tup [Aa (linkDomT n i v).1,Ab (linkDomT n i v).2]) []:=cT F101 Tryz.ntmps101 fun F hF=>by
 have q:=Aop n hn hb i v
 have hth:=Oy (n:=n) (i:=i) (v:=v)
 have hc:=linkDomT.eq_1 n i v
 generalize linkDomT n i v=r at *
 generalize crossT n i v=x at *
 obtain ⟨far,to,ok⟩:=x
 conv=>whnf
 refine A0 3 8 (Aj n) E E E ?_
 refine oO ?_
 refine c0 q F152 ?_
 cases ok
 ·rw[if_neg qz]at hc
  subst hc
  refine oT ?_
  exact dN
 rw[if_pos rfl]at hc
 have hf:=hth rfl
 dsimp only at hf hc
 have e2:nth n.ports far=n.ports[far.toNat]:=Ag hf.2
 rw[e2]at hc
 obtain ⟨o,ho⟩:∃ o,n.ports[far.toNat]'hf.2=o:=⟨_,rfl⟩
 rw[ho,B6,if_pos hb]at hc
 have q2:=Is n o.dev to hn.domains
 subst hc
 refine oF ?_
 refine⟨E,hf.1,hf.2,?_⟩
 rw[ho]
 conv=>whnf
 refine cD q2 F35 ?_
 refine oD ?_
 refine kW ?_
 exact dN
theorem Ag8 (n:Net) (hn:n.Fin) (d:Int) (hd:T8 n d):Sy.Spec Tryz.prog 39 [Aj n,Aa d] [] (.sl 4 Bp (hopsL n d)) []:=cT F39 Tryz.ntmps39 fun F hF=>by
 have hb:=hd.2
 have hm2:=E5 n hn hb d
 have hms:=Co n hn d
 unfold Al at hms
 have hk:d.toNat<n.domains.length:=by have:=hd.1;omega
 have h0:0≤d:=hd.1.1
 have hpe:=hn.peers _ (List.getElem_mem hk)
 unfold Al at hpe
 have hh:=hopsL.eq_1 n d
 have hlh:=linkHop.eq_1 n d
 have hsn:=fun j p h hp=>V1 (n:=n) (d:=d) (l:=A4 n d) (j:=j) (p:=p) h hp
 have hfl:∀ j,((A4 n d).take j |>.filterMap (linkHop n d)).length≤(A4 n d).length:=fun j=>by
  refine Nat.le_trans (List.length_filterMap_le _ _) ?_
  rw[List.length_take];omega
 have hall:(A4 n d).take (A4 n d).length=A4 n d:=List.take_length
 rw[Ag hk]at hh hlh
 obtain ⟨x,hx⟩:∃ x,n.domains[d.toNat]'hk=x:=⟨_,rfl⟩
 rw[hx]at hh hlh hpe
 generalize hopsL n d=res at *
 generalize A4 n d=mem at *
 conv=>whnf
 refine A0 2 8 (Aj n) E E E ?_
 refine oO ?_
 refine c0 hm2 F37 ?_
 refine oO ?_
 refine Bo 5 1000 4 Bp E E ?_
 refine Aq mem.length (fun j=>[(1,Aa d),(2,.ref 8 (Aj n) 0),(5,.osl 1000),(6,.sl 1 Aa mem),(7,Aa j)]) (fun j=>[(1000,.row 4 Bp ((mem.take j).filterMap (linkHop n d)))]) []
  ⟨⟨rfl,rfl,rfl,rfl,rfl,rfl,rfl,rfl,rfl,rfl,trivial⟩,⟨.inl rfl,rfl,trivial⟩,rfl,rfl⟩ ?_
 intro j hj
 have hflj:=hfl j
 refine oO ?_
 refine⟨fun h=>?_,fun h=>?_⟩
 ·have hlt:j<mem.length:=by simpa using h
  have hj0:((j:Nat):Int).toNat<mem.length:=by simpa using hlt
  obtain ⟨p,hp'⟩:∃ p,mem[((j:Nat):Int).toNat]'hj0=p:=⟨_,rfl⟩
  have hs:=hsn j p hlt hp'
  have q:=Aai n hn hb p x.vlan
  rw[hlh p]at hs
  generalize linkDomT n p x.vlan=ld at *
  obtain ⟨to,ok⟩:=ld
  refine oO ?_
  refine⟨E,by omega,hj0,?_⟩
  rw[hp']
  conv=>whnf
  refine⟨E,h0,hk,?_⟩
  rw[hx]
  conv=>whnf
  refine cD q F101 ?_
  refine oD ?_
  refine kW ?_
  dsimp only at hs
  refine⟨fun h=>?_,fun h=>?_⟩<;>(have h:ok=_:=h;subst h)
  ·refine oO ?_
   refine⟨E,by omega,hj0,?_⟩
   rw[hp']
   conv=>whnf
   refine Ae (Ad Γ.toTy 44 E E E E E (.row E) (.lit (e:=Bp) (l:=[⟨1,p,to,0⟩]) E E) qz (by simp;omega) (by simp;omega)) E E ?_
   refine oO ?_
   refine iW ?_
   exact An [(1000,44)] hlt ⟨⟨E,E,E,E,E,E,E,E,E,E,Y⟩,⟨.inl (congrArg (Ob.row 4 Bp) hs),E,Y⟩,E,E⟩
  ·refine oO ?_
   refine iW ?_
   exact An [] hlt ⟨⟨E,E,E,E,E,E,E,E,E,E,Y⟩,⟨.inl (congrArg (Ob.row 4 Bp) (hs.trans (List.append_nil _))),E,Y⟩,E,E⟩
 ·have:j=mem.length:=qB h
  subst this
  rw[hall]at hflj ⊢
  generalize mem.filterMap (linkHop n d)=first at *
  refine oO ?_
  refine Aq x.peers.length (fun j=>[(1,Aa d),(2,.ref 8 (Aj n) 0),(5,.osl 1000),(10,Aa j)]) (fun j=>[(1000,.row 4 Bp (first++(x.peers.take j).map H2))]) []
   ⟨⟨rfl,rfl,rfl,rfl,rfl,rfl,rfl,rfl,trivial⟩,⟨.inl (congrArg (Ob.row 4 Bp) (List.append_nil _)),rfl,trivial⟩,rfl,rfl⟩ ?_
  intro j hj
  refine oO ?_
  refine⟨E,h0,hk,?_⟩
  rw[hx]
  conv=>whnf
  refine⟨fun h=>?_,fun h=>?_⟩
  ·have hlt:j<x.peers.length:=by simpa using h
   have hj0:((j:Nat):Int).toNat<x.peers.length:=by simpa using hlt
   obtain ⟨p,hp'⟩:∃ p,x.peers[((j:Nat):Int).toNat]'hj0=p:=⟨_,rfl⟩
   have hs:(first++(x.peers.take j).map H2)++[⟨2,0,p,0⟩]=first++(x.peers.take (j+1)).map H2:=by
    rw[List.take_add_one,List.getElem?_eq_getElem hlt,List.map_append,List.append_assoc]
    congr 2
    simp only[Option.toList,List.map_cons,List.map_nil,H2]
    congr 2
    exact hp'.symm
   refine oO ?_
   refine⟨E,h0,hk,?_⟩
   rw[hx]
   conv=>whnf
   refine⟨E,by omega,hj0,?_⟩
   rw[hp']
   conv=>whnf
   refine Ae (Ad Γ.toTy 68 E E E E E (.row E) (.lit (e:=Bp) (l:=[⟨2,0,p,0⟩]) E E) qz (by simp;omega) (by simp;omega)) E E ?_
   refine oO ?_
   refine iW ?_
   exact An [(1000,68)] hlt ⟨⟨E,E,E,E,E,E,E,E,Y⟩,⟨.inl (congrArg (Ob.row 4 Bp) hs.symm),E,Y⟩,E,E⟩
  ·have:j=x.peers.length:=qB h
   subst this
   refine oO ?_
   refine Ap 1000 E ?_
   refine oO ?_
   refine Ao E (.cons .tmp .nil) ?_ E
   rw[hh,List.take_length]
   rfl
end Go.Sy.YteinjapglfkamaaGreat
namespace Go.Sy.YteinjapglfkamaaGreat
open Go.Proofs
def Y8 (n:Net) (irb a:Int):Int:=(nth n.irbs a).bits * 2+Aa1 n irb a
theorem Ai2 (n:Net) (irb a b:Int):0<cmpR n irb a b↔Y8 n irb b<Y8 n irb a:=by
 have h1:=Zh n irb a
 have h2:=Zh n irb b
 rw[cmpR,Y8,Y8]
 split<;>omega
theorem Ad7 (n:Net) (irb:Int) (p:Nat→Bool):∀ j,Dg p j≠[] →
  ∀ y∈Dg p j,Y8 n irb y≤Y8 n irb (D4 (cmpR n irb) (Dg p j))∧(y<D4 (cmpR n irb) (Dg p j)→Y8 n irb y<Y8 n irb (D4 (cmpR n irb) (Dg p j)))
 | 0,h=>absurd rfl h
 | j+1,h=>by
  have ih:=Ad7 n irb p j
  have hm:=Td (cmpR n irb) (Dg p j)
  have hin:=fun x=>@filtI_in p j x
  have hs:=Ab5 (cmpR n irb) (Dg p j) j
  have ho:=Ad8 (cmpR n irb) j
  rw[Le]at h ⊢
  split
  ·generalize Dg p j=u at *
   by_cases hu:u=[]
   ·subst hu
    intro y hy
    rw[List.nil_append]at hy ⊢
    rw[ho]
    have:y=j:=by simpa using hy
    subst this
    omega
   ·have hs2:=hs hu
    have ih2:=ih hu
    have hmi:=hin _ (hm hu)
    rw[hs2]
    split
    ·rename_i hc
     rw[Ai2]at hc
     intro y hy
     rcases List.mem_append.1 hy with h1 | h1
     ·have:=(ih2 y h1).1
      omega
     ·have:y=j:=by simpa using h1
      subst this
      omega
    ·rename_i hc
     rw[Ai2]at hc
     intro y hy
     rcases List.mem_append.1 hy with h1 | h1
     ·exact ih2 y h1
     ·have:y=j:=by simpa using h1
      subst this
      omega
  ·rename_i hp
   rw[if_neg hp]at h
   exact ih h
theorem Arz {n:Net} {irb dst:Int} (h:(lookT n irb dst).2=true):E1 n irb dst≠[]∧(lookT n irb dst).1=D4 (cmpR n irb) (E1 n irb dst):=by
 rw[lookT]at h ⊢
 split at h
 ·cases h
 ·rename_i h1
  rw[if_neg h1]
  split at h
  ·cases h
  ·rename_i h2
   rw[if_neg h2]
   exact⟨h2,by rw[D4,if_neg h2]⟩
theorem Ary {n:Net} {irb dst:Int} (h:(lookT n irb dst).2=false):(∃ i,i<n.irbs.length∧E4 n irb dst i=true)∨E1 n irb dst=[]:=by
 rw[lookT]at h
 split at h
 ·rename_i h1
  obtain ⟨i,hi,ht⟩:=List.any_eq_true.1 h1
  exact .inl ⟨i,List.mem_range.1 hi,ht⟩
 ·split at h
  ·rename_i h2;exact .inr h2
  ·cases h
theorem S4 {n:Net} {irb dst:Int} (h:(lookT n irb dst).2=true):(lookT n irb dst).1∈E1 n irb dst∧∀ y∈E1 n irb dst,Y8 n irb y≤Y8 n irb (lookT n irb dst).1∧(y<(lookT n irb dst).1→Y8 n irb y<Y8 n irb (lookT n irb dst).1):=by
 obtain ⟨h1,h2⟩:=Arz h
 rw[h2]
 exact⟨Td _ _ h1,Ad7 n irb _ _ h1⟩
theorem mem_ways {n:Net} {irb dst i:Int}:i∈E1 n irb dst↔InIrbs n i∧Za (nth n.irbs i).addr (nth n.irbs i).bits dst=true∧Z8 n irb i=true:=by
 rw[E1,filtI_mem]
 constructor
 ·rintro ⟨h1,h2,h3⟩
  have e:(i.toNat:Int)=i:=by omega
  rw[Ja,e,Bool.and_eq_true]at h3
  exact⟨⟨h1,by omega⟩,h3⟩
 ·rintro ⟨⟨h1,h2⟩,h3,h4⟩
  have e:(i.toNat:Int)=i:=by omega
  refine⟨h1,by omega,?_⟩
  rw[Ja,e,h3,h4];rfl
theorem takenA_iff {n:Net} {a:Int}:E0 n a=true↔∃ i,∃ h:i<n.irbs.length,n.irbs[i].addr=a:=by
 rw[E0,V7,List.any_eq_true]
 constructor
 ·rintro ⟨x,hx,hxa⟩
  obtain ⟨i,hi,rfl⟩:=List.getElem_of_mem hx
  exact⟨i,hi,by simpa using hxa⟩
 ·rintro ⟨i,hi,he⟩
  exact⟨_,List.getElem_mem hi,by simpa using he⟩
def El (n:Net) (irb to a:Int):Bool:=(lookT n irb a).2 && (lookT n irb a).1 == to && !E0 n a
theorem leadsB_iff {n:Net} {irb to a:Int}:El n irb to a=true↔(lookT n irb a).2=true∧(lookT n irb a).1=to∧E0 n a=false:=by
 simp[El,and_assoc]
def I9 (n:Net) (to:Int) (j:Nat):List Int:=[Cw (nth n.irbs to).addr (nth n.irbs to).bits]++(n.irbs.take j).flatMap fun x=>[x.addr+1,lastI x.addr x.bits+1]
def M2 (n:Net) (to:Int):List Int:=I9 n to n.irbs.length
theorem Ani {n:Net} {to:Int} {i:Nat} (h:i<n.irbs.length):n.irbs[i].addr+1∈M2 n to∧lastI n.irbs[i].addr n.irbs[i].bits+1∈M2 n to:=by
 rw[M2,I9,List.take_length]
 constructor
 ·exact List.mem_append_right _ (List.mem_flatMap.2 ⟨_,List.getElem_mem h,by simp⟩)
 ·exact List.mem_append_right _ (List.mem_flatMap.2 ⟨_,List.getElem_mem h,by simp⟩)
theorem Aje {n:Net} (hu:Dj n) (hb:Ac n=true) {irb to:Int} (hti:InIrbs n to):∀ x,x∈M2 n to→Cw (nth n.irbs to).addr (nth n.irbs to).bits≤x →
  (∀ a,Cw (nth n.irbs to).addr (nth n.irbs to).bits≤a→a<x→El n irb to a=false) →
  ((addrGo n irb to (lastI (nth n.irbs to).addr (nth n.irbs to).bits) x).2=true∧(addrGo n irb to (lastI (nth n.irbs to).addr (nth n.irbs to).bits) x).1∈M2 n to ∧
    El n irb to (addrGo n irb to (lastI (nth n.irbs to).addr (nth n.irbs to).bits) x).1=true ∧
    ∀ a,Cw (nth n.irbs to).addr (nth n.irbs to).bits≤a→a<(addrGo n irb to (lastI (nth n.irbs to).addr (nth n.irbs to).bits) x).1→El n irb to a=false) ∨
   (addrGo n irb to (lastI (nth n.irbs to).addr (nth n.irbs to).bits) x)=(0,false)∧∀ a,Cw (nth n.irbs to).addr (nth n.irbs to).bits≤a→a≤lastI (nth n.irbs to).addr (nth n.irbs to).bits→El n irb to a=false:=by
 have hnt:nth n.irbs to=n.irbs[to.toNat]'hti.2:=Ag hti.2
 have hut:=hu _ (List.getElem_mem hti.2)
 have hbt:=(Cg hb hti.2).2.2
 rw[hnt]
 have hf:=Ji _ (n.irbs[to.toNat]'hti.2).bits hut
 have hl:=Hu _ (n.irbs[to.toNat]'hti.2).bits hut
 have hht:∀ a,0≤a∧a<4294967296→(Za (nth n.irbs to).addr (nth n.irbs to).bits a=true↔Cw (n.irbs[to.toNat]'hti.2).addr (n.irbs[to.toNat]'hti.2).bits≤a∧a≤lastI (n.irbs[to.toNat]'hti.2).addr (n.irbs[to.toNat]'hti.2).bits):=fun a ha=>by
  rw[hnt];exact Mu _ _ _ hbt hut ha
 generalize Cw (n.irbs[to.toNat]'hti.2).addr (n.irbs[to.toNat]'hti.2).bits=f at *
 generalize lastI (n.irbs[to.toNat]'hti.2).addr (n.irbs[to.toNat]'hti.2).bits=e at *
 have hway:∀ a b,f≤a→a≤e→f≤b→b≤e→El n irb to a=true→to∈E1 n irb b:=fun a b ha1 ha2 hb1 hb2 h=>by
  obtain ⟨h1,h2,_⟩:=leadsB_iff.1 h
  have h3:=(S4 h1).1
  rw[h2]at h3
  have h4:=mem_ways.1 h3
  exact mem_ways.2 ⟨h4.1,(hht b qn).2 ⟨hb1,hb2⟩,h4.2.2⟩
 intro x
 induction x using addrGo.induct n irb to e with
 | case1 x h1 h2 =>
  intro hc hfx hno
  rw[addrGo,if_pos h1,if_pos h2]
  exact .inl ⟨E,hc,leadsB_iff.2 h2,hno⟩
 | case2 x h1 h2 h3 =>
  intro hc hfx hno
  rw[addrGo,if_pos h1,if_neg h2,if_pos h3]
  refine .inr ⟨E,fun a ha1 ha2=>?_⟩
  cases hla:El n irb to a
  ·rfl
  have hw:=hway a x ha1 ha2 hfx h1 hla
  rcases Ary h3.1 with ⟨i,hi,ht⟩ | h
  ·rw[E4,Ag (l:=n.irbs) (i:=(i:Int)) (by simpa using hi),Bool.and_eq_true]at ht
   have:E0 n x=true:=takenA_iff.2 ⟨i,hi,by simpa using ht.2⟩
   rw[h3.2]at this
   cases this
  ·rw[h]at hw
   cases hw
 | case3 x h1 h2 h3 h4 ih =>
  intro hc hfx hno
  rw[addrGo,if_pos h1,if_neg h2,if_neg h3,if_pos h4]
  rw[pastI]at h4 ih ⊢
  cases ht:E0 n x
  ·rw[ht]at h2 h3 h4 ih
   rw[if_neg qz]at h4 ih ⊢
   have hl2:(lookT n irb x).2=true:=by cases h:(lookT n irb x).2 with | true=>rfl | false=>exact absurd ⟨h,rfl⟩ h3
   have hne:(lookT n irb x).1≠to:=fun h=>h2 ⟨hl2,h,rfl⟩
   have hmx:=S4 hl2
   have hwl:=mem_ways.1 hmx.1
   have hul:=hu _ (List.getElem_mem hwl.1.2)
   have hbl:=(Cg hb hwl.1.2).2.2
   have hln:nth n.irbs (lookT n irb x).1=n.irbs[(lookT n irb x).1.toNat]'hwl.1.2:=Ag hwl.1.2
   refine ih ?_ qn (fun a ha1 ha2=>?_)
   ·rw[hln];exact(Ani hwl.1.2).2
   ·rcases Int.lt_or_le a x with hax | hax
    ·exact hno a ha1 hax
    cases hla:El n irb to a
    ·rfl
    have hlb:=leadsB_iff.1 hla
    have hma:=S4 hlb.1
    rw[hlb.2.1]at hma
    have hta:=mem_ways.1 hma.1
    rw[hln]at ha2 hwl
    have hr:=Hu _ (n.irbs[(lookT n irb x).1.toNat]'hwl.1.2).bits hul
    have ha:0≤a∧a<4294967296:=by omega
    have hae:=((hht a ha).1 hta.2.1).2
    have hx:=(Mu _ _ _ hbl hul (by omega:0≤x∧x<4294967296)).1 hwl.2.1
    have hla2:(lookT n irb x).1∈E1 n irb a:=mem_ways.2 ⟨hwl.1,by rw[hln];exact(Mu _ _ _ hbl hul ha).2 ⟨by omega,by omega⟩,hwl.2.2⟩
    have k1:=hmx.2 to (hway a x ha1 hae hfx h1 hla)
    have k2:=hma.2 _ hla2
    exact absurd qn hne
  ·rw[ht]at h4 ih
   rw[if_pos rfl]at h4 ih ⊢
   obtain ⟨i,hi,he⟩:=takenA_iff.1 ht
   refine ih (by rw[← he];exact(Ani hi).1) qn (fun a ha1 ha2=>?_)
   rcases Int.lt_or_le a x with hax | hax
   ·exact hno a ha1 hax
   ·have:a=x:=by omega
    subst this
    simp[El,ht]
 | case4 x h1 h2 h3 h4 =>
  intro hc hfx hno
  refine absurd (Ahm hu hb (irb:=irb) (a:=x) qn (fun ht=>?_)).1 h4
  cases h:(lookT n irb x).2 with
  | true=>rfl
  | false=>exact absurd ⟨h,ht⟩ h3
 | case5 x h1 =>
  intro hc hfx hno
  rw[addrGo,if_neg h1]
  exact .inr ⟨E,fun a ha1 ha2=>hno a ha1 qn⟩
def Zm (n:Net) (irb to:Int) (b a:Int):Int:=if a<4294967296∧(b<0∨a<b)∧El n irb to a=true then a else b
def Ek (n:Net) (irb to:Int) (l:List Int):Int:=l.foldl (Zm n irb to) (-1)
theorem Yn (n:Net) (irb to:Int) (l:List Int) (a:Int):Ek n irb to (l++[a])=Zm n irb to (Ek n irb to l) a:=by
 rw[Ek,List.foldl_append];rfl
theorem Amq {α:Type} {p:List α→Prop} (h0:p []) (h1:∀ l a,p l→p (l++[a])):∀ l,p l:=by
 intro l
 have:∀ k (l:List α),l.length=k→p l:=by
  intro k
  induction k with
  | zero=>intro l h;rw[List.length_eq_zero_iff.1 h];exact h0
  | succ k ih =>
   intro l h
   rcases List.eq_nil_or_concat l with rfl | ⟨l',a,rfl⟩
   ·cases h
   ·rw[List.concat_eq_append]at h ⊢
    exact h1 l' a (ih l' (by simpa using h))
 exact this _ l E
theorem Ym (n:Net) (irb to:Int) (l:List Int):(∀ a∈l,0≤a) →
  (Ek n irb to l=-1∧∀ a∈l,a<4294967296→El n irb to a=false) ∨
  ((0≤Ek n irb to l∧Ek n irb to l<4294967296)∧El n irb to (Ek n irb to l)=true∧Ek n irb to l∈l∧∀ a∈l,a<4294967296→El n irb to a=true→Ek n irb to l≤a):=by
 induction l using Amq with
 | h0=>intro _;exact .inl ⟨rfl,fun a h=>by cases h⟩
 | h1 l a ih =>
  intro h0
  have ih:=ih (fun x hx=>h0 x (List.mem_append_left _ hx))
  have ha:=h0 a qz
  rw[Yn,Zm]
  generalize Ek n irb to l=b at *
  rcases ih with ⟨rfl,h⟩ | ⟨h1,h2,h3,h4⟩
  ·split
   ·rename_i hc
    refine .inr ⟨⟨ha,hc.1⟩,hc.2.2,by simp,fun x hx hx2 hx3=>?_⟩
    rcases List.mem_append.1 hx with h5 | h5
    ·rw[h x h5 hx2]at hx3;cases hx3
    ·have:x=a:=by simpa using h5
     omega
   ·rename_i hc
    refine .inl ⟨E,fun x hx hx2=>?_⟩
    rcases List.mem_append.1 hx with h5 | h5
    ·exact h x h5 hx2
    ·have:x=a:=by simpa using h5
     subst this
     cases hl:El n irb to x
     ·rfl
     ·exact absurd ⟨hx2,.inl qn,hl⟩ hc
  ·split
   ·rename_i hc
    refine .inr ⟨⟨ha,hc.1⟩,hc.2.2,by simp,fun x hx hx2 hx3=>?_⟩
    rcases List.mem_append.1 hx with h5 | h5
    ·have:=h4 x h5 hx2 hx3
     omega
    ·have:x=a:=by simpa using h5
     omega
   ·rename_i hc
    refine .inr ⟨h1,h2,List.mem_append_left _ h3,fun x hx hx2 hx3=>?_⟩
    rcases List.mem_append.1 hx with h5 | h5
    ·exact h4 x h5 hx2 hx3
    ·have:x=a:=by simpa using h5
     subst this
     rcases Int.lt_or_le x b with h6 | h6
     ·exact absurd ⟨hx2,.inr h6,hx3⟩ hc
     ·exact h6
theorem Sf {n:Net} (hu:Dj n) {to:Int} (hti:InIrbs n to):∀ j,∀ a∈I9 n to j,0≤a∧a≤4294967296:=by
 intro j a ha
 rw[I9]at ha
 rcases List.mem_append.1 ha with h | h
 ·have:a=Cw (nth n.irbs to).addr (nth n.irbs to).bits:=by simpa using h
  rw[this,Ag hti.2]
  have:=Ji _ (n.irbs[to.toNat]'hti.2).bits (hu _ (List.getElem_mem hti.2))
  omega
 ·obtain ⟨x,hx,h⟩:=List.mem_flatMap.1 h
  have hx2:=hu x (List.mem_of_mem_take hx)
  have hl:=Hu _ x.bits hx2
  have:a=x.addr+1∨a=lastI x.addr x.bits+1:=by simpa using h
  omega
theorem Ap7 {n:Net} (hu:Dj n) (hb:Ac n=true) {irb to:Int} (hk:InIrbs n irb) (hti:InIrbs n to) :
  addrT n irb to=if Ek n irb to (M2 n to)<0 then (0,false) else (Ek n irb to (M2 n to),true):=by
 have hnt:nth n.irbs to=n.irbs[to.toNat]'hti.2:=Ag hti.2
 have hut:=hu _ (List.getElem_mem hti.2)
 have hbt:=(Cg hb hti.2).2.2
 have hl:=Hu _ (n.irbs[to.toNat]'hti.2).bits hut
 have hin:∀ a,0≤a∧a<4294967296→El n irb to a=true→Cw (nth n.irbs to).addr (nth n.irbs to).bits≤a∧a≤lastI (nth n.irbs to).addr (nth n.irbs to).bits:=fun a ha h=>by
  obtain ⟨h1,h2,_⟩:=leadsB_iff.1 h
  have h3:=(S4 h1).1
  rw[h2]at h3
  have h4:=(mem_ways.1 h3).2.1
  rw[hnt]at h4 ⊢
  exact(Mu _ _ _ hbt hut ha).1 h4
 have hsp:=Aje hu hb (irb:=irb) hti _ (show Cw (nth n.irbs to).addr (nth n.irbs to).bits∈M2 n to by rw[M2,I9];simp) (Int.le_refl _) (fun a h1 h2=>by omega)
 have hls:=Ym n irb to (M2 n to) (fun a ha=>(Sf hu hti _ a ha).1)
 have hcn:=Sf hu hti n.irbs.length
 have hf0:=Ji _ (n.irbs[to.toNat]'hti.2).bits hut
 rw[← hnt]at hf0
 rw[addrT,if_pos ⟨⟨hk.1,by have:=hk.2;omega⟩,⟨hti.1,by have:=hti.2;omega⟩,hb⟩]
 rw[← hnt]at hl
 have hgo:=(Aeb (n:=n) (irb:=irb) (to:=to) hl.2 hf0.1).2
 generalize Cw (nth n.irbs to).addr (nth n.irbs to).bits=f at *
 generalize lastI (nth n.irbs to).addr (nth n.irbs to).bits=e at *
 generalize addrGo n irb to e f=r at *
 change ∀ a∈M2 n to,0≤a∧a≤4294967296 at hcn
 generalize M2 n to=l at *
 generalize Ek n irb to l=b at *
 rcases hsp with ⟨h1,h2,h3,h4⟩ | ⟨rfl,h1⟩
 ·have hr:=hcn _ h2
  have hr2:=hgo
  rcases hls with ⟨_,h5⟩ | ⟨h5,h6,h7,h8⟩
  ·rw[h5 _ h2 hr2]at h3;cases h3
  ·rw[if_neg qn]
   have h9:=h8 _ h2 hr2 h3
   have h10:=hin b h5 h6
   have:r.1=b:=by
    rcases Int.lt_or_le b r.1 with h | h
    ·rw[h4 b h10.1 h]at h6;cases h6
    ·omega
   rw[← this,← h1]
 ·rcases hls with ⟨h5,_⟩ | ⟨h5,h6,_,_⟩
  ·rw[if_pos qn]
  ·have h10:=hin b h5 h6
   rw[h1 b h10.1 h10.2]at h6;cases h6
end Go.Sy.YteinjapglfkamaaGreat
namespace Go.Sy.YteinjapglfkamaaGreat
open Go.Proofs
attribute [local irreducible] Go.Sy.G Go.Sy.DR
set_option maxRecDepth 20000
set_option maxHeartbeats 8000000
theorem Aoj (n:Net) (hn:n.Fin) (a:Int):Sy.Spec Tryz.prog 215 [Aj n,Bd a] [] (Ab (E0 n a)) []:=cT F215 Tryz.ntmps215 fun F hF=>by
 have hsi:=hn.irbs
 unfold Al at hsi
 have hlk:=@takenA_iff n a
 generalize E0 n a=res at *
 conv=>whnf
 refine A0 2 8 (Aj n) E E E ?_
 refine oO ?_
 refine Av n.irbs.length (fun j=>∀ i (h:i<n.irbs.length),i<j→n.irbs[i].addr≠a) (fun j=>[(1,Bd a),(2,.ref 8 (Aj n) 0),(5,Aa j)]) (fun _=>[]) [] (fun i h hi=>absurd hi qn) ⟨⟨E,E,E,E,E,E,Y⟩,Y,E,E⟩ ?_
 intro j hj hI
 refine oO ?_
 refine⟨fun h=>?_,fun h=>?_⟩
 ·have hlt:j<n.irbs.length:=by simpa using h
  have hj0:((j:Nat):Int).toNat<n.irbs.length:=by simpa using hlt
  refine oO ?_
  refine⟨E,by omega,hj0,?_⟩
  conv=>whnf
  refine⟨fun h2=>?_,fun h2=>?_⟩
  ·have h3:(n.irbs[((j:Nat):Int).toNat]'hj0).addr=a:=by simpa using h2
   rw[show res=true from hlk.2 ⟨j,hlt,h3⟩]
   refine oO ?_
   exact dN
  ·have h3:(n.irbs[((j:Nat):Int).toNat]'hj0).addr≠a:=by simpa using h2
   refine oO ?_
   refine iW ?_
   refine As [] hI qn (fun i h hi=>?_) ⟨⟨E,E,E,E,E,E,Y⟩,Y,E,E⟩
   rcases Nat.lt_or_ge i j with h1 | h1
   ·exact hI i h h1
   ·have:i=j:=by omega
    subst this;exact h3
 ·have hje:j=n.irbs.length:=qB h
  subst hje
  cases res
  ·refine oO ?_
   exact dN
  ·obtain ⟨i,hi,he⟩:=hlk.1 rfl
   exact absurd he (hI i hi hi)
theorem Aoo (n:Net) (hn:n.Fin) (hb:Ac n=true) (hu:Dj n) (irb to a:Int) (hk:InIrbs n irb) (ha:0≤a∧a<4294967296) :
  Sy.Spec Tryz.prog 155 [Aj n,Aa irb,Aa to,Bd a] [] (Ab (El n irb to a)) []:=cT F155 Tryz.ntmps155 fun F hF=>by
 have q1:=Aah n hn hb hu irb a hk ha
 have q2:=Aoj n hn a
 rw[El]
 generalize lookT n irb a=r at *
 generalize E0 n a=tk at *
 obtain ⟨led,ok⟩:=r
 conv=>whnf
 refine A0 4 8 (Aj n) E E E ?_
 refine oO ?_
 refine c0 q1 F214 ?_
 cases ok
 ·(refine oF ?_;refine bF ?_)
  exact dN
 refine oT ?_
 refine⟨fun h=>?_,fun h=>?_⟩
 ·dsimp only at h ⊢
  rw[show (led == to)=true from h]
  refine oO ?_
  refine c0 q2 F215 ?_
  cases tk
  ·refine oO ?_
   exact dN
  ·refine oO ?_
   exact dN
 ·dsimp only at h ⊢
  rw[show (led == to)=false from h]
  refine oO ?_
  exact dN
theorem Al3 {n:Net} {to:Int} {j:Nat} (h:j<n.irbs.length):I9 n to (j+1)=I9 n to j++[n.irbs[j].addr+1,lastI n.irbs[j].addr n.irbs[j].bits+1]:=by
 rw[I9,I9,List.take_add_one,List.getElem?_eq_getElem h,List.flatMap_append,List.append_assoc]
 congr 1
theorem Ws (n:Net) (to:Int):∀ j,j≤n.irbs.length→(I9 n to j).length=1+2 * j
 | 0,_=>rfl
 | j+1,h=>by
  rw[Al3 qn,List.length_append,Ws n to j qn]
  show 1+2 * j+2=_
  omega
theorem Ag9 (n:Net) (hn:n.Fin) (hb:Ac n=true) (hu:Dj n) (irb to:Int) (hk:InIrbs n irb) (hti:InIrbs n to) :
  Sy.Spec Tryz.prog 102 [Aj n,Aa irb,Aa to] [] (.tup [Bd (addrT n irb to).1,Ab (addrT n irb to).2]) []:=cT F102 Tryz.ntmps102 fun F hF=>by
 have hsame:=Ap7 hu hb hk hti
 generalize addrT n irb to=res at *
 have hp1:=A1 irb n.irbs.length
 have hp2:=A1 to n.irbs.length
 rw[Ck ⟨hk.1,by have:=hk.2;omega⟩]at hp1
 rw[Ck ⟨hti.1,by have:=hti.2;omega⟩]at hp2
 have hsi:=hn.irbs
 unfold Al at hsi
 have hut:=hu _ (List.getElem_mem hti.2)
 have hcn:=Sf hu hti
 have hc0:I9 n to 0=[Cw (n.irbs[to.toNat]'hti.2).addr (n.irbs[to.toNat]'hti.2).bits]:=by rw[I9,Ag hti.2];rfl
 have hcs:=fun j=>@Al3 n to j
 have hcl:=Ws n to
 have hce:M2 n to=I9 n to n.irbs.length:=rfl
 obtain ⟨x,hx⟩:∃ x,n.irbs[to.toNat]'hti.2=x:=⟨_,rfl⟩
 rw[hx]at hut hc0
 obtain ⟨y,hy⟩:=Int.eq_ofNat_of_zero_le hut.1
 have q1:=Xb y x.bits qn
 rw[← hy]at q1
 have hf:=Ji x.addr x.bits hut
 conv=>whnf
 refine A0 3 8 (Aj n) E E E ?_
 refine oO ?_
 refine c0 hp1 F46 ?_
 refine oF ?_
 refine c0 hp2 F46 ?_
 refine oF ?_
 refine⟨E,hti.1,hti.2,?_⟩
 rw[hx]
 conv=>whnf
 refine c0 q1 F153 ?_
 generalize Cw x.addr x.bits=f at *
 rw[← Ig hf.1 (by omega:f<4294967297)]at hc0
 refine oO ?_
 refine Ec 35 Aa (I9 n to 0) E (by rw[hc0];rfl) ?_
 refine Aq n.irbs.length (fun j=>[(1,Aa irb),(2,Aa to),(3,.ref 8 (Aj n) 0),(8,Aa (-1)),(9,.osl 1000),(10,Aa j)]) (fun j=>[(1000,.row 1 Aa (I9 n to j))]) [(1000,35)]
  ⟨⟨rfl,rfl,rfl,rfl,rfl,rfl,rfl,rfl,rfl,rfl,rfl,rfl,trivial⟩,⟨.inl rfl,rfl,trivial⟩,rfl,rfl⟩ ?_
 intro j hj
 have hclj:=hcl j hj
 refine oO ?_
 refine⟨fun h=>?_,fun h=>?_⟩
 ·have hlt:j<n.irbs.length:=by simpa using h
  have hj0:((j:Nat):Int).toNat<n.irbs.length:=by simpa using hlt
  have huj:=hu _ (List.getElem_mem hj0)
  obtain ⟨z,hz⟩:=Int.eq_ofNat_of_zero_le huj.1
  have q2:=Ag6 z (n.irbs[((j:Nat):Int).toNat]'hj0).bits qn
  rw[← hz]at q2
  have hl:=Hu (n.irbs[((j:Nat):Int).toNat]'hj0).addr (n.irbs[((j:Nat):Int).toNat]'hj0).bits huj
  have w1:=Ig huj.1 (by omega:(n.irbs[((j:Nat):Int).toNat]'hj0).addr<4294967297)
  have w2:=Ig hl.1 (by omega:lastI (n.irbs[((j:Nat):Int).toNat]'hj0).addr (n.irbs[((j:Nat):Int).toNat]'hj0).bits<4294967297)
  have hs:I9 n to (j+1)=I9 n to j++[IntKind.i64.wrap (n.irbs[((j:Nat):Int).toNat]'hj0).addr+1,IntKind.i64.wrap (lastI (n.irbs[((j:Nat):Int).toNat]'hj0).addr (n.irbs[((j:Nat):Int).toNat]'hj0).bits)+1]:=by
   rw[w1,w2];exact hcs j hlt
  refine oO ?_
  refine⟨E,by omega,hj0,?_⟩
  conv=>whnf
  refine iW ?_
  refine⟨E,by omega,hj0,?_⟩
  conv=>whnf
  refine cD q2 F154 ?_
  refine oD ?_
  refine iW ?_
  refine Bb (Ad Γ.toTy 63 E E E E E (.row E) (.lit (e:=Aa) (l:=[IntKind.i64.wrap (n.irbs[((j:Nat):Int).toNat]'hj0).addr+1,IntKind.i64.wrap (lastI (n.irbs[((j:Nat):Int).toNat]'hj0).addr (n.irbs[((j:Nat):Int).toNat]'hj0).bits)+1]) E E) qz (by simp;omega) (by simp;omega)) qq E ?_
  refine oD ?_
  refine kW ?_
  refine iW ?_
  exact An [(1000,63)] hlt ⟨⟨E,E,E,E,E,E,E,E,E,E,E,E,Y⟩,⟨.inl (congrArg (Ob.row 1 Aa) hs),E,Y⟩,E,E⟩
 ·have hje:j=n.irbs.length:=qB h
  subst hje
  have hcl2:=hcl n.irbs.length (Nat.le_refl _)
  have hcn2:=hcn n.irbs.length
  have hls:=fun l a=>Yn n irb to l a
  have hl0:Ek n irb to []=-1:=rfl
  have hsp:=fun l=>Ym n irb to l
  rw[hce]at hsame
  generalize I9 n to n.irbs.length=l at *
  refine oO ?_
  refine Ap 1000 E ?_
  refine Aq l.length (fun j=>[(1,Aa irb),(2,Aa to),(3,.ref 8 (Aj n) 0),(8,Aa (Ek n irb to (l.take j))),(9,.sl 1 Aa l),(11,Aa j)]) (fun _=>[]) [] ⟨⟨E,E,E,E,E,E,E,E,E,E,E,E,Y⟩,Y,E,E⟩ ?_
  intro j hj
  refine oO ?_
  refine⟨fun h=>?_,fun h=>?_⟩
  ·have hlt:j<l.length:=by simpa using h
   have hj0:((j:Nat):Int).toNat<l.length:=by simpa using hlt
   obtain ⟨a,ha⟩:∃ a,l[((j:Nat):Int).toNat]'hj0=a:=⟨_,rfl⟩
   have ha':l[j]=a:=ha
   have hta:l.take (j+1)=l.take j++[a]:=by rw[List.take_succ_eq_append_getElem hlt,ha']
   have hmem:a∈l:=by rw[← ha'];exact List.getElem_mem hlt
   have han:=hcn2 a hmem
   have hsj:=hls (l.take j) a
   rw[← hta,Zm]at hsj
   have hbj:=hsp (l.take j) (fun x hx=>(hcn2 x (List.mem_of_mem_take hx)).1)
   have hbr:Ek n irb to (l.take j)<4294967296:=by
    rcases hbj with h | h
    ·omega
    ·exact h.1.2
   clear hbj
   generalize Ek n irb to (l.take j)=b at *
   refine oO ?_
   refine⟨E,by omega,hj0,?_⟩
   rw[ha]
   conv=>whnf
   refine⟨fun h1=>?_,fun h1=>?_⟩
   rotate_left
   ·have h1:¬ a<4294967296:=of_decide_eq_false h1
    rw[if_neg (fun hh=>h1 hh.1)]at hsj
    (refine oF ?_;refine bF ?_)
    refine iW ?_
    exact An [] hlt ⟨⟨E,E,E,E,E,E,congrArg Aa hsj,E,E,E,E,E,Y⟩,Y,E,E⟩
   have h1:a<4294967296:=of_decide_eq_true h1
   have q3:=Aoo n hn hb hu irb to a hk ⟨han.1,h1⟩
   have hw:=W2 han.1 h1
   generalize El n irb to a=lv at *
   refine oO ?_
   refine⟨fun h2=>?_,fun h2=>?_⟩
   ·have h2:b<0:=of_decide_eq_true h2
    refine oT ?_
    rw[hw]
    refine c0 q3 F155 ?_
    cases lv
    ·rw[if_neg qz]at hsj
     refine oF ?_
     refine iW ?_
     exact An [] hlt ⟨⟨E,E,E,E,E,E,congrArg Aa hsj,E,E,E,E,E,Y⟩,Y,E,E⟩
    ·rw[if_pos ⟨h1,.inl h2,rfl⟩]at hsj
     refine oT ?_
     refine iW ?_
     exact An [] hlt ⟨⟨E,E,E,E,E,E,congrArg Aa hsj,E,E,E,E,E,Y⟩,Y,E,E⟩
   ·have h2:¬ b<0:=of_decide_eq_false h2
    refine oO ?_
    refine⟨fun h3=>?_,fun h3=>?_⟩
    ·have h3:a<b:=of_decide_eq_true h3
     refine oO ?_
     rw[hw]
     refine c0 q3 F155 ?_
     cases lv
     ·rw[if_neg qz]at hsj
      refine oF ?_
      refine iW ?_
      exact An [] hlt ⟨⟨E,E,E,E,E,E,congrArg Aa hsj,E,E,E,E,E,Y⟩,Y,E,E⟩
     ·rw[if_pos ⟨h1,.inr h3,rfl⟩]at hsj
      refine oT ?_
      refine iW ?_
      exact An [] hlt ⟨⟨E,E,E,E,E,E,congrArg Aa hsj,E,E,E,E,E,Y⟩,Y,E,E⟩
    ·have h3:¬ a<b:=of_decide_eq_false h3
     rw[if_neg (fun hh=>by have:=hh.2.1;omega)]at hsj
     refine oF ?_
     refine iW ?_
     exact An [] hlt ⟨⟨E,E,E,E,E,E,congrArg Aa hsj,E,E,E,E,E,Y⟩,Y,E,E⟩
  ·have hje:j=l.length:=qB h
   subst hje
   rw[List.take_length]
   have hbj:=hsp l (fun x hx=>(hcn2 x hx).1)
   have hbr:Ek n irb to l<4294967296:=by
    rcases hbj with h | h
    ·omega
    ·exact h.1.2
   clear hbj
   generalize Ek n irb to l=b at *
   refine oO ?_
   refine⟨fun h2=>?_,fun h2=>?_⟩
   ·have h2:b<0:=of_decide_eq_true h2
    rw[if_pos h2]at hsame
    subst hsame
    refine oO ?_
    exact dN
   ·have h2:¬ b<0:=of_decide_eq_false h2
    rw[if_neg h2]at hsame
    subst hsame
    refine oO ?_
    refine Ao E (.cons .tmp (.cons .tmp .nil)) ?_ E
    show SV.tup [.val (.int .u32 b),_]=SV.tup [.val (.int .u32 _),_]
    rw[W2 qn hbr]
    rfl
theorem Tb {n:Net} (h:Ac n=true) {i:Nat} (hi:i<n.domains.length):n.domains[i].irb=-1∨InIrbs n n.domains[i].irb:=by
 have:=Avd h hi
 simp only[I4,Ak,Bool.and_eq_true,Bool.or_eq_true,beq_iff_eq,decide_eq_true_eq]at this
 rcases this.1.2 with h1 | h1
 ·exact .inl h1
 ·exact .inr ⟨h1.1.1,by omega⟩
theorem Aaf (n:Net) (hn:n.Fin) (hb:Ac n=true) (hu:Dj n) (d:Int) (hd:0≤d∧d<n.domains.length):Sy.Spec Tryz.prog 40 [Aj n,Aa d] [] (.sl 3 Du (routesT n d)) []:=cT F40 Tryz.ntmps40 fun F hF=>by
 have hlk:=routesT.eq_1 n d
 generalize routesT n d=res at *
 have hsi:=hn.irbs
 unfold Al at hsi
 have hp:=A1 d n.domains.length
 rw[Ck hd]at hp
 have hk:d.toNat<n.domains.length:=by omega
 have hdi:=Tb hb hk
 rw[Ag hk]at hlk
 obtain ⟨x,hx⟩:∃ x,n.domains[d.toNat]'hk=x:=⟨_,rfl⟩
 rw[hx]at hlk hdi
 conv=>whnf
 refine A0 2 8 (Aj n) E E E ?_
 refine oO ?_
 refine c0 hp F46 ?_
 refine oF ?_
 refine⟨E,hd.1,hk,?_⟩
 rw[hx]
 conv=>whnf
 refine⟨fun h=>?_,fun h=>?_⟩
 ·have h1:x.irb=-1:=by simpa using h
  rw[if_neg qn]at hlk
  subst hlk
  refine oO ?_
  refine Ai 4 3 Du E ?_
  refine oO ?_
  exact dN
 have h1:x.irb≠-1:=by simpa using h
 have hir:InIrbs n x.irb:=hdi.resolve_left h1
 rw[if_pos ⟨hd,hir.1,hb⟩]at hlk
 subst hlk
 refine oO ?_
 refine Bo 5 1000 3 Du E E ?_
 refine Aq n.irbs.length (fun j=>[(1,Aa d),(2,.ref 8 (Aj n) 0),(5,.osl 1000),(6,Aa j)]) (fun j=>[(1000,.row 3 Du (L5 n x.irb j))]) []
  ⟨⟨rfl,rfl,rfl,rfl,rfl,rfl,rfl,rfl,trivial⟩,⟨.inl rfl,rfl,trivial⟩,rfl,rfl⟩ ?_
 intro j hj
 have hll:=L4 n x.irb j
 refine oO ?_
 refine⟨fun h=>?_,fun h=>?_⟩
 ·have hlt:j<n.irbs.length:=by simpa using h
  have hj0:((j:Nat):Int).toNat<n.irbs.length:=by simpa using hlt
  have hs:=Yo n x.irb j
  have hlf:leadF n x.irb j=if (addrT n x.irb j).2=true then some ⟨j,(nth n.irbs j).domain,(addrT n x.irb j).1⟩ else none:=rfl
  have q:=Ag9 n hn hb hu x.irb j hir ⟨by omega,hj0⟩
  rw[Ag (l:=n.irbs) (i:=(j:Int)) hj0]at hlf
  rw[hlf]at hs
  generalize L5 n x.irb j=u at *
  generalize addrT n x.irb j=r at *
  obtain ⟨a,ok⟩:=r
  dsimp only at hs
  refine oO ?_
  refine⟨E,hd.1,hk,?_⟩
  rw[hx]
  conv=>whnf
  refine cD q F102 ?_
  refine oD ?_
  refine kW ?_
  refine⟨fun h=>?_,fun h=>?_⟩<;>(have h:ok=_:=h;subst h)
  ·rw[if_pos rfl]at hs
   refine oO ?_
   refine⟨E,by omega,hj0,?_⟩
   conv=>whnf
   refine Ae (Ad Γ.toTy 55 E E E E E (.row E) (.lit (e:=Du) (l:=[⟨j,(n.irbs[((j:Nat):Int).toNat]'hj0).domain,a⟩]) E E) qz (by simp;omega) (by simp;omega)) E E ?_
   refine oO ?_
   refine iW ?_
   exact An [(1000,55)] hlt ⟨⟨E,E,E,E,E,E,E,E,Y⟩,⟨.inl (congrArg (Ob.row 3 Du) hs),E,Y⟩,E,E⟩
  ·rw[if_neg qz]at hs
   refine oO ?_
   refine iW ?_
   exact An [] hlt ⟨⟨E,E,E,E,E,E,E,E,Y⟩,⟨.inl (congrArg (Ob.row 3 Du) (hs.trans (List.append_nil _))),E,Y⟩,E,E⟩
 ·have hje:j=n.irbs.length:=qB h
  subst hje
  refine oO ?_
  refine Ap 1000 E ?_
  refine oO ?_
  exact dN
end Go.Sy.YteinjapglfkamaaGreat
namespace Go.Sy.YteinjapglfkamaaGreat
theorem Abq {α:Type} {l:List α} {i:Nat} {d:α} (h:i<l.length):l.getD i d=l[i]:=by simp[List.getD,h]
theorem Aik {n:Nat} (h:n≤65535):Dq n=n:=by
 unfold Dq
 split<;>omega
theorem Alo {n:Nat} (h:65535<n):Dq (n / 65536+n % 65536)=Dq n∧n / 65536+n % 65536<n:=by
 unfold Dq
 rw[if_neg qn,if_neg qn]
 omega
theorem App (a x:Nat) (hx:x≤65535):Dq (a+x)=if 65535<Dq a+x then Dq a+x-65535 else Dq a+x:=by
 unfold Dq
 split<;>split<;>split<;>omega
theorem Abt (n:Nat):Dq n≤65535:=by
 unfold Dq
 split<;>omega
def I6 (l:List UInt8):Nat→Nat
 | 0=>0
 | j+1=>I6 l j+((l.getD (2 * j) 0).toNat * 256+(l.getD (2 * j+1) 0).toNat)
theorem Amj (l:List UInt8):∀ j,I6 l j≤65535 * j
 | 0=>Nat.le_refl _
 | j+1=>by
  have ih:=Amj l j
  have h1:=(l.getD (2 * j) 0).toNat_lt
  have h2:=(l.getD (2 * j+1) 0).toNat_lt
  rw[I6]
  omega
def Ve (l:List UInt8):Nat:=65535-Dq (I6 l (l.length / 2))
theorem Lp (n:Nat):(UInt8.ofNat n).toNat=n % 256:=by simp
end Go.Sy.YteinjapglfkamaaGreat
namespace Go.Sy.YteinjapglfkamaaGreat
open Go.Proofs
attribute [local irreducible] Go.Sy.G Go.Sy.DR
set_option maxRecDepth 100000
set_option maxHeartbeats 4000000
theorem Jl (a b:Nat) (ha:a<9223372036854775808) (hb:b<9223372036854775808):bits .and .i64 (a:Int) (b:Int)=((a &&& b:Nat):Int):=by
 have hx:a &&& b<2 ^ 63:=Nat.lt_of_le_of_lt Nat.and_le_left ha
 have h1:(BitVec.ofInt 64 (a:Int)).toNat=a:=by
  rw[BitVec.ofInt_natCast,BitVec.toNat_ofNat];exact Nat.mod_eq_of_lt qn
 have h2:(BitVec.ofInt 64 (b:Int)).toNat=b:=by
  rw[BitVec.ofInt_natCast,BitVec.toNat_ofNat];exact Nat.mod_eq_of_lt qn
 show IntKind.i64.wrap ((BitVec.ofInt 64 (a:Int) &&& BitVec.ofInt 64 (b:Int)).toNat:Int)=_
 rw[BitVec.toNat_and,h1,h2,IntKind.wrap_i64]
 omega
theorem Dw (a b:Nat) (ha:a<9223372036854775808) (hb:b<9223372036854775808):bits .or .i64 (a:Int) (b:Int)=((a ||| b:Nat):Int):=by
 have hx:a ||| b<2 ^ 63:=Nat.or_lt_two_pow qn qn
 have h1:(BitVec.ofInt 64 (a:Int)).toNat=a:=by
  rw[BitVec.ofInt_natCast,BitVec.toNat_ofNat];exact Nat.mod_eq_of_lt qn
 have h2:(BitVec.ofInt 64 (b:Int)).toNat=b:=by
  rw[BitVec.ofInt_natCast,BitVec.toNat_ofNat];exact Nat.mod_eq_of_lt qn
 show IntKind.i64.wrap ((BitVec.ofInt 64 (a:Int) ||| BitVec.ofInt 64 (b:Int)).toNat:Int)=_
 rw[BitVec.toNat_or,h1,h2,IntKind.wrap_i64]
 omega
theorem Amm (n k:Nat) (hk:k<64):(n:Int).fdiv (2 ^ (min (Int.toNat (k:Int)) IntKind.i64.bits))=((n / 2 ^ k:Nat):Int):=by
 have h1:min (Int.toNat (k:Int)) IntKind.i64.bits=k:=by simp[IntKind.bits];omega
 rw[h1,Int.fdiv_eq_ediv_of_nonneg _ (by exact Int.pow_nonneg qy)]
 simp
theorem Aus (n:Nat) (h:n<9223372036854775808):bits .and .i64 (n:Int) 65535=((n % 65536:Nat):Int):=by
 have:=Jl n 65535 h qy
 rw[show ((65535:Nat):Int)=65535 from rfl]at this
 rw[this]
 have h2:=Nat.and_two_pow_sub_one_eq_mod n 16
 rw[show 2 ^ 16-1=65535 from rfl,show 2 ^ 16=65536 from rfl]at h2
 rw[h2]
theorem Aps (n:Nat) (h:n<9223372036854775808):Sy.Spec Tryz.prog 278 [.ptr 0 0] [(0,.box [Aa n])] (.tup []) [(0,.box [Aa (n / 65536+n % 65536:Nat)])]:=cT F278 Tryz.ntmps278 fun F hF=>by
 have e1:(n:Int).fdiv (2 ^ (min (Int.toNat 16) IntKind.i64.bits))=((n / 65536:Nat):Int):=Amm n 16 qy
 have e2:=Aus n h
 conv=>whnf
 first | (refine⟨by omega,?_⟩;(conv=>whnf)) | skip
 rw[e1,e2]
 refine iW ?_
 exact Bg E .nil [] [(0,.box [Aa (n / 65536+n % 65536:Nat)])] (fun _ h=>h) E E ⟨Y,⟨.inl E,E,Y⟩,E,E⟩
theorem Aqq (n:Nat) (h:n<9223372036854775808):Sy.Spec Tryz.prog 216 [Aa n] [] (Aa (Dq n)) []:=cT F216 Tryz.ntmps216 fun F hF=>by
 conv=>whnf
 refine Sr (α:={m:Nat // Dq m=Dq n∧m≤n}) (fun m=>[(3,.clo (.func 278) [] [.ptr 1 0]),(1,.ptr 1 0)]) (fun m=>[(1,.box [Aa m.1])]) (fun m=>m.1) ⟨n,E,Nat.le_refl _⟩ []
  ⟨⟨rfl,rfl,rfl,rfl,trivial⟩,⟨.inl rfl,rfl,trivial⟩,rfl,rfl⟩ ?_
 rintro ⟨m,h1,h2⟩
 dsimp only
 refine oO ?_
 refine⟨fun h3=>?_,fun h3=>?_⟩
 ·have hmm:65535<m:=by have:=of_decide_eq_true h3;omega
  obtain ⟨g1,g2⟩:=Alo hmm
  refine oO ?_
  refine Ae (Cu [(0,1)] (Df E E F278) (Aps m qn) E ⟨E,Y⟩ E ⟨.inl E,Y⟩) E E ?_
  refine oO ?_
  exact Ub (α:={m:Nat // Dq m=Dq n∧m≤n}) (x:=⟨m,h1,h2⟩) ⟨m / 65536+m % 65536,by rw[g1,h1],by omega⟩ [] g2 ⟨⟨E,E,E,E,Y⟩,⟨.inl E,E,Y⟩,E,E⟩
 ·have hmm:m≤65535:=by have:=of_decide_eq_false h3;omega
  have e:Dq n=m:=by rw[← h1,Aik hmm]
  refine oO ?_
  refine Ao E (.cons .tmp .nil) ?_ E
  exact congrArg (fun z:Nat=>Aa z) e
theorem Hf (a b:UInt8):bits .or .i64 (IntKind.i64.wrap ((IntKind.i64.wrap (a.toNat:Int)) * 2 ^ min (Int.toNat 8) IntKind.i64.bits)) (IntKind.i64.wrap (b.toNat:Int))=((a.toNat * 256+b.toNat:Nat):Int):=by
 have h1:=a.toNat_lt
 have h2:=b.toNat_lt
 have e1:IntKind.i64.wrap (a.toNat:Int)=(a.toNat:Int):=by rw[IntKind.wrap_i64];omega
 have e2:IntKind.i64.wrap (b.toNat:Int)=(b.toNat:Int):=by rw[IntKind.wrap_i64];omega
 rw[e1,e2]
 have h3:IntKind.i64.wrap ((a.toNat:Int) * 2 ^ min (Int.toNat 8) IntKind.i64.bits)=((a.toNat * 256:Nat):Int):=by
  show IntKind.i64.wrap ((a.toNat:Int) * 256)=_
  rw[IntKind.wrap_i64]
  omega
 rw[h3,Dw _ _ qn qn]
 congr 1
 have h:=Nat.two_pow_add_eq_or_of_lt (i:=8) (b:=b.toNat) qn a.toNat
 rw[Nat.mul_comm a.toNat 256]
 exact h.symm
theorem Amk (l:List UInt8) (hl:l.length<100000) (h2:l.length % 2=0):Sy.Spec Tryz.prog 156 [.sl 1 Af l] [] (Aa (Dq (I6 l (l.length / 2)))) []:=cT F156 Tryz.ntmps156 fun F hF=>by
 conv=>whnf
 refine Aq (l.length / 2) (fun j=>[(0,.sl 1 Af l),(3,Aa (I6 l j)),(4,Aa (2 * (j:Int)))]) (fun _=>[]) [] ⟨⟨E,E,E,E,E,E,Y⟩,Y,E,E⟩ ?_
 intro j hj
 have hw:=Amj l j
 refine oO ?_
 refine iW ?_
 refine⟨fun h=>?_,fun h=>?_⟩
 ·have hlt:2 * j+1<l.length:=qA h
  have hs:I6 l (j+1)=I6 l j+((l[2 * j]'qn).toNat * 256+(l[2 * j+1]'hlt).toNat):=by
   rw[I6,Abq (show 2 * j<l.length by omega),Abq hlt]
  have e1:l[(2 * (j:Int)).toNat]'qn=l[2 * j]'qn:=by congr 1
  have e2:l[(2 * (j:Int)+1).toNat]'qn=l[2 * j+1]'hlt:=by congr 1
  have hp:=Hf (l[2 * j]'qn) (l[2 * j+1]'hlt)
  have hb1:=(l[2 * j]'qn).toNat_lt
  have hb2:=(l[2 * j+1]'hlt).toNat_lt
  rw[← e1,← e2]at hp hs
  rw[← e1]at hb1
  rw[← e2]at hb2
  refine oO ?_
  refine⟨E,by omega,by omega,?_⟩
  conv=>whnf
  refine⟨by omega,?_⟩
  conv=>whnf
  refine iW ?_
  refine⟨E,by omega,by omega,?_⟩
  conv=>whnf
  refine⟨(by rw[hp];unfold I64;omega),?_⟩
  conv=>whnf
  refine kW ?_
  refine iW ?_
  refine An [] qn ⟨⟨E,E,congrArg (fun z=>SV.val (.int .i64 z)) ?_,E,congrArg (fun z=>SV.val (.int .i64 z)) ?_,E,Y⟩,Y,E,E⟩
  ·rw[hp,hs];omega
  ·omega
 have hjl:j=l.length / 2:=by
  have:=of_decide_eq_false h
  omega
 have hpar:¬ bits .and .i64 (l.length:Int) 1=1:=by
  have:=Jl l.length 1 qn qy
  rw[show ((1:Nat):Int)=1 from rfl]at this
  rw[this,Nat.and_one_is_mod,h2]
  decide
 have hd:=Aqq (I6 l j) qn
 rw[hjl]at hd ⊢
 clear hjl
 refine oO ?_
 refine⟨fun h=>absurd (of_decide_eq_true h) hpar,fun _=>?_⟩
 refine oO ?_
 refine c0 hd F216 ?_
 refine oO ?_
 exact dN
theorem sumOfS (l:List UInt8) (hl:l.length<100000) (h2:l.length % 2=0):Sy.Spec Tryz.prog 105 [.sl 1 Af l] [] (Aa (Ve l)) []:=cT F105 Tryz.ntmps105 fun F hF=>by
 have ha:=Amk l hl h2
 have hle:=Abt (I6 l (l.length / 2))
 conv=>whnf
 refine c0 ha F156 ?_
 refine oO ?_
 refine iW ?_
 refine Ao E (.cons .tmp .nil) ?_ E
 refine congrArg Aa ?_
 rw[Ve]
 omega
theorem Ams (l:List UInt8) (hl:l.length<100000) (h2:l.length % 2=0):Sy.Spec Tryz.prog 158 [.sl 1 Af l] [] (Aa (Dq (I6 l (l.length / 2)))) []:=cT F158 Tryz.ntmps158 fun F hF=>by
 conv=>whnf
 refine Aq (l.length / 2) (fun j=>[(0,.sl 1 Af l),(3,Aa (Dq (I6 l j))),(4,Aa (2 * (j:Int)))]) (fun _=>[]) [] ⟨⟨E,E,E,E,E,E,Y⟩,Y,E,E⟩ ?_
 intro j hj
 have hw:=Abt (I6 l j)
 refine oO ?_
 refine⟨fun h=>?_,fun h=>?_⟩
 ·have hlt0:2 * j<l.length:=qA h
  have hlt:2 * j+1<l.length:=by omega
  have hb1:=(l[2 * j]'qn).toNat_lt
  have hb2:=(l[2 * j+1]'hlt).toNat_lt
  have hs:Dq (I6 l (j+1))=if 65535<Dq (I6 l j)+((l[2 * j]'qn).toNat * 256+(l[2 * j+1]'hlt).toNat) then Dq (I6 l j)+((l[2 * j]'qn).toNat * 256+(l[2 * j+1]'hlt).toNat)-65535 else Dq (I6 l j)+((l[2 * j]'qn).toNat * 256+(l[2 * j+1]'hlt).toNat):=by
   rw[I6,Abq (show 2 * j<l.length by omega),Abq hlt,App _ _ qn]
  have e1:l[(2 * (j:Int)).toNat]'qn=l[2 * j]'qn:=by congr 1
  have e2:l[(2 * (j:Int)+1).toNat]'qn=l[2 * j+1]'hlt:=by congr 1
  obtain ⟨x,hx⟩:∃ x,l[2 * j]'qn=x:=⟨_,rfl⟩
  obtain ⟨y,hy⟩:∃ y,l[2 * j+1]'hlt=y:=⟨_,rfl⟩
  rw[hx]at e1 hs hb1
  rw[hy]at e2 hs hb2
  have w1:IntKind.i64.wrap (x.toNat:Int)=(x.toNat:Int):=by rw[IntKind.wrap_i64];omega
  have w2:IntKind.i64.wrap (y.toNat:Int)=(y.toNat:Int):=by rw[IntKind.wrap_i64];omega
  refine oO ?_
  refine⟨E,by omega,by omega,?_⟩
  rw[e1]
  conv=>whnf
  rw[w1]
  refine iW ?_
  refine iW ?_
  refine⟨fun h4=>?_,fun h4=>absurd (of_decide_eq_false h4) qn⟩
  refine oO ?_
  refine iW ?_
  refine⟨E,by omega,by omega,?_⟩
  rw[e2]
  conv=>whnf
  rw[w2]
  refine iW ?_
  refine iW ?_
  refine⟨fun h5=>?_,fun h5=>?_⟩
  ·have h5:=of_decide_eq_true h5
   rw[if_pos qn]at hs
   refine oO ?_
   refine iW ?_
   refine iW ?_
   refine An [] qn ⟨⟨E,E,congrArg (fun z=>SV.val (.int .i64 z)) ?_,E,congrArg (fun z=>SV.val (.int .i64 z)) ?_,E,Y⟩,Y,E,E⟩
   ·rw[hs];omega
   ·omega
  ·have h5:=of_decide_eq_false h5
   rw[if_neg qn]at hs
   refine oO ?_
   refine iW ?_
   refine An [] qn ⟨⟨E,E,congrArg (fun z=>SV.val (.int .i64 z)) ?_,E,congrArg (fun z=>SV.val (.int .i64 z)) ?_,E,Y⟩,Y,E,E⟩
   ·rw[hs];omega
   ·omega
 ·have hjl:j=l.length / 2:=by
   have:=of_decide_eq_false h
   omega
  subst hjl
  refine oO ?_
  exact dN
theorem Aok (l:List UInt8) (hl:l.length<100000) (h2:l.length % 2=0):Sy.Spec Tryz.prog 109 [.sl 1 Af l] [] (Aa (Ve l)) []:=cT F109 Tryz.ntmps109 fun F hF=>by
 have ha:=Ams l hl h2
 have hle:=Abt (I6 l (l.length / 2))
 conv=>whnf
 refine c0 ha F158 ?_
 refine oO ?_
 refine iW ?_
 refine Ao E (.cons .tmp .nil) ?_ E
 refine congrArg Aa ?_
 rw[Ve]
 omega
def Ars (n:Nat):SV:=Aa n
def K5 (l:List Nat):List UInt8:=l.flatMap fun n=>[UInt8.ofNat (n / 256),UInt8.ofNat n]
theorem Acl (l:List Nat):(K5 l).length=2 * l.length:=by
 induction l with
 | nil=>rfl
 | cons a l ih=>simp only[K5,List.flatMap_cons,List.length_append,List.length_cons,List.length_nil]at ih ⊢;omega
theorem Ahn (l:List Nat) (n:Nat):K5 (l++[n])=K5 l++[UInt8.ofNat (n / 256),UInt8.ofNat n]:=by simp[K5]
theorem Aek (a b:Int) (h:0≤a∧a≤b):Sy.Spec Tryz.prog 103 [Aa a,Aa b] [] (Ab true) []:=cT F103 Tryz.ntmps103 fun F hF=>by
 conv=>whnf
 refine⟨fun _=>?_,fun h2=>absurd (of_decide_eq_false h2) qn⟩
 refine oO ?_
 refine Ao E (.cons .tmp .nil) ?_ E
 exact congrArg Ab (decide_eq_true h.2).symm
theorem Aty (a b:Int) (h:0≤a∧a≤b):Sy.Spec Tryz.prog 107 [Aa a,Aa b] [] (Ab false) []:=cT F107 Tryz.ntmps107 fun F hF=>by
 conv=>whnf
 refine⟨fun h2=>absurd (of_decide_eq_true h2) qn,fun _=>?_⟩
 refine oO ?_
 refine Ao E (.cons .tmp .nil) ?_ E
 exact congrArg Ab (decide_eq_false qn).symm
theorem Ar5 (l:List Nat) (hl:l.length<100000):Sy.Spec Tryz.prog 104 [.val (.slice none 0 0),.sl 1 Ars l] [] (.osl 0) [(0,.row 1 Af (K5 l))]:=cT F104 Tryz.ntmps104 fun F hF=>by
 conv=>whnf
 refine Bo 0 1000 1 Af E E ?_
 refine Aq l.length (fun j=>[(0,.osl 1000),(7,.sl 1 Ars l),(8,Aa l.length),(9,Aa j)]) (fun j=>[(1000,.row 1 Af (K5 (l.take j)))]) [] ⟨⟨E,E,E,E,E,E,E,E,Y⟩,⟨.inl E,E,Y⟩,E,E⟩ ?_
 intro j hj
 have hpl:=Acl (l.take j)
 refine oO ?_
 refine⟨fun h=>?_,fun h=>?_⟩
 ·have hlt:j<l.length:=by simpa using h
  have e1:l[(j:Int).toNat]'qn=l[j]:=rfl
  have hsucc:K5 (l.take (j+1))=K5 (l.take j)++[UInt8.ofNat (l[j] / 256),UInt8.ofNat l[j]]:=by
   rw[List.take_succ_eq_append_getElem hlt,Ahn]
  obtain ⟨n,hn⟩:∃ n,l[j]=n:=⟨_,rfl⟩
  rw[hn]at e1 hsucc
  have htb:=E9 n
  refine oO ?_
  refine⟨E,by omega,by omega,?_⟩
  rw[e1]
  conv=>whnf
  refine⟨by omega,?_⟩
  conv=>whnf
  refine Ae (Ad Γ.toTy 20 E E E E E (.row E) (.lit (e:=Af) (l:=[UInt8.ofNat (n / 256),UInt8.ofNat n]) E htb) qz (by simp[hpl];omega) (by simp[hpl];omega)) E E ?_
  refine oO ?_
  refine iW ?_
  exact An [(1000,20)] hlt ⟨⟨E,E,E,E,E,E,E,E,Y⟩,⟨.inl (congrArg (Ob.row 1 Af) hsucc),E,Y⟩,E,E⟩
 ·have hjl:j=l.length:=by
   have:¬ j<l.length:=by simpa using h
   omega
  subst hjl
  rw[List.take_length]
  refine oO ?_
  exact done E (.cons .tmp .nil) [(0,1000)] [(0,.row 1 Af (K5 l))] (fun _ h=>h) E E ⟨Y,⟨.inl E,E,Y⟩,E,E⟩
theorem Au7 (n:Nat):IntKind.u8.wrap (n:Int)=((UInt8.ofNat n).toNat:Int):=by
 rw[IntKind.wrap_u8]
 simp
def beU (k n j:Nat):List UInt8:=List.replicate (k-j) 0++be j n
theorem Al9 (k n j:Nat) (h:j≤k):(beU k n j).length=k:=by simp[beU,A3];omega
theorem As2 (k n j:Nat) (h:j<k):beU k n (j+1)=(beU k n j).set (k-1-j) (UInt8.ofNat (n / 256 ^ j)):=by
 have e:k-j=(k-(j+1))+1:=by omega
 rw[beU,beU,e,List.replicate_succ',List.append_assoc,List.set_append_right _ _ (by simp;omega),List.length_replicate,show k-1-j-(k-(j+1))=0 by omega]
 rfl
theorem Mk (n k:Nat) (hn:n<9223372036854775808) (hk:k≤8):Sy.Spec Tryz.prog 108 [Aa n,Aa k] [] (.osl 0) [(0,.row 1 Af (be k n))]:=cT F108 Tryz.ntmps108 fun F hF=>by
 conv=>whnf
 refine Ae (Bm Γ.toTy (d:=8) (n:=k) Af 0 E E E E E E E E qn qn E E E) E E ?_
 refine oO ?_
 refine Aq k (fun j=>[(0,Aa (n / 256 ^ j:Nat)),(1,Aa k),(5,.osl 8),(6,Aa j)]) (fun j=>[(8,.row 1 Af (beU k n j))]) [] ⟨⟨congrArg (fun z:Nat=>Aa z) qz,E,E,E,E,E,E,E,Y⟩,⟨.inl (congrArg (Ob.row 1 Af) (by simp[beU,be])),E,Y⟩,E,E⟩ ?_
 intro j hj
 have hlen:=Al9 k n j hj
 refine oO ?_
 refine⟨fun h=>?_,fun h=>?_⟩
 ·have hlt:j<k:=qA h
  have hsucc:=As2 k n j hlt
  have hle:=Nat.div_le_self n (256 ^ j)
  have hdiv:=Ang n j
  generalize n / 256 ^ j=q at *
  generalize beU k n j=u at *
  have e3:IntKind.u8.wrap ((q:Int).tmod 256)=((UInt8.ofNat q).toNat:Int):=by
   rw[Int.tmod_eq_emod_of_nonneg qn,IntKind.wrap_u8]
   simp
  refine oO ?_
  refine iW ?_
  refine iW ?_
  refine⟨by decide,?_⟩
  conv=>whnf
  refine⟨by omega,by omega,?_⟩
  conv=>whnf
  refine⟨E,by omega,UInt8.ofNat q,congrArg (fun z=>[SV.val (.int .u8 z)]) e3.symm,E,?_⟩
  conv=>whnf
  refine⟨by decide,?_⟩
  conv=>whnf
  refine iW ?_
  refine An [] hlt ⟨⟨congrArg (fun z=>SV.val (.int .i64 z)) ?_,E,E,E,E,E,E,E,Y⟩,⟨.inl (congrArg (Ob.row 1 Af) ?_),E,Y⟩,E,E⟩
  ·rw[← hdiv,Int.tdiv_eq_ediv_of_nonneg qn,IntKind.wrap_i64];omega
  ·rw[hsucc];congr 1;omega
 ·have hjk:j=k:=qB h
  subst hjk
  refine oO ?_
  refine done E (.cons .tmp .nil) [(0,8)] [(0,.row 1 Af (be j n))] (fun _ h=>h) E E ⟨Y,⟨.inl (congrArg (Ob.row 1 Af) ?_),E,Y⟩,E,E⟩
  simp[beU]
theorem Kt {x:Int} (h0:0≤x) (h1:x<18446744073709551616):IntKind.u64.wrap x=x:=by rw[IntKind.wrap_u64];omega
theorem Ads (ip:Nat) (h:ip<4294967296):Sy.Spec Tryz.prog 44 [Bd ip] [] (Aw (Ev ip)) []:=cT F44 Tryz.ntmps44 fun F hF=>by
 conv=>whnf
 refine Ao E (.cons .tmp .nil) ?_ E
 refine congrArg (fun z=>SV.val (.int .u64 z)) ?_
 have e:IntKind.u64.wrap (ip:Int)=ip:=Kt qn qn
 rw[e]
 have hb:=bits_or_u64_nat 2199023255552 ip qy qn
 rw[show ((2199023255552:Nat):Int)=2199023255552 from rfl]at hb
 rw[hb,Ev,Int.toNat_natCast]
 have h2:=Nat.two_pow_add_eq_or_of_lt (i:=32) (b:=ip) qn 512
 rw[show 2 ^ 32 * 512=2199023255552 from rfl]at h2
 rw[← h2]
theorem Mj (ip:Nat) (h:ip<4294967296):Sy.Spec Tryz.prog 47 [Bd ip] [] (Aw (Ev ip)) []:=cT F47 Tryz.ntmps47 fun F hF=>by
 conv=>whnf
 refine Ao E (.cons .tmp .nil) ?_ E
 refine congrArg (fun z=>SV.val (.int .u64 z)) ?_
 have e:IntKind.u64.wrap (ip:Int)=ip:=Kt qn qn
 rw[e,Kt qn qn,Ev,Int.toNat_natCast]
 omega
theorem tagIsS (d s:Nat) (t:Int) (body:List UInt8) (ht:t≠33024):Sy.Spec Tryz.prog 182 [Aij d s t body] [] (Ab false) []:=cT F182 Tryz.ntmps182 fun F hF=>by
 conv=>whnf
 refine Ao E (.cons .tmp .nil) ?_ E
 exact congrArg Ab (beq_eq_false_iff_ne.2 ht).symm
theorem Atz (v:Nat) (hv:v<9223372036854775808):bits .or .i64 (IntKind.i64.wrap (0 * 2 ^ min (Int.toNat 12) IntKind.i64.bits)) (v:Int)=v:=by
 have h:=Dw 0 v qy hv
 rw[Nat.zero_or]at h
 exact h
theorem Ato (d s t v:Nat) (body:List UInt8) (ht:t≠33024) (ht2:t≤65535) (hv:v≤4094) (hb:body.length≤1500) :
  Sy.Spec Tryz.prog 122 [Aij d s t body,Aa v,Aa 0] [] (.tup [Aij d s 33024 ([UInt8.ofNat (v / 256),UInt8.ofNat v,UInt8.ofNat (t / 256),UInt8.ofNat t]++body),Aa 0]) []:=cT F122 Tryz.ntmps122 fun F hF=>by
 have hor:=Atz v qn
 have tb1:=E9 v
 have tb2:=E9 t
 conv=>whnf
 refine c0 (tagIsS d s t body qn) F182 ?_
 (refine oF ?_;refine bF ?_)
 refine⟨fun h=>absurd (of_decide_eq_true h) qn,fun _=>?_⟩
 (refine oF ?_;refine bF ?_;refine bF ?_)
 refine⟨fun h=>absurd (of_decide_eq_true h) qn,fun _=>?_⟩
 refine oO ?_
 refine⟨fun h=>absurd (of_decide_eq_true h) qn,fun _=>?_⟩
 refine oO ?_
 refine⟨by omega,?_⟩
 conv=>whnf
 rw[hor]
 refine⟨by omega,?_⟩
 conv=>whnf
 refine⟨by omega,?_⟩
 conv=>whnf
 refine Bb (Ad Γ.toTy 70 E E E E E (.lit (e:=Af) (l:=[UInt8.ofNat (v / 256),UInt8.ofNat v,UInt8.ofNat (t / 256),UInt8.ofNat t]) E ?_) .sl qz (by simp;omega) (by simp;omega)) qq E ?_
 ·have h1:=List.cons.inj tb1
  have h2:=List.cons.inj tb2
  have h3:=List.cons.inj h1.2
  have h4:=List.cons.inj h2.2
  simp only[List.map_cons,List.map_nil]
  rw[h1.1,h3.1,h2.1,h4.1]
 refine oD ?_
 refine kW ?_
 refine Ap 70 E ?_
 exact dN
theorem Aj2 (d s t v:Nat) (body:List UInt8) (ht:t≠33024) (ht2:t≤65535) (hv:v≤4094) (hb:body.length≤1500) :
  Sy.Spec Tryz.prog 125 [Aij d s t body,Aa v,Aa 0] [] (.tup [Aij d s 33024 ([UInt8.ofNat (v / 256),UInt8.ofNat v,UInt8.ofNat (t / 256),UInt8.ofNat t]++body),Aa 0]) []:=cT F125 Tryz.ntmps125 fun F hF=>by
 have tb1:=Jb v qn
 have tb2:=Jb t ht2
 conv=>whnf
 refine⟨fun h=>absurd (by simpa using h) (show ¬ (t:Int)=33024 by omega),fun _=>?_⟩
 refine oF ?_
 refine⟨fun h=>absurd (of_decide_eq_true h) qn,fun _=>?_⟩
 (refine oF ?_;refine bF ?_;refine bF ?_)
 refine⟨fun h=>absurd (of_decide_eq_true h) qn,fun _=>?_⟩
 refine oO ?_
 refine⟨fun h=>absurd (of_decide_eq_true h) qn,fun _=>?_⟩
 refine oO ?_
 refine⟨by unfold I64;decide,?_⟩
 conv=>whnf
 refine iW ?_
 rw[Int.zero_mul,Int.zero_add]
 refine⟨by decide,?_⟩
 conv=>whnf
 refine⟨by decide,?_⟩
 conv=>whnf
 refine⟨by decide,?_⟩
 conv=>whnf
 refine⟨by decide,?_⟩
 conv=>whnf
 refine Bb (Ad Γ.toTy 70 E E E E E (.lit (e:=Af) (l:=[UInt8.ofNat (v / 256),UInt8.ofNat v,UInt8.ofNat (t / 256),UInt8.ofNat t]) E ?_) .sl qz (by simp;omega) (by simp;omega)) qq E ?_
 ·have h1:=List.cons.inj tb1
  have h2:=List.cons.inj tb2
  have h3:=List.cons.inj h1.2
  have h4:=List.cons.inj h2.2
  simp only[List.map_cons,List.map_nil]
  rw[h1.1,h3.1,h2.1,h4.1]
 refine oD ?_
 refine kW ?_
 refine Ap 70 E ?_
 exact dN
end Go.Sy.YteinjapglfkamaaGreat
namespace Go.Sy.YteinjapglfkamaaGreat
open Go.Proofs
def Hi (l:List UInt8):Nat:=l.foldl (fun n c=>n * 256+c.toNat) 0
theorem Ac3 (l:List UInt8) (c:UInt8):Hi (l++[c])=Hi l * 256+c.toNat:=by
 rw[Hi,List.foldl_append];rfl
theorem Kc:∀ (k:Nat) (l:List UInt8),l.length=k→Hi l<256 ^ k
 | 0,l,h=>by rw[List.length_eq_zero_iff.1 h];decide
 | k+1,l,h=>by
  have hne:l≠[]:=fun e=>by rw[e]at h;cases h
  have e:=List.dropLast_concat_getLast hne
  have h1:=Kc k l.dropLast (by rw[List.length_dropLast];omega)
  have h2:=(l.getLast hne).toNat_lt
  rw[← e,Ac3,Nat.pow_succ]
  omega
theorem W1 (l:List UInt8) {j:Nat} (h:j<l.length):Hi (l.take (j+1))=Hi (l.take j) * 256+l[j].toNat:=by
 rw[List.take_succ_eq_append_getElem h,Ac3]
theorem Atl (m:Nat) (c:UInt8) (h:m<1099511627776) :
  bits .or .u64 (IntKind.u64.wrap ((m:Int) * 2 ^ min (Int.toNat 8) IntKind.u64.bits)) (IntKind.u64.wrap (c.toNat:Int))=((m * 256+c.toNat:Nat):Int):=by
 have hc:=c.toNat_lt
 have e1:IntKind.u64.wrap ((m:Int) * 2 ^ min (Int.toNat 8) IntKind.u64.bits)=((m * 256:Nat):Int):=by
  show IntKind.u64.wrap ((m:Int) * 256)=_
  rw[IntKind.wrap_u64];omega
 have e2:IntKind.u64.wrap (c.toNat:Int)=(c.toNat:Int):=by rw[IntKind.wrap_u64];omega
 rw[e1,e2,bits_or_u64_nat _ _ qn qn]
 congr 1
 have h:=Nat.two_pow_add_eq_or_of_lt (i:=8) (b:=c.toNat) qn m
 rw[Nat.mul_comm m 256]
 exact h.symm
def Ea (m:Nat):Bool:=decide (m / 1099511627776 % 2=1)
theorem Aut (m k:Nat):m &&& 2 ^ k=if m / 2 ^ k % 2=1 then 2 ^ k else 0:=by
 apply Nat.eq_of_testBit_eq
 intro i
 rw[Nat.testBit_and,Nat.testBit_two_pow]
 by_cases hi:k=i
 ·subst hi
  rw[decide_eq_true rfl,Bool.and_true,Nat.testBit_eq_decide_div_mod_eq]
  split
  ·rename_i h;rw[decide_eq_true h,Nat.testBit_two_pow_self]
  ·rename_i h;rw[decide_eq_false h,Nat.zero_testBit]
 ·rw[decide_eq_false hi,Bool.and_false]
  split
  ·rw[Nat.testBit_two_pow,decide_eq_false hi]
  ·rw[Nat.zero_testBit]
theorem Apj (m:Nat) (h:m<18446744073709551616):(bits .and .u64 (m:Int) 1099511627776 != 0)=Ea m:=by
 have e:=bits_and_u64_nat m 1099511627776 h qy
 rw[show ((1099511627776:Nat):Int)=1099511627776 from rfl]at e
 rw[e,show (1099511627776:Nat)=2 ^ 40 from rfl,Aut,Ea,show (1099511627776:Nat)=2 ^ 40 from rfl]
 split
 ·rename_i h;rw[decide_eq_true h];rfl
 ·rename_i h;rw[decide_eq_false h];rfl
theorem Ase (m:Nat):decide ((UInt8.ofNat (m / 256 ^ 5)).toNat % 2=1)=Ea m:=by
 rw[Ea]
 refine decide_eq_decide.2 ?_
 rw[show (256:Nat) ^ 5=1099511627776 from rfl,UInt8.toNat_ofNat']
 omega
structure EntryM where
 mac:Nat
 where_:Int
 seen:Int
deriving DecidableEq
def Am (e:EntryM):SV:=.agg [Aw e.mac,Aa e.where_,Aa e.seen]
def Eu (m:Nat):Bool:=decide (m≤281474976710655) && !Ea m
def Cy (now:Int):Bool:=decide (0≤now) && decide (now≤1099511627776)
def C1 (t:List EntryM) (m:Nat):Int:=Cm (fun e=>decide (e.mac=m)) t
def Jj (t:List EntryM) (i:Nat) (e:EntryM):Bool:=Eu e.mac && Cy e.seen && decide (C1 t e.mac=i)
def tableB (t:List EntryM):Bool:=decide (t.length≤8) && Dc (Jj t) t
def findE (t:List EntryM) (m:Nat):Int × Bool:=if C1 t m<0 then (0,false) else (((t[(C1 t m).toNat]?).map (·.where_)).getD 0,true)
def oldestU (t:List EntryM):Nat→Nat
 | 0=>0
 | j+1=>if ((t[j]?).map (·.seen)).getD 0<((t[oldestU t j]?).map (·.seen)).getD 0 then j else oldestU t j
def learnT (t:List EntryM) (m:Nat) (wh now:Int):List EntryM :=
 if tableB t=false∨Eu m=false∨Cy now=false then t
 else if 0≤C1 t m then t.set (C1 t m).toNat ⟨m,wh,now⟩
 else (if t.length=8 then t.eraseIdx (oldestU t t.length) else t)++[⟨m,wh,now⟩]
def ageT (t:List EntryM) (now:Int):List EntryM:=if tableB t=false∨Cy now=false then t else t.filter fun e=>decide (now-4≤e.seen)
def noF:FrameM:=⟨0,0,0,[]⟩
structure FrameOK (f:FrameM):Prop where
 dst:f.dst<281474976710656
 src:f.src<281474976710656
 typ:f.typ≤65535
 body:f.body.length≤1504
def takeF (b:List UInt8):FrameM × Int :=
 if b.length<14 then (noF,10) else if 1518<b.length then (noF,14)
 else (⟨Hi (b.take 6),Hi ((b.drop 6).take 6),Hi ((b.drop 12).take 2),b.drop 14⟩,0)
def Qb (f:FrameM):List UInt8:=frame f.dst f.src f.typ f.body
def stripT (f:FrameM):FrameM × Int × Int × Int :=
 if f.typ≠33024 then (noF,0,0,11) else if f.body.length<4 then (noF,0,0,10)
 else if 4094<Hi (f.body.take 2) % 4096∨Hi ((f.body.drop 2).take 2)=33024 then (noF,0,0,15)
 else (⟨f.dst,f.src,Hi ((f.body.drop 2).take 2),f.body.drop 4⟩,(Hi (f.body.take 2) % 4096:Nat),(Hi (f.body.take 2) / 4096:Nat),0)
def tagT (f:FrameM) (v:Int):FrameM × Int :=
 if f.typ=33024 then (noF,15) else if 1500<f.body.length then (noF,14)
 else (⟨f.dst,f.src,33024,[UInt8.ofNat (v.toNat / 256),UInt8.ofNat v.toNat,UInt8.ofNat (f.typ / 256),UInt8.ofNat f.typ]++f.body⟩,0)
def vlanT (p:Port) (tagged:Bool) (vid:Int):Int × Bool :=
 if tagged=false∨vid=0 then (p.native,decide (p.native≠0)) else if inB p.tagged vid=true then (vid,true) else (0,false)
def Jk (n:Net) (port:Int) (f:FrameM) (tagged:Bool) (vid:Int):Int × FrameM × Int :=
 if Ea f.src=true then (0,noF,11)
 else if (vlanT (nth n.ports port) tagged vid).2=false then (0,noF,16)
 else (B6 n (nth n.ports port).dev (vlanT (nth n.ports port) tagged vid).1,f,0)
def enterT (n:Net) (port:Int) (b:List UInt8):Int × FrameM × Int :=
 if Ak port n.ports.length=false∨Ac n=false then (0,noF,2)
 else if (takeF b).2≠0 then (0,noF,(takeF b).2)
 else if (takeF b).1.typ=33024 then
  (if (stripT (takeF b).1).2.2.2≠0 then (0,noF,(stripT (takeF b).1).2.2.2) else Jk n port (stripT (takeF b).1).1 true (stripT (takeF b).1).2.1)
 else Jk n port (takeF b).1 false 0
def leaveT (n:Net) (port dom:Int) (f:FrameM):List UInt8 × Int :=
 if Ak port n.ports.length=false∨Ak dom n.domains.length=false∨Ac n=false then ([],2)
 else if (nth n.ports port).dev≠(nth n.domains dom).dev∨Da (nth n.ports port) (nth n.domains dom).vlan=false then ([],16)
 else if f.typ=33024 then ([],15)
 else if (nth n.domains dom).vlan=(nth n.ports port).native then (Qb f,0)
 else if (tagT f (nth n.domains dom).vlan).2≠0 then ([],(tagT f (nth n.domains dom).vlan).2)
 else (Qb (tagT f (nth n.domains dom).vlan).1,0)
def linkT (n:Net) (port:Int) (b:List UInt8):Int × Int × FrameM × Int :=
 if Cv n port<0 then (0,0,noF,2) else (Cv n port,enterT n (Cv n port) b)
structure QueuedM where
 from_:Int
 peer:Int
 origin:Int
 frame:FrameM
def Ay (q:QueuedM):SV:=.agg [Aa q.from_,Aa q.peer,Aa q.origin,Aw q.frame.dst,Aw q.frame.src,Aa q.frame.typ,.sl 1 Af q.frame.body]
def noQ:QueuedM:=⟨0,0,0,noF⟩
def pushT (l:List QueuedM) (q:QueuedM):List QueuedM × Bool:=if 64≤l.length then (l,false) else (l++[q],true)
def takeT (l:List QueuedM) (at_:Int):QueuedM × List QueuedM × Bool :=
 if at_<0∨(l.length:Int)≤at_ then (noQ,l,false) else ((l[at_.toNat]?).getD noQ,l.eraseIdx at_.toNat,true)
def usableB (n:Net) (fw:List Bool) (p:Int):Bool:=decide ((nth n.ports p).link<0) || (fw[(nth n.ports p).link.toNat]?).getD false
def roomB (n:Net) (fw:List Bool) (dom from_:Int):Bool :=
 Ak dom n.domains.length && decide (fw.length=n.links.length) && Ac n && (decide (from_=-1) || decide (from_=-2) || inB (Az n dom) from_)
def Cf (n:Net) (fw:List Bool) (from_:Int) (l:List Int):List Int:=l.filter fun p=>!(decide (p=from_) || !(usableB n fw p))
def peersOut (n:Net) (dom from_:Int):List Int:=if from_=-1 then [] else (nth n.domains dom).peers
def floodT (n:Net) (fw:List Bool) (dom from_:Int):List Int × List Int × Int :=
 if roomB n fw dom from_=false then ([],[],2) else (Cf n fw from_ (Az n dom),peersOut n dom from_,0)
def Dr (n:Net) (dom:Int) (m:Nat):Int:=Cm (fun s:Static=>decide (s.domain=dom) && decide (s.mac=(m:Int))) n.statics
def decideT (n:Net) (fw:List Bool) (t:List EntryM) (dom from_:Int) (m:Nat):List Int × List Int × Int :=
 if roomB n fw dom from_=false then ([],[],2)
 else if Ea m=true then (Cf n fw from_ (Az n dom),peersOut n dom from_,0)
 else if 0≤Dr n dom m then (Cf n fw from_ [(nth n.statics (Dr n dom m)).port],[],0)
 else if (findE t m).2=true∧0≤(findE t m).1∧inB (Az n dom) (findE t m).1=true then (Cf n fw from_ [(findE t m).1],[],0)
 else if (findE t m).2=true∧(findE t m).1<0∧inB (nth n.domains dom).peers (-1-(findE t m).1)=true then ([],if from_=-1 then [] else [-1-(findE t m).1],0)
 else (Cf n fw from_ (Az n dom),peersOut n dom from_,0)
def bAt (b:List UInt8) (i:Nat):UInt8:=b.getD i 0
def numAt (b:List UInt8) (k m:Nat):Nat:=Hi ((b.drop k).take m)
def B8 (l:List Nat):List UInt8:=l.flatMap fun n=>[UInt8.ofNat (n / 256),UInt8.ofNat n]
def udpPort (a b:Nat):Nat:=49152+(a ^^^ b) % 16384
def Agj (src dst:Nat) (body:List UInt8):List UInt8:=B8 [src,dst,8+body.length,0]++body
def udpTakeT (b:List UInt8):Int × Int × List UInt8 × Int :=
 if b.length<8 then (0,0,[],10) else if numAt b 4 2<8 then (0,0,[],11) else if b.length<numAt b 4 2 then (0,0,[],10)
 else if numAt b 6 2≠0 then (0,0,[],12) else (numAt b 0 2,numAt b 2 2,(b.take (numAt b 4 2)).drop 8,0)
structure PacketM where
 tos:Nat
 id:Nat
 ttl:Nat
 proto:Nat
 src:Nat
 dst:Nat
 body:List UInt8
def noP:PacketM:=⟨0,0,0,0,0,0,[]⟩
def Jt (p:PacketM):SV:=.agg [Aa p.tos,Aa p.id,Aa p.ttl,Aa p.proto,Bd p.src,Bd p.dst,.sl 1 Af p.body]
structure PacketOK (p:PacketM):Prop where
 tos:p.tos≤255
 id:p.id≤65535
 ttl:p.ttl≤255
 proto:p.proto≤255
 src:p.src<4294967296
 dst:p.dst<4294967296
def Hk (p:PacketM) (s:Nat):List UInt8:=B8 [17664+p.tos,20+p.body.length,p.id,0,p.ttl * 256+p.proto,s,p.src / 65536,p.src,p.dst / 65536,p.dst]
def Mr (p:PacketM):Nat:=Ve (Hk p 0)
def V3 (p:PacketM):List UInt8:=Hk p (Mr p)++p.body
def ipPutT (p:PacketM):List UInt8 × Int:=if 1480<p.body.length then ([],14) else (V3 p,0)
def ipTakeT (b:List UInt8):PacketM × Int :=
 if b.length<20 then (noP,10) else if bAt b 0≠69∨numAt b 2 2<20 then (noP,11) else if b.length<numAt b 2 2 then (noP,10)
 else if numAt b 6 2≠0 then (noP,11) else if Dq (I6 (b.take 20) 10)≠65535 then (noP,12)
 else (⟨(bAt b 1).toNat,numAt b 4 2,(bAt b 8).toNat,(bAt b 9).toNat,numAt b 12 4,numAt b 16 4,(b.take (numAt b 2 2)).drop 20⟩,0)
def I0 (v:Nat):List UInt8:=[8,0,0,0,UInt8.ofNat (v / 65536),UInt8.ofNat (v / 256),UInt8.ofNat v,0]
def M9 (v:Int):Bool:=decide (v<1) || decide (16777215<v)
def vniT (b:List UInt8):Int × List UInt8 × Int :=
 if b.length<8 then (0,[],10) else if numAt b 4 3=0∨b.take 8≠I0 (numAt b 4 3) then (0,[],11) else (numAt b 4 3,b.drop 8,0)
def Qc (from_ to:Nat) (v:Nat) (f:FrameM):PacketM:=⟨0,0,64,17,from_,to,Agj (udpPort f.dst f.src) 4789 (I0 v++Qb f)⟩
def wrapT (from_ to:Nat) (v:Int) (f:FrameM):List UInt8 × Int :=
 if f.typ=33024 then ([],15) else if M9 v=true then ([],17) else if 1450<f.body.length then ([],14)
 else (frame (Ev to) (Ev from_) 2048 (V3 (Qc from_ to v.toNat f)),0)
def outerT (b:List UInt8):PacketM × Int :=
 if (takeF b).2≠0 then (noP,(takeF b).2) else if (takeF b).1.typ≠2048 then (noP,11)
 else if (ipTakeT (takeF b).1.body).2≠0 then (noP,(ipTakeT (takeF b).1.body).2)
 else ((ipTakeT (takeF b).1.body).1,if (ipTakeT (takeF b).1.body).1.proto≠17 then 11 else 0)
def innerT (b:List UInt8):Int × FrameM × Int :=
 if (udpTakeT b).2.2.2≠0 then (0,noF,(udpTakeT b).2.2.2) else if (udpTakeT b).2.1≠4789 then (0,noF,11)
 else if (vniT (udpTakeT b).2.2.1).2.2≠0 then (0,noF,(vniT (udpTakeT b).2.2.1).2.2)
 else if (takeF (vniT (udpTakeT b).2.2.1).2.1).2≠0 then (0,noF,(takeF (vniT (udpTakeT b).2.2.1).2.1).2)
 else if (takeF (vniT (udpTakeT b).2.2.1).2.1).1.typ=33024 then (0,noF,15)
 else ((vniT (udpTakeT b).2.2.1).1,(takeF (vniT (udpTakeT b).2.2.1).2.1).1,0)
def unwrapT (b:List UInt8):Nat × Nat × Int × FrameM × Int :=
 if (outerT b).2≠0 then (0,0,0,noF,(outerT b).2) else if (innerT (outerT b).1.body).2.2≠0 then (0,0,0,noF,(innerT (outerT b).1.body).2.2)
 else ((outerT b).1.src,(outerT b).1.dst,(innerT (outerT b).1.body).1,(innerT (outerT b).1.body).2.1,0)
structure Net.Num (n:Net):Prop where
 vtep:∀ d∈n.devices,0≤d.vtep∧d.vtep<4294967296
 addr:∀ i∈n.irbs,0≤i.addr∧i.addr<4294967296
def E2 (n:Net) (dom:Int):Int:=(nth n.devices (nth n.domains dom).dev).vtep
def meshT (n:Net) (dom peer:Int) (f:FrameM):List UInt8 × Int :=
 if Ak peer n.domains.length=false∨Ak dom n.domains.length=false∨Ac n=false then ([],2)
 else if inB (nth n.domains dom).peers peer=false then ([],17)
 else wrapT (E2 n dom).toNat (E2 n peer).toNat (nth n.domains dom).vni f
def endsT (n:Net) (src dst:Nat) (vni:Int):Int × Int :=
 let dev:=Cm (fun d:Device=>decide (d.vtep=(dst:Int))) n.devices
 let dom:=Cm (fun d:Domain=>decide (d.dev=dev) && decide (d.vni=vni)) n.domains
 if dev<0∨dom<0 then (-1,-1)
 else
  let i:=Cm (fun k:Int=>decide (E2 n k=(src:Int))) (nth n.domains dom).peers
  if i<0 then (-1,-1) else (nth (nth n.domains dom).peers i,dom)
def comeT (n:Net) (b:List UInt8):Int × Int × FrameM × Int :=
 if Ac n=false then (0,0,noF,2)
 else if (unwrapT b).2.2.2.2≠0 then (0,0,noF,(unwrapT b).2.2.2.2)
 else if (endsT n (unwrapT b).1 (unwrapT b).2.1 (unwrapT b).2.2.1).1<0 then (0,0,noF,17)
 else if Ea (unwrapT b).2.2.2.1.src=true then (0,0,noF,11)
 else ((endsT n (unwrapT b).1 (unwrapT b).2.1 (unwrapT b).2.2.1).1,(endsT n (unwrapT b).1 (unwrapT b).2.1 (unwrapT b).2.2.1).2,(unwrapT b).2.2.2.1,0)
def routerT (n:Net) (dom:Int) (m:Nat):Int × Bool :=
 if Ak dom n.domains.length=false∨Ac n=false then (0,false)
 else if (nth n.domains dom).irb<0∨Ev (nth n.irbs (nth n.domains dom).irb).addr≠m then (0,false)
 else ((nth n.domains dom).irb,true)
def Aie (p:PacketM):PacketM:=⟨p.tos,p.id,p.ttl-1,p.proto,p.src,p.dst,p.body⟩
def hopT (n:Net) (irb:Int) (f:FrameM):Int × FrameM × Int :=
 if Ak irb n.irbs.length=false∨Ac n=false then (0,noF,2)
 else if f.typ≠2048 then (0,noF,11)
 else if (ipTakeT f.body).2≠0 then (0,noF,(ipTakeT f.body).2)
 else if (ipTakeT f.body).1.ttl≤1 then (0,noF,13)
 else if (lookT n irb (ipTakeT f.body).1.dst).2=false then (0,noF,31)
 else if 1480<(ipTakeT f.body).1.body.length then (0,noF,14)
 else ((nth n.irbs (lookT n irb (ipTakeT f.body).1.dst).1).domain,
  ⟨Ev (ipTakeT f.body).1.dst,Ev (nth n.irbs (lookT n irb (ipTakeT f.body).1.dst).1).addr,2048,V3 (Aie (ipTakeT f.body).1)⟩,0)
structure OutM where
 kind:Int
 port:Int
 domain:Int
 bytes:List UInt8
 frame:FrameM
 error:Int
def Bi (o:OutM):SV:=.agg [Aa o.kind,Aa o.port,Aa o.domain,.sl 1 Af o.bytes,Aw o.frame.dst,Aw o.frame.src,Aa o.frame.typ,.sl 1 Af o.frame.body,Aa o.error]
def learnQ (t:List EntryM) (q:QueuedM) (now:Int):List EntryM :=
 if q.from_=-2 then t else learnT t q.frame.src (if q.from_=-1 then -1-q.peer else q.from_) now
def Ef (o:OutM) (r:List UInt8 × Int):OutM:=if r.2≠0 then ⟨5,o.port,o.domain,[],o.frame,r.2⟩ else ⟨o.kind,o.port,o.domain,r.1,o.frame,o.error⟩
def Hc (n:Net) (dom:Int) (f:FrameM) (p:Int):OutM:=Ef ⟨if (nth n.ports p).link<0 then 1 else 2,p,0,[],noF,0⟩ (leaveT n p dom f)
def Im (n:Net) (dom:Int) (f:FrameM) (p:Int):OutM:=Ef ⟨3,0,p,[],noF,0⟩ (meshT n dom p f)
def bridgeT (n:Net) (fw:List Bool) (t:List EntryM) (dom:Int) (q:QueuedM) (now:Int):List EntryM × List OutM × Int :=
 if roomB n fw dom q.from_=false∨tableB t=false then ([],[],2)
 else if (routerT n dom q.frame.dst).2=true then
  (if (hopT n (routerT n dom q.frame.dst).1 q.frame).2.2≠0 then (learnQ t q now,[],(hopT n (routerT n dom q.frame.dst).1 q.frame).2.2)
   else (learnQ t q now,[⟨4,0,(hopT n (routerT n dom q.frame.dst).1 q.frame).1,[],(hopT n (routerT n dom q.frame.dst).1 q.frame).2.1,0⟩],0))
 else (learnQ t q now,(decideT n fw (learnQ t q now) dom q.from_ q.frame.dst).1.map (Hc n dom q.frame)++(decideT n fw (learnQ t q now) dom q.from_ q.frame.dst).2.1.map (Im n dom q.frame),0)
end Go.Sy.YteinjapglfkamaaGreat
namespace Go.Sy
theorem Good.dataT {P:Program} {o:Oper} {s:SS} {d sz:Nat} {ks:List Nat} {k:Option Nat} {α:Type} {e:α→SV} {l:List α} (h:Good P o s ⟨.osl d,ks,Hg k d (.row sz e l)⟩) :
  Good P o s ⟨.sl sz e l,ks,Hg k d .non⟩:=fun κ a w hi hr ho N Q hN=>by
 have hws:Up.ws ⟨SV.osl d,ks,Hg k d (.row sz e l)⟩=Up.ws ⟨SV.sl sz e l,ks,Hg k d .non⟩:=by
  cases k<;>rfl
 refine h κ a w hi hr (fun j hj=>ho j (by rw[← hws];exact hj)) N Q fun v κ' w' st inv hv hob=>?_
 have hmem:d∈Up.ws ⟨SV.sl sz e l,ks,Hg k d .non⟩:=by cases k<;>simp[Up.ws,Hg]
 have hrow:ObOK κ' w' d (.row sz e l):=hob (d,.row sz e l) (by cases k<;>simp[Hg])
 have st2:=Ha (κ:=κ') (w:=w') (some d)
 have inv2:=Ix inv (some d)
 have hx:Rd (Dl κ' d .dead) w' (.sl sz e l) v:=by
  rcases hrow with ⟨h1,rfl⟩ | h1
  ·simp only[Rd,h1]at hv
   simp only[Rd,RdD]
   exact .inl ⟨by simp,none,0,hv⟩
  ·refine h1.freeze hv st2.keeps.out (fun b hb=>⟨inv.bnd d b hb,?_⟩)
   rintro (⟨q,hq⟩ | hq)
   ·by_cases hqd:q=d
    ·subst hqd;rw[At]at hq;cases hq
    ·rw[B0 _ _ hqd]at hq
     exact hqd (inv.inj q d b hq hb)
   ·exact inv.apart d b hb hq
 refine hN v _ w' ((st.weaken (fun j hj=>by rw[← hws];exact hj)).trans (st2.weaken (fun j hj=>by cases hj;exact hmem))) inv2 hx (fun x hxm=>?_)
 have:x.2=.non:=by
  cases k with
  | none=>have:=List.mem_singleton.1 hxm;rw[this]
  | some j =>
   rcases List.mem_cons.1 hxm with h1 | h1
   ·rw[h1]
   ·have:=List.mem_singleton.1 h1;rw[this]
 rw[this]
 trivial
end Go.Sy
namespace Go.Sy
open Go.ChangeShapes Go.WideShapes Go.ChangeAt Go.RowKit
def κ0:Ka:=⟨fun _=>.new,fun _=>False⟩
theorem inv0 (w:World):Inv κ0 w :=
 ⟨fun i j b h=>(by cases h),fun k b h=>(by cases h),fun k b h=>(by cases h),fun b h=>False.elim h⟩
theorem Af2 {w w':World} {κ':Ka} (c:Ctx ⟨w,κ0⟩ κ' w'):Below w.heap.size w w' :=
 ⟨c.os,c.tape,c.output,c.size,fun k hk=>c.old k hk (fun j h=>by cases h)⟩
section
variable {H:Type} {enc:TypeId × Value→H} {P:Program}
theorem Tn {W W':World} (hl:laidOutB P=true) (hb:Below W.heap.size W W'):∀ {ts:List TypeId} {vs:List Value} {ds:List (DataW H)} {ps:List MemPlace},(∀ t∈ts,P.readableRec t=true∧t<P.types.size) →
  (∀ x∈ps,x.block<W.heap.size)→DataW.TrodAll enc P W 0 (fun _=>true) true ts vs ds ps→DataW.TrodAll enc P W' 0 (fun b=>decide (b<W.heap.size)) true ts vs ds ps
 | [],_,_,_,_,_,h=>by
  obtain ⟨rfl,rfl,rfl⟩:=trodAll_nil h
  rfl
 | t::ts,_,_,_,ht,hp,h=>by
  obtain ⟨v,vs,d,ds,p,q,rfl,rfl,rfl,h1,h2⟩:=trodAll_cons h
  have:=ht t qz
  exact⟨p,q,Below.trod hl this.1 this.2 h1 hb (fun x hx=>hp x (by simp[hx])),Tn hl hb (fun t h=>ht t (by simp[h])) (fun x hx=>hp x (by simp[hx])) h2,E⟩
theorem Apf {f:FuncId} {fn:Func} {s:ChangeSpec} {W:World} {args:Array Value} {ds gs:List (DataW H)} {before:List MemPlace} {tb:TypeId} {A:List SV} (hv:s.vars=[]) (hl:laidOutB P=true)
  (hW:DataW.Whole enc P fn.params.toList s.vars false W args.toList ds gs before) (hts:∀ t∈fn.params.toList,P.readableRec t=true∧t<P.types.size) (hrt:fn.resultTypes=#[tb]) (hbt:P.underlying tb=some .bool)
  (hfn:∀ gs:List (DataW H),gs=[]→s.fn H (ds++gs)={ results:=[.lit (.bool true)],args:=ds }) (hA:RdL κ0 W A args.toList) (hs:Sy.Spec P f A [] (Ab true) []) :
  Calls P f args W fun e W'=>∃ v,e=.returned v∧s.post enc P fn false true false false W args v W':=by
 have hc:=hs κ0 W args.toList (inv0 W) (fun k hk=>absurd rfl hk) hA (fun p hp=>by cases hp)
 simp only[Array.toArray_toList]at hc
 refine hc.mono ?_
 rintro e W' ⟨v,κ',rfl,ctx,inv,hR,_⟩
 have hvv:v=.bool true:=by simpa [Ab,Rd] using hR
 subst hvv
 have hb:=Af2 ctx
 have hW':=hW
 obtain ⟨p,q,h1,h2,h3,h4,h5⟩:=hW
 have hgs:gs=[]∧q=[]:=by
  rw[hv]at h2
  exact trodVars_none h2
 obtain ⟨rfl,rfl⟩:=hgs
 rw[List.append_nil]at h3
 subst h3
 have hlt:∀ x∈before,x.block<W.heap.size:=fun x hx=>by simpa using hW'.lt x hx
 refine⟨_,rfl,ds,[],before,[],before,[],hW',?_,?_,?_,?_,fun h=>by cases h⟩
 ·rw[hfn [] rfl,hrt]
  exact trodAll_mk1 (shut_bool hbt true)
 ·rw[hfn [] rfl]
  exact Tn hl hb hts hlt h1
 ·rw[hv,hfn [] rfl]
  rfl
 ·exact hb.frame _
end
end Go.Sy
namespace Go.Sy
theorem O7 {P:Program} (Γ:Ty P) {o:Oper} {s:SS} {t:TypeId} {ti:TI} {et:TypeId} {len esz sz g:Nat} {y:Operand} {ik:IntKind} {n:Int} {z:SV} (k:Nat)
  (h:o.op=.indexAddr t (.global g) y) (ht:Γ.get t=some ti) (hk:ti.k=.array et len esz) (hb:s.h k=.glob sz z g) (hy:ev s y=.val (.int ik n)) (h0:0≤n) (hn:n.toNat<len) :
  Good P o s ⟨.ref sz z (n.toNat * esz),[k],[]⟩ :=
 Good.pure fun κ a w _ hr ho=>by
  have h1:=ho k qz
  have h2:=hr y (by simp[h,Op.operands])
  rw[hb]at h1
  rw[hy]at h2
  simp only[ObOK,Rd,RdD]at h1
  obtain ⟨b,oo,u,e1,e2,e3,e4,e5⟩:=h1
  obtain ⟨hu,i,q1,q2⟩:=Sn Γ ht hk
  simp only[Nat.add_zero,Value.pointer.injEq,Option.some.injEq,Addr.mk.injEq,and_true]at e1
  obtain ⟨rfl,rfl⟩:=e1
  refine⟨.pointer (some ⟨g,0+n.toNat * esz,none⟩),?_,?_⟩
  ·have hg:a.eval (.global g)=.pointer (some ⟨g,0,none⟩):=rfl
   simp only[execOp,h,hg,h2.val]
   simp[Od w hu q1 q2 h0 hn]
  ·simp only[Rd,RdD]
   exact⟨g,0,u,E,e2,e3,e4,e5⟩
theorem Ob.shp_glob {x:Ob} {sz g:Nat} {z:SV} (h:x.shp=(Ob.glob sz z g).shp):x=.glob sz z g:=by
 cases x<;>simp_all[Ob.shp]
theorem GoodX.glob {P:Program} (Γ:Ty P) {o:Oper} {s:SS} {t:TypeId} {ti:TI} {et:TypeId} {len esz sz g:Nat} {y:Operand} {ik:IntKind} {n:Int} {z:SV} (k:Nat)
  (h:o.op=.indexAddr t (.global g) y) (ht:Γ.get t=some ti) (hk:ti.k=.array et len esz) (hb:s.h k=.glob sz z g) (hy:ev s y=.val (.int ik n)) (h0:0≤n) (hn:n.toNat<len) :
  GoodX P o s ⟨.ref sz z (n.toNat * esz),[k],[]⟩ where
 good:=(O7 Γ k h ht hk hb hy h0 hn).two
 idx _:=⟨rfl,fun s' h1 h2=>O7 Γ k h ht hk (Ob.shp_glob ((h2 k qz).trans (congrArg Ob.shp hb))) ((h1 y (by simp[h,Op.operands])).trans hy) h0 hn⟩
 st hs:=by simp[L6,h]at hs
section
open Go.ChangeShapes Go.WideShapes Go.ChangeAt Go.RowKit
variable {H:Type} {enc:TypeId × Value→H} {P:Program}
end
end Go.Sy
namespace Go.Sy
theorem H3 {P:Program} (Γ:Ty P) {o:Oper} {s:SS} {t:TypeId} {ti:TI} {et:TypeId} {len:Nat} {x y:Operand} {ik:IntKind} {n:Int} {l:List SV} {z:SV} {k:EK} (h:o.op=.index t x y) (ht:Γ.get t=some ti) (hk:ti.k=.array et len 1)
  (he:P.underlying et=some (EK.desc k)) (hx:ev s x=.agg l) (hy:ev s y=.val (.int ik n)) (h0:0≤n) (hn:n.toNat<len) (hz:Eo l n.toNat=some z):Good P o s ⟨z,[],[]⟩ :=
 Good.pure fun κ a w _ hr _=>by
  have h1:=hr x (by simp[h,Op.operands])
  have h2:=hr y (by simp[h,Op.operands])
  rw[hx]at h1
  rw[hy]at h2
  simp only[Rd]at h1
  obtain ⟨cs,e1,_,e2⟩:=h1
  obtain ⟨v,e3,e4⟩:=e2.getT hz
  obtain ⟨hu,i,q1,q2⟩:=Sn Γ ht hk
  have hp:=Aaa (P:=P) w he cs.toArray e3
  have hlt:n<len:=by omega
  refine⟨v,?_,e4⟩
  simp[execOp,h,e1,h2.val,Instr.index,run_underlying hu,asIntOf,h0,hlt,sizeOf,typeInfo,q1,q2,hp]
theorem Ar {C:Cx} {k:List KI} {s:SS} (d:Nat) (l':List SV) {l:List SV} (h:s.h d=.box l) (hv:VwL s [] l l') (hg:G C k ⟨s.σ,upd s.h d (.box l')⟩):G C k s:=fun κ a w hs =>
 hg κ a w ⟨hs.defers,hs.size,hs.inv,hs.ctx,hs.slot,fun i=>by
  show ObOK κ w i (upd s.h d (.box l') i)
  by_cases hi:i=d
  ·subst hi
   rw[Bu]
   have:=hs.obj i
   rw[h]at this
   obtain ⟨b,cs,T,fr,e1,e2,e3,e4,e5⟩:=this
   exact⟨b,cs,T,fr,e1,e2,e3,e4,VwL.rd hs.inv (fun _ hn=>by cases hn) hv e5⟩
  ·rw[Cd _ _ hi];exact hs.obj i⟩
end Go.Sy
