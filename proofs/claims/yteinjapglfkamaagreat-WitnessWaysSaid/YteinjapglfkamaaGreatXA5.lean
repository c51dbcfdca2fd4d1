/-
  N11 V1 V2 V3 V4 V5 X1 D2 D0 A6 D5 D6 E16 E17 E18 E29 E31 D3 D4 D7 D8 R3 R5 R6 R7 R8 K0 KM K25 Sy30 Sy20 Sy21: parts of a proof, joined by program.
-/
import Derived.Test.YteinjapglfkamaaGreatXA4
import Derived.Test.YteinjapglfkamaaGreatXA3
import Derived.Test.YteinjapglfkamaaGreatXA2
import Derived.ProofKit
import Derived.OpenShut
namespace Go.Sy.YteinjapglfkamaaGreat
open Go.Proofs
attribute [local irreducible] Go.Sy.G Go.Sy.DR
set_option maxRecDepth 20000
set_option maxHeartbeats 4000000
def Ma (n:Net):Bool:=Co (fun _=>E4 n) n.statics && Co (fun _=>Kb n) n.floods && Co (fun _=>Yn n) n.vrfs && Co (Vt n) n.irbs
theorem rest1 {n:Net} (h:Co (fun _=>E4 n) n.statics=false):Ma n=false:=by simp[Ma,h]
theorem rest2 {n:Net} (h:Co (fun _=>Kb n) n.floods=false):Ma n=false:=by simp[Ma,h]
theorem rest3 {n:Net} (h:Co (fun _=>Yn n) n.vrfs=false):Ma n=false:=by simp[Ma,h]
theorem rest4 {n:Net} (h:Co (Vt n) n.irbs=false):Ma n=false:=by simp[Ma,h]
theorem Afq (n:Net) (hn:n.Fin):Sy.Spec Tryz.prog 32 [Al n] [] (Ad (Ma n)) []:=Ab Γ hm 100 F32 Tryz.ntmps32 rfl fun F hF=>by
 have hl1:=hn.statics
 have hl2:=hn.floods
 have hl3:=hn.vrfs
 have hl4:=hn.irbs
 unfold An at hl1 hl2 hl3 hl4
 conv=>whnf
 refine A3 1 8 (Al n) E E E ?_
 refine Ay n.statics.length (fun j=>Dk (fun _=>E4 n) n.statics j) (fun j=>[(1,.ref 8 (Al n) 0),(3,Aa j)]) (fun _=>[]) [] (A2 _ _) ⟨⟨E,E,E,E,Y⟩,Y,E,E⟩ ?_
 intro j hj hI
 refine rg ?_;conv=>whnf
 refine⟨fun h=>?_,fun h=>?_⟩
 ·have hjl:j<n.statics.length:=by simpa using h
  generalize hp:n.statics[j]=s
  have hp':n.statics[(j:Int).toNat]'qn=s:=hp
  refine rg ?_;conv=>whnf
  refine⟨E,by omega,by omega,?_⟩
  rw[hp']
  conv=>whnf
  (repeat' (first | (refine⟨fun h=>?_,fun h=>?_⟩<;>(repeat (first | simp only[Aj]at h | simp only[decide_eq_true_eq]at h | simp only[decide_eq_false_iff_not]at h | simp only[bne_iff_ne]at h | simp only[bne_eq_false_iff_eq]at h | simp only[Bool.and_eq_true]at h | simp only[Bool.and_eq_false_iff]at h | simp only[Bool.not_eq_true']at h | simp only[Bool.not_eq_false']at h))<;>((first|refine rg ?_|refine rd qq ?_);(conv=>whnf);repeat((refine aT ?_);(refine rg ?_);(conv=>whnf)))) | (refine Ac rfl (.cons .tmp .nil) ?_ rfl) | (refine⟨qq,?_⟩;((conv=>whnf);repeat((refine aT ?_);(refine rg ?_);(conv=>whnf)))) | (refine⟨by (omega),by (omega),?_⟩;((conv=>whnf))) | (refine⟨by (unfold I64;omega),?_⟩;((conv=>whnf))) | (refine Ag (Bg s.domain n.domains.length) F46 rfl rfl rfl rfl rfl ?_;((refine rg ?_);(conv=>whnf))) | (refine Ag (Bg s.port n.ports.length) F46 rfl rfl rfl rfl rfl ?_;((refine rg ?_);(conv=>whnf))) | (refine Aq (Sn (n.ports[s.port.toNat]'qn) (n.domains[s.domain.toNat]'qn).vlan (hn.tagged _ (List.getElem_mem _))) F99 rfl rfl rfl qq rfl ?_;((refine rd qq ?_);(conv=>whnf))) | refine Av [] hI qn ?_ ⟨⟨rfl,rfl,rfl,rfl,trivial⟩,trivial,rfl,rfl⟩))
  all_goals first
   | exact Ax hI hjl (by rw[hp];clear hI hF hp';grind [E4,Aj,Ah])
   | (refine congrArg Ad ?_;exact rest1 (A8 hjl (by rw[hp];clear hI hF hp';grind [E4,Aj,Ah])))
 have a1:Co (fun _=>E4 n) n.statics=true:=B6 hI (by simpa using h)
 clear hI
 refine rg ?_;conv=>whnf
 refine Ay n.floods.length (fun j=>Dk (fun _=>Kb n) n.floods j) (fun j=>[(1,.ref 8 (Al n) 0),(6,Aa j)]) (fun _=>[]) [] (A2 _ _) ⟨⟨E,E,E,E,Y⟩,Y,E,E⟩ ?_
 clear hj h
 intro j hj hI
 refine rg ?_;conv=>whnf
 refine⟨fun h=>?_,fun h=>?_⟩
 ·have hjl:j<n.floods.length:=by simpa using h
  refine rg ?_;conv=>whnf
  (repeat' (first | (refine⟨fun h=>?_,fun h=>?_⟩<;>(repeat (first | simp only[Aj]at h | simp only[decide_eq_true_eq]at h | simp only[decide_eq_false_iff_not]at h | simp only[Bool.and_eq_true]at h | simp only[Bool.and_eq_false_iff]at h | simp only[Bool.not_eq_true']at h | simp only[Bool.not_eq_false']at h))<;>((first|refine rg ?_|refine rd qq ?_);(conv=>whnf))) | (refine Ac rfl (.cons .tmp .nil) ?_ rfl) | (refine⟨qq,?_⟩;((conv=>whnf);repeat((refine aT ?_);(refine rg ?_);(conv=>whnf)))) | (refine⟨by (omega),by (omega),?_⟩;((conv=>whnf))) | (refine⟨by (unfold I64;omega),?_⟩;((conv=>whnf))) | (refine Aq (Bg (n.floods[(j:Int).toNat]'qn).dev n.devices.length) F46 rfl rfl rfl qq rfl ?_;((refine rd qq ?_);(conv=>whnf))) | refine Av [] hI qn ?_ ⟨⟨rfl,rfl,rfl,rfl,trivial⟩,trivial,rfl,rfl⟩))
  all_goals (simp only[Int.toNat_natCast]at *)
  all_goals first
   | exact Ax hI hjl (by clear hI hF;grind [Kb,Aj])
   | (refine congrArg Ad ?_;exact rest2 (A8 hjl (by clear hI hF;grind [Kb,Aj])))
 have a2:Co (fun _=>Kb n) n.floods=true:=B6 hI (by simpa using h)
 clear hI
 refine rg ?_;conv=>whnf
 refine Ay n.vrfs.length (fun j=>Dk (fun _=>Yn n) n.vrfs j) (fun j=>[(1,.ref 8 (Al n) 0),(7,Aa j)]) (fun _=>[]) [] (A2 _ _) ⟨⟨E,E,E,E,Y⟩,Y,E,E⟩ ?_
 clear hj h
 intro j hj hI
 refine rg ?_;conv=>whnf
 refine⟨fun h=>?_,fun h=>?_⟩
 ·have hjl:j<n.vrfs.length:=by simpa using h
  have h1:=hn.imports _ (List.getElem_mem hjl)
  have h2:=hn.exports _ (List.getElem_mem hjl)
  generalize hp:n.vrfs[j]=v at h1 h2
  have hp':n.vrfs[(j:Int).toNat]'qn=v:=hp
  refine rg ?_;conv=>whnf
  refine⟨E,by omega,by omega,?_⟩
  rw[hp']
  conv=>whnf
  (repeat' (first | (refine⟨fun h=>?_,fun h=>?_⟩<;>(repeat (first | simp only[Aj]at h | simp only[decide_eq_true_eq]at h | simp only[decide_eq_false_iff_not]at h | simp only[Bool.and_eq_true]at h | simp only[Bool.or_eq_true]at h | simp only[Bool.and_eq_false_iff]at h | simp only[Bool.or_eq_false_iff]at h | simp only[Bool.not_eq_true']at h | simp only[Bool.not_eq_false']at h))<;>((refine rg ?_);(conv=>whnf);repeat((refine aT ?_);(refine rg ?_);(conv=>whnf)))) | (refine Ac rfl (.cons .tmp .nil) ?_ rfl) | (refine⟨by (unfold I64;omega),?_⟩;((conv=>whnf))) | (refine Ag (Bg v.dev n.devices.length) F46 rfl rfl rfl rfl rfl ?_;((refine rg ?_);(conv=>whnf))) | (refine Ag (La v.imports 65535 h1) F98 rfl rfl rfl rfl rfl ?_;((refine rg ?_);(conv=>whnf))) | (refine Ag (La v.exports 65535 h2) F98 rfl rfl rfl rfl rfl ?_;((refine rg ?_);(conv=>whnf))) | refine Av [] hI qn ?_ ⟨⟨rfl,rfl,rfl,rfl,trivial⟩,trivial,rfl,rfl⟩))
  all_goals first
   | exact Ax hI hjl (by rw[hp];clear hI hF hp';grind [Yn,Acs,Aj])
   | (refine congrArg Ad ?_;exact rest3 (A8 hjl (by rw[hp];clear hI hF hp';grind [Yn,Acs,Aj])))
 have a3:Co (fun _=>Yn n) n.vrfs=true:=B6 hI (by simpa using h)
 clear hI
 refine rg ?_;conv=>whnf
 refine Ay n.irbs.length (fun j=>Dk (Vt n) n.irbs j) (fun j=>[(1,.ref 8 (Al n) 0),(9,Aa j)]) (fun _=>[]) [] (A2 _ _) ⟨⟨E,E,E,E,Y⟩,Y,E,E⟩ ?_
 clear hj h
 intro j hj hI
 refine rg ?_;conv=>whnf
 refine⟨fun h=>?_,fun h=>?_⟩
 ·have hjl:j<n.irbs.length:=by simpa using h
  generalize hp:n.irbs[j]=x
  have hp':n.irbs[(j:Int).toNat]'qn=x:=hp
  refine rg ?_;conv=>whnf
  refine⟨E,by omega,by omega,?_⟩
  rw[hp']
  conv=>whnf
  (repeat' (first | (refine⟨fun h=>?_,fun h=>?_⟩<;>(repeat (first | simp only[Aj]at h | simp only[decide_eq_true_eq]at h | simp only[decide_eq_false_iff_not]at h | simp only[bne_iff_ne]at h | simp only[bne_eq_false_iff_eq]at h | simp only[Bool.and_eq_true]at h | simp only[Bool.and_eq_false_iff]at h | simp only[Bool.not_eq_true']at h | simp only[Bool.not_eq_false']at h))<;>((first|refine rg ?_|refine rd qq ?_);(conv=>whnf);repeat((refine aT ?_);(refine rg ?_);(conv=>whnf)))) | (refine Ac rfl (.cons .tmp .nil) ?_ rfl) | (refine⟨qq,?_⟩;((conv=>whnf);repeat((refine aT ?_);(refine rg ?_);(conv=>whnf)))) | (refine⟨by (omega),by (omega),?_⟩;((conv=>whnf))) | (refine⟨by (unfold I64;omega),?_⟩;((conv=>whnf))) | (refine Ag (Bg x.domain n.domains.length) F46 rfl rfl rfl rfl rfl ?_;((refine rg ?_);(conv=>whnf))) | (refine Ag (Bg x.vrf n.vrfs.length) F46 rfl rfl rfl rfl rfl ?_;((refine rg ?_);(conv=>whnf))) | refine Av [] hI qn ?_ ⟨⟨rfl,rfl,rfl,rfl,trivial⟩,trivial,rfl,rfl⟩))
  all_goals first
   | exact Ax hI hjl (by rw[hp];clear hI hF hp';grind [Vt,Aj,Ah])
   | (refine congrArg Ad ?_;exact rest4 (A8 hjl (by rw[hp];clear hI hF hp';grind [Vt,Aj,Ah])))
 have a4:Co (Vt n) n.irbs=true:=B6 hI (by simpa using h)
 refine rg ?_;conv=>whnf
 exact Ac E (.cons .tmp .nil) (congrArg Ad (by simp[Ma,a1,a2,a3,a4])) E
theorem Ac2 (n:Net) (hn:n.Fin):Sy.Spec Tryz.prog 10 [Al n] [] (Ad (Ae n)) []:=Ab Γ hm 100 F10 Tryz.ntmps10 rfl fun F hF=>by
 conv=>whnf
 (repeat' (first | (refine⟨fun h=>?_,fun h=>?_⟩<;>(repeat (first | simp only[decide_eq_true_eq]at h | simp only[decide_eq_false_iff_not]at h | simp only[Bool.and_eq_true]at h | simp only[Bool.and_eq_false_iff]at h))<;>((refine rg ?_);(conv=>whnf);repeat((first|refine aF ?_|refine aT ?_);(refine rg ?_);(conv=>whnf)))) | (refine Ac rfl (.cons .tmp .nil) ?_ rfl) | (refine Ag (Yp n hn) F29 rfl rfl rfl rfl rfl ?_;((refine rg ?_);(conv=>whnf))) | (refine Ag (Ac3 n hn) F30 rfl rfl rfl rfl rfl ?_;((refine rg ?_);(conv=>whnf))) | (refine Ag (Ac4 n hn) F31 rfl rfl rfl rfl rfl ?_;((refine rg ?_);(conv=>whnf))) | (refine Ag (Afq n hn) F32 rfl rfl rfl rfl rfl ?_;((refine rg ?_);(conv=>whnf)))))
 all_goals (refine congrArg Ad ?_;clear hF)
 all_goals (first | grind [Ae,Agu,Ma] | trace_state)
theorem Zq (a:Int):Sy.Spec Tryz.prog 334 [Aa a] [] (Ad false) []:=Ab Γ hm 100 F334 Tryz.ntmps334 rfl fun F hF=>by
 conv=>whnf
 exact Ac E (.cons .tmp .nil) (congrArg Ad qy) E
theorem Zp (a:Int):Sy.Spec Tryz.prog 335 [Bf a] [] (Ad false) []:=Ab Γ hm 100 F335 Tryz.ntmps335 rfl fun F hF=>by
 conv=>whnf
 exact Ac E (.cons .tmp .nil) (congrArg Ad qy) E
def cmpI (a b:Int):Int:=if a<b then -1 else if a>b then 1 else 0
theorem Hm (a b:Int):Sy.Spec Tryz.prog 284 [Aa a,Aa b] [] (Aa (cmpI a b)) []:=Ab Γ hm 100 F284 Tryz.ntmps284 rfl fun F hF=>by
 conv=>whnf
 (repeat' (first | (refine⟨fun h=>?_,fun h=>?_⟩<;>(repeat (first | simp only[decide_eq_true_eq]at h | simp only[decide_eq_false_iff_not]at h))<;>((refine rg ?_);(conv=>whnf))) | (refine Ac rfl (.cons .tmp .nil) ?_ rfl) | (refine Ag (Zq a) F334 rfl rfl rfl rfl rfl ?_;((refine rg ?_);(conv=>whnf))) | (refine Ag (Zq b) F334 rfl rfl rfl rfl rfl ?_;((refine rg ?_);(conv=>whnf);repeat((refine aF ?_);(refine rg ?_);(conv=>whnf))))))
 all_goals (refine congrArg Aa ?_;clear hF;grind [cmpI])
theorem Aem (a b:Int):Sy.Spec Tryz.prog 285 [Bf a,Bf b] [] (Aa (cmpI a b)) []:=Ab Γ hm 100 F285 Tryz.ntmps285 rfl fun F hF=>by
 conv=>whnf
 (repeat' (first | (refine⟨fun h=>?_,fun h=>?_⟩<;>(repeat (first | simp only[decide_eq_true_eq]at h | simp only[decide_eq_false_iff_not]at h))<;>((refine rg ?_);(conv=>whnf))) | (refine Ac rfl (.cons .tmp .nil) ?_ rfl) | (refine Ag (Zp a) F335 rfl rfl rfl rfl rfl ?_;((refine rg ?_);(conv=>whnf))) | (refine Ag (Zp b) F335 rfl rfl rfl rfl rfl ?_;((refine rg ?_);(conv=>whnf);repeat((refine aF ?_);(refine rg ?_);(conv=>whnf))))))
 all_goals (refine congrArg Aa ?_;clear hF;grind [cmpI])
def orI:List Int→Int
 | []=>0
 | x::l=>if x=0 then orI l else x
theorem Xg:∀ {l:List Int} {j:Nat},(∀ i (h:i<l.length),i<j→l[i]=0)→orI l=orI (l.drop j)
 | l,0,_=>rfl
 | [],j+1,_=>rfl
 | x::l,j+1,h=>by
  have h0:=h 0 qy qn
  simp only[List.getElem_cons_zero]at h0
  rw[orI,if_pos h0,List.drop_succ_cons]
  exact Xg fun i hi hij=>h (i+1) (by simp;omega) qn
theorem orS (l:List Int) (hl:An l):Sy.Spec Tryz.prog 283 [.sl 1 Aa l] [] (Aa (orI l)) []:=Ab Γ hm 100 F283 Tryz.ntmps283 rfl fun F hF=>by
 unfold An at hl
 conv=>whnf
 refine Ay l.length (fun j=>∀ i (h:i<l.length),i<j→l[i]=0) (fun j=>[(3,Aa 0),(6,.sl 1 Aa l),(7,Aa l.length),(8,Aa j)]) (fun _=>[]) [] (fun i h hj=>absurd hj qn) ⟨⟨E,E,E,E,E,E,E,E,Y⟩,Y,E,E⟩ ?_
 intro j hj hI
 refine rg ?_;conv=>whnf
 (repeat' (first | (refine⟨fun h=>?_,fun h=>?_⟩<;>(repeat (first | simp only[decide_eq_true_eq]at h | simp only[decide_eq_false_iff_not]at h | simp only[bne_iff_ne]at h | simp only[bne_eq_false_iff_eq]at h))<;>((refine rg ?_);(conv=>whnf))) | (refine Ac rfl (.cons .tmp .nil) ?_ rfl) | (refine⟨qq,?_⟩;((conv=>whnf))) | (refine⟨by (omega),by (omega),?_⟩;((conv=>whnf))) | (refine⟨by (unfold I64;omega),?_⟩;((conv=>whnf))) | refine Av [] hI qn ?_ ⟨⟨rfl,rfl,rfl,rfl,rfl,rfl,rfl,rfl,trivial⟩,trivial,rfl,rfl⟩))
 all_goals try (refine congrArg Aa ?_)
 ·have hj2:j<l.length:=by omega
  rw[Xg hI,List.drop_eq_getElem_cons hj2,orI,if_neg (by simpa using h)]
  rfl
 ·intro i hi hij
  rcases Nat.lt_or_ge i j with h1 | h1
  ·exact hI i hi h1
  ·have:i=j:=by omega
   subst this
   simpa using h
 ·rw[Xg hI,List.drop_of_length_le qn]
  rfl
theorem Lf (a b:Int) (l:List Int):decide (orI (cmpI a b::l)<0)=if a≠b then decide (a<b) else decide (orI l<0):=by
 rw[orI,cmpI]
 by_cases h1:a<b
 ·simp[h1,show a≠b by omega]
 ·by_cases h2:a>b
  ·simp[h1,h2,show a≠b by omega]
  ·simp[show a=b by omega]
structure Vec where
 (root cost bridge port own:Int)
def L3 (v:Vec):SV:=.agg [Aa v.root,Aa v.cost,Aa v.bridge,Aa v.port,Aa v.own]
def Zm (a b:Vec):Bool :=
 if a.root≠b.root then decide (a.root<b.root) else if a.cost≠b.cost then decide (a.cost<b.cost) else if a.bridge≠b.bridge then decide (a.bridge<b.bridge) else
  if a.port≠b.port then decide (a.port<b.port) else decide (a.own<b.own)
theorem lessS (a b:Vec):Sy.Spec Tryz.prog 338 [L3 a,L3 b] [] (Ad (Zm a b)) []:=Ab Γ hm 100 F338 Tryz.ntmps338 rfl fun F hF=>by
 conv=>whnf
 (repeat' (first | (refine⟨fun h=>?_,fun h=>?_⟩<;>(repeat (first | simp only[beq_iff_eq]at h | simp only[beq_eq_false_iff_ne]at h | simp only[Bool.and_eq_true]at h | simp only[Bool.and_eq_false_iff]at h))<;>((refine rg ?_);(conv=>whnf))) | (refine Ac rfl (.cons .tmp .nil) ?_ rfl) | (refine⟨qq,?_⟩;((conv=>whnf))) | (refine Aq (Hm a.root b.root) F284 rfl rfl rfl qq rfl ?_;((refine rd qq ?_);(conv=>whnf))) | (refine Aq (Hm a.cost b.cost) F284 rfl rfl rfl qq rfl ?_;((refine rd qq ?_);(conv=>whnf))) | (refine Aq (Hm a.bridge b.bridge) F284 rfl rfl rfl qq rfl ?_;((refine rd qq ?_);(conv=>whnf))) | (refine Aq (Hm a.port b.port) F284 rfl rfl rfl qq rfl ?_;((refine rd qq ?_);(conv=>whnf))) | (refine Aq (Hm a.own b.own) F284 rfl rfl rfl qq rfl ?_;((refine rd qq ?_);(conv=>whnf))) | (refine Anh [33] (orS [cmpI a.root b.root,cmpI a.cost b.cost,cmpI a.bridge b.bridge,cmpI a.port b.port,cmpI a.own b.own] (by simp[An])) F283 rfl (.cons (.lit rfl rfl rfl) .nil) rfl qq rfl ?_;((refine rd qq ?_);(conv=>whnf)))))
 all_goals (refine congrArg Ad ?_;clear hF)
 ·grind [Zm]
 ·rw[Lf,Lf,Lf,Lf,Lf,Zm]
  by_cases h1:a.own=b.own
  ·simp[h1,orI]
  ·simp[h1]
def Ml (lt:Int→Int→Bool) (x:Int):List Int→List Int
 | []=>[x]
 | y::r=>if lt x y then y::Ml lt x r else x::y::r
def Ek (lt:Int→Int→Bool) (l:List Int):List Int:=l.foldl (fun r x=>Ml lt x r) []
def Qa (lt:Int→Int→Bool) (l:List Int):List Int:=(Ek lt l).reverse
theorem Um (lt:Int→Int→Bool) (x:Int):∀ r,(Ml lt x r).Perm (x::r)
 | []=>.refl _
 | y::r=>by
  rw[Ml]
  split
  ·exact((Um lt x r).cons y).trans (.swap x y r)
  ·exact .refl _
theorem L0 (lt:Int→Int→Bool):∀ (l r:List Int),(l.foldl (fun r x=>Ml lt x r) r).Perm (l++r)
 | [],r=>.refl _
 | x::l,r=>by
  rw[List.foldl_cons]
  refine(L0 lt l _).trans ?_
  refine((Um lt x r).append_left l).trans ?_
  simp
theorem Jt (lt:Int→Int→Bool) (l:List Int):(Ek lt l).Perm l:=by
 have:=L0 lt l []
 simpa [Ek] using this
theorem Qt (lt:Int→Int→Bool) (l:List Int):(Qa lt l).Perm l:=(List.reverse_perm _).trans (Jt lt l)
theorem Ad0 (lt:Int→Int→Bool) (l:List Int) (i:Nat) (h:i<l.length):Ek lt (l.take (i+1))=Ml lt l[i] (Ek lt (l.take i)):=by
 rw[List.take_succ_eq_append_getElem h,Ek,List.foldl_append]
 rfl
mutual
theorem S6 {K:List Nat}:∀ x:SV,x.inn []=true→x.inn K=true
 | .ptr _ _,h=>by simp[SV.inn,Km]at h
 | .rpt _ _ _ _,h=>by simp[SV.inn,Km]at h
 | .osl _,h=>by simp[SV.inn,Km]at h
 | .agg l,h=>by simp only[SV.inn]at h ⊢;exact Mm l h
 | .tup l,h=>by simp only[SV.inn]at h ⊢;exact Mm l h
 | .ifc _ x,h=>by simp only[SV.inn]at h ⊢;exact S6 x h
 | .clo _ f l,h=>by simp only[SV.inn,Bool.and_eq_true]at h ⊢;exact⟨Mm f h.1,Mm l h.2⟩
 | .top,_=>rfl
 | .val _,_=>rfl
 | .sl _ _ _,_=>rfl
 | .ref _ _ _,_=>rfl
theorem Mm {K:List Nat}:∀ l:List SV,B8 [] l=true→B8 K l=true
 | [],_=>rfl
 | x::l,h=>by simp only[B8,Bool.and_eq_true]at h ⊢;exact⟨S6 x h.1,Mm l h.2⟩
end
theorem Xp (l:List Int) (c:Int→Int→Int) (Q:Int→Prop) (f:FuncId) (first cap:List SV) (hc:(SV.clo (.func f) first cap).inn []=true) (hf:∀ a b,Q a→Q b→Hz Tryz.prog f (first++[Aa a,Aa b]++cap) (Aa (c a b))) (hQ:∀ a∈l,Q a) (hl:An l) :
  Sy.Spec Tryz.prog 373 [.osl 0,Aa 0,Aa l.length,.clo (.func f) first cap] [(0,.row 1 Aa l)] (.tup []) [(0,.row 1 Aa (Qa (fun a b=>decide (c a b<0)) l))]:=Ab Γ hm 100 F373 Tryz.ntmps373 rfl fun F hF=>by
 unfold An at hl
 have hin:∀ x y:Int,B8 [] (first++[Aa x,Aa y]++cap)=true:=fun x y=>Cr hc rfl
 have hc':(SV.clo (.func f) first cap).inn [0]=true:=S6 _ hc
 generalize hlt:(fun a b=>decide (c a b<0))=lt
 conv=>whnf
 (repeat' (refine⟨by (unfold I64;omega),?_⟩;((conv=>whnf))))
 refine Ay l.length (fun _=>True) (fun j=>[(0,.osl 0),(1,Aa 0),(2,Aa l.length),(3,.clo (.func f) first cap),(8,Aa ((j:Int)+1))]) (fun j=>[(0,.row 1 Aa ((Ek lt (l.take (j+1))).reverse++l.drop (j+1)))]) [] Y ⟨⟨E,E,E,E,E,E,Bb _,hc',E,E,Y⟩,⟨.inl (congrArg (Ob.row 1 Aa) ?_),E,Y⟩,E,E⟩ ?_
 ·cases l with
  | nil=>rfl
  | cons a l=>simp[Ek,Ml]
 intro j hj _
 refine rg ?_;conv=>whnf
 refine⟨fun h=>?_,fun h=>?_⟩
 ·have hjl:j+1<l.length:=by have:=of_decide_eq_true h;omega
  have hdrop:l.drop (j+1)=l[j+1]::l.drop (j+1+1):=List.drop_eq_getElem_cons hjl
  have htake:=Ad0 lt l (j+1) hjl
  have hr:(Ek lt (l.take (j+1))).length=j+1:=by rw[(Jt lt _).length_eq];simp;omega
  have hQx:Q l[j+1]:=hQ _ (List.getElem_mem hjl)
  have hQr:∀ z∈Ek lt (l.take (j+1)),Q z:=fun z hz=>hQ z (List.mem_of_mem_take ((Jt lt _).mem_iff.1 hz))
  rw[hdrop]
  generalize l[j+1]=x at htake hQx
  generalize Ek lt (l.take (j+1))=r at htake hr hQr
  generalize hR:l.drop (j+1+1)=R at *
  refine rg ?_;conv=>whnf
  refine M6 (α:={p:List Int × List Int // Ml lt x r=p.2.reverse++Ml lt x p.1∧p.1.length+p.2.length=j+1∧∀ z∈p.1,Q z}) (fun p=>[(0,.osl 0),(1,Aa 0),(2,Aa l.length),(3,.clo (.func f) first cap),(8,Aa ((j:Int)+1)),(9,Aa p.1.1.length)]) (fun p=>[(0,.row 1 Aa (p.1.1.reverse++x::(p.1.2++R)))]) (fun p=>p.1.1.length) ⟨(r,[]),by simp,by simpa using hr,hQr⟩ []
   ⟨⟨rfl,rfl,rfl,rfl,rfl,rfl,Bb _,hc',rfl,rfl,congrArg Aa (by rw[hr];omega),rfl,trivial⟩,⟨.inl rfl,rfl,trivial⟩,rfl,rfl⟩ ?_
  rintro ⟨⟨A,B⟩,hp1,hp2,hp3⟩
  simp only at hp1 hp2 hp3
  dsimp only
  cases A with
  | nil =>
   simp only[Ml]at hp1
   (refine rg ?_;(conv=>whnf);refine aF ?_;refine rd qq ?_;conv=>whnf)
   refine⟨qq,?_⟩
   ((conv=>whnf);refine aF ?_;refine rg ?_;conv=>whnf)
   refine⟨by unfold I64;omega,?_⟩
   conv=>whnf
   refine Av [] Y qn Y ⟨⟨E,E,E,E,E,E,Bb _,hc',congrArg Aa qn,E,Y⟩,⟨.inl (congrArg (Ob.row 1 Aa) ?_),E,Y⟩,E,E⟩
   show (Ek lt (l.take (j+1+1))).reverse++l.drop (j+1+1)=[].reverse++x::(B++R)
   rw[htake,hp1,hR]
   simp
  | cons y A =>
   have hQy:=hp3 y qy
   refine rg ?_;conv=>whnf
   refine⟨fun _=>?_,fun h=>absurd (of_decide_eq_false h) qy⟩
   refine rd qq ?_;conv=>whnf
   have e1:((y::A).reverse++x::(B++R))[(((y::A).length:Nat):Int).toNat]'qy=x:=by simp
   have e2:((y::A).reverse++x::(B++R))[((((y::A).length:Nat):Int)-1).toNat]'qy=y:=by simp
   refine⟨by omega,by simp,?_⟩
   conv=>whnf
   refine⟨E,by simp,?_⟩
   rw[e1]
   conv=>whnf
   refine⟨by unfold I64;simp at hp2;simp;omega,?_⟩
   conv=>whnf
   refine⟨by simp,by simp,?_⟩
   conv=>whnf
   refine⟨E,by simp,?_⟩
   rw[e2]
   conv=>whnf
   refine Ag5 (hf x y hQx hQy) E E E (by simp only[hin];rfl) qq E ?_
   refine rd qq ?_;conv=>whnf
   refine⟨qq,?_⟩
   conv=>whnf
   refine⟨fun h2=>?_,fun h2=>?_⟩
   ·refine rg ?_;conv=>whnf
    refine⟨by unfold I64;simp at hp2;simp;omega,?_⟩
    conv=>whnf
    refine⟨by unfold I64;simp at hp2;simp;omega,?_⟩
    conv=>whnf
    refine⟨by simp,by simp,?_⟩
    conv=>whnf
    refine⟨E,by simp,?_⟩
    rw[e2]
    conv=>whnf
    refine⟨by omega,by simp,?_⟩
    conv=>whnf
    refine⟨E,by simp,?_⟩
    rw[e1]
    conv=>whnf
    refine⟨by omega,by simp,?_⟩
    conv=>whnf
    refine⟨E,by simp,y,E,E,?_⟩
    conv=>whnf
    refine⟨by simp,by simp,?_⟩
    conv=>whnf
    refine⟨E,by simp,x,E,E,?_⟩
    conv=>whnf
    refine⟨qq,?_⟩
    conv=>whnf
    refine⟨by unfold I64;simp at hp2;simp;omega,?_⟩
    conv=>whnf
    have hxy:lt x y=true:=by rw[← hlt];exact h2
    refine Qk (α:={p:List Int × List Int // Ml lt x r=p.2.reverse++Ml lt x p.1∧p.1.length+p.2.length=j+1∧∀ z∈p.1,Q z}) (L:=fun p=>[(0,.osl 0),(1,Aa 0),(2,Aa l.length),(3,.clo (.func f) first cap),(8,Aa ((j:Int)+1)),(9,Aa p.1.1.length)]) (O:=fun p=>[(0,.row 1 Aa (p.1.1.reverse++x::(p.1.2++R)))]) (μ:=fun p=>p.1.1.length) (x:=⟨(y::A,B),hp1,hp2,hp3⟩)
     ⟨(A,y::B),by simp only[hp1,Ml,hxy,if_true];simp,by simp at hp2 ⊢;omega,fun z hz=>hp3 z (by simp[hz])⟩ [] qy
     ⟨⟨rfl,rfl,rfl,rfl,rfl,rfl,Bb _,hc',rfl,rfl,congrArg Aa qy,rfl,trivial⟩,⟨.inl (congrArg (Ob.row 1 Aa) ?_),rfl,trivial⟩,rfl,rfl⟩
    simp
   ·refine rg ?_;conv=>whnf
    have hxy:lt x y=false:=by rw[← hlt];exact h2
    refine⟨by unfold I64;omega,?_⟩
    conv=>whnf
    refine Av [] Y qn Y ⟨⟨E,E,E,E,E,E,Bb _,hc',congrArg Aa qn,E,Y⟩,⟨.inl (congrArg (Ob.row 1 Aa) ?_),E,Y⟩,E,E⟩
    show (Ek lt (l.take (j+1+1))).reverse++l.drop (j+1+1)=(y::A).reverse++x::(B++R)
    rw[htake,hp1,hR,Ml,hxy]
    simp
 ·have h:=of_decide_eq_false h
  have e:(Ek lt (l.take (j+1))).reverse++l.drop (j+1)=Qa lt l:=by
   rw[List.take_of_length_le qn,List.drop_of_length_le qn,List.append_nil]
   rfl
  rw[e]
  refine rg ?_;conv=>whnf
  exact Ba E .nil [] [(0,.row 1 Aa (Qa lt l))] (fun _ h=>h) E E ⟨Y,⟨.inl E,E,Y⟩,E,E⟩
theorem Aoc (l:List Int) (c:Int→Int→Int) (Q:Int→Prop) (f:FuncId) (first cap:List SV) (hc:(SV.clo (.func f) first cap).inn []=true) (hf:∀ a b,Q a→Q b→Hz Tryz.prog f (first++[Aa a,Aa b]++cap) (Aa (c a b))) (hQ:∀ a∈l,Q a) (hl:l.length<20) :
  Sy.Spec Tryz.prog 333 [.osl 0,Aa l.length,.clo (.func f) first cap] [(0,.row 1 Aa l)] (.tup []) [(0,.row 1 Aa (Qa (fun a b=>decide (c a b<0)) l))]:=Ab Γ hm 100 F333 Tryz.ntmps333 rfl fun F hF=>by
 have hc':(SV.clo (.func f) first cap).inn [0]=true:=S6 _ hc
 have hins:=Xp l c Q f first cap hc hf hQ (by unfold An;omega)
 generalize Qa (fun a b=>decide (c a b<0)) l=l' at hins
 conv=>whnf
 refine Aw 0 (fun j=>[(0,.osl 0),(1,Aa l.length),(2,.clo (.func f) first cap),(6,Aa 20),(7,Aa 0),(8,Aa 20)]) (fun _=>[(0,.row 1 Aa l)]) [] ⟨⟨E,E,E,E,Bb _,hc',E,E,E,E,E,E,Y⟩,⟨.inl E,E,Y⟩,E,E⟩ ?_
 intro j hj
 refine rg ?_;conv=>whnf
 refine⟨fun h=>absurd (of_decide_eq_true h) qn,fun _=>?_⟩
 refine rg ?_;conv=>whnf
 refine Ai (Ak [] E F373 hins (E6 _) ⟨E,Y⟩ (by
  have h0:B8 [0] [.osl 0,Aa 0,Aa l.length,.clo (.func f) first cap]=true:=by simp only[B8,hc'];rfl
  simp only[Ip,Obs.keys,List.map_cons,List.map_nil,h0];rfl) ⟨.inl rfl,trivial⟩) rfl rfl ?_
 refine rg ?_;conv=>whnf
 refine Aw 0 (fun j=>[(1,Aa l.length),(6,Aa 20)]) (fun _=>[(0,.row 1 Aa l')]) [] ⟨⟨E,E,E,E,Y⟩,⟨.inl E,E,Y⟩,E,E⟩ ?_
 clear hj
 intro j hj
 refine rg ?_;conv=>whnf
 refine⟨fun h=>absurd (of_decide_eq_true h) qn,fun _=>?_⟩
 refine rg ?_;conv=>whnf
 exact Ba E .nil [] [(0,.row 1 Aa l')] (fun _ h=>h) E E ⟨Y,⟨.inl E,E,Y⟩,E,E⟩
theorem Acj (l:List Int) (c:Int→Int→Int) (Q:Int→Prop) (f:FuncId) (first cap:List SV) (hc:(SV.clo (.func f) first cap).inn []=true) (hf:∀ a b,Q a→Q b→Hz Tryz.prog f (first++[Aa a,Aa b]++cap) (Aa (c a b))) (hQ:∀ a∈l,Q a) (hl:l.length<20) :
  Sy.Spec Tryz.prog 281 [.osl 0,.clo (.func f) first cap] [(0,.row 1 Aa l)] (.tup []) [(0,.row 1 Aa (Qa (fun a b=>decide (c a b<0)) l))]:=Ab Γ hm 100 F281 Tryz.ntmps281 rfl fun F hF=>by
 have hc':(SV.clo (.func f) first cap).inn [0]=true:=S6 _ hc
 have hst:=Aoc l c Q f first cap hc hf hQ hl
 generalize Qa (fun a b=>decide (c a b<0)) l=l' at hst
 conv=>whnf
 refine Ai (Ak [] E F333 hst (E6 _) ⟨E,Y⟩ (by
  have h0:B8 [0] [.osl 0,Aa l.length,.clo (.func f) first cap]=true:=by simp only[B8,hc'];rfl
  simp only[Ip,Obs.keys,List.map_cons,List.map_nil,h0];rfl) ⟨.inl rfl,trivial⟩) rfl rfl ?_
 refine rg ?_;conv=>whnf
 exact Ba E .nil [] [(0,.row 1 Aa l')] (fun _ h=>h) E E ⟨Y,⟨.inl E,E,Y⟩,E,E⟩
def Yw (n:Net) (a b:Int):Int:=orI [cmpI (nth n.devices a).prio (nth n.devices b).prio,cmpI (nth n.devices a).mac (nth n.devices b).mac]
theorem ranks1 (n:Net) (a b:Int) (ha:0≤a∧a<n.devices.length) (hb:0≤b∧b<n.devices.length):Sy.Spec Tryz.prog 282 [Aa a,Aa b,.ref 8 (Al n) 0] [] (Aa (Yw n a b)) []:=Ab Γ hm 100 F282 Tryz.ntmps282 rfl fun F hF=>by
 have e1:Yw n a b=orI [cmpI (n.devices[a.toNat]'qn).prio (n.devices[b.toNat]'qn).prio,cmpI (n.devices[a.toNat]'qn).mac (n.devices[b.toNat]'qn).mac]:=by
  rw[Yw,Ah qn,Ah qn]
 rw[e1]
 conv=>whnf
 (repeat' (first | (refine Ac rfl (.cons .tmp .nil) ?_ rfl) | (refine⟨qq,?_⟩;((conv=>whnf))) | (refine⟨by (omega),by (omega),?_⟩;((conv=>whnf))) | (refine Aq (Hm (n.devices[a.toNat]'qn).prio (n.devices[b.toNat]'qn).prio) F284 rfl rfl rfl qq rfl ?_;((refine rd qq ?_);(conv=>whnf))) | (refine Aq (Aem (n.devices[a.toNat]'qn).mac (n.devices[b.toNat]'qn).mac) F285 rfl rfl rfl qq rfl ?_;((refine rd qq ?_);(conv=>whnf))) | (refine Anh [28] (orS [cmpI (n.devices[a.toNat]'qn).prio (n.devices[b.toNat]'qn).prio,cmpI (n.devices[a.toNat]'qn).mac (n.devices[b.toNat]'qn).mac] (by simp[An])) F283 rfl (.cons (.lit rfl rfl rfl) .nil) rfl qq rfl ?_;((refine rd qq ?_);(conv=>whnf)))))
 all_goals rfl
def Su (m:Nat):List Int:=(List.range m).map fun (i:Nat)=>(i:Int)
theorem Zi (m:Nat):Su (m+1)=Su m++[(m:Int)]:=by simp[Su,List.range_succ]
theorem Ig (m:Nat):(Su m).length=m:=by simp[Su]
def Hq (ord:List Int):Nat→List Int
 | 0=>List.replicate ord.length 0
 | j+1=>(Hq ord j).set (nth ord j).toNat j
theorem E7 (ord:List Int):∀ j,(Hq ord j).length=ord.length
 | 0=>by simp[Hq]
 | j+1=>by simp[Hq,E7 ord j]
def Dw (n:Net):List Int:=Qa (fun a b=>decide (Yw n a b<0)) (Su n.devices.length)
def Dq (n:Net):List Int:=Hq (Dw n) n.devices.length
theorem ranksS (n:Net) (hn:n.Fin):Sy.Spec Tryz.prog 220 [Al n] [] (.sl 1 Aa (if Ae n then Dq n else [])) []:=Ab Γ hm 100 F220 Tryz.ntmps220 rfl fun F hF=>by
 have hl:=hn.devices
 unfold An at hl
 conv=>whnf
 refine Ag (Be n hn) F23 E E E E E ?_
 refine rg ?_;conv=>whnf
 refine⟨fun h=>?_,fun h=>?_⟩
 ·have h:Ae n=false:=by simpa using h
  refine rg ?_;conv=>whnf
  refine Ap 2 1 Aa E ?_
  exact Ac E (.cons .tmp .nil) (by rw[h];rfl) E
 have h:Ae n=true:=by simpa using h
 have h8:n.devices.length≤8:=by
  simp only[Ae,Agu,Bool.and_eq_true,decide_eq_true_eq]at h
  exact h.1.1.1.1.1.1.1.1.1.1.1.1.1.1.1
 rw[h,if_pos rfl,Dq]
 refine rg ?_;conv=>whnf
 refine A3 1 8 (Al n) E E E ?_
 refine B7 3 1000 1 Aa E E ?_
 refine Aw n.devices.length (fun j=>[(1,.ref 8 (Al n) 0),(3,.osl 1000),(13,Aa n.devices.length),(14,Aa j)]) (fun j=>[(1000,.row 1 Aa (Su j))]) [] ⟨⟨E,E,E,E,E,E,E,E,Y⟩,⟨.inl E,E,Y⟩,E,E⟩ ?_
 intro j hj
 refine rg ?_;conv=>whnf
 refine⟨fun h2=>?_,fun h2=>?_⟩
 ·have hlt:j<n.devices.length:=by simpa using h2
  refine rg ?_;conv=>whnf
  refine Ai (Am Γ.toTy 20 E E E E E (.row E) (.lit (l:=[(j:Int)]) E E) qy (by simp[Ig];omega) (by simp[Ig];omega)) E E ?_
  refine rg ?_;conv=>whnf
  refine⟨by unfold I64;omega,?_⟩
  conv=>whnf
  exact Ar [(1000,20)] hlt ⟨⟨E,E,E,E,E,E,E,E,Y⟩,⟨.inl (congrArg (Ob.row 1 Aa) (Zi j)),E,Y⟩,E,E⟩
 have hjl:j=n.devices.length:=by have:¬ j<n.devices.length:=(by simpa using h2);omega
 subst hjl
 refine rg ?_;conv=>whnf
 have hsort:=Acj (Su n.devices.length) (Yw n) (fun a=>0≤a∧a<n.devices.length) 282 [] [.ref 8 (Al n) 0] rfl (fun a b ha hb=>⟨⟨_,_,F282⟩,ranks1 n a b ha hb⟩) (fun a ha=>by
  obtain ⟨i,hi,rfl⟩:=List.mem_map.1 ha
  have:=List.mem_range.1 hi
  omega) (by rw[Ig];omega)
 have hslen:(Dw n).length=n.devices.length:=by rw[Dw,(Qt _ _).length_eq,Ig]
 have hsm:∀ a∈Dw n,0≤a∧a<n.devices.length:=fun a ha=>by
  have:=(Qt _ _).mem_iff.1 ha
  obtain ⟨i,hi,rfl⟩:=List.mem_map.1 this
  have:=List.mem_range.1 hi
  omega
 change Sy.Spec _ _ _ _ _ [(0,.row 1 Aa (Dw n))]at hsort
 generalize Dw n=sl at hsort hslen hsm
 refine Ai (Ak [(0,1000)] E F281 hsort E ⟨E,Y⟩ E ⟨.inl E,Y⟩) E E ?_
 refine rg ?_;conv=>whnf
 refine Ai (Br Γ.toTy (d:=27) (n:=sl.length) Aa 0 E E E E E E E E qn qn E E E) E E ?_
 refine rg ?_;conv=>whnf
 refine Aw sl.length (fun j=>[(5,.osl 27),(28,.osl 1000),(29,Aa sl.length),(30,Aa j)]) (fun j=>[(1000,.row 1 Aa sl),(27,.row 1 Aa (Hq sl j))]) [] ⟨⟨E,E,E,E,E,E,E,E,Y⟩,⟨.inl E,E,.inl E,E,Y⟩,E,E⟩ ?_
 clear hj h2
 intro j hj
 refine rg ?_;conv=>whnf
 refine⟨fun h2=>?_,fun h2=>?_⟩
 ·have hlt:j<sl.length:=by simpa using h2
  have hmj:=hsm _ (List.getElem_mem hlt)
  have hnth:nth sl j=sl[j]:=Ah (by simpa using hlt)
  have hfl:=E7 sl j
  refine rg ?_;conv=>whnf
  refine⟨by omega,by omega,?_⟩
  conv=>whnf
  refine⟨E,by omega,?_⟩
  conv=>whnf
  refine⟨hmj.1,by rw[hfl];exact(by omega:sl[j].toNat<sl.length),?_⟩
  conv=>whnf
  refine⟨E,by rw[hfl];exact(by omega:sl[j].toNat<sl.length),(j:Int),E,E,?_⟩
  conv=>whnf
  refine⟨by unfold I64;omega,?_⟩
  conv=>whnf
  exact Ar [] hlt ⟨⟨E,E,E,E,E,E,E,E,Y⟩,⟨.inl E,E,.inl (congrArg (Ob.row 1 Aa) (by rw[Hq,hnth];rfl)),E,Y⟩,E,E⟩
 have hjl:j=n.devices.length:=by
  have:¬ j<sl.length:=by simpa using h2
  omega
 subst hjl
 refine rg ?_;conv=>whnf
 refine Au 27 E ?_
 exact Ac E (.cons .tmp .nil) E E
def Ci (n:Net) (a b:Int):Bool :=
 if (nth n.devices a).prio≠(nth n.devices b).prio then decide ((nth n.devices a).prio<(nth n.devices b).prio) else
  if (nth n.devices a).mac≠(nth n.devices b).mac then decide ((nth n.devices a).mac<(nth n.devices b).mac) else decide (a<b)
def Kj (n:Net):List Int:=(List.range n.devices.length).map fun (i:Nat)=>(((List.range n.devices.length).countP fun k=>Ci n (k:Nat) i:Nat):Int)
end Go.Sy.YteinjapglfkamaaGreat
namespace Go.Sy.YteinjapglfkamaaGreat
theorem key_lt (n:Net) (a b:Int):decide (Yw n a b<0)=if (nth n.devices a).prio≠(nth n.devices b).prio then decide ((nth n.devices a).prio<(nth n.devices b).prio) else
  if (nth n.devices a).mac≠(nth n.devices b).mac then decide ((nth n.devices a).mac<(nth n.devices b).mac) else false:=by
 rw[Yw,Lf,Lf]
 rfl
theorem Lt (n:Net) (a:Int):Ci n a a=false:=by simp[Ci]
theorem Vo (n:Net) {a b c:Int} (h1:Ci n a b=true) (h2:Ci n b c=true):Ci n a c=true:=by
 unfold Ci at *
 generalize nth n.devices a=x at *
 generalize nth n.devices b=y at *
 generalize nth n.devices c=z at *
 grind
theorem Ae1 (n:Net) {a b:Int} (h1:Ci n a b=true):Ci n b a=false:=by
 cases h:Ci n b a with
 | false=>rfl
 | true=>have:=Vo n h1 h;rw[Lt]at this;cases this
theorem Zo (n:Net) {x y:Int} (h:y<x):decide (Yw n x y<0)=Ci n x y:=by
 rw[key_lt]
 unfold Ci
 generalize nth n.devices x=p at *
 generalize nth n.devices y=q at *
 grind
theorem Aou (n:Net) {x y:Int} (h:y<x) (hk:Ci n x y=false):Ci n y x=true:=by
 unfold Ci at *
 generalize nth n.devices x=p at *
 generalize nth n.devices y=q at *
 grind
theorem Zs (n:Net) (x:Int):∀ (r:List Int),(∀ y∈r,y<x)→r.Pairwise (fun a b=>Ci n b a=true)→(Ml (fun a b=>decide (Yw n a b<0)) x r).Pairwise (fun a b=>Ci n b a=true)
 | [],_,_=>by simp[Ml]
 | y::r,hx,hp=>by
  have hy:=hx y qy
  rw[List.pairwise_cons]at hp
  rw[Ml]
  split
  ·rename_i hlt
   rw[Zo n hy]at hlt
   rw[List.pairwise_cons]
   refine⟨fun z hz=>?_,Zs n x r (fun z hz=>hx z (by simp[hz])) hp.2⟩
   rcases List.mem_cons.1 ((Um _ x r).mem_iff.1 hz) with rfl | hz
   ·exact hlt
   ·exact hp.1 z hz
  ·rename_i hlt
   rw[Zo n hy]at hlt
   have hyx:=Aou n hy (by simpa using hlt)
   rw[List.pairwise_cons,List.pairwise_cons]
   refine⟨fun z hz=>?_,hp⟩
   rcases List.mem_cons.1 hz with rfl | hz
   ·exact hyx
   ·exact Vo n (hp.1 z hz) hyx
theorem Vc (n:Net):∀ m,(Ek (fun a b=>decide (Yw n a b<0)) (Su m)).Pairwise (fun a b=>Ci n b a=true)
 | 0=>by simp[Ek,Su]
 | m+1=>by
  rw[Zi,Ek,List.foldl_append]
  refine Zs n m _ (fun y hy=>?_) (Vc n m)
  have:=(Jt _ _).mem_iff.1 hy
  obtain ⟨i,hi,rfl⟩:=List.mem_map.1 this
  have:=List.mem_range.1 hi
  omega
theorem Uc (n:Net):(Dw n).Pairwise (fun a b=>Ci n a b=true):=by
 rw[Dw,Qa,List.pairwise_reverse]
 exact Vc n _
theorem Aan (n:Net):(Dw n).Perm (Su n.devices.length):=Qt _ _
theorem Ael (n:Net) {l:List Int} (hp:l.Pairwise (fun a b=>Ci n a b=true)) (r:Nat) (hr:r<l.length):l.countP (fun k=>Ci n k l[r])=r:=by
 have hsplit:l=l.take r++l[r]::l.drop (r+1):=by
  rw[← List.drop_eq_getElem_cons hr,List.take_append_drop]
 have h1:(l.take r).countP (fun k=>Ci n k l[r])=r:=by
  rw[List.countP_eq_length.2 (fun k hk=>?_),List.length_take]
  ·omega
  ·obtain ⟨i,hi,rfl⟩:=List.mem_iff_getElem.1 hk
   simp only[List.length_take]at hi
   rw[List.getElem_take]
   exact List.pairwise_iff_getElem.1 hp i r qn hr qn
 have h2:(l.drop (r+1)).countP (fun k=>Ci n k l[r])=0:=by
  rw[List.countP_eq_zero]
  intro k hk
  obtain ⟨i,hi,rfl⟩:=List.mem_iff_getElem.1 hk
  simp only[List.length_drop]at hi
  rw[List.getElem_drop]
  have:=List.pairwise_iff_getElem.1 hp r (r+1+i) hr qn qn
  simp[Ae1 n this]
 calc l.countP (fun k=>Ci n k l[r])=(l.take r++l[r]::l.drop (r+1)).countP (fun k=>Ci n k l[r]):=congrArg _ hsplit
  _=r:=by rw[List.countP_append,List.countP_cons,h1,h2,Lt];simp
theorem So (L:List Int) (hn:L.Nodup) (hm:∀ a∈L,0≤a∧a<L.length):∀ (j:Nat),j≤L.length→∀ (r:Nat) (hr:r<L.length),r<j→(Hq L j)[L[r].toNat]? = some (r:Int)
 | 0,_,r,_,h=>by omega
 | j+1,hj,r,hr,h=>by
  have hmr:=hm _ (List.getElem_mem hr)
  have hlen:=E7 L j
  have hnth:nth L (j:Int)=L[j]:=Ah (by simp;omega)
  rw[Hq,hnth,List.getElem?_set]
  split
  ·rename_i he
   have hmj:=hm _ (List.getElem_mem (show j<L.length by omega))
   have hjr:L[j]=L[r]:=by omega
   have:j=r:=by
    have:=(List.getElem_inj (i:=j) (j:=r) (h₀:=by omega) (h₁:=hr) hn).1 hjr
    exact this
   subst this
   rw[if_pos qn]
  ·rename_i he
   have hne:r≠j:=fun e=>he (by subst e;rfl)
   exact So L hn hm j qn r hr qn
theorem Af0 (m:Nat):(Su m).Nodup:=by
 rw[Su]
 exact List.Pairwise.map _ (fun (a b:Nat) (h:a≠b)=>by intro e;exact h qn) List.nodup_range
theorem Ac7 (n:Net):Dq n=Kj n:=by
 have hp:=Aan n
 have hlen:(Dw n).length=n.devices.length:=by rw[hp.length_eq,Ig]
 have hnd:(Dw n).Nodup:=hp.nodup_iff.2 (Af0 _)
 have hm:∀ a∈Dw n,0≤a∧a<(Dw n).length:=fun a ha=>by
  obtain ⟨i,hi,rfl⟩:=List.mem_map.1 (hp.mem_iff.1 ha)
  have:=List.mem_range.1 hi
  omega
 refine List.ext_getElem? fun i=>?_
 rcases Nat.lt_or_ge i n.devices.length with hi | hi
 ·have hin:(i:Int)∈Dw n:=hp.mem_iff.2 (List.mem_map.2 ⟨i,List.mem_range.2 hi,rfl⟩)
  obtain ⟨r,hr,he⟩:=List.mem_iff_getElem.1 hin
  have h1:=So (Dw n) hnd hm n.devices.length qn r hr qn
  rw[he]at h1
  have h2:=Ael n (Uc n) r hr
  rw[he,hp.countP_eq]at h2
  rw[Dq,Kj,List.getElem?_map,List.getElem?_range hi]
  simp only[Int.toNat_natCast]at h1
  rw[h1]
  simp only[Option.map_some]
  congr 2
  rw[← h2,Su,List.countP_map]
  rfl
 ·rw[List.getElem?_eq_none,List.getElem?_eq_none]
  ·simp[Kj];omega
  ·rw[Dq,E7];omega
theorem G_vw {C:Cx} {k:List KI} {s:SS} (d:Nat) (x:SV) (h:Vw s [] (s.σ d) x) (hg:G C k ⟨upd s.σ d x,s.h⟩):G C k s:=fun κ a w hs =>
 hg κ a w ⟨hs.defers,hs.size,hs.inv,hs.ctx,fun i=>by
  show Rd κ w (upd s.σ d x i) _
  by_cases hi:i=d
  ·subst hi;rw[Bi];exact Vw.rd hs.inv (fun _ hn=>by cases hn) h (hs.slot i)
  ·rw[B0 _ _ hi];exact hs.slot i,hs.obj⟩
end Go.Sy.YteinjapglfkamaaGreat
namespace Go.Sy.YteinjapglfkamaaGreat
open Go.Proofs
attribute [local irreducible] Go.Sy.G Go.Sy.DR
set_option maxRecDepth 20000
set_option maxHeartbeats 4000000
def Jv (p:Port):Bool:=decide (p.cost<1) || decide (p.cost>65535)
theorem costs1 (p:Port):Sy.Spec Tryz.prog 280 [A5 p] [] (Ad (Jv p)) []:=Ab Γ hm 100 F280 Tryz.ntmps280 rfl fun F hF=>by
 conv=>whnf
 (repeat' (first | (refine⟨fun h=>?_,fun h=>?_⟩<;>(repeat (first | simp only[decide_eq_true_eq]at h | simp only[decide_eq_false_iff_not]at h))<;>((refine rg ?_);(conv=>whnf))) | (refine Ac rfl (.cons .tmp .nil) ?_ rfl)))
 all_goals (refine congrArg Ad ?_;clear hF;grind [Jv])
theorem Q1 (l:List Port) (p:Port→Bool) (f:FuncId) (first cap:List SV) (hc:(SV.clo (.func f) first cap).inn []=true) (hf:∀ x∈l,Hz Tryz.prog f (first++[A5 x]++cap) (Ad (p x))) (hl:An l) :
  Sy.Spec Tryz.prog 279 [.sl 7 A5 l,.clo (.func f) first cap] [] (Ad (l.any p)) []:=Ab Γ hm 100 F279 Tryz.ntmps279 rfl fun F hF=>by
 have h0:B8 [] [.sl 7 A5 l,.clo (.func f) first cap]=true:=by simp only[B8,hc];rfl
 conv=>whnf
 refine Ag (Vv l p f first cap hc hf hl) F332 E E (by simp only[h0];rfl) E E ?_
 refine rg ?_;conv=>whnf
 exact Ac E (.cons .tmp .nil) (congrArg Ad (S9 _ _).symm) E
def Db (n:Net):Bool:=!(n.ports.any Jv)
theorem Ang (n:Net) (hl:An n.ports):Sy.Spec Tryz.prog 219 [Al n] [] (Ad (Db n)) []:=Ab Γ hm 100 F219 Tryz.ntmps219 rfl fun F hF=>by
 conv=>whnf
 refine Ag (Q1 n.ports Jv 280 [] [] E (fun x _=>⟨⟨_,_,F280⟩,costs1 x⟩) hl) F279 E E E E E ?_
 refine rg ?_;conv=>whnf
 exact Ac E (.cons .tmp .nil) E E
def H8 (n:Net):Bool :=
 decide (200<n.devices.length) || decide (200<n.ports.length) || decide (200<n.links.length) || decide (200<n.domains.length) || decide (200<n.statics.length) || decide (200<n.floods.length) || decide (200<n.vrfs.length) || decide (200<n.irbs.length) ||
  n.ports.any (fun p=>decide (100<p.tagged.length)) || n.domains.any (fun d=>decide (100<d.peers.length)) || n.floods.any (fun f=>decide (100<f.addrs.length)) || n.vrfs.any (fun v=>decide (100<v.imports.length) || decide (100<v.exports.length))
theorem Abg {n:Net} (h:H8 n=false):n.Fin:=by
 simp only[H8,Bool.or_eq_false_iff,decide_eq_false_iff_not,List.any_eq_false,decide_eq_true_eq,Bool.or_eq_true,not_or]at h
 obtain ⟨⟨⟨⟨⟨⟨⟨⟨⟨⟨⟨h1,h2⟩,h3⟩,h4⟩,h5⟩,h6⟩,h7⟩,h8⟩,h9⟩,h10⟩,h11⟩,h12⟩:=h
 exact⟨by unfold An;omega,by unfold An;omega,by unfold An;omega,by unfold An;omega,by unfold An;omega,by unfold An;omega,by unfold An;omega,by unfold An;omega,
  fun p hp=>by have:=h9 p hp;unfold An;omega,fun p hp=>by have:=h10 p hp;unfold An;omega,fun p hp=>by have:=h11 p hp;unfold An;omega,fun p hp=>by have:=h12 p hp;unfold An;omega,fun p hp=>by have:=h12 p hp;unfold An;omega⟩
end Go.Sy.YteinjapglfkamaaGreat
namespace Go.Sy.YteinjapglfkamaaGreat
open Go.Proofs
attribute [local irreducible] Go.Sy.G Go.Sy.DR
set_option maxRecDepth 100000
set_option maxHeartbeats 4000000
theorem A9 {α:Type} {l:List α} {i:Nat} {d:α} (h:i<l.length):l.getD i d=l[i]:=by simp[List.getD,h]
theorem K9 {n:Net} (h:Ae n=true) {i:Nat} (hi:i<n.ports.length):Eh n i n.ports[i]=true:=by
 simp only[Ae,Bool.and_eq_true]at h
 exact allB_iff.1 h.1.1.1.1.1.2 i hi
theorem W0 {n:Net} (h:Ae n=true) {i:Nat} (hi:i<n.links.length):Jh n i n.links[i]=true:=by
 simp only[Ae,Bool.and_eq_true]at h
 exact allB_iff.1 h.1.1.1.1.2 i hi
theorem D8 {n:Net} (h:Ae n=true):n.devices.length≤8∧n.ports.length≤40∧n.links.length≤20:=by
 simp only[Ae,Agu,Bool.and_eq_true,decide_eq_true_eq]at h
 omega
theorem Od {n:Net} (h:Ae n=true) {i:Nat} (hi:i<n.ports.length):n.ports[i].link=-1∨(0≤n.ports[i].link∧n.ports[i].link<n.links.length):=by
 have:=K9 h hi
 simp only[Eh,Aj,Bool.and_eq_true,Bool.or_eq_true,beq_iff_eq,decide_eq_true_eq]at this
 rcases this.2 with h1 | h1
 ·exact .inl h1
 ·exact .inr h1.1
theorem Me {n:Net} (h:Ae n=true) {i:Nat} (hi:i<n.ports.length):0≤n.ports[i].dev∧n.ports[i].dev<n.devices.length:=by
 have:=K9 h hi
 simp only[Eh,Aj,Bool.and_eq_true,decide_eq_true_eq]at this
 exact this.1.1.1.1.1.1.1.1
theorem Ko {n:Net} (h:Ae n=true) {i:Nat} (hi:i<n.links.length):(0≤n.links[i].a∧n.links[i].a<n.ports.length)∧0≤n.links[i].b∧n.links[i].b<n.ports.length:=by
 have:=W0 h hi
 simp only[Jh,Aj,Bool.and_eq_true,decide_eq_true_eq]at this
 exact⟨this.1.1.1.1,this.1.1.1.2⟩
def Ei (n:Net) (i:Nat):Int:=(nth n.ports i).dev
def Sr (n:Net) (i:Nat):Int:=(nth n.ports i).cost
theorem Adf {n:Net} (hcost:Db n=true) {i:Nat} (hi:i<n.ports.length):1≤Sr n i∧Sr n i≤65535:=by
 rw[Sr,Ah (l:=n.ports) (i:=(i:Int)) (by simpa using hi)]
 simp only[Db,Bool.not_eq_true',List.any_eq_false]at hcost
 have:=hcost _ (List.getElem_mem hi)
 simp only[Jv,Bool.or_eq_true,decide_eq_true_eq,not_or]at this
 simp only[Int.toNat_natCast]
 omega
def Le (ls:List Link) (i:Int):Int:=match ls.find? (fun l=>l.a == i || l.b == i) with | some l=>if l.a=i then l.b else l.a | none=>-1
theorem otherS (n:Net) (i:Int) (hl:An n.links):Sy.Spec Tryz.prog 211 [Al n,Aa i] [] (Aa (Le n.links i)) []:=Ab Γ hm 100 F211 Tryz.ntmps211 rfl fun F hF=>by
 unfold An at hl
 conv=>whnf
 refine A3 2 8 (Al n) E E E ?_
 refine Ay n.links.length (fun j=>∀ q (hq:q<n.links.length),q<j→n.links[q].a≠i∧n.links[q].b≠i) (fun j=>[(1,Aa i),(2,.ref 8 (Al n) 0),(5,Aa j)]) (fun _=>[]) [] (fun q _ h=>absurd h qn) ⟨⟨E,E,E,E,E,E,Y⟩,Y,E,E⟩ ?_
 intro j hj hI
 refine rg ?_;conv=>whnf
 refine⟨fun h=>?_,fun h=>?_⟩
 ·have hlt:j<n.links.length:=by simpa using h
  have e1:n.links[(j:Int).toNat]'qn=n.links[j]:=rfl
  have hfind:(n.links[j].a=i∨n.links[j].b=i)→n.links.find? (fun l=>l.a == i || l.b == i)=some n.links[j]:=fun h=>by
   rw[List.find?_eq_some_iff_getElem]
   refine⟨by simpa using h,j,hlt,E,fun q hq=>?_⟩
   have:=hI q qn hq
   simp[this.1,this.2]
  obtain ⟨l,hlk⟩:∃ l,n.links[j]=l:=⟨_,rfl⟩
  rw[hlk]at e1 hfind
  refine rg ?_;conv=>whnf
  refine⟨E,by omega,by omega,?_⟩
  rw[e1]
  conv=>whnf
  refine⟨fun h1=>?_,fun h1=>?_⟩
  ·have ha:l.a=i:=by simpa using h1
   have hres:Le n.links i=l.b:=by rw[Le,hfind (.inl ha)];simp[ha]
   rw[hres]
   refine rg ?_;conv=>whnf
   refine⟨E,by omega,by omega,?_⟩
   rw[e1]
   conv=>whnf
   exact Ac E (.cons .tmp .nil) E E
  have ha:¬ l.a=i:=by simpa using h1
  refine rg ?_;conv=>whnf
  refine⟨E,by omega,by omega,?_⟩
  rw[e1]
  conv=>whnf
  refine⟨fun h2=>?_,fun h2=>?_⟩
  ·have hb:l.b=i:=by simpa using h2
   have hres:Le n.links i=l.a:=by rw[Le,hfind (.inr hb)];simp[ha]
   rw[hres]
   refine rg ?_;conv=>whnf
   refine⟨E,by omega,by omega,?_⟩
   rw[e1]
   conv=>whnf
   exact Ac E (.cons .tmp .nil) E E
  have hb:¬ l.b=i:=by simpa using h2
  refine rg ?_;conv=>whnf
  refine⟨by unfold I64;omega,?_⟩
  conv=>whnf
  refine Av [] hI hlt (fun q hq hqj=>?_) ⟨⟨E,E,E,E,E,E,Y⟩,Y,E,E⟩
  by_cases hqe:q=j
  ·subst hqe;rw[hlk];exact⟨ha,hb⟩
  ·exact hI q hq qn
 ·have hres:Le n.links i=-1:=by
   have:¬ j<n.links.length:=by simpa using h
   rw[Le,List.find?_eq_none.2]
   intro x hx
   obtain ⟨q,hq,rfl⟩:=List.getElem_of_mem hx
   have:=hI q hq qn
   simp[this.1,this.2]
  rw[hres]
  refine rg ?_;conv=>whnf
  exact Ac E (.cons .tmp .nil) E E
end Go.Sy.YteinjapglfkamaaGreat
namespace Go.Sy.YteinjapglfkamaaGreat
open Go.Proofs
attribute [local irreducible] Go.Sy.G Go.Sy.DR
set_option maxRecDepth 20000
set_option maxHeartbeats 4000000
theorem Ajp {n:Net} (hb:Ae n=true) (i:Int):Le n.links i=Cn n i:=by
 have hlr:∀ (k:Nat) (hk:k<n.links.length),Jh n k n.links[k]=true:=fun k hk=>by
  have h:=hb
  simp only[Ae,Bool.and_eq_true]at h
  exact allB_iff.1 h.1.1.1.1.2 k hk
 have hin:∀ (k:Nat) (hk:k<n.links.length),(n.links[k].a=i∨n.links[k].b=i)→(0≤i∧i.toNat<n.ports.length)∧(nth n.ports i).link=k:=fun k hk h=>by
  have:=hlr k hk
  simp only[Jh,Aj,Bool.and_eq_true,decide_eq_true_eq,beq_iff_eq]at this
  rcases h with h | h<;>rw[h]at this
  ·exact⟨by omega,this.1.2⟩
  ·exact⟨by omega,this.2⟩
 rw[Le,Cn]
 cases hf:n.links.find? (fun l=>l.a == i || l.b == i) with
 | none =>
  rw[List.find?_eq_none]at hf
  dsimp only
  split
  ·rename_i hc
   have hk:i.toNat<n.ports.length:=by omega
   have e1:nth n.ports i=n.ports[i.toNat]:=Ah hk
   rw[e1]at hc
   have hq:=Hl hb hk hc.2.1
   have e2:nth n.links n.ports[i.toNat].link=n.links[n.ports[i.toNat].link.toNat]:=Ah hq.1
   rw[e2]at hq
   have:=hf _ (List.getElem_mem hq.1)
   have e3:((i.toNat:Nat):Int)=i:=by omega
   rw[e3]at hq
   simp at this
   rcases hq.2 with h | h
   ·exact absurd h this.1
   ·exact absurd h this.2
  ·rfl
 | some l =>
  rw[List.find?_eq_some_iff_getElem]at hf
  obtain ⟨hl,k,hk,rfl,_⟩:=hf
  have h2:=hin k hk (by simpa using hl)
  have e2:nth n.links (nth n.ports i).link=n.links[k]:=by rw[h2.2];exact Ah (l:=n.links) (i:=(k:Int)) (by simpa using hk)
  rw[if_pos ⟨by omega,by omega,hb⟩,e2]
theorem Ajd (n:Net) (hn:n.Fin) (hb:Ae n=true) (i:Int):Sy.Spec Tryz.prog 211 [Al n,Aa i] [] (Aa (Cn n i)) []:=by
 rw[← Ajp hb]
 exact otherS n i hn.links
end Go.Sy.YteinjapglfkamaaGreat
namespace Go.Sy.YteinjapglfkamaaGreat
open Go.Proofs
attribute [local irreducible] Go.Sy.G Go.Sy.DR
set_option maxRecDepth 20000
set_option maxHeartbeats 8000000
theorem Cd {i:Int} {n:Nat} (h:0≤i∧i<n):Aj i n=true:=by simp only[Aj,Bool.and_eq_true,decide_eq_true_eq];exact h
theorem Hr {i:Int} {n:Nat} (h:¬ (0≤i∧i<n)):Aj i n=false:=by simp only[Aj,Bool.and_eq_false_iff,decide_eq_false_iff_not];omega
theorem Mc (n:Net) (hn:n.Fin) (hb:Ae n=true) (i:Int):Sy.Spec Tryz.prog 37 [Al n,Aa i] [] (.sl 1 Aa (Bd n i)) []:=Ab Γ hm 100 F37 Tryz.ntmps37 rfl fun F hF=>by
 have hpl:=Bg i n.domains.length
 have hsp:=hn.ports
 unfold An at hsp
 conv=>whnf
 refine A3 2 8 (Al n) E E E ?_
 refine rg ?_;conv=>whnf
 refine Ag hpl F46 E E E E E ?_
 by_cases hi:0≤i∧i<n.domains.length
 rotate_left
 ·rw[Bd,if_neg (fun h=>hi h.1),Hr hi]
  (refine rg ?_;(conv=>whnf);refine aT ?_;refine rg ?_;conv=>whnf)
  refine Ap 4 1 Aa E ?_
  refine rg ?_;conv=>whnf
  exact Ac E (.cons .tmp .nil) E E
 rw[Bd,if_pos ⟨hi,hb⟩,Cd hi]
 have hk:i.toNat<n.domains.length:=by omega
 have e1:nth n.domains i=n.domains[i.toNat]:=Ah hk
 rw[A4,e1]
 obtain ⟨d,hd⟩:∃ d,n.domains[i.toNat]=d:=⟨_,rfl⟩
 rw[hd]
 (refine rg ?_;(conv=>whnf);refine aF ?_;refine rg ?_;conv=>whnf)
 refine⟨E,hi.1,hk,?_⟩
 rw[hd]
 conv=>whnf
 refine A3 6 6 (At d) E E E ?_
 refine B7 5 1000 1 Aa E E ?_
 refine Aw n.ports.length (fun j=>[(2,.ref 8 (Al n) 0),(5,.osl 1000),(6,.ref 6 (At d) 0),(7,Aa j)]) (fun j=>[(1000,.row 1 Aa (Cw (It n d) j))]) []
  ⟨⟨rfl,rfl,rfl,rfl,rfl,rfl,rfl,rfl,trivial⟩,⟨.inl rfl,rfl,trivial⟩,rfl,rfl⟩ ?_
 intro j hj
 refine rg ?_;conv=>whnf
 refine⟨fun h=>?_,fun h=>?_⟩
 ·have hlt:j<n.ports.length:=by simpa using h
  have hsucc:=Jl (It n d) j
  have hfl:=D1 (It n d) j
  have hin:It n d j=((n.ports[j]).dev == d.dev && Cp n.ports[j] d.vlan):=by
   rw[It,Ah (l:=n.ports) (i:=(j:Int)) (by simpa using hlt)];rfl
  rw[hin]at hsucc
  have e1:n.ports[(j:Int).toNat]'qn=n.ports[j]:=rfl
  have hms:=Sn n.ports[j] d.vlan (hn.tagged _ (List.getElem_mem _))
  obtain ⟨p,hp⟩:∃ p,n.ports[j]=p:=⟨_,rfl⟩
  rw[hp]at e1 hsucc hms
  obtain ⟨u,hu⟩:∃ u,Cw (It n d) j=u:=⟨_,rfl⟩
  rw[hu]at hsucc hfl ⊢
  refine rg ?_;conv=>whnf
  refine⟨E,by omega,by omega,?_⟩
  rw[e1]
  conv=>whnf
  refine⟨fun h2=>?_,fun h2=>?_⟩
  ·rw[h2,Bool.true_and]at hsucc
   refine rd qq ?_;conv=>whnf
   refine⟨E,by omega,by omega,?_⟩
   rw[e1]
   conv=>whnf
   refine Aq hms F99 E E E qq E ?_
   refine rd qq ?_;conv=>whnf
   refine⟨qq,?_⟩
   conv=>whnf
   refine⟨fun h4=>?_,fun h4=>?_⟩
   ·rw[if_pos h4]at hsucc
    refine rg ?_;conv=>whnf
    refine Ai (Am Γ.toTy 48 E E E E E (.row E) (.lit (e:=Aa) (l:=[(j:Int)]) E E) qy (by simp;omega) (by simp;omega)) E E ?_
    refine rg ?_;conv=>whnf
    refine⟨by unfold I64;omega,?_⟩
    conv=>whnf
    exact Ar [(1000,48)] hlt ⟨⟨E,E,E,E,E,E,E,E,Y⟩,⟨.inl (congrArg (Ob.row 1 Aa) hsucc),E,Y⟩,E,E⟩
   ·rw[if_neg (by simp[h4])]at hsucc
    refine rg ?_;conv=>whnf
    refine⟨by unfold I64;omega,?_⟩
    conv=>whnf
    exact Ar [] hlt ⟨⟨E,E,E,E,E,E,E,E,Y⟩,⟨.inl (congrArg (Ob.row 1 Aa) hsucc),E,Y⟩,E,E⟩
  ·rw[h2,Bool.false_and,if_neg qy]at hsucc
   refine rd qq ?_;conv=>whnf
   refine⟨qq,?_⟩
   ((conv=>whnf);refine aF ?_;refine rg ?_;conv=>whnf)
   refine⟨by unfold I64;omega,?_⟩
   conv=>whnf
   exact Ar [] hlt ⟨⟨E,E,E,E,E,E,E,E,Y⟩,⟨.inl (congrArg (Ob.row 1 Aa) hsucc),E,Y⟩,E,E⟩
 ·have:j=n.ports.length:=by have:=of_decide_eq_false h;omega
  subst this
  refine Au 1000 E ?_
  refine rg ?_;conv=>whnf
  exact Ac E (.cons .tmp .nil) E E
end Go.Sy.YteinjapglfkamaaGreat
namespace Go.Sy.YteinjapglfkamaaGreat
open Go.Proofs
attribute [local irreducible] Go.Sy.G Go.Sy.DR
set_option maxRecDepth 100000
set_option maxHeartbeats 4000000
theorem J2 (a bits:Int):Sy.Spec Tryz.prog 212 [Ey a bits] [] (Ad (decide (0≤bits∧bits≤32))) []:=Ab Γ hm 100 F212 Tryz.ntmps212 rfl fun F hF=>by
 conv=>whnf
 (repeat' (first | (refine⟨fun h=>?_,fun h=>?_⟩<;>(repeat (first | simp only[decide_eq_true_eq]at h | simp only[decide_eq_false_iff_not]at h))<;>((refine rg ?_);(conv=>whnf))) | (refine Ac rfl (.cons .tmp .nil) ?_ rfl)))
 all_goals (refine congrArg Ad ?_;clear hF;grind)
theorem Acy (a bits:Int) (h:0≤bits∧bits≤32):Sy.Spec Tryz.prog 213 [Ey a bits] [] (Aa (2 ^ (32-bits).toNat:Nat)) []:=Ab Γ hm 100 F213 Tryz.ntmps213 rfl fun F hF=>by
 obtain ⟨k,hk,hk2⟩:∃ k:Nat,(32-bits).toNat=k∧k≤32:=⟨_,rfl,by omega⟩
 rw[hk]
 conv=>whnf
 refine Aw k (fun j=>[(1,.ptr 1 0),(3,Aa (2 ^ j:Nat)),(4,Aa (bits+j))]) (fun _=>[(1,.box [Bj a,Aa bits])]) [] ⟨⟨E,E,E,E,congrArg (fun z=>SV.val (.int .i64 z)) qy,E,Y⟩,⟨.inl E,E,Y⟩,E,E⟩ ?_
 intro j hj
 have hp:2 ^ j≤2 ^ 32:=Nat.pow_le_pow_right qx qn
 have e32:(2:Nat) ^ 32=4294967296:=rfl
 have hs:2 ^ (j+1)=2 ^ j * 2:=Nat.pow_succ ..
 rw[e32]at hp
 obtain ⟨q,hq⟩:∃ q:Nat,2 ^ j=q:=⟨_,rfl⟩
 rw[hq]at hp hs ⊢
 refine rg ?_;conv=>whnf
 refine⟨fun h2=>?_,fun h2=>?_⟩
 ·have hlt:j<k:=by have:=of_decide_eq_true h2;omega
  refine rg ?_;conv=>whnf
  refine⟨by unfold I64;omega,?_⟩
  conv=>whnf
  refine⟨by unfold I64;omega,?_⟩
  conv=>whnf
  refine Ar [] hlt ⟨⟨E,E,congrArg (fun z=>SV.val (.int .i64 z)) ?_,E,congrArg (fun z=>SV.val (.int .i64 z)) ?_,E,Y⟩,⟨.inl E,E,Y⟩,E,E⟩
  ·rw[hs];omega
  ·omega
 ·have hjk:j=k:=by have:=of_decide_eq_false h2;omega
  subst hjk
  rw[hq]
  refine rg ?_;conv=>whnf
  exact Ac E (.cons .tmp .nil) E E
theorem Ue (a:Nat) (bits:Int) (ha:a<4294967296):Sy.Spec Tryz.prog 153 [Ey a bits] [] (Bj (Ce a bits)) []:=Ab Γ hm 100 F153 Tryz.ntmps153 rfl fun F hF=>by
 have hr:=J2 a bits
 by_cases hb:0≤bits∧bits≤32
 ·have hsz:=Acy a bits hb
  rw[decide_eq_true hb]at hr
  obtain ⟨k,hk,hk2⟩:∃ k:Nat,(32-bits).toNat=k∧k≤32:=⟨_,rfl,by omega⟩
  have hf:=Jk a k bits hb hk
  have h1:=Nat.one_le_two_pow (n:=k)
  have hp:2 ^ k≤2 ^ 32:=Nat.pow_le_pow_right qx hk2
  have e32:(2:Nat) ^ 32=4294967296:=rfl
  have hdm:=Nat.div_add_mod a (2 ^ k)
  have hml:=Nat.mod_le a (2 ^ k)
  have hdl:=Nat.div_le_self a (2 ^ k)
  rw[e32]at hp
  rw[hk]at hsz
  rw[hf]
  generalize 2 ^ k=q at *
  have w1:IntKind.i64.wrap (a:Int)=a:=by rw[IntKind.wrap_i64];omega
  have w2:IntKind.i64.wrap ((IntKind.i64.wrap (a:Int)).tdiv (q:Int))=((a / q:Nat):Int):=by
   rw[w1,Int.tdiv_eq_ediv_of_nonneg qn,IntKind.wrap_i64]
   have:((a:Int) / (q:Int))=((a / q:Nat):Int):=by simp
   rw[this]
   obtain ⟨d,hd⟩:∃ d:Nat,a / q=d:=⟨_,rfl⟩
   rw[hd]at hdl ⊢
   omega
  have hmul:((a / q:Nat):Int) * (q:Int)=((q * (a / q):Nat):Int):=by rw[Int.natCast_mul,Int.mul_comm]
  conv=>whnf
  refine Ag hr F212 E E E E E ?_
  (refine rg ?_;(conv=>whnf);refine aF ?_;refine rg ?_;conv=>whnf)
  refine Aq hsz F213 E E E qq E ?_
  refine rd qq ?_;conv=>whnf
  refine⟨by omega,?_⟩
  conv=>whnf
  refine Aq hsz F213 E E E qq E ?_
  refine rd qq ?_;conv=>whnf
  refine⟨(by rw[w2,hmul];unfold I64;omega),?_⟩
  conv=>whnf
  refine⟨qq,?_⟩
  conv=>whnf
  refine Ac E (.cons .tmp .nil) ?_ E
  refine congrArg (fun z=>SV.val (.int .u32 z)) ?_
  rw[w2,hmul,IntKind.wrap_u32]
  omega
 ·rw[decide_eq_false hb]at hr
  have hf:Ce a bits=0:=by rw[Ce,if_neg hb]
  rw[hf]
  conv=>whnf
  refine Ag hr F212 E E E E E ?_
  (refine rg ?_;(conv=>whnf);refine aT ?_;refine rg ?_;conv=>whnf)
  exact Ac E (.cons .tmp .nil) E E
end Go.Sy.YteinjapglfkamaaGreat
namespace Go.Sy.YteinjapglfkamaaGreat
open Go.Proofs
attribute [local irreducible] Go.Sy.G Go.Sy.DR
set_option maxRecDepth 20000
set_option maxHeartbeats 8000000
theorem Acz (a:Nat) (bits:Int) (ha:a<4294967296):Sy.Spec Tryz.prog 154 [Ey a bits] [] (Bj (lastI a bits)) []:=Ab Γ hm 100 F154 Tryz.ntmps154 rfl fun F hF=>by
 have hr:=J2 a bits
 have hl:=lastI.eq_1 a bits
 by_cases hb:0≤bits∧bits≤32
 ·have hf:=Ue a bits ha
  have hs:=Acy a bits hb
  have hle:=H9 a bits ⟨by omega,by omega⟩
  have hll:=E1 a bits ⟨by omega,by omega⟩
  rw[decide_eq_true hb]at hr
  rw[if_pos hb]at hl
  obtain ⟨k,hk,hk2⟩:∃ k:Nat,(32-bits).toNat=k∧k≤32:=⟨_,rfl,by omega⟩
  have h1:=Nat.one_le_two_pow (n:=k)
  have hp:2 ^ k≤2 ^ 32:=Nat.pow_le_pow_right qx hk2
  have e32:(2:Nat) ^ 32=4294967296:=rfl
  rw[e32]at hp
  rw[hk]at hs hl
  rw[show (2:Int) ^ k=((2 ^ k:Nat):Int) by rw[Int.natCast_pow];rfl]at hl
  generalize 2 ^ k=q at *
  generalize Ce a bits=f at *
  generalize lastI a bits=l at *
  conv=>whnf
  refine A3 1 2 (Ey a bits) E E E ?_
  refine rg ?_;conv=>whnf
  refine Ag hr F212 E E E E E ?_
  (refine rg ?_;(conv=>whnf);refine aF ?_;refine rg ?_;conv=>whnf)
  refine Aq hf F153 E E E qq E ?_
  refine rd qq ?_;conv=>whnf
  refine Aq hs F213 E E E qq E ?_
  refine rd qq ?_;conv=>whnf
  rw[Hi hle.1 qn]
  refine⟨by unfold I64;omega,?_⟩
  conv=>whnf
  refine⟨by unfold I64;omega,?_⟩
  conv=>whnf
  refine⟨qq,?_⟩
  conv=>whnf
  refine Ac E (.cons .tmp .nil) (congrArg (fun z=>SV.val (.int .u32 z)) ?_) E
  rw[IntKind.wrap_u32]
  omega
 ·rw[if_neg hb]at hl
  rw[hl]
  rw[decide_eq_false hb]at hr
  conv=>whnf
  refine A3 1 2 (Ey a bits) E E E ?_
  refine rg ?_;conv=>whnf
  refine Ag hr F212 E E E E E ?_
  (refine rg ?_;(conv=>whnf);refine aT ?_;refine rg ?_;conv=>whnf)
  exact Ac E (.cons .tmp .nil) E E
theorem Aof (a b x:Int) (hb:0≤b∧b≤32) (ha:0≤a∧a<4294967296) (hx:0≤x∧x<4294967296):Sy.Spec Tryz.prog 275 [Add a b,Bj x] [] (Ad (Vx a b x)) []:=Ab Γ hm 100 F275 Tryz.ntmps275 rfl fun F hF=>by
 have hi:=Kq a b x hb ha hx
 generalize Vx a b x=r at *
 obtain ⟨y,hy⟩:=Int.eq_ofNat_of_zero_le ha.1
 have hr:=J2 a b
 have hf:=Ue y b qn
 have hl:=Acz y b qn
 rw[decide_eq_true hb]at hr
 rw[← hy]at hf hl
 generalize Ce a b=f at *
 generalize lastI a b=l at *
 conv=>whnf
 refine A3 2 2 (Add a b) E E E ?_
 refine rg ?_;conv=>whnf
 refine Ag hr F212 E E E E E ?_
 (refine rg ?_;(conv=>whnf);refine aT ?_;refine rg ?_;conv=>whnf)
 refine Ag hf F153 E E E E E ?_
 refine rg ?_;conv=>whnf
 refine⟨fun h=>?_,fun h=>?_⟩
 ·have h1:f≤x:=of_decide_eq_true h
  refine rg ?_;conv=>whnf
  refine Ag hl F154 E E E E E ?_
  refine rg ?_;conv=>whnf
  refine Ac E (.cons .tmp .nil) (congrArg Ad ?_) E
  cases r
  ·refine(decide_eq_false (fun h2=>?_)).symm
   simpa using hi.2 ⟨h1,h2⟩
  ·exact(decide_eq_true (hi.1 E).2).symm
 ·have h1:¬ f≤x:=of_decide_eq_false h
  refine rg ?_;conv=>whnf
  refine Ac E (.cons .tmp .nil) (congrArg Ad ?_) E
  cases r
  ·rfl
  ·exact absurd (hi.1 E).1 h1
theorem Aje (n:Net) (hn:n.Fin) (i k:Int) (hi:0≤i∧i.toNat<n.vrfs.length) (hk:0≤k∧k.toNat<n.vrfs.length) :
  Sy.Spec Tryz.prog 276 [Al n,Aa i,Aa k] [] (Ad (leaksB n i k)) []:=Ab Γ hm 100 F276 Tryz.ntmps276 rfl fun F hF=>by
 have hp1:=Bg i n.vrfs.length
 have hp2:=Bg k n.vrfs.length
 rw[Cd ⟨hi.1,by omega⟩]at hp1
 rw[Cd ⟨hk.1,by omega⟩]at hp2
 have him:=hn.imports _ (List.getElem_mem hk.2)
 have hex:=hn.exports _ (List.getElem_mem hi.2)
 unfold An at hex
 have hlk:=leaksB.eq_1 n i k
 rw[Ah hi.2,Ah hk.2,S9]at hlk
 generalize leaksB n i k=res at *
 conv=>whnf
 refine A3 3 8 (Al n) E E E ?_
 refine rg ?_;conv=>whnf
 refine Ag hp1 F46 E E E E E ?_
 (refine rg ?_;(conv=>whnf);refine aF ?_;refine rg ?_;conv=>whnf)
 refine Ag hp2 F46 E E E E E ?_
 (refine rg ?_;(conv=>whnf);refine aF ?_;refine rg ?_;conv=>whnf)
 refine⟨fun h=>?_,fun h=>?_⟩
 ·rw[h,Bool.true_or]at hlk
  subst hlk
  refine rg ?_;conv=>whnf
  exact Ac E (.cons .tmp .nil) E E
 rw[h,Bool.false_or]at hlk
 refine rg ?_;conv=>whnf
 refine Ay (n.vrfs[i.toNat]'hi.2).exports.length (fun j=>∀ q (hq:q<(n.vrfs[i.toNat]'hi.2).exports.length),q<j→((n.vrfs[i.toNat]'hi.2).dev == (n.vrfs[k.toNat]'hk.2).dev && inB (n.vrfs[k.toNat]'hk.2).imports (n.vrfs[i.toNat]'hi.2).exports[q])=false) (fun j=>[(1,Aa i),(2,Aa k),(3,.ref 8 (Al n) 0),(7,Aa j)]) (fun _=>[]) [] (fun q _ h=>absurd h qn) ⟨⟨E,E,E,E,E,E,E,E,Y⟩,Y,E,E⟩ ?_
 intro j hj hI
 refine rg ?_;conv=>whnf
 refine⟨E,hi.1,hi.2,?_⟩
 conv=>whnf
 refine⟨fun h=>?_,fun h=>?_⟩
 ·have hlt:j<(n.vrfs[i.toNat]'hi.2).exports.length:=by simpa using h
  have hj0:((j:Nat):Int).toNat<(n.vrfs[i.toNat]'hi.2).exports.length:=by simpa using hlt
  have hin:=Hp (n.vrfs[k.toNat]'hk.2).imports ((n.vrfs[i.toNat]'hi.2).exports[((j:Nat):Int).toNat]'hj0) him
  have hnx:((n.vrfs[i.toNat]'hi.2).dev == (n.vrfs[k.toNat]'hk.2).dev && inB (n.vrfs[k.toNat]'hk.2).imports ((n.vrfs[i.toNat]'hi.2).exports[((j:Nat):Int).toNat]'hj0))=false→∀ q (hq:q<(n.vrfs[i.toNat]'hi.2).exports.length),q<j+1→((n.vrfs[i.toNat]'hi.2).dev == (n.vrfs[k.toNat]'hk.2).dev && inB (n.vrfs[k.toNat]'hk.2).imports (n.vrfs[i.toNat]'hi.2).exports[q])=false:=fun hz q hq hqj=>by
   rcases Nat.lt_or_ge q j with h1 | h1
   ·exact hI q hq h1
   ·have:q=j:=by omega
    subst this;exact hz
  refine rg ?_;conv=>whnf
  refine⟨E,hi.1,hi.2,?_⟩
  conv=>whnf
  refine⟨E,hk.1,hk.2,?_⟩
  conv=>whnf
  refine⟨fun h=>?_,fun h=>?_⟩
  ·have hdv:=h
   rw[h,Bool.true_and]at hlk
   refine rd qq ?_;conv=>whnf
   refine⟨E,hk.1,hk.2,?_⟩
   conv=>whnf
   refine⟨E,hi.1,hi.2,?_⟩
   conv=>whnf
   refine⟨E,by omega,hj0,?_⟩
   conv=>whnf
   refine Aq hin F36 E E E qq E ?_
   refine rd qq ?_;conv=>whnf
   refine⟨qq,?_⟩
   conv=>whnf
   refine⟨fun h=>?_,fun h=>?_⟩
   ·have e:(n.vrfs[i.toNat]'hi.2).exports.any (inB (n.vrfs[k.toNat]'hk.2).imports)=true:=List.any_eq_true.2 ⟨_,List.getElem_mem hlt,h⟩
    rw[e]at hlk
    subst hlk
    refine rg ?_;conv=>whnf
    exact Ac E (.cons .tmp .nil) E E
   ·refine rg ?_;conv=>whnf
    refine⟨by unfold I64;omega,?_⟩
    conv=>whnf
    exact Av [] hI qn (hnx (by rw[hdv,h];rfl)) ⟨⟨E,E,E,E,E,E,E,E,Y⟩,Y,E,E⟩
  ·have hdv:=h
   rw[h,Bool.false_and]at hlk
   refine rd qq ?_;conv=>whnf
   refine⟨qq,?_⟩
   ((conv=>whnf);refine aF ?_;refine rg ?_;conv=>whnf)
   refine⟨by unfold I64;omega,?_⟩
   conv=>whnf
   exact Av [] hI qn (hnx (by rw[hdv];rfl)) ⟨⟨E,E,E,E,E,E,E,E,Y⟩,Y,E,E⟩
 ·have:j=(n.vrfs[i.toNat]'hi.2).exports.length:=by have:=of_decide_eq_false h;omega
  subst this
  have e:((n.vrfs[i.toNat]'hi.2).dev == (n.vrfs[k.toNat]'hk.2).dev && (n.vrfs[i.toNat]'hi.2).exports.any (inB (n.vrfs[k.toNat]'hk.2).imports))=false:=by
   cases hd:(n.vrfs[i.toNat]'hi.2).dev == (n.vrfs[k.toNat]'hk.2).dev
   ·rfl
   ·rw[Bool.true_and,List.any_eq_false]
    intro x hx
    obtain ⟨q,hq,rfl⟩:=List.getElem_of_mem hx
    have:=hI q hq hq
    rw[hd,Bool.true_and]at this
    simp[this]
  rw[e]at hlk
  subst hlk
  refine rg ?_;conv=>whnf
  exact Ac E (.cons .tmp .nil) E E
theorem W3 (n:Net) (hb:Ae n=true) (i:Int) (hi:InIrbs n i):Sy.Spec Tryz.prog 274 [Al n,Aa i] [] (Aa (Dr n i)) []:=Ab Γ hm 100 F274 Tryz.ntmps274 rfl fun F hF=>by
 have hf:=(B4 hb hi.2).1
 rw[Dr,Ah hi.2,Ah hf.2]
 obtain ⟨x,hx⟩:∃ x,n.irbs[i.toNat]'hi.2=x:=⟨_,rfl⟩
 have hf2:(0≤x.domain∧x.domain.toNat<n.domains.length):=by rw[← hx];exact hf
 have e:n.domains[(n.irbs[i.toNat]'hi.2).domain.toNat]'hf.2=n.domains[x.domain.toNat]'hf2.2:=by simp only[hx]
 rw[e]
 obtain ⟨d,hd⟩:∃ d,n.domains[x.domain.toNat]'hf2.2=d:=⟨_,rfl⟩
 rw[hd]
 conv=>whnf
 refine⟨E,hi.1,hi.2,?_⟩
 rw[hx]
 conv=>whnf
 refine⟨E,hf2.1,hf2.2,?_⟩
 rw[hd]
 conv=>whnf
 refine⟨qq,?_⟩
 conv=>whnf
 exact Ac E (.cons .tmp .nil) E E
theorem Afp (n:Net) (irb a b:Int) (hk:InIrbs n irb) (ha:InIrbs n a) (hb:InIrbs n b) :
  Sy.Spec Tryz.prog 277 [Al n,Aa irb,Aa a,Aa b] [] (Ad (decide (0<cmpR n irb a b))) []:=Ab Γ hm 100 F277 Tryz.ntmps277 rfl fun F hF=>by
 have hc:=cmpR.eq_1 n irb a b
 unfold Xf at hc
 rw[Ah hk.2,Ah ha.2,Ah hb.2]at hc
 generalize cmpR n irb a b=r at *
 conv=>whnf
 refine⟨E,ha.1,ha.2,?_⟩
 conv=>whnf
 refine⟨E,hb.1,hb.2,?_⟩
 conv=>whnf
 refine⟨qq,?_⟩
 conv=>whnf
 refine⟨fun h=>?_,fun h=>?_⟩
 ·have h1:(n.irbs[a.toNat]'ha.2).bits≠(n.irbs[b.toNat]'hb.2).bits:=by simpa using h
  rw[if_pos h1]at hc
  subst hc
  refine rg ?_;conv=>whnf
  refine⟨E,ha.1,ha.2,?_⟩
  conv=>whnf
  refine⟨E,hb.1,hb.2,?_⟩
  conv=>whnf
  refine⟨qq,?_⟩
  conv=>whnf
  refine Ac E (.cons .tmp .nil) (congrArg Ad ?_) E
  refine decide_eq_decide.2 ?_
  omega
 ·have h1:¬ (n.irbs[a.toNat]'ha.2).bits≠(n.irbs[b.toNat]'hb.2).bits:=by simpa using h
  rw[if_neg h1]at hc
  refine rg ?_;conv=>whnf
  refine⟨E,ha.1,ha.2,?_⟩
  conv=>whnf
  refine⟨E,hk.1,hk.2,?_⟩
  conv=>whnf
  refine⟨fun h=>?_,fun h=>?_⟩
  ·have h2:(n.irbs[a.toNat]'ha.2).vrf=(n.irbs[irb.toNat]'hk.2).vrf:=by simpa using h
   rw[if_pos h2]at hc
   refine rd qq ?_;conv=>whnf
   refine⟨E,hb.1,hb.2,?_⟩
   conv=>whnf
   refine⟨E,hk.1,hk.2,?_⟩
   conv=>whnf
   refine⟨qq,?_⟩
   conv=>whnf
   refine Ac E (.cons .tmp .nil) (congrArg Ad ?_) E
   subst hc
   split<;>simp_all
  ·have h2:¬ (n.irbs[a.toNat]'ha.2).vrf=(n.irbs[irb.toNat]'hk.2).vrf:=by simpa using h
   rw[if_neg h2]at hc
   refine rd qq ?_;conv=>whnf
   refine⟨qq,?_⟩
   conv=>whnf
   refine Ac E (.cons .tmp .nil) (congrArg Ad ?_) E
   subst hc
   split<;>simp_all
def Dm (c:Int→Int→Int) (l:List Int):Int:=if l=[] then -1 else Ow c l (l.length-1)
theorem Adn (c:Int→Int→Int) (l:List Int) (x:Int) (j:Nat) (h:j+1≤l.length):Ow c (l++[x]) j=Ow c l j:=by
 rw[Ow,Ow,List.drop_append_of_le_length qn,List.take_append_of_le_length (by simp;omega)]
 congr 1
 cases l with
 | nil=>simp at h
 | cons a l=>rfl
theorem Yf (c:Int→Int→Int) (l:List Int) (x:Int) (h:l≠[]):Dm c (l++[x])=if 0<c x (Dm c l) then x else Dm c l:=by
 have hl:0<l.length:=List.length_pos_iff.2 h
 rw[Dm,if_neg qy,Dm,if_neg h]
 have e:(l++[x]).length-1=(l.length-1)+1:=by simp;omega
 rw[e,Uj c (l++[x]) (l.length-1) (by simp;omega),Adn c l x (l.length-1) qn]
 have e2:(l++[x])[l.length-1+1]'(by simp;omega)=x:=by
  have:l.length-1+1=l.length:=by omega
  simp[this]
 rw[e2]
theorem Aab (c:Int→Int→Int) (x:Int):Dm c [x]=x:=by
 rw[Dm,if_neg qy];rfl
theorem Om (c:Int→Int→Int) (l:List Int) (h:l≠[]):Dm c l∈l:=by
 have hl:0<l.length:=List.length_pos_iff.2 h
 rw[Dm,if_neg h]
 exact Mi c l hl _ qn
theorem filtI_in {p:Nat→Bool} {j:Nat} {x:Int} (h:x∈Cw p j):0≤x∧x<j:=by
 have:=filtI_mem.1 h
 omega
theorem Af9 {n:Net} {irb dst:Int} (h:∀ i,i<n.irbs.length→Ej n irb dst i=false) :
  lookT n irb dst=if Ef n irb dst=[] then (0,false) else (Dm (cmpR n irb) (Ef n irb dst),true):=by
 have:¬ (List.range n.irbs.length).any (Ej n irb dst)=true:=fun ha=>by
  obtain ⟨i,hi,ht⟩:=List.any_eq_true.1 ha
  rw[h i (List.mem_range.1 hi)]at ht
  cases ht
 rw[lookT,if_neg this]
 split
 ·rfl
 ·rename_i hw
  rw[Dm,if_neg hw]
set_option maxHeartbeats 16000000 in
theorem Afo (n:Net) (hn:n.Fin) (hb:Ae n=true) (hu:Df n) (irb dst:Int) (hk:InIrbs n irb) (hd:0≤dst∧dst<4294967296) :
  Sy.Spec Tryz.prog 214 [Al n,Aa irb,Bj dst] [] (.tup [Aa (lookT n irb dst).1,Ad (lookT n irb dst).2]) []:=Ab Γ hm 100 F214 Tryz.ntmps214 rfl fun F hF=>by
 have hp:=Bg irb n.irbs.length
 rw[Cd ⟨hk.1,by have:=hk.2;omega⟩]at hp
 have hlk:=Af9 (n:=n) (irb:=irb) (dst:=dst)
 have hlk0:=lookT.eq_1 n irb dst
 have hwl:Ef n irb dst=Cw (H3 n irb dst) n.irbs.length:=rfl
 generalize lookT n irb dst=res at *
 have hsi:=hn.irbs
 unfold An at hsi
 have qk:=W3 n hb irb hk
 have hfk:=(B4 hb hk.2).2.1
 conv=>whnf
 refine A3 3 8 (Al n) E E E ?_
 refine rg ?_;conv=>whnf
 refine Ag hp F46 E E E E E ?_
 (refine rg ?_;(conv=>whnf);refine aF ?_;refine rg ?_;conv=>whnf)
 refine Ay n.irbs.length (fun j=>∀ i,i<j→Ej n irb dst i=false) (fun j=>[(1,Aa irb),(2,Bj dst),(3,.ref 8 (Al n) 0),(8,Aa (Dm (cmpR n irb) (Cw (H3 n irb dst) j))),(9,Aa j)]) (fun _=>[]) [] (fun i hi=>absurd hi qn) ⟨⟨E,E,E,E,E,E,E,E,E,E,Y⟩,Y,E,E⟩ ?_
 intro j hj hI
 refine rg ?_;conv=>whnf
 refine⟨fun h=>?_,fun h=>?_⟩
 ·have hlt:j<n.irbs.length:=by simpa using h
  have hj0:((j:Nat):Int).toNat<n.irbs.length:=by simpa using hlt
  have hij:InIrbs n (j:Int):=⟨by omega,hj0⟩
  have qj:=W3 n hb j hij
  have hsucc:=Jl (H3 n irb dst) j
  have hta:Ej n irb dst j=(Dr n j == Dr n irb && (nth n.irbs j).addr == dst):=rfl
  have hwa:H3 n irb dst j=(Vx (nth n.irbs j).addr (nth n.irbs j).bits dst && Ws n irb j):=rfl
  have hse:Ws n irb j=(Dr n irb == Dr n j && leaksB n (nth n.irbs j).vrf (nth n.irbs irb).vrf):=rfl
  have enj:nth n.irbs (j:Int)=n.irbs[((j:Nat):Int).toNat]'hj0:=Ah (l:=n.irbs) (i:=(j:Int)) hj0
  rw[enj]at hta hwa hse
  rw[Ah hk.2]at hse
  have hfj:=B4 hb hj0
  have hua:=hu _ (List.getElem_mem hj0)
  have q1:=Aof (n.irbs[((j:Nat):Int).toNat]'hj0).addr (n.irbs[((j:Nat):Int).toNat]'hj0).bits dst hfj.2.2 hua hd
  have q2:=Aje n hn (n.irbs[((j:Nat):Int).toNat]'hj0).vrf (n.irbs[irb.toNat]'hk.2).vrf hfj.2.1 hfk
  have hnx:Ej n irb dst j=false→∀ i,i<j+1→Ej n irb dst i=false:=fun hz i hi=>by
   rcases Nat.lt_or_ge i j with h1 | h1
   ·exact hI i h1
   ·have:i=j:=by omega
    subst this;exact hz
  have hbs:=Yf (cmpR n irb) (Cw (H3 n irb dst) j) j
  have hbm:=Om (cmpR n irb) (Cw (H3 n irb dst) j)
  have hbi:=fun x=>@filtI_in (H3 n irb dst) j x
  have hbo:=Aab (cmpR n irb) j
  have hbn:Dm (cmpR n irb) []=-1:=rfl
  generalize Cw (H3 n irb dst) j=u at *
  refine rg ?_;conv=>whnf
  refine Aq qj F274 E E E qq E ?_
  refine rd qq ?_;conv=>whnf
  refine Aq qk F274 E E E qq E ?_
  refine rd qq ?_;conv=>whnf
  refine⟨qq,?_⟩
  conv=>whnf
  refine⟨fun h2=>?_,fun h2=>?_⟩
  ·have h3:Dr n j≠Dr n irb:=by simpa using h2
   have e1:Ej n irb dst j=false:=by rw[hta];simp[h3]
   have e2:H3 n irb dst j=false:=by rw[hwa,hse];simp[Ne.symm h3]
   rw[if_neg (by rw[e2];simp)]at hsucc
   refine rg ?_;conv=>whnf
   refine⟨by unfold I64;omega,?_⟩
   conv=>whnf
   exact Av [] hI qn (hnx e1) ⟨⟨E,E,E,E,E,E,congrArg (fun z=>Aa (Dm (cmpR n irb) z)) hsucc,E,E,E,Y⟩,Y,E,E⟩
  have h3:Dr n j=Dr n irb:=by simpa using h2
  refine rg ?_;conv=>whnf
  refine⟨E,hij.1,hj0,?_⟩
  conv=>whnf
  refine⟨fun h4=>?_,fun h4=>?_⟩
  ·have e1:Ej n irb dst j=true:=by rw[hta,h3,h4];simp
   rw[if_pos (List.any_eq_true.2 ⟨j,List.mem_range.2 hlt,e1⟩)]at hlk0
   subst hlk0
   refine rg ?_;conv=>whnf
   exact Ac E (.cons .tmp (.cons .tmp .nil)) E E
  have e1:Ej n irb dst j=false:=by rw[hta,h4];simp
  obtain ⟨hv,hhv⟩:∃ hv,Vx (n.irbs[((j:Nat):Int).toNat]'hj0).addr (n.irbs[((j:Nat):Int).toNat]'hj0).bits dst=hv:=⟨_,rfl⟩
  obtain ⟨lv,hlv⟩:∃ lv,leaksB n (n.irbs[((j:Nat):Int).toNat]'hj0).vrf (n.irbs[irb.toNat]'hk.2).vrf=lv:=⟨_,rfl⟩
  rw[hhv]at q1 hwa
  rw[hlv]at q2 hse
  cases hv
  ·rw[if_neg (by rw[hwa];simp)]at hsucc
   refine rg ?_;conv=>whnf
   refine⟨E,hij.1,hj0,?_⟩
   conv=>whnf
   refine Aq q1 F275 E E E qq E ?_
   (refine rd qq ?_;(conv=>whnf);refine aT ?_;refine rd qq ?_;conv=>whnf)
   refine⟨qq,?_⟩
   ((conv=>whnf);refine aT ?_;refine rg ?_;conv=>whnf)
   refine⟨by unfold I64;omega,?_⟩
   conv=>whnf
   exact Av [] hI qn (hnx e1) ⟨⟨E,E,E,E,E,E,congrArg (fun z=>Aa (Dm (cmpR n irb) z)) hsucc,E,E,E,Y⟩,Y,E,E⟩
  cases lv
  ·rw[if_neg (by rw[hwa,hse];simp)]at hsucc
   refine rg ?_;conv=>whnf
   refine⟨E,hij.1,hj0,?_⟩
   conv=>whnf
   refine Aq q1 F275 E E E qq E ?_
   (refine rd qq ?_;(conv=>whnf);refine aF ?_;refine rd qq ?_;conv=>whnf)
   refine⟨E,hij.1,hj0,?_⟩
   conv=>whnf
   refine⟨E,hk.1,hk.2,?_⟩
   conv=>whnf
   refine Aq q2 F276 E E E qq E ?_
   refine rd qq ?_;conv=>whnf
   refine⟨qq,?_⟩
   ((conv=>whnf);refine aT ?_;refine rg ?_;conv=>whnf)
   refine⟨by unfold I64;omega,?_⟩
   conv=>whnf
   exact Av [] hI qn (hnx e1) ⟨⟨E,E,E,E,E,E,congrArg (fun z=>Aa (Dm (cmpR n irb) z)) hsucc,E,E,E,Y⟩,Y,E,E⟩
  rw[if_pos (by rw[hwa,hse,h3];simp)]at hsucc
  refine rg ?_;conv=>whnf
  refine⟨E,hij.1,hj0,?_⟩
  conv=>whnf
  refine Aq q1 F275 E E E qq E ?_
  (refine rd qq ?_;(conv=>whnf);refine aF ?_;refine rd qq ?_;conv=>whnf)
  refine⟨E,hij.1,hj0,?_⟩
  conv=>whnf
  refine⟨E,hk.1,hk.2,?_⟩
  conv=>whnf
  refine Aq q2 F276 E E E qq E ?_
  refine rd qq ?_;conv=>whnf
  refine⟨qq,?_⟩
  ((conv=>whnf);refine aF ?_;refine rg ?_;conv=>whnf)
  refine⟨fun h=>?_,fun h=>?_⟩
  ·have hlt0:Dm (cmpR n irb) u<0:=of_decide_eq_true h
   have hne:u=[]:=Classical.byContradiction fun hne=>by have:=hbi _ (hbm hne);omega
   subst hne
   (refine rg ?_;(conv=>whnf);refine aT ?_;refine rg ?_;conv=>whnf)
   refine⟨by unfold I64;omega,?_⟩
   conv=>whnf
   exact Av [] hI qn (hnx e1) ⟨⟨E,E,E,E,E,E,congrArg Aa (by rw[hsucc];exact hbo),E,E,E,Y⟩,Y,E,E⟩
  have hge0:¬ Dm (cmpR n irb) u<0:=of_decide_eq_false h
  have hne:u≠[]:=fun e=>by rw[e]at hge0;exact hge0 (by rw[hbn];omega)
  have hbe:=hbi _ (hbm hne)
  have hbs2:=hbs hne
  rw[← hsucc]at hbs2
  have hbI:InIrbs n (Dm (cmpR n irb) u):=⟨hbe.1,by omega⟩
  have q3:=Afp n irb j (Dm (cmpR n irb) u) hk hij hbI
  generalize Dm (cmpR n irb) u=b at *
  refine rg ?_;conv=>whnf
  refine Ag q3 F277 E E E E E ?_
  by_cases hc:0<cmpR n irb j b
  ·rw[if_pos hc]at hbs2
   rw[decide_eq_true hc]
   (refine rg ?_;(conv=>whnf);refine aT ?_;refine rg ?_;conv=>whnf)
   refine⟨by unfold I64;omega,?_⟩
   conv=>whnf
   exact Av [] hI qn (hnx e1) ⟨⟨E,E,E,E,E,E,congrArg Aa hbs2,E,E,E,Y⟩,Y,E,E⟩
  ·rw[if_neg hc]at hbs2
   rw[decide_eq_false hc]
   (refine rg ?_;(conv=>whnf);refine aF ?_;refine rg ?_;conv=>whnf)
   refine⟨by unfold I64;omega,?_⟩
   conv=>whnf
   exact Av [] hI qn (hnx e1) ⟨⟨E,E,E,E,E,E,congrArg Aa hbs2,E,E,E,Y⟩,Y,E,E⟩
 ·have hje:j=n.irbs.length:=by have:=of_decide_eq_false h;omega
  subst hje
  have hlk2:=hlk (fun i hi=>hI i hi)
  rw[hwl]at hlk2
  have hbm:=Om (cmpR n irb) (Cw (H3 n irb dst) n.irbs.length)
  have hbi:=fun x=>@filtI_in (H3 n irb dst) n.irbs.length x
  have hbn:Dm (cmpR n irb) []=-1:=rfl
  generalize Cw (H3 n irb dst) n.irbs.length=u at *
  by_cases hne:u=[]
  ·rw[if_pos hne]at hlk2
   subst hlk2 hne
   rw[hbn]
   (refine rg ?_;(conv=>whnf);refine aT ?_;refine rg ?_;conv=>whnf)
   exact Ac E (.cons .tmp (.cons .tmp .nil)) E E
  rw[if_neg hne]at hlk2
  have hbe:=hbi _ (hbm hne)
  generalize Dm (cmpR n irb) u=b at *
  subst hlk2
  refine rg ?_;conv=>whnf
  refine⟨fun h=>absurd (of_decide_eq_true h) qn,fun _=>?_⟩
  refine rg ?_;conv=>whnf
  exact Ac E (.cons .tmp (.cons .tmp .nil)) E E
theorem Qx {n:Net} (h:Ae n=true) {i:Nat} (hi:i<n.ports.length):0≤n.ports[i].native∧inB n.ports[i].tagged n.ports[i].native=false:=by
 have:=X4 h hi
 simp only[Eh,Bool.and_eq_true,decide_eq_true_eq,Bool.not_eq_true']at this
 exact⟨this.1.1.1.1.1.1.1.2,this.1.1.1.1.2⟩
theorem Ajh (n:Net) (hn:n.Fin) (hb:Ae n=true) (i v:Int):Sy.Spec Tryz.prog 152 [Al n,Aa i,Aa v] [] (.tup [Aa (crossT n i v).1,Aa (crossT n i v).2.1,Ad (crossT n i v).2.2]) []:=Ab Γ hm 100 F152 Tryz.ntmps152 rfl fun F hF=>by
 have q:=Ajd n hn hb i
 have hth:=Hs (n:=n) (i:=i)
 have hc:=crossT.eq_1 n i v
 unfold To at hc
 generalize crossT n i v=r at *
 obtain ⟨far,hfar⟩:∃ far,Cn n i=far:=⟨_,rfl⟩
 rw[hfar]at q hth hc
 conv=>whnf
 refine A3 3 8 (Al n) E E E ?_
 refine rg ?_;conv=>whnf
 refine Ag q F211 E E E E E ?_
 refine rg ?_;conv=>whnf
 refine⟨fun h=>?_,fun h=>?_⟩
 ·have h1:far<0:=of_decide_eq_true h
  rw[if_neg qn]at hc
  subst hc
  (refine rg ?_;(conv=>whnf);refine aT ?_;refine rg ?_;conv=>whnf)
  exact Ac E (.cons .tmp (.cons .tmp (.cons .tmp .nil))) E E
 have h1:0≤far:=by have:=of_decide_eq_false h;omega
 refine rg ?_;conv=>whnf
 refine⟨fun h=>?_,fun h=>?_⟩
 ·have h2:v=0:=by simpa using h
  rw[if_neg (fun hh=>by have:=hh.2.1;simp[Cp,h2]at this)]at hc
  subst hc
  refine rg ?_;conv=>whnf
  exact Ac E (.cons .tmp (.cons .tmp (.cons .tmp .nil))) E E
 have hv0:v≠0:=by simpa using h
 obtain ⟨⟨hi0,hk⟩,_,hfk⟩:=hth h1
 have e1:nth n.ports i=n.ports[i.toNat]:=Ah hk
 have e2:nth n.ports far=n.ports[far.toNat]:=Ah hfk
 rw[e1,e2]at hc
 have ht1:=hn.tagged _ (List.getElem_mem hk)
 have ht2:=hn.tagged _ (List.getElem_mem hfk)
 have hn1:=Qx hb hk
 have hn2:=Qx hb hfk
 obtain ⟨p,hp⟩:∃ p,n.ports[i.toNat]=p:=⟨_,rfl⟩
 obtain ⟨o,ho⟩:∃ o,n.ports[far.toNat]=o:=⟨_,rfl⟩
 rw[hp]at hc ht1 hn1
 rw[ho]at hc ht2 hn2
 have hi1:=Hp p.tagged v ht1
 have hi2:=Hp o.tagged v ht2
 refine rg ?_;conv=>whnf
 refine⟨E,hi0,hk,?_⟩
 rw[hp]
 conv=>whnf
 refine⟨E,h1,hfk,?_⟩
 rw[ho]
 conv=>whnf
 refine⟨qq,?_⟩
 conv=>whnf
 refine⟨fun h=>?_,fun h=>?_⟩
 ·have h2:p.native=v:=by simpa using h
  rw[if_pos h2.symm]at hc
  refine rg ?_;conv=>whnf
  refine⟨fun h=>?_,fun h=>?_⟩
  ·have h3:0<o.native:=of_decide_eq_true h
   rw[if_pos ⟨h1,by simp[Cp,h2,hv0],by omega⟩]at hc
   subst hc
   refine rg ?_;conv=>whnf
   refine⟨qq,?_⟩
   conv=>whnf
   exact Ac E (.cons .tmp (.cons .tmp (.cons .tmp .nil))) E E
  ·have h3:¬ 0<o.native:=of_decide_eq_false h
   rw[if_neg (fun hh=>hh.2.2 qn)]at hc
   subst hc
   rw[h2]at hn1
   refine rg ?_;conv=>whnf
   refine Ag hi1 F36 E E E E E ?_
   rw[hn1.2]
   (refine rg ?_;(conv=>whnf);refine aF ?_;refine rg ?_;(conv=>whnf);refine aF ?_;refine rg ?_;conv=>whnf)
   exact Ac E (.cons .tmp (.cons .tmp (.cons .tmp .nil))) E E
 have h2:¬ v=p.native:=fun e=>by simp[e]at h
 rw[if_neg h2]at hc
 (refine rg ?_;(conv=>whnf);refine aF ?_;refine rg ?_;conv=>whnf)
 refine Ag hi1 F36 E E E E E ?_
 cases hin:inB p.tagged v
 ·rw[if_neg (fun hh=>by have:=hh.2.1;simp[Cp,h2,hin]at this)]at hc
  subst hc
  (refine rg ?_;(conv=>whnf);refine aF ?_;refine rg ?_;(conv=>whnf);refine aF ?_;refine rg ?_;conv=>whnf)
  exact Ac E (.cons .tmp (.cons .tmp (.cons .tmp .nil))) E E
 (refine rg ?_;(conv=>whnf);refine aT ?_;refine rg ?_;conv=>whnf)
 refine Ag hi2 F36 E E E E E ?_
 cases hin2:inB o.tagged v
 ·rw[hin2,if_neg qy]at hc
  subst hc
  (refine rg ?_;(conv=>whnf);refine aF ?_;refine rg ?_;conv=>whnf)
  exact Ac E (.cons .tmp (.cons .tmp (.cons .tmp .nil))) E E
 rw[hin2,if_pos rfl,if_pos ⟨h1,by simp[Cp,hv0,hin],hv0⟩]at hc
 subst hc
 (refine rg ?_;(conv=>whnf);refine aT ?_;refine rg ?_;conv=>whnf)
 exact Ac E (.cons .tmp (.cons .tmp (.cons .tmp .nil))) E E
theorem W2 (n:Net) (hn:n.Fin) (hb:Ae n=true) (i v:Int):Sy.Spec Tryz.prog 101 [Al n,Aa i,Aa v] [] (.tup [Aa (linkDomT n i v).1,Ad (linkDomT n i v).2]) []:=Ab Γ hm 100 F101 Tryz.ntmps101 rfl fun F hF=>by
 have q:=Ajh n hn hb i v
 have hth:=Lq (n:=n) (i:=i) (v:=v)
 have hc:=linkDomT.eq_1 n i v
 generalize linkDomT n i v=r at *
 generalize crossT n i v=x at *
 obtain ⟨far,to,ok⟩:=x
 conv=>whnf
 refine A3 3 8 (Al n) E E E ?_
 refine rg ?_;conv=>whnf
 refine Ag q F152 E E E E E ?_
 cases ok
 ·rw[if_neg qy]at hc
  subst hc
  (refine rg ?_;(conv=>whnf);refine aT ?_;refine rg ?_;conv=>whnf)
  exact Ac E (.cons .tmp (.cons .tmp .nil)) E E
 rw[if_pos rfl]at hc
 have hf:=hth rfl
 dsimp only at hf hc
 have e2:nth n.ports far=n.ports[far.toNat]:=Ah hf.2
 rw[e2]at hc
 obtain ⟨o,ho⟩:∃ o,n.ports[far.toNat]'hf.2=o:=⟨_,rfl⟩
 rw[ho,B5,if_pos hb]at hc
 have q2:=I9 n o.dev to hn.domains
 subst hc
 (refine rg ?_;(conv=>whnf);refine aF ?_;refine rg ?_;conv=>whnf)
 refine⟨E,hf.1,hf.2,?_⟩
 rw[ho]
 conv=>whnf
 refine Aq q2 F35 E E E qq E ?_
 refine rd qq ?_;conv=>whnf
 refine⟨qq,?_⟩
 conv=>whnf
 exact Ac E (.cons .tmp (.cons .tmp .nil)) E E
theorem Ac0 (n:Net) (hn:n.Fin) (d:Int) (hd:Qi n d):Sy.Spec Tryz.prog 39 [Al n,Aa d] [] (.sl 4 A6 (hopsL n d)) []:=Ab Γ hm 100 F39 Tryz.ntmps39 rfl fun F hF=>by
 have hb:=hd.2
 have hm2:=Mc n hn hb d
 have hms:=C5 n hn d
 unfold An at hms
 have hk:d.toNat<n.domains.length:=by have:=hd.1;omega
 have h0:0≤d:=hd.1.1
 have hpe:=hn.peers _ (List.getElem_mem hk)
 unfold An at hpe
 have hh:=hopsL.eq_1 n d
 have hlh:=linkHop.eq_1 n d
 have hsn:=fun j p h hp=>S4 (n:=n) (d:=d) (l:=Bd n d) (j:=j) (p:=p) h hp
 have hfl:∀ j,((Bd n d).take j |>.filterMap (linkHop n d)).length≤(Bd n d).length:=fun j=>by
  refine Nat.le_trans (List.length_filterMap_le _ _) ?_
  rw[List.length_take];omega
 have hall:(Bd n d).take (Bd n d).length=Bd n d:=List.take_length
 rw[Ah hk]at hh hlh
 obtain ⟨x,hx⟩:∃ x,n.domains[d.toNat]'hk=x:=⟨_,rfl⟩
 rw[hx]at hh hlh hpe
 generalize hopsL n d=res at *
 generalize Bd n d=mem at *
 conv=>whnf
 refine A3 2 8 (Al n) E E E ?_
 refine rg ?_;conv=>whnf
 refine Ag hm2 F37 E E E E E ?_
 refine rg ?_;conv=>whnf
 refine B7 5 1000 4 A6 E E ?_
 refine Aw mem.length (fun j=>[(1,Aa d),(2,.ref 8 (Al n) 0),(5,.osl 1000),(6,.sl 1 Aa mem),(7,Aa j)]) (fun j=>[(1000,.row 4 A6 ((mem.take j).filterMap (linkHop n d)))]) []
  ⟨⟨rfl,rfl,rfl,rfl,rfl,rfl,rfl,rfl,rfl,rfl,trivial⟩,⟨.inl rfl,rfl,trivial⟩,rfl,rfl⟩ ?_
 intro j hj
 have hflj:=hfl j
 refine rg ?_;conv=>whnf
 refine⟨fun h=>?_,fun h=>?_⟩
 ·have hlt:j<mem.length:=by simpa using h
  have hj0:((j:Nat):Int).toNat<mem.length:=by simpa using hlt
  obtain ⟨p,hp'⟩:∃ p,mem[((j:Nat):Int).toNat]'hj0=p:=⟨_,rfl⟩
  have hs:=hsn j p hlt hp'
  have q:=W2 n hn hb p x.vlan
  rw[hlh p]at hs
  generalize linkDomT n p x.vlan=ld at *
  obtain ⟨to,ok⟩:=ld
  refine rg ?_;conv=>whnf
  refine⟨E,by omega,hj0,?_⟩
  rw[hp']
  conv=>whnf
  refine⟨E,h0,hk,?_⟩
  rw[hx]
  conv=>whnf
  refine Aq q F101 E E E qq E ?_
  refine rd qq ?_;conv=>whnf
  refine⟨qq,?_⟩
  conv=>whnf
  dsimp only at hs
  refine⟨fun h=>?_,fun h=>?_⟩<;>(have h:ok=_:=h;subst h)
  ·refine rg ?_;conv=>whnf
   refine⟨E,by omega,hj0,?_⟩
   rw[hp']
   conv=>whnf
   refine Ai (Am Γ.toTy 44 E E E E E (.row E) (.lit (e:=A6) (l:=[⟨1,p,to,0⟩]) E E) qy (by simp;omega) (by simp;omega)) E E ?_
   refine rg ?_;conv=>whnf
   refine⟨by unfold I64;omega,?_⟩
   conv=>whnf
   exact Ar [(1000,44)] hlt ⟨⟨E,E,E,E,E,E,E,E,E,E,Y⟩,⟨.inl (congrArg (Ob.row 4 A6) hs),E,Y⟩,E,E⟩
  ·refine rg ?_;conv=>whnf
   refine⟨by unfold I64;omega,?_⟩
   conv=>whnf
   exact Ar [] hlt ⟨⟨E,E,E,E,E,E,E,E,E,E,Y⟩,⟨.inl (congrArg (Ob.row 4 A6) (hs.trans (List.append_nil _))),E,Y⟩,E,E⟩
 ·have:j=mem.length:=by have:=of_decide_eq_false h;omega
  subst this
  rw[hall]at hflj ⊢
  generalize mem.filterMap (linkHop n d)=first at *
  refine rg ?_;conv=>whnf
  refine Aw x.peers.length (fun j=>[(1,Aa d),(2,.ref 8 (Al n) 0),(5,.osl 1000),(10,Aa j)]) (fun j=>[(1000,.row 4 A6 (first++(x.peers.take j).map E8))]) []
   ⟨⟨rfl,rfl,rfl,rfl,rfl,rfl,rfl,rfl,trivial⟩,⟨.inl (congrArg (Ob.row 4 A6) (List.append_nil _)),rfl,trivial⟩,rfl,rfl⟩ ?_
  intro j hj
  refine rg ?_;conv=>whnf
  refine⟨E,h0,hk,?_⟩
  rw[hx]
  conv=>whnf
  refine⟨fun h=>?_,fun h=>?_⟩
  ·have hlt:j<x.peers.length:=by simpa using h
   have hj0:((j:Nat):Int).toNat<x.peers.length:=by simpa using hlt
   obtain ⟨p,hp'⟩:∃ p,x.peers[((j:Nat):Int).toNat]'hj0=p:=⟨_,rfl⟩
   have hs:(first++(x.peers.take j).map E8)++[⟨2,0,p,0⟩]=first++(x.peers.take (j+1)).map E8:=by
    rw[List.take_add_one,List.getElem?_eq_getElem hlt,List.map_append,List.append_assoc]
    congr 2
    simp only[Option.toList,List.map_cons,List.map_nil,E8]
    congr 2
    exact hp'.symm
   refine rg ?_;conv=>whnf
   refine⟨E,h0,hk,?_⟩
   rw[hx]
   conv=>whnf
   refine⟨E,by omega,hj0,?_⟩
   rw[hp']
   conv=>whnf
   refine Ai (Am Γ.toTy 68 E E E E E (.row E) (.lit (e:=A6) (l:=[⟨2,0,p,0⟩]) E E) qy (by simp;omega) (by simp;omega)) E E ?_
   refine rg ?_;conv=>whnf
   refine⟨by unfold I64;omega,?_⟩
   conv=>whnf
   exact Ar [(1000,68)] hlt ⟨⟨E,E,E,E,E,E,E,E,Y⟩,⟨.inl (congrArg (Ob.row 4 A6) hs.symm),E,Y⟩,E,E⟩
  ·have:j=x.peers.length:=by have:=of_decide_eq_false h;omega
   subst this
   refine rg ?_;conv=>whnf
   refine Au 1000 E ?_
   refine rg ?_;conv=>whnf
   refine Ac E (.cons .tmp .nil) ?_ E
   rw[hh,List.take_length]
   rfl
end Go.Sy.YteinjapglfkamaaGreat
namespace Go.Sy.YteinjapglfkamaaGreat
open Go.Proofs
def Vs (n:Net) (irb a:Int):Int:=(nth n.irbs a).bits * 2+Xf n irb a
theorem Aep (n:Net) (irb a b:Int):0<cmpR n irb a b↔Vs n irb b<Vs n irb a:=by
 have h1:=V6 n irb a
 have h2:=V6 n irb b
 rw[cmpR,Vs,Vs]
 split<;>omega
theorem Aaa (n:Net) (irb:Int) (p:Nat→Bool):∀ j,Cw p j≠[] →
  ∀ y∈Cw p j,Vs n irb y≤Vs n irb (Dm (cmpR n irb) (Cw p j))∧(y<Dm (cmpR n irb) (Cw p j)→Vs n irb y<Vs n irb (Dm (cmpR n irb) (Cw p j)))
 | 0,h=>absurd rfl h
 | j+1,h=>by
  have ih:=Aaa n irb p j
  have hm:=Om (cmpR n irb) (Cw p j)
  have hin:=fun x=>@filtI_in p j x
  have hs:=Yf (cmpR n irb) (Cw p j) j
  have ho:=Aab (cmpR n irb) j
  rw[Jl]at h ⊢
  split
  ·generalize Cw p j=u at *
   by_cases hu:u=[]
   ·subst hu
    intro y hy
    rw[List.nil_append]at hy ⊢
    rw[ho]
    have:y=j:=by simpa using hy
    subst this
    omega
   ·have hs2:=hs hu
    have ih2:=ih hu
    have hmi:=hin _ (hm hu)
    rw[hs2]
    split
    ·rename_i hc
     rw[Aep]at hc
     intro y hy
     rcases List.mem_append.1 hy with h1 | h1
     ·have:=(ih2 y h1).1
      omega
     ·have:y=j:=by simpa using h1
      subst this
      omega
    ·rename_i hc
     rw[Aep]at hc
     intro y hy
     rcases List.mem_append.1 hy with h1 | h1
     ·exact ih2 y h1
     ·have:y=j:=by simpa using h1
      subst this
      omega
  ·rename_i hp
   rw[if_neg hp]at h
   exact ih h
theorem Aml {n:Net} {irb dst:Int} (h:(lookT n irb dst).2=true):Ef n irb dst≠[]∧(lookT n irb dst).1=Dm (cmpR n irb) (Ef n irb dst):=by
 rw[lookT]at h ⊢
 split at h
 ·cases h
 ·rename_i h1
  rw[if_neg h1]
  split at h
  ·cases h
  ·rename_i h2
   rw[if_neg h2]
   exact⟨h2,by rw[Dm,if_neg h2]⟩
theorem Amk {n:Net} {irb dst:Int} (h:(lookT n irb dst).2=false):(∃ i,i<n.irbs.length∧Ej n irb dst i=true)∨Ef n irb dst=[]:=by
 rw[lookT]at h
 split at h
 ·rename_i h1
  obtain ⟨i,hi,ht⟩:=List.any_eq_true.1 h1
  exact .inl ⟨i,List.mem_range.1 hi,ht⟩
 ·split at h
  ·rename_i h2;exact .inr h2
  ·cases h
theorem Og {n:Net} {irb dst:Int} (h:(lookT n irb dst).2=true):(lookT n irb dst).1∈Ef n irb dst∧∀ y∈Ef n irb dst,Vs n irb y≤Vs n irb (lookT n irb dst).1∧(y<(lookT n irb dst).1→Vs n irb y<Vs n irb (lookT n irb dst).1):=by
 obtain ⟨h1,h2⟩:=Aml h
 rw[h2]
 exact⟨Om _ _ h1,Aaa n irb _ _ h1⟩
theorem mem_ways {n:Net} {irb dst i:Int}:i∈Ef n irb dst↔InIrbs n i∧Vx (nth n.irbs i).addr (nth n.irbs i).bits dst=true∧Ws n irb i=true:=by
 rw[Ef,filtI_mem]
 constructor
 ·rintro ⟨h1,h2,h3⟩
  have e:(i.toNat:Int)=i:=by omega
  rw[H3,e,Bool.and_eq_true]at h3
  exact⟨⟨h1,by omega⟩,h3⟩
 ·rintro ⟨⟨h1,h2⟩,h3,h4⟩
  have e:(i.toNat:Int)=i:=by omega
  refine⟨h1,by omega,?_⟩
  rw[H3,e,h3,h4];rfl
theorem takenA_iff {n:Net} {a:Int}:Ec n a=true↔∃ i,∃ h:i<n.irbs.length,n.irbs[i].addr=a:=by
 rw[Ec,S9,List.any_eq_true]
 constructor
 ·rintro ⟨x,hx,hxa⟩
  obtain ⟨i,hi,rfl⟩:=List.getElem_of_mem hx
  exact⟨i,hi,by simpa using hxa⟩
 ·rintro ⟨i,hi,he⟩
  exact⟨_,List.getElem_mem hi,by simpa using he⟩
def Dz (n:Net) (irb to a:Int):Bool:=(lookT n irb a).2 && (lookT n irb a).1 == to && !Ec n a
theorem leadsB_iff {n:Net} {irb to a:Int}:Dz n irb to a=true↔(lookT n irb a).2=true∧(lookT n irb a).1=to∧Ec n a=false:=by
 simp[Dz,and_assoc]
def H2 (n:Net) (to:Int) (j:Nat):List Int:=[Ce (nth n.irbs to).addr (nth n.irbs to).bits]++(n.irbs.take j).flatMap fun x=>[x.addr+1,lastI x.addr x.bits+1]
def Ky (n:Net) (to:Int):List Int:=H2 n to n.irbs.length
theorem Aib {n:Net} {to:Int} {i:Nat} (h:i<n.irbs.length):n.irbs[i].addr+1∈Ky n to∧lastI n.irbs[i].addr n.irbs[i].bits+1∈Ky n to:=by
 rw[Ky,H2,List.take_length]
 constructor
 ·exact List.mem_append_right _ (List.mem_flatMap.2 ⟨_,List.getElem_mem h,by simp⟩)
 ·exact List.mem_append_right _ (List.mem_flatMap.2 ⟨_,List.getElem_mem h,by simp⟩)
theorem Ae3 {n:Net} (hu:Df n) (hb:Ae n=true) {irb to:Int} (hti:InIrbs n to):∀ x,x∈Ky n to→Ce (nth n.irbs to).addr (nth n.irbs to).bits≤x →
  (∀ a,Ce (nth n.irbs to).addr (nth n.irbs to).bits≤a→a<x→Dz n irb to a=false) →
  ((addrGo n irb to (lastI (nth n.irbs to).addr (nth n.irbs to).bits) x).2=true∧(addrGo n irb to (lastI (nth n.irbs to).addr (nth n.irbs to).bits) x).1∈Ky n to ∧
    Dz n irb to (addrGo n irb to (lastI (nth n.irbs to).addr (nth n.irbs to).bits) x).1=true ∧
    ∀ a,Ce (nth n.irbs to).addr (nth n.irbs to).bits≤a→a<(addrGo n irb to (lastI (nth n.irbs to).addr (nth n.irbs to).bits) x).1→Dz n irb to a=false) ∨
   (addrGo n irb to (lastI (nth n.irbs to).addr (nth n.irbs to).bits) x)=(0,false)∧∀ a,Ce (nth n.irbs to).addr (nth n.irbs to).bits≤a→a≤lastI (nth n.irbs to).addr (nth n.irbs to).bits→Dz n irb to a=false:=by
 have hnt:nth n.irbs to=n.irbs[to.toNat]'hti.2:=Ah hti.2
 have hut:=hu _ (List.getElem_mem hti.2)
 have hbt:=(B4 hb hti.2).2.2
 rw[hnt]
 have hf:=H9 _ (n.irbs[to.toNat]'hti.2).bits hut
 have hl:=E1 _ (n.irbs[to.toNat]'hti.2).bits hut
 have hht:∀ a,0≤a∧a<4294967296→(Vx (nth n.irbs to).addr (nth n.irbs to).bits a=true↔Ce (n.irbs[to.toNat]'hti.2).addr (n.irbs[to.toNat]'hti.2).bits≤a∧a≤lastI (n.irbs[to.toNat]'hti.2).addr (n.irbs[to.toNat]'hti.2).bits):=fun a ha=>by
  rw[hnt];exact Kq _ _ _ hbt hut ha
 generalize Ce (n.irbs[to.toNat]'hti.2).addr (n.irbs[to.toNat]'hti.2).bits=f at *
 generalize lastI (n.irbs[to.toNat]'hti.2).addr (n.irbs[to.toNat]'hti.2).bits=e at *
 have hway:∀ a b,f≤a→a≤e→f≤b→b≤e→Dz n irb to a=true→to∈Ef n irb b:=fun a b ha1 ha2 hb1 hb2 h=>by
  obtain ⟨h1,h2,_⟩:=leadsB_iff.1 h
  have h3:=(Og h1).1
  rw[h2]at h3
  have h4:=mem_ways.1 h3
  exact mem_ways.2 ⟨h4.1,(hht b qn).2 ⟨hb1,hb2⟩,h4.2.2⟩
 intro x
 induction x using addrGo.induct n irb to e with
 | case1 x h1 h2 =>
  intro hc hfx hno
  rw[addrGo,if_pos h1,if_pos h2]
  exact .inl ⟨E,hc,leadsB_iff.2 h2,hno⟩
 | case2 x h1 h2 h3 =>
  intro hc hfx hno
  rw[addrGo,if_pos h1,if_neg h2,if_pos h3]
  refine .inr ⟨E,fun a ha1 ha2=>?_⟩
  cases hla:Dz n irb to a
  ·rfl
  have hw:=hway a x ha1 ha2 hfx h1 hla
  rcases Amk h3.1 with ⟨i,hi,ht⟩ | h
  ·rw[Ej,Ah (l:=n.irbs) (i:=(i:Int)) (by simpa using hi),Bool.and_eq_true]at ht
   have:Ec n x=true:=takenA_iff.2 ⟨i,hi,by simpa using ht.2⟩
   rw[h3.2]at this
   cases this
  ·rw[h]at hw
   cases hw
 | case3 x h1 h2 h3 h4 ih =>
  intro hc hfx hno
  rw[addrGo,if_pos h1,if_neg h2,if_neg h3,if_pos h4]
  rw[pastI]at h4 ih ⊢
  cases ht:Ec n x
  ·rw[ht]at h2 h3 h4 ih
   rw[if_neg qy]at h4 ih ⊢
   have hl2:(lookT n irb x).2=true:=by cases h:(lookT n irb x).2 with | true=>rfl | false=>exact absurd ⟨h,rfl⟩ h3
   have hne:(lookT n irb x).1≠to:=fun h=>h2 ⟨hl2,h,rfl⟩
   have hmx:=Og hl2
   have hwl:=mem_ways.1 hmx.1
   have hul:=hu _ (List.getElem_mem hwl.1.2)
   have hbl:=(B4 hb hwl.1.2).2.2
   have hln:nth n.irbs (lookT n irb x).1=n.irbs[(lookT n irb x).1.toNat]'hwl.1.2:=Ah hwl.1.2
   refine ih ?_ qn (fun a ha1 ha2=>?_)
   ·rw[hln];exact(Aib hwl.1.2).2
   ·rcases Int.lt_or_le a x with hax | hax
    ·exact hno a ha1 hax
    cases hla:Dz n irb to a
    ·rfl
    have hlb:=leadsB_iff.1 hla
    have hma:=Og hlb.1
    rw[hlb.2.1]at hma
    have hta:=mem_ways.1 hma.1
    rw[hln]at ha2 hwl
    have hr:=E1 _ (n.irbs[(lookT n irb x).1.toNat]'hwl.1.2).bits hul
    have ha:0≤a∧a<4294967296:=by omega
    have hae:=((hht a ha).1 hta.2.1).2
    have hx:=(Kq _ _ _ hbl hul (by omega:0≤x∧x<4294967296)).1 hwl.2.1
    have hla2:(lookT n irb x).1∈Ef n irb a:=mem_ways.2 ⟨hwl.1,by rw[hln];exact(Kq _ _ _ hbl hul ha).2 ⟨by omega,by omega⟩,hwl.2.2⟩
    have k1:=hmx.2 to (hway a x ha1 hae hfx h1 hla)
    have k2:=hma.2 _ hla2
    exact absurd qn hne
  ·rw[ht]at h4 ih
   rw[if_pos rfl]at h4 ih ⊢
   obtain ⟨i,hi,he⟩:=takenA_iff.1 ht
   refine ih (by rw[← he];exact(Aib hi).1) qn (fun a ha1 ha2=>?_)
   rcases Int.lt_or_le a x with hax | hax
   ·exact hno a ha1 hax
   ·have:a=x:=by omega
    subst this
    simp[Dz,ht]
 | case4 x h1 h2 h3 h4 =>
  intro hc hfx hno
  refine absurd (Adg hu hb (irb:=irb) (a:=x) qn (fun ht=>?_)).1 h4
  cases h:(lookT n irb x).2 with
  | true=>rfl
  | false=>exact absurd ⟨h,ht⟩ h3
 | case5 x h1 =>
  intro hc hfx hno
  rw[addrGo,if_neg h1]
  exact .inr ⟨E,fun a ha1 ha2=>hno a ha1 qn⟩
def V9 (n:Net) (irb to:Int) (b a:Int):Int:=if a<4294967296∧(b<0∨a<b)∧Dz n irb to a=true then a else b
def Dy (n:Net) (irb to:Int) (l:List Int):Int:=l.foldl (V9 n irb to) (-1)
theorem Va (n:Net) (irb to:Int) (l:List Int) (a:Int):Dy n irb to (l++[a])=V9 n irb to (Dy n irb to l) a:=by
 rw[Dy,List.foldl_append];rfl
theorem Ahs {α:Type} {p:List α→Prop} (h0:p []) (h1:∀ l a,p l→p (l++[a])):∀ l,p l:=by
 intro l
 have:∀ k (l:List α),l.length=k→p l:=by
  intro k
  induction k with
  | zero=>intro l h;rw[List.length_eq_zero_iff.1 h];exact h0
  | succ k ih =>
   intro l h
   rcases List.eq_nil_or_concat l with rfl | ⟨l',a,rfl⟩
   ·cases h
   ·rw[List.concat_eq_append]at h ⊢
    exact h1 l' a (ih l' (by simpa using h))
 exact this _ l E
theorem U9 (n:Net) (irb to:Int) (l:List Int):(∀ a∈l,0≤a) →
  (Dy n irb to l=-1∧∀ a∈l,a<4294967296→Dz n irb to a=false) ∨
  ((0≤Dy n irb to l∧Dy n irb to l<4294967296)∧Dz n irb to (Dy n irb to l)=true∧Dy n irb to l∈l∧∀ a∈l,a<4294967296→Dz n irb to a=true→Dy n irb to l≤a):=by
 induction l using Ahs with
 | h0=>intro _;exact .inl ⟨rfl,fun a h=>by cases h⟩
 | h1 l a ih =>
  intro h0
  have ih:=ih (fun x hx=>h0 x (List.mem_append_left _ hx))
  have ha:=h0 a qy
  rw[Va,V9]
  generalize Dy n irb to l=b at *
  rcases ih with ⟨rfl,h⟩ | ⟨h1,h2,h3,h4⟩
  ·split
   ·rename_i hc
    refine .inr ⟨⟨ha,hc.1⟩,hc.2.2,by simp,fun x hx hx2 hx3=>?_⟩
    rcases List.mem_append.1 hx with h5 | h5
    ·rw[h x h5 hx2]at hx3;cases hx3
    ·have:x=a:=by simpa using h5
     omega
   ·rename_i hc
    refine .inl ⟨E,fun x hx hx2=>?_⟩
    rcases List.mem_append.1 hx with h5 | h5
    ·exact h x h5 hx2
    ·have:x=a:=by simpa using h5
     subst this
     cases hl:Dz n irb to x
     ·rfl
     ·exact absurd ⟨hx2,.inl qn,hl⟩ hc
  ·split
   ·rename_i hc
    refine .inr ⟨⟨ha,hc.1⟩,hc.2.2,by simp,fun x hx hx2 hx3=>?_⟩
    rcases List.mem_append.1 hx with h5 | h5
    ·have:=h4 x h5 hx2 hx3
     omega
    ·have:x=a:=by simpa using h5
     omega
   ·rename_i hc
    refine .inr ⟨h1,h2,List.mem_append_left _ h3,fun x hx hx2 hx3=>?_⟩
    rcases List.mem_append.1 hx with h5 | h5
    ·exact h4 x h5 hx2 hx3
    ·have:x=a:=by simpa using h5
     subst this
     rcases Int.lt_or_le x b with h6 | h6
     ·exact absurd ⟨hx2,.inr h6,hx3⟩ hc
     ·exact h6
theorem Mz {n:Net} (hu:Df n) {to:Int} (hti:InIrbs n to):∀ j,∀ a∈H2 n to j,0≤a∧a≤4294967296:=by
 intro j a ha
 rw[H2]at ha
 rcases List.mem_append.1 ha with h | h
 ·have:a=Ce (nth n.irbs to).addr (nth n.irbs to).bits:=by simpa using h
  rw[this,Ah hti.2]
  have:=H9 _ (n.irbs[to.toNat]'hti.2).bits (hu _ (List.getElem_mem hti.2))
  omega
 ·obtain ⟨x,hx,h⟩:=List.mem_flatMap.1 h
  have hx2:=hu x (List.mem_of_mem_take hx)
  have hl:=E1 _ x.bits hx2
  have:a=x.addr+1∨a=lastI x.addr x.bits+1:=by simpa using h
  omega
theorem Aku {n:Net} (hu:Df n) (hb:Ae n=true) {irb to:Int} (hk:InIrbs n irb) (hti:InIrbs n to) :
  addrT n irb to=if Dy n irb to (Ky n to)<0 then (0,false) else (Dy n irb to (Ky n to),true):=by
 have hnt:nth n.irbs to=n.irbs[to.toNat]'hti.2:=Ah hti.2
 have hut:=hu _ (List.getElem_mem hti.2)
 have hbt:=(B4 hb hti.2).2.2
 have hl:=E1 _ (n.irbs[to.toNat]'hti.2).bits hut
 have hin:∀ a,0≤a∧a<4294967296→Dz n irb to a=true→Ce (nth n.irbs to).addr (nth n.irbs to).bits≤a∧a≤lastI (nth n.irbs to).addr (nth n.irbs to).bits:=fun a ha h=>by
  obtain ⟨h1,h2,_⟩:=leadsB_iff.1 h
  have h3:=(Og h1).1
  rw[h2]at h3
  have h4:=(mem_ways.1 h3).2.1
  rw[hnt]at h4 ⊢
  exact(Kq _ _ _ hbt hut ha).1 h4
 have hsp:=Ae3 hu hb (irb:=irb) hti _ (show Ce (nth n.irbs to).addr (nth n.irbs to).bits∈Ky n to by rw[Ky,H2];simp) (Int.le_refl _) (fun a h1 h2=>by omega)
 have hls:=U9 n irb to (Ky n to) (fun a ha=>(Mz hu hti _ a ha).1)
 have hcn:=Mz hu hti n.irbs.length
 have hf0:=H9 _ (n.irbs[to.toNat]'hti.2).bits hut
 rw[← hnt]at hf0
 rw[addrT,if_pos ⟨⟨hk.1,by have:=hk.2;omega⟩,⟨hti.1,by have:=hti.2;omega⟩,hb⟩]
 rw[← hnt]at hl
 have hgo:=(Aae (n:=n) (irb:=irb) (to:=to) hl.2 hf0.1).2
 generalize Ce (nth n.irbs to).addr (nth n.irbs to).bits=f at *
 generalize lastI (nth n.irbs to).addr (nth n.irbs to).bits=e at *
 generalize addrGo n irb to e f=r at *
 change ∀ a∈Ky n to,0≤a∧a≤4294967296 at hcn
 generalize Ky n to=l at *
 generalize Dy n irb to l=b at *
 rcases hsp with ⟨h1,h2,h3,h4⟩ | ⟨rfl,h1⟩
 ·have hr:=hcn _ h2
  have hr2:=hgo
  rcases hls with ⟨_,h5⟩ | ⟨h5,h6,h7,h8⟩
  ·rw[h5 _ h2 hr2]at h3;cases h3
  ·rw[if_neg qn]
   have h9:=h8 _ h2 hr2 h3
   have h10:=hin b h5 h6
   have:r.1=b:=by
    rcases Int.lt_or_le b r.1 with h | h
    ·rw[h4 b h10.1 h]at h6;cases h6
    ·omega
   rw[← this,← h1]
 ·rcases hls with ⟨h5,_⟩ | ⟨h5,h6,_,_⟩
  ·rw[if_pos qn]
  ·have h10:=hin b h5 h6
   rw[h1 b h10.1 h10.2]at h6;cases h6
end Go.Sy.YteinjapglfkamaaGreat
namespace Go.Sy.YteinjapglfkamaaGreat
open Go.Proofs
attribute [local irreducible] Go.Sy.G Go.Sy.DR
set_option maxRecDepth 20000
set_option maxHeartbeats 8000000
theorem Ajc (n:Net) (hn:n.Fin) (a:Int):Sy.Spec Tryz.prog 215 [Al n,Bj a] [] (Ad (Ec n a)) []:=Ab Γ hm 100 F215 Tryz.ntmps215 rfl fun F hF=>by
 have hsi:=hn.irbs
 unfold An at hsi
 have hlk:=@takenA_iff n a
 generalize Ec n a=res at *
 conv=>whnf
 refine A3 2 8 (Al n) E E E ?_
 refine rg ?_;conv=>whnf
 refine Ay n.irbs.length (fun j=>∀ i (h:i<n.irbs.length),i<j→n.irbs[i].addr≠a) (fun j=>[(1,Bj a),(2,.ref 8 (Al n) 0),(5,Aa j)]) (fun _=>[]) [] (fun i h hi=>absurd hi qn) ⟨⟨E,E,E,E,E,E,Y⟩,Y,E,E⟩ ?_
 intro j hj hI
 refine rg ?_;conv=>whnf
 refine⟨fun h=>?_,fun h=>?_⟩
 ·have hlt:j<n.irbs.length:=by simpa using h
  have hj0:((j:Nat):Int).toNat<n.irbs.length:=by simpa using hlt
  refine rg ?_;conv=>whnf
  refine⟨E,by omega,hj0,?_⟩
  conv=>whnf
  refine⟨fun h2=>?_,fun h2=>?_⟩
  ·have h3:(n.irbs[((j:Nat):Int).toNat]'hj0).addr=a:=by simpa using h2
   rw[show res=true from hlk.2 ⟨j,hlt,h3⟩]
   refine rg ?_;conv=>whnf
   exact Ac E (.cons .tmp .nil) E E
  ·have h3:(n.irbs[((j:Nat):Int).toNat]'hj0).addr≠a:=by simpa using h2
   refine rg ?_;conv=>whnf
   refine⟨by unfold I64;omega,?_⟩
   conv=>whnf
   refine Av [] hI qn (fun i h hi=>?_) ⟨⟨E,E,E,E,E,E,Y⟩,Y,E,E⟩
   rcases Nat.lt_or_ge i j with h1 | h1
   ·exact hI i h h1
   ·have:i=j:=by omega
    subst this;exact h3
 ·have hje:j=n.irbs.length:=by have:=of_decide_eq_false h;omega
  subst hje
  cases res
  ·refine rg ?_;conv=>whnf
   exact Ac E (.cons .tmp .nil) E E
  ·obtain ⟨i,hi,he⟩:=hlk.1 rfl
   exact absurd he (hI i hi hi)
theorem Ajf (n:Net) (hn:n.Fin) (hb:Ae n=true) (hu:Df n) (irb to a:Int) (hk:InIrbs n irb) (ha:0≤a∧a<4294967296) :
  Sy.Spec Tryz.prog 155 [Al n,Aa irb,Aa to,Bj a] [] (Ad (Dz n irb to a)) []:=Ab Γ hm 100 F155 Tryz.ntmps155 rfl fun F hF=>by
 have q1:=Afo n hn hb hu irb a hk ha
 have q2:=Ajc n hn a
 rw[Dz]
 generalize lookT n irb a=r at *
 generalize Ec n a=tk at *
 obtain ⟨led,ok⟩:=r
 conv=>whnf
 refine A3 4 8 (Al n) E E E ?_
 refine rg ?_;conv=>whnf
 refine Ag q1 F214 E E E E E ?_
 cases ok
 ·(refine rg ?_;(conv=>whnf);refine aF ?_;refine rg ?_;(conv=>whnf);refine aF ?_;refine rg ?_;conv=>whnf)
  exact Ac E (.cons .tmp .nil) E E
 (refine rg ?_;(conv=>whnf);refine aT ?_;refine rg ?_;conv=>whnf)
 refine⟨fun h=>?_,fun h=>?_⟩
 ·dsimp only at h ⊢
  rw[show (led == to)=true from h]
  refine rg ?_;conv=>whnf
  refine Ag q2 F215 E E E E E ?_
  cases tk
  ·refine rg ?_;conv=>whnf
   exact Ac E (.cons .tmp .nil) E E
  ·refine rg ?_;conv=>whnf
   exact Ac E (.cons .tmp .nil) E E
 ·dsimp only at h ⊢
  rw[show (led == to)=false from h]
  refine rg ?_;conv=>whnf
  exact Ac E (.cons .tmp .nil) E E
theorem Ag4 {n:Net} {to:Int} {j:Nat} (h:j<n.irbs.length):H2 n to (j+1)=H2 n to j++[n.irbs[j].addr+1,lastI n.irbs[j].addr n.irbs[j].bits+1]:=by
 rw[H2,H2,List.take_add_one,List.getElem?_eq_getElem h,List.flatMap_append,List.append_assoc]
 congr 1
theorem Tt (n:Net) (to:Int):∀ j,j≤n.irbs.length→(H2 n to j).length=1+2 * j
 | 0,_=>rfl
 | j+1,h=>by
  rw[Ag4 qn,List.length_append,Tt n to j qn]
  show 1+2 * j+2=_
  omega
theorem Ac1 (n:Net) (hn:n.Fin) (hb:Ae n=true) (hu:Df n) (irb to:Int) (hk:InIrbs n irb) (hti:InIrbs n to) :
  Sy.Spec Tryz.prog 102 [Al n,Aa irb,Aa to] [] (.tup [Bj (addrT n irb to).1,Ad (addrT n irb to).2]) []:=Ab Γ hm 100 F102 Tryz.ntmps102 rfl fun F hF=>by
 have hsame:=Aku hu hb hk hti
 generalize addrT n irb to=res at *
 have hp1:=Bg irb n.irbs.length
 have hp2:=Bg to n.irbs.length
 rw[Cd ⟨hk.1,by have:=hk.2;omega⟩]at hp1
 rw[Cd ⟨hti.1,by have:=hti.2;omega⟩]at hp2
 have hsi:=hn.irbs
 unfold An at hsi
 have hut:=hu _ (List.getElem_mem hti.2)
 have hcn:=Mz hu hti
 have hc0:H2 n to 0=[Ce (n.irbs[to.toNat]'hti.2).addr (n.irbs[to.toNat]'hti.2).bits]:=by rw[H2,Ah hti.2];rfl
 have hcs:=fun j=>@Ag4 n to j
 have hcl:=Tt n to
 have hce:Ky n to=H2 n to n.irbs.length:=rfl
 obtain ⟨x,hx⟩:∃ x,n.irbs[to.toNat]'hti.2=x:=⟨_,rfl⟩
 rw[hx]at hut hc0
 obtain ⟨y,hy⟩:=Int.eq_ofNat_of_zero_le hut.1
 have q1:=Ue y x.bits qn
 rw[← hy]at q1
 have hf:=H9 x.addr x.bits hut
 conv=>whnf
 refine A3 3 8 (Al n) E E E ?_
 refine rg ?_;conv=>whnf
 refine Ag hp1 F46 E E E E E ?_
 (refine rg ?_;(conv=>whnf);refine aF ?_;refine rg ?_;conv=>whnf)
 refine Ag hp2 F46 E E E E E ?_
 (refine rg ?_;(conv=>whnf);refine aF ?_;refine rg ?_;conv=>whnf)
 refine⟨E,hti.1,hti.2,?_⟩
 rw[hx]
 conv=>whnf
 refine Ag q1 F153 E E E E E ?_
 generalize Ce x.addr x.bits=f at *
 rw[← Hi hf.1 (by omega:f<4294967297)]at hc0
 refine rg ?_;conv=>whnf
 refine Iq 35 Aa (H2 n to 0) E (by rw[hc0];rfl) ?_
 refine Aw n.irbs.length (fun j=>[(1,Aa irb),(2,Aa to),(3,.ref 8 (Al n) 0),(8,Aa (-1)),(9,.osl 1000),(10,Aa j)]) (fun j=>[(1000,.row 1 Aa (H2 n to j))]) [(1000,35)]
  ⟨⟨rfl,rfl,rfl,rfl,rfl,rfl,rfl,rfl,rfl,rfl,rfl,rfl,trivial⟩,⟨.inl rfl,rfl,trivial⟩,rfl,rfl⟩ ?_
 intro j hj
 have hclj:=hcl j hj
 refine rg ?_;conv=>whnf
 refine⟨fun h=>?_,fun h=>?_⟩
 ·have hlt:j<n.irbs.length:=by simpa using h
  have hj0:((j:Nat):Int).toNat<n.irbs.length:=by simpa using hlt
  have huj:=hu _ (List.getElem_mem hj0)
  obtain ⟨z,hz⟩:=Int.eq_ofNat_of_zero_le huj.1
  have q2:=Acz z (n.irbs[((j:Nat):Int).toNat]'hj0).bits qn
  rw[← hz]at q2
  have hl:=E1 (n.irbs[((j:Nat):Int).toNat]'hj0).addr (n.irbs[((j:Nat):Int).toNat]'hj0).bits huj
  have w1:=Hi huj.1 (by omega:(n.irbs[((j:Nat):Int).toNat]'hj0).addr<4294967297)
  have w2:=Hi hl.1 (by omega:lastI (n.irbs[((j:Nat):Int).toNat]'hj0).addr (n.irbs[((j:Nat):Int).toNat]'hj0).bits<4294967297)
  have hs:H2 n to (j+1)=H2 n to j++[IntKind.i64.wrap (n.irbs[((j:Nat):Int).toNat]'hj0).addr+1,IntKind.i64.wrap (lastI (n.irbs[((j:Nat):Int).toNat]'hj0).addr (n.irbs[((j:Nat):Int).toNat]'hj0).bits)+1]:=by
   rw[w1,w2];exact hcs j hlt
  refine rg ?_;conv=>whnf
  refine⟨E,by omega,hj0,?_⟩
  conv=>whnf
  refine⟨by unfold I64;omega,?_⟩
  conv=>whnf
  refine⟨E,by omega,hj0,?_⟩
  conv=>whnf
  refine Aq q2 F154 E E E qq E ?_
  refine rd qq ?_;conv=>whnf
  refine⟨by unfold I64;omega,?_⟩
  conv=>whnf
  refine Bn (Am Γ.toTy 63 E E E E E (.row E) (.lit (e:=Aa) (l:=[IntKind.i64.wrap (n.irbs[((j:Nat):Int).toNat]'hj0).addr+1,IntKind.i64.wrap (lastI (n.irbs[((j:Nat):Int).toNat]'hj0).addr (n.irbs[((j:Nat):Int).toNat]'hj0).bits)+1]) E E) qy (by simp;omega) (by simp;omega)) qq E ?_
  refine rd qq ?_;conv=>whnf
  refine⟨qq,?_⟩
  conv=>whnf
  refine⟨by unfold I64;omega,?_⟩
  conv=>whnf
  exact Ar [(1000,63)] hlt ⟨⟨E,E,E,E,E,E,E,E,E,E,E,E,Y⟩,⟨.inl (congrArg (Ob.row 1 Aa) hs),E,Y⟩,E,E⟩
 ·have hje:j=n.irbs.length:=by have:=of_decide_eq_false h;omega
  subst hje
  have hcl2:=hcl n.irbs.length (Nat.le_refl _)
  have hcn2:=hcn n.irbs.length
  have hls:=fun l a=>Va n irb to l a
  have hl0:Dy n irb to []=-1:=rfl
  have hsp:=fun l=>U9 n irb to l
  rw[hce]at hsame
  generalize H2 n to n.irbs.length=l at *
  refine rg ?_;conv=>whnf
  refine Au 1000 E ?_
  refine Aw l.length (fun j=>[(1,Aa irb),(2,Aa to),(3,.ref 8 (Al n) 0),(8,Aa (Dy n irb to (l.take j))),(9,.sl 1 Aa l),(11,Aa j)]) (fun _=>[]) [] ⟨⟨E,E,E,E,E,E,E,E,E,E,E,E,Y⟩,Y,E,E⟩ ?_
  intro j hj
  refine rg ?_;conv=>whnf
  refine⟨fun h=>?_,fun h=>?_⟩
  ·have hlt:j<l.length:=by simpa using h
   have hj0:((j:Nat):Int).toNat<l.length:=by simpa using hlt
   obtain ⟨a,ha⟩:∃ a,l[((j:Nat):Int).toNat]'hj0=a:=⟨_,rfl⟩
   have ha':l[j]=a:=ha
   have hta:l.take (j+1)=l.take j++[a]:=by rw[List.take_succ_eq_append_getElem hlt,ha']
   have hmem:a∈l:=by rw[← ha'];exact List.getElem_mem hlt
   have han:=hcn2 a hmem
   have hsj:=hls (l.take j) a
   rw[← hta,V9]at hsj
   have hbj:=hsp (l.take j) (fun x hx=>(hcn2 x (List.mem_of_mem_take hx)).1)
   have hbr:Dy n irb to (l.take j)<4294967296:=by
    rcases hbj with h | h
    ·omega
    ·exact h.1.2
   clear hbj
   generalize Dy n irb to (l.take j)=b at *
   refine rg ?_;conv=>whnf
   refine⟨E,by omega,hj0,?_⟩
   rw[ha]
   conv=>whnf
   refine⟨fun h1=>?_,fun h1=>?_⟩
   rotate_left
   ·have h1:¬ a<4294967296:=of_decide_eq_false h1
    rw[if_neg (fun hh=>h1 hh.1)]at hsj
    (refine rg ?_;(conv=>whnf);refine aF ?_;refine rg ?_;(conv=>whnf);refine aF ?_;refine rg ?_;conv=>whnf)
    refine⟨by unfold I64;omega,?_⟩
    conv=>whnf
    exact Ar [] hlt ⟨⟨E,E,E,E,E,E,congrArg Aa hsj,E,E,E,E,E,Y⟩,Y,E,E⟩
   have h1:a<4294967296:=of_decide_eq_true h1
   have q3:=Ajf n hn hb hu irb to a hk ⟨han.1,h1⟩
   have hw:=T6 han.1 h1
   generalize Dz n irb to a=lv at *
   refine rg ?_;conv=>whnf
   refine⟨fun h2=>?_,fun h2=>?_⟩
   ·have h2:b<0:=of_decide_eq_true h2
    (refine rg ?_;(conv=>whnf);refine aT ?_;refine rg ?_;conv=>whnf)
    rw[hw]
    refine Ag q3 F155 E E E E E ?_
    cases lv
    ·rw[if_neg qy]at hsj
     (refine rg ?_;(conv=>whnf);refine aF ?_;refine rg ?_;conv=>whnf)
     refine⟨by unfold I64;omega,?_⟩
     conv=>whnf
     exact Ar [] hlt ⟨⟨E,E,E,E,E,E,congrArg Aa hsj,E,E,E,E,E,Y⟩,Y,E,E⟩
    ·rw[if_pos ⟨h1,.inl h2,rfl⟩]at hsj
     (refine rg ?_;(conv=>whnf);refine aT ?_;refine rg ?_;conv=>whnf)
     refine⟨by unfold I64;omega,?_⟩
     conv=>whnf
     exact Ar [] hlt ⟨⟨E,E,E,E,E,E,congrArg Aa hsj,E,E,E,E,E,Y⟩,Y,E,E⟩
   ·have h2:¬ b<0:=of_decide_eq_false h2
    refine rg ?_;conv=>whnf
    refine⟨fun h3=>?_,fun h3=>?_⟩
    ·have h3:a<b:=of_decide_eq_true h3
     refine rg ?_;conv=>whnf
     rw[hw]
     refine Ag q3 F155 E E E E E ?_
     cases lv
     ·rw[if_neg qy]at hsj
      (refine rg ?_;(conv=>whnf);refine aF ?_;refine rg ?_;conv=>whnf)
      refine⟨by unfold I64;omega,?_⟩
      conv=>whnf
      exact Ar [] hlt ⟨⟨E,E,E,E,E,E,congrArg Aa hsj,E,E,E,E,E,Y⟩,Y,E,E⟩
     ·rw[if_pos ⟨h1,.inr h3,rfl⟩]at hsj
      (refine rg ?_;(conv=>whnf);refine aT ?_;refine rg ?_;conv=>whnf)
      refine⟨by unfold I64;omega,?_⟩
      conv=>whnf
      exact Ar [] hlt ⟨⟨E,E,E,E,E,E,congrArg Aa hsj,E,E,E,E,E,Y⟩,Y,E,E⟩
    ·have h3:¬ a<b:=of_decide_eq_false h3
     rw[if_neg (fun hh=>by have:=hh.2.1;omega)]at hsj
     (refine rg ?_;(conv=>whnf);refine aF ?_;refine rg ?_;conv=>whnf)
     refine⟨by unfold I64;omega,?_⟩
     conv=>whnf
     exact Ar [] hlt ⟨⟨E,E,E,E,E,E,congrArg Aa hsj,E,E,E,E,E,Y⟩,Y,E,E⟩
  ·have hje:j=l.length:=by have:=of_decide_eq_false h;omega
   subst hje
   rw[List.take_length]
   have hbj:=hsp l (fun x hx=>(hcn2 x hx).1)
   have hbr:Dy n irb to l<4294967296:=by
    rcases hbj with h | h
    ·omega
    ·exact h.1.2
   clear hbj
   generalize Dy n irb to l=b at *
   refine rg ?_;conv=>whnf
   refine⟨fun h2=>?_,fun h2=>?_⟩
   ·have h2:b<0:=of_decide_eq_true h2
    rw[if_pos h2]at hsame
    subst hsame
    refine rg ?_;conv=>whnf
    exact Ac E (.cons .tmp (.cons .tmp .nil)) E E
   ·have h2:¬ b<0:=of_decide_eq_false h2
    rw[if_neg h2]at hsame
    subst hsame
    refine rg ?_;conv=>whnf
    refine Ac E (.cons .tmp (.cons .tmp .nil)) ?_ E
    show SV.tup [.val (.int .u32 b),_]=SV.tup [.val (.int .u32 _),_]
    rw[T6 qn hbr]
    rfl
theorem Z4 {n:Net} (h:Ae n=true) {i:Nat} (hi:i<n.domains.length):n.domains[i].irb=-1∨InIrbs n n.domains[i].irb:=by
 have:=Apq h hi
 simp only[Hy,Aj,Bool.and_eq_true,Bool.or_eq_true,beq_iff_eq,decide_eq_true_eq]at this
 rcases this.1.2 with h1 | h1
 ·exact .inl h1
 ·exact .inr ⟨h1.1.1,by omega⟩
theorem W1 (n:Net) (hn:n.Fin) (hb:Ae n=true) (hu:Df n) (d:Int) (hd:0≤d∧d<n.domains.length):Sy.Spec Tryz.prog 40 [Al n,Aa d] [] (.sl 3 C9 (routesT n d)) []:=Ab Γ hm 100 F40 Tryz.ntmps40 rfl fun F hF=>by
 have hlk:=routesT.eq_1 n d
 generalize routesT n d=res at *
 have hsi:=hn.irbs
 unfold An at hsi
 have hp:=Bg d n.domains.length
 rw[Cd hd]at hp
 have hk:d.toNat<n.domains.length:=by omega
 have hdi:=Z4 hb hk
 rw[Ah hk]at hlk
 obtain ⟨x,hx⟩:∃ x,n.domains[d.toNat]'hk=x:=⟨_,rfl⟩
 rw[hx]at hlk hdi
 conv=>whnf
 refine A3 2 8 (Al n) E E E ?_
 refine rg ?_;conv=>whnf
 refine Ag hp F46 E E E E E ?_
 (refine rg ?_;(conv=>whnf);refine aF ?_;refine rg ?_;conv=>whnf)
 refine⟨E,hd.1,hk,?_⟩
 rw[hx]
 conv=>whnf
 refine⟨fun h=>?_,fun h=>?_⟩
 ·have h1:x.irb=-1:=by simpa using h
  rw[if_neg qn]at hlk
  subst hlk
  refine rg ?_;conv=>whnf
  refine Ap 4 3 C9 E ?_
  refine rg ?_;conv=>whnf
  exact Ac E (.cons .tmp .nil) E E
 have h1:x.irb≠-1:=by simpa using h
 have hir:InIrbs n x.irb:=hdi.resolve_left h1
 rw[if_pos ⟨hd,hir.1,hb⟩]at hlk
 subst hlk
 refine rg ?_;conv=>whnf
 refine B7 5 1000 3 C9 E E ?_
 refine Aw n.irbs.length (fun j=>[(1,Aa d),(2,.ref 8 (Al n) 0),(5,.osl 1000),(6,Aa j)]) (fun j=>[(1000,.row 3 C9 (J7 n x.irb j))]) []
  ⟨⟨rfl,rfl,rfl,rfl,rfl,rfl,rfl,rfl,trivial⟩,⟨.inl rfl,rfl,trivial⟩,rfl,rfl⟩ ?_
 intro j hj
 have hll:=J6 n x.irb j
 refine rg ?_;conv=>whnf
 refine⟨fun h=>?_,fun h=>?_⟩
 ·have hlt:j<n.irbs.length:=by simpa using h
  have hj0:((j:Nat):Int).toNat<n.irbs.length:=by simpa using hlt
  have hs:=Vb n x.irb j
  have hlf:leadF n x.irb j=if (addrT n x.irb j).2=true then some ⟨j,(nth n.irbs j).domain,(addrT n x.irb j).1⟩ else none:=rfl
  have q:=Ac1 n hn hb hu x.irb j hir ⟨by omega,hj0⟩
  rw[Ah (l:=n.irbs) (i:=(j:Int)) hj0]at hlf
  rw[hlf]at hs
  generalize J7 n x.irb j=u at *
  generalize addrT n x.irb j=r at *
  obtain ⟨a,ok⟩:=r
  dsimp only at hs
  refine rg ?_;conv=>whnf
  refine⟨E,hd.1,hk,?_⟩
  rw[hx]
  conv=>whnf
  refine Aq q F102 E E E qq E ?_
  refine rd qq ?_;conv=>whnf
  refine⟨qq,?_⟩
  conv=>whnf
  refine⟨fun h=>?_,fun h=>?_⟩<;>(have h:ok=_:=h;subst h)
  ·rw[if_pos rfl]at hs
   refine rg ?_;conv=>whnf
   refine⟨E,by omega,hj0,?_⟩
   conv=>whnf
   refine Ai (Am Γ.toTy 55 E E E E E (.row E) (.lit (e:=C9) (l:=[⟨j,(n.irbs[((j:Nat):Int).toNat]'hj0).domain,a⟩]) E E) qy (by simp;omega) (by simp;omega)) E E ?_
   refine rg ?_;conv=>whnf
   refine⟨by unfold I64;omega,?_⟩
   conv=>whnf
   exact Ar [(1000,55)] hlt ⟨⟨E,E,E,E,E,E,E,E,Y⟩,⟨.inl (congrArg (Ob.row 3 C9) hs),E,Y⟩,E,E⟩
  ·rw[if_neg qy]at hs
   refine rg ?_;conv=>whnf
   refine⟨by unfold I64;omega,?_⟩
   conv=>whnf
   exact Ar [] hlt ⟨⟨E,E,E,E,E,E,E,E,Y⟩,⟨.inl (congrArg (Ob.row 3 C9) (hs.trans (List.append_nil _))),E,Y⟩,E,E⟩
 ·have hje:j=n.irbs.length:=by have:=of_decide_eq_false h;omega
  subst hje
  refine rg ?_;conv=>whnf
  refine Au 1000 E ?_
  refine rg ?_;conv=>whnf
  exact Ac E (.cons .tmp .nil) E E
end Go.Sy.YteinjapglfkamaaGreat
namespace Go.Sy.YteinjapglfkamaaGreat
theorem Agp {α:Type} {l:List α} {i:Nat} {d:α} (h:i<l.length):l.getD i d=l[i]:=by simp[List.getD,h]
theorem Ad9 {n:Nat} (h:n≤65535):H1 n=n:=by
 unfold H1
 split<;>omega
theorem Agr {n:Nat} (h:65535<n):H1 (n / 65536+n % 65536)=H1 n∧n / 65536+n % 65536<n:=by
 unfold H1
 rw[if_neg qn,if_neg qn]
 omega
theorem Am8 (n:Nat):H1 n≤65535:=by
 unfold H1
 split<;>omega
def Q3 (l:List UInt8):Nat→Nat
 | 0=>0
 | j+1=>Q3 l j+((l.getD (2 * j) 0).toNat * 256+(l.getD (2 * j+1) 0).toNat)
theorem Ahh (l:List UInt8):∀ j,Q3 l j≤65535 * j
 | 0=>Nat.le_refl _
 | j+1=>by
  have ih:=Ahh l j
  have h1:=(l.getD (2 * j) 0).toNat_lt
  have h2:=(l.getD (2 * j+1) 0).toNat_lt
  rw[Q3]
  omega
def Ahj (l:List UInt8):Nat:=65535-H1 (Q3 l (l.length / 2))
end Go.Sy.YteinjapglfkamaaGreat
namespace Go.Sy.YteinjapglfkamaaGreat
open Go.Proofs
attribute [local irreducible] Go.Sy.G Go.Sy.DR
set_option maxRecDepth 100000
set_option maxHeartbeats 4000000
theorem Ia (a b:Nat) (ha:a<9223372036854775808) (hb:b<9223372036854775808):bits .and .i64 (a:Int) (b:Int)=((a &&& b:Nat):Int):=by
 have hx:a &&& b<2 ^ 63:=Nat.lt_of_le_of_lt Nat.and_le_left ha
 have h1:(BitVec.ofInt 64 (a:Int)).toNat=a:=by
  rw[BitVec.ofInt_natCast,BitVec.toNat_ofNat];exact Nat.mod_eq_of_lt qn
 have h2:(BitVec.ofInt 64 (b:Int)).toNat=b:=by
  rw[BitVec.ofInt_natCast,BitVec.toNat_ofNat];exact Nat.mod_eq_of_lt qn
 show IntKind.i64.wrap ((BitVec.ofInt 64 (a:Int) &&& BitVec.ofInt 64 (b:Int)).toNat:Int)=_
 rw[BitVec.toNat_and,h1,h2,IntKind.wrap_i64]
 omega
theorem Dc (a b:Nat) (ha:a<9223372036854775808) (hb:b<9223372036854775808):bits .or .i64 (a:Int) (b:Int)=((a ||| b:Nat):Int):=by
 have hx:a ||| b<2 ^ 63:=Nat.or_lt_two_pow qn qn
 have h1:(BitVec.ofInt 64 (a:Int)).toNat=a:=by
  rw[BitVec.ofInt_natCast,BitVec.toNat_ofNat];exact Nat.mod_eq_of_lt qn
 have h2:(BitVec.ofInt 64 (b:Int)).toNat=b:=by
  rw[BitVec.ofInt_natCast,BitVec.toNat_ofNat];exact Nat.mod_eq_of_lt qn
 show IntKind.i64.wrap ((BitVec.ofInt 64 (a:Int) ||| BitVec.ofInt 64 (b:Int)).toNat:Int)=_
 rw[BitVec.toNat_or,h1,h2,IntKind.wrap_i64]
 omega
theorem Ahm (n k:Nat) (hk:k<64):(n:Int).fdiv (2 ^ (min (Int.toNat (k:Int)) IntKind.i64.bits))=((n / 2 ^ k:Nat):Int):=by
 have h1:min (Int.toNat (k:Int)) IntKind.i64.bits=k:=by simp[IntKind.bits];omega
 rw[h1,Int.fdiv_eq_ediv_of_nonneg _ (by exact Int.pow_nonneg qx)]
 simp
theorem Apb (n:Nat) (h:n<9223372036854775808):bits .and .i64 (n:Int) 65535=((n % 65536:Nat):Int):=by
 have:=Ia n 65535 h qx
 rw[show ((65535:Nat):Int)=65535 from rfl]at this
 rw[this]
 have h2:=Nat.and_two_pow_sub_one_eq_mod n 16
 rw[show 2 ^ 16-1=65535 from rfl,show 2 ^ 16=65536 from rfl]at h2
 rw[h2]
theorem Akg (n:Nat) (h:n<9223372036854775808):Sy.Spec Tryz.prog 278 [.ptr 0 0] [(0,.box [Aa n])] (.tup []) [(0,.box [Aa (n / 65536+n % 65536:Nat)])]:=Ab Γ hm 100 F278 Tryz.ntmps278 rfl fun F hF=>by
 have e1:(n:Int).fdiv (2 ^ (min (Int.toNat 16) IntKind.i64.bits))=((n / 65536:Nat):Int):=Ahm n 16 qx
 have e2:=Apb n h
 conv=>whnf
 first | (refine⟨by omega,?_⟩;(conv=>whnf)) | skip
 rw[e1,e2]
 refine⟨by unfold I64;omega,?_⟩
 conv=>whnf
 exact Ba E .nil [] [(0,.box [Aa (n / 65536+n % 65536:Nat)])] (fun _ h=>h) E E ⟨Y,⟨.inl E,E,Y⟩,E,E⟩
theorem Alg (n:Nat) (h:n<9223372036854775808):Sy.Spec Tryz.prog 216 [Aa n] [] (Aa (H1 n)) []:=Ab Γ hm 100 F216 Tryz.ntmps216 rfl fun F hF=>by
 conv=>whnf
 refine M6 (α:={m:Nat // H1 m=H1 n∧m≤n}) (fun m=>[(3,.clo (.func 278) [] [.ptr 1 0]),(1,.ptr 1 0)]) (fun m=>[(1,.box [Aa m.1])]) (fun m=>m.1) ⟨n,E,Nat.le_refl _⟩ []
  ⟨⟨rfl,rfl,rfl,rfl,trivial⟩,⟨.inl rfl,rfl,trivial⟩,rfl,rfl⟩ ?_
 rintro ⟨m,h1,h2⟩
 dsimp only
 refine rg ?_;conv=>whnf
 refine⟨fun h3=>?_,fun h3=>?_⟩
 ·have hmm:65535<m:=by have:=of_decide_eq_true h3;omega
  obtain ⟨g1,g2⟩:=Agr hmm
  refine rg ?_;conv=>whnf
  refine Ai (Cc [(0,1)] (Cu E E F278) (Akg m qn) E ⟨E,Y⟩ E ⟨.inl E,Y⟩) E E ?_
  refine rg ?_;conv=>whnf
  exact Qk (α:={m:Nat // H1 m=H1 n∧m≤n}) (x:=⟨m,h1,h2⟩) ⟨m / 65536+m % 65536,by rw[g1,h1],by omega⟩ [] g2 ⟨⟨E,E,E,E,Y⟩,⟨.inl E,E,Y⟩,E,E⟩
 ·have hmm:m≤65535:=by have:=of_decide_eq_false h3;omega
  have e:H1 n=m:=by rw[← h1,Ad9 hmm]
  refine rg ?_;conv=>whnf
  refine Ac E (.cons .tmp .nil) ?_ E
  exact congrArg (fun z:Nat=>Aa z) e
theorem Er (a b:UInt8):bits .or .i64 (IntKind.i64.wrap ((IntKind.i64.wrap (a.toNat:Int)) * 2 ^ min (Int.toNat 8) IntKind.i64.bits)) (IntKind.i64.wrap (b.toNat:Int))=((a.toNat * 256+b.toNat:Nat):Int):=by
 have h1:=a.toNat_lt
 have h2:=b.toNat_lt
 have e1:IntKind.i64.wrap (a.toNat:Int)=(a.toNat:Int):=by rw[IntKind.wrap_i64];omega
 have e2:IntKind.i64.wrap (b.toNat:Int)=(b.toNat:Int):=by rw[IntKind.wrap_i64];omega
 rw[e1,e2]
 have h3:IntKind.i64.wrap ((a.toNat:Int) * 2 ^ min (Int.toNat 8) IntKind.i64.bits)=((a.toNat * 256:Nat):Int):=by
  show IntKind.i64.wrap ((a.toNat:Int) * 256)=_
  rw[IntKind.wrap_i64]
  omega
 rw[h3,Dc _ _ qn qn]
 congr 1
 have h:=Nat.two_pow_add_eq_or_of_lt (i:=8) (b:=b.toNat) qn a.toNat
 rw[Nat.mul_comm a.toNat 256]
 exact h.symm
theorem Ahk (l:List UInt8) (hl:l.length<100000) (h2:l.length % 2=0):Sy.Spec Tryz.prog 156 [.sl 1 Ao l] [] (Aa (H1 (Q3 l (l.length / 2)))) []:=Ab Γ hm 100 F156 Tryz.ntmps156 rfl fun F hF=>by
 conv=>whnf
 refine Aw (l.length / 2) (fun j=>[(0,.sl 1 Ao l),(3,Aa (Q3 l j)),(4,Aa (2 * (j:Int)))]) (fun _=>[]) [] ⟨⟨E,E,E,E,E,E,Y⟩,Y,E,E⟩ ?_
 intro j hj
 have hw:=Ahh l j
 refine rg ?_;conv=>whnf
 refine⟨by unfold I64;omega,?_⟩
 conv=>whnf
 refine⟨fun h=>?_,fun h=>?_⟩
 ·have hlt:2 * j+1<l.length:=by have:=of_decide_eq_true h;omega
  have hs:Q3 l (j+1)=Q3 l j+((l[2 * j]'qn).toNat * 256+(l[2 * j+1]'hlt).toNat):=by
   rw[Q3,Agp (show 2 * j<l.length by omega),Agp hlt]
  have e1:l[(2 * (j:Int)).toNat]'qn=l[2 * j]'qn:=by congr 1
  have e2:l[(2 * (j:Int)+1).toNat]'qn=l[2 * j+1]'hlt:=by congr 1
  have hp:=Er (l[2 * j]'qn) (l[2 * j+1]'hlt)
  have hb1:=(l[2 * j]'qn).toNat_lt
  have hb2:=(l[2 * j+1]'hlt).toNat_lt
  rw[← e1,← e2]at hp hs
  rw[← e1]at hb1
  rw[← e2]at hb2
  refine rg ?_;conv=>whnf
  refine⟨E,by omega,by omega,?_⟩
  conv=>whnf
  refine⟨by omega,?_⟩
  conv=>whnf
  refine⟨by unfold I64;omega,?_⟩
  conv=>whnf
  refine⟨E,by omega,by omega,?_⟩
  conv=>whnf
  refine⟨(by rw[hp];unfold I64;omega),?_⟩
  conv=>whnf
  refine⟨qq,?_⟩
  conv=>whnf
  refine⟨by unfold I64;omega,?_⟩
  conv=>whnf
  refine Ar [] qn ⟨⟨E,E,congrArg (fun z=>SV.val (.int .i64 z)) ?_,E,congrArg (fun z=>SV.val (.int .i64 z)) ?_,E,Y⟩,Y,E,E⟩
  ·rw[hp,hs];omega
  ·omega
 have hjl:j=l.length / 2:=by
  have:=of_decide_eq_false h
  omega
 have hpar:¬ bits .and .i64 (l.length:Int) 1=1:=by
  have:=Ia l.length 1 qn qx
  rw[show ((1:Nat):Int)=1 from rfl]at this
  rw[this,Nat.and_one_is_mod,h2]
  decide
 have hd:=Alg (Q3 l j) qn
 rw[hjl]at hd ⊢
 clear hjl
 refine rg ?_;conv=>whnf
 refine⟨fun h=>absurd (of_decide_eq_true h) hpar,fun _=>?_⟩
 refine rg ?_;conv=>whnf
 refine Ag hd F216 E E E E E ?_
 refine rg ?_;conv=>whnf
 exact Ac E (.cons .tmp .nil) E E
theorem sumOfS (l:List UInt8) (hl:l.length<100000) (h2:l.length % 2=0):Sy.Spec Tryz.prog 105 [.sl 1 Ao l] [] (Aa (Ahj l)) []:=Ab Γ hm 100 F105 Tryz.ntmps105 rfl fun F hF=>by
 have ha:=Ahk l hl h2
 have hle:=Am8 (Q3 l (l.length / 2))
 conv=>whnf
 refine Ag ha F156 E E E E E ?_
 refine rg ?_;conv=>whnf
 refine⟨by unfold I64;omega,?_⟩
 conv=>whnf
 refine Ac E (.cons .tmp .nil) ?_ E
 refine congrArg Aa ?_
 rw[Ahj]
 omega
def Ame (n:Nat):SV:=Aa n
def Je (l:List Nat):List UInt8:=l.flatMap fun n=>[UInt8.ofNat (n / 256),UInt8.ofNat n]
theorem Ys (l:List Nat):(Je l).length=2 * l.length:=by
 induction l with
 | nil=>rfl
 | cons a l ih=>simp only[Je,List.flatMap_cons,List.length_append,List.length_cons,List.length_nil]at ih ⊢;omega
theorem Adh (l:List Nat) (n:Nat):Je (l++[n])=Je l++[UInt8.ofNat (n / 256),UInt8.ofNat n]:=by simp[Je]
theorem Aao (a b:Int) (h:0≤a∧a≤b):Sy.Spec Tryz.prog 103 [Aa a,Aa b] [] (Ad true) []:=Ab Γ hm 100 F103 Tryz.ntmps103 rfl fun F hF=>by
 conv=>whnf
 refine⟨fun _=>?_,fun h2=>absurd (of_decide_eq_false h2) qn⟩
 refine rg ?_;conv=>whnf
 refine Ac E (.cons .tmp .nil) ?_ E
 exact congrArg Ad (decide_eq_true h.2).symm
theorem Amr (l:List Nat) (hl:l.length<100000):Sy.Spec Tryz.prog 104 [.val (.slice none 0 0),.sl 1 Ame l] [] (.osl 0) [(0,.row 1 Ao (Je l))]:=Ab Γ hm 100 F104 Tryz.ntmps104 rfl fun F hF=>by
 conv=>whnf
 refine B7 0 1000 1 Ao E E ?_
 refine Aw l.length (fun j=>[(0,.osl 1000),(7,.sl 1 Ame l),(8,Aa l.length),(9,Aa j)]) (fun j=>[(1000,.row 1 Ao (Je (l.take j)))]) [] ⟨⟨E,E,E,E,E,E,E,E,Y⟩,⟨.inl E,E,Y⟩,E,E⟩ ?_
 intro j hj
 have hpl:=Ys (l.take j)
 refine rg ?_;conv=>whnf
 refine⟨fun h=>?_,fun h=>?_⟩
 ·have hlt:j<l.length:=by simpa using h
  have e1:l[(j:Int).toNat]'qn=l[j]:=rfl
  have hsucc:Je (l.take (j+1))=Je (l.take j)++[UInt8.ofNat (l[j] / 256),UInt8.ofNat l[j]]:=by
   rw[List.take_succ_eq_append_getElem hlt,Adh]
  obtain ⟨n,hn⟩:∃ n,l[j]=n:=⟨_,rfl⟩
  rw[hn]at e1 hsucc
  have htb:=Em n
  refine rg ?_;conv=>whnf
  refine⟨E,by omega,by omega,?_⟩
  rw[e1]
  conv=>whnf
  refine⟨by omega,?_⟩
  conv=>whnf
  refine Ai (Am Γ.toTy 20 E E E E E (.row E) (.lit (e:=Ao) (l:=[UInt8.ofNat (n / 256),UInt8.ofNat n]) E htb) qy (by simp[hpl];omega) (by simp[hpl];omega)) E E ?_
  refine rg ?_;conv=>whnf
  refine⟨by unfold I64;omega,?_⟩
  conv=>whnf
  exact Ar [(1000,20)] hlt ⟨⟨E,E,E,E,E,E,E,E,Y⟩,⟨.inl (congrArg (Ob.row 1 Ao) hsucc),E,Y⟩,E,E⟩
 ·have hjl:j=l.length:=by
   have:¬ j<l.length:=by simpa using h
   omega
  subst hjl
  rw[List.take_length]
  refine rg ?_;conv=>whnf
  exact done E (.cons .tmp .nil) [(0,1000)] [(0,.row 1 Ao (Je l))] (fun _ h=>h) E E ⟨Y,⟨.inl E,E,Y⟩,E,E⟩
theorem u8_of (n:Nat):IntKind.u8.wrap (n:Int)=((UInt8.ofNat n).toNat:Int):=by
 rw[IntKind.wrap_u8]
 simp
theorem Wf {x:Int} (h0:0≤x) (h1:x<18446744073709551616):IntKind.u64.wrap x=x:=by rw[IntKind.wrap_u64];omega
theorem Zu (ip:Nat) (h:ip<4294967296):Sy.Spec Tryz.prog 44 [Bj ip] [] (Bf (Ii ip)) []:=Ab Γ hm 100 F44 Tryz.ntmps44 rfl fun F hF=>by
 conv=>whnf
 refine Ac E (.cons .tmp .nil) ?_ E
 refine congrArg (fun z=>SV.val (.int .u64 z)) ?_
 have e:IntKind.u64.wrap (ip:Int)=ip:=Wf qn qn
 rw[e]
 have hb:=bits_or_u64_nat 2199023255552 ip qx qn
 rw[show ((2199023255552:Nat):Int)=2199023255552 from rfl]at hb
 rw[hb,Ii,Int.toNat_natCast]
 have h2:=Nat.two_pow_add_eq_or_of_lt (i:=32) (b:=ip) qn 512
 rw[show 2 ^ 32 * 512=2199023255552 from rfl]at h2
 rw[← h2]
theorem tagIsS (d s:Nat) (t:Int) (body:List UInt8) (ht:t≠33024):Sy.Spec Tryz.prog 182 [Am7 d s t body] [] (Ad false) []:=Ab Γ hm 100 F182 Tryz.ntmps182 rfl fun F hF=>by
 conv=>whnf
 refine Ac E (.cons .tmp .nil) ?_ E
 exact congrArg Ad (beq_eq_false_iff_ne.2 ht).symm
theorem Aoh (v:Nat) (hv:v<9223372036854775808):bits .or .i64 (IntKind.i64.wrap (0 * 2 ^ min (Int.toNat 12) IntKind.i64.bits)) (v:Int)=v:=by
 have h:=Dc 0 v qx hv
 rw[Nat.zero_or]at h
 exact h
theorem An9 (d s t v:Nat) (body:List UInt8) (ht:t≠33024) (ht2:t≤65535) (hv:v≤4094) (hb:body.length≤1500) :
  Sy.Spec Tryz.prog 122 [Am7 d s t body,Aa v,Aa 0] [] (.tup [Am7 d s 33024 ([UInt8.ofNat (v / 256),UInt8.ofNat v,UInt8.ofNat (t / 256),UInt8.ofNat t]++body),Aa 0]) []:=Ab Γ hm 100 F122 Tryz.ntmps122 rfl fun F hF=>by
 have hor:=Aoh v qn
 have tb1:=Em v
 have tb2:=Em t
 conv=>whnf
 refine Ag (tagIsS d s t body qn) F182 E E E E E ?_
 (refine rg ?_;(conv=>whnf);refine aF ?_;refine rg ?_;(conv=>whnf);refine aF ?_;refine rg ?_;conv=>whnf)
 refine⟨fun h=>absurd (of_decide_eq_true h) qn,fun _=>?_⟩
 (refine rg ?_;(conv=>whnf);refine aF ?_;refine rg ?_;(conv=>whnf);refine aF ?_;refine rg ?_;(conv=>whnf);refine aF ?_;refine rg ?_;conv=>whnf)
 refine⟨fun h=>absurd (of_decide_eq_true h) qn,fun _=>?_⟩
 refine rg ?_;conv=>whnf
 refine⟨fun h=>absurd (of_decide_eq_true h) qn,fun _=>?_⟩
 refine rg ?_;conv=>whnf
 refine⟨by omega,?_⟩
 conv=>whnf
 rw[hor]
 refine⟨by omega,?_⟩
 conv=>whnf
 refine⟨by omega,?_⟩
 conv=>whnf
 refine Bn (Am Γ.toTy 70 E E E E E (.lit (e:=Ao) (l:=[UInt8.ofNat (v / 256),UInt8.ofNat v,UInt8.ofNat (t / 256),UInt8.ofNat t]) E ?_) .sl qy (by simp;omega) (by simp;omega)) qq E ?_
 ·have h1:=List.cons.inj tb1
  have h2:=List.cons.inj tb2
  have h3:=List.cons.inj h1.2
  have h4:=List.cons.inj h2.2
  simp only[List.map_cons,List.map_nil]
  rw[h1.1,h3.1,h2.1,h4.1]
 refine rd qq ?_;conv=>whnf
 refine⟨qq,?_⟩
 conv=>whnf
 refine Au 70 E ?_
 exact Ac E (.cons (.cell E E E E) (.cons .tmp .nil)) E E
end Go.Sy.YteinjapglfkamaaGreat
namespace Go.Sy.YteinjapglfkamaaGreat
open Go.Proofs
def Iv (l:List UInt8):Nat:=l.foldl (fun n c=>n * 256+c.toNat) 0
theorem Zb (l:List UInt8) (c:UInt8):Iv (l++[c])=Iv l * 256+c.toNat:=by
 rw[Iv,List.foldl_append];rfl
theorem K4:∀ (k:Nat) (l:List UInt8),l.length=k→Iv l<256 ^ k
 | 0,l,h=>by rw[List.length_eq_zero_iff.1 h];decide
 | k+1,l,h=>by
  have hne:l≠[]:=fun e=>by rw[e]at h;cases h
  have e:=List.dropLast_concat_getLast hne
  have h1:=K4 k l.dropLast (by rw[List.length_dropLast];omega)
  have h2:=(l.getLast hne).toNat_lt
  rw[← e,Zb,Nat.pow_succ]
  omega
theorem Ail (l:List UInt8) {j:Nat} (h:j<l.length):Iv (l.take (j+1))=Iv (l.take j) * 256+l[j].toNat:=by
 rw[List.take_succ_eq_append_getElem h,Zb]
theorem An6 (m:Nat) (c:UInt8) (h:m<1099511627776) :
  bits .or .u64 (IntKind.u64.wrap ((m:Int) * 2 ^ min (Int.toNat 8) IntKind.u64.bits)) (IntKind.u64.wrap (c.toNat:Int))=((m * 256+c.toNat:Nat):Int):=by
 have hc:=c.toNat_lt
 have e1:IntKind.u64.wrap ((m:Int) * 2 ^ min (Int.toNat 8) IntKind.u64.bits)=((m * 256:Nat):Int):=by
  show IntKind.u64.wrap ((m:Int) * 256)=_
  rw[IntKind.wrap_u64];omega
 have e2:IntKind.u64.wrap (c.toNat:Int)=(c.toNat:Int):=by rw[IntKind.wrap_u64];omega
 rw[e1,e2,bits_or_u64_nat _ _ qn qn]
 congr 1
 have h:=Nat.two_pow_add_eq_or_of_lt (i:=8) (b:=c.toNat) qn m
 rw[Nat.mul_comm m 256]
 exact h.symm
def H7 (m:Nat):Bool:=decide (m / 1099511627776 % 2=1)
theorem Apc (m k:Nat):m &&& 2 ^ k=if m / 2 ^ k % 2=1 then 2 ^ k else 0:=by
 apply Nat.eq_of_testBit_eq
 intro i
 rw[Nat.testBit_and,Nat.testBit_two_pow]
 by_cases hi:k=i
 ·subst hi
  rw[decide_eq_true rfl,Bool.and_true,Nat.testBit_eq_decide_div_mod_eq]
  split
  ·rename_i h;rw[decide_eq_true h,Nat.testBit_two_pow_self]
  ·rename_i h;rw[decide_eq_false h,Nat.zero_testBit]
 ·rw[decide_eq_false hi,Bool.and_false]
  split
  ·rw[Nat.testBit_two_pow,decide_eq_false hi]
  ·rw[Nat.zero_testBit]
theorem Aj8 (m:Nat) (h:m<18446744073709551616):(bits .and .u64 (m:Int) 1099511627776 != 0)=H7 m:=by
 have e:=bits_and_u64_nat m 1099511627776 h qx
 rw[show ((1099511627776:Nat):Int)=1099511627776 from rfl]at e
 rw[e,show (1099511627776:Nat)=2 ^ 40 from rfl,Apc,H7,show (1099511627776:Nat)=2 ^ 40 from rfl]
 split
 ·rename_i h;rw[decide_eq_true h];rfl
 ·rename_i h;rw[decide_eq_false h];rfl
structure EntryM where
 mac:Nat
 where_:Int
 seen:Int
deriving DecidableEq
def A0 (e:EntryM):SV:=.agg [Bf e.mac,Aa e.where_,Aa e.seen]
def Ie (m:Nat):Bool:=decide (m≤281474976710655) && !H7 m
def Hn (now:Int):Bool:=decide (0≤now) && decide (now≤1099511627776)
def El (t:List EntryM) (m:Nat):Int:=Ct (fun e=>decide (e.mac=m)) t
def Ut (t:List EntryM) (i:Nat) (e:EntryM):Bool:=Ie e.mac && Hn e.seen && decide (El t e.mac=i)
def tableB (t:List EntryM):Bool:=decide (t.length≤8) && Co (Ut t) t
def findE (t:List EntryM) (m:Nat):Int × Bool:=if El t m<0 then (0,false) else (((t[(El t m).toNat]?).map (·.where_)).getD 0,true)
def oldestU (t:List EntryM):Nat→Nat
 | 0=>0
 | j+1=>if ((t[j]?).map (·.seen)).getD 0<((t[oldestU t j]?).map (·.seen)).getD 0 then j else oldestU t j
def learnT (t:List EntryM) (m:Nat) (wh now:Int):List EntryM :=
 if tableB t=false∨Ie m=false∨Hn now=false then t
 else if 0≤El t m then t.set (El t m).toNat ⟨m,wh,now⟩
 else (if t.length=8 then t.eraseIdx (oldestU t t.length) else t)++[⟨m,wh,now⟩]
def ageT (t:List EntryM) (now:Int):List EntryM:=if tableB t=false∨Hn now=false then t else t.filter fun e=>decide (now-4≤e.seen)
def noF:FrameM:=⟨0,0,0,[]⟩
structure FrameOK (f:FrameM):Prop where
 dst:f.dst<281474976710656
 src:f.src<281474976710656
 typ:f.typ≤65535
 body:f.body.length≤1504
def takeF (b:List UInt8):FrameM × Int :=
 if b.length<14 then (noF,10) else if 1518<b.length then (noF,14)
 else (⟨Iv (b.take 6),Iv ((b.drop 6).take 6),Iv ((b.drop 12).take 2),b.drop 14⟩,0)
def Qp (f:FrameM):List UInt8:=frame f.dst f.src f.typ f.body
def stripT (f:FrameM):FrameM × Int × Int × Int :=
 if f.typ≠33024 then (noF,0,0,11) else if f.body.length<4 then (noF,0,0,10)
 else if 4094<Iv (f.body.take 2) % 4096∨Iv ((f.body.drop 2).take 2)=33024 then (noF,0,0,15)
 else (⟨f.dst,f.src,Iv ((f.body.drop 2).take 2),f.body.drop 4⟩,(Iv (f.body.take 2) % 4096:Nat),(Iv (f.body.take 2) / 4096:Nat),0)
def tagT (f:FrameM) (v:Int):FrameM × Int :=
 if f.typ=33024 then (noF,15) else if 1500<f.body.length then (noF,14)
 else (⟨f.dst,f.src,33024,[UInt8.ofNat (v.toNat / 256),UInt8.ofNat v.toNat,UInt8.ofNat (f.typ / 256),UInt8.ofNat f.typ]++f.body⟩,0)
def vlanT (p:Port) (tagged:Bool) (vid:Int):Int × Bool :=
 if tagged=false∨vid=0 then (p.native,decide (p.native≠0)) else if inB p.tagged vid=true then (vid,true) else (0,false)
def Jn (n:Net) (port:Int) (f:FrameM) (tagged:Bool) (vid:Int):Int × FrameM × Int :=
 if H7 f.src=true then (0,noF,11)
 else if (vlanT (nth n.ports port) tagged vid).2=false then (0,noF,16)
 else (B5 n (nth n.ports port).dev (vlanT (nth n.ports port) tagged vid).1,f,0)
def enterT (n:Net) (port:Int) (b:List UInt8):Int × FrameM × Int :=
 if Aj port n.ports.length=false∨Ae n=false then (0,noF,2)
 else if (takeF b).2≠0 then (0,noF,(takeF b).2)
 else if (takeF b).1.typ=33024 then
  (if (stripT (takeF b).1).2.2.2≠0 then (0,noF,(stripT (takeF b).1).2.2.2) else Jn n port (stripT (takeF b).1).1 true (stripT (takeF b).1).2.1)
 else Jn n port (takeF b).1 false 0
def leaveT (n:Net) (port dom:Int) (f:FrameM):List UInt8 × Int :=
 if Aj port n.ports.length=false∨Aj dom n.domains.length=false∨Ae n=false then ([],2)
 else if (nth n.ports port).dev≠(nth n.domains dom).dev∨Cp (nth n.ports port) (nth n.domains dom).vlan=false then ([],16)
 else if f.typ=33024 then ([],15)
 else if (nth n.domains dom).vlan=(nth n.ports port).native then (Qp f,0)
 else if (tagT f (nth n.domains dom).vlan).2≠0 then ([],(tagT f (nth n.domains dom).vlan).2)
 else (Qp (tagT f (nth n.domains dom).vlan).1,0)
def linkT (n:Net) (port:Int) (b:List UInt8):Int × Int × FrameM × Int :=
 if Cn n port<0 then (0,0,noF,2) else (Cn n port,enterT n (Cn n port) b)
structure QueuedM where
 from_:Int
 peer:Int
 origin:Int
 frame:FrameM
def Bo (q:QueuedM):SV:=.agg [Aa q.from_,Aa q.peer,Aa q.origin,Bf q.frame.dst,Bf q.frame.src,Aa q.frame.typ,.sl 1 Ao q.frame.body]
def noQ:QueuedM:=⟨0,0,0,noF⟩
def pushT (l:List QueuedM) (q:QueuedM):List QueuedM × Bool:=if 64≤l.length then (l,false) else (l++[q],true)
def takeT (l:List QueuedM) (at_:Int):QueuedM × List QueuedM × Bool :=
 if at_<0∨(l.length:Int)≤at_ then (noQ,l,false) else ((l[at_.toNat]?).getD noQ,l.eraseIdx at_.toNat,true)
def usableB (n:Net) (fw:List Bool) (p:Int):Bool:=decide ((nth n.ports p).link<0) || (fw[(nth n.ports p).link.toNat]?).getD false
def Lv (n:Net) (fw:List Bool) (dom from_:Int):Bool :=
 Aj dom n.domains.length && decide (fw.length=n.links.length) && Ae n && (decide (from_=-1) || decide (from_=-2) || inB (A4 n dom) from_)
def D4 (n:Net) (fw:List Bool) (from_:Int) (l:List Int):List Int:=l.filter fun p=>!(decide (p=from_) || !(usableB n fw p))
def peersOut (n:Net) (dom from_:Int):List Int:=if from_=-1 then [] else (nth n.domains dom).peers
def floodT (n:Net) (fw:List Bool) (dom from_:Int):List Int × List Int × Int :=
 if Lv n fw dom from_=false then ([],[],2) else (D4 n fw from_ (A4 n dom),peersOut n dom from_,0)
def Dn (n:Net) (dom:Int) (m:Nat):Int:=Ct (fun s:Static=>decide (s.domain=dom) && decide (s.mac=(m:Int))) n.statics
def Cq (n:Net) (fw:List Bool) (t:List EntryM) (dom from_:Int) (m:Nat):List Int × List Int × Int :=
 if Lv n fw dom from_=false then ([],[],2)
 else if H7 m=true then (D4 n fw from_ (A4 n dom),peersOut n dom from_,0)
 else if 0≤Dn n dom m then (D4 n fw from_ [(nth n.statics (Dn n dom m)).port],[],0)
 else if (findE t m).2=true∧0≤(findE t m).1∧inB (A4 n dom) (findE t m).1=true then (D4 n fw from_ [(findE t m).1],[],0)
 else if (findE t m).2=true∧(findE t m).1<0∧inB (nth n.domains dom).peers (-1-(findE t m).1)=true then ([],if from_=-1 then [] else [-1-(findE t m).1],0)
 else (D4 n fw from_ (A4 n dom),peersOut n dom from_,0)
def bAt (b:List UInt8) (i:Nat):UInt8:=b.getD i 0
def numAt (b:List UInt8) (k m:Nat):Nat:=Iv ((b.drop k).take m)
def C8 (l:List Nat):List UInt8:=l.flatMap fun n=>[UInt8.ofNat (n / 256),UInt8.ofNat n]
def udpPort (a b:Nat):Nat:=49152+(a ^^^ b) % 16384
def Ak7 (src dst:Nat) (body:List UInt8):List UInt8:=C8 [src,dst,8+body.length,0]++body
def udpTakeT (b:List UInt8):Int × Int × List UInt8 × Int :=
 if b.length<8 then (0,0,[],10) else if numAt b 4 2<8 then (0,0,[],11) else if b.length<numAt b 4 2 then (0,0,[],10)
 else if numAt b 6 2≠0 then (0,0,[],12) else (numAt b 0 2,numAt b 2 2,(b.take (numAt b 4 2)).drop 8,0)
structure PacketM where
 tos:Nat
 id:Nat
 ttl:Nat
 proto:Nat
 src:Nat
 dst:Nat
 body:List UInt8
def noP:PacketM:=⟨0,0,0,0,0,0,[]⟩
def Ss (p:PacketM):SV:=.agg [Aa p.tos,Aa p.id,Aa p.ttl,Aa p.proto,Bj p.src,Bj p.dst,.sl 1 Ao p.body]
structure PacketOK (p:PacketM):Prop where
 tos:p.tos≤255
 id:p.id≤65535
 ttl:p.ttl≤255
 proto:p.proto≤255
 src:p.src<4294967296
 dst:p.dst<4294967296
def H6 (p:PacketM) (s:Nat):List UInt8:=C8 [17664+p.tos,20+p.body.length,p.id,0,p.ttl * 256+p.proto,s,p.src / 65536,p.src,p.dst / 65536,p.dst]
def Zr (p:PacketM):Nat:=Ahj (H6 p 0)
def Vu (p:PacketM):List UInt8:=H6 p (Zr p)++p.body
def ipPutT (p:PacketM):List UInt8 × Int:=if 1480<p.body.length then ([],14) else (Vu p,0)
def ipTakeT (b:List UInt8):PacketM × Int :=
 if b.length<20 then (noP,10) else if bAt b 0≠69∨numAt b 2 2<20 then (noP,11) else if b.length<numAt b 2 2 then (noP,10)
 else if numAt b 6 2≠0 then (noP,11) else if H1 (Q3 (b.take 20) 10)≠65535 then (noP,12)
 else (⟨(bAt b 1).toNat,numAt b 4 2,(bAt b 8).toNat,(bAt b 9).toNat,numAt b 12 4,numAt b 16 4,(b.take (numAt b 2 2)).drop 20⟩,0)
def Ly (v:Nat):List UInt8:=[8,0,0,0,UInt8.ofNat (v / 65536),UInt8.ofNat (v / 256),UInt8.ofNat v,0]
def T5 (v:Int):Bool:=decide (v<1) || decide (16777215<v)
def vniT (b:List UInt8):Int × List UInt8 × Int :=
 if b.length<8 then (0,[],10) else if numAt b 4 3=0∨b.take 8≠Ly (numAt b 4 3) then (0,[],11) else (numAt b 4 3,b.drop 8,0)
def Oz (from_ to:Nat) (v:Nat) (f:FrameM):PacketM:=⟨0,0,64,17,from_,to,Ak7 (udpPort f.dst f.src) 4789 (Ly v++Qp f)⟩
def wrapT (from_ to:Nat) (v:Int) (f:FrameM):List UInt8 × Int :=
 if f.typ=33024 then ([],15) else if T5 v=true then ([],17) else if 1450<f.body.length then ([],14)
 else (frame (Ii to) (Ii from_) 2048 (Vu (Oz from_ to v.toNat f)),0)
def outerT (b:List UInt8):PacketM × Int :=
 if (takeF b).2≠0 then (noP,(takeF b).2) else if (takeF b).1.typ≠2048 then (noP,11)
 else if (ipTakeT (takeF b).1.body).2≠0 then (noP,(ipTakeT (takeF b).1.body).2)
 else ((ipTakeT (takeF b).1.body).1,if (ipTakeT (takeF b).1.body).1.proto≠17 then 11 else 0)
def J9 (b:List UInt8):Int × FrameM × Int :=
 if (udpTakeT b).2.2.2≠0 then (0,noF,(udpTakeT b).2.2.2) else if (udpTakeT b).2.1≠4789 then (0,noF,11)
 else if (vniT (udpTakeT b).2.2.1).2.2≠0 then (0,noF,(vniT (udpTakeT b).2.2.1).2.2)
 else if (takeF (vniT (udpTakeT b).2.2.1).2.1).2≠0 then (0,noF,(takeF (vniT (udpTakeT b).2.2.1).2.1).2)
 else if (takeF (vniT (udpTakeT b).2.2.1).2.1).1.typ=33024 then (0,noF,15)
 else ((vniT (udpTakeT b).2.2.1).1,(takeF (vniT (udpTakeT b).2.2.1).2.1).1,0)
def Bv (b:List UInt8):Nat × Nat × Int × FrameM × Int :=
 if (outerT b).2≠0 then (0,0,0,noF,(outerT b).2) else if (J9 (outerT b).1.body).2.2≠0 then (0,0,0,noF,(J9 (outerT b).1.body).2.2)
 else ((outerT b).1.src,(outerT b).1.dst,(J9 (outerT b).1.body).1,(J9 (outerT b).1.body).2.1,0)
structure Net.Num (n:Net):Prop where
 vtep:∀ d∈n.devices,0≤d.vtep∧d.vtep<4294967296
 addr:∀ i∈n.irbs,0≤i.addr∧i.addr<4294967296
def Ir (n:Net) (dom:Int):Int:=(nth n.devices (nth n.domains dom).dev).vtep
def meshT (n:Net) (dom peer:Int) (f:FrameM):List UInt8 × Int :=
 if Aj peer n.domains.length=false∨Aj dom n.domains.length=false∨Ae n=false then ([],2)
 else if inB (nth n.domains dom).peers peer=false then ([],17)
 else wrapT (Ir n dom).toNat (Ir n peer).toNat (nth n.domains dom).vni f
def endsT (n:Net) (src dst:Nat) (vni:Int):Int × Int :=
 let dev:=Ct (fun d:Device=>decide (d.vtep=(dst:Int))) n.devices
 let dom:=Ct (fun d:Domain=>decide (d.dev=dev) && decide (d.vni=vni)) n.domains
 if dev<0∨dom<0 then (-1,-1)
 else
  let i:=Ct (fun k:Int=>decide (Ir n k=(src:Int))) (nth n.domains dom).peers
  if i<0 then (-1,-1) else (nth (nth n.domains dom).peers i,dom)
def comeT (n:Net) (b:List UInt8):Int × Int × FrameM × Int :=
 if Ae n=false then (0,0,noF,2)
 else if (Bv b).2.2.2.2≠0 then (0,0,noF,(Bv b).2.2.2.2)
 else if (endsT n (Bv b).1 (Bv b).2.1 (Bv b).2.2.1).1<0 then (0,0,noF,17)
 else if H7 (Bv b).2.2.2.1.src=true then (0,0,noF,11)
 else ((endsT n (Bv b).1 (Bv b).2.1 (Bv b).2.2.1).1,(endsT n (Bv b).1 (Bv b).2.1 (Bv b).2.2.1).2,(Bv b).2.2.2.1,0)
def routerT (n:Net) (dom:Int) (m:Nat):Int × Bool :=
 if Aj dom n.domains.length=false∨Ae n=false then (0,false)
 else if (nth n.domains dom).irb<0∨Ii (nth n.irbs (nth n.domains dom).irb).addr≠m then (0,false)
 else ((nth n.domains dom).irb,true)
def Agl (p:PacketM):PacketM:=⟨p.tos,p.id,p.ttl-1,p.proto,p.src,p.dst,p.body⟩
def hopT (n:Net) (irb:Int) (f:FrameM):Int × FrameM × Int :=
 if Aj irb n.irbs.length=false∨Ae n=false then (0,noF,2)
 else if f.typ≠2048 then (0,noF,11)
 else if (ipTakeT f.body).2≠0 then (0,noF,(ipTakeT f.body).2)
 else if (ipTakeT f.body).1.ttl≤1 then (0,noF,13)
 else if (lookT n irb (ipTakeT f.body).1.dst).2=false then (0,noF,31)
 else if 1480<(ipTakeT f.body).1.body.length then (0,noF,14)
 else ((nth n.irbs (lookT n irb (ipTakeT f.body).1.dst).1).domain,
  ⟨Ii (ipTakeT f.body).1.dst,Ii (nth n.irbs (lookT n irb (ipTakeT f.body).1.dst).1).addr,2048,Vu (Agl (ipTakeT f.body).1)⟩,0)
structure OutM where
 kind:Int
 port:Int
 domain:Int
 bytes:List UInt8
 frame:FrameM
 error:Int
def D5 (o:OutM):SV:=.agg [Aa o.kind,Aa o.port,Aa o.domain,.sl 1 Ao o.bytes,Bf o.frame.dst,Bf o.frame.src,Aa o.frame.typ,.sl 1 Ao o.frame.body,Aa o.error]
def learnQ (t:List EntryM) (q:QueuedM) (now:Int):List EntryM :=
 if q.from_=-2 then t else learnT t q.frame.src (if q.from_=-1 then -1-q.peer else q.from_) now
def S2 (o:OutM) (r:List UInt8 × Int):OutM:=if r.2≠0 then ⟨5,o.port,o.domain,[],o.frame,r.2⟩ else ⟨o.kind,o.port,o.domain,r.1,o.frame,o.error⟩
def Yt (n:Net) (dom:Int) (f:FrameM) (p:Int):OutM:=S2 ⟨if (nth n.ports p).link<0 then 1 else 2,p,0,[],noF,0⟩ (leaveT n p dom f)
def Aa0 (n:Net) (dom:Int) (f:FrameM) (p:Int):OutM:=S2 ⟨3,0,p,[],noF,0⟩ (meshT n dom p f)
def bridgeT (n:Net) (fw:List Bool) (t:List EntryM) (dom:Int) (q:QueuedM) (now:Int):List EntryM × List OutM × Int :=
 if Lv n fw dom q.from_=false∨tableB t=false then ([],[],2)
 else if (routerT n dom q.frame.dst).2=true then
  (if (hopT n (routerT n dom q.frame.dst).1 q.frame).2.2≠0 then (learnQ t q now,[],(hopT n (routerT n dom q.frame.dst).1 q.frame).2.2)
   else (learnQ t q now,[⟨4,0,(hopT n (routerT n dom q.frame.dst).1 q.frame).1,[],(hopT n (routerT n dom q.frame.dst).1 q.frame).2.1,0⟩],0))
 else (learnQ t q now,(Cq n fw (learnQ t q now) dom q.from_ q.frame.dst).1.map (Yt n dom q.frame)++(Cq n fw (learnQ t q now) dom q.from_ q.frame.dst).2.1.map (Aa0 n dom q.frame),0)
end Go.Sy.YteinjapglfkamaaGreat
namespace Go.Sy
theorem Good.dataT {P:Program} {o:Oper} {s:SS} {d sz:Nat} {ks:List Nat} {k:Option Nat} {α:Type} {e:α→SV} {l:List α} (h:Good P o s ⟨.osl d,ks,Es k d (.row sz e l)⟩) :
  Good P o s ⟨.sl sz e l,ks,Es k d .non⟩:=fun κ a w hi hr ho N Q hN=>by
 have hws:Up.ws ⟨SV.osl d,ks,Es k d (.row sz e l)⟩=Up.ws ⟨SV.sl sz e l,ks,Es k d .non⟩:=by
  cases k<;>rfl
 refine h κ a w hi hr (fun j hj=>ho j (by rw[← hws];exact hj)) N Q fun v κ' w' st inv hv hob=>?_
 have hmem:d∈Up.ws ⟨SV.sl sz e l,ks,Es k d .non⟩:=by cases k<;>simp[Up.ws,Es]
 have hrow:ObOK κ' w' d (.row sz e l):=hob (d,.row sz e l) (by cases k<;>simp[Es])
 have st2:=En (κ:=κ') (w:=w') (some d)
 have inv2:=Ht inv (some d)
 have hx:Rd (C1 κ' d .dead) w' (.sl sz e l) v:=by
  rcases hrow with ⟨h1,rfl⟩ | h1
  ·simp only[Rd,h1]at hv
   simp only[Rd,RdD]
   exact .inl ⟨by simp,none,0,hv⟩
  ·refine h1.freeze hv st2.keeps.out (fun b hb=>⟨inv.bnd d b hb,?_⟩)
   rintro (⟨q,hq⟩ | hq)
   ·by_cases hqd:q=d
    ·subst hqd;rw[As]at hq;cases hq
    ·rw[Bq _ _ hqd]at hq
     exact hqd (inv.inj q d b hq hb)
   ·exact inv.apart d b hb hq
 refine hN v _ w' ((st.weaken (fun j hj=>by rw[← hws];exact hj)).trans (st2.weaken (fun j hj=>by cases hj;exact hmem))) inv2 hx (fun x hxm=>?_)
 have:x.2=.non:=by
  cases k with
  | none=>have:=List.mem_singleton.1 hxm;rw[this]
  | some j =>
   rcases List.mem_cons.1 hxm with h1 | h1
   ·rw[h1]
   ·have:=List.mem_singleton.1 h1;rw[this]
 rw[this]
 trivial
end Go.Sy
namespace Go.Sy
open Go.ChangeShapes Go.WideShapes Go.ChangeAt Go.RowKit
def κ0:Ka:=⟨fun _=>.new,fun _=>False⟩
theorem inv0 (w:World):Inv κ0 w :=
 ⟨fun i j b h=>(by cases h),fun k b h=>(by cases h),fun k b h=>(by cases h),fun b h=>False.elim h⟩
theorem Abx {w w':World} {κ':Ka} (c:Ctx ⟨w,κ0⟩ κ' w'):Below w.heap.size w w' :=
 ⟨c.os,c.tape,c.output,c.size,fun k hk=>c.old k hk (fun j h=>by cases h)⟩
section
variable {H:Type} {enc:TypeId × Value→H} {P:Program}
theorem O1 {W W':World} (hl:laidOutB P=true) (hb:Below W.heap.size W W'):∀ {ts:List TypeId} {vs:List Value} {ds:List (DataW H)} {ps:List MemPlace},(∀ t∈ts,P.readableRec t=true∧t<P.types.size) →
  (∀ x∈ps,x.block<W.heap.size)→DataW.TrodAll enc P W 0 (fun _=>true) true ts vs ds ps→DataW.TrodAll enc P W' 0 (fun b=>decide (b<W.heap.size)) true ts vs ds ps
 | [],_,_,_,_,_,h=>by
  obtain ⟨rfl,rfl,rfl⟩:=trodAll_nil h
  rfl
 | t::ts,_,_,_,ht,hp,h=>by
  obtain ⟨v,vs,d,ds,p,q,rfl,rfl,rfl,h1,h2⟩:=trodAll_cons h
  have:=ht t qy
  exact⟨p,q,Below.trod hl this.1 this.2 h1 hb (fun x hx=>hp x (by simp[hx])),O1 hl hb (fun t h=>ht t (by simp[h])) (fun x hx=>hp x (by simp[hx])) h2,E⟩
theorem Aj3 {f:FuncId} {fn:Func} {s:ChangeSpec} {W:World} {args:Array Value} {ds gs:List (DataW H)} {before:List MemPlace} {tb:TypeId} {A:List SV} (hv:s.vars=[]) (hl:laidOutB P=true)
  (hW:DataW.Whole enc P fn.params.toList s.vars false W args.toList ds gs before) (hts:∀ t∈fn.params.toList,P.readableRec t=true∧t<P.types.size) (hrt:fn.resultTypes=#[tb]) (hbt:P.underlying tb=some .bool)
  (hfn:∀ gs:List (DataW H),gs=[]→s.fn H (ds++gs)={ results:=[.lit (.bool true)],args:=ds }) (hA:RdL κ0 W A args.toList) (hs:Sy.Spec P f A [] (Ad true) []) :
  Calls P f args W fun e W'=>∃ v,e=.returned v∧s.post enc P fn false true false false W args v W':=by
 have hc:=hs κ0 W args.toList (inv0 W) (fun k hk=>absurd rfl hk) hA (fun p hp=>by cases hp)
 simp only[Array.toArray_toList]at hc
 refine hc.mono ?_
 rintro e W' ⟨v,κ',rfl,ctx,inv,hR,_⟩
 have hvv:v=.bool true:=by simpa [Ad,Rd] using hR
 subst hvv
 have hb:=Abx ctx
 have hW':=hW
 obtain ⟨p,q,h1,h2,h3,h4,h5⟩:=hW
 have hgs:gs=[]∧q=[]:=by
  rw[hv]at h2
  exact trodVars_none h2
 obtain ⟨rfl,rfl⟩:=hgs
 rw[List.append_nil]at h3
 subst h3
 have hlt:∀ x∈before,x.block<W.heap.size:=fun x hx=>by simpa using hW'.lt x hx
 refine⟨_,rfl,ds,[],before,[],before,[],hW',?_,?_,?_,?_,fun h=>by cases h⟩
 ·rw[hfn [] rfl,hrt]
  exact trodAll_mk1 (shut_bool hbt true)
 ·rw[hfn [] rfl]
  exact O1 hl hb hts hlt h1
 ·rw[hv,hfn [] rfl]
  rfl
 ·exact hb.frame _
end
end Go.Sy
