/-
  N3 N4 E2 E3 N5 N6 N7 E4 E5 E6 E7 E8 E9 E10 E11 E12 Sy29 B0 D1 N8 N9 N10 N11 V1 V2 V3 V4 V5 X1: parts of a proof, joined by program.
-/
import Derived.Test.YtmelpejjondedaaGreatU3
namespace Go.Sy.YtmelpejjondedaaGreat
open Go.Proofs
attribute [local irreducible] Go.Sy.G Go.Sy.DR
set_option maxRecDepth 20000
set_option maxHeartbeats 4000000
theorem O2 {K:List Nat}:∀ (a b:List SV),Co K (a++b)=(Co K a && Co K b)
 | [],b=>by simp[Co]
 | x::a,b=>by simp[Co,O2 a b,Bool.and_assoc]
theorem Dl {f:FuncId} {first cap xs:List SV} (hc:(SV.clo (.func f) first cap).inn []=true) (hx:Co [] xs=true):Co [] (first++xs++cap)=true:=by
 simp only[SV.inn,Bool.and_eq_true]at hc
 rw[O2,O2,hc.1,hc.2,hx]
 rfl
theorem Ig (l:List Domain) (p:Domain→Bool) (f:FuncId) (first cap:List SV) (hc:(SV.clo (.func f) first cap).inn []=true) (hf:∀ x∈l,Jn Tryz.prog f (first++[A1 x]++cap) (Ad (p x))) (hl:Ar l) :
  Sy.Spec Tryz.prog 262 [.sl 6 A1 l,.clo (.func f) first cap] [] (Aa (Dh p l)) []:=Ab Γ hm 100 F262 Tryz.ntmps262 rfl fun F hF=>by
 unfold Ar at hl
 have hin:∀ x:Domain,Co [] (first++[A1 x]++cap)=true:=fun x=>Dl hc rfl
 conv=>whnf
 refine A2 l.length (fun j=>Dd (fun _ x=>!(p x)) l j) (fun j=>[(0,.sl 6 A1 l),(1,.clo (.func f) first cap),(7,Aa l.length),(8,Aa j)]) (fun _=>[]) [] (A5 _ _) ⟨⟨E,E,Bo _,hc,E,E,E,E,Y⟩,Y,E,E⟩ ?_
 intro j hj hI
 refine rg ?_;conv=>whnf
 refine⟨fun h=>?_,fun h=>?_⟩
 ·have h:=of_decide_eq_true h
  have hj2:j<l.length:=by omega
  refine rg ?_;conv=>whnf
  refine⟨E,by omega,by omega,?_⟩
  conv=>whnf
  refine Ex (hf l[j] (List.getElem_mem hj2)) E E E (by simp only[hin];rfl) E E ?_
  refine rg ?_;conv=>whnf
  refine⟨fun h2=>?_,fun h2=>?_⟩
  ·refine rg ?_;conv=>whnf
   refine Ac E (.cons .tmp .nil) (congrArg Aa ?_) E
   exact C1 hj2 (fun i hi hij=>by simpa using hI i hi hij) h2
  ·refine rg ?_;conv=>whnf
   refine⟨by unfold I64;omega,?_⟩
   conv=>whnf
   exact Aw [] hI hj2 (A3 hI hj2 (by simp[h2])) ⟨⟨E,E,Bo _,hc,E,E,E,E,Y⟩,Y,E,E⟩
 ·have h:=of_decide_eq_false h
  refine rg ?_;conv=>whnf
  refine Ac E (.cons .tmp .nil) (congrArg Aa ?_) E
  exact Dc (fun i hi=>by simpa using hI i hi qn)
theorem W8 (l:List Port) (p:Port→Bool) (f:FuncId) (first cap:List SV) (hc:(SV.clo (.func f) first cap).inn []=true) (hf:∀ x∈l,Jn Tryz.prog f (first++[Bj x]++cap) (Ad (p x))) (hl:Ar l) :
  Sy.Spec Tryz.prog 281 [.sl 7 Bj l,.clo (.func f) first cap] [] (Aa (Dh p l)) []:=Ab Γ hm 100 F281 Tryz.ntmps281 rfl fun F hF=>by
 unfold Ar at hl
 have hin:∀ x:Port,Co [] (first++[Bj x]++cap)=true:=fun x=>Dl hc rfl
 conv=>whnf
 refine A2 l.length (fun j=>Dd (fun _ x=>!(p x)) l j) (fun j=>[(0,.sl 7 Bj l),(1,.clo (.func f) first cap),(7,Aa l.length),(8,Aa j)]) (fun _=>[]) [] (A5 _ _) ⟨⟨E,E,Bo _,hc,E,E,E,E,Y⟩,Y,E,E⟩ ?_
 intro j hj hI
 refine rg ?_;conv=>whnf
 refine⟨fun h=>?_,fun h=>?_⟩
 ·have h:=of_decide_eq_true h
  have hj2:j<l.length:=by omega
  refine rg ?_;conv=>whnf
  refine⟨E,by omega,by omega,?_⟩
  conv=>whnf
  refine Ex (hf l[j] (List.getElem_mem hj2)) E E E (by simp only[hin];rfl) E E ?_
  refine rg ?_;conv=>whnf
  refine⟨fun h2=>?_,fun h2=>?_⟩
  ·refine rg ?_;conv=>whnf
   refine Ac E (.cons .tmp .nil) (congrArg Aa ?_) E
   exact C1 hj2 (fun i hi hij=>by simpa using hI i hi hij) h2
  ·refine rg ?_;conv=>whnf
   refine⟨by unfold I64;omega,?_⟩
   conv=>whnf
   exact Aw [] hI hj2 (A3 hI hj2 (by simp[h2])) ⟨⟨E,E,Bo _,hc,E,E,E,E,Y⟩,Y,E,E⟩
 ·have h:=of_decide_eq_false h
  refine rg ?_;conv=>whnf
  refine Ac E (.cons .tmp .nil) (congrArg Aa ?_) E
  exact Dc (fun i hi=>by simpa using hI i hi qn)
theorem Am6 (l:List Port) (p:Nat→Port→Bool) (f:FuncId) (first cap:List SV) (hc:(SV.clo (.func f) first cap).inn []=true) (hf:∀ i (h:i<l.length),Jn Tryz.prog f (first++[Aa i,Bj l[i]]++cap) (Ad (p i l[i]))) (hl:Ar l) :
  Sy.Spec Tryz.prog 118 [.sl 7 Bj l,.clo (.func f) first cap] [] (Ad (C8 p l)) []:=Ab Γ hm 100 F118 Tryz.ntmps118 rfl fun F hF=>by
 unfold Ar at hl
 have hin:∀ (i:Nat) (x:Port),Co [] (first++[Aa i,Bj x]++cap)=true:=fun i x=>Dl hc rfl
 conv=>whnf
 refine A2 l.length (fun j=>Dd p l j) (fun j=>[(0,.sl 7 Bj l),(1,.clo (.func f) first cap),(7,.sl 7 Bj l),(8,Aa l.length),(9,Aa j)]) (fun _=>[]) [] (A5 _ _) ⟨⟨E,E,Bo _,hc,E,E,E,E,E,E,Y⟩,Y,E,E⟩ ?_
 intro j hj hI
 refine rg ?_;conv=>whnf
 refine⟨fun h=>?_,fun h=>?_⟩
 ·have h:=of_decide_eq_true h
  have hj2:j<l.length:=by omega
  refine rg ?_;conv=>whnf
  refine⟨E,by omega,by omega,?_⟩
  conv=>whnf
  refine Ex (hf j hj2) E E E (by simp only[hin];rfl) E E ?_
  refine rg ?_;conv=>whnf
  refine⟨fun h2=>?_,fun h2=>?_⟩
  ·refine rg ?_;conv=>whnf
   refine Ac E (.cons .tmp .nil) (congrArg Ad ?_) E
   exact Be hj2 (by simpa using h2)
  ·refine rg ?_;conv=>whnf
   refine⟨by unfold I64;omega,?_⟩
   conv=>whnf
   exact Aw [] hI hj2 (A3 hI hj2 (by simpa using h2)) ⟨⟨E,E,Bo _,hc,E,E,E,E,E,E,Y⟩,Y,E,E⟩
 ·have h:=of_decide_eq_false h
  refine rg ?_;conv=>whnf
  refine Ac E (.cons .tmp .nil) (congrArg Ad ?_) E
  exact Cc hI qn
theorem Am7 (l:List Link) (p:Nat→Link→Bool) (f:FuncId) (first cap:List SV) (hc:(SV.clo (.func f) first cap).inn []=true) (hf:∀ i (h:i<l.length),Jn Tryz.prog f (first++[Aa i,Cu l[i]]++cap) (Ad (p i l[i]))) (hl:Ar l) :
  Sy.Spec Tryz.prog 120 [.sl 3 Cu l,.clo (.func f) first cap] [] (Ad (C8 p l)) []:=Ab Γ hm 100 F120 Tryz.ntmps120 rfl fun F hF=>by
 unfold Ar at hl
 have hin:∀ (i:Nat) (x:Link),Co [] (first++[Aa i,Cu x]++cap)=true:=fun i x=>Dl hc rfl
 conv=>whnf
 refine A2 l.length (fun j=>Dd p l j) (fun j=>[(0,.sl 3 Cu l),(1,.clo (.func f) first cap),(7,.sl 3 Cu l),(8,Aa l.length),(9,Aa j)]) (fun _=>[]) [] (A5 _ _) ⟨⟨E,E,Bo _,hc,E,E,E,E,E,E,Y⟩,Y,E,E⟩ ?_
 intro j hj hI
 refine rg ?_;conv=>whnf
 refine⟨fun h=>?_,fun h=>?_⟩
 ·have h:=of_decide_eq_true h
  have hj2:j<l.length:=by omega
  refine rg ?_;conv=>whnf
  refine⟨E,by omega,by omega,?_⟩
  conv=>whnf
  refine Ex (hf j hj2) E E E (by simp only[hin];rfl) E E ?_
  refine rg ?_;conv=>whnf
  refine⟨fun h2=>?_,fun h2=>?_⟩
  ·refine rg ?_;conv=>whnf
   refine Ac E (.cons .tmp .nil) (congrArg Ad ?_) E
   exact Be hj2 (by simpa using h2)
  ·refine rg ?_;conv=>whnf
   refine⟨by unfold I64;omega,?_⟩
   conv=>whnf
   exact Aw [] hI hj2 (A3 hI hj2 (by simpa using h2)) ⟨⟨E,E,Bo _,hc,E,E,E,E,E,E,Y⟩,Y,E,E⟩
 ·have h:=of_decide_eq_false h
  refine rg ?_;conv=>whnf
  refine Ac E (.cons .tmp .nil) (congrArg Ad ?_) E
  exact Cc hI qn
theorem W1 (l:List Domain) (p:Nat→Domain→Bool) (f:FuncId) (first cap:List SV) (hc:(SV.clo (.func f) first cap).inn []=true) (hf:∀ i (h:i<l.length),Jn Tryz.prog f (first++[Aa i,A1 l[i]]++cap) (Ad (p i l[i]))) (hl:Ar l) :
  Sy.Spec Tryz.prog 115 [.sl 6 A1 l,.clo (.func f) first cap] [] (Ad (C8 p l)) []:=Ab Γ hm 100 F115 Tryz.ntmps115 rfl fun F hF=>by
 unfold Ar at hl
 have hin:∀ (i:Nat) (x:Domain),Co [] (first++[Aa i,A1 x]++cap)=true:=fun i x=>Dl hc rfl
 conv=>whnf
 refine A2 l.length (fun j=>Dd p l j) (fun j=>[(0,.sl 6 A1 l),(1,.clo (.func f) first cap),(7,.sl 6 A1 l),(8,Aa l.length),(9,Aa j)]) (fun _=>[]) [] (A5 _ _) ⟨⟨E,E,Bo _,hc,E,E,E,E,E,E,Y⟩,Y,E,E⟩ ?_
 intro j hj hI
 refine rg ?_;conv=>whnf
 refine⟨fun h=>?_,fun h=>?_⟩
 ·have h:=of_decide_eq_true h
  have hj2:j<l.length:=by omega
  refine rg ?_;conv=>whnf
  refine⟨E,by omega,by omega,?_⟩
  conv=>whnf
  refine Ex (hf j hj2) E E E (by simp only[hin];rfl) E E ?_
  refine rg ?_;conv=>whnf
  refine⟨fun h2=>?_,fun h2=>?_⟩
  ·refine rg ?_;conv=>whnf
   refine Ac E (.cons .tmp .nil) (congrArg Ad ?_) E
   exact Be hj2 (by simpa using h2)
  ·refine rg ?_;conv=>whnf
   refine⟨by unfold I64;omega,?_⟩
   conv=>whnf
   exact Aw [] hI hj2 (A3 hI hj2 (by simpa using h2)) ⟨⟨E,E,Bo _,hc,E,E,E,E,E,E,Y⟩,Y,E,E⟩
 ·have h:=of_decide_eq_false h
  refine rg ?_;conv=>whnf
  refine Ac E (.cons .tmp .nil) (congrArg Ad ?_) E
  exact Cc hI qn
theorem Agr (l:List Static) (p:Nat→Static→Bool) (f:FuncId) (first cap:List SV) (hc:(SV.clo (.func f) first cap).inn []=true) (hf:∀ i (h:i<l.length),Jn Tryz.prog f (first++[Aa i,Br l[i]]++cap) (Ad (p i l[i]))) (hl:Ar l) :
  Sy.Spec Tryz.prog 122 [.sl 4 Br l,.clo (.func f) first cap] [] (Ad (C8 p l)) []:=Ab Γ hm 100 F122 Tryz.ntmps122 rfl fun F hF=>by
 unfold Ar at hl
 have hin:∀ (i:Nat) (x:Static),Co [] (first++[Aa i,Br x]++cap)=true:=fun i x=>Dl hc rfl
 conv=>whnf
 refine A2 l.length (fun j=>Dd p l j) (fun j=>[(0,.sl 4 Br l),(1,.clo (.func f) first cap),(7,.sl 4 Br l),(8,Aa l.length),(9,Aa j)]) (fun _=>[]) [] (A5 _ _) ⟨⟨E,E,Bo _,hc,E,E,E,E,E,E,Y⟩,Y,E,E⟩ ?_
 intro j hj hI
 refine rg ?_;conv=>whnf
 refine⟨fun h=>?_,fun h=>?_⟩
 ·have h:=of_decide_eq_true h
  have hj2:j<l.length:=by omega
  refine rg ?_;conv=>whnf
  refine⟨E,by omega,by omega,?_⟩
  conv=>whnf
  refine Ex (hf j hj2) E E E (by simp only[hin];rfl) E E ?_
  refine rg ?_;conv=>whnf
  refine⟨fun h2=>?_,fun h2=>?_⟩
  ·refine rg ?_;conv=>whnf
   refine Ac E (.cons .tmp .nil) (congrArg Ad ?_) E
   exact Be hj2 (by simpa using h2)
  ·refine rg ?_;conv=>whnf
   refine⟨by unfold I64;omega,?_⟩
   conv=>whnf
   exact Aw [] hI hj2 (A3 hI hj2 (by simpa using h2)) ⟨⟨E,E,Bo _,hc,E,E,E,E,E,E,Y⟩,Y,E,E⟩
 ·have h:=of_decide_eq_false h
  refine rg ?_;conv=>whnf
  refine Ac E (.cons .tmp .nil) (congrArg Ad ?_) E
  exact Cc hI qn
theorem Ajq (l:List Flood) (p:Nat→Flood→Bool) (f:FuncId) (first cap:List SV) (hc:(SV.clo (.func f) first cap).inn []=true) (hf:∀ i (h:i<l.length),Jn Tryz.prog f (first++[Aa i,Ca l[i]]++cap) (Ad (p i l[i]))) (hl:Ar l) :
  Sy.Spec Tryz.prog 124 [.sl 4 Ca l,.clo (.func f) first cap] [] (Ad (C8 p l)) []:=Ab Γ hm 100 F124 Tryz.ntmps124 rfl fun F hF=>by
 unfold Ar at hl
 have hin:∀ (i:Nat) (x:Flood),Co [] (first++[Aa i,Ca x]++cap)=true:=fun i x=>Dl hc rfl
 conv=>whnf
 refine A2 l.length (fun j=>Dd p l j) (fun j=>[(0,.sl 4 Ca l),(1,.clo (.func f) first cap),(7,.sl 4 Ca l),(8,Aa l.length),(9,Aa j)]) (fun _=>[]) [] (A5 _ _) ⟨⟨E,E,Bo _,hc,E,E,E,E,E,E,Y⟩,Y,E,E⟩ ?_
 intro j hj hI
 refine rg ?_;conv=>whnf
 refine⟨fun h=>?_,fun h=>?_⟩
 ·have h:=of_decide_eq_true h
  have hj2:j<l.length:=by omega
  refine rg ?_;conv=>whnf
  refine⟨E,by omega,by omega,?_⟩
  conv=>whnf
  refine Ex (hf j hj2) E E E (by simp only[hin];rfl) E E ?_
  refine rg ?_;conv=>whnf
  refine⟨fun h2=>?_,fun h2=>?_⟩
  ·refine rg ?_;conv=>whnf
   refine Ac E (.cons .tmp .nil) (congrArg Ad ?_) E
   exact Be hj2 (by simpa using h2)
  ·refine rg ?_;conv=>whnf
   refine⟨by unfold I64;omega,?_⟩
   conv=>whnf
   exact Aw [] hI hj2 (A3 hI hj2 (by simpa using h2)) ⟨⟨E,E,Bo _,hc,E,E,E,E,E,E,Y⟩,Y,E,E⟩
 ·have h:=of_decide_eq_false h
  refine rg ?_;conv=>whnf
  refine Ac E (.cons .tmp .nil) (congrArg Ad ?_) E
  exact Cc hI qn
theorem Aql (l:List Vrf) (p:Nat→Vrf→Bool) (f:FuncId) (first cap:List SV) (hc:(SV.clo (.func f) first cap).inn []=true) (hf:∀ i (h:i<l.length),Jn Tryz.prog f (first++[Aa i,C6 l[i]]++cap) (Ad (p i l[i]))) (hl:Ar l) :
  Sy.Spec Tryz.prog 127 [.sl 5 C6 l,.clo (.func f) first cap] [] (Ad (C8 p l)) []:=Ab Γ hm 100 F127 Tryz.ntmps127 rfl fun F hF=>by
 unfold Ar at hl
 have hin:∀ (i:Nat) (x:Vrf),Co [] (first++[Aa i,C6 x]++cap)=true:=fun i x=>Dl hc rfl
 conv=>whnf
 refine A2 l.length (fun j=>Dd p l j) (fun j=>[(0,.sl 5 C6 l),(1,.clo (.func f) first cap),(7,.sl 5 C6 l),(8,Aa l.length),(9,Aa j)]) (fun _=>[]) [] (A5 _ _) ⟨⟨E,E,Bo _,hc,E,E,E,E,E,E,Y⟩,Y,E,E⟩ ?_
 intro j hj hI
 refine rg ?_;conv=>whnf
 refine⟨fun h=>?_,fun h=>?_⟩
 ·have h:=of_decide_eq_true h
  have hj2:j<l.length:=by omega
  refine rg ?_;conv=>whnf
  refine⟨E,by omega,by omega,?_⟩
  conv=>whnf
  refine Ex (hf j hj2) E E E (by simp only[hin];rfl) E E ?_
  refine rg ?_;conv=>whnf
  refine⟨fun h2=>?_,fun h2=>?_⟩
  ·refine rg ?_;conv=>whnf
   refine Ac E (.cons .tmp .nil) (congrArg Ad ?_) E
   exact Be hj2 (by simpa using h2)
  ·refine rg ?_;conv=>whnf
   refine⟨by unfold I64;omega,?_⟩
   conv=>whnf
   exact Aw [] hI hj2 (A3 hI hj2 (by simpa using h2)) ⟨⟨E,E,Bo _,hc,E,E,E,E,E,E,Y⟩,Y,E,E⟩
 ·have h:=of_decide_eq_false h
  refine rg ?_;conv=>whnf
  refine Ac E (.cons .tmp .nil) (congrArg Ad ?_) E
  exact Cc hI qn
theorem Aqm (l:List Irb) (p:Nat→Irb→Bool) (f:FuncId) (first cap:List SV) (hc:(SV.clo (.func f) first cap).inn []=true) (hf:∀ i (h:i<l.length),Jn Tryz.prog f (first++[Aa i,Du l[i]]++cap) (Ad (p i l[i]))) (hl:Ar l) :
  Sy.Spec Tryz.prog 130 [.sl 5 Du l,.clo (.func f) first cap] [] (Ad (C8 p l)) []:=Ab Γ hm 100 F130 Tryz.ntmps130 rfl fun F hF=>by
 unfold Ar at hl
 have hin:∀ (i:Nat) (x:Irb),Co [] (first++[Aa i,Du x]++cap)=true:=fun i x=>Dl hc rfl
 conv=>whnf
 refine A2 l.length (fun j=>Dd p l j) (fun j=>[(0,.sl 5 Du l),(1,.clo (.func f) first cap),(7,.sl 5 Du l),(8,Aa l.length),(9,Aa j)]) (fun _=>[]) [] (A5 _ _) ⟨⟨E,E,Bo _,hc,E,E,E,E,E,E,Y⟩,Y,E,E⟩ ?_
 intro j hj hI
 refine rg ?_;conv=>whnf
 refine⟨fun h=>?_,fun h=>?_⟩
 ·have h:=of_decide_eq_true h
  have hj2:j<l.length:=by omega
  refine rg ?_;conv=>whnf
  refine⟨E,by omega,by omega,?_⟩
  conv=>whnf
  refine Ex (hf j hj2) E E E (by simp only[hin];rfl) E E ?_
  refine rg ?_;conv=>whnf
  refine⟨fun h2=>?_,fun h2=>?_⟩
  ·refine rg ?_;conv=>whnf
   refine Ac E (.cons .tmp .nil) (congrArg Ad ?_) E
   exact Be hj2 (by simpa using h2)
  ·refine rg ?_;conv=>whnf
   refine⟨by unfold I64;omega,?_⟩
   conv=>whnf
   exact Aw [] hI hj2 (A3 hI hj2 (by simpa using h2)) ⟨⟨E,E,Bo _,hc,E,E,E,E,E,E,Y⟩,Y,E,E⟩
 ·have h:=of_decide_eq_false h
  refine rg ?_;conv=>whnf
  refine Ac E (.cons .tmp .nil) (congrArg Ad ?_) E
  exact Cc hI qn
theorem Aqk (l:List Int) (p:Nat→Int→Bool) (f:FuncId) (first cap:List SV) (hc:(SV.clo (.func f) first cap).inn []=true) (hf:∀ i (h:i<l.length),Jn Tryz.prog f (first++[Aa i,Aa l[i]]++cap) (Ad (p i l[i]))) (hl:Ar l) :
  Sy.Spec Tryz.prog 192 [.sl 1 Aa l,.clo (.func f) first cap] [] (Ad (C8 p l)) []:=Ab Γ hm 100 F192 Tryz.ntmps192 rfl fun F hF=>by
 unfold Ar at hl
 have hin:∀ (i:Nat) (x:Int),Co [] (first++[Aa i,Aa x]++cap)=true:=fun i x=>Dl hc rfl
 conv=>whnf
 refine A2 l.length (fun j=>Dd p l j) (fun j=>[(0,.sl 1 Aa l),(1,.clo (.func f) first cap),(7,.sl 1 Aa l),(8,Aa l.length),(9,Aa j)]) (fun _=>[]) [] (A5 _ _) ⟨⟨E,E,Bo _,hc,E,E,E,E,E,E,Y⟩,Y,E,E⟩ ?_
 intro j hj hI
 refine rg ?_;conv=>whnf
 refine⟨fun h=>?_,fun h=>?_⟩
 ·have h:=of_decide_eq_true h
  have hj2:j<l.length:=by omega
  refine rg ?_;conv=>whnf
  refine⟨E,by omega,by omega,?_⟩
  conv=>whnf
  refine Ex (hf j hj2) E E E (by simp only[hin];rfl) E E ?_
  refine rg ?_;conv=>whnf
  refine⟨fun h2=>?_,fun h2=>?_⟩
  ·refine rg ?_;conv=>whnf
   refine Ac E (.cons .tmp .nil) (congrArg Ad ?_) E
   exact Be hj2 (by simpa using h2)
  ·refine rg ?_;conv=>whnf
   refine⟨by unfold I64;omega,?_⟩
   conv=>whnf
   exact Aw [] hI hj2 (A3 hI hj2 (by simpa using h2)) ⟨⟨E,E,Bo _,hc,E,E,E,E,E,E,Y⟩,Y,E,E⟩
 ·have h:=of_decide_eq_false h
  refine rg ?_;conv=>whnf
  refine Ac E (.cons .tmp .nil) (congrArg Ad ?_) E
  exact Cc hI qn
structure Net.Fin (n:Net):Prop where
 devices:Ar n.devices
 ports:Ar n.ports
 links:Ar n.links
 domains:Ar n.domains
 statics:Ar n.statics
 floods:Ar n.floods
 vrfs:Ar n.vrfs
 irbs:Ar n.irbs
 tagged:∀ p∈n.ports,Ar p.tagged
 peers:∀ d∈n.domains,Ar d.peers
 addrs:∀ f∈n.floods,Ar f.addrs
 imports:∀ v∈n.vrfs,Ar v.imports
 exports:∀ v∈n.vrfs,Ar v.exports
def Zq (n:Net) (dev vlan:Int):Int:=Dh (fun d=>d.dev == dev && d.vlan == vlan) n.domains
theorem Ar4 (dev vlan:Int) (d:Domain):Sy.Spec Tryz.prog 263 [A1 d,.ref 1 (Aa dev) 0,.ref 1 (Aa vlan) 0] [] (Ad (d.dev == dev && d.vlan == vlan)) []:=Ab Γ hm 100 F263 Tryz.ntmps263 rfl fun F hF=>by
 conv=>whnf
 (repeat' (first | (refine⟨fun h=>?_,fun h=>?_⟩<;>(repeat (first | simp only[beq_iff_eq]at h | simp only[beq_eq_false_iff_ne]at h))<;>((refine rg ?_);(conv=>whnf))) | (refine Ac rfl (.cons .tmp .nil) ?_ rfl)))
 all_goals (refine congrArg Ad ?_)
 all_goals simp_all
theorem Mn (n:Net) (dev vlan:Int) (hl:Ar n.domains):Sy.Spec Tryz.prog 191 [Ap n,Aa dev,Aa vlan] [] (Aa (Zq n dev vlan)) []:=Ab Γ hm 100 F191 Tryz.ntmps191 rfl fun F hF=>by
 conv=>whnf
 refine Bg 4 1 (Aa dev) E E E ?_
 refine Bg 5 1 (Aa vlan) E E E ?_
 refine Ah (Ig n.domains (fun d=>d.dev == dev && d.vlan == vlan) 263 [] [.ref 1 (Aa dev) 0,.ref 1 (Aa vlan) 0] E (fun d _=>⟨⟨_,_,F263⟩,Ar4 dev vlan d⟩) hl) F262 E E E E E ?_
 refine rg ?_;conv=>whnf
 exact Ac E (.cons .tmp .nil) E E
def Ams (n:Net):Bool:=decide (n.devices.length≤8) && decide (n.ports.length≤40) && decide (n.links.length≤20) && decide (n.domains.length≤48) && decide (n.statics.length≤64) && decide (n.floods.length≤48) && decide (n.vrfs.length≤16) && decide (n.irbs.length≤48)
theorem fewS (n:Net):Sy.Spec Tryz.prog 114 [Ap n] [] (Ad (Ams n)) []:=Ab Γ hm 100 F114 Tryz.ntmps114 rfl fun F hF=>by
 conv=>whnf
 (repeat' (first | (refine⟨fun h=>?_,fun h=>?_⟩<;>(repeat (first | simp only[decide_eq_true_eq]at h | simp only[decide_eq_false_iff_not]at h))<;>((refine rg ?_);(conv=>whnf);repeat((refine aF ?_);(refine rg ?_);(conv=>whnf)))) | (refine Ac rfl (.cons .tmp .nil) ?_ rfl)))
 all_goals (refine congrArg Ad ?_)
 all_goals (unfold Ams;rw[Bool.eq_iff_iff];simp;omega)
def Io (n:Net) (i:Nat) (d:Domain):Bool :=
 Al d.dev n.devices.length && decide (1≤d.vlan) && decide (d.vlan≤4094) && decide (0≤d.vni) && decide (d.vni≤16777215) && (d.irb == -1 || Al d.irb n.irbs.length && (nth n.irbs d.irb).domain == i) && Zq n d.dev d.vlan == i
theorem bareS (n:Net) (i:Nat) (d:Domain) (hl:Ar n.domains):Sy.Spec Tryz.prog 116 [Ap n,Aa i,A1 d] [] (Ad (Io n i d)) []:=Ab Γ hm 100 F116 Tryz.ntmps116 rfl fun F hF=>by
 conv=>whnf
 (repeat' (first | (refine⟨fun h=>?_,fun h=>?_⟩<;>(repeat (first | simp only[Al]at h | simp only[decide_eq_true_eq]at h | simp only[decide_eq_false_iff_not]at h | simp only[beq_iff_eq]at h | simp only[beq_eq_false_iff_ne]at h | simp only[Bool.and_eq_true]at h | simp only[Bool.and_eq_false_iff]at h))<;>((refine rg ?_);(conv=>whnf);repeat((first|refine aF ?_|refine aT ?_);(refine rg ?_);(conv=>whnf)))) | (refine Ac rfl (.cons .tmp .nil) ?_ rfl) | (refine⟨qy,?_⟩;((conv=>whnf))) | (refine⟨by (omega),by (omega),?_⟩;((conv=>whnf))) | (refine Ah (Hf 5 Bt n.devices d.dev) F126 rfl rfl rfl rfl rfl ?_;((refine rg ?_);(conv=>whnf))) | (refine Ah (Ah2 5 Du n.irbs d.irb) F190 rfl rfl rfl rfl rfl ?_;((refine rg ?_);(conv=>whnf))) | (refine Ah (Mn n d.dev d.vlan hl) F191 rfl rfl rfl rfl rfl ?_;((refine rg ?_);(conv=>whnf)))))
 all_goals (refine congrArg Ad ?_)
 all_goals (clear hF;grind [Io,Al,Ao])
def Ady (n:Net) (d:Domain):Bool:=(nth n.devices d.dev).vtep != 0
theorem Asm (n:Net) (d:Domain) (hd:Al d.dev n.devices.length=true):Sy.Spec Tryz.prog 264 [Ap n,A1 d] [] (Ad (Ady n d)) []:=Ab Γ hm 100 F264 Tryz.ntmps264 rfl fun F hF=>by
 simp only[Al,Bool.and_eq_true,decide_eq_true_eq]at hd
 conv=>whnf
 (repeat' (first | (refine Ac rfl (.cons .tmp .nil) ?_ rfl) | (refine⟨qy,?_⟩;((conv=>whnf))) | (refine⟨by (omega),by (omega),?_⟩;((conv=>whnf)))))
 all_goals (refine congrArg Ad ?_)
 all_goals (clear hF;grind [Ady,Ao])
def Ou (n:Net) (i:Nat) (d:Domain) (k:Int):Bool :=
 Al k n.domains.length && k != i && Al (nth n.domains k).dev n.devices.length && (nth n.domains k).dev != d.dev && (nth n.domains k).vni == d.vni && d.vni != 0 && Ady n (nth n.domains k) && Ady n d && inB (nth n.domains k).peers i
theorem peerS (n:Net) (i:Nat) (d:Domain) (k:Int) (hn:n.Fin) (hd:Al d.dev n.devices.length=true):Sy.Spec Tryz.prog 194 [Ap n,Aa i,A1 d,Aa k] [] (Ad (Ou n i d k)) []:=Ab Γ hm 100 F194 Tryz.ntmps194 rfl fun F hF=>by
 conv=>whnf
 (repeat' (first | (refine⟨fun h=>?_,fun h=>?_⟩<;>(repeat (first | simp only[Al]at h | simp only[decide_eq_true_eq]at h | simp only[decide_eq_false_iff_not]at h | simp only[beq_iff_eq]at h | simp only[beq_eq_false_iff_ne]at h | simp only[bne_iff_ne]at h | simp only[bne_eq_false_iff_eq]at h | simp only[Bool.and_eq_true]at h | simp only[Bool.and_eq_false_iff]at h | simp only[Bool.not_eq_true']at h | simp only[Bool.not_eq_false']at h))<;>((refine rg ?_);(conv=>whnf);repeat((first|refine aF ?_|refine aT ?_);(refine rg ?_);(conv=>whnf)))) | (refine Ac rfl (.cons .tmp .nil) ?_ rfl) | (refine⟨qy,?_⟩;((conv=>whnf))) | (refine⟨by (omega),by (omega),?_⟩;((conv=>whnf))) | (refine Ah (I1 6 A1 n.domains k) F197 rfl rfl rfl rfl rfl ?_;((refine rg ?_);(conv=>whnf))) | (refine Ah (Hf 5 Bt n.devices (n.domains[k.toNat]'qn).dev) F126 rfl rfl rfl rfl rfl ?_;((refine rg ?_);(conv=>whnf))) | (refine Ah (Asm n (n.domains[k.toNat]'qn) (by simp only[Al,Bool.and_eq_true,decide_eq_true_eq];omega)) F264 rfl rfl rfl rfl rfl ?_;((refine rg ?_);(conv=>whnf))) | (refine Ah (Asm n d hd) F264 rfl rfl rfl rfl rfl ?_;((refine rg ?_);(conv=>whnf))) | (refine Ah (D2 (n.domains[k.toNat]'qn).peers i (hn.peers _ (List.getElem_mem _))) F86 rfl rfl rfl rfl rfl ?_;((refine rg ?_);(conv=>whnf)))))
 all_goals (refine congrArg Ad ?_;clear hF;grind [Ou,Al,Ao])
def Ot (n:Net) (i:Nat) (d:Domain):Bool:=C8 (fun at_ k=>Ou n i d k && Dh (· == k) d.peers == at_) d.peers
theorem peers1 (n:Net) (i:Nat) (d:Domain) (at_:Nat) (k:Int) (hn:n.Fin) (hp:Ar d.peers) (hd:Al d.dev n.devices.length=true) :
  Sy.Spec Tryz.prog 193 [Aa at_,Aa k,.ref 8 (Ap n) 0,.ref 1 (Aa i) 0,.ref 6 (A1 d) 0] [] (Ad (Ou n i d k && Dh (· == k) d.peers == at_)) []:=Ab Γ hm 100 F193 Tryz.ntmps193 rfl fun F hF=>by
 conv=>whnf
 (repeat' (first | (refine⟨fun h=>?_,fun h=>?_⟩<;>((refine rg ?_);(conv=>whnf))) | (refine Ac rfl (.cons .tmp .nil) ?_ rfl) | (refine Ah (peerS n i d k hn hd) F194 rfl rfl rfl rfl rfl ?_;((refine rg ?_);(conv=>whnf))) | (refine Ah (Api d.peers k hp) F161 rfl rfl rfl rfl rfl ?_;((refine rg ?_);(conv=>whnf)))))
 all_goals (refine congrArg Ad ?_;clear hF;grind)
theorem peersS (n:Net) (i:Nat) (d:Domain) (hn:n.Fin) (hp:Ar d.peers) (hd:Al d.dev n.devices.length=true):Sy.Spec Tryz.prog 117 [Ap n,Aa i,A1 d] [] (Ad (Ot n i d)) []:=Ab Γ hm 100 F117 Tryz.ntmps117 rfl fun F hF=>by
 conv=>whnf
 refine Bg 3 8 (Ap n) E E E ?_
 refine Bg 4 1 (Aa i) E E E ?_
 refine Bg 5 6 (A1 d) E E E ?_
 refine Ah (Aqk d.peers (fun at_ k=>Ou n i d k && Dh (· == k) d.peers == at_) 193 [] [.ref 8 (Ap n) 0,.ref 1 (Aa i) 0,.ref 6 (A1 d) 0] E (fun a ha=>⟨⟨_,_,F193⟩,peers1 n i d a d.peers[a] hn hp hd⟩) hp) F192 E E E E E ?_
 refine rg ?_;conv=>whnf
 exact Ac E (.cons .tmp .nil) E E
def Ck (n:Net) (dev vlan:Int):Bool:=decide (0≤Zq n dev vlan)
def Eu (n:Net) (i:Nat) (p:Port):Bool :=
 Al p.dev n.devices.length && decide (0≤p.native) && decide (p.native≤4094) && (decide (p.tagged.length=0) || Dp p.tagged 1 4094) && !inB p.tagged p.native && !(p.native == 0 && decide (p.tagged.length=0)) &&
  C8 (fun _ v=>Ck n p.dev v) p.tagged && !(decide (0<p.native) && !Ck n p.dev p.native) &&
  (p.link == -1 || Al p.link n.links.length && ((nth n.links p.link).a == i || (nth n.links p.link).b == i))
theorem Aiu (n:Net) (i:Nat) (p:Port) (hn:n.Fin) (hp:Ar p.tagged):Sy.Spec Tryz.prog 119 [Ap n,Aa i,Bj p] [] (Ad (Eu n i p)) []:=Ab Γ hm 100 F119 Tryz.ntmps119 rfl fun F hF=>by
 conv=>whnf
 (repeat' (first | (refine⟨fun h=>?_,fun h=>?_⟩<;>(repeat (first | simp only[Al]at h | simp only[decide_eq_true_eq]at h | simp only[decide_eq_false_iff_not]at h | simp only[beq_iff_eq]at h | simp only[beq_eq_false_iff_ne]at h | simp only[Bool.and_eq_true]at h | simp only[Bool.or_eq_true]at h | simp only[Bool.and_eq_false_iff]at h | simp only[Bool.or_eq_false_iff]at h | simp only[Bool.not_eq_true']at h | simp only[Bool.not_eq_false']at h))<;>((refine rg ?_);(conv=>whnf);repeat((first|refine aF ?_|refine aT ?_);(refine rg ?_);(conv=>whnf)))) | (refine Ac rfl (.cons .tmp .nil) ?_ rfl) | (refine Ah (Hf 5 Bt n.devices p.dev) F126 rfl rfl rfl rfl rfl ?_;((refine rg ?_);(conv=>whnf))) | (refine Ah (Ach p.tagged 4094 hp) F129 rfl rfl rfl rfl rfl ?_;((refine rg ?_);(conv=>whnf))) | (refine Ah (D2 p.tagged p.native hp) F86 rfl rfl rfl rfl rfl ?_;((refine rg ?_);(conv=>whnf)))))
 all_goals first | (refine congrArg Ad ?_;clear hF;grind [Eu,Al]) | skip
 all_goals (
  refine Bg 3 8 (Ap n) E E E ?_
  refine Bg 5 7 (Bj p) E E E ?_
  refine A2 p.tagged.length (fun j=>Dd (fun _ v=>Ck n p.dev v) p.tagged j) (fun j=>[(1,Aa i),(3,.ref 8 (Ap n) 0),(5,.ref 7 (Bj p) 0),(51,.sl 1 Aa p.tagged),(52,Aa p.tagged.length),(53,Aa j)]) (fun _=>[]) [] (A5 _ _) ⟨⟨E,E,E,E,E,E,E,E,E,E,E,E,Y⟩,Y,E,E⟩ ?_
  intro j hj hI
  have hsh:=hp
  unfold Ar at hsh
  ((first|refine rG Γ hm ?_|refine rD Γ hm qy ?_);(conv=>whnf);repeat((first|refine aF ?_|refine aT ?_);(first|refine rG Γ hm ?_|refine rD Γ hm qy ?_);conv=>whnf)))
 all_goals (
  (repeat' (first | (refine⟨fun h=>?_,fun h=>?_⟩<;>(repeat (first | simp only[Al]at h | simp only[decide_eq_true_eq]at h | simp only[decide_eq_false_iff_not]at h | simp only[beq_iff_eq]at h | simp only[beq_eq_false_iff_ne]at h | simp only[Bool.and_eq_true]at h | simp only[Bool.and_eq_false_iff]at h))<;>((refine rg ?_);(conv=>whnf);repeat((refine aF ?_);(refine rg ?_);(conv=>whnf)))) | (refine Ac rfl (.cons .tmp .nil) ?_ rfl) | (refine⟨qy,?_⟩;((conv=>whnf))) | (refine⟨by (omega),by (omega),?_⟩;((conv=>whnf))) | (refine⟨by (unfold I64;omega),?_⟩;((conv=>whnf))) | (refine Ah (Mn n p.dev (p.tagged[j]'qn) hn.domains) F191 rfl rfl rfl rfl rfl ?_;((refine rg ?_);(conv=>whnf))) | (refine Ah (Mn n p.dev p.native hn.domains) F191 rfl rfl rfl rfl rfl ?_;((refine rg ?_);(conv=>whnf))) | (refine Ah (Ae8 3 Cu n.links p.link) F195 rfl rfl rfl rfl rfl ?_;((refine rg ?_);(conv=>whnf))) | refine Aw [] hI qn ?_ ⟨⟨rfl,rfl,rfl,rfl,rfl,rfl,rfl,rfl,rfl,rfl,rfl,rfl,trivial⟩,trivial,rfl,rfl⟩)))
 all_goals first
  | exact A3 hI qn (by simp only[Ck,decide_eq_true_eq];omega)
  | (refine congrArg Ad ?_
     have h0:C8 (fun _ v=>Ck n p.dev v) p.tagged=false:=Be (i:=j) qn (by simp only[Ck,decide_eq_false_iff_not];omega)
     clear hF hI;grind [Eu])
  | (refine congrArg Ad ?_
     have h0:C8 (fun _ v=>Ck n p.dev v) p.tagged=true:=Cc hI qn
     clear hF hI;grind [Eu,Al,Ck,Ao])
def Ki (n:Net) (i:Nat) (l:Link):Bool :=
 Al l.a n.ports.length && Al l.b n.ports.length && (nth n.ports l.a).dev != (nth n.ports l.b).dev && (nth n.ports l.a).link == i && (nth n.ports l.b).link == i
theorem Aiv (n:Net) (i:Nat) (l:Link):Sy.Spec Tryz.prog 121 [Ap n,Aa i,Cu l] [] (Ad (Ki n i l)) []:=Ab Γ hm 100 F121 Tryz.ntmps121 rfl fun F hF=>by
 conv=>whnf
 (repeat' (first | (refine⟨fun h=>?_,fun h=>?_⟩<;>(repeat (first | simp only[Al]at h | simp only[decide_eq_true_eq]at h | simp only[decide_eq_false_iff_not]at h | simp only[beq_iff_eq]at h | simp only[beq_eq_false_iff_ne]at h | simp only[bne_iff_ne]at h | simp only[bne_eq_false_iff_eq]at h | simp only[Bool.and_eq_true]at h | simp only[Bool.and_eq_false_iff]at h | simp only[Bool.not_eq_true']at h | simp only[Bool.not_eq_false']at h))<;>((refine rg ?_);(conv=>whnf);repeat((first|refine aF ?_|refine aT ?_);(refine rg ?_);(conv=>whnf)))) | (refine Ac rfl (.cons .tmp .nil) ?_ rfl) | (refine⟨qy,?_⟩;((conv=>whnf))) | (refine⟨by (omega),by (omega),?_⟩;((conv=>whnf))) | (refine Ah (Oq 7 Bj n.ports l.a) F196 rfl rfl rfl rfl rfl ?_;((refine rg ?_);(conv=>whnf))) | (refine Ah (Oq 7 Bj n.ports l.b) F196 rfl rfl rfl rfl rfl ?_;((refine rg ?_);(conv=>whnf)))))
 all_goals (refine congrArg Ad ?_;clear hF;grind [Ki,Al,Ao])
def Hi (n:Net) (s:Static):Bool :=
 Al s.domain n.domains.length && Al s.port n.ports.length && (nth n.ports s.port).dev == (nth n.domains s.domain).dev && Ie (nth n.ports s.port) (nth n.domains s.domain).vlan
theorem Ac8 (n:Net) (i:Nat) (s:Static) (hn:n.Fin):Sy.Spec Tryz.prog 123 [Ap n,Aa i,Br s] [] (Ad (Hi n s)) []:=Ab Γ hm 100 F123 Tryz.ntmps123 rfl fun F hF=>by
 conv=>whnf
 (repeat' (first | (refine⟨fun h=>?_,fun h=>?_⟩<;>(repeat (first | simp only[Al]at h | simp only[decide_eq_true_eq]at h | simp only[decide_eq_false_iff_not]at h | simp only[beq_iff_eq]at h | simp only[beq_eq_false_iff_ne]at h | simp only[Bool.and_eq_true]at h | simp only[Bool.and_eq_false_iff]at h | simp only[Bool.not_eq_true']at h | simp only[Bool.not_eq_false']at h))<;>((refine rg ?_);(conv=>whnf);repeat((refine aT ?_);(refine rg ?_);(conv=>whnf)))) | (refine Ac rfl (.cons .tmp .nil) ?_ rfl) | (refine⟨qy,?_⟩;((conv=>whnf))) | (refine⟨by (omega),by (omega),?_⟩;((conv=>whnf))) | (refine Ah (I1 6 A1 n.domains s.domain) F197 rfl rfl rfl rfl rfl ?_;((refine rg ?_);(conv=>whnf))) | (refine Ah (Oq 7 Bj n.ports s.port) F196 rfl rfl rfl rfl rfl ?_;((refine rg ?_);(conv=>whnf))) | (refine Ah (Ac2 (n.ports[s.port.toNat]'qn) (n.domains[s.domain.toNat]'qn).vlan (hn.tagged _ (List.getElem_mem _))) F198 rfl rfl rfl rfl rfl ?_;((refine rg ?_);(conv=>whnf)))))
 all_goals (refine congrArg Ad ?_;clear hF;grind [Hi,Al,Ao])
def Vy (n:Net) (i:Nat) (x:Irb):Bool :=
 Al x.domain n.domains.length && Al x.vrf n.vrfs.length && (nth n.domains x.domain).dev == (nth n.vrfs x.vrf).dev && (nth n.domains x.domain).irb == i && decide (1≤x.bits) && decide (x.bits≤30)
theorem Amh (n:Net) (i:Nat) (x:Irb):Sy.Spec Tryz.prog 131 [Ap n,Aa i,Du x] [] (Ad (Vy n i x)) []:=Ab Γ hm 100 F131 Tryz.ntmps131 rfl fun F hF=>by
 conv=>whnf
 (repeat' (first | (refine⟨fun h=>?_,fun h=>?_⟩<;>(repeat (first | simp only[Al]at h | simp only[decide_eq_true_eq]at h | simp only[decide_eq_false_iff_not]at h | simp only[beq_iff_eq]at h | simp only[beq_eq_false_iff_ne]at h | simp only[Bool.and_eq_true]at h | simp only[Bool.and_eq_false_iff]at h))<;>((refine rd qy ?_);(conv=>whnf);repeat((refine aF ?_);(refine rd qy ?_);(conv=>whnf)))) | (refine Ac rfl (.cons .tmp .nil) ?_ rfl) | (refine⟨qy,?_⟩;((conv=>whnf))) | (refine⟨by (omega),by (omega),?_⟩;((conv=>whnf))) | (refine Au (I1 6 A1 n.domains x.domain) F197 rfl rfl rfl qy rfl ?_;((refine rd qy ?_);(conv=>whnf))) | (refine Au (Ah1 5 C6 n.vrfs x.vrf) F200 rfl rfl rfl qy rfl ?_;((refine rd qy ?_);(conv=>whnf)))))
 all_goals (refine congrArg Ad ?_;clear hF;grind [Vy,Al,Ao])
def Lg (n:Net) (f:Flood):Bool:=Al f.dev n.devices.length && decide (f.addrs.length≤16)
theorem right1 (n:Net) (i:Nat) (f:Flood):Sy.Spec Tryz.prog 125 [Aa i,Ca f,.ref 8 (Ap n) 0] [] (Ad (Lg n f)) []:=Ab Γ hm 100 F125 Tryz.ntmps125 rfl fun F hF=>by
 conv=>whnf
 (repeat' (first | (refine⟨fun h=>?_,fun h=>?_⟩<;>(repeat (first | simp only[Al]at h | simp only[decide_eq_true_eq]at h | simp only[decide_eq_false_iff_not]at h | simp only[Bool.and_eq_true]at h | simp only[Bool.and_eq_false_iff]at h))<;>((refine rg ?_);(conv=>whnf))) | (refine Ac rfl (.cons .tmp .nil) ?_ rfl) | (refine Ah (Hf 5 Bt n.devices f.dev) F126 rfl rfl rfl rfl rfl ?_;((refine rg ?_);(conv=>whnf)))))
 all_goals (refine congrArg Ad ?_;clear hF;grind [Lg,Al])
def Aeq (l:List Int) (most:Int):Bool:=decide (l.length=0) || Dp l 1 most
def Zz (n:Net) (v:Vrf):Bool:=Al v.dev n.devices.length && Aeq v.imports 65535 && Aeq v.exports 65535
theorem right2 (n:Net) (i:Nat) (v:Vrf) (h1:Ar v.imports) (h2:Ar v.exports):Sy.Spec Tryz.prog 128 [Aa i,C6 v,.ref 8 (Ap n) 0] [] (Ad (Zz n v)) []:=Ab Γ hm 100 F128 Tryz.ntmps128 rfl fun F hF=>by
 conv=>whnf
 (repeat' (first | (refine⟨fun h=>?_,fun h=>?_⟩<;>(repeat (first | simp only[Al]at h | simp only[decide_eq_true_eq]at h | simp only[decide_eq_false_iff_not]at h | simp only[Bool.and_eq_true]at h | simp only[Bool.or_eq_true]at h | simp only[Bool.and_eq_false_iff]at h | simp only[Bool.or_eq_false_iff]at h))<;>((refine rg ?_);(conv=>whnf);repeat((refine aF ?_);(refine rg ?_);(conv=>whnf)))) | (refine Ac rfl (.cons .tmp .nil) ?_ rfl) | (refine Ah (Hf 5 Bt n.devices v.dev) F126 rfl rfl rfl rfl rfl ?_;((refine rg ?_);(conv=>whnf))) | (refine Ah (Ach v.imports 65535 h1) F129 rfl rfl rfl rfl rfl ?_;((refine rg ?_);(conv=>whnf))) | (refine Ah (Ach v.exports 65535 h2) F129 rfl rfl rfl rfl rfl ?_;((refine rg ?_);(conv=>whnf)))))
 all_goals (refine congrArg Ad ?_;clear hF;grind [Zz,Aeq,Al])
def Ag (n:Net):Bool :=
 Ams n && C8 (Io n) n.domains && C8 (Ot n) n.domains && C8 (Eu n) n.ports && C8 (Ki n) n.links && C8 (fun _=>Hi n) n.statics && C8 (fun _=>Lg n) n.floods && C8 (fun _=>Zz n) n.vrfs && C8 (Vy n) n.irbs
theorem L7 {n:Net} (h:C8 (Io n) n.domains=true) {i:Nat} (hi:i<n.domains.length):Al n.domains[i].dev n.devices.length=true:=by
 have:=allB_iff.1 h i hi
 simp only[Io,Bool.and_eq_true]at this
 exact this.1.1.1.1.1.1
theorem B5 (n:Net) (hn:n.Fin):Sy.Spec Tryz.prog 67 [Ap n] [] (Ad (Ag n)) []:=Ab Γ hm 100 F67 Tryz.ntmps67 rfl fun F hF=>by
 conv=>whnf
 refine Bg 1 8 (Ap n) E E E ?_
 (repeat' (first | (refine⟨fun h=>?_,fun h=>?_⟩<;>((refine rg ?_);(conv=>whnf);repeat((refine aF ?_);(refine rg ?_);(conv=>whnf)))) | (refine Ac rfl (.cons .tmp .nil) ?_ rfl) | (refine Ah (fewS n) F114 rfl rfl rfl rfl rfl ?_;((refine rg ?_);(conv=>whnf))) | (refine Ah (W1 n.domains (Io n) 116 [Ap n] [] rfl (fun i h=>⟨⟨_,_,F116⟩,bareS n i n.domains[i] hn.domains⟩) hn.domains) F115 rfl rfl rfl rfl rfl ?_;((refine rg ?_);(conv=>whnf))) | (refine Ah (W1 n.domains (Ot n) 117 [Ap n] [] rfl (fun i h=>⟨⟨_,_,F117⟩,peersS n i n.domains[i] hn (hn.peers _ (List.getElem_mem _)) (L7 ‹_› h)⟩) hn.domains) F115 rfl rfl rfl rfl rfl ?_;((refine rg ?_);(conv=>whnf))) | (refine Ah (Am6 n.ports (Eu n) 119 [Ap n] [] rfl (fun i h=>⟨⟨_,_,F119⟩,Aiu n i n.ports[i] hn (hn.tagged _ (List.getElem_mem _))⟩) hn.ports) F118 rfl rfl rfl rfl rfl ?_;((refine rg ?_);(conv=>whnf))) | (refine Ah (Am7 n.links (Ki n) 121 [Ap n] [] rfl (fun i h=>⟨⟨_,_,F121⟩,Aiv n i n.links[i]⟩) hn.links) F120 rfl rfl rfl rfl rfl ?_;((refine rg ?_);(conv=>whnf))) | (refine Ah (Agr n.statics (fun _=>Hi n) 123 [Ap n] [] rfl (fun i h=>⟨⟨_,_,F123⟩,Ac8 n i n.statics[i] hn⟩) hn.statics) F122 rfl rfl rfl rfl rfl ?_;((refine rg ?_);(conv=>whnf))) | (refine Ah (Ajq n.floods (fun _=>Lg n) 125 [] [.ref 8 (Ap n) 0] rfl (fun i h=>⟨⟨_,_,F125⟩,right1 n i n.floods[i]⟩) hn.floods) F124 rfl rfl rfl rfl rfl ?_;((refine rg ?_);(conv=>whnf))) | (refine Ah (Aql n.vrfs (fun _=>Zz n) 128 [] [.ref 8 (Ap n) 0] rfl (fun i h=>⟨⟨_,_,F128⟩,right2 n i n.vrfs[i] (hn.imports _ (List.getElem_mem _)) (hn.exports _ (List.getElem_mem _))⟩) hn.vrfs) F127 rfl rfl rfl rfl rfl ?_;((refine rg ?_);(conv=>whnf))) | (refine Ah (Aqm n.irbs (Vy n) 131 [Ap n] [] rfl (fun i h=>⟨⟨_,_,F131⟩,Amh n i n.irbs[i]⟩) hn.irbs) F130 rfl rfl rfl rfl rfl ?_;((refine rg ?_);(conv=>whnf)))))
 all_goals (refine congrArg Ad ?_)
 all_goals (clear hF;simp_all[Ag])
theorem Ap4 {n:Net} (h:Ag n=true) {i:Nat} (hi:i<n.ports.length):Eu n i n.ports[i]=true:=by
 simp only[Ag,Bool.and_eq_true]at h
 exact allB_iff.1 h.1.1.1.1.1.2 i hi
theorem e_dom {n:Net} (h:Ag n=true) {i:Nat} (hi:i<n.domains.length):Io n i n.domains[i]=true:=by
 simp only[Ag,Bool.and_eq_true]at h
 exact allB_iff.1 h.1.1.1.1.1.1.1.2 i hi
theorem Agf {n:Net} (h:Ag n=true) {i:Nat} (hi:i<n.domains.length) :
  (0≤n.domains[i].dev∧n.domains[i].dev.toNat<n.devices.length)∧(1≤n.domains[i].vlan∧n.domains[i].vlan≤4094)∧(0≤n.domains[i].vni∧n.domains[i].vni≤16777215)∧(n.domains[i].irb=-1∨0≤n.domains[i].irb∧n.domains[i].irb.toNat<n.irbs.length):=by
 have:=e_dom h hi
 simp only[Io,Al,Bool.and_eq_true,Bool.or_eq_true,decide_eq_true_eq,beq_iff_eq]at this
 omega
def El (p:Nat→Bool) (j:Nat):List Int:=((List.range j).filter p).map Int.ofNat
theorem Ms (p:Nat→Bool) (j:Nat):El p (j+1)=if p j=true then El p j++[(j:Int)] else El p j:=by
 rw[El,List.range_succ,List.filter_append,List.map_append]
 split
 ·rename_i h
  rw[List.filter_cons_of_pos (by exact h),List.filter_nil];rfl
 ·rename_i h
  rw[List.filter_cons_of_neg (by exact h),List.filter_nil,List.map_nil,List.append_nil];rfl
theorem Eh (p:Nat→Bool) (j:Nat):(El p j).length≤j:=by
 have:=List.length_filter_le p (List.range j)
 simpa [El] using this
theorem filtI_mem {p:Nat→Bool} {j:Nat} {x:Int}:x∈El p j↔0≤x∧x<j∧p x.toNat=true:=by
 simp only[El,List.mem_map,List.mem_filter,List.mem_range]
 constructor
 ·rintro ⟨i,h1,rfl⟩
  exact⟨Int.natCast_nonneg i,by simp;omega,h1.2⟩
 ·rintro ⟨h1,h2,h3⟩
  exact⟨x.toNat,⟨by omega,h3⟩,Int.toNat_of_nonneg h1⟩
def Jd (n:Net) (d:Domain) (i:Nat):Bool:=(nth n.ports i).dev == d.dev && Ie (nth n.ports i) d.vlan
def A0 (n:Net) (i:Int):List Int:=El (Jd n (nth n.domains i)) n.ports.length
def Ch (n:Net) (i:Int):List Int:=if (0≤i∧i<n.domains.length)∧Ag n=true then A0 n i else []
theorem Id (n:Net) (hn:n.Fin) (i:Int):Ar (Ch n i):=by
 have:=hn.ports
 unfold Ar at this ⊢
 unfold Ch
 split
 ·have:=Eh (Jd n (nth n.domains i)) n.ports.length
  unfold A0
  omega
 ·simp
theorem Z9 (n:Net) (hn:n.Fin) (i:Int):Sy.Spec Tryz.prog 288 [Ap n,Aa i] [] (.sl 1 Aa (Ch n i)) []:=Ab Γ hm 100 F288 Tryz.ntmps288 rfl fun F hF=>by
 have hr:=B5 n hn
 have hpl:=I1 6 A1 n.domains i
 have hsp:=hn.ports
 unfold Ar at hsp
 conv=>whnf
 refine Ah hr F67 E E E E E ?_
 cases hb:Ag n
 ·rw[Ch,if_neg (by simp[hb])]
  (refine rg ?_;(conv=>whnf);refine aT ?_;refine rg ?_;(conv=>whnf);refine aT ?_;refine rg ?_;conv=>whnf)
  refine An 4 1 Aa E ?_
  refine rg ?_;conv=>whnf
  exact Ac E (.cons .tmp .nil) E E
 (refine rg ?_;(conv=>whnf);refine aF ?_;refine rg ?_;conv=>whnf)
 refine Ah hpl F197 E E E E E ?_
 by_cases hi:0≤i∧i<n.domains.length
 rotate_left
 ·have h0:Al i n.domains.length=false:=by simp only[Al,Bool.and_eq_false_iff,decide_eq_false_iff_not];omega
  rw[Ch,if_neg (by simp[hb,hi]),h0]
  (refine rg ?_;(conv=>whnf);refine aT ?_;refine rg ?_;conv=>whnf)
  refine An 4 1 Aa E ?_
  refine rg ?_;conv=>whnf
  exact Ac E (.cons .tmp .nil) E E
 have h0:Al i n.domains.length=true:=by simp only[Al,Bool.and_eq_true,decide_eq_true_eq];exact hi
 rw[Ch,if_pos ⟨hi,hb⟩,h0]
 have hk:i.toNat<n.domains.length:=by omega
 have hf:=Agf hb hk
 have e1:nth n.domains i=n.domains[i.toNat]:=Ao hk
 rw[A0,e1]
 obtain ⟨d,hd⟩:∃ d,n.domains[i.toNat]=d:=⟨_,rfl⟩
 rw[hd]at hf ⊢
 refine Bg 2 8 (Ap n) E E E ?_
 (refine rg ?_;(conv=>whnf);refine aF ?_;refine rg ?_;conv=>whnf)
 refine Bm 5 1000 1 Aa E E ?_
 refine At n.ports.length (fun j=>[(1,Aa i),(2,.ref 8 (Ap n) 0),(5,.osl 1000),(19,.sl 7 Bj n.ports),(20,Aa n.ports.length),(21,Aa j)]) (fun j=>[(1000,.row 1 Aa (El (Jd n d) j))]) []
  ⟨⟨rfl,rfl,rfl,rfl,rfl,rfl,rfl,rfl,rfl,rfl,rfl,rfl,trivial⟩,⟨.inl rfl,rfl,trivial⟩,rfl,rfl⟩ ?_
 intro j hj
 refine rg ?_;conv=>whnf
 refine⟨fun h=>?_,fun h=>?_⟩
 ·have hlt:j<n.ports.length:=by simpa using h
  have hsucc:=Ms (Jd n d) j
  have hfl:=Eh (Jd n d) j
  have hin:Jd n d j=((n.ports[j]).dev == d.dev && Ie n.ports[j] d.vlan):=by
   rw[Jd,Ao (l:=n.ports) (i:=(j:Int)) (by simpa using hlt)];rfl
  rw[hin]at hsucc
  have e1:n.ports[(j:Int).toNat]'qn=n.ports[j]:=rfl
  have hms:=Ac2 n.ports[j] d.vlan (hn.tagged _ (List.getElem_mem _))
  obtain ⟨p,hp⟩:∃ p,n.ports[j]=p:=⟨_,rfl⟩
  rw[hp]at e1 hsucc hms
  obtain ⟨u,hu⟩:∃ u,El (Jd n d) j=u:=⟨_,rfl⟩
  rw[hu]at hsucc hfl ⊢
  refine rg ?_;conv=>whnf
  refine⟨E,by omega,by omega,?_⟩
  rw[e1]
  conv=>whnf
  refine⟨E,hi.1,hk,?_⟩
  rw[hd]
  conv=>whnf
  refine⟨fun h2=>?_,fun h2=>?_⟩
  ·have h3:∃ k:Nat,(k:Int)=i:=⟨i.toNat,by omega⟩
   rw[h2,Bool.true_and]at hsucc
   refine rd qy ?_;conv=>whnf
   refine⟨E,hi.1,hk,?_⟩
   rw[hd]
   conv=>whnf
   refine Au hms F198 E E E qy E ?_
   refine rd qy ?_;conv=>whnf
   refine⟨qy,?_⟩
   conv=>whnf
   refine⟨fun h4=>?_,fun h4=>?_⟩
   ·rw[if_pos h4]at hsucc
    refine rg ?_;conv=>whnf
    refine Ai (Ae Γ.toTy 48 E E E E E (.row E) (.lit (e:=Aa) (l:=[(j:Int)]) E E) za (by simp;omega) (by simp;omega)) E E ?_
    refine rg ?_;conv=>whnf
    refine⟨by unfold I64;omega,?_⟩
    conv=>whnf
    exact Aq [(1000,48)] hlt ⟨⟨E,E,E,E,E,E,E,E,E,E,E,E,Y⟩,⟨.inl (congrArg (Ob.row 1 Aa) hsucc),E,Y⟩,E,E⟩
   ·rw[if_neg (by simp[h4])]at hsucc
    refine rg ?_;conv=>whnf
    refine⟨by unfold I64;omega,?_⟩
    conv=>whnf
    exact Aq [] hlt ⟨⟨E,E,E,E,E,E,E,E,E,E,E,E,Y⟩,⟨.inl (congrArg (Ob.row 1 Aa) hsucc),E,Y⟩,E,E⟩
  ·rw[if_neg (by simp[h2])]at hsucc
   refine rd qy ?_;conv=>whnf
   refine⟨qy,?_⟩
   ((conv=>whnf);refine aF ?_;refine rg ?_;conv=>whnf)
   refine⟨by unfold I64;omega,?_⟩
   conv=>whnf
   exact Aq [] hlt ⟨⟨E,E,E,E,E,E,E,E,E,E,E,E,Y⟩,⟨.inl (congrArg (Ob.row 1 Aa) hsucc),E,Y⟩,E,E⟩
 ·have:j=n.ports.length:=by have:=of_decide_eq_false h;omega
  subst this
  refine As 1000 E ?_
  refine rg ?_;conv=>whnf
  exact Ac E (.cons .tmp .nil) E E
theorem Ade (n:Net) (hn:n.Fin) (l:List Domain) (p:Domain→Bool) (f:FuncId) (first cap:List SV) (hc:(SV.clo (.func f) first cap).inn []=true) (hf:∀ x∈l,Jn Tryz.prog f (first++[A1 x]++cap) (Ad (p x))) (hl:Ar l) :
  Sy.Spec Tryz.prog 238 [Ap n,.sl 6 A1 l,.clo (.func f) first cap] [] (Aa (if Ag n=true then Dh p l else -1)) []:=Ab Γ hm 100 F238 Tryz.ntmps238 rfl fun F hF=>by
 have hr:=B5 n hn
 have q:=Ig l p f first cap hc hf hl
 conv=>whnf
 refine Ah hr F67 E E E E E ?_
 cases hb:Ag n
 ·rw[if_neg za]
  (refine rg ?_;(conv=>whnf);refine aT ?_;refine rg ?_;conv=>whnf)
  exact Ac E (.cons .tmp .nil) E E
 rw[if_pos rfl]
 (refine rg ?_;(conv=>whnf);refine aF ?_;refine rg ?_;conv=>whnf)
 refine Ah q F262 E E (by simp only[Co,hc,Bool.and_true];rfl) E E ?_
 refine rg ?_;conv=>whnf
 exact Ac E (.cons .tmp .nil) E E
theorem Acz (dev vlan:Int) (d:Domain):Sy.Spec Tryz.prog 239 [A1 d,.ref 1 (Aa dev) 0,.ref 1 (Aa vlan) 0] [] (Ad (d.dev == dev && d.vlan == vlan)) []:=Ab Γ hm 100 F239 Tryz.ntmps239 rfl fun F hF=>by
 conv=>whnf
 (repeat' (first | (refine⟨fun h=>?_,fun h=>?_⟩<;>(repeat (first | simp only[beq_iff_eq]at h | simp only[beq_eq_false_iff_ne]at h))<;>((refine rg ?_);(conv=>whnf))) | (refine Ac rfl (.cons .tmp .nil) ?_ rfl)))
 all_goals (refine congrArg Ad ?_)
 all_goals simp_all
def K6 (n:Net) (dev vlan:Int):Int:=if Ag n=true then Zq n dev vlan else -1
theorem Ul (n:Net) (hn:n.Fin) (dev vlan:Int):Sy.Spec Tryz.prog 169 [Ap n,Aa dev,Aa vlan] [] (Aa (K6 n dev vlan)) []:=Ab Γ hm 100 F169 Tryz.ntmps169 rfl fun F hF=>by
 have q:=Ade n hn n.domains (fun d=>d.dev == dev && d.vlan == vlan) 239 [] [.ref 1 (Aa dev) 0,.ref 1 (Aa vlan) 0] rfl (fun d _=>⟨⟨_,_,F239⟩,Acz dev vlan d⟩) hn.domains
 conv=>whnf
 refine Bg 4 1 (Aa dev) E E E ?_
 refine Bg 5 1 (Aa vlan) E E E ?_
 refine Ah q F238 E E E E E ?_
 refine rg ?_;conv=>whnf
 exact Ac E (.cons .tmp .nil) E E
def Eb (n:Net) (i:Int):Int :=
 if (0≤i∧i<n.ports.length)∧0≤(nth n.ports i).link∧Ag n=true then
  (if (nth n.links (nth n.ports i).link).a=i then (nth n.links (nth n.ports i).link).b else (nth n.links (nth n.ports i).link).a) else -1
theorem K5 {n:Net} (h:Ag n=true) {i:Nat} (hi:i<n.ports.length) (hl:0≤n.ports[i].link) :
  n.ports[i].link.toNat<n.links.length∧((nth n.links n.ports[i].link).a=i∨(nth n.links n.ports[i].link).b=i):=by
 have:=Ap4 h hi
 simp only[Eu,Al,Bool.and_eq_true,Bool.or_eq_true,decide_eq_true_eq,beq_iff_eq]at this
 rcases this.2 with h1 | h1
 ·omega
 ·exact⟨by omega,h1.2⟩
theorem Ac4 (n:Net) (hn:n.Fin) (i:Int):Sy.Spec Tryz.prog 258 [Ap n,Aa i] [] (Aa (Eb n i)) []:=Ab Γ hm 100 F258 Tryz.ntmps258 rfl fun F hF=>by
 have hr:=B5 n hn
 conv=>whnf
 refine⟨fun h=>?_,fun h=>?_⟩
 ·have h1:i<0:=of_decide_eq_true h
  rw[Eb,if_neg qn]
  (refine rg ?_;(conv=>whnf);refine aT ?_;refine rg ?_;(conv=>whnf);refine aT ?_;refine rg ?_;(conv=>whnf);refine aT ?_;refine rg ?_;conv=>whnf)
  exact Ac E (.cons .tmp .nil) E E
 have h1:0≤i:=by have:=of_decide_eq_false h;omega
 refine rg ?_;conv=>whnf
 refine⟨fun h=>?_,fun h=>?_⟩
 ·have h2:n.ports.length≤i:=of_decide_eq_true h
  rw[Eb,if_neg qn]
  (refine rg ?_;(conv=>whnf);refine aT ?_;refine rg ?_;(conv=>whnf);refine aT ?_;refine rg ?_;conv=>whnf)
  exact Ac E (.cons .tmp .nil) E E
 have h2:i<n.ports.length:=by have:=of_decide_eq_false h;omega
 have hk:i.toNat<n.ports.length:=by omega
 have e1:nth n.ports i=n.ports[i.toNat]:=Ao hk
 have hlk:=fun (hb:Ag n=true)=>K5 hb hk
 rw[Eb,e1]
 obtain ⟨p,hp⟩:∃ p,n.ports[i.toNat]=p:=⟨_,rfl⟩
 rw[hp]at hlk ⊢
 refine rg ?_;conv=>whnf
 refine⟨E,h1,hk,?_⟩
 rw[hp]
 conv=>whnf
 refine⟨fun h=>?_,fun h=>?_⟩
 ·have h3:p.link<0:=of_decide_eq_true h
  rw[if_neg qn]
  (refine rg ?_;(conv=>whnf);refine aT ?_;refine rg ?_;conv=>whnf)
  exact Ac E (.cons .tmp .nil) E E
 have h3:0≤p.link:=by have:=of_decide_eq_false h;omega
 refine rg ?_;conv=>whnf
 refine Ah hr F67 E E E E E ?_
 cases hb:Ag n
 ·rw[if_neg za]
  (refine rg ?_;(conv=>whnf);refine aT ?_;refine rg ?_;conv=>whnf)
  exact Ac E (.cons .tmp .nil) E E
 rw[if_pos ⟨⟨h1,h2⟩,h3,rfl⟩]
 have hq:=hlk hb h3
 have e2:nth n.links p.link=n.links[p.link.toNat]:=Ao hq.1
 rw[e2]
 obtain ⟨l,hl⟩:∃ l,n.links[p.link.toNat]'hq.1=l:=⟨_,rfl⟩
 rw[hl]
 (refine rg ?_;(conv=>whnf);refine aF ?_;refine rg ?_;conv=>whnf)
 refine⟨E,h1,hk,?_⟩
 rw[hp]
 conv=>whnf
 refine⟨E,h3,hq.1,?_⟩
 rw[hl]
 conv=>whnf
 refine⟨qy,?_⟩
 conv=>whnf
 refine⟨fun h=>?_,fun h=>?_⟩
 ·have h4:l.a=i:=by simpa using h
  rw[if_pos h4]
  refine rg ?_;conv=>whnf
  exact Ac E (.cons .tmp .nil) E E
 ·have h4:¬ l.a=i:=by simpa using h
  rw[if_neg h4]
  refine rg ?_;conv=>whnf
  exact Ac E (.cons .tmp .nil) E E
theorem Kk (l:List Int) (p:Int→Bool) (f:FuncId) (first cap:List SV) (hc:(SV.clo (.func f) first cap).inn []=true) (hf:∀ x∈l,Jn Tryz.prog f (first++[Aa x]++cap) (Ad (p x))) (hl:Ar l) :
  Sy.Spec Tryz.prog 321 [.sl 1 Aa l,.clo (.func f) first cap] [] (Aa (Dh p l)) []:=Ab Γ hm 100 F321 Tryz.ntmps321 rfl fun F hF=>by
 unfold Ar at hl
 have hin:∀ x:Int,Co [] (first++[Aa x]++cap)=true:=fun x=>Dl hc rfl
 conv=>whnf
 refine A2 l.length (fun j=>Dd (fun _ x=>!(p x)) l j) (fun j=>[(0,.sl 1 Aa l),(1,.clo (.func f) first cap),(7,Aa l.length),(8,Aa j)]) (fun _=>[]) [] (A5 _ _) ⟨⟨E,E,Bo _,hc,E,E,E,E,Y⟩,Y,E,E⟩ ?_
 intro j hj hI
 refine rg ?_;conv=>whnf
 refine⟨fun h=>?_,fun h=>?_⟩
 ·have h:=of_decide_eq_true h
  have hj2:j<l.length:=by omega
  refine rg ?_;conv=>whnf
  refine⟨E,by omega,by omega,?_⟩
  conv=>whnf
  refine Ex (hf l[j] (List.getElem_mem hj2)) E E E (by simp only[hin];rfl) E E ?_
  refine rg ?_;conv=>whnf
  refine⟨fun h2=>?_,fun h2=>?_⟩
  ·refine rg ?_;conv=>whnf
   refine Ac E (.cons .tmp .nil) (congrArg Aa ?_) E
   exact C1 hj2 (fun i hi hij=>by simpa using hI i hi hij) h2
  ·refine rg ?_;conv=>whnf
   refine⟨by unfold I64;omega,?_⟩
   conv=>whnf
   exact Aw [] hI hj2 (A3 hI hj2 (by simp[h2])) ⟨⟨E,E,Bo _,hc,E,E,E,E,Y⟩,Y,E,E⟩
 ·have h:=of_decide_eq_false h
  refine rg ?_;conv=>whnf
  refine Ac E (.cons .tmp .nil) (congrArg Aa ?_) E
  exact Dc (fun i hi=>by simpa using hI i hi qn)
theorem U8 (l:List Int) (p:Int→Bool) (f:FuncId) (first cap:List SV) (hc:(SV.clo (.func f) first cap).inn []=true) (hf:∀ x∈l,Jn Tryz.prog f (first++[Aa x]++cap) (Ad (p x))) (hl:Ar l) :
  Sy.Spec Tryz.prog 345 [.sl 1 Aa l,.clo (.func f) first cap] [] (Ad (decide (0≤Dh p l))) []:=Ab Γ hm 100 F345 Tryz.ntmps345 rfl fun F hF=>by
 have h0:Co [] [.sl 1 Aa l,.clo (.func f) first cap]=true:=by simp only[Co,hc];rfl
 conv=>whnf
 refine Ah (Kk l p f first cap hc hf hl) F321 E E (by simp only[h0];rfl) E E ?_
 refine rg ?_;conv=>whnf
 exact Ac E (.cons .tmp .nil) E E
theorem Aqv (v:Vrf) (hv:Ar v.imports) (t:Int):Sy.Spec Tryz.prog 344 [Aa t,.ref 5 (C6 v) 0] [] (Ad (inB v.imports t)) []:=Ab Γ hm 100 F344 Tryz.ntmps344 rfl fun F hF=>by
 have q:=D2 v.imports t hv
 conv=>whnf
 refine Ah q F86 E E E E E ?_
 refine rg ?_;conv=>whnf
 exact Ac E (.cons .tmp .nil) E E
def leaksB (n:Net) (i k:Int):Bool:=i == k || (nth n.vrfs i).dev == (nth n.vrfs k).dev && decide (0≤Dh (inB (nth n.vrfs k).imports) (nth n.vrfs i).exports)
theorem Agx (n:Net) (hn:n.Fin) (hb:Ag n=true) (i k:Int) (hi:0≤i∧i.toNat<n.vrfs.length) (hk:0≤k∧k.toNat<n.vrfs.length) :
  Sy.Spec Tryz.prog 332 [Ap n,Aa i,Aa k] [] (Ad (leaksB n i k)) []:=Ab Γ hm 100 F332 Tryz.ntmps332 rfl fun F hF=>by
 have hr:=B5 n hn
 rw[hb]at hr
 have him:=hn.imports _ (List.getElem_mem hk.2)
 have hex:=hn.exports _ (List.getElem_mem hi.2)
 rw[leaksB,Ao hi.2,Ao hk.2]
 obtain ⟨a,ha⟩:∃ a,n.vrfs[i.toNat]'hi.2=a:=⟨_,rfl⟩
 obtain ⟨b,hbb⟩:∃ b,n.vrfs[k.toNat]'hk.2=b:=⟨_,rfl⟩
 rw[ha]at hex ⊢
 rw[hbb]at him ⊢
 have q:=U8 a.exports (inB b.imports) 344 [] [.ref 5 (C6 b) 0] rfl (fun t _=>⟨⟨_,_,F344⟩,Aqv b him t⟩) hex
 conv=>whnf
 refine⟨fun h=>absurd (of_decide_eq_true h) qn,fun _=>?_⟩
 refine rg ?_;conv=>whnf
 refine⟨fun h=>absurd (of_decide_eq_true h) qn,fun _=>?_⟩
 refine rg ?_;conv=>whnf
 refine⟨fun h=>absurd (of_decide_eq_true h) qn,fun _=>?_⟩
 refine rg ?_;conv=>whnf
 refine⟨fun h=>absurd (of_decide_eq_true h) qn,fun _=>?_⟩
 refine rg ?_;conv=>whnf
 refine Ah hr F67 E E E E E ?_
 (refine rg ?_;(conv=>whnf);refine aF ?_;refine rg ?_;conv=>whnf)
 refine⟨E,hi.1,hi.2,?_⟩
 rw[ha]
 conv=>whnf
 refine⟨E,hk.1,hk.2,?_⟩
 rw[hbb]
 conv=>whnf
 refine⟨qy,?_⟩
 conv=>whnf
 refine⟨fun h=>?_,fun h=>?_⟩
 ·rw[h,Bool.true_or]
  refine rg ?_;conv=>whnf
  exact Ac E (.cons .tmp .nil) E E
 rw[h,Bool.false_or]
 refine rg ?_;conv=>whnf
 refine⟨fun h=>?_,fun h=>?_⟩
 ·rw[h,Bool.true_and]
  refine Bg 8 5 (C6 b) E E E ?_
  refine rg ?_;conv=>whnf
  refine Ah q F345 E E E E E ?_
  refine rg ?_;conv=>whnf
  exact Ac E (.cons .tmp .nil) E E
 ·rw[h,Bool.false_and]
  refine rg ?_;conv=>whnf
  exact Ac E (.cons .tmp .nil) E E
def D0 (n:Net) (i:Int):Int:=(nth n.domains (nth n.irbs i).domain).dev
theorem Ast {n:Net} (h:Ag n=true) {i:Nat} (hi:i<n.irbs.length):Vy n i n.irbs[i]=true:=by
 simp only[Ag,Bool.and_eq_true]at h
 exact allB_iff.1 h.2 i hi
theorem Da {n:Net} (h:Ag n=true) {i:Nat} (hi:i<n.irbs.length) :
  (0≤n.irbs[i].domain∧n.irbs[i].domain.toNat<n.domains.length)∧(0≤n.irbs[i].vrf∧n.irbs[i].vrf.toNat<n.vrfs.length)∧(0≤n.irbs[i].bits∧n.irbs[i].bits≤32):=by
 have:=Ast h hi
 simp only[Vy,Al,Bool.and_eq_true,decide_eq_true_eq]at this
 omega
theorem Jr (n:Net) (hb:Ag n=true) (i:Int) (hi:0≤i∧i.toNat<n.irbs.length):Sy.Spec Tryz.prog 297 [Ap n,Aa i] [] (Aa (D0 n i)) []:=Ab Γ hm 100 F297 Tryz.ntmps297 rfl fun F hF=>by
 have hf:=(Da hb hi.2).1
 rw[D0,Ao hi.2]
 obtain ⟨x,hx⟩:∃ x,n.irbs[i.toNat]'hi.2=x:=⟨_,rfl⟩
 rw[hx]at hf ⊢
 rw[Ao hf.2]
 obtain ⟨d,hd⟩:∃ d,n.domains[x.domain.toNat]'hf.2=d:=⟨_,rfl⟩
 rw[hd]
 conv=>whnf
 refine⟨E,hi.1,hi.2,?_⟩
 rw[hx]
 conv=>whnf
 refine⟨E,hf.1,hf.2,?_⟩
 rw[hd]
 conv=>whnf
 refine⟨qy,?_⟩
 conv=>whnf
 exact Ac E (.cons .tmp .nil) E E
def Aax (n:Net) (i k:Int):Bool:=D0 n i == D0 n k && leaksB n (nth n.irbs k).vrf (nth n.irbs i).vrf
theorem Aha (n:Net) (hn:n.Fin) (hb:Ag n=true) (i k:Int) (hi:0≤i∧i.toNat<n.irbs.length) (hk:0≤k∧k.toNat<n.irbs.length) :
  Sy.Spec Tryz.prog 299 [Ap n,Aa i,Aa k] [] (Ad (Aax n i k)) []:=Ab Γ hm 100 F299 Tryz.ntmps299 rfl fun F hF=>by
 have q1:=Jr n hb i hi
 have q2:=Jr n hb k hk
 have f1:=(Da hb hi.2).2.1
 have f2:=(Da hb hk.2).2.1
 have q3:=Agx n hn hb _ _ f2 f1
 rw[Aax,Ao hi.2,Ao hk.2]
 obtain ⟨x,hx⟩:∃ x,n.irbs[i.toNat]'hi.2=x:=⟨_,rfl⟩
 obtain ⟨y,hy⟩:∃ y,n.irbs[k.toNat]'hk.2=y:=⟨_,rfl⟩
 rw[hx,hy]at q3
 rw[hx,hy]
 generalize D0 n i=di at *
 generalize D0 n k=dk at *
 conv=>whnf
 refine Au q1 F297 E E E qy E ?_
 refine rd qy ?_;conv=>whnf
 refine Au q2 F297 E E E qy E ?_
 refine rd qy ?_;conv=>whnf
 refine⟨fun h=>?_,fun h=>?_⟩
 ·rw[h,Bool.true_and]
  refine rd qy ?_;conv=>whnf
  refine⟨E,hk.1,hk.2,?_⟩
  rw[hy]
  conv=>whnf
  refine⟨E,hi.1,hi.2,?_⟩
  rw[hx]
  conv=>whnf
  refine Au q3 F332 E E E qy E ?_
  refine rd qy ?_;conv=>whnf
  refine⟨qy,?_⟩
  conv=>whnf
  exact Ac E (.cons .tmp .nil) E E
 ·rw[h,Bool.false_and]
  refine rd qy ?_;conv=>whnf
  refine⟨qy,?_⟩
  conv=>whnf
  exact Ac E (.cons .tmp .nil) E E
abbrev Ae9 (a b:Int):SV:=.agg [B6 a,Aa b]
theorem Aly (a b:Int) (h:0≤b∧b≤32):Sy.Spec Tryz.prog 330 [Ae9 a b] [] (Ad true) []:=Ab Γ hm 100 F330 Tryz.ntmps330 rfl fun F hF=>by
 conv=>whnf
 refine⟨fun _=>?_,fun h2=>absurd (of_decide_eq_false h2) qn⟩
 refine rg ?_;conv=>whnf
 refine Ac E (.cons .tmp .nil) (congrArg Ad ?_) E
 simp;omega
def Aes (b:Int):Int:=IntKind.u32.wrap (IntKind.u32.wrap (1 * 2 ^ (min (32-b).toNat IntKind.u32.bits))-1)
theorem Aol (a b:Int) (h:0≤b∧b≤32):Sy.Spec Tryz.prog 331 [Ae9 a b] [] (B6 (Aes b)) []:=Ab Γ hm 100 F331 Tryz.ntmps331 rfl fun F hF=>by
 conv=>whnf
 refine⟨by unfold I64;omega,?_⟩
 conv=>whnf
 refine⟨by omega,?_⟩
 conv=>whnf
 exact Ac E (.cons .tmp .nil) E E
def Aad (a b x:Int):Bool:=bits .andNot .u32 (bits .xor .u32 a x) (Aes b) == 0
theorem Aqn (a b x:Int) (h:0≤b∧b≤32):Sy.Spec Tryz.prog 298 [Ae9 a b,B6 x] [] (Ad (Aad a b x)) []:=Ab Γ hm 100 F298 Tryz.ntmps298 rfl fun F hF=>by
 have q1:=Aly a b h
 have q2:=Aol a b h
 rw[Aad]
 generalize Aes b=r at *
 conv=>whnf
 refine Au q1 F330 E E E qy E ?_
 (refine rd qy ?_;(conv=>whnf);refine aT ?_;refine rd qy ?_;conv=>whnf)
 refine Au q2 F331 E E E qy E ?_
 refine rd qy ?_;conv=>whnf
 refine⟨qy,?_⟩
 conv=>whnf
 exact Ac E (.cons .tmp .nil) E E
def Q5 (c:Int→Int→Int) (l:List Int) (j:Nat):Int:=((l.drop 1).take j).foldl (fun m x=>if 0<c x m then x else m) (nth l 0)
theorem Vt (c:Int→Int→Int) (l:List Int) (j:Nat) (h:j+1<l.length):Q5 c l (j+1)=if 0<c l[j+1] (Q5 c l j) then l[j+1] else Q5 c l j:=by
 have hl:j<(l.drop 1).length:=by rw[List.length_drop];omega
 rw[Q5,List.take_succ_eq_append_getElem hl,List.foldl_append]
 have e:(l.drop 1)[j]=l[j+1]:=by rw[List.getElem_drop];congr 1;omega
 simp only[List.foldl_cons,List.foldl_nil,e]
 rfl
theorem Un (c:Int→Int→Int) (l:List Int) (h:0<l.length):∀ j,j+1≤l.length→Q5 c l j∈l
 | 0,_=>by
  rw[Q5,List.take_zero,List.foldl_nil,Ao (l:=l) (i:=0) (by simpa using h)]
  exact List.getElem_mem _
 | j+1,hj=>by
  rw[Vt c l j qn]
  split
  ·exact List.getElem_mem _
  ·exact Un c l h j qn
theorem Ao4 (l:List Int) (c:Int→Int→Int) (f:FuncId) (first cap:List SV) (hc:(SV.clo (.func f) first cap).inn []=true) (h0:0<l.length) (hl:Ar l)
  (hf:∀ x∈l,∀ y∈l,Jn Tryz.prog f (first++[Aa x,Aa y]++cap) (Aa (c x y))) :
  Sy.Spec Tryz.prog 301 [.sl 1 Aa l,.clo (.func f) first cap] [] (Aa (Q5 c l (l.length-1))) []:=Ab Γ hm 100 F301 Tryz.ntmps301 rfl fun F hF=>by
 unfold Ar at hl
 have hin:∀ x y:Int,Co [] (first++[Aa x,Aa y]++cap)=true:=fun x y=>Dl hc rfl
 have hmem:=Un c l h0
 have hsucc:=Vt c l
 have hz:Q5 c l 0=l[0]:=by rw[Q5,List.take_zero,List.foldl_nil,Ao (l:=l) (i:=0) (by simpa using h0)];rfl
 generalize Q5 c l=m at *
 conv=>whnf
 refine⟨fun h=>absurd (of_decide_eq_true h) qn,fun _=>?_⟩
 refine rg ?_;conv=>whnf
 refine⟨E,by omega,by simpa using h0,?_⟩
 conv=>whnf
 refine At (l.length-1) (fun j=>[(0,.sl 1 Aa l),(1,.clo (.func f) first cap),(5,Aa (m j)),(6,Aa ((j:Int)+1))]) (fun _=>[]) []
  ⟨⟨rfl,rfl,Bo _,hc,congrArg Aa hz,rfl,rfl,rfl,trivial⟩,trivial,rfl,rfl⟩ ?_
 intro j hj
 have hmj:=hmem j qn
 have hsj:=hsucc j
 refine rg ?_;conv=>whnf
 refine⟨fun h=>?_,fun h=>?_⟩
 ·have hlt:j+1<l.length:=by have:=of_decide_eq_true h;omega
  have hsj:=hsj hlt
  have hk:((j:Int)+1).toNat<l.length:=by omega
  have e1:l[((j:Int)+1).toNat]'hk=l[j+1]:=by congr 1
  obtain ⟨x,hx⟩:∃ x,l[j+1]=x:=⟨_,rfl⟩
  have hxm:x∈l:=hx ▸ List.getElem_mem hlt
  rw[hx]at e1 hsj
  refine rg ?_;conv=>whnf
  refine⟨E,by omega,hk,?_⟩
  rw[e1]
  conv=>whnf
  refine Ex (hf x hxm (m j) hmj) E E E (by simp only[hin];rfl) E E ?_
  refine rg ?_;conv=>whnf
  refine⟨fun h2=>?_,fun h2=>?_⟩
  ·rw[if_pos (of_decide_eq_true h2)]at hsj
   refine rg ?_;conv=>whnf
   refine⟨E,by omega,hk,?_⟩
   rw[e1]
   conv=>whnf
   refine⟨by unfold I64;omega,?_⟩
   conv=>whnf
   exact Aq [] qn ⟨⟨E,E,Bo _,hc,congrArg Aa hsj,E,congrArg Aa qn,E,Y⟩,Y,E,E⟩
  ·rw[if_neg (of_decide_eq_false h2)]at hsj
   refine rg ?_;conv=>whnf
   refine⟨by unfold I64;omega,?_⟩
   conv=>whnf
   exact Aq [] qn ⟨⟨E,E,Bo _,hc,congrArg Aa hsj,E,congrArg Aa qn,E,Y⟩,Y,E,E⟩
 ·have:j=l.length-1:=by have:=of_decide_eq_false h;omega
  subst this
  refine rg ?_;conv=>whnf
  exact Ac E (.cons .tmp .nil) E E
def Z6 (n:Net) (irb i:Int):Int:=if (nth n.irbs i).vrf=(nth n.irbs irb).vrf then 1 else 0
abbrev InIrbs (n:Net) (i:Int):Prop:=0≤i∧i.toNat<n.irbs.length
theorem Afo (n:Net) (irb i:Int) (hi:InIrbs n i) (hk:InIrbs n irb):Sy.Spec Tryz.prog 300 [Aa i,.ref 8 (Ap n) 0,.ref 1 (Aa irb) 0] [] (Aa (Z6 n irb i)) []:=Ab Γ hm 100 F300 Tryz.ntmps300 rfl fun F hF=>by
 rw[Z6,Ao hi.2,Ao hk.2]
 obtain ⟨x,hx⟩:∃ x,n.irbs[i.toNat]'hi.2=x:=⟨_,rfl⟩
 obtain ⟨y,hy⟩:∃ y,n.irbs[irb.toNat]'hk.2=y:=⟨_,rfl⟩
 rw[hx,hy]
 conv=>whnf
 refine⟨E,hi.1,hi.2,?_⟩
 rw[hx]
 conv=>whnf
 refine⟨E,hk.1,hk.2,?_⟩
 rw[hy]
 conv=>whnf
 refine⟨qy,?_⟩
 conv=>whnf
 refine⟨fun h=>?_,fun h=>?_⟩
 ·rw[if_pos (by simpa using h)]
  refine rg ?_;conv=>whnf
  exact Ac E (.cons .tmp .nil) E E
 ·rw[if_neg (by simpa using h)]
  refine rg ?_;conv=>whnf
  exact Ac E (.cons .tmp .nil) E E
def cmpR (n:Net) (irb a b:Int):Int:=if (nth n.irbs a).bits≠(nth n.irbs b).bits then (nth n.irbs a).bits-(nth n.irbs b).bits else Z6 n irb a-Z6 n irb b
theorem Aj4 (n:Net) (irb i:Int):0≤Z6 n irb i∧Z6 n irb i≤1:=by
 unfold Z6;split<;>omega
theorem Ao6 (n:Net) (hb:Ag n=true) (irb a b:Int) (hk:InIrbs n irb) (ha:InIrbs n a) (hb2:InIrbs n b) :
  Sy.Spec Tryz.prog 302 [Aa a,Aa b,.ref 8 (Ap n) 0,.ref 1 (.clo (.func 300) [] [.ref 8 (Ap n) 0,.ref 1 (Aa irb) 0]) 0] [] (Aa (cmpR n irb a b)) []:=Ab Γ hm 100 F302 Tryz.ntmps302 rfl fun F hF=>by
 have fa:=(Da hb ha.2).2.2
 have fb:=(Da hb hb2.2).2.2
 have q1:=Afo n irb a ha hk
 have q2:=Afo n irb b hb2 hk
 have l1:=Aj4 n irb a
 have l2:=Aj4 n irb b
 rw[cmpR,Ao ha.2,Ao hb2.2]
 obtain ⟨x,hx⟩:∃ x,n.irbs[a.toNat]'ha.2=x:=⟨_,rfl⟩
 obtain ⟨y,hy⟩:∃ y,n.irbs[b.toNat]'hb2.2=y:=⟨_,rfl⟩
 rw[hx]at fa ⊢
 rw[hy]at fb ⊢
 generalize Z6 n irb a=oa at *
 generalize Z6 n irb b=ob at *
 conv=>whnf
 refine⟨E,ha.1,ha.2,?_⟩
 rw[hx]
 conv=>whnf
 refine⟨E,hb2.1,hb2.2,?_⟩
 rw[hy]
 conv=>whnf
 refine⟨qy,?_⟩
 conv=>whnf
 refine⟨fun h=>?_,fun h=>?_⟩
 ·rw[if_pos (by simpa using h)]
  refine rg ?_;conv=>whnf
  refine⟨by unfold I64;omega,?_⟩
  conv=>whnf
  exact Ac E (.cons .tmp .nil) E E
 ·rw[if_neg (by simpa using h)]
  refine rg ?_;conv=>whnf
  refine Ajg ⟨⟨_,_,F300⟩,q1⟩ E E E E qy E ?_
  refine rd qy ?_;conv=>whnf
  refine Ajg ⟨⟨_,_,F300⟩,q2⟩ E E E E qy E ?_
  refine rd qy ?_;conv=>whnf
  refine⟨by unfold I64;omega,?_⟩
  conv=>whnf
  refine⟨qy,?_⟩
  conv=>whnf
  exact Ac E (.cons .tmp .nil) E E
def Ho (n:Net) (irb dst:Int) (i:Nat):Bool:=D0 n i == D0 n irb && (nth n.irbs i).addr == dst
def Kq (n:Net) (irb dst:Int) (i:Nat):Bool:=Aad (nth n.irbs i).addr (nth n.irbs i).bits dst && Aax n irb i
def Lj (n:Net) (irb dst:Int):List Int:=El (Kq n irb dst) n.irbs.length
def lookT (n:Net) (irb dst:Int):Int × Bool :=
 if (List.range n.irbs.length).any (Ho n irb dst)=true then (0,false)
 else if Lj n irb dst=[] then (0,false) else (Q5 (cmpR n irb) (Lj n irb dst) ((Lj n irb dst).length-1),true)
theorem Arr (n:Net) (hn:n.Fin) (hb:Ag n=true) (irb dst:Int) (hk:InIrbs n irb):Sy.Spec Tryz.prog 247 [Ap n,Aa irb,B6 dst] [] (.tup [Aa (lookT n irb dst).1,Ad (lookT n irb dst).2]) []:=Ab Γ hm 100 F247 Tryz.ntmps247 rfl fun F hF=>by
 have hlk:=lookT.eq_1 n irb dst
 generalize lookT n irb dst=r at *
 have hsi:=hn.irbs
 unfold Ar at hsi
 have qk:=Jr n hb irb hk
 conv=>whnf
 refine Bg 3 8 (Ap n) E E E ?_
 refine Bg 4 1 (Aa irb) E E E ?_
 refine Bm 8 1000 1 Aa E E ?_
 refine A2 n.irbs.length (fun j=>∀ i,i<j→Ho n irb dst i=false) (fun j=>[(2,B6 dst),(3,.ref 8 (Ap n) 0),(4,.ref 1 (Aa irb) 0),(8,.osl 1000),(13,.sl 5 Du n.irbs),(14,Aa n.irbs.length),(15,Aa j)]) (fun j=>[(1000,.row 1 Aa (El (Kq n irb dst) j))]) [] (fun i hi=>absurd hi qn)
  ⟨⟨rfl,rfl,rfl,rfl,rfl,rfl,rfl,rfl,rfl,rfl,rfl,rfl,rfl,rfl,trivial⟩,⟨.inl rfl,rfl,trivial⟩,rfl,rfl⟩ ?_
 intro j hj hI
 refine rg ?_;conv=>whnf
 refine⟨fun h=>?_,fun h=>?_⟩
 ·have hlt:j<n.irbs.length:=by simpa using h
  have hij:InIrbs n (j:Int):=⟨by omega,by simpa using hlt⟩
  have qj:=Jr n hb j hij
  have hsucc:=Ms (Kq n irb dst) j
  have hfl:=Eh (Kq n irb dst) j
  have hta:Ho n irb dst j=(D0 n j == D0 n irb && (nth n.irbs j).addr == dst):=rfl
  have hwa:Kq n irb dst j=(Aad (nth n.irbs j).addr (nth n.irbs j).bits dst && Aax n irb j):=rfl
  have enj:nth n.irbs (j:Int)=n.irbs[j]:=Ao (l:=n.irbs) (i:=(j:Int)) (by simpa using hlt)
  have hf:=(Da hb hlt).2.2
  have e1:n.irbs[(j:Int).toNat]'qn=n.irbs[j]:=rfl
  rw[enj]at hta hwa
  obtain ⟨x,hx⟩:∃ x,n.irbs[j]=x:=⟨_,rfl⟩
  rw[hx]at e1 hta hwa hf
  have q1:=Aqn x.addr x.bits dst hf
  have q2:=Aha n hn hb irb j hk hij
  rw[hwa]at hsucc
  obtain ⟨u,hu⟩:∃ u,El (Kq n irb dst) j=u:=⟨_,rfl⟩
  rw[hu]at hsucc hfl ⊢
  refine rg ?_;conv=>whnf
  refine⟨E,by omega,by omega,?_⟩
  rw[e1]
  conv=>whnf
  refine Au qj F297 E E E qy E ?_
  refine rd qy ?_;conv=>whnf
  refine Au qk F297 E E E qy E ?_
  refine rd qy ?_;conv=>whnf
  refine⟨fun h2=>?_,fun h2=>?_⟩
  ·rw[h2,Bool.true_and]at hta
   refine rd qy ?_;conv=>whnf
   refine⟨qy,?_⟩
   conv=>whnf
   refine⟨fun h3=>?_,fun h3=>?_⟩
   ·have:(List.range n.irbs.length).any (Ho n irb dst)=true:=List.any_eq_true.2 ⟨j,by simpa using hlt,hta.trans h3⟩
    rw[if_pos this]at hlk
    subst hlk
    refine rg ?_;conv=>whnf
    exact Ac E (.cons .tmp (.cons .tmp .nil)) E E
   ·have hnt:=hta.trans h3
    refine rg ?_;conv=>whnf
    refine Ah q1 F298 E E E E E ?_
    refine rg ?_;conv=>whnf
    refine⟨fun h4=>?_,fun h4=>?_⟩
    ·rw[h4,Bool.true_and]at hsucc
     refine rg ?_;conv=>whnf
     refine Ah q2 F299 E E E E E ?_
     refine rg ?_;conv=>whnf
     refine⟨fun h5=>?_,fun h5=>?_⟩
     ·rw[if_pos h5]at hsucc
      refine rg ?_;conv=>whnf
      refine Ai (Ae Γ.toTy 47 E E E E E (.row E) (.lit (e:=Aa) (l:=[(j:Int)]) E E) za (by simp;omega) (by simp;omega)) E E ?_
      refine rg ?_;conv=>whnf
      refine⟨by unfold I64;omega,?_⟩
      conv=>whnf
      exact Aw [(1000,47)] hI hlt (fun i hi=>if e:i=j then (by rw[e];exact hnt) else hI i qn) ⟨⟨E,E,E,E,E,E,E,E,E,E,E,E,E,E,Y⟩,⟨.inl (congrArg (Ob.row 1 Aa) hsucc),E,Y⟩,E,E⟩
     ·rw[if_neg (by simp[h5])]at hsucc
      refine rg ?_;conv=>whnf
      refine⟨by unfold I64;omega,?_⟩
      conv=>whnf
      exact Aw [] hI hlt (fun i hi=>if e:i=j then (by rw[e];exact hnt) else hI i qn) ⟨⟨E,E,E,E,E,E,E,E,E,E,E,E,E,E,Y⟩,⟨.inl (congrArg (Ob.row 1 Aa) hsucc),E,Y⟩,E,E⟩
    ·rw[if_neg (by simp[h4])]at hsucc
     (refine rg ?_;(conv=>whnf);refine aF ?_;refine rg ?_;conv=>whnf)
     refine⟨by unfold I64;omega,?_⟩
     conv=>whnf
     exact Aw [] hI hlt (fun i hi=>if e:i=j then (by rw[e];exact hnt) else hI i qn) ⟨⟨E,E,E,E,E,E,E,E,E,E,E,E,E,E,Y⟩,⟨.inl (congrArg (Ob.row 1 Aa) hsucc),E,Y⟩,E,E⟩
  ·have hnt:Ho n irb dst j=false:=by rw[hta,h2,Bool.false_and]
   refine rd qy ?_;conv=>whnf
   refine⟨qy,?_⟩
   ((conv=>whnf);refine aF ?_;refine rg ?_;conv=>whnf)
   refine Ah q1 F298 E E E E E ?_
   refine rg ?_;conv=>whnf
   refine⟨fun h4=>?_,fun h4=>?_⟩
   ·rw[h4,Bool.true_and]at hsucc
    refine rg ?_;conv=>whnf
    refine Ah q2 F299 E E E E E ?_
    refine rg ?_;conv=>whnf
    refine⟨fun h5=>?_,fun h5=>?_⟩
    ·rw[if_pos h5]at hsucc
     refine rg ?_;conv=>whnf
     refine Ai (Ae Γ.toTy 47 E E E E E (.row E) (.lit (e:=Aa) (l:=[(j:Int)]) E E) za (by simp;omega) (by simp;omega)) E E ?_
     refine rg ?_;conv=>whnf
     refine⟨by unfold I64;omega,?_⟩
     conv=>whnf
     exact Aw [(1000,47)] hI hlt (fun i hi=>if e:i=j then (by rw[e];exact hnt) else hI i qn) ⟨⟨E,E,E,E,E,E,E,E,E,E,E,E,E,E,Y⟩,⟨.inl (congrArg (Ob.row 1 Aa) hsucc),E,Y⟩,E,E⟩
    ·rw[if_neg (by simp[h5])]at hsucc
     refine rg ?_;conv=>whnf
     refine⟨by unfold I64;omega,?_⟩
     conv=>whnf
     exact Aw [] hI hlt (fun i hi=>if e:i=j then (by rw[e];exact hnt) else hI i qn) ⟨⟨E,E,E,E,E,E,E,E,E,E,E,E,E,E,Y⟩,⟨.inl (congrArg (Ob.row 1 Aa) hsucc),E,Y⟩,E,E⟩
   ·rw[if_neg (by simp[h4])]at hsucc
    (refine rg ?_;(conv=>whnf);refine aF ?_;refine rg ?_;conv=>whnf)
    refine⟨by unfold I64;omega,?_⟩
    conv=>whnf
    exact Aw [] hI hlt (fun i hi=>if e:i=j then (by rw[e];exact hnt) else hI i qn) ⟨⟨E,E,E,E,E,E,E,E,E,E,E,E,E,E,Y⟩,⟨.inl (congrArg (Ob.row 1 Aa) hsucc),E,Y⟩,E,E⟩
 ·have:j=n.irbs.length:=by have:=of_decide_eq_false h;omega
  subst this
  have hno:¬ (List.range n.irbs.length).any (Ho n irb dst)=true:=fun h=>by
   obtain ⟨i,h1,h2⟩:=List.any_eq_true.1 h
   rw[hI i (by simpa using h1)]at h2
   cases h2
  rw[if_neg hno]at hlk
  have hin:∀ y∈Lj n irb dst,InIrbs n y:=fun y hy=>by
   have:=(filtI_mem (p:=Kq n irb dst) (j:=n.irbs.length)).1 hy
   exact⟨this.1,by omega⟩
  have hwl:=Eh (Kq n irb dst) n.irbs.length
  have hwe:El (Kq n irb dst) n.irbs.length=Lj n irb dst:=rfl
  rw[hwe]at hwl ⊢
  have q:∀ h0:0<(Lj n irb dst).length,_:=fun h0=>Ao4 (Lj n irb dst) (cmpR n irb) 302 [] [.ref 8 (Ap n) 0,.ref 1 (.clo (.func 300) [] [.ref 8 (Ap n) 0,.ref 1 (Aa irb) 0]) 0] rfl h0 (by unfold Ar;omega) (fun y hy z hz=>⟨⟨_,_,F302⟩,Ao6 n hb irb y z hk (hin y hy) (hin z hz)⟩)
  generalize Lj n irb dst=l at *
  refine As 1000 E ?_
  refine rg ?_;conv=>whnf
  refine⟨fun h3=>?_,fun h3=>?_⟩
  ·have h4:l=[]:=by simpa using h3
   rw[if_pos h4]at hlk
   subst hlk
   refine rg ?_;conv=>whnf
   exact Ac E (.cons .tmp (.cons .tmp .nil)) E E
  ·have h4:¬ l=[]:=by simpa using h3
   rw[if_neg h4]at hlk
   have q:=q (List.length_pos_iff.2 h4)
   subst hlk
   refine rg ?_;conv=>whnf
   refine Bg 11 1 (.clo (.func 300) [] [.ref 8 (Ap n) 0,.ref 1 (Aa irb) 0]) E E E ?_
   refine rg ?_;conv=>whnf
   refine Ah q F301 E E E E E ?_
   refine rg ?_;conv=>whnf
   exact Ac E (.cons .tmp (.cons .tmp .nil)) E E
theorem Afn {n:Net} {irb dst:Int} (h:(lookT n irb dst).2=true):InIrbs n (lookT n irb dst).1:=by
 unfold lookT at h ⊢
 split at h
 ·cases h
 rename_i h1
 rw[if_neg h1]
 split at h
 ·cases h
 rename_i h2
 rw[if_neg h2]
 have hm:=Un (cmpR n irb) (Lj n irb dst) (List.length_pos_iff.2 h2) ((Lj n irb dst).length-1) (by have:=List.length_pos_iff.2 h2;omega)
 have:=(filtI_mem (p:=Kq n irb dst) (j:=n.irbs.length)).1 hm
 exact⟨this.1,by omega⟩
end Go.Sy.YtmelpejjondedaaGreat
namespace Go.Sy
def Agu (C:Cx) {β:Type} (I:β→Prop) (L:β→List (Nat × SV)) (O:β→Obs) (μ:β→Nat) (x:β) (a:Act) (w:World):Prop :=
 ∃ x':{y:β // I y},∃ κ,μ x'.1<μ x∧St C.F C.n (mkS (L x'.1) (O x'.1)) κ a w
theorem Asg {C:Cx} {k:List KI} {s:SS} {body:Code} {β:Type} (I:β→Prop) (L:β→List (Nat × SV)) (O:β→Obs) (μ:β→Nat) (x₀:β) (ρ:List (Nat × Nat)) (h0:I x₀) (hsub:Sub C s ρ (L x₀) (O x₀))
  (h:∀ x,I x→G C (.code body::.inv (Agu C I L O μ x)::k) (mkS (L x) (O x))):G C (.code (.loop body)::k) s :=
 Qi (α:={y:β // I y}) (fun x=>L x.1) (fun x=>O x.1) (fun x=>μ x.1) ⟨x₀,h0⟩ ρ hsub (fun x=>h x.1 x.2)
theorem Aqo {C:Cx} {k:List KI} {s:SS} {β:Type} {I:β→Prop} {L:β→List (Nat × SV)} {O:β→Obs} {μ:β→Nat} {x:β} (x':β) (ρ:List (Nat × Nat)) (h':I x') (hμ:μ x'<μ x) (hsub:Sub C s ρ (L x') (O x')) :
  G C (.inv (Agu C I L O μ x)::k) s:=fun _ _ _ hs=>⟨⟨x',h'⟩,_,hμ,hsub.st hs⟩
theorem Aqp {C:Cx} {kk:List KI} {s:SS} (k d:Nat) {sz:Nat} {α:Type} {e:α→SV} {l:List α} (h:s.h k=.row sz e l) (hd:s.h d=.fresh) (hkd:k≠d)
  (hg:G C kk ⟨fun i=>frz k (.osl d) (s.σ i),upd (fun j=>bif Nat.beq j k then .non else Amo k (.osl d) (s.h j)) d (.row sz e l)⟩):G C kk s:=fun κ a w hs=>by
 have hob:=hs.obj k
 rw[h]at hob
 have hnew:κ d=.new:=by have:=hs.obj d;rwa [hd]at this
 have fin:∀ κ':Ka,(∀ j,j≠k→j≠d→κ' j=κ j)→Step (fun j=>j=k∨j=d) κ w κ' w→Inv κ' w→(∀ v,Rd κ w (.osl k) v→Rd κ' w (.osl d) v)→ObOK κ' w d (.row sz e l)→den C.P C.B kk .normal a w:=by
  intro κ' hne st inv hv ho
  refine hg κ' a w ⟨hs.defers,hs.size,inv,hs.ctx.step inv st,fun j=>Adb st hv _ _ (hs.slot j),fun j=>?_⟩
  show ObOK κ' w j (upd (fun j=>bif Nat.beq j k then .non else Amo k (.osl d) (s.h j)) d (.row sz e l) j)
  by_cases hj:j=d
  ·subst hj;rw[Bq];exact ho
  ·rw[Cd _ _ hj]
   by_cases hj2:j=k
   ·subst hj2;rw[show Nat.beq j j=true from Nat.beq_refl j];trivial
   ·rw[show Nat.beq j k=false from by cases hb:Nat.beq j k with | false=>rfl | true=>exact absurd (Nat.eq_of_beq_eq_true hb) hj2]
    have hb:=ObOK.step st (fun e=>e.elim hj2 hj) _ (hs.obj j)
    have h0:=hs.obj j
    show ObOK κ' w j (Amo k (.osl d) (s.h j))
    cases hh:s.h j with
    | box m =>
     rw[hh]at h0 hb
     obtain ⟨b,cs,T,fr,e1,e2,e3,e4,e5⟩:=h0
     exact⟨b,cs,T,fr,(hne j hj2 hj).trans e1,e2,e3,e4,Mq st hv m cs e5⟩
    | fresh=>rw[hh]at hb;exact hb
    | non=>rw[hh]at hb;exact hb
    | row sz' e' l'=>rw[hh]at hb;exact hb
    | lit sz' svs=>rw[hh]at hb;exact hb
    | glob sz' x' g'=>rw[hh]at hb;exact hb
    | pin b' n' cap' sz' e' l'=>rw[hh]at hb;exact hb
    | dat v' sz' e' l'=>rw[hh]at hb;exact hb
 rcases hob with ⟨h1,rfl⟩ | ⟨b,cap,cs,T,fr,e1,e2,e3,e4,e5,e6⟩
 ·have st:=H7 (If hs.inv (some k)) (by show Db κ k .dead d=.new;rw[Bz _ _ (Ne.symm hkd)];exact hnew) (e:=.nil) (Grew.refl w) (fun b hb=>by cases hb)
  refine fin _ (fun j h1 h2=>by rw[Bz _ _ h2];exact Bz _ _ h1) (((E1 (some k)).weaken (fun j hj=>.inl (Option.some.inj hj).symm)).trans (st.1.weaken (fun j hj=>.inr hj))) st.2 (fun v hv=>?_) (.inl ⟨Ax _ _ _,E⟩)
  simp only[Rd,h1]at hv
  simp[Rd,Ax,hv]
 ·obtain ⟨st,inv⟩:=Ll (n':=l.length) (w':=w) hs.inv e1 hnew rfl rfl rfl rfl (fun _ _=>rfl)
  refine fin _ (fun j h1 h2=>by rw[Bz _ _ h2];exact Bz _ _ h1) st inv (fun v hv=>?_) (.inr ⟨b,cap,cs,T,fr,Ax _ _ _,e2,e3,e4,e5,fun i x hx=>?_⟩)
  ·simp only[Rd,e1]at hv
   simp[Rd,Ax,hv]
  ·obtain ⟨q1,u,q2,q3⟩:=e6 i x hx
   exact⟨q1,u,RdD.keep st.keeps _ _ q2,q3⟩
theorem Dm {C:Cx} {k:List KI} {s:SS} (d:Nat) {sz:Nat} {α:Type} (e:α→SV) (l:List α) {svs:List SV} (h:s.h d=.lit sz svs) (hl:l.map e=svs) (hg:G C k ⟨s.σ,upd s.h d (.row sz e l)⟩):G C k s:=fun κ a w hs=>by
 refine hg κ a w ⟨hs.defers,hs.size,hs.inv,hs.ctx,hs.slot,fun j=>?_⟩
 show ObOK κ w j (upd s.h d (.row sz e l) j)
 by_cases hj:j=d
 ·subst hj
  rw[Bq]
  have hob:=hs.obj j
  rw[h]at hob
  have hlen:l.length=svs.length:=by rw[← hl,List.length_map]
  obtain ⟨b,cap,cs,T,fr,e1,e2,e3,e4,e5,e6⟩:=hob
  exact .inr ⟨b,cap,cs,T,fr,by rw[hlen];exact e1,e2,e3,e4,by omega,fun i x hx=>by rw[hlen];exact e6 i x (Lo hl i x hx)⟩
 ·rw[Cd _ _ hj];exact hs.obj j
end Go.Sy
namespace Go.Sy.YtmelpejjondedaaGreat
open Go.Proofs
attribute [local irreducible] Go.Sy.G Go.Sy.DR
set_option maxRecDepth 20000
set_option maxHeartbeats 4000000
theorem Ahh (l:List Int) (least most:Int) (hl:Ar l):Sy.Spec Tryz.prog 266 [.sl 1 Aa l,Aa least,Aa most] [] (Ad (Dp l least most)) []:=Ab Γ hm 100 F266 Tryz.ntmps266 rfl fun F hF=>by
 unfold Ar at hl
 conv=>whnf
 (repeat' (first | (refine⟨fun h=>?_,fun h=>?_⟩<;>(repeat (first | simp only[decide_eq_true_eq]at h | simp only[decide_eq_false_iff_not]at h))<;>((refine rg ?_);(conv=>whnf);repeat((refine aT ?_);(refine rg ?_);(conv=>whnf)))) | (refine Ac rfl (.cons .tmp .nil) ?_ rfl)))
 all_goals try (refine congrArg Ad ?_)
 ·rw[Dp];simp;omega
 ·rw[Dp];simp;omega
 refine A2 l.length (fun j=>Dd (Lp l least most) l j) (fun j=>[(0,.sl 1 Aa l),(1,Aa least),(2,Aa most),(7,Aa j)]) (fun _=>[]) [] (A5 _ _) ⟨⟨E,E,E,E,E,E,E,E,Y⟩,Y,E,E⟩ ?_
 intro j hj hI
 refine rg ?_;conv=>whnf
 (repeat' (first | (refine⟨fun h=>?_,fun h=>?_⟩<;>(repeat (first | simp only[decide_eq_true_eq]at h | simp only[decide_eq_false_iff_not]at h))<;>((first|refine rg ?_|refine rd qy ?_);(conv=>whnf);repeat((refine aT ?_);(refine rd qy ?_);(conv=>whnf)))) | (refine Ac rfl (.cons .tmp .nil) ?_ rfl) | (refine⟨qy,?_⟩;((conv=>whnf);repeat((first|refine aF ?_|refine aT ?_);(refine rg ?_);(conv=>whnf)))) | (refine⟨by (first | (unfold I64;omega) | omega),by (omega),?_⟩;((conv=>whnf))) | (refine⟨by (unfold I64;omega),?_⟩;((conv=>whnf))) | refine Aw [] hI qn ?_ ⟨⟨rfl,rfl,rfl,rfl,rfl,rfl,rfl,rfl,trivial⟩,trivial,rfl,rfl⟩))
 all_goals try (refine congrArg Ad ?_)
 all_goals try simp only[Int.toNat_natCast,Int.pred_toNat]at *
 ·rw[Dp,Be (i:=j) qn (by simp[Lp];omega)];simp
 ·rw[Dp,Be (i:=j) qn (by simp[Lp];omega)];simp
 ·rw[Dp,Be (i:=j) qn (by simp only[Lp,Ao (show ((j:Int)-1).toNat<l.length by omega),Int.pred_toNat,Int.toNat_natCast];simp;omega)];simp
 ·exact A3 hI qn (by simp only[Lp,Ao (show ((j:Int)-1).toNat<l.length by omega),Int.pred_toNat,Int.toNat_natCast];simp;omega)
 ·exact A3 hI qn (by simp[Lp];omega)
 ·rw[Dp,Cc hI qn,Bool.eq_iff_iff];simp;omega
theorem Mh (l:List Int) (most:Int) (hl:Ar l):Sy.Spec Tryz.prog 206 [.sl 1 Aa l,Aa most] [] (Ad (decide (l.length=0) || Dp l 1 most)) []:=Ab Γ hm 100 F206 Tryz.ntmps206 rfl fun F hF=>by
 conv=>whnf
 (repeat' (first | (refine⟨fun h=>?_,fun h=>?_⟩<;>(repeat (first | simp only[beq_iff_eq]at h | simp only[beq_eq_false_iff_ne]at h))<;>((refine rg ?_);(conv=>whnf))) | (refine Ac rfl (.cons .tmp .nil) ?_ rfl) | (refine Ah (Ahh l 1 most hl) F266 rfl rfl rfl rfl rfl ?_;((refine rg ?_);(conv=>whnf)))))
 all_goals (refine congrArg Ad ?_)
 all_goals grind
theorem A6 (i:Int) (n:Nat):Sy.Spec Tryz.prog 35 [Aa i,Aa n] [] (Ad (Al i n)) []:=Ab Γ hm 100 F35 Tryz.ntmps35 rfl fun F hF=>by
 conv=>whnf
 (repeat' (first | (refine⟨fun h=>?_,fun h=>?_⟩<;>(repeat (first | simp only[decide_eq_true_eq]at h | simp only[decide_eq_false_iff_not]at h))<;>((refine rg ?_);(conv=>whnf))) | (refine Ac rfl (.cons .tmp .nil) ?_ rfl)))
 all_goals (refine congrArg Ad ?_)
 all_goals grind [Al]
theorem J0 {α:Type} {p:α→Bool} {l:List α} {j:Nat} (hI:Dd (fun _ x=>!(p x)) l j) (hj:l.length≤j):l.any p=false:=by
 rw[List.any_eq_false]
 intro x hx
 obtain ⟨i,hi,rfl⟩:=List.mem_iff_getElem.1 hx
 simpa using hI i hi qn
theorem L8 {α:Type} {p:α→Bool} {l:List α} {j:Nat} (hj:j<l.length) (h:p l[j]=true):l.any p=true:=List.any_eq_true.2 ⟨_,List.getElem_mem hj,h⟩
theorem Et (l:List Int) (x:Int) (hl:Ar l):Sy.Spec Tryz.prog 142 [.sl 1 Aa l,Aa x] [] (Ad (inB l x)) []:=Ab Γ hm 100 F142 Tryz.ntmps142 rfl fun F hF=>by
 unfold Ar at hl
 conv=>whnf
 refine A2 l.length (fun j=>Dd (fun _ y=>!(y == x)) l j) (fun j=>[(0,.sl 1 Aa l),(1,Aa x),(5,Aa j)]) (fun _=>[]) [] (A5 _ _) ⟨⟨E,E,E,E,E,E,Y⟩,Y,E,E⟩ ?_
 intro j hj hI
 refine rg ?_;conv=>whnf
 (repeat' (first | (refine⟨fun h=>?_,fun h=>?_⟩<;>(repeat (first | simp only[decide_eq_true_eq]at h | simp only[decide_eq_false_iff_not]at h | simp only[beq_iff_eq]at h | simp only[beq_eq_false_iff_ne]at h))<;>((refine rg ?_);(conv=>whnf))) | (refine Ac rfl (.cons .tmp .nil) ?_ rfl) | (refine⟨qy,?_⟩;((conv=>whnf))) | (refine⟨by (omega),by (omega),?_⟩;((conv=>whnf))) | (refine⟨by (unfold I64;omega),?_⟩;((conv=>whnf))) | refine Aw [] hI qn ?_ ⟨⟨rfl,rfl,rfl,rfl,rfl,rfl,trivial⟩,trivial,rfl,rfl⟩))
 all_goals try (refine congrArg Ad ?_)
 ·exact L8 (j:=j) qn (by simpa using h)
 ·exact A3 hI qn (by simpa using h)
 ·exact J0 hI qn
theorem Uc (p:Port) (v:Int) (hl:Ar p.tagged):Sy.Spec Tryz.prog 207 [Bj p,Aa v] [] (Ad (Ie p v)) []:=Ab Γ hm 100 F207 Tryz.ntmps207 rfl fun F hF=>by
 conv=>whnf
 (repeat' (first | (refine⟨fun h=>?_,fun h=>?_⟩<;>(repeat (first | simp only[beq_iff_eq]at h | simp only[beq_eq_false_iff_ne]at h | simp only[bne_iff_ne]at h | simp only[bne_eq_false_iff_eq]at h))<;>((refine rg ?_);(conv=>whnf))) | (refine Ac rfl (.cons .tmp .nil) ?_ rfl) | (refine Ah (Et p.tagged v hl) F142 rfl rfl rfl rfl rfl ?_;((refine rg ?_);(conv=>whnf)))))
 all_goals (refine congrArg Ad ?_)
 all_goals grind [Ie]
theorem Om (n:Net) (dev vlan:Int) (hl:Ar n.domains):Sy.Spec Tryz.prog 79 [Ap n,Aa dev,Aa vlan] [] (Aa (Zq n dev vlan)) []:=Ab Γ hm 100 F79 Tryz.ntmps79 rfl fun F hF=>by
 unfold Ar at hl
 conv=>whnf
 refine Bg 3 8 (Ap n) E E E ?_
 refine A2 n.domains.length (fun j=>Dd (fun _ d=>!(d.dev == dev && d.vlan == vlan)) n.domains j) (fun j=>[(1,Aa dev),(2,Aa vlan),(3,.ref 8 (Ap n) 0),(7,Aa j)]) (fun _=>[]) [] (A5 _ _) ⟨⟨E,E,E,E,E,E,E,E,Y⟩,Y,E,E⟩ ?_
 intro j hj hI
 refine rg ?_;conv=>whnf
 (repeat' (first | (refine⟨fun h=>?_,fun h=>?_⟩<;>(repeat (first | simp only[decide_eq_true_eq]at h | simp only[decide_eq_false_iff_not]at h | simp only[beq_iff_eq]at h | simp only[beq_eq_false_iff_ne]at h))<;>((refine rg ?_);(conv=>whnf);repeat((refine aF ?_);(refine rg ?_);(conv=>whnf)))) | (refine Ac rfl (.cons .tmp .nil) ?_ rfl) | (refine⟨qy,?_⟩;((conv=>whnf))) | (refine⟨by (omega),by (omega),?_⟩;((conv=>whnf))) | (refine⟨by (unfold I64;omega),?_⟩;((conv=>whnf))) | refine Aw [] hI qn ?_ ⟨⟨rfl,rfl,rfl,rfl,rfl,rfl,rfl,rfl,trivial⟩,trivial,rfl,rfl⟩))
 all_goals try (refine congrArg Aa ?_)
 ·exact C1 qn (fun i hi hij=>by have:=hI i hi hij;grind) (by simp_all)
 ·exact A3 hI qn (by simp_all)
 ·exact A3 hI qn (by simp_all)
 ·exact Dc (fun i hi=>by have:=hI i hi qn;grind)
theorem Aez (n:Net) (hn:n.Fin):Sy.Spec Tryz.prog 138 [Ap n] [] (Ad (C8 (Ki n) n.links)) []:=Ab Γ hm 100 F138 Tryz.ntmps138 rfl fun F hF=>by
 have hl:=hn.links
 unfold Ar at hl
 conv=>whnf
 refine Bg 1 8 (Ap n) E E E ?_
 refine A2 n.links.length (fun j=>Dd (Ki n) n.links j) (fun j=>[(1,.ref 8 (Ap n) 0),(3,Aa j)]) (fun _=>[]) [] (A5 _ _) ⟨⟨E,E,E,E,Y⟩,Y,E,E⟩ ?_
 intro j hj hI
 refine rg ?_;conv=>whnf
 (repeat' (first | (refine⟨fun h=>?_,fun h=>?_⟩<;>(repeat (first | simp only[Al]at h | simp only[decide_eq_true_eq]at h | simp only[decide_eq_false_iff_not]at h | simp only[beq_iff_eq]at h | simp only[beq_eq_false_iff_ne]at h | simp only[bne_iff_ne]at h | simp only[bne_eq_false_iff_eq]at h | simp only[Bool.and_eq_true]at h | simp only[Bool.and_eq_false_iff]at h | simp only[Bool.not_eq_true']at h | simp only[Bool.not_eq_false']at h))<;>((first|refine rg ?_|refine rd qy ?_);(conv=>whnf);repeat((refine aT ?_);(first|refine rg ?_|refine rd qy ?_);(conv=>whnf)))) | (refine Ac rfl (.cons .tmp .nil) ?_ rfl) | (refine⟨qy,?_⟩;((conv=>whnf);repeat((refine aT ?_);(refine rg ?_);(conv=>whnf)))) | (refine⟨by (first | omega | (simp only[Int.toNat_natCast];omega)),by (first | omega | (simp only[Int.toNat_natCast];omega)),?_⟩;((conv=>whnf))) | (refine⟨by (unfold I64;omega),?_⟩;((conv=>whnf))) | (refine Ah (A6 (n.links[j]'qn).a n.ports.length) F35 rfl rfl rfl rfl rfl ?_;((refine rg ?_);(conv=>whnf))) | (refine Ah (A6 (n.links[j]'qn).b n.ports.length) F35 rfl rfl rfl rfl rfl ?_;((refine rg ?_);(conv=>whnf))) | refine Aw [] hI qn ?_ ⟨⟨rfl,rfl,rfl,rfl,trivial⟩,trivial,rfl,rfl⟩))
 all_goals (simp only[Int.toNat_natCast]at *)
 all_goals first
  | exact A3 hI qn (by clear hI hF;grind [Ki,Al,Ao])
  | (refine congrArg Ad ?_;exact Be (i:=j) qn (by clear hI hF;grind [Ki,Al,Ao]))
  | (refine congrArg Ad ?_;exact Cc hI qn)
theorem Aey (n:Net) (hn:n.Fin):Sy.Spec Tryz.prog 137 [Ap n] [] (Ad (C8 (Eu n) n.ports)) []:=Ab Γ hm 100 F137 Tryz.ntmps137 rfl fun F hF=>by
 have hl:=hn.ports
 unfold Ar at hl
 conv=>whnf
 refine Bg 1 8 (Ap n) E E E ?_
 refine A2 n.ports.length (fun j=>Dd (Eu n) n.ports j) (fun j=>[(1,.ref 8 (Ap n) 0),(3,Aa j)]) (fun _=>[]) [] (A5 _ _) ⟨⟨E,E,E,E,Y⟩,Y,E,E⟩ ?_
 intro j hj hI
 refine rg ?_;conv=>whnf
 refine⟨fun h=>?_,fun h=>?_⟩
 ·have hjl:j<n.ports.length:=by simpa using h
  have ht:=hn.tagged _ (List.getElem_mem hjl)
  generalize hp:n.ports[j]=p at ht
  have hp':n.ports[(j:Int).toNat]'qn=p:=hp
  refine rg ?_;conv=>whnf
  refine⟨E,by omega,by omega,?_⟩
  rw[hp']
  conv=>whnf
  (repeat' (first | (refine⟨fun h=>?_,fun h=>?_⟩<;>(repeat (first | simp only[Al]at h | simp only[decide_eq_true_eq]at h | simp only[decide_eq_false_iff_not]at h | simp only[beq_iff_eq]at h | simp only[beq_eq_false_iff_ne]at h | simp only[Bool.and_eq_true]at h | simp only[Bool.or_eq_true]at h | simp only[Bool.and_eq_false_iff]at h | simp only[Bool.or_eq_false_iff]at h | simp only[Bool.not_eq_true']at h | simp only[Bool.not_eq_false']at h))<;>((refine rg ?_);(conv=>whnf);repeat((first|refine aF ?_|refine aT ?_);(refine rg ?_);(conv=>whnf)))) | (refine Ac rfl (.cons .tmp .nil) ?_ rfl) | (refine Ah (A6 p.dev n.devices.length) F35 rfl rfl rfl rfl rfl ?_;((refine rg ?_);(conv=>whnf))) | (refine Ah (Mh p.tagged 4094 ht) F206 rfl rfl rfl rfl rfl ?_;((refine rg ?_);(conv=>whnf))) | (refine Ah (Et p.tagged p.native ht) F142 rfl rfl rfl rfl rfl ?_;((refine rg ?_);(conv=>whnf))) | (refine Ah (Om n p.dev p.native hn.domains) F79 rfl rfl rfl rfl rfl ?_;((refine rg ?_);(conv=>whnf)))))
  all_goals first
   | (refine congrArg Ad ?_;exact Be hjl (by rw[hp];clear hI hF hp';grind [Eu,Al,Ck]))
   | skip
  all_goals (
   refine Bg 4 7 (Bj p) E E E ?_
   refine A2 p.tagged.length (fun k=>Dd (fun _ v=>Ck n p.dev v) p.tagged k) (fun k=>[(1,.ref 8 (Ap n) 0),(3,Aa j),(4,.ref 7 (Bj p) 0),(5,Aa k)]) (fun _=>[]) [] (A5 _ _) ⟨⟨E,E,E,E,E,E,E,E,Y⟩,Y,E,E⟩ ?_
   intro k hk hI2
   have hsh:=ht
   unfold Ar at hsh
   ((first|refine rG Γ hm ?_|refine rD Γ hm qy ?_);(conv=>whnf);repeat((first|refine aF ?_|refine aT ?_);(first|refine rG Γ hm ?_|refine rD Γ hm qy ?_);conv=>whnf)))
  all_goals (
   (repeat' (first | (refine⟨fun h=>?_,fun h=>?_⟩<;>(repeat (first | simp only[Al]at h | simp only[decide_eq_true_eq]at h | simp only[decide_eq_false_iff_not]at h | simp only[beq_iff_eq]at h | simp only[beq_eq_false_iff_ne]at h | simp only[bne_iff_ne]at h | simp only[bne_eq_false_iff_eq]at h | simp only[Bool.and_eq_true]at h | simp only[Bool.and_eq_false_iff]at h | simp only[Bool.not_eq_true']at h | simp only[Bool.not_eq_false']at h))<;>((refine rg ?_);(conv=>whnf);repeat((first|refine aF ?_|refine aT ?_);(refine rg ?_);(conv=>whnf)))) | (refine Ac rfl (.cons .tmp .nil) ?_ rfl) | (refine⟨qy,?_⟩;((conv=>whnf))) | (refine⟨by (omega),by (omega),?_⟩;((conv=>whnf))) | (refine⟨by (unfold I64;omega),?_⟩;((conv=>whnf))) | (refine Au (Om n p.dev (p.tagged[k]'qn) hn.domains) F79 rfl rfl rfl qy rfl ?_;((refine rd qy ?_);(conv=>whnf))) | (refine Ah (A6 p.link n.links.length) F35 rfl rfl rfl rfl rfl ?_;((refine rg ?_);(conv=>whnf))) | refine Aw [] hI2 qn ?_ ⟨⟨rfl,rfl,rfl,rfl,rfl,rfl,rfl,rfl,trivial⟩,trivial,rfl,rfl⟩ | refine Aw [] hI qn ?_ ⟨⟨rfl,rfl,rfl,rfl,trivial⟩,trivial,rfl,rfl⟩)))
  all_goals first
   | exact A3 hI2 qn (by simp only[Ck,decide_eq_true_eq];omega)
   | (refine congrArg Ad ?_
      have h0:C8 (fun _ v=>Ck n p.dev v) p.tagged=false:=Be (i:=k) qn (by simp only[Ck,decide_eq_false_iff_not];omega)
      exact Be hjl (by rw[hp];clear hI hI2 hF hp';grind [Eu]))
   | skip
  all_goals have h0:C8 (fun _ v=>Ck n p.dev v) p.tagged=true:=Cc hI2 qn
  all_goals first
   | exact A3 hI hjl (by rw[hp];clear hI hI2 hF hp';grind [Eu,Al,Ck,Ao])
   | (refine congrArg Ad ?_
      exact Be hjl (by rw[hp];clear hI hI2 hF hp';grind [Eu,Al,Ck,Ao]))
 ·refine rg ?_;conv=>whnf
  exact Ac E (.cons .tmp .nil) (congrArg Ad (Cc hI (by simpa using h))) E
theorem Ahs (n:Net) (i:Nat) (k:Int) (hn:n.Fin) (hi:i<n.domains.length) (hb:C8 (Io n) n.domains=true):Sy.Spec Tryz.prog 205 [Ap n,Aa i,Aa k] [] (Ad (Ou n i n.domains[i] k)) []:=Ab Γ hm 100 F205 Tryz.ntmps205 rfl fun F hF=>by
 have hd:=L7 hb hi
 have ha:n.domains[(i:Int).toNat]'qn=n.domains[i]:=rfl
 have hr:∀ x:Bool,Ou n i n.domains[i] k=x→Ou n i (n.domains[(i:Int).toNat]'qn) k=x:=fun x h=>h
 generalize n.domains[i]=d at *
 simp only[Al,Bool.and_eq_true,decide_eq_true_eq]at hd
 conv=>whnf
 (repeat' (first | (refine⟨fun h=>?_,fun h=>?_⟩<;>(repeat (first | simp only[Al]at h | simp only[decide_eq_true_eq]at h | simp only[decide_eq_false_iff_not]at h | simp only[beq_iff_eq]at h | simp only[beq_eq_false_iff_ne]at h | simp only[bne_iff_ne]at h | simp only[bne_eq_false_iff_eq]at h | simp only[Bool.and_eq_true]at h | simp only[Bool.and_eq_false_iff]at h | simp only[Bool.not_eq_true']at h | simp only[Bool.not_eq_false']at h))<;>((refine rg ?_);(conv=>whnf);repeat((first|refine aF ?_|refine aT ?_);(refine rg ?_);(conv=>whnf)))) | (refine Ac rfl (.cons .tmp .nil) ?_ rfl) | (refine⟨qy,?_⟩;((conv=>whnf))) | (refine⟨by (first | omega | (first | (simp only[ha];omega) | (have hq:=L7 hb (i:=k.toNat) qn;simp only[Al,Bool.and_eq_true,decide_eq_true_eq]at hq;omega))),by (first | omega | (first | (simp only[ha];omega) | (have hq:=L7 hb (i:=k.toNat) qn;simp only[Al,Bool.and_eq_true,decide_eq_true_eq]at hq;omega))),?_⟩;((conv=>whnf))) | (refine Ah (A6 k n.domains.length) F35 rfl rfl rfl rfl rfl ?_;((refine rg ?_);(conv=>whnf))) | (refine Ah (Et (n.domains[k.toNat]'qn).peers i (hn.peers _ (List.getElem_mem _))) F142 rfl rfl rfl rfl rfl ?_;((refine rg ?_);(conv=>whnf)))))
 all_goals (
  refine congrArg Ad ?_
  have hq:∀ h:k.toNat<n.domains.length,0≤n.domains[k.toNat].dev∧n.domains[k.toNat].dev<n.devices.length:=fun h=>by
   have:=L7 hb h
   simpa only [Al,Bool.and_eq_true,decide_eq_true_eq] using this
  clear hF hr;grind [Ou,Ady,Al,Ao])
theorem Ary (l:List Int) (k:Nat) (hk:k<l.length):inB (l.take k) l[k]=!(Dh (· == l[k]) l == (k:Int)):=by
 have h0:∀ x,Dh (· == l[k]) l=x→inB (l.take k) l[k]=!(x == (k:Int)):=by
  intro x hx
  subst hx
  unfold Dh
  split
  ·rename_i i h
   rw[List.findIdx?_eq_some_iff_getElem]at h
   obtain ⟨hi,h1,h2⟩:=h
   have hle:i≤k:=by
    rcases Nat.lt_or_ge k i with h3 | h3
    ·exact absurd (h2 k h3) za
    ·exact h3
   by_cases he:i=k
   ·subst he
    simp only[inB,beq_self_eq_true,Bool.not_true]
    rw[List.any_eq_false]
    intro x hx
    obtain ⟨m,hm,rfl⟩:=List.mem_iff_getElem.1 hx
    simp only[List.length_take]at hm
    rw[List.getElem_take]
    have:=h2 m qn
    simpa using this
   ·have:((i:Int) == (k:Int))=false:=by simp;omega
    rw[this]
    simp only[inB,Bool.not_false]
    refine List.any_eq_true.2 ⟨l[i],?_,h1⟩
    exact List.mem_iff_getElem.2 ⟨i,by simp;omega,by simp⟩
  ·rename_i h
   rw[List.findIdx?_eq_none_iff]at h
   have:=h l[k] (List.getElem_mem hk)
   simp at this
 exact h0 _ E
theorem Aag {P:Program} (Γ:Ty P) {o:Oper} {s:SS} {t:TypeId} {ti:TI} {et:TypeId} {sz eb lo hi:Nat} {ez:List Value} {x:Operand} {lx hx:Option Operand} {α:Type} {e:α→SV} {l:List α} (r:List α)
  (h:o.op=.slice t x lx hx none) (ht:Γ.get t=some ti) (hk:ti.k=.slice et sz eb ez) (hxe:ev s x=.sl sz e l) (hlo:BoundIs s lx 0 lo) (hhi:BoundIs s hx l.length hi) (h1:lo≤hi) (h2:hi≤l.length) (hr:(l.take hi).drop lo=r) :
  Good P o s ⟨.sl sz e r,[],[]⟩:=by
 subst hr
 exact Bc Γ h ht hk hxe hlo hhi h1 h2
theorem Z2 (n:Net) (hn:n.Fin):Sy.Spec Tryz.prog 136 [Ap n] [] (Ad (C8 (Io n) n.domains && C8 (Ot n) n.domains)) []:=Ab Γ hm 100 F136 Tryz.ntmps136 rfl fun F hF=>by
 have hl:=hn.domains
 unfold Ar at hl
 conv=>whnf
 refine Bg 1 8 (Ap n) E E E ?_
 refine A2 n.domains.length (fun j=>Dd (Io n) n.domains j) (fun j=>[(1,.ref 8 (Ap n) 0),(3,Aa j)]) (fun _=>[]) [] (A5 _ _) ⟨⟨E,E,E,E,Y⟩,Y,E,E⟩ ?_
 intro j hj hI
 refine rg ?_;conv=>whnf
 refine⟨fun h=>?_,fun h=>?_⟩
 ·have hjl:j<n.domains.length:=by simpa using h
  generalize hp:n.domains[j]=p
  have hp':n.domains[(j:Int).toNat]'qn=p:=hp
  refine rg ?_;conv=>whnf
  refine⟨E,by omega,by omega,?_⟩
  rw[hp']
  conv=>whnf
  (repeat' (first | (refine⟨fun h=>?_,fun h=>?_⟩<;>(repeat (first | simp only[Al]at h | simp only[decide_eq_true_eq]at h | simp only[decide_eq_false_iff_not]at h | simp only[bne_iff_ne]at h | simp only[bne_eq_false_iff_eq]at h | simp only[Bool.and_eq_true]at h | simp only[Bool.and_eq_false_iff]at h | simp only[Bool.not_eq_true']at h | simp only[Bool.not_eq_false']at h))<;>((refine rg ?_);(conv=>whnf);repeat((first|refine aF ?_|refine aT ?_);(refine rg ?_);(conv=>whnf)))) | (refine Ac rfl (.cons .tmp .nil) ?_ rfl) | (refine⟨qy,?_⟩;((conv=>whnf))) | (refine⟨by (omega),by (omega),?_⟩;((conv=>whnf))) | (refine⟨by (unfold I64;omega),?_⟩;((conv=>whnf))) | (refine Ah (A6 p.dev n.devices.length) F35 rfl rfl rfl rfl rfl ?_;((refine rg ?_);(conv=>whnf))) | (refine Ah (A6 p.irb n.irbs.length) F35 rfl rfl rfl rfl rfl ?_;((refine rg ?_);(conv=>whnf))) | (refine Ah (Om n p.dev p.vlan hn.domains) F79 rfl rfl rfl rfl rfl ?_;((refine rg ?_);(conv=>whnf))) | refine Aw [] hI qn ?_ ⟨⟨rfl,rfl,rfl,rfl,trivial⟩,trivial,rfl,rfl⟩))
  all_goals first
   | exact A3 hI hjl (by rw[hp];clear hI hF hp';grind [Io,Al,Ao])
   | (refine congrArg Ad ?_;rw[Be (p:=Io n) hjl (by rw[hp];clear hI hF hp';grind [Io,Al,Ao])];rfl)
 have hb:C8 (Io n) n.domains=true:=Cc hI (by simpa using h)
 clear hI
 refine rg ?_;conv=>whnf
 refine A2 n.domains.length (fun j=>Dd (Ot n) n.domains j) (fun j=>[(1,.ref 8 (Ap n) 0),(5,Aa j)]) (fun _=>[]) [] (A5 _ _) ⟨⟨E,E,E,E,Y⟩,Y,E,E⟩ ?_
 clear hj h
 intro j hj hI
 refine rg ?_;conv=>whnf
 refine⟨fun h=>?_,fun h=>?_⟩
 ·have hjl:j<n.domains.length:=by simpa using h
  have hpe:=fun k=>Ahs n j k hn hjl hb
  have hsh:=hn.peers _ (List.getElem_mem hjl)
  generalize hp:n.domains[j]=p at hpe hsh
  have hp':n.domains[(j:Int).toNat]'qn=p:=hp
  refine rg ?_;conv=>whnf
  refine⟨E,by omega,by omega,?_⟩
  rw[hp']
  conv=>whnf
  refine Bg 6 6 (A1 p) E E E ?_
  refine A2 p.peers.length (fun k=>Dd (fun at_ k=>Ou n j p k && Dh (· == k) p.peers == at_) p.peers k) (fun k=>[(1,.ref 8 (Ap n) 0),(5,Aa j),(6,.ref 6 (A1 p) 0),(7,Aa k)]) (fun _=>[]) [] (A5 _ _) ⟨⟨E,E,E,E,E,E,E,E,Y⟩,Y,E,E⟩ ?_
  intro k hk hI2
  unfold Ar at hsh
  refine rg ?_;conv=>whnf
  refine⟨fun h2=>?_,fun h2=>?_⟩
  ·have hkl:k<p.peers.length:=by simpa using h2
   have hkk:p.peers[(k:Int).toNat]'qn=p.peers[k]:=rfl
   have hty:=Ary p.peers k hkl
   refine rg ?_;conv=>whnf
   refine⟨qy,?_⟩
   refine⟨by omega,by omega,?_⟩
   rw[hkk]
   generalize p.peers[k]=x at *
   conv=>whnf
   (repeat' (first | (refine⟨fun h=>?_,fun h=>?_⟩<;>(repeat (first | simp only[Bool.not_eq_true']at h | simp only[Bool.not_eq_false']at h))<;>((first|refine rg ?_|refine rd qy ?_);(conv=>whnf))) | (refine Ac rfl (.cons .tmp .nil) ?_ rfl) | (refine⟨qy,?_⟩;((conv=>whnf);repeat((refine aT ?_);(refine rg ?_);(conv=>whnf)))) | (refine⟨by (omega),by (omega),?_⟩;((conv=>whnf))) | (refine⟨by (unfold I64;omega),?_⟩;((conv=>whnf))) | (refine Au (hpe x) F205 rfl rfl rfl qy rfl ?_;((refine rd qy ?_);(conv=>whnf))) | (refine Au (Et (p.peers.take k) (p.peers[(k:Int).toNat]'qn) (by unfold Ar;simp;omega)) F142 rfl rfl rfl qy rfl ?_;((refine rd qy ?_);(conv=>whnf))) | refine Aw [] hI2 qn ?_ ⟨⟨rfl,rfl,rfl,rfl,rfl,rfl,rfl,rfl,trivial⟩,trivial,rfl,rfl⟩ | ((refine Bn (Aag Γ.toTy (lo:=0) (hi:=k) (p.peers.take k) rfl rfl rfl rfl (.inl ⟨rfl,rfl⟩) (.inr ⟨_,_,rfl,rfl⟩) qn qn rfl) qy rfl ?_;((refine rd qy ?_);(conv=>whnf))))))
   all_goals first
    | exact A3 hI2 hkl (by clear hF;grind)
    | (refine congrArg Ad ?_
       have h0:Ot n j p=false:=Be hkl (by clear hF;grind)
       rw[hb,Be (p:=Ot n) hjl (by rw[hp];exact h0)];rfl)
  ·have h0:Ot n j p=true:=Cc hI2 (by simpa using h2)
   refine rg ?_;conv=>whnf
   (repeat' (first | (refine⟨by (unfold I64;omega),?_⟩;((conv=>whnf))) | refine Aw [] hI qn ?_ ⟨⟨rfl,rfl,rfl,rfl,trivial⟩,trivial,rfl,rfl⟩))
   exact A3 hI hjl (by rw[hp];exact h0)
 ·refine rg ?_;conv=>whnf
  refine Ac E (.cons .tmp .nil) (congrArg Ad ?_) E
  rw[hb,Cc hI (by simpa using h)]
  rfl
def Oj (n:Net):Bool:=C8 (fun _=>Hi n) n.statics && C8 (fun _=>Lg n) n.floods && C8 (fun _=>Zz n) n.vrfs && C8 (Vy n) n.irbs
theorem rest1 {n:Net} (h:C8 (fun _=>Hi n) n.statics=false):Oj n=false:=by simp[Oj,h]
theorem rest2 {n:Net} (h:C8 (fun _=>Lg n) n.floods=false):Oj n=false:=by simp[Oj,h]
theorem rest3 {n:Net} (h:C8 (fun _=>Zz n) n.vrfs=false):Oj n=false:=by simp[Oj,h]
theorem rest4 {n:Net} (h:C8 (Vy n) n.irbs=false):Oj n=false:=by simp[Oj,h]
theorem Ahr (n:Net) (hn:n.Fin):Sy.Spec Tryz.prog 139 [Ap n] [] (Ad (Oj n)) []:=Ab Γ hm 100 F139 Tryz.ntmps139 rfl fun F hF=>by
 have hl1:=hn.statics
 have hl2:=hn.floods
 have hl3:=hn.vrfs
 have hl4:=hn.irbs
 unfold Ar at hl1 hl2 hl3 hl4
 conv=>whnf
 refine Bg 1 8 (Ap n) E E E ?_
 refine A2 n.statics.length (fun j=>Dd (fun _=>Hi n) n.statics j) (fun j=>[(1,.ref 8 (Ap n) 0),(3,Aa j)]) (fun _=>[]) [] (A5 _ _) ⟨⟨E,E,E,E,Y⟩,Y,E,E⟩ ?_
 intro j hj hI
 refine rg ?_;conv=>whnf
 refine⟨fun h=>?_,fun h=>?_⟩
 ·have hjl:j<n.statics.length:=by simpa using h
  generalize hp:n.statics[j]=s
  have hp':n.statics[(j:Int).toNat]'qn=s:=hp
  refine rg ?_;conv=>whnf
  refine⟨E,by omega,by omega,?_⟩
  rw[hp']
  conv=>whnf
  (repeat' (first | (refine⟨fun h=>?_,fun h=>?_⟩<;>(repeat (first | simp only[Al]at h | simp only[decide_eq_true_eq]at h | simp only[decide_eq_false_iff_not]at h | simp only[bne_iff_ne]at h | simp only[bne_eq_false_iff_eq]at h | simp only[Bool.and_eq_true]at h | simp only[Bool.and_eq_false_iff]at h | simp only[Bool.not_eq_true']at h | simp only[Bool.not_eq_false']at h))<;>((first|refine rg ?_|refine rd qy ?_);(conv=>whnf);repeat((refine aT ?_);(refine rg ?_);(conv=>whnf)))) | (refine Ac rfl (.cons .tmp .nil) ?_ rfl) | (refine⟨qy,?_⟩;((conv=>whnf);repeat((refine aT ?_);(refine rg ?_);(conv=>whnf)))) | (refine⟨by (omega),by (omega),?_⟩;((conv=>whnf))) | (refine⟨by (unfold I64;omega),?_⟩;((conv=>whnf))) | (refine Ah (A6 s.domain n.domains.length) F35 rfl rfl rfl rfl rfl ?_;((refine rg ?_);(conv=>whnf))) | (refine Ah (A6 s.port n.ports.length) F35 rfl rfl rfl rfl rfl ?_;((refine rg ?_);(conv=>whnf))) | (refine Au (Uc (n.ports[s.port.toNat]'qn) (n.domains[s.domain.toNat]'qn).vlan (hn.tagged _ (List.getElem_mem _))) F207 rfl rfl rfl qy rfl ?_;((refine rd qy ?_);(conv=>whnf))) | refine Aw [] hI qn ?_ ⟨⟨rfl,rfl,rfl,rfl,trivial⟩,trivial,rfl,rfl⟩))
  all_goals first
   | exact A3 hI hjl (by rw[hp];clear hI hF hp';grind [Hi,Al,Ao])
   | (refine congrArg Ad ?_;exact rest1 (Be hjl (by rw[hp];clear hI hF hp';grind [Hi,Al,Ao])))
 have a1:C8 (fun _=>Hi n) n.statics=true:=Cc hI (by simpa using h)
 clear hI
 refine rg ?_;conv=>whnf
 refine A2 n.floods.length (fun j=>Dd (fun _=>Lg n) n.floods j) (fun j=>[(1,.ref 8 (Ap n) 0),(6,Aa j)]) (fun _=>[]) [] (A5 _ _) ⟨⟨E,E,E,E,Y⟩,Y,E,E⟩ ?_
 clear hj h
 intro j hj hI
 refine rg ?_;conv=>whnf
 refine⟨fun h=>?_,fun h=>?_⟩
 ·have hjl:j<n.floods.length:=by simpa using h
  refine rg ?_;conv=>whnf
  (repeat' (first | (refine⟨fun h=>?_,fun h=>?_⟩<;>(repeat (first | simp only[Al]at h | simp only[decide_eq_true_eq]at h | simp only[decide_eq_false_iff_not]at h | simp only[Bool.and_eq_true]at h | simp only[Bool.and_eq_false_iff]at h | simp only[Bool.not_eq_true']at h | simp only[Bool.not_eq_false']at h))<;>((first|refine rg ?_|refine rd qy ?_);(conv=>whnf))) | (refine Ac rfl (.cons .tmp .nil) ?_ rfl) | (refine⟨qy,?_⟩;((conv=>whnf);repeat((refine aT ?_);(refine rg ?_);(conv=>whnf)))) | (refine⟨by (omega),by (omega),?_⟩;((conv=>whnf))) | (refine⟨by (unfold I64;omega),?_⟩;((conv=>whnf))) | (refine Au (A6 (n.floods[(j:Int).toNat]'qn).dev n.devices.length) F35 rfl rfl rfl qy rfl ?_;((refine rd qy ?_);(conv=>whnf))) | refine Aw [] hI qn ?_ ⟨⟨rfl,rfl,rfl,rfl,trivial⟩,trivial,rfl,rfl⟩))
  all_goals (simp only[Int.toNat_natCast]at *)
  all_goals first
   | exact A3 hI hjl (by clear hI hF;grind [Lg,Al])
   | (refine congrArg Ad ?_;exact rest2 (Be hjl (by clear hI hF;grind [Lg,Al])))
 have a2:C8 (fun _=>Lg n) n.floods=true:=Cc hI (by simpa using h)
 clear hI
 refine rg ?_;conv=>whnf
 refine A2 n.vrfs.length (fun j=>Dd (fun _=>Zz n) n.vrfs j) (fun j=>[(1,.ref 8 (Ap n) 0),(7,Aa j)]) (fun _=>[]) [] (A5 _ _) ⟨⟨E,E,E,E,Y⟩,Y,E,E⟩ ?_
 clear hj h
 intro j hj hI
 refine rg ?_;conv=>whnf
 refine⟨fun h=>?_,fun h=>?_⟩
 ·have hjl:j<n.vrfs.length:=by simpa using h
  have h1:=hn.imports _ (List.getElem_mem hjl)
  have h2:=hn.exports _ (List.getElem_mem hjl)
  generalize hp:n.vrfs[j]=v at h1 h2
  have hp':n.vrfs[(j:Int).toNat]'qn=v:=hp
  refine rg ?_;conv=>whnf
  refine⟨E,by omega,by omega,?_⟩
  rw[hp']
  conv=>whnf
  (repeat' (first | (refine⟨fun h=>?_,fun h=>?_⟩<;>(repeat (first | simp only[Al]at h | simp only[decide_eq_true_eq]at h | simp only[decide_eq_false_iff_not]at h | simp only[Bool.and_eq_true]at h | simp only[Bool.or_eq_true]at h | simp only[Bool.and_eq_false_iff]at h | simp only[Bool.or_eq_false_iff]at h | simp only[Bool.not_eq_true']at h | simp only[Bool.not_eq_false']at h))<;>((refine rg ?_);(conv=>whnf);repeat((refine aT ?_);(refine rg ?_);(conv=>whnf)))) | (refine Ac rfl (.cons .tmp .nil) ?_ rfl) | (refine⟨by (unfold I64;omega),?_⟩;((conv=>whnf))) | (refine Ah (A6 v.dev n.devices.length) F35 rfl rfl rfl rfl rfl ?_;((refine rg ?_);(conv=>whnf))) | (refine Ah (Mh v.imports 65535 h1) F206 rfl rfl rfl rfl rfl ?_;((refine rg ?_);(conv=>whnf))) | (refine Ah (Mh v.exports 65535 h2) F206 rfl rfl rfl rfl rfl ?_;((refine rg ?_);(conv=>whnf))) | refine Aw [] hI qn ?_ ⟨⟨rfl,rfl,rfl,rfl,trivial⟩,trivial,rfl,rfl⟩))
  all_goals first
   | exact A3 hI hjl (by rw[hp];clear hI hF hp';grind [Zz,Aeq,Al])
   | (refine congrArg Ad ?_;exact rest3 (Be hjl (by rw[hp];clear hI hF hp';grind [Zz,Aeq,Al])))
 have a3:C8 (fun _=>Zz n) n.vrfs=true:=Cc hI (by simpa using h)
 clear hI
 refine rg ?_;conv=>whnf
 refine A2 n.irbs.length (fun j=>Dd (Vy n) n.irbs j) (fun j=>[(1,.ref 8 (Ap n) 0),(9,Aa j)]) (fun _=>[]) [] (A5 _ _) ⟨⟨E,E,E,E,Y⟩,Y,E,E⟩ ?_
 clear hj h
 intro j hj hI
 refine rg ?_;conv=>whnf
 refine⟨fun h=>?_,fun h=>?_⟩
 ·have hjl:j<n.irbs.length:=by simpa using h
  generalize hp:n.irbs[j]=x
  have hp':n.irbs[(j:Int).toNat]'qn=x:=hp
  refine rg ?_;conv=>whnf
  refine⟨E,by omega,by omega,?_⟩
  rw[hp']
  conv=>whnf
  (repeat' (first | (refine⟨fun h=>?_,fun h=>?_⟩<;>(repeat (first | simp only[Al]at h | simp only[decide_eq_true_eq]at h | simp only[decide_eq_false_iff_not]at h | simp only[bne_iff_ne]at h | simp only[bne_eq_false_iff_eq]at h | simp only[Bool.and_eq_true]at h | simp only[Bool.and_eq_false_iff]at h | simp only[Bool.not_eq_true']at h | simp only[Bool.not_eq_false']at h))<;>((first|refine rg ?_|refine rd qy ?_);(conv=>whnf);repeat((refine aT ?_);(refine rg ?_);(conv=>whnf)))) | (refine Ac rfl (.cons .tmp .nil) ?_ rfl) | (refine⟨qy,?_⟩;((conv=>whnf);repeat((refine aT ?_);(refine rg ?_);(conv=>whnf)))) | (refine⟨by (omega),by (omega),?_⟩;((conv=>whnf))) | (refine⟨by (unfold I64;omega),?_⟩;((conv=>whnf))) | (refine Ah (A6 x.domain n.domains.length) F35 rfl rfl rfl rfl rfl ?_;((refine rg ?_);(conv=>whnf))) | (refine Ah (A6 x.vrf n.vrfs.length) F35 rfl rfl rfl rfl rfl ?_;((refine rg ?_);(conv=>whnf))) | refine Aw [] hI qn ?_ ⟨⟨rfl,rfl,rfl,rfl,trivial⟩,trivial,rfl,rfl⟩))
  all_goals first
   | exact A3 hI hjl (by rw[hp];clear hI hF hp';grind [Vy,Al,Ao])
   | (refine congrArg Ad ?_;exact rest4 (Be hjl (by rw[hp];clear hI hF hp';grind [Vy,Al,Ao])))
 have a4:C8 (Vy n) n.irbs=true:=Cc hI (by simpa using h)
 refine rg ?_;conv=>whnf
 exact Ac E (.cons .tmp .nil) (congrArg Ad (by simp[Oj,a1,a2,a3,a4])) E
theorem Dq (n:Net) (hn:n.Fin):Sy.Spec Tryz.prog 74 [Ap n] [] (Ad (Ag n)) []:=Ab Γ hm 100 F74 Tryz.ntmps74 rfl fun F hF=>by
 conv=>whnf
 (repeat' (first | (refine⟨fun h=>?_,fun h=>?_⟩<;>(repeat (first | simp only[decide_eq_true_eq]at h | simp only[decide_eq_false_iff_not]at h | simp only[Bool.and_eq_true]at h | simp only[Bool.and_eq_false_iff]at h))<;>((refine rg ?_);(conv=>whnf);repeat((first|refine aF ?_|refine aT ?_);(refine rg ?_);(conv=>whnf)))) | (refine Ac rfl (.cons .tmp .nil) ?_ rfl) | (refine Ah (Z2 n hn) F136 rfl rfl rfl rfl rfl ?_;((refine rg ?_);(conv=>whnf))) | (refine Ah (Aey n hn) F137 rfl rfl rfl rfl rfl ?_;((refine rg ?_);(conv=>whnf))) | (refine Ah (Aez n hn) F138 rfl rfl rfl rfl rfl ?_;((refine rg ?_);(conv=>whnf))) | (refine Ah (Ahr n hn) F139 rfl rfl rfl rfl rfl ?_;((refine rg ?_);(conv=>whnf)))))
 all_goals (refine congrArg Ad ?_;clear hF)
 all_goals (first | grind [Ag,Ams,Oj] | trace_state)
theorem Abm (a:Int):Sy.Spec Tryz.prog 283 [Aa a] [] (Ad false) []:=Ab Γ hm 100 F283 Tryz.ntmps283 rfl fun F hF=>by
 conv=>whnf
 exact Ac E (.cons .tmp .nil) (congrArg Ad za) E
theorem Abl (a:Int):Sy.Spec Tryz.prog 284 [Az a] [] (Ad false) []:=Ab Γ hm 100 F284 Tryz.ntmps284 rfl fun F hF=>by
 conv=>whnf
 exact Ac E (.cons .tmp .nil) (congrArg Ad za) E
def cmpI (a b:Int):Int:=if a<b then -1 else if a>b then 1 else 0
theorem H1 (a b:Int):Sy.Spec Tryz.prog 231 [Aa a,Aa b] [] (Aa (cmpI a b)) []:=Ab Γ hm 100 F231 Tryz.ntmps231 rfl fun F hF=>by
 conv=>whnf
 (repeat' (first | (refine⟨fun h=>?_,fun h=>?_⟩<;>(repeat (first | simp only[decide_eq_true_eq]at h | simp only[decide_eq_false_iff_not]at h))<;>((refine rg ?_);(conv=>whnf))) | (refine Ac rfl (.cons .tmp .nil) ?_ rfl) | (refine Ah (Abm a) F283 rfl rfl rfl rfl rfl ?_;((refine rg ?_);(conv=>whnf))) | (refine Ah (Abm b) F283 rfl rfl rfl rfl rfl ?_;((refine rg ?_);(conv=>whnf);repeat((refine aF ?_);(refine rg ?_);(conv=>whnf))))))
 all_goals (refine congrArg Aa ?_;clear hF;grind [cmpI])
theorem Agk (a b:Int):Sy.Spec Tryz.prog 232 [Az a,Az b] [] (Aa (cmpI a b)) []:=Ab Γ hm 100 F232 Tryz.ntmps232 rfl fun F hF=>by
 conv=>whnf
 (repeat' (first | (refine⟨fun h=>?_,fun h=>?_⟩<;>(repeat (first | simp only[decide_eq_true_eq]at h | simp only[decide_eq_false_iff_not]at h))<;>((refine rg ?_);(conv=>whnf))) | (refine Ac rfl (.cons .tmp .nil) ?_ rfl) | (refine Ah (Abl a) F284 rfl rfl rfl rfl rfl ?_;((refine rg ?_);(conv=>whnf))) | (refine Ah (Abl b) F284 rfl rfl rfl rfl rfl ?_;((refine rg ?_);(conv=>whnf);repeat((refine aF ?_);(refine rg ?_);(conv=>whnf))))))
 all_goals (refine congrArg Aa ?_;clear hF;grind [cmpI])
def orI:List Int→Int
 | []=>0
 | x::l=>if x=0 then orI l else x
theorem Yu:∀ {l:List Int} {j:Nat},(∀ i (h:i<l.length),i<j→l[i]=0)→orI l=orI (l.drop j)
 | l,0,_=>rfl
 | [],j+1,_=>rfl
 | x::l,j+1,h=>by
  have h0:=h 0 za qn
  simp only[List.getElem_cons_zero]at h0
  rw[orI,if_pos h0,List.drop_succ_cons]
  exact Yu fun i hi hij=>h (i+1) (by simp;omega) qn
theorem orS (l:List Int) (hl:Ar l):Sy.Spec Tryz.prog 230 [.sl 1 Aa l] [] (Aa (orI l)) []:=Ab Γ hm 100 F230 Tryz.ntmps230 rfl fun F hF=>by
 unfold Ar at hl
 conv=>whnf
 refine A2 l.length (fun j=>∀ i (h:i<l.length),i<j→l[i]=0) (fun j=>[(3,Aa 0),(6,.sl 1 Aa l),(7,Aa l.length),(8,Aa j)]) (fun _=>[]) [] (fun i h hj=>absurd hj qn) ⟨⟨E,E,E,E,E,E,E,E,Y⟩,Y,E,E⟩ ?_
 intro j hj hI
 refine rg ?_;conv=>whnf
 (repeat' (first | (refine⟨fun h=>?_,fun h=>?_⟩<;>(repeat (first | simp only[decide_eq_true_eq]at h | simp only[decide_eq_false_iff_not]at h | simp only[bne_iff_ne]at h | simp only[bne_eq_false_iff_eq]at h))<;>((refine rg ?_);(conv=>whnf))) | (refine Ac rfl (.cons .tmp .nil) ?_ rfl) | (refine⟨qy,?_⟩;((conv=>whnf))) | (refine⟨by (omega),by (omega),?_⟩;((conv=>whnf))) | (refine⟨by (unfold I64;omega),?_⟩;((conv=>whnf))) | refine Aw [] hI qn ?_ ⟨⟨rfl,rfl,rfl,rfl,rfl,rfl,rfl,rfl,trivial⟩,trivial,rfl,rfl⟩))
 all_goals try (refine congrArg Aa ?_)
 ·have hj2:j<l.length:=by omega
  rw[Yu hI,List.drop_eq_getElem_cons hj2,orI,if_neg (by simpa using h)]
  rfl
 ·intro i hi hij
  rcases Nat.lt_or_ge i j with h1 | h1
  ·exact hI i hi h1
  ·have:i=j:=by omega
   subst this
   simpa using h
 ·rw[Yu hI,List.drop_of_length_le qn]
  rfl
theorem Ml (a b:Int) (l:List Int):decide (orI (cmpI a b::l)<0)=if a≠b then decide (a<b) else decide (orI l<0):=by
 rw[orI,cmpI]
 by_cases h1:a<b
 ·simp[h1,show a≠b by omega]
 ·by_cases h2:a>b
  ·simp[h1,h2,show a≠b by omega]
  ·simp[show a=b by omega]
structure Vec where
 (root cost bridge port own:Int)
def Dt (v:Vec):SV:=.agg [Aa v.root,Aa v.cost,Aa v.bridge,Aa v.port,Aa v.own]
def Ci (a b:Vec):Bool :=
 if a.root≠b.root then decide (a.root<b.root) else if a.cost≠b.cost then decide (a.cost<b.cost) else if a.bridge≠b.bridge then decide (a.bridge<b.bridge) else
  if a.port≠b.port then decide (a.port<b.port) else decide (a.own<b.own)
theorem lessS (a b:Vec):Sy.Spec Tryz.prog 287 [Dt a,Dt b] [] (Ad (Ci a b)) []:=Ab Γ hm 100 F287 Tryz.ntmps287 rfl fun F hF=>by
 conv=>whnf
 (repeat' (first | (refine⟨fun h=>?_,fun h=>?_⟩<;>(repeat (first | simp only[beq_iff_eq]at h | simp only[beq_eq_false_iff_ne]at h | simp only[Bool.and_eq_true]at h | simp only[Bool.and_eq_false_iff]at h))<;>((refine rg ?_);(conv=>whnf))) | (refine Ac rfl (.cons .tmp .nil) ?_ rfl) | (refine⟨qy,?_⟩;((conv=>whnf))) | (refine Au (H1 a.root b.root) F231 rfl rfl rfl qy rfl ?_;((refine rd qy ?_);(conv=>whnf))) | (refine Au (H1 a.cost b.cost) F231 rfl rfl rfl qy rfl ?_;((refine rd qy ?_);(conv=>whnf))) | (refine Au (H1 a.bridge b.bridge) F231 rfl rfl rfl qy rfl ?_;((refine rd qy ?_);(conv=>whnf))) | (refine Au (H1 a.port b.port) F231 rfl rfl rfl qy rfl ?_;((refine rd qy ?_);(conv=>whnf))) | (refine Au (H1 a.own b.own) F231 rfl rfl rfl qy rfl ?_;((refine rd qy ?_);(conv=>whnf))) | (refine Ads [33] (orS [cmpI a.root b.root,cmpI a.cost b.cost,cmpI a.bridge b.bridge,cmpI a.port b.port,cmpI a.own b.own] (by simp[Ar])) F230 rfl (.cons (.lit rfl rfl rfl) .nil) rfl qy rfl ?_;((refine rd qy ?_);(conv=>whnf)))))
 all_goals (refine congrArg Ad ?_;clear hF)
 ·grind [Ci]
 ·rw[Ml,Ml,Ml,Ml,Ml,Ci]
  by_cases h1:a.own=b.own
  ·simp[h1,orI]
  ·simp[h1]
theorem Aoe (a b:Vec):Sy.Spec Tryz.prog 203 [Dt a,Dt b] [] (Ad (Ci a b)) []:=Ab Γ hm 100 F203 Tryz.ntmps203 rfl fun F hF=>by
 conv=>whnf
 (repeat' (first | (refine⟨fun h=>?_,fun h=>?_⟩<;>(repeat (first | simp only[bne_iff_ne]at h | simp only[bne_eq_false_iff_eq]at h))<;>((refine rg ?_);(conv=>whnf))) | (refine Ac rfl (.cons .tmp .nil) ?_ rfl)))
 all_goals (refine congrArg Ad ?_;clear hF;grind [Ci])
def O0 (lt:Int→Int→Bool) (x:Int):List Int→List Int
 | []=>[x]
 | y::r=>if lt x y then y::O0 lt x r else x::y::r
def Ew (lt:Int→Int→Bool) (l:List Int):List Int:=l.foldl (fun r x=>O0 lt x r) []
def Sj (lt:Int→Int→Bool) (l:List Int):List Int:=(Ew lt l).reverse
theorem Vz (lt:Int→Int→Bool) (x:Int):∀ r,(O0 lt x r).Perm (x::r)
 | []=>.refl _
 | y::r=>by
  rw[O0]
  split
  ·exact((Vz lt x r).cons y).trans (.swap x y r)
  ·exact .refl _
theorem M2 (lt:Int→Int→Bool):∀ (l r:List Int),(l.foldl (fun r x=>O0 lt x r) r).Perm (l++r)
 | [],r=>.refl _
 | x::l,r=>by
  rw[List.foldl_cons]
  refine(M2 lt l _).trans ?_
  refine((Vz lt x r).append_left l).trans ?_
  simp
theorem K1 (lt:Int→Int→Bool) (l:List Int):(Ew lt l).Perm l:=by
 have:=M2 lt l []
 simpa [Ew] using this
theorem Tc (lt:Int→Int→Bool) (l:List Int):(Sj lt l).Perm l:=(List.reverse_perm _).trans (K1 lt l)
theorem Afv (lt:Int→Int→Bool) (l:List Int) (i:Nat) (h:i<l.length):Ew lt (l.take (i+1))=O0 lt l[i] (Ew lt (l.take i)):=by
 rw[List.take_succ_eq_append_getElem h,Ew,List.foldl_append]
 rfl
mutual
theorem Us {K:List Nat}:∀ x:SV,x.inn []=true→x.inn K=true
 | .ptr _ _,h=>by simp[SV.inn,Lu]at h
 | .rpt _ _ _ _,h=>by simp[SV.inn,Lu]at h
 | .osl _,h=>by simp[SV.inn,Lu]at h
 | .agg l,h=>by simp only[SV.inn]at h ⊢;exact O1 l h
 | .tup l,h=>by simp only[SV.inn]at h ⊢;exact O1 l h
 | .ifc _ x,h=>by simp only[SV.inn]at h ⊢;exact Us x h
 | .clo _ f l,h=>by simp only[SV.inn,Bool.and_eq_true]at h ⊢;exact⟨O1 f h.1,O1 l h.2⟩
 | .top,_=>rfl
 | .val _,_=>rfl
 | .sl _ _ _,_=>rfl
 | .ref _ _ _,_=>rfl
theorem O1 {K:List Nat}:∀ l:List SV,Co [] l=true→Co K l=true
 | [],_=>rfl
 | x::l,h=>by simp only[Co,Bool.and_eq_true]at h ⊢;exact⟨Us x h.1,O1 l h.2⟩
end
theorem Y8 (l:List Int) (c:Int→Int→Int) (Q:Int→Prop) (f:FuncId) (first cap:List SV) (hc:(SV.clo (.func f) first cap).inn []=true) (hf:∀ a b,Q a→Q b→Jn Tryz.prog f (first++[Aa a,Aa b]++cap) (Aa (c a b))) (hQ:∀ a∈l,Q a) (hl:Ar l) :
  Sy.Spec Tryz.prog 327 [.osl 0,Aa 0,Aa l.length,.clo (.func f) first cap] [(0,.row 1 Aa l)] (.tup []) [(0,.row 1 Aa (Sj (fun a b=>decide (c a b<0)) l))]:=Ab Γ hm 100 F327 Tryz.ntmps327 rfl fun F hF=>by
 unfold Ar at hl
 have hin:∀ x y:Int,Co [] (first++[Aa x,Aa y]++cap)=true:=fun x y=>Dl hc rfl
 have hc':(SV.clo (.func f) first cap).inn [0]=true:=Us _ hc
 generalize hlt:(fun a b=>decide (c a b<0))=lt
 conv=>whnf
 (repeat' (refine⟨by (unfold I64;omega),?_⟩;((conv=>whnf))))
 refine A2 l.length (fun _=>True) (fun j=>[(0,.osl 0),(1,Aa 0),(2,Aa l.length),(3,.clo (.func f) first cap),(8,Aa ((j:Int)+1))]) (fun j=>[(0,.row 1 Aa ((Ew lt (l.take (j+1))).reverse++l.drop (j+1)))]) [] Y ⟨⟨E,E,E,E,E,E,Bo _,hc',E,E,Y⟩,⟨.inl (congrArg (Ob.row 1 Aa) ?_),E,Y⟩,E,E⟩ ?_
 ·cases l with
  | nil=>rfl
  | cons a l=>simp[Ew,O0]
 intro j hj _
 refine rg ?_;conv=>whnf
 refine⟨fun h=>?_,fun h=>?_⟩
 ·have hjl:j+1<l.length:=by have:=of_decide_eq_true h;omega
  have hdrop:l.drop (j+1)=l[j+1]::l.drop (j+1+1):=List.drop_eq_getElem_cons hjl
  have htake:=Afv lt l (j+1) hjl
  have hr:(Ew lt (l.take (j+1))).length=j+1:=by rw[(K1 lt _).length_eq];simp;omega
  have hQx:Q l[j+1]:=hQ _ (List.getElem_mem hjl)
  have hQr:∀ z∈Ew lt (l.take (j+1)),Q z:=fun z hz=>hQ z (List.mem_of_mem_take ((K1 lt _).mem_iff.1 hz))
  rw[hdrop]
  generalize l[j+1]=x at htake hQx
  generalize Ew lt (l.take (j+1))=r at htake hr hQr
  generalize hR:l.drop (j+1+1)=R at *
  refine rg ?_;conv=>whnf
  refine Qi (α:={p:List Int × List Int // O0 lt x r=p.2.reverse++O0 lt x p.1∧p.1.length+p.2.length=j+1∧∀ z∈p.1,Q z}) (fun p=>[(0,.osl 0),(1,Aa 0),(2,Aa l.length),(3,.clo (.func f) first cap),(8,Aa ((j:Int)+1)),(9,Aa p.1.1.length)]) (fun p=>[(0,.row 1 Aa (p.1.1.reverse++x::(p.1.2++R)))]) (fun p=>p.1.1.length) ⟨(r,[]),by simp,by simpa using hr,hQr⟩ []
   ⟨⟨rfl,rfl,rfl,rfl,rfl,rfl,Bo _,hc',rfl,rfl,congrArg Aa (by rw[hr];omega),rfl,trivial⟩,⟨.inl rfl,rfl,trivial⟩,rfl,rfl⟩ ?_
  rintro ⟨⟨A,B⟩,hp1,hp2,hp3⟩
  simp only at hp1 hp2 hp3
  dsimp only
  cases A with
  | nil =>
   simp only[O0]at hp1
   (refine rg ?_;(conv=>whnf);refine aF ?_;refine rd qy ?_;conv=>whnf)
   refine⟨qy,?_⟩
   ((conv=>whnf);refine aF ?_;refine rg ?_;conv=>whnf)
   refine⟨by unfold I64;omega,?_⟩
   conv=>whnf
   refine Aw [] Y qn Y ⟨⟨E,E,E,E,E,E,Bo _,hc',congrArg Aa qn,E,Y⟩,⟨.inl (congrArg (Ob.row 1 Aa) ?_),E,Y⟩,E,E⟩
   show (Ew lt (l.take (j+1+1))).reverse++l.drop (j+1+1)=[].reverse++x::(B++R)
   rw[htake,hp1,hR]
   simp
  | cons y A =>
   have hQy:=hp3 y za
   refine rg ?_;conv=>whnf
   refine⟨fun _=>?_,fun h=>absurd (of_decide_eq_false h) za⟩
   refine rd qy ?_;conv=>whnf
   have e1:((y::A).reverse++x::(B++R))[(((y::A).length:Nat):Int).toNat]'za=x:=by simp
   have e2:((y::A).reverse++x::(B++R))[((((y::A).length:Nat):Int)-1).toNat]'za=y:=by simp
   refine⟨by omega,by simp,?_⟩
   conv=>whnf
   refine⟨E,by simp,?_⟩
   rw[e1]
   conv=>whnf
   refine⟨by unfold I64;simp at hp2;simp;omega,?_⟩
   conv=>whnf
   refine⟨by simp,by simp,?_⟩
   conv=>whnf
   refine⟨E,by simp,?_⟩
   rw[e2]
   conv=>whnf
   refine Ajg (hf x y hQx hQy) E E E (by simp only[hin];rfl) qy E ?_
   refine rd qy ?_;conv=>whnf
   refine⟨qy,?_⟩
   conv=>whnf
   refine⟨fun h2=>?_,fun h2=>?_⟩
   ·refine rg ?_;conv=>whnf
    refine⟨by unfold I64;simp at hp2;simp;omega,?_⟩
    conv=>whnf
    refine⟨by unfold I64;simp at hp2;simp;omega,?_⟩
    conv=>whnf
    refine⟨by simp,by simp,?_⟩
    conv=>whnf
    refine⟨E,by simp,?_⟩
    rw[e2]
    conv=>whnf
    refine⟨by omega,by simp,?_⟩
    conv=>whnf
    refine⟨E,by simp,?_⟩
    rw[e1]
    conv=>whnf
    refine⟨by omega,by simp,?_⟩
    conv=>whnf
    refine⟨E,by simp,y,E,E,?_⟩
    conv=>whnf
    refine⟨by simp,by simp,?_⟩
    conv=>whnf
    refine⟨E,by simp,x,E,E,?_⟩
    conv=>whnf
    refine⟨qy,?_⟩
    conv=>whnf
    refine⟨by unfold I64;simp at hp2;simp;omega,?_⟩
    conv=>whnf
    have hxy:lt x y=true:=by rw[← hlt];exact h2
    refine Sp (α:={p:List Int × List Int // O0 lt x r=p.2.reverse++O0 lt x p.1∧p.1.length+p.2.length=j+1∧∀ z∈p.1,Q z}) (L:=fun p=>[(0,.osl 0),(1,Aa 0),(2,Aa l.length),(3,.clo (.func f) first cap),(8,Aa ((j:Int)+1)),(9,Aa p.1.1.length)]) (O:=fun p=>[(0,.row 1 Aa (p.1.1.reverse++x::(p.1.2++R)))]) (μ:=fun p=>p.1.1.length) (x:=⟨(y::A,B),hp1,hp2,hp3⟩)
     ⟨(A,y::B),by simp only[hp1,O0,hxy,if_true];simp,by simp at hp2 ⊢;omega,fun z hz=>hp3 z (by simp[hz])⟩ [] za
     ⟨⟨rfl,rfl,rfl,rfl,rfl,rfl,Bo _,hc',rfl,rfl,congrArg Aa za,rfl,trivial⟩,⟨.inl (congrArg (Ob.row 1 Aa) ?_),rfl,trivial⟩,rfl,rfl⟩
    simp
   ·refine rg ?_;conv=>whnf
    have hxy:lt x y=false:=by rw[← hlt];exact h2
    refine⟨by unfold I64;omega,?_⟩
    conv=>whnf
    refine Aw [] Y qn Y ⟨⟨E,E,E,E,E,E,Bo _,hc',congrArg Aa qn,E,Y⟩,⟨.inl (congrArg (Ob.row 1 Aa) ?_),E,Y⟩,E,E⟩
    show (Ew lt (l.take (j+1+1))).reverse++l.drop (j+1+1)=(y::A).reverse++x::(B++R)
    rw[htake,hp1,hR,O0,hxy]
    simp
 ·have h:=of_decide_eq_false h
  have e:(Ew lt (l.take (j+1))).reverse++l.drop (j+1)=Sj lt l:=by
   rw[List.take_of_length_le qn,List.drop_of_length_le qn,List.append_nil]
   rfl
  rw[e]
  refine rg ?_;conv=>whnf
  exact Bw E .nil [] [(0,.row 1 Aa (Sj lt l))] (fun _ h=>h) E E ⟨Y,⟨.inl E,E,Y⟩,E,E⟩
theorem Aq6 (l:List Int) (c:Int→Int→Int) (Q:Int→Prop) (f:FuncId) (first cap:List SV) (hc:(SV.clo (.func f) first cap).inn []=true) (hf:∀ a b,Q a→Q b→Jn Tryz.prog f (first++[Aa a,Aa b]++cap) (Aa (c a b))) (hQ:∀ a∈l,Q a) (hl:l.length<20) :
  Sy.Spec Tryz.prog 282 [.osl 0,Aa l.length,.clo (.func f) first cap] [(0,.row 1 Aa l)] (.tup []) [(0,.row 1 Aa (Sj (fun a b=>decide (c a b<0)) l))]:=Ab Γ hm 100 F282 Tryz.ntmps282 rfl fun F hF=>by
 have hc':(SV.clo (.func f) first cap).inn [0]=true:=Us _ hc
 have hins:=Y8 l c Q f first cap hc hf hQ (by unfold Ar;omega)
 generalize Sj (fun a b=>decide (c a b<0)) l=l' at hins
 conv=>whnf
 refine At 0 (fun j=>[(0,.osl 0),(1,Aa l.length),(2,.clo (.func f) first cap),(6,Aa 20),(7,Aa 0),(8,Aa 20)]) (fun _=>[(0,.row 1 Aa l)]) [] ⟨⟨E,E,E,E,Bo _,hc',E,E,E,E,E,E,Y⟩,⟨.inl E,E,Y⟩,E,E⟩ ?_
 intro j hj
 refine rg ?_;conv=>whnf
 refine⟨fun h=>absurd (of_decide_eq_true h) qn,fun _=>?_⟩
 refine rg ?_;conv=>whnf
 refine Ai (Ak [] E F327 hins (Hk _) ⟨E,Y⟩ (by
  have h0:Co [0] [.osl 0,Aa 0,Aa l.length,.clo (.func f) first cap]=true:=by simp only[Co,hc'];rfl
  simp only[Jm,Obs.keys,List.map_cons,List.map_nil,h0];rfl) ⟨.inl rfl,trivial⟩) rfl rfl ?_
 refine rg ?_;conv=>whnf
 refine At 0 (fun j=>[(1,Aa l.length),(6,Aa 20)]) (fun _=>[(0,.row 1 Aa l')]) [] ⟨⟨E,E,E,E,Y⟩,⟨.inl E,E,Y⟩,E,E⟩ ?_
 clear hj
 intro j hj
 refine rg ?_;conv=>whnf
 refine⟨fun h=>absurd (of_decide_eq_true h) qn,fun _=>?_⟩
 refine rg ?_;conv=>whnf
 exact Bw E .nil [] [(0,.row 1 Aa l')] (fun _ h=>h) E E ⟨Y,⟨.inl E,E,Y⟩,E,E⟩
theorem Aed (l:List Int) (c:Int→Int→Int) (Q:Int→Prop) (f:FuncId) (first cap:List SV) (hc:(SV.clo (.func f) first cap).inn []=true) (hf:∀ a b,Q a→Q b→Jn Tryz.prog f (first++[Aa a,Aa b]++cap) (Aa (c a b))) (hQ:∀ a∈l,Q a) (hl:l.length<20) :
  Sy.Spec Tryz.prog 228 [.osl 0,.clo (.func f) first cap] [(0,.row 1 Aa l)] (.tup []) [(0,.row 1 Aa (Sj (fun a b=>decide (c a b<0)) l))]:=Ab Γ hm 100 F228 Tryz.ntmps228 rfl fun F hF=>by
 have hc':(SV.clo (.func f) first cap).inn [0]=true:=Us _ hc
 have hst:=Aq6 l c Q f first cap hc hf hQ hl
 generalize Sj (fun a b=>decide (c a b<0)) l=l' at hst
 conv=>whnf
 refine Ai (Ak [] E F282 hst (Hk _) ⟨E,Y⟩ (by
  have h0:Co [0] [.osl 0,Aa l.length,.clo (.func f) first cap]=true:=by simp only[Co,hc'];rfl
  simp only[Jm,Obs.keys,List.map_cons,List.map_nil,h0];rfl) ⟨.inl rfl,trivial⟩) rfl rfl ?_
 refine rg ?_;conv=>whnf
 exact Bw E .nil [] [(0,.row 1 Aa l')] (fun _ h=>h) E E ⟨Y,⟨.inl E,E,Y⟩,E,E⟩
def Aab (n:Net) (a b:Int):Int:=orI [cmpI (nth n.devices a).prio (nth n.devices b).prio,cmpI (nth n.devices a).mac (nth n.devices b).mac]
theorem ranks1 (n:Net) (a b:Int) (ha:0≤a∧a<n.devices.length) (hb:0≤b∧b<n.devices.length):Sy.Spec Tryz.prog 229 [Aa a,Aa b,.ref 8 (Ap n) 0] [] (Aa (Aab n a b)) []:=Ab Γ hm 100 F229 Tryz.ntmps229 rfl fun F hF=>by
 have e1:Aab n a b=orI [cmpI (n.devices[a.toNat]'qn).prio (n.devices[b.toNat]'qn).prio,cmpI (n.devices[a.toNat]'qn).mac (n.devices[b.toNat]'qn).mac]:=by
  rw[Aab,Ao qn,Ao qn]
 rw[e1]
 conv=>whnf
 (repeat' (first | (refine Ac rfl (.cons .tmp .nil) ?_ rfl) | (refine⟨qy,?_⟩;((conv=>whnf))) | (refine⟨by (omega),by (omega),?_⟩;((conv=>whnf))) | (refine Au (H1 (n.devices[a.toNat]'qn).prio (n.devices[b.toNat]'qn).prio) F231 rfl rfl rfl qy rfl ?_;((refine rd qy ?_);(conv=>whnf))) | (refine Au (Agk (n.devices[a.toNat]'qn).mac (n.devices[b.toNat]'qn).mac) F232 rfl rfl rfl qy rfl ?_;((refine rd qy ?_);(conv=>whnf))) | (refine Ads [28] (orS [cmpI (n.devices[a.toNat]'qn).prio (n.devices[b.toNat]'qn).prio,cmpI (n.devices[a.toNat]'qn).mac (n.devices[b.toNat]'qn).mac] (by simp[Ar])) F230 rfl (.cons (.lit rfl rfl rfl) .nil) rfl qy rfl ?_;((refine rd qy ?_);(conv=>whnf)))))
 all_goals rfl
def Uh (m:Nat):List Int:=(List.range m).map fun (i:Nat)=>(i:Int)
theorem Aa8 (m:Nat):Uh (m+1)=Uh m++[(m:Int)]:=by simp[Uh,List.range_succ]
theorem Jb (m:Nat):(Uh m).length=m:=by simp[Uh]
def H9 (ord:List Int):Nat→List Int
 | 0=>List.replicate ord.length 0
 | j+1=>(H9 ord j).set (nth ord j).toNat j
theorem Hl (ord:List Int):∀ j,(H9 ord j).length=ord.length
 | 0=>by simp[H9]
 | j+1=>by simp[H9,Hl ord j]
def D9 (n:Net):List Int:=Sj (fun a b=>decide (Aab n a b<0)) (Uh n.devices.length)
def Cr (n:Net):List Int:=H9 (D9 n) n.devices.length
theorem ranksS (n:Net) (hn:n.Fin):Sy.Spec Tryz.prog 156 [Ap n] [] (.sl 1 Aa (if Ag n then Cr n else [])) []:=Ab Γ hm 100 F156 Tryz.ntmps156 rfl fun F hF=>by
 have hl:=hn.devices
 unfold Ar at hl
 conv=>whnf
 refine Ah (B5 n hn) F67 E E E E E ?_
 refine rg ?_;conv=>whnf
 refine⟨fun h=>?_,fun h=>?_⟩
 ·have h:Ag n=false:=by simpa using h
  refine rg ?_;conv=>whnf
  refine An 2 1 Aa E ?_
  exact Ac E (.cons .tmp .nil) (by rw[h];rfl) E
 have h:Ag n=true:=by simpa using h
 have h8:n.devices.length≤8:=by
  simp only[Ag,Ams,Bool.and_eq_true,decide_eq_true_eq]at h
  exact h.1.1.1.1.1.1.1.1.1.1.1.1.1.1.1
 rw[h,if_pos rfl,Cr]
 refine rg ?_;conv=>whnf
 refine Bg 1 8 (Ap n) E E E ?_
 refine Bm 3 1000 1 Aa E E ?_
 refine At n.devices.length (fun j=>[(1,.ref 8 (Ap n) 0),(3,.osl 1000),(13,Aa n.devices.length),(14,Aa j)]) (fun j=>[(1000,.row 1 Aa (Uh j))]) [] ⟨⟨E,E,E,E,E,E,E,E,Y⟩,⟨.inl E,E,Y⟩,E,E⟩ ?_
 intro j hj
 refine rg ?_;conv=>whnf
 refine⟨fun h2=>?_,fun h2=>?_⟩
 ·have hlt:j<n.devices.length:=by simpa using h2
  refine rg ?_;conv=>whnf
  refine Ai (Ae Γ.toTy 20 E E E E E (.row E) (.lit (l:=[(j:Int)]) E E) za (by simp[Jb];omega) (by simp[Jb];omega)) E E ?_
  refine rg ?_;conv=>whnf
  refine⟨by unfold I64;omega,?_⟩
  conv=>whnf
  exact Aq [(1000,20)] hlt ⟨⟨E,E,E,E,E,E,E,E,Y⟩,⟨.inl (congrArg (Ob.row 1 Aa) (Aa8 j)),E,Y⟩,E,E⟩
 have hjl:j=n.devices.length:=by have:¬ j<n.devices.length:=(by simpa using h2);omega
 subst hjl
 refine rg ?_;conv=>whnf
 have hsort:=Aed (Uh n.devices.length) (Aab n) (fun a=>0≤a∧a<n.devices.length) 229 [] [.ref 8 (Ap n) 0] rfl (fun a b ha hb=>⟨⟨_,_,F229⟩,ranks1 n a b ha hb⟩) (fun a ha=>by
  obtain ⟨i,hi,rfl⟩:=List.mem_map.1 ha
  have:=List.mem_range.1 hi
  omega) (by rw[Jb];omega)
 have hslen:(D9 n).length=n.devices.length:=by rw[D9,(Tc _ _).length_eq,Jb]
 have hsm:∀ a∈D9 n,0≤a∧a<n.devices.length:=fun a ha=>by
  have:=(Tc _ _).mem_iff.1 ha
  obtain ⟨i,hi,rfl⟩:=List.mem_map.1 this
  have:=List.mem_range.1 hi
  omega
 change Sy.Spec _ _ _ _ _ [(0,.row 1 Aa (D9 n))]at hsort
 generalize D9 n=sl at hsort hslen hsm
 refine Ai (Ak [(0,1000)] E F228 hsort E ⟨E,Y⟩ E ⟨.inl E,Y⟩) E E ?_
 refine rg ?_;conv=>whnf
 refine Ai (B1 Γ.toTy (d:=27) (n:=sl.length) Aa 0 E E E E E E E E qn qn E E E) E E ?_
 refine rg ?_;conv=>whnf
 refine At sl.length (fun j=>[(5,.osl 27),(28,.osl 1000),(29,Aa sl.length),(30,Aa j)]) (fun j=>[(1000,.row 1 Aa sl),(27,.row 1 Aa (H9 sl j))]) [] ⟨⟨E,E,E,E,E,E,E,E,Y⟩,⟨.inl E,E,.inl E,E,Y⟩,E,E⟩ ?_
 clear hj h2
 intro j hj
 refine rg ?_;conv=>whnf
 refine⟨fun h2=>?_,fun h2=>?_⟩
 ·have hlt:j<sl.length:=by simpa using h2
  have hmj:=hsm _ (List.getElem_mem hlt)
  have hnth:nth sl j=sl[j]:=Ao (by simpa using hlt)
  have hfl:=Hl sl j
  refine rg ?_;conv=>whnf
  refine⟨by omega,by omega,?_⟩
  conv=>whnf
  refine⟨E,by omega,?_⟩
  conv=>whnf
  refine⟨hmj.1,by rw[hfl];exact(by omega:sl[j].toNat<sl.length),?_⟩
  conv=>whnf
  refine⟨E,by rw[hfl];exact(by omega:sl[j].toNat<sl.length),(j:Int),E,E,?_⟩
  conv=>whnf
  refine⟨by unfold I64;omega,?_⟩
  conv=>whnf
  exact Aq [] hlt ⟨⟨E,E,E,E,E,E,E,E,Y⟩,⟨.inl E,E,.inl (congrArg (Ob.row 1 Aa) (by rw[H9,hnth];rfl)),E,Y⟩,E,E⟩
 have hjl:j=n.devices.length:=by
  have:¬ j<sl.length:=by simpa using h2
  omega
 subst hjl
 refine rg ?_;conv=>whnf
 refine As 27 E ?_
 exact Ac E (.cons .tmp .nil) E E
def Cj (n:Net) (a b:Int):Bool :=
 if (nth n.devices a).prio≠(nth n.devices b).prio then decide ((nth n.devices a).prio<(nth n.devices b).prio) else
  if (nth n.devices a).mac≠(nth n.devices b).mac then decide ((nth n.devices a).mac<(nth n.devices b).mac) else decide (a<b)
theorem aheadS (n:Net) (a b:Int) (ha:0≤a∧a<n.devices.length) (hb:0≤b∧b<n.devices.length):Sy.Spec Tryz.prog 265 [Ap n,Aa a,Aa b] [] (Ad (Cj n a b)) []:=Ab Γ hm 100 F265 Tryz.ntmps265 rfl fun F hF=>by
 have e1:=Ao (l:=n.devices) (i:=a) qn
 have e2:=Ao (l:=n.devices) (i:=b) qn
 unfold Cj
 rw[e1,e2]
 conv=>whnf
 (repeat' (first | (refine⟨fun h=>?_,fun h=>?_⟩<;>(repeat (first | simp only[bne_iff_ne]at h | simp only[bne_eq_false_iff_eq]at h))<;>((refine rg ?_);(conv=>whnf))) | (refine Ac rfl (.cons .tmp .nil) ?_ rfl) | (refine⟨qy,?_⟩;((conv=>whnf))) | (refine⟨by (omega),by (omega),?_⟩;((conv=>whnf)))))
 all_goals (refine congrArg Ad ?_;clear hF;grind)
def Jz (n:Net):List Int:=(List.range n.devices.length).map fun (i:Nat)=>(((List.range n.devices.length).countP fun k=>Cj n (k:Nat) i:Nat):Int)
theorem Alk (n:Net) (hn:n.Fin):Sy.Spec Tryz.prog 202 [Ap n] [] (.sl 1 Aa (Jz n)) []:=Ab Γ hm 100 F202 Tryz.ntmps202 rfl fun F hF=>by
 have hl:=hn.devices
 unfold Ar at hl
 conv=>whnf
 refine Bg 1 8 (Ap n) E E E ?_
 refine Bm 3 1000 1 Aa E E ?_
 refine At n.devices.length (fun j=>[(1,.ref 8 (Ap n) 0),(3,.osl 1000),(4,Aa j)]) (fun j=>[(1000,.row 1 Aa ((List.range j).map fun (i:Nat)=>(((List.range n.devices.length).countP fun k=>Cj n (k:Nat) i:Nat):Int)))]) [] ⟨⟨E,E,E,E,E,E,Y⟩,⟨.inl E,E,Y⟩,E,E⟩ ?_
 intro j hj
 refine rg ?_;conv=>whnf
 refine⟨fun h2=>?_,fun h2=>?_⟩
 ·have hlt:j<n.devices.length:=by simpa using h2
  refine rg ?_;conv=>whnf
  refine At n.devices.length (fun k=>[(1,.ref 8 (Ap n) 0),(3,.osl 1000),(4,Aa j),(5,Aa ((List.range k).countP fun q=>Cj n (q:Nat) j:Nat)),(6,Aa k)]) (fun _=>[(1000,.row 1 Aa ((List.range j).map fun (i:Nat)=>(((List.range n.devices.length).countP fun k=>Cj n (k:Nat) i:Nat):Int)))]) [] ⟨⟨E,E,E,E,E,E,E,E,E,E,Y⟩,⟨.inl E,E,Y⟩,E,E⟩ ?_
  intro k hk
  have hcnt:((List.range k).countP fun q=>Cj n (q:Nat) j)≤k:=by
   have:=List.countP_le_length (p:=fun q=>Cj n (q:Nat) j) (l:=List.range k)
   simpa using this
  refine rg ?_;conv=>whnf
  refine⟨fun h3=>?_,fun h3=>?_⟩
  ·have hlt2:k<n.devices.length:=by simpa using h3
   refine rg ?_;conv=>whnf
   refine Ah (aheadS n k j qn qn) F265 E E E E E ?_
   refine rg ?_;conv=>whnf
   refine⟨fun h4=>?_,fun h4=>?_⟩
   ·refine rg ?_;conv=>whnf
    refine⟨by unfold I64;omega,?_⟩
    conv=>whnf
    refine⟨by unfold I64;omega,?_⟩
    conv=>whnf
    exact Aq [] hlt2 ⟨⟨E,E,E,E,E,E,congrArg Aa (by rw[List.range_succ];simp[h4]),E,E,E,Y⟩,⟨.inl E,E,Y⟩,E,E⟩
   ·refine rg ?_;conv=>whnf
    refine⟨by unfold I64;omega,?_⟩
    conv=>whnf
    exact Aq [] hlt2 ⟨⟨E,E,E,E,E,E,congrArg Aa (by rw[List.range_succ];simp[h4]),E,E,E,Y⟩,⟨.inl E,E,Y⟩,E,E⟩
  have hkl:k=n.devices.length:=by
   have:¬ k<n.devices.length:=by simpa using h3
   omega
  subst hkl
  refine rg ?_;conv=>whnf
  refine Ai (Ae Γ.toTy 30 E E E E E (.row E) (.lit (l:=[_]) E E) za (by simp;omega) (by simp;omega)) E E ?_
  refine rg ?_;conv=>whnf
  refine⟨by unfold I64;omega,?_⟩
  conv=>whnf
  exact Aq [(1000,30)] hlt ⟨⟨E,E,E,E,E,E,Y⟩,⟨.inl (congrArg (Ob.row 1 Aa) (by rw[List.range_succ,List.map_append];rfl)),E,Y⟩,E,E⟩
 have hjl:j=n.devices.length:=by
  have:¬ j<n.devices.length:=by simpa using h2
  omega
 subst hjl
 refine rg ?_;conv=>whnf
 refine As 1000 E ?_
 exact Ac E (.cons .tmp .nil) E E
end Go.Sy.YtmelpejjondedaaGreat
namespace Go.Sy.YtmelpejjondedaaGreat
theorem key_lt (n:Net) (a b:Int):decide (Aab n a b<0)=if (nth n.devices a).prio≠(nth n.devices b).prio then decide ((nth n.devices a).prio<(nth n.devices b).prio) else
  if (nth n.devices a).mac≠(nth n.devices b).mac then decide ((nth n.devices a).mac<(nth n.devices b).mac) else false:=by
 rw[Aab,Ml,Ml]
 rfl
theorem Mu (n:Net) (a:Int):Cj n a a=false:=by simp[Cj]
theorem W2 (n:Net) {a b c:Int} (h1:Cj n a b=true) (h2:Cj n b c=true):Cj n a c=true:=by
 unfold Cj at *
 generalize nth n.devices a=x at *
 generalize nth n.devices b=y at *
 generalize nth n.devices c=z at *
 grind
theorem Ags (n:Net) {a b:Int} (h1:Cj n a b=true):Cj n b a=false:=by
 cases h:Cj n b a with
 | false=>rfl
 | true=>have:=W2 n h1 h;rw[Mu]at this;cases this
theorem Abk (n:Net) {x y:Int} (h:y<x):decide (Aab n x y<0)=Cj n x y:=by
 rw[key_lt]
 unfold Cj
 generalize nth n.devices x=p at *
 generalize nth n.devices y=q at *
 grind
theorem Aru (n:Net) {x y:Int} (h:y<x) (hk:Cj n x y=false):Cj n y x=true:=by
 unfold Cj at *
 generalize nth n.devices x=p at *
 generalize nth n.devices y=q at *
 grind
theorem Abn (n:Net) (x:Int):∀ (r:List Int),(∀ y∈r,y<x)→r.Pairwise (fun a b=>Cj n b a=true)→(O0 (fun a b=>decide (Aab n a b<0)) x r).Pairwise (fun a b=>Cj n b a=true)
 | [],_,_=>by simp[O0]
 | y::r,hx,hp=>by
  have hy:=hx y za
  rw[List.pairwise_cons]at hp
  rw[O0]
  split
  ·rename_i hlt
   rw[Abk n hy]at hlt
   rw[List.pairwise_cons]
   refine⟨fun z hz=>?_,Abn n x r (fun z hz=>hx z (by simp[hz])) hp.2⟩
   rcases List.mem_cons.1 ((Vz _ x r).mem_iff.1 hz) with rfl | hz
   ·exact hlt
   ·exact hp.1 z hz
  ·rename_i hlt
   rw[Abk n hy]at hlt
   have hyx:=Aru n hy (by simpa using hlt)
   rw[List.pairwise_cons,List.pairwise_cons]
   refine⟨fun z hz=>?_,hp⟩
   rcases List.mem_cons.1 hz with rfl | hz
   ·exact hyx
   ·exact W2 n (hp.1 z hz) hyx
theorem Wq (n:Net):∀ m,(Ew (fun a b=>decide (Aab n a b<0)) (Uh m)).Pairwise (fun a b=>Cj n b a=true)
 | 0=>by simp[Ew,Uh]
 | m+1=>by
  rw[Aa8,Ew,List.foldl_append]
  refine Abn n m _ (fun y hy=>?_) (Wq n m)
  have:=(K1 _ _).mem_iff.1 hy
  obtain ⟨i,hi,rfl⟩:=List.mem_map.1 this
  have:=List.mem_range.1 hi
  omega
theorem Vn (n:Net):(D9 n).Pairwise (fun a b=>Cj n a b=true):=by
 rw[D9,Sj,List.pairwise_reverse]
 exact Wq n _
theorem Aca (n:Net):(D9 n).Perm (Uh n.devices.length):=Tc _ _
theorem Agj (n:Net) {l:List Int} (hp:l.Pairwise (fun a b=>Cj n a b=true)) (r:Nat) (hr:r<l.length):l.countP (fun k=>Cj n k l[r])=r:=by
 have hsplit:l=l.take r++l[r]::l.drop (r+1):=by
  rw[← List.drop_eq_getElem_cons hr,List.take_append_drop]
 have h1:(l.take r).countP (fun k=>Cj n k l[r])=r:=by
  rw[List.countP_eq_length.2 (fun k hk=>?_),List.length_take]
  ·omega
  ·obtain ⟨i,hi,rfl⟩:=List.mem_iff_getElem.1 hk
   simp only[List.length_take]at hi
   rw[List.getElem_take]
   exact List.pairwise_iff_getElem.1 hp i r qn hr qn
 have h2:(l.drop (r+1)).countP (fun k=>Cj n k l[r])=0:=by
  rw[List.countP_eq_zero]
  intro k hk
  obtain ⟨i,hi,rfl⟩:=List.mem_iff_getElem.1 hk
  simp only[List.length_drop]at hi
  rw[List.getElem_drop]
  have:=List.pairwise_iff_getElem.1 hp r (r+1+i) hr qn qn
  simp[Ags n this]
 calc l.countP (fun k=>Cj n k l[r])=(l.take r++l[r]::l.drop (r+1)).countP (fun k=>Cj n k l[r]):=congrArg _ hsplit
  _=r:=by rw[List.countP_append,List.countP_cons,h1,h2,Mu];simp
theorem Ue (L:List Int) (hn:L.Nodup) (hm:∀ a∈L,0≤a∧a<L.length):∀ (j:Nat),j≤L.length→∀ (r:Nat) (hr:r<L.length),r<j→(H9 L j)[L[r].toNat]? = some (r:Int)
 | 0,_,r,_,h=>by omega
 | j+1,hj,r,hr,h=>by
  have hmr:=hm _ (List.getElem_mem hr)
  have hlen:=Hl L j
  have hnth:nth L (j:Int)=L[j]:=Ao (by simp;omega)
  rw[H9,hnth,List.getElem?_set]
  split
  ·rename_i he
   have hmj:=hm _ (List.getElem_mem (show j<L.length by omega))
   have hjr:L[j]=L[r]:=by omega
   have:j=r:=by
    have:=(List.getElem_inj (i:=j) (j:=r) (h₀:=by omega) (h₁:=hr) hn).1 hjr
    exact this
   subst this
   rw[if_pos qn]
  ·rename_i he
   have hne:r≠j:=fun e=>he (by subst e;rfl)
   exact Ue L hn hm j qn r hr qn
theorem Ah7 (m:Nat):(Uh m).Nodup:=by
 rw[Uh]
 exact List.Pairwise.map _ (fun (a b:Nat) (h:a≠b)=>by intro e;exact h qn) List.nodup_range
theorem Ym (n:Net):Cr n=Jz n:=by
 have hp:=Aca n
 have hlen:(D9 n).length=n.devices.length:=by rw[hp.length_eq,Jb]
 have hnd:(D9 n).Nodup:=hp.nodup_iff.2 (Ah7 _)
 have hm:∀ a∈D9 n,0≤a∧a<(D9 n).length:=fun a ha=>by
  obtain ⟨i,hi,rfl⟩:=List.mem_map.1 (hp.mem_iff.1 ha)
  have:=List.mem_range.1 hi
  omega
 refine List.ext_getElem? fun i=>?_
 rcases Nat.lt_or_ge i n.devices.length with hi | hi
 ·have hin:(i:Int)∈D9 n:=hp.mem_iff.2 (List.mem_map.2 ⟨i,List.mem_range.2 hi,rfl⟩)
  obtain ⟨r,hr,he⟩:=List.mem_iff_getElem.1 hin
  have h1:=Ue (D9 n) hnd hm n.devices.length qn r hr qn
  rw[he]at h1
  have h2:=Agj n (Vn n) r hr
  rw[he,hp.countP_eq]at h2
  rw[Cr,Jz,List.getElem?_map,List.getElem?_range hi]
  simp only[Int.toNat_natCast]at h1
  rw[h1]
  simp only[Option.map_some]
  congr 2
  rw[← h2,Uh,List.countP_map]
  rfl
 ·rw[List.getElem?_eq_none,List.getElem?_eq_none]
  ·simp[Jz];omega
  ·rw[Cr,Hl];omega
theorem G_vw {C:Cx} {k:List KI} {s:SS} (d:Nat) (x:SV) (h:Vw s [] (s.σ d) x) (hg:G C k ⟨upd s.σ d x,s.h⟩):G C k s:=fun κ a w hs =>
 hg κ a w ⟨hs.defers,hs.size,hs.inv,hs.ctx,fun i=>by
  show Rd κ w (upd s.σ d x i) _
  by_cases hi:i=d
  ·subst hi;rw[Bq];exact Vw.rd hs.inv (fun _ hn=>by cases hn) h (hs.slot i)
  ·rw[Cd _ _ hi];exact hs.slot i,hs.obj⟩
end Go.Sy.YtmelpejjondedaaGreat
namespace Go.Sy.YtmelpejjondedaaGreat
open Go.Proofs
attribute [local irreducible] Go.Sy.G Go.Sy.DR
set_option maxRecDepth 20000
set_option maxHeartbeats 4000000
def Ik (p:Port):Bool:=decide (p.cost<1) || decide (p.cost>65535)
theorem costs1 (p:Port):Sy.Spec Tryz.prog 227 [Bj p] [] (Ad (Ik p)) []:=Ab Γ hm 100 F227 Tryz.ntmps227 rfl fun F hF=>by
 conv=>whnf
 (repeat' (first | (refine⟨fun h=>?_,fun h=>?_⟩<;>(repeat (first | simp only[decide_eq_true_eq]at h | simp only[decide_eq_false_iff_not]at h))<;>((refine rg ?_);(conv=>whnf))) | (refine Ac rfl (.cons .tmp .nil) ?_ rfl)))
 all_goals (refine congrArg Ad ?_;clear hF;grind [Ik])
theorem To (l:List Port) (p:Port→Bool) (f:FuncId) (first cap:List SV) (hc:(SV.clo (.func f) first cap).inn []=true) (hf:∀ x∈l,Jn Tryz.prog f (first++[Bj x]++cap) (Ad (p x))) (hl:Ar l) :
  Sy.Spec Tryz.prog 226 [.sl 7 Bj l,.clo (.func f) first cap] [] (Ad (l.any p)) []:=Ab Γ hm 100 F226 Tryz.ntmps226 rfl fun F hF=>by
 have h0:Co [] [.sl 7 Bj l,.clo (.func f) first cap]=true:=by simp only[Co,hc];rfl
 conv=>whnf
 refine Ah (W8 l p f first cap hc hf hl) F281 E E (by simp only[h0];rfl) E E ?_
 refine rg ?_;conv=>whnf
 exact Ac E (.cons .tmp .nil) (congrArg Ad (Y9 _ _).symm) E
def Cm (n:Net):Bool:=!(n.ports.any Ik)
theorem Aqc (n:Net) (hl:Ar n.ports):Sy.Spec Tryz.prog 155 [Ap n] [] (Ad (Cm n)) []:=Ab Γ hm 100 F155 Tryz.ntmps155 rfl fun F hF=>by
 conv=>whnf
 refine Ah (To n.ports Ik 227 [] [] E (fun x _=>⟨⟨_,_,F227⟩,costs1 x⟩) hl) F226 E E E E E ?_
 refine rg ?_;conv=>whnf
 exact Ac E (.cons .tmp .nil) E E
theorem Alo (n:Net) (hl:Ar n.ports):Sy.Spec Tryz.prog 201 [Ap n] [] (Ad (Cm n)) []:=Ab Γ hm 100 F201 Tryz.ntmps201 rfl fun F hF=>by
 unfold Ar at hl
 conv=>whnf
 refine Bg 1 8 (Ap n) E E E ?_
 refine A2 n.ports.length (fun j=>Dd (fun _ p=>!(Ik p)) n.ports j) (fun j=>[(1,.ref 8 (Ap n) 0),(3,Aa j)]) (fun _=>[]) [] (A5 _ _) ⟨⟨E,E,E,E,Y⟩,Y,E,E⟩ ?_
 intro j hj hI
 refine rg ?_;conv=>whnf
 (repeat' (first | (refine⟨fun h=>?_,fun h=>?_⟩<;>(repeat (first | simp only[decide_eq_true_eq]at h | simp only[decide_eq_false_iff_not]at h))<;>((refine rg ?_);(conv=>whnf);repeat((refine aT ?_);(refine rg ?_);(conv=>whnf)))) | (refine Ac rfl (.cons .tmp .nil) ?_ rfl) | (refine⟨qy,?_⟩;((conv=>whnf))) | (refine⟨by (omega),by (omega),?_⟩;((conv=>whnf))) | (refine⟨by (unfold I64;omega),?_⟩;((conv=>whnf))) | refine Aw [] hI qn ?_ ⟨⟨rfl,rfl,rfl,rfl,trivial⟩,trivial,rfl,rfl⟩))
 all_goals (simp only[Int.toNat_natCast]at *)
 all_goals first
  | exact A3 hI qn (by clear hI hF;grind [Ik])
  | (refine congrArg Ad ?_;rw[Cm,L8 (j:=j) qn (by clear hI hF;grind [Ik])];rfl)
  | (refine congrArg Ad ?_;rw[Cm,J0 hI qn];rfl)
def Hb (n:Net):Bool :=
 decide (200<n.devices.length) || decide (200<n.ports.length) || decide (200<n.links.length) || decide (200<n.domains.length) || decide (200<n.statics.length) || decide (200<n.floods.length) || decide (200<n.vrfs.length) || decide (200<n.irbs.length) ||
  n.ports.any (fun p=>decide (100<p.tagged.length)) || n.domains.any (fun d=>decide (100<d.peers.length)) || n.floods.any (fun f=>decide (100<f.addrs.length)) || n.vrfs.any (fun v=>decide (100<v.imports.length) || decide (100<v.exports.length))
theorem Adf {n:Net} (h:Hb n=false):n.Fin:=by
 simp only[Hb,Bool.or_eq_false_iff,decide_eq_false_iff_not,List.any_eq_false,decide_eq_true_eq,Bool.or_eq_true,not_or]at h
 obtain ⟨⟨⟨⟨⟨⟨⟨⟨⟨⟨⟨h1,h2⟩,h3⟩,h4⟩,h5⟩,h6⟩,h7⟩,h8⟩,h9⟩,h10⟩,h11⟩,h12⟩:=h
 exact⟨by unfold Ar;omega,by unfold Ar;omega,by unfold Ar;omega,by unfold Ar;omega,by unfold Ar;omega,by unfold Ar;omega,by unfold Ar;omega,by unfold Ar;omega,
  fun p hp=>by have:=h9 p hp;unfold Ar;omega,fun p hp=>by have:=h10 p hp;unfold Ar;omega,fun p hp=>by have:=h11 p hp;unfold Ar;omega,fun p hp=>by have:=h12 p hp;unfold Ar;omega,fun p hp=>by have:=h12 p hp;unfold Ar;omega⟩
end Go.Sy.YtmelpejjondedaaGreat
namespace Go.Sy.YtmelpejjondedaaGreat
open Go.Proofs
attribute [local irreducible] Go.Sy.G Go.Sy.DR
set_option maxRecDepth 100000
set_option maxHeartbeats 4000000
theorem Bb {α:Type} {l:List α} {i:Nat} {d:α} (h:i<l.length):l.getD i d=l[i]:=by simp[List.getD,h]
theorem J5 {n:Net} (h:Ag n=true) {i:Nat} (hi:i<n.ports.length):Eu n i n.ports[i]=true:=by
 simp only[Ag,Bool.and_eq_true]at h
 exact allB_iff.1 h.1.1.1.1.1.2 i hi
theorem S2 {n:Net} (h:Ag n=true) {i:Nat} (hi:i<n.links.length):Ki n i n.links[i]=true:=by
 simp only[Ag,Bool.and_eq_true]at h
 exact allB_iff.1 h.1.1.1.1.2 i hi
theorem Cy {n:Net} (h:Ag n=true):n.devices.length≤8∧n.ports.length≤40∧n.links.length≤20:=by
 simp only[Ag,Ams,Bool.and_eq_true,decide_eq_true_eq]at h
 omega
theorem Dy {n:Net} (h:Ag n=true) {i:Nat} (hi:i<n.ports.length):n.ports[i].link=-1∨(0≤n.ports[i].link∧n.ports[i].link<n.links.length):=by
 have:=J5 h hi
 simp only[Eu,Al,Bool.and_eq_true,Bool.or_eq_true,beq_iff_eq,decide_eq_true_eq]at this
 rcases this.2 with h1 | h1
 ·exact .inl h1
 ·exact .inr h1.1
theorem Oo {n:Net} (h:Ag n=true) {i:Nat} (hi:i<n.ports.length):0≤n.ports[i].dev∧n.ports[i].dev<n.devices.length:=by
 have:=J5 h hi
 simp only[Eu,Al,Bool.and_eq_true,decide_eq_true_eq]at this
 exact this.1.1.1.1.1.1.1.1
theorem Ir {n:Net} (h:Ag n=true) {i:Nat} (hi:i<n.links.length):(0≤n.links[i].a∧n.links[i].a<n.ports.length)∧0≤n.links[i].b∧n.links[i].b<n.ports.length:=by
 have:=S2 h hi
 simp only[Ki,Al,Bool.and_eq_true,decide_eq_true_eq]at this
 exact⟨this.1.1.1.1,this.1.1.1.2⟩
def Bl (n:Net) (i:Nat):Int:=(nth n.ports i).dev
def Hx (n:Net) (i:Nat):Int:=(nth n.ports i).cost
theorem Kd {n:Net} (hcost:Cm n=true) {i:Nat} (hi:i<n.ports.length):1≤Hx n i∧Hx n i≤65535:=by
 rw[Hx,Ao (l:=n.ports) (i:=(i:Int)) (by simpa using hi)]
 simp only[Cm,Bool.not_eq_true',List.any_eq_false]at hcost
 have:=hcost _ (List.getElem_mem hi)
 simp only[Ik,Bool.or_eq_true,decide_eq_true_eq,not_or]at this
 simp only[Int.toNat_natCast]
 omega
def Kf (ls:List Link) (i:Int):Int:=match ls.find? (fun l=>l.a == i || l.b == i) with | some l=>if l.a=i then l.b else l.a | none=>-1
theorem Ah5 (n:Net) (i:Int) (hl:Ar n.links):Sy.Spec Tryz.prog 204 [Ap n,Aa i] [] (Aa (Kf n.links i)) []:=Ab Γ hm 100 F204 Tryz.ntmps204 rfl fun F hF=>by
 unfold Ar at hl
 conv=>whnf
 refine Bg 2 8 (Ap n) E E E ?_
 refine A2 n.links.length (fun j=>∀ q (hq:q<n.links.length),q<j→n.links[q].a≠i∧n.links[q].b≠i) (fun j=>[(1,Aa i),(2,.ref 8 (Ap n) 0),(5,Aa j)]) (fun _=>[]) [] (fun q _ h=>absurd h qn) ⟨⟨E,E,E,E,E,E,Y⟩,Y,E,E⟩ ?_
 intro j hj hI
 refine rg ?_;conv=>whnf
 refine⟨fun h=>?_,fun h=>?_⟩
 ·have hlt:j<n.links.length:=by simpa using h
  have e1:n.links[(j:Int).toNat]'qn=n.links[j]:=rfl
  have hfind:(n.links[j].a=i∨n.links[j].b=i)→n.links.find? (fun l=>l.a == i || l.b == i)=some n.links[j]:=fun h=>by
   rw[List.find?_eq_some_iff_getElem]
   refine⟨by simpa using h,j,hlt,E,fun q hq=>?_⟩
   have:=hI q qn hq
   simp[this.1,this.2]
  obtain ⟨l,hlk⟩:∃ l,n.links[j]=l:=⟨_,rfl⟩
  rw[hlk]at e1 hfind
  refine rg ?_;conv=>whnf
  refine⟨E,by omega,by omega,?_⟩
  rw[e1]
  conv=>whnf
  refine⟨fun h1=>?_,fun h1=>?_⟩
  ·have ha:l.a=i:=by simpa using h1
   have hres:Kf n.links i=l.b:=by rw[Kf,hfind (.inl ha)];simp[ha]
   rw[hres]
   refine rg ?_;conv=>whnf
   refine⟨E,by omega,by omega,?_⟩
   rw[e1]
   conv=>whnf
   exact Ac E (.cons .tmp .nil) E E
  have ha:¬ l.a=i:=by simpa using h1
  refine rg ?_;conv=>whnf
  refine⟨E,by omega,by omega,?_⟩
  rw[e1]
  conv=>whnf
  refine⟨fun h2=>?_,fun h2=>?_⟩
  ·have hb:l.b=i:=by simpa using h2
   have hres:Kf n.links i=l.a:=by rw[Kf,hfind (.inr hb)];simp[ha]
   rw[hres]
   refine rg ?_;conv=>whnf
   refine⟨E,by omega,by omega,?_⟩
   rw[e1]
   conv=>whnf
   exact Ac E (.cons .tmp .nil) E E
  have hb:¬ l.b=i:=by simpa using h2
  refine rg ?_;conv=>whnf
  refine⟨by unfold I64;omega,?_⟩
  conv=>whnf
  refine Aw [] hI hlt (fun q hq hqj=>?_) ⟨⟨E,E,E,E,E,E,Y⟩,Y,E,E⟩
  by_cases hqe:q=j
  ·subst hqe;rw[hlk];exact⟨ha,hb⟩
  ·exact hI q hq qn
 ·have hres:Kf n.links i=-1:=by
   have:¬ j<n.links.length:=by simpa using h
   rw[Kf,List.find?_eq_none.2]
   intro x hx
   obtain ⟨q,hq,rfl⟩:=List.getElem_of_mem hx
   have:=hI q hq qn
   simp[this.1,this.2]
  rw[hres]
  refine rg ?_;conv=>whnf
  exact Ac E (.cons .tmp .nil) E E
end Go.Sy.YtmelpejjondedaaGreat
