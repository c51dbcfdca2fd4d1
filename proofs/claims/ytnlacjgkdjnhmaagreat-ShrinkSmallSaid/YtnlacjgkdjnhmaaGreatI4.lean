/-
  N3 N4 E2 E3 N5 N6 N7 E4 E5 E6 E7 E8 E9 E10 E11 E12 Sy29 B0 D1 N8 N9 N10 N11: parts of a proof, joined by program.
-/
import Derived.Test.YtnlacjgkdjnhmaaGreatI3
namespace Go.Sy.YtnlacjgkdjnhmaaGreat
open Go.Proofs
attribute [local irreducible] Go.Sy.G Go.Sy.DR
set_option maxRecDepth 20000
set_option maxHeartbeats 4000000
theorem K5 {K:List Nat}:∀ (a b:List SV),B1 K (a++b)=(B1 K a && B1 K b)
 | [],b=>by simp[B1]
 | x::a,b=>by simp[B1,K5 a b,Bool.and_assoc]
theorem Cp {f:FuncId} {first cap xs:List SV} (hc:(SV.clo (.func f) first cap).inn []=true) (hx:B1 [] xs=true):B1 [] (first++xs++cap)=true:=by
 simp only[SV.inn,Bool.and_eq_true]at hc
 rw[K5,K5,hc.1,hc.2,hx]
 rfl
theorem Et (l:List Domain) (p:Domain→Bool) (f:FuncId) (first cap:List SV) (hc:(SV.clo (.func f) first cap).inn []=true) (hf:∀ x∈l,Hn Tryz.prog f (first++[As x]++cap) (Ad (p x))) (hl:Am l) :
  Sy.Spec Tryz.prog 74 [.sl 6 As l,.clo (.func f) first cap] [] (Aa (Dn p l)) []:=Ab Γ hm 100 F74 Tryz.ntmps74 rfl fun F hF=>by
 unfold Am at hl
 have hin:∀ x:Domain,B1 [] (first++[As x]++cap)=true:=fun x=>Cp hc rfl
 ((conv=>whnf);repeat((first|refine aF ?_|refine aT ?_);(first|refine rG Γ hm ?_|refine rD Γ hm qq ?_);conv=>whnf))
 refine Bc l.length (fun j=>Dy (fun _ x=>!(p x)) l j) (fun j=>[(0,.sl 6 As l),(1,.clo (.func f) first cap),(7,Aa l.length),(8,Aa j)]) (fun _=>[]) [] (Bd _ _) ⟨⟨E,E,A4 _,hc,E,E,E,E,Y⟩,Y,E,E⟩ ?_
 intro j hj hI
 ((first|refine rG Γ hm ?_|refine rD Γ hm qq ?_);(conv=>whnf);repeat((first|refine aF ?_|refine aT ?_);(first|refine rG Γ hm ?_|refine rD Γ hm qq ?_);conv=>whnf))
 refine⟨fun h=>?_,fun h=>?_⟩
 ·have h:=of_decide_eq_true h
  have hj2:j<l.length:=by omega
  ((first|refine rG Γ hm ?_|refine rD Γ hm qq ?_);(conv=>whnf);repeat((first|refine aF ?_|refine aT ?_);(first|refine rG Γ hm ?_|refine rD Γ hm qq ?_);conv=>whnf))
  refine⟨E,by omega,by omega,?_⟩
  ((conv=>whnf);repeat((first|refine aF ?_|refine aT ?_);(first|refine rG Γ hm ?_|refine rD Γ hm qq ?_);conv=>whnf))
  refine Dx (hf l[j] (List.getElem_mem hj2)) E E E (by simp only[hin];rfl) E E ?_
  ((first|refine rG Γ hm ?_|refine rD Γ hm qq ?_);(conv=>whnf);repeat((first|refine aF ?_|refine aT ?_);(first|refine rG Γ hm ?_|refine rD Γ hm qq ?_);conv=>whnf))
  refine⟨fun h2=>?_,fun h2=>?_⟩
  ·((first|refine rG Γ hm ?_|refine rD Γ hm qq ?_);(conv=>whnf);repeat((first|refine aF ?_|refine aT ?_);(first|refine rG Γ hm ?_|refine rD Γ hm qq ?_);conv=>whnf))
   refine Ac E (.cons .tmp .nil) (congrArg Aa ?_) E
   exact Eh hj2 (fun i hi hij=>by simpa using hI i hi hij) h2
  ·((first|refine rG Γ hm ?_|refine rD Γ hm qq ?_);(conv=>whnf);repeat((first|refine aF ?_|refine aT ?_);(first|refine rG Γ hm ?_|refine rD Γ hm qq ?_);conv=>whnf))
   refine⟨by unfold I64;omega,?_⟩
   ((conv=>whnf);repeat((first|refine aF ?_|refine aT ?_);(first|refine rG Γ hm ?_|refine rD Γ hm qq ?_);conv=>whnf))
   exact A9 [] hI hj2 (Ba hI hj2 (by simp[h2])) ⟨⟨E,E,A4 _,hc,E,E,E,E,Y⟩,Y,E,E⟩
 ·have h:=of_decide_eq_false h
  ((first|refine rG Γ hm ?_|refine rD Γ hm qq ?_);(conv=>whnf);repeat((first|refine aF ?_|refine aT ?_);(first|refine rG Γ hm ?_|refine rD Γ hm qq ?_);conv=>whnf))
  refine Ac E (.cons .tmp .nil) (congrArg Aa ?_) E
  exact E5 (fun i hi=>by simpa using hI i hi qn)
theorem Tw (l:List Port) (p:Port→Bool) (f:FuncId) (first cap:List SV) (hc:(SV.clo (.func f) first cap).inn []=true) (hf:∀ x∈l,Hn Tryz.prog f (first++[A3 x]++cap) (Ad (p x))) (hl:Am l) :
  Sy.Spec Tryz.prog 199 [.sl 7 A3 l,.clo (.func f) first cap] [] (Aa (Dn p l)) []:=Ab Γ hm 100 F199 Tryz.ntmps199 rfl fun F hF=>by
 unfold Am at hl
 have hin:∀ x:Port,B1 [] (first++[A3 x]++cap)=true:=fun x=>Cp hc rfl
 ((conv=>whnf);repeat((first|refine aF ?_|refine aT ?_);(first|refine rG Γ hm ?_|refine rD Γ hm qq ?_);conv=>whnf))
 refine Bc l.length (fun j=>Dy (fun _ x=>!(p x)) l j) (fun j=>[(0,.sl 7 A3 l),(1,.clo (.func f) first cap),(7,Aa l.length),(8,Aa j)]) (fun _=>[]) [] (Bd _ _) ⟨⟨E,E,A4 _,hc,E,E,E,E,Y⟩,Y,E,E⟩ ?_
 intro j hj hI
 ((first|refine rG Γ hm ?_|refine rD Γ hm qq ?_);(conv=>whnf);repeat((first|refine aF ?_|refine aT ?_);(first|refine rG Γ hm ?_|refine rD Γ hm qq ?_);conv=>whnf))
 refine⟨fun h=>?_,fun h=>?_⟩
 ·have h:=of_decide_eq_true h
  have hj2:j<l.length:=by omega
  ((first|refine rG Γ hm ?_|refine rD Γ hm qq ?_);(conv=>whnf);repeat((first|refine aF ?_|refine aT ?_);(first|refine rG Γ hm ?_|refine rD Γ hm qq ?_);conv=>whnf))
  refine⟨E,by omega,by omega,?_⟩
  ((conv=>whnf);repeat((first|refine aF ?_|refine aT ?_);(first|refine rG Γ hm ?_|refine rD Γ hm qq ?_);conv=>whnf))
  refine Dx (hf l[j] (List.getElem_mem hj2)) E E E (by simp only[hin];rfl) E E ?_
  ((first|refine rG Γ hm ?_|refine rD Γ hm qq ?_);(conv=>whnf);repeat((first|refine aF ?_|refine aT ?_);(first|refine rG Γ hm ?_|refine rD Γ hm qq ?_);conv=>whnf))
  refine⟨fun h2=>?_,fun h2=>?_⟩
  ·((first|refine rG Γ hm ?_|refine rD Γ hm qq ?_);(conv=>whnf);repeat((first|refine aF ?_|refine aT ?_);(first|refine rG Γ hm ?_|refine rD Γ hm qq ?_);conv=>whnf))
   refine Ac E (.cons .tmp .nil) (congrArg Aa ?_) E
   exact Eh hj2 (fun i hi hij=>by simpa using hI i hi hij) h2
  ·((first|refine rG Γ hm ?_|refine rD Γ hm qq ?_);(conv=>whnf);repeat((first|refine aF ?_|refine aT ?_);(first|refine rG Γ hm ?_|refine rD Γ hm qq ?_);conv=>whnf))
   refine⟨by unfold I64;omega,?_⟩
   ((conv=>whnf);repeat((first|refine aF ?_|refine aT ?_);(first|refine rG Γ hm ?_|refine rD Γ hm qq ?_);conv=>whnf))
   exact A9 [] hI hj2 (Ba hI hj2 (by simp[h2])) ⟨⟨E,E,A4 _,hc,E,E,E,E,Y⟩,Y,E,E⟩
 ·have h:=of_decide_eq_false h
  ((first|refine rG Γ hm ?_|refine rD Γ hm qq ?_);(conv=>whnf);repeat((first|refine aF ?_|refine aT ?_);(first|refine rG Γ hm ?_|refine rD Γ hm qq ?_);conv=>whnf))
  refine Ac E (.cons .tmp .nil) (congrArg Aa ?_) E
  exact E5 (fun i hi=>by simpa using hI i hi qn)
theorem Yf (l:List Port) (p:Nat→Port→Bool) (f:FuncId) (first cap:List SV) (hc:(SV.clo (.func f) first cap).inn []=true) (hf:∀ i (h:i<l.length),Hn Tryz.prog f (first++[Aa i,A3 l[i]]++cap) (Ad (p i l[i]))) (hl:Am l) :
  Sy.Spec Tryz.prog 27 [.sl 7 A3 l,.clo (.func f) first cap] [] (Ad (En p l)) []:=Ab Γ hm 100 F27 Tryz.ntmps27 rfl fun F hF=>by
 unfold Am at hl
 have hin:∀ (i:Nat) (x:Port),B1 [] (first++[Aa i,A3 x]++cap)=true:=fun i x=>Cp hc rfl
 ((conv=>whnf);repeat((first|refine aF ?_|refine aT ?_);(first|refine rG Γ hm ?_|refine rD Γ hm qq ?_);conv=>whnf))
 refine Bc l.length (fun j=>Dy p l j) (fun j=>[(0,.sl 7 A3 l),(1,.clo (.func f) first cap),(7,.sl 7 A3 l),(8,Aa l.length),(9,Aa j)]) (fun _=>[]) [] (Bd _ _) ⟨⟨E,E,A4 _,hc,E,E,E,E,E,E,Y⟩,Y,E,E⟩ ?_
 intro j hj hI
 ((first|refine rG Γ hm ?_|refine rD Γ hm qq ?_);(conv=>whnf);repeat((first|refine aF ?_|refine aT ?_);(first|refine rG Γ hm ?_|refine rD Γ hm qq ?_);conv=>whnf))
 refine⟨fun h=>?_,fun h=>?_⟩
 ·have h:=of_decide_eq_true h
  have hj2:j<l.length:=by omega
  ((first|refine rG Γ hm ?_|refine rD Γ hm qq ?_);(conv=>whnf);repeat((first|refine aF ?_|refine aT ?_);(first|refine rG Γ hm ?_|refine rD Γ hm qq ?_);conv=>whnf))
  refine⟨E,by omega,by omega,?_⟩
  ((conv=>whnf);repeat((first|refine aF ?_|refine aT ?_);(first|refine rG Γ hm ?_|refine rD Γ hm qq ?_);conv=>whnf))
  refine Dx (hf j hj2) E E E (by simp only[hin];rfl) E E ?_
  ((first|refine rG Γ hm ?_|refine rD Γ hm qq ?_);(conv=>whnf);repeat((first|refine aF ?_|refine aT ?_);(first|refine rG Γ hm ?_|refine rD Γ hm qq ?_);conv=>whnf))
  refine⟨fun h2=>?_,fun h2=>?_⟩
  ·((first|refine rG Γ hm ?_|refine rD Γ hm qq ?_);(conv=>whnf);repeat((first|refine aF ?_|refine aT ?_);(first|refine rG Γ hm ?_|refine rD Γ hm qq ?_);conv=>whnf))
   refine Ac E (.cons .tmp .nil) (congrArg Ad ?_) E
   exact B7 hj2 (by simpa using h2)
  ·((first|refine rG Γ hm ?_|refine rD Γ hm qq ?_);(conv=>whnf);repeat((first|refine aF ?_|refine aT ?_);(first|refine rG Γ hm ?_|refine rD Γ hm qq ?_);conv=>whnf))
   refine⟨by unfold I64;omega,?_⟩
   ((conv=>whnf);repeat((first|refine aF ?_|refine aT ?_);(first|refine rG Γ hm ?_|refine rD Γ hm qq ?_);conv=>whnf))
   exact A9 [] hI hj2 (Ba hI hj2 (by simpa using h2)) ⟨⟨E,E,A4 _,hc,E,E,E,E,E,E,Y⟩,Y,E,E⟩
 ·have h:=of_decide_eq_false h
  ((first|refine rG Γ hm ?_|refine rD Γ hm qq ?_);(conv=>whnf);repeat((first|refine aF ?_|refine aT ?_);(first|refine rG Γ hm ?_|refine rD Γ hm qq ?_);conv=>whnf))
  refine Ac E (.cons .tmp .nil) (congrArg Ad ?_) E
  exact Dq hI qn
theorem Yg (l:List Link) (p:Nat→Link→Bool) (f:FuncId) (first cap:List SV) (hc:(SV.clo (.func f) first cap).inn []=true) (hf:∀ i (h:i<l.length),Hn Tryz.prog f (first++[Aa i,B6 l[i]]++cap) (Ad (p i l[i]))) (hl:Am l) :
  Sy.Spec Tryz.prog 29 [.sl 3 B6 l,.clo (.func f) first cap] [] (Ad (En p l)) []:=Ab Γ hm 100 F29 Tryz.ntmps29 rfl fun F hF=>by
 unfold Am at hl
 have hin:∀ (i:Nat) (x:Link),B1 [] (first++[Aa i,B6 x]++cap)=true:=fun i x=>Cp hc rfl
 ((conv=>whnf);repeat((first|refine aF ?_|refine aT ?_);(first|refine rG Γ hm ?_|refine rD Γ hm qq ?_);conv=>whnf))
 refine Bc l.length (fun j=>Dy p l j) (fun j=>[(0,.sl 3 B6 l),(1,.clo (.func f) first cap),(7,.sl 3 B6 l),(8,Aa l.length),(9,Aa j)]) (fun _=>[]) [] (Bd _ _) ⟨⟨E,E,A4 _,hc,E,E,E,E,E,E,Y⟩,Y,E,E⟩ ?_
 intro j hj hI
 ((first|refine rG Γ hm ?_|refine rD Γ hm qq ?_);(conv=>whnf);repeat((first|refine aF ?_|refine aT ?_);(first|refine rG Γ hm ?_|refine rD Γ hm qq ?_);conv=>whnf))
 refine⟨fun h=>?_,fun h=>?_⟩
 ·have h:=of_decide_eq_true h
  have hj2:j<l.length:=by omega
  ((first|refine rG Γ hm ?_|refine rD Γ hm qq ?_);(conv=>whnf);repeat((first|refine aF ?_|refine aT ?_);(first|refine rG Γ hm ?_|refine rD Γ hm qq ?_);conv=>whnf))
  refine⟨E,by omega,by omega,?_⟩
  ((conv=>whnf);repeat((first|refine aF ?_|refine aT ?_);(first|refine rG Γ hm ?_|refine rD Γ hm qq ?_);conv=>whnf))
  refine Dx (hf j hj2) E E E (by simp only[hin];rfl) E E ?_
  ((first|refine rG Γ hm ?_|refine rD Γ hm qq ?_);(conv=>whnf);repeat((first|refine aF ?_|refine aT ?_);(first|refine rG Γ hm ?_|refine rD Γ hm qq ?_);conv=>whnf))
  refine⟨fun h2=>?_,fun h2=>?_⟩
  ·((first|refine rG Γ hm ?_|refine rD Γ hm qq ?_);(conv=>whnf);repeat((first|refine aF ?_|refine aT ?_);(first|refine rG Γ hm ?_|refine rD Γ hm qq ?_);conv=>whnf))
   refine Ac E (.cons .tmp .nil) (congrArg Ad ?_) E
   exact B7 hj2 (by simpa using h2)
  ·((first|refine rG Γ hm ?_|refine rD Γ hm qq ?_);(conv=>whnf);repeat((first|refine aF ?_|refine aT ?_);(first|refine rG Γ hm ?_|refine rD Γ hm qq ?_);conv=>whnf))
   refine⟨by unfold I64;omega,?_⟩
   ((conv=>whnf);repeat((first|refine aF ?_|refine aT ?_);(first|refine rG Γ hm ?_|refine rD Γ hm qq ?_);conv=>whnf))
   exact A9 [] hI hj2 (Ba hI hj2 (by simpa using h2)) ⟨⟨E,E,A4 _,hc,E,E,E,E,E,E,Y⟩,Y,E,E⟩
 ·have h:=of_decide_eq_false h
  ((first|refine rG Γ hm ?_|refine rD Γ hm qq ?_);(conv=>whnf);repeat((first|refine aF ?_|refine aT ?_);(first|refine rG Γ hm ?_|refine rD Γ hm qq ?_);conv=>whnf))
  refine Ac E (.cons .tmp .nil) (congrArg Ad ?_) E
  exact Dq hI qn
theorem Ix (l:List Domain) (p:Nat→Domain→Bool) (f:FuncId) (first cap:List SV) (hc:(SV.clo (.func f) first cap).inn []=true) (hf:∀ i (h:i<l.length),Hn Tryz.prog f (first++[Aa i,As l[i]]++cap) (Ad (p i l[i]))) (hl:Am l) :
  Sy.Spec Tryz.prog 24 [.sl 6 As l,.clo (.func f) first cap] [] (Ad (En p l)) []:=Ab Γ hm 100 F24 Tryz.ntmps24 rfl fun F hF=>by
 unfold Am at hl
 have hin:∀ (i:Nat) (x:Domain),B1 [] (first++[Aa i,As x]++cap)=true:=fun i x=>Cp hc rfl
 ((conv=>whnf);repeat((first|refine aF ?_|refine aT ?_);(first|refine rG Γ hm ?_|refine rD Γ hm qq ?_);conv=>whnf))
 refine Bc l.length (fun j=>Dy p l j) (fun j=>[(0,.sl 6 As l),(1,.clo (.func f) first cap),(7,.sl 6 As l),(8,Aa l.length),(9,Aa j)]) (fun _=>[]) [] (Bd _ _) ⟨⟨E,E,A4 _,hc,E,E,E,E,E,E,Y⟩,Y,E,E⟩ ?_
 intro j hj hI
 ((first|refine rG Γ hm ?_|refine rD Γ hm qq ?_);(conv=>whnf);repeat((first|refine aF ?_|refine aT ?_);(first|refine rG Γ hm ?_|refine rD Γ hm qq ?_);conv=>whnf))
 refine⟨fun h=>?_,fun h=>?_⟩
 ·have h:=of_decide_eq_true h
  have hj2:j<l.length:=by omega
  ((first|refine rG Γ hm ?_|refine rD Γ hm qq ?_);(conv=>whnf);repeat((first|refine aF ?_|refine aT ?_);(first|refine rG Γ hm ?_|refine rD Γ hm qq ?_);conv=>whnf))
  refine⟨E,by omega,by omega,?_⟩
  ((conv=>whnf);repeat((first|refine aF ?_|refine aT ?_);(first|refine rG Γ hm ?_|refine rD Γ hm qq ?_);conv=>whnf))
  refine Dx (hf j hj2) E E E (by simp only[hin];rfl) E E ?_
  ((first|refine rG Γ hm ?_|refine rD Γ hm qq ?_);(conv=>whnf);repeat((first|refine aF ?_|refine aT ?_);(first|refine rG Γ hm ?_|refine rD Γ hm qq ?_);conv=>whnf))
  refine⟨fun h2=>?_,fun h2=>?_⟩
  ·((first|refine rG Γ hm ?_|refine rD Γ hm qq ?_);(conv=>whnf);repeat((first|refine aF ?_|refine aT ?_);(first|refine rG Γ hm ?_|refine rD Γ hm qq ?_);conv=>whnf))
   refine Ac E (.cons .tmp .nil) (congrArg Ad ?_) E
   exact B7 hj2 (by simpa using h2)
  ·((first|refine rG Γ hm ?_|refine rD Γ hm qq ?_);(conv=>whnf);repeat((first|refine aF ?_|refine aT ?_);(first|refine rG Γ hm ?_|refine rD Γ hm qq ?_);conv=>whnf))
   refine⟨by unfold I64;omega,?_⟩
   ((conv=>whnf);repeat((first|refine aF ?_|refine aT ?_);(first|refine rG Γ hm ?_|refine rD Γ hm qq ?_);conv=>whnf))
   exact A9 [] hI hj2 (Ba hI hj2 (by simpa using h2)) ⟨⟨E,E,A4 _,hc,E,E,E,E,E,E,Y⟩,Y,E,E⟩
 ·have h:=of_decide_eq_false h
  ((first|refine rG Γ hm ?_|refine rD Γ hm qq ?_);(conv=>whnf);repeat((first|refine aF ?_|refine aT ?_);(first|refine rG Γ hm ?_|refine rD Γ hm qq ?_);conv=>whnf))
  refine Ac E (.cons .tmp .nil) (congrArg Ad ?_) E
  exact Dq hI qn
theorem Tk (l:List Static) (p:Nat→Static→Bool) (f:FuncId) (first cap:List SV) (hc:(SV.clo (.func f) first cap).inn []=true) (hf:∀ i (h:i<l.length),Hn Tryz.prog f (first++[Aa i,Be l[i]]++cap) (Ad (p i l[i]))) (hl:Am l) :
  Sy.Spec Tryz.prog 31 [.sl 4 Be l,.clo (.func f) first cap] [] (Ad (En p l)) []:=Ab Γ hm 100 F31 Tryz.ntmps31 rfl fun F hF=>by
 unfold Am at hl
 have hin:∀ (i:Nat) (x:Static),B1 [] (first++[Aa i,Be x]++cap)=true:=fun i x=>Cp hc rfl
 ((conv=>whnf);repeat((first|refine aF ?_|refine aT ?_);(first|refine rG Γ hm ?_|refine rD Γ hm qq ?_);conv=>whnf))
 refine Bc l.length (fun j=>Dy p l j) (fun j=>[(0,.sl 4 Be l),(1,.clo (.func f) first cap),(7,.sl 4 Be l),(8,Aa l.length),(9,Aa j)]) (fun _=>[]) [] (Bd _ _) ⟨⟨E,E,A4 _,hc,E,E,E,E,E,E,Y⟩,Y,E,E⟩ ?_
 intro j hj hI
 ((first|refine rG Γ hm ?_|refine rD Γ hm qq ?_);(conv=>whnf);repeat((first|refine aF ?_|refine aT ?_);(first|refine rG Γ hm ?_|refine rD Γ hm qq ?_);conv=>whnf))
 refine⟨fun h=>?_,fun h=>?_⟩
 ·have h:=of_decide_eq_true h
  have hj2:j<l.length:=by omega
  ((first|refine rG Γ hm ?_|refine rD Γ hm qq ?_);(conv=>whnf);repeat((first|refine aF ?_|refine aT ?_);(first|refine rG Γ hm ?_|refine rD Γ hm qq ?_);conv=>whnf))
  refine⟨E,by omega,by omega,?_⟩
  ((conv=>whnf);repeat((first|refine aF ?_|refine aT ?_);(first|refine rG Γ hm ?_|refine rD Γ hm qq ?_);conv=>whnf))
  refine Dx (hf j hj2) E E E (by simp only[hin];rfl) E E ?_
  ((first|refine rG Γ hm ?_|refine rD Γ hm qq ?_);(conv=>whnf);repeat((first|refine aF ?_|refine aT ?_);(first|refine rG Γ hm ?_|refine rD Γ hm qq ?_);conv=>whnf))
  refine⟨fun h2=>?_,fun h2=>?_⟩
  ·((first|refine rG Γ hm ?_|refine rD Γ hm qq ?_);(conv=>whnf);repeat((first|refine aF ?_|refine aT ?_);(first|refine rG Γ hm ?_|refine rD Γ hm qq ?_);conv=>whnf))
   refine Ac E (.cons .tmp .nil) (congrArg Ad ?_) E
   exact B7 hj2 (by simpa using h2)
  ·((first|refine rG Γ hm ?_|refine rD Γ hm qq ?_);(conv=>whnf);repeat((first|refine aF ?_|refine aT ?_);(first|refine rG Γ hm ?_|refine rD Γ hm qq ?_);conv=>whnf))
   refine⟨by unfold I64;omega,?_⟩
   ((conv=>whnf);repeat((first|refine aF ?_|refine aT ?_);(first|refine rG Γ hm ?_|refine rD Γ hm qq ?_);conv=>whnf))
   exact A9 [] hI hj2 (Ba hI hj2 (by simpa using h2)) ⟨⟨E,E,A4 _,hc,E,E,E,E,E,E,Y⟩,Y,E,E⟩
 ·have h:=of_decide_eq_false h
  ((first|refine rG Γ hm ?_|refine rD Γ hm qq ?_);(conv=>whnf);repeat((first|refine aF ?_|refine aT ?_);(first|refine rG Γ hm ?_|refine rD Γ hm qq ?_);conv=>whnf))
  refine Ac E (.cons .tmp .nil) (congrArg Ad ?_) E
  exact Dq hI qn
theorem Wn (l:List Flood) (p:Nat→Flood→Bool) (f:FuncId) (first cap:List SV) (hc:(SV.clo (.func f) first cap).inn []=true) (hf:∀ i (h:i<l.length),Hn Tryz.prog f (first++[Aa i,Bu l[i]]++cap) (Ad (p i l[i]))) (hl:Am l) :
  Sy.Spec Tryz.prog 33 [.sl 4 Bu l,.clo (.func f) first cap] [] (Ad (En p l)) []:=Ab Γ hm 100 F33 Tryz.ntmps33 rfl fun F hF=>by
 unfold Am at hl
 have hin:∀ (i:Nat) (x:Flood),B1 [] (first++[Aa i,Bu x]++cap)=true:=fun i x=>Cp hc rfl
 ((conv=>whnf);repeat((first|refine aF ?_|refine aT ?_);(first|refine rG Γ hm ?_|refine rD Γ hm qq ?_);conv=>whnf))
 refine Bc l.length (fun j=>Dy p l j) (fun j=>[(0,.sl 4 Bu l),(1,.clo (.func f) first cap),(7,.sl 4 Bu l),(8,Aa l.length),(9,Aa j)]) (fun _=>[]) [] (Bd _ _) ⟨⟨E,E,A4 _,hc,E,E,E,E,E,E,Y⟩,Y,E,E⟩ ?_
 intro j hj hI
 ((first|refine rG Γ hm ?_|refine rD Γ hm qq ?_);(conv=>whnf);repeat((first|refine aF ?_|refine aT ?_);(first|refine rG Γ hm ?_|refine rD Γ hm qq ?_);conv=>whnf))
 refine⟨fun h=>?_,fun h=>?_⟩
 ·have h:=of_decide_eq_true h
  have hj2:j<l.length:=by omega
  ((first|refine rG Γ hm ?_|refine rD Γ hm qq ?_);(conv=>whnf);repeat((first|refine aF ?_|refine aT ?_);(first|refine rG Γ hm ?_|refine rD Γ hm qq ?_);conv=>whnf))
  refine⟨E,by omega,by omega,?_⟩
  ((conv=>whnf);repeat((first|refine aF ?_|refine aT ?_);(first|refine rG Γ hm ?_|refine rD Γ hm qq ?_);conv=>whnf))
  refine Dx (hf j hj2) E E E (by simp only[hin];rfl) E E ?_
  ((first|refine rG Γ hm ?_|refine rD Γ hm qq ?_);(conv=>whnf);repeat((first|refine aF ?_|refine aT ?_);(first|refine rG Γ hm ?_|refine rD Γ hm qq ?_);conv=>whnf))
  refine⟨fun h2=>?_,fun h2=>?_⟩
  ·((first|refine rG Γ hm ?_|refine rD Γ hm qq ?_);(conv=>whnf);repeat((first|refine aF ?_|refine aT ?_);(first|refine rG Γ hm ?_|refine rD Γ hm qq ?_);conv=>whnf))
   refine Ac E (.cons .tmp .nil) (congrArg Ad ?_) E
   exact B7 hj2 (by simpa using h2)
  ·((first|refine rG Γ hm ?_|refine rD Γ hm qq ?_);(conv=>whnf);repeat((first|refine aF ?_|refine aT ?_);(first|refine rG Γ hm ?_|refine rD Γ hm qq ?_);conv=>whnf))
   refine⟨by unfold I64;omega,?_⟩
   ((conv=>whnf);repeat((first|refine aF ?_|refine aT ?_);(first|refine rG Γ hm ?_|refine rD Γ hm qq ?_);conv=>whnf))
   exact A9 [] hI hj2 (Ba hI hj2 (by simpa using h2)) ⟨⟨E,E,A4 _,hc,E,E,E,E,E,E,Y⟩,Y,E,E⟩
 ·have h:=of_decide_eq_false h
  ((first|refine rG Γ hm ?_|refine rD Γ hm qq ?_);(conv=>whnf);repeat((first|refine aF ?_|refine aT ?_);(first|refine rG Γ hm ?_|refine rD Γ hm qq ?_);conv=>whnf))
  refine Ac E (.cons .tmp .nil) (congrArg Ad ?_) E
  exact Dq hI qn
theorem Aco (l:List Vrf) (p:Nat→Vrf→Bool) (f:FuncId) (first cap:List SV) (hc:(SV.clo (.func f) first cap).inn []=true) (hf:∀ i (h:i<l.length),Hn Tryz.prog f (first++[Aa i,Ci l[i]]++cap) (Ad (p i l[i]))) (hl:Am l) :
  Sy.Spec Tryz.prog 36 [.sl 5 Ci l,.clo (.func f) first cap] [] (Ad (En p l)) []:=Ab Γ hm 100 F36 Tryz.ntmps36 rfl fun F hF=>by
 unfold Am at hl
 have hin:∀ (i:Nat) (x:Vrf),B1 [] (first++[Aa i,Ci x]++cap)=true:=fun i x=>Cp hc rfl
 ((conv=>whnf);repeat((first|refine aF ?_|refine aT ?_);(first|refine rG Γ hm ?_|refine rD Γ hm qq ?_);conv=>whnf))
 refine Bc l.length (fun j=>Dy p l j) (fun j=>[(0,.sl 5 Ci l),(1,.clo (.func f) first cap),(7,.sl 5 Ci l),(8,Aa l.length),(9,Aa j)]) (fun _=>[]) [] (Bd _ _) ⟨⟨E,E,A4 _,hc,E,E,E,E,E,E,Y⟩,Y,E,E⟩ ?_
 intro j hj hI
 ((first|refine rG Γ hm ?_|refine rD Γ hm qq ?_);(conv=>whnf);repeat((first|refine aF ?_|refine aT ?_);(first|refine rG Γ hm ?_|refine rD Γ hm qq ?_);conv=>whnf))
 refine⟨fun h=>?_,fun h=>?_⟩
 ·have h:=of_decide_eq_true h
  have hj2:j<l.length:=by omega
  ((first|refine rG Γ hm ?_|refine rD Γ hm qq ?_);(conv=>whnf);repeat((first|refine aF ?_|refine aT ?_);(first|refine rG Γ hm ?_|refine rD Γ hm qq ?_);conv=>whnf))
  refine⟨E,by omega,by omega,?_⟩
  ((conv=>whnf);repeat((first|refine aF ?_|refine aT ?_);(first|refine rG Γ hm ?_|refine rD Γ hm qq ?_);conv=>whnf))
  refine Dx (hf j hj2) E E E (by simp only[hin];rfl) E E ?_
  ((first|refine rG Γ hm ?_|refine rD Γ hm qq ?_);(conv=>whnf);repeat((first|refine aF ?_|refine aT ?_);(first|refine rG Γ hm ?_|refine rD Γ hm qq ?_);conv=>whnf))
  refine⟨fun h2=>?_,fun h2=>?_⟩
  ·((first|refine rG Γ hm ?_|refine rD Γ hm qq ?_);(conv=>whnf);repeat((first|refine aF ?_|refine aT ?_);(first|refine rG Γ hm ?_|refine rD Γ hm qq ?_);conv=>whnf))
   refine Ac E (.cons .tmp .nil) (congrArg Ad ?_) E
   exact B7 hj2 (by simpa using h2)
  ·((first|refine rG Γ hm ?_|refine rD Γ hm qq ?_);(conv=>whnf);repeat((first|refine aF ?_|refine aT ?_);(first|refine rG Γ hm ?_|refine rD Γ hm qq ?_);conv=>whnf))
   refine⟨by unfold I64;omega,?_⟩
   ((conv=>whnf);repeat((first|refine aF ?_|refine aT ?_);(first|refine rG Γ hm ?_|refine rD Γ hm qq ?_);conv=>whnf))
   exact A9 [] hI hj2 (Ba hI hj2 (by simpa using h2)) ⟨⟨E,E,A4 _,hc,E,E,E,E,E,E,Y⟩,Y,E,E⟩
 ·have h:=of_decide_eq_false h
  ((first|refine rG Γ hm ?_|refine rD Γ hm qq ?_);(conv=>whnf);repeat((first|refine aF ?_|refine aT ?_);(first|refine rG Γ hm ?_|refine rD Γ hm qq ?_);conv=>whnf))
  refine Ac E (.cons .tmp .nil) (congrArg Ad ?_) E
  exact Dq hI qn
theorem Acp (l:List Irb) (p:Nat→Irb→Bool) (f:FuncId) (first cap:List SV) (hc:(SV.clo (.func f) first cap).inn []=true) (hf:∀ i (h:i<l.length),Hn Tryz.prog f (first++[Aa i,C7 l[i]]++cap) (Ad (p i l[i]))) (hl:Am l) :
  Sy.Spec Tryz.prog 39 [.sl 5 C7 l,.clo (.func f) first cap] [] (Ad (En p l)) []:=Ab Γ hm 100 F39 Tryz.ntmps39 rfl fun F hF=>by
 unfold Am at hl
 have hin:∀ (i:Nat) (x:Irb),B1 [] (first++[Aa i,C7 x]++cap)=true:=fun i x=>Cp hc rfl
 ((conv=>whnf);repeat((first|refine aF ?_|refine aT ?_);(first|refine rG Γ hm ?_|refine rD Γ hm qq ?_);conv=>whnf))
 refine Bc l.length (fun j=>Dy p l j) (fun j=>[(0,.sl 5 C7 l),(1,.clo (.func f) first cap),(7,.sl 5 C7 l),(8,Aa l.length),(9,Aa j)]) (fun _=>[]) [] (Bd _ _) ⟨⟨E,E,A4 _,hc,E,E,E,E,E,E,Y⟩,Y,E,E⟩ ?_
 intro j hj hI
 ((first|refine rG Γ hm ?_|refine rD Γ hm qq ?_);(conv=>whnf);repeat((first|refine aF ?_|refine aT ?_);(first|refine rG Γ hm ?_|refine rD Γ hm qq ?_);conv=>whnf))
 refine⟨fun h=>?_,fun h=>?_⟩
 ·have h:=of_decide_eq_true h
  have hj2:j<l.length:=by omega
  ((first|refine rG Γ hm ?_|refine rD Γ hm qq ?_);(conv=>whnf);repeat((first|refine aF ?_|refine aT ?_);(first|refine rG Γ hm ?_|refine rD Γ hm qq ?_);conv=>whnf))
  refine⟨E,by omega,by omega,?_⟩
  ((conv=>whnf);repeat((first|refine aF ?_|refine aT ?_);(first|refine rG Γ hm ?_|refine rD Γ hm qq ?_);conv=>whnf))
  refine Dx (hf j hj2) E E E (by simp only[hin];rfl) E E ?_
  ((first|refine rG Γ hm ?_|refine rD Γ hm qq ?_);(conv=>whnf);repeat((first|refine aF ?_|refine aT ?_);(first|refine rG Γ hm ?_|refine rD Γ hm qq ?_);conv=>whnf))
  refine⟨fun h2=>?_,fun h2=>?_⟩
  ·((first|refine rG Γ hm ?_|refine rD Γ hm qq ?_);(conv=>whnf);repeat((first|refine aF ?_|refine aT ?_);(first|refine rG Γ hm ?_|refine rD Γ hm qq ?_);conv=>whnf))
   refine Ac E (.cons .tmp .nil) (congrArg Ad ?_) E
   exact B7 hj2 (by simpa using h2)
  ·((first|refine rG Γ hm ?_|refine rD Γ hm qq ?_);(conv=>whnf);repeat((first|refine aF ?_|refine aT ?_);(first|refine rG Γ hm ?_|refine rD Γ hm qq ?_);conv=>whnf))
   refine⟨by unfold I64;omega,?_⟩
   ((conv=>whnf);repeat((first|refine aF ?_|refine aT ?_);(first|refine rG Γ hm ?_|refine rD Γ hm qq ?_);conv=>whnf))
   exact A9 [] hI hj2 (Ba hI hj2 (by simpa using h2)) ⟨⟨E,E,A4 _,hc,E,E,E,E,E,E,Y⟩,Y,E,E⟩
 ·have h:=of_decide_eq_false h
  ((first|refine rG Γ hm ?_|refine rD Γ hm qq ?_);(conv=>whnf);repeat((first|refine aF ?_|refine aT ?_);(first|refine rG Γ hm ?_|refine rD Γ hm qq ?_);conv=>whnf))
  refine Ac E (.cons .tmp .nil) (congrArg Ad ?_) E
  exact Dq hI qn
theorem Ak3 (l:List Int) (p:Nat→Int→Bool) (f:FuncId) (first cap:List SV) (hc:(SV.clo (.func f) first cap).inn []=true) (hf:∀ i (h:i<l.length),Hn Tryz.prog f (first++[Aa i,Aa l[i]]++cap) (Ad (p i l[i]))) (hl:Am l) :
  Sy.Spec Tryz.prog 49 [.sl 1 Aa l,.clo (.func f) first cap] [] (Ad (En p l)) []:=Ab Γ hm 100 F49 Tryz.ntmps49 rfl fun F hF=>by
 unfold Am at hl
 have hin:∀ (i:Nat) (x:Int),B1 [] (first++[Aa i,Aa x]++cap)=true:=fun i x=>Cp hc rfl
 ((conv=>whnf);repeat((first|refine aF ?_|refine aT ?_);(first|refine rG Γ hm ?_|refine rD Γ hm qq ?_);conv=>whnf))
 refine Bc l.length (fun j=>Dy p l j) (fun j=>[(0,.sl 1 Aa l),(1,.clo (.func f) first cap),(7,.sl 1 Aa l),(8,Aa l.length),(9,Aa j)]) (fun _=>[]) [] (Bd _ _) ⟨⟨E,E,A4 _,hc,E,E,E,E,E,E,Y⟩,Y,E,E⟩ ?_
 intro j hj hI
 ((first|refine rG Γ hm ?_|refine rD Γ hm qq ?_);(conv=>whnf);repeat((first|refine aF ?_|refine aT ?_);(first|refine rG Γ hm ?_|refine rD Γ hm qq ?_);conv=>whnf))
 refine⟨fun h=>?_,fun h=>?_⟩
 ·have h:=of_decide_eq_true h
  have hj2:j<l.length:=by omega
  ((first|refine rG Γ hm ?_|refine rD Γ hm qq ?_);(conv=>whnf);repeat((first|refine aF ?_|refine aT ?_);(first|refine rG Γ hm ?_|refine rD Γ hm qq ?_);conv=>whnf))
  refine⟨E,by omega,by omega,?_⟩
  ((conv=>whnf);repeat((first|refine aF ?_|refine aT ?_);(first|refine rG Γ hm ?_|refine rD Γ hm qq ?_);conv=>whnf))
  refine Dx (hf j hj2) E E E (by simp only[hin];rfl) E E ?_
  ((first|refine rG Γ hm ?_|refine rD Γ hm qq ?_);(conv=>whnf);repeat((first|refine aF ?_|refine aT ?_);(first|refine rG Γ hm ?_|refine rD Γ hm qq ?_);conv=>whnf))
  refine⟨fun h2=>?_,fun h2=>?_⟩
  ·((first|refine rG Γ hm ?_|refine rD Γ hm qq ?_);(conv=>whnf);repeat((first|refine aF ?_|refine aT ?_);(first|refine rG Γ hm ?_|refine rD Γ hm qq ?_);conv=>whnf))
   refine Ac E (.cons .tmp .nil) (congrArg Ad ?_) E
   exact B7 hj2 (by simpa using h2)
  ·((first|refine rG Γ hm ?_|refine rD Γ hm qq ?_);(conv=>whnf);repeat((first|refine aF ?_|refine aT ?_);(first|refine rG Γ hm ?_|refine rD Γ hm qq ?_);conv=>whnf))
   refine⟨by unfold I64;omega,?_⟩
   ((conv=>whnf);repeat((first|refine aF ?_|refine aT ?_);(first|refine rG Γ hm ?_|refine rD Γ hm qq ?_);conv=>whnf))
   exact A9 [] hI hj2 (Ba hI hj2 (by simpa using h2)) ⟨⟨E,E,A4 _,hc,E,E,E,E,E,E,Y⟩,Y,E,E⟩
 ·have h:=of_decide_eq_false h
  ((first|refine rG Γ hm ?_|refine rD Γ hm qq ?_);(conv=>whnf);repeat((first|refine aF ?_|refine aT ?_);(first|refine rG Γ hm ?_|refine rD Γ hm qq ?_);conv=>whnf))
  refine Ac E (.cons .tmp .nil) (congrArg Ad ?_) E
  exact Dq hI qn
structure Net.Fin (n:Net):Prop where
 devices:Am n.devices
 ports:Am n.ports
 links:Am n.links
 domains:Am n.domains
 statics:Am n.statics
 floods:Am n.floods
 vrfs:Am n.vrfs
 irbs:Am n.irbs
 tagged:∀ p∈n.ports,Am p.tagged
 peers:∀ d∈n.domains,Am d.peers
 addrs:∀ f∈n.floods,Am f.addrs
 imports:∀ v∈n.vrfs,Am v.imports
 exports:∀ v∈n.vrfs,Am v.exports
def Acb (n:Net) (dev vlan:Int):Int:=Dn (fun d=>d.dev == dev && d.vlan == vlan) n.domains
theorem Amb (dev vlan:Int) (d:Domain):Sy.Spec Tryz.prog 75 [As d,.ref 1 (Aa dev) 0,.ref 1 (Aa vlan) 0] [] (Ad (d.dev == dev && d.vlan == vlan)) []:=Ab Γ hm 100 F75 Tryz.ntmps75 rfl fun F hF=>by
 ((conv=>whnf);repeat((first|refine aF ?_|refine aT ?_);(first|refine rG Γ hm ?_|refine rD Γ hm qq ?_);conv=>whnf))
 (repeat' (first | (refine⟨fun h=>?_,fun h=>?_⟩<;>(repeat (first | simp only[Ag]at h | simp only[decide_eq_true_eq]at h | simp only[decide_eq_false_iff_not]at h | simp only[beq_iff_eq]at h | simp only[beq_eq_false_iff_ne]at h | simp only[bne_iff_ne]at h | simp only[bne_eq_false_iff_eq]at h | simp only[Bool.and_eq_true]at h | simp only[Bool.or_eq_true]at h | simp only[Bool.and_eq_false_iff]at h | simp only[Bool.or_eq_false_iff]at h | simp only[Bool.not_eq_true']at h | simp only[Bool.not_eq_false']at h | simp only[Bool.not_eq_eq_eq_not]at h | simp only[Bool.not_true]at h | simp only[Bool.not_false]at h))<;>((first|refine rg ?_|refine rd qq ?_);(conv=>whnf);repeat((first|refine aF ?_|refine aT ?_);(first|refine rg ?_|refine rd qq ?_);(conv=>whnf)))) | (refine Ac rfl (.cons .tmp .nil) ?_ rfl) | (refine⟨qq,?_⟩;((conv=>whnf);repeat((first|refine aF ?_|refine aT ?_);(first|refine rg ?_|refine rd qq ?_);(conv=>whnf)))) | (refine⟨by (first | (unfold I64;omega) | omega | (simp only[Int.toNat_natCast];omega) | done),by (first | (unfold I64;omega) | omega | (simp only[Int.toNat_natCast];omega) | done),?_⟩;((conv=>whnf);repeat((first|refine aF ?_|refine aT ?_);(first|refine rg ?_|refine rd qq ?_);(conv=>whnf)))) | (refine⟨by (first | (unfold I64;omega) | omega | (simp only[Int.toNat_natCast];omega) | done),?_⟩;((conv=>whnf);repeat((first|refine aF ?_|refine aT ?_);(first|refine rg ?_|refine rd qq ?_);(conv=>whnf))))))
 all_goals (refine congrArg Ad ?_)
 all_goals simp_all
theorem D0 (n:Net) (dev vlan:Int) (hl:Am n.domains):Sy.Spec Tryz.prog 48 [Aq n,Aa dev,Aa vlan] [] (Aa (Acb n dev vlan)) []:=Ab Γ hm 100 F48 Tryz.ntmps48 rfl fun F hF=>by
 ((conv=>whnf);repeat((first|refine aF ?_|refine aT ?_);(first|refine rG Γ hm ?_|refine rD Γ hm qq ?_);conv=>whnf))
 refine B0 4 1 (Aa dev) E E E ?_
 refine B0 5 1 (Aa vlan) E E E ?_
 refine Ah (Et n.domains (fun d=>d.dev == dev && d.vlan == vlan) 75 [] [.ref 1 (Aa dev) 0,.ref 1 (Aa vlan) 0] E (fun d _=>⟨⟨_,_,F75⟩,Amb dev vlan d⟩) hl) F74 E E E E E ?_
 ((first|refine rG Γ hm ?_|refine rD Γ hm qq ?_);(conv=>whnf);repeat((first|refine aF ?_|refine aT ?_);(first|refine rG Γ hm ?_|refine rD Γ hm qq ?_);conv=>whnf))
 exact Ac E (.cons .tmp .nil) E E
def Aki (n:Net):Bool:=decide (n.devices.length≤8) && decide (n.ports.length≤40) && decide (n.links.length≤20) && decide (n.domains.length≤48) && decide (n.statics.length≤64) && decide (n.floods.length≤48) && decide (n.vrfs.length≤16) && decide (n.irbs.length≤48)
theorem fewS (n:Net):Sy.Spec Tryz.prog 23 [Aq n] [] (Ad (Aki n)) []:=Ab Γ hm 100 F23 Tryz.ntmps23 rfl fun F hF=>by
 ((conv=>whnf);repeat((first|refine aF ?_|refine aT ?_);(first|refine rG Γ hm ?_|refine rD Γ hm qq ?_);conv=>whnf))
 (repeat' (first | (refine⟨fun h=>?_,fun h=>?_⟩<;>(repeat (first | simp only[Ag]at h | simp only[decide_eq_true_eq]at h | simp only[decide_eq_false_iff_not]at h | simp only[beq_iff_eq]at h | simp only[beq_eq_false_iff_ne]at h | simp only[bne_iff_ne]at h | simp only[bne_eq_false_iff_eq]at h | simp only[Bool.and_eq_true]at h | simp only[Bool.or_eq_true]at h | simp only[Bool.and_eq_false_iff]at h | simp only[Bool.or_eq_false_iff]at h | simp only[Bool.not_eq_true']at h | simp only[Bool.not_eq_false']at h | simp only[Bool.not_eq_eq_eq_not]at h | simp only[Bool.not_true]at h | simp only[Bool.not_false]at h))<;>((first|refine rg ?_|refine rd qq ?_);(conv=>whnf);repeat((first|refine aF ?_|refine aT ?_);(first|refine rg ?_|refine rd qq ?_);(conv=>whnf)))) | (refine Ac rfl (.cons .tmp .nil) ?_ rfl) | (refine⟨qq,?_⟩;((conv=>whnf);repeat((first|refine aF ?_|refine aT ?_);(first|refine rg ?_|refine rd qq ?_);(conv=>whnf)))) | (refine⟨by (first | (unfold I64;omega) | omega | (simp only[Int.toNat_natCast];omega) | done),by (first | (unfold I64;omega) | omega | (simp only[Int.toNat_natCast];omega) | done),?_⟩;((conv=>whnf);repeat((first|refine aF ?_|refine aT ?_);(first|refine rg ?_|refine rd qq ?_);(conv=>whnf)))) | (refine⟨by (first | (unfold I64;omega) | omega | (simp only[Int.toNat_natCast];omega) | done),?_⟩;((conv=>whnf);repeat((first|refine aF ?_|refine aT ?_);(first|refine rg ?_|refine rd qq ?_);(conv=>whnf))))))
 all_goals (refine congrArg Ad ?_)
 all_goals (unfold Aki;rw[Bool.eq_iff_iff];simp;omega)
def Km (n:Net) (i:Nat) (d:Domain):Bool :=
 Ag d.dev n.devices.length && decide (1≤d.vlan) && decide (d.vlan≤4094) && decide (0≤d.vni) && decide (d.vni≤16777215) && (d.irb == -1 || Ag d.irb n.irbs.length && (nth n.irbs d.irb).domain == i) && Acb n d.dev d.vlan == i
theorem Amu (n:Net) (i:Nat) (d:Domain) (hl:Am n.domains):Sy.Spec Tryz.prog 25 [Aq n,Aa i,As d] [] (Ad (Km n i d)) []:=Ab Γ hm 100 F25 Tryz.ntmps25 rfl fun F hF=>by
 ((conv=>whnf);repeat((first|refine aF ?_|refine aT ?_);(first|refine rG Γ hm ?_|refine rD Γ hm qq ?_);conv=>whnf))
 (repeat' (first | (refine⟨fun h=>?_,fun h=>?_⟩<;>(repeat (first | simp only[Ag]at h | simp only[decide_eq_true_eq]at h | simp only[decide_eq_false_iff_not]at h | simp only[beq_iff_eq]at h | simp only[beq_eq_false_iff_ne]at h | simp only[bne_iff_ne]at h | simp only[bne_eq_false_iff_eq]at h | simp only[Bool.and_eq_true]at h | simp only[Bool.or_eq_true]at h | simp only[Bool.and_eq_false_iff]at h | simp only[Bool.or_eq_false_iff]at h | simp only[Bool.not_eq_true']at h | simp only[Bool.not_eq_false']at h | simp only[Bool.not_eq_eq_eq_not]at h | simp only[Bool.not_true]at h | simp only[Bool.not_false]at h))<;>((first|refine rg ?_|refine rd qq ?_);(conv=>whnf);repeat((first|refine aF ?_|refine aT ?_);(first|refine rg ?_|refine rd qq ?_);(conv=>whnf)))) | (refine Ac rfl (.cons .tmp .nil) ?_ rfl) | (refine⟨qq,?_⟩;((conv=>whnf);repeat((first|refine aF ?_|refine aT ?_);(first|refine rg ?_|refine rd qq ?_);(conv=>whnf)))) | (refine⟨by (first | (unfold I64;omega) | omega | (simp only[Int.toNat_natCast];omega) | done),by (first | (unfold I64;omega) | omega | (simp only[Int.toNat_natCast];omega) | done),?_⟩;((conv=>whnf);repeat((first|refine aF ?_|refine aT ?_);(first|refine rg ?_|refine rd qq ?_);(conv=>whnf)))) | (refine⟨by (first | (unfold I64;omega) | omega | (simp only[Int.toNat_natCast];omega) | done),?_⟩;((conv=>whnf);repeat((first|refine aF ?_|refine aT ?_);(first|refine rg ?_|refine rd qq ?_);(conv=>whnf)))) | (refine Ah (B3 5 A1 n.devices d.dev) F35 rfl rfl rfl rfl rfl ?_;((first|refine rg ?_|refine rd qq ?_);(conv=>whnf);repeat((first|refine aF ?_|refine aT ?_);(first|refine rg ?_|refine rd qq ?_);(conv=>whnf)))) | (refine An (B3 5 A1 n.devices d.dev) F35 rfl rfl rfl qq rfl ?_;((first|refine rg ?_|refine rd qq ?_);(conv=>whnf);repeat((first|refine aF ?_|refine aT ?_);(first|refine rg ?_|refine rd qq ?_);(conv=>whnf)))) | (refine Ah (Vc 5 C7 n.irbs d.irb) F47 rfl rfl rfl rfl rfl ?_;((first|refine rg ?_|refine rd qq ?_);(conv=>whnf);repeat((first|refine aF ?_|refine aT ?_);(first|refine rg ?_|refine rd qq ?_);(conv=>whnf)))) | (refine An (Vc 5 C7 n.irbs d.irb) F47 rfl rfl rfl qq rfl ?_;((first|refine rg ?_|refine rd qq ?_);(conv=>whnf);repeat((first|refine aF ?_|refine aT ?_);(first|refine rg ?_|refine rd qq ?_);(conv=>whnf)))) | (refine Ah (D0 n d.dev d.vlan hl) F48 rfl rfl rfl rfl rfl ?_;((first|refine rg ?_|refine rd qq ?_);(conv=>whnf);repeat((first|refine aF ?_|refine aT ?_);(first|refine rg ?_|refine rd qq ?_);(conv=>whnf)))) | (refine An (D0 n d.dev d.vlan hl) F48 rfl rfl rfl qq rfl ?_;((first|refine rg ?_|refine rd qq ?_);(conv=>whnf);repeat((first|refine aF ?_|refine aT ?_);(first|refine rg ?_|refine rd qq ?_);(conv=>whnf))))))
 all_goals (refine congrArg Ad ?_)
 all_goals (clear hF;grind [Km,Ag,Ao])
def Ae0 (n:Net) (d:Domain):Bool:=(nth n.devices d.dev).vtep != 0
theorem Aez (n:Net) (d:Domain) (hd:Ag d.dev n.devices.length=true):Sy.Spec Tryz.prog 76 [Aq n,As d] [] (Ad (Ae0 n d)) []:=Ab Γ hm 100 F76 Tryz.ntmps76 rfl fun F hF=>by
 simp only[Ag,Bool.and_eq_true,decide_eq_true_eq]at hd
 ((conv=>whnf);repeat((first|refine aF ?_|refine aT ?_);(first|refine rG Γ hm ?_|refine rD Γ hm qq ?_);conv=>whnf))
 (repeat' (first | (refine⟨fun h=>?_,fun h=>?_⟩<;>(repeat (first | simp only[Ag]at h | simp only[decide_eq_true_eq]at h | simp only[decide_eq_false_iff_not]at h | simp only[beq_iff_eq]at h | simp only[beq_eq_false_iff_ne]at h | simp only[bne_iff_ne]at h | simp only[bne_eq_false_iff_eq]at h | simp only[Bool.and_eq_true]at h | simp only[Bool.or_eq_true]at h | simp only[Bool.and_eq_false_iff]at h | simp only[Bool.or_eq_false_iff]at h | simp only[Bool.not_eq_true']at h | simp only[Bool.not_eq_false']at h | simp only[Bool.not_eq_eq_eq_not]at h | simp only[Bool.not_true]at h | simp only[Bool.not_false]at h))<;>((first|refine rg ?_|refine rd qq ?_);(conv=>whnf);repeat((first|refine aF ?_|refine aT ?_);(first|refine rg ?_|refine rd qq ?_);(conv=>whnf)))) | (refine Ac rfl (.cons .tmp .nil) ?_ rfl) | (refine⟨qq,?_⟩;((conv=>whnf);repeat((first|refine aF ?_|refine aT ?_);(first|refine rg ?_|refine rd qq ?_);(conv=>whnf)))) | (refine⟨by (first | (unfold I64;omega) | omega | (simp only[Int.toNat_natCast];omega) | done),by (first | (unfold I64;omega) | omega | (simp only[Int.toNat_natCast];omega) | done),?_⟩;((conv=>whnf);repeat((first|refine aF ?_|refine aT ?_);(first|refine rg ?_|refine rd qq ?_);(conv=>whnf)))) | (refine⟨by (first | (unfold I64;omega) | omega | (simp only[Int.toNat_natCast];omega) | done),?_⟩;((conv=>whnf);repeat((first|refine aF ?_|refine aT ?_);(first|refine rg ?_|refine rd qq ?_);(conv=>whnf))))))
 all_goals (refine congrArg Ad ?_)
 all_goals (clear hF;grind [Ae0,Ao])
def Xk (n:Net) (i:Nat) (d:Domain) (k:Int):Bool :=
 Ag k n.domains.length && k != i && Ag (nth n.domains k).dev n.devices.length && (nth n.domains k).dev != d.dev && (nth n.domains k).vni == d.vni && d.vni != 0 && Ae0 n (nth n.domains k) && Ae0 n d && inB (nth n.domains k).peers i
theorem Amr (n:Net) (i:Nat) (d:Domain) (k:Int) (hn:n.Fin) (hd:Ag d.dev n.devices.length=true):Sy.Spec Tryz.prog 51 [Aq n,Aa i,As d,Aa k] [] (Ad (Xk n i d k)) []:=Ab Γ hm 100 F51 Tryz.ntmps51 rfl fun F hF=>by
 ((conv=>whnf);repeat((first|refine aF ?_|refine aT ?_);(first|refine rG Γ hm ?_|refine rD Γ hm qq ?_);conv=>whnf))
 (repeat' (first | (refine⟨fun h=>?_,fun h=>?_⟩<;>(repeat (first | simp only[Ag]at h | simp only[decide_eq_true_eq]at h | simp only[decide_eq_false_iff_not]at h | simp only[beq_iff_eq]at h | simp only[beq_eq_false_iff_ne]at h | simp only[bne_iff_ne]at h | simp only[bne_eq_false_iff_eq]at h | simp only[Bool.and_eq_true]at h | simp only[Bool.or_eq_true]at h | simp only[Bool.and_eq_false_iff]at h | simp only[Bool.or_eq_false_iff]at h | simp only[Bool.not_eq_true']at h | simp only[Bool.not_eq_false']at h | simp only[Bool.not_eq_eq_eq_not]at h | simp only[Bool.not_true]at h | simp only[Bool.not_false]at h))<;>((first|refine rg ?_|refine rd qq ?_);(conv=>whnf);repeat((first|refine aF ?_|refine aT ?_);(first|refine rg ?_|refine rd qq ?_);(conv=>whnf)))) | (refine Ac rfl (.cons .tmp .nil) ?_ rfl) | (refine⟨qq,?_⟩;((conv=>whnf);repeat((first|refine aF ?_|refine aT ?_);(first|refine rg ?_|refine rd qq ?_);(conv=>whnf)))) | (refine⟨by (first | (unfold I64;omega) | omega | (simp only[Int.toNat_natCast];omega) | done),by (first | (unfold I64;omega) | omega | (simp only[Int.toNat_natCast];omega) | done),?_⟩;((conv=>whnf);repeat((first|refine aF ?_|refine aT ?_);(first|refine rg ?_|refine rd qq ?_);(conv=>whnf)))) | (refine⟨by (first | (unfold I64;omega) | omega | (simp only[Int.toNat_natCast];omega) | done),?_⟩;((conv=>whnf);repeat((first|refine aF ?_|refine aT ?_);(first|refine rg ?_|refine rd qq ?_);(conv=>whnf)))) | (refine Ah (Cw 6 As n.domains k) F56 rfl rfl rfl rfl rfl ?_;((first|refine rg ?_|refine rd qq ?_);(conv=>whnf);repeat((first|refine aF ?_|refine aT ?_);(first|refine rg ?_|refine rd qq ?_);(conv=>whnf)))) | (refine An (Cw 6 As n.domains k) F56 rfl rfl rfl qq rfl ?_;((first|refine rg ?_|refine rd qq ?_);(conv=>whnf);repeat((first|refine aF ?_|refine aT ?_);(first|refine rg ?_|refine rd qq ?_);(conv=>whnf)))) | (refine Ah (B3 5 A1 n.devices (n.domains[k.toNat]'qn).dev) F35 rfl rfl rfl rfl rfl ?_;((first|refine rg ?_|refine rd qq ?_);(conv=>whnf);repeat((first|refine aF ?_|refine aT ?_);(first|refine rg ?_|refine rd qq ?_);(conv=>whnf)))) | (refine An (B3 5 A1 n.devices (n.domains[k.toNat]'qn).dev) F35 rfl rfl rfl qq rfl ?_;((first|refine rg ?_|refine rd qq ?_);(conv=>whnf);repeat((first|refine aF ?_|refine aT ?_);(first|refine rg ?_|refine rd qq ?_);(conv=>whnf)))) | (refine Ah (Aez n (n.domains[k.toNat]'qn) (by simp only[Ag,Bool.and_eq_true,decide_eq_true_eq];omega)) F76 rfl rfl rfl rfl rfl ?_;((first|refine rg ?_|refine rd qq ?_);(conv=>whnf);repeat((first|refine aF ?_|refine aT ?_);(first|refine rg ?_|refine rd qq ?_);(conv=>whnf)))) | (refine An (Aez n (n.domains[k.toNat]'qn) (by simp only[Ag,Bool.and_eq_true,decide_eq_true_eq];omega)) F76 rfl rfl rfl qq rfl ?_;((first|refine rg ?_|refine rd qq ?_);(conv=>whnf);repeat((first|refine aF ?_|refine aT ?_);(first|refine rg ?_|refine rd qq ?_);(conv=>whnf)))) | (refine Ah (Aez n d hd) F76 rfl rfl rfl rfl rfl ?_;((first|refine rg ?_|refine rd qq ?_);(conv=>whnf);repeat((first|refine aF ?_|refine aT ?_);(first|refine rg ?_|refine rd qq ?_);(conv=>whnf)))) | (refine An (Aez n d hd) F76 rfl rfl rfl qq rfl ?_;((first|refine rg ?_|refine rd qq ?_);(conv=>whnf);repeat((first|refine aF ?_|refine aT ?_);(first|refine rg ?_|refine rd qq ?_);(conv=>whnf)))) | (refine Ah (Cb (n.domains[k.toNat]'qn).peers i (hn.peers _ (List.getElem_mem _))) F53 rfl rfl rfl rfl rfl ?_;((first|refine rg ?_|refine rd qq ?_);(conv=>whnf);repeat((first|refine aF ?_|refine aT ?_);(first|refine rg ?_|refine rd qq ?_);(conv=>whnf)))) | (refine An (Cb (n.domains[k.toNat]'qn).peers i (hn.peers _ (List.getElem_mem _))) F53 rfl rfl rfl qq rfl ?_;((first|refine rg ?_|refine rd qq ?_);(conv=>whnf);repeat((first|refine aF ?_|refine aT ?_);(first|refine rg ?_|refine rd qq ?_);(conv=>whnf))))))
 all_goals (refine congrArg Ad ?_;clear hF;grind [Xk,Ag,Ao])
def Y0 (n:Net) (i:Nat) (d:Domain):Bool:=En (fun at_ k=>Xk n i d k && Dn (· == k) d.peers == at_) d.peers
theorem peers1 (n:Net) (i:Nat) (d:Domain) (at_:Nat) (k:Int) (hn:n.Fin) (hp:Am d.peers) (hd:Ag d.dev n.devices.length=true) :
  Sy.Spec Tryz.prog 50 [Aa at_,Aa k,.ref 8 (Aq n) 0,.ref 1 (Aa i) 0,.ref 6 (As d) 0] [] (Ad (Xk n i d k && Dn (· == k) d.peers == at_)) []:=Ab Γ hm 100 F50 Tryz.ntmps50 rfl fun F hF=>by
 ((conv=>whnf);repeat((first|refine aF ?_|refine aT ?_);(first|refine rG Γ hm ?_|refine rD Γ hm qq ?_);conv=>whnf))
 (repeat' (first | (refine⟨fun h=>?_,fun h=>?_⟩<;>(repeat (first | simp only[Ag]at h | simp only[decide_eq_true_eq]at h | simp only[decide_eq_false_iff_not]at h | simp only[beq_iff_eq]at h | simp only[beq_eq_false_iff_ne]at h | simp only[bne_iff_ne]at h | simp only[bne_eq_false_iff_eq]at h | simp only[Bool.and_eq_true]at h | simp only[Bool.or_eq_true]at h | simp only[Bool.and_eq_false_iff]at h | simp only[Bool.or_eq_false_iff]at h | simp only[Bool.not_eq_true']at h | simp only[Bool.not_eq_false']at h | simp only[Bool.not_eq_eq_eq_not]at h | simp only[Bool.not_true]at h | simp only[Bool.not_false]at h))<;>((first|refine rg ?_|refine rd qq ?_);(conv=>whnf);repeat((first|refine aF ?_|refine aT ?_);(first|refine rg ?_|refine rd qq ?_);(conv=>whnf)))) | (refine Ac rfl (.cons .tmp .nil) ?_ rfl) | (refine⟨qq,?_⟩;((conv=>whnf);repeat((first|refine aF ?_|refine aT ?_);(first|refine rg ?_|refine rd qq ?_);(conv=>whnf)))) | (refine⟨by (first | (unfold I64;omega) | omega | (simp only[Int.toNat_natCast];omega) | done),by (first | (unfold I64;omega) | omega | (simp only[Int.toNat_natCast];omega) | done),?_⟩;((conv=>whnf);repeat((first|refine aF ?_|refine aT ?_);(first|refine rg ?_|refine rd qq ?_);(conv=>whnf)))) | (refine⟨by (first | (unfold I64;omega) | omega | (simp only[Int.toNat_natCast];omega) | done),?_⟩;((conv=>whnf);repeat((first|refine aF ?_|refine aT ?_);(first|refine rg ?_|refine rd qq ?_);(conv=>whnf)))) | (refine Ah (Amr n i d k hn hd) F51 rfl rfl rfl rfl rfl ?_;((first|refine rg ?_|refine rd qq ?_);(conv=>whnf);repeat((first|refine aF ?_|refine aT ?_);(first|refine rg ?_|refine rd qq ?_);(conv=>whnf)))) | (refine An (Amr n i d k hn hd) F51 rfl rfl rfl qq rfl ?_;((first|refine rg ?_|refine rd qq ?_);(conv=>whnf);repeat((first|refine aF ?_|refine aT ?_);(first|refine rg ?_|refine rd qq ?_);(conv=>whnf)))) | (refine Ah (Zc d.peers k hp) F52 rfl rfl rfl rfl rfl ?_;((first|refine rg ?_|refine rd qq ?_);(conv=>whnf);repeat((first|refine aF ?_|refine aT ?_);(first|refine rg ?_|refine rd qq ?_);(conv=>whnf)))) | (refine An (Zc d.peers k hp) F52 rfl rfl rfl qq rfl ?_;((first|refine rg ?_|refine rd qq ?_);(conv=>whnf);repeat((first|refine aF ?_|refine aT ?_);(first|refine rg ?_|refine rd qq ?_);(conv=>whnf))))))
 all_goals (refine congrArg Ad ?_;clear hF;grind)
theorem Aja (n:Net) (i:Nat) (d:Domain) (hn:n.Fin) (hp:Am d.peers) (hd:Ag d.dev n.devices.length=true):Sy.Spec Tryz.prog 26 [Aq n,Aa i,As d] [] (Ad (Y0 n i d)) []:=Ab Γ hm 100 F26 Tryz.ntmps26 rfl fun F hF=>by
 ((conv=>whnf);repeat((first|refine aF ?_|refine aT ?_);(first|refine rG Γ hm ?_|refine rD Γ hm qq ?_);conv=>whnf))
 refine B0 3 8 (Aq n) E E E ?_
 refine B0 4 1 (Aa i) E E E ?_
 refine B0 5 6 (As d) E E E ?_
 refine Ah (Ak3 d.peers (fun at_ k=>Xk n i d k && Dn (· == k) d.peers == at_) 50 [] [.ref 8 (Aq n) 0,.ref 1 (Aa i) 0,.ref 6 (As d) 0] E (fun a ha=>⟨⟨_,_,F50⟩,peers1 n i d a d.peers[a] hn hp hd⟩) hp) F49 E E E E E ?_
 ((first|refine rG Γ hm ?_|refine rD Γ hm qq ?_);(conv=>whnf);repeat((first|refine aF ?_|refine aT ?_);(first|refine rG Γ hm ?_|refine rD Γ hm qq ?_);conv=>whnf))
 exact Ac E (.cons .tmp .nil) E E
def Dl (n:Net) (dev vlan:Int):Bool:=decide (0≤Acb n dev vlan)
def Ib (n:Net) (i:Nat) (p:Port):Bool :=
 Ag p.dev n.devices.length && decide (0≤p.native) && decide (p.native≤4094) && (decide (p.tagged.length=0) || Hv p.tagged 1 4094) && !inB p.tagged p.native && !(p.native == 0 && decide (p.tagged.length=0)) &&
  En (fun _ v=>Dl n p.dev v) p.tagged && !(decide (0<p.native) && !Dl n p.dev p.native) &&
  (p.link == -1 || Ag p.link n.links.length && ((nth n.links p.link).a == i || (nth n.links p.link).b == i))
theorem Vs (n:Net) (i:Nat) (p:Port) (hn:n.Fin) (hp:Am p.tagged):Sy.Spec Tryz.prog 28 [Aq n,Aa i,A3 p] [] (Ad (Ib n i p)) []:=Ab Γ hm 100 F28 Tryz.ntmps28 rfl fun F hF=>by
 ((conv=>whnf);repeat((first|refine aF ?_|refine aT ?_);(first|refine rG Γ hm ?_|refine rD Γ hm qq ?_);conv=>whnf))
 (repeat' (first | (refine⟨fun h=>?_,fun h=>?_⟩<;>(repeat (first | simp only[Ag]at h | simp only[decide_eq_true_eq]at h | simp only[decide_eq_false_iff_not]at h | simp only[beq_iff_eq]at h | simp only[beq_eq_false_iff_ne]at h | simp only[bne_iff_ne]at h | simp only[bne_eq_false_iff_eq]at h | simp only[Bool.and_eq_true]at h | simp only[Bool.or_eq_true]at h | simp only[Bool.and_eq_false_iff]at h | simp only[Bool.or_eq_false_iff]at h | simp only[Bool.not_eq_true']at h | simp only[Bool.not_eq_false']at h | simp only[Bool.not_eq_eq_eq_not]at h | simp only[Bool.not_true]at h | simp only[Bool.not_false]at h))<;>((first|refine rg ?_|refine rd qq ?_);(conv=>whnf);repeat((first|refine aF ?_|refine aT ?_);(first|refine rg ?_|refine rd qq ?_);(conv=>whnf)))) | (refine Ac rfl (.cons .tmp .nil) ?_ rfl) | (refine⟨qq,?_⟩;((conv=>whnf);repeat((first|refine aF ?_|refine aT ?_);(first|refine rg ?_|refine rd qq ?_);(conv=>whnf)))) | (refine⟨by (first | (unfold I64;omega) | omega | (simp only[Int.toNat_natCast];omega) | done),by (first | (unfold I64;omega) | omega | (simp only[Int.toNat_natCast];omega) | done),?_⟩;((conv=>whnf);repeat((first|refine aF ?_|refine aT ?_);(first|refine rg ?_|refine rd qq ?_);(conv=>whnf)))) | (refine⟨by (first | (unfold I64;omega) | omega | (simp only[Int.toNat_natCast];omega) | done),?_⟩;((conv=>whnf);repeat((first|refine aF ?_|refine aT ?_);(first|refine rg ?_|refine rd qq ?_);(conv=>whnf)))) | (refine Ah (B3 5 A1 n.devices p.dev) F35 rfl rfl rfl rfl rfl ?_;((first|refine rg ?_|refine rd qq ?_);(conv=>whnf);repeat((first|refine aF ?_|refine aT ?_);(first|refine rg ?_|refine rd qq ?_);(conv=>whnf)))) | (refine An (B3 5 A1 n.devices p.dev) F35 rfl rfl rfl qq rfl ?_;((first|refine rg ?_|refine rd qq ?_);(conv=>whnf);repeat((first|refine aF ?_|refine aT ?_);(first|refine rg ?_|refine rd qq ?_);(conv=>whnf)))) | (refine Ah (Lt p.tagged 4094 hp) F38 rfl rfl rfl rfl rfl ?_;((first|refine rg ?_|refine rd qq ?_);(conv=>whnf);repeat((first|refine aF ?_|refine aT ?_);(first|refine rg ?_|refine rd qq ?_);(conv=>whnf)))) | (refine An (Lt p.tagged 4094 hp) F38 rfl rfl rfl qq rfl ?_;((first|refine rg ?_|refine rd qq ?_);(conv=>whnf);repeat((first|refine aF ?_|refine aT ?_);(first|refine rg ?_|refine rd qq ?_);(conv=>whnf)))) | (refine Ah (Cb p.tagged p.native hp) F53 rfl rfl rfl rfl rfl ?_;((first|refine rg ?_|refine rd qq ?_);(conv=>whnf);repeat((first|refine aF ?_|refine aT ?_);(first|refine rg ?_|refine rd qq ?_);(conv=>whnf)))) | (refine An (Cb p.tagged p.native hp) F53 rfl rfl rfl qq rfl ?_;((first|refine rg ?_|refine rd qq ?_);(conv=>whnf);repeat((first|refine aF ?_|refine aT ?_);(first|refine rg ?_|refine rd qq ?_);(conv=>whnf))))))
 all_goals first | (refine congrArg Ad ?_;clear hF;grind [Ib,Ag]) | skip
 all_goals (
  refine B0 3 8 (Aq n) E E E ?_
  refine B0 5 7 (A3 p) E E E ?_
  refine Bc p.tagged.length (fun j=>Dy (fun _ v=>Dl n p.dev v) p.tagged j) (fun j=>[(1,Aa i),(3,.ref 8 (Aq n) 0),(5,.ref 7 (A3 p) 0),(51,.sl 1 Aa p.tagged),(52,Aa p.tagged.length),(53,Aa j)]) (fun _=>[]) [] (Bd _ _) ⟨⟨E,E,E,E,E,E,E,E,E,E,E,E,Y⟩,Y,E,E⟩ ?_
  intro j hj hI
  have hsh:=hp
  unfold Am at hsh
  ((first|refine rG Γ hm ?_|refine rD Γ hm qq ?_);(conv=>whnf);repeat((first|refine aF ?_|refine aT ?_);(first|refine rG Γ hm ?_|refine rD Γ hm qq ?_);conv=>whnf)))
 all_goals (
  (repeat' (first | (refine⟨fun h=>?_,fun h=>?_⟩<;>(repeat (first | simp only[Ag]at h | simp only[decide_eq_true_eq]at h | simp only[decide_eq_false_iff_not]at h | simp only[beq_iff_eq]at h | simp only[beq_eq_false_iff_ne]at h | simp only[bne_iff_ne]at h | simp only[bne_eq_false_iff_eq]at h | simp only[Bool.and_eq_true]at h | simp only[Bool.or_eq_true]at h | simp only[Bool.and_eq_false_iff]at h | simp only[Bool.or_eq_false_iff]at h | simp only[Bool.not_eq_true']at h | simp only[Bool.not_eq_false']at h | simp only[Bool.not_eq_eq_eq_not]at h | simp only[Bool.not_true]at h | simp only[Bool.not_false]at h))<;>((first|refine rg ?_|refine rd qq ?_);(conv=>whnf);repeat((first|refine aF ?_|refine aT ?_);(first|refine rg ?_|refine rd qq ?_);(conv=>whnf)))) | (refine Ac rfl (.cons .tmp .nil) ?_ rfl) | (refine⟨qq,?_⟩;((conv=>whnf);repeat((first|refine aF ?_|refine aT ?_);(first|refine rg ?_|refine rd qq ?_);(conv=>whnf)))) | (refine⟨by (first | (unfold I64;omega) | omega | (simp only[Int.toNat_natCast];omega) | done),by (first | (unfold I64;omega) | omega | (simp only[Int.toNat_natCast];omega) | done),?_⟩;((conv=>whnf);repeat((first|refine aF ?_|refine aT ?_);(first|refine rg ?_|refine rd qq ?_);(conv=>whnf)))) | (refine⟨by (first | (unfold I64;omega) | omega | (simp only[Int.toNat_natCast];omega) | done),?_⟩;((conv=>whnf);repeat((first|refine aF ?_|refine aT ?_);(first|refine rg ?_|refine rd qq ?_);(conv=>whnf)))) | (refine Ah (D0 n p.dev (p.tagged[j]'qn) hn.domains) F48 rfl rfl rfl rfl rfl ?_;((first|refine rg ?_|refine rd qq ?_);(conv=>whnf);repeat((first|refine aF ?_|refine aT ?_);(first|refine rg ?_|refine rd qq ?_);(conv=>whnf)))) | (refine An (D0 n p.dev (p.tagged[j]'qn) hn.domains) F48 rfl rfl rfl qq rfl ?_;((first|refine rg ?_|refine rd qq ?_);(conv=>whnf);repeat((first|refine aF ?_|refine aT ?_);(first|refine rg ?_|refine rd qq ?_);(conv=>whnf)))) | (refine Ah (D0 n p.dev p.native hn.domains) F48 rfl rfl rfl rfl rfl ?_;((first|refine rg ?_|refine rd qq ?_);(conv=>whnf);repeat((first|refine aF ?_|refine aT ?_);(first|refine rg ?_|refine rd qq ?_);(conv=>whnf)))) | (refine An (D0 n p.dev p.native hn.domains) F48 rfl rfl rfl qq rfl ?_;((first|refine rg ?_|refine rd qq ?_);(conv=>whnf);repeat((first|refine aF ?_|refine aT ?_);(first|refine rg ?_|refine rd qq ?_);(conv=>whnf)))) | (refine Ah (S3 3 B6 n.links p.link) F54 rfl rfl rfl rfl rfl ?_;((first|refine rg ?_|refine rd qq ?_);(conv=>whnf);repeat((first|refine aF ?_|refine aT ?_);(first|refine rg ?_|refine rd qq ?_);(conv=>whnf)))) | (refine An (S3 3 B6 n.links p.link) F54 rfl rfl rfl qq rfl ?_;((first|refine rg ?_|refine rd qq ?_);(conv=>whnf);repeat((first|refine aF ?_|refine aT ?_);(first|refine rg ?_|refine rd qq ?_);(conv=>whnf)))) | refine A9 [] hI qn ?_ ⟨⟨rfl,rfl,rfl,rfl,rfl,rfl,rfl,rfl,rfl,rfl,rfl,rfl,trivial⟩,trivial,rfl,rfl⟩)))
 all_goals first
  | exact Ba hI qn (by simp only[Dl,decide_eq_true_eq];omega)
  | (refine congrArg Ad ?_
     have h0:En (fun _ v=>Dl n p.dev v) p.tagged=false:=B7 (i:=j) qn (by simp only[Dl,decide_eq_false_iff_not];omega)
     clear hF hI;grind [Ib])
  | (refine congrArg Ad ?_
     have h0:En (fun _ v=>Dl n p.dev v) p.tagged=true:=Dq hI qn
     clear hF hI;grind [Ib,Ag,Dl,Ao])
def Qc (n:Net) (i:Nat) (l:Link):Bool :=
 Ag l.a n.ports.length && Ag l.b n.ports.length && (nth n.ports l.a).dev != (nth n.ports l.b).dev && (nth n.ports l.a).link == i && (nth n.ports l.b).link == i
theorem Vt (n:Net) (i:Nat) (l:Link):Sy.Spec Tryz.prog 30 [Aq n,Aa i,B6 l] [] (Ad (Qc n i l)) []:=Ab Γ hm 100 F30 Tryz.ntmps30 rfl fun F hF=>by
 ((conv=>whnf);repeat((first|refine aF ?_|refine aT ?_);(first|refine rG Γ hm ?_|refine rD Γ hm qq ?_);conv=>whnf))
 (repeat' (first | (refine⟨fun h=>?_,fun h=>?_⟩<;>(repeat (first | simp only[Ag]at h | simp only[decide_eq_true_eq]at h | simp only[decide_eq_false_iff_not]at h | simp only[beq_iff_eq]at h | simp only[beq_eq_false_iff_ne]at h | simp only[bne_iff_ne]at h | simp only[bne_eq_false_iff_eq]at h | simp only[Bool.and_eq_true]at h | simp only[Bool.or_eq_true]at h | simp only[Bool.and_eq_false_iff]at h | simp only[Bool.or_eq_false_iff]at h | simp only[Bool.not_eq_true']at h | simp only[Bool.not_eq_false']at h | simp only[Bool.not_eq_eq_eq_not]at h | simp only[Bool.not_true]at h | simp only[Bool.not_false]at h))<;>((first|refine rg ?_|refine rd qq ?_);(conv=>whnf);repeat((first|refine aF ?_|refine aT ?_);(first|refine rg ?_|refine rd qq ?_);(conv=>whnf)))) | (refine Ac rfl (.cons .tmp .nil) ?_ rfl) | (refine⟨qq,?_⟩;((conv=>whnf);repeat((first|refine aF ?_|refine aT ?_);(first|refine rg ?_|refine rd qq ?_);(conv=>whnf)))) | (refine⟨by (first | (unfold I64;omega) | omega | (simp only[Int.toNat_natCast];omega) | done),by (first | (unfold I64;omega) | omega | (simp only[Int.toNat_natCast];omega) | done),?_⟩;((conv=>whnf);repeat((first|refine aF ?_|refine aT ?_);(first|refine rg ?_|refine rd qq ?_);(conv=>whnf)))) | (refine⟨by (first | (unfold I64;omega) | omega | (simp only[Int.toNat_natCast];omega) | done),?_⟩;((conv=>whnf);repeat((first|refine aF ?_|refine aT ?_);(first|refine rg ?_|refine rd qq ?_);(conv=>whnf)))) | (refine Ah (El 7 A3 n.ports l.a) F55 rfl rfl rfl rfl rfl ?_;((first|refine rg ?_|refine rd qq ?_);(conv=>whnf);repeat((first|refine aF ?_|refine aT ?_);(first|refine rg ?_|refine rd qq ?_);(conv=>whnf)))) | (refine An (El 7 A3 n.ports l.a) F55 rfl rfl rfl qq rfl ?_;((first|refine rg ?_|refine rd qq ?_);(conv=>whnf);repeat((first|refine aF ?_|refine aT ?_);(first|refine rg ?_|refine rd qq ?_);(conv=>whnf)))) | (refine Ah (El 7 A3 n.ports l.b) F55 rfl rfl rfl rfl rfl ?_;((first|refine rg ?_|refine rd qq ?_);(conv=>whnf);repeat((first|refine aF ?_|refine aT ?_);(first|refine rg ?_|refine rd qq ?_);(conv=>whnf)))) | (refine An (El 7 A3 n.ports l.b) F55 rfl rfl rfl qq rfl ?_;((first|refine rg ?_|refine rd qq ?_);(conv=>whnf);repeat((first|refine aF ?_|refine aT ?_);(first|refine rg ?_|refine rd qq ?_);(conv=>whnf))))))
 all_goals (refine congrArg Ad ?_;clear hF;grind [Qc,Ag,Ao])
def Jv (n:Net) (s:Static):Bool :=
 Ag s.domain n.domains.length && Ag s.port n.ports.length && (nth n.ports s.port).dev == (nth n.domains s.domain).dev && J6 (nth n.ports s.port) (nth n.domains s.domain).vlan
theorem Qd (n:Net) (i:Nat) (s:Static) (hn:n.Fin):Sy.Spec Tryz.prog 32 [Aq n,Aa i,Be s] [] (Ad (Jv n s)) []:=Ab Γ hm 100 F32 Tryz.ntmps32 rfl fun F hF=>by
 ((conv=>whnf);repeat((first|refine aF ?_|refine aT ?_);(first|refine rG Γ hm ?_|refine rD Γ hm qq ?_);conv=>whnf))
 (repeat' (first | (refine⟨fun h=>?_,fun h=>?_⟩<;>(repeat (first | simp only[Ag]at h | simp only[decide_eq_true_eq]at h | simp only[decide_eq_false_iff_not]at h | simp only[beq_iff_eq]at h | simp only[beq_eq_false_iff_ne]at h | simp only[bne_iff_ne]at h | simp only[bne_eq_false_iff_eq]at h | simp only[Bool.and_eq_true]at h | simp only[Bool.or_eq_true]at h | simp only[Bool.and_eq_false_iff]at h | simp only[Bool.or_eq_false_iff]at h | simp only[Bool.not_eq_true']at h | simp only[Bool.not_eq_false']at h | simp only[Bool.not_eq_eq_eq_not]at h | simp only[Bool.not_true]at h | simp only[Bool.not_false]at h))<;>((first|refine rg ?_|refine rd qq ?_);(conv=>whnf);repeat((first|refine aF ?_|refine aT ?_);(first|refine rg ?_|refine rd qq ?_);(conv=>whnf)))) | (refine Ac rfl (.cons .tmp .nil) ?_ rfl) | (refine⟨qq,?_⟩;((conv=>whnf);repeat((first|refine aF ?_|refine aT ?_);(first|refine rg ?_|refine rd qq ?_);(conv=>whnf)))) | (refine⟨by (first | (unfold I64;omega) | omega | (simp only[Int.toNat_natCast];omega) | done),by (first | (unfold I64;omega) | omega | (simp only[Int.toNat_natCast];omega) | done),?_⟩;((conv=>whnf);repeat((first|refine aF ?_|refine aT ?_);(first|refine rg ?_|refine rd qq ?_);(conv=>whnf)))) | (refine⟨by (first | (unfold I64;omega) | omega | (simp only[Int.toNat_natCast];omega) | done),?_⟩;((conv=>whnf);repeat((first|refine aF ?_|refine aT ?_);(first|refine rg ?_|refine rd qq ?_);(conv=>whnf)))) | (refine Ah (Cw 6 As n.domains s.domain) F56 rfl rfl rfl rfl rfl ?_;((first|refine rg ?_|refine rd qq ?_);(conv=>whnf);repeat((first|refine aF ?_|refine aT ?_);(first|refine rg ?_|refine rd qq ?_);(conv=>whnf)))) | (refine An (Cw 6 As n.domains s.domain) F56 rfl rfl rfl qq rfl ?_;((first|refine rg ?_|refine rd qq ?_);(conv=>whnf);repeat((first|refine aF ?_|refine aT ?_);(first|refine rg ?_|refine rd qq ?_);(conv=>whnf)))) | (refine Ah (El 7 A3 n.ports s.port) F55 rfl rfl rfl rfl rfl ?_;((first|refine rg ?_|refine rd qq ?_);(conv=>whnf);repeat((first|refine aF ?_|refine aT ?_);(first|refine rg ?_|refine rd qq ?_);(conv=>whnf)))) | (refine An (El 7 A3 n.ports s.port) F55 rfl rfl rfl qq rfl ?_;((first|refine rg ?_|refine rd qq ?_);(conv=>whnf);repeat((first|refine aF ?_|refine aT ?_);(first|refine rg ?_|refine rd qq ?_);(conv=>whnf)))) | (refine Ah (T6 (n.ports[s.port.toNat]'qn) (n.domains[s.domain.toNat]'qn).vlan (hn.tagged _ (List.getElem_mem _))) F57 rfl rfl rfl rfl rfl ?_;((first|refine rg ?_|refine rd qq ?_);(conv=>whnf);repeat((first|refine aF ?_|refine aT ?_);(first|refine rg ?_|refine rd qq ?_);(conv=>whnf)))) | (refine An (T6 (n.ports[s.port.toNat]'qn) (n.domains[s.domain.toNat]'qn).vlan (hn.tagged _ (List.getElem_mem _))) F57 rfl rfl rfl qq rfl ?_;((first|refine rg ?_|refine rd qq ?_);(conv=>whnf);repeat((first|refine aF ?_|refine aT ?_);(first|refine rg ?_|refine rd qq ?_);(conv=>whnf))))))
 all_goals (refine congrArg Ad ?_;clear hF;grind [Jv,Ag,Ao])
def Adz (n:Net) (i:Nat) (x:Irb):Bool :=
 Ag x.domain n.domains.length && Ag x.vrf n.vrfs.length && (nth n.domains x.domain).dev == (nth n.vrfs x.vrf).dev && (nth n.domains x.domain).irb == i && decide (1≤x.bits) && decide (x.bits≤30)
theorem Xw (n:Net) (i:Nat) (x:Irb):Sy.Spec Tryz.prog 40 [Aq n,Aa i,C7 x] [] (Ad (Adz n i x)) []:=Ab Γ hm 100 F40 Tryz.ntmps40 rfl fun F hF=>by
 ((conv=>whnf);repeat((first|refine aF ?_|refine aT ?_);(first|refine rG Γ hm ?_|refine rD Γ hm qq ?_);conv=>whnf))
 (repeat' (first | (refine⟨fun h=>?_,fun h=>?_⟩<;>(repeat (first | simp only[Ag]at h | simp only[decide_eq_true_eq]at h | simp only[decide_eq_false_iff_not]at h | simp only[beq_iff_eq]at h | simp only[beq_eq_false_iff_ne]at h | simp only[bne_iff_ne]at h | simp only[bne_eq_false_iff_eq]at h | simp only[Bool.and_eq_true]at h | simp only[Bool.or_eq_true]at h | simp only[Bool.and_eq_false_iff]at h | simp only[Bool.or_eq_false_iff]at h | simp only[Bool.not_eq_true']at h | simp only[Bool.not_eq_false']at h | simp only[Bool.not_eq_eq_eq_not]at h | simp only[Bool.not_true]at h | simp only[Bool.not_false]at h))<;>((first|refine rg ?_|refine rd qq ?_);(conv=>whnf);repeat((first|refine aF ?_|refine aT ?_);(first|refine rg ?_|refine rd qq ?_);(conv=>whnf)))) | (refine Ac rfl (.cons .tmp .nil) ?_ rfl) | (refine⟨qq,?_⟩;((conv=>whnf);repeat((first|refine aF ?_|refine aT ?_);(first|refine rg ?_|refine rd qq ?_);(conv=>whnf)))) | (refine⟨by (first | (unfold I64;omega) | omega | (simp only[Int.toNat_natCast];omega) | done),by (first | (unfold I64;omega) | omega | (simp only[Int.toNat_natCast];omega) | done),?_⟩;((conv=>whnf);repeat((first|refine aF ?_|refine aT ?_);(first|refine rg ?_|refine rd qq ?_);(conv=>whnf)))) | (refine⟨by (first | (unfold I64;omega) | omega | (simp only[Int.toNat_natCast];omega) | done),?_⟩;((conv=>whnf);repeat((first|refine aF ?_|refine aT ?_);(first|refine rg ?_|refine rd qq ?_);(conv=>whnf)))) | (refine Ah (Cw 6 As n.domains x.domain) F56 rfl rfl rfl rfl rfl ?_;((first|refine rg ?_|refine rd qq ?_);(conv=>whnf);repeat((first|refine aF ?_|refine aT ?_);(first|refine rg ?_|refine rd qq ?_);(conv=>whnf)))) | (refine An (Cw 6 As n.domains x.domain) F56 rfl rfl rfl qq rfl ?_;((first|refine rg ?_|refine rd qq ?_);(conv=>whnf);repeat((first|refine aF ?_|refine aT ?_);(first|refine rg ?_|refine rd qq ?_);(conv=>whnf)))) | (refine Ah (Vb 5 Ci n.vrfs x.vrf) F59 rfl rfl rfl rfl rfl ?_;((first|refine rg ?_|refine rd qq ?_);(conv=>whnf);repeat((first|refine aF ?_|refine aT ?_);(first|refine rg ?_|refine rd qq ?_);(conv=>whnf)))) | (refine An (Vb 5 Ci n.vrfs x.vrf) F59 rfl rfl rfl qq rfl ?_;((first|refine rg ?_|refine rd qq ?_);(conv=>whnf);repeat((first|refine aF ?_|refine aT ?_);(first|refine rg ?_|refine rd qq ?_);(conv=>whnf))))))
 all_goals (refine congrArg Ad ?_;clear hF;grind [Adz,Ag,Ao])
def V4 (n:Net) (f:Flood):Bool:=Ag f.dev n.devices.length && decide (f.addrs.length≤16)
theorem Aiy (n:Net) (i:Nat) (f:Flood):Sy.Spec Tryz.prog 34 [Aa i,Bu f,.ref 8 (Aq n) 0] [] (Ad (V4 n f)) []:=Ab Γ hm 100 F34 Tryz.ntmps34 rfl fun F hF=>by
 ((conv=>whnf);repeat((first|refine aF ?_|refine aT ?_);(first|refine rG Γ hm ?_|refine rD Γ hm qq ?_);conv=>whnf))
 (repeat' (first | (refine⟨fun h=>?_,fun h=>?_⟩<;>(repeat (first | simp only[Ag]at h | simp only[decide_eq_true_eq]at h | simp only[decide_eq_false_iff_not]at h | simp only[beq_iff_eq]at h | simp only[beq_eq_false_iff_ne]at h | simp only[bne_iff_ne]at h | simp only[bne_eq_false_iff_eq]at h | simp only[Bool.and_eq_true]at h | simp only[Bool.or_eq_true]at h | simp only[Bool.and_eq_false_iff]at h | simp only[Bool.or_eq_false_iff]at h | simp only[Bool.not_eq_true']at h | simp only[Bool.not_eq_false']at h | simp only[Bool.not_eq_eq_eq_not]at h | simp only[Bool.not_true]at h | simp only[Bool.not_false]at h))<;>((first|refine rg ?_|refine rd qq ?_);(conv=>whnf);repeat((first|refine aF ?_|refine aT ?_);(first|refine rg ?_|refine rd qq ?_);(conv=>whnf)))) | (refine Ac rfl (.cons .tmp .nil) ?_ rfl) | (refine⟨qq,?_⟩;((conv=>whnf);repeat((first|refine aF ?_|refine aT ?_);(first|refine rg ?_|refine rd qq ?_);(conv=>whnf)))) | (refine⟨by (first | (unfold I64;omega) | omega | (simp only[Int.toNat_natCast];omega) | done),by (first | (unfold I64;omega) | omega | (simp only[Int.toNat_natCast];omega) | done),?_⟩;((conv=>whnf);repeat((first|refine aF ?_|refine aT ?_);(first|refine rg ?_|refine rd qq ?_);(conv=>whnf)))) | (refine⟨by (first | (unfold I64;omega) | omega | (simp only[Int.toNat_natCast];omega) | done),?_⟩;((conv=>whnf);repeat((first|refine aF ?_|refine aT ?_);(first|refine rg ?_|refine rd qq ?_);(conv=>whnf)))) | (refine Ah (B3 5 A1 n.devices f.dev) F35 rfl rfl rfl rfl rfl ?_;((first|refine rg ?_|refine rd qq ?_);(conv=>whnf);repeat((first|refine aF ?_|refine aT ?_);(first|refine rg ?_|refine rd qq ?_);(conv=>whnf)))) | (refine An (B3 5 A1 n.devices f.dev) F35 rfl rfl rfl qq rfl ?_;((first|refine rg ?_|refine rd qq ?_);(conv=>whnf);repeat((first|refine aF ?_|refine aT ?_);(first|refine rg ?_|refine rd qq ?_);(conv=>whnf))))))
 all_goals (refine congrArg Ad ?_;clear hF;grind [V4,Ag])
def Aiw (l:List Int) (most:Int):Bool:=decide (l.length=0) || Hv l 1 most
def Ah2 (n:Net) (v:Vrf):Bool:=Ag v.dev n.devices.length && Aiw v.imports 65535 && Aiw v.exports 65535
theorem Aix (n:Net) (i:Nat) (v:Vrf) (h1:Am v.imports) (h2:Am v.exports):Sy.Spec Tryz.prog 37 [Aa i,Ci v,.ref 8 (Aq n) 0] [] (Ad (Ah2 n v)) []:=Ab Γ hm 100 F37 Tryz.ntmps37 rfl fun F hF=>by
 ((conv=>whnf);repeat((first|refine aF ?_|refine aT ?_);(first|refine rG Γ hm ?_|refine rD Γ hm qq ?_);conv=>whnf))
 (repeat' (first | (refine⟨fun h=>?_,fun h=>?_⟩<;>(repeat (first | simp only[Ag]at h | simp only[decide_eq_true_eq]at h | simp only[decide_eq_false_iff_not]at h | simp only[beq_iff_eq]at h | simp only[beq_eq_false_iff_ne]at h | simp only[bne_iff_ne]at h | simp only[bne_eq_false_iff_eq]at h | simp only[Bool.and_eq_true]at h | simp only[Bool.or_eq_true]at h | simp only[Bool.and_eq_false_iff]at h | simp only[Bool.or_eq_false_iff]at h | simp only[Bool.not_eq_true']at h | simp only[Bool.not_eq_false']at h | simp only[Bool.not_eq_eq_eq_not]at h | simp only[Bool.not_true]at h | simp only[Bool.not_false]at h))<;>((first|refine rg ?_|refine rd qq ?_);(conv=>whnf);repeat((first|refine aF ?_|refine aT ?_);(first|refine rg ?_|refine rd qq ?_);(conv=>whnf)))) | (refine Ac rfl (.cons .tmp .nil) ?_ rfl) | (refine⟨qq,?_⟩;((conv=>whnf);repeat((first|refine aF ?_|refine aT ?_);(first|refine rg ?_|refine rd qq ?_);(conv=>whnf)))) | (refine⟨by (first | (unfold I64;omega) | omega | (simp only[Int.toNat_natCast];omega) | done),by (first | (unfold I64;omega) | omega | (simp only[Int.toNat_natCast];omega) | done),?_⟩;((conv=>whnf);repeat((first|refine aF ?_|refine aT ?_);(first|refine rg ?_|refine rd qq ?_);(conv=>whnf)))) | (refine⟨by (first | (unfold I64;omega) | omega | (simp only[Int.toNat_natCast];omega) | done),?_⟩;((conv=>whnf);repeat((first|refine aF ?_|refine aT ?_);(first|refine rg ?_|refine rd qq ?_);(conv=>whnf)))) | (refine Ah (B3 5 A1 n.devices v.dev) F35 rfl rfl rfl rfl rfl ?_;((first|refine rg ?_|refine rd qq ?_);(conv=>whnf);repeat((first|refine aF ?_|refine aT ?_);(first|refine rg ?_|refine rd qq ?_);(conv=>whnf)))) | (refine An (B3 5 A1 n.devices v.dev) F35 rfl rfl rfl qq rfl ?_;((first|refine rg ?_|refine rd qq ?_);(conv=>whnf);repeat((first|refine aF ?_|refine aT ?_);(first|refine rg ?_|refine rd qq ?_);(conv=>whnf)))) | (refine Ah (Lt v.imports 65535 h1) F38 rfl rfl rfl rfl rfl ?_;((first|refine rg ?_|refine rd qq ?_);(conv=>whnf);repeat((first|refine aF ?_|refine aT ?_);(first|refine rg ?_|refine rd qq ?_);(conv=>whnf)))) | (refine An (Lt v.imports 65535 h1) F38 rfl rfl rfl qq rfl ?_;((first|refine rg ?_|refine rd qq ?_);(conv=>whnf);repeat((first|refine aF ?_|refine aT ?_);(first|refine rg ?_|refine rd qq ?_);(conv=>whnf)))) | (refine Ah (Lt v.exports 65535 h2) F38 rfl rfl rfl rfl rfl ?_;((first|refine rg ?_|refine rd qq ?_);(conv=>whnf);repeat((first|refine aF ?_|refine aT ?_);(first|refine rg ?_|refine rd qq ?_);(conv=>whnf)))) | (refine An (Lt v.exports 65535 h2) F38 rfl rfl rfl qq rfl ?_;((first|refine rg ?_|refine rd qq ?_);(conv=>whnf);repeat((first|refine aF ?_|refine aT ?_);(first|refine rg ?_|refine rd qq ?_);(conv=>whnf))))))
 all_goals (refine congrArg Ad ?_;clear hF;grind [Ah2,Aiw,Ag])
def Af (n:Net):Bool :=
 Aki n && En (Km n) n.domains && En (Y0 n) n.domains && En (Ib n) n.ports && En (Qc n) n.links && En (fun _=>Jv n) n.statics && En (fun _=>V4 n) n.floods && En (fun _=>Ah2 n) n.vrfs && En (Adz n) n.irbs
theorem Wl {n:Net} (h:En (Km n) n.domains=true) {i:Nat} (hi:i<n.domains.length):Ag n.domains[i].dev n.devices.length=true:=by
 have:=allB_iff.1 h i hi
 simp only[Km,Bool.and_eq_true]at this
 exact this.1.1.1.1.1.1
theorem Bi (n:Net) (hn:n.Fin):Sy.Spec Tryz.prog 20 [Aq n] [] (Ad (Af n)) []:=Ab Γ hm 100 F20 Tryz.ntmps20 rfl fun F hF=>by
 ((conv=>whnf);repeat((first|refine aF ?_|refine aT ?_);(first|refine rG Γ hm ?_|refine rD Γ hm qq ?_);conv=>whnf))
 refine B0 1 8 (Aq n) E E E ?_
 (repeat' (first | (refine⟨fun h=>?_,fun h=>?_⟩<;>(repeat (first | simp only[decide_eq_true_eq]at h | simp only[decide_eq_false_iff_not]at h | simp only[beq_iff_eq]at h | simp only[beq_eq_false_iff_ne]at h | simp only[bne_iff_ne]at h | simp only[bne_eq_false_iff_eq]at h | simp only[Bool.and_eq_true]at h | simp only[Bool.or_eq_true]at h | simp only[Bool.and_eq_false_iff]at h | simp only[Bool.or_eq_false_iff]at h | simp only[Bool.not_eq_true']at h | simp only[Bool.not_eq_false']at h | simp only[Bool.not_eq_eq_eq_not]at h | simp only[Bool.not_true]at h | simp only[Bool.not_false]at h))<;>((first|refine rg ?_|refine rd qq ?_);(conv=>whnf);repeat((first|refine aF ?_|refine aT ?_);(first|refine rg ?_|refine rd qq ?_);(conv=>whnf)))) | (refine Ac rfl (.cons .tmp .nil) ?_ rfl) | (refine⟨qq,?_⟩;((conv=>whnf);repeat((first|refine aF ?_|refine aT ?_);(first|refine rg ?_|refine rd qq ?_);(conv=>whnf)))) | (refine⟨by (first | (unfold I64;omega) | omega | (simp only[Int.toNat_natCast];omega) | done),by (first | (unfold I64;omega) | omega | (simp only[Int.toNat_natCast];omega) | done),?_⟩;((conv=>whnf);repeat((first|refine aF ?_|refine aT ?_);(first|refine rg ?_|refine rd qq ?_);(conv=>whnf)))) | (refine⟨by (first | (unfold I64;omega) | omega | (simp only[Int.toNat_natCast];omega) | done),?_⟩;((conv=>whnf);repeat((first|refine aF ?_|refine aT ?_);(first|refine rg ?_|refine rd qq ?_);(conv=>whnf)))) | (refine Ah (fewS n) F23 rfl rfl rfl rfl rfl ?_;((first|refine rg ?_|refine rd qq ?_);(conv=>whnf);repeat((first|refine aF ?_|refine aT ?_);(first|refine rg ?_|refine rd qq ?_);(conv=>whnf)))) | (refine An (fewS n) F23 rfl rfl rfl qq rfl ?_;((first|refine rg ?_|refine rd qq ?_);(conv=>whnf);repeat((first|refine aF ?_|refine aT ?_);(first|refine rg ?_|refine rd qq ?_);(conv=>whnf)))) | (refine Ah (Ix n.domains (Km n) 25 [Aq n] [] rfl (fun i h=>⟨⟨_,_,F25⟩,Amu n i n.domains[i] hn.domains⟩) hn.domains) F24 rfl rfl rfl rfl rfl ?_;((first|refine rg ?_|refine rd qq ?_);(conv=>whnf);repeat((first|refine aF ?_|refine aT ?_);(first|refine rg ?_|refine rd qq ?_);(conv=>whnf)))) | (refine An (Ix n.domains (Km n) 25 [Aq n] [] rfl (fun i h=>⟨⟨_,_,F25⟩,Amu n i n.domains[i] hn.domains⟩) hn.domains) F24 rfl rfl rfl qq rfl ?_;((first|refine rg ?_|refine rd qq ?_);(conv=>whnf);repeat((first|refine aF ?_|refine aT ?_);(first|refine rg ?_|refine rd qq ?_);(conv=>whnf)))) | (refine Ah (Ix n.domains (Y0 n) 26 [Aq n] [] rfl (fun i h=>⟨⟨_,_,F26⟩,Aja n i n.domains[i] hn (hn.peers _ (List.getElem_mem _)) (Wl ‹_› h)⟩) hn.domains) F24 rfl rfl rfl rfl rfl ?_;((first|refine rg ?_|refine rd qq ?_);(conv=>whnf);repeat((first|refine aF ?_|refine aT ?_);(first|refine rg ?_|refine rd qq ?_);(conv=>whnf)))) | (refine An (Ix n.domains (Y0 n) 26 [Aq n] [] rfl (fun i h=>⟨⟨_,_,F26⟩,Aja n i n.domains[i] hn (hn.peers _ (List.getElem_mem _)) (Wl ‹_› h)⟩) hn.domains) F24 rfl rfl rfl qq rfl ?_;((first|refine rg ?_|refine rd qq ?_);(conv=>whnf);repeat((first|refine aF ?_|refine aT ?_);(first|refine rg ?_|refine rd qq ?_);(conv=>whnf)))) | (refine Ah (Yf n.ports (Ib n) 28 [Aq n] [] rfl (fun i h=>⟨⟨_,_,F28⟩,Vs n i n.ports[i] hn (hn.tagged _ (List.getElem_mem _))⟩) hn.ports) F27 rfl rfl rfl rfl rfl ?_;((first|refine rg ?_|refine rd qq ?_);(conv=>whnf);repeat((first|refine aF ?_|refine aT ?_);(first|refine rg ?_|refine rd qq ?_);(conv=>whnf)))) | (refine An (Yf n.ports (Ib n) 28 [Aq n] [] rfl (fun i h=>⟨⟨_,_,F28⟩,Vs n i n.ports[i] hn (hn.tagged _ (List.getElem_mem _))⟩) hn.ports) F27 rfl rfl rfl qq rfl ?_;((first|refine rg ?_|refine rd qq ?_);(conv=>whnf);repeat((first|refine aF ?_|refine aT ?_);(first|refine rg ?_|refine rd qq ?_);(conv=>whnf)))) | (refine Ah (Yg n.links (Qc n) 30 [Aq n] [] rfl (fun i h=>⟨⟨_,_,F30⟩,Vt n i n.links[i]⟩) hn.links) F29 rfl rfl rfl rfl rfl ?_;((first|refine rg ?_|refine rd qq ?_);(conv=>whnf);repeat((first|refine aF ?_|refine aT ?_);(first|refine rg ?_|refine rd qq ?_);(conv=>whnf)))) | (refine An (Yg n.links (Qc n) 30 [Aq n] [] rfl (fun i h=>⟨⟨_,_,F30⟩,Vt n i n.links[i]⟩) hn.links) F29 rfl rfl rfl qq rfl ?_;((first|refine rg ?_|refine rd qq ?_);(conv=>whnf);repeat((first|refine aF ?_|refine aT ?_);(first|refine rg ?_|refine rd qq ?_);(conv=>whnf)))) | (refine Ah (Tk n.statics (fun _=>Jv n) 32 [Aq n] [] rfl (fun i h=>⟨⟨_,_,F32⟩,Qd n i n.statics[i] hn⟩) hn.statics) F31 rfl rfl rfl rfl rfl ?_;((first|refine rg ?_|refine rd qq ?_);(conv=>whnf);repeat((first|refine aF ?_|refine aT ?_);(first|refine rg ?_|refine rd qq ?_);(conv=>whnf)))) | (refine An (Tk n.statics (fun _=>Jv n) 32 [Aq n] [] rfl (fun i h=>⟨⟨_,_,F32⟩,Qd n i n.statics[i] hn⟩) hn.statics) F31 rfl rfl rfl qq rfl ?_;((first|refine rg ?_|refine rd qq ?_);(conv=>whnf);repeat((first|refine aF ?_|refine aT ?_);(first|refine rg ?_|refine rd qq ?_);(conv=>whnf)))) | (refine Ah (Wn n.floods (fun _=>V4 n) 34 [] [.ref 8 (Aq n) 0] rfl (fun i h=>⟨⟨_,_,F34⟩,Aiy n i n.floods[i]⟩) hn.floods) F33 rfl rfl rfl rfl rfl ?_;((first|refine rg ?_|refine rd qq ?_);(conv=>whnf);repeat((first|refine aF ?_|refine aT ?_);(first|refine rg ?_|refine rd qq ?_);(conv=>whnf)))) | (refine An (Wn n.floods (fun _=>V4 n) 34 [] [.ref 8 (Aq n) 0] rfl (fun i h=>⟨⟨_,_,F34⟩,Aiy n i n.floods[i]⟩) hn.floods) F33 rfl rfl rfl qq rfl ?_;((first|refine rg ?_|refine rd qq ?_);(conv=>whnf);repeat((first|refine aF ?_|refine aT ?_);(first|refine rg ?_|refine rd qq ?_);(conv=>whnf)))) | (refine Ah (Aco n.vrfs (fun _=>Ah2 n) 37 [] [.ref 8 (Aq n) 0] rfl (fun i h=>⟨⟨_,_,F37⟩,Aix n i n.vrfs[i] (hn.imports _ (List.getElem_mem _)) (hn.exports _ (List.getElem_mem _))⟩) hn.vrfs) F36 rfl rfl rfl rfl rfl ?_;((first|refine rg ?_|refine rd qq ?_);(conv=>whnf);repeat((first|refine aF ?_|refine aT ?_);(first|refine rg ?_|refine rd qq ?_);(conv=>whnf)))) | (refine An (Aco n.vrfs (fun _=>Ah2 n) 37 [] [.ref 8 (Aq n) 0] rfl (fun i h=>⟨⟨_,_,F37⟩,Aix n i n.vrfs[i] (hn.imports _ (List.getElem_mem _)) (hn.exports _ (List.getElem_mem _))⟩) hn.vrfs) F36 rfl rfl rfl qq rfl ?_;((first|refine rg ?_|refine rd qq ?_);(conv=>whnf);repeat((first|refine aF ?_|refine aT ?_);(first|refine rg ?_|refine rd qq ?_);(conv=>whnf)))) | (refine Ah (Acp n.irbs (Adz n) 40 [Aq n] [] rfl (fun i h=>⟨⟨_,_,F40⟩,Xw n i n.irbs[i]⟩) hn.irbs) F39 rfl rfl rfl rfl rfl ?_;((first|refine rg ?_|refine rd qq ?_);(conv=>whnf);repeat((first|refine aF ?_|refine aT ?_);(first|refine rg ?_|refine rd qq ?_);(conv=>whnf)))) | (refine An (Acp n.irbs (Adz n) 40 [Aq n] [] rfl (fun i h=>⟨⟨_,_,F40⟩,Xw n i n.irbs[i]⟩) hn.irbs) F39 rfl rfl rfl qq rfl ?_;((first|refine rg ?_|refine rd qq ?_);(conv=>whnf);repeat((first|refine aF ?_|refine aT ?_);(first|refine rg ?_|refine rd qq ?_);(conv=>whnf))))))
 all_goals (refine congrArg Ad ?_)
 all_goals (clear hF;simp_all[Af])
theorem e_port {n:Net} (h:Af n=true) {i:Nat} (hi:i<n.ports.length):Ib n i n.ports[i]=true:=by
 simp only[Af,Bool.and_eq_true]at h
 exact allB_iff.1 h.1.1.1.1.1.2 i hi
theorem e_dom {n:Net} (h:Af n=true) {i:Nat} (hi:i<n.domains.length):Km n i n.domains[i]=true:=by
 simp only[Af,Bool.and_eq_true]at h
 exact allB_iff.1 h.1.1.1.1.1.1.1.2 i hi
theorem Ab9 {n:Net} (h:Af n=true) {i:Nat} (hi:i<n.domains.length) :
  (0≤n.domains[i].dev∧n.domains[i].dev.toNat<n.devices.length)∧(1≤n.domains[i].vlan∧n.domains[i].vlan≤4094)∧(0≤n.domains[i].vni∧n.domains[i].vni≤16777215)∧(n.domains[i].irb=-1∨0≤n.domains[i].irb∧n.domains[i].irb.toNat<n.irbs.length):=by
 have:=e_dom h hi
 simp only[Km,Ag,Bool.and_eq_true,Bool.or_eq_true,decide_eq_true_eq,beq_iff_eq]at this
 omega
def Ii (p:Nat→Bool) (j:Nat):List Int:=((List.range j).filter p).map Int.ofNat
theorem V5 (p:Nat→Bool) (j:Nat):Ii p (j+1)=if p j=true then Ii p j++[(j:Int)] else Ii p j:=by
 rw[Ii,List.range_succ,List.filter_append,List.map_append]
 split
 ·rename_i h
  rw[List.filter_cons_of_pos (by exact h),List.filter_nil];rfl
 ·rename_i h
  rw[List.filter_cons_of_neg (by exact h),List.filter_nil,List.map_nil,List.append_nil];rfl
theorem D2 (p:Nat→Bool) (j:Nat):(Ii p j).length≤j:=by
 have:=List.length_filter_le p (List.range j)
 simpa [Ii] using this
theorem Sm {p:Nat→Bool} {j:Nat} {x:Int}:x∈Ii p j↔0≤x∧x<j∧p x.toNat=true:=by
 simp only[Ii,List.mem_map,List.mem_filter,List.mem_range]
 constructor
 ·rintro ⟨i,h1,rfl⟩
  exact⟨Int.natCast_nonneg i,by simp;omega,h1.2⟩
 ·rintro ⟨h1,h2,h3⟩
  exact⟨x.toNat,⟨by omega,h3⟩,Int.toNat_of_nonneg h1⟩
def Ms (n:Net) (d:Domain) (i:Nat):Bool:=(nth n.ports i).dev == d.dev && J6 (nth n.ports i) d.vlan
def Ay (n:Net) (i:Int):List Int:=Ii (Ms n (nth n.domains i)) n.ports.length
def Er (n:Net) (i:Int):List Int:=if (0≤i∧i<n.domains.length)∧Af n=true then Ay n i else []
theorem Vi (n:Net) (hn:n.Fin) (i:Int):Am (Er n i):=by
 have:=hn.ports
 unfold Am at this ⊢
 unfold Er
 split
 ·have:=D2 (Ms n (nth n.domains i)) n.ports.length
  unfold Ay
  omega
 ·simp
theorem Wx (n:Net) (hn:n.Fin) (i:Int):Sy.Spec Tryz.prog 163 [Aq n,Aa i] [] (.sl 1 Aa (Er n i)) []:=Ab Γ hm 100 F163 Tryz.ntmps163 rfl fun F hF=>by
 have hr:=Bi n hn
 have hpl:=Cw 6 As n.domains i
 have hsp:=hn.ports
 unfold Am at hsp
 ((conv=>whnf);repeat((first|refine aF ?_|refine aT ?_);(first|refine rG Γ hm ?_|refine rD Γ hm qq ?_);conv=>whnf))
 refine Ah hr F20 E E E E E ?_
 cases hb:Af n
 ·rw[Er,if_neg (by simp[hb])]
  ((first|refine rG Γ hm ?_|refine rD Γ hm qq ?_);(conv=>whnf);repeat((first|refine aF ?_|refine aT ?_);(first|refine rG Γ hm ?_|refine rD Γ hm qq ?_);conv=>whnf))
  refine Ap 4 1 Aa E ?_
  ((first|refine rG Γ hm ?_|refine rD Γ hm qq ?_);(conv=>whnf);repeat((first|refine aF ?_|refine aT ?_);(first|refine rG Γ hm ?_|refine rD Γ hm qq ?_);conv=>whnf))
  exact Ac E (.cons .tmp .nil) E E
 ((first|refine rG Γ hm ?_|refine rD Γ hm qq ?_);(conv=>whnf);repeat((first|refine aF ?_|refine aT ?_);(first|refine rG Γ hm ?_|refine rD Γ hm qq ?_);conv=>whnf))
 refine Ah hpl F56 E E E E E ?_
 by_cases hi:0≤i∧i<n.domains.length
 rotate_left
 ·have h0:Ag i n.domains.length=false:=by simp only[Ag,Bool.and_eq_false_iff,decide_eq_false_iff_not];omega
  rw[Er,if_neg (by simp[hb,hi]),h0]
  ((first|refine rG Γ hm ?_|refine rD Γ hm qq ?_);(conv=>whnf);repeat((first|refine aF ?_|refine aT ?_);(first|refine rG Γ hm ?_|refine rD Γ hm qq ?_);conv=>whnf))
  refine Ap 4 1 Aa E ?_
  ((first|refine rG Γ hm ?_|refine rD Γ hm qq ?_);(conv=>whnf);repeat((first|refine aF ?_|refine aT ?_);(first|refine rG Γ hm ?_|refine rD Γ hm qq ?_);conv=>whnf))
  exact Ac E (.cons .tmp .nil) E E
 have h0:Ag i n.domains.length=true:=by simp only[Ag,Bool.and_eq_true,decide_eq_true_eq];exact hi
 rw[Er,if_pos ⟨hi,hb⟩,h0]
 have hk:i.toNat<n.domains.length:=by omega
 have hf:=Ab9 hb hk
 have e1:nth n.domains i=n.domains[i.toNat]:=Ao hk
 rw[Ay,e1]
 obtain ⟨d,hd⟩:∃ d,n.domains[i.toNat]=d:=⟨_,rfl⟩
 rw[hd]at hf ⊢
 refine B0 2 8 (Aq n) E E E ?_
 ((first|refine rG Γ hm ?_|refine rD Γ hm qq ?_);(conv=>whnf);repeat((first|refine aF ?_|refine aT ?_);(first|refine rG Γ hm ?_|refine rD Γ hm qq ?_);conv=>whnf))
 refine Cc 5 1000 1 Aa E E ?_
 refine A2 n.ports.length (fun j=>[(1,Aa i),(2,.ref 8 (Aq n) 0),(5,.osl 1000),(19,.sl 7 A3 n.ports),(20,Aa n.ports.length),(21,Aa j)]) (fun j=>[(1000,.row 1 Aa (Ii (Ms n d) j))]) []
  ⟨⟨rfl,rfl,rfl,rfl,rfl,rfl,rfl,rfl,rfl,rfl,rfl,rfl,trivial⟩,⟨.inl rfl,rfl,trivial⟩,rfl,rfl⟩ ?_
 intro j hj
 ((first|refine rG Γ hm ?_|refine rD Γ hm qq ?_);(conv=>whnf);repeat((first|refine aF ?_|refine aT ?_);(first|refine rG Γ hm ?_|refine rD Γ hm qq ?_);conv=>whnf))
 refine⟨fun h=>?_,fun h=>?_⟩
 ·have hlt:j<n.ports.length:=by simpa using h
  have hsucc:=V5 (Ms n d) j
  have hfl:=D2 (Ms n d) j
  have hin:Ms n d j=((n.ports[j]).dev == d.dev && J6 n.ports[j] d.vlan):=by
   rw[Ms,Ao (l:=n.ports) (i:=(j:Int)) (by simpa using hlt)];rfl
  rw[hin]at hsucc
  have e1:n.ports[(j:Int).toNat]'qn=n.ports[j]:=rfl
  have hms:=T6 n.ports[j] d.vlan (hn.tagged _ (List.getElem_mem _))
  obtain ⟨p,hp⟩:∃ p,n.ports[j]=p:=⟨_,rfl⟩
  rw[hp]at e1 hsucc hms
  obtain ⟨u,hu⟩:∃ u,Ii (Ms n d) j=u:=⟨_,rfl⟩
  rw[hu]at hsucc hfl ⊢
  ((first|refine rG Γ hm ?_|refine rD Γ hm qq ?_);(conv=>whnf);repeat((first|refine aF ?_|refine aT ?_);(first|refine rG Γ hm ?_|refine rD Γ hm qq ?_);conv=>whnf))
  refine⟨E,by omega,by omega,?_⟩
  rw[e1]
  ((conv=>whnf);repeat((first|refine aF ?_|refine aT ?_);(first|refine rG Γ hm ?_|refine rD Γ hm qq ?_);conv=>whnf))
  refine⟨E,hi.1,hk,?_⟩
  rw[hd]
  ((conv=>whnf);repeat((first|refine aF ?_|refine aT ?_);(first|refine rG Γ hm ?_|refine rD Γ hm qq ?_);conv=>whnf))
  refine⟨fun h2=>?_,fun h2=>?_⟩
  ·have h3:∃ k:Nat,(k:Int)=i:=⟨i.toNat,by omega⟩
   rw[h2,Bool.true_and]at hsucc
   ((first|refine rG Γ hm ?_|refine rD Γ hm qq ?_);(conv=>whnf);repeat((first|refine aF ?_|refine aT ?_);(first|refine rG Γ hm ?_|refine rD Γ hm qq ?_);conv=>whnf))
   refine⟨E,hi.1,hk,?_⟩
   rw[hd]
   ((conv=>whnf);repeat((first|refine aF ?_|refine aT ?_);(first|refine rG Γ hm ?_|refine rD Γ hm qq ?_);conv=>whnf))
   refine An hms F57 E E E qq E ?_
   ((first|refine rG Γ hm ?_|refine rD Γ hm qq ?_);(conv=>whnf);repeat((first|refine aF ?_|refine aT ?_);(first|refine rG Γ hm ?_|refine rD Γ hm qq ?_);conv=>whnf))
   refine⟨qq,?_⟩
   ((conv=>whnf);repeat((first|refine aF ?_|refine aT ?_);(first|refine rG Γ hm ?_|refine rD Γ hm qq ?_);conv=>whnf))
   refine⟨fun h4=>?_,fun h4=>?_⟩
   ·rw[if_pos h4]at hsucc
    ((first|refine rG Γ hm ?_|refine rD Γ hm qq ?_);(conv=>whnf);repeat((first|refine aF ?_|refine aT ?_);(first|refine rG Γ hm ?_|refine rD Γ hm qq ?_);conv=>whnf))
    refine Ai (Al Γ.toTy 48 E E E E E (.row E) (.lit (e:=Aa) (l:=[(j:Int)]) E E) qy (by simp;omega) (by simp;omega)) E E ?_
    ((first|refine rG Γ hm ?_|refine rD Γ hm qq ?_);(conv=>whnf);repeat((first|refine aF ?_|refine aT ?_);(first|refine rG Γ hm ?_|refine rD Γ hm qq ?_);conv=>whnf))
    refine⟨by unfold I64;omega,?_⟩
    ((conv=>whnf);repeat((first|refine aF ?_|refine aT ?_);(first|refine rG Γ hm ?_|refine rD Γ hm qq ?_);conv=>whnf))
    exact Av [(1000,48)] hlt ⟨⟨E,E,E,E,E,E,E,E,E,E,E,E,Y⟩,⟨.inl (congrArg (Ob.row 1 Aa) hsucc),E,Y⟩,E,E⟩
   ·rw[if_neg (by simp[h4])]at hsucc
    ((first|refine rG Γ hm ?_|refine rD Γ hm qq ?_);(conv=>whnf);repeat((first|refine aF ?_|refine aT ?_);(first|refine rG Γ hm ?_|refine rD Γ hm qq ?_);conv=>whnf))
    refine⟨by unfold I64;omega,?_⟩
    ((conv=>whnf);repeat((first|refine aF ?_|refine aT ?_);(first|refine rG Γ hm ?_|refine rD Γ hm qq ?_);conv=>whnf))
    exact Av [] hlt ⟨⟨E,E,E,E,E,E,E,E,E,E,E,E,Y⟩,⟨.inl (congrArg (Ob.row 1 Aa) hsucc),E,Y⟩,E,E⟩
  ·rw[if_neg (by simp[h2])]at hsucc
   ((first|refine rG Γ hm ?_|refine rD Γ hm qq ?_);(conv=>whnf);repeat((first|refine aF ?_|refine aT ?_);(first|refine rG Γ hm ?_|refine rD Γ hm qq ?_);conv=>whnf))
   refine⟨qq,?_⟩
   ((conv=>whnf);repeat((first|refine aF ?_|refine aT ?_);(first|refine rG Γ hm ?_|refine rD Γ hm qq ?_);conv=>whnf))
   refine⟨by unfold I64;omega,?_⟩
   ((conv=>whnf);repeat((first|refine aF ?_|refine aT ?_);(first|refine rG Γ hm ?_|refine rD Γ hm qq ?_);conv=>whnf))
   exact Av [] hlt ⟨⟨E,E,E,E,E,E,E,E,E,E,E,E,Y⟩,⟨.inl (congrArg (Ob.row 1 Aa) hsucc),E,Y⟩,E,E⟩
 ·have:j=n.ports.length:=by have:=of_decide_eq_false h;omega
  subst this
  refine Au 1000 E ?_
  ((first|refine rG Γ hm ?_|refine rD Γ hm qq ?_);(conv=>whnf);repeat((first|refine aF ?_|refine aT ?_);(first|refine rG Γ hm ?_|refine rD Γ hm qq ?_);conv=>whnf))
  exact Ac E (.cons .tmp .nil) E E
theorem Zi (n:Net) (hn:n.Fin) (l:List Domain) (p:Domain→Bool) (f:FuncId) (first cap:List SV) (hc:(SV.clo (.func f) first cap).inn []=true) (hf:∀ x∈l,Hn Tryz.prog f (first++[As x]++cap) (Ad (p x))) (hl:Am l) :
  Sy.Spec Tryz.prog 128 [Aq n,.sl 6 As l,.clo (.func f) first cap] [] (Aa (if Af n=true then Dn p l else -1)) []:=Ab Γ hm 100 F128 Tryz.ntmps128 rfl fun F hF=>by
 have hr:=Bi n hn
 have q:=Et l p f first cap hc hf hl
 ((conv=>whnf);repeat((first|refine aF ?_|refine aT ?_);(first|refine rG Γ hm ?_|refine rD Γ hm qq ?_);conv=>whnf))
 refine Ah hr F20 E E E E E ?_
 cases hb:Af n
 ·rw[if_neg qy]
  ((first|refine rG Γ hm ?_|refine rD Γ hm qq ?_);(conv=>whnf);repeat((first|refine aF ?_|refine aT ?_);(first|refine rG Γ hm ?_|refine rD Γ hm qq ?_);conv=>whnf))
  exact Ac E (.cons .tmp .nil) E E
 rw[if_pos rfl]
 ((first|refine rG Γ hm ?_|refine rD Γ hm qq ?_);(conv=>whnf);repeat((first|refine aF ?_|refine aT ?_);(first|refine rG Γ hm ?_|refine rD Γ hm qq ?_);conv=>whnf))
 refine Ah q F74 E E (by simp only[B1,hc,Bool.and_true];rfl) E E ?_
 ((first|refine rG Γ hm ?_|refine rD Γ hm qq ?_);(conv=>whnf);repeat((first|refine aF ?_|refine aT ?_);(first|refine rG Γ hm ?_|refine rD Γ hm qq ?_);conv=>whnf))
 exact Ac E (.cons .tmp .nil) E E
theorem Y5 (dev vlan:Int) (d:Domain):Sy.Spec Tryz.prog 129 [As d,.ref 1 (Aa dev) 0,.ref 1 (Aa vlan) 0] [] (Ad (d.dev == dev && d.vlan == vlan)) []:=Ab Γ hm 100 F129 Tryz.ntmps129 rfl fun F hF=>by
 ((conv=>whnf);repeat((first|refine aF ?_|refine aT ?_);(first|refine rG Γ hm ?_|refine rD Γ hm qq ?_);conv=>whnf))
 (repeat' (first | (refine⟨fun h=>?_,fun h=>?_⟩<;>(repeat (first | simp only[Ag]at h | simp only[decide_eq_true_eq]at h | simp only[decide_eq_false_iff_not]at h | simp only[beq_iff_eq]at h | simp only[beq_eq_false_iff_ne]at h | simp only[bne_iff_ne]at h | simp only[bne_eq_false_iff_eq]at h | simp only[Bool.and_eq_true]at h | simp only[Bool.or_eq_true]at h | simp only[Bool.and_eq_false_iff]at h | simp only[Bool.or_eq_false_iff]at h | simp only[Bool.not_eq_true']at h | simp only[Bool.not_eq_false']at h | simp only[Bool.not_eq_eq_eq_not]at h | simp only[Bool.not_true]at h | simp only[Bool.not_false]at h))<;>((first|refine rg ?_|refine rd qq ?_);(conv=>whnf);repeat((first|refine aF ?_|refine aT ?_);(first|refine rg ?_|refine rd qq ?_);(conv=>whnf)))) | (refine Ac rfl (.cons .tmp .nil) ?_ rfl) | (refine⟨qq,?_⟩;((conv=>whnf);repeat((first|refine aF ?_|refine aT ?_);(first|refine rg ?_|refine rd qq ?_);(conv=>whnf)))) | (refine⟨by (first | (unfold I64;omega) | omega | (simp only[Int.toNat_natCast];omega) | done),by (first | (unfold I64;omega) | omega | (simp only[Int.toNat_natCast];omega) | done),?_⟩;((conv=>whnf);repeat((first|refine aF ?_|refine aT ?_);(first|refine rg ?_|refine rd qq ?_);(conv=>whnf)))) | (refine⟨by (first | (unfold I64;omega) | omega | (simp only[Int.toNat_natCast];omega) | done),?_⟩;((conv=>whnf);repeat((first|refine aF ?_|refine aT ?_);(first|refine rg ?_|refine rd qq ?_);(conv=>whnf))))))
 all_goals (refine congrArg Ad ?_)
 all_goals simp_all
def Ub (n:Net) (dev vlan:Int):Int:=if Af n=true then Acb n dev vlan else -1
theorem Qa (n:Net) (hn:n.Fin) (dev vlan:Int):Sy.Spec Tryz.prog 98 [Aq n,Aa dev,Aa vlan] [] (Aa (Ub n dev vlan)) []:=Ab Γ hm 100 F98 Tryz.ntmps98 rfl fun F hF=>by
 have q:=Zi n hn n.domains (fun d=>d.dev == dev && d.vlan == vlan) 129 [] [.ref 1 (Aa dev) 0,.ref 1 (Aa vlan) 0] rfl (fun d _=>⟨⟨_,_,F129⟩,Y5 dev vlan d⟩) hn.domains
 ((conv=>whnf);repeat((first|refine aF ?_|refine aT ?_);(first|refine rG Γ hm ?_|refine rD Γ hm qq ?_);conv=>whnf))
 refine B0 4 1 (Aa dev) E E E ?_
 refine B0 5 1 (Aa vlan) E E E ?_
 refine Ah q F128 E E E E E ?_
 ((first|refine rG Γ hm ?_|refine rD Γ hm qq ?_);(conv=>whnf);repeat((first|refine aF ?_|refine aT ?_);(first|refine rG Γ hm ?_|refine rD Γ hm qq ?_);conv=>whnf))
 exact Ac E (.cons .tmp .nil) E E
def Hl (n:Net) (i:Int):Int :=
 if (0≤i∧i<n.ports.length)∧0≤(nth n.ports i).link∧Af n=true then
  (if (nth n.links (nth n.ports i).link).a=i then (nth n.links (nth n.ports i).link).b else (nth n.links (nth n.ports i).link).a) else -1
theorem Le {n:Net} (h:Af n=true) {i:Nat} (hi:i<n.ports.length) (hl:0≤n.ports[i].link) :
  n.ports[i].link.toNat<n.links.length∧((nth n.links n.ports[i].link).a=i∨(nth n.links n.ports[i].link).b=i):=by
 have:=e_port h hi
 simp only[Ib,Ag,Bool.and_eq_true,Bool.or_eq_true,decide_eq_true_eq,beq_iff_eq]at this
 rcases this.2 with h1 | h1
 ·omega
 ·exact⟨by omega,h1.2⟩
theorem Y8 (n:Net) (hn:n.Fin) (i:Int):Sy.Spec Tryz.prog 148 [Aq n,Aa i] [] (Aa (Hl n i)) []:=Ab Γ hm 100 F148 Tryz.ntmps148 rfl fun F hF=>by
 have hr:=Bi n hn
 ((conv=>whnf);repeat((first|refine aF ?_|refine aT ?_);(first|refine rG Γ hm ?_|refine rD Γ hm qq ?_);conv=>whnf))
 refine⟨fun h=>?_,fun h=>?_⟩
 ·have h1:i<0:=of_decide_eq_true h
  rw[Hl,if_neg qn]
  ((first|refine rG Γ hm ?_|refine rD Γ hm qq ?_);(conv=>whnf);repeat((first|refine aF ?_|refine aT ?_);(first|refine rG Γ hm ?_|refine rD Γ hm qq ?_);conv=>whnf))
  exact Ac E (.cons .tmp .nil) E E
 have h1:0≤i:=by have:=of_decide_eq_false h;omega
 ((first|refine rG Γ hm ?_|refine rD Γ hm qq ?_);(conv=>whnf);repeat((first|refine aF ?_|refine aT ?_);(first|refine rG Γ hm ?_|refine rD Γ hm qq ?_);conv=>whnf))
 refine⟨fun h=>?_,fun h=>?_⟩
 ·have h2:n.ports.length≤i:=of_decide_eq_true h
  rw[Hl,if_neg qn]
  ((first|refine rG Γ hm ?_|refine rD Γ hm qq ?_);(conv=>whnf);repeat((first|refine aF ?_|refine aT ?_);(first|refine rG Γ hm ?_|refine rD Γ hm qq ?_);conv=>whnf))
  exact Ac E (.cons .tmp .nil) E E
 have h2:i<n.ports.length:=by have:=of_decide_eq_false h;omega
 have hk:i.toNat<n.ports.length:=by omega
 have e1:nth n.ports i=n.ports[i.toNat]:=Ao hk
 have hlk:=fun (hb:Af n=true)=>Le hb hk
 rw[Hl,e1]
 obtain ⟨p,hp⟩:∃ p,n.ports[i.toNat]=p:=⟨_,rfl⟩
 rw[hp]at hlk ⊢
 ((first|refine rG Γ hm ?_|refine rD Γ hm qq ?_);(conv=>whnf);repeat((first|refine aF ?_|refine aT ?_);(first|refine rG Γ hm ?_|refine rD Γ hm qq ?_);conv=>whnf))
 refine⟨E,h1,hk,?_⟩
 rw[hp]
 ((conv=>whnf);repeat((first|refine aF ?_|refine aT ?_);(first|refine rG Γ hm ?_|refine rD Γ hm qq ?_);conv=>whnf))
 refine⟨fun h=>?_,fun h=>?_⟩
 ·have h3:p.link<0:=of_decide_eq_true h
  rw[if_neg qn]
  ((first|refine rG Γ hm ?_|refine rD Γ hm qq ?_);(conv=>whnf);repeat((first|refine aF ?_|refine aT ?_);(first|refine rG Γ hm ?_|refine rD Γ hm qq ?_);conv=>whnf))
  exact Ac E (.cons .tmp .nil) E E
 have h3:0≤p.link:=by have:=of_decide_eq_false h;omega
 ((first|refine rG Γ hm ?_|refine rD Γ hm qq ?_);(conv=>whnf);repeat((first|refine aF ?_|refine aT ?_);(first|refine rG Γ hm ?_|refine rD Γ hm qq ?_);conv=>whnf))
 refine Ah hr F20 E E E E E ?_
 cases hb:Af n
 ·rw[if_neg qy]
  ((first|refine rG Γ hm ?_|refine rD Γ hm qq ?_);(conv=>whnf);repeat((first|refine aF ?_|refine aT ?_);(first|refine rG Γ hm ?_|refine rD Γ hm qq ?_);conv=>whnf))
  exact Ac E (.cons .tmp .nil) E E
 rw[if_pos ⟨⟨h1,h2⟩,h3,rfl⟩]
 have hq:=hlk hb h3
 have e2:nth n.links p.link=n.links[p.link.toNat]:=Ao hq.1
 rw[e2]
 obtain ⟨l,hl⟩:∃ l,n.links[p.link.toNat]'hq.1=l:=⟨_,rfl⟩
 rw[hl]
 ((first|refine rG Γ hm ?_|refine rD Γ hm qq ?_);(conv=>whnf);repeat((first|refine aF ?_|refine aT ?_);(first|refine rG Γ hm ?_|refine rD Γ hm qq ?_);conv=>whnf))
 refine⟨E,h1,hk,?_⟩
 rw[hp]
 ((conv=>whnf);repeat((first|refine aF ?_|refine aT ?_);(first|refine rG Γ hm ?_|refine rD Γ hm qq ?_);conv=>whnf))
 refine⟨E,h3,hq.1,?_⟩
 rw[hl]
 ((conv=>whnf);repeat((first|refine aF ?_|refine aT ?_);(first|refine rG Γ hm ?_|refine rD Γ hm qq ?_);conv=>whnf))
 refine⟨qq,?_⟩
 ((conv=>whnf);repeat((first|refine aF ?_|refine aT ?_);(first|refine rG Γ hm ?_|refine rD Γ hm qq ?_);conv=>whnf))
 refine⟨fun h=>?_,fun h=>?_⟩
 ·have h4:l.a=i:=by simpa using h
  rw[if_pos h4]
  ((first|refine rG Γ hm ?_|refine rD Γ hm qq ?_);(conv=>whnf);repeat((first|refine aF ?_|refine aT ?_);(first|refine rG Γ hm ?_|refine rD Γ hm qq ?_);conv=>whnf))
  exact Ac E (.cons .tmp .nil) E E
 ·have h4:¬ l.a=i:=by simpa using h
  rw[if_neg h4]
  ((first|refine rG Γ hm ?_|refine rD Γ hm qq ?_);(conv=>whnf);repeat((first|refine aF ?_|refine aT ?_);(first|refine rG Γ hm ?_|refine rD Γ hm qq ?_);conv=>whnf))
  exact Ac E (.cons .tmp .nil) E E
theorem Ig (l:List Int) (p:Int→Bool) (f:FuncId) (first cap:List SV) (hc:(SV.clo (.func f) first cap).inn []=true) (hf:∀ x∈l,Hn Tryz.prog f (first++[Aa x]++cap) (Ad (p x))) (hl:Am l) :
  Sy.Spec Tryz.prog 197 [.sl 1 Aa l,.clo (.func f) first cap] [] (Aa (Dn p l)) []:=Ab Γ hm 100 F197 Tryz.ntmps197 rfl fun F hF=>by
 unfold Am at hl
 have hin:∀ x:Int,B1 [] (first++[Aa x]++cap)=true:=fun x=>Cp hc rfl
 ((conv=>whnf);repeat((first|refine aF ?_|refine aT ?_);(first|refine rG Γ hm ?_|refine rD Γ hm qq ?_);conv=>whnf))
 refine Bc l.length (fun j=>Dy (fun _ x=>!(p x)) l j) (fun j=>[(0,.sl 1 Aa l),(1,.clo (.func f) first cap),(7,Aa l.length),(8,Aa j)]) (fun _=>[]) [] (Bd _ _) ⟨⟨E,E,A4 _,hc,E,E,E,E,Y⟩,Y,E,E⟩ ?_
 intro j hj hI
 ((first|refine rG Γ hm ?_|refine rD Γ hm qq ?_);(conv=>whnf);repeat((first|refine aF ?_|refine aT ?_);(first|refine rG Γ hm ?_|refine rD Γ hm qq ?_);conv=>whnf))
 refine⟨fun h=>?_,fun h=>?_⟩
 ·have h:=of_decide_eq_true h
  have hj2:j<l.length:=by omega
  ((first|refine rG Γ hm ?_|refine rD Γ hm qq ?_);(conv=>whnf);repeat((first|refine aF ?_|refine aT ?_);(first|refine rG Γ hm ?_|refine rD Γ hm qq ?_);conv=>whnf))
  refine⟨E,by omega,by omega,?_⟩
  ((conv=>whnf);repeat((first|refine aF ?_|refine aT ?_);(first|refine rG Γ hm ?_|refine rD Γ hm qq ?_);conv=>whnf))
  refine Dx (hf l[j] (List.getElem_mem hj2)) E E E (by simp only[hin];rfl) E E ?_
  ((first|refine rG Γ hm ?_|refine rD Γ hm qq ?_);(conv=>whnf);repeat((first|refine aF ?_|refine aT ?_);(first|refine rG Γ hm ?_|refine rD Γ hm qq ?_);conv=>whnf))
  refine⟨fun h2=>?_,fun h2=>?_⟩
  ·((first|refine rG Γ hm ?_|refine rD Γ hm qq ?_);(conv=>whnf);repeat((first|refine aF ?_|refine aT ?_);(first|refine rG Γ hm ?_|refine rD Γ hm qq ?_);conv=>whnf))
   refine Ac E (.cons .tmp .nil) (congrArg Aa ?_) E
   exact Eh hj2 (fun i hi hij=>by simpa using hI i hi hij) h2
  ·((first|refine rG Γ hm ?_|refine rD Γ hm qq ?_);(conv=>whnf);repeat((first|refine aF ?_|refine aT ?_);(first|refine rG Γ hm ?_|refine rD Γ hm qq ?_);conv=>whnf))
   refine⟨by unfold I64;omega,?_⟩
   ((conv=>whnf);repeat((first|refine aF ?_|refine aT ?_);(first|refine rG Γ hm ?_|refine rD Γ hm qq ?_);conv=>whnf))
   exact A9 [] hI hj2 (Ba hI hj2 (by simp[h2])) ⟨⟨E,E,A4 _,hc,E,E,E,E,Y⟩,Y,E,E⟩
 ·have h:=of_decide_eq_false h
  ((first|refine rG Γ hm ?_|refine rD Γ hm qq ?_);(conv=>whnf);repeat((first|refine aF ?_|refine aT ?_);(first|refine rG Γ hm ?_|refine rD Γ hm qq ?_);conv=>whnf))
  refine Ac E (.cons .tmp .nil) (congrArg Aa ?_) E
  exact E5 (fun i hi=>by simpa using hI i hi qn)
theorem Qu (l:List Int) (p:Int→Bool) (f:FuncId) (first cap:List SV) (hc:(SV.clo (.func f) first cap).inn []=true) (hf:∀ x∈l,Hn Tryz.prog f (first++[Aa x]++cap) (Ad (p x))) (hl:Am l) :
  Sy.Spec Tryz.prog 223 [.sl 1 Aa l,.clo (.func f) first cap] [] (Ad (decide (0≤Dn p l))) []:=Ab Γ hm 100 F223 Tryz.ntmps223 rfl fun F hF=>by
 have h0:B1 [] [.sl 1 Aa l,.clo (.func f) first cap]=true:=by simp only[B1,hc];rfl
 ((conv=>whnf);repeat((first|refine aF ?_|refine aT ?_);(first|refine rG Γ hm ?_|refine rD Γ hm qq ?_);conv=>whnf))
 refine Ah (Ig l p f first cap hc hf hl) F197 E E (by simp only[h0];rfl) E E ?_
 ((first|refine rG Γ hm ?_|refine rD Γ hm qq ?_);(conv=>whnf);repeat((first|refine aF ?_|refine aT ?_);(first|refine rG Γ hm ?_|refine rD Γ hm qq ?_);conv=>whnf))
 exact Ac E (.cons .tmp .nil) E E
theorem Ala (v:Vrf) (hv:Am v.imports) (t:Int):Sy.Spec Tryz.prog 222 [Aa t,.ref 5 (Ci v) 0] [] (Ad (inB v.imports t)) []:=Ab Γ hm 100 F222 Tryz.ntmps222 rfl fun F hF=>by
 have q:=Cb v.imports t hv
 ((conv=>whnf);repeat((first|refine aF ?_|refine aT ?_);(first|refine rG Γ hm ?_|refine rD Γ hm qq ?_);conv=>whnf))
 refine Ah q F53 E E E E E ?_
 ((first|refine rG Γ hm ?_|refine rD Γ hm qq ?_);(conv=>whnf);repeat((first|refine aF ?_|refine aT ?_);(first|refine rG Γ hm ?_|refine rD Γ hm qq ?_);conv=>whnf))
 exact Ac E (.cons .tmp .nil) E E
def Ady (n:Net) (i k:Int):Bool:=i == k || (nth n.vrfs i).dev == (nth n.vrfs k).dev && decide (0≤Dn (inB (nth n.vrfs k).imports) (nth n.vrfs i).exports)
theorem Acx (n:Net) (hn:n.Fin) (hb:Af n=true) (i k:Int) (hi:0≤i∧i.toNat<n.vrfs.length) (hk:0≤k∧k.toNat<n.vrfs.length) :
  Sy.Spec Tryz.prog 209 [Aq n,Aa i,Aa k] [] (Ad (Ady n i k)) []:=Ab Γ hm 100 F209 Tryz.ntmps209 rfl fun F hF=>by
 have hr:=Bi n hn
 rw[hb]at hr
 have him:=hn.imports _ (List.getElem_mem hk.2)
 have hex:=hn.exports _ (List.getElem_mem hi.2)
 rw[Ady,Ao hi.2,Ao hk.2]
 obtain ⟨a,ha⟩:∃ a,n.vrfs[i.toNat]'hi.2=a:=⟨_,rfl⟩
 obtain ⟨b,hbb⟩:∃ b,n.vrfs[k.toNat]'hk.2=b:=⟨_,rfl⟩
 rw[ha]at hex ⊢
 rw[hbb]at him ⊢
 have q:=Qu a.exports (inB b.imports) 222 [] [.ref 5 (Ci b) 0] rfl (fun t _=>⟨⟨_,_,F222⟩,Ala b him t⟩) hex
 ((conv=>whnf);repeat((first|refine aF ?_|refine aT ?_);(first|refine rG Γ hm ?_|refine rD Γ hm qq ?_);conv=>whnf))
 refine⟨fun h=>absurd (of_decide_eq_true h) qn,fun _=>?_⟩
 ((first|refine rG Γ hm ?_|refine rD Γ hm qq ?_);(conv=>whnf);repeat((first|refine aF ?_|refine aT ?_);(first|refine rG Γ hm ?_|refine rD Γ hm qq ?_);conv=>whnf))
 refine⟨fun h=>absurd (of_decide_eq_true h) qn,fun _=>?_⟩
 ((first|refine rG Γ hm ?_|refine rD Γ hm qq ?_);(conv=>whnf);repeat((first|refine aF ?_|refine aT ?_);(first|refine rG Γ hm ?_|refine rD Γ hm qq ?_);conv=>whnf))
 refine⟨fun h=>absurd (of_decide_eq_true h) qn,fun _=>?_⟩
 ((first|refine rG Γ hm ?_|refine rD Γ hm qq ?_);(conv=>whnf);repeat((first|refine aF ?_|refine aT ?_);(first|refine rG Γ hm ?_|refine rD Γ hm qq ?_);conv=>whnf))
 refine⟨fun h=>absurd (of_decide_eq_true h) qn,fun _=>?_⟩
 ((first|refine rG Γ hm ?_|refine rD Γ hm qq ?_);(conv=>whnf);repeat((first|refine aF ?_|refine aT ?_);(first|refine rG Γ hm ?_|refine rD Γ hm qq ?_);conv=>whnf))
 refine Ah hr F20 E E E E E ?_
 ((first|refine rG Γ hm ?_|refine rD Γ hm qq ?_);(conv=>whnf);repeat((first|refine aF ?_|refine aT ?_);(first|refine rG Γ hm ?_|refine rD Γ hm qq ?_);conv=>whnf))
 refine⟨E,hi.1,hi.2,?_⟩
 rw[ha]
 ((conv=>whnf);repeat((first|refine aF ?_|refine aT ?_);(first|refine rG Γ hm ?_|refine rD Γ hm qq ?_);conv=>whnf))
 refine⟨E,hk.1,hk.2,?_⟩
 rw[hbb]
 ((conv=>whnf);repeat((first|refine aF ?_|refine aT ?_);(first|refine rG Γ hm ?_|refine rD Γ hm qq ?_);conv=>whnf))
 refine⟨qq,?_⟩
 ((conv=>whnf);repeat((first|refine aF ?_|refine aT ?_);(first|refine rG Γ hm ?_|refine rD Γ hm qq ?_);conv=>whnf))
 refine⟨fun h=>?_,fun h=>?_⟩
 ·rw[h,Bool.true_or]
  ((first|refine rG Γ hm ?_|refine rD Γ hm qq ?_);(conv=>whnf);repeat((first|refine aF ?_|refine aT ?_);(first|refine rG Γ hm ?_|refine rD Γ hm qq ?_);conv=>whnf))
  exact Ac E (.cons .tmp .nil) E E
 rw[h,Bool.false_or]
 ((first|refine rG Γ hm ?_|refine rD Γ hm qq ?_);(conv=>whnf);repeat((first|refine aF ?_|refine aT ?_);(first|refine rG Γ hm ?_|refine rD Γ hm qq ?_);conv=>whnf))
 refine⟨fun h=>?_,fun h=>?_⟩
 ·rw[h,Bool.true_and]
  refine B0 8 5 (Ci b) E E E ?_
  ((first|refine rG Γ hm ?_|refine rD Γ hm qq ?_);(conv=>whnf);repeat((first|refine aF ?_|refine aT ?_);(first|refine rG Γ hm ?_|refine rD Γ hm qq ?_);conv=>whnf))
  refine Ah q F223 E E E E E ?_
  ((first|refine rG Γ hm ?_|refine rD Γ hm qq ?_);(conv=>whnf);repeat((first|refine aF ?_|refine aT ?_);(first|refine rG Γ hm ?_|refine rD Γ hm qq ?_);conv=>whnf))
  exact Ac E (.cons .tmp .nil) E E
 ·rw[h,Bool.false_and]
  ((first|refine rG Γ hm ?_|refine rD Γ hm qq ?_);(conv=>whnf);repeat((first|refine aF ?_|refine aT ?_);(first|refine rG Γ hm ?_|refine rD Γ hm qq ?_);conv=>whnf))
  exact Ac E (.cons .tmp .nil) E E
def I4 (n:Net) (i:Int):Int:=(nth n.domains (nth n.irbs i).domain).dev
theorem e_irb {n:Net} (h:Af n=true) {i:Nat} (hi:i<n.irbs.length):Adz n i n.irbs[i]=true:=by
 simp only[Af,Bool.and_eq_true]at h
 exact allB_iff.1 h.2 i hi
theorem Dw {n:Net} (h:Af n=true) {i:Nat} (hi:i<n.irbs.length) :
  (0≤n.irbs[i].domain∧n.irbs[i].domain.toNat<n.domains.length)∧(0≤n.irbs[i].vrf∧n.irbs[i].vrf.toNat<n.vrfs.length)∧(0≤n.irbs[i].bits∧n.irbs[i].bits≤32):=by
 have:=e_irb h hi
 simp only[Adz,Ag,Bool.and_eq_true,decide_eq_true_eq]at this
 omega
theorem Hu (n:Net) (hb:Af n=true) (i:Int) (hi:0≤i∧i.toNat<n.irbs.length):Sy.Spec Tryz.prog 172 [Aq n,Aa i] [] (Aa (I4 n i)) []:=Ab Γ hm 100 F172 Tryz.ntmps172 rfl fun F hF=>by
 have hf:=(Dw hb hi.2).1
 rw[I4,Ao hi.2]
 obtain ⟨x,hx⟩:∃ x,n.irbs[i.toNat]'hi.2=x:=⟨_,rfl⟩
 rw[hx]at hf ⊢
 rw[Ao hf.2]
 obtain ⟨d,hd⟩:∃ d,n.domains[x.domain.toNat]'hf.2=d:=⟨_,rfl⟩
 rw[hd]
 ((conv=>whnf);repeat((first|refine aF ?_|refine aT ?_);(first|refine rG Γ hm ?_|refine rD Γ hm qq ?_);conv=>whnf))
 refine⟨E,hi.1,hi.2,?_⟩
 rw[hx]
 ((conv=>whnf);repeat((first|refine aF ?_|refine aT ?_);(first|refine rG Γ hm ?_|refine rD Γ hm qq ?_);conv=>whnf))
 refine⟨E,hf.1,hf.2,?_⟩
 rw[hd]
 ((conv=>whnf);repeat((first|refine aF ?_|refine aT ?_);(first|refine rG Γ hm ?_|refine rD Γ hm qq ?_);conv=>whnf))
 refine⟨qq,?_⟩
 ((conv=>whnf);repeat((first|refine aF ?_|refine aT ?_);(first|refine rG Γ hm ?_|refine rD Γ hm qq ?_);conv=>whnf))
 exact Ac E (.cons .tmp .nil) E E
def Ae8 (n:Net) (i k:Int):Bool:=I4 n i == I4 n k && Ady n (nth n.irbs k).vrf (nth n.irbs i).vrf
theorem Ac8 (n:Net) (hn:n.Fin) (hb:Af n=true) (i k:Int) (hi:0≤i∧i.toNat<n.irbs.length) (hk:0≤k∧k.toNat<n.irbs.length) :
  Sy.Spec Tryz.prog 174 [Aq n,Aa i,Aa k] [] (Ad (Ae8 n i k)) []:=Ab Γ hm 100 F174 Tryz.ntmps174 rfl fun F hF=>by
 have q1:=Hu n hb i hi
 have q2:=Hu n hb k hk
 have f1:=(Dw hb hi.2).2.1
 have f2:=(Dw hb hk.2).2.1
 have q3:=Acx n hn hb _ _ f2 f1
 rw[Ae8,Ao hi.2,Ao hk.2]
 obtain ⟨x,hx⟩:∃ x,n.irbs[i.toNat]'hi.2=x:=⟨_,rfl⟩
 obtain ⟨y,hy⟩:∃ y,n.irbs[k.toNat]'hk.2=y:=⟨_,rfl⟩
 rw[hx,hy]at q3
 rw[hx,hy]
 generalize I4 n i=di at *
 generalize I4 n k=dk at *
 ((conv=>whnf);repeat((first|refine aF ?_|refine aT ?_);(first|refine rG Γ hm ?_|refine rD Γ hm qq ?_);conv=>whnf))
 refine An q1 F172 E E E qq E ?_
 ((first|refine rG Γ hm ?_|refine rD Γ hm qq ?_);(conv=>whnf);repeat((first|refine aF ?_|refine aT ?_);(first|refine rG Γ hm ?_|refine rD Γ hm qq ?_);conv=>whnf))
 refine An q2 F172 E E E qq E ?_
 ((first|refine rG Γ hm ?_|refine rD Γ hm qq ?_);(conv=>whnf);repeat((first|refine aF ?_|refine aT ?_);(first|refine rG Γ hm ?_|refine rD Γ hm qq ?_);conv=>whnf))
 refine⟨fun h=>?_,fun h=>?_⟩
 ·rw[h,Bool.true_and]
  ((first|refine rG Γ hm ?_|refine rD Γ hm qq ?_);(conv=>whnf);repeat((first|refine aF ?_|refine aT ?_);(first|refine rG Γ hm ?_|refine rD Γ hm qq ?_);conv=>whnf))
  refine⟨E,hk.1,hk.2,?_⟩
  rw[hy]
  ((conv=>whnf);repeat((first|refine aF ?_|refine aT ?_);(first|refine rG Γ hm ?_|refine rD Γ hm qq ?_);conv=>whnf))
  refine⟨E,hi.1,hi.2,?_⟩
  rw[hx]
  ((conv=>whnf);repeat((first|refine aF ?_|refine aT ?_);(first|refine rG Γ hm ?_|refine rD Γ hm qq ?_);conv=>whnf))
  refine An q3 F209 E E E qq E ?_
  ((first|refine rG Γ hm ?_|refine rD Γ hm qq ?_);(conv=>whnf);repeat((first|refine aF ?_|refine aT ?_);(first|refine rG Γ hm ?_|refine rD Γ hm qq ?_);conv=>whnf))
  refine⟨qq,?_⟩
  ((conv=>whnf);repeat((first|refine aF ?_|refine aT ?_);(first|refine rG Γ hm ?_|refine rD Γ hm qq ?_);conv=>whnf))
  exact Ac E (.cons .tmp .nil) E E
 ·rw[h,Bool.false_and]
  ((first|refine rG Γ hm ?_|refine rD Γ hm qq ?_);(conv=>whnf);repeat((first|refine aF ?_|refine aT ?_);(first|refine rG Γ hm ?_|refine rD Γ hm qq ?_);conv=>whnf))
  refine⟨qq,?_⟩
  ((conv=>whnf);repeat((first|refine aF ?_|refine aT ?_);(first|refine rG Γ hm ?_|refine rD Γ hm qq ?_);conv=>whnf))
  exact Ac E (.cons .tmp .nil) E E
abbrev Ai8 (a b:Int):SV:=.agg [Ce a,Aa b]
theorem Agu (a b:Int) (h:0≤b∧b≤32):Sy.Spec Tryz.prog 207 [Ai8 a b] [] (Ad true) []:=Ab Γ hm 100 F207 Tryz.ntmps207 rfl fun F hF=>by
 ((conv=>whnf);repeat((first|refine aF ?_|refine aT ?_);(first|refine rG Γ hm ?_|refine rD Γ hm qq ?_);conv=>whnf))
 refine⟨fun _=>?_,fun h2=>absurd (of_decide_eq_false h2) qn⟩
 ((first|refine rG Γ hm ?_|refine rD Γ hm qq ?_);(conv=>whnf);repeat((first|refine aF ?_|refine aT ?_);(first|refine rG Γ hm ?_|refine rD Γ hm qq ?_);conv=>whnf))
 refine Ac E (.cons .tmp .nil) (congrArg Ad ?_) E
 simp;omega
def Aiz (b:Int):Int:=IntKind.u32.wrap (IntKind.u32.wrap (1 * 2 ^ (min (32-b).toNat IntKind.u32.bits))-1)
theorem Ai9 (a b:Int) (h:0≤b∧b≤32):Sy.Spec Tryz.prog 208 [Ai8 a b] [] (Ce (Aiz b)) []:=Ab Γ hm 100 F208 Tryz.ntmps208 rfl fun F hF=>by
 ((conv=>whnf);repeat((first|refine aF ?_|refine aT ?_);(first|refine rG Γ hm ?_|refine rD Γ hm qq ?_);conv=>whnf))
 refine⟨by unfold I64;omega,?_⟩
 ((conv=>whnf);repeat((first|refine aF ?_|refine aT ?_);(first|refine rG Γ hm ?_|refine rD Γ hm qq ?_);conv=>whnf))
 refine⟨by omega,?_⟩
 ((conv=>whnf);repeat((first|refine aF ?_|refine aT ?_);(first|refine rG Γ hm ?_|refine rD Γ hm qq ?_);conv=>whnf))
 exact Ac E (.cons .tmp .nil) E E
def Al6 (a b x:Int):Bool:=bits .andNot .u32 (bits .xor .u32 a x) (Aiz b) == 0
theorem Ak5 (a b x:Int) (h:0≤b∧b≤32):Sy.Spec Tryz.prog 173 [Ai8 a b,Ce x] [] (Ad (Al6 a b x)) []:=Ab Γ hm 100 F173 Tryz.ntmps173 rfl fun F hF=>by
 have q1:=Agu a b h
 have q2:=Ai9 a b h
 rw[Al6]
 generalize Aiz b=r at *
 ((conv=>whnf);repeat((first|refine aF ?_|refine aT ?_);(first|refine rG Γ hm ?_|refine rD Γ hm qq ?_);conv=>whnf))
 refine An q1 F207 E E E qq E ?_
 ((first|refine rG Γ hm ?_|refine rD Γ hm qq ?_);(conv=>whnf);repeat((first|refine aF ?_|refine aT ?_);(first|refine rG Γ hm ?_|refine rD Γ hm qq ?_);conv=>whnf))
 refine An q2 F208 E E E qq E ?_
 ((first|refine rG Γ hm ?_|refine rD Γ hm qq ?_);(conv=>whnf);repeat((first|refine aF ?_|refine aT ?_);(first|refine rG Γ hm ?_|refine rD Γ hm qq ?_);conv=>whnf))
 refine⟨qq,?_⟩
 ((conv=>whnf);repeat((first|refine aF ?_|refine aT ?_);(first|refine rG Γ hm ?_|refine rD Γ hm qq ?_);conv=>whnf))
 exact Ac E (.cons .tmp .nil) E E
def Vk (c:Int→Int→Int) (l:List Int) (j:Nat):Int:=((l.drop 1).take j).foldl (fun m x=>if 0<c x m then x else m) (nth l 0)
theorem Xq (c:Int→Int→Int) (l:List Int) (j:Nat) (h:j+1<l.length):Vk c l (j+1)=if 0<c l[j+1] (Vk c l j) then l[j+1] else Vk c l j:=by
 have hl:j<(l.drop 1).length:=by rw[List.length_drop];omega
 rw[Vk,List.take_succ_eq_append_getElem hl,List.foldl_append]
 have e:(l.drop 1)[j]=l[j+1]:=by rw[List.getElem_drop];congr 1;omega
 simp only[List.foldl_cons,List.foldl_nil,e]
 rfl
theorem Vj (c:Int→Int→Int) (l:List Int) (h:0<l.length):∀ j,j+1≤l.length→Vk c l j∈l
 | 0,_=>by
  rw[Vk,List.take_zero,List.foldl_nil,Ao (l:=l) (i:=0) (by simpa using h)]
  exact List.getElem_mem _
 | j+1,hj=>by
  rw[Xq c l j qn]
  split
  ·exact List.getElem_mem _
  ·exact Vj c l h j qn
theorem Aju (l:List Int) (c:Int→Int→Int) (f:FuncId) (first cap:List SV) (hc:(SV.clo (.func f) first cap).inn []=true) (h0:0<l.length) (hl:Am l)
  (hf:∀ x∈l,∀ y∈l,Hn Tryz.prog f (first++[Aa x,Aa y]++cap) (Aa (c x y))) :
  Sy.Spec Tryz.prog 176 [.sl 1 Aa l,.clo (.func f) first cap] [] (Aa (Vk c l (l.length-1))) []:=Ab Γ hm 100 F176 Tryz.ntmps176 rfl fun F hF=>by
 unfold Am at hl
 have hin:∀ x y:Int,B1 [] (first++[Aa x,Aa y]++cap)=true:=fun x y=>Cp hc rfl
 have hmem:=Vj c l h0
 have hsucc:=Xq c l
 have hz:Vk c l 0=l[0]:=by rw[Vk,List.take_zero,List.foldl_nil,Ao (l:=l) (i:=0) (by simpa using h0)];rfl
 generalize Vk c l=m at *
 ((conv=>whnf);repeat((first|refine aF ?_|refine aT ?_);(first|refine rG Γ hm ?_|refine rD Γ hm qq ?_);conv=>whnf))
 refine⟨fun h=>absurd (of_decide_eq_true h) qn,fun _=>?_⟩
 ((first|refine rG Γ hm ?_|refine rD Γ hm qq ?_);(conv=>whnf);repeat((first|refine aF ?_|refine aT ?_);(first|refine rG Γ hm ?_|refine rD Γ hm qq ?_);conv=>whnf))
 refine⟨E,by omega,by simpa using h0,?_⟩
 ((conv=>whnf);repeat((first|refine aF ?_|refine aT ?_);(first|refine rG Γ hm ?_|refine rD Γ hm qq ?_);conv=>whnf))
 refine A2 (l.length-1) (fun j=>[(0,.sl 1 Aa l),(1,.clo (.func f) first cap),(5,Aa (m j)),(6,Aa ((j:Int)+1))]) (fun _=>[]) []
  ⟨⟨rfl,rfl,A4 _,hc,congrArg Aa hz,rfl,rfl,rfl,trivial⟩,trivial,rfl,rfl⟩ ?_
 intro j hj
 have hmj:=hmem j qn
 have hsj:=hsucc j
 ((first|refine rG Γ hm ?_|refine rD Γ hm qq ?_);(conv=>whnf);repeat((first|refine aF ?_|refine aT ?_);(first|refine rG Γ hm ?_|refine rD Γ hm qq ?_);conv=>whnf))
 refine⟨fun h=>?_,fun h=>?_⟩
 ·have hlt:j+1<l.length:=by have:=of_decide_eq_true h;omega
  have hsj:=hsj hlt
  have hk:((j:Int)+1).toNat<l.length:=by omega
  have e1:l[((j:Int)+1).toNat]'hk=l[j+1]:=by congr 1
  obtain ⟨x,hx⟩:∃ x,l[j+1]=x:=⟨_,rfl⟩
  have hxm:x∈l:=hx ▸ List.getElem_mem hlt
  rw[hx]at e1 hsj
  ((first|refine rG Γ hm ?_|refine rD Γ hm qq ?_);(conv=>whnf);repeat((first|refine aF ?_|refine aT ?_);(first|refine rG Γ hm ?_|refine rD Γ hm qq ?_);conv=>whnf))
  refine⟨E,by omega,hk,?_⟩
  rw[e1]
  ((conv=>whnf);repeat((first|refine aF ?_|refine aT ?_);(first|refine rG Γ hm ?_|refine rD Γ hm qq ?_);conv=>whnf))
  refine Dx (hf x hxm (m j) hmj) E E E (by simp only[hin];rfl) E E ?_
  ((first|refine rG Γ hm ?_|refine rD Γ hm qq ?_);(conv=>whnf);repeat((first|refine aF ?_|refine aT ?_);(first|refine rG Γ hm ?_|refine rD Γ hm qq ?_);conv=>whnf))
  refine⟨fun h2=>?_,fun h2=>?_⟩
  ·rw[if_pos (of_decide_eq_true h2)]at hsj
   ((first|refine rG Γ hm ?_|refine rD Γ hm qq ?_);(conv=>whnf);repeat((first|refine aF ?_|refine aT ?_);(first|refine rG Γ hm ?_|refine rD Γ hm qq ?_);conv=>whnf))
   refine⟨E,by omega,hk,?_⟩
   rw[e1]
   ((conv=>whnf);repeat((first|refine aF ?_|refine aT ?_);(first|refine rG Γ hm ?_|refine rD Γ hm qq ?_);conv=>whnf))
   refine⟨by unfold I64;omega,?_⟩
   ((conv=>whnf);repeat((first|refine aF ?_|refine aT ?_);(first|refine rG Γ hm ?_|refine rD Γ hm qq ?_);conv=>whnf))
   exact Av [] qn ⟨⟨E,E,A4 _,hc,congrArg Aa hsj,E,congrArg Aa qn,E,Y⟩,Y,E,E⟩
  ·rw[if_neg (of_decide_eq_false h2)]at hsj
   ((first|refine rG Γ hm ?_|refine rD Γ hm qq ?_);(conv=>whnf);repeat((first|refine aF ?_|refine aT ?_);(first|refine rG Γ hm ?_|refine rD Γ hm qq ?_);conv=>whnf))
   refine⟨by unfold I64;omega,?_⟩
   ((conv=>whnf);repeat((first|refine aF ?_|refine aT ?_);(first|refine rG Γ hm ?_|refine rD Γ hm qq ?_);conv=>whnf))
   exact Av [] qn ⟨⟨E,E,A4 _,hc,congrArg Aa hsj,E,congrArg Aa qn,E,Y⟩,Y,E,E⟩
 ·have:j=l.length-1:=by have:=of_decide_eq_false h;omega
  subst this
  ((first|refine rG Γ hm ?_|refine rD Γ hm qq ?_);(conv=>whnf);repeat((first|refine aF ?_|refine aT ?_);(first|refine rG Γ hm ?_|refine rD Γ hm qq ?_);conv=>whnf))
  exact Ac E (.cons .tmp .nil) E E
def Y2 (n:Net) (irb i:Int):Int:=if (nth n.irbs i).vrf=(nth n.irbs irb).vrf then 1 else 0
abbrev InIrbs (n:Net) (i:Int):Prop:=0≤i∧i.toNat<n.irbs.length
theorem Abh (n:Net) (irb i:Int) (hi:InIrbs n i) (hk:InIrbs n irb):Sy.Spec Tryz.prog 175 [Aa i,.ref 8 (Aq n) 0,.ref 1 (Aa irb) 0] [] (Aa (Y2 n irb i)) []:=Ab Γ hm 100 F175 Tryz.ntmps175 rfl fun F hF=>by
 rw[Y2,Ao hi.2,Ao hk.2]
 obtain ⟨x,hx⟩:∃ x,n.irbs[i.toNat]'hi.2=x:=⟨_,rfl⟩
 obtain ⟨y,hy⟩:∃ y,n.irbs[irb.toNat]'hk.2=y:=⟨_,rfl⟩
 rw[hx,hy]
 ((conv=>whnf);repeat((first|refine aF ?_|refine aT ?_);(first|refine rG Γ hm ?_|refine rD Γ hm qq ?_);conv=>whnf))
 refine⟨E,hi.1,hi.2,?_⟩
 rw[hx]
 ((conv=>whnf);repeat((first|refine aF ?_|refine aT ?_);(first|refine rG Γ hm ?_|refine rD Γ hm qq ?_);conv=>whnf))
 refine⟨E,hk.1,hk.2,?_⟩
 rw[hy]
 ((conv=>whnf);repeat((first|refine aF ?_|refine aT ?_);(first|refine rG Γ hm ?_|refine rD Γ hm qq ?_);conv=>whnf))
 refine⟨qq,?_⟩
 ((conv=>whnf);repeat((first|refine aF ?_|refine aT ?_);(first|refine rG Γ hm ?_|refine rD Γ hm qq ?_);conv=>whnf))
 refine⟨fun h=>?_,fun h=>?_⟩
 ·rw[if_pos (by simpa using h)]
  ((first|refine rG Γ hm ?_|refine rD Γ hm qq ?_);(conv=>whnf);repeat((first|refine aF ?_|refine aT ?_);(first|refine rG Γ hm ?_|refine rD Γ hm qq ?_);conv=>whnf))
  exact Ac E (.cons .tmp .nil) E E
 ·rw[if_neg (by simpa using h)]
  ((first|refine rG Γ hm ?_|refine rD Γ hm qq ?_);(conv=>whnf);repeat((first|refine aF ?_|refine aT ?_);(first|refine rG Γ hm ?_|refine rD Γ hm qq ?_);conv=>whnf))
  exact Ac E (.cons .tmp .nil) E E
def Akr (n:Net) (irb a b:Int):Int:=if (nth n.irbs a).bits≠(nth n.irbs b).bits then (nth n.irbs a).bits-(nth n.irbs b).bits else Y2 n irb a-Y2 n irb b
theorem Aff (n:Net) (irb i:Int):0≤Y2 n irb i∧Y2 n irb i≤1:=by
 unfold Y2;split<;>omega
theorem Ajv (n:Net) (hb:Af n=true) (irb a b:Int) (hk:InIrbs n irb) (ha:InIrbs n a) (hb2:InIrbs n b) :
  Sy.Spec Tryz.prog 177 [Aa a,Aa b,.ref 8 (Aq n) 0,.ref 1 (.clo (.func 175) [] [.ref 8 (Aq n) 0,.ref 1 (Aa irb) 0]) 0] [] (Aa (Akr n irb a b)) []:=Ab Γ hm 100 F177 Tryz.ntmps177 rfl fun F hF=>by
 have fa:=(Dw hb ha.2).2.2
 have fb:=(Dw hb hb2.2).2.2
 have q1:=Abh n irb a ha hk
 have q2:=Abh n irb b hb2 hk
 have l1:=Aff n irb a
 have l2:=Aff n irb b
 rw[Akr,Ao ha.2,Ao hb2.2]
 obtain ⟨x,hx⟩:∃ x,n.irbs[a.toNat]'ha.2=x:=⟨_,rfl⟩
 obtain ⟨y,hy⟩:∃ y,n.irbs[b.toNat]'hb2.2=y:=⟨_,rfl⟩
 rw[hx]at fa ⊢
 rw[hy]at fb ⊢
 generalize Y2 n irb a=oa at *
 generalize Y2 n irb b=ob at *
 ((conv=>whnf);repeat((first|refine aF ?_|refine aT ?_);(first|refine rG Γ hm ?_|refine rD Γ hm qq ?_);conv=>whnf))
 refine⟨E,ha.1,ha.2,?_⟩
 rw[hx]
 ((conv=>whnf);repeat((first|refine aF ?_|refine aT ?_);(first|refine rG Γ hm ?_|refine rD Γ hm qq ?_);conv=>whnf))
 refine⟨E,hb2.1,hb2.2,?_⟩
 rw[hy]
 ((conv=>whnf);repeat((first|refine aF ?_|refine aT ?_);(first|refine rG Γ hm ?_|refine rD Γ hm qq ?_);conv=>whnf))
 refine⟨qq,?_⟩
 ((conv=>whnf);repeat((first|refine aF ?_|refine aT ?_);(first|refine rG Γ hm ?_|refine rD Γ hm qq ?_);conv=>whnf))
 refine⟨fun h=>?_,fun h=>?_⟩
 ·rw[if_pos (by simpa using h)]
  ((first|refine rG Γ hm ?_|refine rD Γ hm qq ?_);(conv=>whnf);repeat((first|refine aF ?_|refine aT ?_);(first|refine rG Γ hm ?_|refine rD Γ hm qq ?_);conv=>whnf))
  refine⟨by unfold I64;omega,?_⟩
  ((conv=>whnf);repeat((first|refine aF ?_|refine aT ?_);(first|refine rG Γ hm ?_|refine rD Γ hm qq ?_);conv=>whnf))
  exact Ac E (.cons .tmp .nil) E E
 ·rw[if_neg (by simpa using h)]
  ((first|refine rG Γ hm ?_|refine rD Γ hm qq ?_);(conv=>whnf);repeat((first|refine aF ?_|refine aT ?_);(first|refine rG Γ hm ?_|refine rD Γ hm qq ?_);conv=>whnf))
  refine Aer ⟨⟨_,_,F175⟩,q1⟩ E E E E qq E ?_
  ((first|refine rG Γ hm ?_|refine rD Γ hm qq ?_);(conv=>whnf);repeat((first|refine aF ?_|refine aT ?_);(first|refine rG Γ hm ?_|refine rD Γ hm qq ?_);conv=>whnf))
  refine Aer ⟨⟨_,_,F175⟩,q2⟩ E E E E qq E ?_
  ((first|refine rG Γ hm ?_|refine rD Γ hm qq ?_);(conv=>whnf);repeat((first|refine aF ?_|refine aT ?_);(first|refine rG Γ hm ?_|refine rD Γ hm qq ?_);conv=>whnf))
  refine⟨by unfold I64;omega,?_⟩
  ((conv=>whnf);repeat((first|refine aF ?_|refine aT ?_);(first|refine rG Γ hm ?_|refine rD Γ hm qq ?_);conv=>whnf))
  refine⟨qq,?_⟩
  ((conv=>whnf);repeat((first|refine aF ?_|refine aT ?_);(first|refine rG Γ hm ?_|refine rD Γ hm qq ?_);conv=>whnf))
  exact Ac E (.cons .tmp .nil) E E
def Q3 (n:Net) (irb dst:Int) (i:Nat):Bool:=I4 n i == I4 n irb && (nth n.irbs i).addr == dst
def Wp (n:Net) (irb dst:Int) (i:Nat):Bool:=Al6 (nth n.irbs i).addr (nth n.irbs i).bits dst && Ae8 n irb i
def Mg (n:Net) (irb dst:Int):List Int:=Ii (Wp n irb dst) n.irbs.length
def lookT (n:Net) (irb dst:Int):Int × Bool :=
 if (List.range n.irbs.length).any (Q3 n irb dst)=true then (0,false)
 else if Mg n irb dst=[] then (0,false) else (Vk (Akr n irb) (Mg n irb dst) ((Mg n irb dst).length-1),true)
theorem Al1 (n:Net) (hn:n.Fin) (hb:Af n=true) (irb dst:Int) (hk:InIrbs n irb):Sy.Spec Tryz.prog 137 [Aq n,Aa irb,Ce dst] [] (.tup [Aa (lookT n irb dst).1,Ad (lookT n irb dst).2]) []:=Ab Γ hm 100 F137 Tryz.ntmps137 rfl fun F hF=>by
 have hlk:=lookT.eq_1 n irb dst
 generalize lookT n irb dst=r at *
 have hsi:=hn.irbs
 unfold Am at hsi
 have qk:=Hu n hb irb hk
 ((conv=>whnf);repeat((first|refine aF ?_|refine aT ?_);(first|refine rG Γ hm ?_|refine rD Γ hm qq ?_);conv=>whnf))
 refine B0 3 8 (Aq n) E E E ?_
 refine B0 4 1 (Aa irb) E E E ?_
 refine Cc 8 1000 1 Aa E E ?_
 refine Bc n.irbs.length (fun j=>∀ i,i<j→Q3 n irb dst i=false) (fun j=>[(2,Ce dst),(3,.ref 8 (Aq n) 0),(4,.ref 1 (Aa irb) 0),(8,.osl 1000),(13,.sl 5 C7 n.irbs),(14,Aa n.irbs.length),(15,Aa j)]) (fun j=>[(1000,.row 1 Aa (Ii (Wp n irb dst) j))]) [] (fun i hi=>absurd hi qn)
  ⟨⟨rfl,rfl,rfl,rfl,rfl,rfl,rfl,rfl,rfl,rfl,rfl,rfl,rfl,rfl,trivial⟩,⟨.inl rfl,rfl,trivial⟩,rfl,rfl⟩ ?_
 intro j hj hI
 ((first|refine rG Γ hm ?_|refine rD Γ hm qq ?_);(conv=>whnf);repeat((first|refine aF ?_|refine aT ?_);(first|refine rG Γ hm ?_|refine rD Γ hm qq ?_);conv=>whnf))
 refine⟨fun h=>?_,fun h=>?_⟩
 ·have hlt:j<n.irbs.length:=by simpa using h
  have hij:InIrbs n (j:Int):=⟨by omega,by simpa using hlt⟩
  have qj:=Hu n hb j hij
  have hsucc:=V5 (Wp n irb dst) j
  have hfl:=D2 (Wp n irb dst) j
  have hta:Q3 n irb dst j=(I4 n j == I4 n irb && (nth n.irbs j).addr == dst):=rfl
  have hwa:Wp n irb dst j=(Al6 (nth n.irbs j).addr (nth n.irbs j).bits dst && Ae8 n irb j):=rfl
  have enj:nth n.irbs (j:Int)=n.irbs[j]:=Ao (l:=n.irbs) (i:=(j:Int)) (by simpa using hlt)
  have hf:=(Dw hb hlt).2.2
  have e1:n.irbs[(j:Int).toNat]'qn=n.irbs[j]:=rfl
  rw[enj]at hta hwa
  obtain ⟨x,hx⟩:∃ x,n.irbs[j]=x:=⟨_,rfl⟩
  rw[hx]at e1 hta hwa hf
  have q1:=Ak5 x.addr x.bits dst hf
  have q2:=Ac8 n hn hb irb j hk hij
  rw[hwa]at hsucc
  obtain ⟨u,hu⟩:∃ u,Ii (Wp n irb dst) j=u:=⟨_,rfl⟩
  rw[hu]at hsucc hfl ⊢
  ((first|refine rG Γ hm ?_|refine rD Γ hm qq ?_);(conv=>whnf);repeat((first|refine aF ?_|refine aT ?_);(first|refine rG Γ hm ?_|refine rD Γ hm qq ?_);conv=>whnf))
  refine⟨E,by omega,by omega,?_⟩
  rw[e1]
  ((conv=>whnf);repeat((first|refine aF ?_|refine aT ?_);(first|refine rG Γ hm ?_|refine rD Γ hm qq ?_);conv=>whnf))
  refine An qj F172 E E E qq E ?_
  ((first|refine rG Γ hm ?_|refine rD Γ hm qq ?_);(conv=>whnf);repeat((first|refine aF ?_|refine aT ?_);(first|refine rG Γ hm ?_|refine rD Γ hm qq ?_);conv=>whnf))
  refine An qk F172 E E E qq E ?_
  ((first|refine rG Γ hm ?_|refine rD Γ hm qq ?_);(conv=>whnf);repeat((first|refine aF ?_|refine aT ?_);(first|refine rG Γ hm ?_|refine rD Γ hm qq ?_);conv=>whnf))
  refine⟨fun h2=>?_,fun h2=>?_⟩
  ·rw[h2,Bool.true_and]at hta
   ((first|refine rG Γ hm ?_|refine rD Γ hm qq ?_);(conv=>whnf);repeat((first|refine aF ?_|refine aT ?_);(first|refine rG Γ hm ?_|refine rD Γ hm qq ?_);conv=>whnf))
   refine⟨qq,?_⟩
   ((conv=>whnf);repeat((first|refine aF ?_|refine aT ?_);(first|refine rG Γ hm ?_|refine rD Γ hm qq ?_);conv=>whnf))
   refine⟨fun h3=>?_,fun h3=>?_⟩
   ·have:(List.range n.irbs.length).any (Q3 n irb dst)=true:=List.any_eq_true.2 ⟨j,by simpa using hlt,hta.trans h3⟩
    rw[if_pos this]at hlk
    subst hlk
    ((first|refine rG Γ hm ?_|refine rD Γ hm qq ?_);(conv=>whnf);repeat((first|refine aF ?_|refine aT ?_);(first|refine rG Γ hm ?_|refine rD Γ hm qq ?_);conv=>whnf))
    exact Ac E (.cons .tmp (.cons .tmp .nil)) E E
   ·have hnt:=hta.trans h3
    ((first|refine rG Γ hm ?_|refine rD Γ hm qq ?_);(conv=>whnf);repeat((first|refine aF ?_|refine aT ?_);(first|refine rG Γ hm ?_|refine rD Γ hm qq ?_);conv=>whnf))
    refine Ah q1 F173 E E E E E ?_
    ((first|refine rG Γ hm ?_|refine rD Γ hm qq ?_);(conv=>whnf);repeat((first|refine aF ?_|refine aT ?_);(first|refine rG Γ hm ?_|refine rD Γ hm qq ?_);conv=>whnf))
    refine⟨fun h4=>?_,fun h4=>?_⟩
    ·rw[h4,Bool.true_and]at hsucc
     ((first|refine rG Γ hm ?_|refine rD Γ hm qq ?_);(conv=>whnf);repeat((first|refine aF ?_|refine aT ?_);(first|refine rG Γ hm ?_|refine rD Γ hm qq ?_);conv=>whnf))
     refine Ah q2 F174 E E E E E ?_
     ((first|refine rG Γ hm ?_|refine rD Γ hm qq ?_);(conv=>whnf);repeat((first|refine aF ?_|refine aT ?_);(first|refine rG Γ hm ?_|refine rD Γ hm qq ?_);conv=>whnf))
     refine⟨fun h5=>?_,fun h5=>?_⟩
     ·rw[if_pos h5]at hsucc
      ((first|refine rG Γ hm ?_|refine rD Γ hm qq ?_);(conv=>whnf);repeat((first|refine aF ?_|refine aT ?_);(first|refine rG Γ hm ?_|refine rD Γ hm qq ?_);conv=>whnf))
      refine Ai (Al Γ.toTy 47 E E E E E (.row E) (.lit (e:=Aa) (l:=[(j:Int)]) E E) qy (by simp;omega) (by simp;omega)) E E ?_
      ((first|refine rG Γ hm ?_|refine rD Γ hm qq ?_);(conv=>whnf);repeat((first|refine aF ?_|refine aT ?_);(first|refine rG Γ hm ?_|refine rD Γ hm qq ?_);conv=>whnf))
      refine⟨by unfold I64;omega,?_⟩
      ((conv=>whnf);repeat((first|refine aF ?_|refine aT ?_);(first|refine rG Γ hm ?_|refine rD Γ hm qq ?_);conv=>whnf))
      exact A9 [(1000,47)] hI hlt (fun i hi=>if e:i=j then (by rw[e];exact hnt) else hI i qn) ⟨⟨E,E,E,E,E,E,E,E,E,E,E,E,E,E,Y⟩,⟨.inl (congrArg (Ob.row 1 Aa) hsucc),E,Y⟩,E,E⟩
     ·rw[if_neg (by simp[h5])]at hsucc
      ((first|refine rG Γ hm ?_|refine rD Γ hm qq ?_);(conv=>whnf);repeat((first|refine aF ?_|refine aT ?_);(first|refine rG Γ hm ?_|refine rD Γ hm qq ?_);conv=>whnf))
      refine⟨by unfold I64;omega,?_⟩
      ((conv=>whnf);repeat((first|refine aF ?_|refine aT ?_);(first|refine rG Γ hm ?_|refine rD Γ hm qq ?_);conv=>whnf))
      exact A9 [] hI hlt (fun i hi=>if e:i=j then (by rw[e];exact hnt) else hI i qn) ⟨⟨E,E,E,E,E,E,E,E,E,E,E,E,E,E,Y⟩,⟨.inl (congrArg (Ob.row 1 Aa) hsucc),E,Y⟩,E,E⟩
    ·rw[if_neg (by simp[h4])]at hsucc
     ((first|refine rG Γ hm ?_|refine rD Γ hm qq ?_);(conv=>whnf);repeat((first|refine aF ?_|refine aT ?_);(first|refine rG Γ hm ?_|refine rD Γ hm qq ?_);conv=>whnf))
     refine⟨by unfold I64;omega,?_⟩
     ((conv=>whnf);repeat((first|refine aF ?_|refine aT ?_);(first|refine rG Γ hm ?_|refine rD Γ hm qq ?_);conv=>whnf))
     exact A9 [] hI hlt (fun i hi=>if e:i=j then (by rw[e];exact hnt) else hI i qn) ⟨⟨E,E,E,E,E,E,E,E,E,E,E,E,E,E,Y⟩,⟨.inl (congrArg (Ob.row 1 Aa) hsucc),E,Y⟩,E,E⟩
  ·have hnt:Q3 n irb dst j=false:=by rw[hta,h2,Bool.false_and]
   ((first|refine rG Γ hm ?_|refine rD Γ hm qq ?_);(conv=>whnf);repeat((first|refine aF ?_|refine aT ?_);(first|refine rG Γ hm ?_|refine rD Γ hm qq ?_);conv=>whnf))
   refine⟨qq,?_⟩
   ((conv=>whnf);repeat((first|refine aF ?_|refine aT ?_);(first|refine rG Γ hm ?_|refine rD Γ hm qq ?_);conv=>whnf))
   refine Ah q1 F173 E E E E E ?_
   ((first|refine rG Γ hm ?_|refine rD Γ hm qq ?_);(conv=>whnf);repeat((first|refine aF ?_|refine aT ?_);(first|refine rG Γ hm ?_|refine rD Γ hm qq ?_);conv=>whnf))
   refine⟨fun h4=>?_,fun h4=>?_⟩
   ·rw[h4,Bool.true_and]at hsucc
    ((first|refine rG Γ hm ?_|refine rD Γ hm qq ?_);(conv=>whnf);repeat((first|refine aF ?_|refine aT ?_);(first|refine rG Γ hm ?_|refine rD Γ hm qq ?_);conv=>whnf))
    refine Ah q2 F174 E E E E E ?_
    ((first|refine rG Γ hm ?_|refine rD Γ hm qq ?_);(conv=>whnf);repeat((first|refine aF ?_|refine aT ?_);(first|refine rG Γ hm ?_|refine rD Γ hm qq ?_);conv=>whnf))
    refine⟨fun h5=>?_,fun h5=>?_⟩
    ·rw[if_pos h5]at hsucc
     ((first|refine rG Γ hm ?_|refine rD Γ hm qq ?_);(conv=>whnf);repeat((first|refine aF ?_|refine aT ?_);(first|refine rG Γ hm ?_|refine rD Γ hm qq ?_);conv=>whnf))
     refine Ai (Al Γ.toTy 47 E E E E E (.row E) (.lit (e:=Aa) (l:=[(j:Int)]) E E) qy (by simp;omega) (by simp;omega)) E E ?_
     ((first|refine rG Γ hm ?_|refine rD Γ hm qq ?_);(conv=>whnf);repeat((first|refine aF ?_|refine aT ?_);(first|refine rG Γ hm ?_|refine rD Γ hm qq ?_);conv=>whnf))
     refine⟨by unfold I64;omega,?_⟩
     ((conv=>whnf);repeat((first|refine aF ?_|refine aT ?_);(first|refine rG Γ hm ?_|refine rD Γ hm qq ?_);conv=>whnf))
     exact A9 [(1000,47)] hI hlt (fun i hi=>if e:i=j then (by rw[e];exact hnt) else hI i qn) ⟨⟨E,E,E,E,E,E,E,E,E,E,E,E,E,E,Y⟩,⟨.inl (congrArg (Ob.row 1 Aa) hsucc),E,Y⟩,E,E⟩
    ·rw[if_neg (by simp[h5])]at hsucc
     ((first|refine rG Γ hm ?_|refine rD Γ hm qq ?_);(conv=>whnf);repeat((first|refine aF ?_|refine aT ?_);(first|refine rG Γ hm ?_|refine rD Γ hm qq ?_);conv=>whnf))
     refine⟨by unfold I64;omega,?_⟩
     ((conv=>whnf);repeat((first|refine aF ?_|refine aT ?_);(first|refine rG Γ hm ?_|refine rD Γ hm qq ?_);conv=>whnf))
     exact A9 [] hI hlt (fun i hi=>if e:i=j then (by rw[e];exact hnt) else hI i qn) ⟨⟨E,E,E,E,E,E,E,E,E,E,E,E,E,E,Y⟩,⟨.inl (congrArg (Ob.row 1 Aa) hsucc),E,Y⟩,E,E⟩
   ·rw[if_neg (by simp[h4])]at hsucc
    ((first|refine rG Γ hm ?_|refine rD Γ hm qq ?_);(conv=>whnf);repeat((first|refine aF ?_|refine aT ?_);(first|refine rG Γ hm ?_|refine rD Γ hm qq ?_);conv=>whnf))
    refine⟨by unfold I64;omega,?_⟩
    ((conv=>whnf);repeat((first|refine aF ?_|refine aT ?_);(first|refine rG Γ hm ?_|refine rD Γ hm qq ?_);conv=>whnf))
    exact A9 [] hI hlt (fun i hi=>if e:i=j then (by rw[e];exact hnt) else hI i qn) ⟨⟨E,E,E,E,E,E,E,E,E,E,E,E,E,E,Y⟩,⟨.inl (congrArg (Ob.row 1 Aa) hsucc),E,Y⟩,E,E⟩
 ·have:j=n.irbs.length:=by have:=of_decide_eq_false h;omega
  subst this
  have hno:¬ (List.range n.irbs.length).any (Q3 n irb dst)=true:=fun h=>by
   obtain ⟨i,h1,h2⟩:=List.any_eq_true.1 h
   rw[hI i (by simpa using h1)]at h2
   cases h2
  rw[if_neg hno]at hlk
  have hin:∀ y∈Mg n irb dst,InIrbs n y:=fun y hy=>by
   have:=(Sm (p:=Wp n irb dst) (j:=n.irbs.length)).1 hy
   exact⟨this.1,by omega⟩
  have hwl:=D2 (Wp n irb dst) n.irbs.length
  have hwe:Ii (Wp n irb dst) n.irbs.length=Mg n irb dst:=rfl
  rw[hwe]at hwl ⊢
  have q:∀ h0:0<(Mg n irb dst).length,_:=fun h0=>Aju (Mg n irb dst) (Akr n irb) 177 [] [.ref 8 (Aq n) 0,.ref 1 (.clo (.func 175) [] [.ref 8 (Aq n) 0,.ref 1 (Aa irb) 0]) 0] rfl h0 (by unfold Am;omega) (fun y hy z hz=>⟨⟨_,_,F177⟩,Ajv n hb irb y z hk (hin y hy) (hin z hz)⟩)
  generalize Mg n irb dst=l at *
  refine Au 1000 E ?_
  ((first|refine rG Γ hm ?_|refine rD Γ hm qq ?_);(conv=>whnf);repeat((first|refine aF ?_|refine aT ?_);(first|refine rG Γ hm ?_|refine rD Γ hm qq ?_);conv=>whnf))
  refine⟨fun h3=>?_,fun h3=>?_⟩
  ·have h4:l=[]:=by simpa using h3
   rw[if_pos h4]at hlk
   subst hlk
   ((first|refine rG Γ hm ?_|refine rD Γ hm qq ?_);(conv=>whnf);repeat((first|refine aF ?_|refine aT ?_);(first|refine rG Γ hm ?_|refine rD Γ hm qq ?_);conv=>whnf))
   exact Ac E (.cons .tmp (.cons .tmp .nil)) E E
  ·have h4:¬ l=[]:=by simpa using h3
   rw[if_neg h4]at hlk
   have q:=q (List.length_pos_iff.2 h4)
   subst hlk
   ((first|refine rG Γ hm ?_|refine rD Γ hm qq ?_);(conv=>whnf);repeat((first|refine aF ?_|refine aT ?_);(first|refine rG Γ hm ?_|refine rD Γ hm qq ?_);conv=>whnf))
   refine B0 11 1 (.clo (.func 175) [] [.ref 8 (Aq n) 0,.ref 1 (Aa irb) 0]) E E E ?_
   ((first|refine rG Γ hm ?_|refine rD Γ hm qq ?_);(conv=>whnf);repeat((first|refine aF ?_|refine aT ?_);(first|refine rG Γ hm ?_|refine rD Γ hm qq ?_);conv=>whnf))
   refine Ah q F176 E E E E E ?_
   ((first|refine rG Γ hm ?_|refine rD Γ hm qq ?_);(conv=>whnf);repeat((first|refine aF ?_|refine aT ?_);(first|refine rG Γ hm ?_|refine rD Γ hm qq ?_);conv=>whnf))
   exact Ac E (.cons .tmp (.cons .tmp .nil)) E E
theorem Abg {n:Net} {irb dst:Int} (h:(lookT n irb dst).2=true):InIrbs n (lookT n irb dst).1:=by
 unfold lookT at h ⊢
 split at h
 ·cases h
 rename_i h1
 rw[if_neg h1]
 split at h
 ·cases h
 rename_i h2
 rw[if_neg h2]
 have hm:=Vj (Akr n irb) (Mg n irb dst) (List.length_pos_iff.2 h2) ((Mg n irb dst).length-1) (by have:=List.length_pos_iff.2 h2;omega)
 have:=(Sm (p:=Wp n irb dst) (j:=n.irbs.length)).1 hm
 exact⟨this.1,by omega⟩
end Go.Sy.YtnlacjgkdjnhmaaGreat
namespace Go.Sy
def Acs (C:Cx) {β:Type} (I:β→Prop) (L:β→List (Nat × SV)) (O:β→Obs) (μ:β→Nat) (x:β) (a:Act) (w:World):Prop :=
 ∃ x':{y:β // I y},∃ κ,μ x'.1<μ x∧St C.F C.n (mkS (L x'.1) (O x'.1)) κ a w
theorem Z2 {C:Cx} {k:List KI} {s:SS} {body:Code} {β:Type} (I:β→Prop) (L:β→List (Nat × SV)) (O:β→Obs) (μ:β→Nat) (x₀:β) (ρ:List (Nat × Nat)) (h0:I x₀) (hsub:Sub C s ρ (L x₀) (O x₀))
  (h:∀ x,I x→G C (.code body::.inv (Acs C I L O μ x)::k) (mkS (L x) (O x))):G C (.code (.loop body)::k) s :=
 Ln (α:={y:β // I y}) (fun x=>L x.1) (fun x=>O x.1) (fun x=>μ x.1) ⟨x₀,h0⟩ ρ hsub (fun x=>h x.1 x.2)
theorem Lm {C:Cx} {k:List KI} {s:SS} {β:Type} {I:β→Prop} {L:β→List (Nat × SV)} {O:β→Obs} {μ:β→Nat} {x:β} (x':β) (ρ:List (Nat × Nat)) (h':I x') (hμ:μ x'<μ x) (hsub:Sub C s ρ (L x') (O x')) :
  G C (.inv (Acs C I L O μ x)::k) s:=fun _ _ _ hs=>⟨⟨x',h'⟩,_,hμ,hsub.st hs⟩
theorem Ea {C:Cx} {k:List KI} {s:SS} (d:Nat) {sz:Nat} {α:Type} (e:α→SV) (l:List α) {svs:List SV} (h:s.h d=.lit sz svs) (hl:l.map e=svs) (hg:G C k ⟨s.σ,upd s.h d (.row sz e l)⟩):G C k s:=fun κ a w hs=>by
 refine hg κ a w ⟨hs.defers,hs.size,hs.inv,hs.ctx,hs.slot,fun j=>?_⟩
 show ObOK κ w j (upd s.h d (.row sz e l) j)
 by_cases hj:j=d
 ·subst hj
  rw[Bb]
  have hob:=hs.obj j
  rw[h]at hob
  have hlen:l.length=svs.length:=by rw[← hl,List.length_map]
  obtain ⟨b,cap,cs,T,fr,e1,e2,e3,e4,e5,e6⟩:=hob
  exact .inr ⟨b,cap,cs,T,fr,by rw[hlen];exact e1,e2,e3,e4,by omega,fun i x hx=>by rw[hlen];exact e6 i x (I9 hl i x hx)⟩
 ·rw[Bs _ _ hj];exact hs.obj j
end Go.Sy
namespace Go.Sy.YtnlacjgkdjnhmaaGreat
open Go.Proofs
attribute [local irreducible] Go.Sy.G Go.Sy.DR
set_option maxRecDepth 20000
set_option maxHeartbeats 4000000
theorem L7 {α:Type} {p:α→Bool} {l:List α} {j:Nat} (hI:Dy (fun _ x=>!(p x)) l j) (hj:l.length≤j):l.any p=false:=by
 rw[List.any_eq_false]
 intro x hx
 obtain ⟨i,hi,rfl⟩:=List.mem_iff_getElem.1 hx
 simpa using hI i hi qn
theorem Qy {α:Type} {p:α→Bool} {l:List α} {j:Nat} (hj:j<l.length) (h:p l[j]=true):l.any p=true:=List.any_eq_true.2 ⟨_,List.getElem_mem hj,h⟩
end Go.Sy.YtnlacjgkdjnhmaaGreat
