/-
  N3 N4 E2 E3 N5 N6 N7 E4 E5 E6 E7 E8 E9 E10 E11 E12 Sy29 B0 D1 N8 N9 N10 N11 V1 V2 V3 V4 V5 X1 D2 KM: parts of a proof, joined by program.
-/
import Derived.Test.YteinjapglfkamaaGreatXD3
namespace Go.Sy.YteinjapglfkamaaGreat
open Go.Proofs
attribute [local irreducible] Go.Sy.G Go.Sy.DR
set_option maxRecDepth 20000
set_option maxHeartbeats 4000000
theorem Qk {K:List Nat}:∀ (a b:List SV),Ct K (a++b)=(Ct K a && Ct K b)
 | [],b=>by simp[Ct]
 | x::a,b=>by simp[Ct,Qk a b,Bool.and_assoc]
theorem Dv {f:FuncId} {first cap xs:List SV} (hc:(SV.clo (.func f) first cap).inn []=true) (hx:Ct [] xs=true):Ct [] (first++xs++cap)=true:=by
 simp only[SV.inn,Bool.and_eq_true]at hc
 rw[Qk,Qk,hc.1,hc.2,hx]
 rfl
theorem Iv (l:List Domain) (p:Domain→Bool) (f:FuncId) (first cap:List SV) (hc:(SV.clo (.func f) first cap).inn []=true) (hf:∀ x∈l,J4 Tryz.prog f (first++[Aw x]++cap) (Ab (p x))) (hl:Ap l) :
  Sy.Spec Tryz.prog 201 [.sl 6 Aw l,.clo (.func f) first cap] [] (Aa (Dq p l)) []:=cT F201 Tryz.ntmps201 fun F hF=>by
 unfold Ap at hl
 have hin:∀ x:Domain,Ct [] (first++[Aw x]++cap)=true:=fun x=>Dv hc rfl
 conv=>whnf
 refine Ay l.length (fun j=>Dd (fun _ x=>!(p x)) l j) (fun j=>[(0,.sl 6 Aw l),(1,.clo (.func f) first cap),(7,Aa l.length),(8,Aa j)]) (fun _=>[]) [] (A2 _ _) ⟨⟨E,E,Br _,hc,E,E,E,E,Y⟩,Y,E,E⟩ ?_
 intro j hj hI
 refine oO ?_
 refine⟨fun h=>?_,fun h=>?_⟩
 ·have h:=of_decide_eq_true h
  have hj2:j<l.length:=by omega
  refine oO ?_
  refine⟨E,by omega,by omega,?_⟩
  conv=>whnf
  refine Ef (hf l[j] (List.getElem_mem hj2)) E E E (by simp only[hin];rfl) E E ?_
  refine oO ?_
  refine⟨fun h2=>?_,fun h2=>?_⟩
  ·refine oO ?_
   refine Aq E (.cons .tmp .nil) (congrArg Aa ?_) E
   exact C3 hj2 (fun i hi hij=>by simpa using hI i hi hij) h2
  ·refine oO ?_
   refine iW ?_
   exact Av [] hI hj2 (A1 hI hj2 (by simp[h2])) ⟨⟨E,E,Br _,hc,E,E,E,E,Y⟩,Y,E,E⟩
 ·have h:=of_decide_eq_false h
  refine oO ?_
  refine Aq E (.cons .tmp .nil) (congrArg Aa ?_) E
  exact Dk (fun i hi=>by simpa using hI i hi qn)
theorem X4 (l:List Port) (p:Port→Bool) (f:FuncId) (first cap:List SV) (hc:(SV.clo (.func f) first cap).inn []=true) (hf:∀ x∈l,J4 Tryz.prog f (first++[Bh x]++cap) (Ab (p x))) (hl:Ap l) :
  Sy.Spec Tryz.prog 332 [.sl 7 Bh l,.clo (.func f) first cap] [] (Aa (Dq p l)) []:=cT F332 Tryz.ntmps332 fun F hF=>by
 unfold Ap at hl
 have hin:∀ x:Port,Ct [] (first++[Bh x]++cap)=true:=fun x=>Dv hc rfl
 conv=>whnf
 refine Ay l.length (fun j=>Dd (fun _ x=>!(p x)) l j) (fun j=>[(0,.sl 7 Bh l),(1,.clo (.func f) first cap),(7,Aa l.length),(8,Aa j)]) (fun _=>[]) [] (A2 _ _) ⟨⟨E,E,Br _,hc,E,E,E,E,Y⟩,Y,E,E⟩ ?_
 intro j hj hI
 refine oO ?_
 refine⟨fun h=>?_,fun h=>?_⟩
 ·have h:=of_decide_eq_true h
  have hj2:j<l.length:=by omega
  refine oO ?_
  refine⟨E,by omega,by omega,?_⟩
  conv=>whnf
  refine Ef (hf l[j] (List.getElem_mem hj2)) E E E (by simp only[hin];rfl) E E ?_
  refine oO ?_
  refine⟨fun h2=>?_,fun h2=>?_⟩
  ·refine oO ?_
   refine Aq E (.cons .tmp .nil) (congrArg Aa ?_) E
   exact C3 hj2 (fun i hi hij=>by simpa using hI i hi hij) h2
  ·refine oO ?_
   refine iW ?_
   exact Av [] hI hj2 (A1 hI hj2 (by simp[h2])) ⟨⟨E,E,Br _,hc,E,E,E,E,Y⟩,Y,E,E⟩
 ·have h:=of_decide_eq_false h
  refine oO ?_
  refine Aq E (.cons .tmp .nil) (congrArg Aa ?_) E
  exact Dk (fun i hi=>by simpa using hI i hi qn)
theorem Aos (l:List Port) (p:Nat→Port→Bool) (f:FuncId) (first cap:List SV) (hc:(SV.clo (.func f) first cap).inn []=true) (hf:∀ i (h:i<l.length),J4 Tryz.prog f (first++[Aa i,Bh l[i]]++cap) (Ab (p i l[i]))) (hl:Ap l) :
  Sy.Spec Tryz.prog 75 [.sl 7 Bh l,.clo (.func f) first cap] [] (Ab (Dg p l)) []:=cT F75 Tryz.ntmps75 fun F hF=>by
 unfold Ap at hl
 have hin:∀ (i:Nat) (x:Port),Ct [] (first++[Aa i,Bh x]++cap)=true:=fun i x=>Dv hc rfl
 conv=>whnf
 refine Ay l.length (fun j=>Dd p l j) (fun j=>[(0,.sl 7 Bh l),(1,.clo (.func f) first cap),(7,.sl 7 Bh l),(8,Aa l.length),(9,Aa j)]) (fun _=>[]) [] (A2 _ _) ⟨⟨E,E,Br _,hc,E,E,E,E,E,E,Y⟩,Y,E,E⟩ ?_
 intro j hj hI
 refine oO ?_
 refine⟨fun h=>?_,fun h=>?_⟩
 ·have h:=of_decide_eq_true h
  have hj2:j<l.length:=by omega
  refine oO ?_
  refine⟨E,by omega,by omega,?_⟩
  conv=>whnf
  refine Ef (hf j hj2) E E E (by simp only[hin];rfl) E E ?_
  refine oO ?_
  refine⟨fun h2=>?_,fun h2=>?_⟩
  ·refine oO ?_
   refine Aq E (.cons .tmp .nil) (congrArg Ab ?_) E
   exact Bf hj2 (by simpa using h2)
  ·refine oO ?_
   refine iW ?_
   exact Av [] hI hj2 (A1 hI hj2 (by simpa using h2)) ⟨⟨E,E,Br _,hc,E,E,E,E,E,E,Y⟩,Y,E,E⟩
 ·have h:=of_decide_eq_false h
  refine oO ?_
  refine Aq E (.cons .tmp .nil) (congrArg Ab ?_) E
  exact Cf hI qn
theorem Aot (l:List Link) (p:Nat→Link→Bool) (f:FuncId) (first cap:List SV) (hc:(SV.clo (.func f) first cap).inn []=true) (hf:∀ i (h:i<l.length),J4 Tryz.prog f (first++[Aa i,Cs l[i]]++cap) (Ab (p i l[i]))) (hl:Ap l) :
  Sy.Spec Tryz.prog 77 [.sl 3 Cs l,.clo (.func f) first cap] [] (Ab (Dg p l)) []:=cT F77 Tryz.ntmps77 fun F hF=>by
 unfold Ap at hl
 have hin:∀ (i:Nat) (x:Link),Ct [] (first++[Aa i,Cs x]++cap)=true:=fun i x=>Dv hc rfl
 conv=>whnf
 refine Ay l.length (fun j=>Dd p l j) (fun j=>[(0,.sl 3 Cs l),(1,.clo (.func f) first cap),(7,.sl 3 Cs l),(8,Aa l.length),(9,Aa j)]) (fun _=>[]) [] (A2 _ _) ⟨⟨E,E,Br _,hc,E,E,E,E,E,E,Y⟩,Y,E,E⟩ ?_
 intro j hj hI
 refine oO ?_
 refine⟨fun h=>?_,fun h=>?_⟩
 ·have h:=of_decide_eq_true h
  have hj2:j<l.length:=by omega
  refine oO ?_
  refine⟨E,by omega,by omega,?_⟩
  conv=>whnf
  refine Ef (hf j hj2) E E E (by simp only[hin];rfl) E E ?_
  refine oO ?_
  refine⟨fun h2=>?_,fun h2=>?_⟩
  ·refine oO ?_
   refine Aq E (.cons .tmp .nil) (congrArg Ab ?_) E
   exact Bf hj2 (by simpa using h2)
  ·refine oO ?_
   refine iW ?_
   exact Av [] hI hj2 (A1 hI hj2 (by simpa using h2)) ⟨⟨E,E,Br _,hc,E,E,E,E,E,E,Y⟩,Y,E,E⟩
 ·have h:=of_decide_eq_false h
  refine oO ?_
  refine Aq E (.cons .tmp .nil) (congrArg Ab ?_) E
  exact Cf hI qn
theorem Xv (l:List Domain) (p:Nat→Domain→Bool) (f:FuncId) (first cap:List SV) (hc:(SV.clo (.func f) first cap).inn []=true) (hf:∀ i (h:i<l.length),J4 Tryz.prog f (first++[Aa i,Aw l[i]]++cap) (Ab (p i l[i]))) (hl:Ap l) :
  Sy.Spec Tryz.prog 72 [.sl 6 Aw l,.clo (.func f) first cap] [] (Ab (Dg p l)) []:=cT F72 Tryz.ntmps72 fun F hF=>by
 unfold Ap at hl
 have hin:∀ (i:Nat) (x:Domain),Ct [] (first++[Aa i,Aw x]++cap)=true:=fun i x=>Dv hc rfl
 conv=>whnf
 refine Ay l.length (fun j=>Dd p l j) (fun j=>[(0,.sl 6 Aw l),(1,.clo (.func f) first cap),(7,.sl 6 Aw l),(8,Aa l.length),(9,Aa j)]) (fun _=>[]) [] (A2 _ _) ⟨⟨E,E,Br _,hc,E,E,E,E,E,E,Y⟩,Y,E,E⟩ ?_
 intro j hj hI
 refine oO ?_
 refine⟨fun h=>?_,fun h=>?_⟩
 ·have h:=of_decide_eq_true h
  have hj2:j<l.length:=by omega
  refine oO ?_
  refine⟨E,by omega,by omega,?_⟩
  conv=>whnf
  refine Ef (hf j hj2) E E E (by simp only[hin];rfl) E E ?_
  refine oO ?_
  refine⟨fun h2=>?_,fun h2=>?_⟩
  ·refine oO ?_
   refine Aq E (.cons .tmp .nil) (congrArg Ab ?_) E
   exact Bf hj2 (by simpa using h2)
  ·refine oO ?_
   refine iW ?_
   exact Av [] hI hj2 (A1 hI hj2 (by simpa using h2)) ⟨⟨E,E,Br _,hc,E,E,E,E,E,E,Y⟩,Y,E,E⟩
 ·have h:=of_decide_eq_false h
  refine oO ?_
  refine Aq E (.cons .tmp .nil) (congrArg Ab ?_) E
  exact Cf hI qn
theorem Ah5 (l:List Static) (p:Nat→Static→Bool) (f:FuncId) (first cap:List SV) (hc:(SV.clo (.func f) first cap).inn []=true) (hf:∀ i (h:i<l.length),J4 Tryz.prog f (first++[Aa i,Bp l[i]]++cap) (Ab (p i l[i]))) (hl:Ap l) :
  Sy.Spec Tryz.prog 79 [.sl 4 Bp l,.clo (.func f) first cap] [] (Ab (Dg p l)) []:=cT F79 Tryz.ntmps79 fun F hF=>by
 unfold Ap at hl
 have hin:∀ (i:Nat) (x:Static),Ct [] (first++[Aa i,Bp x]++cap)=true:=fun i x=>Dv hc rfl
 conv=>whnf
 refine Ay l.length (fun j=>Dd p l j) (fun j=>[(0,.sl 4 Bp l),(1,.clo (.func f) first cap),(7,.sl 4 Bp l),(8,Aa l.length),(9,Aa j)]) (fun _=>[]) [] (A2 _ _) ⟨⟨E,E,Br _,hc,E,E,E,E,E,E,Y⟩,Y,E,E⟩ ?_
 intro j hj hI
 refine oO ?_
 refine⟨fun h=>?_,fun h=>?_⟩
 ·have h:=of_decide_eq_true h
  have hj2:j<l.length:=by omega
  refine oO ?_
  refine⟨E,by omega,by omega,?_⟩
  conv=>whnf
  refine Ef (hf j hj2) E E E (by simp only[hin];rfl) E E ?_
  refine oO ?_
  refine⟨fun h2=>?_,fun h2=>?_⟩
  ·refine oO ?_
   refine Aq E (.cons .tmp .nil) (congrArg Ab ?_) E
   exact Bf hj2 (by simpa using h2)
  ·refine oO ?_
   refine iW ?_
   exact Av [] hI hj2 (A1 hI hj2 (by simpa using h2)) ⟨⟨E,E,Br _,hc,E,E,E,E,E,E,Y⟩,Y,E,E⟩
 ·have h:=of_decide_eq_false h
  refine oO ?_
  refine Aq E (.cons .tmp .nil) (congrArg Ab ?_) E
  exact Cf hI qn
theorem Ak8 (l:List Flood) (p:Nat→Flood→Bool) (f:FuncId) (first cap:List SV) (hc:(SV.clo (.func f) first cap).inn []=true) (hf:∀ i (h:i<l.length),J4 Tryz.prog f (first++[Aa i,B7 l[i]]++cap) (Ab (p i l[i]))) (hl:Ap l) :
  Sy.Spec Tryz.prog 81 [.sl 4 B7 l,.clo (.func f) first cap] [] (Ab (Dg p l)) []:=cT F81 Tryz.ntmps81 fun F hF=>by
 unfold Ap at hl
 have hin:∀ (i:Nat) (x:Flood),Ct [] (first++[Aa i,B7 x]++cap)=true:=fun i x=>Dv hc rfl
 conv=>whnf
 refine Ay l.length (fun j=>Dd p l j) (fun j=>[(0,.sl 4 B7 l),(1,.clo (.func f) first cap),(7,.sl 4 B7 l),(8,Aa l.length),(9,Aa j)]) (fun _=>[]) [] (A2 _ _) ⟨⟨E,E,Br _,hc,E,E,E,E,E,E,Y⟩,Y,E,E⟩ ?_
 intro j hj hI
 refine oO ?_
 refine⟨fun h=>?_,fun h=>?_⟩
 ·have h:=of_decide_eq_true h
  have hj2:j<l.length:=by omega
  refine oO ?_
  refine⟨E,by omega,by omega,?_⟩
  conv=>whnf
  refine Ef (hf j hj2) E E E (by simp only[hin];rfl) E E ?_
  refine oO ?_
  refine⟨fun h2=>?_,fun h2=>?_⟩
  ·refine oO ?_
   refine Aq E (.cons .tmp .nil) (congrArg Ab ?_) E
   exact Bf hj2 (by simpa using h2)
  ·refine oO ?_
   refine iW ?_
   exact Av [] hI hj2 (A1 hI hj2 (by simpa using h2)) ⟨⟨E,E,Br _,hc,E,E,E,E,E,E,Y⟩,Y,E,E⟩
 ·have h:=of_decide_eq_false h
  refine oO ?_
  refine Aq E (.cons .tmp .nil) (congrArg Ab ?_) E
  exact Cf hI qn
theorem Ar4 (l:List Vrf) (p:Nat→Vrf→Bool) (f:FuncId) (first cap:List SV) (hc:(SV.clo (.func f) first cap).inn []=true) (hf:∀ i (h:i<l.length),J4 Tryz.prog f (first++[Aa i,C4 l[i]]++cap) (Ab (p i l[i]))) (hl:Ap l) :
  Sy.Spec Tryz.prog 84 [.sl 5 C4 l,.clo (.func f) first cap] [] (Ab (Dg p l)) []:=cT F84 Tryz.ntmps84 fun F hF=>by
 unfold Ap at hl
 have hin:∀ (i:Nat) (x:Vrf),Ct [] (first++[Aa i,C4 x]++cap)=true:=fun i x=>Dv hc rfl
 conv=>whnf
 refine Ay l.length (fun j=>Dd p l j) (fun j=>[(0,.sl 5 C4 l),(1,.clo (.func f) first cap),(7,.sl 5 C4 l),(8,Aa l.length),(9,Aa j)]) (fun _=>[]) [] (A2 _ _) ⟨⟨E,E,Br _,hc,E,E,E,E,E,E,Y⟩,Y,E,E⟩ ?_
 intro j hj hI
 refine oO ?_
 refine⟨fun h=>?_,fun h=>?_⟩
 ·have h:=of_decide_eq_true h
  have hj2:j<l.length:=by omega
  refine oO ?_
  refine⟨E,by omega,by omega,?_⟩
  conv=>whnf
  refine Ef (hf j hj2) E E E (by simp only[hin];rfl) E E ?_
  refine oO ?_
  refine⟨fun h2=>?_,fun h2=>?_⟩
  ·refine oO ?_
   refine Aq E (.cons .tmp .nil) (congrArg Ab ?_) E
   exact Bf hj2 (by simpa using h2)
  ·refine oO ?_
   refine iW ?_
   exact Av [] hI hj2 (A1 hI hj2 (by simpa using h2)) ⟨⟨E,E,Br _,hc,E,E,E,E,E,E,Y⟩,Y,E,E⟩
 ·have h:=of_decide_eq_false h
  refine oO ?_
  refine Aq E (.cons .tmp .nil) (congrArg Ab ?_) E
  exact Cf hI qn
theorem Ar5 (l:List Irb) (p:Nat→Irb→Bool) (f:FuncId) (first cap:List SV) (hc:(SV.clo (.func f) first cap).inn []=true) (hf:∀ i (h:i<l.length),J4 Tryz.prog f (first++[Aa i,Dp l[i]]++cap) (Ab (p i l[i]))) (hl:Ap l) :
  Sy.Spec Tryz.prog 87 [.sl 5 Dp l,.clo (.func f) first cap] [] (Ab (Dg p l)) []:=cT F87 Tryz.ntmps87 fun F hF=>by
 unfold Ap at hl
 have hin:∀ (i:Nat) (x:Irb),Ct [] (first++[Aa i,Dp x]++cap)=true:=fun i x=>Dv hc rfl
 conv=>whnf
 refine Ay l.length (fun j=>Dd p l j) (fun j=>[(0,.sl 5 Dp l),(1,.clo (.func f) first cap),(7,.sl 5 Dp l),(8,Aa l.length),(9,Aa j)]) (fun _=>[]) [] (A2 _ _) ⟨⟨E,E,Br _,hc,E,E,E,E,E,E,Y⟩,Y,E,E⟩ ?_
 intro j hj hI
 refine oO ?_
 refine⟨fun h=>?_,fun h=>?_⟩
 ·have h:=of_decide_eq_true h
  have hj2:j<l.length:=by omega
  refine oO ?_
  refine⟨E,by omega,by omega,?_⟩
  conv=>whnf
  refine Ef (hf j hj2) E E E (by simp only[hin];rfl) E E ?_
  refine oO ?_
  refine⟨fun h2=>?_,fun h2=>?_⟩
  ·refine oO ?_
   refine Aq E (.cons .tmp .nil) (congrArg Ab ?_) E
   exact Bf hj2 (by simpa using h2)
  ·refine oO ?_
   refine iW ?_
   exact Av [] hI hj2 (A1 hI hj2 (by simpa using h2)) ⟨⟨E,E,Br _,hc,E,E,E,E,E,E,Y⟩,Y,E,E⟩
 ·have h:=of_decide_eq_false h
  refine oO ?_
  refine Aq E (.cons .tmp .nil) (congrArg Ab ?_) E
  exact Cf hI qn
theorem Ar3 (l:List Int) (p:Nat→Int→Bool) (f:FuncId) (first cap:List SV) (hc:(SV.clo (.func f) first cap).inn []=true) (hf:∀ i (h:i<l.length),J4 Tryz.prog f (first++[Aa i,Aa l[i]]++cap) (Ab (p i l[i]))) (hl:Ap l) :
  Sy.Spec Tryz.prog 139 [.sl 1 Aa l,.clo (.func f) first cap] [] (Ab (Dg p l)) []:=cT F139 Tryz.ntmps139 fun F hF=>by
 unfold Ap at hl
 have hin:∀ (i:Nat) (x:Int),Ct [] (first++[Aa i,Aa x]++cap)=true:=fun i x=>Dv hc rfl
 conv=>whnf
 refine Ay l.length (fun j=>Dd p l j) (fun j=>[(0,.sl 1 Aa l),(1,.clo (.func f) first cap),(7,.sl 1 Aa l),(8,Aa l.length),(9,Aa j)]) (fun _=>[]) [] (A2 _ _) ⟨⟨E,E,Br _,hc,E,E,E,E,E,E,Y⟩,Y,E,E⟩ ?_
 intro j hj hI
 refine oO ?_
 refine⟨fun h=>?_,fun h=>?_⟩
 ·have h:=of_decide_eq_true h
  have hj2:j<l.length:=by omega
  refine oO ?_
  refine⟨E,by omega,by omega,?_⟩
  conv=>whnf
  refine Ef (hf j hj2) E E E (by simp only[hin];rfl) E E ?_
  refine oO ?_
  refine⟨fun h2=>?_,fun h2=>?_⟩
  ·refine oO ?_
   refine Aq E (.cons .tmp .nil) (congrArg Ab ?_) E
   exact Bf hj2 (by simpa using h2)
  ·refine oO ?_
   refine iW ?_
   exact Av [] hI hj2 (A1 hI hj2 (by simpa using h2)) ⟨⟨E,E,Br _,hc,E,E,E,E,E,E,Y⟩,Y,E,E⟩
 ·have h:=of_decide_eq_false h
  refine oO ?_
  refine Aq E (.cons .tmp .nil) (congrArg Ab ?_) E
  exact Cf hI qn
structure Net.Fin (n:Net):Prop where
 devices:Ap n.devices
 ports:Ap n.ports
 links:Ap n.links
 domains:Ap n.domains
 statics:Ap n.statics
 floods:Ap n.floods
 vrfs:Ap n.vrfs
 irbs:Ap n.irbs
 tagged:∀ p∈n.ports,Ap p.tagged
 peers:∀ d∈n.domains,Ap d.peers
 addrs:∀ f∈n.floods,Ap f.addrs
 imports:∀ v∈n.vrfs,Ap v.imports
 exports:∀ v∈n.vrfs,Ap v.exports
def Aa0 (n:Net) (dev vlan:Int):Int:=Dq (fun d=>d.dev == dev && d.vlan == vlan) n.domains
theorem Atk (dev vlan:Int) (d:Domain):Sy.Spec Tryz.prog 202 [Aw d,.ref 1 (Aa dev) 0,.ref 1 (Aa vlan) 0] [] (Ab (d.dev == dev && d.vlan == vlan)) []:=cT F202 Tryz.ntmps202 fun F hF=>by
 conv=>whnf
 (repeat' (first | (refine⟨fun h=>?_,fun h=>?_⟩<;>(repeat (first | simp only[beq_iff_eq]at h | simp only[beq_eq_false_iff_ne]at h))<;>((refine oO ?_))) | (refine Aq rfl (.cons .tmp .nil) ?_ rfl)))
 all_goals (refine congrArg Ab ?_)
 all_goals simp_all
theorem M7 (n:Net) (dev vlan:Int) (hl:Ap n.domains):Sy.Spec Tryz.prog 138 [Aj n,Aa dev,Aa vlan] [] (Aa (Aa0 n dev vlan)) []:=cT F138 Tryz.ntmps138 fun F hF=>by
 conv=>whnf
 refine A3 4 1 (Aa dev) E E E ?_
 refine A3 5 1 (Aa vlan) E E E ?_
 refine c0 (Iv n.domains (fun d=>d.dev == dev && d.vlan == vlan) 202 [] [.ref 1 (Aa dev) 0,.ref 1 (Aa vlan) 0] E (fun d _=>⟨⟨_,_,F202⟩,Atk dev vlan d⟩) hl) F201 ?_
 refine oO ?_
 exact dN
def Akm (n:Net):Bool:=decide (n.devices.length≤8) && decide (n.ports.length≤40) && decide (n.links.length≤20) && decide (n.domains.length≤48) && decide (n.statics.length≤64) && decide (n.floods.length≤48) && decide (n.vrfs.length≤16) && decide (n.irbs.length≤48)
theorem fewS (n:Net):Sy.Spec Tryz.prog 71 [Aj n] [] (Ab (Akm n)) []:=cT F71 Tryz.ntmps71 fun F hF=>by
 conv=>whnf
 (repeat' (first | (refine⟨fun h=>?_,fun h=>?_⟩<;>(repeat (first | simp only[decide_eq_true_eq]at h | simp only[decide_eq_false_iff_not]at h))<;>((refine oO ?_);repeat((refine aF ?_);(refine oO ?_)))) | (refine Aq rfl (.cons .tmp .nil) ?_ rfl)))
 all_goals (refine congrArg Ab ?_)
 all_goals (unfold Akm;rw[Bool.eq_iff_iff];simp;omega)
def I1 (n:Net) (i:Nat) (d:Domain):Bool :=
 Ai d.dev n.devices.length && decide (1≤d.vlan) && decide (d.vlan≤4094) && decide (0≤d.vni) && decide (d.vni≤16777215) && (d.irb == -1 || Ai d.irb n.irbs.length && (nth n.irbs d.irb).domain == i) && Aa0 n d.dev d.vlan == i
theorem bareS (n:Net) (i:Nat) (d:Domain) (hl:Ap n.domains):Sy.Spec Tryz.prog 73 [Aj n,Aa i,Aw d] [] (Ab (I1 n i d)) []:=cT F73 Tryz.ntmps73 fun F hF=>by
 conv=>whnf
 (repeat' (first | (refine⟨fun h=>?_,fun h=>?_⟩<;>(repeat (first | simp only[Ai]at h | simp only[decide_eq_true_eq]at h | simp only[decide_eq_false_iff_not]at h | simp only[beq_iff_eq]at h | simp only[beq_eq_false_iff_ne]at h | simp only[Bool.and_eq_true]at h | simp only[Bool.and_eq_false_iff]at h))<;>((refine oO ?_);repeat((first|refine aF ?_|refine aT ?_);(refine oO ?_)))) | (refine Aq rfl (.cons .tmp .nil) ?_ rfl) | (refine⟨qq,?_⟩;((conv=>whnf))) | (refine⟨by (omega),by (omega),?_⟩;((conv=>whnf))) | (refine c0 (Hs 5 Bs n.devices d.dev) F83 ?_;((refine oO ?_))) | (refine c0 (Aje 5 Dp n.irbs d.irb) F137 ?_;((refine oO ?_))) | (refine c0 (M7 n d.dev d.vlan hl) F138 ?_;((refine oO ?_)))))
 all_goals (refine congrArg Ab ?_)
 all_goals (clear hF;grind [I1,Ai,Ak])
def Afc (n:Net) (d:Domain):Bool:=(nth n.devices d.dev).vtep != 0
theorem At2 (n:Net) (d:Domain) (hd:Ai d.dev n.devices.length=true):Sy.Spec Tryz.prog 203 [Aj n,Aw d] [] (Ab (Afc n d)) []:=cT F203 Tryz.ntmps203 fun F hF=>by
 simp only[Ai,Bool.and_eq_true,decide_eq_true_eq]at hd
 conv=>whnf
 (repeat' (first | (refine Aq rfl (.cons .tmp .nil) ?_ rfl) | (refine⟨qq,?_⟩;((conv=>whnf))) | (refine⟨by (omega),by (omega),?_⟩;((conv=>whnf)))))
 all_goals (refine congrArg Ab ?_)
 all_goals (clear hF;grind [Afc,Ak])
def Qc (n:Net) (i:Nat) (d:Domain) (k:Int):Bool :=
 Ai k n.domains.length && k != i && Ai (nth n.domains k).dev n.devices.length && (nth n.domains k).dev != d.dev && (nth n.domains k).vni == d.vni && d.vni != 0 && Afc n (nth n.domains k) && Afc n d && inB (nth n.domains k).peers i
theorem peerS (n:Net) (i:Nat) (d:Domain) (k:Int) (hn:n.Fin) (hd:Ai d.dev n.devices.length=true):Sy.Spec Tryz.prog 141 [Aj n,Aa i,Aw d,Aa k] [] (Ab (Qc n i d k)) []:=cT F141 Tryz.ntmps141 fun F hF=>by
 conv=>whnf
 (repeat' (first | (refine⟨fun h=>?_,fun h=>?_⟩<;>(repeat (first | simp only[Ai]at h | simp only[decide_eq_true_eq]at h | simp only[decide_eq_false_iff_not]at h | simp only[beq_iff_eq]at h | simp only[beq_eq_false_iff_ne]at h | simp only[bne_iff_ne]at h | simp only[bne_eq_false_iff_eq]at h | simp only[Bool.and_eq_true]at h | simp only[Bool.and_eq_false_iff]at h | simp only[Bool.not_eq_true']at h | simp only[Bool.not_eq_false']at h))<;>((refine oO ?_);repeat((first|refine aF ?_|refine aT ?_);(refine oO ?_)))) | (refine Aq rfl (.cons .tmp .nil) ?_ rfl) | (refine⟨qq,?_⟩;((conv=>whnf))) | (refine⟨by (omega),by (omega),?_⟩;((conv=>whnf))) | (refine c0 (Jf 6 Aw n.domains k) F92 ?_;((refine oO ?_))) | (refine c0 (Hs 5 Bs n.devices (n.domains[k.toNat]'qn).dev) F83 ?_;((refine oO ?_))) | (refine c0 (At2 n (n.domains[k.toNat]'qn) (by simp only[Ai,Bool.and_eq_true,decide_eq_true_eq];omega)) F203 ?_;((refine oO ?_))) | (refine c0 (At2 n d hd) F203 ?_;((refine oO ?_))) | (refine c0 (Ee (n.domains[k.toNat]'qn).peers i (hn.peers _ (List.getElem_mem _))) F25 ?_;((refine oO ?_)))))
 all_goals (refine congrArg Ab ?_;clear hF;grind [Qc,Ai,Ak])
def Qb (n:Net) (i:Nat) (d:Domain):Bool:=Dg (fun at_ k=>Qc n i d k && Dq (· == k) d.peers == at_) d.peers
theorem peers1 (n:Net) (i:Nat) (d:Domain) (at_:Nat) (k:Int) (hn:n.Fin) (hp:Ap d.peers) (hd:Ai d.dev n.devices.length=true) :
  Sy.Spec Tryz.prog 140 [Aa at_,Aa k,.ref 8 (Aj n) 0,.ref 1 (Aa i) 0,.ref 6 (Aw d) 0] [] (Ab (Qc n i d k && Dq (· == k) d.peers == at_)) []:=cT F140 Tryz.ntmps140 fun F hF=>by
 conv=>whnf
 (repeat' (first | (refine⟨fun h=>?_,fun h=>?_⟩<;>((refine oO ?_))) | (refine Aq rfl (.cons .tmp .nil) ?_ rfl) | (refine c0 (peerS n i d k hn hd) F141 ?_;((refine oO ?_))) | (refine c0 (Aq0 d.peers k hp) F91 ?_;((refine oO ?_)))))
 all_goals (refine congrArg Ab ?_;clear hF;grind)
theorem peersS (n:Net) (i:Nat) (d:Domain) (hn:n.Fin) (hp:Ap d.peers) (hd:Ai d.dev n.devices.length=true):Sy.Spec Tryz.prog 74 [Aj n,Aa i,Aw d] [] (Ab (Qb n i d)) []:=cT F74 Tryz.ntmps74 fun F hF=>by
 conv=>whnf
 refine A3 3 8 (Aj n) E E E ?_
 refine A3 4 1 (Aa i) E E E ?_
 refine A3 5 6 (Aw d) E E E ?_
 refine c0 (Ar3 d.peers (fun at_ k=>Qc n i d k && Dq (· == k) d.peers == at_) 140 [] [.ref 8 (Aj n) 0,.ref 1 (Aa i) 0,.ref 6 (Aw d) 0] E (fun a ha=>⟨⟨_,_,F140⟩,peers1 n i d a d.peers[a] hn hp hd⟩) hp) F139 ?_
 refine oO ?_
 exact dN
def Cn (n:Net) (dev vlan:Int):Bool:=decide (0≤Aa0 n dev vlan)
def D9 (n:Net) (i:Nat) (p:Port):Bool :=
 Ai p.dev n.devices.length && decide (0≤p.native) && decide (p.native≤4094) && (decide (p.tagged.length=0) || C8 p.tagged 1 4094) && !inB p.tagged p.native && !(p.native == 0 && decide (p.tagged.length=0)) &&
  Dg (fun _ v=>Cn n p.dev v) p.tagged && !(decide (0<p.native) && !Cn n p.dev p.native) &&
  (p.link == -1 || Ai p.link n.links.length && ((nth n.links p.link).a == i || (nth n.links p.link).b == i))
theorem Aj5 (n:Net) (i:Nat) (p:Port) (hn:n.Fin) (hp:Ap p.tagged):Sy.Spec Tryz.prog 76 [Aj n,Aa i,Bh p] [] (Ab (D9 n i p)) []:=cT F76 Tryz.ntmps76 fun F hF=>by
 conv=>whnf
 (repeat' (first | (refine⟨fun h=>?_,fun h=>?_⟩<;>(repeat (first | simp only[Ai]at h | simp only[decide_eq_true_eq]at h | simp only[decide_eq_false_iff_not]at h | simp only[beq_iff_eq]at h | simp only[beq_eq_false_iff_ne]at h | simp only[Bool.and_eq_true]at h | simp only[Bool.or_eq_true]at h | simp only[Bool.and_eq_false_iff]at h | simp only[Bool.or_eq_false_iff]at h | simp only[Bool.not_eq_true']at h | simp only[Bool.not_eq_false']at h))<;>((refine oO ?_);repeat((first|refine aF ?_|refine aT ?_);(refine oO ?_)))) | (refine Aq rfl (.cons .tmp .nil) ?_ rfl) | (refine c0 (Hs 5 Bs n.devices p.dev) F83 ?_;((refine oO ?_))) | (refine c0 (Ady p.tagged 4094 hp) F86 ?_;((refine oO ?_))) | (refine c0 (Ee p.tagged p.native hp) F25 ?_;((refine oO ?_)))))
 all_goals first | (refine congrArg Ab ?_;clear hF;grind [D9,Ai]) | skip
 all_goals (
  refine A3 3 8 (Aj n) E E E ?_
  refine A3 5 7 (Bh p) E E E ?_
  refine Ay p.tagged.length (fun j=>Dd (fun _ v=>Cn n p.dev v) p.tagged j) (fun j=>[(1,Aa i),(3,.ref 8 (Aj n) 0),(5,.ref 7 (Bh p) 0),(51,.sl 1 Aa p.tagged),(52,Aa p.tagged.length),(53,Aa j)]) (fun _=>[]) [] (A2 _ _) ⟨⟨E,E,E,E,E,E,E,E,E,E,E,E,Y⟩,Y,E,E⟩ ?_
  intro j hj hI
  have hsh:=hp
  unfold Ap at hsh
  ((first|refine rG Γ hm ?_|refine rD Γ hm qq ?_);(conv=>whnf);repeat((first|refine aF ?_|refine aT ?_);(first|refine rG Γ hm ?_|refine rD Γ hm qq ?_);conv=>whnf)))
 all_goals (
  (repeat' (first | (refine⟨fun h=>?_,fun h=>?_⟩<;>(repeat (first | simp only[Ai]at h | simp only[decide_eq_true_eq]at h | simp only[decide_eq_false_iff_not]at h | simp only[beq_iff_eq]at h | simp only[beq_eq_false_iff_ne]at h | simp only[Bool.and_eq_true]at h | simp only[Bool.and_eq_false_iff]at h))<;>((refine oO ?_);repeat((refine aF ?_);(refine oO ?_)))) | (refine Aq rfl (.cons .tmp .nil) ?_ rfl) | (refine⟨qq,?_⟩;((conv=>whnf))) | (refine⟨by (omega),by (omega),?_⟩;((conv=>whnf))) | (refine⟨by (unfold I64;omega),?_⟩;((conv=>whnf))) | (refine c0 (M7 n p.dev (p.tagged[j]'qn) hn.domains) F138 ?_;((refine oO ?_))) | (refine c0 (M7 n p.dev p.native hn.domains) F138 ?_;((refine oO ?_))) | (refine c0 (Agl 3 Cs n.links p.link) F142 ?_;((refine oO ?_))) | refine Av [] hI qn ?_ ⟨⟨rfl,rfl,rfl,rfl,rfl,rfl,rfl,rfl,rfl,rfl,rfl,rfl,trivial⟩,trivial,rfl,rfl⟩)))
 all_goals first
  | exact A1 hI qn (by simp only[Cn,decide_eq_true_eq];omega)
  | (refine congrArg Ab ?_
     have h0:Dg (fun _ v=>Cn n p.dev v) p.tagged=false:=Bf (i:=j) qn (by simp only[Cn,decide_eq_false_iff_not];omega)
     clear hF hI;grind [D9])
  | (refine congrArg Ab ?_
     have h0:Dg (fun _ v=>Cn n p.dev v) p.tagged=true:=Cf hI qn
     clear hF hI;grind [D9,Ai,Cn,Ak])
def K1 (n:Net) (i:Nat) (l:Link):Bool :=
 Ai l.a n.ports.length && Ai l.b n.ports.length && (nth n.ports l.a).dev != (nth n.ports l.b).dev && (nth n.ports l.a).link == i && (nth n.ports l.b).link == i
theorem Aj6 (n:Net) (i:Nat) (l:Link):Sy.Spec Tryz.prog 78 [Aj n,Aa i,Cs l] [] (Ab (K1 n i l)) []:=cT F78 Tryz.ntmps78 fun F hF=>by
 conv=>whnf
 (repeat' (first | (refine⟨fun h=>?_,fun h=>?_⟩<;>(repeat (first | simp only[Ai]at h | simp only[decide_eq_true_eq]at h | simp only[decide_eq_false_iff_not]at h | simp only[beq_iff_eq]at h | simp only[beq_eq_false_iff_ne]at h | simp only[bne_iff_ne]at h | simp only[bne_eq_false_iff_eq]at h | simp only[Bool.and_eq_true]at h | simp only[Bool.and_eq_false_iff]at h | simp only[Bool.not_eq_true']at h | simp only[Bool.not_eq_false']at h))<;>((refine oO ?_);repeat((first|refine aF ?_|refine aT ?_);(refine oO ?_)))) | (refine Aq rfl (.cons .tmp .nil) ?_ rfl) | (refine⟨qq,?_⟩;((conv=>whnf))) | (refine⟨by (omega),by (omega),?_⟩;((conv=>whnf))) | (refine c0 (O9 7 Bh n.ports l.a) F143 ?_;((refine oO ?_))) | (refine c0 (O9 7 Bh n.ports l.b) F143 ?_;((refine oO ?_)))))
 all_goals (refine congrArg Ab ?_;clear hF;grind [K1,Ai,Ak])
def Hw (n:Net) (s:Static):Bool :=
 Ai s.domain n.domains.length && Ai s.port n.ports.length && (nth n.ports s.port).dev == (nth n.domains s.domain).dev && Iu (nth n.ports s.port) (nth n.domains s.domain).vlan
theorem Aen (n:Net) (i:Nat) (s:Static) (hn:n.Fin):Sy.Spec Tryz.prog 80 [Aj n,Aa i,Bp s] [] (Ab (Hw n s)) []:=cT F80 Tryz.ntmps80 fun F hF=>by
 conv=>whnf
 (repeat' (first | (refine⟨fun h=>?_,fun h=>?_⟩<;>(repeat (first | simp only[Ai]at h | simp only[decide_eq_true_eq]at h | simp only[decide_eq_false_iff_not]at h | simp only[beq_iff_eq]at h | simp only[beq_eq_false_iff_ne]at h | simp only[Bool.and_eq_true]at h | simp only[Bool.and_eq_false_iff]at h | simp only[Bool.not_eq_true']at h | simp only[Bool.not_eq_false']at h))<;>((refine oO ?_);repeat((refine aT ?_);(refine oO ?_)))) | (refine Aq rfl (.cons .tmp .nil) ?_ rfl) | (refine⟨qq,?_⟩;((conv=>whnf))) | (refine⟨by (omega),by (omega),?_⟩;((conv=>whnf))) | (refine c0 (Jf 6 Aw n.domains s.domain) F92 ?_;((refine oO ?_))) | (refine c0 (O9 7 Bh n.ports s.port) F143 ?_;((refine oO ?_))) | (refine c0 (Aeh (n.ports[s.port.toNat]'qn) (n.domains[s.domain.toNat]'qn).vlan (hn.tagged _ (List.getElem_mem _))) F93 ?_;((refine oO ?_)))))
 all_goals (refine congrArg Ab ?_;clear hF;grind [Hw,Ai,Ak])
def Wm (n:Net) (i:Nat) (x:Irb):Bool :=
 Ai x.domain n.domains.length && Ai x.vrf n.vrfs.length && (nth n.domains x.domain).dev == (nth n.vrfs x.vrf).dev && (nth n.domains x.domain).irb == i && decide (1≤x.bits) && decide (x.bits≤30)
theorem An1 (n:Net) (i:Nat) (x:Irb):Sy.Spec Tryz.prog 88 [Aj n,Aa i,Dp x] [] (Ab (Wm n i x)) []:=cT F88 Tryz.ntmps88 fun F hF=>by
 conv=>whnf
 (repeat' (first | (refine⟨fun h=>?_,fun h=>?_⟩<;>(repeat (first | simp only[Ai]at h | simp only[decide_eq_true_eq]at h | simp only[decide_eq_false_iff_not]at h | simp only[beq_iff_eq]at h | simp only[beq_eq_false_iff_ne]at h | simp only[Bool.and_eq_true]at h | simp only[Bool.and_eq_false_iff]at h))<;>((refine rd qq ?_);(conv=>whnf);repeat((refine aF ?_);(refine rd qq ?_);(conv=>whnf)))) | (refine Aq rfl (.cons .tmp .nil) ?_ rfl) | (refine⟨qq,?_⟩;((conv=>whnf))) | (refine⟨by (omega),by (omega),?_⟩;((conv=>whnf))) | (refine cD (Jf 6 Aw n.domains x.domain) F92 ?_;((refine rd qq ?_);(conv=>whnf))) | (refine cD (Ajd 5 C4 n.vrfs x.vrf) F145 ?_;((refine rd qq ?_);(conv=>whnf)))))
 all_goals (refine congrArg Ab ?_;clear hF;grind [Wm,Ai,Ak])
def Lz (n:Net) (f:Flood):Bool:=Ai f.dev n.devices.length && decide (f.addrs.length≤16)
theorem right1 (n:Net) (i:Nat) (f:Flood):Sy.Spec Tryz.prog 82 [Aa i,B7 f,.ref 8 (Aj n) 0] [] (Ab (Lz n f)) []:=cT F82 Tryz.ntmps82 fun F hF=>by
 conv=>whnf
 (repeat' (first | (refine⟨fun h=>?_,fun h=>?_⟩<;>(repeat (first | simp only[Ai]at h | simp only[decide_eq_true_eq]at h | simp only[decide_eq_false_iff_not]at h | simp only[Bool.and_eq_true]at h | simp only[Bool.and_eq_false_iff]at h))<;>((refine oO ?_))) | (refine Aq rfl (.cons .tmp .nil) ?_ rfl) | (refine c0 (Hs 5 Bs n.devices f.dev) F83 ?_;((refine oO ?_)))))
 all_goals (refine congrArg Ab ?_;clear hF;grind [Lz,Ai])
def Af5 (l:List Int) (most:Int):Bool:=decide (l.length=0) || C8 l 1 most
def Abb (n:Net) (v:Vrf):Bool:=Ai v.dev n.devices.length && Af5 v.imports 65535 && Af5 v.exports 65535
theorem right2 (n:Net) (i:Nat) (v:Vrf) (h1:Ap v.imports) (h2:Ap v.exports):Sy.Spec Tryz.prog 85 [Aa i,C4 v,.ref 8 (Aj n) 0] [] (Ab (Abb n v)) []:=cT F85 Tryz.ntmps85 fun F hF=>by
 conv=>whnf
 (repeat' (first | (refine⟨fun h=>?_,fun h=>?_⟩<;>(repeat (first | simp only[Ai]at h | simp only[decide_eq_true_eq]at h | simp only[decide_eq_false_iff_not]at h | simp only[Bool.and_eq_true]at h | simp only[Bool.or_eq_true]at h | simp only[Bool.and_eq_false_iff]at h | simp only[Bool.or_eq_false_iff]at h))<;>((refine oO ?_);repeat((refine aF ?_);(refine oO ?_)))) | (refine Aq rfl (.cons .tmp .nil) ?_ rfl) | (refine c0 (Hs 5 Bs n.devices v.dev) F83 ?_;((refine oO ?_))) | (refine c0 (Ady v.imports 65535 h1) F86 ?_;((refine oO ?_))) | (refine c0 (Ady v.exports 65535 h2) F86 ?_;((refine oO ?_)))))
 all_goals (refine congrArg Ab ?_;clear hF;grind [Abb,Af5,Ai])
def Ae (n:Net):Bool :=
 Akm n && Dg (I1 n) n.domains && Dg (Qb n) n.domains && Dg (D9 n) n.ports && Dg (K1 n) n.links && Dg (fun _=>Hw n) n.statics && Dg (fun _=>Lz n) n.floods && Dg (fun _=>Abb n) n.vrfs && Dg (Wm n) n.irbs
theorem Mp {n:Net} (h:Dg (I1 n) n.domains=true) {i:Nat} (hi:i<n.domains.length):Ai n.domains[i].dev n.devices.length=true:=by
 have:=allB_iff.1 h i hi
 simp only[I1,Bool.and_eq_true]at this
 exact this.1.1.1.1.1.1
theorem B0 (n:Net) (hn:n.Fin):Sy.Spec Tryz.prog 23 [Aj n] [] (Ab (Ae n)) []:=cT F23 Tryz.ntmps23 fun F hF=>by
 conv=>whnf
 refine A3 1 8 (Aj n) E E E ?_
 (repeat' (first | (refine⟨fun h=>?_,fun h=>?_⟩<;>((refine oO ?_);repeat((refine aF ?_);(refine oO ?_)))) | (refine Aq rfl (.cons .tmp .nil) ?_ rfl) | (refine c0 (fewS n) F71 ?_;((refine oO ?_))) | (refine c0 (Xv n.domains (I1 n) 73 [Aj n] [] rfl (fun i h=>⟨⟨_,_,F73⟩,bareS n i n.domains[i] hn.domains⟩) hn.domains) F72 ?_;((refine oO ?_))) | (refine Vx (Xv n.domains (Qb n) 74 [Aj n] [] rfl (fun i h=>⟨⟨_,_,F74⟩,peersS n i n.domains[i] hn (hn.peers _ (List.getElem_mem _)) (Mp ‹_› h)⟩) hn.domains) F72 rfl rfl rfl rfl rfl ?_;((refine oO ?_))) | (refine Vx (Aos n.ports (D9 n) 76 [Aj n] [] rfl (fun i h=>⟨⟨_,_,F76⟩,Aj5 n i n.ports[i] hn (hn.tagged _ (List.getElem_mem _))⟩) hn.ports) F75 rfl rfl rfl rfl rfl ?_;((refine oO ?_))) | (refine c0 (Aot n.links (K1 n) 78 [Aj n] [] rfl (fun i h=>⟨⟨_,_,F78⟩,Aj6 n i n.links[i]⟩) hn.links) F77 ?_;((refine oO ?_))) | (refine c0 (Ah5 n.statics (fun _=>Hw n) 80 [Aj n] [] rfl (fun i h=>⟨⟨_,_,F80⟩,Aen n i n.statics[i] hn⟩) hn.statics) F79 ?_;((refine oO ?_))) | (refine c0 (Ak8 n.floods (fun _=>Lz n) 82 [] [.ref 8 (Aj n) 0] rfl (fun i h=>⟨⟨_,_,F82⟩,right1 n i n.floods[i]⟩) hn.floods) F81 ?_;((refine oO ?_))) | (refine Vx (Ar4 n.vrfs (fun _=>Abb n) 85 [] [.ref 8 (Aj n) 0] rfl (fun i h=>⟨⟨_,_,F85⟩,right2 n i n.vrfs[i] (hn.imports _ (List.getElem_mem _)) (hn.exports _ (List.getElem_mem _))⟩) hn.vrfs) F84 rfl rfl rfl rfl rfl ?_;((refine oO ?_))) | (refine c0 (Ar5 n.irbs (Wm n) 88 [Aj n] [] rfl (fun i h=>⟨⟨_,_,F88⟩,An1 n i n.irbs[i]⟩) hn.irbs) F87 ?_;((refine oO ?_)))))
 all_goals (refine congrArg Ab ?_)
 all_goals (clear hF;simp_all[Ae])
theorem Akp {n:Net} (h:Ae n=true) {i:Nat} (hi:i<n.ports.length):D9 n i n.ports[i]=true:=by
 simp only[Ae,Bool.and_eq_true]at h
 exact allB_iff.1 h.1.1.1.1.1.2 i hi
theorem e_dom {n:Net} (h:Ae n=true) {i:Nat} (hi:i<n.domains.length):I1 n i n.domains[i]=true:=by
 simp only[Ae,Bool.and_eq_true]at h
 exact allB_iff.1 h.1.1.1.1.1.1.1.2 i hi
theorem Aht {n:Net} (h:Ae n=true) {i:Nat} (hi:i<n.domains.length) :
  (0≤n.domains[i].dev∧n.domains[i].dev.toNat<n.devices.length)∧(1≤n.domains[i].vlan∧n.domains[i].vlan≤4094)∧(0≤n.domains[i].vni∧n.domains[i].vni≤16777215)∧(n.domains[i].irb=-1∨0≤n.domains[i].irb∧n.domains[i].irb.toNat<n.irbs.length):=by
 have:=e_dom h hi
 simp only[I1,Ai,Bool.and_eq_true,Bool.or_eq_true,decide_eq_true_eq,beq_iff_eq]at this
 omega
def Ez (p:Nat→Bool) (j:Nat):List Int:=((List.range j).filter p).map Int.ofNat
theorem Od (p:Nat→Bool) (j:Nat):Ez p (j+1)=if p j=true then Ez p j++[(j:Int)] else Ez p j:=by
 rw[Ez,List.range_succ,List.filter_append,List.map_append]
 split
 ·rename_i h
  rw[List.filter_cons_of_pos (by exact h),List.filter_nil];rfl
 ·rename_i h
  rw[List.filter_cons_of_neg (by exact h),List.filter_nil,List.map_nil,List.append_nil];rfl
theorem Ev (p:Nat→Bool) (j:Nat):(Ez p j).length≤j:=by
 have:=List.length_filter_le p (List.range j)
 simpa [Ez] using this
theorem filtI_mem {p:Nat→Bool} {j:Nat} {x:Int}:x∈Ez p j↔0≤x∧x<j∧p x.toNat=true:=by
 simp only[Ez,List.mem_map,List.mem_filter,List.mem_range]
 constructor
 ·rintro ⟨i,h1,rfl⟩
  exact⟨Int.natCast_nonneg i,by simp;omega,h1.2⟩
 ·rintro ⟨h1,h2,h3⟩
  exact⟨x.toNat,⟨by omega,h3⟩,Int.toNat_of_nonneg h1⟩
def Jt (n:Net) (d:Domain) (i:Nat):Bool:=(nth n.ports i).dev == d.dev && Iu (nth n.ports i) d.vlan
def Ax (n:Net) (i:Int):List Int:=Ez (Jt n (nth n.domains i)) n.ports.length
def Ci (n:Net) (i:Int):List Int:=if (0≤i∧i<n.domains.length)∧Ae n=true then Ax n i else []
theorem It (n:Net) (hn:n.Fin) (i:Int):Ap (Ci n i):=by
 have:=hn.ports
 unfold Ap at this ⊢
 unfold Ci
 split
 ·have:=Ev (Jt n (nth n.domains i)) n.ports.length
  unfold Ax
  omega
 ·simp
theorem Abm (n:Net) (hn:n.Fin) (i:Int):Sy.Spec Tryz.prog 26 [Aj n,Aa i] [] (.sl 1 Aa (Ci n i)) []:=cT F26 Tryz.ntmps26 fun F hF=>by
 have hr:=B0 n hn
 have hpl:=Jf 6 Aw n.domains i
 have hsp:=hn.ports
 unfold Ap at hsp
 conv=>whnf
 refine c0 hr F23 ?_
 cases hb:Ae n
 ·rw[Ci,if_neg (by simp[hb])]
  (refine oT ?_;refine bT ?_)
  refine Am 4 1 Aa E ?_
  refine oO ?_
  exact dN
 refine oF ?_
 refine c0 hpl F92 ?_
 by_cases hi:0≤i∧i<n.domains.length
 rotate_left
 ·have h0:Ai i n.domains.length=false:=by simp only[Ai,Bool.and_eq_false_iff,decide_eq_false_iff_not];omega
  rw[Ci,if_neg (by simp[hb,hi]),h0]
  refine oT ?_
  refine Am 4 1 Aa E ?_
  refine oO ?_
  exact dN
 have h0:Ai i n.domains.length=true:=by simp only[Ai,Bool.and_eq_true,decide_eq_true_eq];exact hi
 rw[Ci,if_pos ⟨hi,hb⟩,h0]
 have hk:i.toNat<n.domains.length:=by omega
 have hf:=Aht hb hk
 have e1:nth n.domains i=n.domains[i.toNat]:=Ak hk
 rw[Ax,e1]
 obtain ⟨d,hd⟩:∃ d,n.domains[i.toNat]=d:=⟨_,rfl⟩
 rw[hd]at hf ⊢
 refine A3 2 8 (Aj n) E E E ?_
 refine oF ?_
 refine Bm 5 1000 1 Aa E E ?_
 refine At n.ports.length (fun j=>[(1,Aa i),(2,.ref 8 (Aj n) 0),(5,.osl 1000),(19,.sl 7 Bh n.ports),(20,Aa n.ports.length),(21,Aa j)]) (fun j=>[(1000,.row 1 Aa (Ez (Jt n d) j))]) []
  ⟨⟨rfl,rfl,rfl,rfl,rfl,rfl,rfl,rfl,rfl,rfl,rfl,rfl,trivial⟩,⟨.inl rfl,rfl,trivial⟩,rfl,rfl⟩ ?_
 intro j hj
 refine oO ?_
 refine⟨fun h=>?_,fun h=>?_⟩
 ·have hlt:j<n.ports.length:=by simpa using h
  have hsucc:=Od (Jt n d) j
  have hfl:=Ev (Jt n d) j
  have hin:Jt n d j=((n.ports[j]).dev == d.dev && Iu n.ports[j] d.vlan):=by
   rw[Jt,Ak (l:=n.ports) (i:=(j:Int)) (by simpa using hlt)];rfl
  rw[hin]at hsucc
  have e1:n.ports[(j:Int).toNat]'qn=n.ports[j]:=rfl
  have hms:=Aeh n.ports[j] d.vlan (hn.tagged _ (List.getElem_mem _))
  obtain ⟨p,hp⟩:∃ p,n.ports[j]=p:=⟨_,rfl⟩
  rw[hp]at e1 hsucc hms
  obtain ⟨u,hu⟩:∃ u,Ez (Jt n d) j=u:=⟨_,rfl⟩
  rw[hu]at hsucc hfl ⊢
  refine oO ?_
  refine⟨E,by omega,by omega,?_⟩
  rw[e1]
  conv=>whnf
  refine⟨E,hi.1,hk,?_⟩
  rw[hd]
  conv=>whnf
  refine⟨fun h2=>?_,fun h2=>?_⟩
  ·have h3:∃ k:Nat,(k:Int)=i:=⟨i.toNat,by omega⟩
   rw[h2,Bool.true_and]at hsucc
   refine oD ?_
   refine⟨E,hi.1,hk,?_⟩
   rw[hd]
   conv=>whnf
   refine cD hms F93 ?_
   refine oD ?_
   refine kW ?_
   refine⟨fun h4=>?_,fun h4=>?_⟩
   ·rw[if_pos h4]at hsucc
    refine oO ?_
    refine Ad (Ac Γ.toTy 48 E E E E E (.row E) (.lit (e:=Aa) (l:=[(j:Int)]) E E) qz (by simp;omega) (by simp;omega)) E E ?_
    refine oO ?_
    refine iW ?_
    exact An [(1000,48)] hlt ⟨⟨E,E,E,E,E,E,E,E,E,E,E,E,Y⟩,⟨.inl (congrArg (Ob.row 1 Aa) hsucc),E,Y⟩,E,E⟩
   ·rw[if_neg (by simp[h4])]at hsucc
    refine oO ?_
    refine iW ?_
    exact An [] hlt ⟨⟨E,E,E,E,E,E,E,E,E,E,E,E,Y⟩,⟨.inl (congrArg (Ob.row 1 Aa) hsucc),E,Y⟩,E,E⟩
  ·rw[if_neg (by simp[h2])]at hsucc
   refine oD ?_
   refine⟨qq,?_⟩
   ((conv=>whnf);refine aF ?_;refine rg ?_;conv=>whnf)
   refine iW ?_
   exact An [] hlt ⟨⟨E,E,E,E,E,E,E,E,E,E,E,E,Y⟩,⟨.inl (congrArg (Ob.row 1 Aa) hsucc),E,Y⟩,E,E⟩
 ·have:j=n.ports.length:=qB h
  subst this
  refine Ao 1000 E ?_
  refine oO ?_
  exact dN
theorem Aeu (n:Net) (hn:n.Fin) (l:List Domain) (p:Domain→Bool) (f:FuncId) (first cap:List SV) (hc:(SV.clo (.func f) first cap).inn []=true) (hf:∀ x∈l,J4 Tryz.prog f (first++[Aw x]++cap) (Ab (p x))) (hl:Ap l) :
  Sy.Spec Tryz.prog 146 [Aj n,.sl 6 Aw l,.clo (.func f) first cap] [] (Aa (if Ae n=true then Dq p l else -1)) []:=cT F146 Tryz.ntmps146 fun F hF=>by
 have hr:=B0 n hn
 have q:=Iv l p f first cap hc hf hl
 conv=>whnf
 refine c0 hr F23 ?_
 cases hb:Ae n
 ·rw[if_neg qz]
  refine oT ?_
  exact dN
 rw[if_pos rfl]
 refine oF ?_
 refine Vx q F201 E E (by simp only[Ct,hc,Bool.and_true];rfl) E E ?_
 refine oO ?_
 exact dN
theorem Aee (dev vlan:Int) (d:Domain):Sy.Spec Tryz.prog 147 [Aw d,.ref 1 (Aa dev) 0,.ref 1 (Aa vlan) 0] [] (Ab (d.dev == dev && d.vlan == vlan)) []:=cT F147 Tryz.ntmps147 fun F hF=>by
 conv=>whnf
 (repeat' (first | (refine⟨fun h=>?_,fun h=>?_⟩<;>(repeat (first | simp only[beq_iff_eq]at h | simp only[beq_eq_false_iff_ne]at h))<;>((refine oO ?_))) | (refine Aq rfl (.cons .tmp .nil) ?_ rfl)))
 all_goals (refine congrArg Ab ?_)
 all_goals simp_all
def Lq (n:Net) (dev vlan:Int):Int:=if Ae n=true then Aa0 n dev vlan else -1
theorem U4 (n:Net) (hn:n.Fin) (dev vlan:Int):Sy.Spec Tryz.prog 89 [Aj n,Aa dev,Aa vlan] [] (Aa (Lq n dev vlan)) []:=cT F89 Tryz.ntmps89 fun F hF=>by
 have q:=Aeu n hn n.domains (fun d=>d.dev == dev && d.vlan == vlan) 147 [] [.ref 1 (Aa dev) 0,.ref 1 (Aa vlan) 0] rfl (fun d _=>⟨⟨_,_,F147⟩,Aee dev vlan d⟩) hn.domains
 conv=>whnf
 refine A3 4 1 (Aa dev) E E E ?_
 refine A3 5 1 (Aa vlan) E E E ?_
 refine c0 q F146 ?_
 refine oO ?_
 exact dN
def En (n:Net) (i:Int):Int :=
 if (0≤i∧i<n.ports.length)∧0≤(nth n.ports i).link∧Ae n=true then
  (if (nth n.links (nth n.ports i).link).a=i then (nth n.links (nth n.ports i).link).b else (nth n.links (nth n.ports i).link).a) else -1
theorem Lp {n:Net} (h:Ae n=true) {i:Nat} (hi:i<n.ports.length) (hl:0≤n.ports[i].link) :
  n.ports[i].link.toNat<n.links.length∧((nth n.links n.ports[i].link).a=i∨(nth n.links n.ports[i].link).b=i):=by
 have:=Akp h hi
 simp only[D9,Ai,Bool.and_eq_true,Bool.or_eq_true,decide_eq_true_eq,beq_iff_eq]at this
 rcases this.2 with h1 | h1
 ·omega
 ·exact⟨by omega,h1.2⟩
theorem Aej (n:Net) (hn:n.Fin) (i:Int):Sy.Spec Tryz.prog 268 [Aj n,Aa i] [] (Aa (En n i)) []:=cT F268 Tryz.ntmps268 fun F hF=>by
 have hr:=B0 n hn
 conv=>whnf
 refine⟨fun h=>?_,fun h=>?_⟩
 ·have h1:i<0:=of_decide_eq_true h
  rw[En,if_neg qn]
  (refine oT ?_;refine bT ?_;refine bT ?_)
  exact dN
 have h1:0≤i:=qB h
 refine oO ?_
 refine⟨fun h=>?_,fun h=>?_⟩
 ·have h2:n.ports.length≤i:=of_decide_eq_true h
  rw[En,if_neg qn]
  (refine oT ?_;refine bT ?_)
  exact dN
 have h2:i<n.ports.length:=qB h
 have hk:i.toNat<n.ports.length:=by omega
 have e1:nth n.ports i=n.ports[i.toNat]:=Ak hk
 have hlk:=fun (hb:Ae n=true)=>Lp hb hk
 rw[En,e1]
 obtain ⟨p,hp⟩:∃ p,n.ports[i.toNat]=p:=⟨_,rfl⟩
 rw[hp]at hlk ⊢
 refine oO ?_
 refine⟨E,h1,hk,?_⟩
 rw[hp]
 conv=>whnf
 refine⟨fun h=>?_,fun h=>?_⟩
 ·have h3:p.link<0:=of_decide_eq_true h
  rw[if_neg qn]
  refine oT ?_
  exact dN
 have h3:0≤p.link:=qB h
 refine oO ?_
 refine c0 hr F23 ?_
 cases hb:Ae n
 ·rw[if_neg qz]
  refine oT ?_
  exact dN
 rw[if_pos ⟨⟨h1,h2⟩,h3,rfl⟩]
 have hq:=hlk hb h3
 have e2:nth n.links p.link=n.links[p.link.toNat]:=Ak hq.1
 rw[e2]
 obtain ⟨l,hl⟩:∃ l,n.links[p.link.toNat]'hq.1=l:=⟨_,rfl⟩
 rw[hl]
 refine oF ?_
 refine⟨E,h1,hk,?_⟩
 rw[hp]
 conv=>whnf
 refine⟨E,h3,hq.1,?_⟩
 rw[hl]
 conv=>whnf
 refine kW ?_
 refine⟨fun h=>?_,fun h=>?_⟩
 ·have h4:l.a=i:=by simpa using h
  rw[if_pos h4]
  refine oO ?_
  exact dN
 ·have h4:¬ l.a=i:=by simpa using h
  rw[if_neg h4]
  refine oO ?_
  exact dN
theorem K3 (l:List Int) (p:Int→Bool) (f:FuncId) (first cap:List SV) (hc:(SV.clo (.func f) first cap).inn []=true) (hf:∀ x∈l,J4 Tryz.prog f (first++[Aa x]++cap) (Ab (p x))) (hl:Ap l) :
  Sy.Spec Tryz.prog 362 [.sl 1 Aa l,.clo (.func f) first cap] [] (Aa (Dq p l)) []:=cT F362 Tryz.ntmps362 fun F hF=>by
 unfold Ap at hl
 have hin:∀ x:Int,Ct [] (first++[Aa x]++cap)=true:=fun x=>Dv hc rfl
 conv=>whnf
 refine Ay l.length (fun j=>Dd (fun _ x=>!(p x)) l j) (fun j=>[(0,.sl 1 Aa l),(1,.clo (.func f) first cap),(7,Aa l.length),(8,Aa j)]) (fun _=>[]) [] (A2 _ _) ⟨⟨E,E,Br _,hc,E,E,E,E,Y⟩,Y,E,E⟩ ?_
 intro j hj hI
 refine oO ?_
 refine⟨fun h=>?_,fun h=>?_⟩
 ·have h:=of_decide_eq_true h
  have hj2:j<l.length:=by omega
  refine oO ?_
  refine⟨E,by omega,by omega,?_⟩
  conv=>whnf
  refine Ef (hf l[j] (List.getElem_mem hj2)) E E E (by simp only[hin];rfl) E E ?_
  refine oO ?_
  refine⟨fun h2=>?_,fun h2=>?_⟩
  ·refine oO ?_
   refine Aq E (.cons .tmp .nil) (congrArg Aa ?_) E
   exact C3 hj2 (fun i hi hij=>by simpa using hI i hi hij) h2
  ·refine oO ?_
   refine iW ?_
   exact Av [] hI hj2 (A1 hI hj2 (by simp[h2])) ⟨⟨E,E,Br _,hc,E,E,E,E,Y⟩,Y,E,E⟩
 ·have h:=of_decide_eq_false h
  refine oO ?_
  refine Aq E (.cons .tmp .nil) (congrArg Aa ?_) E
  exact Dk (fun i hi=>by simpa using hI i hi qn)
theorem Vs (l:List Int) (p:Int→Bool) (f:FuncId) (first cap:List SV) (hc:(SV.clo (.func f) first cap).inn []=true) (hf:∀ x∈l,J4 Tryz.prog f (first++[Aa x]++cap) (Ab (p x))) (hl:Ap l) :
  Sy.Spec Tryz.prog 384 [.sl 1 Aa l,.clo (.func f) first cap] [] (Ab (decide (0≤Dq p l))) []:=cT F384 Tryz.ntmps384 fun F hF=>by
 have h0:Ct [] [.sl 1 Aa l,.clo (.func f) first cap]=true:=by simp only[Ct,hc];rfl
 conv=>whnf
 refine Vx (K3 l p f first cap hc hf hl) F362 E E (by simp only[h0];rfl) E E ?_
 refine oO ?_
 exact dN
theorem Ase (v:Vrf) (hv:Ap v.imports) (t:Int):Sy.Spec Tryz.prog 383 [Aa t,.ref 5 (C4 v) 0] [] (Ab (inB v.imports t)) []:=cT F383 Tryz.ntmps383 fun F hF=>by
 have q:=Ee v.imports t hv
 conv=>whnf
 refine c0 q F25 ?_
 refine oO ?_
 exact dN
def leaksB (n:Net) (i k:Int):Bool:=i == k || (nth n.vrfs i).dev == (nth n.vrfs k).dev && decide (0≤Dq (inB (nth n.vrfs k).imports) (nth n.vrfs i).exports)
theorem Ah9 (n:Net) (hn:n.Fin) (hb:Ae n=true) (i k:Int) (hi:0≤i∧i.toNat<n.vrfs.length) (hk:0≤k∧k.toNat<n.vrfs.length) :
  Sy.Spec Tryz.prog 372 [Aj n,Aa i,Aa k] [] (Ab (leaksB n i k)) []:=cT F372 Tryz.ntmps372 fun F hF=>by
 have hr:=B0 n hn
 rw[hb]at hr
 have him:=hn.imports _ (List.getElem_mem hk.2)
 have hex:=hn.exports _ (List.getElem_mem hi.2)
 rw[leaksB,Ak hi.2,Ak hk.2]
 obtain ⟨a,ha⟩:∃ a,n.vrfs[i.toNat]'hi.2=a:=⟨_,rfl⟩
 obtain ⟨b,hbb⟩:∃ b,n.vrfs[k.toNat]'hk.2=b:=⟨_,rfl⟩
 rw[ha]at hex ⊢
 rw[hbb]at him ⊢
 have q:=Vs a.exports (inB b.imports) 383 [] [.ref 5 (C4 b) 0] rfl (fun t _=>⟨⟨_,_,F383⟩,Ase b him t⟩) hex
 conv=>whnf
 refine⟨fun h=>absurd (of_decide_eq_true h) qn,fun _=>?_⟩
 refine oO ?_
 refine⟨fun h=>absurd (of_decide_eq_true h) qn,fun _=>?_⟩
 refine oO ?_
 refine⟨fun h=>absurd (of_decide_eq_true h) qn,fun _=>?_⟩
 refine oO ?_
 refine⟨fun h=>absurd (of_decide_eq_true h) qn,fun _=>?_⟩
 refine oO ?_
 refine c0 hr F23 ?_
 refine oF ?_
 refine⟨E,hi.1,hi.2,?_⟩
 rw[ha]
 conv=>whnf
 refine⟨E,hk.1,hk.2,?_⟩
 rw[hbb]
 conv=>whnf
 refine kW ?_
 refine⟨fun h=>?_,fun h=>?_⟩
 ·rw[h,Bool.true_or]
  refine oO ?_
  exact dN
 rw[h,Bool.false_or]
 refine oO ?_
 refine⟨fun h=>?_,fun h=>?_⟩
 ·rw[h,Bool.true_and]
  refine A3 8 5 (C4 b) E E E ?_
  refine oO ?_
  refine c0 q F384 ?_
  refine oO ?_
  exact dN
 ·rw[h,Bool.false_and]
  refine oO ?_
  exact dN
def Eb (n:Net) (i:Int):Int:=(nth n.domains (nth n.irbs i).domain).dev
theorem Auc {n:Net} (h:Ae n=true) {i:Nat} (hi:i<n.irbs.length):Wm n i n.irbs[i]=true:=by
 simp only[Ae,Bool.and_eq_true]at h
 exact allB_iff.1 h.2 i hi
theorem Dj {n:Net} (h:Ae n=true) {i:Nat} (hi:i<n.irbs.length) :
  (0≤n.irbs[i].domain∧n.irbs[i].domain.toNat<n.domains.length)∧(0≤n.irbs[i].vrf∧n.irbs[i].vrf.toNat<n.vrfs.length)∧(0≤n.irbs[i].bits∧n.irbs[i].bits≤32):=by
 have:=Auc h hi
 simp only[Wm,Ai,Bool.and_eq_true,decide_eq_true_eq]at this
 omega
theorem J8 (n:Net) (hb:Ae n=true) (i:Int) (hi:0≤i∧i.toNat<n.irbs.length):Sy.Spec Tryz.prog 326 [Aj n,Aa i] [] (Aa (Eb n i)) []:=cT F326 Tryz.ntmps326 fun F hF=>by
 have hf:=(Dj hb hi.2).1
 rw[Eb,Ak hi.2]
 obtain ⟨x,hx⟩:∃ x,n.irbs[i.toNat]'hi.2=x:=⟨_,rfl⟩
 rw[hx]at hf ⊢
 rw[Ak hf.2]
 obtain ⟨d,hd⟩:∃ d,n.domains[x.domain.toNat]'hf.2=d:=⟨_,rfl⟩
 rw[hd]
 conv=>whnf
 refine⟨E,hi.1,hi.2,?_⟩
 rw[hx]
 conv=>whnf
 refine⟨E,hf.1,hf.2,?_⟩
 rw[hd]
 conv=>whnf
 refine kW ?_
 exact dN
def Acb (n:Net) (i k:Int):Bool:=Eb n i == Eb n k && leaksB n (nth n.irbs k).vrf (nth n.irbs i).vrf
theorem Aij (n:Net) (hn:n.Fin) (hb:Ae n=true) (i k:Int) (hi:0≤i∧i.toNat<n.irbs.length) (hk:0≤k∧k.toNat<n.irbs.length) :
  Sy.Spec Tryz.prog 328 [Aj n,Aa i,Aa k] [] (Ab (Acb n i k)) []:=cT F328 Tryz.ntmps328 fun F hF=>by
 have q1:=J8 n hb i hi
 have q2:=J8 n hb k hk
 have f1:=(Dj hb hi.2).2.1
 have f2:=(Dj hb hk.2).2.1
 have q3:=Ah9 n hn hb _ _ f2 f1
 rw[Acb,Ak hi.2,Ak hk.2]
 obtain ⟨x,hx⟩:∃ x,n.irbs[i.toNat]'hi.2=x:=⟨_,rfl⟩
 obtain ⟨y,hy⟩:∃ y,n.irbs[k.toNat]'hk.2=y:=⟨_,rfl⟩
 rw[hx,hy]at q3
 rw[hx,hy]
 generalize Eb n i=di at *
 generalize Eb n k=dk at *
 conv=>whnf
 refine cD q1 F326 ?_
 refine oD ?_
 refine cD q2 F326 ?_
 refine oD ?_
 refine⟨fun h=>?_,fun h=>?_⟩
 ·rw[h,Bool.true_and]
  refine oD ?_
  refine⟨E,hk.1,hk.2,?_⟩
  rw[hy]
  conv=>whnf
  refine⟨E,hi.1,hi.2,?_⟩
  rw[hx]
  conv=>whnf
  refine cD q3 F372 ?_
  refine oD ?_
  refine kW ?_
  exact dN
 ·rw[h,Bool.false_and]
  refine oD ?_
  refine kW ?_
  exact dN
abbrev Agm (a b:Int):SV:=.agg [B4 a,Aa b]
theorem Ann (a b:Int) (h:0≤b∧b≤32):Sy.Spec Tryz.prog 269 [Agm a b] [] (Ab true) []:=cT F269 Tryz.ntmps269 fun F hF=>by
 conv=>whnf
 refine⟨fun _=>?_,fun h2=>absurd (of_decide_eq_false h2) qn⟩
 refine oO ?_
 refine Aq E (.cons .tmp .nil) (congrArg Ab ?_) E
 simp;omega
def Af7 (b:Int):Int:=IntKind.u32.wrap (IntKind.u32.wrap (1 * 2 ^ (min (32-b).toNat IntKind.u32.bits))-1)
theorem Aqa (a b:Int) (h:0≤b∧b≤32):Sy.Spec Tryz.prog 270 [Agm a b] [] (B4 (Af7 b)) []:=cT F270 Tryz.ntmps270 fun F hF=>by
 conv=>whnf
 refine iW ?_
 refine⟨by omega,?_⟩
 conv=>whnf
 exact dN
def Abr (a b x:Int):Bool:=bits .andNot .u32 (bits .xor .u32 a x) (Af7 b) == 0
theorem Ar6 (a b x:Int) (h:0≤b∧b≤32):Sy.Spec Tryz.prog 327 [Agm a b,B4 x] [] (Ab (Abr a b x)) []:=cT F327 Tryz.ntmps327 fun F hF=>by
 have q1:=Ann a b h
 have q2:=Aqa a b h
 rw[Abr]
 generalize Af7 b=r at *
 conv=>whnf
 refine cD q1 F269 ?_
 (refine oD ?_;refine aT ?_;refine oD ?_)
 refine cD q2 F270 ?_
 refine oD ?_
 refine kW ?_
 exact dN
def Sn (c:Int→Int→Int) (l:List Int) (j:Nat):Int:=((l.drop 1).take j).foldl (fun m x=>if 0<c x m then x else m) (nth l 0)
theorem Wi (c:Int→Int→Int) (l:List Int) (j:Nat) (h:j+1<l.length):Sn c l (j+1)=if 0<c l[j+1] (Sn c l j) then l[j+1] else Sn c l j:=by
 have hl:j<(l.drop 1).length:=by rw[List.length_drop];omega
 rw[Sn,List.take_succ_eq_append_getElem hl,List.foldl_append]
 have e:(l.drop 1)[j]=l[j+1]:=by rw[List.getElem_drop];congr 1;omega
 simp only[List.foldl_cons,List.foldl_nil,e]
 rfl
theorem U6 (c:Int→Int→Int) (l:List Int) (h:0<l.length):∀ j,j+1≤l.length→Sn c l j∈l
 | 0,_=>by
  rw[Sn,List.take_zero,List.foldl_nil,Ak (l:=l) (i:=0) (by simpa using h)]
  exact List.getElem_mem _
 | j+1,hj=>by
  rw[Wi c l j qn]
  split
  ·exact List.getElem_mem _
  ·exact U6 c l h j qn
theorem Aqo (l:List Int) (c:Int→Int→Int) (f:FuncId) (first cap:List SV) (hc:(SV.clo (.func f) first cap).inn []=true) (h0:0<l.length) (hl:Ap l)
  (hf:∀ x∈l,∀ y∈l,J4 Tryz.prog f (first++[Aa x,Aa y]++cap) (Aa (c x y))) :
  Sy.Spec Tryz.prog 330 [.sl 1 Aa l,.clo (.func f) first cap] [] (Aa (Sn c l (l.length-1))) []:=cT F330 Tryz.ntmps330 fun F hF=>by
 unfold Ap at hl
 have hin:∀ x y:Int,Ct [] (first++[Aa x,Aa y]++cap)=true:=fun x y=>Dv hc rfl
 have hmem:=U6 c l h0
 have hsucc:=Wi c l
 have hz:Sn c l 0=l[0]:=by rw[Sn,List.take_zero,List.foldl_nil,Ak (l:=l) (i:=0) (by simpa using h0)];rfl
 generalize Sn c l=m at *
 conv=>whnf
 refine⟨fun h=>absurd (of_decide_eq_true h) qn,fun _=>?_⟩
 refine oO ?_
 refine⟨E,by omega,by simpa using h0,?_⟩
 conv=>whnf
 refine At (l.length-1) (fun j=>[(0,.sl 1 Aa l),(1,.clo (.func f) first cap),(5,Aa (m j)),(6,Aa ((j:Int)+1))]) (fun _=>[]) []
  ⟨⟨rfl,rfl,Br _,hc,congrArg Aa hz,rfl,rfl,rfl,trivial⟩,trivial,rfl,rfl⟩ ?_
 intro j hj
 have hmj:=hmem j qn
 have hsj:=hsucc j
 refine oO ?_
 refine⟨fun h=>?_,fun h=>?_⟩
 ·have hlt:j+1<l.length:=qA h
  have hsj:=hsj hlt
  have hk:((j:Int)+1).toNat<l.length:=by omega
  have e1:l[((j:Int)+1).toNat]'hk=l[j+1]:=by congr 1
  obtain ⟨x,hx⟩:∃ x,l[j+1]=x:=⟨_,rfl⟩
  have hxm:x∈l:=hx ▸ List.getElem_mem hlt
  rw[hx]at e1 hsj
  refine oO ?_
  refine⟨E,by omega,hk,?_⟩
  rw[e1]
  conv=>whnf
  refine Ef (hf x hxm (m j) hmj) E E E (by simp only[hin];rfl) E E ?_
  refine oO ?_
  refine⟨fun h2=>?_,fun h2=>?_⟩
  ·rw[if_pos (of_decide_eq_true h2)]at hsj
   refine oO ?_
   refine⟨E,by omega,hk,?_⟩
   rw[e1]
   conv=>whnf
   refine iW ?_
   exact An [] qn ⟨⟨E,E,Br _,hc,congrArg Aa hsj,E,congrArg Aa qn,E,Y⟩,Y,E,E⟩
  ·rw[if_neg (of_decide_eq_false h2)]at hsj
   refine oO ?_
   refine iW ?_
   exact An [] qn ⟨⟨E,E,Br _,hc,congrArg Aa hsj,E,congrArg Aa qn,E,Y⟩,Y,E,E⟩
 ·have:j=l.length-1:=qB h
  subst this
  refine oO ?_
  exact dN
def Abj (n:Net) (irb i:Int):Int:=if (nth n.irbs i).vrf=(nth n.irbs irb).vrf then 1 else 0
abbrev InIrbs (n:Net) (i:Int):Prop:=0≤i∧i.toNat<n.irbs.length
theorem Ag1 (n:Net) (irb i:Int) (hi:InIrbs n i) (hk:InIrbs n irb):Sy.Spec Tryz.prog 329 [Aa i,.ref 8 (Aj n) 0,.ref 1 (Aa irb) 0] [] (Aa (Abj n irb i)) []:=cT F329 Tryz.ntmps329 fun F hF=>by
 rw[Abj,Ak hi.2,Ak hk.2]
 obtain ⟨x,hx⟩:∃ x,n.irbs[i.toNat]'hi.2=x:=⟨_,rfl⟩
 obtain ⟨y,hy⟩:∃ y,n.irbs[irb.toNat]'hk.2=y:=⟨_,rfl⟩
 rw[hx,hy]
 conv=>whnf
 refine⟨E,hi.1,hi.2,?_⟩
 rw[hx]
 conv=>whnf
 refine⟨E,hk.1,hk.2,?_⟩
 rw[hy]
 conv=>whnf
 refine kW ?_
 refine⟨fun h=>?_,fun h=>?_⟩
 ·rw[if_pos (by simpa using h)]
  refine oO ?_
  exact dN
 ·rw[if_neg (by simpa using h)]
  refine oO ?_
  exact dN
def cmpR (n:Net) (irb a b:Int):Int:=if (nth n.irbs a).bits≠(nth n.irbs b).bits then (nth n.irbs a).bits-(nth n.irbs b).bits else Abj n irb a-Abj n irb b
theorem Alq (n:Net) (irb i:Int):0≤Abj n irb i∧Abj n irb i≤1:=by
 unfold Abj;split<;>omega
theorem Aqp (n:Net) (hb:Ae n=true) (irb a b:Int) (hk:InIrbs n irb) (ha:InIrbs n a) (hb2:InIrbs n b) :
  Sy.Spec Tryz.prog 331 [Aa a,Aa b,.ref 8 (Aj n) 0,.ref 1 (.clo (.func 329) [] [.ref 8 (Aj n) 0,.ref 1 (Aa irb) 0]) 0] [] (Aa (cmpR n irb a b)) []:=cT F331 Tryz.ntmps331 fun F hF=>by
 have fa:=(Dj hb ha.2).2.2
 have fb:=(Dj hb hb2.2).2.2
 have q1:=Ag1 n irb a ha hk
 have q2:=Ag1 n irb b hb2 hk
 have l1:=Alq n irb a
 have l2:=Alq n irb b
 rw[cmpR,Ak ha.2,Ak hb2.2]
 obtain ⟨x,hx⟩:∃ x,n.irbs[a.toNat]'ha.2=x:=⟨_,rfl⟩
 obtain ⟨y,hy⟩:∃ y,n.irbs[b.toNat]'hb2.2=y:=⟨_,rfl⟩
 rw[hx]at fa ⊢
 rw[hy]at fb ⊢
 generalize Abj n irb a=oa at *
 generalize Abj n irb b=ob at *
 conv=>whnf
 refine⟨E,ha.1,ha.2,?_⟩
 rw[hx]
 conv=>whnf
 refine⟨E,hb2.1,hb2.2,?_⟩
 rw[hy]
 conv=>whnf
 refine kW ?_
 refine⟨fun h=>?_,fun h=>?_⟩
 ·rw[if_pos (by simpa using h)]
  refine oO ?_
  refine iW ?_
  exact dN
 ·rw[if_neg (by simpa using h)]
  refine oO ?_
  refine Akz ⟨⟨_,_,F329⟩,q1⟩ E E E E qq E ?_
  refine oD ?_
  refine Akz ⟨⟨_,_,F329⟩,q2⟩ E E E E qq E ?_
  refine oD ?_
  refine iW ?_
  refine kW ?_
  exact dN
def H3 (n:Net) (irb dst:Int) (i:Nat):Bool:=Eb n i == Eb n irb && (nth n.irbs i).addr == dst
def La (n:Net) (irb dst:Int) (i:Nat):Bool:=Abr (nth n.irbs i).addr (nth n.irbs i).bits dst && Acb n irb i
def L4 (n:Net) (irb dst:Int):List Int:=Ez (La n irb dst) n.irbs.length
def lookT (n:Net) (irb dst:Int):Int × Bool :=
 if (List.range n.irbs.length).any (H3 n irb dst)=true then (0,false)
 else if L4 n irb dst=[] then (0,false) else (Sn (cmpR n irb) (L4 n irb dst) ((L4 n irb dst).length-1),true)
theorem As6 (n:Net) (hn:n.Fin) (hb:Ae n=true) (irb dst:Int) (hk:InIrbs n irb):Sy.Spec Tryz.prog 271 [Aj n,Aa irb,B4 dst] [] (.tup [Aa (lookT n irb dst).1,Ab (lookT n irb dst).2]) []:=cT F271 Tryz.ntmps271 fun F hF=>by
 have hlk:=lookT.eq_1 n irb dst
 generalize lookT n irb dst=r at *
 have hsi:=hn.irbs
 unfold Ap at hsi
 have qk:=J8 n hb irb hk
 conv=>whnf
 refine A3 3 8 (Aj n) E E E ?_
 refine A3 4 1 (Aa irb) E E E ?_
 refine Bm 8 1000 1 Aa E E ?_
 refine Ay n.irbs.length (fun j=>∀ i,i<j→H3 n irb dst i=false) (fun j=>[(2,B4 dst),(3,.ref 8 (Aj n) 0),(4,.ref 1 (Aa irb) 0),(8,.osl 1000),(13,.sl 5 Dp n.irbs),(14,Aa n.irbs.length),(15,Aa j)]) (fun j=>[(1000,.row 1 Aa (Ez (La n irb dst) j))]) [] (fun i hi=>absurd hi qn)
  ⟨⟨rfl,rfl,rfl,rfl,rfl,rfl,rfl,rfl,rfl,rfl,rfl,rfl,rfl,rfl,trivial⟩,⟨.inl rfl,rfl,trivial⟩,rfl,rfl⟩ ?_
 intro j hj hI
 refine oO ?_
 refine⟨fun h=>?_,fun h=>?_⟩
 ·have hlt:j<n.irbs.length:=by simpa using h
  have hij:InIrbs n (j:Int):=⟨by omega,by simpa using hlt⟩
  have qj:=J8 n hb j hij
  have hsucc:=Od (La n irb dst) j
  have hfl:=Ev (La n irb dst) j
  have hta:H3 n irb dst j=(Eb n j == Eb n irb && (nth n.irbs j).addr == dst):=rfl
  have hwa:La n irb dst j=(Abr (nth n.irbs j).addr (nth n.irbs j).bits dst && Acb n irb j):=rfl
  have enj:nth n.irbs (j:Int)=n.irbs[j]:=Ak (l:=n.irbs) (i:=(j:Int)) (by simpa using hlt)
  have hf:=(Dj hb hlt).2.2
  have e1:n.irbs[(j:Int).toNat]'qn=n.irbs[j]:=rfl
  rw[enj]at hta hwa
  obtain ⟨x,hx⟩:∃ x,n.irbs[j]=x:=⟨_,rfl⟩
  rw[hx]at e1 hta hwa hf
  have q1:=Ar6 x.addr x.bits dst hf
  have q2:=Aij n hn hb irb j hk hij
  rw[hwa]at hsucc
  obtain ⟨u,hu⟩:∃ u,Ez (La n irb dst) j=u:=⟨_,rfl⟩
  rw[hu]at hsucc hfl ⊢
  refine oO ?_
  refine⟨E,by omega,by omega,?_⟩
  rw[e1]
  conv=>whnf
  refine cD qj F326 ?_
  refine oD ?_
  refine cD qk F326 ?_
  refine oD ?_
  refine⟨fun h2=>?_,fun h2=>?_⟩
  ·rw[h2,Bool.true_and]at hta
   refine oD ?_
   refine kW ?_
   refine⟨fun h3=>?_,fun h3=>?_⟩
   ·have:(List.range n.irbs.length).any (H3 n irb dst)=true:=List.any_eq_true.2 ⟨j,by simpa using hlt,hta.trans h3⟩
    rw[if_pos this]at hlk
    subst hlk
    refine oO ?_
    exact dN
   ·have hnt:=hta.trans h3
    refine oO ?_
    refine c0 q1 F327 ?_
    refine oO ?_
    refine⟨fun h4=>?_,fun h4=>?_⟩
    ·rw[h4,Bool.true_and]at hsucc
     refine oO ?_
     refine c0 q2 F328 ?_
     refine oO ?_
     refine⟨fun h5=>?_,fun h5=>?_⟩
     ·rw[if_pos h5]at hsucc
      refine oO ?_
      refine Ad (Ac Γ.toTy 47 E E E E E (.row E) (.lit (e:=Aa) (l:=[(j:Int)]) E E) qz (by simp;omega) (by simp;omega)) E E ?_
      refine oO ?_
      refine iW ?_
      exact Av [(1000,47)] hI hlt (fun i hi=>if e:i=j then (by rw[e];exact hnt) else hI i qn) ⟨⟨E,E,E,E,E,E,E,E,E,E,E,E,E,E,Y⟩,⟨.inl (congrArg (Ob.row 1 Aa) hsucc),E,Y⟩,E,E⟩
     ·rw[if_neg (by simp[h5])]at hsucc
      refine oO ?_
      refine iW ?_
      exact Av [] hI hlt (fun i hi=>if e:i=j then (by rw[e];exact hnt) else hI i qn) ⟨⟨E,E,E,E,E,E,E,E,E,E,E,E,E,E,Y⟩,⟨.inl (congrArg (Ob.row 1 Aa) hsucc),E,Y⟩,E,E⟩
    ·rw[if_neg (by simp[h4])]at hsucc
     refine oF ?_
     refine iW ?_
     exact Av [] hI hlt (fun i hi=>if e:i=j then (by rw[e];exact hnt) else hI i qn) ⟨⟨E,E,E,E,E,E,E,E,E,E,E,E,E,E,Y⟩,⟨.inl (congrArg (Ob.row 1 Aa) hsucc),E,Y⟩,E,E⟩
  ·have hnt:H3 n irb dst j=false:=by rw[hta,h2,Bool.false_and]
   refine oD ?_
   refine⟨qq,?_⟩
   ((conv=>whnf);refine aF ?_;refine rg ?_;conv=>whnf)
   refine c0 q1 F327 ?_
   refine oO ?_
   refine⟨fun h4=>?_,fun h4=>?_⟩
   ·rw[h4,Bool.true_and]at hsucc
    refine oO ?_
    refine c0 q2 F328 ?_
    refine oO ?_
    refine⟨fun h5=>?_,fun h5=>?_⟩
    ·rw[if_pos h5]at hsucc
     refine oO ?_
     refine Ad (Ac Γ.toTy 47 E E E E E (.row E) (.lit (e:=Aa) (l:=[(j:Int)]) E E) qz (by simp;omega) (by simp;omega)) E E ?_
     refine oO ?_
     refine iW ?_
     exact Av [(1000,47)] hI hlt (fun i hi=>if e:i=j then (by rw[e];exact hnt) else hI i qn) ⟨⟨E,E,E,E,E,E,E,E,E,E,E,E,E,E,Y⟩,⟨.inl (congrArg (Ob.row 1 Aa) hsucc),E,Y⟩,E,E⟩
    ·rw[if_neg (by simp[h5])]at hsucc
     refine oO ?_
     refine iW ?_
     exact Av [] hI hlt (fun i hi=>if e:i=j then (by rw[e];exact hnt) else hI i qn) ⟨⟨E,E,E,E,E,E,E,E,E,E,E,E,E,E,Y⟩,⟨.inl (congrArg (Ob.row 1 Aa) hsucc),E,Y⟩,E,E⟩
   ·rw[if_neg (by simp[h4])]at hsucc
    refine oF ?_
    refine iW ?_
    exact Av [] hI hlt (fun i hi=>if e:i=j then (by rw[e];exact hnt) else hI i qn) ⟨⟨E,E,E,E,E,E,E,E,E,E,E,E,E,E,Y⟩,⟨.inl (congrArg (Ob.row 1 Aa) hsucc),E,Y⟩,E,E⟩
 ·have:j=n.irbs.length:=qB h
  subst this
  have hno:¬ (List.range n.irbs.length).any (H3 n irb dst)=true:=fun h=>by
   obtain ⟨i,h1,h2⟩:=List.any_eq_true.1 h
   rw[hI i (by simpa using h1)]at h2
   cases h2
  rw[if_neg hno]at hlk
  have hin:∀ y∈L4 n irb dst,InIrbs n y:=fun y hy=>by
   have:=(filtI_mem (p:=La n irb dst) (j:=n.irbs.length)).1 hy
   exact⟨this.1,by omega⟩
  have hwl:=Ev (La n irb dst) n.irbs.length
  have hwe:Ez (La n irb dst) n.irbs.length=L4 n irb dst:=rfl
  rw[hwe]at hwl ⊢
  have q:∀ h0:0<(L4 n irb dst).length,_:=fun h0=>Aqo (L4 n irb dst) (cmpR n irb) 331 [] [.ref 8 (Aj n) 0,.ref 1 (.clo (.func 329) [] [.ref 8 (Aj n) 0,.ref 1 (Aa irb) 0]) 0] rfl h0 (by unfold Ap;omega) (fun y hy z hz=>⟨⟨_,_,F331⟩,Aqp n hb irb y z hk (hin y hy) (hin z hz)⟩)
  generalize L4 n irb dst=l at *
  refine Ao 1000 E ?_
  refine oO ?_
  refine⟨fun h3=>?_,fun h3=>?_⟩
  ·have h4:l=[]:=by simpa using h3
   rw[if_pos h4]at hlk
   subst hlk
   refine oO ?_
   exact dN
  ·have h4:¬ l=[]:=by simpa using h3
   rw[if_neg h4]at hlk
   have q:=q (List.length_pos_iff.2 h4)
   subst hlk
   refine oO ?_
   refine A3 11 1 (.clo (.func 329) [] [.ref 8 (Aj n) 0,.ref 1 (Aa irb) 0]) E E E ?_
   refine oO ?_
   refine c0 q F330 ?_
   refine oO ?_
   exact dN
theorem Ag0 {n:Net} {irb dst:Int} (h:(lookT n irb dst).2=true):InIrbs n (lookT n irb dst).1:=by
 unfold lookT at h ⊢
 split at h
 ·cases h
 rename_i h1
 rw[if_neg h1]
 split at h
 ·cases h
 rename_i h2
 rw[if_neg h2]
 have hm:=U6 (cmpR n irb) (L4 n irb dst) (List.length_pos_iff.2 h2) ((L4 n irb dst).length-1) (by have:=List.length_pos_iff.2 h2;omega)
 have:=(filtI_mem (p:=La n irb dst) (j:=n.irbs.length)).1 hm
 exact⟨this.1,by omega⟩
end Go.Sy.YteinjapglfkamaaGreat
namespace Go.Sy
def Ah7 (C:Cx) {β:Type} (I:β→Prop) (L:β→List (Nat × SV)) (O:β→Obs) (μ:β→Nat) (x:β) (a:Act) (w:World):Prop :=
 ∃ x':{y:β // I y},∃ κ,μ x'.1<μ x∧St C.F C.n (mkS (L x'.1) (O x'.1)) κ a w
theorem Atv {C:Cx} {k:List KI} {s:SS} {body:Code} {β:Type} (I:β→Prop) (L:β→List (Nat × SV)) (O:β→Obs) (μ:β→Nat) (x₀:β) (ρ:List (Nat × Nat)) (h0:I x₀) (hsub:Sub C s ρ (L x₀) (O x₀))
  (h:∀ x,I x→G C (.code body::.inv (Ah7 C I L O μ x)::k) (mkS (L x) (O x))):G C (.code (.loop body)::k) s :=
 Q2 (α:={y:β // I y}) (fun x=>L x.1) (fun x=>O x.1) (fun x=>μ x.1) ⟨x₀,h0⟩ ρ hsub (fun x=>h x.1 x.2)
theorem Ar9 {C:Cx} {k:List KI} {s:SS} {β:Type} {I:β→Prop} {L:β→List (Nat × SV)} {O:β→Obs} {μ:β→Nat} {x:β} (x':β) (ρ:List (Nat × Nat)) (h':I x') (hμ:μ x'<μ x) (hsub:Sub C s ρ (L x') (O x')) :
  G C (.inv (Ah7 C I L O μ x)::k) s:=fun _ _ _ hs=>⟨⟨x',h'⟩,_,hμ,hsub.st hs⟩
theorem Ic {C:Cx} {k:List KI} {s:SS} (d:Nat) {sz:Nat} {α:Type} (e:α→SV) (l:List α) {svs:List SV} (h:s.h d=.lit sz svs) (hl:l.map e=svs) (hg:G C k ⟨s.σ,upd s.h d (.row sz e l)⟩):G C k s:=fun κ a w hs=>by
 refine hg κ a w ⟨hs.defers,hs.size,hs.inv,hs.ctx,hs.slot,fun j=>?_⟩
 show ObOK κ w j (upd s.h d (.row sz e l) j)
 by_cases hj:j=d
 ·subst hj
  rw[By]
  have hob:=hs.obj j
  rw[h]at hob
  have hlen:l.length=svs.length:=by rw[← hl,List.length_map]
  obtain ⟨b,cap,cs,T,fr,e1,e2,e3,e4,e5,e6⟩:=hob
  exact .inr ⟨b,cap,cs,T,fr,by rw[hlen];exact e1,e2,e3,e4,by omega,fun i x hx=>by rw[hlen];exact e6 i x (L8 hl i x hx)⟩
 ·rw[Ck _ _ hj];exact hs.obj j
end Go.Sy
namespace Go.Sy.YteinjapglfkamaaGreat
open Go.Proofs
attribute [local irreducible] Go.Sy.G Go.Sy.DR
set_option maxRecDepth 20000
set_option maxHeartbeats 4000000
theorem Aiq (l:List Int) (least most:Int) (hl:Ap l):Sy.Spec Tryz.prog 151 [.sl 1 Aa l,Aa least,Aa most] [] (Ab (C8 l least most)) []:=cT F151 Tryz.ntmps151 fun F hF=>by
 unfold Ap at hl
 conv=>whnf
 (repeat' (first | (refine⟨fun h=>?_,fun h=>?_⟩<;>(repeat (first | simp only[decide_eq_true_eq]at h | simp only[decide_eq_false_iff_not]at h))<;>((refine oO ?_);repeat((refine aT ?_);(refine oO ?_)))) | (refine Aq rfl (.cons .tmp .nil) ?_ rfl)))
 all_goals try (refine congrArg Ab ?_)
 ·rw[C8];simp;omega
 ·rw[C8];simp;omega
 refine Ay l.length (fun j=>Dd (Le l least most) l j) (fun j=>[(0,.sl 1 Aa l),(1,Aa least),(2,Aa most),(7,Aa j)]) (fun _=>[]) [] (A2 _ _) ⟨⟨E,E,E,E,E,E,E,E,Y⟩,Y,E,E⟩ ?_
 intro j hj hI
 refine oO ?_
 (repeat' (first | (refine⟨fun h=>?_,fun h=>?_⟩<;>(repeat (first | simp only[decide_eq_true_eq]at h | simp only[decide_eq_false_iff_not]at h))<;>((first|refine rg ?_|refine rd qq ?_);(conv=>whnf);repeat((refine aT ?_);(refine rd qq ?_);(conv=>whnf)))) | (refine Aq rfl (.cons .tmp .nil) ?_ rfl) | (refine⟨qq,?_⟩;((conv=>whnf);repeat((first|refine aF ?_|refine aT ?_);(refine oO ?_)))) | (refine⟨by (first | (unfold I64;omega) | omega),by (omega),?_⟩;((conv=>whnf))) | (refine⟨by (unfold I64;omega),?_⟩;((conv=>whnf))) | refine Av [] hI qn ?_ ⟨⟨rfl,rfl,rfl,rfl,rfl,rfl,rfl,rfl,trivial⟩,trivial,rfl,rfl⟩))
 all_goals try (refine congrArg Ab ?_)
 all_goals try simp only[Int.toNat_natCast,Int.pred_toNat]at *
 ·rw[C8,Bf (i:=j) qn (by simp[Le];omega)];simp
 ·rw[C8,Bf (i:=j) qn (by simp[Le];omega)];simp
 ·rw[C8,Bf (i:=j) qn (by simp only[Le,Ak (show ((j:Int)-1).toNat<l.length by omega),Int.pred_toNat,Int.toNat_natCast];simp;omega)];simp
 ·exact A1 hI qn (by simp only[Le,Ak (show ((j:Int)-1).toNat<l.length by omega),Int.pred_toNat,Int.toNat_natCast];simp;omega)
 ·exact A1 hI qn (by simp[Le];omega)
 ·rw[C8,Cf hI qn,Bool.eq_iff_iff];simp;omega
theorem Mz (l:List Int) (most:Int) (hl:Ap l):Sy.Spec Tryz.prog 98 [.sl 1 Aa l,Aa most] [] (Ab (decide (l.length=0) || C8 l 1 most)) []:=cT F98 Tryz.ntmps98 fun F hF=>by
 conv=>whnf
 (repeat' (first | (refine⟨fun h=>?_,fun h=>?_⟩<;>(repeat (first | simp only[beq_iff_eq]at h | simp only[beq_eq_false_iff_ne]at h))<;>((refine oO ?_))) | (refine Aq rfl (.cons .tmp .nil) ?_ rfl) | (refine c0 (Aiq l 1 most hl) F151 ?_;((refine oO ?_)))))
 all_goals (refine congrArg Ab ?_)
 all_goals grind
theorem A8 (i:Int) (n:Nat):Sy.Spec Tryz.prog 46 [Aa i,Aa n] [] (Ab (Ai i n)) []:=cT F46 Tryz.ntmps46 fun F hF=>by
 conv=>whnf
 (repeat' (first | (refine⟨fun h=>?_,fun h=>?_⟩<;>(repeat (first | simp only[decide_eq_true_eq]at h | simp only[decide_eq_false_iff_not]at h))<;>((refine oO ?_))) | (refine Aq rfl (.cons .tmp .nil) ?_ rfl)))
 all_goals (refine congrArg Ab ?_)
 all_goals grind [Ai]
theorem Kk {α:Type} {p:α→Bool} {l:List α} {j:Nat} (hI:Dd (fun _ x=>!(p x)) l j) (hj:l.length≤j):l.any p=false:=by
 rw[List.any_eq_false]
 intro x hx
 obtain ⟨i,hi,rfl⟩:=List.mem_iff_getElem.1 hx
 simpa using hI i hi qn
theorem Mq {α:Type} {p:α→Bool} {l:List α} {j:Nat} (hj:j<l.length) (h:p l[j]=true):l.any p=true:=List.any_eq_true.2 ⟨_,List.getElem_mem hj,h⟩
theorem E9 (l:List Int) (x:Int) (hl:Ap l):Sy.Spec Tryz.prog 36 [.sl 1 Aa l,Aa x] [] (Ab (inB l x)) []:=cT F36 Tryz.ntmps36 fun F hF=>by
 unfold Ap at hl
 conv=>whnf
 refine Ay l.length (fun j=>Dd (fun _ y=>!(y == x)) l j) (fun j=>[(0,.sl 1 Aa l),(1,Aa x),(5,Aa j)]) (fun _=>[]) [] (A2 _ _) ⟨⟨E,E,E,E,E,E,Y⟩,Y,E,E⟩ ?_
 intro j hj hI
 refine oO ?_
 (repeat' (first | (refine⟨fun h=>?_,fun h=>?_⟩<;>(repeat (first | simp only[decide_eq_true_eq]at h | simp only[decide_eq_false_iff_not]at h | simp only[beq_iff_eq]at h | simp only[beq_eq_false_iff_ne]at h))<;>((refine oO ?_))) | (refine Aq rfl (.cons .tmp .nil) ?_ rfl) | (refine⟨qq,?_⟩;((conv=>whnf))) | (refine⟨by (omega),by (omega),?_⟩;((conv=>whnf))) | (refine⟨by (unfold I64;omega),?_⟩;((conv=>whnf))) | refine Av [] hI qn ?_ ⟨⟨rfl,rfl,rfl,rfl,rfl,rfl,trivial⟩,trivial,rfl,rfl⟩))
 all_goals try (refine congrArg Ab ?_)
 ·exact Mq (j:=j) qn (by simpa using h)
 ·exact A1 hI qn (by simpa using h)
 ·exact Kk hI qn
theorem Ut (p:Port) (v:Int) (hl:Ap p.tagged):Sy.Spec Tryz.prog 99 [Bh p,Aa v] [] (Ab (Iu p v)) []:=cT F99 Tryz.ntmps99 fun F hF=>by
 conv=>whnf
 (repeat' (first | (refine⟨fun h=>?_,fun h=>?_⟩<;>(repeat (first | simp only[beq_iff_eq]at h | simp only[beq_eq_false_iff_ne]at h | simp only[bne_iff_ne]at h | simp only[bne_eq_false_iff_eq]at h))<;>((refine oO ?_))) | (refine Aq rfl (.cons .tmp .nil) ?_ rfl) | (refine c0 (E9 p.tagged v hl) F36 ?_;((refine oO ?_)))))
 all_goals (refine congrArg Ab ?_)
 all_goals grind [Iu]
theorem O6 (n:Net) (dev vlan:Int) (hl:Ap n.domains):Sy.Spec Tryz.prog 35 [Aj n,Aa dev,Aa vlan] [] (Aa (Aa0 n dev vlan)) []:=cT F35 Tryz.ntmps35 fun F hF=>by
 unfold Ap at hl
 conv=>whnf
 refine A3 3 8 (Aj n) E E E ?_
 refine Ay n.domains.length (fun j=>Dd (fun _ d=>!(d.dev == dev && d.vlan == vlan)) n.domains j) (fun j=>[(1,Aa dev),(2,Aa vlan),(3,.ref 8 (Aj n) 0),(7,Aa j)]) (fun _=>[]) [] (A2 _ _) ⟨⟨E,E,E,E,E,E,E,E,Y⟩,Y,E,E⟩ ?_
 intro j hj hI
 refine oO ?_
 (repeat' (first | (refine⟨fun h=>?_,fun h=>?_⟩<;>(repeat (first | simp only[decide_eq_true_eq]at h | simp only[decide_eq_false_iff_not]at h | simp only[beq_iff_eq]at h | simp only[beq_eq_false_iff_ne]at h))<;>((refine oO ?_);repeat((refine aF ?_);(refine oO ?_)))) | (refine Aq rfl (.cons .tmp .nil) ?_ rfl) | (refine⟨qq,?_⟩;((conv=>whnf))) | (refine⟨by (omega),by (omega),?_⟩;((conv=>whnf))) | (refine⟨by (unfold I64;omega),?_⟩;((conv=>whnf))) | refine Av [] hI qn ?_ ⟨⟨rfl,rfl,rfl,rfl,rfl,rfl,rfl,rfl,trivial⟩,trivial,rfl,rfl⟩))
 all_goals try (refine congrArg Aa ?_)
 ·exact C3 qn (fun i hi hij=>by have:=hI i hi hij;grind) (by simp_all)
 ·exact A1 hI qn (by simp_all)
 ·exact A1 hI qn (by simp_all)
 ·exact Dk (fun i hi=>by have:=hI i hi qn;grind)
theorem Age (n:Net) (hn:n.Fin):Sy.Spec Tryz.prog 31 [Aj n] [] (Ab (Dg (K1 n) n.links)) []:=cT F31 Tryz.ntmps31 fun F hF=>by
 have hl:=hn.links
 unfold Ap at hl
 conv=>whnf
 refine A3 1 8 (Aj n) E E E ?_
 refine Ay n.links.length (fun j=>Dd (K1 n) n.links j) (fun j=>[(1,.ref 8 (Aj n) 0),(3,Aa j)]) (fun _=>[]) [] (A2 _ _) ⟨⟨E,E,E,E,Y⟩,Y,E,E⟩ ?_
 intro j hj hI
 refine oO ?_
 (repeat' (first | (refine⟨fun h=>?_,fun h=>?_⟩<;>(repeat (first | simp only[Ai]at h | simp only[decide_eq_true_eq]at h | simp only[decide_eq_false_iff_not]at h | simp only[beq_iff_eq]at h | simp only[beq_eq_false_iff_ne]at h | simp only[bne_iff_ne]at h | simp only[bne_eq_false_iff_eq]at h | simp only[Bool.and_eq_true]at h | simp only[Bool.and_eq_false_iff]at h | simp only[Bool.not_eq_true']at h | simp only[Bool.not_eq_false']at h))<;>((first|refine rg ?_|refine rd qq ?_);(conv=>whnf);repeat((refine aT ?_);(first|refine rg ?_|refine rd qq ?_);(conv=>whnf)))) | (refine Aq rfl (.cons .tmp .nil) ?_ rfl) | (refine⟨qq,?_⟩;((conv=>whnf);repeat((refine aT ?_);(refine oO ?_)))) | (refine⟨by (first | omega | (simp only[Int.toNat_natCast];omega)),by (first | omega | (simp only[Int.toNat_natCast];omega)),?_⟩;((conv=>whnf))) | (refine⟨by (unfold I64;omega),?_⟩;((conv=>whnf))) | (refine c0 (A8 (n.links[j]'qn).a n.ports.length) F46 ?_;((refine oO ?_))) | (refine c0 (A8 (n.links[j]'qn).b n.ports.length) F46 ?_;((refine oO ?_))) | refine Av [] hI qn ?_ ⟨⟨rfl,rfl,rfl,rfl,trivial⟩,trivial,rfl,rfl⟩))
 all_goals (simp only[Int.toNat_natCast]at *)
 all_goals first
  | exact A1 hI qn (by clear hI hF;grind [K1,Ai,Ak])
  | (refine congrArg Ab ?_;exact Bf (i:=j) qn (by clear hI hF;grind [K1,Ai,Ak]))
  | (refine congrArg Ab ?_;exact Cf hI qn)
theorem Agd (n:Net) (hn:n.Fin):Sy.Spec Tryz.prog 30 [Aj n] [] (Ab (Dg (D9 n) n.ports)) []:=cT F30 Tryz.ntmps30 fun F hF=>by
 have hl:=hn.ports
 unfold Ap at hl
 conv=>whnf
 refine A3 1 8 (Aj n) E E E ?_
 refine Ay n.ports.length (fun j=>Dd (D9 n) n.ports j) (fun j=>[(1,.ref 8 (Aj n) 0),(3,Aa j)]) (fun _=>[]) [] (A2 _ _) ⟨⟨E,E,E,E,Y⟩,Y,E,E⟩ ?_
 intro j hj hI
 refine oO ?_
 refine⟨fun h=>?_,fun h=>?_⟩
 ·have hjl:j<n.ports.length:=by simpa using h
  have ht:=hn.tagged _ (List.getElem_mem hjl)
  generalize hp:n.ports[j]=p at ht
  have hp':n.ports[(j:Int).toNat]'qn=p:=hp
  refine oO ?_
  refine⟨E,by omega,by omega,?_⟩
  rw[hp']
  conv=>whnf
  (repeat' (first | (refine⟨fun h=>?_,fun h=>?_⟩<;>(repeat (first | simp only[Ai]at h | simp only[decide_eq_true_eq]at h | simp only[decide_eq_false_iff_not]at h | simp only[beq_iff_eq]at h | simp only[beq_eq_false_iff_ne]at h | simp only[Bool.and_eq_true]at h | simp only[Bool.or_eq_true]at h | simp only[Bool.and_eq_false_iff]at h | simp only[Bool.or_eq_false_iff]at h | simp only[Bool.not_eq_true']at h | simp only[Bool.not_eq_false']at h))<;>((refine oO ?_);repeat((first|refine aF ?_|refine aT ?_);(refine oO ?_)))) | (refine Aq rfl (.cons .tmp .nil) ?_ rfl) | (refine c0 (A8 p.dev n.devices.length) F46 ?_;((refine oO ?_))) | (refine c0 (Mz p.tagged 4094 ht) F98 ?_;((refine oO ?_))) | (refine c0 (E9 p.tagged p.native ht) F36 ?_;((refine oO ?_))) | (refine c0 (O6 n p.dev p.native hn.domains) F35 ?_;((refine oO ?_)))))
  all_goals first
   | (refine congrArg Ab ?_;exact Bf hjl (by rw[hp];clear hI hF hp';grind [D9,Ai,Cn]))
   | skip
  all_goals (
   refine A3 4 7 (Bh p) E E E ?_
   refine Ay p.tagged.length (fun k=>Dd (fun _ v=>Cn n p.dev v) p.tagged k) (fun k=>[(1,.ref 8 (Aj n) 0),(3,Aa j),(4,.ref 7 (Bh p) 0),(5,Aa k)]) (fun _=>[]) [] (A2 _ _) ⟨⟨E,E,E,E,E,E,E,E,Y⟩,Y,E,E⟩ ?_
   intro k hk hI2
   have hsh:=ht
   unfold Ap at hsh
   ((first|refine rG Γ hm ?_|refine rD Γ hm qq ?_);(conv=>whnf);repeat((first|refine aF ?_|refine aT ?_);(first|refine rG Γ hm ?_|refine rD Γ hm qq ?_);conv=>whnf)))
  all_goals (
   (repeat' (first | (refine⟨fun h=>?_,fun h=>?_⟩<;>(repeat (first | simp only[Ai]at h | simp only[decide_eq_true_eq]at h | simp only[decide_eq_false_iff_not]at h | simp only[beq_iff_eq]at h | simp only[beq_eq_false_iff_ne]at h | simp only[bne_iff_ne]at h | simp only[bne_eq_false_iff_eq]at h | simp only[Bool.and_eq_true]at h | simp only[Bool.and_eq_false_iff]at h | simp only[Bool.not_eq_true']at h | simp only[Bool.not_eq_false']at h))<;>((refine oO ?_);repeat((first|refine aF ?_|refine aT ?_);(refine oO ?_)))) | (refine Aq rfl (.cons .tmp .nil) ?_ rfl) | (refine⟨qq,?_⟩;((conv=>whnf))) | (refine⟨by (omega),by (omega),?_⟩;((conv=>whnf))) | (refine⟨by (unfold I64;omega),?_⟩;((conv=>whnf))) | (refine cD (O6 n p.dev (p.tagged[k]'qn) hn.domains) F35 ?_;((refine rd qq ?_);(conv=>whnf))) | (refine c0 (A8 p.link n.links.length) F46 ?_;((refine oO ?_))) | refine Av [] hI2 qn ?_ ⟨⟨rfl,rfl,rfl,rfl,rfl,rfl,rfl,rfl,trivial⟩,trivial,rfl,rfl⟩ | refine Av [] hI qn ?_ ⟨⟨rfl,rfl,rfl,rfl,trivial⟩,trivial,rfl,rfl⟩)))
  all_goals first
   | exact A1 hI2 qn (by simp only[Cn,decide_eq_true_eq];omega)
   | (refine congrArg Ab ?_
      have h0:Dg (fun _ v=>Cn n p.dev v) p.tagged=false:=Bf (i:=k) qn (by simp only[Cn,decide_eq_false_iff_not];omega)
      exact Bf hjl (by rw[hp];clear hI hI2 hF hp';grind [D9]))
   | skip
  all_goals have h0:Dg (fun _ v=>Cn n p.dev v) p.tagged=true:=Cf hI2 qn
  all_goals first
   | exact A1 hI hjl (by rw[hp];clear hI hI2 hF hp';grind [D9,Ai,Cn,Ak])
   | (refine congrArg Ab ?_
      exact Bf hjl (by rw[hp];clear hI hI2 hF hp';grind [D9,Ai,Cn,Ak]))
 ·refine oO ?_
  exact Aq E (.cons .tmp .nil) (congrArg Ab (Cf hI (by simpa using h))) E
theorem Ai3 (n:Net) (i:Nat) (k:Int) (hn:n.Fin) (hi:i<n.domains.length) (hb:Dg (I1 n) n.domains=true):Sy.Spec Tryz.prog 97 [Aj n,Aa i,Aa k] [] (Ab (Qc n i n.domains[i] k)) []:=cT F97 Tryz.ntmps97 fun F hF=>by
 have hd:=Mp hb hi
 have ha:n.domains[(i:Int).toNat]'qn=n.domains[i]:=rfl
 have hr:∀ x:Bool,Qc n i n.domains[i] k=x→Qc n i (n.domains[(i:Int).toNat]'qn) k=x:=fun x h=>h
 generalize n.domains[i]=d at *
 simp only[Ai,Bool.and_eq_true,decide_eq_true_eq]at hd
 conv=>whnf
 (repeat' (first | (refine⟨fun h=>?_,fun h=>?_⟩<;>(repeat (first | simp only[Ai]at h | simp only[decide_eq_true_eq]at h | simp only[decide_eq_false_iff_not]at h | simp only[beq_iff_eq]at h | simp only[beq_eq_false_iff_ne]at h | simp only[bne_iff_ne]at h | simp only[bne_eq_false_iff_eq]at h | simp only[Bool.and_eq_true]at h | simp only[Bool.and_eq_false_iff]at h | simp only[Bool.not_eq_true']at h | simp only[Bool.not_eq_false']at h))<;>((refine oO ?_);repeat((first|refine aF ?_|refine aT ?_);(refine oO ?_)))) | (refine Aq rfl (.cons .tmp .nil) ?_ rfl) | (refine⟨qq,?_⟩;((conv=>whnf))) | (refine⟨by (first | omega | (first | (simp only[ha];omega) | (have hq:=Mp hb (i:=k.toNat) qn;simp only[Ai,Bool.and_eq_true,decide_eq_true_eq]at hq;omega))),by (first | omega | (first | (simp only[ha];omega) | (have hq:=Mp hb (i:=k.toNat) qn;simp only[Ai,Bool.and_eq_true,decide_eq_true_eq]at hq;omega))),?_⟩;((conv=>whnf))) | (refine c0 (A8 k n.domains.length) F46 ?_;((refine oO ?_))) | (refine c0 (E9 (n.domains[k.toNat]'qn).peers i (hn.peers _ (List.getElem_mem _))) F36 ?_;((refine oO ?_)))))
 all_goals (
  refine congrArg Ab ?_
  have hq:∀ h:k.toNat<n.domains.length,0≤n.domains[k.toNat].dev∧n.domains[k.toNat].dev<n.devices.length:=fun h=>by
   have:=Mp hb h
   simpa only [Ai,Bool.and_eq_true,decide_eq_true_eq] using this
  clear hF hr;grind [Qc,Afc,Ai,Ak])
theorem Atd (l:List Int) (k:Nat) (hk:k<l.length):inB (l.take k) l[k]=!(Dq (· == l[k]) l == (k:Int)):=by
 have h0:∀ x,Dq (· == l[k]) l=x→inB (l.take k) l[k]=!(x == (k:Int)):=by
  intro x hx
  subst hx
  unfold Dq
  split
  ·rename_i i h
   rw[List.findIdx?_eq_some_iff_getElem]at h
   obtain ⟨hi,h1,h2⟩:=h
   have hle:i≤k:=by
    rcases Nat.lt_or_ge k i with h3 | h3
    ·exact absurd (h2 k h3) qz
    ·exact h3
   by_cases he:i=k
   ·subst he
    simp only[inB,beq_self_eq_true,Bool.not_true]
    rw[List.any_eq_false]
    intro x hx
    obtain ⟨m,hm,rfl⟩:=List.mem_iff_getElem.1 hx
    simp only[List.length_take]at hm
    rw[List.getElem_take]
    have:=h2 m qn
    simpa using this
   ·have:((i:Int) == (k:Int))=false:=by simp;omega
    rw[this]
    simp only[inB,Bool.not_false]
    refine List.any_eq_true.2 ⟨l[i],?_,h1⟩
    exact List.mem_iff_getElem.2 ⟨i,by simp;omega,by simp⟩
  ·rename_i h
   rw[List.findIdx?_eq_none_iff]at h
   have:=h l[k] (List.getElem_mem hk)
   simp at this
 exact h0 _ E
theorem Abs {P:Program} (Γ:Ty P) {o:Oper} {s:SS} {t:TypeId} {ti:TI} {et:TypeId} {sz eb lo hi:Nat} {ez:List Value} {x:Operand} {lx hx:Option Operand} {α:Type} {e:α→SV} {l:List α} (r:List α)
  (h:o.op=.slice t x lx hx none) (ht:Γ.get t=some ti) (hk:ti.k=.slice et sz eb ez) (hxe:ev s x=.sl sz e l) (hlo:BoundIs s lx 0 lo) (hhi:BoundIs s hx l.length hi) (h1:lo≤hi) (h2:hi≤l.length) (hr:(l.take hi).drop lo=r) :
  Good P o s ⟨.sl sz e r,[],[]⟩:=by
 subst hr
 exact Be Γ h ht hk hxe hlo hhi h1 h2
theorem Abf (n:Net) (hn:n.Fin):Sy.Spec Tryz.prog 29 [Aj n] [] (Ab (Dg (I1 n) n.domains && Dg (Qb n) n.domains)) []:=cT F29 Tryz.ntmps29 fun F hF=>by
 have hl:=hn.domains
 unfold Ap at hl
 conv=>whnf
 refine A3 1 8 (Aj n) E E E ?_
 refine Ay n.domains.length (fun j=>Dd (I1 n) n.domains j) (fun j=>[(1,.ref 8 (Aj n) 0),(3,Aa j)]) (fun _=>[]) [] (A2 _ _) ⟨⟨E,E,E,E,Y⟩,Y,E,E⟩ ?_
 intro j hj hI
 refine oO ?_
 refine⟨fun h=>?_,fun h=>?_⟩
 ·have hjl:j<n.domains.length:=by simpa using h
  generalize hp:n.domains[j]=p
  have hp':n.domains[(j:Int).toNat]'qn=p:=hp
  refine oO ?_
  refine⟨E,by omega,by omega,?_⟩
  rw[hp']
  conv=>whnf
  (repeat' (first | (refine⟨fun h=>?_,fun h=>?_⟩<;>(repeat (first | simp only[Ai]at h | simp only[decide_eq_true_eq]at h | simp only[decide_eq_false_iff_not]at h | simp only[bne_iff_ne]at h | simp only[bne_eq_false_iff_eq]at h | simp only[Bool.and_eq_true]at h | simp only[Bool.and_eq_false_iff]at h | simp only[Bool.not_eq_true']at h | simp only[Bool.not_eq_false']at h))<;>((refine oO ?_);repeat((first|refine aF ?_|refine aT ?_);(refine oO ?_)))) | (refine Aq rfl (.cons .tmp .nil) ?_ rfl) | (refine⟨qq,?_⟩;((conv=>whnf))) | (refine⟨by (omega),by (omega),?_⟩;((conv=>whnf))) | (refine⟨by (unfold I64;omega),?_⟩;((conv=>whnf))) | (refine c0 (A8 p.dev n.devices.length) F46 ?_;((refine oO ?_))) | (refine c0 (A8 p.irb n.irbs.length) F46 ?_;((refine oO ?_))) | (refine c0 (O6 n p.dev p.vlan hn.domains) F35 ?_;((refine oO ?_))) | refine Av [] hI qn ?_ ⟨⟨rfl,rfl,rfl,rfl,trivial⟩,trivial,rfl,rfl⟩))
  all_goals first
   | exact A1 hI hjl (by rw[hp];clear hI hF hp';grind [I1,Ai,Ak])
   | (refine congrArg Ab ?_;rw[Bf (p:=I1 n) hjl (by rw[hp];clear hI hF hp';grind [I1,Ai,Ak])];rfl)
 have hb:Dg (I1 n) n.domains=true:=Cf hI (by simpa using h)
 clear hI
 refine oO ?_
 refine Ay n.domains.length (fun j=>Dd (Qb n) n.domains j) (fun j=>[(1,.ref 8 (Aj n) 0),(5,Aa j)]) (fun _=>[]) [] (A2 _ _) ⟨⟨E,E,E,E,Y⟩,Y,E,E⟩ ?_
 clear hj h
 intro j hj hI
 refine oO ?_
 refine⟨fun h=>?_,fun h=>?_⟩
 ·have hjl:j<n.domains.length:=by simpa using h
  have hpe:=fun k=>Ai3 n j k hn hjl hb
  have hsh:=hn.peers _ (List.getElem_mem hjl)
  generalize hp:n.domains[j]=p at hpe hsh
  have hp':n.domains[(j:Int).toNat]'qn=p:=hp
  refine oO ?_
  refine⟨E,by omega,by omega,?_⟩
  rw[hp']
  conv=>whnf
  refine A3 6 6 (Aw p) E E E ?_
  refine Ay p.peers.length (fun k=>Dd (fun at_ k=>Qc n j p k && Dq (· == k) p.peers == at_) p.peers k) (fun k=>[(1,.ref 8 (Aj n) 0),(5,Aa j),(6,.ref 6 (Aw p) 0),(7,Aa k)]) (fun _=>[]) [] (A2 _ _) ⟨⟨E,E,E,E,E,E,E,E,Y⟩,Y,E,E⟩ ?_
  intro k hk hI2
  unfold Ap at hsh
  refine oO ?_
  refine⟨fun h2=>?_,fun h2=>?_⟩
  ·have hkl:k<p.peers.length:=by simpa using h2
   have hkk:p.peers[(k:Int).toNat]'qn=p.peers[k]:=rfl
   have hty:=Atd p.peers k hkl
   refine oO ?_
   refine⟨qq,?_⟩
   refine⟨by omega,by omega,?_⟩
   rw[hkk]
   generalize p.peers[k]=x at *
   conv=>whnf
   (repeat' (first | (refine⟨fun h=>?_,fun h=>?_⟩<;>(repeat (first | simp only[Bool.not_eq_true']at h | simp only[Bool.not_eq_false']at h))<;>((first|refine rg ?_|refine rd qq ?_);(conv=>whnf))) | (refine Aq rfl (.cons .tmp .nil) ?_ rfl) | (refine⟨qq,?_⟩;((conv=>whnf);repeat((refine aT ?_);(refine oO ?_)))) | (refine⟨by (omega),by (omega),?_⟩;((conv=>whnf))) | (refine⟨by (unfold I64;omega),?_⟩;((conv=>whnf))) | (refine cD (hpe x) F97 ?_;((refine rd qq ?_);(conv=>whnf))) | (refine cD (E9 (p.peers.take k) (p.peers[(k:Int).toNat]'qn) (by unfold Ap;simp;omega)) F36 ?_;((refine rd qq ?_);(conv=>whnf))) | refine Av [] hI2 qn ?_ ⟨⟨rfl,rfl,rfl,rfl,rfl,rfl,rfl,rfl,trivial⟩,trivial,rfl,rfl⟩ | ((refine Bd (Abs Γ.toTy (lo:=0) (hi:=k) (p.peers.take k) rfl rfl rfl rfl (.inl ⟨rfl,rfl⟩) (.inr ⟨_,_,rfl,rfl⟩) qn qn rfl) qq rfl ?_;((refine rd qq ?_);(conv=>whnf))))))
   all_goals first
    | exact A1 hI2 hkl (by clear hF;grind)
    | (refine congrArg Ab ?_
       have h0:Qb n j p=false:=Bf hkl (by clear hF;grind)
       rw[hb,Bf (p:=Qb n) hjl (by rw[hp];exact h0)];rfl)
  ·have h0:Qb n j p=true:=Cf hI2 (by simpa using h2)
   refine oO ?_
   (repeat' (first | (refine⟨by (unfold I64;omega),?_⟩;((conv=>whnf))) | refine Av [] hI qn ?_ ⟨⟨rfl,rfl,rfl,rfl,trivial⟩,trivial,rfl,rfl⟩))
   exact A1 hI hjl (by rw[hp];exact h0)
 ·refine oO ?_
  refine Aq E (.cons .tmp .nil) (congrArg Ab ?_) E
  rw[hb,Cf hI (by simpa using h)]
  rfl
def O4 (n:Net):Bool:=Dg (fun _=>Hw n) n.statics && Dg (fun _=>Lz n) n.floods && Dg (fun _=>Abb n) n.vrfs && Dg (Wm n) n.irbs
theorem rest1 {n:Net} (h:Dg (fun _=>Hw n) n.statics=false):O4 n=false:=by simp[O4,h]
theorem rest2 {n:Net} (h:Dg (fun _=>Lz n) n.floods=false):O4 n=false:=by simp[O4,h]
theorem rest3 {n:Net} (h:Dg (fun _=>Abb n) n.vrfs=false):O4 n=false:=by simp[O4,h]
theorem rest4 {n:Net} (h:Dg (Wm n) n.irbs=false):O4 n=false:=by simp[O4,h]
theorem Ai2 (n:Net) (hn:n.Fin):Sy.Spec Tryz.prog 32 [Aj n] [] (Ab (O4 n)) []:=cT F32 Tryz.ntmps32 fun F hF=>by
 have hl1:=hn.statics
 have hl2:=hn.floods
 have hl3:=hn.vrfs
 have hl4:=hn.irbs
 unfold Ap at hl1 hl2 hl3 hl4
 conv=>whnf
 refine A3 1 8 (Aj n) E E E ?_
 refine Ay n.statics.length (fun j=>Dd (fun _=>Hw n) n.statics j) (fun j=>[(1,.ref 8 (Aj n) 0),(3,Aa j)]) (fun _=>[]) [] (A2 _ _) ⟨⟨E,E,E,E,Y⟩,Y,E,E⟩ ?_
 intro j hj hI
 refine oO ?_
 refine⟨fun h=>?_,fun h=>?_⟩
 ·have hjl:j<n.statics.length:=by simpa using h
  generalize hp:n.statics[j]=s
  have hp':n.statics[(j:Int).toNat]'qn=s:=hp
  refine oO ?_
  refine⟨E,by omega,by omega,?_⟩
  rw[hp']
  conv=>whnf
  (repeat' (first | (refine⟨fun h=>?_,fun h=>?_⟩<;>(repeat (first | simp only[Ai]at h | simp only[decide_eq_true_eq]at h | simp only[decide_eq_false_iff_not]at h | simp only[bne_iff_ne]at h | simp only[bne_eq_false_iff_eq]at h | simp only[Bool.and_eq_true]at h | simp only[Bool.and_eq_false_iff]at h | simp only[Bool.not_eq_true']at h | simp only[Bool.not_eq_false']at h))<;>((first|refine rg ?_|refine rd qq ?_);(conv=>whnf);repeat((refine aT ?_);(refine oO ?_)))) | (refine Aq rfl (.cons .tmp .nil) ?_ rfl) | (refine⟨qq,?_⟩;((conv=>whnf);repeat((refine aT ?_);(refine oO ?_)))) | (refine⟨by (omega),by (omega),?_⟩;((conv=>whnf))) | (refine⟨by (unfold I64;omega),?_⟩;((conv=>whnf))) | (refine c0 (A8 s.domain n.domains.length) F46 ?_;((refine oO ?_))) | (refine c0 (A8 s.port n.ports.length) F46 ?_;((refine oO ?_))) | (refine cD (Ut (n.ports[s.port.toNat]'qn) (n.domains[s.domain.toNat]'qn).vlan (hn.tagged _ (List.getElem_mem _))) F99 ?_;((refine rd qq ?_);(conv=>whnf))) | refine Av [] hI qn ?_ ⟨⟨rfl,rfl,rfl,rfl,trivial⟩,trivial,rfl,rfl⟩))
  all_goals first
   | exact A1 hI hjl (by rw[hp];clear hI hF hp';grind [Hw,Ai,Ak])
   | (refine congrArg Ab ?_;exact rest1 (Bf hjl (by rw[hp];clear hI hF hp';grind [Hw,Ai,Ak])))
 have a1:Dg (fun _=>Hw n) n.statics=true:=Cf hI (by simpa using h)
 clear hI
 refine oO ?_
 refine Ay n.floods.length (fun j=>Dd (fun _=>Lz n) n.floods j) (fun j=>[(1,.ref 8 (Aj n) 0),(6,Aa j)]) (fun _=>[]) [] (A2 _ _) ⟨⟨E,E,E,E,Y⟩,Y,E,E⟩ ?_
 clear hj h
 intro j hj hI
 refine oO ?_
 refine⟨fun h=>?_,fun h=>?_⟩
 ·have hjl:j<n.floods.length:=by simpa using h
  refine oO ?_
  (repeat' (first | (refine⟨fun h=>?_,fun h=>?_⟩<;>(repeat (first | simp only[Ai]at h | simp only[decide_eq_true_eq]at h | simp only[decide_eq_false_iff_not]at h | simp only[Bool.and_eq_true]at h | simp only[Bool.and_eq_false_iff]at h | simp only[Bool.not_eq_true']at h | simp only[Bool.not_eq_false']at h))<;>((first|refine rg ?_|refine rd qq ?_);(conv=>whnf))) | (refine Aq rfl (.cons .tmp .nil) ?_ rfl) | (refine⟨qq,?_⟩;((conv=>whnf);repeat((refine aT ?_);(refine oO ?_)))) | (refine⟨by (omega),by (omega),?_⟩;((conv=>whnf))) | (refine⟨by (unfold I64;omega),?_⟩;((conv=>whnf))) | (refine cD (A8 (n.floods[(j:Int).toNat]'qn).dev n.devices.length) F46 ?_;((refine rd qq ?_);(conv=>whnf))) | refine Av [] hI qn ?_ ⟨⟨rfl,rfl,rfl,rfl,trivial⟩,trivial,rfl,rfl⟩))
  all_goals (simp only[Int.toNat_natCast]at *)
  all_goals first
   | exact A1 hI hjl (by clear hI hF;grind [Lz,Ai])
   | (refine congrArg Ab ?_;exact rest2 (Bf hjl (by clear hI hF;grind [Lz,Ai])))
 have a2:Dg (fun _=>Lz n) n.floods=true:=Cf hI (by simpa using h)
 clear hI
 refine oO ?_
 refine Ay n.vrfs.length (fun j=>Dd (fun _=>Abb n) n.vrfs j) (fun j=>[(1,.ref 8 (Aj n) 0),(7,Aa j)]) (fun _=>[]) [] (A2 _ _) ⟨⟨E,E,E,E,Y⟩,Y,E,E⟩ ?_
 clear hj h
 intro j hj hI
 refine oO ?_
 refine⟨fun h=>?_,fun h=>?_⟩
 ·have hjl:j<n.vrfs.length:=by simpa using h
  have h1:=hn.imports _ (List.getElem_mem hjl)
  have h2:=hn.exports _ (List.getElem_mem hjl)
  generalize hp:n.vrfs[j]=v at h1 h2
  have hp':n.vrfs[(j:Int).toNat]'qn=v:=hp
  refine oO ?_
  refine⟨E,by omega,by omega,?_⟩
  rw[hp']
  conv=>whnf
  (repeat' (first | (refine⟨fun h=>?_,fun h=>?_⟩<;>(repeat (first | simp only[Ai]at h | simp only[decide_eq_true_eq]at h | simp only[decide_eq_false_iff_not]at h | simp only[Bool.and_eq_true]at h | simp only[Bool.or_eq_true]at h | simp only[Bool.and_eq_false_iff]at h | simp only[Bool.or_eq_false_iff]at h | simp only[Bool.not_eq_true']at h | simp only[Bool.not_eq_false']at h))<;>((refine oO ?_);repeat((refine aT ?_);(refine oO ?_)))) | (refine Aq rfl (.cons .tmp .nil) ?_ rfl) | (refine⟨by (unfold I64;omega),?_⟩;((conv=>whnf))) | (refine c0 (A8 v.dev n.devices.length) F46 ?_;((refine oO ?_))) | (refine c0 (Mz v.imports 65535 h1) F98 ?_;((refine oO ?_))) | (refine c0 (Mz v.exports 65535 h2) F98 ?_;((refine oO ?_))) | refine Av [] hI qn ?_ ⟨⟨rfl,rfl,rfl,rfl,trivial⟩,trivial,rfl,rfl⟩))
  all_goals first
   | exact A1 hI hjl (by rw[hp];clear hI hF hp';grind [Abb,Af5,Ai])
   | (refine congrArg Ab ?_;exact rest3 (Bf hjl (by rw[hp];clear hI hF hp';grind [Abb,Af5,Ai])))
 have a3:Dg (fun _=>Abb n) n.vrfs=true:=Cf hI (by simpa using h)
 clear hI
 refine oO ?_
 refine Ay n.irbs.length (fun j=>Dd (Wm n) n.irbs j) (fun j=>[(1,.ref 8 (Aj n) 0),(9,Aa j)]) (fun _=>[]) [] (A2 _ _) ⟨⟨E,E,E,E,Y⟩,Y,E,E⟩ ?_
 clear hj h
 intro j hj hI
 refine oO ?_
 refine⟨fun h=>?_,fun h=>?_⟩
 ·have hjl:j<n.irbs.length:=by simpa using h
  generalize hp:n.irbs[j]=x
  have hp':n.irbs[(j:Int).toNat]'qn=x:=hp
  refine oO ?_
  refine⟨E,by omega,by omega,?_⟩
  rw[hp']
  conv=>whnf
  (repeat' (first | (refine⟨fun h=>?_,fun h=>?_⟩<;>(repeat (first | simp only[Ai]at h | simp only[decide_eq_true_eq]at h | simp only[decide_eq_false_iff_not]at h | simp only[bne_iff_ne]at h | simp only[bne_eq_false_iff_eq]at h | simp only[Bool.and_eq_true]at h | simp only[Bool.and_eq_false_iff]at h | simp only[Bool.not_eq_true']at h | simp only[Bool.not_eq_false']at h))<;>((first|refine rg ?_|refine rd qq ?_);(conv=>whnf);repeat((refine aT ?_);(refine oO ?_)))) | (refine Aq rfl (.cons .tmp .nil) ?_ rfl) | (refine⟨qq,?_⟩;((conv=>whnf);repeat((refine aT ?_);(refine oO ?_)))) | (refine⟨by (omega),by (omega),?_⟩;((conv=>whnf))) | (refine⟨by (unfold I64;omega),?_⟩;((conv=>whnf))) | (refine c0 (A8 x.domain n.domains.length) F46 ?_;((refine oO ?_))) | (refine c0 (A8 x.vrf n.vrfs.length) F46 ?_;((refine oO ?_))) | refine Av [] hI qn ?_ ⟨⟨rfl,rfl,rfl,rfl,trivial⟩,trivial,rfl,rfl⟩))
  all_goals first
   | exact A1 hI hjl (by rw[hp];clear hI hF hp';grind [Wm,Ai,Ak])
   | (refine congrArg Ab ?_;exact rest4 (Bf hjl (by rw[hp];clear hI hF hp';grind [Wm,Ai,Ak])))
 have a4:Dg (Wm n) n.irbs=true:=Cf hI (by simpa using h)
 refine oO ?_
 exact Aq E (.cons .tmp .nil) (congrArg Ab (by simp[O4,a1,a2,a3,a4])) E
theorem Dy (n:Net) (hn:n.Fin):Sy.Spec Tryz.prog 10 [Aj n] [] (Ab (Ae n)) []:=cT F10 Tryz.ntmps10 fun F hF=>by
 conv=>whnf
 (repeat' (first | (refine⟨fun h=>?_,fun h=>?_⟩<;>(repeat (first | simp only[decide_eq_true_eq]at h | simp only[decide_eq_false_iff_not]at h | simp only[Bool.and_eq_true]at h | simp only[Bool.and_eq_false_iff]at h))<;>((refine oO ?_);repeat((first|refine aF ?_|refine aT ?_);(refine oO ?_)))) | (refine Aq rfl (.cons .tmp .nil) ?_ rfl) | (refine c0 (Abf n hn) F29 ?_;((refine oO ?_))) | (refine c0 (Agd n hn) F30 ?_;((refine oO ?_))) | (refine c0 (Age n hn) F31 ?_;((refine oO ?_))) | (refine c0 (Ai2 n hn) F32 ?_;((refine oO ?_)))))
 all_goals (refine congrArg Ab ?_;clear hF)
 all_goals (first | grind [Ae,Akm,O4] | trace_state)
theorem Ac3 (a:Int):Sy.Spec Tryz.prog 334 [Aa a] [] (Ab false) []:=cT F334 Tryz.ntmps334 fun F hF=>by
 conv=>whnf
 exact Aq E (.cons .tmp .nil) (congrArg Ab qz) E
theorem Ac2 (a:Int):Sy.Spec Tryz.prog 335 [As a] [] (Ab false) []:=cT F335 Tryz.ntmps335 fun F hF=>by
 conv=>whnf
 exact Aq E (.cons .tmp .nil) (congrArg Ab qz) E
def cmpI (a b:Int):Int:=if a<b then -1 else if a>b then 1 else 0
theorem Ij (a b:Int):Sy.Spec Tryz.prog 284 [Aa a,Aa b] [] (Aa (cmpI a b)) []:=cT F284 Tryz.ntmps284 fun F hF=>by
 conv=>whnf
 (repeat' (first | (refine⟨fun h=>?_,fun h=>?_⟩<;>(repeat (first | simp only[decide_eq_true_eq]at h | simp only[decide_eq_false_iff_not]at h))<;>((refine oO ?_))) | (refine Aq rfl (.cons .tmp .nil) ?_ rfl) | (refine c0 (Ac3 a) F334 ?_;((refine oO ?_))) | (refine c0 (Ac3 b) F334 ?_;((refine oO ?_);repeat((refine aF ?_);(refine oO ?_))))))
 all_goals (refine congrArg Aa ?_;clear hF;grind [cmpI])
theorem Ah0 (a b:Int):Sy.Spec Tryz.prog 285 [As a,As b] [] (Aa (cmpI a b)) []:=cT F285 Tryz.ntmps285 fun F hF=>by
 conv=>whnf
 (repeat' (first | (refine⟨fun h=>?_,fun h=>?_⟩<;>(repeat (first | simp only[decide_eq_true_eq]at h | simp only[decide_eq_false_iff_not]at h))<;>((refine oO ?_))) | (refine Aq rfl (.cons .tmp .nil) ?_ rfl) | (refine c0 (Ac2 a) F335 ?_;((refine oO ?_))) | (refine c0 (Ac2 b) F335 ?_;((refine oO ?_);repeat((refine aF ?_);(refine oO ?_))))))
 all_goals (refine congrArg Aa ?_;clear hF;grind [cmpI])
def orI:List Int→Int
 | []=>0
 | x::l=>if x=0 then orI l else x
theorem Zz:∀ {l:List Int} {j:Nat},(∀ i (h:i<l.length),i<j→l[i]=0)→orI l=orI (l.drop j)
 | l,0,_=>rfl
 | [],j+1,_=>rfl
 | x::l,j+1,h=>by
  have h0:=h 0 qz qn
  simp only[List.getElem_cons_zero]at h0
  rw[orI,if_pos h0,List.drop_succ_cons]
  exact Zz fun i hi hij=>h (i+1) (by simp;omega) qn
theorem orS (l:List Int) (hl:Ap l):Sy.Spec Tryz.prog 283 [.sl 1 Aa l] [] (Aa (orI l)) []:=cT F283 Tryz.ntmps283 fun F hF=>by
 unfold Ap at hl
 conv=>whnf
 refine Ay l.length (fun j=>∀ i (h:i<l.length),i<j→l[i]=0) (fun j=>[(3,Aa 0),(6,.sl 1 Aa l),(7,Aa l.length),(8,Aa j)]) (fun _=>[]) [] (fun i h hj=>absurd hj qn) ⟨⟨E,E,E,E,E,E,E,E,Y⟩,Y,E,E⟩ ?_
 intro j hj hI
 refine oO ?_
 (repeat' (first | (refine⟨fun h=>?_,fun h=>?_⟩<;>(repeat (first | simp only[decide_eq_true_eq]at h | simp only[decide_eq_false_iff_not]at h | simp only[bne_iff_ne]at h | simp only[bne_eq_false_iff_eq]at h))<;>((refine oO ?_))) | (refine Aq rfl (.cons .tmp .nil) ?_ rfl) | (refine⟨qq,?_⟩;((conv=>whnf))) | (refine⟨by (omega),by (omega),?_⟩;((conv=>whnf))) | (refine⟨by (unfold I64;omega),?_⟩;((conv=>whnf))) | refine Av [] hI qn ?_ ⟨⟨rfl,rfl,rfl,rfl,rfl,rfl,rfl,rfl,trivial⟩,trivial,rfl,rfl⟩))
 all_goals try (refine congrArg Aa ?_)
 ·have hj2:j<l.length:=by omega
  rw[Zz hI,List.drop_eq_getElem_cons hj2,orI,if_neg (by simpa using h)]
  rfl
 ·intro i hi hij
  rcases Nat.lt_or_ge i j with h1 | h1
  ·exact hI i hi h1
  ·have:i=j:=by omega
   subst this
   simpa using h
 ·rw[Zz hI,List.drop_of_length_le qn]
  rfl
theorem M5 (a b:Int) (l:List Int):decide (orI (cmpI a b::l)<0)=if a≠b then decide (a<b) else decide (orI l<0):=by
 rw[orI,cmpI]
 by_cases h1:a<b
 ·simp[h1,show a≠b by omega]
 ·by_cases h2:a>b
  ·simp[h1,h2,show a≠b by omega]
  ·simp[show a=b by omega]
structure Vec where
 (root cost bridge port own:Int)
def D3 (v:Vec):SV:=.agg [Aa v.root,Aa v.cost,Aa v.bridge,Aa v.port,Aa v.own]
def Cj (a b:Vec):Bool :=
 if a.root≠b.root then decide (a.root<b.root) else if a.cost≠b.cost then decide (a.cost<b.cost) else if a.bridge≠b.bridge then decide (a.bridge<b.bridge) else
  if a.port≠b.port then decide (a.port<b.port) else decide (a.own<b.own)
theorem lessS (a b:Vec):Sy.Spec Tryz.prog 338 [D3 a,D3 b] [] (Ab (Cj a b)) []:=cT F338 Tryz.ntmps338 fun F hF=>by
 conv=>whnf
 (repeat' (first | (refine⟨fun h=>?_,fun h=>?_⟩<;>(repeat (first | simp only[beq_iff_eq]at h | simp only[beq_eq_false_iff_ne]at h | simp only[Bool.and_eq_true]at h | simp only[Bool.and_eq_false_iff]at h))<;>((refine oO ?_))) | (refine Aq rfl (.cons .tmp .nil) ?_ rfl) | (refine⟨qq,?_⟩;((conv=>whnf))) | (refine cD (Ij a.root b.root) F284 ?_;((refine rd qq ?_);(conv=>whnf))) | (refine cD (Ij a.cost b.cost) F284 ?_;((refine rd qq ?_);(conv=>whnf))) | (refine cD (Ij a.bridge b.bridge) F284 ?_;((refine rd qq ?_);(conv=>whnf))) | (refine cD (Ij a.port b.port) F284 ?_;((refine rd qq ?_);(conv=>whnf))) | (refine cD (Ij a.own b.own) F284 ?_;((refine rd qq ?_);(conv=>whnf))) | (refine Arv [33] (orS [cmpI a.root b.root,cmpI a.cost b.cost,cmpI a.bridge b.bridge,cmpI a.port b.port,cmpI a.own b.own] (by simp[Ap])) F283 rfl (.cons (.lit rfl rfl rfl) .nil) rfl qq rfl ?_;((refine rd qq ?_);(conv=>whnf)))))
 all_goals (refine congrArg Ab ?_;clear hF)
 ·grind [Cj]
 ·rw[M5,M5,M5,M5,M5,Cj]
  by_cases h1:a.own=b.own
  ·simp[h1,orI]
  ·simp[h1]
theorem Ap1 (a b:Vec):Sy.Spec Tryz.prog 313 [D3 a,D3 b] [] (Ab (Cj a b)) []:=cT F313 Tryz.ntmps313 fun F hF=>by
 conv=>whnf
 (repeat' (first | (refine⟨fun h=>?_,fun h=>?_⟩<;>(repeat (first | simp only[bne_iff_ne]at h | simp only[bne_eq_false_iff_eq]at h))<;>((refine oO ?_))) | (refine Aq rfl (.cons .tmp .nil) ?_ rfl)))
 all_goals (refine congrArg Ab ?_;clear hF;grind [Cj])
def Qi (lt:Int→Int→Bool) (x:Int):List Int→List Int
 | []=>[x]
 | y::r=>if lt x y then y::Qi lt x r else x::y::r
def Hb (lt:Int→Int→Bool) (l:List Int):List Int:=l.foldl (fun r x=>Qi lt x r) []
def S5 (lt:Int→Int→Bool) (l:List Int):List Int:=(Hb lt l).reverse
theorem Wn (lt:Int→Int→Bool) (x:Int):∀ r,(Qi lt x r).Perm (x::r)
 | []=>.refl _
 | y::r=>by
  rw[Qi]
  split
  ·exact((Wn lt x r).cons y).trans (.swap x y r)
  ·exact .refl _
theorem On (lt:Int→Int→Bool):∀ (l r:List Int),(l.foldl (fun r x=>Qi lt x r) r).Perm (l++r)
 | [],r=>.refl _
 | x::l,r=>by
  rw[List.foldl_cons]
  refine(On lt l _).trans ?_
  refine((Wn lt x r).append_left l).trans ?_
  simp
theorem Ll (lt:Int→Int→Bool) (l:List Int):(Hb lt l).Perm l:=by
 have:=On lt l []
 simpa [Hb] using this
theorem Ts (lt:Int→Int→Bool) (l:List Int):(S5 lt l).Perm l:=(List.reverse_perm _).trans (Ll lt l)
theorem Ag8 (lt:Int→Int→Bool) (l:List Int) (i:Nat) (h:i<l.length):Hb lt (l.take (i+1))=Qi lt l[i] (Hb lt (l.take i)):=by
 rw[List.take_succ_eq_append_getElem h,Hb,List.foldl_append]
 rfl
mutual
theorem U9 {K:List Nat}:∀ x:SV,x.inn []=true→x.inn K=true
 | .ptr _ _,h=>by simp[SV.inn,Mc]at h
 | .rpt _ _ _ _,h=>by simp[SV.inn,Mc]at h
 | .osl _,h=>by simp[SV.inn,Mc]at h
 | .agg l,h=>by simp only[SV.inn]at h ⊢;exact Qj l h
 | .tup l,h=>by simp only[SV.inn]at h ⊢;exact Qj l h
 | .ifc _ x,h=>by simp only[SV.inn]at h ⊢;exact U9 x h
 | .clo _ f l,h=>by simp only[SV.inn,Bool.and_eq_true]at h ⊢;exact⟨Qj f h.1,Qj l h.2⟩
 | .top,_=>rfl
 | .val _,_=>rfl
 | .sl _ _ _,_=>rfl
 | .ref _ _ _,_=>rfl
theorem Qj {K:List Nat}:∀ l:List SV,Ct [] l=true→Ct K l=true
 | [],_=>rfl
 | x::l,h=>by simp only[Ct,Bool.and_eq_true]at h ⊢;exact⟨U9 x h.1,Qj l h.2⟩
end
theorem Aae (l:List Int) (c:Int→Int→Int) (Q:Int→Prop) (f:FuncId) (first cap:List SV) (hc:(SV.clo (.func f) first cap).inn []=true) (hf:∀ a b,Q a→Q b→J4 Tryz.prog f (first++[Aa a,Aa b]++cap) (Aa (c a b))) (hQ:∀ a∈l,Q a) (hl:Ap l) :
  Sy.Spec Tryz.prog 373 [.osl 0,Aa 0,Aa l.length,.clo (.func f) first cap] [(0,.row 1 Aa l)] (.tup []) [(0,.row 1 Aa (S5 (fun a b=>decide (c a b<0)) l))]:=cT F373 Tryz.ntmps373 fun F hF=>by
 unfold Ap at hl
 have hin:∀ x y:Int,Ct [] (first++[Aa x,Aa y]++cap)=true:=fun x y=>Dv hc rfl
 have hc':(SV.clo (.func f) first cap).inn [0]=true:=U9 _ hc
 generalize hlt:(fun a b=>decide (c a b<0))=lt
 conv=>whnf
 (repeat' (refine⟨by (unfold I64;omega),?_⟩;((conv=>whnf))))
 refine Ay l.length (fun _=>True) (fun j=>[(0,.osl 0),(1,Aa 0),(2,Aa l.length),(3,.clo (.func f) first cap),(8,Aa ((j:Int)+1))]) (fun j=>[(0,.row 1 Aa ((Hb lt (l.take (j+1))).reverse++l.drop (j+1)))]) [] Y ⟨⟨E,E,E,E,E,E,Br _,hc',E,E,Y⟩,⟨.inl (congrArg (Ob.row 1 Aa) ?_),E,Y⟩,E,E⟩ ?_
 ·cases l with
  | nil=>rfl
  | cons a l=>simp[Hb,Qi]
 intro j hj _
 refine oO ?_
 refine⟨fun h=>?_,fun h=>?_⟩
 ·have hjl:j+1<l.length:=qA h
  have hdrop:l.drop (j+1)=l[j+1]::l.drop (j+1+1):=List.drop_eq_getElem_cons hjl
  have htake:=Ag8 lt l (j+1) hjl
  have hr:(Hb lt (l.take (j+1))).length=j+1:=by rw[(Ll lt _).length_eq];simp;omega
  have hQx:Q l[j+1]:=hQ _ (List.getElem_mem hjl)
  have hQr:∀ z∈Hb lt (l.take (j+1)),Q z:=fun z hz=>hQ z (List.mem_of_mem_take ((Ll lt _).mem_iff.1 hz))
  rw[hdrop]
  generalize l[j+1]=x at htake hQx
  generalize Hb lt (l.take (j+1))=r at htake hr hQr
  generalize hR:l.drop (j+1+1)=R at *
  refine oO ?_
  refine Q2 (α:={p:List Int × List Int // Qi lt x r=p.2.reverse++Qi lt x p.1∧p.1.length+p.2.length=j+1∧∀ z∈p.1,Q z}) (fun p=>[(0,.osl 0),(1,Aa 0),(2,Aa l.length),(3,.clo (.func f) first cap),(8,Aa ((j:Int)+1)),(9,Aa p.1.1.length)]) (fun p=>[(0,.row 1 Aa (p.1.1.reverse++x::(p.1.2++R)))]) (fun p=>p.1.1.length) ⟨(r,[]),by simp,by simpa using hr,hQr⟩ []
   ⟨⟨rfl,rfl,rfl,rfl,rfl,rfl,Br _,hc',rfl,rfl,congrArg Aa (by rw[hr];omega),rfl,trivial⟩,⟨.inl rfl,rfl,trivial⟩,rfl,rfl⟩ ?_
  rintro ⟨⟨A,B⟩,hp1,hp2,hp3⟩
  simp only at hp1 hp2 hp3
  dsimp only
  cases A with
  | nil =>
   simp only[Qi]at hp1
   (refine rg ?_;(conv=>whnf);refine aF ?_;refine oD ?_)
   refine⟨qq,?_⟩
   ((conv=>whnf);refine aF ?_;refine rg ?_;conv=>whnf)
   refine iW ?_
   refine Av [] Y qn Y ⟨⟨E,E,E,E,E,E,Br _,hc',congrArg Aa qn,E,Y⟩,⟨.inl (congrArg (Ob.row 1 Aa) ?_),E,Y⟩,E,E⟩
   show (Hb lt (l.take (j+1+1))).reverse++l.drop (j+1+1)=[].reverse++x::(B++R)
   rw[htake,hp1,hR]
   simp
  | cons y A =>
   have hQy:=hp3 y qz
   refine oO ?_
   refine⟨fun _=>?_,fun h=>absurd (of_decide_eq_false h) qz⟩
   refine oD ?_
   have e1:((y::A).reverse++x::(B++R))[(((y::A).length:Nat):Int).toNat]'qz=x:=by simp
   have e2:((y::A).reverse++x::(B++R))[((((y::A).length:Nat):Int)-1).toNat]'qz=y:=by simp
   refine⟨by omega,by simp,?_⟩
   conv=>whnf
   refine⟨E,by simp,?_⟩
   rw[e1]
   conv=>whnf
   refine⟨by unfold I64;simp at hp2;simp;omega,?_⟩
   conv=>whnf
   refine⟨by simp,by simp,?_⟩
   conv=>whnf
   refine⟨E,by simp,?_⟩
   rw[e2]
   conv=>whnf
   refine Akz (hf x y hQx hQy) E E E (by simp only[hin];rfl) qq E ?_
   refine oD ?_
   refine kW ?_
   refine⟨fun h2=>?_,fun h2=>?_⟩
   ·refine oO ?_
    refine⟨by unfold I64;simp at hp2;simp;omega,?_⟩
    conv=>whnf
    refine⟨by unfold I64;simp at hp2;simp;omega,?_⟩
    conv=>whnf
    refine⟨by simp,by simp,?_⟩
    conv=>whnf
    refine⟨E,by simp,?_⟩
    rw[e2]
    conv=>whnf
    refine⟨by omega,by simp,?_⟩
    conv=>whnf
    refine⟨E,by simp,?_⟩
    rw[e1]
    conv=>whnf
    refine⟨by omega,by simp,?_⟩
    conv=>whnf
    refine⟨E,by simp,y,E,E,?_⟩
    conv=>whnf
    refine⟨by simp,by simp,?_⟩
    conv=>whnf
    refine⟨E,by simp,x,E,E,?_⟩
    conv=>whnf
    refine kW ?_
    refine⟨by unfold I64;simp at hp2;simp;omega,?_⟩
    conv=>whnf
    have hxy:lt x y=true:=by rw[← hlt];exact h2
    refine S9 (α:={p:List Int × List Int // Qi lt x r=p.2.reverse++Qi lt x p.1∧p.1.length+p.2.length=j+1∧∀ z∈p.1,Q z}) (L:=fun p=>[(0,.osl 0),(1,Aa 0),(2,Aa l.length),(3,.clo (.func f) first cap),(8,Aa ((j:Int)+1)),(9,Aa p.1.1.length)]) (O:=fun p=>[(0,.row 1 Aa (p.1.1.reverse++x::(p.1.2++R)))]) (μ:=fun p=>p.1.1.length) (x:=⟨(y::A,B),hp1,hp2,hp3⟩)
     ⟨(A,y::B),by simp only[hp1,Qi,hxy,if_true];simp,by simp at hp2 ⊢;omega,fun z hz=>hp3 z (by simp[hz])⟩ [] qz
     ⟨⟨rfl,rfl,rfl,rfl,rfl,rfl,Br _,hc',rfl,rfl,congrArg Aa qz,rfl,trivial⟩,⟨.inl (congrArg (Ob.row 1 Aa) ?_),rfl,trivial⟩,rfl,rfl⟩
    simp
   ·refine oO ?_
    have hxy:lt x y=false:=by rw[← hlt];exact h2
    refine iW ?_
    refine Av [] Y qn Y ⟨⟨E,E,E,E,E,E,Br _,hc',congrArg Aa qn,E,Y⟩,⟨.inl (congrArg (Ob.row 1 Aa) ?_),E,Y⟩,E,E⟩
    show (Hb lt (l.take (j+1+1))).reverse++l.drop (j+1+1)=(y::A).reverse++x::(B++R)
    rw[htake,hp1,hR,Qi,hxy]
    simp
 ·have h:=of_decide_eq_false h
  have e:(Hb lt (l.take (j+1))).reverse++l.drop (j+1)=S5 lt l:=by
   rw[List.take_of_length_le qn,List.drop_of_length_le qn,List.append_nil]
   rfl
  rw[e]
  refine oO ?_
  exact B3 E .nil [] [(0,.row 1 Aa (S5 lt l))] (fun _ h=>h) E E ⟨Y,⟨.inl E,E,Y⟩,E,E⟩
theorem Asn (l:List Int) (c:Int→Int→Int) (Q:Int→Prop) (f:FuncId) (first cap:List SV) (hc:(SV.clo (.func f) first cap).inn []=true) (hf:∀ a b,Q a→Q b→J4 Tryz.prog f (first++[Aa a,Aa b]++cap) (Aa (c a b))) (hQ:∀ a∈l,Q a) (hl:l.length<20) :
  Sy.Spec Tryz.prog 333 [.osl 0,Aa l.length,.clo (.func f) first cap] [(0,.row 1 Aa l)] (.tup []) [(0,.row 1 Aa (S5 (fun a b=>decide (c a b<0)) l))]:=cT F333 Tryz.ntmps333 fun F hF=>by
 have hc':(SV.clo (.func f) first cap).inn [0]=true:=U9 _ hc
 have hins:=Aae l c Q f first cap hc hf hQ (by unfold Ap;omega)
 generalize S5 (fun a b=>decide (c a b<0)) l=l' at hins
 conv=>whnf
 refine At 0 (fun j=>[(0,.osl 0),(1,Aa l.length),(2,.clo (.func f) first cap),(6,Aa 20),(7,Aa 0),(8,Aa 20)]) (fun _=>[(0,.row 1 Aa l)]) [] ⟨⟨E,E,E,E,Br _,hc',E,E,E,E,E,E,Y⟩,⟨.inl E,E,Y⟩,E,E⟩ ?_
 intro j hj
 refine oO ?_
 refine⟨fun h=>absurd (of_decide_eq_true h) qn,fun _=>?_⟩
 refine oO ?_
 refine Ad (Af [] E F373 hins (Hy _) ⟨E,Y⟩ (by
  have h0:Ct [0] [.osl 0,Aa 0,Aa l.length,.clo (.func f) first cap]=true:=by simp only[Ct,hc'];rfl
  simp only[J3,Obs.keys,List.map_cons,List.map_nil,h0];rfl) ⟨.inl rfl,trivial⟩) rfl rfl ?_
 refine oO ?_
 refine At 0 (fun j=>[(1,Aa l.length),(6,Aa 20)]) (fun _=>[(0,.row 1 Aa l')]) [] ⟨⟨E,E,E,E,Y⟩,⟨.inl E,E,Y⟩,E,E⟩ ?_
 clear hj
 intro j hj
 refine oO ?_
 refine⟨fun h=>absurd (of_decide_eq_true h) qn,fun _=>?_⟩
 refine oO ?_
 exact B3 E .nil [] [(0,.row 1 Aa l')] (fun _ h=>h) E E ⟨Y,⟨.inl E,E,Y⟩,E,E⟩
theorem Afr (l:List Int) (c:Int→Int→Int) (Q:Int→Prop) (f:FuncId) (first cap:List SV) (hc:(SV.clo (.func f) first cap).inn []=true) (hf:∀ a b,Q a→Q b→J4 Tryz.prog f (first++[Aa a,Aa b]++cap) (Aa (c a b))) (hQ:∀ a∈l,Q a) (hl:l.length<20) :
  Sy.Spec Tryz.prog 281 [.osl 0,.clo (.func f) first cap] [(0,.row 1 Aa l)] (.tup []) [(0,.row 1 Aa (S5 (fun a b=>decide (c a b<0)) l))]:=cT F281 Tryz.ntmps281 fun F hF=>by
 have hc':(SV.clo (.func f) first cap).inn [0]=true:=U9 _ hc
 have hst:=Asn l c Q f first cap hc hf hQ hl
 generalize S5 (fun a b=>decide (c a b<0)) l=l' at hst
 conv=>whnf
 refine Ad (Af [] E F333 hst (Hy _) ⟨E,Y⟩ (by
  have h0:Ct [0] [.osl 0,Aa l.length,.clo (.func f) first cap]=true:=by simp only[Ct,hc'];rfl
  simp only[J3,Obs.keys,List.map_cons,List.map_nil,h0];rfl) ⟨.inl rfl,trivial⟩) rfl rfl ?_
 refine oO ?_
 exact B3 E .nil [] [(0,.row 1 Aa l')] (fun _ h=>h) E E ⟨Y,⟨.inl E,E,Y⟩,E,E⟩
def Abo (n:Net) (a b:Int):Int:=orI [cmpI (nth n.devices a).prio (nth n.devices b).prio,cmpI (nth n.devices a).mac (nth n.devices b).mac]
theorem ranks1 (n:Net) (a b:Int) (ha:0≤a∧a<n.devices.length) (hb:0≤b∧b<n.devices.length):Sy.Spec Tryz.prog 282 [Aa a,Aa b,.ref 8 (Aj n) 0] [] (Aa (Abo n a b)) []:=cT F282 Tryz.ntmps282 fun F hF=>by
 have e1:Abo n a b=orI [cmpI (n.devices[a.toNat]'qn).prio (n.devices[b.toNat]'qn).prio,cmpI (n.devices[a.toNat]'qn).mac (n.devices[b.toNat]'qn).mac]:=by
  rw[Abo,Ak qn,Ak qn]
 rw[e1]
 conv=>whnf
 (repeat' (first | (refine Aq rfl (.cons .tmp .nil) ?_ rfl) | (refine⟨qq,?_⟩;((conv=>whnf))) | (refine⟨by (omega),by (omega),?_⟩;((conv=>whnf))) | (refine cD (Ij (n.devices[a.toNat]'qn).prio (n.devices[b.toNat]'qn).prio) F284 ?_;((refine rd qq ?_);(conv=>whnf))) | (refine cD (Ah0 (n.devices[a.toNat]'qn).mac (n.devices[b.toNat]'qn).mac) F285 ?_;((refine rd qq ?_);(conv=>whnf))) | (refine Arv [28] (orS [cmpI (n.devices[a.toNat]'qn).prio (n.devices[b.toNat]'qn).prio,cmpI (n.devices[a.toNat]'qn).mac (n.devices[b.toNat]'qn).mac] (by simp[Ap])) F283 rfl (.cons (.lit rfl rfl rfl) .nil) rfl qq rfl ?_;((refine rd qq ?_);(conv=>whnf)))))
 all_goals rfl
def Uz (m:Nat):List Int:=(List.range m).map fun (i:Nat)=>(i:Int)
theorem Aco (m:Nat):Uz (m+1)=Uz m++[(m:Int)]:=by simp[Uz,List.range_succ]
theorem Jq (m:Nat):(Uz m).length=m:=by simp[Uz]
def Iq (ord:List Int):Nat→List Int
 | 0=>List.replicate ord.length 0
 | j+1=>(Iq ord j).set (nth ord j).toNat j
theorem Hz (ord:List Int):∀ j,(Iq ord j).length=ord.length
 | 0=>by simp[Iq]
 | j+1=>by simp[Iq,Hz ord j]
def El (n:Net):List Int:=S5 (fun a b=>decide (Abo n a b<0)) (Uz n.devices.length)
def Cw (n:Net):List Int:=Iq (El n) n.devices.length
theorem ranksS (n:Net) (hn:n.Fin):Sy.Spec Tryz.prog 220 [Aj n] [] (.sl 1 Aa (if Ae n then Cw n else [])) []:=cT F220 Tryz.ntmps220 fun F hF=>by
 have hl:=hn.devices
 unfold Ap at hl
 conv=>whnf
 refine c0 (B0 n hn) F23 ?_
 refine oO ?_
 refine⟨fun h=>?_,fun h=>?_⟩
 ·have h:Ae n=false:=by simpa using h
  refine oO ?_
  refine Am 2 1 Aa E ?_
  exact Aq E (.cons .tmp .nil) (by rw[h];rfl) E
 have h:Ae n=true:=by simpa using h
 have h8:n.devices.length≤8:=by
  simp only[Ae,Akm,Bool.and_eq_true,decide_eq_true_eq]at h
  exact h.1.1.1.1.1.1.1.1.1.1.1.1.1.1.1
 rw[h,if_pos rfl,Cw]
 refine oO ?_
 refine A3 1 8 (Aj n) E E E ?_
 refine Bm 3 1000 1 Aa E E ?_
 refine At n.devices.length (fun j=>[(1,.ref 8 (Aj n) 0),(3,.osl 1000),(13,Aa n.devices.length),(14,Aa j)]) (fun j=>[(1000,.row 1 Aa (Uz j))]) [] ⟨⟨E,E,E,E,E,E,E,E,Y⟩,⟨.inl E,E,Y⟩,E,E⟩ ?_
 intro j hj
 refine oO ?_
 refine⟨fun h2=>?_,fun h2=>?_⟩
 ·have hlt:j<n.devices.length:=by simpa using h2
  refine oO ?_
  refine Ad (Ac Γ.toTy 20 E E E E E (.row E) (.lit (l:=[(j:Int)]) E E) qz (by simp[Jq];omega) (by simp[Jq];omega)) E E ?_
  refine oO ?_
  refine iW ?_
  exact An [(1000,20)] hlt ⟨⟨E,E,E,E,E,E,E,E,Y⟩,⟨.inl (congrArg (Ob.row 1 Aa) (Aco j)),E,Y⟩,E,E⟩
 have hjl:j=n.devices.length:=by have:¬ j<n.devices.length:=(by simpa using h2);omega
 subst hjl
 refine oO ?_
 have hsort:=Afr (Uz n.devices.length) (Abo n) (fun a=>0≤a∧a<n.devices.length) 282 [] [.ref 8 (Aj n) 0] rfl (fun a b ha hb=>⟨⟨_,_,F282⟩,ranks1 n a b ha hb⟩) (fun a ha=>by
  obtain ⟨i,hi,rfl⟩:=List.mem_map.1 ha
  have:=List.mem_range.1 hi
  omega) (by rw[Jq];omega)
 have hslen:(El n).length=n.devices.length:=by rw[El,(Ts _ _).length_eq,Jq]
 have hsm:∀ a∈El n,0≤a∧a<n.devices.length:=fun a ha=>by
  have:=(Ts _ _).mem_iff.1 ha
  obtain ⟨i,hi,rfl⟩:=List.mem_map.1 this
  have:=List.mem_range.1 hi
  omega
 change Sy.Spec _ _ _ _ _ [(0,.row 1 Aa (El n))]at hsort
 generalize El n=sl at hsort hslen hsm
 refine Ad (Af [(0,1000)] E F281 hsort E ⟨E,Y⟩ E ⟨.inl E,Y⟩) E E ?_
 refine oO ?_
 refine Ad (B5 Γ.toTy (d:=27) (n:=sl.length) Aa 0 E E E E E E E E qn qn E E E) E E ?_
 refine oO ?_
 refine At sl.length (fun j=>[(5,.osl 27),(28,.osl 1000),(29,Aa sl.length),(30,Aa j)]) (fun j=>[(1000,.row 1 Aa sl),(27,.row 1 Aa (Iq sl j))]) [] ⟨⟨E,E,E,E,E,E,E,E,Y⟩,⟨.inl E,E,.inl E,E,Y⟩,E,E⟩ ?_
 clear hj h2
 intro j hj
 refine oO ?_
 refine⟨fun h2=>?_,fun h2=>?_⟩
 ·have hlt:j<sl.length:=by simpa using h2
  have hmj:=hsm _ (List.getElem_mem hlt)
  have hnth:nth sl j=sl[j]:=Ak (by simpa using hlt)
  have hfl:=Hz sl j
  refine oO ?_
  refine⟨by omega,by omega,?_⟩
  conv=>whnf
  refine⟨E,by omega,?_⟩
  conv=>whnf
  refine⟨hmj.1,by rw[hfl];exact(by omega:sl[j].toNat<sl.length),?_⟩
  conv=>whnf
  refine⟨E,by rw[hfl];exact(by omega:sl[j].toNat<sl.length),(j:Int),E,E,?_⟩
  conv=>whnf
  refine iW ?_
  exact An [] hlt ⟨⟨E,E,E,E,E,E,E,E,Y⟩,⟨.inl E,E,.inl (congrArg (Ob.row 1 Aa) (by rw[Iq,hnth];rfl)),E,Y⟩,E,E⟩
 have hjl:j=n.devices.length:=by
  have:¬ j<sl.length:=by simpa using h2
  omega
 subst hjl
 refine oO ?_
 refine Ao 27 E ?_
 exact dN
def Cm (n:Net) (a b:Int):Bool :=
 if (nth n.devices a).prio≠(nth n.devices b).prio then decide ((nth n.devices a).prio<(nth n.devices b).prio) else
  if (nth n.devices a).mac≠(nth n.devices b).mac then decide ((nth n.devices a).mac<(nth n.devices b).mac) else decide (a<b)
theorem aheadS (n:Net) (a b:Int) (ha:0≤a∧a<n.devices.length) (hb:0≤b∧b<n.devices.length):Sy.Spec Tryz.prog 364 [Aj n,Aa a,Aa b] [] (Ab (Cm n a b)) []:=cT F364 Tryz.ntmps364 fun F hF=>by
 have e1:=Ak (l:=n.devices) (i:=a) qn
 have e2:=Ak (l:=n.devices) (i:=b) qn
 unfold Cm
 rw[e1,e2]
 conv=>whnf
 (repeat' (first | (refine⟨fun h=>?_,fun h=>?_⟩<;>(repeat (first | simp only[bne_iff_ne]at h | simp only[bne_eq_false_iff_eq]at h))<;>((refine oO ?_))) | (refine Aq rfl (.cons .tmp .nil) ?_ rfl) | (refine⟨qq,?_⟩;((conv=>whnf))) | (refine⟨by (omega),by (omega),?_⟩;((conv=>whnf)))))
 all_goals (refine congrArg Ab ?_;clear hF;grind)
def Kj (n:Net):List Int:=(List.range n.devices.length).map fun (i:Nat)=>(((List.range n.devices.length).countP fun k=>Cm n (k:Nat) i:Nat):Int)
theorem Am8 (n:Net) (hn:n.Fin):Sy.Spec Tryz.prog 312 [Aj n] [] (.sl 1 Aa (Kj n)) []:=cT F312 Tryz.ntmps312 fun F hF=>by
 have hl:=hn.devices
 unfold Ap at hl
 conv=>whnf
 refine A3 1 8 (Aj n) E E E ?_
 refine Bm 3 1000 1 Aa E E ?_
 refine At n.devices.length (fun j=>[(1,.ref 8 (Aj n) 0),(3,.osl 1000),(4,Aa j)]) (fun j=>[(1000,.row 1 Aa ((List.range j).map fun (i:Nat)=>(((List.range n.devices.length).countP fun k=>Cm n (k:Nat) i:Nat):Int)))]) [] ⟨⟨E,E,E,E,E,E,Y⟩,⟨.inl E,E,Y⟩,E,E⟩ ?_
 intro j hj
 refine oO ?_
 refine⟨fun h2=>?_,fun h2=>?_⟩
 ·have hlt:j<n.devices.length:=by simpa using h2
  refine oO ?_
  refine At n.devices.length (fun k=>[(1,.ref 8 (Aj n) 0),(3,.osl 1000),(4,Aa j),(5,Aa ((List.range k).countP fun q=>Cm n (q:Nat) j:Nat)),(6,Aa k)]) (fun _=>[(1000,.row 1 Aa ((List.range j).map fun (i:Nat)=>(((List.range n.devices.length).countP fun k=>Cm n (k:Nat) i:Nat):Int)))]) [] ⟨⟨E,E,E,E,E,E,E,E,E,E,Y⟩,⟨.inl E,E,Y⟩,E,E⟩ ?_
  intro k hk
  have hcnt:((List.range k).countP fun q=>Cm n (q:Nat) j)≤k:=by
   have:=List.countP_le_length (p:=fun q=>Cm n (q:Nat) j) (l:=List.range k)
   simpa using this
  refine oO ?_
  refine⟨fun h3=>?_,fun h3=>?_⟩
  ·have hlt2:k<n.devices.length:=by simpa using h3
   refine oO ?_
   refine c0 (aheadS n k j qn qn) F364 ?_
   refine oO ?_
   refine⟨fun h4=>?_,fun h4=>?_⟩
   ·refine oO ?_
    refine iW ?_
    refine iW ?_
    exact An [] hlt2 ⟨⟨E,E,E,E,E,E,congrArg Aa (by rw[List.range_succ];simp[h4]),E,E,E,Y⟩,⟨.inl E,E,Y⟩,E,E⟩
   ·refine oO ?_
    refine iW ?_
    exact An [] hlt2 ⟨⟨E,E,E,E,E,E,congrArg Aa (by rw[List.range_succ];simp[h4]),E,E,E,Y⟩,⟨.inl E,E,Y⟩,E,E⟩
  have hkl:k=n.devices.length:=by
   have:¬ k<n.devices.length:=by simpa using h3
   omega
  subst hkl
  refine oO ?_
  refine Ad (Ac Γ.toTy 30 E E E E E (.row E) (.lit (l:=[_]) E E) qz (by simp;omega) (by simp;omega)) E E ?_
  refine oO ?_
  refine iW ?_
  exact An [(1000,30)] hlt ⟨⟨E,E,E,E,E,E,Y⟩,⟨.inl (congrArg (Ob.row 1 Aa) (by rw[List.range_succ,List.map_append];rfl)),E,Y⟩,E,E⟩
 have hjl:j=n.devices.length:=by
  have:¬ j<n.devices.length:=by simpa using h2
  omega
 subst hjl
 refine oO ?_
 refine Ao 1000 E ?_
 exact dN
end Go.Sy.YteinjapglfkamaaGreat
namespace Go.Sy.YteinjapglfkamaaGreat
theorem key_lt (n:Net) (a b:Int):decide (Abo n a b<0)=if (nth n.devices a).prio≠(nth n.devices b).prio then decide ((nth n.devices a).prio<(nth n.devices b).prio) else
  if (nth n.devices a).mac≠(nth n.devices b).mac then decide ((nth n.devices a).mac<(nth n.devices b).mac) else false:=by
 rw[Abo,M5,M5]
 rfl
theorem Og (n:Net) (a:Int):Cm n a a=false:=by simp[Cm]
theorem Xw (n:Net) {a b c:Int} (h1:Cm n a b=true) (h2:Cm n b c=true):Cm n a c=true:=by
 unfold Cm at *
 generalize nth n.devices a=x at *
 generalize nth n.devices b=y at *
 generalize nth n.devices c=z at *
 grind
theorem Ah6 (n:Net) {a b:Int} (h1:Cm n a b=true):Cm n b a=false:=by
 cases h:Cm n b a with
 | false=>rfl
 | true=>have:=Xw n h1 h;rw[Og]at this;cases this
theorem Ac1 (n:Net) {x y:Int} (h:y<x):decide (Abo n x y<0)=Cm n x y:=by
 rw[key_lt]
 unfold Cm
 generalize nth n.devices x=p at *
 generalize nth n.devices y=q at *
 grind
theorem As8 (n:Net) {x y:Int} (h:y<x) (hk:Cm n x y=false):Cm n y x=true:=by
 unfold Cm at *
 generalize nth n.devices x=p at *
 generalize nth n.devices y=q at *
 grind
theorem Ac4 (n:Net) (x:Int):∀ (r:List Int),(∀ y∈r,y<x)→r.Pairwise (fun a b=>Cm n b a=true)→(Qi (fun a b=>decide (Abo n a b<0)) x r).Pairwise (fun a b=>Cm n b a=true)
 | [],_,_=>by simp[Qi]
 | y::r,hx,hp=>by
  have hy:=hx y qz
  rw[List.pairwise_cons]at hp
  rw[Qi]
  split
  ·rename_i hlt
   rw[Ac1 n hy]at hlt
   rw[List.pairwise_cons]
   refine⟨fun z hz=>?_,Ac4 n x r (fun z hz=>hx z (by simp[hz])) hp.2⟩
   rcases List.mem_cons.1 ((Wn _ x r).mem_iff.1 hz) with rfl | hz
   ·exact hlt
   ·exact hp.1 z hz
  ·rename_i hlt
   rw[Ac1 n hy]at hlt
   have hyx:=As8 n hy (by simpa using hlt)
   rw[List.pairwise_cons,List.pairwise_cons]
   refine⟨fun z hz=>?_,hp⟩
   rcases List.mem_cons.1 hz with rfl | hz
   ·exact hyx
   ·exact Xw n (hp.1 z hz) hyx
theorem Xh (n:Net):∀ m,(Hb (fun a b=>decide (Abo n a b<0)) (Uz m)).Pairwise (fun a b=>Cm n b a=true)
 | 0=>by simp[Hb,Uz]
 | m+1=>by
  rw[Aco,Hb,List.foldl_append]
  refine Ac4 n m _ (fun y hy=>?_) (Xh n m)
  have:=(Ll _ _).mem_iff.1 hy
  obtain ⟨i,hi,rfl⟩:=List.mem_map.1 this
  have:=List.mem_range.1 hi
  omega
theorem V8 (n:Net):(El n).Pairwise (fun a b=>Cm n a b=true):=by
 rw[El,S5,List.pairwise_reverse]
 exact Xh n _
theorem Ads (n:Net):(El n).Perm (Uz n.devices.length):=Ts _ _
theorem Ahz (n:Net) {l:List Int} (hp:l.Pairwise (fun a b=>Cm n a b=true)) (r:Nat) (hr:r<l.length):l.countP (fun k=>Cm n k l[r])=r:=by
 have hsplit:l=l.take r++l[r]::l.drop (r+1):=by
  rw[← List.drop_eq_getElem_cons hr,List.take_append_drop]
 have h1:(l.take r).countP (fun k=>Cm n k l[r])=r:=by
  rw[List.countP_eq_length.2 (fun k hk=>?_),List.length_take]
  ·omega
  ·obtain ⟨i,hi,rfl⟩:=List.mem_iff_getElem.1 hk
   simp only[List.length_take]at hi
   rw[List.getElem_take]
   exact List.pairwise_iff_getElem.1 hp i r qn hr qn
 have h2:(l.drop (r+1)).countP (fun k=>Cm n k l[r])=0:=by
  rw[List.countP_eq_zero]
  intro k hk
  obtain ⟨i,hi,rfl⟩:=List.mem_iff_getElem.1 hk
  simp only[List.length_drop]at hi
  rw[List.getElem_drop]
  have:=List.pairwise_iff_getElem.1 hp r (r+1+i) hr qn qn
  simp[Ah6 n this]
 calc l.countP (fun k=>Cm n k l[r])=(l.take r++l[r]::l.drop (r+1)).countP (fun k=>Cm n k l[r]):=congrArg _ hsplit
  _=r:=by rw[List.countP_append,List.countP_cons,h1,h2,Og];simp
theorem Uu (L:List Int) (hn:L.Nodup) (hm:∀ a∈L,0≤a∧a<L.length):∀ (j:Nat),j≤L.length→∀ (r:Nat) (hr:r<L.length),r<j→(Iq L j)[L[r].toNat]? = some (r:Int)
 | 0,_,r,_,h=>by omega
 | j+1,hj,r,hr,h=>by
  have hmr:=hm _ (List.getElem_mem hr)
  have hlen:=Hz L j
  have hnth:nth L (j:Int)=L[j]:=Ak (by simp;omega)
  rw[Iq,hnth,List.getElem?_set]
  split
  ·rename_i he
   have hmj:=hm _ (List.getElem_mem (show j<L.length by omega))
   have hjr:L[j]=L[r]:=by omega
   have:j=r:=by
    have:=(List.getElem_inj (i:=j) (j:=r) (h₀:=by omega) (h₁:=hr) hn).1 hjr
    exact this
   subst this
   rw[if_pos qn]
  ·rename_i he
   have hne:r≠j:=fun e=>he (by subst e;rfl)
   exact Uu L hn hm j qn r hr qn
theorem Ajj (m:Nat):(Uz m).Nodup:=by
 rw[Uz]
 exact List.Pairwise.map _ (fun (a b:Nat) (h:a≠b)=>by intro e;exact h qn) List.nodup_range
theorem Zp (n:Net):Cw n=Kj n:=by
 have hp:=Ads n
 have hlen:(El n).length=n.devices.length:=by rw[hp.length_eq,Jq]
 have hnd:(El n).Nodup:=hp.nodup_iff.2 (Ajj _)
 have hm:∀ a∈El n,0≤a∧a<(El n).length:=fun a ha=>by
  obtain ⟨i,hi,rfl⟩:=List.mem_map.1 (hp.mem_iff.1 ha)
  have:=List.mem_range.1 hi
  omega
 refine List.ext_getElem? fun i=>?_
 rcases Nat.lt_or_ge i n.devices.length with hi | hi
 ·have hin:(i:Int)∈El n:=hp.mem_iff.2 (List.mem_map.2 ⟨i,List.mem_range.2 hi,rfl⟩)
  obtain ⟨r,hr,he⟩:=List.mem_iff_getElem.1 hin
  have h1:=Uu (El n) hnd hm n.devices.length qn r hr qn
  rw[he]at h1
  have h2:=Ahz n (V8 n) r hr
  rw[he,hp.countP_eq]at h2
  rw[Cw,Kj,List.getElem?_map,List.getElem?_range hi]
  simp only[Int.toNat_natCast]at h1
  rw[h1]
  simp only[Option.map_some]
  congr 2
  rw[← h2,Uz,List.countP_map]
  rfl
 ·rw[List.getElem?_eq_none,List.getElem?_eq_none]
  ·simp[Kj];omega
  ·rw[Cw,Hz];omega
theorem Atw {C:Cx} {k:List KI} {s:SS} (d:Nat) (x:SV) (h:Vw s [] (s.σ d) x) (hg:G C k ⟨upd s.σ d x,s.h⟩):G C k s:=fun κ a w hs =>
 hg κ a w ⟨hs.defers,hs.size,hs.inv,hs.ctx,fun i=>by
  show Rd κ w (upd s.σ d x i) _
  by_cases hi:i=d
  ·subst hi;rw[By];exact Vw.rd hs.inv (fun _ hn=>by cases hn) h (hs.slot i)
  ·rw[Ck _ _ hi];exact hs.slot i,hs.obj⟩
end Go.Sy.YteinjapglfkamaaGreat
namespace Go.Sy.YteinjapglfkamaaGreat
open Go.Proofs
attribute [local irreducible] Go.Sy.G Go.Sy.DR
set_option maxRecDepth 20000
set_option maxHeartbeats 4000000
def I0 (p:Port):Bool:=decide (p.cost<1) || decide (p.cost>65535)
theorem costs1 (p:Port):Sy.Spec Tryz.prog 280 [Bh p] [] (Ab (I0 p)) []:=cT F280 Tryz.ntmps280 fun F hF=>by
 conv=>whnf
 (repeat' (first | (refine⟨fun h=>?_,fun h=>?_⟩<;>(repeat (first | simp only[decide_eq_true_eq]at h | simp only[decide_eq_false_iff_not]at h))<;>((refine oO ?_))) | (refine Aq rfl (.cons .tmp .nil) ?_ rfl)))
 all_goals (refine congrArg Ab ?_;clear hF;grind [I0])
theorem Ua (l:List Port) (p:Port→Bool) (f:FuncId) (first cap:List SV) (hc:(SV.clo (.func f) first cap).inn []=true) (hf:∀ x∈l,J4 Tryz.prog f (first++[Bh x]++cap) (Ab (p x))) (hl:Ap l) :
  Sy.Spec Tryz.prog 279 [.sl 7 Bh l,.clo (.func f) first cap] [] (Ab (l.any p)) []:=cT F279 Tryz.ntmps279 fun F hF=>by
 have h0:Ct [] [.sl 7 Bh l,.clo (.func f) first cap]=true:=by simp only[Ct,hc];rfl
 conv=>whnf
 refine Vx (X4 l p f first cap hc hf hl) F332 E E (by simp only[h0];rfl) E E ?_
 refine oO ?_
 exact Aq E (.cons .tmp .nil) (congrArg Ab (Aaf _ _).symm) E
def Cq (n:Net):Bool:=!(n.ports.any I0)
theorem Aru (n:Net) (hl:Ap n.ports):Sy.Spec Tryz.prog 219 [Aj n] [] (Ab (Cq n)) []:=cT F219 Tryz.ntmps219 fun F hF=>by
 conv=>whnf
 refine c0 (Ua n.ports I0 280 [] [] E (fun x _=>⟨⟨_,_,F280⟩,costs1 x⟩) hl) F279 ?_
 refine oO ?_
 exact dN
theorem And (n:Net) (hl:Ap n.ports):Sy.Spec Tryz.prog 311 [Aj n] [] (Ab (Cq n)) []:=cT F311 Tryz.ntmps311 fun F hF=>by
 unfold Ap at hl
 conv=>whnf
 refine A3 1 8 (Aj n) E E E ?_
 refine Ay n.ports.length (fun j=>Dd (fun _ p=>!(I0 p)) n.ports j) (fun j=>[(1,.ref 8 (Aj n) 0),(3,Aa j)]) (fun _=>[]) [] (A2 _ _) ⟨⟨E,E,E,E,Y⟩,Y,E,E⟩ ?_
 intro j hj hI
 refine oO ?_
 (repeat' (first | (refine⟨fun h=>?_,fun h=>?_⟩<;>(repeat (first | simp only[decide_eq_true_eq]at h | simp only[decide_eq_false_iff_not]at h))<;>((refine oO ?_);repeat((refine aT ?_);(refine oO ?_)))) | (refine Aq rfl (.cons .tmp .nil) ?_ rfl) | (refine⟨qq,?_⟩;((conv=>whnf))) | (refine⟨by (omega),by (omega),?_⟩;((conv=>whnf))) | (refine⟨by (unfold I64;omega),?_⟩;((conv=>whnf))) | refine Av [] hI qn ?_ ⟨⟨rfl,rfl,rfl,rfl,trivial⟩,trivial,rfl,rfl⟩))
 all_goals (simp only[Int.toNat_natCast]at *)
 all_goals first
  | exact A1 hI qn (by clear hI hF;grind [I0])
  | (refine congrArg Ab ?_;rw[Cq,Mq (j:=j) qn (by clear hI hF;grind [I0])];rfl)
  | (refine congrArg Ab ?_;rw[Cq,Kk hI qn];rfl)
def Ix (n:Net):Bool :=
 decide (200<n.devices.length) || decide (200<n.ports.length) || decide (200<n.links.length) || decide (200<n.domains.length) || decide (200<n.statics.length) || decide (200<n.floods.length) || decide (200<n.vrfs.length) || decide (200<n.irbs.length) ||
  n.ports.any (fun p=>decide (100<p.tagged.length)) || n.domains.any (fun d=>decide (100<d.peers.length)) || n.floods.any (fun f=>decide (100<f.addrs.length)) || n.vrfs.any (fun v=>decide (100<v.imports.length) || decide (100<v.exports.length))
theorem Vi {n:Net} (h:Ix n=false):n.Fin:=by
 simp only[Ix,Bool.or_eq_false_iff,decide_eq_false_iff_not,List.any_eq_false,decide_eq_true_eq,Bool.or_eq_true,not_or]at h
 obtain ⟨⟨⟨⟨⟨⟨⟨⟨⟨⟨⟨h1,h2⟩,h3⟩,h4⟩,h5⟩,h6⟩,h7⟩,h8⟩,h9⟩,h10⟩,h11⟩,h12⟩:=h
 exact⟨by unfold Ap;omega,by unfold Ap;omega,by unfold Ap;omega,by unfold Ap;omega,by unfold Ap;omega,by unfold Ap;omega,by unfold Ap;omega,by unfold Ap;omega,
  fun p hp=>by have:=h9 p hp;unfold Ap;omega,fun p hp=>by have:=h10 p hp;unfold Ap;omega,fun p hp=>by have:=h11 p hp;unfold Ap;omega,fun p hp=>by have:=h12 p hp;unfold Ap;omega,fun p hp=>by have:=h12 p hp;unfold Ap;omega⟩
end Go.Sy.YteinjapglfkamaaGreat
namespace Go.Sy.YteinjapglfkamaaGreat
open Go.Proofs
attribute [local irreducible] Go.Sy.G Go.Sy.DR
set_option maxRecDepth 100000
set_option maxHeartbeats 4000000
theorem A9 {α:Type} {l:List α} {i:Nat} {d:α} (h:i<l.length):l.getD i d=l[i]:=by simp[List.getD,h]
theorem Kr {n:Net} (h:Ae n=true) {i:Nat} (hi:i<n.ports.length):D9 n i n.ports[i]=true:=by
 simp only[Ae,Bool.and_eq_true]at h
 exact allB_iff.1 h.1.1.1.1.1.2 i hi
theorem Th {n:Net} (h:Ae n=true) {i:Nat} (hi:i<n.links.length):K1 n i n.links[i]=true:=by
 simp only[Ae,Bool.and_eq_true]at h
 exact allB_iff.1 h.1.1.1.1.2 i hi
theorem C1 {n:Net} (h:Ae n=true):n.devices.length≤8∧n.ports.length≤40∧n.links.length≤20:=by
 simp only[Ae,Akm,Bool.and_eq_true,decide_eq_true_eq]at h
 omega
theorem E5 {n:Net} (h:Ae n=true) {i:Nat} (hi:i<n.ports.length):n.ports[i].link=-1∨(0≤n.ports[i].link∧n.ports[i].link<n.links.length):=by
 have:=Kr h hi
 simp only[D9,Ai,Bool.and_eq_true,Bool.or_eq_true,beq_iff_eq,decide_eq_true_eq]at this
 rcases this.2 with h1 | h1
 ·exact .inl h1
 ·exact .inr h1.1
theorem O8 {n:Net} (h:Ae n=true) {i:Nat} (hi:i<n.ports.length):0≤n.ports[i].dev∧n.ports[i].dev<n.devices.length:=by
 have:=Kr h hi
 simp only[D9,Ai,Bool.and_eq_true,decide_eq_true_eq]at this
 exact this.1.1.1.1.1.1.1.1
theorem I5 {n:Net} (h:Ae n=true) {i:Nat} (hi:i<n.links.length):(0≤n.links[i].a∧n.links[i].a<n.ports.length)∧0≤n.links[i].b∧n.links[i].b<n.ports.length:=by
 have:=Th h hi
 simp only[K1,Ai,Bool.and_eq_true,decide_eq_true_eq]at this
 exact⟨this.1.1.1.1,this.1.1.1.2⟩
def Bn (n:Net) (i:Nat):Int:=(nth n.ports i).dev
def If (n:Net) (i:Nat):Int:=(nth n.ports i).cost
theorem Kx {n:Net} (hcost:Cq n=true) {i:Nat} (hi:i<n.ports.length):1≤If n i∧If n i≤65535:=by
 rw[If,Ak (l:=n.ports) (i:=(i:Int)) (by simpa using hi)]
 simp only[Cq,Bool.not_eq_true',List.any_eq_false]at hcost
 have:=hcost _ (List.getElem_mem hi)
 simp only[I0,Bool.or_eq_true,decide_eq_true_eq,not_or]at this
 simp only[Int.toNat_natCast]
 omega
def Ky (ls:List Link) (i:Int):Int:=match ls.find? (fun l=>l.a == i || l.b == i) with | some l=>if l.a=i then l.b else l.a | none=>-1
theorem Ajh (n:Net) (i:Int) (hl:Ap n.links):Sy.Spec Tryz.prog 211 [Aj n,Aa i] [] (Aa (Ky n.links i)) []:=cT F211 Tryz.ntmps211 fun F hF=>by
 unfold Ap at hl
 conv=>whnf
 refine A3 2 8 (Aj n) E E E ?_
 refine Ay n.links.length (fun j=>∀ q (hq:q<n.links.length),q<j→n.links[q].a≠i∧n.links[q].b≠i) (fun j=>[(1,Aa i),(2,.ref 8 (Aj n) 0),(5,Aa j)]) (fun _=>[]) [] (fun q _ h=>absurd h qn) ⟨⟨E,E,E,E,E,E,Y⟩,Y,E,E⟩ ?_
 intro j hj hI
 refine oO ?_
 refine⟨fun h=>?_,fun h=>?_⟩
 ·have hlt:j<n.links.length:=by simpa using h
  have e1:n.links[(j:Int).toNat]'qn=n.links[j]:=rfl
  have hfind:(n.links[j].a=i∨n.links[j].b=i)→n.links.find? (fun l=>l.a == i || l.b == i)=some n.links[j]:=fun h=>by
   rw[List.find?_eq_some_iff_getElem]
   refine⟨by simpa using h,j,hlt,E,fun q hq=>?_⟩
   have:=hI q qn hq
   simp[this.1,this.2]
  obtain ⟨l,hlk⟩:∃ l,n.links[j]=l:=⟨_,rfl⟩
  rw[hlk]at e1 hfind
  refine oO ?_
  refine⟨E,by omega,by omega,?_⟩
  rw[e1]
  conv=>whnf
  refine⟨fun h1=>?_,fun h1=>?_⟩
  ·have ha:l.a=i:=by simpa using h1
   have hres:Ky n.links i=l.b:=by rw[Ky,hfind (.inl ha)];simp[ha]
   rw[hres]
   refine oO ?_
   refine⟨E,by omega,by omega,?_⟩
   rw[e1]
   conv=>whnf
   exact dN
  have ha:¬ l.a=i:=by simpa using h1
  refine oO ?_
  refine⟨E,by omega,by omega,?_⟩
  rw[e1]
  conv=>whnf
  refine⟨fun h2=>?_,fun h2=>?_⟩
  ·have hb:l.b=i:=by simpa using h2
   have hres:Ky n.links i=l.a:=by rw[Ky,hfind (.inr hb)];simp[ha]
   rw[hres]
   refine oO ?_
   refine⟨E,by omega,by omega,?_⟩
   rw[e1]
   conv=>whnf
   exact dN
  have hb:¬ l.b=i:=by simpa using h2
  refine oO ?_
  refine iW ?_
  refine Av [] hI hlt (fun q hq hqj=>?_) ⟨⟨E,E,E,E,E,E,Y⟩,Y,E,E⟩
  by_cases hqe:q=j
  ·subst hqe;rw[hlk];exact⟨ha,hb⟩
  ·exact hI q hq qn
 ·have hres:Ky n.links i=-1:=by
   have:¬ j<n.links.length:=by simpa using h
   rw[Ky,List.find?_eq_none.2]
   intro x hx
   obtain ⟨q,hq,rfl⟩:=List.getElem_of_mem hx
   have:=hI q hq qn
   simp[this.1,this.2]
  rw[hres]
  refine oO ?_
  exact dN
end Go.Sy.YteinjapglfkamaaGreat
namespace Go.Sy.YteinjapglfkamaaGreat
open Go.Proofs
attribute [local irreducible] Go.Sy.G Go.Sy.DR
set_option maxRecDepth 20000
set_option maxHeartbeats 4000000
theorem Anq {n:Net} (hb:Ae n=true) (i:Int):Ky n.links i=En n i:=by
 have hlr:∀ (k:Nat) (hk:k<n.links.length),K1 n k n.links[k]=true:=fun k hk=>by
  have h:=hb
  simp only[Ae,Bool.and_eq_true]at h
  exact allB_iff.1 h.1.1.1.1.2 k hk
 have hin:∀ (k:Nat) (hk:k<n.links.length),(n.links[k].a=i∨n.links[k].b=i)→(0≤i∧i.toNat<n.ports.length)∧(nth n.ports i).link=k:=fun k hk h=>by
  have:=hlr k hk
  simp only[K1,Ai,Bool.and_eq_true,decide_eq_true_eq,beq_iff_eq]at this
  rcases h with h | h<;>rw[h]at this
  ·exact⟨by omega,this.1.2⟩
  ·exact⟨by omega,this.2⟩
 rw[Ky,En]
 cases hf:n.links.find? (fun l=>l.a == i || l.b == i) with
 | none =>
  rw[List.find?_eq_none]at hf
  dsimp only
  split
  ·rename_i hc
   have hk:i.toNat<n.ports.length:=by omega
   have e1:nth n.ports i=n.ports[i.toNat]:=Ak hk
   rw[e1]at hc
   have hq:=Lp hb hk hc.2.1
   have e2:nth n.links n.ports[i.toNat].link=n.links[n.ports[i.toNat].link.toNat]:=Ak hq.1
   rw[e2]at hq
   have:=hf _ (List.getElem_mem hq.1)
   have e3:((i.toNat:Nat):Int)=i:=by omega
   rw[e3]at hq
   simp at this
   rcases hq.2 with h | h
   ·exact absurd h this.1
   ·exact absurd h this.2
  ·rfl
 | some l =>
  rw[List.find?_eq_some_iff_getElem]at hf
  obtain ⟨hl,k,hk,rfl,_⟩:=hf
  have h2:=hin k hk (by simpa using hl)
  have e2:nth n.links (nth n.ports i).link=n.links[k]:=by rw[h2.2];exact Ak (l:=n.links) (i:=(k:Int)) (by simpa using hk)
  rw[if_pos ⟨by omega,by omega,hb⟩,e2]
theorem Am9 (n:Net) (hn:n.Fin) (hb:Ae n=true) (i:Int):Sy.Spec Tryz.prog 211 [Aj n,Aa i] [] (Aa (En n i)) []:=by
 rw[← Anq hb]
 exact Ajh n i hn.links
end Go.Sy.YteinjapglfkamaaGreat
namespace Go.Sy.YteinjapglfkamaaGreat
open Go.Proofs
structure EntryM where
 mac:Nat
 where_:Int
 seen:Int
deriving DecidableEq
def Al (e:EntryM):SV:=.agg [As e.mac,Aa e.where_,Aa e.seen]
def Ex (m:Nat):Bool:=decide (m≤281474976710655) && !Ed m
def Cu (now:Int):Bool:=decide (0≤now) && decide (now≤1099511627776)
def Cz (t:List EntryM) (m:Nat):Int:=Dq (fun e=>decide (e.mac=m)) t
def I9 (t:List EntryM) (i:Nat) (e:EntryM):Bool:=Ex e.mac && Cu e.seen && decide (Cz t e.mac=i)
def tableB (t:List EntryM):Bool:=decide (t.length≤8) && Dg (I9 t) t
def findE (t:List EntryM) (m:Nat):Int × Bool:=if Cz t m<0 then (0,false) else (((t[(Cz t m).toNat]?).map (·.where_)).getD 0,true)
def oldestU (t:List EntryM):Nat→Nat
 | 0=>0
 | j+1=>if ((t[j]?).map (·.seen)).getD 0<((t[oldestU t j]?).map (·.seen)).getD 0 then j else oldestU t j
def learnT (t:List EntryM) (m:Nat) (wh now:Int):List EntryM :=
 if tableB t=false∨Ex m=false∨Cu now=false then t
 else if 0≤Cz t m then t.set (Cz t m).toNat ⟨m,wh,now⟩
 else (if t.length=8 then t.eraseIdx (oldestU t t.length) else t)++[⟨m,wh,now⟩]
def ageT (t:List EntryM) (now:Int):List EntryM:=if tableB t=false∨Cu now=false then t else t.filter fun e=>decide (now-4≤e.seen)
def noF:FrameM:=⟨0,0,0,[]⟩
structure FrameOK (f:FrameM):Prop where
 dst:f.dst<281474976710656
 src:f.src<281474976710656
 typ:f.typ≤65535
 body:f.body.length≤1504
def takeF (b:List UInt8):FrameM × Int :=
 if b.length<14 then (noF,10) else if 1518<b.length then (noF,14)
 else (⟨Hl (b.take 6),Hl ((b.drop 6).take 6),Hl ((b.drop 12).take 2),b.drop 14⟩,0)
def X1 (f:FrameM):List UInt8:=frame f.dst f.src f.typ f.body
def stripT (f:FrameM):FrameM × Int × Int × Int :=
 if f.typ≠33024 then (noF,0,0,11) else if f.body.length<4 then (noF,0,0,10)
 else if 4094<Hl (f.body.take 2) % 4096∨Hl ((f.body.drop 2).take 2)=33024 then (noF,0,0,15)
 else (⟨f.dst,f.src,Hl ((f.body.drop 2).take 2),f.body.drop 4⟩,(Hl (f.body.take 2) % 4096:Nat),(Hl (f.body.take 2) / 4096:Nat),0)
def tagT (f:FrameM) (v:Int):FrameM × Int :=
 if f.typ=33024 then (noF,15) else if 1500<f.body.length then (noF,14)
 else (⟨f.dst,f.src,33024,[UInt8.ofNat (v.toNat / 256),UInt8.ofNat v.toNat,UInt8.ofNat (f.typ / 256),UInt8.ofNat f.typ]++f.body⟩,0)
def vlanT (p:Port) (tagged:Bool) (vid:Int):Int × Bool :=
 if tagged=false∨vid=0 then (p.native,decide (p.native≠0)) else if inB p.tagged vid=true then (vid,true) else (0,false)
def Ja (n:Net) (port:Int) (f:FrameM) (tagged:Bool) (vid:Int):Int × FrameM × Int :=
 if Ed f.src=true then (0,noF,11)
 else if (vlanT (nth n.ports port) tagged vid).2=false then (0,noF,16)
 else (Lq n (nth n.ports port).dev (vlanT (nth n.ports port) tagged vid).1,f,0)
def enterT (n:Net) (port:Int) (b:List UInt8):Int × FrameM × Int :=
 if Ai port n.ports.length=false∨Ae n=false then (0,noF,2)
 else if (takeF b).2≠0 then (0,noF,(takeF b).2)
 else if (takeF b).1.typ=33024 then
  (if (stripT (takeF b).1).2.2.2≠0 then (0,noF,(stripT (takeF b).1).2.2.2) else Ja n port (stripT (takeF b).1).1 true (stripT (takeF b).1).2.1)
 else Ja n port (takeF b).1 false 0
def leaveT (n:Net) (port dom:Int) (f:FrameM):List UInt8 × Int :=
 if Ai port n.ports.length=false∨Ai dom n.domains.length=false∨Ae n=false then ([],2)
 else if (nth n.ports port).dev≠(nth n.domains dom).dev∨Iu (nth n.ports port) (nth n.domains dom).vlan=false then ([],16)
 else if f.typ=33024 then ([],15)
 else if (nth n.domains dom).vlan=(nth n.ports port).native then (X1 f,0)
 else if (tagT f (nth n.domains dom).vlan).2≠0 then ([],(tagT f (nth n.domains dom).vlan).2)
 else (X1 (tagT f (nth n.domains dom).vlan).1,0)
def linkT (n:Net) (port:Int) (b:List UInt8):Int × Int × FrameM × Int :=
 if En n port<0 then (0,0,noF,2) else (En n port,enterT n (En n port) b)
structure QueuedM where
 from_:Int
 peer:Int
 origin:Int
 frame:FrameM
def A0 (q:QueuedM):SV:=.agg [Aa q.from_,Aa q.peer,Aa q.origin,As q.frame.dst,As q.frame.src,Aa q.frame.typ,.sl 1 Ag q.frame.body]
def noQ:QueuedM:=⟨0,0,0,noF⟩
def pushT (l:List QueuedM) (q:QueuedM):List QueuedM × Bool:=if 64≤l.length then (l,false) else (l++[q],true)
def takeT (l:List QueuedM) (at_:Int):QueuedM × List QueuedM × Bool :=
 if at_<0∨(l.length:Int)≤at_ then (noQ,l,false) else ((l[at_.toNat]?).getD noQ,l.eraseIdx at_.toNat,true)
def usableB (n:Net) (fw:List Bool) (p:Int):Bool:=decide ((nth n.ports p).link<0) || (fw[(nth n.ports p).link.toNat]?).getD false
def roomB (n:Net) (fw:List Bool) (dom from_:Int):Bool :=
 Ai dom n.domains.length && decide (fw.length=n.links.length) && Ae n && (decide (from_=-1) || decide (from_=-2) || inB (Ax n dom) from_)
def Ch (n:Net) (fw:List Bool) (from_:Int) (l:List Int):List Int:=l.filter fun p=>!(decide (p=from_) || !(usableB n fw p))
def peersOut (n:Net) (dom from_:Int):List Int:=if from_=-1 then [] else (nth n.domains dom).peers
def floodT (n:Net) (fw:List Bool) (dom from_:Int):List Int × List Int × Int :=
 if roomB n fw dom from_=false then ([],[],2) else (Ch n fw from_ (Ax n dom),peersOut n dom from_,0)
def Ds (n:Net) (dom:Int) (m:Nat):Int:=Dq (fun s:Static=>decide (s.domain=dom) && decide (s.mac=(m:Int))) n.statics
def decideT (n:Net) (fw:List Bool) (t:List EntryM) (dom from_:Int) (m:Nat):List Int × List Int × Int :=
 if roomB n fw dom from_=false then ([],[],2)
 else if Ed m=true then (Ch n fw from_ (Ax n dom),peersOut n dom from_,0)
 else if 0≤Ds n dom m then (Ch n fw from_ [(nth n.statics (Ds n dom m)).port],[],0)
 else if (findE t m).2=true∧0≤(findE t m).1∧inB (Ax n dom) (findE t m).1=true then (Ch n fw from_ [(findE t m).1],[],0)
 else if (findE t m).2=true∧(findE t m).1<0∧inB (nth n.domains dom).peers (-1-(findE t m).1)=true then ([],if from_=-1 then [] else [-1-(findE t m).1],0)
 else (Ch n fw from_ (Ax n dom),peersOut n dom from_,0)
end Go.Sy.YteinjapglfkamaaGreat
