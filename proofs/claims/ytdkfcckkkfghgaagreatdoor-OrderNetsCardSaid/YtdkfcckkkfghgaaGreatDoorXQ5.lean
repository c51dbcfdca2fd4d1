/-
  I31 I7l I8l S3 I37 I15 I16 I17 I18 I12 I13 I14 I19 Sy30 Sy31 Sy32 Sy33: parts of a proof, joined by program.
-/
import Derived.Test.YtdkfcckkkfghgaaGreatDoorXQ4
import Derived.Test.YtdkfcckkkfghgaaGreatDoorXQ3
import Derived.Test.YtdkfcckkkfghgaaGreatDoorXQ1
set_option linter.all false
set_option linter.unusedVariables false
set_option linter.unusedSimpArgs false
set_option linter.deprecated false
namespace Go.Sy.YtdkfcckkkfghgaaGreatDoor
open Go.Proofs
attribute [local irreducible] Go.Sy.G Go.Sy.DR
set_option maxRecDepth 100000
set_option maxHeartbeats 4000000
theorem Kj (a:ByteArray):Sy.Spec Tryz.prog 92 [Ae a] [] (Ab false) []:=cT F92 Tryz.ntmps92 fun F hF=>by
 refine T ?_
 exact Aw q_ (.cons .tmp .nil) (congrArg Ab qe) q_
theorem Ki (a:Int):Sy.Spec Tryz.prog 94 [A7 a] [] (Ab false) []:=cT F94 Tryz.ntmps94 fun F hF=>by
 refine T ?_
 exact Aw q_ (.cons .tmp .nil) (congrArg Ab qe) q_
theorem Jy (a b:ByteArray):Sy.Spec Tryz.prog 43 [Ae a,Ae b] [] (Aa (Lq a b)) []:=cT F43 Tryz.ntmps43 fun F hF=>by
 have l1:=T4 a.data.toList b.data.toList
 have l2:=T4 b.data.toList a.data.toList
 have han:=cmpB_ok.anti a b
 have han2:=cmpB_ok.anti b a
 have hv:=Apj (a:=a.data.toList) (b:=b.data.toList)
 have hc:Bg Vh a.data.toList b.data.toList=Lq a b:=rfl
 have hc2:Bg Vh b.data.toList a.data.toList=Lq b a:=rfl
 rw[hc]at l1 hv
 rw[hc2]at l2
 rw[← Lib.toList_data,← Lib.toList_data]at l1 l2 hv
 by_cases h1:Lq a b<0
 ·have f1:Op.bytesLess a.toList b.toList=true:=by rw[l1];exact decide_eq_true h1
  have hr:Lq a b=-1:=by rw[hv,if_pos f1]
  rw[hr]
  refine T ?_
  refine C (Kj a) F92 ?_
  refine C (Kj b) F92 ?_
  exact D
 ·have f1:Op.bytesLess a.toList b.toList=false:=by rw[l1];exact decide_eq_false h1
  rw[f1,if_neg qe]at hv
  by_cases h2:0<Lq a b
  ·have hne:(a == b)=false:=by
    cases hx:(a == b)
    ·rfl
    ·have e:=(Ho _ _).1 hx
     rw[e,if_pos rfl]at hv
     rw[e]at h2;omega
   have f2:(!(Op.bytesLess a.toList b.toList || a == b))=true:=by rw[f1,hne];rfl
   have hr:Lq a b=1:=by
    rw[hv]
    split
    ·rename_i e
     rw[if_pos e]at hv;omega
    ·rfl
   rw[hr]
   refine T ?_
   refine C (Kj a) F92 ?_
   refine C (Kj b) F92 ?_
   exact D
  ·have hr:Lq a b=0:=by omega
   have f2:(!(Op.bytesLess a.toList b.toList || a == b))=false:=by rw[(Ho _ _).2 (Amh hr)];simp
   rw[hr]
   refine T ?_
   refine C (Kj a) F92 ?_
   refine C (Kj b) F92 ?_
   exact D
theorem Wi (a b:Int):Sy.Spec Tryz.prog 45 [A7 a,A7 b] [] (Aa (Ch a b)) []:=cT F45 Tryz.ntmps45 fun F hF=>by
 by_cases h1:a<b
 ·have hr:Ch a b=-1:=by rw[Ch,if_pos h1]
  have f1:decide (a<b)=true:=decide_eq_true h1
  rw[hr]
  refine T ?_
  refine C (Ki a) F94 ?_
  refine C (Ki b) F94 ?_
  exact D
 ·have f1:decide (a<b)=false:=decide_eq_false h1
  by_cases h2:a>b
  ·have hr:Ch a b=1:=by rw[Ch,if_neg h1,if_pos h2]
   have f2:decide (a>b)=true:=decide_eq_true h2
   rw[hr]
   refine T ?_
   refine C (Ki a) F94 ?_
   refine C (Ki b) F94 ?_
   exact D
  ·have hr:Ch a b=0:=by rw[Ch,if_neg h1,if_neg h2]
   have f2:decide (a>b)=false:=decide_eq_false h2
   rw[hr]
   refine T ?_
   refine C (Ki a) F94 ?_
   refine C (Ki b) F94 ?_
   exact D
theorem Ai2 (y:Int):Ch y y=0:=by simp[Ch]
theorem S1:∀ {j:Nat} {l m:List Int},j≤l.length→j≤m.length→l.take j=m.take j→Bg Ch l m=Bg Ch (l.drop j) (m.drop j)
 | 0,l,m,_,_,_=>by rw[List.drop_zero,List.drop_zero]
 | j+1,[],m,h,_,_=>by simp at h
 | j+1,x::l,[],_,h,_=>by simp at h
 | j+1,x::l,y::m,h1,h2,h=>by
  simp only[List.take_succ_cons,List.cons.injEq]at h
  rw[Bg,List.drop_succ_cons,List.drop_succ_cons,← S1 (by simpa using h1) (by simpa using h2) h.2,h.1,Ai2]
  rfl
theorem Ih (l m:List Int) (hl:l.length≤1000000) (hm1:m.length≤1000000):Sy.Spec Tryz.prog 46 [.sl 1 Aa l,.sl 1 Aa m] [] (Aa (Bg Ch l m)) []:=cT F46 Tryz.ntmps46 fun F hF=>by
 refine T ?_
 refine Bf l.length (fun j=>j≤m.length∧l.take j=m.take j) (fun j=>[(0,.sl 1 Aa l),(1,.sl 1 Aa m),(9,.sl 1 Aa l),(10,Aa l.length),(11,Aa j)]) (fun _=>[]) [] ⟨by simp,q_⟩ U ?_
 intro j hj hI
 have hsk:=S1 hj hI.1 hI.2
 refine T ?_
 refine⟨fun h=>?_,fun h=>?_⟩
 ·have hlt:j<l.length:=qA h
  have hlt0:((j:Nat):Int).toNat<l.length:=hlt
  clear h
  rw[List.drop_eq_getElem_cons hlt]at hsk
  by_cases hjm:j<m.length
  ·have hjm0:((j:Nat):Int).toNat<m.length:=hjm
   rw[List.drop_eq_getElem_cons hjm,Bg]at hsk
   have q:=Ia (l[((j:Nat):Int).toNat]'hlt0) (m[((j:Nat):Int).toNat]'hjm0)
   have hx:Ch (l[((j:Nat):Int).toNat]'hlt0) (m[((j:Nat):Int).toNat]'hjm0)=Ch l[j] m[j]:=rfl
   by_cases h0:Ch l[j] m[j]=0
   ·have f0:(Ch (l[((j:Nat):Int).toNat]'hlt0) (m[((j:Nat):Int).toNat]'hjm0) != 0)=false:=by rw[hx,h0];rfl
    refine T ?_
    refine C q F25 ?_
    refine Bi [] hI j_ ⟨hjm,?_⟩ U
    rw[List.take_succ_eq_append_getElem hlt,List.take_succ_eq_append_getElem hjm,hI.2,Vi h0]
   ·have f0:(Ch (l[((j:Nat):Int).toNat]'hlt0) (m[((j:Nat):Int).toNat]'hjm0) != 0)=true:=by rw[hx,bne_iff_ne];exact h0
    rw[hsk,Kz,if_pos h0,← hx]
    refine T ?_
    refine C q F25 ?_
    exact D
  ·rw[List.drop_eq_nil_of_le (by omega:m.length≤j)]at hsk
   have hr:Bg Ch l m=1:=hsk
   rw[hr]
   refine T ?_
   exact D
 ·have hje:j=l.length:=qB h
  subst hje
  clear h
  rw[List.drop_length]at hsk
  by_cases h1:l.length<m.length
  ·rw[List.drop_eq_getElem_cons h1]at hsk
   have hr:Bg Ch l m=-1:=hsk
   rw[hr]
   refine T ?_
   exact D
  ·rw[List.drop_eq_nil_of_le j_]at hsk
   have hr:Bg Ch l m=0:=hsk
   rw[hr]
   refine T ?_
   exact D
theorem Td (l m:List Int) (hl:l.length≤1000000) (hm1:m.length≤1000000):Sy.Spec Tryz.prog 47 [.sl 1 A7 l,.sl 1 A7 m] [] (Aa (Bg Ch l m)) []:=cT F47 Tryz.ntmps47 fun F hF=>by
 refine T ?_
 refine Bf l.length (fun j=>j≤m.length∧l.take j=m.take j) (fun j=>[(0,.sl 1 A7 l),(1,.sl 1 A7 m),(9,.sl 1 A7 l),(10,Aa l.length),(11,Aa j)]) (fun _=>[]) [] ⟨by simp,q_⟩ U ?_
 intro j hj hI
 have hsk:=S1 hj hI.1 hI.2
 refine T ?_
 refine⟨fun h=>?_,fun h=>?_⟩
 ·have hlt:j<l.length:=qA h
  have hlt0:((j:Nat):Int).toNat<l.length:=hlt
  clear h
  rw[List.drop_eq_getElem_cons hlt]at hsk
  by_cases hjm:j<m.length
  ·have hjm0:((j:Nat):Int).toNat<m.length:=hjm
   rw[List.drop_eq_getElem_cons hjm,Bg]at hsk
   have q:=Wi (l[((j:Nat):Int).toNat]'hlt0) (m[((j:Nat):Int).toNat]'hjm0)
   have hx:Ch (l[((j:Nat):Int).toNat]'hlt0) (m[((j:Nat):Int).toNat]'hjm0)=Ch l[j] m[j]:=rfl
   by_cases h0:Ch l[j] m[j]=0
   ·have f0:(Ch (l[((j:Nat):Int).toNat]'hlt0) (m[((j:Nat):Int).toNat]'hjm0) != 0)=false:=by rw[hx,h0];rfl
    refine T ?_
    refine C q F45 ?_
    refine Bi [] hI j_ ⟨hjm,?_⟩ U
    rw[List.take_succ_eq_append_getElem hlt,List.take_succ_eq_append_getElem hjm,hI.2,Vi h0]
   ·have f0:(Ch (l[((j:Nat):Int).toNat]'hlt0) (m[((j:Nat):Int).toNat]'hjm0) != 0)=true:=by rw[hx,bne_iff_ne];exact h0
    rw[hsk,Kz,if_pos h0,← hx]
    refine T ?_
    refine C q F45 ?_
    exact D
  ·rw[List.drop_eq_nil_of_le (by omega:m.length≤j)]at hsk
   have hr:Bg Ch l m=1:=hsk
   rw[hr]
   refine T ?_
   exact D
 ·have hje:j=l.length:=qB h
  subst hje
  clear h
  rw[List.drop_length]at hsk
  by_cases h1:l.length<m.length
  ·rw[List.drop_eq_getElem_cons h1]at hsk
   have hr:Bg Ch l m=-1:=hsk
   rw[hr]
   refine T ?_
   exact D
  ·rw[List.drop_eq_nil_of_le j_]at hsk
   have hr:Bg Ch l m=0:=hsk
   rw[hr]
   refine T ?_
   exact D
theorem X0 (k:Int):Sy.Spec Tryz.prog 26 [Aa k] [] (Aa (stepI k)) []:=cT F26 Tryz.ntmps26 fun F hF=>by
 have hs:=stepI.eq_1 k
 generalize stepI k=r at *
 by_cases c1:k=1
 ·rw[if_pos c1]at hs
  subst hs c1
  refine T ?_
  exact D
 rw[if_neg c1]at hs
 have b1:(k == 1)=false:=by simpa using c1
 by_cases c5:k=5
 ·rw[if_pos c5]at hs
  subst hs c5
  refine T ?_
  exact D
 rw[if_neg c5]at hs
 have b5:(k == 5)=false:=by simpa using c5
 by_cases c2:k=2
 ·rw[if_pos c2]at hs
  subst hs c2
  refine T ?_
  exact D
 rw[if_neg c2]at hs
 have b2:(k == 2)=false:=by simpa using c2
 by_cases c3:k=3
 ·rw[if_pos c3]at hs
  subst hs c3
  refine T ?_
  exact D
 rw[if_neg c3]at hs
 have b3:(k == 3)=false:=by simpa using c3
 by_cases c4:k=4
 ·rw[if_pos c4]at hs
  subst hs c4
  refine T ?_
  exact D
 rw[if_neg c4]at hs
 have b4:(k == 4)=false:=by simpa using c4
 by_cases c6:k=6
 ·rw[if_pos c6]at hs
  subst hs c6
  refine T ?_
  exact D
 rw[if_neg c6]at hs
 have b6:(k == 6)=false:=by simpa using c6
 by_cases c7:k=7
 ·rw[if_pos c7]at hs
  subst hs c7
  refine T ?_
  exact D
 rw[if_neg c7]at hs
 have b7:(k == 7)=false:=by simpa using c7
 by_cases c8:k=8
 ·rw[if_pos c8]at hs
  subst hs c8
  refine T ?_
  exact D
 rw[if_neg c8]at hs
 have b8:(k == 8)=false:=by simpa using c8
 by_cases c9:k=9
 ·rw[if_pos c9]at hs
  subst hs c9
  refine T ?_
  exact D
 rw[if_neg c9]at hs
 have b9:(k == 9)=false:=by simpa using c9
 subst hs
 refine T ?_
 exact D
theorem Aer (a b:LineM):Sy.Spec Tryz.prog 27 [Ad a,Ad b] [] (Aa (Aci a b)) []:=cT F27 Tryz.ntmps27 fun F hF=>by
 refine T ?_
 refine C (Jy a.dev b.dev) F43 ?_
 refine C (Jy a.port b.port) F43 ?_
 refine C (Jy a.peer b.peer) F43 ?_
 refine C (Jy a.far b.far) F43 ?_
 refine C (Jy a.name b.name) F43 ?_
 refine Adi [30] (orS [Lq a.dev b.dev,Lq a.port b.port,Lq a.peer b.peer,Lq a.far b.far,Lq a.name b.name] (by simp[Ax])) F24 q_ (.cons (.lit q_ q_ q_) .nil) q_ y_ q_ ?_
 refine T ?_
 exact D
theorem Zs (a b:LineM):Sy.Spec Tryz.prog 28 [Ad a,Ad b] [] (Aa (Tw a b)) []:=cT F28 Tryz.ntmps28 fun F hF=>by
 refine T ?_
 refine C (Ia a.vlan b.vlan) F25 ?_
 refine C (Ia a.num b.num) F25 ?_
 refine C (Af6 a.mac b.mac) F44 ?_
 refine C (Wi a.addr b.addr) F45 ?_
 refine C (Ia a.bits b.bits) F25 ?_
 refine C (Ia a.cost b.cost) F25 ?_
 refine Adi [35] (orS [Ch a.vlan b.vlan,Ch a.num b.num,Ch a.mac b.mac,Ch a.addr b.addr,Ch a.bits b.bits,Ch a.cost b.cost] (by simp[Ax])) F24 q_ (.cons (.lit q_ q_ q_) .nil) q_ y_ q_ ?_
 refine T ?_
 exact D
structure LineFin (l:LineM):Prop where
 t:l.tagged.length≤100000
 i:l.imports.length≤100000
 e:l.exports.length≤100000
 a:l.addrs.length≤100000
theorem Aes (a b:LineM) (ha:LineFin a) (hb:LineFin b):Sy.Spec Tryz.prog 29 [Ad a,Ad b] [] (Aa (Aco a b)) []:=cT F29 Tryz.ntmps29 fun F hF=>by
 have ht:=ha.t;have hi:=ha.i;have he:=ha.e;have haa:=ha.a
 have ht2:=hb.t;have hi2:=hb.i;have he2:=hb.e;have haa2:=hb.a
 refine T ?_
 refine C (Ih a.tagged b.tagged j_ j_) F46 ?_
 refine C (Ih a.imports b.imports j_ j_) F46 ?_
 refine C (Ih a.exports b.exports j_ j_) F46 ?_
 refine C (Td a.addrs b.addrs j_ j_) F47 ?_
 refine Adi [25] (orS [Bg Ch a.tagged b.tagged,Bg Ch a.imports b.imports,Bg Ch a.exports b.exports,Bg Ch a.addrs b.addrs] (by simp[Ax])) F24 q_ (.cons (.lit q_ q_ q_) .nil) q_ y_ q_ ?_
 refine T ?_
 exact D
theorem Lb (a b:LineM) (ha:LineFin a) (hb:LineFin b):Sy.Spec Tryz.prog 15 [Ad a,Ad b] [] (Aa (Qz a b)) []:=cT F15 Tryz.ntmps15 fun F hF=>by
 refine T ?_
 refine C (X0 a.kind) F26 ?_
 refine C (X0 b.kind) F26 ?_
 refine C (Ia (stepI a.kind) (stepI b.kind)) F25 ?_
 refine C (Aer a b) F27 ?_
 refine C (Zs a b) F28 ?_
 refine C (Aes a b ha hb) F29 ?_
 refine Adi [21] (orS [Ch (stepI a.kind) (stepI b.kind),Aci a b,Tw a b,Aco a b] (by simp[Ax])) F24 q_ (.cons (.lit q_ q_ q_) .nil) q_ y_ q_ ?_
 refine T ?_
 exact D
theorem Ah8 (a b:LineM) (ha:LineFin a) (hb:LineFin b):Sy.Spec Tryz.prog 10 [Ad a,Ad b] [] (Ab (Jm a b)) []:=cT F10 Tryz.ntmps10 fun F hF=>by
 refine T ?_
 refine C (Lb a b ha hb) F15 ?_
 exact D
theorem Aeq (a b:LineM) (ha:LineFin a) (hb:LineFin b):Sy.Spec Tryz.prog 14 [Ad a,Ad b] [] (Aa (Qz a b)) []:=cT F14 Tryz.ntmps14 fun F hF=>by
 refine T ?_
 refine C (Lb a b ha hb) F15 ?_
 exact D
theorem Sd (D:List LineM) (a b n:Nat) (cmp:SV) (hc:cmp.inn [0]=true) (ha:a+n≤b) (hb:b+n≤D.length) (hl:D.length<1000000) :
  Sy.Spec Tryz.prog 173 [.osl 0,Aa a,Aa b,Aa n,cmp] [(0,.row 17 Ad D)] (.tup []) [(0,.row 17 Ad (Xl n D a b))]:=cT F173 Tryz.ntmps173 fun F hF=>by
 rw[Am2]
 refine T ?_
 refine Dj n (fun j=>[(0,.osl 0),(1,Aa a),(2,Aa b),(3,Aa n),(10,Aa j)]) (fun j=>[(0,.row 17 Ad (swapP j D a b))]) [] U ?_
 intro j hj
 have hlen:=Aab j D a b
 have hnx:=swapP.eq_2 D a b j
 refine T ?_
 refine⟨fun h=>?_,fun h=>?_⟩
 ·have hlt:j<n:=qA h
  generalize swapP j D a b=A at *
  have ea:((a:Int)+(j:Int)).toNat=a+j:=by omega
  have eb:((b:Int)+(j:Int)).toNat=b+j:=by omega
  have ha0:((a:Int)+(j:Int)).toNat<A.length:=by omega
  have hb0:((b:Int)+(j:Int)).toNat<A.length:=by omega
  rw[Am3 j_ j_]at hnx
  have hfin:swapP (j+1) D a b=(A.set ((a:Int)+(j:Int)).toNat (A[((b:Int)+(j:Int)).toNat]'hb0)).set ((b:Int)+(j:Int)).toNat (A[((a:Int)+(j:Int)).toNat]'ha0):=by
   simp only[ea,eb];exact hnx
  clear h hnx
  have hls:(A.set ((a:Int)+(j:Int)).toNat (A[((b:Int)+(j:Int)).toNat]'hb0)).length=A.length:=List.length_set
  have hbs:((b:Int)+(j:Int)).toNat<(A.set ((a:Int)+(j:Int)).toNat (A[((b:Int)+(j:Int)).toNat]'hb0)).length:=by rw[hls];exact hb0
  refine T ?_
  refine⟨A[((b:Int)+(j:Int)).toNat]'hb0,q_,q_,?_⟩
  refine T ?_
  refine⟨A[((a:Int)+(j:Int)).toNat]'ha0,q_,q_,?_⟩
  refine T ?_
  refine Dl [] hlt ⟨⟨q_,q_,q_,q_,q_,q_,q_,q_,q_,q_,z_⟩,⟨.inl (congrArg (Ob.row 17 Ad) hfin),q_,z_⟩,q_,q_⟩
 ·have hjj:j=n:=qB h
  subst hjj
  refine T ?_
  exact B0 q_ .nil [] [(0,.row 17 Ad (swapP j D a b))] (fun _ h=>h) q_ q_ ⟨z_,⟨.inl q_,q_,z_⟩,q_,q_⟩
def Ap1 (Z:List LineM) (m:Nat) (x:List LineM × List LineM × List LineM × List LineM):Prop:=x.1++(x.2.2.1++(x.2.1++x.2.2.2))=Z∧x.1.length+x.2.1.length=m∧0<x.2.1.length∧0<x.2.2.1.length
theorem Aqa (P U V B:List LineM) (f:FuncId) (first cap:List SV) (hc:(SV.clo (.func f) first cap).inn [0]=true) (hu:0<U.length) (hv:0<V.length) (hl:(P++(U++(V++B))).length<1000000) (m b:Nat) (hm1:m=P.length+U.length) (hb1:b=m+V.length) :
  Sy.Spec Tryz.prog 91 [.osl 0,Aa P.length,Aa m,Aa b,.clo (.func f) first cap] [(0,.row 17 Ad (P++(U++(V++B))))] (.tup []) [(0,.row 17 Ad (P++(V++(U++B))))]:=cT F91 Tryz.ntmps91 fun F hF=>by
 have h0:Ap1 (P++(V++(U++B))) m (P,U,V,B):=⟨rfl,hm1.symm,hu,hv⟩
 have htl:(P++(V++(U++B))).length<1000000:=by simp only[List.length_append]at hl ⊢;omega
 have hml:m+V.length<1000000:=by simp only[List.length_append]at hl;omega
 generalize P++(V++(U++B))=Z at *
 refine T ?_
 refine Bk (Ap1 Z m) (fun x=>[(0,.osl 0),(2,Aa m),(4,.clo (.func f) first cap),(10,Aa x.2.1.length),(11,Aa x.2.2.1.length)]) (fun x=>[(0,.row 17 Ad (x.1++(x.2.1++(x.2.2.1++x.2.2.2))))]) (fun x=>x.2.1.length+x.2.2.1.length) (P,U,V,B) [] h0 ⟨⟨q_,q_,q_,q_,Ay _,hc,congrArg Aa (by dsimp only;omega),q_,congrArg Aa (by dsimp only;omega),q_,z_⟩,⟨.inl q_,q_,z_⟩,q_,q_⟩ ?_
 clear h0 hm1 hb1 hu hv hl hml
 intro x hx
 obtain ⟨P,U,V,B⟩:=x
 obtain ⟨hT,hm1,hu,hv⟩:=hx
 dsimp only at hT hm1 hu hv ⊢
 have hlt:P.length+V.length+U.length+B.length<1000000:=by rw[← hT]at htl;simp only[List.length_append]at htl;omega
 have hok:∀ a b n:Int,Bn [0] [.osl 0,Aa a,Aa b,Aa n,.clo (.func f) first cap]=true:=fun a b n=>by simp only[Bn,hc];rfl
 by_cases he:U.length=V.length
 ·have q:=Sd (P++(U++([]++(V++B)))) P.length (P.length+U.length+0) U.length (.clo (.func f) first cap) hc j_ (by simp only[List.length_append,List.length_nil];omega) (by simp only[List.length_append,List.length_nil];omega)
  have w:=S8 U V P [] B he
  rw[List.length_nil]at w
  rw[w]at q
  rw[List.nil_append,List.nil_append]at q
  rw[show ((P.length:Nat):Int)=(m:Int)-(U.length:Int) by omega,show ((P.length+U.length+0:Nat):Int)=(m:Int) by omega,hT]at q
  have hok:=hok ((m:Int)-(U.length:Int)) m U.length
  refine T ?_
  refine X (Ac [] q_ F173 q (Cy _) ⟨q_,z_⟩ (by simp only[Ev,Obs.keys,List.map_cons,List.map_nil,hok];rfl) ⟨.inl q_,z_⟩) ?_
  exact B0 q_ .nil [] [(0,.row 17 Ad Z)] (fun _ h=>h) q_ q_ ⟨z_,⟨.inl q_,q_,z_⟩,q_,q_⟩
 by_cases hgt:V.length<U.length
 ·obtain ⟨U1,U2,rfl,hu1⟩:∃ U1 U2,U=U1++U2∧U1.length=V.length:=⟨U.take V.length,U.drop V.length,(List.take_append_drop _ _).symm,by rw[List.length_take];omega⟩
  have hul:(U1++U2).length=U1.length+U2.length:=List.length_append
  have hu2:0<U2.length:=by omega
  have q:=Sd (P++(U1++(U2++(V++B)))) P.length (P.length+U1.length+U2.length) U1.length (.clo (.func f) first cap) hc j_ (by simp only[List.length_append];omega) (by simp only[List.length_append];omega)
  rw[S8 U1 V P U2 B hu1]at q
  rw[show ((P.length:Nat):Int)=(m:Int)-(((U1++U2).length:Nat):Int) by omega,show ((P.length+U1.length+U2.length:Nat):Int)=(m:Int) by omega,show ((U1.length:Nat):Int)=((V.length:Nat):Int) by omega]at q
  have hok:=hok ((m:Int)-(((U1++U2).length:Nat):Int)) m V.length
  rw[List.append_assoc]
  refine T ?_
  refine X (Ac [] q_ F173 q (Cy _) ⟨q_,z_⟩ (by simp only[Ev,Obs.keys,List.map_cons,List.map_nil,hok];rfl) ⟨.inl q_,z_⟩) ?_
  refine Ar (P++V,U2,U1,B) [] ⟨by dsimp only;rw[← hT];simp,by dsimp only;rw[List.length_append];omega,by dsimp only;omega,by dsimp only;omega⟩ (by dsimp only;omega) ⟨⟨q_,q_,q_,q_,Ay _,hc,congrArg Aa (by dsimp only;omega),q_,congrArg Aa (by dsimp only;omega),q_,z_⟩,⟨.inl (congrArg (Ob.row 17 Ad) (by dsimp only;simp)),q_,z_⟩,q_,q_⟩
 ·obtain ⟨V1,V2,rfl,hv2⟩:∃ V1 V2,V=V1++V2∧V2.length=U.length:=⟨V.take (V.length-U.length),V.drop (V.length-U.length),(List.take_append_drop _ _).symm,by rw[List.length_drop];omega⟩
  have hvl:(V1++V2).length=V1.length+V2.length:=List.length_append
  have hv1:0<V1.length:=by omega
  have q:=Sd (P++(U++(V1++(V2++B)))) P.length (P.length+U.length+V1.length) U.length (.clo (.func f) first cap) hc j_ (by simp only[List.length_append];omega) (by simp only[List.length_append];omega)
  rw[S8 U V2 P V1 B hv2.symm]at q
  rw[show ((P.length:Nat):Int)=(m:Int)-(U.length:Int) by omega,show ((P.length+U.length+V1.length:Nat):Int)=(m:Int)+(((V1++V2).length:Nat):Int)-(U.length:Int) by omega]at q
  have hok:=hok ((m:Int)-(U.length:Int)) ((m:Int)+(((V1++V2).length:Nat):Int)-(U.length:Int)) U.length
  rw[List.append_assoc]
  refine T ?_
  refine X (Ac [] q_ F173 q (Cy _) ⟨q_,z_⟩ (by simp only[Ev,Obs.keys,List.map_cons,List.map_nil,hok];rfl) ⟨.inl q_,z_⟩) ?_
  refine Ar (P,V2,V1,U++B) [] ⟨by dsimp only;rw[← hT];simp,by dsimp only;omega,by dsimp only;omega,by dsimp only;omega⟩ (by dsimp only;omega) ⟨⟨q_,q_,q_,q_,Ay _,hc,congrArg Aa (by dsimp only;omega),q_,congrArg Aa (by dsimp only;omega),q_,z_⟩,⟨.inl q_,q_,z_⟩,q_,q_⟩
def InsI (lt:LineM→LineM→Bool) (x:LineM) (out:List LineM) (q:List LineM × List LineM):Prop:=q.1++q.2=out∧∀ y∈q.2,lt x y=true
theorem Ady (A R:List LineM) (y x:LineM):((A++y::x::R).set (A.length+1) y).set A.length x=A++x::y::R:=by
 rw[List.set_append_right _ _ j_,List.set_append_right _ _ (Nat.le_refl _)]
 simp
theorem Afm (c:LineM→LineM→Int) (Q:LineM→Prop) (f:FuncId) (first cap:List SV) (hc:(SV.clo (.func f) first cap).inn []=true) (hf:∀ a b,Q a→Q b→Hg Tryz.prog f (first++[Ad a,Ad b]++cap) (Aa (c a b))) (P M B:List LineM) (hQ:∀ x∈M,Q x) (hl:(P++(M++B)).length<1000000) (a b:Nat) (ha:a=P.length) (hb:b=P.length+M.length) :
  Sy.Spec Tryz.prog 40 [.osl 0,Aa a,Aa b,.clo (.func f) first cap] [(0,.row 17 Ad (P++(M++B)))] (.tup []) [(0,.row 17 Ad (P++(Bo (fun x y=>decide (c x y<0)) M++B)))]:=cT F40 Tryz.ntmps40 fun F hF=>by
 have hin:∀ x y:LineM,Bn [] (first++[Ad x,Ad y]++cap)=true:=fun x y=>Dd hc rfl
 have hc':(SV.clo (.func f) first cap).inn [0]=true:=Hv _ hc
 have hll:P.length+M.length+B.length<1000000:=by simp only[List.length_append]at hl;omega
 generalize hlt:(fun x y=>decide (c x y<0))=lt
 refine T ?_
 refine Dj (M.length-1) (fun j=>[(0,.osl 0),(1,Aa a),(2,Aa b),(3,.clo (.func f) first cap),(8,Aa ((a:Int)+1+(j:Int)))]) (fun j=>[(0,.row 17 Ad (P++(Bo lt (M.take (j+1))++(M.drop (j+1)++B))))]) [] ⟨⟨q_,q_,q_,q_,q_,q_,Ay _,hc',congrArg Aa j_,q_,z_⟩,⟨.inl (congrArg (Ob.row 17 Ad) ?_),q_,z_⟩,q_,q_⟩ ?_
 ·cases M with
  | nil=>simp[Bo,Cw]
  | cons x M=>simp[Bo,Cw,Mu,Ml]
 intro j hj
 refine T ?_
 refine⟨fun h=>?_,fun h=>?_⟩
 ·have hjm:j+1<M.length:=qA h
  have hdrop:M.drop (j+1)=M[j+1]::M.drop (j+1+1):=List.drop_eq_getElem_cons hjm
  have hsn:Bo lt (M.take (j+1+1))=Mu lt M[j+1] (Bo lt (M.take (j+1))):=by rw[List.take_succ_eq_append_getElem hjm,Se]
  have hol:=D2 lt (M.take (j+1))
  rw[List.length_take]at hol
  have hQx:Q M[j+1]:=hQ _ (List.getElem_mem hjm)
  have hQo:∀ y∈Bo lt (M.take (j+1)),Q y:=fun y hy=>hQ y (List.mem_of_mem_take (Kg lt _ y hy))
  have hfin:P++(Bo lt (M.take (j+1+1))++(M.drop (j+1+1)++B))=P++(Mu lt M[j+1] (Bo lt (M.take (j+1)))++(M.drop (j+1+1)++B)):=by rw[hsn]
  have hrl:(M.drop (j+1+1)++B).length+(j+2)=M.length+B.length:=by rw[List.length_append,List.length_drop];omega
  rw[hdrop]
  generalize M[j+1]=x at *
  generalize Bo lt (M.take (j+1))=out at *
  rw[show ((x::M.drop (j+1+1))++B)=x::(M.drop (j+1+1)++B) from rfl]
  generalize hR:M.drop (j+1+1)++B=R at *
  have hol:out.length=j+1:=by omega
  clear h hsn hdrop
  refine T ?_
  refine Bk (InsI lt x out) (fun q=>[(0,.osl 0),(1,Aa a),(2,Aa b),(3,.clo (.func f) first cap),(8,Aa ((a:Int)+1+(j:Int))),(9,Aa ((P.length+q.1.length:Nat):Int))]) (fun q=>[(0,.row 17 Ad ((P++q.1)++x::(q.2++R)))]) (fun q=>q.1.length) (out,[]) [] ⟨List.append_nil _,fun y hy=>(by cases hy)⟩ ⟨⟨rfl,rfl,rfl,rfl,rfl,rfl,Ay _,hc',rfl,rfl,congrArg Aa (by dsimp only;omega),rfl,trivial⟩,⟨.inl (congrArg (Ob.row 17 Ad) qe),rfl,trivial⟩,rfl,rfl⟩ ?_
  intro q hq
  obtain ⟨O1,O2⟩:=q
  obtain ⟨hq1,hq2⟩:=hq
  dsimp only at hq1 hq2 ⊢
  have hq3:O1.length+O2.length=j+1:=by rw[← hol,← hq1,List.length_append]
  have hrun:=Aot lt x O1 O2 hq2
  rw[hq1]at hrun
  rcases List.eq_nil_or_concat O1 with h1 | ⟨c1,y,h1⟩
  ·subst h1
   have hrun:=hrun (.inl rfl)
   refine T ?_
   refine Dl [] j_ ⟨⟨q_,q_,q_,q_,q_,q_,Ay _,hc',congrArg Aa j_,q_,z_⟩,⟨.inl (congrArg (Ob.row 17 Ad) (by rw[hR,hfin,hrun];simp)),q_,z_⟩,q_,q_⟩
  subst h1
  have hrun:=fun h=>hrun (.inr ⟨c1,y,by simp,h⟩)
  have hQy:Q y:=hQo y (by rw[← hq1];simp)
  have hL:(P++c1.concat y)++x::(O2++R)=(P++c1)++y::x::(O2++R):=by simp
  have hk:P.length+(c1.concat y).length=(P++c1).length+1:=by simp;omega
  have hcl:(c1.concat y).length=c1.length+1:=by simp
  rw[hL,hk]
  have hAl:(P++c1).length=P.length+c1.length:=List.length_append
  have hWl:(O2++R).length=O2.length+R.length:=List.length_append
  have hLl:((P++c1)++y::x::(O2++R)).length=(P++c1).length+2+(O2++R).length:=by simp;omega
  have hset:=Ady (P++c1) (O2++R) y x
  have n1:((((P++c1).length+1:Nat):Int)).toNat=(P++c1).length+1:=by omega
  have n2:((((P++c1).length+1:Nat):Int)-1).toNat=(P++c1).length:=by omega
  have b1:((((P++c1).length+1:Nat):Int)).toNat<((P++c1)++y::x::(O2++R)).length:=by omega
  have b2:((((P++c1).length+1:Nat):Int)-1).toNat<((P++c1)++y::x::(O2++R)).length:=by omega
  have e1:((P++c1)++y::x::(O2++R))[((((P++c1).length+1:Nat):Int)).toNat]'b1=x:=by simp only[n1];rw[List.getElem_append_right j_];simp
  have e2:((P++c1)++y::x::(O2++R))[((((P++c1).length+1:Nat):Int)-1).toNat]'b2=y:=by simp only[n2];rw[List.getElem_append_right j_];simp
  generalize hLL:(P++c1)++y::x::(O2++R)=L at *
  have hset2:(L.set ((((P++c1).length+1:Nat):Int)).toNat (L[((((P++c1).length+1:Nat):Int)-1).toNat]'b2)).set ((((P++c1).length+1:Nat):Int)-1).toNat (L[((((P++c1).length+1:Nat):Int)).toNat]'b1)=(P++c1)++x::y::(O2++R):=by
   rw[e1,e2];simp only[n1,n2];exact hset
  have b3:((((P++c1).length+1:Nat):Int)-1).toNat<(L.set ((((P++c1).length+1:Nat):Int)).toNat (L[((((P++c1).length+1:Nat):Int)-1).toNat]'b2)).length:=by rw[List.length_set];exact b2
  have hcc:lt x y=decide (c (L[((((P++c1).length+1:Nat):Int)).toNat]'b1) (L[((((P++c1).length+1:Nat):Int)-1).toNat]'b2)<0):=by rw[e1,e2,← hlt]
  have q1:=hf (L[((((P++c1).length+1:Nat):Int)).toNat]'b1) (L[((((P++c1).length+1:Nat):Int)-1).toNat]'b2) (by rw[e1];exact hQx) (by rw[e2];exact hQy)
  refine T ?_
  refine Vk q1 q_ q_ q_ (by simp only[hin];rfl) y_ q_ ?_
  refine T ?_
  refine⟨fun h2=>?_,fun h2=>?_⟩
  ·rw[h2]at hcc
   refine T ?_
   refine⟨L[((((P++c1).length+1:Nat):Int)-1).toNat]'b2,q_,q_,?_⟩
   refine T ?_
   refine⟨L[((((P++c1).length+1:Nat):Int)).toNat]'b1,q_,q_,?_⟩
   refine T ?_
   refine Ar (c1,y::O2) [] ⟨by dsimp only;rw[← hq1];simp,fun z hz=>by
    rcases List.mem_cons.1 hz with rfl | hz
    ·exact hcc
    ·exact hq2 z hz⟩ (by dsimp only;omega) ⟨⟨q_,q_,q_,q_,q_,q_,Ay _,hc',q_,q_,congrArg Aa (by dsimp only;omega),q_,z_⟩,⟨.inl (congrArg (Ob.row 17 Ad) (by rw[hset2];rfl)),q_,z_⟩,q_,q_⟩
  ·rw[h2]at hcc
   have hrun:=hrun hcc
   refine T ?_
   refine Dl [] j_ ⟨⟨q_,q_,q_,q_,q_,q_,Ay _,hc',congrArg Aa j_,q_,z_⟩,⟨.inl (congrArg (Ob.row 17 Ad) (by rw[hR,hfin,hrun,← hLL];simp)),q_,z_⟩,q_,q_⟩
 ·have h:=of_decide_eq_false h
  have e:Bo lt (M.take (j+1))++(M.drop (j+1)++B)=Bo lt M++B:=by
   rw[List.take_of_length_le j_,List.drop_of_length_le j_,List.nil_append]
  rw[e]
  refine T ?_
  exact B0 q_ .nil [] [(0,.row 17 Ad (P++(Bo lt M++B)))] (fun _ h=>h) q_ q_ ⟨z_,⟨.inl q_,q_,z_⟩,q_,q_⟩
theorem Ak5 (A W:List LineM) (x y:LineM):((A++x::y::W).set A.length y).set (A.length+1) x=A++y::x::W:=by
 rw[List.set_append_right _ _ (Nat.le_refl _),List.set_append_right _ _ j_]
 simp
theorem Ma (x y k:Nat) (hk:k=(x+y) / 2) (hs:x+y<1000000000):IntKind.i64.wrap ((IntKind.u64.wrap ((x:Int)+(y:Int))).fdiv (2 ^ min (Int.toNat 1) IntKind.u64.bits))=(k:Int):=by
 have e:((x:Int)+(y:Int))=((x+y:Nat):Int):=by omega
 have w:IntKind.u64.wrap ((x+y:Nat):Int)=((x+y:Nat):Int):=by rw[IntKind.wrap_u64];omega
 rw[e,w]
 show IntKind.i64.wrap ((((x+y:Nat):Int)).fdiv 2)=_
 rw[Int.fdiv_eq_ediv_of_nonneg _ qd,IntKind.wrap_i64]
 omega
abbrev Ks (x y:Int):Int:=IntKind.i64.wrap ((IntKind.u64.wrap (x+y)).fdiv (2 ^ min (Int.toNat 1) IntKind.u64.bits))
theorem Akg {α:Type} {D:List α} {z:Int} {k:Nat} (hz:z=(k:Int)) (h:z.toNat<D.length) (h2:(k:Int).toNat<D.length):D[z.toNat]'h=D[(k:Int).toNat]'h2:=by subst hz;rfl
def OneL (lt:LineM→LineM→Bool) (x:LineM) (R:List LineM) (q:Nat × Nat):Prop:=q.1≤q.2∧q.2≤R.length∧(q.1=0∨∃ h:q.1-1<R.length,lt R[q.1-1] x=true)∧(q.2=R.length∨∃ h:q.2<R.length,lt R[q.2] x=false)
theorem Akt (c:LineM→LineM→Int) (Q:LineM→Prop) (f:FuncId) (first cap:List SV) (hc:(SV.clo (.func f) first cap).inn []=true) (hf:∀ a b,Q a→Q b→Hg Tryz.prog f (first++[Ad a,Ad b]++cap) (Aa (c a b)))
  (lt:LineM→LineM→Bool) (hlt:(fun x y=>decide (c x y<0))=lt) (ho:Ordy lt) (P R B:List LineM) (x:LineM) (hQx:Q x) (hQ:∀ y∈R,Q y) (hR:Srt lt R) (hl:(P++x::(R++B)).length<1000000) (a m b:Nat) (ha:a=P.length) (hm1:m=a+1) (hb1:b=m+R.length) :
  Sy.Spec Tryz.prog 41 [.osl 0,Aa a,Aa m,Aa b,.clo (.func f) first cap] [(0,.row 17 Ad (P++x::(R++B)))] (.tup []) [(0,.row 17 Ad (P++(A9 lt [x] R++B)))]:=cT F41 Tryz.ntmps41 fun F hF=>by
 have hin:∀ x y:LineM,Bn [] (first++[Ad x,Ad y]++cap)=true:=fun x y=>Dd hc rfl
 have hc':(SV.clo (.func f) first cap).inn [0]=true:=Hv _ hc
 have hll:P.length+1+R.length+B.length<1000000:=by simp only[List.length_append,List.length_cons]at hl;omega
 obtain ⟨D,hD⟩:∃ D,P++x::(R++B)=D:=⟨_,rfl⟩
 have hdl:D.length=P.length+1+R.length+B.length:=by rw[← hD];simp;omega
 have ex:∀ h:((a:Nat):Int).toNat<D.length,D[((a:Nat):Int).toNat]'h=x:=fun h=>by
  subst hD;subst ha
  simp only[Int.toNat_natCast]
  rw[List.getElem_append_right (Nat.le_refl _)]
  simp
 have er:∀ (k:Nat) (hk:k<R.length) (h:((m+k:Nat):Int).toNat<D.length),D[((m+k:Nat):Int).toNat]'h=R[k]:=fun k hk h=>by
  subst hD;subst hm1;subst ha
  simp only[Int.toNat_natCast]
  rw[List.getElem_append_right j_]
  simp only[show P.length+1+k-P.length=k+1 by omega,List.getElem_cons_succ]
  rw[List.getElem_append_left hk]
 rw[hD]
 refine T ?_
 refine Bk (OneL lt x R) (fun q=>[(0,.osl 0),(1,Aa a),(4,.clo (.func f) first cap),(10,Aa ((m+q.1:Nat):Int)),(11,Aa ((m+q.2:Nat):Int))]) (fun _=>[(0,.row 17 Ad D)]) (fun q=>q.2-q.1) (0,R.length) [] ⟨Nat.zero_le _,Nat.le_refl _,.inl q_,.inl q_⟩ ⟨⟨q_,q_,q_,q_,Ay _,hc',q_,q_,congrArg Aa (by dsimp only;omega),q_,z_⟩,⟨.inl q_,q_,z_⟩,q_,q_⟩ ?_
 rintro ⟨s,r⟩ ⟨h1,h2,h3,h4⟩
 dsimp only at h1 h2 h3 h4 ⊢
 refine T ?_
 refine⟨fun h=>?_,fun h=>?_⟩
 ·have hsr:s<r:=qA h
  clear h
  obtain ⟨k,hk⟩:∃ k,k=(s+r) / 2:=⟨_,rfl⟩
  have hhs:=Ma (m+s) (m+r) (m+k) j_ j_
  have b0:((m+k:Nat):Int).toNat<D.length:=by omega
  have b1:(Ks ((m+s:Nat):Int) ((m+r:Nat):Int)).toNat<D.length:=by show (IntKind.i64.wrap _).toNat<_;rw[hhs];exact b0
  have b2:((a:Nat):Int).toNat<D.length:=by omega
  have hkr:k<R.length:=by omega
  have ez:D[(Ks ((m+s:Nat):Int) ((m+r:Nat):Int)).toNat]'b1=R[k]:=(Akg hhs b1 b0).trans (er k hkr b0)
  have hcc:lt R[k] x=decide (c (D[(Ks ((m+s:Nat):Int) ((m+r:Nat):Int)).toNat]'b1) (D[((a:Nat):Int).toNat]'b2)<0):=by rw[ez,ex b2,← hlt]
  have q1:=hf (D[(Ks ((m+s:Nat):Int) ((m+r:Nat):Int)).toNat]'b1) (D[((a:Nat):Int).toNat]'b2) (by rw[ez];exact hQ _ (List.getElem_mem _)) (by rw[ex b2];exact hQx)
  refine T ?_
  refine Vk q1 q_ q_ q_ (by simp only[hin];rfl) y_ q_ ?_
  refine T ?_
  refine⟨fun h=>?_,fun h=>?_⟩
  ·rw[h]at hcc
   refine T ?_
   refine Ar (k+1,r) [] ⟨by dsimp only;omega,h2,.inr ⟨by dsimp only;omega,hcc⟩,h4⟩ (by dsimp only;omega) ⟨⟨q_,q_,q_,q_,Ay _,hc',congrArg Aa (by dsimp only;omega),q_,q_,q_,z_⟩,⟨.inl q_,q_,z_⟩,q_,q_⟩
  ·rw[h]at hcc
   refine T ?_
   refine Ar (s,k) [] ⟨by dsimp only;omega,by dsimp only;omega,h3,.inr ⟨hkr,hcc⟩⟩ (by dsimp only;omega) ⟨⟨q_,q_,q_,q_,Ay _,hc',q_,q_,congrArg Aa (by dsimp only;omega),q_,z_⟩,⟨.inl q_,q_,z_⟩,q_,q_⟩
 ·have hsr:s=r:=qB h
  subst hsr
  have hmg:=Ae6 ho x hR s h2 h3 h4
  rw[hmg]
  clear h hmg
  refine T ?_
  refine Dj s (fun i=>[(0,.osl 0),(10,Aa ((m+s:Nat):Int)),(13,Aa ((a+i:Nat):Int))]) (fun i=>[(0,.row 17 Ad ((P++R.take i)++x::(R.drop i++B)))]) [] ⟨⟨q_,q_,q_,q_,congrArg Aa j_,q_,z_⟩,⟨.inl (congrArg (Ob.row 17 Ad) (by rw[← hD];simp)),q_,z_⟩,q_,q_⟩ ?_
  intro i hi
  refine T ?_
  refine⟨fun h=>?_,fun h=>?_⟩
  ·have his:i<s:=qA h
   have hir:i<R.length:=by omega
   have hdr:R.drop i++B=R[i]::(R.drop (i+1)++B):=by rw[List.drop_eq_getElem_cons hir];rfl
   have htk:R.take (i+1)=R.take i++[R[i]]:=List.take_succ_eq_append_getElem hir
   have hAl:(P++R.take i).length=a+i:=by rw[List.length_append,List.length_take];omega
   have hsp:=Ak5 (P++R.take i) (R.drop (i+1)++B) x R[i]
   have hfin:(P++R.take (i+1))++x::(R.drop (i+1)++B)=(P++R.take i)++R[i]::x::(R.drop (i+1)++B):=by rw[htk,← List.append_assoc P,List.append_assoc (P++R.take i)];rfl
   generalize R[i]=y at *
   rw[hdr]
   have hEl:((P++R.take i)++x::y::(R.drop (i+1)++B)).length=D.length:=by simp;omega
   have n1:(((a+i:Nat):Int)).toNat=(P++R.take i).length:=by omega
   have n2:(((a+i:Nat):Int)+1).toNat=(P++R.take i).length+1:=by omega
   have g1:∀ h,((P++R.take i)++x::y::(R.drop (i+1)++B))[(((a+i:Nat):Int)).toNat]'h=x:=fun h=>by simp only[n1];rw[List.getElem_append_right (Nat.le_refl _)];simp
   have g2:∀ h,((P++R.take i)++x::y::(R.drop (i+1)++B))[(((a+i:Nat):Int)+1).toNat]'h=y:=fun h=>by simp only[n2];rw[List.getElem_append_right j_];simp
   generalize hE:(P++R.take i)++x::y::(R.drop (i+1)++B)=E at *
   have c1:(((a+i:Nat):Int)).toNat<E.length:=by omega
   have c2:(((a+i:Nat):Int)+1).toNat<E.length:=by omega
   have c3:(((a+i:Nat):Int)+1).toNat<(E.set (((a+i:Nat):Int)).toNat (E[(((a+i:Nat):Int)+1).toNat]'c2)).length:=by rw[List.length_set];exact c2
   have hset:(E.set (((a+i:Nat):Int)).toNat (E[(((a+i:Nat):Int)+1).toNat]'c2)).set (((a+i:Nat):Int)+1).toNat (E[(((a+i:Nat):Int)).toNat]'c1)=(P++R.take i)++y::x::(R.drop (i+1)++B):=by
    rw[g1 c1,g2 c2];simp only[n1,n2];exact hsp
   clear h
   refine T ?_
   refine⟨E[(((a+i:Nat):Int)+1).toNat]'c2,q_,q_,?_⟩
   refine T ?_
   refine⟨E[(((a+i:Nat):Int)).toNat]'c1,q_,q_,?_⟩
   refine T ?_
   refine Dl [] his ⟨⟨q_,q_,q_,q_,congrArg Aa j_,q_,z_⟩,⟨.inl (congrArg (Ob.row 17 Ad) (by rw[hset,hfin])),q_,z_⟩,q_,q_⟩
  ·have his:i=s:=qB h
   subst his
   rw[show P++((R.take i++x::R.drop i)++B)=(P++R.take i)++x::(R.drop i++B) by simp]
   refine T ?_
   exact E0
def OneR (lt:LineM→LineM→Bool) (y:LineM) (L:List LineM) (q:Nat × Nat):Prop:=q.1≤q.2∧q.2≤L.length∧(q.1=0∨∃ h:q.1-1<L.length,lt y L[q.1-1]=false)∧(q.2=L.length∨∃ h:q.2<L.length,lt y L[q.2]=true)
theorem Aks (c:LineM→LineM→Int) (Q:LineM→Prop) (f:FuncId) (first cap:List SV) (hc:(SV.clo (.func f) first cap).inn []=true) (hf:∀ a b,Q a→Q b→Hg Tryz.prog f (first++[Ad a,Ad b]++cap) (Aa (c a b)))
  (lt:LineM→LineM→Bool) (hlt:(fun x y=>decide (c x y<0))=lt) (ho:Ordy lt) (P L B:List LineM) (y:LineM) (hQx:Q y) (hQ:∀ x∈L,Q x) (hL:Srt lt L) (h2:2≤L.length) (hl:(P++(L++y::B)).length<1000000) (a m b:Nat) (ha:a=P.length) (hm1:m=a+L.length) (hb1:b=m+1) :
  Sy.Spec Tryz.prog 41 [.osl 0,Aa a,Aa m,Aa b,.clo (.func f) first cap] [(0,.row 17 Ad (P++(L++y::B)))] (.tup []) [(0,.row 17 Ad (P++(A9 lt L [y]++B)))]:=cT F41 Tryz.ntmps41 fun F hF=>by
 have hin:∀ x y:LineM,Bn [] (first++[Ad x,Ad y]++cap)=true:=fun x y=>Dd hc rfl
 have hc':(SV.clo (.func f) first cap).inn [0]=true:=Hv _ hc
 have hll:P.length+1+L.length+B.length<1000000:=by simp only[List.length_append,List.length_cons]at hl;omega
 obtain ⟨D,hD⟩:∃ D,P++(L++y::B)=D:=⟨_,rfl⟩
 have hdl:D.length=P.length+1+L.length+B.length:=by rw[← hD];simp;omega
 have ey:∀ h:((m:Nat):Int).toNat<D.length,D[((m:Nat):Int).toNat]'h=y:=fun h=>by
  subst hD;subst hm1;subst ha
  simp only[Int.toNat_natCast]
  rw[List.getElem_append_right j_]
  simp only[Nat.add_sub_cancel_left]
  rw[List.getElem_append_right (Nat.le_refl _)]
  simp
 have el:∀ (k:Nat) (hk:k<L.length) (h:((a+k:Nat):Int).toNat<D.length),D[((a+k:Nat):Int).toNat]'h=L[k]:=fun k hk h=>by
  subst hD;subst hm1;subst ha
  simp only[Int.toNat_natCast]
  rw[List.getElem_append_right j_]
  simp only[Nat.add_sub_cancel_left]
  rw[List.getElem_append_left hk]
 rw[hD]
 refine T ?_
 refine Bk (OneR lt y L) (fun q=>[(0,.osl 0),(2,Aa m),(4,.clo (.func f) first cap),(14,Aa ((a+q.1:Nat):Int)),(15,Aa ((a+q.2:Nat):Int))]) (fun _=>[(0,.row 17 Ad D)]) (fun q=>q.2-q.1) (0,L.length) [] ⟨Nat.zero_le _,Nat.le_refl _,.inl q_,.inl q_⟩ ⟨⟨q_,q_,q_,q_,Ay _,hc',q_,q_,congrArg Aa (by dsimp only;omega),q_,z_⟩,⟨.inl q_,q_,z_⟩,q_,q_⟩ ?_
 rintro ⟨s,r⟩ ⟨h1,h3,h4,h5⟩
 dsimp only at h1 h3 h4 h5 ⊢
 refine T ?_
 refine⟨fun h=>?_,fun h=>?_⟩
 ·have hsr:s<r:=qA h
  clear h
  obtain ⟨k,hk⟩:∃ k,k=(s+r) / 2:=⟨_,rfl⟩
  have hhs:=Ma (a+s) (a+r) (a+k) j_ j_
  have b0:((a+k:Nat):Int).toNat<D.length:=by omega
  have b1:(Ks ((a+s:Nat):Int) ((a+r:Nat):Int)).toNat<D.length:=by show (IntKind.i64.wrap _).toNat<_;rw[hhs];exact b0
  have b2:((m:Nat):Int).toNat<D.length:=by omega
  have hkr:k<L.length:=by omega
  have ez:D[(Ks ((a+s:Nat):Int) ((a+r:Nat):Int)).toNat]'b1=L[k]:=(Akg hhs b1 b0).trans (el k hkr b0)
  have hcc:lt y L[k]=decide (c (D[((m:Nat):Int).toNat]'b2) (D[(Ks ((a+s:Nat):Int) ((a+r:Nat):Int)).toNat]'b1)<0):=by rw[ez,ey b2,← hlt]
  have q1:=hf (D[((m:Nat):Int).toNat]'b2) (D[(Ks ((a+s:Nat):Int) ((a+r:Nat):Int)).toNat]'b1) (by rw[ey b2];exact hQx) (by rw[ez];exact hQ _ (List.getElem_mem _))
  refine T ?_
  refine Vk q1 q_ q_ q_ (by simp only[hin];rfl) y_ q_ ?_
  cases hcv:lt y L[k]
  ·rw[hcv]at hcc
   refine T ?_
   refine⟨fun _=>?_,fun h=>?_⟩
   ·refine T ?_
    refine Ar (k+1,r) [] ⟨by dsimp only;omega,h3,.inr ⟨by dsimp only;omega,hcv⟩,h5⟩ (by dsimp only;omega) ⟨⟨q_,q_,q_,q_,Ay _,hc',congrArg Aa (by dsimp only;omega),q_,q_,q_,z_⟩,⟨.inl q_,q_,z_⟩,q_,q_⟩
   ·rw[← hcc]at h;cases h
  ·rw[hcv]at hcc
   refine T ?_
   refine⟨fun h=>?_,fun _=>?_⟩
   ·rw[← hcc]at h;cases h
   ·refine T ?_
    refine Ar (s,k) [] ⟨by dsimp only;omega,by dsimp only;omega,h4,.inr ⟨hkr,hcv⟩⟩ (by dsimp only;omega) ⟨⟨q_,q_,q_,q_,Ay _,hc',q_,q_,congrArg Aa (by dsimp only;omega),q_,z_⟩,⟨.inl q_,q_,z_⟩,q_,q_⟩
 ·have hsr:s=r:=qB h
  subst hsr
  have hmg:=Ae5 ho y hL s h3 h4 h5
  rw[hmg]
  clear h hmg
  refine T ?_
  refine Dj (L.length-s) (fun i=>[(0,.osl 0),(14,Aa ((a+s:Nat):Int)),(17,Aa ((m-i:Nat):Int))]) (fun i=>[(0,.row 17 Ad ((P++L.take (L.length-i))++y::(L.drop (L.length-i)++B)))]) [] ⟨⟨q_,q_,q_,q_,congrArg Aa j_,q_,z_⟩,⟨.inl (congrArg (Ob.row 17 Ad) (by rw[← hD];simp)),q_,z_⟩,q_,q_⟩ ?_
  intro i hi
  refine T ?_
  refine⟨fun h=>?_,fun h=>?_⟩
  ·have his:i<L.length-s:=qA h
   obtain ⟨j,hj⟩:∃ j,L.length-i=j+1:=⟨L.length-i-1,by omega⟩
   have hj2:L.length-(i+1)=j:=by omega
   have hjr:j<L.length:=by omega
   rw[hj]
   have htk:L.take (j+1)=L.take j++[L[j]]:=List.take_succ_eq_append_getElem hjr
   have hdr:L.drop j++B=L[j]::(L.drop (j+1)++B):=by rw[List.drop_eq_getElem_cons hjr];rfl
   have hAl:(P++L.take j).length=a+j:=by rw[List.length_append,List.length_take];omega
   have hsp:=Ady (P++L.take j) (L.drop (j+1)++B) L[j] y
   have hst:(P++L.take (j+1))++y::(L.drop (j+1)++B)=(P++L.take j)++L[j]::y::(L.drop (j+1)++B):=by rw[htk,← List.append_assoc P,List.append_assoc (P++L.take j)];rfl
   rw[hst]
   generalize L[j]=z at *
   have hEl:((P++L.take j)++z::y::(L.drop (j+1)++B)).length=D.length:=by simp;omega
   have n1:(((m-i:Nat):Int)).toNat=(P++L.take j).length+1:=by omega
   have n2:(((m-i:Nat):Int)-1).toNat=(P++L.take j).length:=by omega
   have g1:∀ h,((P++L.take j)++z::y::(L.drop (j+1)++B))[(((m-i:Nat):Int)).toNat]'h=y:=fun h=>by simp only[n1];rw[List.getElem_append_right j_];simp
   have g2:∀ h,((P++L.take j)++z::y::(L.drop (j+1)++B))[(((m-i:Nat):Int)-1).toNat]'h=z:=fun h=>by simp only[n2];rw[List.getElem_append_right (Nat.le_refl _)];simp
   generalize hE:(P++L.take j)++z::y::(L.drop (j+1)++B)=E at *
   have c1:(((m-i:Nat):Int)).toNat<E.length:=by omega
   have c2:(((m-i:Nat):Int)-1).toNat<E.length:=by omega
   have c3:(((m-i:Nat):Int)-1).toNat<(E.set (((m-i:Nat):Int)).toNat (E[(((m-i:Nat):Int)-1).toNat]'c2)).length:=by rw[List.length_set];exact c2
   have hset:(E.set (((m-i:Nat):Int)).toNat (E[(((m-i:Nat):Int)-1).toNat]'c2)).set (((m-i:Nat):Int)-1).toNat (E[(((m-i:Nat):Int)).toNat]'c1)=(P++L.take j)++y::z::(L.drop (j+1)++B):=by
    rw[g1 c1,g2 c2];simp only[n1,n2];exact hsp
   clear h
   refine T ?_
   refine⟨E[(((m-i:Nat):Int)-1).toNat]'c2,q_,q_,?_⟩
   refine T ?_
   refine⟨E[(((m-i:Nat):Int)).toNat]'c1,q_,q_,?_⟩
   refine T ?_
   refine Dl [] his ⟨⟨q_,q_,q_,q_,congrArg Aa j_,q_,z_⟩,⟨.inl (congrArg (Ob.row 17 Ad) (by rw[hset,hj2,hdr])),q_,z_⟩,q_,q_⟩
  ·have his:L.length-i=s:=qB h
   rw[his]
   rw[show P++((L.take s++y::L.drop s)++B)=(P++L.take s)++y::(L.drop s++B) by simp]
   refine T ?_
   exact E0
def CutA (lt:LineM→LineM→Bool) (L R:List LineM) (d i:Nat):Prop:=i=0∨R.length≤d-i∨∃ (hi:i-1<L.length) (hj:d-i<R.length),0<i∧lt R[d-i] L[i-1]=false
def CutB (lt:LineM→LineM→Bool) (L R:List LineM) (d i:Nat):Prop:=L.length≤i∨d-i=0∨∃ (hi:i<L.length) (hj:d-i-1<R.length),0<d-i∧lt R[d-i-1] L[i]=true
structure CutI (lt:LineM→LineM→Bool) (L R:List LineM) (d:Nat) (q:Nat × Nat):Prop where
 le:q.1≤q.2
 l:q.2≤L.length
 d2:q.2≤d
 r:d≤q.1+R.length
 h1:CutA lt L R d q.1
 h2:CutB lt L R d q.2
theorem Aaa (c:LineM→LineM→Int) (Q:LineM→Prop) (f:FuncId) (first cap:List SV) (hc:(SV.clo (.func f) first cap).inn []=true) (hf:∀ a b,Q a→Q b→Hg Tryz.prog f (first++[Ad a,Ad b]++cap) (Aa (c a b)))
  (lt:LineM→LineM→Bool) (hlt:(fun x y=>decide (c x y<0))=lt) (ho:Ordy lt):∀ (N:Nat) (P L R B:List LineM),L.length+R.length≤N→(∀ x∈L,Q x)→(∀ x∈R,Q x)→Srt lt L→Srt lt R→0<L.length→0<R.length→(P++(L++(R++B))).length<1000000 →
  ∀ a m b:Nat,a=P.length→m=a+L.length→b=m+R.length →
  Sy.Spec Tryz.prog 41 [.osl 0,Aa a,Aa m,Aa b,.clo (.func f) first cap] [(0,.row 17 Ad (P++(L++(R++B))))] (.tup []) [(0,.row 17 Ad (P++(A9 lt L R++B)))]:=by
 have hin:∀ x y:LineM,Bn [] (first++[Ad x,Ad y]++cap)=true:=fun x y=>Dd hc rfl
 have hc':(SV.clo (.func f) first cap).inn [0]=true:=Hv _ hc
 have hok:∀ a b n:Int,Bn [0] [.osl 0,Aa a,Aa b,Aa n,.clo (.func f) first cap]=true:=fun a b n=>by simp only[Bn,hc'];rfl
 intro N
 induction N with
 | zero=>intro P L R B h _ _ _ _ h1;omega
 | succ N ih =>
  intro P L R B hN hQL hQR hL hR hL0 hR0 hl a m b ha hm1 hb1
  have hll:P.length+L.length+R.length+B.length<1000000:=by simp only[List.length_append]at hl;omega
  by_cases hl1:L.length=1
  ·obtain ⟨x,rfl⟩:=List.length_eq_one_iff.1 hl1
   exact Akt c Q f first cap hc hf lt hlt ho P R B x (hQL x qe) hQR hR hl a m b ha hm1 hb1
  by_cases hr1:R.length=1
  ·obtain ⟨y,rfl⟩:=List.length_eq_one_iff.1 hr1
   exact Aks c Q f first cap hc hf lt hlt ho P L B y (hQR y qe) hQL hL j_ hl a m b ha hm1 hb1
  obtain ⟨mid,hmid⟩:∃ mid,mid=(a+b) / 2:=⟨_,rfl⟩
  have hhm:=Ma a b mid hmid j_
  obtain ⟨d,hd⟩:∃ d,mid=a+d:=⟨mid-a,by omega⟩
  obtain ⟨D,hD⟩:∃ D,P++(L++(R++B))=D:=⟨_,rfl⟩
  have hdl:D.length=P.length+L.length+R.length+B.length:=by rw[← hD];simp;omega
  have el:∀ (k:Nat) (hk:k<L.length) (z:Int) (hz:z=((a+k:Nat):Int)) (h:z.toNat<D.length),D[z.toNat]'h=L[k]:=fun k hk z hz h=>by
   subst hD;subst hm1;subst ha;subst hz
   simp only[Int.toNat_natCast]
   rw[List.getElem_append_right j_]
   simp only[Nat.add_sub_cancel_left]
   rw[List.getElem_append_left hk]
  have er:∀ (k:Nat) (hk:k<R.length) (z:Int) (hz:z=((m+k:Nat):Int)) (h:z.toNat<D.length),D[z.toNat]'h=R[k]:=fun k hk z hz h=>by
   subst hD;subst hm1;subst ha;subst hz
   simp only[Int.toNat_natCast]
   rw[List.getElem_append_right j_]
   simp only[show P.length+L.length+k-P.length=L.length+k by omega]
   rw[List.getElem_append_right j_]
   simp only[Nat.add_sub_cancel_left]
   rw[List.getElem_append_left hk]
  rw[hD]
  have hfin:∀ i,CutI lt L R d (i,i)→A9 lt L R=A9 lt (L.take i) (R.take (d-i))++A9 lt (L.drop i) (R.drop (d-i)):=fun i hi=>by
   refine Vb ho hL hR i (d-i) ?_ ?_
   ·exact hi.h1
   ·exact hi.h2
  have htarget:P++(A9 lt L R++B)=P++(A9 lt L R++B):=rfl
  refine Lo Γ hm 100 F41 Tryz.ntmps41 q_ fun F hF=>by
   refine T ?_
   by_cases hc1:mid<m
   rotate_left
   refine⟨fun h=>absurd (of_decide_eq_true h) j_,fun h=>?_⟩
   clear h
   refine T ?_
   refine Bk (CutI lt L R d) (fun q=>[(0,.osl 0),(1,Aa a),(2,Aa m),(3,Aa b),(4,.clo (.func f) first cap),(18,Aa (mid:Nat)),(19,Aa ((mid+m:Nat):Int)),(20,Aa ((a+q.1:Nat):Int)),(21,Aa ((a+q.2:Nat):Int)),(22,Aa ((mid+m-1:Nat):Int))]) (fun _=>[(0,.row 17 Ad D)]) (fun q=>q.2-q.1) (0,L.length) [] ⟨Nat.zero_le _,Nat.le_refl _,by dsimp only;omega,by dsimp only;omega,.inl q_,.inl (Nat.le_refl _)⟩
    ⟨⟨rfl,rfl,rfl,rfl,rfl,rfl,rfl,rfl,Ay _,hc',congrArg Aa j_,rfl,congrArg Aa j_,rfl,rfl,rfl,congrArg Aa (by dsimp only;omega),rfl,congrArg Aa j_,rfl,trivial⟩,⟨.inl rfl,rfl,trivial⟩,rfl,rfl⟩ ?_
   rotate_left
   refine⟨fun h=>?_,fun h=>absurd (of_decide_eq_false h) j_⟩
   clear h
   refine T ?_
   refine Bk (CutI lt L R d) (fun q=>[(0,.osl 0),(1,Aa a),(2,Aa m),(3,Aa b),(4,.clo (.func f) first cap),(18,Aa (mid:Nat)),(19,Aa ((mid+m:Nat):Int)),(20,Aa ((a+q.1:Nat):Int)),(21,Aa ((a+q.2:Nat):Int)),(22,Aa ((mid+m-1:Nat):Int))]) (fun _=>[(0,.row 17 Ad D)]) (fun q=>q.2-q.1) (d-R.length,d) [] ⟨Nat.sub_le _ _,by dsimp only;omega,Nat.le_refl _,by dsimp only;omega,(by show _∨_;dsimp only;omega),.inr (.inl (Nat.sub_self _))⟩
    ⟨⟨rfl,rfl,rfl,rfl,rfl,rfl,rfl,rfl,Ay _,hc',congrArg Aa j_,rfl,congrArg Aa j_,rfl,congrArg Aa (by dsimp only;omega),rfl,congrArg Aa (by dsimp only;omega),rfl,congrArg Aa j_,rfl,trivial⟩,⟨.inl rfl,rfl,trivial⟩,rfl,rfl⟩ ?_
   all_goals
    rintro ⟨i,r⟩ hq
    have hfi:=hfin i
    obtain ⟨g1,g2,g3,g4,g5,g6⟩:=hq
    dsimp only at g1 g2 g3 g4 g5 g6 ⊢
    refine T ?_
    refine⟨fun h=>?_,fun h=>?_⟩
    ·have hsr:i<r:=qA h
     clear h hfi
     obtain ⟨k,hk⟩:∃ k,k=(i+r) / 2:=⟨_,rfl⟩
     have hhs:=Ma (a+i) (a+r) (a+k) j_ j_
     obtain ⟨j,hj⟩:∃ j,d=k+j+1:=⟨d-k-1,by omega⟩
     have hkl:k<L.length:=by omega
     have hkr:j<R.length:=by omega
     have hzr:((mid+m-1:Nat):Int)-Ks ((a+i:Nat):Int) ((a+r:Nat):Int)=((m+j:Nat):Int):=by show _-IntKind.i64.wrap _=_;rw[hhs];omega
     have b1:(((mid+m-1:Nat):Int)-Ks ((a+i:Nat):Int) ((a+r:Nat):Int)).toNat<D.length:=by rw[hzr];omega
     have b2:(Ks ((a+i:Nat):Int) ((a+r:Nat):Int)).toNat<D.length:=by show (IntKind.i64.wrap _).toNat<_;rw[hhs];omega
     have e1:=er j hkr _ hzr b1
     have e2:=el k hkl _ hhs b2
     have hcc:lt R[j] L[k]=decide (c (D[(((mid+m-1:Nat):Int)-Ks ((a+i:Nat):Int) ((a+r:Nat):Int)).toNat]'b1) (D[(Ks ((a+i:Nat):Int) ((a+r:Nat):Int)).toNat]'b2)<0):=by rw[e1,e2,← hlt]
     have q1:=hf (D[(((mid+m-1:Nat):Int)-Ks ((a+i:Nat):Int) ((a+r:Nat):Int)).toNat]'b1) (D[(Ks ((a+i:Nat):Int) ((a+r:Nat):Int)).toNat]'b2) (by rw[e1];exact hQR _ (List.getElem_mem _)) (by rw[e2];exact hQL _ (List.getElem_mem _))
     refine T ?_
     refine Vk q1 q_ q_ q_ (by simp only[hin];rfl) y_ q_ ?_
     cases hcv:lt R[j] L[k]
     ·rw[hcv]at hcc
      refine T ?_
      refine⟨fun _=>?_,fun h=>?_⟩
      ·refine T ?_
       refine Ar (k+1,r) [] ⟨by dsimp only;omega,g2,g3,by dsimp only;omega,.inr (.inr ⟨by dsimp only;omega,by dsimp only;omega,Nat.succ_pos _,by
        have e:d-(k+1)=j:=by omega
        simp only[e,Nat.add_sub_cancel]
        exact hcv⟩),g6⟩ (by dsimp only;omega) ⟨⟨q_,q_,q_,q_,q_,q_,q_,q_,Ay _,hc',q_,q_,q_,q_,congrArg Aa (by dsimp only;omega),q_,q_,q_,q_,q_,z_⟩,⟨.inl q_,q_,z_⟩,q_,q_⟩
      ·rw[← hcc]at h;cases h
     ·rw[hcv]at hcc
      refine T ?_
      refine⟨fun h=>?_,fun _=>?_⟩
      ·rw[← hcc]at h;cases h
      ·refine T ?_
       refine Ar (i,k) [] ⟨by dsimp only;omega,by dsimp only;omega,by dsimp only;omega,g4,g5,.inr (.inr ⟨hkl,by dsimp only;omega,by dsimp only;omega,by
        have e:d-k-1=j:=by omega
        simp only[e]
        exact hcv⟩)⟩ (by dsimp only;omega) ⟨⟨q_,q_,q_,q_,q_,q_,q_,q_,Ay _,hc',q_,q_,q_,q_,q_,q_,congrArg Aa (by dsimp only;omega),q_,q_,q_,z_⟩,⟨.inl q_,q_,z_⟩,q_,q_⟩
    ·have hsr:i=r:=qB h
     subst hsr
     clear h er el
     have hcut:=hfi ⟨g1,g2,g3,g4,g5,g6⟩
     clear hfi
     have hLL:=List.take_append_drop i L
     have hRR:=List.take_append_drop (d-i) R
     have k1:(L.take i).length=i:=by rw[List.length_take];omega
     have k2:(L.drop i).length=L.length-i:=List.length_drop
     have k3:(R.take (d-i)).length=d-i:=by rw[List.length_take];omega
     have k4:(R.drop (d-i)).length=R.length-(d-i):=List.length_drop
     have m1:∀ x∈L.take i,Q x:=fun x hx=>hQL x (List.mem_of_mem_take hx)
     have m2:∀ x∈L.drop i,Q x:=fun x hx=>hQL x (List.mem_of_mem_drop hx)
     have m3:∀ x∈R.take (d-i),Q x:=fun x hx=>hQR x (List.mem_of_mem_take hx)
     have m4:∀ x∈R.drop (d-i),Q x:=fun x hx=>hQR x (List.mem_of_mem_drop hx)
     have s1:Srt lt (L.take i):=hL.sublist (List.take_sublist _ _)
     have s2:Srt lt (L.drop i):=hL.sublist (List.drop_sublist _ _)
     have s3:Srt lt (R.take (d-i)):=hR.sublist (List.take_sublist _ _)
     have s4:Srt lt (R.drop (d-i)):=hR.sublist (List.drop_sublist _ _)
     have hY0:P++(L.take i++(L.drop i++(R.take (d-i)++(R.drop (d-i)++B))))=D:=by
      rw[← hD,← List.append_assoc (L.take i),hLL,← List.append_assoc (R.take (d-i)),hRR]
     clear hD hLL hRR
     rw[hcut,List.append_assoc (A9 lt (L.take i) (R.take (d-i)))]
     clear hcut
     generalize L.take i=L1 at *
     generalize L.drop i=L2 at *
     generalize R.take (d-i)=R1 at *
     generalize R.drop (d-i)=R2 at *
     clear g5 g6 hdl hl1 hr1 hhm
     have hsz:P.length+L1.length+R1.length+L2.length+R2.length+B.length<1000000:=by omega
     obtain ⟨j,hj⟩:∃ j,d=i+j:=⟨d-i,by omega⟩
     have hLi:L1.length+L2.length=L.length:=by omega
     have hRi:R1.length+R2.length=R.length:=by omega
     have k1:L1.length=i:=k1
     have k3:R1.length=j:=by omega
     have hdN:d≤N:=by omega
     have hdN2:L.length+R.length≤N+d:=by omega
     clear k2 k4 g1 g2 g3 g4 hc1 hmid hL0 hR0 hll hl
     have hkk:=hok
     by_cases hrot:0<L2.length∧0<R1.length
     rotate_left
     have hY:P++(L1++(R1++(L2++(R2++B))))=D:=by
      rw[← hY0]
      rcases Nat.eq_zero_or_pos L2.length with h | h
      ·rw[List.eq_nil_of_length_eq_zero h];simp
      ·rw[List.eq_nil_of_length_eq_zero (show R1.length=0 by omega)];simp
     obtain ⟨cur,rfl⟩:∃ cur,cur=D:=⟨D,rfl⟩
     clear hY0
     by_cases hl2:L2.length=0
     clear hrot
     refine T ?_
     rotate_left
     have hl3:R1.length=0:=by omega
     clear hrot
     refine T ?_
     rotate_left
     have q:=Aqa (P++L1) L2 R1 (R2++B) f first cap hc' hrot.1 hrot.2 (by simp only[List.length_append];omega) m (m+j) (by simp only[List.length_append];omega) j_
     rw[show (P++L1).length=a+i by simp only[List.length_append];omega,show ((m+j:Nat):Int)=((mid+m:Nat):Int)-((a+i:Nat):Int) by omega]at q
     simp only[List.append_assoc]at q
     rw[hY0]at q
     obtain ⟨cur,hY⟩:∃ cur,P++(L1++(R1++(L2++(R2++B))))=cur:=⟨_,rfl⟩
     rw[hY]at q
     have hok:=hkk ((a+i:Nat):Int) m (((mid+m:Nat):Int)-((a+i:Nat):Int))
     clear hY0
     refine T ?_
     refine X (Ac [] q_ F91 q (Cy _) ⟨q_,z_⟩ (by simp only[Ev,Obs.keys,List.map_cons,List.map_nil,hok];rfl) ⟨.inl q_,z_⟩) ?_
     all_goals
      by_cases hc2:0<L1.length∧0<R1.length
      rotate_left
      have hY2:P++(A9 lt L1 R1++(L2++(R2++B)))=cur:=by
       rw[← hY]
       rcases Nat.eq_zero_or_pos L1.length with h | h
       ·rw[List.eq_nil_of_length_eq_zero h,Cq];rfl
       ·rw[List.eq_nil_of_length_eq_zero (show R1.length=0 by omega),Dh];rfl
      obtain ⟨cur2,rfl⟩:∃ cur2,cur2=cur:=⟨cur,rfl⟩
      clear hY
      by_cases hc3:L1.length=0
      clear hc2
      refine T ?_
      rotate_left
      have hc4:R1.length=0:=by omega
      clear hc2
      refine T ?_
      rotate_left
      first
      | (exfalso;omega)
      | (have q:=ih P L1 R1 (L2++(R2++B)) j_ m1 m3 s1 s3 hc2.1 hc2.2 (by simp only[List.length_append];omega) a (a+i) mid ha j_ j_
         rw[hY]at q
         obtain ⟨cur2,hY2⟩:∃ cur2,P++(A9 lt L1 R1++(L2++(R2++B)))=cur2:=⟨_,rfl⟩
         rw[hY2]at q
         have hok:=hkk (a:Int) ((a+i:Nat):Int) mid
         clear hY
         refine T ?_
         refine X (Ac [] q_ F41 q (Cy _) ⟨q_,z_⟩ (by simp only[Ev,Obs.keys,List.map_cons,List.map_nil,hok];rfl) ⟨.inl q_,z_⟩) ?_)
     all_goals
      by_cases hc5:0<L2.length∧0<R2.length
      rotate_left
      have hY3:P++(A9 lt L1 R1++(A9 lt L2 R2++B))=cur2:=by
       rw[← hY2]
       rcases Nat.eq_zero_or_pos L2.length with h | h
       ·rw[List.eq_nil_of_length_eq_zero h,Cq];rfl
       ·rw[List.eq_nil_of_length_eq_zero (show R2.length=0 by omega),Dh];rfl
      by_cases hc6:L2.length=0
      clear hc5
      refine T ?_
      exact B0 q_ .nil [] [(0,.row 17 Ad (P++(A9 lt L1 R1++(A9 lt L2 R2++B))))] (fun _ h=>h) q_ q_ ⟨z_,⟨.inl (congrArg (Ob.row 17 Ad) hY3),q_,z_⟩,q_,q_⟩
      have hc7:R2.length=0:=by omega
      clear hc5
      refine T ?_
      exact B0 q_ .nil [] [(0,.row 17 Ad (P++(A9 lt L1 R1++(A9 lt L2 R2++B))))] (fun _ h=>h) q_ q_ ⟨z_,⟨.inl (congrArg (Ob.row 17 Ad) hY3),q_,z_⟩,q_,q_⟩
      first
      | (exfalso;omega)
      | (have hml:=Ko lt L1 R1
         have q:=ih (P++A9 lt L1 R1) L2 R2 B j_ m2 m4 s2 s4 hc5.1 hc5.2 (by simp only[List.length_append];omega) mid (m+j) b (by simp only[List.length_append];omega) j_ j_
         rw[show ((m+j:Nat):Int)=((mid+m:Nat):Int)-((a+i:Nat):Int) by omega]at q
         simp only[List.append_assoc]at q
         rw[hY2]at q
         have hok:=hkk (mid:Int) (((mid+m:Nat):Int)-((a+i:Nat):Int)) b
         refine T ?_
         refine X (Ac [] q_ F41 q (Cy _) ⟨q_,z_⟩ (by simp only[Ev,Obs.keys,List.map_cons,List.map_nil,hok];rfl) ⟨.inl q_,z_⟩) ?_
         exact E0)
def Arc (lt:LineM→LineM→Bool) (s:Nat) (M Y:List LineM):Prop:=Y.length≤M.length∧bs lt s M=Y++bs lt s (M.drop Y.length)
def StbI (M:List LineM) (s:Nat):Prop:=20≤s∧s<2 * M.length+21
theorem Ahg (c:LineM→LineM→Int) (Q:LineM→Prop) (f:FuncId) (first cap:List SV) (hc:(SV.clo (.func f) first cap).inn []=true) (hf:∀ a b,Q a→Q b→Hg Tryz.prog f (first++[Ad a,Ad b]++cap) (Aa (c a b)))
  (lt:LineM→LineM→Bool) (hlt:(fun x y=>decide (c x y<0))=lt) (ho:Ordy lt) (M:List LineM) (hQ:∀ x∈M,Q x) (hl:M.length<100000) :
  Sy.Spec Tryz.prog 23 [.osl 0,Aa M.length,.clo (.func f) first cap] [(0,.row 17 Ad M)] (.tup []) [(0,.row 17 Ad (Bo lt M))]:=cT F23 Tryz.ntmps23 fun F hF=>by
 have hc':(SV.clo (.func f) first cap).inn [0]=true:=Hv _ hc
 have hok3:∀ a b:Int,Bn [0] [.osl 0,Aa a,Aa b,.clo (.func f) first cap]=true:=fun a b=>by simp only[Bn,hc'];rfl
 have hok4:∀ a b n:Int,Bn [0] [.osl 0,Aa a,Aa b,Aa n,.clo (.func f) first cap]=true:=fun a b n=>by simp only[Bn,hc'];rfl
 refine T ?_
 refine Bk (Arc lt 20 M) (fun Y=>[(0,.osl 0),(1,Aa M.length),(2,.clo (.func f) first cap),(6,Aa 20),(7,Aa Y.length),(8,Aa ((Y.length+20:Nat):Int))]) (fun Y=>[(0,.row 17 Ad (Y++M.drop Y.length))]) (fun Y=>M.length-Y.length) [] [] ⟨Nat.zero_le _,q_⟩ ⟨⟨q_,q_,q_,q_,Ay _,hc',q_,q_,q_,q_,q_,q_,z_⟩,⟨.inl q_,q_,z_⟩,q_,q_⟩ ?_
 intro Y hY
 obtain ⟨hY1,hY2⟩:=hY
 have hdl:(M.drop Y.length).length=M.length-Y.length:=List.length_drop
 refine T ?_
 refine⟨fun h=>?_,fun h=>?_⟩
 ·have hlt2:Y.length+20≤M.length:=qA h
  have hbm:=Un lt (l:=M.drop Y.length) (s:=20) qd j_
  have hsp:=List.take_append_drop 20 (M.drop Y.length)
  have htl:((M.drop Y.length).take 20).length=20:=by rw[List.length_take];omega
  have q:=Afm c Q f first cap hc hf Y ((M.drop Y.length).take 20) ((M.drop Y.length).drop 20) (fun x hx=>hQ x (List.mem_of_mem_drop (List.mem_of_mem_take hx))) (by rw[hsp,List.length_append];omega) Y.length (Y.length+20) rfl (by rw[htl])
  rw[hsp,hlt]at q
  have hok:=hok3 Y.length ((Y.length+20:Nat):Int)
  have hsl:=D2 lt ((M.drop Y.length).take 20)
  rw[List.drop_drop]at hbm q
  rw[htl]at hsl
  generalize Bo lt ((M.drop Y.length).take 20)=Z at *
  have hYS:(Y++Z).length=Y.length+20:=by rw[List.length_append];omega
  have hI:Arc lt 20 M (Y++Z):=⟨by omega,by rw[hY2,hbm,hYS,List.append_assoc]⟩
  clear h hbm hsp htl hY2
  refine T ?_
  refine X (Ac [] q_ F40 q (Cy _) ⟨q_,z_⟩ (by simp only[Ev,Obs.keys,List.map_cons,List.map_nil,hok];rfl) ⟨.inl q_,z_⟩) ?_
  refine Ar (Y++Z) [] hI j_ ⟨⟨q_,q_,q_,q_,Ay _,hc',q_,q_,congrArg Aa j_,q_,congrArg Aa j_,q_,z_⟩,⟨.inl (congrArg (Ob.row 17 Ad) (by rw[hYS,List.append_assoc])),q_,z_⟩,q_,q_⟩
 ·have hlt2:¬ Y.length+20≤M.length:=qB h
  have hbf:=Ou lt (l:=M.drop Y.length) (s:=20) j_
  have q:=Afm c Q f first cap hc hf Y (M.drop Y.length) [] (fun x hx=>hQ x (List.mem_of_mem_drop hx)) (by rw[List.append_nil,List.length_append];omega) Y.length M.length rfl j_
  rw[List.append_nil,List.append_nil,hlt,← hbf,← hY2]at q
  have hok:=hok3 Y.length M.length
  clear h hbf hY2
  refine T ?_
  refine X (Ac [] q_ F40 q (Cy _) ⟨q_,z_⟩ (by simp only[Ev,Obs.keys,List.map_cons,List.map_nil,hok];rfl) ⟨.inl q_,z_⟩) ?_
  clear q hok hdl hY1 hlt2
  refine Bk (StbI M) (fun s=>[(0,.osl 0),(1,Aa M.length),(2,.clo (.func f) first cap),(6,Aa (s:Nat))]) (fun s=>[(0,.row 17 Ad (bs lt s M))]) (fun s=>2 * M.length+21-s) 20 [] ⟨by omega,by omega⟩ ⟨⟨q_,q_,q_,q_,Ay _,hc',q_,q_,z_⟩,⟨.inl q_,q_,z_⟩,q_,q_⟩ ?_
  rintro s ⟨hs1,hs2⟩
  refine T ?_
  refine⟨fun h=>?_,fun h=>?_⟩
  rotate_left
  ·rw[← Ou lt (l:=M) (s:=s) (qB h)]
   refine T ?_
   exact B0 q_ .nil [] [(0,.row 17 Ad (bs lt s M))] (fun _ h=>h) q_ q_ ⟨z_,⟨.inl q_,q_,z_⟩,q_,q_⟩
  have hsm:s<M.length:=qA h
  clear h
  refine T ?_
  refine Bk (Arc lt (2 * s) M) (fun Y=>[(0,.osl 0),(1,Aa M.length),(2,.clo (.func f) first cap),(6,Aa (s:Nat)),(7,Aa Y.length),(8,Aa ((Y.length+2 * s:Nat):Int))]) (fun Y=>[(0,.row 17 Ad (Y++bs lt s (M.drop Y.length)))]) (fun Y=>M.length-Y.length) [] [] ⟨Nat.zero_le _,q_⟩ ⟨⟨q_,q_,q_,q_,Ay _,hc',q_,q_,q_,q_,congrArg Aa (by simp only[List.length_nil];omega),q_,z_⟩,⟨.inl q_,q_,z_⟩,q_,q_⟩ ?_
  intro Y hY
  obtain ⟨hY1,hY2⟩:=hY
  have hdl:(M.drop Y.length).length=M.length-Y.length:=List.length_drop
  refine T ?_
  refine⟨fun h=>?_,fun h=>?_⟩
  ·have hlt2:Y.length+2 * s≤M.length:=qA h
   obtain ⟨hb1,hb2⟩:=bs_two ho (l:=M.drop Y.length) (s:=s) j_ j_
   have l1:=D2 lt ((M.drop Y.length).take s)
   have l2:=D2 lt (((M.drop Y.length).drop s).take s)
   have l3:=bs_len lt s _ ((M.drop Y.length).drop (2 * s)) rfl
   have t1:((M.drop Y.length).take s).length=s:=by rw[List.length_take];omega
   have t2:(((M.drop Y.length).drop s).take s).length=s:=by rw[List.length_take,List.length_drop];omega
   have t3:((M.drop Y.length).drop (2 * s)).length=M.length-Y.length-2 * s:=by rw[List.length_drop];omega
   have w1:=I6 ho ((M.drop Y.length).take s)
   have w2:=I6 ho (((M.drop Y.length).drop s).take s)
   have v1:∀ x∈Bo lt ((M.drop Y.length).take s),Q x:=fun x hx=>hQ x (List.mem_of_mem_drop (List.mem_of_mem_take (Kg lt _ x hx)))
   have v2:∀ x∈Bo lt (((M.drop Y.length).drop s).take s),Q x:=fun x hx=>hQ x (List.mem_of_mem_drop (List.mem_of_mem_drop (List.mem_of_mem_take (Kg lt _ x hx))))
   have hdd:(M.drop Y.length).drop (2 * s)=M.drop (Y.length+2 * s):=List.drop_drop ..
   rw[hdd]at hb1 hb2 l3 t3
   clear hdd
   rw[hb2]at hY2
   rw[hb1]
   generalize Bo lt ((M.drop Y.length).take s)=L at *
   generalize Bo lt (((M.drop Y.length).drop s).take s)=R at *
   have hml:=Ko lt L R
   have q:=Aaa c Q f first cap hc hf lt hlt ho _ Y L R (bs lt s (M.drop (Y.length+2 * s))) (Nat.le_refl _) v1 v2 w1 w2 j_ j_ (by simp only[List.length_append];omega) Y.length (Y.length+s) (Y.length+2 * s) rfl j_ j_
   rw[show ((Y.length+s:Nat):Int)=(Y.length:Int)+(s:Int) by omega]at q
   have hok:=hok4 Y.length ((Y.length:Int)+(s:Int)) ((Y.length+2 * s:Nat):Int)
   have hYS:(Y++A9 lt L R).length=Y.length+2 * s:=by rw[List.length_append];omega
   have hI:Arc lt (2 * s) M (Y++A9 lt L R):=⟨by omega,by rw[hY2,hYS,List.append_assoc]⟩
   clear h hb1 hb2 hY2 w1 w2 v1 v2
   refine T ?_
   refine X (Ac [] q_ F41 q (Cy _) ⟨q_,z_⟩ (by simp only[Ev,Obs.keys,List.map_cons,List.map_nil,hok];rfl) ⟨.inl q_,z_⟩) ?_
   refine Ar (Y++A9 lt L R) [] hI j_ ⟨⟨q_,q_,q_,q_,Ay _,hc',q_,q_,congrArg Aa j_,q_,congrArg Aa j_,q_,z_⟩,⟨.inl (congrArg (Ob.row 17 Ad) (by rw[hYS,List.append_assoc])),q_,z_⟩,q_,q_⟩
  ·have hlt2:¬ Y.length+2 * s≤M.length:=qB h
   clear h
   by_cases hm2:Y.length+s<M.length
   rotate_left
   ·have e1:=Ou lt (l:=M.drop Y.length) (s:=s) j_
    have e2:=Ou lt (l:=M.drop Y.length) (s:=2 * s) j_
    rw[e2,← e1]at hY2
    refine T ?_
    refine Ar (2 * s) [] ⟨by omega,by omega⟩ j_ ⟨⟨q_,q_,q_,q_,Ay _,hc',congrArg Aa j_,q_,z_⟩,⟨.inl (congrArg (Ob.row 17 Ad) hY2),q_,z_⟩,q_,q_⟩
   obtain ⟨hb1,hb2⟩:=Aq2 ho (l:=M.drop Y.length) (s:=s) j_ j_ j_
   have l1:=D2 lt ((M.drop Y.length).take s)
   have l2:=D2 lt ((M.drop Y.length).drop s)
   have t1:((M.drop Y.length).take s).length=s:=by rw[List.length_take];omega
   have t2:((M.drop Y.length).drop s).length=M.length-Y.length-s:=by rw[List.length_drop];omega
   have w1:=I6 ho ((M.drop Y.length).take s)
   have w2:=I6 ho ((M.drop Y.length).drop s)
   have v1:∀ x∈Bo lt ((M.drop Y.length).take s),Q x:=fun x hx=>hQ x (List.mem_of_mem_drop (List.mem_of_mem_take (Kg lt _ x hx)))
   have v2:∀ x∈Bo lt ((M.drop Y.length).drop s),Q x:=fun x hx=>hQ x (List.mem_of_mem_drop (List.mem_of_mem_drop (Kg lt _ x hx)))
   rw[hb2]at hY2
   rw[hb1]
   generalize Bo lt ((M.drop Y.length).take s)=L at *
   generalize Bo lt ((M.drop Y.length).drop s)=R at *
   have hml:=Ko lt L R
   have q:=Aaa c Q f first cap hc hf lt hlt ho _ Y L R [] (Nat.le_refl _) v1 v2 w1 w2 j_ j_ (by simp only[List.length_append,List.length_nil];omega) Y.length (Y.length+s) M.length rfl j_ j_
   rw[show ((Y.length+s:Nat):Int)=(Y.length:Int)+(s:Int) by omega,List.append_nil,List.append_nil,← hY2]at q
   have hok:=hok4 Y.length ((Y.length:Int)+(s:Int)) M.length
   clear hb1 hb2 hY2 w1 w2 v1 v2
   refine T ?_
   refine X (Ac [] q_ F41 q (Cy _) ⟨q_,z_⟩ (by simp only[Ev,Obs.keys,List.map_cons,List.map_nil,hok];rfl) ⟨.inl q_,z_⟩) ?_
   refine Ar (2 * s) [] ⟨by omega,by omega⟩ j_ ⟨⟨q_,q_,q_,q_,Ay _,hc',congrArg Aa j_,q_,z_⟩,⟨.inl q_,q_,z_⟩,q_,q_⟩
theorem Am8 (c:LineM→LineM→Int) (Q:LineM→Prop) (f:FuncId) (first cap:List SV) (hc:(SV.clo (.func f) first cap).inn []=true) (hf:∀ a b,Q a→Q b→Hg Tryz.prog f (first++[Ad a,Ad b]++cap) (Aa (c a b)))
  (lt:LineM→LineM→Bool) (hlt:(fun x y=>decide (c x y<0))=lt) (ho:Ordy lt) (M:List LineM) (hQ:∀ x∈M,Q x) (hl:M.length<100000) :
  Sy.Spec Tryz.prog 13 [.osl 0,.clo (.func f) first cap] [(0,.row 17 Ad M)] (.tup []) [(0,.row 17 Ad (Bo lt M))]:=cT F13 Tryz.ntmps13 fun F hF=>by
 have hc':(SV.clo (.func f) first cap).inn [0]=true:=Hv _ hc
 have hok:Bn [0] [.osl 0,Aa M.length,.clo (.func f) first cap]=true:=by simp only[Bn,hc'];rfl
 have q:=Ahg c Q f first cap hc hf lt hlt ho M hQ hl
 refine T ?_
 refine X (Ac [] q_ F23 q (Cy _) ⟨q_,z_⟩ (by simp only[Ev,Obs.keys,List.map_cons,List.map_nil,hok];rfl) ⟨.inl q_,z_⟩) ?_
 exact B0 q_ .nil [] [(0,.row 17 Ad (Bo lt M))] (fun _ h=>h) q_ q_ ⟨z_,⟨.inl q_,q_,z_⟩,q_,q_⟩
theorem O4 {κ:Ka} {w:World} {k sz:Nat} {α:Type} {e:α→SV} {l:List α} (hne:l≠[]) (h:ObOK κ w k (.row sz e l)):∃ b n c,κ k=.row b n c:=by
 rcases h with ⟨_,h⟩ | ⟨b,cap,_,_,_,h,_⟩
 ·exact absurd h hne
 ·exact⟨b,_,cap,h⟩
theorem Es (l:List Int) (hl:l.length<2147483648):Sy.Spec Tryz.prog 21 [.sl 1 Aa l] [] (.sl 1 Aa l) []:=cT F21 Tryz.ntmps21 fun F hF=>by
 conv=>whnf
 refine Ig q_ (.inl q_) q_ q_ q_ .sl q_ q_ ?_
 intro b hb
 cases b
 ·refine oF ?_
  refine Cj (Aj Γ.toTy 7 q_ q_ q_ q_ q_ (.lit (e:=Aa) (l:=[]) q_ q_) .sl qe (by simp;omega) (by simp;omega)) q_ q_ ?_
  refine Ai 7 q_ ?_
  refine oO ?_
  exact dN
 ·have h0:l=[]:=List.eq_nil_of_length_eq_zero (hb rfl)
  subst h0
  refine oT ?_
  refine Db 2 1 Aa q_ ?_
  exact dN
theorem Vj (l:List Int) (hl:l.length<2147483648):Sy.Spec Tryz.prog 22 [.sl 1 A7 l] [] (.sl 1 A7 l) []:=cT F22 Tryz.ntmps22 fun F hF=>by
 conv=>whnf
 refine Ig q_ (.inl q_) q_ q_ q_ .sl q_ q_ ?_
 intro b hb
 cases b
 ·refine oF ?_
  refine Cj (Aj Γ.toTy 7 q_ q_ q_ q_ q_ (.lit (e:=A7) (l:=[]) q_ q_) .sl qe (by simp;omega) (by simp;omega)) q_ q_ ?_
  refine Ai 7 q_ ?_
  refine oO ?_
  exact dN
 ·have h0:l=[]:=List.eq_nil_of_length_eq_zero (hb rfl)
  subst h0
  refine oT ?_
  refine Db 2 1 A7 q_ ?_
  exact dN
theorem Ai3 (l:List Port) (hl:l.length<2147483648):Sy.Spec Tryz.prog 158 [.sl 7 Bd l] [] (.osl 0) [(0,.row 7 Bd l)]:=cT F158 Tryz.ntmps158 fun F hF=>by
 conv=>whnf
 refine Ig q_ (.inl q_) q_ q_ q_ .sl q_ q_ ?_
 intro b hb
 cases b
 ·refine oF ?_
  refine Cj (Aj Γ.toTy 7 q_ q_ q_ q_ q_ (.lit (e:=Bd) (l:=[]) q_ q_) .sl qe (by simp;omega) (by simp;omega)) q_ q_ ?_
  refine oO ?_
  exact done q_ (.cons .tmp .nil) [(0,7)] [(0,.row 7 Bd l)] (fun _ h=>h) q_ q_ ⟨z_,⟨.inl q_,q_,z_⟩,q_,q_⟩
 ·have h0:l=[]:=List.eq_nil_of_length_eq_zero (hb rfl)
  subst h0
  refine oT ?_
  refine C0 2 1000 7 Bd q_ q_ ?_
  exact done q_ (.cons .tmp .nil) [(0,1000)] [(0,.row 7 Bd [])] (fun _ h=>h) q_ q_ ⟨z_,⟨.inl q_,q_,z_⟩,q_,q_⟩
theorem Adh (l:List Domain) (hl:l.length<2147483648):Sy.Spec Tryz.prog 160 [.sl 6 An l] [] (.osl 0) [(0,.row 6 An l)]:=cT F160 Tryz.ntmps160 fun F hF=>by
 conv=>whnf
 refine Ig q_ (.inl q_) q_ q_ q_ .sl q_ q_ ?_
 intro b hb
 cases b
 ·refine oF ?_
  refine Cj (Aj Γ.toTy 7 q_ q_ q_ q_ q_ (.lit (e:=An) (l:=[]) q_ q_) .sl qe (by simp;omega) (by simp;omega)) q_ q_ ?_
  refine oO ?_
  exact done q_ (.cons .tmp .nil) [(0,7)] [(0,.row 6 An l)] (fun _ h=>h) q_ q_ ⟨z_,⟨.inl q_,q_,z_⟩,q_,q_⟩
 ·have h0:l=[]:=List.eq_nil_of_length_eq_zero (hb rfl)
  subst h0
  refine oT ?_
  refine C0 2 1000 6 An q_ q_ ?_
  exact done q_ (.cons .tmp .nil) [(0,1000)] [(0,.row 6 An [])] (fun _ h=>h) q_ q_ ⟨z_,⟨.inl q_,q_,z_⟩,q_,q_⟩
theorem Af8 (l:List Flood) (hl:l.length<2147483648):Sy.Spec Tryz.prog 162 [.sl 4 Be l] [] (.osl 0) [(0,.row 4 Be l)]:=cT F162 Tryz.ntmps162 fun F hF=>by
 conv=>whnf
 refine Ig q_ (.inl q_) q_ q_ q_ .sl q_ q_ ?_
 intro b hb
 cases b
 ·refine oF ?_
  refine Cj (Aj Γ.toTy 7 q_ q_ q_ q_ q_ (.lit (e:=Be) (l:=[]) q_ q_) .sl qe (by simp;omega) (by simp;omega)) q_ q_ ?_
  refine oO ?_
  exact done q_ (.cons .tmp .nil) [(0,7)] [(0,.row 4 Be l)] (fun _ h=>h) q_ q_ ⟨z_,⟨.inl q_,q_,z_⟩,q_,q_⟩
 ·have h0:l=[]:=List.eq_nil_of_length_eq_zero (hb rfl)
  subst h0
  refine oT ?_
  refine C0 2 1000 4 Be q_ q_ ?_
  exact done q_ (.cons .tmp .nil) [(0,1000)] [(0,.row 4 Be [])] (fun _ h=>h) q_ q_ ⟨z_,⟨.inl q_,q_,z_⟩,q_,q_⟩
theorem Ami (l:List Vrf) (hl:l.length<2147483648):Sy.Spec Tryz.prog 163 [.sl 5 Ct l] [] (.osl 0) [(0,.row 5 Ct l)]:=cT F163 Tryz.ntmps163 fun F hF=>by
 conv=>whnf
 refine Ig q_ (.inl q_) q_ q_ q_ .sl q_ q_ ?_
 intro b hb
 cases b
 ·refine oF ?_
  refine Cj (Aj Γ.toTy 7 q_ q_ q_ q_ q_ (.lit (e:=Ct) (l:=[]) q_ q_) .sl qe (by simp;omega) (by simp;omega)) q_ q_ ?_
  refine oO ?_
  exact done q_ (.cons .tmp .nil) [(0,7)] [(0,.row 5 Ct l)] (fun _ h=>h) q_ q_ ⟨z_,⟨.inl q_,q_,z_⟩,q_,q_⟩
 ·have h0:l=[]:=List.eq_nil_of_length_eq_zero (hb rfl)
  subst h0
  refine oT ?_
  refine C0 2 1000 5 Ct q_ q_ ?_
  exact done q_ (.cons .tmp .nil) [(0,1000)] [(0,.row 5 Ct [])] (fun _ h=>h) q_ q_ ⟨z_,⟨.inl q_,q_,z_⟩,q_,q_⟩
theorem Aky (l:LineM) (h:LineFin l):Sy.Spec Tryz.prog 12 [Ad l] [] (Ad l) []:=cT F12 Tryz.ntmps12 fun F hF=>by
 have ht:=h.t;have hi:=h.i;have he:=h.e;have ha:=h.a
 refine T ?_
 refine C (Es l.tagged j_) F21 ?_
 refine C (Es l.imports j_) F21 ?_
 refine C (Es l.exports j_) F21 ?_
 refine C (Vj l.addrs j_) F22 ?_
 exact D
theorem Al4 (M:List LineM) (h:∀ x∈M,LineFin x) (hl:M.length<1000000):Sy.Spec Tryz.prog 18 [.sl 17 Ad M,.clo (.func 15) [] []] [] (Ab (Jj M)) []:=cT F18 Tryz.ntmps18 fun F hF=>by
 refine T ?_
 refine Bk (fun i:Int=>-1≤i∧i+1≤M.length∧∀ j (hj:j+1<M.length),i≤j→Jm M[j+1] M[j]=false) (fun i=>[(0,.sl 17 Ad M),(1,.clo (.func 15) [] []),(5,Aa i)]) (fun _=>[]) (fun i=>(i+1).toNat) ((M.length:Int)-1) [] ⟨by omega,by omega,fun j hj h1=>by omega⟩ U ?_
 rintro i ⟨h1,h2,h3⟩
 refine T ?_
 refine⟨fun h4=>?_,fun h4=>?_⟩
 ·have hi:0<i:=by have:=of_decide_eq_true h4;omega
  clear h4
  have b1:i.toNat<M.length:=by omega
  have b2:(i-1).toNat<M.length:=by omega
  have g1:0≤i:=by omega
  have g2:0≤i-1:=by omega
  have q:=Lb (M[i.toNat]'b1) (M[(i-1).toNat]'b2) (h _ (List.getElem_mem _)) (h _ (List.getElem_mem _))
  have hB:Jm (M[i.toNat]'b1) (M[(i-1).toNat]'b2)=decide (Qz (M[i.toNat]'b1) (M[(i-1).toNat]'b2)<0):=rfl
  have hk:i.toNat=(i-1).toNat+1:=by omega
  cases hd:decide (Qz (M[i.toNat]'b1) (M[(i-1).toNat]'b2)<0) with
  | true =>
   rw[hd]at hB
   have hO:Jj M=false:=Aep (j:=(i-1).toNat) j_ (by simp only[hk]at hB;exact hB)
   rw[hO]
   clear hB h3
   generalize Qz (M[i.toNat]'b1) (M[(i-1).toNat]'b2)=z at *
   refine T ?_
   refine Vk ⟨⟨_,_,F15⟩,q⟩ q_ q_ q_ q_ y_ q_ ?_
   refine T ?_
   exact D
  | false =>
   rw[hd]at hB
   generalize hz:Qz (M[i.toNat]'b1) (M[(i-1).toNat]'b2)=z at *
   refine T ?_
   refine Vk ⟨⟨_,_,F15⟩,q⟩ q_ q_ q_ q_ y_ q_ ?_
   refine T ?_
   refine Ar (i-1) [] ⟨by omega,by omega,fun j hj h9=>?_⟩ j_ U
   by_cases hji:i≤j
   ·exact h3 j hj hji
   ·have hj2:j=(i-1).toNat:=by omega
    subst hj2
    simp only[hk]at hB;exact hB
 ·have hi:i≤0:=by have:=of_decide_eq_false h4;omega
  have hO:Jj M=true:=Ab8 fun j hj=>h3 j hj j_
  rw[hO]
  clear h4 h3
  refine T ?_
  exact D
theorem Ak2 {s:ByteArray} (h:s.size=0):s=⟨#[]⟩:=by
 have h2:s.data.toList.length=0:=h
 exact Ud (List.eq_nil_of_length_eq_zero h2)
theorem Aly (s:ByteArray) (hs:s.size≤1000000):Sy.Spec Tryz.prog 50 [Ae s] [] (Ab (wordB s)) []:=cT F50 Tryz.ntmps50 fun F hF=>by
 have hsz:s.data.toList.length=s.size:=rfl
 have hw:=wordB.eq_1 s
 obtain ⟨r,hr⟩:∃ r,wordB s=r:=⟨_,rfl⟩
 rw[hr]at hw ⊢
 refine T ?_
 refine Bf s.size (fun j=>I2 (fun _ c=>Adn c) s.data.toList j) (fun j=>[(0,Ae s),(5,Aa s.size),(6,Aa j)]) (fun _=>[]) [] (Bt _ _) U ?_
 intro j hj hI
 refine T ?_
 refine⟨fun h=>?_,fun h=>?_⟩
 ·have hlt:j<s.data.toList.length:=qA h
  have hb:A5 s j=s.data.toList[j]:=Xc hlt
  have hno:=fun h=>@all_at' _ Adn s.data.toList j hlt h
  have hnx:=fun h=>Bm (p:=fun _ c=>Adn c) hI hlt h
  rw[← hb]at hno hnx
  clear h
  have hx:Adn (A5 s j)=(decide (32<(A5 s j).toNat) && decide ((A5 s j).toNat≤126) && decide ((A5 s j).toNat≠35)):=rfl
  by_cases h1:32<(A5 s j).toNat
  ·by_cases h2:(A5 s j).toNat≤126
   ·by_cases h3:(A5 s j).toNat=35
    ·rw[hno (by rw[hx];simp[h3]),Bool.and_false]at hw
     subst hw
     refine T ?_
     exact D
    ·refine T ?_
     exact Bi [] hI j_ (hnx (by rw[hx];simp[h1,h2,h3])) U
   ·rw[hno (by rw[hx];simp[h2]),Bool.and_false]at hw
    subst hw
    refine T ?_
    exact D
  ·rw[hno (by rw[hx];simp[h1]),Bool.and_false]at hw
   subst hw
   refine T ?_
   exact D
 ·have hje:j=s.size:=qB h
  subst hje
  rw[Vl hI (Nat.le_refl _),Bool.and_true]at hw
  clear h
  by_cases h0:s.size=0
  ·have hs:=Ak2 h0
   have he:(s == (⟨#[]⟩:ByteArray))=true:=(Ho _ _).2 hs
   have hw:r=false:=by rw[hw,h0];rfl
   have he2:(!(s == (⟨#[]⟩:ByteArray)))=false:=by rw[he];rfl
   subst hw
   refine T ?_
   exact D
  ·have he:(s == (⟨#[]⟩:ByteArray))=false:=by
    cases he:(s == (⟨#[]⟩:ByteArray))
    ·rfl
    ·exact absurd (by rw[(Ho _ _).1 he];rfl) h0
   have he2:(!(s == (⟨#[]⟩:ByteArray)))=true:=by rw[he];rfl
   by_cases h4:s.size≤40
   ·have hw:r=true:=by rw[hw];simp[h4];omega
    subst hw
    refine T ?_
    refine Aw q_ (.cons .tmp .nil) (congrArg Ab ?_) q_
    exact(decide_eq_true j_).symm
   ·have hw:r=false:=by rw[hw];simp[h4]
    subst hw
    refine T ?_
    refine Aw q_ (.cons .tmp .nil) (congrArg Ab ?_) q_
    exact(decide_eq_false j_).symm
abbrev strO (row:ByteArray) (f:Nat) (l:List ByteArray):Obs:=[(1,.box [Aa f]),(2,.box [.osl 3]),(3,.row 1 Ae l),(4,.box [Ae row])]
abbrev strN (row:ByteArray) (f:Nat) (l:List ByteArray):Obs:=[(1,.box [Aa f]),(2,.box [.osl 5]),(3,.non),(5,.row 1 Ae l),(4,.box [Ae row])]
theorem Am5 (row:ByteArray) (f i:Nat) (l:List ByteArray) (hfi:f≤i) (hi:i≤row.size) (hs:row.size≤1000000) (hl:l.length≤1000000) :
  Sy.Spec Tryz.prog 96 [Aa i,.ptr 1 0,.ptr 2 0,.ptr 4 0] (strO row f l) (.tup []) (strN row (i+1) (l++Hl ((row.data.toList.take i).drop f))):=cT F96 Tryz.ntmps96 fun F hF=>by
 have hsz:row.data.toList.length=row.size:=rfl
 have hx:row.extract f i=mkT ((row.data.toList.take i).drop f):=by rw[← Dr,Im]
 refine T ?_
 refine⟨fun h=>?_,fun h=>?_⟩
 ·have h1:f<i:=qA h
  have hne:(row.data.toList.take i).drop f≠[]:=fun e=>by
   have:=congrArg List.length e
   rw[List.length_drop,List.length_take]at this
   simp at this;omega
  rw[Hl,if_neg hne,← hx]
  refine T ?_
  refine⟨⟨by omega,by omega,by omega⟩,?_⟩
  refine T ?_
  refine Xd (Aj Γ.toTy 14 q_ q_ q_ q_ q_ (.row q_) (.lit (e:=Ae) (l:=[row.extract f i]) q_ q_) qe (by simp;omega) (by simp;omega)) ?_
  refine T ?_
  exact B0 q_ .nil [(5,14)] (strN row (i+1) (l++[row.extract f i])) (fun _ h=>h) q_ q_ U
 ·have h1:¬ f<i:=qB h
  have he:(row.data.toList.take i).drop f=[]:=List.drop_eq_nil_of_le (by rw[List.length_take];omega)
  rw[he,Hl,if_pos rfl,List.append_nil]
  refine Apx 3 1000 q_ q_ qd ?_
  refine T ?_
  exact B0 q_ .nil [(5,1000)] (strN row (i+1) l) (fun _ h=>h) q_ q_ U
theorem Agu (row:ByteArray) (hs:row.size≤100000):Sy.Spec Tryz.prog 49 [Ae row] [] (.sl 1 Ae (D0 [] row.data.toList)) []:=cT F49 Tryz.ntmps49 fun F hF=>by
 have hsz:row.data.toList.length=row.size:=rfl
 refine T ?_
 refine Agn 3 0 1000 1 Ae q_ q_ q_ q_ ?_
 refine T ?_
 refine Bk (fun x:List ByteArray × Nat × Nat=>D0 [] row.data.toList=x.1++D0 ((row.data.toList.take x.2.2).drop x.2.1) (row.data.toList.drop x.2.2)∧x.2.1≤x.2.2∧x.2.2≤row.size∧x.1.length≤x.2.2)
  (fun x=>[(1,.ptr 1 0),(3,.ptr 3 0),(5,.clo (.func 96) [] [.ptr 4 0,.ptr 3 0,.ptr 1 0]),(6,Aa x.2.2)]) (fun x=>[(1,.box [Ae row]),(3,.box [.osl 1000]),(4,.box [Aa x.2.1]),(1000,.row 1 Ae x.1)]) (fun x=>row.size-x.2.2) ([],0,0) [] ⟨rfl,by simp,by simp,by simp⟩ U ?_
 rintro ⟨l,f,i⟩ ⟨hI,hfi,his,hlen⟩
 dsimp only at hI hfi his hlen ⊢
 have q:=fun i hfi hi=>Am5 row f i l hfi hi j_ j_
 refine T ?_
 refine⟨fun h=>?_,fun h=>?_⟩
 ·have hlt:i<row.size:=qA h
  have hlt':i<row.data.toList.length:=hlt
  have hb:A5 row i=row.data.toList[i]:=Xc hlt'
  have hdr:row.data.toList.drop i=row.data.toList[i]::row.data.toList.drop (i+1):=List.drop_eq_getElem_cons hlt'
  have htk:(row.data.toList.take (i+1)).drop f=(row.data.toList.take i).drop f++[row.data.toList[i]]:=by
   rw[List.take_succ_eq_append_getElem hlt',List.drop_append_of_le_length (by rw[List.length_take];omega)]
  rw[← hb]at hdr htk
  have q:=q i hfi j_
  clear h
  rw[hdr,D0]at hI
  have hlf:(l++Hl ((row.data.toList.take i).drop f)).length≤i+1:=by
   rw[Hl];split<;>simp<;>omega
  have e0:(row.data.toList.take (i+1)).drop (i+1)=[]:=List.drop_eq_nil_of_le (by rw[List.length_take];omega)
  have h35:A5 row i=35↔(A5 row i).toNat=35:=⟨fun e=>by rw[e];rfl,fun e=>UInt8.toNat_inj.1 e⟩
  have h32:A5 row i=32↔(A5 row i).toNat=32:=⟨fun e=>by rw[e];rfl,fun e=>UInt8.toNat_inj.1 e⟩
  have h9:A5 row i=9↔(A5 row i).toNat=9:=⟨fun e=>by rw[e];rfl,fun e=>UInt8.toNat_inj.1 e⟩
  by_cases c1:(A5 row i).toNat=35
  ·rw[if_pos (h35.2 c1)]at hI
   rw[hI]
   refine T ?_
   refine X (Aq [(1,4),(2,3),(3,1000),(4,1),(5,900)] (Au q_ q_ F96) q q_ W q_ V) ?_
   refine Ai 900 q_ ?_
   refine T ?_
   exact D
  ·rw[if_neg (fun e=>c1 (h35.1 e))]at hI
   by_cases c2:(A5 row i).toNat=32∨(A5 row i).toNat=9
   ·rw[if_pos (c2.elim (fun e=>.inl (h32.2 e)) (fun e=>.inr (h9.2 e)))]at hI
    by_cases c3:(A5 row i).toNat=32
    ·refine T ?_
     refine X (Aq [(1,4),(2,3),(3,1000),(4,1),(5,900)] (Au q_ q_ F96) q q_ W q_ V) ?_
     refine Ar (l++Hl ((row.data.toList.take i).drop f),i+1,i+1) [(1000,900)] ⟨?_,Nat.le_refl _,hlt,hlf⟩ (by dsimp only;omega) U
     dsimp only
     rw[hI,List.append_assoc,e0]
    ·refine T ?_
     refine X (Aq [(1,4),(2,3),(3,1000),(4,1),(5,900)] (Au q_ q_ F96) q q_ W q_ V) ?_
     refine Ar (l++Hl ((row.data.toList.take i).drop f),i+1,i+1) [(1000,900)] ⟨?_,Nat.le_refl _,hlt,hlf⟩ (by dsimp only;omega) U
     dsimp only
     rw[hI,List.append_assoc,e0]
   ·simp only[not_or]at c2
    rw[if_neg (by rw[h32,h9];omega)]at hI
    refine T ?_
    refine Ar (l,f,i+1) [] ⟨?_,by dsimp only;omega,hlt,by dsimp only;omega⟩ (by dsimp only;omega) U
    dsimp only
    rw[hI,htk]
 ·have hie:i=row.size:=qB h
  subst hie
  have q:=q row.size hfi j_
  have hdl:row.data.toList.drop row.size=[]:=by rw[← hsz,List.drop_length]
  rw[hdl,D0]at hI
  rw[hI]
  clear h
  refine T ?_
  refine X (Aq [(1,4),(2,3),(3,1000),(4,1),(5,900)] (Au q_ q_ F96) q q_ W q_ V) ?_
  refine Ai 900 q_ ?_
  refine T ?_
  exact D
theorem Ky:∀ (l cur:List UInt8),(D0 cur l).length≤l.length+1
 | [],cur=>by rw[D0,Hl];split<;>simp
 | c::l,cur=>by
  rw[D0]
  have h1:=Ky l []
  have h2:=Ky l (cur++[c])
  have h3:(Hl cur).length≤1:=by rw[Hl];split<;>simp
  split
  ·simp;omega
  ·split
   ·simp;omega
   ·simp;omega
theorem Ls:∀ (l cur:List UInt8),∀ s∈D0 cur l,s.size≤cur.length+l.length
 | [],cur,s,hs=>by
  rw[D0,Hl]at hs
  split at hs
  ·cases hs
  ·simp at hs;rw[hs,Dg];simp
 | c::l,cur,s,hs=>by
  have h3:∀ s∈Hl cur,s.size≤cur.length:=fun s hs=>by
   rw[Hl]at hs
   split at hs
   ·cases hs
   ·simp at hs;rw[hs,Dg];exact Nat.le_refl _
  rw[D0]at hs
  split at hs
  ·have:=h3 s hs;omega
  ·split at hs
   ·rcases List.mem_append.1 hs with hs | hs
    ·have:=h3 s hs;omega
    ·have:=Ls l [] s hs
     simp at this ⊢;omega
   ·have:=Ls l (cur++[c]) s hs
    simp at this ⊢;omega
theorem Ail (row:ByteArray) (hs:row.size≤100000):Sy.Spec Tryz.prog 32 [Ae row] [] (.tup [.sl 1 Ae (wordsT row).1,Aa (wordsT row).2]) []:=cT F32 Tryz.ntmps32 fun F hF=>by
 have q:=Agu row hs
 have hres:=wordsT.eq_1 row
 have hlen:=Ky row.data.toList []
 have hsz:=Ls row.data.toList []
 have hrs:row.data.toList.length=row.size:=rfl
 generalize wordsT row=res at *
 generalize D0 [] row.data.toList=l at *
 refine T ?_
 refine C q F49 ?_
 refine Bf l.length (fun j=>I2 (fun _ s=>wordB s) l j) (fun j=>[(4,.sl 1 Ae l),(9,.sl 1 Ae l),(10,Aa l.length),(11,Aa j)]) (fun _=>[]) [] (Bt _ _) U ?_
 intro j hj hI
 refine T ?_
 refine⟨fun h=>?_,fun h=>?_⟩
 ·have hlt:j<l.length:=qA h
  have hlt0:((j:Nat):Int).toNat<l.length:=hlt
  have hno:=fun h=>@all_at' _ wordB l j hlt h
  have hnx:=fun h=>Bm (p:=fun _ s=>wordB s) hI hlt h
  have hsj:=hsz l[j] (List.getElem_mem hlt)
  clear h
  refine T ?_
  refine C (Aly (l[((j:Nat):Int).toNat]'hlt0) (by rw[show l[((j:Nat):Int).toNat]'hlt0=l[j] from q_];simp at hsj;omega)) F50 ?_
  refine⟨fun h=>?_,fun h=>?_⟩
  ·have hf:wordB l[j]=false:=by simpa using h
   rw[if_neg (by rw[hno hf];simp)]at hres
   subst hres
   refine T ?_
   refine Db 2 1 Ae q_ ?_
   refine T ?_
   exact D
  ·have ht:wordB l[j]=true:=by simpa using h
   refine T ?_
   exact Bi [] hI j_ (hnx ht) U
 ·have hje:j=l.length:=qB h
  subst hje
  rw[if_pos (Vl hI (Nat.le_refl _))]at hres
  subst hres
  refine T ?_
  exact D
def Qx (i:Nat) (c:UInt8):Bool:=Aol c || (I1 c && decide (i≠0))
theorem An8 (s:ByteArray):Az s=(Hf Qx s.data.toList && (decide (0<s.size) && decide (s.size≤12))):=by
 have hsz:s.data.toList.length=s.size:=rfl
 rw[Az,← hsz]
 cases hl:s.data.toList with
 | nil=>rfl
 | cons c l =>
  have e:Hf Qx (c::l)=(Aol c && l.all fun c=>Aol c || I1 c):=by
   rw[Bool.eq_iff_iff,allB_iff,Bool.and_eq_true,List.all_eq_true]
   constructor
   ·intro h
    refine⟨by have:=h 0 qe;simpa [Qx] using this,fun x hx=>?_⟩
    obtain ⟨i,hi,rfl⟩:=List.mem_iff_getElem.1 hx
    have:=h (i+1) (by simp;omega)
    simpa [Qx] using this
   ·rintro ⟨h1,h2⟩ i hi
    cases i with
    | zero=>simp[Qx,h1]
    | succ i =>
     have:=h2 (l[i]'(by simp at hi;omega)) (List.getElem_mem _)
     simpa [Qx] using this
  rw[e,Arf]
  simp
theorem Ik (s:ByteArray) (hs:s.size≤1000000):Sy.Spec Tryz.prog 97 [Ae s] [] (Ab (Az s)) []:=cT F97 Tryz.ntmps97 fun F hF=>by
 have hsz:s.data.toList.length=s.size:=rfl
 have hw:=An8 s
 obtain ⟨r,hr⟩:∃ r,Az s=r:=⟨_,rfl⟩
 rw[hr]at hw ⊢
 refine T ?_
 refine Bf s.size (fun j=>I2 Qx s.data.toList j) (fun j=>[(0,Ae s),(7,Aa s.size),(8,Aa j)]) (fun _=>[]) [] (Bt _ _) U ?_
 intro j hj hI
 refine T ?_
 refine⟨fun h=>?_,fun h=>?_⟩
 ·have hlt:j<s.data.toList.length:=qA h
  have hb:A5 s j=s.data.toList[j]:=Xc hlt
  have hno:=fun h=>Cn (p:=Qx) hlt h
  have hnx:=fun h=>Bm (p:=Qx) hI hlt h
  rw[← hb]at hno hnx
  clear h
  have hx:Qx j (A5 s j)=((decide (97≤(A5 s j).toNat) && decide ((A5 s j).toNat≤122)) || ((decide (48≤(A5 s j).toNat) && decide ((A5 s j).toNat≤57)) && decide (j≠0))):=rfl
  rcases (by omega:(A5 s j).toNat<48∨(48≤(A5 s j).toNat∧(A5 s j).toNat≤57)∨(57<(A5 s j).toNat∧(A5 s j).toNat<97)∨(97≤(A5 s j).toNat∧(A5 s j).toNat≤122)∨122<(A5 s j).toNat) with h | h | h | h | h
  ·rw[hno (by rw[hx,decide_eq_false (by omega:¬ 97≤(A5 s j).toNat),decide_eq_false (by omega:¬ 48≤(A5 s j).toNat)];rfl),Bool.false_and]at hw
   subst hw
   refine T ?_
   exact D
  ·by_cases h0:j=0
   ·subst h0
    rw[hno (by rw[hx,decide_eq_false (by omega:¬ 97≤(A5 s 0).toNat)];simp),Bool.false_and]at hw
    subst hw
    refine T ?_
    exact D
   ·refine T ?_
    exact Bi [] hI j_ (hnx (by rw[hx];simp[h,h0])) U
  ·rw[hno (by rw[hx,decide_eq_false (by omega:¬ 97≤(A5 s j).toNat),decide_eq_false (by omega:¬ (A5 s j).toNat≤57)];simp),Bool.false_and]at hw
   subst hw
   refine T ?_
   exact D
  ·refine T ?_
   exact Bi [] hI j_ (hnx (by rw[hx];simp[h])) U
  ·rw[hno (by rw[hx,decide_eq_false (by omega:¬ (A5 s j).toNat≤122),decide_eq_false (by omega:¬ (A5 s j).toNat≤57)];simp),Bool.false_and]at hw
   subst hw
   refine T ?_
   exact D
 ·have hje:j=s.size:=qB h
  subst hje
  rw[Ej hI (Nat.le_refl _),Bool.true_and]at hw
  clear h
  subst hw
  by_cases h0:0<s.size
  ·refine T ?_
   refine⟨fun _=>?_,fun h=>absurd (of_decide_eq_false h) j_⟩
   refine T ?_
   refine Aw q_ (.cons .tmp .nil) (congrArg Ab ?_) q_
   rw[decide_eq_true h0,Bool.true_and]
   exact decide_eq_decide.2 j_
  ·rw[decide_eq_false h0,Bool.false_and]
   refine T ?_
   exact D
theorem Aao (c:UInt8):Sy.Spec Tryz.prog 176 [A3 c] [] (Dp (digI c)) []:=cT F176 Tryz.ntmps176 fun F hF=>by
 have hres:=digI.eq_1 c
 generalize digI c=res at *
 have hcn:=c.toNat_lt
 rcases (by omega:c.toNat<48∨(48≤c.toNat∧c.toNat≤57)∨(57<c.toNat∧c.toNat<97)∨(97≤c.toNat∧c.toNat≤102)∨102<c.toNat) with h | h | h | h | h
 ·rw[if_neg j_,if_neg j_]at hres
  subst hres
  refine T ?_
  exact D
 ·rw[if_pos j_]at hres
  subst hres
  refine T ?_
  refine Aw q_ (.cons .tmp .nil) ?_ q_
  refine congrArg (fun z=>SV.val (.int .u64 z)) (?_:_=IntKind.u64.wrap (IntKind.u8.wrap ((c.toNat:Int)-48)))
  rw[IntKind.wrap_u8,IntKind.wrap_u64];omega
 ·rw[if_neg j_,if_neg j_]at hres
  subst hres
  refine T ?_
  exact D
 ·rw[if_neg j_,if_pos j_]at hres
  subst hres
  refine T ?_
  refine Aw q_ (.cons .tmp .nil) ?_ q_
  refine congrArg (fun z=>SV.val (.int .u64 z)) (?_:_=IntKind.u64.wrap (IntKind.u64.wrap (IntKind.u8.wrap ((c.toNat:Int)-97))+10))
  rw[IntKind.wrap_u8,IntKind.wrap_u64,IntKind.wrap_u64];omega
 ·rw[if_neg j_,if_neg j_]at hres
  subst hres
  refine T ?_
  exact D
theorem Sq {s:ByteArray}:∀ {j:Nat},(∀ i,i<j→T3 s i=true)→0≤T1 s j∧T1 s j<256 ^ j
 | 0,_=>by simp[T1]
 | j+1,h=>by
  have ih:=Sq (s:=s) (j:=j) (fun i hi=>h i j_)
  have hj:=h j j_
  simp only[T3,Bool.and_eq_true,decide_eq_true_eq]at hj
  have d1:=Xa (A5 s (3 * j))
  have d2:=Xa (A5 s (3 * j+1))
  rw[T1,Int.pow_succ]
  omega
theorem Aog (m a b:Nat) (hm:m<72057594037927936) (ha:a<16) (hb:b<16):bits .or .u64 (bits .or .u64 (IntKind.u64.wrap ((m:Int) * 2 ^ min (Int.toNat 8) IntKind.u64.bits)) (IntKind.u64.wrap ((a:Int) * 2 ^ min (Int.toNat 4) IntKind.u64.bits))) (b:Int)=((m * 256+a * 16+b:Nat):Int):=by
 have e1:IntKind.u64.wrap ((m:Int) * 2 ^ min (Int.toNat 8) IntKind.u64.bits)=((m * 256:Nat):Int):=by
  show IntKind.u64.wrap ((m:Int) * 256)=_
  rw[IntKind.wrap_u64];omega
 have e2:IntKind.u64.wrap ((a:Int) * 2 ^ min (Int.toNat 4) IntKind.u64.bits)=((a * 16:Nat):Int):=by
  show IntKind.u64.wrap ((a:Int) * 16)=_
  rw[IntKind.wrap_u64];omega
 have o1:=Nat.two_pow_add_eq_or_of_lt (i:=8) (b:=a * 16) j_ m
 have o2:=Nat.two_pow_add_eq_or_of_lt (i:=4) (b:=b) j_ (m * 16+a)
 have f1:m * 256 ||| a * 16=m * 256+a * 16:=by rw[Nat.mul_comm m 256];exact o1.symm
 have f2:(m * 256+a * 16) ||| b=m * 256+a * 16+b:=by
  have e:m * 256+a * 16=2 ^ 4 * (m * 16+a):=by omega
  rw[e];exact o2.symm
 rw[e1,e2,bits_or_u64_nat _ _ j_ j_,f1,bits_or_u64_nat _ _ j_ j_,f2]
theorem macR_no {s:ByteArray} {j:Nat} (hj:j<6) (h:T3 s j=false):macR s=(0,false):=by
 rw[macR,if_neg]
 rintro ⟨_,h2⟩
 rw[List.all_eq_true]at h2
 rw[h2 j (List.mem_range.2 hj)]at h;cases h
theorem Aoh (s:ByteArray) (hs:s.size≤1000000):Sy.Spec Tryz.prog 99 [Ae s] [] (.tup [Dp (macR s).1,Ab (macR s).2]) []:=cT F99 Tryz.ntmps99 fun F hF=>by
 have hno:=@macR_no s
 have hyes:=macR.eq_1 s
 generalize macR s=res at *
 by_cases h17:s.size=17
 rotate_left
 ·rw[if_neg (fun e=>h17 e.1)]at hyes
  subst hyes
  refine T ?_
  exact D
 refine T ?_
 refine Bf 6 (fun j=>∀ i,i<j→T3 s i=true) (fun j=>[(0,Ae s),(4,Dp (T1 s j)),(11,Aa j)]) (fun _=>[]) [] (fun i hi=>by omega) U ?_
 intro j hj hI
 have hmv:=Sq hI
 refine T ?_
 refine⟨fun h=>?_,fun h=>?_⟩
 ·have hlt:j<6:=qA h
  have hno:=hno hlt
  clear h
  have i0:(3 * ((j:Nat):Int)).toNat=3 * j:=by omega
  have i1:(3 * ((j:Nat):Int)+1).toNat=3 * j+1:=by omega
  have i2:(3 * ((j:Nat):Int)+2).toNat=3 * j+2:=by omega
  have hx:T3 s j=(decide (digI (A5 s (3 * j))≤15) && decide (digI (A5 s (3 * j+1))≤15) && (decide (5≤j) || decide ((A5 s (3 * j+2)).toNat=58))):=rfl
  have hv:T1 s (j+1)=T1 s j * 256+digI (A5 s (3 * j)) * 16+digI (A5 s (3 * j+1)):=rfl
  rw[← i1,← i2,← i0]at hx
  rw[← i1,← i0]at hv
  have d1:=Xa (A5 s (3 * ((j:Nat):Int)).toNat)
  have d2:=Xa (A5 s (3 * ((j:Nat):Int)+1).toNat)
  have q1:=Aao (A5 s (3 * ((j:Nat):Int)).toNat)
  have q2:=Aao (A5 s (3 * ((j:Nat):Int)+1).toNat)
  by_cases c1:digI (A5 s (3 * ((j:Nat):Int)).toNat)≤15
  ·have f1:decide (digI (A5 s (3 * ((j:Nat):Int)).toNat)>15)=false:=decide_eq_false j_
   by_cases c2:digI (A5 s (3 * ((j:Nat):Int)+1).toNat)≤15
   ·have f2:decide (digI (A5 s (3 * ((j:Nat):Int)+1).toNat)>15)=false:=decide_eq_false j_
    have hp:(256:Int) ^ j≤256 ^ 5:=by
     have:=Nat.pow_le_pow_right (n:=256) qd (show j≤5 by omega)
     exact_mod_cast this
    have hst:=Aog (T1 s j).toNat (digI (A5 s (3 * ((j:Nat):Int)).toNat)).toNat (digI (A5 s (3 * ((j:Nat):Int)+1).toNat)).toNat j_ j_ j_
    have hst2:((((T1 s j).toNat * 256+(digI (A5 s (3 * ((j:Nat):Int)).toNat)).toNat * 16+(digI (A5 s (3 * ((j:Nat):Int)+1).toNat)).toNat:Nat)):Int)=T1 s (j+1):=by rw[hv];omega
    rw[hst2,Int.toNat_of_nonneg hmv.1,Int.toNat_of_nonneg d1.1,Int.toNat_of_nonneg d2.1]at hst
    by_cases c3:j<5
    ·by_cases c4:(A5 s (3 * ((j:Nat):Int)+2).toNat).toNat=58
     ·have f4:(((A5 s (3 * ((j:Nat):Int)+2).toNat).toNat:Int) != 58)=false:=by rw[c4];rfl
      have hmj:T3 s j=true:=by rw[hx,c4];simp[c1,c2]
      refine T ?_
      refine C q1 F176 ?_
      refine C q2 F176 ?_
      exact Bi [] hI hlt (fun i hi=>by
       by_cases e:i=j
       ·rw[e];exact hmj
       ·exact hI i j_) ⟨⟨q_,q_,congrArg Dp hst.symm,q_,q_,q_,z_⟩,z_,q_,q_⟩
     ·have f4:(((A5 s (3 * ((j:Nat):Int)+2).toNat).toNat:Int) != 58)=true:=by
       rw[bne_iff_ne];omega
      have hmj:T3 s j=false:=by rw[hx,decide_eq_false c4,decide_eq_false (by omega:¬ 5≤j)];simp
      rw[hno hmj]
      refine T ?_
      refine C q1 F176 ?_
      refine C q2 F176 ?_
      exact D
    ·have hmj:T3 s j=true:=by rw[hx];simp[c1,c2];omega
     refine T ?_
     refine C q1 F176 ?_
     refine C q2 F176 ?_
     exact Bi [] hI hlt (fun i hi=>by
      by_cases e:i=j
      ·rw[e];exact hmj
      ·exact hI i j_) ⟨⟨q_,q_,congrArg Dp hst.symm,q_,q_,q_,z_⟩,z_,q_,q_⟩
   ·have f2:decide (digI (A5 s (3 * ((j:Nat):Int)+1).toNat)>15)=true:=decide_eq_true j_
    rw[hno (by rw[hx,decide_eq_false c2];simp)]
    refine T ?_
    refine C q1 F176 ?_
    refine C q2 F176 ?_
    exact D
  ·have f1:decide (digI (A5 s (3 * ((j:Nat):Int)).toNat)>15)=true:=decide_eq_true j_
   rw[hno (by rw[hx,decide_eq_false c1];rfl)]
   refine T ?_
   refine C q1 F176 ?_
   refine C q2 F176 ?_
   exact D
 ·have hje:j=6:=qB h
  subst hje
  clear h
  rw[if_pos ⟨h17,by rw[List.all_eq_true];intro i hi;exact hI i (List.mem_range.1 hi)⟩]at hyes
  subst hyes
  refine T ?_
  exact D
theorem Afl (m:Nat) (h:m<18446744073709551616):(((bits .and .u64 (m:Int) 281474976710655).fdiv (2 ^ min (Int.toNat 32) IntKind.u64.bits)) != 512)=!(L8 m):=by
 have e:=bits_and_u64_nat m 281474976710655 h qd
 have e2:m &&& 281474976710655=m % 281474976710656:=Nat.and_two_pow_sub_one_eq_mod m 48
 have e3:bits .and .u64 (m:Int) 281474976710655=((m % 281474976710656:Nat):Int):=by rw[← e2];exact e
 have e4:((m % 281474976710656:Nat):Int).fdiv (2 ^ min (Int.toNat 32) IntKind.u64.bits)=((m % 281474976710656 / 4294967296:Nat):Int):=by
  show ((m % 281474976710656:Nat):Int).fdiv 4294967296=_
  rw[Int.fdiv_eq_ediv_of_nonneg _ qd,Int.natCast_ediv];rfl
 rw[e3,e4,L8]
 by_cases hh:m % 281474976710656 / 4294967296=512
 ·rw[hh,decide_eq_true j_];rfl
 ·rw[decide_eq_false j_]
  simp;omega
def Ao1 (m:Int):Int:=if L8 m=true then IntKind.u32.wrap (bits .and .u64 m 281474976710655) else 0
theorem Aqq (m:Nat) (h:m<18446744073709551616):Sy.Spec Tryz.prog 177 [Dp m] [] (.tup [A7 (Ao1 m),Ab (L8 m)]) []:=cT F177 Tryz.ntmps177 fun F hF=>by
 have hb:=Afl m h
 rw[Ao1]
 cases hh:L8 m with
 | true =>
  have hb:=hb.trans (by rw[hh];rfl:_=false)
  rw[if_pos rfl]
  refine T ?_
  exact D
 | false =>
  have hb:=hb.trans (by rw[hh];rfl:_=true)
  rw[if_neg qe]
  refine T ?_
  exact D
theorem Alv (m:Nat) (h:m<18446744073709551616):Sy.Spec Tryz.prog 178 [Dp m] [] (Ab (Ac0 m)) []:=cT F178 Tryz.ntmps178 fun F hF=>by
 have hb:=Al7 m h
 refine T ?_
 exact Aw q_ (.cons .tmp .nil) (congrArg Ab hb.symm) q_
theorem Xo (m:Nat) (h:m<18446744073709551616):Sy.Spec Tryz.prog 100 [Dp m] [] (Ab (statB m)) []:=cT F100 Tryz.ntmps100 fun F hF=>by
 have q1:=Aqq m h
 have q2:=Alv m h
 have hw:=statB.eq_1 (m:Int)
 rw[Int.toNat_natCast]at hw
 generalize statB (m:Int)=r at *
 generalize Ao1 (m:Int)=hv at *
 by_cases c1:(m:Int)≤281474976710655
 ·rw[decide_eq_true c1,Bool.true_and]at hw
  have f1:decide ((m:Int)≤281474976710655)=true:=decide_eq_true c1
  cases hh:L8 m with
  | true =>
   rw[hh]at q1 hw
   simp at hw
   subst hw
   refine T ?_
   refine C q1 F177 ?_
   exact D
  | false =>
   rw[hh]at q1 hw
   simp at hw
   subst hw
   refine T ?_
   refine C q1 F177 ?_
   refine C q2 F178 ?_
   exact D
 ·rw[decide_eq_false c1]at hw
  have f1:decide ((m:Int)≤281474976710655)=false:=decide_eq_false c1
  simp at hw
  subst hw
  refine T ?_
  refine C q1 F177 ?_
  exact D
def Kq (one:ByteArray→Int × Bool) (out:List Int) (s:ByteArray) (b:Bool):List Int × Bool:=if b=true then Hb one out (B9 44 s) else (out,true)
theorem Aox {c:UInt8}:∀ {l:List UInt8},0≤Lib.indexByte l c→c∈l
 | [],h=>by simp[Lib.indexByte]at h
 | b::l,h=>by
  unfold Lib.indexByte at h
  by_cases hb:(b == c)=true
  ·simp at hb;simp[hb]
  ·rw[if_neg hb]at h
   by_cases h1:(Lib.indexByte l c == -1)=true
   ·rw[if_pos h1]at h;omega
   ·rw[if_neg h1]at h
    have:=Iq l c
    have h2:Lib.indexByte l c≠-1:=by simpa using h1
    exact List.mem_cons_of_mem _ (Aox j_)
theorem Yp (one:ByteArray→Int × Bool) (out:List Int) (s:ByteArray) :
  Kq one out s true=(if (one (cutT 44 s).1).2=false∨out.length=16∨(∃ x,out.getLast? = some x∧(one (cutT 44 s).1).1≤x) then ([],false) else Kq one (out++[(one (cutT 44 s).1).1]) (cutT 44 s).2.1 (cutT 44 s).2.2):=by
 rw[Kq,if_pos rfl,Aae]
 have hsz:s.data.toList.length=s.size:=rfl
 have tk:∀ i,s.extract 0 i=mkT (s.data.toList.take i):=fun i=>by rw[← Im s,Dr,Io];simp
 by_cases h:0≤Lib.indexByte s.data.toList 44
 ·have hm:=Aox h
  have e2:s.extract (Jr 44 s.data.toList+1) s.size=mkT (s.data.toList.drop (Jr 44 s.data.toList+1)):=by
   have:=Dr s.data.toList (Jr 44 s.data.toList+1) s.size
   rw[Im]at this
   rw[this,← hsz,List.take_length]
  rw[cutT,if_pos h,Lv 44 _ _ hm,List.nil_append,Hb,tk,e2]
  dsimp only
  rw[Kq,if_pos rfl,Aae,Io]
 ·have hm:(44:UInt8)∉s.data.toList:=fun hh=>h (H8 hh).1
  rw[cutT,if_neg h,Lw 44 _ _ hm,List.nil_append,Im,Hb]
  simp only[Kq,if_neg (show ¬ (false=true) by simp),Hb]
theorem Aa7 (s:ByteArray):(cutT 44 s).1.size≤s.size∧(cutT 44 s).2.1.size≤s.size∧((cutT 44 s).2.2=true→(cutT 44 s).2.1.size<s.size):=by
 have hsz:s.data.toList.length=s.size:=rfl
 have hlt:=L9 s.data.toList 44
 have ex:∀ i j,(s.extract i j).size=((s.data.toList.take j).drop i).length:=fun i j=>by
  have:=Dr s.data.toList i j
  rw[Im]at this
  rw[this,Dg]
 rw[cutT]
 split
 ·rename_i h
  refine⟨?_,?_,fun _=>?_⟩
  ·rw[ex,List.length_drop,List.length_take];omega
  ·rw[ex,List.length_drop,List.length_take];omega
  ·rw[ex,List.length_drop,List.length_take]
   have:Jr 44 s.data.toList+1≤s.data.toList.length:=by unfold Jr;omega
   omega
 ·exact⟨Nat.le_refl _,Nat.zero_le _,fun e=>by cases e⟩
theorem Aey (one:ByteArray→Int × Bool) (f:FuncId) (first cap:List SV) (hc:(SV.clo (.func f) first cap).inn []=true) (hr:∀ ρ:Nat→Nat,(SV.clo (.func f) first cap).ren ρ=.clo (.func f) first cap) (s0:ByteArray) (hs:s0.size≤10000) (hf:∀ p:ByteArray,p.size≤s0.size→Hg Tryz.prog f (first++[Ae p]++cap) (.tup [Aa (one p).1,Ab (one p).2])) :
  Sy.Spec Tryz.prog 181 [Ae s0,.clo (.func f) first cap] [] (.tup [.sl 1 Aa (Hi one s0).1,Ab (Hi one s0).2]) []:=cT F181 Tryz.ntmps181 fun F hF=>by
 have hres:Hi one s0=Kq one [] s0 true:=rfl
 generalize Hi one s0=res at *
 have hc':(SV.clo (.func f) first cap).inn [1000]=true:=Hv _ hc
 have hin:∀ y:SV,y.inn []=true→Bn [] (first++[y]++cap)=true:=fun y hy=>by
  simp only[SV.inn,Bool.and_eq_true]at hc
  rw[C5,C5,hc.1,hc.2]
  simp[Bn,hy]
 refine T ?_
 refine C0 6 1000 1 Aa q_ q_ ?_
 refine T ?_
 refine Bk (fun x:ByteArray × Bool × List Int=>res=Kq one x.2.2 x.1 x.2.1∧x.1.size≤s0.size∧x.2.2.length≤16) (fun x=>[(0,Ae x.1),(1,.clo (.func f) first cap),(6,.osl 1000),(7,Ab x.2.1)]) (fun x=>[(1000,.row 1 Aa x.2.2)]) (fun x=>if x.2.1=true then x.1.size+1 else 0) (s0,true,[]) [] ⟨hres,Nat.le_refl _,by simp⟩ ⟨⟨q_,q_,Ay _,hc',q_,q_,q_,q_,z_⟩,⟨.inl q_,q_,z_⟩,q_,q_⟩ ?_
 rintro ⟨s,b,out⟩ ⟨hI,hsz,hout⟩
 dsimp only at hI hsz hout ⊢
 cases b with
 | false =>
  rw[Kq,if_neg qe]at hI
  subst hI
  refine T ?_
  refine Ai 1000 q_ ?_
  refine T ?_
  exact D
 | true =>
  have q1:=W6 s 44 j_
  have hsm:=Aa7 s
  rw[Yp]at hI
  generalize cutT 44 s=ct at *
  obtain ⟨p,r,m⟩:=ct
  dsimp only at hI hsm q1
  have q2:=hf p j_
  generalize one p=op at *
  obtain ⟨v,ok⟩:=op
  dsimp only at hI q2
  refine T ?_
  refine C q1 F48 ?_
  refine Iy q2 q_ q_ q_ (by simp only[hin (Ae p) q_];rfl) q_ q_ ?_
  cases ok with
  | false =>
   rw[if_pos (.inl rfl)]at hI
   subst hI
   refine T ?_
   refine Db 4 1 Aa q_ ?_
   refine T ?_
   exact D
  | true =>
   by_cases c1:out.length=16
   ·rw[if_pos (.inr (.inl c1))]at hI
    subst hI
    refine T ?_
    refine Db 4 1 Aa q_ ?_
    refine T ?_
    exact D
   ·by_cases c2:out.length=0
    ·have hn:out=[]:=List.eq_nil_of_length_eq_zero c2
     rw[if_neg (by rw[hn];simp)]at hI
     refine T ?_
     refine X (Aj Γ.toTy 49 q_ q_ q_ q_ q_ (.row q_) (.lit (e:=Aa) (l:=[v]) q_ q_) qe (by simp;omega) (by simp;omega)) ?_
     refine Ar (r,m,out++[v]) [(1000,49)] ⟨hI,by dsimp only;omega,by simp;omega⟩ (by
      have h3:=hsm.2.2
      cases m
      ·simp
      ·have:=h3 rfl;simp;omega) ⟨⟨rfl,rfl,hr _,hc',rfl,rfl,rfl,rfl,trivial⟩,⟨.inl rfl,rfl,trivial⟩,rfl,rfl⟩
    ·have hk:((out.length:Int)-1).toNat<out.length:=by omega
     have hlast:out.getLast? = some (out[((out.length:Int)-1).toNat]'hk):=by
      rw[List.getLast?_eq_getElem?,List.getElem?_eq_getElem j_]
      congr 1
      have:out.length-1=((out.length:Int)-1).toNat:=by omega
      simp only[this]
     have f2:decide ((out.length:Int)>0)=true:=decide_eq_true j_
     by_cases c3:v≤out[((out.length:Int)-1).toNat]'hk
     ·have f3:decide (out[((out.length:Int)-1).toNat]'hk≥v)=true:=decide_eq_true c3
      rw[if_pos (.inr (.inr ⟨_,hlast,c3⟩))]at hI
      subst hI
      refine T ?_
      refine Db 4 1 Aa q_ ?_
      refine T ?_
      exact D
     ·have f3:decide (out[((out.length:Int)-1).toNat]'hk≥v)=false:=decide_eq_false c3
      rw[if_neg (by
       rintro (hh | hh | ⟨x,hx,hh⟩)
       ·cases hh
       ·exact c1 hh
       ·rw[hlast]at hx
        simp only[Option.some.injEq]at hx
        rw[← hx]at hh
        exact c3 hh)]at hI
      refine T ?_
      refine X (Aj Γ.toTy 49 q_ q_ q_ q_ q_ (.row q_) (.lit (e:=Aa) (l:=[v]) q_ q_) qe (by simp;omega) (by simp;omega)) ?_
      refine Ar (r,m,out++[v]) [(1000,49)] ⟨hI,by dsimp only;omega,by simp;omega⟩ (by
      have h3:=hsm.2.2
      cases m
      ·simp
      ·have:=h3 rfl;simp;omega) ⟨⟨rfl,rfl,hr _,hc',rfl,rfl,rfl,rfl,trivial⟩,⟨.inl rfl,rfl,trivial⟩,rfl,rfl⟩
theorem Aew (one:ByteArray→Int × Bool) (f:FuncId) (first cap:List SV) (hc:(SV.clo (.func f) first cap).inn []=true) (hr:∀ ρ:Nat→Nat,(SV.clo (.func f) first cap).ren ρ=.clo (.func f) first cap) (s0:ByteArray) (hs:s0.size≤10000) (hf:∀ p:ByteArray,p.size≤s0.size→Hg Tryz.prog f (first++[Ae p]++cap) (.tup [A7 (one p).1,Ab (one p).2])) :
  Sy.Spec Tryz.prog 104 [Ae s0,.clo (.func f) first cap] [] (.tup [.sl 1 A7 (Hi one s0).1,Ab (Hi one s0).2]) []:=cT F104 Tryz.ntmps104 fun F hF=>by
 have hres:Hi one s0=Kq one [] s0 true:=rfl
 generalize Hi one s0=res at *
 have hc':(SV.clo (.func f) first cap).inn [1000]=true:=Hv _ hc
 have hin:∀ y:SV,y.inn []=true→Bn [] (first++[y]++cap)=true:=fun y hy=>by
  simp only[SV.inn,Bool.and_eq_true]at hc
  rw[C5,C5,hc.1,hc.2]
  simp[Bn,hy]
 refine T ?_
 refine C0 6 1000 1 A7 q_ q_ ?_
 refine T ?_
 refine Bk (fun x:ByteArray × Bool × List Int=>res=Kq one x.2.2 x.1 x.2.1∧x.1.size≤s0.size∧x.2.2.length≤16) (fun x=>[(0,Ae x.1),(1,.clo (.func f) first cap),(6,.osl 1000),(7,Ab x.2.1)]) (fun x=>[(1000,.row 1 A7 x.2.2)]) (fun x=>if x.2.1=true then x.1.size+1 else 0) (s0,true,[]) [] ⟨hres,Nat.le_refl _,by simp⟩ ⟨⟨q_,q_,Ay _,hc',q_,q_,q_,q_,z_⟩,⟨.inl q_,q_,z_⟩,q_,q_⟩ ?_
 rintro ⟨s,b,out⟩ ⟨hI,hsz,hout⟩
 dsimp only at hI hsz hout ⊢
 cases b with
 | false =>
  rw[Kq,if_neg qe]at hI
  subst hI
  refine T ?_
  refine Ai 1000 q_ ?_
  refine T ?_
  exact D
 | true =>
  have q1:=W6 s 44 j_
  have hsm:=Aa7 s
  rw[Yp]at hI
  generalize cutT 44 s=ct at *
  obtain ⟨p,r,m⟩:=ct
  dsimp only at hI hsm q1
  have q2:=hf p j_
  generalize one p=op at *
  obtain ⟨v,ok⟩:=op
  dsimp only at hI q2
  refine T ?_
  refine C q1 F48 ?_
  refine Iy q2 q_ q_ q_ (by simp only[hin (Ae p) q_];rfl) q_ q_ ?_
  cases ok with
  | false =>
   rw[if_pos (.inl rfl)]at hI
   subst hI
   refine T ?_
   refine Db 4 1 A7 q_ ?_
   refine T ?_
   exact D
  | true =>
   by_cases c1:out.length=16
   ·rw[if_pos (.inr (.inl c1))]at hI
    subst hI
    refine T ?_
    refine Db 4 1 A7 q_ ?_
    refine T ?_
    exact D
   ·by_cases c2:out.length=0
    ·have hn:out=[]:=List.eq_nil_of_length_eq_zero c2
     rw[if_neg (by rw[hn];simp)]at hI
     refine T ?_
     refine X (Aj Γ.toTy 49 q_ q_ q_ q_ q_ (.row q_) (.lit (e:=A7) (l:=[v]) q_ q_) qe (by simp;omega) (by simp;omega)) ?_
     refine Ar (r,m,out++[v]) [(1000,49)] ⟨hI,by dsimp only;omega,by simp;omega⟩ (by
      have h3:=hsm.2.2
      cases m
      ·simp
      ·have:=h3 rfl;simp;omega) ⟨⟨rfl,rfl,hr _,hc',rfl,rfl,rfl,rfl,trivial⟩,⟨.inl rfl,rfl,trivial⟩,rfl,rfl⟩
    ·have hk:((out.length:Int)-1).toNat<out.length:=by omega
     have hlast:out.getLast? = some (out[((out.length:Int)-1).toNat]'hk):=by
      rw[List.getLast?_eq_getElem?,List.getElem?_eq_getElem j_]
      congr 1
      have:out.length-1=((out.length:Int)-1).toNat:=by omega
      simp only[this]
     have f2:decide ((out.length:Int)>0)=true:=decide_eq_true j_
     by_cases c3:v≤out[((out.length:Int)-1).toNat]'hk
     ·have f3:decide (out[((out.length:Int)-1).toNat]'hk≥v)=true:=decide_eq_true c3
      rw[if_pos (.inr (.inr ⟨_,hlast,c3⟩))]at hI
      subst hI
      refine T ?_
      refine Db 4 1 A7 q_ ?_
      refine T ?_
      exact D
     ·have f3:decide (out[((out.length:Int)-1).toNat]'hk≥v)=false:=decide_eq_false c3
      rw[if_neg (by
       rintro (hh | hh | ⟨x,hx,hh⟩)
       ·cases hh
       ·exact c1 hh
       ·rw[hlast]at hx
        simp only[Option.some.injEq]at hx
        rw[← hx]at hh
        exact c3 hh)]at hI
      refine T ?_
      refine X (Aj Γ.toTy 49 q_ q_ q_ q_ q_ (.row q_) (.lit (e:=A7) (l:=[v]) q_ q_) qe (by simp;omega) (by simp;omega)) ?_
      refine Ar (r,m,out++[v]) [(1000,49)] ⟨hI,by dsimp only;omega,by simp;omega⟩ (by
      have h3:=hsm.2.2
      cases m
      ·simp
      ·have:=h3 rfl;simp;omega) ⟨⟨rfl,rfl,hr _,hc',rfl,rfl,rfl,rfl,trivial⟩,⟨.inl rfl,rfl,trivial⟩,rfl,rfl⟩
theorem Acg (p:ByteArray) (lo hi:Int):Sy.Spec Tryz.prog 182 [Ae p,.ref 1 (Aa lo) 0,.ref 1 (Aa hi) 0] [] (.tup [Aa (numR p lo hi).1,Ab (numR p lo hi).2]) []:=cT F182 Tryz.ntmps182 fun F hF=>by
 have q:=Aex p lo hi
 generalize numR p lo hi=r at *
 refine T ?_
 refine C q F98 ?_
 exact D
theorem Acf (s:ByteArray) (hi:Int) (hs:s.size≤10000):Sy.Spec Tryz.prog 105 [Ae s,Aa 1,Aa hi] [] (.tup [.sl 1 Aa (Hi (fun p=>numR p 1 hi) s).1,Ab (Hi (fun p=>numR p 1 hi) s).2]) []:=cT F105 Tryz.ntmps105 fun F hF=>by
 have q:=Aey (fun p=>numR p 1 hi) 182 [] [.ref 1 (Aa 1) 0,.ref 1 (Aa hi) 0] rfl (fun _=>rfl) s hs (fun p _=>⟨⟨_,_,F182⟩,Acg p 1 hi⟩)
 generalize Hi (fun p=>numR p 1 hi) s=r at *
 refine T ?_
 refine B1 4 1 (Aa 1) q_ q_ q_ ?_
 refine B1 5 1 (Aa hi) q_ q_ q_ ?_
 refine T ?_
 refine C q F181 ?_
 exact D
theorem Zu (s:ByteArray) (hs:s.size≤10000):Sy.Spec Tryz.prog 62 [Ae s] [] (.tup [.sl 1 A7 (Eh s).1,Ab (Eh s).2]) []:=cT F62 Tryz.ntmps62 fun F hF=>by
 have q:=Aew C9 59 [] [] rfl (fun _=>rfl) s hs (fun p hp=>⟨⟨_,_,F59⟩,Vo p j_⟩)
 unfold Eh
 generalize Hi C9 s=r at *
 refine T ?_
 refine C q F104 ?_
 exact D
theorem Agi (s:ByteArray) (hs:s.size≤10000):Sy.Spec Tryz.prog 64 [Ae s] [] (.tup [Ij (prefixR s).1.1 (prefixR s).1.2,Ab (prefixR s).2]) []:=cT F64 Tryz.ntmps64 fun F hF=>by
 have q1:=W6 s 47 j_
 have hres:=prefixR.eq_1 s
 have hsm:(cutT 47 s).1.size≤s.size:=by
  rw[cutT]
  split
  ·have:=Dr s.data.toList 0 (Jr 47 s.data.toList)
   rw[Im]at this
   rw[this,Dg,List.length_drop,List.length_take]
   have:s.data.toList.length=s.size:=rfl
   omega
  ·exact Nat.le_refl _
 generalize cutT 47 s=ct at *
 obtain ⟨p,r,m⟩:=ct
 dsimp only at hres hsm q1
 have q2:=Vo p j_
 have q3:=Zi r 32
 generalize prefixR s=res at *
 generalize C9 p=a at *
 generalize smallT r 32=b at *
 obtain ⟨av,ao⟩:=a
 obtain ⟨bv,bo⟩:=b
 dsimp only at hres q2 q3
 cases m<;>cases ao<;>cases bo
 all_goals (simp at hres;subst hres)
 all_goals (refine T ?_;refine C q1 F48 ?_;refine C q2 F59 ?_;refine C q3 F103 ?_;exact D)
abbrev rdO (w:List ByteArray) (i:Nat) (e:Int):Obs:=[(0,.box [.sl 1 Ae w,Aa i,Aa e])]
theorem C8 {w:List ByteArray} {i:Nat} (h:i<w.length):wdT w i=w[i]:=by rw[wdT,List.getElem?_eq_getElem h];rfl
theorem K4 (w:List ByteArray) (i:Nat) (e:Int) (hi:i<w.length) (hw:w.length≤1000000):Sy.Spec Tryz.prog 60 [.ptr 0 0] (rdO w i e) (Ae (wdT w i)) (rdO w (i+1) e):=cT F60 Tryz.ntmps60 fun F hF=>by
 have hk:((i:Int)+1-1).toNat<w.length:=by omega
 have hx:wdT w i=w[((i:Int)+1-1).toNat]'hk:=by
  rw[C8 hi]
  have:((i:Int)+1-1).toNat=i:=by omega
  simp only[this]
 rw[hx]
 refine T ?_
 exact done q_ (.cons .tmp .nil) [] (rdO w (i+1) e) (fun _ h=>h) q_ q_ U
theorem Hu (w:List ByteArray) (i:Nat) (e:Int) (b:Bool) (c:Int):Sy.Spec Tryz.prog 57 [.ptr 0 0,Ab b,Aa c] (rdO w i e) (.tup []) (rdO w i (Ak e b c)):=cT F57 Tryz.ntmps57 fun F hF=>by
 cases b with
 | false =>
  have hf:Ak e false c=e:=by rw[Ak,if_neg qe]
  rw[hf]
  refine T ?_
  exact B0 q_ .nil [] (rdO w i e) (fun _ h=>h) q_ q_ U
 | true =>
  by_cases h:e=0
  ·have hf:Ak e true c=c:=by rw[Ak,if_pos ⟨rfl,h⟩]
   rw[hf]
   subst h
   refine T ?_
   exact B0 q_ .nil [] (rdO w i c) (fun _ h=>h) q_ q_ U
  ·have hf:Ak e true c=e:=by rw[Ak,if_neg (fun x=>h x.2)]
   rw[hf]
   have hb:(e == 0)=false:=by simpa using h
   refine T ?_
   exact B0 q_ .nil [] (rdO w i e) (fun _ h=>h) q_ q_ U
theorem D1 (w:List ByteArray) (i:Nat) (e:Int) (hi:i<w.length) (hw:w.length≤1000000) (hs:∀ s∈w,s.size≤40):Sy.Spec Tryz.prog 53 [.ptr 0 0] (rdO w i e) (Ae (wdT w i)) (rdO w (i+1) (Ak e (!(Az (wdT w i))) 20)):=cT F53 Tryz.ntmps53 fun F hF=>by
 have hwd:(wdT w i).size≤40:=by rw[C8 hi];exact hs _ (List.getElem_mem hi)
 have q1:=K4 w i e hi hw
 have q2:=Ik (wdT w i) j_
 have q3:=Hu w (i+1) e (!(Az (wdT w i))) 20
 generalize Az (wdT w i)=nb at *
 generalize wdT w i=x at *
 refine T ?_
 refine X (Ac [] q_ F60 q1 q_ W q_ V) ?_
 refine C q2 F97 ?_
 refine X (Ac [] q_ F57 q3 q_ W q_ V) ?_
 exact done q_ (.cons .tmp .nil) [] (rdO w (i+1) (Ak e (!nb) 20)) (fun _ h=>h) q_ q_ U
theorem O6 (w:List ByteArray) (i:Nat) (e lo hi_:Int) (hi:i<w.length) (hw:w.length≤1000000):Sy.Spec Tryz.prog 55 [.ptr 0 0,Aa lo,Aa hi_] (rdO w i e) (Aa (numR (wdT w i) lo hi_).1) (rdO w (i+1) (Ak e (!(numR (wdT w i) lo hi_).2) 21)):=cT F55 Tryz.ntmps55 fun F hF=>by
 have q1:=K4 w i e hi hw
 have q2:=Aex (wdT w i) lo hi_
 generalize numR (wdT w i) lo hi_=r at *
 have q3:=Hu w (i+1) e (!r.2) 21
 generalize wdT w i=x at *
 refine T ?_
 refine X (Ac [] q_ F60 q1 q_ W q_ V) ?_
 refine C q2 F98 ?_
 refine X (Ac [] q_ F57 q3 q_ W q_ V) ?_
 exact done q_ (.cons .tmp .nil) [] (rdO w (i+1) (Ak e (!r.2) 21)) (fun _ h=>h) q_ q_ U
theorem To (w:List ByteArray) (i:Nat) (e:Int) (hi:i<w.length) (hw:w.length≤1000000):Sy.Spec Tryz.prog 54 [.ptr 0 0] (rdO w i e) (Aa (Cp (wdT w i)).1) (rdO w (i+1) (Ak e (!(Cp (wdT w i)).2) 21)):=cT F54 Tryz.ntmps54 fun F hF=>by
 have q:=O6 w i e 1 4094 hi hw
 unfold Cp
 generalize numR (wdT w i) 1 4094=r at *
 refine T ?_
 refine X (Ac [] q_ F55 q q_ W q_ V) ?_
 exact done q_ (.cons .tmp .nil) [] (rdO w (i+1) (Ak e (!r.2) 21)) (fun _ h=>h) q_ q_ U
theorem Ank (w:List ByteArray) (i:Nat) (e:Int) (hi:i<w.length) (hw:w.length≤1000000):Sy.Spec Tryz.prog 61 [.ptr 0 0] (rdO w i e) (Aa (Sb (wdT w i)).1) (rdO w (i+1) (Ak e (!(Sb (wdT w i)).2) 21)):=cT F61 Tryz.ntmps61 fun F hF=>by
 have q:=O6 w i e 1 16777215 hi hw
 unfold Sb
 generalize numR (wdT w i) 1 16777215=r at *
 refine T ?_
 refine X (Ac [] q_ F55 q q_ W q_ V) ?_
 exact done q_ (.cons .tmp .nil) [] (rdO w (i+1) (Ak e (!r.2) 21)) (fun _ h=>h) q_ q_ U
theorem Amd (e c:Int):Ak e false c=e:=by rw[Ak,if_neg qe]
theorem W7 (w:List ByteArray) (i:Nat) (e most:Int) (hi:i<w.length) (hw:w.length≤1000000) (hs:∀ s∈w,s.size≤40):Sy.Spec Tryz.prog 63 [.ptr 0 0,Aa most] (rdO w i e) (.sl 1 Aa (listR most (wdT w i)).1) (rdO w (i+1) (Ak e (!(listR most (wdT w i)).2) 21)):=cT F63 Tryz.ntmps63 fun F hF=>by
 have hwd:(wdT w i).size≤40:=by rw[C8 hi];exact hs _ (List.getElem_mem hi)
 have q1:=K4 w i e hi hw
 have q2:=Acf (wdT w i) most j_
 have hres:=listR.eq_1 most (wdT w i)
 generalize listR most (wdT w i)=res at *
 by_cases hd:wdT w i=dash
 ·rw[if_pos hd]at hres
  subst hres
  have hb:(wdT w i == (⟨#[45]⟩:ByteArray))=true:=(Ho _ _).2 hd
  rw[show (!(([]:List Int),true).2)=false from rfl,Amd]
  refine T ?_
  refine X (Ac [] q_ F60 q1 q_ W q_ V) ?_
  refine Db 4 1 Aa q_ ?_
  refine T ?_
  exact done q_ (.cons .tmp .nil) [] (rdO w (i+1) e) (fun _ h=>h) q_ q_ U
 ·rw[if_neg hd]at hres
  have hb:(wdT w i == (⟨#[45]⟩:ByteArray))=false:=by
   cases hx:(wdT w i == (⟨#[45]⟩:ByteArray))
   ·rfl
   ·exact absurd ((Ho _ _).1 hx) hd
  rw[← hres]at q2
  have q3:=Hu w (i+1) e (!res.2) 21
  clear hres
  refine T ?_
  refine X (Ac [] q_ F60 q1 q_ W q_ V) ?_
  refine C q2 F105 ?_
  refine X (Ac [] q_ F57 q3 q_ W q_ V) ?_
  exact done q_ (.cons .tmp .nil) [] (rdO w (i+1) (Ak e (!res.2) 21)) (fun _ h=>h) q_ q_ U
theorem Aih (s:ByteArray):∃ m:Nat,(macR s).1=m∧m<281474976710656:=by
 rw[macR]
 split
 ·rename_i h
  have:=Sq (s:=s) (j:=6) (fun i hi=>by have:=h.2;rw[List.all_eq_true]at this;exact this i (List.mem_range.2 hi))
  refine⟨(T1 s 6).toNat,?_,?_⟩
  ·rw[Int.toNat_of_nonneg this.1]
  ·have h2:T1 s 6<281474976710656:=this.2
   omega
 ·exact⟨0,q_,by decide⟩
def macE (s:ByteArray):Bool:=!((macR s).2 && statB (macR s).1)
theorem Anl (w:List ByteArray) (i:Nat) (e:Int) (hi:i<w.length) (hw:w.length≤1000000) (hs:∀ s∈w,s.size≤40):Sy.Spec Tryz.prog 56 [.ptr 0 0] (rdO w i e) (Dp (macR (wdT w i)).1) (rdO w (i+1) (Ak e (macE (wdT w i)) 21)):=cT F56 Tryz.ntmps56 fun F hF=>by
 have hwd:(wdT w i).size≤40:=by rw[C8 hi];exact hs _ (List.getElem_mem hi)
 have q1:=K4 w i e hi hw
 have q2:=Aoh (wdT w i) j_
 obtain ⟨m,hm1,hm2⟩:=Aih (wdT w i)
 have q4:=Xo m j_
 have hres:=macE.eq_1 (wdT w i)
 rw[hm1]at hres
 generalize macE (wdT w i)=be at *
 have q3:=Hu w (i+1) e be 21
 generalize macR (wdT w i)=r at *
 obtain ⟨rv,rb⟩:=r
 dsimp only at hm1
 subst hm1
 generalize statB (m:Int)=sb at *
 cases rb with
 | false =>
  simp at hres
  subst hres
  refine T ?_
  refine X (Ac [] q_ F60 q1 q_ W q_ V) ?_
  refine C q2 F99 ?_
  refine X (Ac [] q_ F57 q3 q_ W q_ V) ?_
  exact done q_ (.cons .tmp .nil) [] (rdO w (i+1) (Ak e true 21)) (fun _ h=>h) q_ q_ U
 | true =>
  simp at hres
  subst hres
  refine T ?_
  refine X (Ac [] q_ F60 q1 q_ W q_ V) ?_
  refine C q2 F99 ?_
  refine C q4 F100 ?_
  refine X (Ac [] q_ F57 q3 q_ W q_ V) ?_
  exact done q_ (.cons .tmp .nil) [] (rdO w (i+1) (Ak e (!sb) 21)) (fun _ h=>h) q_ q_ U
end Go.Sy.YtdkfcckkkfghgaaGreatDoor
namespace Go.Sy.YtdkfcckkkfghgaaGreatDoor
open Go.Proofs
def Amp (l:List Int):Prop:=l.Pairwise (·<·)
theorem Yq (one:ByteArray→Int × Bool):∀ (ps:List ByteArray) (out r:List Int),Hb one out ps=(r,true)→Amp out→out.length≤16 →
  Amp r∧r.length≤16∧r.length=out.length+ps.length∧∀ x∈r,x∈out∨∃ p∈ps,one p=(x,true)
 | [],out,r,h,h1,h2=>by
  rw[Hb]at h
  simp only[Prod.mk.injEq,and_true]at h
  subst h
  exact⟨h1,h2,by simp,fun x hx=>.inl hx⟩
 | p::ps,out,r,h,h1,h2=>by
  rw[Hb]at h
  split at h
  ·simp at h
  ·rename_i hn
   simp only[not_or]at hn
   obtain ⟨n1,n2,n3⟩:=hn
   have hr:Amp (out++[(one p).1]):=by
    refine List.pairwise_append.2 ⟨h1,List.pairwise_singleton _ _,fun y hy z hz=>?_⟩
    simp only[List.mem_singleton]at hz
    subst hz
    cases hl:out.getLast? with
    | none=>rw[List.getLast?_eq_none_iff]at hl;subst hl;cases hy
    | some w =>
     have hlt:¬ (one p).1≤w:=fun hh=>n3 ⟨w,hl,hh⟩
     obtain ⟨c,rfl⟩:∃ c,out=c++[w]:=by
      have hne:out≠[]:=fun e=>by rw[e]at hy;cases hy
      refine⟨out.dropLast,?_⟩
      have:=List.dropLast_concat_getLast hne
      rw[List.getLast?_eq_some_getLast hne]at hl
      simp only[Option.some.injEq]at hl
      rw[← hl];exact this.symm
     rcases List.mem_append.1 hy with hy | hy
     ·have:=(List.pairwise_append.1 h1).2.2 y hy w qe
      omega
     ·simp only[List.mem_singleton]at hy
      omega
   obtain ⟨a,b,c,d⟩:=Yq one ps _ r h hr (by rw[List.length_append];simp;omega)
   refine⟨a,b,by rw[c];simp;omega,fun x hx=>?_⟩
   rcases d x hx with hx | ⟨q,hq,e⟩
   ·rcases List.mem_append.1 hx with hx | hx
    ·exact .inl hx
    ·simp only[List.mem_singleton]at hx
     refine .inr ⟨p,by simp,?_⟩
     rw[hx]
     have:(one p).2=true:=by simpa using n1
     rw[← this]
   ·exact .inr ⟨q,by simp[hq],e⟩
theorem Ak9 {l:List Int} (h:∀ i (hi:i+1<l.length),l[i]<l[i+1]):Amp l:=by
 unfold Amp
 rw[List.pairwise_iff_getElem]
 intro i j hi hj hij
 induction j with
 | zero=>omega
 | succ j ih =>
  by_cases e:i=j
  ·subst e;exact h i hj
  ·have:=ih j_ j_
   have:=h j hj
   omega
theorem rising_iff {l:List Int} {lo hi:Int}:Ht l lo hi=true↔Amp l∧(∀ x∈l,lo≤x∧x≤hi)∧0<l.length∧l.length≤16:=by
 have hg:∀ i (h:i<l.length),nth l (i:Int)=l[i]:=fun i h=>A1 (i:=(i:Int)) h
 rw[Ht,Bool.and_eq_true,Bool.and_eq_true,decide_eq_true_eq,decide_eq_true_eq,allB_iff]
 constructor
 ·rintro ⟨⟨h1,h2⟩,h⟩
  refine⟨Ak9 fun i hi=>?_,fun x hx=>?_,h1,h2⟩
  ·have:=h (i+1) hi
   simp only[Qq,Bool.and_eq_true,Bool.or_eq_true,decide_eq_true_eq,beq_iff_eq]at this
   rw[show (((i+1:Nat):Int)-1)=(i:Int) by omega,hg i j_]at this
   omega
  ·obtain ⟨i,hi,rfl⟩:=List.mem_iff_getElem.1 hx
   have:=h i hi
   simp only[Qq,Bool.and_eq_true,decide_eq_true_eq]at this
   exact this.1
 ·rintro ⟨h,h1,h2⟩
  refine⟨h2,fun i hi=>?_⟩
  have hx:=h1 _ (List.getElem_mem hi)
  simp only[Qq,Bool.and_eq_true,Bool.or_eq_true,decide_eq_true_eq,beq_iff_eq]
  refine⟨hx,?_⟩
  by_cases h0:i=0
  ·exact .inl h0
  ·right
   rw[show ((i:Int)-1)=((i-1:Nat):Int) by omega,hg (i-1) j_]
   exact List.pairwise_iff_getElem.1 h (i-1) i j_ hi j_
theorem listOK_iff {l:List Int} {hi:Int}:E5 l hi=true↔l=[]∨Ht l 1 hi=true:=by
 rw[E5,Qr,Bool.or_eq_true,decide_eq_true_eq,List.length_eq_zero_iff]
theorem Agg (s:ByteArray):0≤(C9 s).1:=by
 rw[C9]
 split
 ·dsimp only
  generalize B9 46 s=l
  cases hl:l.reverse with
  | nil =>
   have:l=[]:=by simpa using hl
   subst this;exact Int.le_refl _
  | cons x r =>
   have:l=r.reverse++[x]:=by
    have:=congrArg List.reverse hl
    simpa using this
   rw[this,S2]
   show 0≤IntKind.u32.wrap _
   rw[IntKind.wrap_u32];omega
 ·exact Int.le_refl _
theorem Ajb (s:ByteArray):(C9 s).1<4294967296:=by
 rw[C9]
 split
 ·dsimp only
  generalize B9 46 s=l
  cases hl:l.reverse with
  | nil =>
   have:l=[]:=by simpa using hl
   subst this;decide
  | cons x r =>
   have:l=r.reverse++[x]:=by
    have:=congrArg List.reverse hl
    simpa using this
   rw[this,S2]
   show IntKind.u32.wrap _<_
   rw[IntKind.wrap_u32];omega
 ·decide
end Go.Sy.YtdkfcckkkfghgaaGreatDoor
namespace Go.Sy.YtdkfcckkkfghgaaGreatDoor
open Go.Proofs
set_option maxHeartbeats 4000000
theorem Dq (w:List ByteArray) (row:Int):∀ x∈(Bl w row).2,x.2≠0:=by
 unfold Bl Ey
 dsimp only
 repeat' split
 all_goals simp
theorem k1:kindL ⟨#[100,101,118,105,99,101]⟩=1:=by decide +kernel
theorem k2:kindL ⟨#[112,111,114,116]⟩=2:=by decide +kernel
theorem k3:kindL ⟨#[108,105,110,107]⟩=3:=by decide +kernel
theorem k4:kindL ⟨#[115,116,97,116,105,99]⟩=4:=by decide +kernel
theorem k5:kindL ⟨#[118,116,101,112]⟩=5:=by decide +kernel
theorem k6:kindL ⟨#[118,110,105]⟩=6:=by decide +kernel
theorem k7:kindL ⟨#[102,108,111,111,100]⟩=7:=by decide +kernel
theorem k8:kindL ⟨#[118,114,102]⟩=8:=by decide +kernel
theorem k9:kindL ⟨#[105,114,98]⟩=9:=by decide +kernel
theorem Abc:accessT≠trunkT:=by decide +kernel
theorem wd0 (a:ByteArray) (l:List ByteArray):wdT (a::l) 0=a:=rfl
theorem st1 (d n m:ByteArray) (r:Int):Bl [⟨#[100,101,118,105,99,101]⟩,d,n,m] r=({ lineZ with row:=r,kind:=1,dev:=d,num:=(numR n 0 65535).1,mac:=(macR m).1 },[(!(Az d),20),(!(numR n 0 65535).2,21),(!((macR m).2 && statB (macR m).1),21)]):=by
 unfold Bl
 simp only[wd0,k1]
 rfl
theorem st3 (d p q f:ByteArray) (r:Int):Bl [⟨#[108,105,110,107]⟩,d,p,q,f] r=({ lineZ with row:=r,kind:=3,dev:=d,port:=p,peer:=q,far:=f },[(!(Az d),20),(!(Az p),20),(!(Az q),20),(!(Az f),20)]):=by
 unfold Bl
 simp only[wd0,k3]
 rfl
theorem st4 (d v m p:ByteArray) (r:Int):Bl [⟨#[115,116,97,116,105,99]⟩,d,v,m,p] r=({ lineZ with row:=r,kind:=4,dev:=d,vlan:=(Cp v).1,mac:=(macR m).1,port:=p },[(!(Az d),20),(!(Cp v).2,21),(!((macR m).2 && statB (macR m).1),21),(!(Az p),20)]):=by
 unfold Bl
 simp only[wd0,k4]
 rfl
theorem within_iff {n lo hi:Int}:B3 n lo hi=true↔lo≤n∧n≤hi:=by simp[B3]
theorem Mv {a b:Int} (h:subnetB a b=true):1≤b∧b≤30:=by
 simp only[subnetB,Bool.and_eq_true,decide_eq_true_eq]at h
 omega
structure LineOK (l:LineM):Prop where
 mac:0≤l.mac∧l.mac<18446744073709551616
 addr:0≤l.addr∧l.addr<4294967296
 addrs:∀ x∈l.addrs,0≤x∧x<4294967296
theorem Aqf {α:Type} {p:α × Bool} (h:p.2=true):p=(p.1,true):=by rw[← h]
end Go.Sy.YtdkfcckkkfghgaaGreatDoor
namespace Go.Sy.YtdkfcckkkfghgaaGreatDoor
open Go.Proofs
attribute [local irreducible] Go.Sy.G Go.Sy.DR
set_option maxRecDepth 100000
set_option maxHeartbeats 4000000
theorem Hm {a b:ByteArray} (h:a≠b):(a == b)=false:=by
 cases hx:(a == b)
 ·rfl
 ·exact absurd ((Ho _ _).1 hx) h
theorem Eg {a b:ByteArray} (h:a=b):(a == b)=true:=(Ho _ _).2 h
theorem Adj {a b:ByteArray} (h:a≠b):(!(a == b))=true:=by rw[Hm h];rfl
theorem Xb {a b:ByteArray} (h:a=b):(!(a == b))=false:=by rw[Eg h];rfl
theorem Ep (s:ByteArray):Sy.Spec Tryz.prog 52 [Ae s] [] (Aa (kindL s)) []:=cT F52 Tryz.ntmps52 fun F hF=>by
 have hk:=kindL.eq_1 s
 generalize kindL s=k at *
 by_cases c1:s=(⟨#[100,101,118,105,99,101]⟩:ByteArray)
 ·have b1:=Eg c1
  rw[if_pos c1]at hk
  subst hk
  refine T ?_
  exact D
 have b1:=Hm c1
 rw[if_neg c1]at hk
 by_cases c2:s=(⟨#[112,111,114,116]⟩:ByteArray)
 ·have b2:=Eg c2
  rw[if_pos c2]at hk
  subst hk
  refine T ?_
  exact D
 have b2:=Hm c2
 rw[if_neg c2]at hk
 by_cases c3:s=(⟨#[108,105,110,107]⟩:ByteArray)
 ·have b3:=Eg c3
  rw[if_pos c3]at hk
  subst hk
  refine T ?_
  exact D
 have b3:=Hm c3
 rw[if_neg c3]at hk
 by_cases c4:s=(⟨#[115,116,97,116,105,99]⟩:ByteArray)
 ·have b4:=Eg c4
  rw[if_pos c4]at hk
  subst hk
  refine T ?_
  exact D
 have b4:=Hm c4
 rw[if_neg c4]at hk
 by_cases c5:s=(⟨#[118,116,101,112]⟩:ByteArray)
 ·have b5:=Eg c5
  rw[if_pos c5]at hk
  subst hk
  refine T ?_
  exact D
 have b5:=Hm c5
 rw[if_neg c5]at hk
 by_cases c6:s=(⟨#[118,110,105]⟩:ByteArray)
 ·have b6:=Eg c6
  rw[if_pos c6]at hk
  subst hk
  refine T ?_
  exact D
 have b6:=Hm c6
 rw[if_neg c6]at hk
 by_cases c7:s=(⟨#[102,108,111,111,100]⟩:ByteArray)
 ·have b7:=Eg c7
  rw[if_pos c7]at hk
  subst hk
  refine T ?_
  exact D
 have b7:=Hm c7
 rw[if_neg c7]at hk
 by_cases c8:s=(⟨#[118,114,102]⟩:ByteArray)
 ·have b8:=Eg c8
  rw[if_pos c8]at hk
  subst hk
  refine T ?_
  exact D
 have b8:=Hm c8
 rw[if_neg c8]at hk
 by_cases c9:s=(⟨#[105,114,98]⟩:ByteArray)
 ·have b9:=Eg c9
  rw[if_pos c9]at hk
  subst hk
  refine T ?_
  exact D
 have b9:=Hm c9
 rw[if_neg c9]at hk
 subst hk
 refine T ?_
 exact D
theorem Eo (k:Int) (hk:0≤k∧k≤9) (w:List ByteArray) (hw:w.length≤1000000):Sy.Spec Tryz.prog 51 [Aa k,.sl 1 Ae w] [] (Ab (manyB k w)) []:=cT F51 Tryz.ntmps51 fun F hF=>by
 have hm2:=manyB.eq_1 k w
 generalize manyB k w=r at *
 rcases (by omega:k=0∨k=1∨k=2∨k=3∨k=4∨k=5∨k=6∨k=7∨k=8∨k=9) with h | h | h | h | h | h | h | h | h | h
 ·subst h
  have hr:r=false:=by rw[hm2];simp
  subst hr
  refine T ?_
  exact D
 ·subst h
  have hr:r=decide (w.length=4):=by rw[hm2];simp
  subst hr
  refine T ?_
  refine Aw q_ (.cons .tmp .nil) (congrArg Ab ?_) q_
  by_cases hn:w.length=4
  ·rw[hn];rfl
  ·rw[decide_eq_false hn];symm;simp;omega
 ·subst h
  rw[if_neg qd,if_pos rfl]at hm2
  by_cases h6:w.length<6
  ·rw[if_pos h6]at hm2
   subst hm2
   refine T ?_
   exact D
  ·rw[if_neg h6]at hm2
   have f6:decide ((w.length:Int)<6)=false:=decide_eq_false j_
   have h4:(4:Int).toNat<w.length:=by show 4<w.length;omega
   have hx:wdT w 4=w[(4:Int).toNat]'h4:=C8 j_
   rw[hx]at hm2
   by_cases ca:w[(4:Int).toNat]'h4=accessT
   ·have ba:(w[(4:Int).toNat]'h4 == (⟨#[97,99,99,101,115,115]⟩:ByteArray))=true:=Eg ca
    have bt:(w[(4:Int).toNat]'h4 == (⟨#[116,114,117,110,107]⟩:ByteArray))=false:=Hm (by rw[ca];exact Abc)
    have na:(!(w[(4:Int).toNat]'h4 == (⟨#[97,99,99,101,115,115]⟩:ByteArray)))=false:=Xb ca
    rw[if_pos ca]at hm2
    by_cases hn:w.length=6
    ·rw[decide_eq_true hn]at hm2
     subst hm2
     refine T ?_
     exact D
    ·rw[decide_eq_false hn]at hm2
     have fb:((w.length:Int) == 6)=false:=by rw[beq_eq_false_iff_ne];omega
     subst hm2
     refine T ?_
     exact D
   ·have ba:(w[(4:Int).toNat]'h4 == (⟨#[97,99,99,101,115,115]⟩:ByteArray))=false:=Hm ca
    have na:(!(w[(4:Int).toNat]'h4 == (⟨#[97,99,99,101,115,115]⟩:ByteArray)))=true:=Adj ca
    rw[if_neg ca]at hm2
    by_cases ctr:w[(4:Int).toNat]'h4=trunkT
    ·have bt:(w[(4:Int).toNat]'h4 == (⟨#[116,114,117,110,107]⟩:ByteArray))=true:=Eg ctr
     have nt:(!(w[(4:Int).toNat]'h4 == (⟨#[116,114,117,110,107]⟩:ByteArray)))=false:=Xb ctr
     rw[if_pos ctr]at hm2
     by_cases hn:w.length=7
     ·rw[decide_eq_true hn]at hm2
      subst hm2
      refine T ?_
      exact D
     ·rw[decide_eq_false hn]at hm2
      have fb:((w.length:Int) == 7)=false:=by rw[beq_eq_false_iff_ne];omega
      subst hm2
      refine T ?_
      exact D
    ·have bt:(w[(4:Int).toNat]'h4 == (⟨#[116,114,117,110,107]⟩:ByteArray))=false:=Hm ctr
     have nt:(!(w[(4:Int).toNat]'h4 == (⟨#[116,114,117,110,107]⟩:ByteArray)))=true:=Adj ctr
     rw[if_neg ctr]at hm2
     subst hm2
     refine T ?_
     refine Aw q_ (.cons .tmp .nil) (congrArg Ab ?_) q_
     exact decide_eq_decide.2 j_
 ·subst h
  have hr:r=decide (w.length=5):=by rw[hm2];simp
  subst hr
  refine T ?_
  refine Aw q_ (.cons .tmp .nil) (congrArg Ab ?_) q_
  by_cases hn:w.length=5
  ·rw[hn];rfl
  ·rw[decide_eq_false hn];symm;simp;omega
 ·subst h
  have hr:r=decide (w.length=5):=by rw[hm2];simp
  subst hr
  refine T ?_
  refine Aw q_ (.cons .tmp .nil) (congrArg Ab ?_) q_
  by_cases hn:w.length=5
  ·rw[hn];rfl
  ·rw[decide_eq_false hn];symm;simp;omega
 ·subst h
  have hr:r=decide (w.length=3):=by rw[hm2];simp
  subst hr
  refine T ?_
  refine Aw q_ (.cons .tmp .nil) (congrArg Ab ?_) q_
  by_cases hn:w.length=3
  ·rw[hn];rfl
  ·rw[decide_eq_false hn];symm;simp;omega
 ·subst h
  have hr:r=decide (w.length=4):=by rw[hm2];simp
  subst hr
  refine T ?_
  refine Aw q_ (.cons .tmp .nil) (congrArg Ab ?_) q_
  by_cases hn:w.length=4
  ·rw[hn];rfl
  ·rw[decide_eq_false hn];symm;simp;omega
 ·subst h
  have hr:r=decide (w.length=4):=by rw[hm2];simp
  subst hr
  refine T ?_
  refine Aw q_ (.cons .tmp .nil) (congrArg Ab ?_) q_
  by_cases hn:w.length=4
  ·rw[hn];rfl
  ·rw[decide_eq_false hn];symm;simp;omega
 ·subst h
  have hr:r=decide (w.length=5):=by rw[hm2];simp
  subst hr
  refine T ?_
  refine Aw q_ (.cons .tmp .nil) (congrArg Ab ?_) q_
  by_cases hn:w.length=5
  ·rw[hn];rfl
  ·rw[decide_eq_false hn];symm;simp;omega
 ·subst h
  have hr:r=decide (w.length=5):=by rw[hm2];simp
  subst hr
  refine T ?_
  refine Aw q_ (.cons .tmp .nil) (congrArg Ab ?_) q_
  by_cases hn:w.length=5
  ·rw[hn];rfl
  ·rw[decide_eq_false hn];symm;simp;omega
theorem Vt (a:Nat) (b:Int) (ha:a<4294967296):Sy.Spec Tryz.prog 65 [Ij a b] [] (Ab (subnetB a b)) []:=cT F65 Tryz.ntmps65 fun F hF=>by
 have q1:=Ajc a b ha
 have q2:=Amn a b ha
 have hs:=subnetB.eq_1 (a:Int) b
 generalize subnetB (a:Int) b=r at *
 generalize Iw (a:Int) b=fi at *
 generalize Mo (a:Int) b=la at *
 by_cases h1:1≤b
 ·by_cases h2:b≤30
  ·by_cases h3:(a:Int)=fi
   ·have f3:((a:Int) != fi)=false:=by rw[bne_eq_false_iff_eq];exact h3
    have hr:r=false:=by rw[hs];simp[h3]
    subst hr
    refine T ?_
    refine C q1 F106 ?_
    exact D
   ·have f3:((a:Int) != fi)=true:=by rw[bne_iff_ne];exact h3
    by_cases h4:(a:Int)=la
    ·have f4:((a:Int) != la)=false:=by rw[bne_eq_false_iff_eq];exact h4
     have hr:r=false:=by rw[hs];simp[h4]
     subst hr
     refine T ?_
     refine C q1 F106 ?_
     refine C q2 F107 ?_
     refine Aw q_ (.cons .tmp .nil) (congrArg Ab f4.symm) q_
    ·have f4:((a:Int) != la)=true:=by rw[bne_iff_ne];exact h4
     have hr:r=true:=by rw[hs];simp[h1,h2,h3,h4]
     subst hr
     refine T ?_
     refine C q1 F106 ?_
     refine C q2 F107 ?_
     refine Aw q_ (.cons .tmp .nil) (congrArg Ab f4.symm) q_
  ·have hr:r=false:=by rw[hs];simp[h2]
   subst hr
   refine T ?_
   exact D
 ·have hr:r=false:=by rw[hs];simp[h1]
  subst hr
  refine T ?_
  exact D
theorem Afn (l:List Int) (v:Int):l.contains v=inB l v:=by
 induction l with
 | nil=>rfl
 | cons x l ih =>
  rw[List.contains_cons,ih,inB,inB,List.any_cons]
  congr 1
  exact Bool.beq_comm
theorem If (l:LineM) (hl:Ax l.tagged):Sy.Spec Tryz.prog 101 [Ad l] [] (Ab (membersB l.vlan l.tagged)) []:=cT F101 Tryz.ntmps101 fun F hF=>by
 have q:=Lp l.tagged l.vlan hl
 have hm2:=membersB.eq_1 l.vlan l.tagged
 rw[Afn]at hm2
 generalize membersB l.vlan l.tagged=r at *
 generalize inB l.tagged l.vlan=ib at *
 unfold Ax at hl
 by_cases h1:0<l.vlan
 ·have hr:r=!ib:=by rw[hm2];simp[h1]
  subst hr
  refine T ?_
  refine C q F179 ?_
  exact D
 ·by_cases h2:l.tagged.length=0
  ·have hr:r=false:=by
    rw[hm2,decide_eq_false h1,List.eq_nil_of_length_eq_zero h2];rfl
   subst hr
   refine T ?_
   exact D
  ·have hr:r=!ib:=by
    rw[hm2]
    have:l.tagged.isEmpty=false:=by cases ht:l.tagged<;>simp_all
    simp[this]
   have f2:decide ((l.tagged.length:Int)>0)=true:=decide_eq_true j_
   subst hr
   refine T ?_
   refine C q F179 ?_
   exact D
end Go.Sy.YtdkfcckkkfghgaaGreatDoor
namespace Go.Sy
theorem Mp {P:Program} (Γ:Ty P) {o:Oper} {s:SS} {t:TypeId} {ti:TI} {et:TypeId} {len esz sz g:Nat} {y:Operand} {ik:IntKind} {n:Int} {z:SV} (k:Nat)
  (h:o.op=.indexAddr t (.global g) y) (ht:Γ.get t=some ti) (hk:ti.k=.array et len esz) (hb:s.h k=.glob sz z g) (hy:ev s y=.val (.int ik n)) (h0:0≤n) (hn:n.toNat<len) :
  Good P o s ⟨.ref sz z (n.toNat * esz),[k],[]⟩ :=
 Good.pure fun κ a w _ hr ho=>by
  have h1:=ho k qe
  have h2:=hr y (by simp[h,Op.operands])
  rw[hb]at h1
  rw[hy]at h2
  simp only[ObOK,Rd,RdD]at h1
  obtain ⟨b,oo,u,e1,e2,e3,e4,e5⟩:=h1
  obtain ⟨hu,i,q1,q2⟩:=Ov Γ ht hk
  simp only[Nat.add_zero,Value.pointer.injEq,Option.some.injEq,Addr.mk.injEq,and_true]at e1
  obtain ⟨rfl,rfl⟩:=e1
  refine⟨.pointer (some ⟨g,0+n.toNat * esz,none⟩),?_,?_⟩
  ·have hg:a.eval (.global g)=.pointer (some ⟨g,0,none⟩):=rfl
   simp only[execOp,h,hg,h2.val]
   simp[Ly w hu q1 q2 h0 hn]
  ·simp only[Rd,RdD]
   exact⟨g,0,u,q_,e2,e3,e4,e5⟩
theorem Ob.shp_glob {x:Ob} {sz g:Nat} {z:SV} (h:x.shp=(Ob.glob sz z g).shp):x=.glob sz z g:=by
 cases x<;>simp_all[Ob.shp]
theorem GoodX.glob {P:Program} (Γ:Ty P) {o:Oper} {s:SS} {t:TypeId} {ti:TI} {et:TypeId} {len esz sz g:Nat} {y:Operand} {ik:IntKind} {n:Int} {z:SV} (k:Nat)
  (h:o.op=.indexAddr t (.global g) y) (ht:Γ.get t=some ti) (hk:ti.k=.array et len esz) (hb:s.h k=.glob sz z g) (hy:ev s y=.val (.int ik n)) (h0:0≤n) (hn:n.toNat<len) :
  GoodX P o s ⟨.ref sz z (n.toNat * esz),[k],[]⟩ where
 good:=(Mp Γ k h ht hk hb hy h0 hn).two
 idx _:=⟨rfl,fun s' h1 h2=>Mp Γ k h ht hk (Ob.shp_glob ((h2 k qe).trans (congrArg Ob.shp hb))) ((h1 y (by simp[h,Op.operands])).trans hy) h0 hn⟩
 st hs:=by simp[Ld,h]at hs
section
open Go.ChangeShapes Go.WideShapes Go.ChangeAt Go.RowKit
variable {H:Type} {enc:TypeId × Value→H} {P:Program}
end
end Go.Sy
namespace Go.Sy
theorem Adk {P:Program} {κ:Ka} {w:World} (hi:Inv κ w) {t ty e:TypeId} {i:TypeInfo} {z:Value} {sz:Nat} (ht:P.underlying t=some (.slice e)) (hinfo:P.info? e=some i) (hz:i.zero=some z) (hsz:i.size=sz) (hzs:z.cells.size=sz)
  {v:Value} {n m:Nat} {f g:Nat→SV→Prop} {k:Option Nat} {d:Nat} (hd:κ d=.new) (hb:Base κ w v n sz f k) {t2:TypeId} (ht2:P.underlying t2=some .string) {b0:ByteArray} (hbm:b0.size=m) (hs1:sz=1) (hsg:∀ j x,g j x→∃ h:j<b0.data.toList.length,x=.val (.int .u8 (b0.data.toList[j].toNat))) (h63:n+m≤9223372036854775807) (hbytes:(n+m) * i.bytes≤140737488355328) :
  ∃ v' w' κ',(Builtin.append_ #[t,t2] ty #[v,.string b0]).run P w=.ok v' w'∧Step (fun j=>k=some j∨j=d) κ w κ' w'∧Inv κ' w'∧Rd κ' w' (.osl d) v' ∧
   ((κ' d=.nil∧n+m=0)∨RowAt κ' w' d sz (n+m) (Agc n f g)):=by
 obtain ⟨news,hnl,hn1,hnc,hng⟩:∃ (news:List Value),news.length=m * sz∧Ones news∧(∀ W:World,(∀ p:Addr,p.block<w.heap.size→W.cell? p=w.cell? p)→(Builtin.firstCells sz m (.string b0)).run P W=.ok news.toArray W) ∧
   (∀ j x,g j x→j<m∧∃ q:Value,RdD (Own κ) w x q∧q.cells.size=sz∧Ones q.cells.toList∧∀ l,l<sz→news[j * sz+l]? = q.cells[l]?):=by
  have hsz0:b0.data.toList.length=m:=by rw[← hbm];rfl
  refine⟨b0.data.toList.map fun c=>.int .u8 c.toNat,by rw[List.length_map,hs1,Nat.mul_one];exact hsz0,fun c hc=>?_,fun W _=>?_,fun j x hx=>?_⟩
  ·obtain ⟨b,_,rfl⟩:=List.mem_map.1 hc
   rfl
  ·have he:b0.extract 0 m=b0:=by rw[← hbm];exact ByteArray.extract_zero_size
   have e2:Array.map (fun b:UInt8=>Value.int .u8 b.toNat) b0.data=(List.map (fun b:UInt8=>Value.int .u8 b.toNat) b0.data.toList).toArray:=by apply Array.ext';simp
   simp[Builtin.firstCells,he,e2]
  ·obtain ⟨h,rfl⟩:=hsg j x hx
   refine⟨by omega,.int .u8 (b0.data.toList[j].toNat),by simp[RdD],by rw[hs1];rfl,fun c hc=>?_,fun l hl=>?_⟩
   ·simp[Value.cells]at hc;subst hc;rfl
   ·have hl0:l=0:=by omega
    subst hl0
    rw[hs1,Nat.mul_one,Nat.add_zero,List.getElem?_map,List.getElem?_eq_getElem h]
    simp[Value.cells]
 have hcap:∀ old,n+m≤grownCap w (n+m) old e:=fun old=>grownCap_ge w (n+m) old e
 have hfits:∀ old,old<n+m→¬ (281474976710656<Builtin.nextslicecap (n+m) old * i.bytes):=fun old ho=>by have:=growslice_fits ho hbytes;omega
 have newrow:∀ (olds:List Value) (old:Nat) (hol:olds.length=n * sz) (hof:∀ j x,f j x→j<n→∃ q:Value,RdD (Own κ) w x q∧q.cells.size=sz∧Ones q.cells.toList∧∀ l,l<sz→olds[j * sz+l]? = q.cells[l]?),
   let w':=w.drew.alloc (.cells (olds.toArray++news.toArray++Builtin.zeroCells z.cells (grownCap w (n+m) old e-(n+m))) e)
   let κ':=D9 (Q2 κ k) d (.row w.heap.size (n+m) (grownCap w (n+m) old e))
   Step (fun j=>k=some j∨j=d) κ w κ' w'∧Inv κ' w'∧Rd κ' w' (.osl d) (.slice (some ⟨w.heap.size,0,none⟩) (n+m) (grownCap w (n+m) old e))∧RowAt κ' w' d sz (n+m) (Agc n f g):=by
  intro olds old hol hof w' κ'
  have s1:=H5 (κ:=κ) (w:=w) k
  have hdn:(Q2 κ k) d=.new:=by
   cases k with
   | none=>exact hd
   | some k =>
    by_cases hkd:d=k
    ·exfalso
     subst hkd
     rcases hb with ⟨h,_⟩ | ⟨_,_,b,cap,h,_⟩<;>rw[hd]at h<;>cases h
    ·simp only[Q2];rw[B6 _ _ hkd];exact hd
  have g0:Grew w w':=(Grew.drew w).trans (Grew.alloc _ _)
  have s2:=Hp (Jq hi k) hdn (e:=.row w.heap.size (n+m) (grownCap w (n+m) old e)) g0 (fun b hb=>by
   simp only[Ent.block?,Option.some.injEq]at hb;subst hb;exact⟨Nat.le_refl _,by simp[w']⟩)
  have s3:Step (fun j=>k=some j∨j=d) κ w κ' w':=(s1.weaken (fun j hj=>.inl hj)).trans (s2.1.weaken (fun j hj=>.inr hj))
  refine⟨s3,s2.2,by simp[Rd,κ',As],?_⟩
  refine⟨w.heap.size,grownCap w (n+m) old e,olds++news++(Builtin.zeroCells z.cells (grownCap w (n+m) old e-(n+m))).toList,e,(0,0),As _ _ _,?_,NoFr.zero _,?_,hcap old,?_⟩
  ·have:w'.heap[w.heap.size]? = some (.cells (olds.toArray++news.toArray++Builtin.zeroCells z.cells (grownCap w (n+m) old e-(n+m))) e):=heap_alloc_new w.drew _
   rw[this]
   congr 2
   apply Array.ext'
   simp
  ·simp only[List.length_append,hol,hnl,Array.length_toList,Q1,hzs]
   rw[← Nat.add_mul,← Nat.add_mul]
   have:=hcap old
   rw[show n+m+(grownCap w (n+m) old e-(n+m))=grownCap w (n+m) old e from by omega]
   exact Nat.le_refl _
  ·rintro j x (⟨hj,hx⟩ | ⟨hj,hx⟩)
   ·obtain ⟨q,q1,q2,q3,q4⟩:=hof j x hx hj
    refine⟨by omega,q,RdD.keep s3.keeps _ _ q1,q2,q3,fun l hl=>?_⟩
    have:(j+1) * sz≤n * sz:=Nat.mul_le_mul_right sz j_
    rw[Nat.add_mul,Nat.one_mul]at this
    rw[List.append_assoc,List.getElem?_append_left j_,q4 l hl]
   ·obtain ⟨h0,q,q1,q2,q3,q4⟩:=hng _ x hx
    refine⟨by omega,q,RdD.keep s3.keeps _ _ q1,q2,q3,fun l hl=>?_⟩
    have e1:j * sz=n * sz+(j-n) * sz:=by rw[← Nat.add_mul];congr 1;omega
    have:(j-n+1) * sz≤m * sz:=Nat.mul_le_mul_right sz j_
    rw[Nat.add_mul,Nat.one_mul]at this
    rw[List.append_assoc,List.getElem?_append_right j_,List.getElem?_append_left j_,← q4 l hl]
    congr 1
    omega
 cases k with
 | none =>
  obtain ⟨rfl,rfl⟩:=hb
  by_cases hm:m=0
  ·subst hm
   have st:=Hp hi hd (e:=.nil) (Grew.refl w) (fun b hb=>by cases hb)
   refine⟨.slice none 0 0,w,D9 κ d .nil,?_,st.1.weaken (fun j hj=>.inr hj),st.2,by simp[Rd,As],.inl ⟨As _ _ _,q_⟩⟩
   have hc:=hnc w (fun _ _=>rfl)
   simp[Builtin.append_,run_underlying ht,run_underlying ht2,hbm,sizeOf,typeInfo,hinfo,hsz,Builtin.lenOf,hc]
  ·obtain ⟨q1,q2,q3,q4⟩:=newrow [] 0 qe (fun j x _ hj=>absurd hj j_)
   refine⟨_,_,_,?_,q1,q2,q3,.inr q4⟩
   have hc:=hnc w.drew (fun _ _=>rfl)
   have h48:=hfits 0 j_
   have h63':¬ (9223372036854775807<(m:Int)):=by omega
   simp only[Nat.zero_add]at h48 ⊢
   simp[Builtin.append_,run_underlying ht,run_underlying ht2,hbm,sizeOf,typeInfo,zeroValue,hinfo,hsz,hz,Builtin.lenOf,hm,h63',h48,Question.forced,run_firstCells_none,hc,newRow,grownCap]
 | some k =>
  rcases hb with ⟨hk,rfl,rfl⟩ | ⟨hrow,tot,b,cap,hk,rfl⟩
  ·by_cases hm:m=0
   ·subst hm
    have hkd:d≠k:=fun e=>by subst e;rw[hd]at hk;cases hk
    have st:=Hp (Jq hi (some k)) (by show D9 κ k .dead d=.new;rw[B6 _ _ hkd];exact hd) (e:=.nil) (Grew.refl w) (fun b hb=>by cases hb)
    refine⟨.slice none 0 0,w,_,?_,((H5 (some k)).weaken (fun j hj=>.inl hj)).trans (st.1.weaken (fun j hj=>.inr hj)),st.2,by simp[Rd,As],.inl ⟨As _ _ _,q_⟩⟩
    have hc:=hnc w (fun _ _=>rfl)
    simp[Builtin.append_,run_underlying ht,run_underlying ht2,hbm,sizeOf,typeInfo,hinfo,hsz,Builtin.lenOf,hc]
   ·obtain ⟨q1,q2,q3,q4⟩:=newrow [] 0 qe (fun j x _ hj=>absurd hj j_)
    refine⟨_,_,_,?_,q1,q2,q3,.inr q4⟩
    have hc:=hnc w.drew (fun _ _=>rfl)
    have h48:=hfits 0 j_
    have h63':¬ (9223372036854775807<(m:Int)):=by omega
    simp only[Nat.zero_add]at h48 ⊢
    simp[Builtin.append_,run_underlying ht,run_underlying ht2,hbm,sizeOf,typeInfo,zeroValue,hinfo,hsz,hz,Builtin.lenOf,hm,h63',h48,Question.forced,run_firstCells_none,hc,newRow,grownCap]
  ·obtain ⟨b',cap',hk',hsrc⟩:=hrow.src tot
   rw[hk]at hk'
   cases hk'
   have hrow':=hrow
   obtain ⟨b',cap',cs,T,fr,e1,e2,e3,e4,e5,e6⟩:=hrow'
   rw[hk]at e1
   cases e1
   by_cases hroom:n+m≤cap
   ·have hkd:k≠d:=fun e=>by subst e;rw[hk]at hd;cases hd
    have hcs:(n+m) * sz≤cs.length:=Nat.le_trans (Nat.mul_le_mul_right sz hroom) e4
    rw[Nat.add_mul]at hcs
    obtain ⟨w',f1,f2,f3,f4,f5,f6,f7⟩:=Ex P b (n * sz) T fr news 0 cs w e2 e3 j_ hn1
    obtain ⟨st,inv⟩:=U3 (n':=n+m) hi hk hd f3 f4 f5 f6 f7
    refine⟨.slice (some ⟨b,0,none⟩) (n+m) cap,w',_,?_,st.weaken (fun j hj=>hj.imp (fun h=>by rw[h]) id),inv,by simp[Rd,As],.inr ?_⟩
    ·have hc:=hnc w (fun _ _=>rfl)
     simp[Builtin.append_,run_underlying ht,run_underlying ht2,hbm,sizeOf,typeInfo,hinfo,hsz,Builtin.lenOf,hroom,hc,Addr.add_lit,f1]
    ·refine⟨b,cap,_,T,fr,As _ _ _,by simpa using f2,by rw[C2];exact e3,by rw[C2];exact e4,hroom,?_⟩
     have hset:=Tf cs news (n * sz)
     rintro j x (⟨hj,hx⟩ | ⟨hj,hx⟩)
     ·obtain ⟨_,q,q1,q2,q3,q4⟩:=e6 j x hx
      refine⟨by omega,q,RdD.keep st.keeps _ _ q1,q2,q3,fun l hl=>?_⟩
      have:(j+1) * sz≤n * sz:=Nat.mul_le_mul_right sz j_
      rw[Nat.add_mul,Nat.one_mul]at this
      rw[hset _ j_,if_neg j_,q4 l hl]
     ·obtain ⟨h0,q,q1,q2,q3,q4⟩:=hng _ x hx
      refine⟨by omega,q,RdD.keep st.keeps _ _ q1,q2,q3,fun l hl=>?_⟩
      have e1:j * sz=n * sz+(j-n) * sz:=by rw[← Nat.add_mul];congr 1;omega
      have:(j-n+1) * sz≤m * sz:=Nat.mul_le_mul_right sz j_
      rw[Nat.add_mul,Nat.one_mul]at this
      rw[hset _ j_,if_pos j_,← q4 l hl]
      congr 1
      omega
   ·rcases hsrc with ⟨rfl,hno,a',c',he⟩ | ⟨b2,o2,c2,olds,he,g1,g2,g3,g4⟩
    ·obtain ⟨q1,q2,q3,q4⟩:=newrow [] cap qe (fun j x _ hj=>absurd hj j_)
     refine⟨_,_,_,?_,q1,q2,q3,.inr q4⟩
     have hc:=hnc w.drew (fun _ _=>rfl)
     have h48:=hfits cap j_
     have h63':¬ (9223372036854775807<(m:Int)):=by omega
     have hroom':¬ (m≤cap):=by omega
     have hfo:=run_firstCells_some (P:=P) w.drew sz 0 ⟨b,0,none⟩ 0 cap [] qe (fun j v hj=>by simp at hj)
     simp only[Nat.zero_add]at h48 ⊢
     simp[Builtin.append_,run_underlying ht,run_underlying ht2,hbm,sizeOf,typeInfo,zeroValue,hinfo,hsz,hz,Builtin.lenOf,hroom',h63',h48,Question.forced,hfo,hc,newRow,grownCap]
    ·cases he
     obtain ⟨q1,q2,q3,q4⟩:=newrow olds cap g1 (fun j x hx hj=>(g4 j x hx).2)
     refine⟨_,_,_,?_,q1,q2,q3,.inr q4⟩
     have hc:=hnc w.drew (fun _ _=>rfl)
     have h48:=hfits cap j_
     have h63':¬ (9223372036854775807<(n:Int)+(m:Int)):=by omega
     have hfo:=run_firstCells_some (P:=P) w.drew sz n ⟨b,0,none⟩ n cap olds g1 (fun j v hj=>by
      have:=g3 j v hj
      rw[Addr.add_lit];simpa using this)
     simp[Builtin.append_,run_underlying ht,run_underlying ht2,hbm,sizeOf,typeInfo,zeroValue,hinfo,hsz,hz,Builtin.lenOf,hroom,h63',h48,Question.forced,hfo,hc,newRow,grownCap]
     congr 2
     apply Array.ext'
     simp[List.append_assoc]
theorem Ac2 {P:Program} (Γ:Ty P) {o:Oper} {s:SS} (d:Nat) {l:List UInt8} {b:ByteArray} {t t2:TypeId} {ti ti2:TI} {et:TypeId} {eb:Nat} {ez:List Value} {x y:Operand} {k:Option Nat}
  (h:o.op=.call ⟨.builtin .append,#[x,y],#[t,t2]⟩) (hd:s.h d=.fresh) (ht:Γ.get t=some ti) (hk:ti.k=.slice et 1 eb ez) (hez:ez.length=1) (ht2:Γ.get t2=some ti2) (hk2:ti2.k=.string)
  (hb:BaseT s 1 A3 (ev s x) k l) (hy:ev s y=.val (.string b)) (hkk:∀ j,k=some j→j≠d) (hbytes:(l.length+b.size) * eb≤140737488355328) (h63:l.length+b.size≤9223372036854775807) :
  Good P o s ⟨.osl d,[],Hy k d (.row 1 A3 (l++b.data.toList))⟩:=by
 obtain ⟨f,hb,hf⟩:=hb.base
 intro κ a w hi hr ho N Q hN
 have h1:=hr x (by simp[h,Op.operands,Call.operands])
 have h2:=hr y (by simp[h,Op.operands,Call.operands])
 rw[hy]at h2
 have hws:∀ j,j∈(Up.mk (.osl d) [] (Hy k d (.row 1 A3 (l++b.data.toList)))).ws↔(k=some j∨j=d):=by
  intro j
  cases k<;>simp[Up.ws,Hy,eq_comm]
 have hnew:κ d=.new:=by have:=ho d (.inr ((hws d).2 (.inr rfl)));rwa [hd]at this
 obtain ⟨hu,i,z,q1,q2,q3,q4,q5⟩:=Dw Γ ht hk
 have hzs:z.cells.size=1:=by rw[← hez,← q5];simp
 have hu2:P.underlying t2=some .string:=by
  obtain ⟨dd,info,zz,k1,k2,_⟩:=Γ.ok t2 ti2 ht2
  rw[hk2]at k2
  simp only[TK.ok]at k2
  subst k2
  exact k1
 obtain ⟨v',w',κ',r1,r2,r3,r4,r5⟩:=Adk (P:=P) (ty:=o.type) (g:=rowF A3 b.data.toList) hi hu q1 q4 q2 hzs hnew (hb.base h1 (fun j hj=>ho j (.inr ((hws j).2 (.inl hj))))) hu2 (rfl:b.size=b.size) rfl
  (fun j x hx=>hx) h63 (by rw[q3];exact hbytes)
 have hrun:(execOp a.eval o).run P w=.ok (.value v') w':=by
  simp[execOp,h,h2.val,resolve,invoke,builtin,r1]
 simp only[Oper.wp,hrun,Oper.upon]
 refine hN v' κ' w' (r2.weaken (fun j hj=>(hws j).2 hj)) r3 r4 (fun p hp=>?_)
 have hfin:ObOK κ' w' d (.row 1 A3 (l++b.data.toList)):=Agb r5 (by rw[List.length_append];rfl) (Ad6 hf (fun _ _ h=>h))
 cases k with
 | none =>
  simp only[Hy,List.mem_singleton]at hp
  subst hp
  exact hfin
 | some k =>
  simp only[Hy,List.mem_cons,List.not_mem_nil,or_false]at hp
  rcases hp with rfl | rfl
  ·trivial
  ·exact hfin
theorem Dn {P:Program} (Γ:Ty P) {o:Oper} {s:SS} {t:TypeId} {ti:TI} {et:TypeId} {len:Nat} {x y:Operand} {ik:IntKind} {n:Int} {l:List SV} {z:SV} {k:EK} (h:o.op=.index t x y) (ht:Γ.get t=some ti) (hk:ti.k=.array et len 1)
  (he:P.underlying et=some (EK.desc k)) (hx:ev s x=.agg l) (hy:ev s y=.val (.int ik n)) (h0:0≤n) (hn:n.toNat<len) (hz:Iu l n.toNat=some z):Good P o s ⟨z,[],[]⟩ :=
 Good.pure fun κ a w _ hr _=>by
  have h1:=hr x (by simp[h,Op.operands])
  have h2:=hr y (by simp[h,Op.operands])
  rw[hx]at h1
  rw[hy]at h2
  simp only[Rd]at h1
  obtain ⟨cs,e1,_,e2⟩:=h1
  obtain ⟨v,e3,e4⟩:=e2.getT hz
  obtain ⟨hu,i,q1,q2⟩:=Ov Γ ht hk
  have hp:=Xr (P:=P) w he cs.toArray e3
  have hlt:n<len:=by omega
  refine⟨v,?_,e4⟩
  simp[execOp,h,e1,h2.val,Instr.index,run_underlying hu,asIntOf,h0,hlt,sizeOf,typeInfo,q1,q2,hp]
theorem Am {C:Cx} {k:List KI} {s:SS} (d:Nat) (l':List SV) {l:List SV} (h:s.h d=.box l) (hv:VwL s [] l l') (hg:G C k ⟨s.σ,upd s.h d (.box l')⟩):G C k s:=fun κ a w hs =>
 hg κ a w ⟨hs.defers,hs.size,hs.inv,hs.ctx,hs.slot,fun i=>by
  show ObOK κ w i (upd s.h d (.box l') i)
  by_cases hi:i=d
  ·subst hi
   rw[Cu]
   have:=hs.obj i
   rw[h]at this
   obtain ⟨b,cs,T,fr,e1,e2,e3,e4,e5⟩:=this
   exact⟨b,cs,T,fr,e1,e2,e3,e4,VwL.rd hs.inv (fun _ hn=>by cases hn) hv e5⟩
  ·rw[Dk _ _ hi];exact hs.obj i⟩
end Go.Sy
