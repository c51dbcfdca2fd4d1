/-
  K30 K31 K32 K33 K34 Sy24 T1 T2 T3 T4 V6 V7 V8 T5 T6 T7 T8 T9 T10 T11 T12 T13 T15 T16: parts of a proof, joined by program.
-/
import Derived.Test.YteinjapglfkamaaGreatXC6
import Derived.Test.YteinjapglfkamaaGreatXC3
import Derived.Test.YteinjapglfkamaaGreatXC5
namespace Go.Sy.YteinjapglfkamaaGreat
open Go.Proofs
attribute [local irreducible] Go.Sy.G Go.Sy.DR
set_option maxRecDepth 100000
set_option maxHeartbeats 4000000
def udpU (b:List UInt8):Nat→List SV
 | 0=>[Aa 0,Aa 0,Aa 0,Aa 0]
 | 1=>[Aa (numAt b 0 2),Aa 0,Aa 0,Aa 0]
 | 2=>[Aa (numAt b 0 2),Aa (numAt b 2 2),Aa 0,Aa 0]
 | 3=>[Aa (numAt b 0 2),Aa (numAt b 2 2),Aa (numAt b 4 2),Aa 0]
 | _=>[Aa (numAt b 0 2),Aa (numAt b 2 2),Aa (numAt b 4 2),Aa (numAt b 6 2)]
theorem Aqi (b:List UInt8) (hb:b.length<100000):Sy.Spec Tryz.prog 381 [.sl 1 Af b] [] (.tup [Aa (udpTakeT b).1,Aa (udpTakeT b).2.1,.sl 1 Af (udpTakeT b).2.2.1,Aa (udpTakeT b).2.2.2]) []:=cT F381 Tryz.ntmps381 fun F hF=>by
 have hres:=udpTakeT.eq_1 b
 generalize udpTakeT b=res at *
 conv=>whnf
 refine⟨fun h=>?_,fun h=>?_⟩
 ·rw[if_pos (qA h)]at hres
  subst hres
  refine oO ?_
  refine Ai 4 1 Af E ?_
  exact dN
 have h8:8≤b.length:=qB h
 rw[if_neg qn]at hres
 clear h
 have hp0:=Hf (b[0]'qn) (b[1]'qn)
 rw[← K7 (show 0+2≤b.length by omega)]at hp0
 have hp1:=Hf (b[2]'qn) (b[3]'qn)
 rw[← K7 (show 2+2≤b.length by omega)]at hp1
 have hp2:=Hf (b[4]'qn) (b[5]'qn)
 rw[← K7 (show 4+2≤b.length by omega)]at hp2
 have hp3:=Hf (b[6]'qn) (b[7]'qn)
 rw[← K7 (show 6+2≤b.length by omega)]at hp3
 refine oO ?_
 refine Aq 4 (fun j=>[(0,.sl 1 Af b),(6,.ptr 6 0),(11,Aa j)]) (fun j=>[(6,.box (udpU b j))]) [] ⟨⟨E,E,E,E,E,E,Y⟩,⟨.inl E,E,Y⟩,E,E⟩ ?_
 intro j hj
 have hcase:j=0∨j=1∨j=2∨j=3∨j=4:=by omega
 rcases hcase with rfl | rfl | rfl | rfl | rfl
 ·refine oT ?_
  refine iW ?_
  refine⟨E,by omega,by omega,?_⟩
  conv=>whnf
  refine⟨by decide,?_⟩
  conv=>whnf
  refine iW ?_
  refine iW ?_
  refine⟨E,by omega,by omega,?_⟩
  conv=>whnf
  refine⟨by decide,by decide,?_⟩
  conv=>whnf
  refine kW ?_
  refine iW ?_
  exact An [] qy ⟨⟨E,E,E,E,E,E,Y⟩,⟨.inl (congrArg (fun z:Int=>Ob.box [Aa z,Aa 0,Aa 0,Aa 0]) hp0.symm),E,Y⟩,E,E⟩
 ·refine oT ?_
  refine iW ?_
  refine⟨E,by omega,by omega,?_⟩
  conv=>whnf
  refine⟨by decide,?_⟩
  conv=>whnf
  refine iW ?_
  refine iW ?_
  refine⟨E,by omega,by omega,?_⟩
  conv=>whnf
  refine⟨by decide,by decide,?_⟩
  conv=>whnf
  refine kW ?_
  refine iW ?_
  exact An [] qy ⟨⟨E,E,E,E,E,E,Y⟩,⟨.inl (congrArg (fun z:Int=>Ob.box [Aa (numAt b 0 2),Aa z,Aa 0,Aa 0]) hp1.symm),E,Y⟩,E,E⟩
 ·refine oT ?_
  refine iW ?_
  refine⟨E,by omega,by omega,?_⟩
  conv=>whnf
  refine⟨by decide,?_⟩
  conv=>whnf
  refine iW ?_
  refine iW ?_
  refine⟨E,by omega,by omega,?_⟩
  conv=>whnf
  refine⟨by decide,by decide,?_⟩
  conv=>whnf
  refine kW ?_
  refine iW ?_
  exact An [] qy ⟨⟨E,E,E,E,E,E,Y⟩,⟨.inl (congrArg (fun z:Int=>Ob.box [Aa (numAt b 0 2),Aa (numAt b 2 2),Aa z,Aa 0]) hp2.symm),E,Y⟩,E,E⟩
 ·refine oT ?_
  refine iW ?_
  refine⟨E,by omega,by omega,?_⟩
  conv=>whnf
  refine⟨by decide,?_⟩
  conv=>whnf
  refine iW ?_
  refine iW ?_
  refine⟨E,by omega,by omega,?_⟩
  conv=>whnf
  refine⟨by decide,by decide,?_⟩
  conv=>whnf
  refine kW ?_
  refine iW ?_
  exact An [] qy ⟨⟨E,E,E,E,E,E,Y⟩,⟨.inl (congrArg (fun z:Int=>Ob.box [Aa (numAt b 0 2),Aa (numAt b 2 2),Aa (numAt b 4 2),Aa z]) hp3.symm),E,Y⟩,E,E⟩
 clear hp0 hp1 hp2 hp3
 refine oF ?_
 refine⟨by decide,by decide,?_⟩
 conv=>whnf
 refine⟨fun h=>?_,fun h=>?_⟩
 ·rw[if_pos (qA h)]at hres
  subst hres
  refine oO ?_
  refine Ai 4 1 Af E ?_
  exact dN
 have hs8:8≤numAt b 4 2:=qB h
 rw[if_neg qn]at hres
 clear h
 refine oO ?_
 refine⟨by decide,by decide,?_⟩
 conv=>whnf
 refine⟨fun h=>?_,fun h=>?_⟩
 ·rw[if_pos (qA h)]at hres
  subst hres
  refine oO ?_
  refine Ai 4 1 Af E ?_
  exact dN
 have hsl:numAt b 4 2≤b.length:=qB h
 rw[if_neg qn]at hres
 clear h
 refine oO ?_
 refine⟨by decide,by decide,?_⟩
 conv=>whnf
 refine⟨fun h=>?_,fun h=>?_⟩
 ·rw[if_pos (by have:(numAt b 6 2:Int)≠0:=(by simpa using h);omega)]at hres
  subst hres
  refine oO ?_
  refine Ai 4 1 Af E ?_
  exact dN
 rw[if_neg (by have:(numAt b 6 2:Int)=0:=(by simpa using h);omega)]at hres
 subst hres
 clear h
 have qc:=Oz ((b.take (numAt b 4 2)).drop 8) (by rw[List.length_drop,List.length_take];omega)
 refine oO ?_
 refine⟨by decide,by decide,?_⟩
 conv=>whnf
 refine⟨by decide,by decide,?_⟩
 conv=>whnf
 refine⟨by decide,by decide,?_⟩
 conv=>whnf
 refine Bb (Bc (lo:=8) (hi:=numAt b 4 2) Γ.toTy E E E E (.inr ⟨_,_,E,E⟩) (.inr ⟨_,_,E,E⟩) hs8 hsl) qq E ?_
 refine oD ?_
 refine cD qc F290 ?_
 refine oD ?_
 refine kW ?_
 exact dN
theorem Akh (b:List UInt8) (hb:b.length<100000):Sy.Spec Tryz.prog 370 [.sl 1 Af b] [] (.tup [Aa (udpTakeT b).1,Aa (udpTakeT b).2.1,.sl 1 Af (udpTakeT b).2.2.1,Aa (udpTakeT b).2.2.2]) []:=cT F370 Tryz.ntmps370 fun F hF=>by
 have hres:=udpTakeT.eq_1 b
 generalize udpTakeT b=res at *
 conv=>whnf
 refine⟨fun h=>?_,fun h=>?_⟩
 ·rw[if_pos (qA h)]at hres
  subst hres
  refine oO ?_
  refine Ai 4 1 Af E ?_
  exact dN
 have h8:8≤b.length:=qB h
 rw[if_neg qn]at hres
 clear h
 have n0:=K7 (show 0+2≤b.length by omega)
 have n2:=K7 (show 2+2≤b.length by omega)
 have n4:=K7 (show 4+2≤b.length by omega)
 have n6:=K7 (show 6+2≤b.length by omega)
 have hp0:=Ml (b[0]'qn) (b[1]'qn)
 have hp2:=Ml (b[2]'qn) (b[3]'qn)
 have hp4:=Ml (b[4]'qn) (b[5]'qn)
 rw[← n0]at hp0
 rw[← n2]at hp2
 rw[← n4]at hp4
 have w:∀ x:UInt8,IntKind.i64.wrap (x.toNat:Int)=x.toNat∧x.toNat<256:=fun x=>by have:=x.toNat_lt;refine⟨?_,this⟩;rw[IntKind.wrap_i64];omega
 obtain ⟨w0,l0⟩:=w (b[0]'qn)
 obtain ⟨w1,l1⟩:=w (b[1]'qn)
 obtain ⟨w2,l2⟩:=w (b[2]'qn)
 obtain ⟨w3,l3⟩:=w (b[3]'qn)
 obtain ⟨w4,l4⟩:=w (b[4]'qn)
 obtain ⟨w5,l5⟩:=w (b[5]'qn)
 have i0:(0:Int).toNat<b.length:=by show 0<_;omega
 have i1:(1:Int).toNat<b.length:=by show 1<_;omega
 have i2:(2:Int).toNat<b.length:=by show 2<_;omega
 have i3:(3:Int).toNat<b.length:=by show 3<_;omega
 have i4:(4:Int).toNat<b.length:=by show 4<_;omega
 have i5:(5:Int).toNat<b.length:=by show 5<_;omega
 have i6:(6:Int).toNat<b.length:=by show 6<_;omega
 have i7:(7:Int).toNat<b.length:=by show 7<_;omega
 have e4:b[(4:Int).toNat]'i4=b[4]'qn:=rfl
 have e5:b[(5:Int).toNat]'i5=b[5]'qn:=rfl
 have e6:b[(6:Int).toNat]'i6=b[6]'qn:=rfl
 have e7:b[(7:Int).toNat]'i7=b[7]'qn:=rfl
 refine oO ?_
 refine⟨E,by decide,i4,?_⟩
 rw[e4]
 conv=>whnf
 refine⟨by rw[w4];unfold I64;omega,?_⟩
 conv=>whnf
 refine⟨E,by decide,i5,?_⟩
 rw[e5]
 conv=>whnf
 refine⟨by rw[hp4];unfold I64;have:=Ht b 4 2;omega,?_⟩
 rw[hp4]
 conv=>whnf
 refine kW ?_
 refine⟨fun h=>?_,fun h=>?_⟩
 ·rw[if_pos (qA h)]at hres
  subst hres
  refine oO ?_
  refine Ai 4 1 Af E ?_
  exact dN
 have hs8:8≤numAt b 4 2:=qB h
 rw[if_neg qn]at hres
 clear h
 refine oO ?_
 refine⟨fun h=>?_,fun h=>?_⟩
 ·rw[if_pos (qA h)]at hres
  subst hres
  refine oO ?_
  refine Ai 4 1 Af E ?_
  exact dN
 have hsl:numAt b 4 2≤b.length:=qB h
 rw[if_neg qn]at hres
 clear h
 refine oO ?_
 refine⟨E,by decide,i6,?_⟩
 rw[e6]
 conv=>whnf
 refine⟨fun h=>?_,fun h=>?_⟩
 ·have h2:((b[6]'qn).toNat:Int)≠0:=by simpa using h
  rw[if_pos (by rw[n6];omega)]at hres
  subst hres
  refine oT ?_
  refine Ai 4 1 Af E ?_
  exact dN
 have h6:((b[6]'qn).toNat:Int)=0:=by simpa using h
 clear h
 refine oO ?_
 refine⟨E,by decide,i7,?_⟩
 rw[e7]
 conv=>whnf
 refine⟨fun h=>?_,fun h=>?_⟩
 ·have h2:((b[7]'qn).toNat:Int)≠0:=by simpa using h
  rw[if_pos (by rw[n6];show (b[6]'qn).toNat * 256+(b[7]'qn).toNat≠0;omega)]at hres
  subst hres
  refine oO ?_
  refine Ai 4 1 Af E ?_
  exact dN
 have h7:((b[7]'qn).toNat:Int)=0:=by simpa using h
 rw[if_neg (by rw[n6];show ¬ (b[6]'qn).toNat * 256+(b[7]'qn).toNat≠0;omega)]at hres
 subst hres
 clear h
 refine oO ?_
 refine⟨E,by decide,i0,?_⟩
 conv=>whnf
 refine⟨(by show I64 (IntKind.i64.wrap ((b[0]'qn).toNat:Int) * 256);rw[w0];unfold I64;omega),?_⟩
 conv=>whnf
 refine⟨E,by decide,i1,?_⟩
 conv=>whnf
 refine⟨(by show I64 (IntKind.i64.wrap ((b[0]'qn).toNat:Int) * 256+IntKind.i64.wrap ((b[1]'qn).toNat:Int));rw[w0,w1];unfold I64;omega),?_⟩
 conv=>whnf
 refine⟨E,by decide,i2,?_⟩
 conv=>whnf
 refine⟨(by show I64 (IntKind.i64.wrap ((b[2]'qn).toNat:Int) * 256);rw[w2];unfold I64;omega),?_⟩
 conv=>whnf
 refine⟨E,by decide,i3,?_⟩
 conv=>whnf
 refine⟨(by show I64 (IntKind.i64.wrap ((b[2]'qn).toNat:Int) * 256+IntKind.i64.wrap ((b[3]'qn).toNat:Int));rw[w2,w3];unfold I64;omega),?_⟩
 conv=>whnf
 refine Bb (Bc (lo:=8) (hi:=numAt b 4 2) Γ.toTy E E E E (.inr ⟨_,_,E,E⟩) (.inr ⟨_,_,E,E⟩) hs8 hsl) qq E ?_
 refine oD ?_
 refine Bb (Ad Γ.toTy 60 E E E E E (.lit (e:=Af) (l:=[]) E E) .sl qz (by simp;omega) (by simp;omega)) qq E ?_
 refine oD ?_
 refine kW ?_
 refine Ap 60 E ?_
 refine Ao E (.cons .tmp (.cons .tmp (.cons .tmp (.cons .tmp .nil)))) ?_ E
 show SV.tup [Aa (numAt b 0 2),Aa (numAt b 2 2),_,_]=SV.tup [Aa (IntKind.i64.wrap ((b[0]'qn).toNat:Int) * (256:Int)+IntKind.i64.wrap ((b[1]'qn).toNat:Int)),Aa (IntKind.i64.wrap ((b[2]'qn).toNat:Int) * (256:Int)+IntKind.i64.wrap ((b[3]'qn).toNat:Int)),_,_]
 rw[hp0,hp2]
 rfl
theorem Atk (src dst:Nat) (body:List UInt8) (h1:src≤65535) (h2:dst≤65535) (h3:body.length≤1472):Sy.Spec Tryz.prog 351 [Aa src,Aa dst,.sl 1 Af body] [] (.tup [.sl 1 Af (Agj src dst body),Aa 0]) []:=cT F351 Tryz.ntmps351 fun F hF=>by
 ((conv=>whnf);refine aF ?_;refine rg ?_;conv=>whnf)
 (refine⟨fun h=>False.elim (by simp at h;omega),fun _=>?_⟩;refine rg ?_;(conv=>whnf);refine aF ?_;refine rg ?_;(conv=>whnf);refine⟨fun h=>False.elim (by simp at h;omega),fun _=>?_⟩;refine rg ?_;(conv=>whnf);refine⟨fun h=>False.elim (by simp at h;omega),fun _=>?_⟩;refine rg ?_;conv=>whnf)
 refine iW ?_
 refine Bo 8 1000 1 Af E E ?_
 refine Ae (Aig Γ.toTy E E E E E E) E E ?_
 refine oO ?_
 have key:∀ (x:Nat) (pre:List Nat),pre.length≤4→B8 (pre++[x])=B8 pre++[UInt8.ofNat (x / 256),UInt8.ofNat x]:=fun x pre _=>Jp pre x
 have hwl:∀ l:List Nat,(B8 l).length=2 * l.length:=Jm
 obtain ⟨ws,hws⟩:∃ ws:List Nat,ws=[src,dst,8+body.length,0]:=⟨_,rfl⟩
 refine Aq 4 (fun j=>[(2,.sl 1 Af body),(8,.osl 1000),(35,.agg [Aa src,Aa dst,Aa (8+body.length:Nat),Aa 0]),(36,Aa j)]) (fun j=>[(1000,.row 1 Af (B8 (ws.take j)))]) [] ⟨⟨E,E,E,E,E,E,E,E,Y⟩,⟨.inl (congrArg (Ob.row 1 Af) (by simp[B8])),E,Y⟩,E,E⟩ ?_
 intro j hj
 have hcase:j=0∨j=1∨j=2∨j=3∨j=4:=by omega
 rcases hcase with rfl | rfl | rfl | rfl | rfl
 ·have hs:B8 (ws.take 1)=B8 (ws.take 0)++[UInt8.ofNat (src / 256),UInt8.ofNat src]:=by subst hws;exact Jp [] src
  have hl:=hwl (ws.take 0)
  have hl2:(ws.take 0).length≤4:=by rw[List.length_take];omega
  have htb:=E9 src
  refine oT ?_
  refine Ae (H3 (k:=.int .i64) Γ.toTy E E E Tryz.underlying3 E E qy qy E) E E ?_
  refine oO ?_
  refine⟨by decide,?_⟩
  conv=>whnf
  refine Ae (Ad Γ.toTy 46 E E E E E (.row E) (.lit (e:=Af) (l:=[UInt8.ofNat (src / 256),UInt8.ofNat src]) E htb) qz (by rw[hl];simp only[List.length_cons,List.length_nil];omega) (by rw[hl];simp only[List.length_cons,List.length_nil];omega)) E E ?_
  refine oO ?_
  refine iW ?_
  exact An [(1000,46)] qy ⟨⟨E,E,E,E,E,E,E,E,Y⟩,⟨.inl (congrArg (Ob.row 1 Af) hs),E,Y⟩,E,E⟩
 ·have hs:B8 (ws.take 2)=B8 (ws.take 1)++[UInt8.ofNat (dst / 256),UInt8.ofNat dst]:=by subst hws;exact Jp [src] dst
  have hl:=hwl (ws.take 1)
  have hl2:(ws.take 1).length≤4:=by rw[List.length_take];omega
  have htb:=E9 dst
  refine oT ?_
  refine Ae (H3 (k:=.int .i64) Γ.toTy E E E Tryz.underlying3 E E qy qy E) E E ?_
  refine oO ?_
  refine⟨by decide,?_⟩
  conv=>whnf
  refine Ae (Ad Γ.toTy 46 E E E E E (.row E) (.lit (e:=Af) (l:=[UInt8.ofNat (dst / 256),UInt8.ofNat dst]) E htb) qz (by rw[hl];simp only[List.length_cons,List.length_nil];omega) (by rw[hl];simp only[List.length_cons,List.length_nil];omega)) E E ?_
  refine oO ?_
  refine iW ?_
  exact An [(1000,46)] qy ⟨⟨E,E,E,E,E,E,E,E,Y⟩,⟨.inl (congrArg (Ob.row 1 Af) hs),E,Y⟩,E,E⟩
 ·have hs:B8 (ws.take 3)=B8 (ws.take 2)++[UInt8.ofNat ((8+body.length) / 256),UInt8.ofNat (8+body.length)]:=by subst hws;exact Jp [src,dst] (8+body.length)
  have hl:=hwl (ws.take 2)
  have hl2:(ws.take 2).length≤4:=by rw[List.length_take];omega
  have htb:=E9 (8+body.length)
  refine oT ?_
  refine Ae (H3 (k:=.int .i64) Γ.toTy E E E Tryz.underlying3 E E qy qy E) E E ?_
  refine oO ?_
  refine⟨by decide,?_⟩
  conv=>whnf
  refine Ae (Ad Γ.toTy 46 E E E E E (.row E) (.lit (e:=Af) (l:=[UInt8.ofNat ((8+body.length) / 256),UInt8.ofNat (8+body.length)]) E htb) qz (by rw[hl];simp only[List.length_cons,List.length_nil];omega) (by rw[hl];simp only[List.length_cons,List.length_nil];omega)) E E ?_
  refine oO ?_
  refine iW ?_
  exact An [(1000,46)] qy ⟨⟨E,E,E,E,E,E,E,E,Y⟩,⟨.inl (congrArg (Ob.row 1 Af) hs),E,Y⟩,E,E⟩
 ·have hs:B8 (ws.take 4)=B8 (ws.take 3)++[UInt8.ofNat (0 / 256),UInt8.ofNat 0]:=by subst hws;exact Jp [src,dst,8+body.length] 0
  have hl:=hwl (ws.take 3)
  have hl2:(ws.take 3).length≤4:=by rw[List.length_take];omega
  have htb:=E9 0
  refine oT ?_
  refine Ae (H3 (k:=.int .i64) Γ.toTy E E E Tryz.underlying3 E E qy qy E) E E ?_
  refine oO ?_
  refine⟨by decide,?_⟩
  conv=>whnf
  refine Ae (Ad Γ.toTy 46 E E E E E (.row E) (.lit (e:=Af) (l:=[UInt8.ofNat (0 / 256),UInt8.ofNat 0]) E htb) qz (by rw[hl];simp only[List.length_cons,List.length_nil];omega) (by rw[hl];simp only[List.length_cons,List.length_nil];omega)) E E ?_
  refine oO ?_
  refine iW ?_
  exact An [(1000,46)] qy ⟨⟨E,E,E,E,E,E,E,E,Y⟩,⟨.inl (congrArg (Ob.row 1 Af) hs),E,Y⟩,E,E⟩
 have hl:=hwl (ws.take 4)
 have e:ws.take 4=[src,dst,8+body.length,0]:=by rw[hws];rfl
 rw[e]at hl ⊢
 have hl3:(B8 [src,dst,8+body.length,0]).length=8:=hl
 refine oF ?_
 refine Ae (Ad Γ.toTy 50 E E E E E (.row E) .sl qz (by rw[hl3];simp;omega) (by rw[hl3];omega)) E E ?_
 refine Ap 50 E ?_
 refine oO ?_
 exact dN
theorem Aou (src dst:Nat) (body:List UInt8) (h1:src≤65535) (h2:dst≤65535) (h3:body.length≤1472):Sy.Spec Tryz.prog 368 [Aa src,Aa dst,.sl 1 Af body] [] (.tup [.sl 1 Af (Agj src dst body),Aa 0]) []:=cT F368 Tryz.ntmps368 fun F hF=>by
 have t1:=Jb src h1
 have t2:=Jb dst h2
 have t3:=Jb (8+body.length) qn
 obtain ⟨l,hl⟩:∃ l:List UInt8,l=B8 [src,dst,8+body.length,0]:=⟨_,rfl⟩
 have hll:l.length=8:=by rw[hl,Jm];rfl
 have hudp:Agj src dst body=l++body:=by rw[hl,Agj]
 rw[hudp]
 ((conv=>whnf);refine aF ?_;refine rg ?_;(conv=>whnf);refine aF ?_;refine rg ?_;conv=>whnf)
 (refine⟨fun h=>False.elim (by simp at h;omega),fun _=>?_⟩;refine rg ?_;(conv=>whnf);refine⟨fun h=>False.elim (by simp at h;omega),fun _=>?_⟩;refine rg ?_;(conv=>whnf);refine⟨fun h=>False.elim (by simp at h;omega),fun _=>?_⟩;refine rg ?_;conv=>whnf)
 refine iW ?_
 repeat (refine⟨by decide,?_⟩;((conv=>whnf);repeat((first|refine aF ?_|refine aT ?_);(first|refine rG Γ hm ?_|refine rD Γ hm qq ?_);conv=>whnf)))
 refine Ae (Ad Γ.toTy 51 E E E E E (.lit (e:=Af) (l:=l) E ?_) .sl qz (by simp[hll];omega) (by simp[hll];omega)) E E ?_
 ·have a1:=List.cons.inj t1
  have a2:=List.cons.inj t2
  have a3:=List.cons.inj t3
  have b1:=List.cons.inj a1.2
  have b2:=List.cons.inj a2.2
  have b3:=List.cons.inj a3.2
  rw[hl]
  simp only[B8,List.flatMap_cons,List.flatMap_nil,List.append_nil,List.cons_append,List.nil_append,List.map_cons,List.map_nil,a1.1,b1.1,a2.1,b2.1,a3.1,b3.1]
  rfl
 refine Ap 51 E ?_
 refine oO ?_
 exact dN
theorem Aqj (a b:Nat) (ha:a<18446744073709551616) (hb:b<18446744073709551616):Sy.Spec Tryz.prog 352 [Aw a,Aw b] [] (Aa (udpPort a b:Nat)) []:=cT F352 Tryz.ntmps352 fun F hF=>by
 have hx:=bits_xor_u64_nat a b ha hb
 have hmd:((a ^^^ b:Nat):Int).tmod 16384=(((a ^^^ b) % 16384:Nat):Int):=by rw[Int.tmod_eq_emod_of_nonneg qn];omega
 have hl:=Nat.mod_lt (a ^^^ b) (show 0<16384 by decide)
 have hw:IntKind.i64.wrap (((a ^^^ b) % 16384:Nat):Int)=(((a ^^^ b) % 16384:Nat):Int):=by rw[IntKind.wrap_i64];omega
 conv=>whnf
 refine⟨by decide,?_⟩
 rw[hx,hmd]
 conv=>whnf
 rw[hw]
 refine iW ?_
 refine Ao E (.cons .tmp .nil) ?_ E
 refine congrArg (fun z:Int=>SV.val (.int .i64 z)) ?_
 rw[udpPort]
 omega
theorem Atf (a b j:Nat):(a ^^^ b) / 2 ^ j % 2=if a / 2 ^ j % 2=b / 2 ^ j % 2 then 0 else 1:=by
 have h:=Nat.testBit_xor a b j
 rw[Nat.testBit_eq_decide_div_mod_eq,Nat.testBit_eq_decide_div_mod_eq,Nat.testBit_eq_decide_div_mod_eq]at h
 have h1:=Nat.mod_two_eq_zero_or_one ((a ^^^ b) / 2 ^ j)
 have h2:=Nat.mod_two_eq_zero_or_one (a / 2 ^ j)
 have h3:=Nat.mod_two_eq_zero_or_one (b / 2 ^ j)
 rcases h1 with h1 | h1<;>rcases h2 with h2 | h2<;>rcases h3 with h3 | h3<;>simp_all
theorem Ae6 (x j:Nat):x % 2 ^ (j+1)=x % 2 ^ j+2 ^ j * (x / 2 ^ j % 2):=by
 rw[Nat.pow_succ,Nat.mod_mul]
theorem Aki (a b:Nat) (ha:a<18446744073709551616) (hb:b<18446744073709551616):Sy.Spec Tryz.prog 369 [Aw a,Aw b] [] (Aa (udpPort a b:Nat)) []:=cT F369 Tryz.ntmps369 fun F hF=>by
 conv=>whnf
 refine Aq 14 (fun j=>[(0,Aw (a / 2 ^ j:Nat)),(1,Aw (b / 2 ^ j:Nat)),(5,Aa ((a ^^^ b) % 2 ^ j:Nat)),(6,Aa (2 ^ j:Nat)),(7,Aa j)]) (fun _=>[]) []
  ⟨⟨congrArg (fun z:Nat=>Aw z) qz,rfl,congrArg (fun z:Nat=>Aw z) qz,rfl,congrArg (fun z:Nat=>Aa z) (by simp;omega),rfl,rfl,rfl,rfl,rfl,trivial⟩,trivial,rfl,rfl⟩ ?_
 intro j hj
 have hp:2 ^ j≤16384:=by
  have:(2:Nat) ^ j≤2 ^ 14:=Nat.pow_le_pow_right qy hj
  exact this
 have hpp:0<2 ^ j:=Nat.two_pow_pos j
 have hx:=Atf a b j
 have hmd:=Ae6 (a ^^^ b) j
 have hml:=Nat.mod_lt (a ^^^ b) hpp
 have ea:a / 2 ^ (j+1)=a / 2 ^ j / 2:=by rw[Nat.pow_succ,Nat.div_div_eq_div_mul]
 have eb:b / 2 ^ (j+1)=b / 2 ^ j / 2:=by rw[Nat.pow_succ,Nat.div_div_eq_div_mul]
 have ep:2 ^ (j+1)=2 ^ j * 2:=Nat.pow_succ 2 j
 have la:=Nat.div_le_self a (2 ^ j)
 have lb:=Nat.div_le_self b (2 ^ j)
 rw[hx]at hmd
 clear hx
 by_cases hje:j=14
 ·subst hje
  have hu:udpPort a b=49152+(a ^^^ b) % 2 ^ 14:=rfl
  rw[hu]
  generalize (a ^^^ b) % 2 ^ 14=r at *
  refine oF ?_
  (skip)
  refine iW ?_
  exact Ao E (.cons .tmp .nil) (congrArg (fun z:Int=>SV.val (.int .i64 z)) qn) E
 have hj14:j<14:=by omega
 generalize (a ^^^ b) % 2 ^ j=r0 at *
 generalize a / 2 ^ j=a0 at *
 generalize b / 2 ^ j=b0 at *
 generalize 2 ^ j=p0 at *
 have ta:((a0:Nat):Int).tmod 2=((a0 % 2:Nat):Int):=by rw[Int.tmod_eq_emod_of_nonneg qn];omega
 have tb:((b0:Nat):Int).tmod 2=((b0 % 2:Nat):Int):=by rw[Int.tmod_eq_emod_of_nonneg qn];omega
 have da:IntKind.u64.wrap (((a0:Nat):Int).tdiv 2)=((a0 / 2:Nat):Int):=by rw[Int.tdiv_eq_ediv_of_nonneg qn,IntKind.wrap_u64];omega
 have db:IntKind.u64.wrap (((b0:Nat):Int).tdiv 2)=((b0 / 2:Nat):Int):=by rw[Int.tdiv_eq_ediv_of_nonneg qn,IntKind.wrap_u64];omega
 refine oO ?_
 refine⟨fun _=>?_,fun h=>absurd (of_decide_eq_false h) qn⟩
 refine oO ?_
 refine⟨by decide,?_⟩
 conv=>whnf
 refine⟨by decide,?_⟩
 conv=>whnf
 refine⟨fun h=>?_,fun h=>?_⟩
 ·rw[ta,tb]at h
  have hne:a0 % 2≠b0 % 2:=by
   have:((a0 % 2:Nat):Int)≠((b0 % 2:Nat):Int):=by simpa using h
   omega
  rw[if_neg hne]at hmd
  refine oO ?_
  refine iW ?_
  refine⟨by decide,?_⟩
  conv=>whnf
  refine⟨by decide,?_⟩
  conv=>whnf
  refine iW ?_
  refine iW ?_
  refine An [] hj14 ⟨⟨congrArg (fun z:Int=>SV.val (.int .u64 z)) ?_,E,congrArg (fun z:Int=>SV.val (.int .u64 z)) ?_,E,congrArg (fun z:Int=>SV.val (.int .i64 z)) ?_,E,congrArg (fun z:Int=>SV.val (.int .i64 z)) ?_,E,E,E,Y⟩,Y,E,E⟩
  ·rw[da,ea]
  ·rw[db,eb]
  ·rw[hmd];omega
  ·rw[ep];omega
 ·rw[ta,tb]at h
  have hne:a0 % 2=b0 % 2:=by
   have:((a0 % 2:Nat):Int)=((b0 % 2:Nat):Int):=by simpa using h
   omega
  rw[if_pos hne]at hmd
  refine oO ?_
  refine⟨by decide,?_⟩
  conv=>whnf
  refine⟨by decide,?_⟩
  conv=>whnf
  refine iW ?_
  refine iW ?_
  refine An [] hj14 ⟨⟨congrArg (fun z:Int=>SV.val (.int .u64 z)) ?_,E,congrArg (fun z:Int=>SV.val (.int .u64 z)) ?_,E,congrArg (fun z:Int=>SV.val (.int .i64 z)) ?_,E,congrArg (fun z:Int=>SV.val (.int .i64 z)) ?_,E,E,E,Y⟩,Y,E,E⟩
  ·rw[da,ea]
  ·rw[db,eb]
  ·rw[hmd];omega
  ·rw[ep];omega
theorem Am8 (v:Int) (h:M9 v=true):Sy.Spec Tryz.prog 350 [Aa v] [] (.tup [.sl 1 Af [],Aa 17]) []:=cT F350 Tryz.ntmps350 fun F hF=>by
 simp only[M9,Bool.or_eq_true,decide_eq_true_eq]at h
 conv=>whnf
 refine⟨fun h1=>?_,fun h1=>?_⟩
 ·refine oT ?_
  refine Ai 2 1 Af E ?_
  exact dN
 refine oO ?_
 refine⟨fun h2=>?_,fun h2=>absurd (of_decide_eq_false h2) (by have:=of_decide_eq_false h1;omega)⟩
 refine oO ?_
 refine Ai 2 1 Af E ?_
 exact dN
theorem Af9 {v:Int} (h:M9 v=false):1≤v∧v≤16777215:=by
 simp only[M9,Bool.or_eq_false_iff,decide_eq_false_iff_not]at h
 omega
theorem Api (k:Nat):(I0 k).map Af=[SV.val (.int .u8 8),SV.val (.int .u8 0),SV.val (.int .u8 0),SV.val (.int .u8 0),SV.val (.int .u8 (IntKind.u8.wrap ((k:Int).fdiv (2 ^ (min (Int.toNat 16) IntKind.i64.bits))))),
  SV.val (.int .u8 (IntKind.u8.wrap ((k:Int).fdiv (2 ^ (min (Int.toNat 8) IntKind.i64.bits))))),SV.val (.int .u8 (IntKind.u8.wrap (k:Int))),SV.val (.int .u8 0)]:=by
 have h1:IntKind.u8.wrap ((k:Int).fdiv (2 ^ (min (Int.toNat 16) IntKind.i64.bits)))=((UInt8.ofNat (k / 65536)).toNat:Int):=by
  show IntKind.u8.wrap ((k:Int).fdiv 65536)=_
  rw[Int.fdiv_eq_ediv_of_nonneg _ qy,IntKind.wrap_u8]
  simp
 have h2:IntKind.u8.wrap ((k:Int).fdiv (2 ^ (min (Int.toNat 8) IntKind.i64.bits)))=((UInt8.ofNat (k / 256)).toNat:Int):=by
  show IntKind.u8.wrap ((k:Int).fdiv 256)=_
  rw[Int.fdiv_eq_ediv_of_nonneg _ qy,IntKind.wrap_u8]
  simp
 have h3:=Au7 k
 rw[h1,h2,h3]
 rfl
theorem Alk (k:Nat) (hk:k≤16777215):(I0 k).map Af=[SV.val (.int .u8 8),SV.val (.int .u8 0),SV.val (.int .u8 0),SV.val (.int .u8 0),SV.val (.int .u8 (IntKind.u8.wrap (IntKind.i64.wrap ((k:Int).tdiv 65536)))),
  SV.val (.int .u8 (IntKind.u8.wrap ((IntKind.i64.wrap ((k:Int).tdiv 256)).tmod 256))),SV.val (.int .u8 (IntKind.u8.wrap ((k:Int).tmod 256))),SV.val (.int .u8 0)]:=by
 have h1:IntKind.u8.wrap (IntKind.i64.wrap ((k:Int).tdiv 65536))=((UInt8.ofNat (k / 65536)).toNat:Int):=by
  rw[Int.tdiv_eq_ediv_of_nonneg qn,IntKind.wrap_u8,IntKind.wrap_i64]
  simp
  omega
 have e2:IntKind.i64.wrap ((k:Int).tdiv 256)=((k / 256:Nat):Int):=by rw[Int.tdiv_eq_ediv_of_nonneg qn,IntKind.wrap_i64];omega
 have h2:IntKind.u8.wrap ((IntKind.i64.wrap ((k:Int).tdiv 256)).tmod 256)=((UInt8.ofNat (k / 256)).toNat:Int):=by
  rw[e2,Int.tmod_eq_emod_of_nonneg qn,IntKind.wrap_u8]
  simp
 have h3:IntKind.u8.wrap ((k:Int).tmod 256)=((UInt8.ofNat k).toNat:Int):=by
  rw[Int.tmod_eq_emod_of_nonneg qn,IntKind.wrap_u8]
  simp
 rw[h1,h2,h3]
 rfl
theorem Asd (k:Nat) (h:1≤k∧k≤16777215):Sy.Spec Tryz.prog 350 [Aa k] [] (.tup [.osl 0,Aa 0]) [(0,.row 1 Af (I0 k))]:=cT F350 Tryz.ntmps350 fun F hF=>by
 have hl:=Api k
 conv=>whnf
 refine⟨fun h1=>absurd (of_decide_eq_true h1) qn,fun _=>?_⟩
 refine oO ?_
 refine⟨fun h1=>absurd (of_decide_eq_true h1) qn,fun _=>?_⟩
 refine oO ?_
 refine⟨by decide,?_⟩
 conv=>whnf
 refine⟨by decide,?_⟩
 conv=>whnf
 refine Ec 18 Af (I0 k) E hl ?_
 exact done E (.cons .tmp (.cons .tmp .nil)) [(0,18)] [(0,.row 1 Af (I0 k))] (fun _ h=>h) E E ⟨Y,⟨.inl E,E,Y⟩,E,E⟩
theorem Aev (v:Int) (h:M9 v=true):Sy.Spec Tryz.prog 367 [Aa v] [] (.tup [.sl 1 Af [],Aa 17]) []:=cT F367 Tryz.ntmps367 fun F hF=>by
 simp only[M9,Bool.or_eq_true,decide_eq_true_eq]at h
 conv=>whnf
 refine⟨fun h1=>?_,fun h1=>?_⟩
 ·refine oT ?_
  refine Ai 2 1 Af E ?_
  exact dN
 refine oO ?_
 refine⟨fun h2=>?_,fun h2=>absurd (of_decide_eq_false h2) (by have:=of_decide_eq_false h1;omega)⟩
 refine oO ?_
 refine Ai 2 1 Af E ?_
 exact dN
theorem Ahd (k:Nat) (h:1≤k∧k≤16777215):Sy.Spec Tryz.prog 367 [Aa k] [] (.tup [.osl 0,Aa 0]) [(0,.row 1 Af (I0 k))]:=cT F367 Tryz.ntmps367 fun F hF=>by
 have hl:=Alk k h.2
 conv=>whnf
 refine⟨fun h1=>absurd (of_decide_eq_true h1) qn,fun _=>?_⟩
 refine oO ?_
 refine⟨fun h1=>absurd (of_decide_eq_true h1) qn,fun _=>?_⟩
 refine oO ?_
 refine⟨by decide,?_⟩
 conv=>whnf
 refine⟨by decide,?_⟩
 conv=>whnf
 refine⟨by decide,?_⟩
 conv=>whnf
 refine⟨by decide,?_⟩
 conv=>whnf
 refine Ec 20 Af (I0 k) E hl ?_
 exact done E (.cons .tmp (.cons .tmp .nil)) [(0,20)] [(0,.row 1 Af (I0 k))] (fun _ h=>h) E E ⟨Y,⟨.inl E,E,Y⟩,E,E⟩
theorem Apy (a b:List UInt8):((⟨a.toArray⟩:ByteArray) == (⟨b.toArray⟩:ByteArray))=decide (a=b):=by
 have key:=Go.MapKept.bytes_beq (⟨a.toArray⟩:ByteArray) ⟨b.toArray⟩
 by_cases h:a=b
 ·subst h
  rw[decide_eq_true rfl]
  exact key.2 E
 ·rw[decide_eq_false h]
  cases hb:((⟨a.toArray⟩:ByteArray) == (⟨b.toArray⟩:ByteArray)) with
  | false=>rfl
  | true =>
   have:=congrArg (fun z:ByteArray=>z.data.toList) (key.1 hb)
   exact absurd (by simpa using this) h
theorem Aql (x y z:UInt8):bits .or .i64 (bits .or .i64 (IntKind.i64.wrap ((IntKind.i64.wrap (x.toNat:Int)) * 2 ^ min (Int.toNat 16) IntKind.i64.bits)) (IntKind.i64.wrap ((IntKind.i64.wrap (y.toNat:Int)) * 2 ^ min (Int.toNat 8) IntKind.i64.bits))) (IntKind.i64.wrap (z.toNat:Int))
  = (((x.toNat * 256+y.toNat) * 256+z.toNat:Nat):Int):=by
 have h1:=x.toNat_lt
 have h2:=y.toNat_lt
 have h3:=z.toNat_lt
 have e1:IntKind.i64.wrap (x.toNat:Int)=(x.toNat:Int):=by rw[IntKind.wrap_i64];omega
 have e2:IntKind.i64.wrap (y.toNat:Int)=(y.toNat:Int):=by rw[IntKind.wrap_i64];omega
 have e3:IntKind.i64.wrap (z.toNat:Int)=(z.toNat:Int):=by rw[IntKind.wrap_i64];omega
 rw[e1,e2,e3]
 have f1:IntKind.i64.wrap ((x.toNat:Int) * 2 ^ min (Int.toNat 16) IntKind.i64.bits)=((x.toNat * 65536:Nat):Int):=by
  show IntKind.i64.wrap ((x.toNat:Int) * 65536)=_
  rw[IntKind.wrap_i64]
  omega
 have f2:IntKind.i64.wrap ((y.toNat:Int) * 2 ^ min (Int.toNat 8) IntKind.i64.bits)=((y.toNat * 256:Nat):Int):=by
  show IntKind.i64.wrap ((y.toNat:Int) * 256)=_
  rw[IntKind.wrap_i64]
  omega
 rw[f1,f2,Dw _ _ qn qn]
 have g1:x.toNat * 65536 ||| y.toNat * 256=x.toNat * 65536+y.toNat * 256:=by
  have h:=Nat.two_pow_add_eq_or_of_lt (i:=16) (b:=y.toNat * 256) qn x.toNat
  rw[Nat.mul_comm x.toNat 65536]
  exact h.symm
 rw[g1,Dw _ _ qn qn]
 refine congrArg (fun n:Nat=>(n:Int)) ?_
 have h:256 * (x.toNat * 256+y.toNat)+z.toNat=256 * (x.toNat * 256+y.toNat) ||| z.toNat:=Nat.two_pow_add_eq_or_of_lt (i:=8) (b:=z.toNat) qn (x.toNat * 256+y.toNat)
 have e:x.toNat * 65536+y.toNat * 256=256 * (x.toNat * 256+y.toNat):=by omega
 rw[e,← h]
 omega
theorem Aqn {b:List UInt8} (h:8≤b.length):b.take 8=[b[0]'qn,b[1]'qn,b[2]'qn,b[3]'qn,b[4]'qn,b[5]'qn,b[6]'qn,b[7]'qn]:=by
 have h1:=Z1 (b:=b) (k:=0) qn
 have h2:=Z1 (b:=b) (k:=4) qn
 have e:b.take 8=(b.drop 0).take 4++(b.drop 4).take 4:=by
  rw[List.drop_zero,← List.take_add]
 rw[e,h1,h2]
 rfl
theorem Asc {b:List UInt8} (h:8≤b.length):b.take 8=I0 (numAt b 4 3)↔((b[0]'qn)=8∧(b[1]'qn)=0∧(b[2]'qn)=0∧(b[3]'qn)=0∧(b[7]'qn)=0):=by
 have hn:=Ak0 (show 4+3≤b.length by omega)
 have e5:b[4+1]'qn=b[5]'qn:=rfl
 have e6:b[4+2]'qn=b[6]'qn:=rfl
 rw[e5,e6]at hn
 rw[Aqn h,I0,hn]
 have h4:=(b[4]'qn).toNat_lt
 have h5:=(b[5]'qn).toNat_lt
 have h6:=(b[6]'qn).toNat_lt
 have k4:UInt8.ofNat ((((b[4]'qn).toNat * 256+(b[5]'qn).toNat) * 256+(b[6]'qn).toNat) / 65536)=b[4]'qn:=by
  apply UInt8.toNat_inj.1;rw[Lp];omega
 have k5:UInt8.ofNat ((((b[4]'qn).toNat * 256+(b[5]'qn).toNat) * 256+(b[6]'qn).toNat) / 256)=b[5]'qn:=by
  apply UInt8.toNat_inj.1;rw[Lp];omega
 have k6:UInt8.ofNat (((b[4]'qn).toNat * 256+(b[5]'qn).toNat) * 256+(b[6]'qn).toNat)=b[6]'qn:=by
  apply UInt8.toNat_inj.1;rw[Lp];omega
 rw[k4,k5,k6]
 simp
theorem vniS (b:List UInt8) (hb:b.length<100000):Sy.Spec Tryz.prog 382 [.sl 1 Af b] [] (.tup [Aa (vniT b).1,.sl 1 Af (vniT b).2.1,Aa (vniT b).2.2]) []:=cT F382 Tryz.ntmps382 fun F hF=>by
 have hres:=vniT.eq_1 b
 generalize vniT b=res at *
 conv=>whnf
 refine⟨fun h=>?_,fun h=>?_⟩
 ·rw[if_pos (qA h)]at hres
  subst hres
  refine oO ?_
  refine Ai 3 1 Af E ?_
  exact dN
 have h8:8≤b.length:=qB h
 rw[if_neg qn]at hres
 clear h
 have i4:(4:Int).toNat<b.length:=by show 4<_;omega
 have i5:(5:Int).toNat<b.length:=by show 5<_;omega
 have i6:(6:Int).toNat<b.length:=by show 6<_;omega
 have hv:bits .or .i64 (bits .or .i64 (IntKind.i64.wrap ((IntKind.i64.wrap ((b[(4:Int).toNat]'i4).toNat:Int)) * 2 ^ min (Int.toNat 16) IntKind.i64.bits)) (IntKind.i64.wrap ((IntKind.i64.wrap ((b[(5:Int).toNat]'i5).toNat:Int)) * 2 ^ min (Int.toNat 8) IntKind.i64.bits))) (IntKind.i64.wrap ((b[(6:Int).toNat]'i6).toNat:Int))
   = (numAt b 4 3:Int):=by
  rw[Aql,Ak0 (show 4+3≤b.length by omega)]
  rfl
 have hvl:=Ht b 4 3
 refine oO ?_
 refine⟨E,by decide,i4,?_⟩
 conv=>whnf
 refine⟨by decide,?_⟩
 conv=>whnf
 refine⟨E,by decide,i5,?_⟩
 conv=>whnf
 refine⟨by decide,?_⟩
 conv=>whnf
 refine⟨E,by decide,i6,?_⟩
 conv=>whnf
 refine⟨qq,?_⟩
 rw[hv]
 generalize hvv:numAt b 4 3=v at *
 conv=>whnf
 by_cases h0:v=0
 ·rw[if_pos (.inl h0)]at hres
  subst hres
  have q:=Am8 v (by rw[h0];decide)
  refine c0 q F350 ?_
  (refine rg ?_;(conv=>whnf);refine aT ?_;refine oD ?_)
  refine⟨qq,?_⟩
  ((conv=>whnf);refine aT ?_;refine rg ?_;conv=>whnf)
  refine Ai 3 1 Af E ?_
  exact dN
 have q:=Asd v qn
 refine Ae (Ah [(0,55)] E F350 q E Y E ⟨.inr E,Y⟩) E E ?_
 refine Ap 55 E ?_
 (refine rg ?_;(conv=>whnf);refine aF ?_;refine oD ?_)
 refine Bb (Kl Γ.toTy (bs:=I0 v) E E E E E E E .sl) qq E ?_
 refine oD ?_
 refine Bb (Bc (lo:=0) (hi:=8) Γ.toTy E E E E (.inl ⟨E,E⟩) (.inr ⟨_,_,E,E⟩) qn h8) qq E ?_
 refine oD ?_
 refine Bb (Kl Γ.toTy (bs:=b.take 8) E E E E E E E .sl) qq E ?_
 refine oD ?_
 refine kW ?_
 have hbe:=Apy (I0 v) (b.take 8)
 rw[hbe]
 by_cases he:b.take 8=I0 v
 rotate_left
 ·rw[if_pos (.inr he)]at hres
  subst hres
  rw[decide_eq_false (fun e=>he e.symm)]
  refine⟨fun _=>?_,fun h=>absurd h qy⟩
  refine oO ?_
  refine Ai 3 1 Af E ?_
  exact dN
 rw[if_neg (fun h=>h.elim h0 (fun h2=>h2 he))]at hres
 subst hres
 rw[decide_eq_true he.symm]
 have etk:(b.take b.length).drop 8=b.drop 8:=by rw[List.take_length]
 refine⟨fun h=>absurd h qy,fun _=>?_⟩
 refine oO ?_
 refine Ae (Bc (lo:=8) (hi:=b.length) Γ.toTy E E E E (.inr ⟨_,_,E,E⟩) (.inl ⟨E,E⟩) h8 (Nat.le_refl _)) E E ?_
 refine oO ?_
 refine Ae (Ad Γ.toTy 45 E E E E E .nil .sl qz (by simp;omega) (by simp;omega)) E E ?_
 refine Ap 45 E ?_
 refine oO ?_
 refine Ao E (.cons .tmp (.cons .tmp (.cons .tmp .nil))) ?_ E
 show SV.tup [_,.sl 1 Af (b.drop 8),_]=SV.tup [_,.sl 1 Af ([]++(b.take b.length).drop 8),_]
 rw[etk]
 rfl
theorem Aot (b:List UInt8) (hb:b.length<100000):Sy.Spec Tryz.prog 371 [.sl 1 Af b] [] (.tup [Aa (vniT b).1,.sl 1 Af (vniT b).2.1,Aa (vniT b).2.2]) []:=cT F371 Tryz.ntmps371 fun F hF=>by
 have hres:=vniT.eq_1 b
 generalize vniT b=res at *
 conv=>whnf
 refine⟨fun h=>?_,fun h=>?_⟩
 ·rw[if_pos (qA h)]at hres
  subst hres
  refine oO ?_
  refine Ai 3 1 Af E ?_
  exact dN
 have h8:8≤b.length:=qB h
 rw[if_neg qn]at hres
 clear h
 have hi:=Asc h8
 have i0:(0:Int).toNat<b.length:=by show 0<_;omega
 have i1:(1:Int).toNat<b.length:=by show 1<_;omega
 have i2:(2:Int).toNat<b.length:=by show 2<_;omega
 have i3:(3:Int).toNat<b.length:=by show 3<_;omega
 have i4:(4:Int).toNat<b.length:=by show 4<_;omega
 have i5:(5:Int).toNat<b.length:=by show 5<_;omega
 have i6:(6:Int).toNat<b.length:=by show 6<_;omega
 have i7:(7:Int).toNat<b.length:=by show 7<_;omega
 have hvn:=Ak0 (show 4+3≤b.length by omega)
 have e5:b[4+1]'qn=b[5]'qn:=rfl
 have e6:b[4+2]'qn=b[6]'qn:=rfl
 rw[e5,e6]at hvn
 have w:∀ x:UInt8,IntKind.i64.wrap (x.toNat:Int)=x.toNat∧x.toNat<256:=fun x=>by have:=x.toNat_lt;refine⟨?_,this⟩;rw[IntKind.wrap_i64];omega
 obtain ⟨w4,l4⟩:=w (b[4]'qn)
 obtain ⟨w5,l5⟩:=w (b[5]'qn)
 obtain ⟨w6,l6⟩:=w (b[6]'qn)
 have g0:b[(0:Int).toNat]'i0=b[0]'qn:=rfl
 have g1:b[(1:Int).toNat]'i1=b[1]'qn:=rfl
 have g2:b[(2:Int).toNat]'i2=b[2]'qn:=rfl
 have g3:b[(3:Int).toNat]'i3=b[3]'qn:=rfl
 have g4:b[(4:Int).toNat]'i4=b[4]'qn:=rfl
 have g5:b[(5:Int).toNat]'i5=b[5]'qn:=rfl
 have g6:b[(6:Int).toNat]'i6=b[6]'qn:=rfl
 have g7:b[(7:Int).toNat]'i7=b[7]'qn:=rfl
 have iz:∀ x:UInt8,(x.toNat:Int)≠0→¬ x=0:=fun x h e=>h (by rw[e];rfl)
 have iy:∀ x:UInt8,(x.toNat:Int)=0→x=0:=fun x h=>by apply UInt8.toNat_inj.1;show x.toNat=0;omega
 generalize b[0]'qn=x0 at *
 generalize b[1]'qn=x1 at *
 generalize b[2]'qn=x2 at *
 generalize b[3]'qn=x3 at *
 generalize b[4]'qn=x4 at *
 generalize b[5]'qn=x5 at *
 generalize b[6]'qn=x6 at *
 generalize b[7]'qn=x7 at *
 have hvv:(x4.toNat:Int) * 65536+(x5.toNat:Int) * 256+(x6.toNat:Int)=(numAt b 4 3:Int):=by rw[hvn];omega
 have hvl:=Ht b 4 3
 refine oO ?_
 refine⟨E,by decide,i4,?_⟩
 rw[g4]
 conv=>whnf
 rw[w4]
 refine iW ?_
 refine⟨E,by decide,i5,?_⟩
 rw[g5]
 conv=>whnf
 rw[w5]
 refine iW ?_
 refine iW ?_
 refine⟨E,by decide,i6,?_⟩
 rw[g6]
 conv=>whnf
 rw[w6]
 refine iL ?_
 rw[hvv]
 generalize numAt b 4 3=v at *
 conv=>whnf
 refine kW ?_
 refine⟨E,by decide,i0,?_⟩
 rw[g0]
 conv=>whnf
 refine⟨fun h=>?_,fun h=>?_⟩
 ·have hne:¬ x0=8:=fun e=>by rw[e]at h;revert h;decide
  rw[if_pos (.inr (fun e=>hne (hi.1 e).1))]at hres
  subst hres
  (refine oT ?_;refine bT ?_;refine bT ?_;refine bT ?_;refine bT ?_)
  refine Ai 3 1 Af E ?_
  exact dN
 have c0:x0=8:=by
  have h2:(x0.toNat:Int)=8:=by simpa using h
  apply UInt8.toNat_inj.1;show x0.toNat=8;omega
 clear h
 refine oO ?_
 refine⟨E,by decide,i1,?_⟩
 rw[g1]
 conv=>whnf
 refine⟨fun h=>?_,fun h=>?_⟩
 ·rw[if_pos (.inr (fun e=>iz x1 (by simpa using h) (hi.1 e).2.1))]at hres
  subst hres
  (refine oT ?_;refine bT ?_;refine bT ?_;refine bT ?_)
  refine Ai 3 1 Af E ?_
  exact dN
 have c1:=iy x1 (by simpa using h)
 clear h
 refine oO ?_
 refine⟨E,by decide,i2,?_⟩
 rw[g2]
 conv=>whnf
 refine⟨fun h=>?_,fun h=>?_⟩
 ·rw[if_pos (.inr (fun e=>iz x2 (by simpa using h) (hi.1 e).2.2.1))]at hres
  subst hres
  (refine oT ?_;refine bT ?_;refine bT ?_)
  refine Ai 3 1 Af E ?_
  exact dN
 have c2:=iy x2 (by simpa using h)
 clear h
 refine oO ?_
 refine⟨E,by decide,i3,?_⟩
 rw[g3]
 conv=>whnf
 refine⟨fun h=>?_,fun h=>?_⟩
 ·rw[if_pos (.inr (fun e=>iz x3 (by simpa using h) (hi.1 e).2.2.2.1))]at hres
  subst hres
  (refine oT ?_;refine bT ?_)
  refine Ai 3 1 Af E ?_
  exact dN
 have c3:=iy x3 (by simpa using h)
 clear h
 refine oO ?_
 refine⟨E,by decide,i7,?_⟩
 rw[g7]
 conv=>whnf
 refine⟨fun h=>?_,fun h=>?_⟩
 ·rw[if_pos (.inr (fun e=>iz x7 (by simpa using h) (hi.1 e).2.2.2.2))]at hres
  subst hres
  refine oT ?_
  refine Ai 3 1 Af E ?_
  exact dN
 have c7:=iy x7 (by simpa using h)
 clear h
 have he:=hi.2 ⟨c0,c1,c2,c3,c7⟩
 refine oO ?_
 refine⟨fun h=>?_,fun h=>?_⟩
 ·rw[if_pos (.inl (by have:(v:Int)=0:=(by simpa using h);omega))]at hres
  subst hres
  refine oO ?_
  refine Ai 3 1 Af E ?_
  exact dN
 have h0:¬ v=0:=by
  have:¬ (v:Int)=0:=by simpa using h
  omega
 rw[if_neg (fun h=>h.elim h0 (fun h2=>h2 he))]at hres
 subst hres
 have etk:(b.take b.length).drop 8=b.drop 8:=by rw[List.take_length]
 refine oO ?_
 refine Ae (Bc (lo:=8) (hi:=b.length) Γ.toTy E E E E (.inr ⟨_,_,E,E⟩) (.inl ⟨E,E⟩) h8 (Nat.le_refl _)) E E ?_
 refine oO ?_
 refine Ae (Ad Γ.toTy 61 E E E E E (.lit (e:=Af) (l:=[]) E E) .sl qz (by simp;omega) (by simp;omega)) E E ?_
 refine Ap 61 E ?_
 refine oO ?_
 refine Ao E (.cons .tmp (.cons .tmp (.cons .tmp .nil))) ?_ E
 show SV.tup [_,.sl 1 Af (b.drop 8),_]=SV.tup [_,.sl 1 Af ([]++(b.take b.length).drop 8),_]
 rw[etk]
 rfl
theorem Yt (a c v:Nat) (f:FrameM) (h:f.body.length≤1450):ipPutT (Qc a c v f)=(V3 (Qc a c v f),0):=by
 rw[ipPutT,if_neg (by rw[Ip];omega)]
theorem Zy (a b:Nat):udpPort a b≤65535:=by
 have:=Nat.mod_lt (a ^^^ b) (show 0<16384 by decide)
 unfold udpPort
 omega
theorem Aho (a c v:Nat) (f:FrameM) (ha:a<4294967296) (hc:c<4294967296) (h:f.body.length≤1450):FrameOK ⟨Ev c,Ev a,2048,V3 (Qc a c v f)⟩ :=
 ⟨Abk c hc,Abk a ha,by show (2048:Nat)≤65535;decide,by show (V3 (Qc a c v f)).length≤1504;rw[Q2,Ip];omega⟩
theorem Ati (a c:Nat) (v:Int) (f:FrameM) (ha:a<4294967296) (hc:c<4294967296) (hf:FrameOK f) :
  Sy.Spec Tryz.prog 303 [Bd a,Bd c,Aa v,Bh f] [] (.tup [.sl 1 Af (wrapT a c v f).1,Aa (wrapT a c v f).2]) []:=cT F303 Tryz.ntmps303 fun F hF=>by
 have hres:=wrapT.eq_1 a c v f
 generalize wrapT a c v f=res at *
 have q0:=Sw f
 have hd:=hf.dst
 have hs:=hf.src
 have hb:=hf.body
 have hpl:=E6 f
 conv=>whnf
 refine A0 7 4 (Bh f) E E E ?_
 by_cases ht:f.typ=33024
 ·rw[if_pos ht]at hres
  subst hres
  rw[decide_eq_true ht]at q0
  refine oO ?_
  refine c0 q0 F182 ?_
  refine oT ?_
  refine Ai 8 1 Af E ?_
  exact dN
 rw[if_neg ht]at hres
 rw[decide_eq_false ht]at q0
 refine oO ?_
 refine c0 q0 F182 ?_
 refine oF ?_
 refine Ae (Ah [(0,55)] E F45 (Kq f hf) E Y E ⟨.inr E,Y⟩) E E ?_
 refine Ap 55 E ?_
 refine oF ?_
 cases hv:M9 v
 rotate_left
 ·rw[if_pos hv]at hres
  subst hres
  refine c0 (Am8 v hv) F350 ?_
  refine oT ?_
  refine Ai 8 1 Af E ?_
  exact dN
 rw[if_neg (by rw[hv];decide)]at hres
 have hvg:=Af9 hv
 obtain ⟨k,rfl⟩:=Int.eq_ofNat_of_zero_le (show 0≤v by omega)
 rw[Int.toNat_natCast]at hres
 refine Ae (Ah [(0,56)] E F350 (Asd k qn) E Y E ⟨.inr E,Y⟩) E E ?_
 refine oF ?_
 refine⟨fun h=>?_,fun h=>?_⟩
 ·rw[if_pos (qA h)]at hres
  subst hres
  refine oO ?_
  refine Ai 8 1 Af E ?_
  exact dN
 have hl:f.body.length≤1450:=qB h
 rw[if_neg qn]at hres
 subst hres
 clear h
 have qp:=Aqj f.dst f.src qn qn
 have hpo:=Zy f.dst f.src
 have qu:=Atk (udpPort f.dst f.src) 4789 (I0 k++Qb f) hpo qy (by rw[List.length_append,En,hpl];omega)
 have hwb:(Qc a c k f).body=Agj (udpPort f.dst f.src) 4789 (I0 k++Qb f):=rfl
 have qi:=Aff (Qc a c k f) (Af4 a c k f ha hc) (by rw[Ip];omega)
 rw[Yt a c k f hl]at qi
 have qe:=Kq _ (Aho a c k f ha hc hl)
 refine oO ?_
 refine c0 qp F352 ?_
 refine oO ?_
 refine Ae (Ad Γ.toTy 46 E E E E E (.row E) .sl qy (by rw[En,hpl];simp;omega) (by rw[En,hpl];omega)) E E ?_
 refine Ap 46 E ?_
 refine oO ?_
 refine c0 qu F351 ?_
 refine oO ?_
 refine c0 qi F43 ?_
 refine oO ?_
 refine c0 (Ads c hc) F44 ?_
 refine oO ?_
 refine c0 (Ads a ha) F44 ?_
 refine oO ?_
 refine Ae (Ah [(0,57)] E F45 qe E Y E ⟨.inr E,Y⟩) E E ?_
 refine Ap 57 E ?_
 refine oO ?_
 exact dN
theorem Akg (a c:Nat) (v:Int) (f:FrameM) (ha:a<4294967296) (hc:c<4294967296) (hf:FrameOK f) :
  Sy.Spec Tryz.prog 321 [Bd a,Bd c,Aa v,Bh f] [] (.tup [.sl 1 Af (wrapT a c v f).1,Aa (wrapT a c v f).2]) []:=cT F321 Tryz.ntmps321 fun F hF=>by
 have hres:=wrapT.eq_1 a c v f
 generalize wrapT a c v f=res at *
 have hd:=hf.dst
 have hs:=hf.src
 have hb:=hf.body
 have hpl:=E6 f
 conv=>whnf
 refine⟨fun h=>?_,fun h=>?_⟩
 ·rw[if_pos (by have:(f.typ:Int)=33024:=(by simpa using h);omega)]at hres
  subst hres
  refine oO ?_
  refine Ai 8 1 Af E ?_
  exact dN
 rw[if_neg (by have:¬ (f.typ:Int)=33024:=(by simpa using h);omega)]at hres
 clear h
 refine A0 7 4 (Bh f) E E E ?_
 refine oO ?_
 refine Ae (Ah [(0,55)] E F49 (Kp f hf) E Y E ⟨.inr E,Y⟩) E E ?_
 refine Ap 55 E ?_
 refine oF ?_
 cases hv:M9 v
 rotate_left
 ·rw[if_pos hv]at hres
  subst hres
  refine c0 (Aev v hv) F367 ?_
  refine oT ?_
  refine Ai 8 1 Af E ?_
  exact dN
 rw[if_neg (by rw[hv];decide)]at hres
 have hvg:=Af9 hv
 obtain ⟨k,rfl⟩:=Int.eq_ofNat_of_zero_le (show 0≤v by omega)
 rw[Int.toNat_natCast]at hres
 refine Ae (Ah [(0,56)] E F367 (Ahd k qn) E Y E ⟨.inr E,Y⟩) E E ?_
 refine oF ?_
 refine⟨fun h=>?_,fun h=>?_⟩
 ·rw[if_pos (qA h)]at hres
  subst hres
  refine oO ?_
  refine Ai 8 1 Af E ?_
  exact dN
 have hl:f.body.length≤1450:=qB h
 rw[if_neg qn]at hres
 subst hres
 clear h
 have qp:=Aki f.dst f.src qn qn
 have hpo:=Zy f.dst f.src
 have qu:=Aou (udpPort f.dst f.src) 4789 (I0 k++Qb f) hpo qy (by rw[List.length_append,En,hpl];omega)
 have qi:=Xc (Qc a c k f) (Af4 a c k f ha hc) (by rw[Ip];omega)
 rw[Yt a c k f hl]at qi
 have qe:=Kp _ (Aho a c k f ha hc hl)
 refine oO ?_
 refine c0 qp F369 ?_
 refine oO ?_
 refine Ae (Ad Γ.toTy 47 E E E E E (.row E) .sl qy (by rw[En,hpl];simp;omega) (by rw[En,hpl];omega)) E E ?_
 refine Ap 47 E ?_
 refine oO ?_
 refine c0 qu F368 ?_
 refine oO ?_
 refine c0 qi F48 ?_
 refine oO ?_
 refine c0 (Mj c hc) F47 ?_
 refine oO ?_
 refine c0 (Mj a ha) F47 ?_
 refine oO ?_
 refine Ae (Ah [(0,57)] E F49 qe E Y E ⟨.inr E,Y⟩) E E ?_
 refine Ap 57 E ?_
 refine oO ?_
 exact dN
def Dt (p:PacketM) (v e:Int):List SV:=[Aa p.tos,Aa p.id,Aa p.ttl,Aa p.proto,Bd p.src,Bd p.dst,.sl 1 Af p.body,Aa v,Aa e]
def C9 (is:Bool) (re e:Int):Int:=if is=true∧re=0 then e else re
theorem Wh (p:PacketM) (v re:Int) (is:Bool) (e:Int):Sy.Spec Tryz.prog 380 [.ptr 0 0,Ab is,Aa e] [(0,.box (Dt p v re))] (.tup []) [(0,.box (Dt p v (C9 is re e)))]:=cT F380 Tryz.ntmps380 fun F hF=>by
 cases is
 ·have h:C9 false re e=re:=by simp[C9]
  rw[h]
  ((conv=>whnf);refine aF ?_;refine rg ?_;(conv=>whnf);refine aF ?_;refine rg ?_;conv=>whnf)
  exact Bg E .nil [] [(0,.box (Dt p v re))] (fun _ h=>h) E E ⟨Y,⟨.inl E,E,Y⟩,E,E⟩
 ·((conv=>whnf);refine aT ?_;refine rg ?_;conv=>whnf)
  refine⟨fun h=>?_,fun h=>?_⟩
  ·have h2:C9 true re e=e:=by show (if true=true∧re=0 then e else re)=e;rw[if_pos ⟨rfl,by simpa using h⟩]
   rw[h2]
   refine oO ?_
   exact Bg E .nil [] [(0,.box (Dt p v e))] (fun _ h=>h) E E ⟨Y,⟨.inl E,E,Y⟩,E,E⟩
  ·have h2:C9 true re e=re:=by
    show (if true=true∧re=0 then e else re)=re
    rw[if_neg (fun h3=>by
     have h4:¬ re=0:=by simpa using h
     exact h4 h3.2)]
   rw[h2]
   refine oO ?_
   exact Bg E .nil [] [(0,.box (Dt p v re))] (fun _ h=>h) E E ⟨Y,⟨.inl E,E,Y⟩,E,E⟩
theorem Atx (b:List UInt8) (hb:b.length<100000):Sy.Spec Tryz.prog 357 [.ptr 0 0,.sl 1 Af b] [(0,.box (Dt noP 0 0))] (.tup []) [(0,.box (Dt (outerT b).1 0 (outerT b).2))]:=cT F357 Tryz.ntmps357 fun F hF=>by
 have hres:=outerT.eq_1 b
 generalize outerT b=res at *
 have q1:=Ov b hb
 have hbad:=@Anr b
 have hok:=@Z0 b
 generalize takeF b=tk at *
 obtain ⟨f,e⟩:=tk
 dsimp only at hres q1 hbad hok
 conv=>whnf
 refine c0 q1 F121 ?_
 refine oO ?_
 refine Ae (Ah [(0,0)] E F380 (Wh noP 0 0 true e) E ⟨E,Y⟩ E ⟨.inl E,Y⟩) E E ?_
 rw[show C9 true 0 e=e by simp[C9]]
 refine oO ?_
 refine Ae (Ah [(0,0)] E F380 (Wh noP 0 e ((f.typ:Int) != 2048) 11) E ⟨E,Y⟩ E ⟨.inl E,Y⟩) E E ?_
 by_cases he:e=0
 rotate_left
 ·rw[if_pos he]at hres
  subst hres
  rw[show C9 ((f.typ:Int) != 2048) e 11=e by simp[C9,he]]
  refine oO ?_
  refine⟨fun h=>absurd (show e=0 by simpa using h) he,fun _=>?_⟩
  refine oO ?_
  exact Bg E .nil [] [(0,.box (Dt noP 0 e))] (fun _ h=>h) E E ⟨Y,⟨.inl E,E,Y⟩,E,E⟩
 subst he
 rw[if_neg qz]at hres
 by_cases ht:f.typ=2048
 rotate_left
 ·rw[if_pos ht]at hres
  subst hres
  have hb2:((f.typ:Int) != 2048)=true:=by simp;omega
  rw[hb2,show C9 true 0 11=11 by simp[C9]]
  refine oF ?_
  exact Bg E .nil [] [(0,.box (Dt noP 0 11))] (fun _ h=>h) E E ⟨Y,⟨.inl E,E,Y⟩,E,E⟩
 rw[if_neg (fun h=>h ht)]at hres
 have hb2:((f.typ:Int) != 2048)=false:=by simp;omega
 rw[hb2,show C9 false 0 11=0 by simp[C9]]
 have hfb:=(hok rfl).body
 have q2:=Am4 f.body qn
 have hib:=@Ava f.body
 generalize ipTakeT f.body=ip at *
 obtain ⟨p,e2⟩:=ip
 dsimp only at hres q2 hib
 refine oT ?_
 refine c0 q2 F297 ?_
 refine oO ?_
 refine Ae (Ah [(0,0)] E F380 (Wh p 0 0 true e2) E ⟨E,Y⟩ E ⟨.inl E,Y⟩) E E ?_
 rw[show C9 true 0 e2=e2 by simp[C9]]
 refine oO ?_
 refine Ae (Ah [(0,0)] E F380 (Wh p 0 e2 ((p.proto:Int) != 17) 11) E ⟨E,Y⟩ E ⟨.inl E,Y⟩) E E ?_
 have hfin:res=(p,C9 ((p.proto:Int) != 17) e2 11):=by
  by_cases h2:e2=0
  ·subst h2
   rw[if_neg qz]at hres
   rw[hres]
   simp only[C9]
   by_cases h3:p.proto=17
   ·rw[if_neg (by simp[h3]),if_neg (by simp[h3])]
   ·rw[if_pos h3,if_pos (by simp;omega)]
  ·rw[if_pos h2]at hres
   rw[hres,hib h2,show C9 ((noP.proto:Int) != 17) e2 11=e2 by simp[C9,h2]]
 rw[hfin]
 refine oO ?_
 exact Bg E .nil [] [(0,.box (Dt p 0 (C9 ((p.proto:Int) != 17) e2 11)))] (fun _ h=>h) E E ⟨Y,⟨.inl E,E,Y⟩,E,E⟩
def frameT (p:PacketM) (e:Int):FrameM × Int × Int :=
 if e≠0 then (noF,0,e) else if (udpTakeT p.body).2.2.2≠0 then (noF,0,(udpTakeT p.body).2.2.2) else if (udpTakeT p.body).2.1≠4789 then (noF,0,11)
 else if (vniT (udpTakeT p.body).2.2.1).2.2≠0 then (noF,(vniT (udpTakeT p.body).2.2.1).1,(vniT (udpTakeT p.body).2.2.1).2.2)
 else ((takeF (vniT (udpTakeT p.body).2.2.1).2.1).1,(vniT (udpTakeT p.body).2.2.1).1,
  if (takeF (vniT (udpTakeT p.body).2.2.1).2.1).2≠0 then (takeF (vniT (udpTakeT p.body).2.2.1).2.1).2 else if (takeF (vniT (udpTakeT p.body).2.2.1).2.1).1.typ=33024 then 15 else 0)
theorem frameS (p:PacketM) (e:Int) (hb:p.body.length<100000):Sy.Spec Tryz.prog 358 [.ptr 0 0] [(0,.box (Dt p 0 e))] (Bh (frameT p e).1) [(0,.box (Dt p (frameT p e).2.1 (frameT p e).2.2))]:=cT F358 Tryz.ntmps358 fun F hF=>by
 have hres:=frameT.eq_1 p e
 generalize frameT p e=res at *
 have q1:=Aqi p.body hb
 have hul:=@Atd p.body
 generalize udpTakeT p.body=u at *
 obtain ⟨u1,u2,u3,u4⟩:=u
 dsimp only at hres q1 hul
 have q2:=vniS u3 qn
 have hvl:=@vniT_body u3
 generalize vniT u3=w at *
 obtain ⟨w1,w2,w3⟩:=w
 dsimp only at hres q2 hvl
 have q3:=Ov w2 qn
 have hbad:=@Anr w2
 generalize takeF w2=t at *
 obtain ⟨f,t2⟩:=t
 dsimp only at hres q3 hbad
 conv=>whnf
 refine⟨fun h=>?_,fun h=>?_⟩
 ·rw[if_pos (by simpa using h)]at hres
  subst hres
  refine oO ?_
  refine Ar 2 zF E (.cons (.refl _) (.cons (.refl _) (.cons (.refl _) (.cons .nil .nil)))) ?_
  exact done E (.cons (.cell E E E E) .nil) [] [(0,.box (Dt p 0 e))] (fun _ h=>h) E E ⟨Y,⟨.inl E,E,Y⟩,E,E⟩
 have he:e=0:=by simpa using h
 clear h
 subst he
 rw[if_neg qz]at hres
 refine oO ?_
 refine c0 q1 F381 ?_
 refine oO ?_
 refine Ae (Ah [(0,0)] E F380 (Wh p 0 0 true u4) E ⟨E,Y⟩ E ⟨.inl E,Y⟩) E E ?_
 rw[show C9 true 0 u4=u4 by simp[C9]]
 refine oO ?_
 refine Ae (Ah [(0,0)] E F380 (Wh p 0 u4 (u2 != 4789) 11) E ⟨E,Y⟩ E ⟨.inl E,Y⟩) E E ?_
 by_cases h4:u4=0
 rotate_left
 ·rw[if_pos h4]at hres
  subst hres
  rw[show C9 (u2 != 4789) u4 11=u4 by simp[C9,h4]]
  refine oO ?_
  refine⟨fun h=>absurd (show u4=0 by simpa using h) h4,fun _=>?_⟩
  refine oO ?_
  refine⟨fun _=>?_,fun h=>absurd (show u4=0 by simpa using h) h4⟩
  refine oO ?_
  refine Ar 2 zF E (.cons (.refl _) (.cons (.refl _) (.cons (.refl _) (.cons .nil .nil)))) ?_
  exact done E (.cons (.cell E E E E) .nil) [] [(0,.box (Dt p 0 u4))] (fun _ h=>h) E E ⟨Y,⟨.inl E,E,Y⟩,E,E⟩
 subst h4
 rw[if_neg qz]at hres
 by_cases h2:u2=4789
 rotate_left
 ·rw[if_pos h2]at hres
  subst hres
  rw[show C9 (u2 != 4789) 0 11=11 by simp[C9,h2]]
  (refine oF ?_;refine bT ?_)
  refine Ar 2 zF E (.cons (.refl _) (.cons (.refl _) (.cons (.refl _) (.cons .nil .nil)))) ?_
  exact done E (.cons (.cell E E E E) .nil) [] [(0,.box (Dt p 0 11))] (fun _ h=>h) E E ⟨Y,⟨.inl E,E,Y⟩,E,E⟩
 rw[if_neg (fun h=>h h2)]at hres
 rw[show C9 (u2 != 4789) 0 11=0 by simp[C9,h2]]
 refine oT ?_
 refine c0 q2 F382 ?_
 refine oO ?_
 refine Ae (Ah [(0,0)] E F380 (Wh p w1 0 true w3) E ⟨E,Y⟩ E ⟨.inl E,Y⟩) E E ?_
 rw[show C9 true 0 w3=w3 by simp[C9]]
 refine oO ?_
 refine⟨fun h=>?_,fun h=>?_⟩
 ·rw[if_pos (by simpa using h)]at hres
  subst hres
  refine oO ?_
  refine Ar 2 zF E (.cons (.refl _) (.cons (.refl _) (.cons (.refl _) (.cons .nil .nil)))) ?_
  exact done E (.cons (.cell E E E E) .nil) [] [(0,.box (Dt p w1 w3))] (fun _ h=>h) E E ⟨Y,⟨.inl E,E,Y⟩,E,E⟩
 have h3:w3=0:=by simpa using h
 clear h
 subst h3
 rw[if_neg qz]at hres
 refine oO ?_
 refine c0 q3 F121 ?_
 refine oO ?_
 refine Ae (Ah [(0,0)] E F380 (Wh p w1 0 true t2) E ⟨E,Y⟩ E ⟨.inl E,Y⟩) E E ?_
 rw[show C9 true 0 t2=t2 by simp[C9]]
 refine oO ?_
 refine c0 (Sw f) F182 ?_
 refine oO ?_
 refine Ae (Ah [(0,0)] E F380 (Wh p w1 t2 (decide (f.typ=33024)) 15) E ⟨E,Y⟩ E ⟨.inl E,Y⟩) E E ?_
 have hfin:C9 (decide (f.typ=33024)) t2 15=if t2≠0 then t2 else if f.typ=33024 then 15 else 0:=by
  by_cases k1:t2=0
  ·subst k1
   rw[if_neg qz]
   by_cases k2:f.typ=33024<;>simp[C9,k2]
  ·rw[if_pos k1]
   simp[C9,k1]
 rw[← hfin]at hres
 subst hres
 refine oO ?_
 exact done E (.cons (.cell E E E E) .nil) [] [(0,.box (Dt p w1 (C9 (decide (f.typ=33024)) t2 15)))] (fun _ h=>h) E E ⟨Y,⟨.inl E,E,Y⟩,E,E⟩
theorem Aeg (b:List UInt8):unwrapT b=if (frameT (outerT b).1 (outerT b).2).2.2≠0 then (0,0,0,noF,(frameT (outerT b).1 (outerT b).2).2.2)
  else ((outerT b).1.src,(outerT b).1.dst,(frameT (outerT b).1 (outerT b).2).2.1,(frameT (outerT b).1 (outerT b).2).1,0):=by
 unfold unwrapT
 generalize outerT b=o
 obtain ⟨p,e⟩:=o
 dsimp only
 by_cases he:e=0
 rotate_left
 ·rw[if_pos he]
  have h1:frameT p e=(noF,0,e):=by rw[frameT,if_pos he]
  rw[h1,if_pos he]
 subst he
 rw[if_neg qz]
 unfold innerT frameT
 rw[if_neg (show ¬ (0:Int)≠0 by simp)]
 generalize udpTakeT p.body=u
 obtain ⟨u1,u2,u3,u4⟩:=u
 dsimp only
 by_cases h4:u4=0
 rotate_left
 ·rw[if_pos h4,if_pos h4,if_pos h4]
  dsimp only
  rw[if_pos h4]
 subst h4
 simp only[ne_eq,not_true_eq_false,if_false]
 by_cases h2:u2=4789
 rotate_left
 ·simp[h2]
 simp only[h2,not_true_eq_false,if_false]
 generalize vniT u3=w
 obtain ⟨w1,w2,w3⟩:=w
 dsimp only
 by_cases h3:w3=0
 rotate_left
 ·simp[h3]
 simp only[h3,not_true_eq_false,if_false]
 generalize takeF w2=t
 obtain ⟨f,t2⟩:=t
 dsimp only
 by_cases k1:t2=0
 ·by_cases k2:f.typ=33024<;>simp[k1,k2]
 ·simp[k1]
theorem Anq (b:List UInt8) (hb:b.length<100000) :
  Sy.Spec Tryz.prog 308 [.sl 1 Af b] [] (.tup [Bd (unwrapT b).1,Bd (unwrapT b).2.1,Aa (unwrapT b).2.2.1,Bh (unwrapT b).2.2.2.1,Aa (unwrapT b).2.2.2.2]) []:=cT F308 Tryz.ntmps308 fun F hF=>by
 have hres:=Aeg b
 generalize unwrapT b=res at *
 have q1:=Atx b hb
 have hol:=(Xi b).2
 generalize outerT b=o at *
 obtain ⟨p,e⟩:=o
 dsimp only at hres q1 hol
 have q2:=frameS p e qn
 generalize frameT p e=fr at *
 obtain ⟨f,v,e2⟩:=fr
 dsimp only at hres q2
 conv=>whnf
 refine Ar 9 (Dt noP 0 0) E (.cons (.refl _) (.cons (.refl _) (.cons (.refl _) (.cons (.refl _) (.cons (.refl _) (.cons (.refl _) (.cons .nil (.cons (.refl _) (.cons (.refl _) .nil))))))))) ?_
 refine oO ?_
 refine Ae (Ah [(0,9)] E F357 q1 E ⟨E,Y⟩ E ⟨.inl E,Y⟩) E E ?_
 refine oO ?_
 refine Ae (Ah [(0,9)] E F358 q2 E ⟨E,Y⟩ E ⟨.inl E,Y⟩) E E ?_
 refine oO ?_
 refine⟨fun h=>?_,fun h=>?_⟩
 ·rw[if_pos (by simpa using h)]at hres
  subst hres
  refine oO ?_
  refine kW ?_
  refine Ar 5 zF E (.cons (.refl _) (.cons (.refl _) (.cons (.refl _) (.cons .nil .nil)))) ?_
  exact dN
 rw[if_neg (by simpa using h)]at hres
 subst hres
 refine oO ?_
 refine kW ?_
 exact dN
end Go.Sy.YteinjapglfkamaaGreat
namespace Go.Sy
structure Meth (P:Program) (t:TypeId) (name:String) (f:FuncId) (pr:Bool) (e:TypeId):Prop where
 row:∃ i m,P.info? t=some i∧i.methods.find? (·.name == name)=some m∧m.path=#[]∧m.func=some (f,pr)
 under:P.underlying t=some (.pointer e)
theorem Aac {P:Program} {t:TypeId} {name:String} {f:FuncId} {e:TypeId} (hm:Meth P t name f true e) (w:World) (v:Value):(Go.method (P.types.size+Made.depth) t v name).run P w=.ok (f,v) w:=by
 obtain ⟨⟨i,m,h1,h2,h3,h4⟩,hu⟩:=hm
 show (Go.method (P.types.size+99+1) t v name).run P w=_
 rw[Go.method]
 simp only[Sem.run_bind,run_typeInfo w h1,Result.andThen_ok,h2,h3,Go.follow,Sem.run_pure,h4,Go.receiverAt,run_underlying hu,Go.Place.get]
theorem Aab {P:Program} {t:TypeId} {name:String} {f:FuncId} {e:TypeId} (hm:Meth P t name f false e) (w:World) (a:Addr) {v:Value} (hv:(loadVar e a).run P w=.ok v w):(Go.method (P.types.size+Made.depth) t (.pointer (some a)) name).run P w=.ok (f,v) w:=by
 obtain ⟨⟨i,m,h1,h2,h3,h4⟩,hu⟩:=hm
 show (Go.method (P.types.size+99+1) t (.pointer (some a)) name).run P w=_
 rw[Go.method]
 have he:(#[]:Array FieldStep).isEmpty=true:=rfl
 simp only[Sem.run_bind,run_typeInfo w h1,Result.andThen_ok,h2,h3,Go.follow,Sem.run_pure,h4,Go.receiverAt,run_underlying hu,Go.Place.get,he,if_true]
 have hs : ∀ n : String, (Builtin.ssaWrapNilChk_ #[t] t #[.pointer (some a), strVal "", strVal n]).run P w = .ok (.pointer (some a)) w := fun n => rfl
 simp only[hs,Result.andThen_ok,asAddr,Sem.run_pure,hv]
theorem T7 {P:Program} {o:Oper} {s:SS} {rd:List Nat} {f:FuncId} {fn:Func} {c:Code} {t e:TypeId} {name:String} {x:Operand} {xs:List Operand} {ts:Array TypeId} {y:SV} (hm:Meth P t name f true e) (hf:Fun P f fn c) (h:o.op=.call ⟨.invoke x name,xs.toArray,ts⟩) (hx:ev s x=.ifc t y) :
  O3 P o s rd f (y::xs.map (ev s)) :=
 fun κ a w hr _=>by
  have h1:=hr x (by simp[h,Op.operands,Call.operands])
  rw[hx]at h1
  simp only[Rd]at h1
  obtain ⟨u,e1,e2⟩:=h1
  refine⟨u::xs.map a.eval,?_,?_⟩
  ·have hcall:=Kd hf (u::xs.map a.eval).toArray w
   have hmeth:=Aac hm w u
   simp only[execOp,h,resolve,invoke,e1,Sem.run_bind,Sem.run_pure,Result.andThen_ok]at hcall ⊢
   simp only[callMethod]
   rw[← hcall]
   have htk:(xs.map a.eval).take xs.length=xs.map a.eval:=List.take_of_length_le qz
   simp[hmeth,Sem.run_bind,htk]
  ·simp only[RdL]
   exact⟨_,_,E,e2,Lw xs (fun y hy=>hr y (by simp[h,Op.operands,Call.operands,hy]))⟩
theorem Bt {P:Program} (Γ:Ty P) {o:Oper} {s:SS} {f:FuncId} {fn:Func} {c:Code} {t e:TypeId} {ti:TI} {name:String} {x:Operand} {xs:List Operand} {ts:Array TypeId} {k off:Nat} {l:List SV} {z:SV} (hm:Meth P t name f false e) (hf:Fun P f fn c) (h:o.op=.call ⟨.invoke x name,xs.toArray,ts⟩)
  (hx:ev s x=.ifc t (.ptr k off)) (hk:s.h k=.box l) (ht:Γ.get e=some ti) (hz:H8 ti l off=some z):O3 P o s [k] f (z::xs.map (ev s)) :=
 fun κ a w hr ho=>by
  have h1:=hr x (by simp[h,Op.operands,Call.operands])
  rw[hx]at h1
  simp only[Rd]at h1
  obtain ⟨u,e1,e2⟩:=h1
  have hob:=ho k qz
  rw[hk]at hob
  obtain ⟨b,f1,f2⟩:=hob.cellsAt
  rw[f1]at e2
  simp only at e2
  subst e2
  obtain ⟨v,g1,g2⟩:=Kw (P:=P) Γ ht f2 hz
  rw[Nat.zero_add]at g1
  refine⟨v::xs.map a.eval,?_,?_⟩
  ·have hcall:=Kd hf (v::xs.map a.eval).toArray w
   have hmeth:=Aab hm w ⟨b,off,none⟩ g1
   simp only[execOp,h,resolve,invoke,e1,Sem.run_bind,Sem.run_pure,Result.andThen_ok]at hcall ⊢
   simp only[callMethod]
   rw[← hcall]
   have htk:(xs.map a.eval).take xs.length=xs.map a.eval:=List.take_of_length_le qz
   simp[hmeth,Sem.run_bind,htk]
  ·simp only[RdL]
   exact⟨_,_,E,g2,Lw xs (fun y hy=>hr y (by simp[h,Op.operands,Call.operands,hy]))⟩
theorem Yy {P:Program} (Γ:Ty P) {o:Oper} {s:SS} {x:Operand} {xt t:TypeId} {ti:TI} {y:SV} {ok:Bool} (h:o.op=.typeAssert x xt t ok) (hx:ev s x=.ifc t y) (ht:Γ.get t=some ti) (hk:ti.k matches .bool | .int _ | .string | .slice .. | .struct _ | .ptr | .func) :
  Good P o s ⟨if ok then .tup [y,Ab true] else y,[],[]⟩ :=
 Good.pure fun κ a w _ hr _=>by
  have h1:=hr x (by simp[h,Op.operands])
  rw[hx]at h1
  simp only[Rd]at h1
  obtain ⟨u,e1,e2⟩:=h1
  obtain ⟨d,info,z,k1,k2,_⟩:=Γ.ok t ti ht
  have hni:∀ ms,d≠.interface ms:=by
   obtain ⟨k,n,zz⟩:=ti
   intro ms hd
   subst hd
   cases k<;>simp_all[TK.ok]
  have hrun:(Instr.typeAssert (.iface t u) xt t ok).run P w=.ok (if ok then .tuple #[u,.bool true] else u) w:=by
   cases d<;>first
    | exact absurd rfl (hni _)
    | (cases ok<;>simp[Instr.typeAssert,run_underlying k1])
  refine⟨if ok then .tuple #[u,.bool true] else u,by simp[execOp,h,e1,hrun],?_⟩
  cases ok
  ·exact e2
  ·simp only[if_true,Rd,RdL]
   exact⟨[u,.bool true],E,_,_,E,e2,_,_,E,by simp[Ab,Rd],E⟩
def Au9 (P:Program) (t:TypeId) (name:String) (f:FuncId) (pr:Bool):Bool :=
 match P.info? t with
 | some i=>(match i.methods.find? (·.name == name) with
  | some m=>m.path.isEmpty && (match m.func with | some (g,b)=>Nat.beq g f && (b == pr) | none=>false)
  | none=>false)
 | none=>false
theorem Meth.of {P:Program} {t:TypeId} {name:String} {f:FuncId} {pr:Bool} {e:TypeId} (h:Au9 P t name f pr=true) (hu:P.underlying t=some (.pointer e)):Meth P t name f pr e:=by
 refine⟨?_,hu⟩
 unfold Au9 at h
 split at h
 ·rename_i i hi
  split at h
  ·rename_i m hm
   simp only[Bool.and_eq_true]at h
   obtain ⟨h1,h2⟩:=h
   split at h2
   ·rename_i g b hf
    simp only[Bool.and_eq_true,beq_iff_eq]at h2
    obtain ⟨h3,rfl⟩:=h2
    have h3:=Nat.eq_of_beq_eq_true h3
    subst h3
    exact⟨i,m,hi,hm,by simpa using h1,hf⟩
   ·cases h2
  ·cases h
 ·cases h
end Go.Sy
namespace Go.Sy.YteinjapglfkamaaGreat
open Go.Proofs
attribute [local irreducible] Go.Sy.G Go.Sy.DR
set_option maxRecDepth 20000
set_option maxHeartbeats 4000000
structure Item where
 (root cost dev:Int)
instance:Inhabited Item:=⟨⟨0,0,0⟩⟩
def Bv (x:Item):SV:=.agg [Aa x.root,Aa x.cost,Aa x.dev]
def B7 (x y:Item):Bool:=decide (x.root<y.root) || (x.root == y.root && decide (x.cost<y.cost))
theorem Xf (q:List Item):Sy.Spec Tryz.prog 287 [.sl 3 Bv q] [] (Aa q.length) []:=cT F287 Tryz.ntmps287 fun F hF=>by
 conv=>whnf
 exact dN
theorem K2 (q:List Item) (i j:Nat) (hi:i<q.length) (hj:j<q.length):Sy.Spec Tryz.prog 421 [.sl 3 Bv q,Aa i,Aa j] [] (Ab (B7 q[i] q[j])) []:=cT F421 Tryz.ntmps421 fun F hF=>by
 have e1:q[(i:Int).toNat]'qn=q[i]:=rfl
 have e2:q[(j:Int).toNat]'qn=q[j]:=rfl
 conv=>whnf
 (repeat' (first | (refine⟨fun h=>?_,fun h=>?_⟩<;>(repeat (first | simp only[decide_eq_true_eq]at h | simp only[decide_eq_false_iff_not]at h | simp only[beq_iff_eq]at h | simp only[beq_eq_false_iff_ne]at h))<;>((refine rd qq ?_);(conv=>whnf))) | (refine Ao rfl (.cons .tmp .nil) ?_ rfl) | (refine⟨qq,?_⟩;((conv=>whnf))) | (refine⟨by (omega),by (omega),?_⟩;((conv=>whnf)))))
 all_goals (refine congrArg Ab ?_;clear hF;grind [B7])
theorem K1 (q:List Item) (i j:Nat) (hi:i<q.length) (hj:j<q.length):Sy.Spec Tryz.prog 424 [.osl 0,Aa i,Aa j] [(0,.row 3 Bv q)] (.tup []) [(0,.row 3 Bv ((q.set i q[j]).set j q[i]))]:=cT F424 Tryz.ntmps424 fun F hF=>by
 have e1:q[(i:Int).toNat]'qn=q[i]:=rfl
 have e2:q[(j:Int).toNat]'qn=q[j]:=rfl
 conv=>whnf
 refine⟨by omega,by omega,?_⟩
 conv=>whnf
 refine⟨E,by omega,?_⟩
 rw[e2]
 conv=>whnf
 refine⟨by omega,by omega,?_⟩
 conv=>whnf
 refine⟨E,by omega,?_⟩
 rw[e1]
 conv=>whnf
 refine⟨by omega,by omega,?_⟩
 conv=>whnf
 refine⟨E,by omega,q[j],E,E,?_⟩
 conv=>whnf
 refine⟨by omega,by simp;omega,?_⟩
 conv=>whnf
 refine⟨E,by simp;omega,q[i],E,E,?_⟩
 conv=>whnf
 refine kW ?_
 exact Bg E .nil [] [(0,.row 3 Bv ((q.set i q[j]).set j q[i]))] (fun _ h=>h) E E ⟨Y,⟨.inl E,E,Y⟩,E,E⟩
theorem Akm (q:List Item) (x:Item) (hq:q.length<1000000):Sy.Spec Tryz.prog 423 [.ptr 0 0,.ifc 402 (Bv x)] [(0,.box [.osl 1]),(1,.row 3 Bv q)] (.tup []) [(0,.box [.osl 2]),(1,.non),(2,.row 3 Bv (q++[x]))]:=cT F423 Tryz.ntmps423 fun F hF=>by
 conv=>whnf
 refine Ae (Yy Γ.toTy E E E E) E E ?_
 refine oT ?_
 refine Bb (Ad Γ.toTy 18 E E E E E (.row E) (.lit (l:=[x]) E E) qz (by simp;omega) (by simp;omega)) qq E ?_
 refine oD ?_
 refine kW ?_
 exact Bg E .nil [(2,18)] [(0,.box [.osl 2]),(1,.non),(2,.row 3 Bv (q++[x]))] (fun _ h=>h) E E ⟨Y,⟨.inl E,E,.inl E,E,.inl E,E,Y⟩,E,E⟩
theorem Aox (q:List Item) (hq:q≠[]) (hl:q.length<1000000):Sy.Spec Tryz.prog 422 [.ptr 0 0] [(0,.box [.osl 1]),(1,.row 3 Bv q)] (.ifc 402 (Bv (q.getLast hq))) [(0,.box [.osl 2]),(1,.non),(2,.row 3 Bv q.dropLast)]:=cT F422 Tryz.ntmps422 fun F hF=>by
 have h0:0<q.length:=List.length_pos_iff.2 hq
 have e1:q[((q.length:Int)-1).toNat]'qn=q.getLast hq:=by
  rw[List.getLast_eq_getElem]
  congr 1
  omega
 conv=>whnf
 refine iW ?_
 refine⟨by omega,by omega,?_⟩
 conv=>whnf
 refine⟨E,by omega,?_⟩
 rw[e1]
 conv=>whnf
 refine kW ?_
 refine iW ?_
 refine Bb (Abn Γ.toTy (d:=23) (hi:=q.length-1) E E E E E qy E (.inl ⟨E,E⟩) (.inr ⟨_,_,E,congrArg (fun z=>SV.val (.int .i64 z)) qn⟩) qn) qq E ?_
 rw[← List.dropLast_eq_take]
 refine oD ?_
 refine kW ?_
 exact done E (.cons .tmp .nil) [(2,23)] [(0,.box [.osl 2]),(1,.non),(2,.row 3 Bv q.dropLast)] (fun _ h=>h) E E ⟨Y,⟨.inl E,E,.inl E,E,.inl E,E,Y⟩,E,E⟩
end Go.Sy.YteinjapglfkamaaGreat
namespace Go.Sy.YteinjapglfkamaaGreat
open Go.Proofs
attribute [local irreducible] Go.Sy.G Go.Sy.DR
set_option maxRecDepth 100000
set_option maxHeartbeats 4000000
theorem mLen : Meth Tryz.prog 397 "Len" 287 false 399 := .of (by kernel_rfl) Tryz.underlying397
theorem Ahz : Meth Tryz.prog 397 "Less" 421 false 399 := .of (by kernel_rfl) Tryz.underlying397
theorem Ahy : Meth Tryz.prog 397 "Swap" 424 false 399 := .of (by kernel_rfl) Tryz.underlying397
theorem mPush : Meth Tryz.prog 397 "Push" 423 true 399 := .of (by kernel_rfl) Tryz.underlying397
theorem mPop : Meth Tryz.prog 397 "Pop" 422 true 399 := .of (by kernel_rfl) Tryz.underlying397
def D7 (q:List Item) (i j:Nat):List Item:=(q.set i (q.getD j default)).set j (q.getD i default)
theorem A5 (q:List Item) (i j:Nat):(D7 q i j).length=q.length:=by simp[D7]
def upF:Nat→List Item→Nat→List Item
 | 0,q,_=>q
 | n+1,q,j=>if j=0 then q else if B7 (q.getD j default) (q.getD ((j-1) / 2) default) then upF n (D7 q ((j-1) / 2) j) ((j-1) / 2) else q
theorem Agg:∀ (n m:Nat) (q:List Item) (j:Nat),j≤n→j≤m→upF n q j=upF m q j
 | 0,m,q,j,h,_=>by
  have:j=0:=by omega
  subst this
  cases m<;>simp[upF]
 | n+1,0,q,j,_,h=>by
  have:j=0:=by omega
  subst this
  simp[upF]
 | n+1,m+1,q,j,h1,h2=>by
  rw[upF,upF]
  split
  ·rfl
  ·split
   ·exact Agg n m _ _ qn qn
   ·rfl
theorem Aqh (r:List Item):∀ (i:Nat),i≠0→upF i r i=if B7 (r.getD i default) (r.getD ((i-1) / 2) default) then upF ((i-1) / 2) (D7 r ((i-1) / 2) i) ((i-1) / 2) else r
 | 0,h=>absurd rfl h
 | m+1,_=>by
  rw[upF,if_neg qn]
  split
  ·exact Agg _ _ _ _ qn qn
  ·rfl
theorem upS (q:List Item) (j:Nat) (hj:j<q.length) (hl:q.length<1000000) :
  Sy.Spec Tryz.prog 336 [.ifc 397 (.ptr 0 0),Aa j] [(0,.box [.osl 1]),(1,.row 3 Bv q)] (.tup []) [(0,.box [.osl 1]),(1,.row 3 Bv (upF j q j))]:=cT F336 Tryz.ntmps336 fun F hF=>by
 conv=>whnf
 refine Sr (α:={p:List Item × Nat // upF p.2 p.1 p.2=upF j q j∧p.1.length=q.length∧p.2<p.1.length}) (fun p=>[(0,.ifc 397 (.ptr 0 0)),(1,Aa p.1.2)]) (fun p=>[(0,.box [.osl 1]),(1,.row 3 Bv p.1.1)]) (fun p=>p.1.2) ⟨(q,j),E,E,hj⟩ []
  ⟨⟨rfl,rfl,rfl,rfl,trivial⟩,⟨.inl rfl,rfl,.inl rfl,rfl,trivial⟩,rfl,rfl⟩ ?_
 rintro ⟨⟨r,i⟩,h1,h2,h3⟩
 simp only at h1 h2 h3
 dsimp only
 have hw:IntKind.i64.wrap (((i:Int)-1).tdiv 2)=(((i-1) / 2:Nat):Int):=by
  rcases Nat.eq_zero_or_pos i with h0 | h0
  ·subst h0;rfl
  ·have:((i:Int)-1)=((i-1:Nat):Int):=by omega
   rw[this,Int.tdiv_eq_ediv_of_nonneg qn,IntKind.wrap_i64]
   omega
 refine oO ?_
 refine iW ?_
 refine⟨by decide,?_⟩
 rw[hw]
 conv=>whnf
 refine⟨fun h=>?_,fun h=>?_⟩
 ·have h0:i=0:=by
   have:(((i-1) / 2:Nat):Int)=i:=by simpa using h
   omega
  subst h0
  have e:upF j q j=r:=by rw[← h1];rfl
  rw[e]
  refine oT ?_
  exact Bg E .nil [] [(0,.box [.osl 1]),(1,.row 3 Bv r)] (fun _ h=>h) E E ⟨Y,⟨.inl E,E,.inl E,E,Y⟩,E,E⟩
 have h0:i≠0:=by
  intro h0
  subst h0
  exact absurd h qy
 have hp:(i-1) / 2<r.length:=by omega
 have hless:=K2 r i ((i-1) / 2) h3 hp
 refine oO ?_
 refine Ae (Eg [1] (Bt Γ.toTy Ahz F421 E E E E E) hless (.cons (.row E E) (.cons (.refl _) (.cons (.refl _) .nil))) E E) E E ?_
 refine oO ?_
 have hu:upF i r i=if B7 r[i] r[(i-1) / 2] then upF ((i-1) / 2) (D7 r ((i-1) / 2) i) ((i-1) / 2) else r:=by
  rw[Aqh r i h0,A8 h3,A8 hp]
 refine⟨fun h=>?_,fun h=>?_⟩
 ·have hlt:B7 r[i] r[(i-1) / 2]=false:=by simpa using h
  have e:upF j q j=r:=by rw[← h1,hu,hlt];rfl
  rw[e]
  refine oO ?_
  exact Bg E .nil [] [(0,.box [.osl 1]),(1,.row 3 Bv r)] (fun _ h=>h) E E ⟨Y,⟨.inl E,E,.inl E,E,Y⟩,E,E⟩
 have hlt:B7 r[i] r[(i-1) / 2]=true:=by simpa using h
 rw[hlt,if_pos rfl]at hu
 have hsw:=K1 r ((i-1) / 2) i hp h3
 have e:(r.set ((i-1) / 2) r[i]).set i r[(i-1) / 2]=D7 r ((i-1) / 2) i:=by
  rw[D7,A8 h3,A8 hp]
 rw[e]at hsw
 refine oO ?_
 refine Ae (Cu [(0,1)] (Bt Γ.toTy Ahy F424 E E E E E) hsw E ⟨E,Y⟩ E ⟨.inl E,Y⟩) E E ?_
 refine oO ?_
 exact Ub (α:={p:List Item × Nat // upF p.2 p.1 p.2=upF j q j∧p.1.length=q.length∧p.2<p.1.length}) (L:=fun p=>[(0,.ifc 397 (.ptr 0 0)),(1,Aa p.1.2)]) (O:=fun p=>[(0,.box [.osl 1]),(1,.row 3 Bv p.1.1)]) (μ:=fun p=>p.1.2) (x:=⟨(r,i),h1,h2,h3⟩)
  ⟨(D7 r ((i-1) / 2) i,(i-1) / 2),by rw[← h1,hu],by rw[A5];exact h2,by rw[A5];exact hp⟩ [] (by simp only;omega)
  ⟨⟨rfl,rfl,rfl,rfl,trivial⟩,⟨.inl rfl,rfl,.inl rfl,rfl,trivial⟩,rfl,rfl⟩
theorem Zw:∀ (n:Nat) (q:List Item) (j:Nat),(upF n q j).length=q.length
 | 0,q,j=>rfl
 | n+1,q,j=>by
  rw[upF]
  split
  ·rfl
  ·split
   ·rw[Zw n,A5]
   ·rfl
def Tu (q:List Item) (x:Item):List Item:=upF q.length (q++[x]) q.length
theorem Adt (q:List Item) (x:Item) (hl:q.length<999999) :
  Sy.Spec Tryz.prog 286 [.ifc 397 (.ptr 0 0),.ifc 402 (Bv x)] [(0,.box [.osl 1]),(1,.row 3 Bv q)] (.tup []) [(0,.box [.osl 2]),(1,.non),(2,.row 3 Bv (Tu q x))]:=cT F286 Tryz.ntmps286 fun F hF=>by
 have hpush:=Akm q x qn
 have hlen:=Xf (q++[x])
 have hup:=upS (q++[x]) q.length qz (by simp;omega)
 have hln:(((q++[x]).length:Nat):Int)-1=(q.length:Int):=by simp
 conv=>whnf
 refine Ae (Cu (rd:=[]) [(2,6)] (T7 mPush F423 E E) hpush E ⟨E,E,Y⟩ E ⟨.inl E,.inl E,.inr E,Y⟩) E E ?_
 refine oO ?_
 refine Ae (Eg [6] (Bt Γ.toTy mLen F287 E E E E E) hlen (.cons (.row E E) .nil) E E) E E ?_
 refine oO ?_
 refine⟨by unfold I64;simp;omega,?_⟩
 rw[hln]
 conv=>whnf
 refine Ae (Ah [(1,6)] E F336 hup E ⟨E,E,Y⟩ E ⟨.inl E,.inl E,Y⟩) E E ?_
 refine oO ?_
 exact Bg E .nil [(2,6)] [(0,.box [.osl 2]),(1,.non),(2,.row 3 Bv (Tu q x))] (fun _ h=>h) E E ⟨Y,⟨.inl E,E,.inl E,E,.inl E,E,Y⟩,E,E⟩
def D1 (q:List Item) (i n:Nat):Nat:=if 2 * i+2<n∧B7 (q.getD (2 * i+2) default) (q.getD (2 * i+1) default)=true then 2 * i+2 else 2 * i+1
theorem M1 (q:List Item) (i n:Nat) (h:2 * i+1<n):D1 q i n<n∧i<D1 q i n:=by
 unfold D1
 split<;>omega
def D3:Nat→List Item→Nat→Nat→List Item × Nat
 | 0,q,i,_=>(q,i)
 | f+1,q,i,n=>if 2 * i+1<n then (if B7 (q.getD (D1 q i n) default) (q.getD i default) then D3 f (D7 q i (D1 q i n)) (D1 q i n) n else (q,i)) else (q,i)
theorem U0:∀ (f g:Nat) (q:List Item) (i n:Nat),n≤f+i→n≤g+i→D3 f q i n=D3 g q i n
 | 0,g,q,i,n,h1,h2=>by
  cases g with
  | zero=>rfl
  | succ g=>rw[D3,D3,if_neg qn]
 | f+1,0,q,i,n,h1,h2=>by rw[D3,D3,if_neg qn]
 | f+1,g+1,q,i,n,h1,h2=>by
  rw[D3,D3]
  split
  ·rename_i h
   have:=M1 q i n h
   split
   ·exact U0 f g _ _ n qn qn
   ·rfl
  ·rfl
theorem Alx (r:List Item) (i n:Nat):D3 (n-i) r i n=if 2 * i+1<n then (if B7 (r.getD (D1 r i n) default) (r.getD i default) then D3 (n-D1 r i n) (D7 r i (D1 r i n)) (D1 r i n) n else (r,i)) else (r,i):=by
 rw[U0 (n-i) (n-i+1) r i n qn qn,D3]
 split
 ·rename_i h
  have:=M1 r i n h
  split
  ·exact U0 _ _ _ _ _ qn qn
  ·rfl
 ·rfl
theorem Wj:∀ (f:Nat) (q:List Item) (i n:Nat),(D3 f q i n).1.length=q.length
 | 0,_,_,_=>rfl
 | f+1,q,i,n=>by
  rw[D3]
  split
  ·split
   ·rw[Wj f,A5]
   ·rfl
  ·rfl
theorem downS (q:List Item) (i0 n:Nat) (hn:n≤q.length) (hi:i0<q.length) (hl:q.length<1000000) :
  Sy.Spec Tryz.prog 337 [.ifc 397 (.ptr 0 0),Aa i0,Aa n] [(0,.box [.osl 1]),(1,.row 3 Bv q)] (Ab (decide (((D3 (n-i0) q i0 n).2:Int)>i0))) [(0,.box [.osl 1]),(1,.row 3 Bv (D3 (n-i0) q i0 n).1)]:=cT F337 Tryz.ntmps337 fun F hF=>by
 generalize hD:D3 (n-i0) q i0 n=D
 conv=>whnf
 refine Sr (α:={p:List Item × Nat // D3 (n-p.2) p.1 p.2 n=D∧p.1.length=q.length∧p.2<p.1.length}) (fun p=>[(0,.ifc 397 (.ptr 0 0)),(1,Aa i0),(2,Aa n),(7,Aa p.1.2)]) (fun p=>[(0,.box [.osl 1]),(1,.row 3 Bv p.1.1)]) (fun p=>n-p.1.2) ⟨(q,i0),hD,E,hi⟩ []
  ⟨⟨rfl,rfl,rfl,rfl,rfl,rfl,rfl,rfl,trivial⟩,⟨.inl rfl,rfl,.inl rfl,rfl,trivial⟩,rfl,rfl⟩ ?_
 rintro ⟨⟨r,i⟩,h1,h2,h3⟩
 simp only at h1 h2 h3
 dsimp only
 have h10:=h1
 rw[Alx]at h1
 have hj1:(2:Int) * i+1=((2 * i+1:Nat):Int):=by omega
 have hj2:((2 * i+1:Nat):Int)+1=((2 * i+2:Nat):Int):=by omega
 refine oO ?_
 refine iW ?_
 refine iL ?_
 rw[hj1]
 conv=>whnf
 refine⟨fun h=>?_,fun h=>?_⟩
 ·have hge:¬ 2 * i+1<n:=qA h
  rw[if_neg hge]at h1
  rw[← h1]
  refine oT ?_
  exact done E (.cons .tmp .nil) [] [(0,.box [.osl 1]),(1,.row 3 Bv r)] (fun _ h=>h) E E ⟨Y,⟨.inl E,E,.inl E,E,Y⟩,E,E⟩
 have hlt:2 * i+1<n:=qB h
 rw[if_pos hlt]at h1
 refine oF ?_
 refine iL ?_
 rw[hj2]
 conv=>whnf
 refine⟨fun h=>?_,fun h=>?_⟩
 ·have h2n:2 * i+2<n:=qA h
  have hA:2 * i+2<r.length:=by omega
  have hB:2 * i+1<r.length:=by omega
  have hlc:=K2 r (2 * i+2) (2 * i+1) hA hB
  refine oO ?_
  refine Ae (Eg [1] (Bt Γ.toTy Ahz F421 E E E E E) hlc (.cons (.row E E) (.cons (.refl _) (.cons (.refl _) .nil))) E E) E E ?_
  refine oO ?_
  refine⟨fun h=>?_,fun h=>?_⟩
  ·have hc:D1 r i n=2 * i+2:=by rw[D1,if_pos ⟨h2n,by rw[A8 hA,A8 hB];exact h⟩]
   have hJ:=hA
   refine oO ?_
   rw[hc,A8 hJ,A8 h3]at h1
   have hls:=K2 r (2 * i+2) i hJ h3
   refine Ae (Eg [1] (Bt Γ.toTy Ahz F421 E E E E E) hls (.cons (.row E E) (.cons (.refl _) (.cons (.refl _) .nil))) E E) E E ?_
   refine oO ?_
   refine⟨fun h=>?_,fun h=>?_⟩
   ·have hf:B7 r[2 * i+2] r[i]=false:=by simpa using h
    rw[hf]at h1
    have e:D=(r,i):=h1.symm
    rw[e]
    refine oO ?_
    exact done E (.cons .tmp .nil) [] [(0,.box [.osl 1]),(1,.row 3 Bv r)] (fun _ h=>h) E E ⟨Y,⟨.inl E,E,.inl E,E,Y⟩,E,E⟩
   have hf:B7 r[2 * i+2] r[i]=true:=by simpa using h
   rw[hf,if_pos rfl]at h1
   have hsw:=K1 r i (2 * i+2) h3 hJ
   have e:(r.set i r[2 * i+2]).set (2 * i+2) r[i]=D7 r i (2 * i+2):=by
    rw[D7,A8 h3,A8 hJ]
   rw[e]at hsw
   refine oO ?_
   refine Ae (Cu [(0,1)] (Bt Γ.toTy Ahy F424 E E E E E) hsw E ⟨E,Y⟩ E ⟨.inl E,Y⟩) E E ?_
   refine oO ?_
   exact Ub (α:={p:List Item × Nat // D3 (n-p.2) p.1 p.2 n=D∧p.1.length=q.length∧p.2<p.1.length}) (L:=fun p=>[(0,.ifc 397 (.ptr 0 0)),(1,Aa i0),(2,Aa n),(7,Aa p.1.2)]) (O:=fun p=>[(0,.box [.osl 1]),(1,.row 3 Bv p.1.1)]) (μ:=fun p=>n-p.1.2) (x:=⟨(r,i),h10,h2,h3⟩)
    ⟨(D7 r i (2 * i+2),2 * i+2),h1,by rw[A5];exact h2,by rw[A5];exact hJ⟩ [] (by simp only;omega)
    ⟨⟨rfl,rfl,rfl,rfl,rfl,rfl,rfl,rfl,trivial⟩,⟨.inl rfl,rfl,.inl rfl,rfl,trivial⟩,rfl,rfl⟩
  ·have hc:D1 r i n=2 * i+1:=by rw[D1,if_neg (fun hh=>by rw[A8 hA,A8 hB,h]at hh;exact absurd hh.2 qz)]
   have hJ:=hB
   refine oO ?_
   rw[hc,A8 hJ,A8 h3]at h1
   have hls:=K2 r (2 * i+1) i hJ h3
   refine Ae (Eg [1] (Bt Γ.toTy Ahz F421 E E E E E) hls (.cons (.row E E) (.cons (.refl _) (.cons (.refl _) .nil))) E E) E E ?_
   refine oO ?_
   refine⟨fun h=>?_,fun h=>?_⟩
   ·have hf:B7 r[2 * i+1] r[i]=false:=by simpa using h
    rw[hf]at h1
    have e:D=(r,i):=h1.symm
    rw[e]
    refine oO ?_
    exact done E (.cons .tmp .nil) [] [(0,.box [.osl 1]),(1,.row 3 Bv r)] (fun _ h=>h) E E ⟨Y,⟨.inl E,E,.inl E,E,Y⟩,E,E⟩
   have hf:B7 r[2 * i+1] r[i]=true:=by simpa using h
   rw[hf,if_pos rfl]at h1
   have hsw:=K1 r i (2 * i+1) h3 hJ
   have e:(r.set i r[2 * i+1]).set (2 * i+1) r[i]=D7 r i (2 * i+1):=by
    rw[D7,A8 h3,A8 hJ]
   rw[e]at hsw
   refine oO ?_
   refine Ae (Cu [(0,1)] (Bt Γ.toTy Ahy F424 E E E E E) hsw E ⟨E,Y⟩ E ⟨.inl E,Y⟩) E E ?_
   refine oO ?_
   exact Ub (α:={p:List Item × Nat // D3 (n-p.2) p.1 p.2 n=D∧p.1.length=q.length∧p.2<p.1.length}) (L:=fun p=>[(0,.ifc 397 (.ptr 0 0)),(1,Aa i0),(2,Aa n),(7,Aa p.1.2)]) (O:=fun p=>[(0,.box [.osl 1]),(1,.row 3 Bv p.1.1)]) (μ:=fun p=>n-p.1.2) (x:=⟨(r,i),h10,h2,h3⟩)
    ⟨(D7 r i (2 * i+1),2 * i+1),h1,by rw[A5];exact h2,by rw[A5];exact hJ⟩ [] (by simp only;omega)
    ⟨⟨rfl,rfl,rfl,rfl,rfl,rfl,rfl,rfl,trivial⟩,⟨.inl rfl,rfl,.inl rfl,rfl,trivial⟩,rfl,rfl⟩
 ·have h2n:¬ 2 * i+2<n:=qB h
  have hJ:2 * i+1<r.length:=by omega
  have hc:D1 r i n=2 * i+1:=by rw[D1,if_neg (fun hh=>h2n hh.1)]
  refine oF ?_
  rw[hc,A8 hJ,A8 h3]at h1
  have hls:=K2 r (2 * i+1) i hJ h3
  refine Ae (Eg [1] (Bt Γ.toTy Ahz F421 E E E E E) hls (.cons (.row E E) (.cons (.refl _) (.cons (.refl _) .nil))) E E) E E ?_
  refine oO ?_
  refine⟨fun h=>?_,fun h=>?_⟩
  ·have hf:B7 r[2 * i+1] r[i]=false:=by simpa using h
   rw[hf]at h1
   have e:D=(r,i):=h1.symm
   rw[e]
   refine oO ?_
   exact done E (.cons .tmp .nil) [] [(0,.box [.osl 1]),(1,.row 3 Bv r)] (fun _ h=>h) E E ⟨Y,⟨.inl E,E,.inl E,E,Y⟩,E,E⟩
  have hf:B7 r[2 * i+1] r[i]=true:=by simpa using h
  rw[hf,if_pos rfl]at h1
  have hsw:=K1 r i (2 * i+1) h3 hJ
  have e:(r.set i r[2 * i+1]).set (2 * i+1) r[i]=D7 r i (2 * i+1):=by
   rw[D7,A8 h3,A8 hJ]
  rw[e]at hsw
  refine oO ?_
  refine Ae (Cu [(0,1)] (Bt Γ.toTy Ahy F424 E E E E E) hsw E ⟨E,Y⟩ E ⟨.inl E,Y⟩) E E ?_
  refine oO ?_
  exact Ub (α:={p:List Item × Nat // D3 (n-p.2) p.1 p.2 n=D∧p.1.length=q.length∧p.2<p.1.length}) (L:=fun p=>[(0,.ifc 397 (.ptr 0 0)),(1,Aa i0),(2,Aa n),(7,Aa p.1.2)]) (O:=fun p=>[(0,.box [.osl 1]),(1,.row 3 Bv p.1.1)]) (μ:=fun p=>n-p.1.2) (x:=⟨(r,i),h10,h2,h3⟩)
   ⟨(D7 r i (2 * i+1),2 * i+1),h1,by rw[A5];exact h2,by rw[A5];exact hJ⟩ [] (by simp only;omega)
   ⟨⟨rfl,rfl,rfl,rfl,rfl,rfl,rfl,rfl,trivial⟩,⟨.inl rfl,rfl,.inl rfl,rfl,trivial⟩,rfl,rfl⟩
def De (q:List Item):List Item:=(D3 (q.length-1-0) (D7 q 0 (q.length-1)) 0 (q.length-1)).1
theorem Ee (q:List Item):(De q).length=q.length:=by rw[De,Wj,A5]
theorem D6 {q:List Item} (h:q≠[]):De q≠[]:=fun e=>h (List.eq_nil_of_length_eq_zero (by rw[← Ee,e];rfl))
theorem Asb (q:List Item) (hq:q≠[]) (hl:q.length<1000000) :
  Sy.Spec Tryz.prog 288 [.ifc 397 (.ptr 0 0)] [(0,.box [.osl 1]),(1,.row 3 Bv q)] (.ifc 402 (Bv ((De q).getLast (D6 hq)))) [(0,.box [.osl 2]),(1,.non),(2,.row 3 Bv (De q).dropLast)]:=cT F288 Tryz.ntmps288 fun F hF=>by
 have h0:0<q.length:=List.length_pos_iff.2 hq
 have hlen:=Xf q
 have hsw:=K1 q 0 (q.length-1) h0 qn
 have e:(q.set 0 q[q.length-1]).set (q.length-1) q[0]=D7 q 0 (q.length-1):=by
  rw[D7,A8 (show q.length-1<q.length by omega),A8 h0]
 rw[e]at hsw
 have hdn:=downS (D7 q 0 (q.length-1)) 0 (q.length-1) (by rw[A5];omega) (by rw[A5];exact h0) (by rw[A5];exact hl)
 have hpop:=Aox (De q) (D6 hq) (by rw[Ee];exact hl)
 have hln:(q.length:Int)-1=((q.length-1:Nat):Int):=by omega
 conv=>whnf
 refine Ae (Eg [1] (Bt Γ.toTy mLen F287 E E E E E) hlen (.cons (.row E E) .nil) E E) E E ?_
 refine oO ?_
 refine iL ?_
 rw[hln]
 conv=>whnf
 refine Ae (Cu [(0,1)] (Bt Γ.toTy Ahy F424 E E E E E) hsw E ⟨E,Y⟩ E ⟨.inl E,Y⟩) E E ?_
 refine oO ?_
 refine Ae (Ah [] E F337 hdn E ⟨E,E,Y⟩ E ⟨.inl E,.inl E,Y⟩) E E ?_
 refine oO ?_
 refine Ae (Cu (rd:=[]) [(2,14)] (T7 mPop F422 E E) hpop E ⟨E,E,Y⟩ E ⟨.inl E,.inl E,.inr E,Y⟩) E E ?_
 refine oO ?_
 exact done E (.cons .tmp .nil) [(2,14)] [(0,.box [.osl 2]),(1,.non),(2,.row 3 Bv (De q).dropLast)] (fun _ h=>h) E E ⟨Y,⟨.inl E,E,.inl E,E,.inl E,E,Y⟩,E,E⟩
end Go.Sy.YteinjapglfkamaaGreat
namespace Go.Sy.YteinjapglfkamaaGreat
open Go.Proofs
attribute [local irreducible] Go.Sy.G Go.Sy.DR
set_option maxRecDepth 20000
set_option maxHeartbeats 4000000
theorem great1 {n:Net} (h:n.ports.any (fun p=>decide (100<p.tagged.length))=true):Je n=true:=by simp only[Je,h,Bool.or_true,Bool.true_or]
theorem great2 {n:Net} (h:n.domains.any (fun p=>decide (100<p.peers.length))=true):Je n=true:=by simp only[Je,h,Bool.or_true,Bool.true_or]
theorem great3 {n:Net} (h:n.floods.any (fun p=>decide (100<p.addrs.length))=true):Je n=true:=by simp only[Je,h,Bool.or_true,Bool.true_or]
theorem great4 {n:Net} (h:n.vrfs.any (fun v=>decide (100<v.imports.length) || decide (100<v.exports.length))=true):Je n=true:=by simp only[Je,h,Bool.or_true]
theorem greatS (n:Net):Sy.Spec Tryz.prog 7 [Aj n] [] (Ab (Je n)) []:=cT F7 Tryz.ntmps7 fun F hF=>by
 conv=>whnf
 (repeat' (first | (refine⟨fun h=>?_,fun h=>?_⟩<;>(repeat (first | simp only[decide_eq_true_eq]at h | simp only[decide_eq_false_iff_not]at h))<;>((refine oO ?_);repeat((refine aT ?_);(refine oO ?_)))) | (refine Ao rfl (.cons .tmp .nil) ?_ rfl)))
 all_goals first
  | (refine congrArg Ab ?_;clear hF;grind [Je])
  | skip
 have l1:n.ports.length≤200:=by omega
 have l2:n.domains.length≤200:=by omega
 have l3:n.floods.length≤200:=by omega
 have l4:n.vrfs.length≤200:=by omega
 refine A0 1 8 (Aj n) E E E ?_
 refine Av n.ports.length (fun j=>Di (fun _ p=>!(decide (100<p.tagged.length))) n.ports j) (fun j=>[(1,.ref 8 (Aj n) 0),(3,Aa j)]) (fun _=>[]) [] (A2 _ _) ⟨⟨E,E,E,E,Y⟩,Y,E,E⟩ ?_
 intro j hj hI
 refine oO ?_
 refine⟨fun h=>?_,fun h=>?_⟩
 ·have hjl:j<n.ports.length:=by simpa using h
  refine oO ?_
  (repeat' (first | (refine⟨fun h=>?_,fun h=>?_⟩<;>(repeat (first | simp only[decide_eq_true_eq]at h | simp only[decide_eq_false_iff_not]at h))<;>((refine oO ?_))) | (refine Ao rfl (.cons .tmp .nil) ?_ rfl) | (refine⟨qq,?_⟩;((conv=>whnf))) | (refine⟨by (omega),by (omega),?_⟩;((conv=>whnf))) | (refine⟨by (unfold I64;omega),?_⟩;((conv=>whnf))) | refine As [] hI hjl ?_ ⟨⟨rfl,rfl,rfl,rfl,trivial⟩,trivial,rfl,rfl⟩))
  all_goals (simp only[Int.toNat_natCast]at *)
  ·refine congrArg Ab ?_
   exact great1 (M4 hjl (by simp;omega))
  ·exact Ax hI hjl (by simp;omega)
 have a1:n.ports.any (fun p=>decide (100<p.tagged.length))=false:=Kr hI (by simpa using h)
 clear hI hj h
 refine oO ?_
 refine Av n.domains.length (fun j=>Di (fun _ p=>!(decide (100<p.peers.length))) n.domains j) (fun j=>[(1,.ref 8 (Aj n) 0),(4,Aa j)]) (fun _=>[]) [] (A2 _ _) ⟨⟨E,E,E,E,Y⟩,Y,E,E⟩ ?_
 intro j hj hI
 refine oO ?_
 refine⟨fun h=>?_,fun h=>?_⟩
 ·have hjl:j<n.domains.length:=by simpa using h
  refine oO ?_
  (repeat' (first | (refine⟨fun h=>?_,fun h=>?_⟩<;>(repeat (first | simp only[decide_eq_true_eq]at h | simp only[decide_eq_false_iff_not]at h))<;>((refine oO ?_))) | (refine Ao rfl (.cons .tmp .nil) ?_ rfl) | (refine⟨qq,?_⟩;((conv=>whnf))) | (refine⟨by (omega),by (omega),?_⟩;((conv=>whnf))) | (refine⟨by (unfold I64;omega),?_⟩;((conv=>whnf))) | refine As [] hI hjl ?_ ⟨⟨rfl,rfl,rfl,rfl,trivial⟩,trivial,rfl,rfl⟩))
  all_goals (simp only[Int.toNat_natCast]at *)
  ·refine congrArg Ab ?_
   exact great2 (M4 hjl (by simp;omega))
  ·exact Ax hI hjl (by simp;omega)
 have a2:n.domains.any (fun p=>decide (100<p.peers.length))=false:=Kr hI (by simpa using h)
 clear hI hj h
 refine oO ?_
 refine Av n.floods.length (fun j=>Di (fun _ p=>!(decide (100<p.addrs.length))) n.floods j) (fun j=>[(1,.ref 8 (Aj n) 0),(5,Aa j)]) (fun _=>[]) [] (A2 _ _) ⟨⟨E,E,E,E,Y⟩,Y,E,E⟩ ?_
 intro j hj hI
 refine oO ?_
 refine⟨fun h=>?_,fun h=>?_⟩
 ·have hjl:j<n.floods.length:=by simpa using h
  refine oO ?_
  (repeat' (first | (refine⟨fun h=>?_,fun h=>?_⟩<;>(repeat (first | simp only[decide_eq_true_eq]at h | simp only[decide_eq_false_iff_not]at h))<;>((refine oO ?_))) | (refine Ao rfl (.cons .tmp .nil) ?_ rfl) | (refine⟨qq,?_⟩;((conv=>whnf))) | (refine⟨by (omega),by (omega),?_⟩;((conv=>whnf))) | (refine⟨by (unfold I64;omega),?_⟩;((conv=>whnf))) | refine As [] hI hjl ?_ ⟨⟨rfl,rfl,rfl,rfl,trivial⟩,trivial,rfl,rfl⟩))
  all_goals (simp only[Int.toNat_natCast]at *)
  ·refine congrArg Ab ?_
   exact great3 (M4 hjl (by simp;omega))
  ·exact Ax hI hjl (by simp;omega)
 have a3:n.floods.any (fun p=>decide (100<p.addrs.length))=false:=Kr hI (by simpa using h)
 clear hI hj h
 refine oO ?_
 refine Av n.vrfs.length (fun j=>Di (fun _ v=>!(decide (100<v.imports.length) || decide (100<v.exports.length))) n.vrfs j) (fun j=>[(1,.ref 8 (Aj n) 0),(6,Aa j)]) (fun _=>[]) [] (A2 _ _) ⟨⟨E,E,E,E,Y⟩,Y,E,E⟩ ?_
 intro j hj hI
 refine oO ?_
 refine⟨fun h=>?_,fun h=>?_⟩
 ·have hjl:j<n.vrfs.length:=by simpa using h
  refine oO ?_
  (repeat' (first | (refine⟨fun h=>?_,fun h=>?_⟩<;>(repeat (first | simp only[decide_eq_true_eq]at h | simp only[decide_eq_false_iff_not]at h))<;>((refine oO ?_);repeat((refine aT ?_);(refine oO ?_)))) | (refine Ao rfl (.cons .tmp .nil) ?_ rfl) | (refine⟨qq,?_⟩;((conv=>whnf))) | (refine⟨by (omega),by (omega),?_⟩;((conv=>whnf))) | (refine⟨by (unfold I64;omega),?_⟩;((conv=>whnf))) | refine As [] hI hjl ?_ ⟨⟨rfl,rfl,rfl,rfl,trivial⟩,trivial,rfl,rfl⟩))
  all_goals (simp only[Int.toNat_natCast]at *)
  all_goals first
   | exact Ax hI hjl (by simp;omega)
   | (refine congrArg Ab ?_;exact great4 (M4 hjl (by simp;omega)))
 have a4:n.vrfs.any (fun v=>decide (100<v.imports.length) || decide (100<v.exports.length))=false:=Kr hI (by simpa using h)
 clear hI hj h
 refine oO ?_
 refine Ao E (.cons .tmp .nil) (congrArg Ab ?_) E
 rw[Je,a1,a2,a3,a4]
 simp
 omega
def C5:Vec→List Vec→Vec
 | v,[]=>v
 | v,x::l=>C5 (if Ch x v then x else v) l
def Au4:Vec:=⟨0,0,0,0,0⟩
def H9:List Vec→Vec × Bool
 | []=>(Au4,false)
 | v::l=>(C5 v (v::l),true)
theorem Lq (a:Vec):Ch a a=false:=by simp[Ch]
theorem Ak5 {a b:Vec} (h:Ch a b=true):Ch b a=false:=by
 unfold Ch at *
 grind
theorem Ur {a b:Vec} (h:a≠b):Ch a b=true∨Ch b a=true:=by
 obtain ⟨a1,a2,a3,a4,a5⟩:=a
 obtain ⟨b1,b2,b3,b4,b5⟩:=b
 simp only[ne_eq,Vec.mk.injEq]at h
 simp only[Ch]
 grind
theorem Uq {a b c:Vec} (h1:Ch a b=true) (h2:Ch b c=true):Ch a c=true:=by
 obtain ⟨a1,a2,a3,a4,a5⟩:=a
 obtain ⟨b1,b2,b3,b4,b5⟩:=b
 obtain ⟨c1,c2,c3,c4,c5⟩:=c
 simp only[Ch]at *
 grind
theorem Aa6:∀ (v:Vec) (l:List Vec),C5 v l=v∨C5 v l∈l
 | v,[]=>.inl rfl
 | v,x::l=>by
  rw[C5]
  rcases Aa6 (if Ch x v then x else v) l with h | h
  ·rw[h]
   split
   ·exact .inr qz
   ·exact .inl E
  ·exact .inr (by simp[h])
theorem Adk:∀ (v:Vec) (l:List Vec),Ch v (C5 v l)=false∧∀ x∈l,Ch x (C5 v l)=false
 | v,[]=>⟨Lq v,by simp⟩
 | v,x::l=>by
  rw[C5]
  obtain ⟨h1,h2⟩:=Adk (if Ch x v then x else v) l
  have key:Ch v (C5 (if Ch x v then x else v) l)=false∧Ch x (C5 (if Ch x v then x else v) l)=false:=by
   generalize C5 (if Ch x v then x else v) l=m at *
   cases hx:Ch x v with
   | true =>
    rw[hx]at h1
    simp only[if_true]at h1
    refine⟨?_,h1⟩
    cases hv:Ch v m with
    | false=>rfl
    | true=>rw[Uq hx hv]at h1;cases h1
   | false =>
    rw[hx]at h1
    simp only[Bool.false_eq_true,if_false]at h1
    refine⟨h1,?_⟩
    cases hv:Ch x m with
    | false=>rfl
    | true =>
     by_cases hxv:x=v
     ·subst hxv;rw[hv]at h1;cases h1
     ·rcases Ur hxv with h3 | h3
      ·rw[hx]at h3;cases h3
      ·rw[Uq h3 hv]at h1;cases h1
  refine⟨key.1,fun y hy=>?_⟩
  rcases List.mem_cons.1 hy with rfl | hy
  ·exact key.2
  ·exact h2 y hy
theorem Ah6 (v:Vec) (l:List Vec) (j:Nat) (h:j<l.length):C5 v (l.take (j+1))=(if Ch l[j] (C5 v (l.take j)) then l[j] else C5 v (l.take j)):=by
 have key:∀ (a b:List Vec) (v:Vec),C5 v (a++b)=C5 (C5 v a) b:=by
  intro a
  induction a with
  | nil=>intro b v;rfl
  | cons x a ih=>intro b v;rw[List.cons_append,C5,C5,ih]
 rw[List.take_succ_eq_append_getElem h,key]
 rfl
theorem leastS (l:List Vec) (hl:Al l):Sy.Spec Tryz.prog 289 [.sl 5 D2 l] [] (.tup [D2 (H9 l).1,Ab (H9 l).2]) []:=cT F289 Tryz.ntmps289 fun F hF=>by
 unfold Al at hl
 have hR:∀ h:0<l.length,H9 l=(C5 l[0] l,true):=fun h=>by
  cases l with
  | nil=>simp at h
  | cons v t=>rfl
 conv=>whnf
 refine⟨fun h=>?_,fun h=>?_⟩
 ·have:l=[]:=List.eq_nil_of_length_eq_zero (by have:(l.length:Int)=0:=(by simpa using h);omega)
  subst this
  refine oO ?_
  exact done E (.cons (.cell E E E E) (.cons .tmp .nil)) [] [] (fun _ h=>h) E E ⟨Y,Y,E,E⟩
 have h0:0<l.length:=by
  have:¬ (l.length:Int)=0:=by simpa using h
  omega
 rw[hR h0]
 refine oO ?_
 refine⟨E,by decide,h0,?_⟩
 conv=>whnf
 have e0:l[(0:Int).toNat]'(h0)=l[0]:=rfl
 generalize hv:l[0]=v at *
 refine Aq l.length (fun j=>[(0,.sl 5 D2 l),(2,.ptr 2 0),(4,.ptr 4 0),(14,.sl 5 D2 l),(15,Aa l.length),(16,Aa j)]) (fun j=>[(2,.box [Aa 0,Aa 0,Aa 0,Aa 0,Aa 0]),(4,.box [Aa (C5 v (l.take j)).root,Aa (C5 v (l.take j)).cost,Aa (C5 v (l.take j)).bridge,Aa (C5 v (l.take j)).port,Aa (C5 v (l.take j)).own])]) []
  ⟨⟨rfl,rfl,rfl,rfl,rfl,rfl,rfl,rfl,rfl,rfl,rfl,rfl,trivial⟩,⟨.inl rfl,rfl,.inl (by subst hv;rfl),rfl,trivial⟩,rfl,rfl⟩ ?_
 intro j hj
 refine oO ?_
 refine⟨fun h=>?_,fun h=>?_⟩
 ·have hlt:j<l.length:=by simpa using h
  have hdrop:=Ah6 v l j hlt
  generalize hx:l[j]=x at hdrop
  have hx':l[(j:Int).toNat]'qn=x:=hx
  generalize hmn:C5 v (l.take j)=m at hdrop
  refine oO ?_
  refine⟨E,by omega,by omega,?_⟩
  rw[hx']
  conv=>whnf
  refine c0 (lessS x m) F338 ?_
  refine oO ?_
  refine⟨fun h2=>?_,fun h2=>?_⟩
  ·rw[h2,if_pos rfl]at hdrop
   refine oO ?_
   refine iW ?_
   exact An [] hlt ⟨⟨E,E,E,E,E,E,E,E,E,E,E,E,Y⟩,⟨.inl E,E,.inl (by rw[hdrop];rfl),E,Y⟩,E,E⟩
  ·rw[h2]at hdrop
   refine oO ?_
   refine iW ?_
   exact An [] hlt ⟨⟨E,E,E,E,E,E,E,E,E,E,E,E,Y⟩,⟨.inl E,E,.inl (by rw[hdrop];rfl),E,Y⟩,E,E⟩
 ·have hjl:¬ j<l.length:=by simpa using h
  rw[List.take_of_length_le qn]
  refine oO ?_
  exact done E (.cons (.cell E E E E) (.cons .tmp .nil)) [] [] (fun _ h=>h) E E ⟨Y,Y,E,E⟩
theorem Ah7 {l:List Vec} (h:(H9 l).2=false):l=[]∧(H9 l).1=Au4:=by
 cases l with
 | nil=>exact⟨rfl,rfl⟩
 | cons v t=>cases h
theorem Adl (l:List Vec):∀ x∈l,Ch x (H9 l).1=false:=by
 cases l with
 | nil=>simp
 | cons v t=>exact(Adk v (v::t)).2
theorem Alb {l:List Vec} (h:(H9 l).2=true):(H9 l).1∈l:=by
 cases l with
 | nil=>cases h
 | cons v t =>
  rcases Aa6 v (v::t) with h | h
  ·show C5 v (v::t)∈v::t
   rw[h];simp
  ·exact h
theorem Yg (n:Net):∀ x∈C0 n,0≤x∧x<n.devices.length:=fun x hx=>by
 rw[Aau,Ko]at hx
 obtain ⟨i,hi,rfl⟩:=List.mem_map.1 hx
 have hi:=List.mem_range.1 hi
 have h1:=List.countP_le_length (p:=fun k=>Ci n (k:Nat) i) (l:=List.range n.devices.length)
 rw[List.length_range]at h1
 have h2:(List.range n.devices.length).countP (fun k=>Ci n (k:Nat) i)≠n.devices.length:=fun e=>by
  have:=List.countP_eq_length.1 (e.trans List.length_range.symm) i (List.mem_range.2 hi)
  rw[O1]at this
  cases this
 omega
theorem Ey (n:Net):(C0 n).length=n.devices.length:=by rw[Aau,Ko];simp
end Go.Sy.YteinjapglfkamaaGreat
namespace Go.Sy.YteinjapglfkamaaGreat
open Go.Proofs
attribute [local irreducible] Go.Sy.G Go.Sy.DR
set_option maxRecDepth 100000
set_option maxHeartbeats 4000000
def To (n:Net) (up:List Bool) (ranks:List Int) (x y:SV):List SV:=[.sl 5 Bn n.devices,.sl 7 A7 n.ports,.sl 3 Cp n.links,.sl 6 Au n.domains,.sl 4 Bk n.statics,.sl 4 B1 n.floods,.sl 5 C3 n.vrfs,.sl 5 Cr n.irbs,.sl 1 Ab up,.sl 1 Aa ranks,x,y]
def B9 (n:Net) (up:List Bool) (i:Nat):Int :=
 let p:=n.ports.getD i default
 if p.link<0 || !(up.getD p.link.toNat false) then -1 else (nth n.links p.link).a+(nth n.links p.link).b-i
theorem farS (n:Net) (up:List Bool) (ranks:List Int) (x y:SV) (_hx:(x.boxed && x.data && y.boxed && y.data && Nat.beq (cellsOf x).length 1 && Nat.beq (cellsOf y).length 1)=true) (i:Nat) (hr:Ac n=true) (hu:up.length=n.links.length) (hi:i<n.ports.length) :
  Sy.Spec Tryz.prog 222 [.ref 12 (.agg (To n up ranks x y)) 0,Aa i] [] (Aa (B9 n up i)) []:=cT F222 Tryz.ntmps222 fun F hF=>by
 have hpl:=Hb hr hi
 have hf:=C4 hr
 have e1:n.ports[(i:Int).toNat]'qn=n.ports[i]:=rfl
 have hfar:B9 n up i=if n.ports[i].link<0 || !(up.getD n.ports[i].link.toNat false) then -1 else (nth n.links n.ports[i].link).a+(nth n.links n.ports[i].link).b-i:=by
  rw[B9,A8 hi]
 generalize hp:n.ports[i]=p at *
 have hle:=fun h=>Jd hr (i:=p.link.toNat) h
 conv=>whnf
 refine⟨E,by omega,by omega,?_⟩
 rw[e1]
 conv=>whnf
 (repeat' (first | (refine⟨fun h=>?_,fun h=>?_⟩<;>(repeat (first | simp only[decide_eq_true_eq]at h | simp only[decide_eq_false_iff_not]at h | simp only[Bool.not_eq_true']at h | simp only[Bool.not_eq_false']at h))<;>((first|refine rg ?_|refine rd qq ?_);(conv=>whnf))) | (refine Ao rfl (.cons .tmp .nil) ?_ rfl) | (refine⟨qq,?_⟩;((conv=>whnf);repeat((refine aT ?_);(refine oO ?_)))) | (refine⟨by (first | omega | ((have hq:=hle qn;unfold I64;omega))),by (first | omega | ((have hq:=hle qn;unfold I64;omega))),?_⟩;((conv=>whnf)))))
 all_goals (refine congrArg Aa ?_;rw[hfar])
 ·simp_all
 ·have h1:up.getD p.link.toNat false=false:=by rw[A8 qn];assumption
  rw[h1];simp
 ·have h1:up.getD p.link.toNat false=true:=by rw[A8 qn];assumption
  rw[h1,Ag qn]
  simp_all
def Ql (n:Net) (up:List Bool) (ranks roots costs:List Int):SV:=.ref 12 (.agg (To n up ranks (.sl 1 Aa roots) (.sl 1 Aa costs))) 0
def Kn (n:Net) (ranks costs:List Int) (i k:Nat):Bool :=
 let a:=(n.ports.getD i default).dev
 let b:=(n.ports.getD k default).dev
 decide (nth costs a<nth costs b) || (nth costs a == nth costs b && decide (nth ranks a<nth ranks b))
theorem Ajq (n:Net) (up:List Bool) (ranks roots costs:List Int) (i k:Nat) (hr:Ac n=true) (hrk:ranks.length=n.devices.length) (hc:costs.length=n.devices.length) (hi:i<n.ports.length) (hk:k<n.ports.length) :
  Sy.Spec Tryz.prog 223 [Ql n up ranks roots costs,Aa i,Aa k] [] (Ab (Kn n ranks costs i k)) []:=cT F223 Tryz.ntmps223 fun F hF=>by
 have hd1:=Qu hr hi
 have hd2:=Qu hr hk
 have e1:n.ports[(i:Int).toNat]'qn=n.ports[i]:=rfl
 have e2:n.ports[(k:Int).toNat]'qn=n.ports[k]:=rfl
 have hres:Kn n ranks costs i k=(decide (nth costs n.ports[i].dev<nth costs n.ports[k].dev) || (nth costs n.ports[i].dev == nth costs n.ports[k].dev && decide (nth ranks n.ports[i].dev<nth ranks n.ports[k].dev))):=by
  rw[Kn,A8 hi,A8 hk]
 rw[Ag qn,Ag qn,Ag qn,Ag qn]at hres
 conv=>whnf
 (repeat' (first | (refine⟨fun h=>?_,fun h=>?_⟩<;>(repeat (first | simp only[decide_eq_true_eq]at h | simp only[decide_eq_false_iff_not]at h | simp only[beq_iff_eq]at h | simp only[beq_eq_false_iff_ne]at h))<;>((refine rd qq ?_);(conv=>whnf))) | (refine Ao rfl (.cons .tmp .nil) ?_ rfl) | (refine⟨qq,?_⟩;((conv=>whnf))) | (refine⟨by (first | omega | (simp only[Int.toNat_natCast];omega)),by (first | omega | (simp only[Int.toNat_natCast];omega)),?_⟩;((conv=>whnf)))))
 all_goals (refine congrArg Ab ?_;rw[hres];clear hF hres hr;simp only[Int.toNat_natCast]at *;grind)
theorem Uw {n:Net} {up:List Bool} (h:Ac n=true) {i:Nat} (hi:i<n.ports.length) (hf:0≤B9 n up i):B9 n up i<n.ports.length:=by
 have hp:=Kx h hi
 have hpl:=Hb h hi
 simp only[D8,Bool.and_eq_true,Bool.or_eq_true,beq_iff_eq]at hp
 have hp:=hp.2
 unfold B9 at *
 rw[A8 hi]at *
 simp only at *
 split at hf
 ·omega
 ·rename_i hc
  rw[if_neg hc]
  simp only[Bool.or_eq_true,decide_eq_true_eq,not_or]at hc
  rcases hp with hp | hp
  ·omega
  ·have hl:n.ports[i].link.toNat<n.links.length:=by omega
   have he:=Jd h hl
   rw[Ag hl]at *
   omega
def Wr (n:Net) (up:List Bool) (ranks roots costs:List Int) (dev:Int) (i:Nat):Option Vec :=
 let p:=n.ports.getD i default
 let far:=B9 n up i
 let there:=(nth n.ports far).dev
 if p.dev == dev && decide (0≤far) then some ⟨nth roots there,nth costs there+p.cost,nth ranks there,far,i⟩ else none
def Il (n:Net) (up:List Bool) (ranks roots costs:List Int) (dev:Int) (j:Nat):List Vec:=(List.range j).filterMap (Wr n up ranks roots costs dev)
theorem Al8 (n:Net) (up:List Bool) (ranks roots costs:List Int) (dev:Int) (j:Nat):Il n up ranks roots costs dev (j+1)=Il n up ranks roots costs dev j++(Wr n up ranks roots costs dev j).toList:=by
 rw[Il,List.range_succ,List.filterMap_append]
 cases h:Wr n up ranks roots costs dev j<;>simp[Il,h]
theorem Wt (n:Net) (up:List Bool) (ranks roots costs:List Int) (dev:Int) (j:Nat):(Il n up ranks roots costs dev j).length≤j:=by
 have:=List.length_filterMap_le (Wr n up ranks roots costs dev) (List.range j)
 simpa [Il] using this
def Hh (n:Net) (up:List Bool) (ranks roots costs:List Int) (dev:Int):Int :=
 let r:=H9 (Il n up ranks roots costs dev n.ports.length)
 if !r.2 || nth roots dev == nth ranks dev then -1 else r.1.own
theorem bestS (n:Net) (up:List Bool) (ranks roots costs:List Int) (dev:Int) (hr:Ac n=true) (hu:up.length=n.links.length) (hcost:Cq n=true) (hrk:ranks.length=n.devices.length) (hro:roots.length=n.devices.length) (hc:costs.length=n.devices.length)
  (hb:∀ c∈costs,0≤c∧c<1000000000) (hd:0≤dev∧dev<n.devices.length) :
  Sy.Spec Tryz.prog 224 [Ql n up ranks roots costs,Aa dev] [] (Aa (Hh n up ranks roots costs dev)) []:=cT F224 Tryz.ntmps224 fun F hF=>by
 have hf:=C4 hr
 conv=>whnf
 refine Bo 5 1000 5 D2 E E ?_
 refine Aq n.ports.length (fun j=>[(0,Ql n up ranks roots costs),(1,Aa dev),(5,.osl 1000),(16,.sl 7 A7 n.ports),(17,Aa n.ports.length),(18,Aa j)]) (fun j=>[(1000,.row 5 D2 (Il n up ranks roots costs dev j))]) []
  ⟨⟨rfl,rfl,rfl,rfl,rfl,rfl,rfl,rfl,rfl,rfl,rfl,rfl,trivial⟩,⟨.inl rfl,rfl,trivial⟩,rfl,rfl⟩ ?_
 intro j hj
 refine oO ?_
 refine⟨fun h=>?_,fun h=>?_⟩
 ·have hlt:j<n.ports.length:=by simpa using h
  have e1:n.ports[(j:Int).toNat]'qn=n.ports[j]:=rfl
  have hfar:=farS n up ranks (.sl 1 Aa roots) (.sl 1 Aa costs) rfl j hr hu hlt
  have hfl:=Uw (up:=up) hr hlt
  have hsucc:=Al8 n up ranks roots costs dev j
  have hbl:=Wt n up ranks roots costs dev j
  have hcand:Wr n up ranks roots costs dev j=if n.ports[j].dev == dev && decide (0≤B9 n up j) then some ⟨nth roots (nth n.ports (B9 n up j)).dev,nth costs (nth n.ports (B9 n up j)).dev+n.ports[j].cost,nth ranks (nth n.ports (B9 n up j)).dev,B9 n up j,j⟩ else none:=by
   rw[Wr,A8 hlt]
  generalize B9 n up j=k at *
  have hpc:1≤n.ports[j].cost∧n.ports[j].cost≤65535:=by
   simp only[Cq,Bool.not_eq_true',List.any_eq_false]at hcost
   have:=hcost _ (List.getElem_mem hlt)
   simp only[I5,Bool.or_eq_true,decide_eq_true_eq,not_or]at this
   omega
  obtain ⟨p,hp⟩:∃ p,n.ports[j]=p:=⟨_,rfl⟩
  rw[hp]at e1 hcand hpc
  refine oO ?_
  refine⟨E,by omega,by omega,?_⟩
  rw[e1]
  conv=>whnf
  refine c0 hfar F222 ?_
  refine oO ?_
  refine⟨fun h=>?_,fun h=>?_⟩
  ·refine oO ?_
   refine⟨fun h2=>?_,fun h2=>?_⟩
   ·have hk0:0≤k:=of_decide_eq_true h2
    have hk1:=hfl hk0
    rw[if_pos (by simp only[Bool.and_eq_true,decide_eq_true_eq];exact⟨h,hk0⟩),Ag (l:=n.ports) (i:=k) qn]at hcand
    have hpd:=Qu hr (i:=k.toNat) qn
    obtain ⟨q,hq⟩:∃ q,n.ports[k.toNat]'qn=q:=⟨_,rfl⟩
    rw[hq]at hcand hpd
    have hcb:=hb (costs[q.dev.toNat]'qn) (List.getElem_mem _)
    rw[Ag (l:=roots) (i:=q.dev) qn,Ag (l:=costs) (i:=q.dev) qn,Ag (l:=ranks) (i:=q.dev) qn]at hcand
    refine oO ?_
    refine⟨E,hk0,by omega,?_⟩
    rw[hq]
    conv=>whnf
    refine⟨qq,?_⟩
    refine⟨by omega,by omega,?_⟩
    conv=>whnf
    refine⟨qq,?_⟩
    refine⟨by omega,by omega,?_⟩
    conv=>whnf
    refine iW ?_
    refine⟨qq,?_⟩
    refine⟨by omega,by omega,?_⟩
    conv=>whnf
    refine Bb (Ad Γ.toTy 72 E E E E E (.row E) (.lit (l:=[(⟨roots[q.dev.toNat]'qn,costs[q.dev.toNat]'qn+p.cost,ranks[q.dev.toNat]'qn,k,j⟩:Vec)]) E E) qz (by simp;omega) (by simp;omega)) qq E ?_
    refine oD ?_
    refine kW ?_
    refine iW ?_
    refine An [(1000,72)] hlt ⟨⟨E,E,E,E,E,E,E,E,E,E,E,E,Y⟩,⟨.inl (congrArg (Ob.row 5 D2) ?_),E,Y⟩,E,E⟩
    rw[hsucc,hcand]
    rfl
   ·have hk0:¬ 0≤k:=of_decide_eq_false h2
    rw[if_neg (by simp only[Bool.and_eq_true,decide_eq_true_eq];exact fun hh=>hk0 hh.2)]at hcand
    refine oO ?_
    refine iW ?_
    refine An [] hlt ⟨⟨E,E,E,E,E,E,E,E,E,E,E,E,Y⟩,⟨.inl (congrArg (Ob.row 5 D2) ?_),E,Y⟩,E,E⟩
    rw[hsucc,hcand]
    simp
  ·rw[if_neg (by rw[h];simp)]at hcand
   refine oF ?_
   refine iW ?_
   refine An [] hlt ⟨⟨E,E,E,E,E,E,E,E,E,E,E,E,Y⟩,⟨.inl (congrArg (Ob.row 5 D2) ?_),E,Y⟩,E,E⟩
   rw[hsucc,hcand]
   simp
 ·have hjl:j=n.ports.length:=by
   have:¬ j<n.ports.length:=by simpa using h
   omega
  subst hjl
  have hbl:=Wt n up ranks roots costs dev n.ports.length
  have hbi:Hh n up ranks roots costs dev=if !(H9 (Il n up ranks roots costs dev n.ports.length)).2 || nth roots dev == nth ranks dev then -1 else (H9 (Il n up ranks roots costs dev n.ports.length)).1.own:=rfl
  rw[Ag qn,Ag qn]at hbi
  have hls:=leastS (Il n up ranks roots costs dev n.ports.length) (by unfold Al;omega)
  generalize H9 (Il n up ranks roots costs dev n.ports.length)=r at hls hbi
  obtain ⟨v,ok⟩:=r
  simp only at hls hbi
  rw[hbi]
  refine oO ?_
  refine Ap 1000 E ?_
  refine c0 hls F289 ?_
  refine oO ?_
  (repeat' (first | (refine⟨fun h=>?_,fun h=>?_⟩<;>(repeat (first | simp only[beq_iff_eq]at h | simp only[beq_eq_false_iff_ne]at h | simp only[Bool.not_eq_true']at h | simp only[Bool.not_eq_false']at h))<;>((first|refine rg ?_|refine rd qq ?_);(conv=>whnf))) | (refine Ao rfl (.cons .tmp .nil) ?_ rfl) | (refine⟨qq,?_⟩;((conv=>whnf);repeat((refine aT ?_);(refine oO ?_)))) | (refine⟨by (omega),by (omega),?_⟩;((conv=>whnf)))))
  all_goals (refine congrArg Aa ?_;clear hF hls hbi;grind)
theorem best_lt {n:Net} {up:List Bool} {ranks roots costs:List Int} {dev:Int} (h:0≤Hh n up ranks roots costs dev):Hh n up ranks roots costs dev<n.ports.length:=by
 have hmem:=@Alb (Il n up ranks roots costs dev n.ports.length)
 unfold Hh at *
 simp only at *
 split at h
 ·omega
 ·rename_i hc
  rw[if_neg hc]
  simp only[Bool.or_eq_true,Bool.not_eq_true',not_or]at hc
  have h2:=hmem (by simpa using hc.1)
  obtain ⟨i,hi,he⟩:=List.mem_filterMap.1 h2
  have hi:=List.mem_range.1 hi
  unfold Wr at he
  simp only at he
  split at he
  ·have e:=congrArg Vec.own (Option.some.inj he)
   simp only at e
   omega
  ·cases he
def Qp (n:Net) (up:List Bool) (ranks costs:List Int) (i:Nat):Int :=
 if B9 n up i<0 then 0 else if Kn n ranks costs i (B9 n up i).toNat then 2 else 3
def H7 (n:Net) (up:List Bool) (ranks costs:List Int) (j:Nat):List Int:=(List.range n.ports.length).map fun i=>if i<j then Qp n up ranks costs i else 0
theorem L0 (n:Net) (up:List Bool) (ranks costs:List Int) (j:Nat):(H7 n up ranks costs j).length=n.ports.length:=by simp[H7]
theorem Agv (n:Net) (up:List Bool) (ranks costs:List Int):H7 n up ranks costs 0=List.replicate n.ports.length 0:=by
 rw[H7]
 exact List.ext_getElem qz qz
theorem Agw (n:Net) (up:List Bool) (ranks costs:List Int) (j:Nat) (hj:j<n.ports.length):H7 n up ranks costs (j+1)=(H7 n up ranks costs j).set j (Qp n up ranks costs j):=by
 refine List.ext_getElem (by simp[H7]) (fun i h1 h2=>?_)
 rw[List.getElem_set]
 simp only[H7,List.getElem_map,List.getElem_range]
 rcases Nat.lt_trichotomy i j with h | h | h
 ·rw[if_pos qn,if_neg qn,if_pos h]
 ·subst h;rw[if_pos qn,if_pos rfl]
 ·rw[if_neg qn,if_neg qn,if_neg qn]
theorem Agx (n:Net) (up:List Bool) (ranks costs:List Int) (j:Nat) (h:Qp n up ranks costs j=0):H7 n up ranks costs (j+1)=H7 n up ranks costs j:=by
 simp only[H7]
 refine List.map_congr_left (fun i _=>?_)
 by_cases hij:i<j
 ·rw[if_pos qn,if_pos hij]
 ·by_cases he:i=j
  ·subst he;rw[if_pos qn,if_neg hij,h]
  ·rw[if_neg qn,if_neg hij]
def Ir (n:Net) (up:List Bool) (ranks roots costs:List Int):Nat→List Int
 | 0=>H7 n up ranks costs n.ports.length
 | d+1=>if 0≤Hh n up ranks roots costs d then (Ir n up ranks roots costs d).set (Hh n up ranks roots costs d).toNat 1 else Ir n up ranks roots costs d
theorem Hp (n:Net) (up:List Bool) (ranks roots costs:List Int):∀ d,(Ir n up ranks roots costs d).length=n.ports.length
 | 0=>L0 n up ranks costs _
 | d+1=>by
  rw[Ir]
  split
  ·rw[List.length_set,Hp]
  ·rw[Hp]
theorem rolesS (n:Net) (up:List Bool) (ranks roots costs:List Int) (hr:Ac n=true) (hu:up.length=n.links.length) (hcost:Cq n=true) (hrk:ranks.length=n.devices.length) (hro:roots.length=n.devices.length) (hc:costs.length=n.devices.length)
  (hb:∀ c∈costs,0≤c∧c<1000000000) :
  Sy.Spec Tryz.prog 161 [Ql n up ranks roots costs] [] (.sl 1 Aa (Ir n up ranks roots costs n.devices.length)) []:=cT F161 Tryz.ntmps161 fun F hF=>by
 have hf:=C4 hr
 conv=>whnf
 refine Ae (Bm Γ.toTy (d:=14) (n:=n.ports.length) Aa 0 E E E E E E E E qn qn E E E) E E ?_
 rw[← Agv n up ranks costs]
 refine oO ?_
 refine Aq n.ports.length (fun j=>[(0,Ql n up ranks roots costs),(3,.osl 14),(20,Aa n.ports.length),(21,Aa j)]) (fun j=>[(14,.row 1 Aa (H7 n up ranks costs j))]) []
  ⟨⟨rfl,rfl,rfl,rfl,rfl,rfl,rfl,rfl,trivial⟩,⟨.inl rfl,rfl,trivial⟩,rfl,rfl⟩ ?_
 intro j hj
 refine oO ?_
 refine⟨fun h=>?_,fun h=>?_⟩
 ·have hlt:j<n.ports.length:=by simpa using h
  have hfar:=farS n up ranks (.sl 1 Aa roots) (.sl 1 Aa costs) rfl j hr hu hlt
  have hfl:=Uw (up:=up) hr hlt
  have hlen:=L0 n up ranks costs j
  have hrole:Qp n up ranks costs j=if B9 n up j<0 then 0 else if Kn n ranks costs j (B9 n up j).toNat then 2 else 3:=rfl
  have hsucc:=Agw n up ranks costs j hlt
  have hsame:=Agx n up ranks costs j
  generalize B9 n up j=k at *
  refine oO ?_
  refine c0 hfar F222 ?_
  refine oO ?_
  refine⟨fun h=>?_,fun h=>?_⟩
  ·have hk:k<0:=of_decide_eq_true h
   rw[if_pos hk]at hrole
   refine oO ?_
   refine iW ?_
   exact An [] hlt ⟨⟨E,E,E,E,E,E,E,E,Y⟩,⟨.inl (congrArg (Ob.row 1 Aa) (hsame hrole)),E,Y⟩,E,E⟩
  have hk:¬ k<0:=of_decide_eq_false h
  rw[if_neg hk]at hrole
  obtain ⟨m,rfl⟩:∃ m:Nat,k=m:=⟨k.toNat,by omega⟩
  have hah:=Ajq n up ranks roots costs j m hr hrk hc hlt qn
  rw[Int.toNat_natCast]at hrole
  refine oO ?_
  refine c0 hah F223 ?_
  refine oO ?_
  refine⟨fun h=>?_,fun h=>?_⟩
  ·rw[h,if_pos rfl]at hrole
   rw[hrole]at hsucc
   refine oO ?_
   refine⟨by omega,by omega,?_⟩
   conv=>whnf
   refine⟨E,by omega,2,E,E,?_⟩
   conv=>whnf
   refine iW ?_
   exact An [] hlt ⟨⟨E,E,E,E,E,E,E,E,Y⟩,⟨.inl (congrArg (Ob.row 1 Aa) hsucc),E,Y⟩,E,E⟩
  ·rw[h]at hrole
   simp only[Bool.false_eq_true,if_false]at hrole
   rw[hrole]at hsucc
   refine oO ?_
   refine⟨by omega,by omega,?_⟩
   conv=>whnf
   refine⟨E,by omega,3,E,E,?_⟩
   conv=>whnf
   refine iW ?_
   exact An [] hlt ⟨⟨E,E,E,E,E,E,E,E,Y⟩,⟨.inl (congrArg (Ob.row 1 Aa) hsucc),E,Y⟩,E,E⟩
 have hjl:j=n.ports.length:=by
  have:¬ j<n.ports.length:=by simpa using h
  omega
 subst hjl
 refine oO ?_
 refine Aq n.devices.length (fun d=>[(0,Ql n up ranks roots costs),(3,.osl 14),(47,Aa n.devices.length),(48,Aa d)]) (fun d=>[(14,.row 1 Aa (Ir n up ranks roots costs d))]) []
  ⟨⟨rfl,rfl,rfl,rfl,rfl,rfl,rfl,rfl,trivial⟩,⟨.inl rfl,rfl,trivial⟩,rfl,rfl⟩ ?_
 clear hj h
 intro d hdle
 refine oO ?_
 refine⟨fun h=>?_,fun h=>?_⟩
 ·have hlt:d<n.devices.length:=by simpa using h
  have hbs:=bestS n up ranks roots costs d hr hu hcost hrk hro hc hb qn
  have hbl:=@best_lt n up ranks roots costs d
  have hlen:=Hp n up ranks roots costs d
  have hsucc:Ir n up ranks roots costs (d+1)=if 0≤Hh n up ranks roots costs d then (Ir n up ranks roots costs d).set (Hh n up ranks roots costs d).toNat 1 else Ir n up ranks roots costs d:=rfl
  generalize Hh n up ranks roots costs d=k at *
  refine oO ?_
  refine c0 hbs F224 ?_
  refine oO ?_
  refine⟨fun h=>?_,fun h=>?_⟩
  ·have hk:0≤k:=of_decide_eq_true h
   rw[if_pos hk]at hsucc
   refine oO ?_
   refine⟨hk,by omega,?_⟩
   conv=>whnf
   refine⟨E,by omega,1,E,E,?_⟩
   conv=>whnf
   refine iW ?_
   exact An [] hlt ⟨⟨E,E,E,E,E,E,E,E,Y⟩,⟨.inl (congrArg (Ob.row 1 Aa) hsucc),E,Y⟩,E,E⟩
  ·have hk:¬ 0≤k:=of_decide_eq_false h
   rw[if_neg hk]at hsucc
   refine oO ?_
   refine iW ?_
   exact An [] hlt ⟨⟨E,E,E,E,E,E,E,E,Y⟩,⟨.inl (congrArg (Ob.row 1 Aa) hsucc),E,Y⟩,E,E⟩
 have hdl:d=n.devices.length:=by
  have:¬ d<n.devices.length:=by simpa using h
  omega
 subst hdl
 refine oO ?_
 refine Ap 14 E ?_
 exact dN
def Ac7 (n:Net) (up:List Bool) (ranks:List Int) (roots costs:List Int):Obs:=[(0,.box (To n up ranks (.osl 1) (.osl 2))),(1,.row 1 Aa roots),(2,.row 1 Aa costs)]
theorem farR (n:Net) (up:List Bool) (ranks roots costs:List Int) (i:Nat) (hr:Ac n=true) (hu:up.length=n.links.length) (hi:i<n.ports.length) :
  Sy.Spec Tryz.prog 222 [.ptr 0 0,Aa i] (Ac7 n up ranks roots costs) (Aa (B9 n up i)) (Ac7 n up ranks roots costs):=cT F222 Tryz.ntmps222 fun F hF=>by
 have hpl:=Hb hr hi
 have hf:=C4 hr
 have e1:n.ports[(i:Int).toNat]'qn=n.ports[i]:=rfl
 have hfar:B9 n up i=if n.ports[i].link<0 || !(up.getD n.ports[i].link.toNat false) then -1 else (nth n.links n.ports[i].link).a+(nth n.links n.ports[i].link).b-i:=by
  rw[B9,A8 hi]
 generalize hp:n.ports[i]=p at *
 have hle:=fun h=>Jd hr (i:=p.link.toNat) h
 conv=>whnf
 refine⟨E,by omega,by omega,?_⟩
 rw[e1]
 conv=>whnf
 (repeat' (first | (refine⟨fun h=>?_,fun h=>?_⟩<;>(repeat (first | simp only[decide_eq_true_eq]at h | simp only[decide_eq_false_iff_not]at h | simp only[Bool.not_eq_true']at h | simp only[Bool.not_eq_false']at h))<;>((first|refine rg ?_|refine rd qq ?_);(conv=>whnf))) | (refine⟨qq,?_⟩;((conv=>whnf);repeat((refine aT ?_);(refine oO ?_)))) | (refine⟨by (first | omega | ((have hq:=hle qn;unfold I64;omega))),by (first | omega | ((have hq:=hle qn;unfold I64;omega))),?_⟩;((conv=>whnf))) | refine done rfl (.cons .tmp .nil) [] (Ac7 n up ranks roots costs) (fun _ h=>h) ?_ rfl ⟨trivial,⟨.inl rfl,rfl,.inl rfl,rfl,.inl rfl,rfl,trivial⟩,rfl,rfl⟩))
 all_goals (refine congrArg Aa ?_;rw[hfar])
 ·simp_all
 ·have h1:up.getD p.link.toNat false=false:=by rw[A8 qn];assumption
  rw[h1];simp
 ·have h1:up.getD p.link.toNat false=true:=by rw[A8 qn];assumption
  rw[h1,Ag qn]
  simp_all
def Do (n:Net) (up:List Bool) (x:Item) (q:List Item) (i:Nat):List Item :=
 if (n.ports.getD i default).dev=x.dev∧0≤B9 n up i then Tu q ⟨x.root,x.cost+(nth n.ports (B9 n up i)).cost,(nth n.ports (B9 n up i)).dev⟩ else q
def Oj (n:Net) (up:List Bool) (s:List Item × List Int × List Int):List Item × List Int × List Int :=
 let x:=(De s.1).getLast?.getD default
 let q:=(De s.1).dropLast
 if 0≤nth s.2.1 x.dev then (q,s.2) else ((List.range n.ports.length).foldl (Do n up x) q,s.2.1.set x.dev.toNat x.root,s.2.2.set x.dev.toNat x.cost)
def Hj (n:Net) (up:List Bool):Nat→List Item × List Int × List Int→List Item × List Int × List Int
 | 0,s=>s
 | f+1,s=>if s.1=[] then s else Hj n up f (Oj n up s)
end Go.Sy.YteinjapglfkamaaGreat
namespace Go.Sy.YteinjapglfkamaaGreat
theorem Ug (q:List Item) (i j:Nat) (hi:i<q.length) (hj:j<q.length):(D7 q i j).Perm q:=by
 rw[D7,A8 hi,A8 hj]
 exact List.set_set_perm hi hj
theorem Age:∀ (f:Nat) (q:List Item) (j:Nat),j<q.length→(upF f q j).Perm q
 | 0,_,_,_=>.refl _
 | f+1,q,j,hj=>by
  rw[upF]
  split
  ·exact .refl _
  ·split
   ·exact(Age f _ _ (by rw[A5];omega)).trans (Ug q _ _ qn hj)
   ·exact .refl _
theorem Aby:∀ (f:Nat) (q:List Item) (i n:Nat),i<q.length→n≤q.length→(D3 f q i n).1.Perm q
 | 0,_,_,_,_,_=>.refl _
 | f+1,q,i,n,hi,hn=>by
  rw[D3]
  split
  ·rename_i h
   have hc:=M1 q i n h
   split
   ·exact(Aby f _ _ n (by rw[A5];omega) (by rw[A5];exact hn)).trans (Ug q _ _ hi qn)
   ·exact .refl _
  ·exact .refl _
theorem Ok (q:List Item) (x:Item):(Tu q x).Perm (x::q) :=
 (Age _ _ _ qz).trans (List.perm_append_comm (l₁:=q) (l₂:=[x]))
theorem Kf (q:List Item) (x:Item):(Tu q x).length=q.length+1:=by rw[Tu,Zw];simp
theorem S2 (q:List Item) (hq:q≠[]):(De q).Perm q:=by
 have h0:0<q.length:=List.length_pos_iff.2 hq
 exact(Aby _ _ _ _ (by rw[A5];exact h0) (by rw[A5];omega)).trans (Ug q _ _ h0 qn)
def Lj (q:List Item) (n:Nat):Prop:=∀ c,0<c→c<n→c<q.length→B7 (q.getD c default) (q.getD ((c-1) / 2) default)=false
theorem Or {x y z:Item} (h1:B7 y x=false) (h2:B7 z y=false):B7 z x=false:=by
 unfold B7 at *
 grind
theorem Alj {q:List Item} {n:Nat} (h:Lj q n) (hn:n≤q.length):∀ c,c<n→B7 (q.getD c default) (q.getD 0 default)=false:=by
 intro c
 induction c using Nat.strongRecOn with
 | ind c ih =>
  intro hc
  rcases Nat.eq_zero_or_pos c with h0 | h0
  ·subst h0;unfold B7;grind
  ·have h1:=h c h0 hc qn
   have h2:=ih ((c-1) / 2) qn qn
   exact Or h2 h1
theorem Et (q:List Item) (i j c:Nat) (hi:i<q.length) (hj:j<q.length):(D7 q i j).getD c default=if c=j then q.getD i default else if c=i then q.getD j default else q.getD c default:=by
 rw[D7]
 simp only[List.getD_eq_getElem?_getD,List.getElem?_set,List.length_set]
 by_cases h1:c=j
 ·subst h1;simp[hj]
 ·rw[if_neg (Ne.symm h1),if_neg h1]
  by_cases h2:c=i
  ·subst h2;simp[hi]
  ·rw[if_neg (Ne.symm h2),if_neg h2]
theorem Ot {x y:Item} (h:B7 x y=true):B7 y x=false:=by
 unfold B7 at *
 grind
structure UpInv (q:List Item) (j n:Nat):Prop where
 heap:∀ c,0<c→c<n→c≠j→B7 (q.getD c default) (q.getD ((c-1) / 2) default)=false
 over:∀ c,0<c→c<n→(c-1) / 2=j→0<j→B7 (q.getD c default) (q.getD ((j-1) / 2) default)=false
theorem Agf (n:Nat):∀ (f:Nat) (q:List Item) (j:Nat),j≤f→j<n→n≤q.length→UpInv q j n→Lj (upF f q j) n
 | 0,q,j,hf,hj,hn,hI=>by
  have:j=0:=by omega
  subst this
  exact fun c h0 hc _=>hI.heap c h0 hc qn
 | f+1,q,j,hf,hj,hn,hI=>by
  rw[upF]
  split
  ·rename_i h0
   subst h0
   exact fun c h0 hc _=>hI.heap c h0 hc qn
  ·rename_i h0
   split
   ·rename_i hlt
    have hp:(j-1) / 2<j:=by omega
    refine Agf n f _ _ qn qn (by rw[A5];exact hn) ⟨fun c hc0 hcn hcp=>?_,fun c hc0 hcn hpar hp0=>?_⟩
    ·rw[Et _ _ _ _ qn qn,Et _ _ _ _ qn qn]
     by_cases hcj:c=j
     ·subst hcj
      rw[if_pos rfl,if_neg qn,if_pos rfl]
      exact Ot hlt
     ·rw[if_neg hcj,if_neg hcp]
      by_cases hpj:(c-1) / 2=j
      ·rw[if_pos hpj]
       exact hI.over c hc0 hcn hpj qn
      ·rw[if_neg hpj]
       by_cases hpp:(c-1) / 2=(j-1) / 2
       ·rw[if_pos hpp]
        have:=hI.heap c hc0 hcn hcj
        rw[hpp]at this
        exact Or (Ot hlt) this
       ·rw[if_neg hpp]
        exact hI.heap c hc0 hcn hcj
    ·rw[Et _ _ _ _ qn qn,Et _ _ _ _ qn qn]
     have hpI:=hI.heap ((j-1) / 2) hp0 qn qn
     rw[if_neg (show ((j-1) / 2-1) / 2≠j by omega),if_neg (show ((j-1) / 2-1) / 2≠(j-1) / 2 by omega)]
     by_cases hcj:c=j
     ·rw[if_pos hcj];exact hpI
     ·rw[if_neg hcj,if_neg qn]
      have:=hI.heap c hc0 hcn hcj
      rw[hpar]at this
      exact Or hpI this
   ·rename_i hlt
    intro c hc0 hcn _
    by_cases hcj:c=j
    ·subst hcj;simpa using hlt
    ·exact hI.heap c hc0 hcn hcj
theorem Mv {q r:List Item} {c:Nat} (h:c<q.length):(q++r).getD c default=q.getD c default:=by
 simp[List.getD_eq_getElem?_getD,List.getElem?_append_left h]
theorem Aaw (q:List Item) (x:Item) (h:Lj q q.length):Lj (Tu q x) (Tu q x).length:=by
 rw[Kf]
 refine Agf (q.length+1) _ _ _ (Nat.le_refl _) qn qz ⟨fun c hc0 hcn hcj=>?_,fun c hc0 hcn hpar hp0=>by omega⟩
 rw[Mv qn,Mv qn]
 exact h c hc0 qn qn
structure DownInv (q:List Item) (i n:Nat):Prop where
 heap:∀ c,0<c→c<n→(c-1) / 2≠i→B7 (q.getD c default) (q.getD ((c-1) / 2) default)=false
 over:∀ c,0<c→c<n→(c-1) / 2=i→0<i→B7 (q.getD c default) (q.getD ((i-1) / 2) default)=false
theorem Apx (q:List Item) (i n c:Nat) (_h:2 * i+1<n) (hc0:0<c) (hc:c<n) (hp:(c-1) / 2=i):B7 (q.getD c default) (q.getD (D1 q i n) default)=false:=by
 have hcc:c=2 * i+1∨c=2 * i+2:=by omega
 unfold D1
 split
 ·rename_i hh
  rcases hcc with rfl | rfl
  ·exact Ot hh.2
  ·unfold B7;grind
 ·rename_i hh
  rcases hcc with rfl | rfl
  ·unfold B7;grind
  ·cases hlt:B7 (q.getD (2 * i+2) default) (q.getD (2 * i+1) default) with
   | false=>rfl
   | true=>exact absurd ⟨hc,hlt⟩ hh
theorem Abz (n:Nat):∀ (f:Nat) (q:List Item) (i:Nat),n≤f+i→i<q.length→n≤q.length→DownInv q i n→Lj (D3 f q i n).1 n
 | 0,q,i,hf,hi,hn,hI=>fun c hc0 hc _=>hI.heap c hc0 hc qn
 | f+1,q,i,hf,hi,hn,hI=>by
  rw[D3]
  split
  ·rename_i h
   have hcl:=M1 q i n h
   have hpar:(D1 q i n-1) / 2=i:=by unfold D1;split<;>omega
   have hle:=fun c=>Apx q i n c h
   generalize D1 q i n=k at *
   split
   ·rename_i hlt
    refine Abz n f _ _ qn (by rw[A5];omega) (by rw[A5];exact hn) ⟨fun c hc0 hcn hck=>?_,fun c hc0 hcn hcp hk0=>?_⟩
    ·rw[Et _ _ _ _ hi qn,Et _ _ _ _ hi qn,if_neg hck]
     by_cases hc1:c=k
     ·subst hc1
      rw[if_pos rfl,if_pos hpar]
      exact Ot hlt
     ·rw[if_neg hc1]
      by_cases hc2:c=i
      ·subst hc2
       rw[if_pos rfl,if_neg qn]
       exact hI.over k qn hcl.1 hpar hc0
      ·rw[if_neg hc2]
       by_cases hc3:(c-1) / 2=i
       ·rw[if_pos hc3];exact hle c hc0 hcn hc3
       ·rw[if_neg hc3];exact hI.heap c hc0 hcn hc3
    ·rw[Et _ _ _ _ hi qn,Et _ _ _ _ hi qn]
     rw[if_neg qn,if_neg qn,hpar,if_neg qn,if_pos rfl]
     have:=hI.heap c hc0 hcn qn
     rwa [hcp]at this
   ·rename_i hlt
    intro c hc0 hcn _
    by_cases hc3:(c-1) / 2=i
    ·rw[hc3]
     exact Or (by simpa using hlt) (hle c hc0 hcn hc3)
    ·exact hI.heap c hc0 hcn hc3
  ·exact fun c hc0 hc _=>hI.heap c hc0 hc qn
theorem Abx (n:Nat):∀ (f:Nat) (q:List Item) (i c:Nat),i<n→n≤q.length→n≤c→(D3 f q i n).1.getD c default=q.getD c default
 | 0,_,_,_,_,_,_=>rfl
 | f+1,q,i,c,hi,hn,hc=>by
  rw[D3]
  split
  ·rename_i h
   have hcl:=M1 q i n h
   split
   ·rw[Abx n f _ _ c qn (by rw[A5];exact hn) hc,Et _ _ _ _ qn qn,if_neg qn,if_neg qn]
   ·rfl
  ·rfl
theorem Ahj (q:List Item) (hq:q≠[]):(De q).getLast (D6 hq)=q.getD 0 default:=by
 have h0:0<q.length:=List.length_pos_iff.2 hq
 rw[List.getLast_eq_getElem,← A8 (show (De q).length-1<(De q).length by rw[Ee];omega),Ee]
 by_cases h1:q.length=1
 ·have:De q=q:=by
   obtain ⟨x,rfl⟩:=List.length_eq_one_iff.1 h1
   rfl
  rw[this,h1]
 ·rw[De,Abx _ _ _ _ _ qn (by rw[A5];omega) (Nat.le_refl _),Et _ _ _ _ h0 qn,if_pos rfl]
theorem Aoy (q:List Item) (hq:q≠[]):(De q).dropLast++[q.getD 0 default]=De q:=by
 rw[← Ahj q hq];exact List.dropLast_concat_getLast (D6 hq)
theorem Arg (q:List Item) (hq:q≠[]):(q.getD 0 default::(De q).dropLast).Perm q :=
 ((List.perm_append_comm (l₁:=[q.getD 0 default]) (l₂:=(De q).dropLast)).trans (by rw[Aoy q hq])).trans (S2 q hq)
theorem Arh (q:List Item) (hq:q≠[]) (h:Lj q q.length):Lj (De q).dropLast (De q).dropLast.length:=by
 have h0:0<q.length:=List.length_pos_iff.2 hq
 have hd:(De q).dropLast.length=q.length-1:=by rw[List.length_dropLast,Ee]
 have hh:Lj (De q) (q.length-1):=by
  rw[De]
  refine Abz (q.length-1) _ _ _ qn (by rw[A5];exact h0) (by rw[A5];omega) ⟨fun c hc0 hcn hp=>?_,fun c hc0 hcn hp h=>by omega⟩
  rw[Et _ _ _ _ h0 qn,Et _ _ _ _ h0 qn,if_neg qn,if_neg qn,if_neg qn,if_neg hp]
  exact h c hc0 qn qn
 intro c hc0 hcn _
 rw[hd]at hcn
 have hl:=Ee q
 have e:∀ k,k<q.length-1→(De q).dropLast.getD k default=(De q).getD k default:=fun k hk=>by
  rw[A8 (show k<(De q).dropLast.length by omega),A8 (show k<(De q).length by omega),List.getElem_dropLast]
 rw[e c hcn,e _ qn]
 exact hh c hc0 hcn qn
theorem Aoz (q:List Item) (h:Lj q q.length):∀ x∈q,B7 x (q.getD 0 default)=false:=fun x hx=>by
 obtain ⟨c,hc,rfl⟩:=List.getElem_of_mem hx
 have:=Alj h (Nat.le_refl _) c hc
 rwa [A8 hc]at this
def Eh (ranks:List Int) (j:Nat):List Item:=(List.range j).foldl (fun q (i:Nat)=>Tu q ⟨ranks.getD i 0,0,i⟩) []
theorem Jq (ranks:List Int) (j:Nat):Eh ranks (j+1)=Tu (Eh ranks j) ⟨ranks.getD j 0,0,j⟩:=by
 rw[Eh,List.range_succ,List.foldl_append];rfl
theorem Lx (ranks:List Int):∀ j,(Eh ranks j).length=j
 | 0=>rfl
 | j+1=>by rw[Jq,Kf,Lx ranks j]
def Vz (roots:List Int):Nat:=roots.countP (fun r=>decide (r<0))
def reachM (s:List Item × List Int × List Int):Nat:=41 * Vz s.2.1+s.1.length
structure ReachInv (n:Net) (s:List Item × List Int × List Int):Prop where
 rootsL:s.2.1.length=n.devices.length
 costsL:s.2.2.length=n.devices.length
 items:∀ x∈s.1,0≤x.dev∧x.dev<n.devices.length∧0≤x.root∧0≤x.cost∧x.cost+65535 * Vz s.2.1≤65535 * n.devices.length
 few:s.1.length+40 * Vz s.2.1≤1000
theorem Aru (roots:List Int):Vz roots≤roots.length:=List.countP_le_length
theorem Ao8 {roots:List Int} {i:Nat} {v:Int} (h:i<roots.length) (h0:roots[i]<0) (hv:0≤v):Vz (roots.set i v)+1=Vz roots:=by
 have h1:0<roots.countP (fun r=>decide (r<0)):=List.countP_pos_iff.2 ⟨roots[i],List.getElem_mem h,by simpa using h0⟩
 have hv':¬ v<0:=by omega
 rw[Vz,Vz,List.countP_set h]
 simp only[h0,hv',decide_true,decide_false,if_true,Bool.false_eq_true,if_false]
 omega
theorem Aey (n:Net) (up:List Bool) (x:Item) (hr:Ac n=true) (hcost:Cq n=true) {m:Nat} (hx:0≤x.root∧0≤x.cost∧x.cost+65535 * (m+1)≤65535 * n.devices.length) (q:List Item)
  (hq:∀ y∈q,0≤y.dev∧y.dev<n.devices.length∧0≤y.root∧0≤y.cost∧y.cost+65535 * m≤65535 * n.devices.length) (i:Nat) (hi:i<n.ports.length) :
  (∀ y∈Do n up x q i,0≤y.dev∧y.dev<n.devices.length∧0≤y.root∧0≤y.cost∧y.cost+65535 * m≤65535 * n.devices.length)∧(Do n up x q i).length≤q.length+1:=by
 rw[Do]
 split
 ·rename_i h
  have hlt:=Uw hr hi h.2
  have hk:(B9 n up i).toNat<n.ports.length:=by omega
  have hd:=Qu hr hk
  have hpc:1≤n.ports[(B9 n up i).toNat].cost∧n.ports[(B9 n up i).toNat].cost≤65535:=by
   simp only[Cq,Bool.not_eq_true',List.any_eq_false]at hcost
   have:=hcost _ (List.getElem_mem hk)
   simp only[I5,Bool.or_eq_true,decide_eq_true_eq,not_or]at this
   omega
  have e:nth n.ports (B9 n up i)=n.ports[(B9 n up i).toNat]:=Ag (l:=n.ports) (i:=B9 n up i) qn
  rw[e]
  refine⟨fun y hy=>?_,by rw[Kf];omega⟩
  rcases List.mem_cons.1 ((Ok q _).mem_iff.1 hy) with rfl | hy
  ·simp only
   omega
  ·exact hq y hy
 ·exact⟨hq,by omega⟩
theorem Aas (n:Net) (up:List Bool) (x:Item) (hr:Ac n=true) (hcost:Cq n=true) {m:Nat} (hx:0≤x.root∧0≤x.cost∧x.cost+65535 * (m+1)≤65535 * n.devices.length) (q:List Item)
  (hq:∀ y∈q,0≤y.dev∧y.dev<n.devices.length∧0≤y.root∧0≤y.cost∧y.cost+65535 * m≤65535 * n.devices.length):∀ i,i≤n.ports.length →
  (∀ y∈(List.range i).foldl (Do n up x) q,0≤y.dev∧y.dev<n.devices.length∧0≤y.root∧0≤y.cost∧y.cost+65535 * m≤65535 * n.devices.length)∧((List.range i).foldl (Do n up x) q).length≤q.length+i
 | 0,_=>⟨hq,by simp⟩
 | i+1,hi=>by
  obtain ⟨h1,h2⟩:=Aas n up x hr hcost hx q hq i qn
  rw[List.range_succ,List.foldl_append]
  obtain ⟨h3,h4⟩:=Aey n up x hr hcost hx _ h1 i qn
  exact⟨h3,by simp only[List.foldl_cons,List.foldl_nil];omega⟩
theorem Aa7 {q:List Item} (hq:q≠[]):(De q).getLast?.getD default=(De q).getLast (D6 hq):=by
 rw[List.getLast?_eq_some_getLast (D6 hq)];rfl
theorem K0 (n:Net) (up:List Bool) (hr:Ac n=true) (hcost:Cq n=true) (s:List Item × List Int × List Int) (hI:ReachInv n s) (hne:s.1≠[]):ReachInv n (Oj n up s)∧reachM (Oj n up s)<reachM s:=by
 have hf:=C4 hr
 have hx:=hI.items _ ((S2 s.1 hne).mem_iff.1 (List.getLast_mem (D6 hne)))
 have hd:∀ y∈(De s.1).dropLast,y∈s.1:=fun y hy=>(S2 s.1 hne).mem_iff.1 ((List.dropLast_sublist _).subset hy)
 have h0:0<s.1.length:=List.length_pos_iff.2 hne
 have hdl:(De s.1).dropLast.length+1=s.1.length:=by rw[List.length_dropLast,Ee];omega
 have hfew:=hI.few
 rw[Oj,Aa7 hne]
 generalize (De s.1).getLast (D6 hne)=x at *
 split
 ·exact⟨⟨hI.rootsL,hI.costsL,fun y hy=>hI.items y (hd y hy),by simp only;omega⟩,by unfold reachM;simp only;omega⟩
 ·rename_i hneg
  have hk:x.dev.toNat<s.2.1.length:=by rw[hI.rootsL];omega
  rw[Ag (l:=s.2.1) (i:=x.dev) (by rw[hI.rootsL];omega)]at hneg
  have hm:=Ao8 hk qn hx.2.2.1
  obtain ⟨h1,h2⟩:=Aas n up x hr hcost (m:=Vz (s.2.1.set x.dev.toNat x.root)) ⟨hx.2.2.1,hx.2.2.2.1,by have:=hx.2.2.2.2;omega⟩ (De s.1).dropLast (fun y hy=>by have:=hI.items y (hd y hy);omega) n.ports.length (Nat.le_refl _)
  exact⟨⟨by simp only[List.length_set];exact hI.rootsL,by simp only[List.length_set];exact hI.costsL,h1,by simp only;omega⟩,by unfold reachM;simp only;omega⟩
theorem Yf (n:Net) (up:List Bool) (hr:Ac n=true) (hcost:Cq n=true):∀ (f g:Nat) (s:List Item × List Int × List Int),ReachInv n s→reachM s≤f→reachM s≤g→Hj n up f s=Hj n up g s
 | 0,0,_,_,_,_=>rfl
 | 0,g+1,s,_,h,_=>by
  have:s.1=[]:=List.eq_nil_of_length_eq_zero (by unfold reachM at h;omega)
  rw[Hj,Hj,if_pos this]
 | f+1,0,s,_,_,h=>by
  have:s.1=[]:=List.eq_nil_of_length_eq_zero (by unfold reachM at h;omega)
  rw[Hj,Hj,if_pos this]
 | f+1,g+1,s,hI,h1,h2=>by
  rw[Hj,Hj]
  split
  ·rfl
  ·rename_i hne
   obtain ⟨h3,h4⟩:=K0 n up hr hcost s hI hne
   exact Yf n up hr hcost f g _ h3 qn qn
def J5 (n:Net) (up:List Bool) (s:List Item × List Int × List Int):List Item × List Int × List Int:=Hj n up (reachM s) s
theorem Akk (n:Net) (up:List Bool) (s:List Item × List Int × List Int) (h:s.1=[]):J5 n up s=s:=by
 rw[J5]
 cases reachM s with
 | zero=>rfl
 | succ m=>rw[Hj,if_pos h]
theorem Ahh (n:Net) (up:List Bool) (hr:Ac n=true) (hcost:Cq n=true) (s:List Item × List Int × List Int) (hI:ReachInv n s) (hne:s.1≠[]):J5 n up s=J5 n up (Oj n up s):=by
 obtain ⟨h3,h4⟩:=K0 n up hr hcost s hI hne
 rw[J5,J5]
 obtain ⟨m,hm⟩:∃ m,reachM s=m+1:=⟨reachM s-1,by omega⟩
 rw[hm,Hj,if_neg hne]
 exact Yf n up hr hcost _ _ _ h3 qn (Nat.le_refl _)
theorem X7 (ranks:List Int) (m:Nat) (hrr:∀ r∈ranks,0≤r):∀ j,j≤ranks.length→∀ y∈Eh ranks j,0≤y.dev∧y.dev<m+ranks.length∧0≤y.root∧y.cost=0
 | 0,_,y,hy=>by simp[Eh]at hy
 | j+1,hj,y,hy=>by
  rw[Jq]at hy
  rcases List.mem_cons.1 ((Ok _ _).mem_iff.1 hy) with rfl | hy
  ·have h1:=hrr (ranks[j]'qn) (List.getElem_mem _)
   have h2:(0:Int)≤(j:Int)∧(j:Int)<m+ranks.length:=by omega
   exact⟨h2.1,h2.2,by rw[A8 (show j<ranks.length by omega)];exact h1,E⟩
  ·exact X7 ranks m hrr j qn y hy
theorem Ac6 (n:Net) (ranks roots costs:List Int) (hr:Ac n=true) (hrk:ranks.length=n.devices.length) (hro:roots.length=n.devices.length) (hc:costs.length=n.devices.length) (hrr:∀ r∈ranks,0≤r):ReachInv n (Eh ranks ranks.length,roots,costs):=by
 have hf:=C4 hr
 have hm:=Aru roots
 refine⟨hro,hc,fun y hy=>?_,by simp only[Lx];omega⟩
 have:=X7 ranks 0 hrr _ (Nat.le_refl _) y hy
 simp only
 omega
def Le2 (r c r' c':Int):Prop:=r<r'∨(r=r'∧c≤c')
theorem Ape {x y:Item} (h:B7 y x=false):Le2 x.root x.cost y.root y.cost:=by
 simp only[B7,Bool.or_eq_false_iff,decide_eq_false_iff_not,Bool.and_eq_false_iff,beq_eq_false_iff_ne]at h
 unfold Le2
 omega
theorem Xm {a b c d e f:Int} (h1:Le2 a b c d) (h2:Le2 c d e f):Le2 a b e f:=by
 unfold Le2 at *
 omega
theorem Ah8 {a b c d m:Int} (h1:Le2 a b c d) (hm:0≤m):Le2 a b c (d+m):=by
 unfold Le2 at *
 omega
def Km (n:Net) (up:List Bool) (i j:Nat):Prop:=i<n.ports.length∧B9 n up i=j
theorem Hl {n:Net} {up:List Bool} (hr:Ac n=true) {i j:Nat} (h:Km n up i j):j<n.ports.length:=by
 have:=Uw (up:=up) hr h.1 (by rw[h.2];omega)
 rw[h.2]at this
 omega
theorem Xs {n:Net} {up:List Bool} (hr:Ac n=true) {i j:Nat} (h:Km n up i j) :
  ∃ k:Nat,k<n.links.length∧(nth n.ports i).link=k∧(nth n.ports j).link=k∧up.getD k false=true∧(((nth n.links k).a=i∧(nth n.links k).b=j)∨((nth n.links k).a=j∧(nth n.links k).b=i))∧Bl n i≠Bl n j:=by
 have hj:=Hl hr h
 obtain ⟨hi,hf⟩:=h
 have hp:=Kx hr hi
 have hpl:=Hb hr hi
 simp only[D8,Bool.and_eq_true,Bool.or_eq_true,beq_iff_eq]at hp
 have hp:=hp.2
 have e:nth n.ports i=n.ports[i]:=Ag (l:=n.ports) (i:=(i:Int)) (by simpa using hi)
 unfold B9 at hf
 rw[A8 hi]at hf
 simp only at hf
 split at hf
 ·omega
 ·rename_i hc
  simp only[Bool.or_eq_true,decide_eq_true_eq,not_or,Bool.not_eq_true',Bool.not_eq_false]at hc
  rcases hp with hp | hp
  ·omega
  ·have hl:n.ports[i].link.toNat<n.links.length:=by omega
   have hlk:=Uk hr hl
   have he:=Jd hr hl
   have ek:((n.ports[i].link.toNat:Nat):Int)=n.ports[i].link:=by omega
   refine⟨n.ports[i].link.toNat,hl,by rw[e];omega,?_⟩
   simp only[J8,Bool.and_eq_true,beq_iff_eq,bne_iff_ne]at hlk
   obtain ⟨⟨⟨_,hne⟩,h1⟩,h2⟩:=hlk
   rw[ek]
   rw[Ag (l:=n.links) (i:=n.ports[i].link) qn]at hf hp ⊢
   generalize n.links[n.ports[i].link.toNat]=l at *
   rcases hp.2 with ha | hb
   ·have hb:l.b=j:=by omega
    rw[ha,hb]at hne
    rw[hb]at h2
    exact⟨by omega,by simpa using hc.2,.inl ⟨ha,hb⟩,hne⟩
   ·have ha:l.a=j:=by omega
    rw[ha,hb]at hne
    rw[ha]at h1
    exact⟨by omega,by simpa using hc.2,.inr ⟨ha,hb⟩,fun h=>hne h.symm⟩
theorem Abl {n:Net} {up:List Bool} (hr:Ac n=true) {i j:Nat} (h:Km n up i j):Km n up j i:=by
 have hj:=Hl hr h
 obtain ⟨k,hk,_,h2,h3,h4,_⟩:=Xs hr h
 refine⟨hj,?_⟩
 unfold B9
 have e:n.ports.getD j default=nth n.ports j:=rfl
 rw[e]
 simp only[h2,Int.toNat_natCast,h3]
 rw[if_neg qz]
 omega
theorem C2 {n:Net} (hr:Ac n=true) {i:Nat} (hi:i<n.ports.length):0≤Bl n i∧Bl n i<n.devices.length:=by
 rw[Bl,Ag (l:=n.ports) (i:=(i:Int)) (by simpa using hi)]
 exact Qu hr hi
def Der (n:Net) (up:List Bool) (K R C:Int→Int) (r c d:Int):Prop :=
 (r=K d∧c=0)∨∃ i j:Nat,Km n up i j∧Bl n i=d∧0≤R (Bl n j)∧r=R (Bl n j)∧c=C (Bl n j)+Ie n i
structure Dij (n:Net) (up:List Bool) (K:Int→Int) (q:List Item) (R C:Int→Int):Prop where
 heap:Lj q q.length
 items:∀ x∈q,Der n up K R C x.root x.cost x.dev
 done:∀ d:Int,0≤d→d<n.devices.length→0≤R d→Der n up K R C (R d) (C d) d
 own:∀ d:Int,0≤d→d<n.devices.length→R d<0→⟨K d,0,d⟩∈q
 push:∀ i j:Nat,Km n up i j→R (Bl n i)<0→0≤R (Bl n j)→⟨R (Bl n j),C (Bl n j)+Ie n i,Bl n i⟩∈q
 low:∀ d:Int,0≤d→d<n.devices.length→0≤R d→∀ x∈q,Le2 (R d) (C d) x.root x.cost
 self:∀ d:Int,0≤d→d<n.devices.length→0≤R d→Le2 (R d) (C d) (K d) 0
 tri:∀ i j:Nat,Km n up i j→0≤R (Bl n i)→0≤R (Bl n j)→Le2 (R (Bl n i)) (C (Bl n i)) (R (Bl n j)) (C (Bl n j)+Ie n i)
theorem Aaq (n:Net) (up:List Bool) (x:Item) (q:List Item) (y:Item):∀ m,y∈(List.range m).foldl (Do n up x) q↔y∈q∨∃ i,i<m∧Bl n i=x.dev∧0≤B9 n up i∧y=⟨x.root,x.cost+(nth n.ports (B9 n up i)).cost,(nth n.ports (B9 n up i)).dev⟩
 | 0=>by simp
 | m+1=>by
  rw[List.range_succ,List.foldl_append]
  simp only[List.foldl_cons,List.foldl_nil]
  rw[Do]
  have ih:=Aaq n up x q y m
  have e:(n.ports.getD m default).dev=Bl n m:=rfl
  rw[e]
  split
  ·rename_i h
   rw[(Ok _ _).mem_iff,List.mem_cons,ih]
   constructor
   ·rintro (h1 | h1 | ⟨i,h1,h2⟩)
    ·exact .inr ⟨m,by omega,h.1,h.2,h1⟩
    ·exact .inl h1
    ·exact .inr ⟨i,by omega,h2⟩
   ·rintro (h1 | ⟨i,h1,h2,h3,h4⟩)
    ·exact .inr (.inl h1)
    ·by_cases hm:i=m
     ·subst hm;exact .inl h4
     ·exact .inr (.inr ⟨i,by omega,h2,h3,h4⟩)
  ·rename_i h
   rw[ih]
   constructor
   ·rintro (h1 | ⟨i,h1,h2⟩)
    ·exact .inl h1
    ·exact .inr ⟨i,by omega,h2⟩
   ·rintro (h1 | ⟨i,h1,h2,h3,h4⟩)
    ·exact .inl h1
    ·by_cases hm:i=m
     ·subst hm;exact absurd ⟨h2,h3⟩ h
     ·exact .inr ⟨i,by omega,h2,h3,h4⟩
theorem Ye (n:Net) (up:List Bool) (x:Item) (q:List Item) (h:Lj q q.length):∀ m,Lj ((List.range m).foldl (Do n up x) q) ((List.range m).foldl (Do n up x) q).length
 | 0=>h
 | m+1=>by
  rw[List.range_succ,List.foldl_append]
  simp only[List.foldl_cons,List.foldl_nil]
  have ih:=Ye n up x q h m
  rw[Do]
  split
  ·exact Aaw _ _ ih
  ·exact ih
theorem Ab1 {n:Net} {up:List Bool} {K R C R' C':Int→Int} {r c d:Int} (h:Der n up K R C r c d) (hs:∀ e,0≤R e→R' e=R e∧C' e=C e):Der n up K R' C' r c d:=by
 rcases h with h | ⟨i,j,h1,h2,h3,h4,h5⟩
 ·exact .inl h
 ·obtain ⟨e1,e2⟩:=hs _ h3
  exact .inr ⟨i,j,h1,h2,by rw[e1];exact h3,by rw[e1];exact h4,by rw[e2];exact h5⟩
theorem Asv {n:Net} {up:List Bool} {K R C:Int→Int} {q q':List Item} {x:Item} (h:Dij n up K q R C) (hp:(x::q').Perm q) (hh:Lj q' q'.length) (hx:0≤R x.dev):Dij n up K q' R C:=by
 have hm:∀ y,y∈q↔y=x∨y∈q':=fun y=>by rw[← hp.mem_iff,List.mem_cons]
 refine⟨hh,fun y hy=>h.items y ((hm y).2 (.inr hy)),h.done,fun d h0 h1 h2=>?_,fun i j hij h1 h2=>?_,fun d h0 h1 h2 y hy=>h.low d h0 h1 h2 y ((hm y).2 (.inr hy)),h.self,h.tri⟩
 ·rcases (hm _).1 (h.own d h0 h1 h2) with e | e
  ·rw[← e]at hx;simp only at hx;omega
  ·exact e
 ·rcases (hm _).1 (h.push i j hij h1 h2) with e | e
  ·rw[← e]at hx;simp only at hx;omega
  ·exact e
theorem Asu {n:Net} {up:List Bool} {K R C R' C':Int→Int} {q q':List Item} {x:Item} (hr:Ac n=true) (hcost:Cq n=true) (h:Dij n up K q R C) (hp:(x::q').Perm q) (hh:Lj q' q'.length)
  (hmin:∀ y∈q,B7 y x=false) (hx:R x.dev<0) (hx0:0≤x.root) (_hxd:0≤x.dev∧x.dev<n.devices.length)
  (hR:∀ e,R' e=if e=x.dev then x.root else R e) (hC:∀ e,C' e=if e=x.dev then x.cost else C e) :
  Dij n up K ((List.range n.ports.length).foldl (Do n up x) q') R' C':=by
 have hm:∀ y,y∈q↔y=x∨y∈q':=fun y=>by rw[← hp.mem_iff,List.mem_cons]
 have hn:=fun y=>Aaq n up x q' y n.ports.length
 have hs:∀ e,0≤R e→R' e=R e∧C' e=C e:=fun e he=>by
  have:e≠x.dev:=fun h=>by rw[h]at he;omega
  rw[hR,hC,if_neg this,if_neg this]
  exact⟨E,E⟩
 have hRd:R' x.dev=x.root:=by rw[hR,if_pos rfl]
 have hCd:C' x.dev=x.cost:=by rw[hC,if_pos rfl]
 have hxq:x∈q:=(hm x).2 (.inl rfl)
 have hle:∀ y∈q,Le2 x.root x.cost y.root y.cost:=fun y hy=>Ape (hmin y hy)
 have hnew:∀ y,y∈(List.range n.ports.length).foldl (Do n up x) q'↔y∈q'∨∃ i j:Nat,Km n up i j∧Bl n i=x.dev∧y=⟨x.root,x.cost+Ie n j,Bl n j⟩:=fun y=>by
  rw[hn y]
  constructor
  ·rintro (h1 | ⟨i,h1,h2,h3,h4⟩)
   ·exact .inl h1
   ·obtain ⟨j,hj⟩:∃ j:Nat,B9 n up i=j:=⟨(B9 n up i).toNat,by omega⟩
    rw[hj]at h4
    exact .inr ⟨i,j,⟨h1,hj⟩,h2,h4⟩
  ·rintro (h1 | ⟨i,j,h1,h2,h3⟩)
   ·exact .inl h1
   ·refine .inr ⟨i,h1.1,h2,by rw[h1.2];omega,?_⟩
    rw[h1.2]
    exact h3
 refine⟨Ye n up x q' hh _,fun y hy=>?_,fun d h0 h1 h2=>?_,fun d h0 h1 h2=>?_,fun i j hij h1 h2=>?_,fun d h0 h1 h2 y hy=>?_,fun d h0 h1 h2=>?_,fun i j hij h1 h2=>?_⟩
 ·rcases (hnew y).1 hy with hy | ⟨i,j,h1,h2,rfl⟩
  ·exact Ab1 (h.items y ((hm y).2 (.inr hy))) hs
  ·exact .inr ⟨j,i,Abl hr h1,E,by rw[h2,hRd];exact hx0,by rw[h2,hRd],by rw[h2,hCd]⟩
 ·by_cases hd:d=x.dev
  ·subst hd
   rw[hRd,hCd]
   exact Ab1 (h.items x hxq) hs
  ·rw[hR,if_neg hd]at h2
   obtain ⟨e1,e2⟩:=hs d h2
   rw[e1,e2]
   exact Ab1 (h.done d h0 h1 h2) hs
 ·have hd:d≠x.dev:=fun e=>by rw[e,hRd]at h2;omega
  rw[hR,if_neg hd]at h2
  refine(hnew _).2 (.inl ?_)
  rcases (hm _).1 (h.own d h0 h1 h2) with e | e
  ·exact absurd (congrArg Item.dev e) hd
  ·exact e
 ·have hd:Bl n i≠x.dev:=fun e=>by rw[e,hRd]at h1;omega
  rw[hR,if_neg hd]at h1
  by_cases hj:Bl n j=x.dev
  ·rw[hj,hRd,hCd]
   exact(hnew _).2 (.inr ⟨j,i,Abl hr hij,hj,E⟩)
  ·rw[hR,if_neg hj]at h2
   obtain ⟨e1,e2⟩:=hs _ h2
   rw[e1,e2]
   refine(hnew _).2 (.inl ?_)
   rcases (hm _).1 (h.push i j hij h1 h2) with e | e
   ·exact absurd (congrArg Item.dev e) hd
   ·exact e
 ·have hdx:Le2 (R' d) (C' d) x.root x.cost:=by
   by_cases hd:d=x.dev
   ·subst hd;rw[hRd,hCd];exact .inr ⟨rfl,Int.le_refl _⟩
   ·rw[hR,if_neg hd]at h2
    obtain ⟨e1,e2⟩:=hs d h2
    rw[e1,e2]
    exact h.low d h0 h1 h2 x hxq
  rcases (hnew y).1 hy with hy | ⟨i,j,h3,_,rfl⟩
  ·exact Xm hdx (hle y ((hm y).2 (.inr hy)))
  ·exact Ah8 hdx (by have:=K4 hcost (Hl hr h3);omega)
 ·by_cases hd:d=x.dev
  ·subst hd
   rw[hRd,hCd]
   exact hle _ (h.own _ h0 h1 hx)
  ·rw[hR,if_neg hd]at h2
   obtain ⟨e1,e2⟩:=hs d h2
   rw[e1,e2]
   exact h.self d h0 h1 h2
 ·have hj:=Hl hr hij
  have hpc:=K4 hcost hij.1
  have hne:=(Xs hr hij).choose_spec.2.2.2.2.2
  by_cases hd:Bl n i=x.dev
  ·rw[hd,hRd,hCd]
   have hjd:Bl n j≠x.dev:=fun e=>hne (by rw[hd,e])
   rw[hR,if_neg hjd]at h2
   obtain ⟨e1,e2⟩:=hs _ h2
   rw[e1,e2]
   exact hle _ (h.push i j hij (by rw[hd];exact hx) h2)
  ·rw[hR,if_neg hd]at h1
   obtain ⟨e1,e2⟩:=hs _ h1
   rw[e1,e2]
   by_cases hjd:Bl n j=x.dev
   ·rw[hjd,hRd,hCd]
    have hdl:=C2 hr hij.1
    exact Ah8 (h.low _ hdl.1 hdl.2 h1 x hxq) qn
   ·rw[hR,if_neg hjd]at h2
    obtain ⟨e3,e4⟩:=hs _ h2
    rw[e3,e4]
    exact h.tri i j hij h1 h2
def atI (l:List Int) (e:Int):Int:=if e<0 then -1 else nth l e
theorem Lh {l:List Int} {e:Int} (h:0≤e):atI l e=nth l e:=by rw[atI,if_neg qn]
theorem Anj {l:List Int} {d v:Int} (h0:0≤d) (h1:d<l.length) (e:Int):atI (l.set d.toNat v) e=if e=d then v else atI l e:=by
 by_cases he:e<0
 ·rw[atI,if_pos he,if_neg qn,atI,if_pos he]
 ·rw[atI,if_neg he,atI,if_neg he,nth,nth,List.getElem?_set]
  by_cases hd:e=d
  ·subst hd
   rw[if_pos rfl,if_pos rfl,if_pos qn]
   rfl
  ·rw[if_neg qn,if_neg hd]
structure DijS (n:Net) (up:List Bool) (ranks:List Int) (s:List Item × List Int × List Int):Prop where
 inv:ReachInv n s
 dij:Dij n up (atI ranks) s.1 (atI s.2.1) (atI s.2.2)
 bound:∀ c∈s.2.2,0≤c∧c≤1000000
theorem Akl (n:Net) (up:List Bool) (ranks:List Int) (hr:Ac n=true) (hcost:Cq n=true) (s:List Item × List Int × List Int) (hI:DijS n up ranks s) (hne:s.1≠[]):DijS n up ranks (Oj n up s):=by
 have hf:=C4 hr
 have h1:=(K0 n up hr hcost s hI.inv hne).1
 have hrest:=Arg s.1 hne
 have hheap:=Arh s.1 hne hI.dij.heap
 have hleast:=Aoz s.1 hI.dij.heap
 have hx:=hI.inv.items _ (hrest.mem_iff.1 (List.mem_cons_self ..))
 have hrl:=hI.inv.rootsL
 have hcl:=hI.inv.costsL
 have hd:=hI.dij
 have hb:=hI.bound
 rw[Oj,Aa7 hne,Ahj s.1 hne]at *
 generalize s.1.getD 0 default=x at *
 try simp only at *
 have ea:nth s.2.1 x.dev=atI s.2.1 x.dev:=(Lh hx.1).symm
 rw[ea];rw[ea]at h1
 split
 ·rename_i hc
  rw[if_pos hc]at h1
  exact⟨h1,Asv hd hrest hheap hc,hb⟩
 ·rename_i hc
  rw[if_neg hc]at h1
  refine⟨h1,Asu hr hcost hd hrest hheap hleast qn hx.2.2.1 ⟨hx.1,hx.2.1⟩ (Anj hx.1 qn) (Anj hx.1 qn),fun c hc=>?_⟩
  rcases List.mem_or_eq_of_mem_set hc with h | h
  ·exact hb c h
  ·omega
theorem Aat (n:Net) (up:List Bool) (ranks:List Int) (hr:Ac n=true) (hcost:Cq n=true):∀ (f:Nat) (s:List Item × List Int × List Int),DijS n up ranks s→reachM s≤f→DijS n up ranks (Hj n up f s)∧(Hj n up f s).1=[]
 | 0,s,h,hf=>⟨h,List.eq_nil_of_length_eq_zero (by unfold reachM at hf;rw[Hj];omega)⟩
 | f+1,s,h,hf=>by
  rw[Hj]
  split
  ·rename_i he;exact⟨h,he⟩
  ·rename_i hne
   exact Aat n up ranks hr hcost f _ (Akl n up ranks hr hcost s h hne) (by have:=(K0 n up hr hcost s h.inv hne).2;omega)
structure Solved (n:Net) (up:List Bool) (ranks roots costs:List Int):Prop where
 rootsL:roots.length=n.devices.length
 costsL:costs.length=n.devices.length
 bound:∀ c∈costs,0≤c∧c≤1000000
 root:∀ d:Int,0≤d→d<n.devices.length→0≤nth roots d
 self:∀ d:Int,0≤d→d<n.devices.length→Le2 (nth roots d) (nth costs d) (nth ranks d) 0
 tri:∀ i j:Nat,Km n up i j→Le2 (nth roots (Bl n i)) (nth costs (Bl n i)) (nth roots (Bl n j)) (nth costs (Bl n j)+Ie n i)
 der:∀ d:Int,0≤d→d<n.devices.length→(nth roots d=nth ranks d∧nth costs d=0)∨∃ i j:Nat,Km n up i j∧Bl n i=d∧nth roots d=nth roots (Bl n j)∧nth costs d=nth costs (Bl n j)+Ie n i
theorem Anz (n:Net) (up:List Bool) (ranks:List Int) (hr:Ac n=true) (s:List Item × List Int × List Int) (h:DijS n up ranks s) (he:s.1=[]):Solved n up ranks s.2.1 s.2.2:=by
 have hd:=h.dij
 rw[he]at hd
 have h0:∀ d:Int,0≤d→d<n.devices.length→0≤atI s.2.1 d:=fun d h1 h2=>by
  by_cases hc:0≤atI s.2.1 d
  ·exact hc
  ·have:=hd.own d h1 h2 qn
   simp at this
 refine⟨h.inv.rootsL,h.inv.costsL,h.bound,fun d h1 h2=>?_,fun d h1 h2=>?_,fun i j hij=>?_,fun d h1 h2=>?_⟩
 ·have:=h0 d h1 h2
  rwa [Lh h1]at this
 ·have:=hd.self d h1 h2 (h0 d h1 h2)
  simpa only [Lh h1] using this
 ·have hi:=C2 hr hij.1
  have hj:=C2 hr (Hl hr hij)
  have:=hd.tri i j hij (h0 _ hi.1 hi.2) (h0 _ hj.1 hj.2)
  simpa only [Lh hi.1,Lh hj.1] using this
 ·rcases hd.done d h1 h2 (h0 d h1 h2) with h3 | ⟨i,j,h3,h4,_,h5,h6⟩
  ·simp only[Lh h1]at h3
   exact .inl h3
  ·have hj:=C2 hr (Hl hr h3)
   simp only[Lh h1,Lh hj.1]at h5 h6
   exact .inr ⟨i,j,h3,h4,h5,h6⟩
theorem W8 (ranks:List Int) (y:Item):∀ j,y∈Eh ranks j↔∃ i,i<j∧y=⟨ranks.getD i 0,0,i⟩
 | 0=>by simp[Eh]
 | j+1=>by
  rw[Jq,(Ok _ _).mem_iff,List.mem_cons,W8 ranks y j]
  constructor
  ·rintro (h | ⟨i,h1,h2⟩)
   ·exact⟨j,by omega,h⟩
   ·exact⟨i,by omega,h2⟩
  ·rintro ⟨i,h1,h2⟩
   by_cases h:i=j
   ·subst h;exact .inl h2
   ·exact .inr ⟨i,by omega,h2⟩
theorem Z4 (ranks:List Int):∀ j,Lj (Eh ranks j) (Eh ranks j).length
 | 0=>fun c _ h2 _=>by simp[Eh]at h2
 | j+1=>by
  rw[Jq]
  exact Aaw _ _ (Z4 ranks j)
theorem Acm {v:Int} {m:Nat} {d:Int} (h1:d<m) (h0:0≤d):nth (List.replicate m v) d=v:=by
 rw[Ag (by simp;omega)];simp
theorem Anx (n:Net) (up:List Bool) (ranks:List Int) (hr:Ac n=true) (hrk:ranks.length=n.devices.length) (hrr:∀ r∈ranks,0≤r) :
  DijS n up ranks (Eh ranks ranks.length,List.replicate n.devices.length (-1),List.replicate n.devices.length 0):=by
 have hneg:∀ d:Int,0≤d→d<n.devices.length→atI (List.replicate n.devices.length (-1)) d=-1:=fun d h0 h1=>by rw[Lh h0,Acm h1 h0]
 refine⟨Ac6 n ranks _ _ hr hrk qz qz hrr,⟨Z4 ranks _,fun x hx=>?_,fun d h0 h1 h2=>?_,fun d h0 h1 h2=>?_,fun i j hij h1 h2=>?_,fun d h0 h1 h2=>?_,fun d h0 h1 h2=>?_,fun i j hij h1 h2=>?_⟩,fun c hc=>?_⟩
 ·obtain ⟨i,h1,rfl⟩:=(W8 ranks x _).1 hx
  refine .inl ⟨?_,E⟩
  simp only
  rw[Lh qn,Ag (by simpa using h1),A8 h1]
  rfl
 ·rw[hneg d h0 h1]at h2;omega
 ·refine(W8 ranks _ _).2 ⟨d.toNat,by omega,?_⟩
  rw[Lh h0,Ag qn,A8 qn,Int.toNat_of_nonneg h0]
 ·have hj:=C2 hr (Hl hr hij)
  rw[hneg _ hj.1 hj.2]at h2;omega
 ·rw[hneg d h0 h1]at h2;omega
 ·rw[hneg d h0 h1]at h2;omega
 ·have hj:=C2 hr (Hl hr hij)
  rw[hneg _ hj.1 hj.2]at h2;omega
 ·have:=List.eq_of_mem_replicate hc
  omega
def Qt (n:Net) (up:List Bool) (ranks:List Int):List Item × List Int × List Int:=J5 n up (Eh ranks ranks.length,List.replicate n.devices.length (-1),List.replicate n.devices.length 0)
theorem Acj (n:Net) (up:List Bool) (ranks:List Int) (hr:Ac n=true) (hcost:Cq n=true) (hrk:ranks.length=n.devices.length) (hrr:∀ r∈ranks,0≤r):Solved n up ranks (Qt n up ranks).2.1 (Qt n up ranks).2.2:=by
 obtain ⟨h1,h2⟩:=Aat n up ranks hr hcost _ _ (Anx n up ranks hr hrk hrr) (Nat.le_refl _)
 exact Anz n up ranks hr _ h1 h2
end Go.Sy.YteinjapglfkamaaGreat
