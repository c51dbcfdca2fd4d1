/-
  I16 I17 I18 I12 I13 I14 I19 Sy30 Sy31 Sy32 Sy33 I32 I33 I34 I35 I27: parts of a proof, joined by program.
-/
import Derived.Test.YtgblchnfjbkipaaGreatDoorXG4
import Derived.Test.YtgblchnfjbkipaaGreatDoorXG3
namespace Go.Sy.YtgblchnfjbkipaaGreatDoor
open Go.Proofs
attribute [local irreducible] Go.Sy.G Go.Sy.DR
set_option maxRecDepth 100000
set_option maxHeartbeats 4000000
def Jk (i:Nat) (c:UInt8):Bool:=Aa2 c || (Dy c && decide (i≠0))
theorem Aay (s:ByteArray):Am s=(Qp Jk s.data.toList && (decide (0<s.size) && decide (s.size≤12))):=by
 have hsz:s.data.toList.length=s.size:=rfl
 rw[Am,← hsz]
 cases hl:s.data.toList with
 | nil=>rfl
 | cons c l =>
  have e:Qp Jk (c::l)=(Aa2 c && l.all fun c=>Aa2 c || Dy c):=by
   rw[Bool.eq_iff_iff,allB_iff,Bool.and_eq_true,List.all_eq_true]
   constructor
   ·intro h
    refine⟨by have:=h 0 qd;simpa [Jk] using this,fun x hx=>?_⟩
    obtain ⟨i,hi,rfl⟩:=List.mem_iff_getElem.1 hx
    have:=h (i+1) (by simp;omega)
    simpa [Jk] using this
   ·rintro ⟨h1,h2⟩ i hi
    cases i with
    | zero=>simp[Jk,h1]
    | succ i =>
     have:=h2 (l[i]'(by simp at hi;omega)) (List.getElem_mem _)
     simpa [Jk] using this
  rw[e,Aco]
  simp
theorem Dq (s:ByteArray) (hs:s.size≤1000000):Sy.Spec Tryz.prog 235 [Ac s] [] (Af (Am s)) []:=cT F235 Tryz.ntmps235 fun F hF=>by
 have hsz:s.data.toList.length=s.size:=rfl
 have hw:=Aay s
 obtain ⟨r,hr⟩:∃ r,Am s=r:=⟨_,rfl⟩
 rw[hr]at hw ⊢
 refine T ?_
 refine Bz s.size (fun j=>M4 Jk s.data.toList j) (fun j=>[(0,Ac s),(7,Aa s.size),(8,Aa j)]) (fun _=>[]) [] (Ej _ _) U ?_
 intro j hj hI
 refine T ?_
 refine⟨fun h=>?_,fun h=>?_⟩
 ·have hlt:j<s.data.toList.length:=qA h
  have hb:Ak s j=s.data.toList[j]:=I4 hlt
  have hno:=fun h=>Ev (p:=Jk) hlt h
  have hnx:=fun h=>Dz (p:=Jk) hI hlt h
  rw[← hb]at hno hnx
  clear h
  have hx:Jk j (Ak s j)=((decide (97≤(Ak s j).toNat) && decide ((Ak s j).toNat≤122)) || ((decide (48≤(Ak s j).toNat) && decide ((Ak s j).toNat≤57)) && decide (j≠0))):=rfl
  rcases (by omega:(Ak s j).toNat<48∨(48≤(Ak s j).toNat∧(Ak s j).toNat≤57)∨(57<(Ak s j).toNat∧(Ak s j).toNat<97)∨(97≤(Ak s j).toNat∧(Ak s j).toNat≤122)∨122<(Ak s j).toNat) with h | h | h | h | h
  ·rw[hno (by rw[hx,decide_eq_false (by omega:¬ 97≤(Ak s j).toNat),decide_eq_false (by omega:¬ 48≤(Ak s j).toNat)];rfl),Bool.false_and]at hw
   subst hw
   refine T ?_
   exact D
  ·by_cases h0:j=0
   ·subst h0
    rw[hno (by rw[hx,decide_eq_false (by omega:¬ 97≤(Ak s 0).toNat)];simp),Bool.false_and]at hw
    subst hw
    refine T ?_
    exact D
   ·refine T ?_
    exact B1 [] hI j_ (hnx (by rw[hx];simp[h,h0])) U
  ·rw[hno (by rw[hx,decide_eq_false (by omega:¬ 97≤(Ak s j).toNat),decide_eq_false (by omega:¬ (Ak s j).toNat≤57)];simp),Bool.false_and]at hw
   subst hw
   refine T ?_
   exact D
  ·refine T ?_
   exact B1 [] hI j_ (hnx (by rw[hx];simp[h])) U
  ·rw[hno (by rw[hx,decide_eq_false (by omega:¬ (Ak s j).toNat≤122),decide_eq_false (by omega:¬ (Ak s j).toNat≤57)];simp),Bool.false_and]at hw
   subst hw
   refine T ?_
   exact D
 ·have hje:j=s.size:=qB h
  subst hje
  rw[Od hI (Nat.le_refl _),Bool.true_and]at hw
  clear h
  subst hw
  by_cases h0:0<s.size
  ·refine T ?_
   refine⟨fun _=>?_,fun h=>absurd (of_decide_eq_false h) j_⟩
   refine T ?_
   refine Bn q_ (.cons .tmp .nil) (congrArg Af ?_) q_
   rw[decide_eq_true h0,Bool.true_and]
   exact decide_eq_decide.2 j_
  ·rw[decide_eq_false h0,Bool.false_and]
   refine T ?_
   exact D
theorem Sh (c:UInt8):Sy.Spec Tryz.prog 290 [An c] [] (Cn (digI c)) []:=cT F290 Tryz.ntmps290 fun F hF=>by
 have hres:=digI.eq_1 c
 generalize digI c=res at *
 have hcn:=c.toNat_lt
 rcases (by omega:c.toNat<48∨(48≤c.toNat∧c.toNat≤57)∨(57<c.toNat∧c.toNat<97)∨(97≤c.toNat∧c.toNat≤102)∨102<c.toNat) with h | h | h | h | h
 ·rw[if_neg j_,if_neg j_]at hres
  subst hres
  refine T ?_
  exact D
 ·rw[if_pos j_]at hres
  subst hres
  refine T ?_
  refine Bn q_ (.cons .tmp .nil) ?_ q_
  refine congrArg (fun z=>SV.val (.int .u64 z)) (?_:_=IntKind.u64.wrap (IntKind.u8.wrap ((c.toNat:Int)-48)))
  rw[IntKind.wrap_u8,IntKind.wrap_u64];omega
 ·rw[if_neg j_,if_neg j_]at hres
  subst hres
  refine T ?_
  exact D
 ·rw[if_neg j_,if_pos j_]at hres
  subst hres
  refine T ?_
  refine Bn q_ (.cons .tmp .nil) ?_ q_
  refine congrArg (fun z=>SV.val (.int .u64 z)) (?_:_=IntKind.u64.wrap (IntKind.u64.wrap (IntKind.u8.wrap ((c.toNat:Int)-97))+10))
  rw[IntKind.wrap_u8,IntKind.wrap_u64,IntKind.wrap_u64];omega
 ·rw[if_neg j_,if_neg j_]at hres
  subst hres
  refine T ?_
  exact D
theorem J2 {s:ByteArray}:∀ {j:Nat},(∀ i,i<j→Kv s i=true)→0≤Ku s j∧Ku s j<256 ^ j
 | 0,_=>by simp[Ku]
 | j+1,h=>by
  have ih:=J2 (s:=s) (j:=j) (fun i hi=>h i j_)
  have hj:=h j j_
  simp only[Kv,Bool.and_eq_true,decide_eq_true_eq]at hj
  have d1:=M9 (Ak s (3 * j))
  have d2:=M9 (Ak s (3 * j+1))
  rw[Ku,Int.pow_succ]
  omega
theorem Aaz (m a b:Nat) (hm:m<72057594037927936) (ha:a<16) (hb:b<16):bits .or .u64 (bits .or .u64 (IntKind.u64.wrap ((m:Int) * 2 ^ min (Int.toNat 8) IntKind.u64.bits)) (IntKind.u64.wrap ((a:Int) * 2 ^ min (Int.toNat 4) IntKind.u64.bits))) (b:Int)=((m * 256+a * 16+b:Nat):Int):=by
 have e1:IntKind.u64.wrap ((m:Int) * 2 ^ min (Int.toNat 8) IntKind.u64.bits)=((m * 256:Nat):Int):=by
  show IntKind.u64.wrap ((m:Int) * 256)=_
  rw[IntKind.wrap_u64];omega
 have e2:IntKind.u64.wrap ((a:Int) * 2 ^ min (Int.toNat 4) IntKind.u64.bits)=((a * 16:Nat):Int):=by
  show IntKind.u64.wrap ((a:Int) * 16)=_
  rw[IntKind.wrap_u64];omega
 have o1:=Nat.two_pow_add_eq_or_of_lt (i:=8) (b:=a * 16) j_ m
 have o2:=Nat.two_pow_add_eq_or_of_lt (i:=4) (b:=b) j_ (m * 16+a)
 have f1:m * 256 ||| a * 16=m * 256+a * 16:=by rw[Nat.mul_comm m 256];exact o1.symm
 have f2:(m * 256+a * 16) ||| b=m * 256+a * 16+b:=by
  have e:m * 256+a * 16=2 ^ 4 * (m * 16+a):=by omega
  rw[e];exact o2.symm
 rw[e1,e2,bits_or_u64_nat _ _ j_ j_,f1,bits_or_u64_nat _ _ j_ j_,f2]
theorem macR_no {s:ByteArray} {j:Nat} (hj:j<6) (h:Kv s j=false):macR s=(0,false):=by
 rw[macR,if_neg]
 rintro ⟨_,h2⟩
 rw[List.all_eq_true]at h2
 rw[h2 j (List.mem_range.2 hj)]at h;cases h
theorem Aa0 (s:ByteArray) (hs:s.size≤1000000):Sy.Spec Tryz.prog 237 [Ac s] [] (.tup [Cn (macR s).1,Af (macR s).2]) []:=cT F237 Tryz.ntmps237 fun F hF=>by
 have hno:=@macR_no s
 have hyes:=macR.eq_1 s
 generalize macR s=res at *
 by_cases h17:s.size=17
 rotate_left
 ·rw[if_neg (fun e=>h17 e.1)]at hyes
  subst hyes
  refine T ?_
  exact D
 refine T ?_
 refine Bz 6 (fun j=>∀ i,i<j→Kv s i=true) (fun j=>[(0,Ac s),(4,Cn (Ku s j)),(11,Aa j)]) (fun _=>[]) [] (fun i hi=>by omega) U ?_
 intro j hj hI
 have hmv:=J2 hI
 refine T ?_
 refine⟨fun h=>?_,fun h=>?_⟩
 ·have hlt:j<6:=qA h
  have hno:=hno hlt
  clear h
  have i0:(3 * ((j:Nat):Int)).toNat=3 * j:=by omega
  have i1:(3 * ((j:Nat):Int)+1).toNat=3 * j+1:=by omega
  have i2:(3 * ((j:Nat):Int)+2).toNat=3 * j+2:=by omega
  have hx:Kv s j=(decide (digI (Ak s (3 * j))≤15) && decide (digI (Ak s (3 * j+1))≤15) && (decide (5≤j) || decide ((Ak s (3 * j+2)).toNat=58))):=rfl
  have hv:Ku s (j+1)=Ku s j * 256+digI (Ak s (3 * j)) * 16+digI (Ak s (3 * j+1)):=rfl
  rw[← i1,← i2,← i0]at hx
  rw[← i1,← i0]at hv
  have d1:=M9 (Ak s (3 * ((j:Nat):Int)).toNat)
  have d2:=M9 (Ak s (3 * ((j:Nat):Int)+1).toNat)
  have q1:=Sh (Ak s (3 * ((j:Nat):Int)).toNat)
  have q2:=Sh (Ak s (3 * ((j:Nat):Int)+1).toNat)
  by_cases c1:digI (Ak s (3 * ((j:Nat):Int)).toNat)≤15
  ·have f1:decide (digI (Ak s (3 * ((j:Nat):Int)).toNat)>15)=false:=decide_eq_false j_
   by_cases c2:digI (Ak s (3 * ((j:Nat):Int)+1).toNat)≤15
   ·have f2:decide (digI (Ak s (3 * ((j:Nat):Int)+1).toNat)>15)=false:=decide_eq_false j_
    have hp:(256:Int) ^ j≤256 ^ 5:=by
     have:=Nat.pow_le_pow_right (n:=256) qc (show j≤5 by omega)
     exact_mod_cast this
    have hst:=Aaz (Ku s j).toNat (digI (Ak s (3 * ((j:Nat):Int)).toNat)).toNat (digI (Ak s (3 * ((j:Nat):Int)+1).toNat)).toNat j_ j_ j_
    have hst2:((((Ku s j).toNat * 256+(digI (Ak s (3 * ((j:Nat):Int)).toNat)).toNat * 16+(digI (Ak s (3 * ((j:Nat):Int)+1).toNat)).toNat:Nat)):Int)=Ku s (j+1):=by rw[hv];omega
    rw[hst2,Int.toNat_of_nonneg hmv.1,Int.toNat_of_nonneg d1.1,Int.toNat_of_nonneg d2.1]at hst
    by_cases c3:j<5
    ·by_cases c4:(Ak s (3 * ((j:Nat):Int)+2).toNat).toNat=58
     ·have f4:(((Ak s (3 * ((j:Nat):Int)+2).toNat).toNat:Int) != 58)=false:=by rw[c4];rfl
      have hmj:Kv s j=true:=by rw[hx,c4];simp[c1,c2]
      refine T ?_
      refine C q1 F290 ?_
      refine C q2 F290 ?_
      exact B1 [] hI hlt (fun i hi=>by
       by_cases e:i=j
       ·rw[e];exact hmj
       ·exact hI i j_) ⟨⟨q_,q_,congrArg Cn hst.symm,q_,q_,q_,z_⟩,z_,q_,q_⟩
     ·have f4:(((Ak s (3 * ((j:Nat):Int)+2).toNat).toNat:Int) != 58)=true:=by
       rw[bne_iff_ne];omega
      have hmj:Kv s j=false:=by rw[hx,decide_eq_false c4,decide_eq_false (by omega:¬ 5≤j)];simp
      rw[hno hmj]
      refine T ?_
      refine C q1 F290 ?_
      refine C q2 F290 ?_
      exact D
    ·have hmj:Kv s j=true:=by rw[hx];simp[c1,c2];omega
     refine T ?_
     refine C q1 F290 ?_
     refine C q2 F290 ?_
     exact B1 [] hI hlt (fun i hi=>by
      by_cases e:i=j
      ·rw[e];exact hmj
      ·exact hI i j_) ⟨⟨q_,q_,congrArg Cn hst.symm,q_,q_,q_,z_⟩,z_,q_,q_⟩
   ·have f2:decide (digI (Ak s (3 * ((j:Nat):Int)+1).toNat)>15)=true:=decide_eq_true j_
    rw[hno (by rw[hx,decide_eq_false c2];simp)]
    refine T ?_
    refine C q1 F290 ?_
    refine C q2 F290 ?_
    exact D
  ·have f1:decide (digI (Ak s (3 * ((j:Nat):Int)).toNat)>15)=true:=decide_eq_true j_
   rw[hno (by rw[hx,decide_eq_false c1];rfl)]
   refine T ?_
   refine C q1 F290 ?_
   refine C q2 F290 ?_
   exact D
 ·have hje:j=6:=qB h
  subst hje
  clear h
  rw[if_pos ⟨h17,by rw[List.all_eq_true];intro i hi;exact hI i (List.mem_range.1 hi)⟩]at hyes
  subst hyes
  refine T ?_
  exact D
theorem Vm (m:Nat) (h:m<18446744073709551616):(((bits .and .u64 (m:Int) 281474976710655).fdiv (2 ^ min (Int.toNat 32) IntKind.u64.bits)) != 512)=!(Hp m):=by
 have e:=bits_and_u64_nat m 281474976710655 h qc
 have e2:m &&& 281474976710655=m % 281474976710656:=Nat.and_two_pow_sub_one_eq_mod m 48
 have e3:bits .and .u64 (m:Int) 281474976710655=((m % 281474976710656:Nat):Int):=by rw[← e2];exact e
 have e4:((m % 281474976710656:Nat):Int).fdiv (2 ^ min (Int.toNat 32) IntKind.u64.bits)=((m % 281474976710656 / 4294967296:Nat):Int):=by
  show ((m % 281474976710656:Nat):Int).fdiv 4294967296=_
  rw[Int.fdiv_eq_ediv_of_nonneg _ qc,Int.natCast_ediv];rfl
 rw[e3,e4,Hp]
 by_cases hh:m % 281474976710656 / 4294967296=512
 ·rw[hh,decide_eq_true j_];rfl
 ·rw[decide_eq_false j_]
  simp;omega
def Abd (m:Int):Int:=if Hp m=true then IntKind.u32.wrap (bits .and .u64 m 281474976710655) else 0
theorem Ab7 (m:Nat) (h:m<18446744073709551616):Sy.Spec Tryz.prog 291 [Cn m] [] (.tup [Aw (Abd m),Af (Hp m)]) []:=cT F291 Tryz.ntmps291 fun F hF=>by
 have hb:=Vm m h
 rw[Abd]
 cases hh:Hp m with
 | true =>
  have hb:=hb.trans (by rw[hh];rfl:_=false)
  rw[if_pos rfl]
  refine T ?_
  exact D
 | false =>
  have hb:=hb.trans (by rw[hh];rfl:_=true)
  rw[if_neg qd]
  refine T ?_
  exact D
theorem Zc (m:Nat) (h:m<18446744073709551616):Sy.Spec Tryz.prog 292 [Cn m] [] (Af (Tv m)) []:=cT F292 Tryz.ntmps292 fun F hF=>by
 have hb:=Zl m h
 refine T ?_
 exact Bn q_ (.cons .tmp .nil) (congrArg Af hb.symm) q_
theorem Oj (m:Nat) (h:m<18446744073709551616):Sy.Spec Tryz.prog 238 [Cn m] [] (Af (statB m)) []:=cT F238 Tryz.ntmps238 fun F hF=>by
 have q1:=Ab7 m h
 have q2:=Zc m h
 have hw:=statB.eq_1 (m:Int)
 rw[Int.toNat_natCast]at hw
 generalize statB (m:Int)=r at *
 generalize Abd (m:Int)=hv at *
 by_cases c1:(m:Int)≤281474976710655
 ·rw[decide_eq_true c1,Bool.true_and]at hw
  have f1:decide ((m:Int)≤281474976710655)=true:=decide_eq_true c1
  cases hh:Hp m with
  | true =>
   rw[hh]at q1 hw
   simp at hw
   subst hw
   refine T ?_
   refine C q1 F291 ?_
   exact D
  | false =>
   rw[hh]at q1 hw
   simp at hw
   subst hw
   refine T ?_
   refine C q1 F291 ?_
   refine C q2 F292 ?_
   exact D
 ·rw[decide_eq_false c1]at hw
  have f1:decide ((m:Int)≤281474976710655)=false:=decide_eq_false c1
  simp at hw
  subst hw
  refine T ?_
  refine C q1 F291 ?_
  exact D
def Et (one:ByteArray→Int × Bool) (out:List Int) (s:ByteArray) (b:Bool):List Int × Bool:=if b=true then Cy one out (A5 44 s) else (out,true)
theorem Aba {c:UInt8}:∀ {l:List UInt8},0≤Lib.indexByte l c→c∈l
 | [],h=>by simp[Lib.indexByte]at h
 | b::l,h=>by
  unfold Lib.indexByte at h
  by_cases hb:(b == c)=true
  ·simp at hb;simp[hb]
  ·rw[if_neg hb]at h
   by_cases h1:(Lib.indexByte l c == -1)=true
   ·rw[if_pos h1]at h;omega
   ·rw[if_neg h1]at h
    have:=Dt l c
    have h2:Lib.indexByte l c≠-1:=by simpa using h1
    exact List.mem_cons_of_mem _ (Aba j_)
theorem Qc (one:ByteArray→Int × Bool) (out:List Int) (s:ByteArray) :
  Et one out s true=(if (one (cutT 44 s).1).2=false∨out.length=16∨(∃ x,out.getLast? = some x∧(one (cutT 44 s).1).1≤x) then ([],false) else Et one (out++[(one (cutT 44 s).1).1]) (cutT 44 s).2.1 (cutT 44 s).2.2):=by
 rw[Et,if_pos rfl,Q9]
 have hsz:s.data.toList.length=s.size:=rfl
 have tk:∀ i,s.extract 0 i=mkT (s.data.toList.take i):=fun i=>by rw[← Dr s,B5,Ds];simp
 by_cases h:0≤Lib.indexByte s.data.toList 44
 ·have hm:=Aba h
  have e2:s.extract (D9 44 s.data.toList+1) s.size=mkT (s.data.toList.drop (D9 44 s.data.toList+1)):=by
   have:=B5 s.data.toList (D9 44 s.data.toList+1) s.size
   rw[Dr]at this
   rw[this,← hsz,List.take_length]
  rw[cutT,if_pos h,Hf 44 _ _ hm,List.nil_append,Cy,tk,e2]
  dsimp only
  rw[Et,if_pos rfl,Q9,Ds]
 ·have hm:(44:UInt8)∉s.data.toList:=fun hh=>h (Dj hh).1
  rw[cutT,if_neg h,Hg 44 _ _ hm,List.nil_append,Dr,Cy]
  simp only[Et,if_neg (show ¬ (false=true) by simp),Cy]
theorem Sx (s:ByteArray):(cutT 44 s).1.size≤s.size∧(cutT 44 s).2.1.size≤s.size∧((cutT 44 s).2.2=true→(cutT 44 s).2.1.size<s.size):=by
 have hsz:s.data.toList.length=s.size:=rfl
 have hlt:=Hq s.data.toList 44
 have ex:∀ i j,(s.extract i j).size=((s.data.toList.take j).drop i).length:=fun i j=>by
  have:=B5 s.data.toList i j
  rw[Dr]at this
  rw[this,Bw]
 rw[cutT]
 split
 ·rename_i h
  refine⟨?_,?_,fun _=>?_⟩
  ·rw[ex,List.length_drop,List.length_take];omega
  ·rw[ex,List.length_drop,List.length_take];omega
  ·rw[ex,List.length_drop,List.length_take]
   have:D9 44 s.data.toList+1≤s.data.toList.length:=by unfold D9;omega
   omega
 ·exact⟨Nat.le_refl _,Nat.zero_le _,fun e=>by cases e⟩
theorem Va (one:ByteArray→Int × Bool) (f:FuncId) (first cap:List SV) (hc:(SV.clo (.func f) first cap).inn []=true) (hr:∀ ρ:Nat→Nat,(SV.clo (.func f) first cap).ren ρ=.clo (.func f) first cap) (s0:ByteArray) (hs:s0.size≤10000) (hf:∀ p:ByteArray,p.size≤s0.size→M5 Tryz.prog f (first++[Ac p]++cap) (.tup [Aa (one p).1,Af (one p).2])) :
  Sy.Spec Tryz.prog 294 [Ac s0,.clo (.func f) first cap] [] (.tup [.sl 1 Aa (C0 one s0).1,Af (C0 one s0).2]) []:=cT F294 Tryz.ntmps294 fun F hF=>by
 have hres:C0 one s0=Et one [] s0 true:=rfl
 generalize C0 one s0=res at *
 have hc':(SV.clo (.func f) first cap).inn [1000]=true:=Db _ hc
 have hin:∀ y:SV,y.inn []=true→Bd [] (first++[y]++cap)=true:=fun y hy=>by
  simp only[SV.inn,Bool.and_eq_true]at hc
  rw[Bi,Bi,hc.1,hc.2]
  simp[Bd,hy]
 refine T ?_
 refine Cz 6 1000 1 Aa q_ q_ ?_
 refine T ?_
 refine Az (fun x:ByteArray × Bool × List Int=>res=Et one x.2.2 x.1 x.2.1∧x.1.size≤s0.size∧x.2.2.length≤16) (fun x=>[(0,Ac x.1),(1,.clo (.func f) first cap),(6,.osl 1000),(7,Af x.2.1)]) (fun x=>[(1000,.row 1 Aa x.2.2)]) (fun x=>if x.2.1=true then x.1.size+1 else 0) (s0,true,[]) [] ⟨hres,Nat.le_refl _,by simp⟩ ⟨⟨q_,q_,A2 _,hc',q_,q_,q_,q_,z_⟩,⟨.inl q_,q_,z_⟩,q_,q_⟩ ?_
 rintro ⟨s,b,out⟩ ⟨hI,hsz,hout⟩
 dsimp only at hI hsz hout ⊢
 cases b with
 | false =>
  rw[Et,if_neg qd]at hI
  subst hI
  refine T ?_
  refine A6 1000 q_ ?_
  refine T ?_
  exact D
 | true =>
  have q1:=M6 s 44 j_
  have hsm:=Sx s
  rw[Qc]at hI
  generalize cutT 44 s=ct at *
  obtain ⟨p,r,m⟩:=ct
  dsimp only at hI hsm q1
  have q2:=hf p j_
  generalize one p=op at *
  obtain ⟨v,ok⟩:=op
  dsimp only at hI q2
  refine T ?_
  refine C q1 F176 ?_
  refine Ym q2 q_ q_ q_ (by simp only[hin (Ac p) q_];rfl) q_ q_ ?_
  cases ok with
  | false =>
   rw[if_pos (.inl rfl)]at hI
   subst hI
   refine T ?_
   refine B0 4 1 Aa q_ ?_
   refine T ?_
   exact D
  | true =>
   by_cases c1:out.length=16
   ·rw[if_pos (.inr (.inl c1))]at hI
    subst hI
    refine T ?_
    refine B0 4 1 Aa q_ ?_
    refine T ?_
    exact D
   ·by_cases c2:out.length=0
    ·have hn:out=[]:=List.eq_nil_of_length_eq_zero c2
     rw[if_neg (by rw[hn];simp)]at hI
     refine T ?_
     refine X (Ag Γ.toTy 49 q_ q_ q_ q_ q_ (.row q_) (.lit (e:=Aa) (l:=[v]) q_ q_) qd (by simp;omega) (by simp;omega)) ?_
     refine Al (r,m,out++[v]) [(1000,49)] ⟨hI,by dsimp only;omega,by simp;omega⟩ (by
      have h3:=hsm.2.2
      cases m
      ·simp
      ·have:=h3 rfl;simp;omega) ⟨⟨rfl,rfl,hr _,hc',rfl,rfl,rfl,rfl,trivial⟩,⟨.inl rfl,rfl,trivial⟩,rfl,rfl⟩
    ·have hk:((out.length:Int)-1).toNat<out.length:=by omega
     have hlast:out.getLast? = some (out[((out.length:Int)-1).toNat]'hk):=by
      rw[List.getLast?_eq_getElem?,List.getElem?_eq_getElem j_]
      congr 1
      have:out.length-1=((out.length:Int)-1).toNat:=by omega
      simp only[this]
     have f2:decide ((out.length:Int)>0)=true:=decide_eq_true j_
     by_cases c3:v≤out[((out.length:Int)-1).toNat]'hk
     ·have f3:decide (out[((out.length:Int)-1).toNat]'hk≥v)=true:=decide_eq_true c3
      rw[if_pos (.inr (.inr ⟨_,hlast,c3⟩))]at hI
      subst hI
      refine T ?_
      refine B0 4 1 Aa q_ ?_
      refine T ?_
      exact D
     ·have f3:decide (out[((out.length:Int)-1).toNat]'hk≥v)=false:=decide_eq_false c3
      rw[if_neg (by
       rintro (hh | hh | ⟨x,hx,hh⟩)
       ·cases hh
       ·exact c1 hh
       ·rw[hlast]at hx
        simp only[Option.some.injEq]at hx
        rw[← hx]at hh
        exact c3 hh)]at hI
      refine T ?_
      refine X (Ag Γ.toTy 49 q_ q_ q_ q_ q_ (.row q_) (.lit (e:=Aa) (l:=[v]) q_ q_) qd (by simp;omega) (by simp;omega)) ?_
      refine Al (r,m,out++[v]) [(1000,49)] ⟨hI,by dsimp only;omega,by simp;omega⟩ (by
      have h3:=hsm.2.2
      cases m
      ·simp
      ·have:=h3 rfl;simp;omega) ⟨⟨rfl,rfl,hr _,hc',rfl,rfl,rfl,rfl,trivial⟩,⟨.inl rfl,rfl,trivial⟩,rfl,rfl⟩
theorem U8 (one:ByteArray→Int × Bool) (f:FuncId) (first cap:List SV) (hc:(SV.clo (.func f) first cap).inn []=true) (hr:∀ ρ:Nat→Nat,(SV.clo (.func f) first cap).ren ρ=.clo (.func f) first cap) (s0:ByteArray) (hs:s0.size≤10000) (hf:∀ p:ByteArray,p.size≤s0.size→M5 Tryz.prog f (first++[Ac p]++cap) (.tup [Aw (one p).1,Af (one p).2])) :
  Sy.Spec Tryz.prog 242 [Ac s0,.clo (.func f) first cap] [] (.tup [.sl 1 Aw (C0 one s0).1,Af (C0 one s0).2]) []:=cT F242 Tryz.ntmps242 fun F hF=>by
 have hres:C0 one s0=Et one [] s0 true:=rfl
 generalize C0 one s0=res at *
 have hc':(SV.clo (.func f) first cap).inn [1000]=true:=Db _ hc
 have hin:∀ y:SV,y.inn []=true→Bd [] (first++[y]++cap)=true:=fun y hy=>by
  simp only[SV.inn,Bool.and_eq_true]at hc
  rw[Bi,Bi,hc.1,hc.2]
  simp[Bd,hy]
 refine T ?_
 refine Cz 6 1000 1 Aw q_ q_ ?_
 refine T ?_
 refine Az (fun x:ByteArray × Bool × List Int=>res=Et one x.2.2 x.1 x.2.1∧x.1.size≤s0.size∧x.2.2.length≤16) (fun x=>[(0,Ac x.1),(1,.clo (.func f) first cap),(6,.osl 1000),(7,Af x.2.1)]) (fun x=>[(1000,.row 1 Aw x.2.2)]) (fun x=>if x.2.1=true then x.1.size+1 else 0) (s0,true,[]) [] ⟨hres,Nat.le_refl _,by simp⟩ ⟨⟨q_,q_,A2 _,hc',q_,q_,q_,q_,z_⟩,⟨.inl q_,q_,z_⟩,q_,q_⟩ ?_
 rintro ⟨s,b,out⟩ ⟨hI,hsz,hout⟩
 dsimp only at hI hsz hout ⊢
 cases b with
 | false =>
  rw[Et,if_neg qd]at hI
  subst hI
  refine T ?_
  refine A6 1000 q_ ?_
  refine T ?_
  exact D
 | true =>
  have q1:=M6 s 44 j_
  have hsm:=Sx s
  rw[Qc]at hI
  generalize cutT 44 s=ct at *
  obtain ⟨p,r,m⟩:=ct
  dsimp only at hI hsm q1
  have q2:=hf p j_
  generalize one p=op at *
  obtain ⟨v,ok⟩:=op
  dsimp only at hI q2
  refine T ?_
  refine C q1 F176 ?_
  refine Ym q2 q_ q_ q_ (by simp only[hin (Ac p) q_];rfl) q_ q_ ?_
  cases ok with
  | false =>
   rw[if_pos (.inl rfl)]at hI
   subst hI
   refine T ?_
   refine B0 4 1 Aw q_ ?_
   refine T ?_
   exact D
  | true =>
   by_cases c1:out.length=16
   ·rw[if_pos (.inr (.inl c1))]at hI
    subst hI
    refine T ?_
    refine B0 4 1 Aw q_ ?_
    refine T ?_
    exact D
   ·by_cases c2:out.length=0
    ·have hn:out=[]:=List.eq_nil_of_length_eq_zero c2
     rw[if_neg (by rw[hn];simp)]at hI
     refine T ?_
     refine X (Ag Γ.toTy 49 q_ q_ q_ q_ q_ (.row q_) (.lit (e:=Aw) (l:=[v]) q_ q_) qd (by simp;omega) (by simp;omega)) ?_
     refine Al (r,m,out++[v]) [(1000,49)] ⟨hI,by dsimp only;omega,by simp;omega⟩ (by
      have h3:=hsm.2.2
      cases m
      ·simp
      ·have:=h3 rfl;simp;omega) ⟨⟨rfl,rfl,hr _,hc',rfl,rfl,rfl,rfl,trivial⟩,⟨.inl rfl,rfl,trivial⟩,rfl,rfl⟩
    ·have hk:((out.length:Int)-1).toNat<out.length:=by omega
     have hlast:out.getLast? = some (out[((out.length:Int)-1).toNat]'hk):=by
      rw[List.getLast?_eq_getElem?,List.getElem?_eq_getElem j_]
      congr 1
      have:out.length-1=((out.length:Int)-1).toNat:=by omega
      simp only[this]
     have f2:decide ((out.length:Int)>0)=true:=decide_eq_true j_
     by_cases c3:v≤out[((out.length:Int)-1).toNat]'hk
     ·have f3:decide (out[((out.length:Int)-1).toNat]'hk≥v)=true:=decide_eq_true c3
      rw[if_pos (.inr (.inr ⟨_,hlast,c3⟩))]at hI
      subst hI
      refine T ?_
      refine B0 4 1 Aw q_ ?_
      refine T ?_
      exact D
     ·have f3:decide (out[((out.length:Int)-1).toNat]'hk≥v)=false:=decide_eq_false c3
      rw[if_neg (by
       rintro (hh | hh | ⟨x,hx,hh⟩)
       ·cases hh
       ·exact c1 hh
       ·rw[hlast]at hx
        simp only[Option.some.injEq]at hx
        rw[← hx]at hh
        exact c3 hh)]at hI
      refine T ?_
      refine X (Ag Γ.toTy 49 q_ q_ q_ q_ q_ (.row q_) (.lit (e:=Aw) (l:=[v]) q_ q_) qd (by simp;omega) (by simp;omega)) ?_
      refine Al (r,m,out++[v]) [(1000,49)] ⟨hI,by dsimp only;omega,by simp;omega⟩ (by
      have h3:=hsm.2.2
      cases m
      ·simp
      ·have:=h3 rfl;simp;omega) ⟨⟨rfl,rfl,hr _,hc',rfl,rfl,rfl,rfl,trivial⟩,⟨.inl rfl,rfl,trivial⟩,rfl,rfl⟩
theorem Tq (p:ByteArray) (lo hi:Int):Sy.Spec Tryz.prog 295 [Ac p,.ref 1 (Aa lo) 0,.ref 1 (Aa hi) 0] [] (.tup [Aa (numR p lo hi).1,Af (numR p lo hi).2]) []:=cT F295 Tryz.ntmps295 fun F hF=>by
 have q:=U9 p lo hi
 generalize numR p lo hi=r at *
 refine T ?_
 refine C q F236 ?_
 exact D
theorem Tp (s:ByteArray) (hi:Int) (hs:s.size≤10000):Sy.Spec Tryz.prog 243 [Ac s,Aa 1,Aa hi] [] (.tup [.sl 1 Aa (C0 (fun p=>numR p 1 hi) s).1,Af (C0 (fun p=>numR p 1 hi) s).2]) []:=cT F243 Tryz.ntmps243 fun F hF=>by
 have q:=Va (fun p=>numR p 1 hi) 295 [] [.ref 1 (Aa 1) 0,.ref 1 (Aa hi) 0] rfl (fun _=>rfl) s hs (fun p _=>⟨⟨_,_,F295⟩,Tq p 1 hi⟩)
 generalize C0 (fun p=>numR p 1 hi) s=r at *
 refine T ?_
 refine Acs 4 1 (Aa 1) q_ q_ q_ ?_
 refine Acs 5 1 (Aa hi) q_ q_ q_ ?_
 refine T ?_
 refine C q F294 ?_
 exact D
theorem Qw (s:ByteArray) (hs:s.size≤10000):Sy.Spec Tryz.prog 190 [Ac s] [] (.tup [.sl 1 Aw (Ck s).1,Af (Ck s).2]) []:=cT F190 Tryz.ntmps190 fun F hF=>by
 have q:=U8 Bl 187 [] [] rfl (fun _=>rfl) s hs (fun p hp=>⟨⟨_,_,F187⟩,L0 p j_⟩)
 unfold Ck
 generalize C0 Bl s=r at *
 refine T ?_
 refine C q F242 ?_
 exact D
theorem V9 (s:ByteArray) (hs:s.size≤10000):Sy.Spec Tryz.prog 192 [Ac s] [] (.tup [Do (prefixR s).1.1 (prefixR s).1.2,Af (prefixR s).2]) []:=cT F192 Tryz.ntmps192 fun F hF=>by
 have q1:=M6 s 47 j_
 have hres:=prefixR.eq_1 s
 have hsm:(cutT 47 s).1.size≤s.size:=by
  rw[cutT]
  split
  ·have:=B5 s.data.toList 0 (D9 47 s.data.toList)
   rw[Dr]at this
   rw[this,Bw,List.length_drop,List.length_take]
   have:s.data.toList.length=s.size:=rfl
   omega
  ·exact Nat.le_refl _
 generalize cutT 47 s=ct at *
 obtain ⟨p,r,m⟩:=ct
 dsimp only at hres hsm q1
 have q2:=L0 p j_
 have q3:=Qq r 32
 generalize prefixR s=res at *
 generalize Bl p=a at *
 generalize smallT r 32=b at *
 obtain ⟨av,ao⟩:=a
 obtain ⟨bv,bo⟩:=b
 dsimp only at hres q2 q3
 cases m<;>cases ao<;>cases bo
 all_goals (simp at hres;subst hres)
 all_goals (refine T ?_;refine C q1 F176 ?_;refine C q2 F187 ?_;refine C q3 F241 ?_;exact D)
abbrev rdO (w:List ByteArray) (i:Nat) (e:Int):Obs:=[(0,.box [.sl 1 Ac w,Aa i,Aa e])]
theorem Bk {w:List ByteArray} {i:Nat} (h:i<w.length):wdT w i=w[i]:=by rw[wdT,List.getElem?_eq_getElem h];rfl
theorem E2 (w:List ByteArray) (i:Nat) (e:Int) (hi:i<w.length) (hw:w.length≤1000000):Sy.Spec Tryz.prog 188 [.ptr 0 0] (rdO w i e) (Ac (wdT w i)) (rdO w (i+1) e):=cT F188 Tryz.ntmps188 fun F hF=>by
 have hk:((i:Int)+1-1).toNat<w.length:=by omega
 have hx:wdT w i=w[((i:Int)+1-1).toNat]'hk:=by
  rw[Bk hi]
  have:((i:Int)+1-1).toNat=i:=by omega
  simp only[this]
 rw[hx]
 refine T ?_
 exact done q_ (.cons .tmp .nil) [] (rdO w (i+1) e) (fun _ h=>h) q_ q_ U
theorem Da (w:List ByteArray) (i:Nat) (e:Int) (b:Bool) (c:Int):Sy.Spec Tryz.prog 185 [.ptr 0 0,Af b,Aa c] (rdO w i e) (.tup []) (rdO w i (Ae e b c)):=cT F185 Tryz.ntmps185 fun F hF=>by
 cases b with
 | false =>
  have hf:Ae e false c=e:=by rw[Ae,if_neg qd]
  rw[hf]
  refine T ?_
  exact Bj q_ .nil [] (rdO w i e) (fun _ h=>h) q_ q_ U
 | true =>
  by_cases h:e=0
  ·have hf:Ae e true c=c:=by rw[Ae,if_pos ⟨rfl,h⟩]
   rw[hf]
   subst h
   refine T ?_
   exact Bj q_ .nil [] (rdO w i c) (fun _ h=>h) q_ q_ U
  ·have hf:Ae e true c=e:=by rw[Ae,if_neg (fun x=>h x.2)]
   rw[hf]
   have hb:(e == 0)=false:=by simpa using h
   refine T ?_
   exact Bj q_ .nil [] (rdO w i e) (fun _ h=>h) q_ q_ U
theorem Cc (w:List ByteArray) (i:Nat) (e:Int) (hi:i<w.length) (hw:w.length≤1000000) (hs:∀ s∈w,s.size≤40):Sy.Spec Tryz.prog 181 [.ptr 0 0] (rdO w i e) (Ac (wdT w i)) (rdO w (i+1) (Ae e (!(Am (wdT w i))) 20)):=cT F181 Tryz.ntmps181 fun F hF=>by
 have hwd:(wdT w i).size≤40:=by rw[Bk hi];exact hs _ (List.getElem_mem hi)
 have q1:=E2 w i e hi hw
 have q2:=Dq (wdT w i) j_
 have q3:=Da w (i+1) e (!(Am (wdT w i))) 20
 generalize Am (wdT w i)=nb at *
 generalize wdT w i=x at *
 refine T ?_
 refine X (Ad [] q_ F188 q1 q_ W q_ V) ?_
 refine C q2 F235 ?_
 refine X (Ad [] q_ F185 q3 q_ W q_ V) ?_
 exact done q_ (.cons .tmp .nil) [] (rdO w (i+1) (Ae e (!nb) 20)) (fun _ h=>h) q_ q_ U
theorem Iy (w:List ByteArray) (i:Nat) (e lo hi_:Int) (hi:i<w.length) (hw:w.length≤1000000):Sy.Spec Tryz.prog 183 [.ptr 0 0,Aa lo,Aa hi_] (rdO w i e) (Aa (numR (wdT w i) lo hi_).1) (rdO w (i+1) (Ae e (!(numR (wdT w i) lo hi_).2) 21)):=cT F183 Tryz.ntmps183 fun F hF=>by
 have q1:=E2 w i e hi hw
 have q2:=U9 (wdT w i) lo hi_
 generalize numR (wdT w i) lo hi_=r at *
 have q3:=Da w (i+1) e (!r.2) 21
 generalize wdT w i=x at *
 refine T ?_
 refine X (Ad [] q_ F188 q1 q_ W q_ V) ?_
 refine C q2 F236 ?_
 refine X (Ad [] q_ F185 q3 q_ W q_ V) ?_
 exact done q_ (.cons .tmp .nil) [] (rdO w (i+1) (Ae e (!r.2) 21)) (fun _ h=>h) q_ q_ U
theorem Kr (w:List ByteArray) (i:Nat) (e:Int) (hi:i<w.length) (hw:w.length≤1000000):Sy.Spec Tryz.prog 182 [.ptr 0 0] (rdO w i e) (Aa (Be (wdT w i)).1) (rdO w (i+1) (Ae e (!(Be (wdT w i)).2) 21)):=cT F182 Tryz.ntmps182 fun F hF=>by
 have q:=Iy w i e 1 4094 hi hw
 unfold Be
 generalize numR (wdT w i) 1 4094=r at *
 refine T ?_
 refine X (Ad [] q_ F183 q q_ W q_ V) ?_
 exact done q_ (.cons .tmp .nil) [] (rdO w (i+1) (Ae e (!r.2) 21)) (fun _ h=>h) q_ q_ U
theorem Aaj (w:List ByteArray) (i:Nat) (e:Int) (hi:i<w.length) (hw:w.length≤1000000):Sy.Spec Tryz.prog 189 [.ptr 0 0] (rdO w i e) (Aa (Js (wdT w i)).1) (rdO w (i+1) (Ae e (!(Js (wdT w i)).2) 21)):=cT F189 Tryz.ntmps189 fun F hF=>by
 have q:=Iy w i e 1 16777215 hi hw
 unfold Js
 generalize numR (wdT w i) 1 16777215=r at *
 refine T ?_
 refine X (Ad [] q_ F183 q q_ W q_ V) ?_
 exact done q_ (.cons .tmp .nil) [] (rdO w (i+1) (Ae e (!r.2) 21)) (fun _ h=>h) q_ q_ U
theorem Zo (e c:Int):Ae e false c=e:=by rw[Ae,if_neg qd]
theorem M7 (w:List ByteArray) (i:Nat) (e most:Int) (hi:i<w.length) (hw:w.length≤1000000) (hs:∀ s∈w,s.size≤40):Sy.Spec Tryz.prog 191 [.ptr 0 0,Aa most] (rdO w i e) (.sl 1 Aa (listR most (wdT w i)).1) (rdO w (i+1) (Ae e (!(listR most (wdT w i)).2) 21)):=cT F191 Tryz.ntmps191 fun F hF=>by
 have hwd:(wdT w i).size≤40:=by rw[Bk hi];exact hs _ (List.getElem_mem hi)
 have q1:=E2 w i e hi hw
 have q2:=Tp (wdT w i) most j_
 have hres:=listR.eq_1 most (wdT w i)
 generalize listR most (wdT w i)=res at *
 by_cases hd:wdT w i=dash
 ·rw[if_pos hd]at hres
  subst hres
  have hb:(wdT w i == (⟨#[45]⟩:ByteArray))=true:=(C6 _ _).2 hd
  rw[show (!(([]:List Int),true).2)=false from rfl,Zo]
  refine T ?_
  refine X (Ad [] q_ F188 q1 q_ W q_ V) ?_
  refine B0 4 1 Aa q_ ?_
  refine T ?_
  exact done q_ (.cons .tmp .nil) [] (rdO w (i+1) e) (fun _ h=>h) q_ q_ U
 ·rw[if_neg hd]at hres
  have hb:(wdT w i == (⟨#[45]⟩:ByteArray))=false:=by
   cases hx:(wdT w i == (⟨#[45]⟩:ByteArray))
   ·rfl
   ·exact absurd ((C6 _ _).1 hx) hd
  rw[← hres]at q2
  have q3:=Da w (i+1) e (!res.2) 21
  clear hres
  refine T ?_
  refine X (Ad [] q_ F188 q1 q_ W q_ V) ?_
  refine C q2 F243 ?_
  refine X (Ad [] q_ F185 q3 q_ W q_ V) ?_
  exact done q_ (.cons .tmp .nil) [] (rdO w (i+1) (Ae e (!res.2) 21)) (fun _ h=>h) q_ q_ U
theorem Xm (s:ByteArray):∃ m:Nat,(macR s).1=m∧m<281474976710656:=by
 rw[macR]
 split
 ·rename_i h
  have:=J2 (s:=s) (j:=6) (fun i hi=>by have:=h.2;rw[List.all_eq_true]at this;exact this i (List.mem_range.2 hi))
  refine⟨(Ku s 6).toNat,?_,?_⟩
  ·rw[Int.toNat_of_nonneg this.1]
  ·have h2:Ku s 6<281474976710656:=this.2
   omega
 ·exact⟨0,q_,by decide⟩
def macE (s:ByteArray):Bool:=!((macR s).2 && statB (macR s).1)
theorem Aak (w:List ByteArray) (i:Nat) (e:Int) (hi:i<w.length) (hw:w.length≤1000000) (hs:∀ s∈w,s.size≤40):Sy.Spec Tryz.prog 184 [.ptr 0 0] (rdO w i e) (Cn (macR (wdT w i)).1) (rdO w (i+1) (Ae e (macE (wdT w i)) 21)):=cT F184 Tryz.ntmps184 fun F hF=>by
 have hwd:(wdT w i).size≤40:=by rw[Bk hi];exact hs _ (List.getElem_mem hi)
 have q1:=E2 w i e hi hw
 have q2:=Aa0 (wdT w i) j_
 obtain ⟨m,hm1,hm2⟩:=Xm (wdT w i)
 have q4:=Oj m j_
 have hres:=macE.eq_1 (wdT w i)
 rw[hm1]at hres
 generalize macE (wdT w i)=be at *
 have q3:=Da w (i+1) e be 21
 generalize macR (wdT w i)=r at *
 obtain ⟨rv,rb⟩:=r
 dsimp only at hm1
 subst hm1
 generalize statB (m:Int)=sb at *
 cases rb with
 | false =>
  simp at hres
  subst hres
  refine T ?_
  refine X (Ad [] q_ F188 q1 q_ W q_ V) ?_
  refine C q2 F237 ?_
  refine X (Ad [] q_ F185 q3 q_ W q_ V) ?_
  exact done q_ (.cons .tmp .nil) [] (rdO w (i+1) (Ae e true 21)) (fun _ h=>h) q_ q_ U
 | true =>
  simp at hres
  subst hres
  refine T ?_
  refine X (Ad [] q_ F188 q1 q_ W q_ V) ?_
  refine C q2 F237 ?_
  refine C q4 F238 ?_
  refine X (Ad [] q_ F185 q3 q_ W q_ V) ?_
  exact done q_ (.cons .tmp .nil) [] (rdO w (i+1) (Ae e (!sb) 21)) (fun _ h=>h) q_ q_ U
end Go.Sy.YtgblchnfjbkipaaGreatDoor
namespace Go.Sy.YtgblchnfjbkipaaGreatDoor
open Go.Proofs
def Rise (l:List Int):Prop:=l.Pairwise (·<·)
theorem Qd (one:ByteArray→Int × Bool):∀ (ps:List ByteArray) (out r:List Int),Cy one out ps=(r,true)→Rise out→out.length≤16 →
  Rise r∧r.length≤16∧r.length=out.length+ps.length∧∀ x∈r,x∈out∨∃ p∈ps,one p=(x,true)
 | [],out,r,h,h1,h2=>by
  rw[Cy]at h
  simp only[Prod.mk.injEq,and_true]at h
  subst h
  exact⟨h1,h2,by simp,fun x hx=>.inl hx⟩
 | p::ps,out,r,h,h1,h2=>by
  rw[Cy]at h
  split at h
  ·simp at h
  ·rename_i hn
   simp only[not_or]at hn
   obtain ⟨n1,n2,n3⟩:=hn
   have hr:Rise (out++[(one p).1]):=by
    refine List.pairwise_append.2 ⟨h1,List.pairwise_singleton _ _,fun y hy z hz=>?_⟩
    simp only[List.mem_singleton]at hz
    subst hz
    cases hl:out.getLast? with
    | none=>rw[List.getLast?_eq_none_iff]at hl;subst hl;cases hy
    | some w =>
     have hlt:¬ (one p).1≤w:=fun hh=>n3 ⟨w,hl,hh⟩
     obtain ⟨c,rfl⟩:∃ c,out=c++[w]:=by
      have hne:out≠[]:=fun e=>by rw[e]at hy;cases hy
      refine⟨out.dropLast,?_⟩
      have:=List.dropLast_concat_getLast hne
      rw[List.getLast?_eq_some_getLast hne]at hl
      simp only[Option.some.injEq]at hl
      rw[← hl];exact this.symm
     rcases List.mem_append.1 hy with hy | hy
     ·have:=(List.pairwise_append.1 h1).2.2 y hy w qd
      omega
     ·simp only[List.mem_singleton]at hy
      omega
   obtain ⟨a,b,c,d⟩:=Qd one ps _ r h hr (by rw[List.length_append];simp;omega)
   refine⟨a,b,by rw[c];simp;omega,fun x hx=>?_⟩
   rcases d x hx with hx | ⟨q,hq,e⟩
   ·rcases List.mem_append.1 hx with hx | hx
    ·exact .inl hx
    ·simp only[List.mem_singleton]at hx
     refine .inr ⟨p,by simp,?_⟩
     rw[hx]
     have:(one p).2=true:=by simpa using n1
     rw[← this]
   ·exact .inr ⟨q,by simp[hq],e⟩
theorem V8 (s:ByteArray):0≤(Bl s).1:=by
 rw[Bl]
 split
 ·dsimp only
  generalize A5 46 s=l
  cases hl:l.reverse with
  | nil =>
   have:l=[]:=by simpa using hl
   subst this;exact Int.le_refl _
  | cons x r =>
   have:l=r.reverse++[x]:=by
    have:=congrArg List.reverse hl
    simpa using this
   rw[this,J8]
   show 0≤IntKind.u32.wrap _
   rw[IntKind.wrap_u32];omega
 ·exact Int.le_refl _
theorem X5 (s:ByteArray):(Bl s).1<4294967296:=by
 rw[Bl]
 split
 ·dsimp only
  generalize A5 46 s=l
  cases hl:l.reverse with
  | nil =>
   have:l=[]:=by simpa using hl
   subst this;decide
  | cons x r =>
   have:l=r.reverse++[x]:=by
    have:=congrArg List.reverse hl
    simpa using this
   rw[this,J8]
   show IntKind.u32.wrap _<_
   rw[IntKind.wrap_u32];omega
 ·decide
end Go.Sy.YtgblchnfjbkipaaGreatDoor
namespace Go.Sy.YtgblchnfjbkipaaGreatDoor
open Go.Proofs
set_option maxHeartbeats 4000000
theorem B4 (w:List ByteArray) (row:Int):∀ x∈(A0 w row).2,x.2≠0:=by
 unfold A0 Cv
 dsimp only
 repeat' split
 all_goals simp
theorem k1:kindL ⟨#[100,101,118,105,99,101]⟩=1:=by decide +kernel
theorem k2:kindL ⟨#[112,111,114,116]⟩=2:=by decide +kernel
theorem k3:kindL ⟨#[108,105,110,107]⟩=3:=by decide +kernel
theorem k4:kindL ⟨#[115,116,97,116,105,99]⟩=4:=by decide +kernel
theorem k5:kindL ⟨#[118,116,101,112]⟩=5:=by decide +kernel
theorem k6:kindL ⟨#[118,110,105]⟩=6:=by decide +kernel
theorem S1:accessT≠trunkT:=by decide +kernel
theorem wd0 (a:ByteArray) (l:List ByteArray):wdT (a::l) 0=a:=rfl
theorem st1 (d n m:ByteArray) (r:Int):A0 [⟨#[100,101,118,105,99,101]⟩,d,n,m] r=({ lineZ with row:=r,kind:=1,dev:=d,num:=(numR n 0 65535).1,mac:=(macR m).1 },[(!(Am d),20),(!(numR n 0 65535).2,21),(!((macR m).2 && statB (macR m).1),21)]):=by
 unfold A0
 simp only[wd0,k1]
 rfl
theorem Uh {a b:Int} (h:subnetB a b=true):1≤b∧b≤30:=by
 simp only[subnetB,Bool.and_eq_true,decide_eq_true_eq]at h
 omega
structure LineOK (l:LineM):Prop where
 mac:0≤l.mac∧l.mac<18446744073709551616
 addr:0≤l.addr∧l.addr<4294967296
 addrs:∀ x∈l.addrs,0≤x∧x<4294967296
theorem Ab3 {α:Type} {p:α × Bool} (h:p.2=true):p=(p.1,true):=by rw[← h]
end Go.Sy.YtgblchnfjbkipaaGreatDoor
namespace Go.Sy.YtgblchnfjbkipaaGreatDoor
open Go.Proofs
attribute [local irreducible] Go.Sy.G Go.Sy.DR
set_option maxRecDepth 100000
set_option maxHeartbeats 4000000
theorem C4 {a b:ByteArray} (h:a≠b):(a == b)=false:=by
 cases hx:(a == b)
 ·rfl
 ·exact absurd ((C6 _ _).1 hx) h
theorem Cj {a b:ByteArray} (h:a=b):(a == b)=true:=(C6 _ _).2 h
theorem T7 {a b:ByteArray} (h:a≠b):(!(a == b))=true:=by rw[C4 h];rfl
theorem Oc {a b:ByteArray} (h:a=b):(!(a == b))=false:=by rw[Cj h];rfl
theorem Cr (s:ByteArray):Sy.Spec Tryz.prog 180 [Ac s] [] (Aa (kindL s)) []:=cT F180 Tryz.ntmps180 fun F hF=>by
 have hk:=kindL.eq_1 s
 generalize kindL s=k at *
 by_cases c1:s=(⟨#[100,101,118,105,99,101]⟩:ByteArray)
 ·have b1:=Cj c1
  rw[if_pos c1]at hk
  subst hk
  refine T ?_
  exact D
 have b1:=C4 c1
 rw[if_neg c1]at hk
 by_cases c2:s=(⟨#[112,111,114,116]⟩:ByteArray)
 ·have b2:=Cj c2
  rw[if_pos c2]at hk
  subst hk
  refine T ?_
  exact D
 have b2:=C4 c2
 rw[if_neg c2]at hk
 by_cases c3:s=(⟨#[108,105,110,107]⟩:ByteArray)
 ·have b3:=Cj c3
  rw[if_pos c3]at hk
  subst hk
  refine T ?_
  exact D
 have b3:=C4 c3
 rw[if_neg c3]at hk
 by_cases c4:s=(⟨#[115,116,97,116,105,99]⟩:ByteArray)
 ·have b4:=Cj c4
  rw[if_pos c4]at hk
  subst hk
  refine T ?_
  exact D
 have b4:=C4 c4
 rw[if_neg c4]at hk
 by_cases c5:s=(⟨#[118,116,101,112]⟩:ByteArray)
 ·have b5:=Cj c5
  rw[if_pos c5]at hk
  subst hk
  refine T ?_
  exact D
 have b5:=C4 c5
 rw[if_neg c5]at hk
 by_cases c6:s=(⟨#[118,110,105]⟩:ByteArray)
 ·have b6:=Cj c6
  rw[if_pos c6]at hk
  subst hk
  refine T ?_
  exact D
 have b6:=C4 c6
 rw[if_neg c6]at hk
 by_cases c7:s=(⟨#[102,108,111,111,100]⟩:ByteArray)
 ·have b7:=Cj c7
  rw[if_pos c7]at hk
  subst hk
  refine T ?_
  exact D
 have b7:=C4 c7
 rw[if_neg c7]at hk
 by_cases c8:s=(⟨#[118,114,102]⟩:ByteArray)
 ·have b8:=Cj c8
  rw[if_pos c8]at hk
  subst hk
  refine T ?_
  exact D
 have b8:=C4 c8
 rw[if_neg c8]at hk
 by_cases c9:s=(⟨#[105,114,98]⟩:ByteArray)
 ·have b9:=Cj c9
  rw[if_pos c9]at hk
  subst hk
  refine T ?_
  exact D
 have b9:=C4 c9
 rw[if_neg c9]at hk
 subst hk
 refine T ?_
 exact D
theorem Cq (k:Int) (hk:0≤k∧k≤9) (w:List ByteArray) (hw:w.length≤1000000):Sy.Spec Tryz.prog 179 [Aa k,.sl 1 Ac w] [] (Af (manyB k w)) []:=cT F179 Tryz.ntmps179 fun F hF=>by
 have hm2:=manyB.eq_1 k w
 generalize manyB k w=r at *
 rcases (by omega:k=0∨k=1∨k=2∨k=3∨k=4∨k=5∨k=6∨k=7∨k=8∨k=9) with h | h | h | h | h | h | h | h | h | h
 ·subst h
  have hr:r=false:=by rw[hm2];simp
  subst hr
  refine T ?_
  exact D
 ·subst h
  have hr:r=decide (w.length=4):=by rw[hm2];simp
  subst hr
  refine T ?_
  refine Bn q_ (.cons .tmp .nil) (congrArg Af ?_) q_
  by_cases hn:w.length=4
  ·rw[hn];rfl
  ·rw[decide_eq_false hn];symm;simp;omega
 ·subst h
  rw[if_neg qc,if_pos rfl]at hm2
  by_cases h6:w.length<6
  ·rw[if_pos h6]at hm2
   subst hm2
   refine T ?_
   exact D
  ·rw[if_neg h6]at hm2
   have f6:decide ((w.length:Int)<6)=false:=decide_eq_false j_
   have h4:(4:Int).toNat<w.length:=by show 4<w.length;omega
   have hx:wdT w 4=w[(4:Int).toNat]'h4:=Bk j_
   rw[hx]at hm2
   by_cases ca:w[(4:Int).toNat]'h4=accessT
   ·have ba:(w[(4:Int).toNat]'h4 == (⟨#[97,99,99,101,115,115]⟩:ByteArray))=true:=Cj ca
    have bt:(w[(4:Int).toNat]'h4 == (⟨#[116,114,117,110,107]⟩:ByteArray))=false:=C4 (by rw[ca];exact S1)
    have na:(!(w[(4:Int).toNat]'h4 == (⟨#[97,99,99,101,115,115]⟩:ByteArray)))=false:=Oc ca
    rw[if_pos ca]at hm2
    by_cases hn:w.length=6
    ·rw[decide_eq_true hn]at hm2
     subst hm2
     refine T ?_
     exact D
    ·rw[decide_eq_false hn]at hm2
     have fb:((w.length:Int) == 6)=false:=by rw[beq_eq_false_iff_ne];omega
     subst hm2
     refine T ?_
     exact D
   ·have ba:(w[(4:Int).toNat]'h4 == (⟨#[97,99,99,101,115,115]⟩:ByteArray))=false:=C4 ca
    have na:(!(w[(4:Int).toNat]'h4 == (⟨#[97,99,99,101,115,115]⟩:ByteArray)))=true:=T7 ca
    rw[if_neg ca]at hm2
    by_cases ctr:w[(4:Int).toNat]'h4=trunkT
    ·have bt:(w[(4:Int).toNat]'h4 == (⟨#[116,114,117,110,107]⟩:ByteArray))=true:=Cj ctr
     have nt:(!(w[(4:Int).toNat]'h4 == (⟨#[116,114,117,110,107]⟩:ByteArray)))=false:=Oc ctr
     rw[if_pos ctr]at hm2
     by_cases hn:w.length=7
     ·rw[decide_eq_true hn]at hm2
      subst hm2
      refine T ?_
      exact D
     ·rw[decide_eq_false hn]at hm2
      have fb:((w.length:Int) == 7)=false:=by rw[beq_eq_false_iff_ne];omega
      subst hm2
      refine T ?_
      exact D
    ·have bt:(w[(4:Int).toNat]'h4 == (⟨#[116,114,117,110,107]⟩:ByteArray))=false:=C4 ctr
     have nt:(!(w[(4:Int).toNat]'h4 == (⟨#[116,114,117,110,107]⟩:ByteArray)))=true:=T7 ctr
     rw[if_neg ctr]at hm2
     subst hm2
     refine T ?_
     refine Bn q_ (.cons .tmp .nil) (congrArg Af ?_) q_
     exact decide_eq_decide.2 j_
 ·subst h
  have hr:r=decide (w.length=5):=by rw[hm2];simp
  subst hr
  refine T ?_
  refine Bn q_ (.cons .tmp .nil) (congrArg Af ?_) q_
  by_cases hn:w.length=5
  ·rw[hn];rfl
  ·rw[decide_eq_false hn];symm;simp;omega
 ·subst h
  have hr:r=decide (w.length=5):=by rw[hm2];simp
  subst hr
  refine T ?_
  refine Bn q_ (.cons .tmp .nil) (congrArg Af ?_) q_
  by_cases hn:w.length=5
  ·rw[hn];rfl
  ·rw[decide_eq_false hn];symm;simp;omega
 ·subst h
  have hr:r=decide (w.length=3):=by rw[hm2];simp
  subst hr
  refine T ?_
  refine Bn q_ (.cons .tmp .nil) (congrArg Af ?_) q_
  by_cases hn:w.length=3
  ·rw[hn];rfl
  ·rw[decide_eq_false hn];symm;simp;omega
 ·subst h
  have hr:r=decide (w.length=4):=by rw[hm2];simp
  subst hr
  refine T ?_
  refine Bn q_ (.cons .tmp .nil) (congrArg Af ?_) q_
  by_cases hn:w.length=4
  ·rw[hn];rfl
  ·rw[decide_eq_false hn];symm;simp;omega
 ·subst h
  have hr:r=decide (w.length=4):=by rw[hm2];simp
  subst hr
  refine T ?_
  refine Bn q_ (.cons .tmp .nil) (congrArg Af ?_) q_
  by_cases hn:w.length=4
  ·rw[hn];rfl
  ·rw[decide_eq_false hn];symm;simp;omega
 ·subst h
  have hr:r=decide (w.length=5):=by rw[hm2];simp
  subst hr
  refine T ?_
  refine Bn q_ (.cons .tmp .nil) (congrArg Af ?_) q_
  by_cases hn:w.length=5
  ·rw[hn];rfl
  ·rw[decide_eq_false hn];symm;simp;omega
 ·subst h
  have hr:r=decide (w.length=5):=by rw[hm2];simp
  subst hr
  refine T ?_
  refine Bn q_ (.cons .tmp .nil) (congrArg Af ?_) q_
  by_cases hn:w.length=5
  ·rw[hn];rfl
  ·rw[decide_eq_false hn];symm;simp;omega
theorem L6 (a:Nat) (b:Int) (ha:a<4294967296):Sy.Spec Tryz.prog 193 [Do a b] [] (Af (subnetB a b)) []:=cT F193 Tryz.ntmps193 fun F hF=>by
 have q1:=X6 a b ha
 have q2:=Zw a b ha
 have hs:=subnetB.eq_1 (a:Int) b
 generalize subnetB (a:Int) b=r at *
 generalize Ip (a:Int) b=fi at *
 generalize O9 (a:Int) b=la at *
 by_cases h1:1≤b
 ·by_cases h2:b≤30
  ·by_cases h3:(a:Int)=fi
   ·have f3:((a:Int) != fi)=false:=by rw[bne_eq_false_iff_eq];exact h3
    have hr:r=false:=by rw[hs];simp[h3]
    subst hr
    refine T ?_
    refine C q1 F244 ?_
    exact D
   ·have f3:((a:Int) != fi)=true:=by rw[bne_iff_ne];exact h3
    by_cases h4:(a:Int)=la
    ·have f4:((a:Int) != la)=false:=by rw[bne_eq_false_iff_eq];exact h4
     have hr:r=false:=by rw[hs];simp[h4]
     subst hr
     refine T ?_
     refine C q1 F244 ?_
     refine C q2 F245 ?_
     refine Bn q_ (.cons .tmp .nil) (congrArg Af f4.symm) q_
    ·have f4:((a:Int) != la)=true:=by rw[bne_iff_ne];exact h4
     have hr:r=true:=by rw[hs];simp[h1,h2,h3,h4]
     subst hr
     refine T ?_
     refine C q1 F244 ?_
     refine C q2 F245 ?_
     refine Bn q_ (.cons .tmp .nil) (congrArg Af f4.symm) q_
  ·have hr:r=false:=by rw[hs];simp[h2]
   subst hr
   refine T ?_
   exact D
 ·have hr:r=false:=by rw[hs];simp[h1]
  subst hr
  refine T ?_
  exact D
theorem Vp (l:List Int) (v:Int):l.contains v=inB l v:=by
 induction l with
 | nil=>rfl
 | cons x l ih =>
  rw[List.contains_cons,ih,inB,inB,List.any_cons]
  congr 1
  exact Bool.beq_comm
theorem Dm (l:LineM) (hl:Dx l.tagged):Sy.Spec Tryz.prog 239 [Ab l] [] (Af (membersB l.vlan l.tagged)) []:=cT F239 Tryz.ntmps239 fun F hF=>by
 have q:=Zq l.tagged l.vlan hl
 have hm2:=membersB.eq_1 l.vlan l.tagged
 rw[Vp]at hm2
 generalize membersB l.vlan l.tagged=r at *
 generalize inB l.tagged l.vlan=ib at *
 unfold Dx at hl
 by_cases h1:0<l.vlan
 ·have hr:r=!ib:=by rw[hm2];simp[h1]
  subst hr
  refine T ?_
  refine C q F161 ?_
  exact D
 ·by_cases h2:l.tagged.length=0
  ·have hr:r=false:=by
    rw[hm2,decide_eq_false h1,List.eq_nil_of_length_eq_zero h2];rfl
   subst hr
   refine T ?_
   exact D
  ·have hr:r=!ib:=by
    rw[hm2]
    have:l.tagged.isEmpty=false:=by cases ht:l.tagged<;>simp_all
    simp[this]
   have f2:decide ((l.tagged.length:Int)>0)=true:=decide_eq_true j_
   subst hr
   refine T ?_
   refine C q F161 ?_
   exact D
end Go.Sy.YtgblchnfjbkipaaGreatDoor
namespace Go.Sy
theorem Hz {P:Program} (Γ:Ty P) {o:Oper} {s:SS} {t:TypeId} {ti:TI} {et:TypeId} {len esz sz g:Nat} {y:Operand} {ik:IntKind} {n:Int} {z:SV} (k:Nat)
  (h:o.op=.indexAddr t (.global g) y) (ht:Γ.get t=some ti) (hk:ti.k=.array et len esz) (hb:s.h k=.glob sz z g) (hy:ev s y=.val (.int ik n)) (h0:0≤n) (hn:n.toNat<len) :
  Good P o s ⟨.ref sz z (n.toNat * esz),[k],[]⟩ :=
 Good.pure fun κ a w _ hr ho=>by
  have h1:=ho k qd
  have h2:=hr y (by simp[h,Op.operands])
  rw[hb]at h1
  rw[hy]at h2
  simp only[ObOK,Rd,RdD]at h1
  obtain ⟨b,oo,u,e1,e2,e3,e4,e5⟩:=h1
  obtain ⟨hu,i,q1,q2⟩:=Qo Γ ht hk
  simp only[Nat.add_zero,Value.pointer.injEq,Option.some.injEq,Addr.mk.injEq,and_true]at e1
  obtain ⟨rfl,rfl⟩:=e1
  refine⟨.pointer (some ⟨g,0+n.toNat * esz,none⟩),?_,?_⟩
  ·have hg:a.eval (.global g)=.pointer (some ⟨g,0,none⟩):=rfl
   simp only[execOp,h,hg,h2.val]
   simp[Hj w hu q1 q2 h0 hn]
  ·simp only[Rd,RdD]
   exact⟨g,0,u,q_,e2,e3,e4,e5⟩
theorem Ob.shp_glob {x:Ob} {sz g:Nat} {z:SV} (h:x.shp=(Ob.glob sz z g).shp):x=.glob sz z g:=by
 cases x<;>simp_all[Ob.shp]
theorem GoodX.glob {P:Program} (Γ:Ty P) {o:Oper} {s:SS} {t:TypeId} {ti:TI} {et:TypeId} {len esz sz g:Nat} {y:Operand} {ik:IntKind} {n:Int} {z:SV} (k:Nat)
  (h:o.op=.indexAddr t (.global g) y) (ht:Γ.get t=some ti) (hk:ti.k=.array et len esz) (hb:s.h k=.glob sz z g) (hy:ev s y=.val (.int ik n)) (h0:0≤n) (hn:n.toNat<len) :
  GoodX P o s ⟨.ref sz z (n.toNat * esz),[k],[]⟩ where
 good:=(Hz Γ k h ht hk hb hy h0 hn).two
 idx _:=⟨rfl,fun s' h1 h2=>Hz Γ k h ht hk (Ob.shp_glob ((h2 k qd).trans (congrArg Ob.shp hb))) ((h1 y (by simp[h,Op.operands])).trans hy) h0 hn⟩
 st hs:=by simp[E6,h]at hs
section
open Go.ChangeShapes Go.WideShapes Go.ChangeAt Go.RowKit
variable {H:Type} {enc:TypeId × Value→H} {P:Program}
end
end Go.Sy
namespace Go.Sy
theorem T8 {P:Program} {κ:Ka} {w:World} (hi:Inv κ w) {t ty e:TypeId} {i:TypeInfo} {z:Value} {sz:Nat} (ht:P.underlying t=some (.slice e)) (hinfo:P.info? e=some i) (hz:i.zero=some z) (hsz:i.size=sz) (hzs:z.cells.size=sz)
  {v:Value} {n m:Nat} {f g:Nat→SV→Prop} {k:Option Nat} {d:Nat} (hd:κ d=.new) (hb:Base κ w v n sz f k) {t2:TypeId} (ht2:P.underlying t2=some .string) {b0:ByteArray} (hbm:b0.size=m) (hs1:sz=1) (hsg:∀ j x,g j x→∃ h:j<b0.data.toList.length,x=.val (.int .u8 (b0.data.toList[j].toNat))) (h63:n+m≤9223372036854775807) (hbytes:(n+m) * i.bytes≤140737488355328) :
  ∃ v' w' κ',(Builtin.append_ #[t,t2] ty #[v,.string b0]).run P w=.ok v' w'∧Step (fun j=>k=some j∨j=d) κ w κ' w'∧Inv κ' w'∧Rd κ' w' (.osl d) v' ∧
   ((κ' d=.nil∧n+m=0)∨RowAt κ' w' d sz (n+m) (V7 n f g)):=by
 obtain ⟨news,hnl,hn1,hnc,hng⟩:∃ (news:List Value),news.length=m * sz∧Ones news∧(∀ W:World,(∀ p:Addr,p.block<w.heap.size→W.cell? p=w.cell? p)→(Builtin.firstCells sz m (.string b0)).run P W=.ok news.toArray W) ∧
   (∀ j x,g j x→j<m∧∃ q:Value,RdD (Own κ) w x q∧q.cells.size=sz∧Ones q.cells.toList∧∀ l,l<sz→news[j * sz+l]? = q.cells[l]?):=by
  have hsz0:b0.data.toList.length=m:=by rw[← hbm];rfl
  refine⟨b0.data.toList.map fun c=>.int .u8 c.toNat,by rw[List.length_map,hs1,Nat.mul_one];exact hsz0,fun c hc=>?_,fun W _=>?_,fun j x hx=>?_⟩
  ·obtain ⟨b,_,rfl⟩:=List.mem_map.1 hc
   rfl
  ·have he:b0.extract 0 m=b0:=by rw[← hbm];exact ByteArray.extract_zero_size
   have e2:Array.map (fun b:UInt8=>Value.int .u8 b.toNat) b0.data=(List.map (fun b:UInt8=>Value.int .u8 b.toNat) b0.data.toList).toArray:=by apply Array.ext';simp
   simp[Builtin.firstCells,he,e2]
  ·obtain ⟨h,rfl⟩:=hsg j x hx
   refine⟨by omega,.int .u8 (b0.data.toList[j].toNat),by simp[RdD],by rw[hs1];rfl,fun c hc=>?_,fun l hl=>?_⟩
   ·simp[Value.cells]at hc;subst hc;rfl
   ·have hl0:l=0:=by omega
    subst hl0
    rw[hs1,Nat.mul_one,Nat.add_zero,List.getElem?_map,List.getElem?_eq_getElem h]
    simp[Value.cells]
 have hcap:∀ old,n+m≤grownCap w (n+m) old e:=fun old=>grownCap_ge w (n+m) old e
 have hfits:∀ old,old<n+m→¬ (281474976710656<Builtin.nextslicecap (n+m) old * i.bytes):=fun old ho=>by have:=growslice_fits ho hbytes;omega
 have newrow:∀ (olds:List Value) (old:Nat) (hol:olds.length=n * sz) (hof:∀ j x,f j x→j<n→∃ q:Value,RdD (Own κ) w x q∧q.cells.size=sz∧Ones q.cells.toList∧∀ l,l<sz→olds[j * sz+l]? = q.cells[l]?),
   let w':=w.drew.alloc (.cells (olds.toArray++news.toArray++Builtin.zeroCells z.cells (grownCap w (n+m) old e-(n+m))) e)
   let κ':=Cs (Jn κ k) d (.row w.heap.size (n+m) (grownCap w (n+m) old e))
   Step (fun j=>k=some j∨j=d) κ w κ' w'∧Inv κ' w'∧Rd κ' w' (.osl d) (.slice (some ⟨w.heap.size,0,none⟩) (n+m) (grownCap w (n+m) old e))∧RowAt κ' w' d sz (n+m) (V7 n f g):=by
  intro olds old hol hof w' κ'
  have s1:=Dg (κ:=κ) (w:=w) k
  have hdn:(Jn κ k) d=.new:=by
   cases k with
   | none=>exact hd
   | some k =>
    by_cases hkd:d=k
    ·exfalso
     subst hkd
     rcases hb with ⟨h,_⟩ | ⟨_,_,b,cap,h,_⟩<;>rw[hd]at h<;>cases h
    ·simp only[Jn];rw[A9 _ _ hkd];exact hd
  have g0:Grew w w':=(Grew.drew w).trans (Grew.alloc _ _)
  have s2:=C7 (D8 hi k) hdn (e:=.row w.heap.size (n+m) (grownCap w (n+m) old e)) g0 (fun b hb=>by
   simp only[Ent.block?,Option.some.injEq]at hb;subst hb;exact⟨Nat.le_refl _,by simp[w']⟩)
  have s3:Step (fun j=>k=some j∨j=d) κ w κ' w':=(s1.weaken (fun j hj=>.inl hj)).trans (s2.1.weaken (fun j hj=>.inr hj))
  refine⟨s3,s2.2,by simp[Rd,κ',Ah],?_⟩
  refine⟨w.heap.size,grownCap w (n+m) old e,olds++news++(Builtin.zeroCells z.cells (grownCap w (n+m) old e-(n+m))).toList,e,(0,0),Ah _ _ _,?_,NoFr.zero _,?_,hcap old,?_⟩
  ·have:w'.heap[w.heap.size]? = some (.cells (olds.toArray++news.toArray++Builtin.zeroCells z.cells (grownCap w (n+m) old e-(n+m))) e):=heap_alloc_new w.drew _
   rw[this]
   congr 2
   apply Array.ext'
   simp
  ·simp only[List.length_append,hol,hnl,Array.length_toList,Jm,hzs]
   rw[← Nat.add_mul,← Nat.add_mul]
   have:=hcap old
   rw[show n+m+(grownCap w (n+m) old e-(n+m))=grownCap w (n+m) old e from by omega]
   exact Nat.le_refl _
  ·rintro j x (⟨hj,hx⟩ | ⟨hj,hx⟩)
   ·obtain ⟨q,q1,q2,q3,q4⟩:=hof j x hx hj
    refine⟨by omega,q,RdD.keep s3.keeps _ _ q1,q2,q3,fun l hl=>?_⟩
    have:(j+1) * sz≤n * sz:=Nat.mul_le_mul_right sz j_
    rw[Nat.add_mul,Nat.one_mul]at this
    rw[List.append_assoc,List.getElem?_append_left j_,q4 l hl]
   ·obtain ⟨h0,q,q1,q2,q3,q4⟩:=hng _ x hx
    refine⟨by omega,q,RdD.keep s3.keeps _ _ q1,q2,q3,fun l hl=>?_⟩
    have e1:j * sz=n * sz+(j-n) * sz:=by rw[← Nat.add_mul];congr 1;omega
    have:(j-n+1) * sz≤m * sz:=Nat.mul_le_mul_right sz j_
    rw[Nat.add_mul,Nat.one_mul]at this
    rw[List.append_assoc,List.getElem?_append_right j_,List.getElem?_append_left j_,← q4 l hl]
    congr 1
    omega
 cases k with
 | none =>
  obtain ⟨rfl,rfl⟩:=hb
  by_cases hm:m=0
  ·subst hm
   have st:=C7 hi hd (e:=.nil) (Grew.refl w) (fun b hb=>by cases hb)
   refine⟨.slice none 0 0,w,Cs κ d .nil,?_,st.1.weaken (fun j hj=>.inr hj),st.2,by simp[Rd,Ah],.inl ⟨Ah _ _ _,q_⟩⟩
   have hc:=hnc w (fun _ _=>rfl)
   simp[Builtin.append_,run_underlying ht,run_underlying ht2,hbm,sizeOf,typeInfo,hinfo,hsz,Builtin.lenOf,hc]
  ·obtain ⟨q1,q2,q3,q4⟩:=newrow [] 0 qd (fun j x _ hj=>absurd hj j_)
   refine⟨_,_,_,?_,q1,q2,q3,.inr q4⟩
   have hc:=hnc w.drew (fun _ _=>rfl)
   have h48:=hfits 0 j_
   have h63':¬ (9223372036854775807<(m:Int)):=by omega
   simp only[Nat.zero_add]at h48 ⊢
   simp[Builtin.append_,run_underlying ht,run_underlying ht2,hbm,sizeOf,typeInfo,zeroValue,hinfo,hsz,hz,Builtin.lenOf,hm,h63',h48,Question.forced,run_firstCells_none,hc,newRow,grownCap]
 | some k =>
  rcases hb with ⟨hk,rfl,rfl⟩ | ⟨hrow,tot,b,cap,hk,rfl⟩
  ·by_cases hm:m=0
   ·subst hm
    have hkd:d≠k:=fun e=>by subst e;rw[hd]at hk;cases hk
    have st:=C7 (D8 hi (some k)) (by show Cs κ k .dead d=.new;rw[A9 _ _ hkd];exact hd) (e:=.nil) (Grew.refl w) (fun b hb=>by cases hb)
    refine⟨.slice none 0 0,w,_,?_,((Dg (some k)).weaken (fun j hj=>.inl hj)).trans (st.1.weaken (fun j hj=>.inr hj)),st.2,by simp[Rd,Ah],.inl ⟨Ah _ _ _,q_⟩⟩
    have hc:=hnc w (fun _ _=>rfl)
    simp[Builtin.append_,run_underlying ht,run_underlying ht2,hbm,sizeOf,typeInfo,hinfo,hsz,Builtin.lenOf,hc]
   ·obtain ⟨q1,q2,q3,q4⟩:=newrow [] 0 qd (fun j x _ hj=>absurd hj j_)
    refine⟨_,_,_,?_,q1,q2,q3,.inr q4⟩
    have hc:=hnc w.drew (fun _ _=>rfl)
    have h48:=hfits 0 j_
    have h63':¬ (9223372036854775807<(m:Int)):=by omega
    simp only[Nat.zero_add]at h48 ⊢
    simp[Builtin.append_,run_underlying ht,run_underlying ht2,hbm,sizeOf,typeInfo,zeroValue,hinfo,hsz,hz,Builtin.lenOf,hm,h63',h48,Question.forced,run_firstCells_none,hc,newRow,grownCap]
  ·obtain ⟨b',cap',hk',hsrc⟩:=hrow.src tot
   rw[hk]at hk'
   cases hk'
   have hrow':=hrow
   obtain ⟨b',cap',cs,T,fr,e1,e2,e3,e4,e5,e6⟩:=hrow'
   rw[hk]at e1
   cases e1
   by_cases hroom:n+m≤cap
   ·have hkd:k≠d:=fun e=>by subst e;rw[hk]at hd;cases hd
    have hcs:(n+m) * sz≤cs.length:=Nat.le_trans (Nat.mul_le_mul_right sz hroom) e4
    rw[Nat.add_mul]at hcs
    obtain ⟨w',f1,f2,f3,f4,f5,f6,f7⟩:=Cu P b (n * sz) T fr news 0 cs w e2 e3 j_ hn1
    obtain ⟨st,inv⟩:=Le (n':=n+m) hi hk hd f3 f4 f5 f6 f7
    refine⟨.slice (some ⟨b,0,none⟩) (n+m) cap,w',_,?_,st.weaken (fun j hj=>hj.imp (fun h=>by rw[h]) id),inv,by simp[Rd,Ah],.inr ?_⟩
    ·have hc:=hnc w (fun _ _=>rfl)
     simp[Builtin.append_,run_underlying ht,run_underlying ht2,hbm,sizeOf,typeInfo,hinfo,hsz,Builtin.lenOf,hroom,hc,Addr.add_lit,f1]
    ·refine⟨b,cap,_,T,fr,Ah _ _ _,by simpa using f2,by rw[Bh];exact e3,by rw[Bh];exact e4,hroom,?_⟩
     have hset:=Kj cs news (n * sz)
     rintro j x (⟨hj,hx⟩ | ⟨hj,hx⟩)
     ·obtain ⟨_,q,q1,q2,q3,q4⟩:=e6 j x hx
      refine⟨by omega,q,RdD.keep st.keeps _ _ q1,q2,q3,fun l hl=>?_⟩
      have:(j+1) * sz≤n * sz:=Nat.mul_le_mul_right sz j_
      rw[Nat.add_mul,Nat.one_mul]at this
      rw[hset _ j_,if_neg j_,q4 l hl]
     ·obtain ⟨h0,q,q1,q2,q3,q4⟩:=hng _ x hx
      refine⟨by omega,q,RdD.keep st.keeps _ _ q1,q2,q3,fun l hl=>?_⟩
      have e1:j * sz=n * sz+(j-n) * sz:=by rw[← Nat.add_mul];congr 1;omega
      have:(j-n+1) * sz≤m * sz:=Nat.mul_le_mul_right sz j_
      rw[Nat.add_mul,Nat.one_mul]at this
      rw[hset _ j_,if_pos j_,← q4 l hl]
      congr 1
      omega
   ·rcases hsrc with ⟨rfl,hno,a',c',he⟩ | ⟨b2,o2,c2,olds,he,g1,g2,g3,g4⟩
    ·obtain ⟨q1,q2,q3,q4⟩:=newrow [] cap qd (fun j x _ hj=>absurd hj j_)
     refine⟨_,_,_,?_,q1,q2,q3,.inr q4⟩
     have hc:=hnc w.drew (fun _ _=>rfl)
     have h48:=hfits cap j_
     have h63':¬ (9223372036854775807<(m:Int)):=by omega
     have hroom':¬ (m≤cap):=by omega
     have hfo:=run_firstCells_some (P:=P) w.drew sz 0 ⟨b,0,none⟩ 0 cap [] qd (fun j v hj=>by simp at hj)
     simp only[Nat.zero_add]at h48 ⊢
     simp[Builtin.append_,run_underlying ht,run_underlying ht2,hbm,sizeOf,typeInfo,zeroValue,hinfo,hsz,hz,Builtin.lenOf,hroom',h63',h48,Question.forced,hfo,hc,newRow,grownCap]
    ·cases he
     obtain ⟨q1,q2,q3,q4⟩:=newrow olds cap g1 (fun j x hx hj=>(g4 j x hx).2)
     refine⟨_,_,_,?_,q1,q2,q3,.inr q4⟩
     have hc:=hnc w.drew (fun _ _=>rfl)
     have h48:=hfits cap j_
     have h63':¬ (9223372036854775807<(n:Int)+(m:Int)):=by omega
     have hfo:=run_firstCells_some (P:=P) w.drew sz n ⟨b,0,none⟩ n cap olds g1 (fun j v hj=>by
      have:=g3 j v hj
      rw[Addr.add_lit];simpa using this)
     simp[Builtin.append_,run_underlying ht,run_underlying ht2,hbm,sizeOf,typeInfo,zeroValue,hinfo,hsz,hz,Builtin.lenOf,hroom,h63',h48,Question.forced,hfo,hc,newRow,grownCap]
     congr 2
     apply Array.ext'
     simp[List.append_assoc]
theorem Tz {P:Program} (Γ:Ty P) {o:Oper} {s:SS} (d:Nat) {l:List UInt8} {b:ByteArray} {t t2:TypeId} {ti ti2:TI} {et:TypeId} {eb:Nat} {ez:List Value} {x y:Operand} {k:Option Nat}
  (h:o.op=.call ⟨.builtin .append,#[x,y],#[t,t2]⟩) (hd:s.h d=.fresh) (ht:Γ.get t=some ti) (hk:ti.k=.slice et 1 eb ez) (hez:ez.length=1) (ht2:Γ.get t2=some ti2) (hk2:ti2.k=.string)
  (hb:BaseT s 1 An (ev s x) k l) (hy:ev s y=.val (.string b)) (hkk:∀ j,k=some j→j≠d) (hbytes:(l.length+b.size) * eb≤140737488355328) (h63:l.length+b.size≤9223372036854775807) :
  Good P o s ⟨.osl d,[],Dw k d (.row 1 An (l++b.data.toList))⟩:=by
 obtain ⟨f,hb,hf⟩:=hb.base
 intro κ a w hi hr ho N Q hN
 have h1:=hr x (by simp[h,Op.operands,Call.operands])
 have h2:=hr y (by simp[h,Op.operands,Call.operands])
 rw[hy]at h2
 have hws:∀ j,j∈(Up.mk (.osl d) [] (Dw k d (.row 1 An (l++b.data.toList)))).ws↔(k=some j∨j=d):=by
  intro j
  cases k<;>simp[Up.ws,Dw,eq_comm]
 have hnew:κ d=.new:=by have:=ho d (.inr ((hws d).2 (.inr rfl)));rwa [hd]at this
 obtain ⟨hu,i,z,q1,q2,q3,q4,q5⟩:=B8 Γ ht hk
 have hzs:z.cells.size=1:=by rw[← hez,← q5];simp
 have hu2:P.underlying t2=some .string:=by
  obtain ⟨dd,info,zz,k1,k2,_⟩:=Γ.ok t2 ti2 ht2
  rw[hk2]at k2
  simp only[TK.ok]at k2
  subst k2
  exact k1
 obtain ⟨v',w',κ',r1,r2,r3,r4,r5⟩:=T8 (P:=P) (ty:=o.type) (g:=rowF An b.data.toList) hi hu q1 q4 q2 hzs hnew (hb.base h1 (fun j hj=>ho j (.inr ((hws j).2 (.inl hj))))) hu2 (rfl:b.size=b.size) rfl
  (fun j x hx=>hx) h63 (by rw[q3];exact hbytes)
 have hrun:(execOp a.eval o).run P w=.ok (.value v') w':=by
  simp[execOp,h,h2.val,resolve,invoke,builtin,r1]
 simp only[Oper.wp,hrun,Oper.upon]
 refine hN v' κ' w' (r2.weaken (fun j hj=>(hws j).2 hj)) r3 r4 (fun p hp=>?_)
 have hfin:ObOK κ' w' d (.row 1 An (l++b.data.toList)):=V6 r5 (by rw[List.length_append];rfl) (Uo hf (fun _ _ h=>h))
 cases k with
 | none =>
  simp only[Dw,List.mem_singleton]at hp
  subst hp
  exact hfin
 | some k =>
  simp only[Dw,List.mem_cons,List.not_mem_nil,or_false]at hp
  rcases hp with rfl | rfl
  ·trivial
  ·exact hfin
theorem Ap {C:Cx} {k:List KI} {s:SS} (d:Nat) (l':List SV) {l:List SV} (h:s.h d=.box l) (hv:VwL s [] l l') (hg:G C k ⟨s.σ,upd s.h d (.box l')⟩):G C k s:=fun κ a w hs =>
 hg κ a w ⟨hs.defers,hs.size,hs.inv,hs.ctx,hs.slot,fun i=>by
  show ObOK κ w i (upd s.h d (.box l') i)
  by_cases hi:i=d
  ·subst hi
   rw[Bc]
   have:=hs.obj i
   rw[h]at this
   obtain ⟨b,cs,T,fr,e1,e2,e3,e4,e5⟩:=this
   exact⟨b,cs,T,fr,e1,e2,e3,e4,VwL.rd hs.inv (fun _ hn=>by cases hn) hv e5⟩
  ·rw[B2 _ _ hi];exact hs.obj i⟩
end Go.Sy
namespace Go.Sy.YtgblchnfjbkipaaGreatDoor
open Go.Proofs
attribute [local irreducible] Go.Sy.G Go.Sy.DR
set_option maxRecDepth 100000
set_option maxHeartbeats 4000000
theorem Ee (l m:List Int) (hl:l.length≤1000000) (hm1:m.length≤1000000):Sy.Spec Tryz.prog 64 [.sl 1 Aa l,.sl 1 Aa m] [] (Af (l == m)) []:=cT F64 Tryz.ntmps64 fun F hF=>by
 by_cases hlen:l.length=m.length
 rotate_left
 ·have hr:(l == m)=false:=by
   rw[beq_eq_false_iff_ne];intro e;exact hlen (by rw[e])
  have f0:((l.length:Int) != (m.length:Int))=true:=by rw[bne_iff_ne];omega
  rw[hr]
  refine T ?_
  exact D
 have f0:((l.length:Int) != (m.length:Int))=false:=by rw[bne_eq_false_iff_eq];omega
 refine T ?_
 refine Bz l.length (fun j=>l.take j=m.take j) (fun j=>[(0,.sl 1 Aa l),(1,.sl 1 Aa m),(12,Aa l.length),(13,Aa j)]) (fun _=>[]) [] q_ U ?_
 intro j hj hI
 refine T ?_
 refine⟨fun h=>?_,fun h=>?_⟩
 ·have hlt:j<l.length:=qA h
  have hlm:j<m.length:=by omega
  have hlt0:((j:Nat):Int).toNat<l.length:=hlt
  have hlm0:((j:Nat):Int).toNat<m.length:=hlm
  clear h
  by_cases he:l[j]=m[j]
  ·have f1:(l[((j:Nat):Int).toNat]'hlt0 != m[((j:Nat):Int).toNat]'hlm0)=false:=by rw[bne_eq_false_iff_eq];exact he
   refine T ?_
   refine B1 [] hI j_ ?_ U
   rw[List.take_succ_eq_append_getElem hlt,List.take_succ_eq_append_getElem hlm,hI,he]
  ·have f1:(l[((j:Nat):Int).toNat]'hlt0 != m[((j:Nat):Int).toNat]'hlm0)=true:=by rw[bne_iff_ne];exact he
   have hr:(l == m)=false:=by
    rw[beq_eq_false_iff_ne];intro e;subst e;exact he rfl
   rw[hr]
   refine T ?_
   exact D
 ·have hje:j=l.length:=qB h
  subst hje
  have hr:(l == m)=true:=by
   rw[beq_iff_eq]
   rw[List.take_length,hlen,List.take_length]at hI
   exact hI
  rw[hr]
  clear h
  refine T ?_
  exact D
theorem Mx (l m:List Int) (hl:l.length≤1000000) (hm1:m.length≤1000000):Sy.Spec Tryz.prog 69 [.sl 1 Aw l,.sl 1 Aw m] [] (Af (l == m)) []:=cT F69 Tryz.ntmps69 fun F hF=>by
 by_cases hlen:l.length=m.length
 rotate_left
 ·have hr:(l == m)=false:=by
   rw[beq_eq_false_iff_ne];intro e;exact hlen (by rw[e])
  have f0:((l.length:Int) != (m.length:Int))=true:=by rw[bne_iff_ne];omega
  rw[hr]
  refine T ?_
  exact D
 have f0:((l.length:Int) != (m.length:Int))=false:=by rw[bne_eq_false_iff_eq];omega
 refine T ?_
 refine Bz l.length (fun j=>l.take j=m.take j) (fun j=>[(0,.sl 1 Aw l),(1,.sl 1 Aw m),(12,Aa l.length),(13,Aa j)]) (fun _=>[]) [] q_ U ?_
 intro j hj hI
 refine T ?_
 refine⟨fun h=>?_,fun h=>?_⟩
 ·have hlt:j<l.length:=qA h
  have hlm:j<m.length:=by omega
  have hlt0:((j:Nat):Int).toNat<l.length:=hlt
  have hlm0:((j:Nat):Int).toNat<m.length:=hlm
  clear h
  by_cases he:l[j]=m[j]
  ·have f1:(l[((j:Nat):Int).toNat]'hlt0 != m[((j:Nat):Int).toNat]'hlm0)=false:=by rw[bne_eq_false_iff_eq];exact he
   refine T ?_
   refine B1 [] hI j_ ?_ U
   rw[List.take_succ_eq_append_getElem hlt,List.take_succ_eq_append_getElem hlm,hI,he]
  ·have f1:(l[((j:Nat):Int).toNat]'hlt0 != m[((j:Nat):Int).toNat]'hlm0)=true:=by rw[bne_iff_ne];exact he
   have hr:(l == m)=false:=by
    rw[beq_eq_false_iff_ne];intro e;subst e;exact he rfl
   rw[hr]
   refine T ?_
   exact D
 ·have hje:j=l.length:=qB h
  subst hje
  have hr:(l == m)=true:=by
   rw[beq_iff_eq]
   rw[List.take_length,hlen,List.take_length]at hI
   exact hI
  rw[hr]
  clear h
  refine T ?_
  exact D
theorem Yz (a b:LineM) (ha:LineFin a) (hb:LineFin b):Sy.Spec Tryz.prog 50 [Ab a,Ab b] [] (Af (Aae a b)) []:=cT F50 Tryz.ntmps50 fun F hF=>by
 have ht:=ha.t;have hi:=ha.i;have he:=ha.e;have haa:=ha.a
 have ht2:=hb.t;have hi2:=hb.i;have he2:=hb.e;have haa2:=hb.a
 have q0:=Ee a.tagged b.tagged j_ j_
 have q1:=Ee a.imports b.imports j_ j_
 have q2:=Ee a.exports b.exports j_ j_
 have q3:=Mx a.addrs b.addrs j_ j_
 rw[Aae]
 cases h_row:(a.row == b.row)
 ·rw[Bool.false_and]
  refine T ?_
  exact D
 rw[Bool.true_and]
 cases h_kind:(a.kind == b.kind)
 ·rw[Bool.false_and]
  refine T ?_
  exact D
 rw[Bool.true_and]
 cases h_dev:(a.dev == b.dev)
 ·rw[Bool.false_and]
  refine T ?_
  exact D
 rw[Bool.true_and]
 cases h_port:(a.port == b.port)
 ·rw[Bool.false_and]
  refine T ?_
  exact D
 rw[Bool.true_and]
 cases h_peer:(a.peer == b.peer)
 ·rw[Bool.false_and]
  refine T ?_
  exact D
 rw[Bool.true_and]
 cases h_far:(a.far == b.far)
 ·rw[Bool.false_and]
  refine T ?_
  exact D
 rw[Bool.true_and]
 cases h_name:(a.name == b.name)
 ·rw[Bool.false_and]
  refine T ?_
  exact D
 rw[Bool.true_and]
 cases h_mac:(a.mac == b.mac)
 ·rw[Bool.false_and]
  refine T ?_
  exact D
 rw[Bool.true_and]
 cases h_addr:(a.addr == b.addr)
 ·rw[Bool.false_and]
  refine T ?_
  exact D
 rw[Bool.true_and]
 cases h_bits:(a.bits == b.bits)
 ·rw[Bool.false_and]
  refine T ?_
  exact D
 rw[Bool.true_and]
 cases h_vlan:(a.vlan == b.vlan)
 ·rw[Bool.false_and]
  refine T ?_
  exact D
 rw[Bool.true_and]
 cases h_num:(a.num == b.num)
 ·rw[Bool.false_and]
  refine T ?_
  exact D
 rw[Bool.true_and]
 cases h_cost:(a.cost == b.cost)
 ·rw[Bool.false_and]
  refine T ?_
  exact D
 rw[Bool.true_and]
 cases h_tagged:(a.tagged == b.tagged)
 ·rw[h_tagged]at q0
  rw[Bool.false_and]
  refine T ?_
  refine C q0 F64 ?_
  exact D
 rw[h_tagged]at q0
 rw[Bool.true_and]
 cases h_imports:(a.imports == b.imports)
 ·rw[h_imports]at q1
  rw[Bool.false_and]
  refine T ?_
  refine C q0 F64 ?_
  refine C q1 F64 ?_
  exact D
 rw[h_imports]at q1
 rw[Bool.true_and]
 cases h_exports:(a.exports == b.exports)
 ·rw[h_exports]at q2
  rw[Bool.false_and]
  refine T ?_
  refine C q0 F64 ?_
  refine C q1 F64 ?_
  refine C q2 F64 ?_
  exact D
 rw[h_exports]at q2
 rw[Bool.true_and]
 cases h_addrs:(a.addrs == b.addrs)
 ·rw[h_addrs]at q3
  skip
  refine T ?_
  refine C q0 F64 ?_
  refine C q1 F64 ?_
  refine C q2 F64 ?_
  refine C q3 F69 ?_
  exact D
 rw[h_addrs]at q3
 refine T ?_
 refine C q0 F64 ?_
 refine C q1 F64 ?_
 refine C q2 F64 ?_
 refine C q3 F69 ?_
 exact D
theorem Cg (n lo hi:Int):Sy.Spec Tryz.prog 349 [Aa n,Aa lo,Aa hi] [] (Af (A7 n lo hi)) []:=cT F349 Tryz.ntmps349 fun F hF=>by
 rw[A7]
 by_cases h1:lo≤n
 ·have f1:decide (n≥lo)=true:=decide_eq_true h1
  rw[decide_eq_true h1,Bool.true_and]
  refine T ?_
  exact D
 ·have f1:decide (n≥lo)=false:=decide_eq_false h1
  rw[decide_eq_false h1,Bool.false_and]
  refine T ?_
  exact D
theorem Ld (l:List Int) (most:Int) (hl:l.length≤100000):Sy.Spec Tryz.prog 350 [.sl 1 Aa l,Aa most] [] (Af (Es l most)) []:=cT F350 Tryz.ntmps350 fun F hF=>by
 have q:=Xi l 1 most (by simp only[Dx];omega)
 rw[Es,Acn]
 by_cases h0:l.length=0
 ·rw[decide_eq_true h0,Bool.true_or]
  have f0:((l.length:Int) == 0)=true:=by rw[h0];rfl
  refine T ?_
  exact D
 ·rw[decide_eq_false h0,Bool.false_or]
  have f0:((l.length:Int) == 0)=false:=by rw[beq_eq_false_iff_ne];omega
  refine T ?_
  refine C q F166 ?_
  exact D
def It (l:List Int) (i:Nat) (x:Int):Bool:=decide (x≠0) && (i == 0 || decide (l.getD (i-1) 0<x))
theorem X4 (l:List Int):Hv l=(Qp (It l) l && (decide (0<l.length) && decide (l.length≤16))):=by
 have e:(List.range l.length).all (fun i=>decide (l.getD i 0≠0) && (i == 0 || decide (l.getD (i-1) 0<l.getD i 0)))=Qp (It l) l:=by
  rw[Bool.eq_iff_iff,List.all_eq_true,allB_iff]
  constructor
  ·intro h i hi
   have:=h i (List.mem_range.2 hi)
   rw[show l.getD i 0=l[i] by rw[List.getD_eq_getElem?_getD,List.getElem?_eq_getElem hi];rfl]at this
   exact this
  ·intro h i hi
   have hi:=List.mem_range.1 hi
   rw[show l.getD i 0=l[i] by rw[List.getD_eq_getElem?_getD,List.getElem?_eq_getElem hi];rfl]
   exact h i hi
 rw[Hv,e]
theorem W4 (l:List Int) (hl:l.length≤100000):Sy.Spec Tryz.prog 351 [.sl 1 Aw l] [] (Af (Hv l)) []:=cT F351 Tryz.ntmps351 fun F hF=>by
 have hres:=X4 l
 generalize Hv l=r at *
 refine T ?_
 refine Bz l.length (fun j=>M4 (It l) l j) (fun j=>[(0,.sl 1 Aw l),(5,.sl 1 Aw l),(6,Aa l.length),(7,Aa j)]) (fun _=>[]) [] (Ej _ _) U ?_
 intro j hj hI
 refine T ?_
 refine⟨fun h=>?_,fun h=>?_⟩
 ·have hlt:j<l.length:=qA h
  have hlt0:((j:Nat):Int).toNat<l.length:=hlt
  have hno:=fun h=>Ev (p:=It l) hlt h
  have hnx:=fun h=>Dz (p:=It l) hI hlt h
  clear h
  by_cases h1:l[j]=0
  ·have f1:(l[((j:Nat):Int).toNat]'hlt0 == 0)=true:=beq_iff_eq.2 h1
   rw[hno (by simp[It,h1]),Bool.false_and]at hres
   subst hres
   refine T ?_
   exact D
  ·have f1:(l[((j:Nat):Int).toNat]'hlt0 == 0)=false:=beq_eq_false_iff_ne.2 h1
   by_cases h2:j=0
   ·subst h2
    refine T ?_
    exact B1 [] hI j_ (hnx (by simp[It,h1])) U
   ·have f2:decide ((j:Int)>0)=true:=decide_eq_true j_
    have hk:((j:Int)-1).toNat<l.length:=by omega
    have hg:l.getD (j-1) 0=l[((j:Int)-1).toNat]'hk:=by
     rw[List.getD_eq_getElem?_getD,List.getElem?_eq_getElem (by omega:j-1<l.length)]
     have:((j:Int)-1).toNat=j-1:=by omega
     simp only[this]
     rfl
    have hx:It l j l[j]=(decide (l[j]≠0) && (j == 0 || decide (l.getD (j-1) 0<l[j]))):=rfl
    rw[hg]at hx
    by_cases h3:l[((j:Int)-1).toNat]'hk<l[j]
    ·have f3:decide (l[((j:Int)-1).toNat]'hk≥l[((j:Nat):Int).toNat]'hlt0)=false:=decide_eq_false (by show ¬ _≥l[j];omega)
     refine T ?_
     exact B1 [] hI j_ (hnx (by rw[hx,decide_eq_true h1,decide_eq_true h3,Bool.or_true];rfl)) U
    ·have f3:decide (l[((j:Int)-1).toNat]'hk≥l[((j:Nat):Int).toNat]'hlt0)=true:=decide_eq_true (by show _≥l[j];omega)
     rw[hno (by rw[hx,decide_eq_false h3,beq_eq_false_iff_ne.2 h2];simp),Bool.false_and]at hres
     subst hres
     refine T ?_
     exact D
 ·have hje:j=l.length:=qB h
  subst hje
  rw[Od hI (Nat.le_refl _),Bool.true_and]at hres
  subst hres
  clear h
  by_cases h0:0<l.length
  ·rw[decide_eq_true h0,Bool.true_and]
   have f0:decide ((l.length:Int)>0)=true:=decide_eq_true j_
   refine T ?_
   refine Bn q_ (.cons .tmp .nil) (congrArg Af ?_) q_
   exact decide_eq_decide.2 j_
  ·rw[decide_eq_false h0,Bool.false_and]
   have f0:decide ((l.length:Int)>0)=false:=decide_eq_false j_
   refine T ?_
   exact D
structure LineW (l:LineM):Prop where
 fin:LineFin l
 ok:LineOK l
 dev:l.dev.size≤100000
 port:l.port.size≤100000
 peer:l.peer.size≤100000
 far:l.far.size≤100000
 name:l.name.size≤100000
theorem Wp (l:LineM) (hw:LineW l) (hk:l.kind=1):Sy.Spec Tryz.prog 298 [Ab l] [] (.tup [Ab (A1 l).1,Af (A1 l).2]) []:=cT F298 Tryz.ntmps298 fun F hF=>by
 have hU:A1 l=({ lineZ with row:=l.row,kind:=1,dev:=l.dev,num:=l.num,mac:=l.mac },(A7 l.num 0 65535 && statB l.mac)):=by
  simp only[A1,hk]
  rfl
 rw[hU]
 have q0:=Cg l.num 0 65535
 have q1:Sy.Spec Tryz.prog 238 [Cn l.mac] [] (Af (statB l.mac)) []:=by
  have:=hw.ok.mac
  obtain ⟨m,hm1⟩:∃ m:Nat,l.mac=m:=⟨l.mac.toNat,by omega⟩
  rw[hm1];exact Oj m j_
 obtain ⟨row,kind,dev,port,peer,far,name,mac,addr,bits,vlan,num,cost,tagged,imports,exports,addrs⟩:=l
 dsimp only at hk q0 q1 ⊢
 subst hk
 clear hU hw
 generalize A7 num 0 65535=b0 at *
 generalize statB mac=b1 at *
 cases b0
 ·rw[Bool.false_and]
  refine T ?_
  refine C q0 F349 ?_
  refine Ap 2 (Av { lineZ with row:=row,kind:=1,dev:=dev,num:=num,mac:=mac }) rfl (.cons (.refl _) (.cons (.refl _) (.cons (.refl _) (.cons (.refl _) (.cons (.refl _) (.cons (.refl _) (.cons (.refl _) (.cons (.refl _) (.cons (.refl _) (.cons (.refl _) (.cons (.refl _) (.cons (.refl _) (.cons (.refl _) (.cons .nil (.cons .nil (.cons .nil (.cons .nil .nil))))))))))))))))) ?_
  refine T ?_
  exact D
 rw[Bool.true_and]
 refine T ?_
 refine C q0 F349 ?_
 refine C q1 F238 ?_
 refine Ap 2 (Av { lineZ with row:=row,kind:=1,dev:=dev,num:=num,mac:=mac }) rfl (.cons (.refl _) (.cons (.refl _) (.cons (.refl _) (.cons (.refl _) (.cons (.refl _) (.cons (.refl _) (.cons (.refl _) (.cons (.refl _) (.cons (.refl _) (.cons (.refl _) (.cons (.refl _) (.cons (.refl _) (.cons (.refl _) (.cons .nil (.cons .nil (.cons .nil (.cons .nil .nil))))))))))))))))) ?_
 refine T ?_
 exact D
theorem Wo (l:LineM) (hw:LineW l) (hk:l.kind=2):Sy.Spec Tryz.prog 298 [Ab l] [] (.tup [Ab (A1 l).1,Af (A1 l).2]) []:=cT F298 Tryz.ntmps298 fun F hF=>by
 have hU:A1 l=({ lineZ with row:=l.row,kind:=2,dev:=l.dev,port:=l.port,cost:=l.cost,vlan:=l.vlan,tagged:=l.tagged },(Am l.port && (A7 l.cost 1 65535 && (A7 l.vlan 0 4094 && (Es l.tagged 4094 && membersB l.vlan l.tagged))))):=by
  simp only[A1,hk]
  rfl
 rw[hU]
 have q0:=Dq l.port (by have:=hw.port;omega)
 have q1:=Cg l.cost 1 65535
 have q2:=Cg l.vlan 0 4094
 have q3:=Ld l.tagged 4094 hw.fin.t
 have q4:=Dm l (by have:=hw.fin.t;simp only[Dx];omega)
 obtain ⟨row,kind,dev,port,peer,far,name,mac,addr,bits,vlan,num,cost,tagged,imports,exports,addrs⟩:=l
 dsimp only at hk q0 q1 q2 q3 q4 ⊢
 subst hk
 clear hU hw
 generalize Am port=b0 at *
 generalize A7 cost 1 65535=b1 at *
 generalize A7 vlan 0 4094=b2 at *
 generalize Es tagged 4094=b3 at *
 generalize membersB vlan tagged=b4 at *
 cases b0
 ·rw[Bool.false_and]
  refine T ?_
  refine C q0 F235 ?_
  refine Ap 2 (Av { lineZ with row:=row,kind:=2,dev:=dev,port:=port,cost:=cost,vlan:=vlan,tagged:=tagged }) rfl (.cons (.refl _) (.cons (.refl _) (.cons (.refl _) (.cons (.refl _) (.cons (.refl _) (.cons (.refl _) (.cons (.refl _) (.cons (.refl _) (.cons (.refl _) (.cons (.refl _) (.cons (.refl _) (.cons (.refl _) (.cons (.refl _) (.cons (.refl _) (.cons .nil (.cons .nil (.cons .nil .nil))))))))))))))))) ?_
  refine T ?_
  exact D
 rw[Bool.true_and]
 cases b1
 ·rw[Bool.false_and]
  refine T ?_
  refine C q0 F235 ?_
  refine C q1 F349 ?_
  refine Ap 2 (Av { lineZ with row:=row,kind:=2,dev:=dev,port:=port,cost:=cost,vlan:=vlan,tagged:=tagged }) rfl (.cons (.refl _) (.cons (.refl _) (.cons (.refl _) (.cons (.refl _) (.cons (.refl _) (.cons (.refl _) (.cons (.refl _) (.cons (.refl _) (.cons (.refl _) (.cons (.refl _) (.cons (.refl _) (.cons (.refl _) (.cons (.refl _) (.cons (.refl _) (.cons .nil (.cons .nil (.cons .nil .nil))))))))))))))))) ?_
  refine T ?_
  exact D
 rw[Bool.true_and]
 cases b2
 ·rw[Bool.false_and]
  refine T ?_
  refine C q0 F235 ?_
  refine C q1 F349 ?_
  refine C q2 F349 ?_
  refine Ap 2 (Av { lineZ with row:=row,kind:=2,dev:=dev,port:=port,cost:=cost,vlan:=vlan,tagged:=tagged }) rfl (.cons (.refl _) (.cons (.refl _) (.cons (.refl _) (.cons (.refl _) (.cons (.refl _) (.cons (.refl _) (.cons (.refl _) (.cons (.refl _) (.cons (.refl _) (.cons (.refl _) (.cons (.refl _) (.cons (.refl _) (.cons (.refl _) (.cons (.refl _) (.cons .nil (.cons .nil (.cons .nil .nil))))))))))))))))) ?_
  refine T ?_
  exact D
 rw[Bool.true_and]
 cases b3
 ·rw[Bool.false_and]
  refine T ?_
  refine C q0 F235 ?_
  refine C q1 F349 ?_
  refine C q2 F349 ?_
  refine C q3 F350 ?_
  refine Ap 2 (Av { lineZ with row:=row,kind:=2,dev:=dev,port:=port,cost:=cost,vlan:=vlan,tagged:=tagged }) rfl (.cons (.refl _) (.cons (.refl _) (.cons (.refl _) (.cons (.refl _) (.cons (.refl _) (.cons (.refl _) (.cons (.refl _) (.cons (.refl _) (.cons (.refl _) (.cons (.refl _) (.cons (.refl _) (.cons (.refl _) (.cons (.refl _) (.cons (.refl _) (.cons .nil (.cons .nil (.cons .nil .nil))))))))))))))))) ?_
  refine T ?_
  exact D
 rw[Bool.true_and]
 refine T ?_
 refine C q0 F235 ?_
 refine C q1 F349 ?_
 refine C q2 F349 ?_
 refine C q3 F350 ?_
 refine C q4 F239 ?_
 refine Ap 2 (Av { lineZ with row:=row,kind:=2,dev:=dev,port:=port,cost:=cost,vlan:=vlan,tagged:=tagged }) rfl (.cons (.refl _) (.cons (.refl _) (.cons (.refl _) (.cons (.refl _) (.cons (.refl _) (.cons (.refl _) (.cons (.refl _) (.cons (.refl _) (.cons (.refl _) (.cons (.refl _) (.cons (.refl _) (.cons (.refl _) (.cons (.refl _) (.cons (.refl _) (.cons .nil (.cons .nil (.cons .nil .nil))))))))))))))))) ?_
 refine T ?_
 exact D
theorem Wn (l:LineM) (hw:LineW l) (hk:l.kind=3):Sy.Spec Tryz.prog 298 [Ab l] [] (.tup [Ab (A1 l).1,Af (A1 l).2]) []:=cT F298 Tryz.ntmps298 fun F hF=>by
 have hU:A1 l=({ lineZ with row:=l.row,kind:=3,dev:=l.dev,port:=l.port,peer:=l.peer,far:=l.far },(Am l.port && (Am l.peer && Am l.far))):=by
  simp only[A1,hk]
  rfl
 rw[hU]
 have q0:=Dq l.port (by have:=hw.port;omega)
 have q1:=Dq l.peer (by have:=hw.peer;omega)
 have q2:=Dq l.far (by have:=hw.far;omega)
 obtain ⟨row,kind,dev,port,peer,far,name,mac,addr,bits,vlan,num,cost,tagged,imports,exports,addrs⟩:=l
 dsimp only at hk q0 q1 q2 ⊢
 subst hk
 clear hU hw
 generalize Am port=b0 at *
 generalize Am peer=b1 at *
 generalize Am far=b2 at *
 cases b0
 ·rw[Bool.false_and]
  refine T ?_
  refine C q0 F235 ?_
  refine Ap 2 (Av { lineZ with row:=row,kind:=3,dev:=dev,port:=port,peer:=peer,far:=far }) rfl (.cons (.refl _) (.cons (.refl _) (.cons (.refl _) (.cons (.refl _) (.cons (.refl _) (.cons (.refl _) (.cons (.refl _) (.cons (.refl _) (.cons (.refl _) (.cons (.refl _) (.cons (.refl _) (.cons (.refl _) (.cons (.refl _) (.cons .nil (.cons .nil (.cons .nil (.cons .nil .nil))))))))))))))))) ?_
  refine T ?_
  exact D
 rw[Bool.true_and]
 cases b1
 ·rw[Bool.false_and]
  refine T ?_
  refine C q0 F235 ?_
  refine C q1 F235 ?_
  refine Ap 2 (Av { lineZ with row:=row,kind:=3,dev:=dev,port:=port,peer:=peer,far:=far }) rfl (.cons (.refl _) (.cons (.refl _) (.cons (.refl _) (.cons (.refl _) (.cons (.refl _) (.cons (.refl _) (.cons (.refl _) (.cons (.refl _) (.cons (.refl _) (.cons (.refl _) (.cons (.refl _) (.cons (.refl _) (.cons (.refl _) (.cons .nil (.cons .nil (.cons .nil (.cons .nil .nil))))))))))))))))) ?_
  refine T ?_
  exact D
 rw[Bool.true_and]
 refine T ?_
 refine C q0 F235 ?_
 refine C q1 F235 ?_
 refine C q2 F235 ?_
 refine Ap 2 (Av { lineZ with row:=row,kind:=3,dev:=dev,port:=port,peer:=peer,far:=far }) rfl (.cons (.refl _) (.cons (.refl _) (.cons (.refl _) (.cons (.refl _) (.cons (.refl _) (.cons (.refl _) (.cons (.refl _) (.cons (.refl _) (.cons (.refl _) (.cons (.refl _) (.cons (.refl _) (.cons (.refl _) (.cons (.refl _) (.cons .nil (.cons .nil (.cons .nil (.cons .nil .nil))))))))))))))))) ?_
 refine T ?_
 exact D
theorem Wm (l:LineM) (hw:LineW l) (hk:l.kind=4):Sy.Spec Tryz.prog 298 [Ab l] [] (.tup [Ab (A1 l).1,Af (A1 l).2]) []:=cT F298 Tryz.ntmps298 fun F hF=>by
 have hU:A1 l=({ lineZ with row:=l.row,kind:=4,dev:=l.dev,vlan:=l.vlan,mac:=l.mac,port:=l.port },(A7 l.vlan 1 4094 && (statB l.mac && Am l.port))):=by
  simp only[A1,hk]
  rfl
 rw[hU]
 have q0:=Cg l.vlan 1 4094
 have q1:Sy.Spec Tryz.prog 238 [Cn l.mac] [] (Af (statB l.mac)) []:=by
  have:=hw.ok.mac
  obtain ⟨m,hm1⟩:∃ m:Nat,l.mac=m:=⟨l.mac.toNat,by omega⟩
  rw[hm1];exact Oj m j_
 have q2:=Dq l.port (by have:=hw.port;omega)
 obtain ⟨row,kind,dev,port,peer,far,name,mac,addr,bits,vlan,num,cost,tagged,imports,exports,addrs⟩:=l
 dsimp only at hk q0 q1 q2 ⊢
 subst hk
 clear hU hw
 generalize A7 vlan 1 4094=b0 at *
 generalize statB mac=b1 at *
 generalize Am port=b2 at *
 cases b0
 ·rw[Bool.false_and]
  refine T ?_
  refine C q0 F349 ?_
  refine Ap 2 (Av { lineZ with row:=row,kind:=4,dev:=dev,vlan:=vlan,mac:=mac,port:=port }) rfl (.cons (.refl _) (.cons (.refl _) (.cons (.refl _) (.cons (.refl _) (.cons (.refl _) (.cons (.refl _) (.cons (.refl _) (.cons (.refl _) (.cons (.refl _) (.cons (.refl _) (.cons (.refl _) (.cons (.refl _) (.cons (.refl _) (.cons .nil (.cons .nil (.cons .nil (.cons .nil .nil))))))))))))))))) ?_
  refine T ?_
  exact D
 rw[Bool.true_and]
 cases b1
 ·rw[Bool.false_and]
  refine T ?_
  refine C q0 F349 ?_
  refine C q1 F238 ?_
  refine Ap 2 (Av { lineZ with row:=row,kind:=4,dev:=dev,vlan:=vlan,mac:=mac,port:=port }) rfl (.cons (.refl _) (.cons (.refl _) (.cons (.refl _) (.cons (.refl _) (.cons (.refl _) (.cons (.refl _) (.cons (.refl _) (.cons (.refl _) (.cons (.refl _) (.cons (.refl _) (.cons (.refl _) (.cons (.refl _) (.cons (.refl _) (.cons .nil (.cons .nil (.cons .nil (.cons .nil .nil))))))))))))))))) ?_
  refine T ?_
  exact D
 rw[Bool.true_and]
 refine T ?_
 refine C q0 F349 ?_
 refine C q1 F238 ?_
 refine C q2 F235 ?_
 refine Ap 2 (Av { lineZ with row:=row,kind:=4,dev:=dev,vlan:=vlan,mac:=mac,port:=port }) rfl (.cons (.refl _) (.cons (.refl _) (.cons (.refl _) (.cons (.refl _) (.cons (.refl _) (.cons (.refl _) (.cons (.refl _) (.cons (.refl _) (.cons (.refl _) (.cons (.refl _) (.cons (.refl _) (.cons (.refl _) (.cons (.refl _) (.cons .nil (.cons .nil (.cons .nil (.cons .nil .nil))))))))))))))))) ?_
 refine T ?_
 exact D
theorem Wk (l:LineM) (hw:LineW l) (hk:l.kind=6):Sy.Spec Tryz.prog 298 [Ab l] [] (.tup [Ab (A1 l).1,Af (A1 l).2]) []:=cT F298 Tryz.ntmps298 fun F hF=>by
 have hU:A1 l=({ lineZ with row:=l.row,kind:=6,dev:=l.dev,vlan:=l.vlan,num:=l.num },(A7 l.vlan 1 4094 && A7 l.num 1 16777215)):=by
  simp only[A1,hk]
  rfl
 rw[hU]
 have q0:=Cg l.vlan 1 4094
 have q1:=Cg l.num 1 16777215
 obtain ⟨row,kind,dev,port,peer,far,name,mac,addr,bits,vlan,num,cost,tagged,imports,exports,addrs⟩:=l
 dsimp only at hk q0 q1 ⊢
 subst hk
 clear hU hw
 generalize A7 vlan 1 4094=b0 at *
 generalize A7 num 1 16777215=b1 at *
 cases b0
 ·rw[Bool.false_and]
  refine T ?_
  refine C q0 F349 ?_
  refine Ap 2 (Av { lineZ with row:=row,kind:=6,dev:=dev,vlan:=vlan,num:=num }) rfl (.cons (.refl _) (.cons (.refl _) (.cons (.refl _) (.cons (.refl _) (.cons (.refl _) (.cons (.refl _) (.cons (.refl _) (.cons (.refl _) (.cons (.refl _) (.cons (.refl _) (.cons (.refl _) (.cons (.refl _) (.cons (.refl _) (.cons .nil (.cons .nil (.cons .nil (.cons .nil .nil))))))))))))))))) ?_
  refine T ?_
  exact D
 rw[Bool.true_and]
 refine T ?_
 refine C q0 F349 ?_
 refine C q1 F349 ?_
 refine Ap 2 (Av { lineZ with row:=row,kind:=6,dev:=dev,vlan:=vlan,num:=num }) rfl (.cons (.refl _) (.cons (.refl _) (.cons (.refl _) (.cons (.refl _) (.cons (.refl _) (.cons (.refl _) (.cons (.refl _) (.cons (.refl _) (.cons (.refl _) (.cons (.refl _) (.cons (.refl _) (.cons (.refl _) (.cons (.refl _) (.cons .nil (.cons .nil (.cons .nil (.cons .nil .nil))))))))))))))))) ?_
 refine T ?_
 exact D
theorem Wj (l:LineM) (hw:LineW l) (hk:l.kind=7):Sy.Spec Tryz.prog 298 [Ab l] [] (.tup [Ab (A1 l).1,Af (A1 l).2]) []:=cT F298 Tryz.ntmps298 fun F hF=>by
 have hU:A1 l=({ lineZ with row:=l.row,kind:=7,dev:=l.dev,num:=l.num,addrs:=l.addrs },(A7 l.num 1 16777215 && Hv l.addrs)):=by
  simp only[A1,hk]
  rfl
 rw[hU]
 have q0:=Cg l.num 1 16777215
 have q1:=W4 l.addrs hw.fin.a
 obtain ⟨row,kind,dev,port,peer,far,name,mac,addr,bits,vlan,num,cost,tagged,imports,exports,addrs⟩:=l
 dsimp only at hk q0 q1 ⊢
 subst hk
 clear hU hw
 generalize A7 num 1 16777215=b0 at *
 generalize Hv addrs=b1 at *
 cases b0
 ·rw[Bool.false_and]
  refine T ?_
  refine C q0 F349 ?_
  refine Ap 2 (Av { lineZ with row:=row,kind:=7,dev:=dev,num:=num,addrs:=addrs }) rfl (.cons (.refl _) (.cons (.refl _) (.cons (.refl _) (.cons (.refl _) (.cons (.refl _) (.cons (.refl _) (.cons (.refl _) (.cons (.refl _) (.cons (.refl _) (.cons (.refl _) (.cons (.refl _) (.cons (.refl _) (.cons (.refl _) (.cons .nil (.cons .nil (.cons .nil (.cons (.refl _) .nil))))))))))))))))) ?_
  refine T ?_
  exact D
 rw[Bool.true_and]
 refine T ?_
 refine C q0 F349 ?_
 refine C q1 F351 ?_
 refine Ap 2 (Av { lineZ with row:=row,kind:=7,dev:=dev,num:=num,addrs:=addrs }) rfl (.cons (.refl _) (.cons (.refl _) (.cons (.refl _) (.cons (.refl _) (.cons (.refl _) (.cons (.refl _) (.cons (.refl _) (.cons (.refl _) (.cons (.refl _) (.cons (.refl _) (.cons (.refl _) (.cons (.refl _) (.cons (.refl _) (.cons .nil (.cons .nil (.cons .nil (.cons (.refl _) .nil))))))))))))))))) ?_
 refine T ?_
 exact D
theorem Wi (l:LineM) (hw:LineW l) (hk:l.kind=8):Sy.Spec Tryz.prog 298 [Ab l] [] (.tup [Ab (A1 l).1,Af (A1 l).2]) []:=cT F298 Tryz.ntmps298 fun F hF=>by
 have hU:A1 l=({ lineZ with row:=l.row,kind:=8,dev:=l.dev,name:=l.name,imports:=l.imports,exports:=l.exports },(Am l.name && (Es l.imports 65535 && Es l.exports 65535))):=by
  simp only[A1,hk]
  rfl
 rw[hU]
 have q0:=Dq l.name (by have:=hw.name;omega)
 have q1:=Ld l.imports 65535 hw.fin.i
 have q2:=Ld l.exports 65535 hw.fin.e
 obtain ⟨row,kind,dev,port,peer,far,name,mac,addr,bits,vlan,num,cost,tagged,imports,exports,addrs⟩:=l
 dsimp only at hk q0 q1 q2 ⊢
 subst hk
 clear hU hw
 generalize Am name=b0 at *
 generalize Es imports 65535=b1 at *
 generalize Es exports 65535=b2 at *
 cases b0
 ·rw[Bool.false_and]
  refine T ?_
  refine C q0 F235 ?_
  refine Ap 2 (Av { lineZ with row:=row,kind:=8,dev:=dev,name:=name,imports:=imports,exports:=exports }) rfl (.cons (.refl _) (.cons (.refl _) (.cons (.refl _) (.cons (.refl _) (.cons (.refl _) (.cons (.refl _) (.cons (.refl _) (.cons (.refl _) (.cons (.refl _) (.cons (.refl _) (.cons (.refl _) (.cons (.refl _) (.cons (.refl _) (.cons .nil (.cons (.refl _) (.cons (.refl _) (.cons .nil .nil))))))))))))))))) ?_
  refine T ?_
  exact D
 rw[Bool.true_and]
 cases b1
 ·rw[Bool.false_and]
  refine T ?_
  refine C q0 F235 ?_
  refine C q1 F350 ?_
  refine Ap 2 (Av { lineZ with row:=row,kind:=8,dev:=dev,name:=name,imports:=imports,exports:=exports }) rfl (.cons (.refl _) (.cons (.refl _) (.cons (.refl _) (.cons (.refl _) (.cons (.refl _) (.cons (.refl _) (.cons (.refl _) (.cons (.refl _) (.cons (.refl _) (.cons (.refl _) (.cons (.refl _) (.cons (.refl _) (.cons (.refl _) (.cons .nil (.cons (.refl _) (.cons (.refl _) (.cons .nil .nil))))))))))))))))) ?_
  refine T ?_
  exact D
 rw[Bool.true_and]
 refine T ?_
 refine C q0 F235 ?_
 refine C q1 F350 ?_
 refine C q2 F350 ?_
 refine Ap 2 (Av { lineZ with row:=row,kind:=8,dev:=dev,name:=name,imports:=imports,exports:=exports }) rfl (.cons (.refl _) (.cons (.refl _) (.cons (.refl _) (.cons (.refl _) (.cons (.refl _) (.cons (.refl _) (.cons (.refl _) (.cons (.refl _) (.cons (.refl _) (.cons (.refl _) (.cons (.refl _) (.cons (.refl _) (.cons (.refl _) (.cons .nil (.cons (.refl _) (.cons (.refl _) (.cons .nil .nil))))))))))))))))) ?_
 refine T ?_
 exact D
theorem Wh (l:LineM) (hw:LineW l) (hk:l.kind=9):Sy.Spec Tryz.prog 298 [Ab l] [] (.tup [Ab (A1 l).1,Af (A1 l).2]) []:=cT F298 Tryz.ntmps298 fun F hF=>by
 have hU:A1 l=({ lineZ with row:=l.row,kind:=9,dev:=l.dev,vlan:=l.vlan,name:=l.name,addr:=l.addr,bits:=l.bits },(A7 l.vlan 1 4094 && (Am l.name && subnetB l.addr l.bits))):=by
  simp only[A1,hk]
  rfl
 rw[hU]
 have q0:=Cg l.vlan 1 4094
 have q1:=Dq l.name (by have:=hw.name;omega)
 have q2:Sy.Spec Tryz.prog 193 [Do l.addr l.bits] [] (Af (subnetB l.addr l.bits)) []:=by
  have:=hw.ok.addr
  obtain ⟨m,hm1⟩:∃ m:Nat,l.addr=m:=⟨l.addr.toNat,by omega⟩
  rw[hm1];exact L6 m l.bits j_
 obtain ⟨row,kind,dev,port,peer,far,name,mac,addr,bits,vlan,num,cost,tagged,imports,exports,addrs⟩:=l
 dsimp only at hk q0 q1 q2 ⊢
 subst hk
 clear hU hw
 generalize A7 vlan 1 4094=b0 at *
 generalize Am name=b1 at *
 generalize subnetB addr bits=b2 at *
 cases b0
 ·rw[Bool.false_and]
  refine T ?_
  refine C q0 F349 ?_
  refine Ap 2 (Av { lineZ with row:=row,kind:=9,dev:=dev,vlan:=vlan,name:=name,addr:=addr,bits:=bits }) rfl (.cons (.refl _) (.cons (.refl _) (.cons (.refl _) (.cons (.refl _) (.cons (.refl _) (.cons (.refl _) (.cons (.refl _) (.cons (.refl _) (.cons (.refl _) (.cons (.refl _) (.cons (.refl _) (.cons (.refl _) (.cons (.refl _) (.cons .nil (.cons .nil (.cons .nil (.cons .nil .nil))))))))))))))))) ?_
  refine T ?_
  exact D
 rw[Bool.true_and]
 cases b1
 ·rw[Bool.false_and]
  refine T ?_
  refine C q0 F349 ?_
  refine C q1 F235 ?_
  refine Ap 2 (Av { lineZ with row:=row,kind:=9,dev:=dev,vlan:=vlan,name:=name,addr:=addr,bits:=bits }) rfl (.cons (.refl _) (.cons (.refl _) (.cons (.refl _) (.cons (.refl _) (.cons (.refl _) (.cons (.refl _) (.cons (.refl _) (.cons (.refl _) (.cons (.refl _) (.cons (.refl _) (.cons (.refl _) (.cons (.refl _) (.cons (.refl _) (.cons .nil (.cons .nil (.cons .nil (.cons .nil .nil))))))))))))))))) ?_
  refine T ?_
  exact D
 rw[Bool.true_and]
 refine T ?_
 refine C q0 F349 ?_
 refine C q1 F235 ?_
 refine C q2 F193 ?_
 refine Ap 2 (Av { lineZ with row:=row,kind:=9,dev:=dev,vlan:=vlan,name:=name,addr:=addr,bits:=bits }) rfl (.cons (.refl _) (.cons (.refl _) (.cons (.refl _) (.cons (.refl _) (.cons (.refl _) (.cons (.refl _) (.cons (.refl _) (.cons (.refl _) (.cons (.refl _) (.cons (.refl _) (.cons (.refl _) (.cons (.refl _) (.cons (.refl _) (.cons .nil (.cons .nil (.cons .nil (.cons .nil .nil))))))))))))))))) ?_
 refine T ?_
 exact D
theorem Wl (l:LineM) (hw:LineW l) (hk:l.kind=5):Sy.Spec Tryz.prog 298 [Ab l] [] (.tup [Ab (A1 l).1,Af (A1 l).2]) []:=cT F298 Tryz.ntmps298 fun F hF=>by
 have hU:A1 l=({ lineZ with row:=l.row,kind:=5,dev:=l.dev,addr:=l.addr },decide (l.addr≠0)):=by
  simp only[A1,hk]
  rfl
 rw[hU]
 obtain ⟨row,kind,dev,port,peer,far,name,mac,addr,bits,vlan,num,cost,tagged,imports,exports,addrs⟩:=l
 dsimp only at hk ⊢
 subst hk
 clear hU hw
 have hb:decide (addr≠0)=(addr != 0):=by
  by_cases h:addr=0
  ·rw[h];rfl
  ·rw[decide_eq_true h,bne_iff_ne.2 h]
 rw[hb]
 refine T ?_
 refine Ap 2 (Av { lineZ with row:=row,kind:=5,dev:=dev,addr:=addr }) rfl (.cons (.refl _) (.cons (.refl _) (.cons (.refl _) (.cons (.refl _) (.cons (.refl _) (.cons (.refl _) (.cons (.refl _) (.cons (.refl _) (.cons (.refl _) (.cons (.refl _) (.cons (.refl _) (.cons (.refl _) (.cons (.refl _) (.cons .nil (.cons .nil (.cons .nil (.cons .nil .nil))))))))))))))))) ?_
 refine T ?_
 exact D
theorem Wq (l:LineM) (hk:¬ (1≤l.kind∧l.kind≤9)):Sy.Spec Tryz.prog 298 [Ab l] [] (.tup [Ab (A1 l).1,Af (A1 l).2]) []:=cT F298 Tryz.ntmps298 fun F hF=>by
 have n1:¬ l.kind=1:=by omega
 have f1:(l.kind == 1)=false:=beq_eq_false_iff_ne.2 n1
 have n2:¬ l.kind=2:=by omega
 have f2:(l.kind == 2)=false:=beq_eq_false_iff_ne.2 n2
 have n3:¬ l.kind=3:=by omega
 have f3:(l.kind == 3)=false:=beq_eq_false_iff_ne.2 n3
 have n4:¬ l.kind=4:=by omega
 have f4:(l.kind == 4)=false:=beq_eq_false_iff_ne.2 n4
 have n5:¬ l.kind=5:=by omega
 have f5:(l.kind == 5)=false:=beq_eq_false_iff_ne.2 n5
 have n6:¬ l.kind=6:=by omega
 have f6:(l.kind == 6)=false:=beq_eq_false_iff_ne.2 n6
 have n7:¬ l.kind=7:=by omega
 have f7:(l.kind == 7)=false:=beq_eq_false_iff_ne.2 n7
 have n8:¬ l.kind=8:=by omega
 have f8:(l.kind == 8)=false:=beq_eq_false_iff_ne.2 n8
 have n9:¬ l.kind=9:=by omega
 have f9:(l.kind == 9)=false:=beq_eq_false_iff_ne.2 n9
 have hU:A1 l=({ lineZ with row:=l.row,kind:=l.kind,dev:=l.dev },false):=by
  simp only[A1,if_neg n1,if_neg n2,if_neg n3,if_neg n4,if_neg n5,if_neg n6,if_neg n7,if_neg n8,if_neg n9]
 rw[hU]
 refine T ?_
 refine Ap 2 (Av { lineZ with row:=l.row,kind:=l.kind,dev:=l.dev }) rfl (.cons (.refl _) (.cons (.refl _) (.cons (.refl _) (.cons (.refl _) (.cons (.refl _) (.cons (.refl _) (.cons (.refl _) (.cons (.refl _) (.cons (.refl _) (.cons (.refl _) (.cons (.refl _) (.cons (.refl _) (.cons (.refl _) (.cons .nil (.cons .nil (.cons .nil (.cons .nil .nil))))))))))))))))) ?_
 refine T ?_
 exact D
theorem Yy (l:LineM) (hw:LineW l):Sy.Spec Tryz.prog 298 [Ab l] [] (.tup [Ab (A1 l).1,Af (A1 l).2]) []:=by
 by_cases hk:1≤l.kind∧l.kind≤9
 ·rcases (by omega:l.kind=1∨l.kind=2∨l.kind=3∨l.kind=4∨l.kind=5∨l.kind=6∨l.kind=7∨l.kind=8∨l.kind=9) with h | h | h | h | h | h | h | h | h
  ·exact Wp l hw h
  ·exact Wo l hw h
  ·exact Wn l hw h
  ·exact Wm l hw h
  ·exact Wl l hw h
  ·exact Wk l hw h
  ·exact Wj l hw h
  ·exact Wi l hw h
  ·exact Wh l hw h
 ·exact Wq l hk
theorem Yt {l:LineM} (h:LineFin l):LineFin (A1 l).1:=by
 have ht:=h.t;have hi:=h.i;have he:=h.e;have haa:=h.a
 unfold A1
 dsimp only
 repeat' split
 all_goals exact⟨by first | exact ht | (show 0≤100000;decide),by first | exact hi | (show 0≤100000;decide),by first | exact he | (show 0≤100000;decide),by first | exact haa | (show 0≤100000;decide)⟩
theorem B7 (l:LineM) (hw:LineW l):Sy.Spec Tryz.prog 246 [Ab l] [] (Af (Bo l)) []:=cT F246 Tryz.ntmps246 fun F hF=>by
 have q1:=Yy l hw
 have q2:=Dq l.dev (by have:=hw.dev;omega)
 have q3:=Yz (A1 l).1 l (Yt hw.fin) hw.fin
 rw[Bo]
 generalize A1 l=u at *
 obtain ⟨ul,ub⟩:=u
 dsimp only at q1 q3 ⊢
 cases ub
 ·rw[Bool.false_and]
  refine T ?_
  refine C q1 F298 ?_
  exact D
 rw[Bool.true_and]
 cases hn:Am l.dev
 ·rw[hn]at q2
  rw[Bool.false_and]
  refine T ?_
  refine C q1 F298 ?_
  refine C q2 F235 ?_
  exact D
 rw[hn]at q2
 rw[Bool.true_and]
 refine T ?_
 refine C q1 F298 ?_
 refine C q2 F235 ?_
 refine C q3 F50 ?_
 exact D
theorem Zb (i:Nat) (hi:i<6):Sy.Spec Tryz.prog 299 [Aa i] [] (Cn ((8 * (5-i):Nat):Int)) []:=cT F299 Tryz.ntmps299 fun F hF=>by
 refine T ?_
 refine Bn q_ (.cons .tmp .nil) (congrArg (fun z=>SV.val (.int .u64 z)) (?_:_=IntKind.u64.wrap (8 * (5-(i:Int))))) q_
 rw[IntKind.wrap_u64];omega
theorem Xz (m j:Nat) (hm:m<18446744073709551616) (hj:j<6):IntKind.u8.wrap ((m:Int).fdiv (2 ^ (min (((8 * (5-j):Nat):Int)).toNat IntKind.u64.bits)))=((byteN m j:Nat):Int):=by
 have hb:min (((8 * (5-j):Nat):Int)).toNat IntKind.u64.bits=8 * (5-j):=by show min _ 64=_;omega
 have hp:(2:Nat) ^ (8 * (5-j))=256 ^ (5-j):=by rw[Nat.pow_mul]
 rw[hb,show (2:Int) ^ (8 * (5-j))=((2 ^ (8 * (5-j)):Nat):Int) by rw[Int.natCast_pow];rfl,hp,Int.fdiv_eq_ediv_of_nonneg _ (Int.natCast_nonneg _),← Int.natCast_ediv,byteN,IntKind.wrap_u8]
 omega
theorem O4 (m:Nat):∀ j,(Qx m j).length≤3 * j
 | 0=>by simp[Qx]
 | j+1=>by
  have:=O4 m j
  rw[Qx,List.length_append,List.length_append]
  split<;>simp<;>omega
theorem Abe:∀ k:Fin 16,Ak (⟨#[48,49,50,51,52,53,54,55,56,57,97,98,99,100,101,102]⟩:ByteArray) k.1=Qe k.1:=by decide +kernel
theorem X1:∀ k:Fin 256,bits .and .u8 (k.1:Int) 15=((k.1 % 16:Nat):Int):=by decide +kernel
theorem Aad (c:Nat):(c:Int).fdiv (2 ^ min (Int.toNat 4) IntKind.u8.bits)=((c / 16:Nat):Int):=by
 show (c:Int).fdiv 16=_
 rw[Int.fdiv_eq_ediv_of_nonneg _ qc,Int.natCast_ediv];rfl
theorem Vh (m:Nat) (h_:m<18446744073709551616):Sy.Spec Tryz.prog 249 [Cn m] [] (Ac (Ig m)) []:=cT F249 Tryz.ntmps249 fun F hF=>by
 refine T ?_
 refine Cz 3 1000 1 An q_ q_ ?_
 refine T ?_
 refine Dc 6 (fun j=>[(0,Cn m),(3,.osl 1000),(6,Aa j)]) (fun j=>[(1000,.row 1 An (Qx m j))]) [] U ?_
 intro j hj
 have hlu:=O4 m j
 have hsu:Qx m (j+1)=Qx m j++(if 0<j then [58] else [])++[Qe (byteN m j / 16),Qe (byteN m j % 16)]:=rfl
 generalize hu:Qx m j=u at *
 refine T ?_
 refine⟨fun h=>?_,fun h=>?_⟩
 ·have hlt:j<6:=qA h
  have hsh:=Xz m j h_ hlt
  clear h
  refine T ?_
  refine C (Zb j hlt) F299 ?_
  rw[hsh]
  have hbn:byteN m j<256:=Nat.mod_lt _ qc
  generalize byteN m j=c at *
  have hsz:(⟨#[48,49,50,51,52,53,54,55,56,57,97,98,99,100,101,102]⟩:ByteArray).size=16:=rfl
  have g1:0≤(c:Int).fdiv (2 ^ min (Int.toNat 4) IntKind.u8.bits):=by rw[Aad];omega
  have g2:((c:Int).fdiv (2 ^ min (Int.toNat 4) IntKind.u8.bits)).toNat<(⟨#[48,49,50,51,52,53,54,55,56,57,97,98,99,100,101,102]⟩:ByteArray).size:=by rw[Aad,hsz];omega
  have g3:0≤bits .and .u8 (c:Int) 15:=by rw[X1 ⟨c,hbn⟩];omega
  have g4:(bits .and .u8 (c:Int) 15).toNat<(⟨#[48,49,50,51,52,53,54,55,56,57,97,98,99,100,101,102]⟩:ByteArray).size:=by rw[X1 ⟨c,hbn⟩,hsz];show ((c % 16:Nat):Int).toNat<16;omega
  have x1:Ak (⟨#[48,49,50,51,52,53,54,55,56,57,97,98,99,100,101,102]⟩:ByteArray) ((c:Int).fdiv (2 ^ min (Int.toNat 4) IntKind.u8.bits)).toNat=Qe (c / 16):=by
   rw[Aad,Int.toNat_natCast];exact Abe ⟨c / 16,by omega⟩
  have x2:Ak (⟨#[48,49,50,51,52,53,54,55,56,57,97,98,99,100,101,102]⟩:ByteArray) (bits .and .u8 (c:Int) 15).toNat=Qe (c % 16):=by
   rw[X1 ⟨c,hbn⟩,Int.toNat_natCast];exact Abe ⟨c % 16,by omega⟩
  rw[← x1,← x2]at hsu
  by_cases h0:0<j
  ·rw[if_pos h0]at hsu
   refine T ?_
   refine X (Ag Γ.toTy 18 q_ q_ q_ q_ q_ (.row q_) (.lit (e:=An) (l:=[58]) q_ q_) qc (by simp;omega) (by simp;omega)) ?_
   refine Xd (Ag Γ.toTy 27 q_ q_ q_ q_ q_ (.row q_) (.lit (e:=An) (l:=[Ak (⟨#[48,49,50,51,52,53,54,55,56,57,97,98,99,100,101,102]⟩:ByteArray) ((c:Int).fdiv (2 ^ min (Int.toNat 4) IntKind.u8.bits)).toNat,Ak (⟨#[48,49,50,51,52,53,54,55,56,57,97,98,99,100,101,102]⟩:ByteArray) (bits .and .u8 (c:Int) 15).toNat]) q_ q_) qc (by simp;omega) (by simp;omega)) ?_
   exact Df [(1000,27)] hlt ⟨⟨q_,q_,q_,q_,q_,q_,z_⟩,⟨.inl (congrArg (Ob.row 1 An) hsu),q_,z_⟩,q_,q_⟩
  ·rw[if_neg h0,List.append_nil]at hsu
   refine T ?_
   refine Xd (Ag Γ.toTy 27 q_ q_ q_ q_ q_ (.row q_) (.lit (e:=An) (l:=[Ak (⟨#[48,49,50,51,52,53,54,55,56,57,97,98,99,100,101,102]⟩:ByteArray) ((c:Int).fdiv (2 ^ min (Int.toNat 4) IntKind.u8.bits)).toNat,Ak (⟨#[48,49,50,51,52,53,54,55,56,57,97,98,99,100,101,102]⟩:ByteArray) (bits .and .u8 (c:Int) 15).toNat]) q_ q_) qc (by simp;omega) (by simp;omega)) ?_
   exact Df [(1000,27)] hlt ⟨⟨q_,q_,q_,q_,q_,q_,z_⟩,⟨.inl (congrArg (Ob.row 1 An) hsu),q_,z_⟩,q_,q_⟩
 ·have:j=6:=qB h
  subst this
  subst hu
  clear h
  refine T ?_
  refine X (Ci Γ.toTy (bs:=Qx m 6) q_ q_ q_ q_ q_ q_ q_ (.row q_)) ?_
  exact D
theorem H4 {α:Type} {tx:α→ByteArray}:∀ (l:List α),(∀ x∈l,(tx x).size≤100)→E9 (l.map tx)≤100 * l.length
 | [],_=>by simp[E9]
 | x::l,h=>by
  have h1:=h x qd
  have h2:=H4 l (fun y hy=>h y (by simp[hy]))
  simp only[E9,List.map_cons,List.sum_cons,List.length_cons]at h2 ⊢
  omega
theorem To (tx:Int→ByteArray) (f:FuncId) (first cap:List SV) (hc:(SV.clo (.func f) first cap).inn []=true) (hr:∀ ρ:Nat→Nat,(SV.clo (.func f) first cap).ren ρ=.clo (.func f) first cap) (l:List Int) (hl:l.length≤100000) (hz:∀ x∈l,(tx x).size≤100) (hf:∀ x∈l,M5 Tryz.prog f (first++[Aa x]++cap) (Ac (tx x))) :
  Sy.Spec Tryz.prog 352 [.sl 1 Aa l,.clo (.func f) first cap] [] (Ac (D7 (l.map tx) comma)) []:=cT F352 Tryz.ntmps352 fun F hF=>by
 have hc':(SV.clo (.func f) first cap).inn [1000]=true:=Db _ hc
 have hin:∀ y:SV,y.inn []=true→Bd [] (first++[y]++cap)=true:=fun y hy=>by
  simp only[SV.inn,Bool.and_eq_true]at hc
  rw[Bi,Bi,hc.1,hc.2]
  simp[Bd,hy]
 have hs:E9 (l.map tx)≤100 * l.length:=H4 l hz
 have q2:=Oi (l.map tx) comma (by simp;omega) j_ (by rw[List.length_map];show 1 * l.length≤_;omega)
 refine T ?_
 refine Cz 5 1000 1 Ac q_ q_ ?_
 refine T ?_
 refine Dc l.length (fun j=>[(1,.clo (.func f) first cap),(5,.osl 1000),(8,.sl 1 Aa l),(9,Aa l.length),(10,Aa j)]) (fun j=>[(1000,.row 1 Ac ((l.take j).map tx))]) [] ⟨⟨A2 _,hc',q_,q_,q_,q_,q_,q_,q_,q_,z_⟩,⟨.inl q_,q_,z_⟩,q_,q_⟩ ?_
 intro j hj
 refine T ?_
 refine⟨fun h=>?_,fun h=>?_⟩
 ·have hlt:j<l.length:=qA h
  have hlt0:((j:Nat):Int).toNat<l.length:=hlt
  clear h
  have q1:=hf (l[((j:Nat):Int).toNat]'hlt0) (List.getElem_mem _)
  refine T ?_
  refine Ym q1 q_ q_ q_ (by simp only[hin (Aa (l[((j:Nat):Int).toNat]'hlt0)) q_];rfl) q_ q_ ?_
  refine T ?_
  refine X (Ag Γ.toTy 19 q_ q_ q_ q_ q_ (.row q_) (.lit (e:=Ac) (l:=[tx (l[((j:Nat):Int).toNat]'hlt0)]) q_ q_) qc (by simp;omega) (by simp;omega)) ?_
  refine Df [(1000,19)] hlt ⟨⟨hr _,hc',q_,q_,q_,q_,q_,q_,q_,q_,z_⟩,⟨.inl (congrArg (Ob.row 1 Ac) ?_),q_,z_⟩,q_,q_⟩
  rw[List.take_succ_eq_append_getElem hlt,List.map_append]
  rfl
 ·have hje:j=l.length:=qB h
  subst hje
  clear h
  rw[List.take_length]
  refine T ?_
  refine A6 1000 q_ ?_
  refine C q2 F255 ?_
  exact D
theorem Tn (tx:Int→ByteArray) (f:FuncId) (first cap:List SV) (hc:(SV.clo (.func f) first cap).inn []=true) (hr:∀ ρ:Nat→Nat,(SV.clo (.func f) first cap).ren ρ=.clo (.func f) first cap) (l:List Int) (hl:l.length≤100000) (hz:∀ x∈l,(tx x).size≤100) (hf:∀ x∈l,M5 Tryz.prog f (first++[Aw x]++cap) (Ac (tx x))) :
  Sy.Spec Tryz.prog 301 [.sl 1 Aw l,.clo (.func f) first cap] [] (Ac (D7 (l.map tx) comma)) []:=cT F301 Tryz.ntmps301 fun F hF=>by
 have hc':(SV.clo (.func f) first cap).inn [1000]=true:=Db _ hc
 have hin:∀ y:SV,y.inn []=true→Bd [] (first++[y]++cap)=true:=fun y hy=>by
  simp only[SV.inn,Bool.and_eq_true]at hc
  rw[Bi,Bi,hc.1,hc.2]
  simp[Bd,hy]
 have hs:E9 (l.map tx)≤100 * l.length:=H4 l hz
 have q2:=Oi (l.map tx) comma (by simp;omega) j_ (by rw[List.length_map];show 1 * l.length≤_;omega)
 refine T ?_
 refine Cz 5 1000 1 Ac q_ q_ ?_
 refine T ?_
 refine Dc l.length (fun j=>[(1,.clo (.func f) first cap),(5,.osl 1000),(8,.sl 1 Aw l),(9,Aa l.length),(10,Aa j)]) (fun j=>[(1000,.row 1 Ac ((l.take j).map tx))]) [] ⟨⟨A2 _,hc',q_,q_,q_,q_,q_,q_,q_,q_,z_⟩,⟨.inl q_,q_,z_⟩,q_,q_⟩ ?_
 intro j hj
 refine T ?_
 refine⟨fun h=>?_,fun h=>?_⟩
 ·have hlt:j<l.length:=qA h
  have hlt0:((j:Nat):Int).toNat<l.length:=hlt
  clear h
  have q1:=hf (l[((j:Nat):Int).toNat]'hlt0) (List.getElem_mem _)
  refine T ?_
  refine Ym q1 q_ q_ q_ (by simp only[hin (Aw (l[((j:Nat):Int).toNat]'hlt0)) q_];rfl) q_ q_ ?_
  refine T ?_
  refine X (Ag Γ.toTy 19 q_ q_ q_ q_ q_ (.row q_) (.lit (e:=Ac) (l:=[tx (l[((j:Nat):Int).toNat]'hlt0)]) q_ q_) qc (by simp;omega) (by simp;omega)) ?_
  refine Df [(1000,19)] hlt ⟨⟨hr _,hc',q_,q_,q_,q_,q_,q_,q_,q_,z_⟩,⟨.inl (congrArg (Ob.row 1 Ac) ?_),q_,z_⟩,q_,q_⟩
  rw[List.take_succ_eq_append_getElem hlt,List.map_append]
  rfl
 ·have hje:j=l.length:=qB h
  subst hje
  clear h
  rw[List.take_length]
  refine T ?_
  refine A6 1000 q_ ?_
  refine C q2 F255 ?_
  exact D
theorem Zd (l:List Int) (hl:l.length≤100000) (hw:∀ x∈l,Cm x):Sy.Spec Tryz.prog 302 [.sl 1 Aa l] [] (Ac (O6 l)) []:=cT F302 Tryz.ntmps302 fun F hF=>by
 have q:=To Ba 247 [] [] rfl (fun _=>rfl) l hl (fun x hx=>by have:=D5 (hw x hx);omega) (fun x hx=>⟨⟨_,_,F247⟩,Ax x (hw x hx)⟩)
 rw[O6]
 generalize D7 (l.map Ba) comma=r at *
 refine T ?_
 refine C q F352 ?_
 exact D
theorem Ed (a:Int):(C5 a).size≤100:=by
 have:=Hw a.toNat 4
 rw[C5,Bw];omega
theorem X3 (l:List Int) (hl:l.length≤100000) (hw:∀ x∈l,0≤x∧x<4294967296):Sy.Spec Tryz.prog 252 [.sl 1 Aw l] [] (Ac (Hu l)) []:=cT F252 Tryz.ntmps252 fun F hF=>by
 have q:=Tn C5 251 [] [] rfl (fun _=>rfl) l hl (fun x hx=>Ed x) (fun x hx=>⟨⟨_,_,F251⟩,by
  obtain ⟨m,hm1⟩:∃ m:Nat,x=m:=⟨x.toNat,by have:=hw x hx;omega⟩
  have:=hw x hx
  rw[hm1];exact Lz m j_⟩)
 rw[Hu]
 generalize D7 (l.map C5) comma=r at *
 refine T ?_
 refine C q F301 ?_
 exact D
theorem Jw (l:List Int) (hl:l.length≤100000) (hw:∀ x∈l,Cm x):Sy.Spec Tryz.prog 253 [.sl 1 Aa l] [] (Ac (Dd l)) []:=cT F253 Tryz.ntmps253 fun F hF=>by
 have q:=Zd l hl hw
 rw[Dd]
 by_cases h0:l.length=0
 ·rw[if_pos (List.eq_nil_of_length_eq_zero h0)]
  have f0:((l.length:Int) == 0)=true:=by rw[h0];rfl
  refine T ?_
  exact D
 ·rw[if_neg (fun e=>h0 (by rw[e];rfl))]
  have f0:((l.length:Int) == 0)=false:=by rw[beq_eq_false_iff_ne];omega
  refine T ?_
  refine C q F302 ?_
  exact D
theorem Co (svs:List SV):Sy.Spec Tryz.prog 248 [.osl 0] [(0,.lit 1 svs)] (.osl 0) [(0,.lit 1 svs)]:=cT F248 Tryz.ntmps248 fun F hF=>by
 refine T ?_
 exact done q_ (.cons .tmp .nil) [] [(0,.lit 1 svs)] (fun _ h=>h) q_ q_ ⟨z_,⟨.inl q_,q_,z_⟩,q_,q_⟩
theorem Uu (a:Nat) (b:Int) (ha:a<4294967296) (hb:0≤b∧b≤32):Sy.Spec Tryz.prog 254 [Do a b] [] (Ac (D4 a b)) []:=cT F254 Tryz.ntmps254 fun F hF=>by
 have q1:=J9 (a:Int) b
 rw[decide_eq_true hb]at q1
 have q2:=Lz a ha
 have hsz:=Ed (a:Int)
 rw[D4,if_pos hb]
 generalize C5 (a:Int)=t at *
 have q3:=Qr b.toNat (t++(⟨#[47]⟩:ByteArray)).data.toList j_ (by
  have h1:=B9 2 b.toNat j_
  have h2:(t++(⟨#[47]⟩:ByteArray)).data.toList.length=t.size+1:=by
   rw[show (t++(⟨#[47]⟩:ByteArray)).data.toList=t.data.toList++[47] from by simp]
   simp
  omega)
 rw[Int.toNat_of_nonneg hb.1]at q3
 have he:t.data.toList++[47]++(revDigs b.toNat).reverse=(t++(⟨#[47]⟩:ByteArray)).data.toList++(revDigs b.toNat).reverse:=by
  rw[show (t++(⟨#[47]⟩:ByteArray)).data.toList=t.data.toList++[47] from by simp]
 rw[he]
 refine T ?_
 refine C q1 F296 ?_
 refine C q2 F251 ?_
 refine Xd (Kx Γ.toTy (d:=10) q_ q_ q_ q_ q_ q_ q_ q_ q_) ?_
 refine Xd (Ad [(0,10),(1,900)] q_ F300 q3 q_ W q_ V) ?_
 refine Xd (Ci Γ.toTy (bs:=(t++(⟨#[47]⟩:ByteArray)).data.toList++(revDigs b.toNat).reverse) q_ q_ q_ q_ q_ q_ q_ (.row q_)) ?_
 exact D
structure LineX (l:LineM):Prop where
 w:LineW l
 vlan:Cm l.vlan
 num:Cm l.num
 cost:Cm l.cost
 tagged:∀ x∈l.tagged,Cm x
 imports:∀ x∈l.imports,Cm x
 exports:∀ x∈l.exports,Cm x
theorem Xf (l:LineM) (h:LineX l):Sy.Spec Tryz.prog 250 [Ab l] [] (.sl 1 Ac (Jv l)) []:=cT F250 Tryz.ntmps250 fun F hF=>by
 have q1:=Ax l.vlan h.vlan
 have q2:=Ax l.cost h.cost
 have q3:=Jw l.tagged h.w.fin.t h.tagged
 have q4:=Co [Ac ⟨#[112,111,114,116]⟩,Ac l.dev,Ac l.port,Ac (Ba l.cost)]
 rw[Jv]
 by_cases h0:l.tagged.length=0
 ·have f0:((l.tagged.length:Int) == 0)=true:=by rw[h0];rfl
  rw[if_pos (List.eq_nil_of_length_eq_zero h0)]
  have q5:=Co [Ac accessT,Ac (Ba l.vlan)]
  refine T ?_
  refine C q1 F247 ?_
  refine C q2 F247 ?_
  refine Xe (Ad [(0,15)] q_ F248 q4 q_ W q_ V) ?_
  refine X (Ad [(0,24)] q_ F248 q5 q_ W q_ V) ?_
  refine X (Ag Γ.toTy 26 q_ q_ q_ q_ q_ (.lit (e:=Ac) (l:=[⟨#[112,111,114,116]⟩,l.dev,l.port,Ba l.cost]) q_ q_) (.lit (e:=Ac) (l:=[accessT,Ba l.vlan]) q_ q_) qc qd qd) ?_
  refine A6 26 q_ ?_
  refine T ?_
  exact D
 ·have f0:((l.tagged.length:Int) == 0)=false:=by rw[beq_eq_false_iff_ne];omega
  rw[if_neg (fun e=>h0 (by rw[e];rfl))]
  by_cases hv:l.vlan=0
  ·have f1:(l.vlan == 0)=true:=beq_iff_eq.2 hv
   rw[if_pos hv]
   have q5:=Co [Ac trunkT,Ac dash,Ac (Dd l.tagged)]
   refine T ?_
   refine C q1 F247 ?_
   refine C q2 F247 ?_
   refine Xe (Ad [(0,15)] q_ F248 q4 q_ W q_ V) ?_
   refine C q3 F253 ?_
   refine X (Ad [(0,36)] q_ F248 q5 q_ W q_ V) ?_
   refine X (Ag Γ.toTy 38 q_ q_ q_ q_ q_ (.lit (e:=Ac) (l:=[⟨#[112,111,114,116]⟩,l.dev,l.port,Ba l.cost]) q_ q_) (.lit (e:=Ac) (l:=[trunkT,dash,Dd l.tagged]) q_ q_) qc qd qd) ?_
   refine A6 38 q_ ?_
   refine T ?_
   exact D
  ·have f1:(l.vlan == 0)=false:=beq_eq_false_iff_ne.2 hv
   rw[if_neg hv]
   have q5:=Co [Ac trunkT,Ac (Ba l.vlan),Ac (Dd l.tagged)]
   refine T ?_
   refine C q1 F247 ?_
   refine C q2 F247 ?_
   refine Xe (Ad [(0,15)] q_ F248 q4 q_ W q_ V) ?_
   refine C q3 F253 ?_
   refine X (Ad [(0,36)] q_ F248 q5 q_ W q_ V) ?_
   refine X (Ag Γ.toTy 38 q_ q_ q_ q_ q_ (.lit (e:=Ac) (l:=[⟨#[112,111,114,116]⟩,l.dev,l.port,Ba l.cost]) q_ q_) (.lit (e:=Ac) (l:=[trunkT,Ba l.vlan,Dd l.tagged]) q_ q_) qc qd qd) ?_
   refine A6 38 q_ ?_
   refine T ?_
   exact D
theorem Ti (l:LineM) (h:LineX l) (hr:Bo l=true) (hk:l.kind=1):Sy.Spec Tryz.prog 194 [Ab l] [] (.sl 1 Ac (Ay l)) []:=cT F194 Tryz.ntmps194 fun F hF=>by
 have q0:=B7 l h.w
 have qv:=Ax l.vlan h.vlan
 have qn:=Ax l.num h.num
 have qa:Sy.Spec Tryz.prog 249 [Cn l.mac] [] (Ac (Ig l.mac)) []:=by
  have:=h.w.ok.mac
  obtain ⟨m,hm1⟩:∃ m:Nat,l.mac=m:=⟨l.mac.toNat,by omega⟩
  rw[hm1];exact Vh m j_
 have hwo:Ay l=[(⟨#[100,101,118,105,99,101]⟩:ByteArray),l.dev,Ba l.num,Ig l.mac]:=by
  simp only[Ay,hk]
  rfl
 rw[hwo]
 rw[hr]at q0
 have f1:(l.kind == 1)=true:=by rw[hk];rfl
 generalize Ba l.vlan=vv at *
 generalize Ba l.num=nn at *
 generalize Ig l.mac=mm at *
 have qo:=Co [Ac (⟨#[100,101,118,105,99,101]⟩:ByteArray),Ac l.dev,Ac nn,Ac mm]
 refine T ?_
 refine C q0 F246 ?_
 refine C qv F247 ?_
 refine C qn F247 ?_
 refine C qa F249 ?_
 refine Xe (Ad [(0,24)] q_ F248 qo q_ W q_ V) ?_
 refine Ef 24 Ac [(⟨#[100,101,118,105,99,101]⟩:ByteArray),l.dev,nn,mm] q_ q_ ?_
 refine A6 24 q_ ?_
 refine T ?_
 exact D
theorem Tg (l:LineM) (h:LineX l) (hr:Bo l=true) (hk:l.kind=3):Sy.Spec Tryz.prog 194 [Ab l] [] (.sl 1 Ac (Ay l)) []:=cT F194 Tryz.ntmps194 fun F hF=>by
 have q0:=B7 l h.w
 have qv:=Ax l.vlan h.vlan
 have qn:=Ax l.num h.num
 have hwo:Ay l=[(⟨#[108,105,110,107]⟩:ByteArray),l.dev,l.port,l.peer,l.far]:=by
  simp only[Ay,hk]
  rfl
 rw[hwo]
 rw[hr]at q0
 have f1:(l.kind == 1)=false:=by rw[hk];rfl
 have f2:(l.kind == 2)=false:=by rw[hk];rfl
 have f3:(l.kind == 3)=true:=by rw[hk];rfl
 generalize Ba l.vlan=vv at *
 generalize Ba l.num=nn at *
 have qo:=Co [Ac (⟨#[108,105,110,107]⟩:ByteArray),Ac l.dev,Ac l.port,Ac l.peer,Ac l.far]
 refine T ?_
 refine C q0 F246 ?_
 refine C qv F247 ?_
 refine C qn F247 ?_
 refine X (Ad [(0,40)] q_ F248 qo q_ W q_ V) ?_
 refine Ef 40 Ac [(⟨#[108,105,110,107]⟩:ByteArray),l.dev,l.port,l.peer,l.far] q_ q_ ?_
 refine A6 40 q_ ?_
 refine T ?_
 exact D
theorem Tf (l:LineM) (h:LineX l) (hr:Bo l=true) (hk:l.kind=4):Sy.Spec Tryz.prog 194 [Ab l] [] (.sl 1 Ac (Ay l)) []:=cT F194 Tryz.ntmps194 fun F hF=>by
 have q0:=B7 l h.w
 have qv:=Ax l.vlan h.vlan
 have qn:=Ax l.num h.num
 have qa:Sy.Spec Tryz.prog 249 [Cn l.mac] [] (Ac (Ig l.mac)) []:=by
  have:=h.w.ok.mac
  obtain ⟨m,hm1⟩:∃ m:Nat,l.mac=m:=⟨l.mac.toNat,by omega⟩
  rw[hm1];exact Vh m j_
 have hwo:Ay l=[(⟨#[115,116,97,116,105,99]⟩:ByteArray),l.dev,Ba l.vlan,Ig l.mac,l.port]:=by
  simp only[Ay,hk]
  rfl
 rw[hwo]
 rw[hr]at q0
 have f1:(l.kind == 1)=false:=by rw[hk];rfl
 have f2:(l.kind == 2)=false:=by rw[hk];rfl
 have f3:(l.kind == 3)=false:=by rw[hk];rfl
 have f4:(l.kind == 4)=true:=by rw[hk];rfl
 generalize Ba l.vlan=vv at *
 generalize Ba l.num=nn at *
 generalize Ig l.mac=mm at *
 have qo:=Co [Ac (⟨#[115,116,97,116,105,99]⟩:ByteArray),Ac l.dev,Ac vv,Ac mm,Ac l.port]
 refine T ?_
 refine C q0 F246 ?_
 refine C qv F247 ?_
 refine C qn F247 ?_
 refine C qa F249 ?_
 refine Xe (Ad [(0,52)] q_ F248 qo q_ W q_ V) ?_
 refine Ef 52 Ac [(⟨#[115,116,97,116,105,99]⟩:ByteArray),l.dev,vv,mm,l.port] q_ q_ ?_
 refine A6 52 q_ ?_
 refine T ?_
 exact D
theorem Te (l:LineM) (h:LineX l) (hr:Bo l=true) (hk:l.kind=5):Sy.Spec Tryz.prog 194 [Ab l] [] (.sl 1 Ac (Ay l)) []:=cT F194 Tryz.ntmps194 fun F hF=>by
 have q0:=B7 l h.w
 have qv:=Ax l.vlan h.vlan
 have qn:=Ax l.num h.num
 have qa:Sy.Spec Tryz.prog 251 [Aw l.addr] [] (Ac (C5 l.addr)) []:=by
  have:=h.w.ok.addr
  obtain ⟨m,hm1⟩:∃ m:Nat,l.addr=m:=⟨l.addr.toNat,by omega⟩
  rw[hm1];exact Lz m j_
 have hwo:Ay l=[(⟨#[118,116,101,112]⟩:ByteArray),l.dev,C5 l.addr]:=by
  simp only[Ay,hk]
  rfl
 rw[hwo]
 rw[hr]at q0
 have f1:(l.kind == 1)=false:=by rw[hk];rfl
 have f2:(l.kind == 2)=false:=by rw[hk];rfl
 have f3:(l.kind == 3)=false:=by rw[hk];rfl
 have f4:(l.kind == 4)=false:=by rw[hk];rfl
 have f5:(l.kind == 5)=true:=by rw[hk];rfl
 generalize Ba l.vlan=vv at *
 generalize Ba l.num=nn at *
 generalize C5 l.addr=aa at *
 have qo:=Co [Ac (⟨#[118,116,101,112]⟩:ByteArray),Ac l.dev,Ac aa]
 refine T ?_
 refine C q0 F246 ?_
 refine C qv F247 ?_
 refine C qn F247 ?_
 refine C qa F251 ?_
 refine Xe (Ad [(0,61)] q_ F248 qo q_ W q_ V) ?_
 refine Ef 61 Ac [(⟨#[118,116,101,112]⟩:ByteArray),l.dev,aa] q_ q_ ?_
 refine A6 61 q_ ?_
 refine T ?_
 exact D
theorem Td (l:LineM) (h:LineX l) (hr:Bo l=true) (hk:l.kind=6):Sy.Spec Tryz.prog 194 [Ab l] [] (.sl 1 Ac (Ay l)) []:=cT F194 Tryz.ntmps194 fun F hF=>by
 have q0:=B7 l h.w
 have qv:=Ax l.vlan h.vlan
 have qn:=Ax l.num h.num
 have hwo:Ay l=[(⟨#[118,110,105]⟩:ByteArray),l.dev,Ba l.vlan,Ba l.num]:=by
  simp only[Ay,hk]
  rfl
 rw[hwo]
 rw[hr]at q0
 have f1:(l.kind == 1)=false:=by rw[hk];rfl
 have f2:(l.kind == 2)=false:=by rw[hk];rfl
 have f3:(l.kind == 3)=false:=by rw[hk];rfl
 have f4:(l.kind == 4)=false:=by rw[hk];rfl
 have f5:(l.kind == 5)=false:=by rw[hk];rfl
 have f6:(l.kind == 6)=true:=by rw[hk];rfl
 generalize Ba l.vlan=vv at *
 generalize Ba l.num=nn at *
 have qo:=Co [Ac (⟨#[118,110,105]⟩:ByteArray),Ac l.dev,Ac vv,Ac nn]
 refine T ?_
 refine C q0 F246 ?_
 refine C qv F247 ?_
 refine C qn F247 ?_
 refine X (Ad [(0,69)] q_ F248 qo q_ W q_ V) ?_
 refine Ef 69 Ac [(⟨#[118,110,105]⟩:ByteArray),l.dev,vv,nn] q_ q_ ?_
 refine A6 69 q_ ?_
 refine T ?_
 exact D
theorem Tc (l:LineM) (h:LineX l) (hr:Bo l=true) (hk:l.kind=7):Sy.Spec Tryz.prog 194 [Ab l] [] (.sl 1 Ac (Ay l)) []:=cT F194 Tryz.ntmps194 fun F hF=>by
 have q0:=B7 l h.w
 have qv:=Ax l.vlan h.vlan
 have qn:=Ax l.num h.num
 have qa:=X3 l.addrs h.w.fin.a h.w.ok.addrs
 have hwo:Ay l=[(⟨#[102,108,111,111,100]⟩:ByteArray),l.dev,Ba l.num,Hu l.addrs]:=by
  simp only[Ay,hk]
  rfl
 rw[hwo]
 rw[hr]at q0
 have f1:(l.kind == 1)=false:=by rw[hk];rfl
 have f2:(l.kind == 2)=false:=by rw[hk];rfl
 have f3:(l.kind == 3)=false:=by rw[hk];rfl
 have f4:(l.kind == 4)=false:=by rw[hk];rfl
 have f5:(l.kind == 5)=false:=by rw[hk];rfl
 have f6:(l.kind == 6)=false:=by rw[hk];rfl
 have f7:(l.kind == 7)=true:=by rw[hk];rfl
 generalize Ba l.vlan=vv at *
 generalize Ba l.num=nn at *
 generalize Hu l.addrs=ad at *
 have qo:=Co [Ac (⟨#[102,108,111,111,100]⟩:ByteArray),Ac l.dev,Ac nn,Ac ad]
 refine T ?_
 refine C q0 F246 ?_
 refine C qv F247 ?_
 refine C qn F247 ?_
 refine C qa F252 ?_
 refine Xe (Ad [(0,79)] q_ F248 qo q_ W q_ V) ?_
 refine Ef 79 Ac [(⟨#[102,108,111,111,100]⟩:ByteArray),l.dev,nn,ad] q_ q_ ?_
 refine A6 79 q_ ?_
 refine T ?_
 exact D
theorem Tb (l:LineM) (h:LineX l) (hr:Bo l=true) (hk:l.kind=8):Sy.Spec Tryz.prog 194 [Ab l] [] (.sl 1 Ac (Ay l)) []:=cT F194 Tryz.ntmps194 fun F hF=>by
 have q0:=B7 l h.w
 have qv:=Ax l.vlan h.vlan
 have qn:=Ax l.num h.num
 have qa:=Jw l.imports h.w.fin.i h.imports
 have qb:=Jw l.exports h.w.fin.e h.exports
 have hwo:Ay l=[(⟨#[118,114,102]⟩:ByteArray),l.dev,l.name,Dd l.imports,Dd l.exports]:=by
  simp only[Ay,hk]
  rfl
 rw[hwo]
 rw[hr]at q0
 have f1:(l.kind == 1)=false:=by rw[hk];rfl
 have f2:(l.kind == 2)=false:=by rw[hk];rfl
 have f3:(l.kind == 3)=false:=by rw[hk];rfl
 have f4:(l.kind == 4)=false:=by rw[hk];rfl
 have f5:(l.kind == 5)=false:=by rw[hk];rfl
 have f6:(l.kind == 6)=false:=by rw[hk];rfl
 have f7:(l.kind == 7)=false:=by rw[hk];rfl
 have f8:(l.kind == 8)=true:=by rw[hk];rfl
 generalize Ba l.vlan=vv at *
 generalize Ba l.num=nn at *
 generalize Dd l.imports=si at *
 generalize Dd l.exports=se at *
 have qo:=Co [Ac (⟨#[118,114,102]⟩:ByteArray),Ac l.dev,Ac l.name,Ac si,Ac se]
 refine T ?_
 refine C q0 F246 ?_
 refine C qv F247 ?_
 refine C qn F247 ?_
 refine C qa F253 ?_
 refine C qb F253 ?_
 refine Xe (Ad [(0,93)] q_ F248 qo q_ W q_ V) ?_
 refine Ef 93 Ac [(⟨#[118,114,102]⟩:ByteArray),l.dev,l.name,si,se] q_ q_ ?_
 refine A6 93 q_ ?_
 refine T ?_
 exact D
theorem Ta (l:LineM) (h:LineX l) (hr:Bo l=true) (hk:l.kind=9):Sy.Spec Tryz.prog 194 [Ab l] [] (.sl 1 Ac (Ay l)) []:=cT F194 Tryz.ntmps194 fun F hF=>by
 have q0:=B7 l h.w
 have qv:=Ax l.vlan h.vlan
 have qn:=Ax l.num h.num
 have hb9:1≤l.bits∧l.bits≤30:=by
  rw[Bo,Bool.and_eq_true]at hr
  have hu:=hr.1
  have n1:∀ k:Int,k≠9→¬ l.kind=k:=fun k hk2 e=>hk2 (by rw[← e,hk])
  simp only[A1,if_neg (n1 1 qc),if_neg (n1 2 qc),if_neg (n1 3 qc),if_neg (n1 4 qc),if_neg (n1 5 qc),if_neg (n1 6 qc),if_neg (n1 7 qc),if_neg (n1 8 qc),if_pos hk,Bool.and_eq_true]at hu
  exact Uh hu.2.2
 have qa:Sy.Spec Tryz.prog 254 [Do l.addr l.bits] [] (Ac (D4 l.addr l.bits)) []:=by
  have:=h.w.ok.addr
  obtain ⟨m,hm1⟩:∃ m:Nat,l.addr=m:=⟨l.addr.toNat,by omega⟩
  rw[hm1];exact Uu m l.bits j_ j_
 have hwo:Ay l=[(⟨#[105,114,98]⟩:ByteArray),l.dev,Ba l.vlan,l.name,D4 l.addr l.bits]:=by
  simp only[Ay,hk]
  rfl
 rw[hwo]
 rw[hr]at q0
 have f1:(l.kind == 1)=false:=by rw[hk];rfl
 have f2:(l.kind == 2)=false:=by rw[hk];rfl
 have f3:(l.kind == 3)=false:=by rw[hk];rfl
 have f4:(l.kind == 4)=false:=by rw[hk];rfl
 have f5:(l.kind == 5)=false:=by rw[hk];rfl
 have f6:(l.kind == 6)=false:=by rw[hk];rfl
 have f7:(l.kind == 7)=false:=by rw[hk];rfl
 have f8:(l.kind == 8)=false:=by rw[hk];rfl
 have f9:(l.kind == 9)=true:=by rw[hk];rfl
 generalize Ba l.vlan=vv at *
 generalize Ba l.num=nn at *
 generalize D4 l.addr l.bits=pp at *
 have qo:=Co [Ac (⟨#[105,114,98]⟩:ByteArray),Ac l.dev,Ac vv,Ac l.name,Ac pp]
 refine T ?_
 refine C q0 F246 ?_
 refine C qv F247 ?_
 refine C qn F247 ?_
 refine C qa F254 ?_
 refine Xe (Ad [(0,106)] q_ F248 qo q_ W q_ V) ?_
 refine Ef 106 Ac [(⟨#[105,114,98]⟩:ByteArray),l.dev,vv,l.name,pp] q_ q_ ?_
 refine A6 106 q_ ?_
 refine T ?_
 exact D
theorem Th (l:LineM) (h:LineX l) (hr:Bo l=true) (hk:l.kind=2):Sy.Spec Tryz.prog 194 [Ab l] [] (.sl 1 Ac (Ay l)) []:=cT F194 Tryz.ntmps194 fun F hF=>by
 have q0:=B7 l h.w
 have qv:=Ax l.vlan h.vlan
 have qn:=Ax l.num h.num
 have qp:=Xf l h
 have hwo:Ay l=Jv l:=by
  simp only[Ay,hk]
  rfl
 rw[hwo]
 rw[hr]at q0
 have f1:(l.kind == 1)=false:=by rw[hk];rfl
 have f2:(l.kind == 2)=true:=by rw[hk];rfl
 generalize Jv l=ws at *
 refine T ?_
 refine C q0 F246 ?_
 refine C qv F247 ?_
 refine C qn F247 ?_
 refine C qp F250 ?_
 exact D
theorem Oq {l:LineM} (hr:Bo l=true):1≤l.kind∧l.kind≤9:=by
 rw[Bo,Bool.and_eq_true]at hr
 have hu:=hr.1
 refine Classical.byContradiction fun hk=>?_
 have n1:¬ l.kind=1:=by omega
 have n2:¬ l.kind=2:=by omega
 have n3:¬ l.kind=3:=by omega
 have n4:¬ l.kind=4:=by omega
 have n5:¬ l.kind=5:=by omega
 have n6:¬ l.kind=6:=by omega
 have n7:¬ l.kind=7:=by omega
 have n8:¬ l.kind=8:=by omega
 have n9:¬ l.kind=9:=by omega
 simp only[A1,if_neg n1,if_neg n2,if_neg n3,if_neg n4,if_neg n5,if_neg n6,if_neg n7,if_neg n8,if_neg n9]at hu
 cases hu
def Ch (l:LineM):List ByteArray:=if Bo l=true then Ay l else []
theorem Uv (l:LineM) (h:LineX l):Sy.Spec Tryz.prog 194 [Ab l] [] (.sl 1 Ac (Ch l)) []:=by
 cases hr:Bo l with
 | true =>
  rw[Ch,if_pos hr]
  have hk:=Oq hr
  rcases (by omega:l.kind=1∨l.kind=2∨l.kind=3∨l.kind=4∨l.kind=5∨l.kind=6∨l.kind=7∨l.kind=8∨l.kind=9) with h9 | h9 | h9 | h9 | h9 | h9 | h9 | h9 | h9
  ·exact Ti l h hr h9
  ·exact Th l h hr h9
  ·exact Tg l h hr h9
  ·exact Tf l h hr h9
  ·exact Te l h hr h9
  ·exact Td l h hr h9
  ·exact Tc l h hr h9
  ·exact Tb l h hr h9
  ·exact Ta l h hr h9
 | false =>
  rw[Ch,if_neg (by rw[hr];simp)]
  have q0:=B7 l h.w
  rw[hr]at q0
  refine Hc Γ hm 100 F194 Tryz.ntmps194 q_ fun F hF=>by
   refine T ?_
   refine C q0 F246 ?_
   refine B0 2 1 Ac q_ ?_
   refine T ?_
   exact D
def Eb (e:Int) (l:List (Bool × Int)):Int:=l.foldl (fun e x=>Ae e x.1 x.2) e
theorem Mo:∀ (l:List (Bool × Int)) (e:Int),(∀ x∈l,x.2≠0)→Eb e l=if e=0 then As l else e
 | [],e,_=>by
  show e=_
  split
  ·rename_i h;rw[h];rfl
  ·rfl
 | (b,c)::l,e,h=>by
  have hc:=h (b,c) qd
  have ih:=Mo l (Ae e b c) (fun x hx=>h x (by simp[hx]))
  show Eb (Ae e b c) l=_
  rw[ih,As]
  dsimp only at hc
  by_cases he:e=0
  ·subst he
   cases b with
   | true=>simp[Ae,hc]
   | false=>simp[Ae]
  ·have:Ae e b c=e:=by rw[Ae,if_neg (fun x=>he x.2)]
   rw[this,if_neg he,if_neg he]
theorem Bg (l:List (Bool × Int)) (h:∀ x∈l,x.2≠0):As l=Eb 0 l:=by rw[Mo l 0 h,if_pos rfl]
theorem I0 (e:Int) (a b:List (Bool × Int)):Eb e (a++b)=Eb (Eb e a) b:=List.foldl_append
abbrev rlO (w:List ByteArray) (i:Nat) (e:Int) (l:LineM):Obs:=[(0,.box [.sl 1 Ac w,Aa i,Aa e]),(1,.box (Av l))]
def Aam (w:List ByteArray):Nat:=if wdT w 4=accessT then 6 else if wdT w 4=trunkT then 7 else 5
theorem Mj (most:Int) (s:ByteArray):(listR most s).1.length≤16:=by
 rw[listR]
 split
 ·simp
 ·rw[C0]
  cases h:Cy (fun p=>numR p 1 most) [] (A5 44 s) with
  | mk l b =>
   cases b with
   | true=>exact(Qd _ _ _ _ h List.Pairwise.nil qc).2.1
   | false =>
    have:∀ (ps:List ByteArray) (out r:List Int),Cy (fun p=>numR p 1 most) out ps=(r,false)→r=[]:=by
     intro ps
     induction ps with
     | nil=>intro out r h;rw[Cy]at h;simp at h
     | cons p ps ih =>
      intro out r h
      rw[Cy]at h
      split at h
      ·simp at h;exact h
      ·exact ih _ _ h
    rw[this _ _ _ h];simp
set_option maxRecDepth 100000 in
theorem Ab2 (w:List ByteArray) (e:Int) (l:LineM) (hw:w.length≤1000000) (hs:∀ s∈w,s.size≤40) (h4:4<w.length) (ha:wdT w 4=accessT→5<w.length) (htr:wdT w 4=trunkT→6<w.length) (hl0:l.vlan=0∧l.tagged=[]) :
  Sy.Spec Tryz.prog 186 [.ptr 0 0,.ptr 1 0] (rlO w 4 e l) (.tup []) (rlO w (Aam w) (Eb e ((Cv w).2.2++[(!(membersB (Cv w).1 (Cv w).2.1),21)])) { l with vlan:=(Cv w).1,tagged:=(Cv w).2.1 }):=cT F186 Tryz.ntmps186 fun F hF=>by
 obtain ⟨row,kind,dev,port,peer,far,name,mac,addr,bits,vlan,num,cost,tagged,imports,exports,addrs⟩:=l
 obtain ⟨g1,g2⟩:=hl0
 dsimp only at g1 g2
 subst g1 g2
 have q0:Sy.Spec Tryz.prog 188 [.ptr 0 0] (rdO w 4 e) (Ac (wdT w 4)) (rdO w 5 e):=E2 w 4 e h4 hw
 rw[Aam,Cv,I0]
 by_cases c1:wdT w 4=accessT
 ·have b1:(wdT w 4 == (⟨#[97,99,99,101,115,115]⟩:ByteArray))=true:=Cj c1
  have q1:=Kr w 5 e (ha c1) hw
  rw[if_pos c1,if_pos c1]
  have q2:=Dm ⟨row,kind,dev,port,peer,far,name,mac,addr,bits,(Be (wdT w 5)).1,num,cost,[],imports,exports,addrs⟩ (by simp[Dx])
  dsimp only at q2 ⊢
  have hf1:Eb e [(!(Be (wdT w 5)).2,21)]=Ae e (!(Be (wdT w 5)).2) 21:=rfl
  rw[hf1]
  have q3:=fun b=>Da w 6 (Ae e (!(Be (wdT w 5)).2) 21) b 21
  generalize Ae e (!(Be (wdT w 5)).2) 21=e1 at *
  generalize (Be (wdT w 5)).1=v at *
  have hf2:Eb e1 [(!(membersB v []),21)]=Ae e1 (!(membersB v [])) 21:=rfl
  rw[hf2]
  have q3:=q3 (!(membersB v []))
  generalize Ae e1 (!(membersB v [])) 21=e2 at *
  generalize membersB v []=mb at *
  refine T ?_
  refine X (Ad [] q_ F188 q0 q_ W q_ V) ?_
  refine X (Ad [] q_ F182 q1 q_ W q_ V) ?_
  refine C q2 F239 ?_
  refine X (Ad [] q_ F185 q3 q_ W q_ V) ?_
  exact Bj q_ .nil [] (rlO w 6 e2 ⟨row,kind,dev,port,peer,far,name,mac,addr,bits,v,num,cost,[],imports,exports,addrs⟩) (fun _ h=>h) q_ q_ U
 ·have b1:(wdT w 4 == (⟨#[97,99,99,101,115,115]⟩:ByteArray))=false:=C4 c1
  rw[if_neg c1,if_neg c1]
  by_cases c2:wdT w 4=trunkT
  ·have b2:(wdT w 4 == (⟨#[116,114,117,110,107]⟩:ByteArray))=true:=Cj c2
   have h6:=htr c2
   have h5:((5:Nat):Int).toNat<w.length:=by show 5<w.length;omega
   have e5:w[((5:Nat):Int).toNat]'h5=wdT w 5:=(Bk j_).symm
   rw[if_pos c2,if_pos c2]
   by_cases c3:wdT w 5=dash
   ·have b3:(w[((5:Nat):Int).toNat]'h5 == (⟨#[45]⟩:ByteArray))=true:=Cj (by rw[e5];exact c3)
    rw[if_pos c3]
    have q1:=M7 w 6 e 4094 h6 hw hs
    have q2:=Dm ⟨row,kind,dev,port,peer,far,name,mac,addr,bits,0,num,cost,(listR 4094 (wdT w 6)).1,imports,exports,addrs⟩ (by have:=Mj 4094 (wdT w 6);simp only[Dx];omega)
    dsimp only at q2 ⊢
    have hf1:Eb e [(!(listR 4094 (wdT w 6)).2,21)]=Ae e (!(listR 4094 (wdT w 6)).2) 21:=rfl
    rw[hf1]
    have q3:=fun b=>Da w 7 (Ae e (!(listR 4094 (wdT w 6)).2) 21) b 21
    generalize Ae e (!(listR 4094 (wdT w 6)).2) 21=e1 at *
    generalize (listR 4094 (wdT w 6)).1=v at *
    have hf2:Eb e1 [(!(membersB 0 v),21)]=Ae e1 (!(membersB 0 v)) 21:=rfl
    rw[hf2]
    have q3:=q3 (!(membersB 0 v))
    generalize Ae e1 (!(membersB 0 v)) 21=e2 at *
    generalize membersB 0 v=mb at *
    refine T ?_
    refine X (Ad [] q_ F188 q0 q_ W q_ V) ?_
    refine X (Ad [] q_ F191 q1 q_ W q_ V) ?_
    refine C q2 F239 ?_
    refine X (Ad [] q_ F185 q3 q_ W q_ V) ?_
    exact Bj q_ .nil [] (rlO w 7 e2 ⟨row,kind,dev,port,peer,far,name,mac,addr,bits,0,num,cost,v,imports,exports,addrs⟩) (fun _ h=>h) q_ q_ U
   ·have b3:(w[((5:Nat):Int).toNat]'h5 == (⟨#[45]⟩:ByteArray))=false:=C4 (by rw[e5];exact c3)
    rw[if_neg c3]
    have q4:=Kr w 5 e j_ hw
    have hf1:Eb e [(!(Be (wdT w 5)).2,21),(!(listR 4094 (wdT w 6)).2,21)]=Ae (Ae e (!(Be (wdT w 5)).2) 21) (!(listR 4094 (wdT w 6)).2) 21:=rfl
    dsimp only
    rw[hf1]
    generalize Ae e (!(Be (wdT w 5)).2) 21=e0 at *
    have q1:=M7 w 6 e0 4094 h6 hw hs
    have q2:=Dm ⟨row,kind,dev,port,peer,far,name,mac,addr,bits,(Be (wdT w 5)).1,num,cost,(listR 4094 (wdT w 6)).1,imports,exports,addrs⟩ (by have:=Mj 4094 (wdT w 6);simp only[Dx];omega)
    dsimp only at q2
    have q3:=fun b=>Da w 7 (Ae e0 (!(listR 4094 (wdT w 6)).2) 21) b 21
    generalize Ae e0 (!(listR 4094 (wdT w 6)).2) 21=e1 at *
    generalize (listR 4094 (wdT w 6)).1=v at *
    generalize (Be (wdT w 5)).1=u at *
    have hf2:Eb e1 [(!(membersB u v),21)]=Ae e1 (!(membersB u v)) 21:=rfl
    rw[hf2]
    have q3:=q3 (!(membersB u v))
    generalize Ae e1 (!(membersB u v)) 21=e2 at *
    generalize membersB u v=mb at *
    refine T ?_
    refine X (Ad [] q_ F188 q0 q_ W q_ V) ?_
    refine X (Ad [] q_ F182 q4 q_ W q_ V) ?_
    refine X (Ad [] q_ F191 q1 q_ W q_ V) ?_
    refine C q2 F239 ?_
    refine X (Ad [] q_ F185 q3 q_ W q_ V) ?_
    exact Bj q_ .nil [] (rlO w 7 e2 ⟨row,kind,dev,port,peer,far,name,mac,addr,bits,u,num,cost,v,imports,exports,addrs⟩) (fun _ h=>h) q_ q_ U
  ·have b2:(wdT w 4 == (⟨#[116,114,117,110,107]⟩:ByteArray))=false:=C4 c2
   rw[if_neg c2,if_neg c2]
   have q2:=Dm ⟨row,kind,dev,port,peer,far,name,mac,addr,bits,0,num,cost,[],imports,exports,addrs⟩ (by simp[Dx])
   dsimp only at q2 ⊢
   have hf2:Eb (Eb e []) [(!(membersB 0 []),21)]=Ae e (!(membersB 0 [])) 21:=rfl
   rw[hf2]
   have q3:=Da w 5 e (!(membersB 0 [])) 21
   generalize Ae e (!(membersB 0 [])) 21=e2 at *
   generalize membersB 0 []=mb at *
   refine T ?_
   refine X (Ad [] q_ F188 q0 q_ W q_ V) ?_
   refine C q2 F239 ?_
   refine X (Ad [] q_ F185 q3 q_ W q_ V) ?_
   exact Bj q_ .nil [] (rlO w 5 e2 ⟨row,kind,dev,port,peer,far,name,mac,addr,bits,0,num,cost,[],imports,exports,addrs⟩) (fun _ h=>h) q_ q_ U
end Go.Sy.YtgblchnfjbkipaaGreatDoor
