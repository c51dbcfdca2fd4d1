/-
  M12 M13 M14 V2 V3 V4 V5 X1 D2 M1 M2 M15 A1 A3 Sy20 Sy21 A4 R1 R2 A5 R3 R5 R6 A6 R7 R8 K0 E7 E8 E9 E10 E11 E12 E13 E14 E15 A7 E21 E29 I6 I11 I41 S0 I31 I7l I8l S3 I37 I15 I16: parts of a proof, joined by program.
-/
import Derived.Test.YtjenpnjajjplkaaGreatDoorXK3
import Derived.RangeFuncNested
import Derived.RangeFuncCalls
import Derived.RangeFuncLeaves
import Derived.Shelf.Abstract
import Derived.Shelf.RegionOpen
import Derived.WalkKit
import Derived.OwnWalkIn
import Derived.TacticsInMore
import Derived.LoopNIn
import Derived.LoopIn
import Derived.Test.YtjenpnjajjplkaaGreatDoorProg
import Derived.Test.YtjenpnjajjplkaaGreatDoorXK2
import Derived.ProofKit
import Derived.OpenShut
import Derived.Scope
import Derived.Laws.Bits64b
import Derived.Test.YtjenpnjajjplkaaGreatDoorXK1
set_option linter.all false
set_option linter.unusedVariables false
set_option linter.unusedSimpArgs false
set_option linter.deprecated false
namespace Go.Sy.YtjenpnjajjplkaaGreatDoor
open Go.Proofs
attribute [local irreducible] Go.Sy.G Go.Sy.DR
set_option maxRecDepth 100000
set_option maxHeartbeats 4000000
theorem F207:Fun Tryz.prog 207 Tryz.f207 (Sm Tryz.f207):=⟨Tryz.func207,rfl,by kernel_rfl⟩
theorem F289:Fun Tryz.prog 289 Tryz.f289 (Sm Tryz.f289):=⟨Tryz.func289,rfl,by kernel_rfl⟩
theorem Qg (s p:ByteArray):Sy.Spec Tryz.prog 209 [Ah s,Ah p] [] (Ah (mkT (Lib.trimPrefix s.data.toList p.data.toList))) [] :=
 Spec.of_calls fun κ w vs hi hr _=>by
  simp only[RdL]at hr
  obtain ⟨v,r,rfl,h3,u,r',rfl,h4,rfl⟩:=hr
  have h3':v=.string s:=by simpa only [Ah,Rd] using h3
  have h4':u=.string p:=by simpa only [Ah,Rd] using h4
  subst h3' h4'
  exact(Tryz.strings_TrimPrefix s p w).mono fun e w' ⟨he,hw⟩=>⟨he,hw ▸ RowKit.Below.refl _ _⟩
theorem Yt (s:ByteArray) (c:UInt8) (m:Int) (hm:Lib.indexByte s.data.toList c=m):Sy.Spec Tryz.prog 289 [Ah s,Ah ⟨#[c]⟩] [] (Aa m) [] :=
 Spec.of_calls fun κ w vs hi hr _=>by
  subst hm
  simp only[RdL]at hr
  obtain ⟨v,r,rfl,h3,u,r',rfl,h4,rfl⟩:=hr
  have h3':v=.string s:=by simpa only [Ah,Rd] using h3
  have h4':u=.string ⟨#[c]⟩:=by simpa only [Ah,Rd] using h4
  subst h3' h4'
  exact(Tryz.stringslite_Index_one s c w).mono fun e w' ⟨he,hw⟩=>⟨he,hw ▸ RowKit.Below.refl _ _⟩
def cutT (c:UInt8) (s:ByteArray):ByteArray × ByteArray × Bool :=
 if 0≤Lib.indexByte s.data.toList c then (s.extract 0 (Ez c s.data.toList),s.extract (Ez c s.data.toList+1) s.size,true) else (s,⟨#[]⟩,false)
theorem I8 (l:List UInt8) (c:UInt8):Lib.indexByte l c<l.length:=by
 induction l with
 | nil=>simp[Lib.indexByte]
 | cons b l ih =>
  unfold Lib.indexByte
  rw[List.length_cons]
  split
  ·omega
  split
  ·omega
  ·omega
theorem Acv (s:ByteArray) (c:UInt8) (hs:s.size≤1000000000):Sy.Spec Tryz.prog 207 [Ah s,Ah ⟨#[c]⟩] [] (.tup [Ah (cutT c s).1,Ah (cutT c s).2.1,Ab (cutT c s).2.2]) []:=cT F207 Tryz.ntmps207 fun F hF=>by
 have hres:=cutT.eq_1 c s
 generalize cutT c s=res at *
 have hlt:=I8 s.data.toList c
 have hsz:s.data.toList.length=s.size:=rfl
 have hid:Ez c s.data.toList=(Lib.indexByte s.data.toList c).toNat:=rfl
 obtain ⟨m,hmm⟩:∃ m,Lib.indexByte s.data.toList c=m:=⟨_,rfl⟩
 have q:=Yt s c m hmm
 rw[hmm]at hres hlt hid
 ((conv=>whnf);repeat((first|refine aF ?_|refine aT ?_);(first|refine rG Γ hm ?_|refine rD Γ hm z_ ?_);conv=>whnf))
 refine c0 q F289 ?_
 ((first|refine rG Γ hm ?_|refine rD Γ hm z_ ?_);(conv=>whnf);repeat((first|refine aF ?_|refine aT ?_);(first|refine rG Γ hm ?_|refine rD Γ hm z_ ?_);conv=>whnf))
 refine⟨fun h=>?_,fun h=>?_⟩
 ·have h0:0≤m:=of_decide_eq_true h
  rw[if_pos h0,hid]at hres
  have e1:(m+1).toNat=m.toNat+1:=by omega
  have hc1:(⟨#[c]⟩:ByteArray).size=1:=rfl
  subst hres
  ((first|refine rG Γ hm ?_|refine rD Γ hm z_ ?_);(conv=>whnf);repeat((first|refine aF ?_|refine aT ?_);(first|refine rG Γ hm ?_|refine rD Γ hm z_ ?_);conv=>whnf))
  refine⟨⟨by omega,by omega,by omega⟩,?_⟩
  ((conv=>whnf);repeat((first|refine aF ?_|refine aT ?_);(first|refine rG Γ hm ?_|refine rD Γ hm z_ ?_);conv=>whnf))
  refine⟨by show I64 (m+1);unfold I64;omega,?_⟩
  ((conv=>whnf);repeat((first|refine aF ?_|refine aT ?_);(first|refine rG Γ hm ?_|refine rD Γ hm z_ ?_);conv=>whnf))
  refine⟨⟨by omega,by omega,by omega⟩,?_⟩
  ((conv=>whnf);repeat((first|refine aF ?_|refine aT ?_);(first|refine rG Γ hm ?_|refine rD Γ hm z_ ?_);conv=>whnf))
  refine⟨z_,?_⟩
  ((conv=>whnf);repeat((first|refine aF ?_|refine aT ?_);(first|refine rG Γ hm ?_|refine rD Γ hm z_ ?_);conv=>whnf))
  refine Ar E (.cons .tmp (.cons .tmp (.cons .tmp .nil))) ?_ E
  show SV.tup [Ah _,Ah (s.extract (m.toNat+1) s.size),_]=SV.tup [Ah _,Ah (s.extract (m+1).toNat _),_]
  rw[e1]
  rfl
 ·have h0:¬ 0≤m:=of_decide_eq_false h
  rw[if_neg h0]at hres
  subst hres
  ((first|refine rG Γ hm ?_|refine rD Γ hm z_ ?_);(conv=>whnf);repeat((first|refine aF ?_|refine aT ?_);(first|refine rG Γ hm ?_|refine rD Γ hm z_ ?_);conv=>whnf))
  exact dN
theorem O4 (s:ByteArray) (c:UInt8) (hs:s.size≤1000000000):Sy.Spec Tryz.prog 119 [Ah s,Ah ⟨#[c]⟩] [] (.tup [Ah (cutT c s).1,Ah (cutT c s).2.1,Ab (cutT c s).2.2]) []:=cT F119 Tryz.ntmps119 fun F hF=>by
 have q:=Acv s c hs
 generalize cutT c s=res at *
 ((conv=>whnf);repeat((first|refine aF ?_|refine aT ?_);(first|refine rG Γ hm ?_|refine rD Γ hm z_ ?_);conv=>whnf))
 refine c0 q F207 ?_
 ((first|refine rG Γ hm ?_|refine rD Γ hm z_ ?_);(conv=>whnf);repeat((first|refine aF ?_|refine aT ?_);(first|refine rG Γ hm ?_|refine rD Γ hm z_ ?_);conv=>whnf))
 exact dN
def Ks (l:List UInt8):Int:=l.foldl (fun n c=>10 * n+((c.toNat:Int)-48)) 0
def Wg (s:ByteArray):Bool:=s.data.toList.head? == some 45
def Hd (s:ByteArray):List UInt8:=if Wg s=true then s.data.toList.drop 1 else s.data.toList
def numV (s:ByteArray):Int:=if Wg s=true then 0-Ks (Hd s) else Ks (Hd s)
def numR (s:ByteArray) (lo hi:Int):Int × Bool :=
 if (Hd s).length<1∨10<(Hd s).length then (0,false) else if (Hd s).all Ek=false then (0,false)
 else if numV s<lo∨hi<numV s then (0,false) else if (V9 (numV s) == s)=true then (numV s,true) else (0,false)
theorem T6 (l:List UInt8) (c:UInt8):Ks (l++[c])=10 * Ks l+((c.toNat:Int)-48):=by
 rw[Ks,List.foldl_append];rfl
theorem Z4:∀ (k:Nat) (l:List UInt8),l.length=k→(∀ c∈l,Ek c=true)→0≤Ks l∧Ks l<10 ^ k
 | 0,l,hl,_=>by
  rw[List.length_eq_zero_iff.1 hl]
  exact⟨Int.le_refl _,by decide⟩
 | k+1,l,hl,h=>by
  have hne:l≠[]:=fun e=>by rw[e]at hl;cases hl
  have e:=List.dropLast_concat_getLast hne
  have h1:=Z4 k l.dropLast (by rw[List.length_dropLast];omega) fun c hc=>h c (List.dropLast_subset l hc)
  have h2:=h _ (List.getLast_mem hne)
  simp only[Ek,Bool.and_eq_true,decide_eq_true_eq]at h2
  rw[← e,T6,Int.pow_succ]
  omega
theorem Aer {l:List UInt8} (hl:l.length≤10) (h:∀ c∈l,Ek c=true):0≤Ks l∧Ks l<10000000000:=by
 have h1:=Z4 _ l rfl h
 refine⟨h1.1,Int.lt_of_lt_of_le h1.2 ?_⟩
 have h2:(10:Nat) ^ l.length≤10 ^ 10:=Nat.pow_le_pow_right j_ hl
 have h3:((10:Nat) ^ l.length:Int)≤((10 ^ 10:Nat):Int):=by exact_mod_cast h2
 simpa using h3
theorem Abx (s:ByteArray):Lib.trimPrefix s.data.toList [45]=Hd s:=by
 unfold Lib.trimPrefix Hd Wg
 cases s.data.toList with
 | nil=>simp[Lib.hasPrefix]
 | cons c l =>
  by_cases hc:c=45
  ·subst hc;simp[Lib.hasPrefix]
  ·simp[Lib.hasPrefix,hc,Ne.symm hc]
theorem Qd {s:ByteArray} {i:Nat} (h:i<s.data.toList.length):A0 s i=s.data.toList[i]:=by
 rw[A0,List.getD_eq_getElem?_getD,List.getElem?_eq_getElem h];rfl
theorem Abv {α:Type} {p:α→Bool} {l:List α} {j:Nat} (hI:El (fun _ x=>p x) l j):∀ c∈l.take j,p c=true:=by
 intro c hc
 obtain ⟨i,hi,rfl⟩:=List.mem_iff_getElem.1 hc
 rw[List.length_take]at hi
 rw[List.getElem_take]
 exact hI i q_ q_
theorem M0 {α:Type} {p:α→Bool} {l:List α} {j:Nat} (hI:El (fun _ x=>p x) l j) (hj:l.length≤j):l.all p=true:=by
 rw[List.all_eq_true]
 intro x hx
 obtain ⟨i,hi,rfl⟩:=List.mem_iff_getElem.1 hx
 exact hI i hi q_
theorem all_at' {α:Type} {p:α→Bool} {l:List α} {j:Nat} (hj:j<l.length) (h:p l[j]=false):l.all p=false:=by
 cases ha:l.all p
 ·rfl
 ·rw[List.all_eq_true]at ha
  rw[ha _ (List.getElem_mem hj)]at h;cases h
theorem u8_sub2 {c:UInt8} (h:Ek c=true):IntKind.i64.wrap (IntKind.u8.wrap ((c.toNat:Int)-48))=(c.toNat:Int)-48:=by
 simp only[Ek,Bool.and_eq_true,decide_eq_true_eq]at h
 rw[IntKind.wrap_u8,IntKind.wrap_i64];omega
theorem neg_digs {s:ByteArray} (h:Wg s=true):(Hd s).length+1=s.size∧∀ j,j<(Hd s).length→A0 s (1+j)=(Hd s).getD j 0:=by
 have hsz:s.data.toList.length=s.size:=rfl
 rw[Hd,if_pos h]
 rw[Wg]at h
 cases hd:s.data.toList with
 | nil=>rw[hd]at h;cases h
 | cons c l =>
  rw[hd]at hsz
  refine⟨by simp at hsz ⊢;omega,fun j hj=>?_⟩
  rw[A0,hd,Nat.add_comm]
  rfl
theorem pos_digs {s:ByteArray} (h:Wg s=false):(Hd s).length=s.size∧∀ j,j<(Hd s).length→A0 s j=(Hd s).getD j 0:=by
 rw[Hd,if_neg (by simp[h])]
 exact⟨E,fun j hj=>rfl⟩
theorem Wb (s:ByteArray) (lo hi:Int):Sy.Spec Tryz.prog 124 [Ah s,Aa lo,Aa hi] [] (.tup [Aa (numR s lo hi).1,Ab (numR s lo hi).2]) []:=cT F124 Tryz.ntmps124 fun F hF=>by
 have hres:=numR.eq_1 s lo hi
 generalize numR s lo hi=res at *
 have q:=Qg s ⟨#[45]⟩
 rw[show (⟨#[45]⟩:ByteArray).data.toList=[45] from rfl,Abx]at q
 have hnv:=numV.eq_1 s
 have hng:=@neg_digs s
 have hps:=@pos_digs s
 generalize numV s=nv at *
 generalize hD:Hd s=D at *
 have hDs:(mkT D).size=D.length:=Dk D
 ((conv=>whnf);repeat((first|refine aF ?_|refine aT ?_);(first|refine rG Γ hm ?_|refine rD Γ hm z_ ?_);conv=>whnf))
 refine c0 q F209 ?_
 by_cases h1:D.length<1∨10<D.length
 ·rw[if_pos h1]at hres
  subst hres
  ((first|refine rG Γ hm ?_|refine rD Γ hm z_ ?_);(conv=>whnf);repeat((first|refine aF ?_|refine aT ?_);(first|refine rG Γ hm ?_|refine rD Γ hm z_ ?_);conv=>whnf))
  refine⟨fun h=>?_,fun h=>?_⟩
  ·((first|refine rG Γ hm ?_|refine rD Γ hm z_ ?_);(conv=>whnf);repeat((first|refine aF ?_|refine aT ?_);(first|refine rG Γ hm ?_|refine rD Γ hm z_ ?_);conv=>whnf))
   exact dN
  ·have h2:1≤D.length:=by
    cases D with
    | nil=>exact absurd (show (mkT [] == (⟨#[]⟩:ByteArray))=true from rfl) (by rw[show (mkT [] == (⟨#[]⟩:ByteArray))=false from h];simp)
    | cons=>simp
   ((first|refine rG Γ hm ?_|refine rD Γ hm z_ ?_);(conv=>whnf);repeat((first|refine aF ?_|refine aT ?_);(first|refine rG Γ hm ?_|refine rD Γ hm z_ ?_);conv=>whnf))
   refine⟨fun h=>?_,fun h=>?_⟩
   ·((first|refine rG Γ hm ?_|refine rD Γ hm z_ ?_);(conv=>whnf);repeat((first|refine aF ?_|refine aT ?_);(first|refine rG Γ hm ?_|refine rD Γ hm z_ ?_);conv=>whnf))
    exact dN
   ·exact absurd (of_decide_eq_false h) q_
 rw[if_neg h1]at hres
 have hne:(mkT D == (⟨#[]⟩:ByteArray))=false:=by
  cases he:(mkT D == (⟨#[]⟩:ByteArray))
  ·rfl
  ·have e:(mkT D).data=(⟨#[]⟩:ByteArray).data:=by simpa using (show ((mkT D).data == (⟨#[]⟩:ByteArray).data)=true from he)
   have:=congrArg Array.size e
   have e2:(mkT D).data.size=D.length:=hDs
   rw[e2]at this
   have e3:(⟨#[]⟩:ByteArray).data.size=0:=rfl
   omega
 ((first|refine rG Γ hm ?_|refine rD Γ hm z_ ?_);(conv=>whnf);repeat((first|refine aF ?_|refine aT ?_);(first|refine rG Γ hm ?_|refine rD Γ hm z_ ?_);conv=>whnf))
 refine⟨fun h=>absurd h (by rw[hne];simp),fun _=>?_⟩
 ((first|refine rG Γ hm ?_|refine rD Γ hm z_ ?_);(conv=>whnf);repeat((first|refine aF ?_|refine aT ?_);(first|refine rG Γ hm ?_|refine rD Γ hm z_ ?_);conv=>whnf))
 refine⟨fun h=>absurd (of_decide_eq_true h) q_,fun _=>?_⟩
 ((first|refine rG Γ hm ?_|refine rD Γ hm z_ ?_);(conv=>whnf);repeat((first|refine aF ?_|refine aT ?_);(first|refine rG Γ hm ?_|refine rD Γ hm z_ ?_);conv=>whnf))
 refine A6 D.length (fun j=>El (fun _ c=>Ek c) D j) (fun j=>[(0,Ah s),(1,Aa lo),(2,Aa hi),(8,Ah (mkT D)),(9,Aa (Ks (D.take j))),(21,Aa D.length),(22,Aa j)]) (fun _=>[]) [] (Bc _ _)
  ⟨⟨rfl,rfl,rfl,rfl,rfl,rfl,rfl,rfl,rfl,rfl,congrArg (fun z:Nat=>SV.val (.int .i64 z)) hDs.symm,rfl,rfl,rfl,trivial⟩,trivial,rfl,rfl⟩ ?_
 intro j hj hI
 have hv:=Aer (l:=D.take j) (by rw[List.length_take];omega) (Abv hI)
 ((first|refine rG Γ hm ?_|refine rD Γ hm z_ ?_);(conv=>whnf);repeat((first|refine aF ?_|refine aT ?_);(first|refine rG Γ hm ?_|refine rD Γ hm z_ ?_);conv=>whnf))
 refine⟨fun h=>?_,fun h=>?_⟩
 ·have hlt:j<D.length:=qA h
  have hb:A0 (mkT D) ((j:Nat):Int).toNat=D[j]:=by
   have:j<(mkT D).data.toList.length:=by rw[Ed];exact hlt
   rw[Int.toNat_natCast,Qd this];simp[mkT]
  have hno:=fun h=>@all_at' _ Ek D j hlt h
  have hnx:=fun h=>A8 (p:=fun _ c=>Ek c) hI hlt h
  have hsucc:Ks (D.take (j+1))=10 * Ks (D.take j)+((D[j].toNat:Int)-48):=by rw[List.take_succ_eq_append_getElem hlt,T6]
  have hu:=@u8_sub2 D[j]
  generalize D[j]=c at *
  generalize Ks (D.take j)=v at *
  have hc2:=c.toNat_lt
  ((first|refine rG Γ hm ?_|refine rD Γ hm z_ ?_);(conv=>whnf);repeat((first|refine aF ?_|refine aT ?_);(first|refine rG Γ hm ?_|refine rD Γ hm z_ ?_);conv=>whnf))
  refine⟨by omega,by omega,?_⟩
  rw[hb]
  ((conv=>whnf);repeat((first|refine aF ?_|refine aT ?_);(first|refine rG Γ hm ?_|refine rD Γ hm z_ ?_);conv=>whnf))
  refine⟨fun h2=>?_,fun h2=>?_⟩
  ·have h3:c.toNat<48:=by have:=of_decide_eq_true h2;omega
   rw[if_pos (hno (by rw[Ek,decide_eq_false q_];rfl))]at hres
   subst hres
   ((first|refine rG Γ hm ?_|refine rD Γ hm z_ ?_);(conv=>whnf);repeat((first|refine aF ?_|refine aT ?_);(first|refine rG Γ hm ?_|refine rD Γ hm z_ ?_);conv=>whnf))
   exact dN
  have h2:=of_decide_eq_false h2
  ((first|refine rG Γ hm ?_|refine rD Γ hm z_ ?_);(conv=>whnf);repeat((first|refine aF ?_|refine aT ?_);(first|refine rG Γ hm ?_|refine rD Γ hm z_ ?_);conv=>whnf))
  refine⟨by omega,by omega,?_⟩
  rw[hb]
  ((conv=>whnf);repeat((first|refine aF ?_|refine aT ?_);(first|refine rG Γ hm ?_|refine rD Γ hm z_ ?_);conv=>whnf))
  refine⟨fun h3=>?_,fun h3=>?_⟩
  ·have h3:57<c.toNat:=by have:=of_decide_eq_true h3;omega
   rw[if_pos (hno (by rw[Ek,decide_eq_false (by omega:¬ c.toNat≤57),Bool.and_false]))]at hres
   subst hres
   ((first|refine rG Γ hm ?_|refine rD Γ hm z_ ?_);(conv=>whnf);repeat((first|refine aF ?_|refine aT ?_);(first|refine rG Γ hm ?_|refine rD Γ hm z_ ?_);conv=>whnf))
   exact dN
  have h3:=of_decide_eq_false h3
  have hdg:Ek c=true:=by rw[Ek,decide_eq_true q_,decide_eq_true q_];rfl
  have hu:=hu hdg
  ((first|refine rG Γ hm ?_|refine rD Γ hm z_ ?_);(conv=>whnf);repeat((first|refine aF ?_|refine aT ?_);(first|refine rG Γ hm ?_|refine rD Γ hm z_ ?_);conv=>whnf))
  refine⟨by show I64 (10 * v);unfold I64;omega,?_⟩
  ((conv=>whnf);repeat((first|refine aF ?_|refine aT ?_);(first|refine rG Γ hm ?_|refine rD Γ hm z_ ?_);conv=>whnf))
  refine⟨by omega,by omega,?_⟩
  rw[hb]
  ((conv=>whnf);repeat((first|refine aF ?_|refine aT ?_);(first|refine rG Γ hm ?_|refine rD Γ hm z_ ?_);conv=>whnf))
  rw[hu]
  refine⟨by show I64 (10 * v+((c.toNat:Int)-48));unfold I64;omega,?_⟩
  ((conv=>whnf);repeat((first|refine aF ?_|refine aT ?_);(first|refine rG Γ hm ?_|refine rD Γ hm z_ ?_);conv=>whnf))
  refine iL ?_
  ((conv=>whnf);repeat((first|refine aF ?_|refine aT ?_);(first|refine rG Γ hm ?_|refine rD Γ hm z_ ?_);conv=>whnf))
  exact Bb [] hI q_ (hnx hdg) ⟨⟨E,E,E,E,E,E,E,E,congrArg Aa hsucc,E,E,E,E,E,Y⟩,Y,E,E⟩
 ·have hje:j=D.length:=qB h
  subst hje
  rw[if_neg (by rw[M0 hI (Nat.le_refl _)];simp)]at hres
  rw[List.take_length]at hv ⊢
  have fin:∀ nv:Int,nv=(if Wg s=true then 0-Ks D else Ks D)→(-10000000000<nv∧nv<10000000000)∧Vl nv:=fun nv h=>by
   unfold Vl
   split at h<;>omega
  have fn:=fin nv hnv
  have q2:=Aav nv fn.2
  have hs2:((mkT D).size:Int)=D.length:=by rw[hDs]
  cases hn:Wg s
  ·rw[hn,if_neg y_]at hnv
   have h4:=(hps hn).1
   rw[← hnv]
   ((first|refine rG Γ hm ?_|refine rD Γ hm z_ ?_);(conv=>whnf);repeat((first|refine aF ?_|refine aT ?_);(first|refine rG Γ hm ?_|refine rD Γ hm z_ ?_);conv=>whnf))
   refine⟨fun h=>absurd (of_decide_eq_true h) q_,fun _=>?_⟩
   ((first|refine rG Γ hm ?_|refine rD Γ hm z_ ?_);(conv=>whnf);repeat((first|refine aF ?_|refine aT ?_);(first|refine rG Γ hm ?_|refine rD Γ hm z_ ?_);conv=>whnf))
   refine⟨fun h=>?_,fun h=>?_⟩
   ·rw[if_pos (.inl (of_decide_eq_true h))]at hres
    subst hres
    ((first|refine rG Γ hm ?_|refine rD Γ hm z_ ?_);(conv=>whnf);repeat((first|refine aF ?_|refine aT ?_);(first|refine rG Γ hm ?_|refine rD Γ hm z_ ?_);conv=>whnf))
    exact dN
   have h5:=of_decide_eq_false h
   ((first|refine rG Γ hm ?_|refine rD Γ hm z_ ?_);(conv=>whnf);repeat((first|refine aF ?_|refine aT ?_);(first|refine rG Γ hm ?_|refine rD Γ hm z_ ?_);conv=>whnf))
   refine⟨fun h=>?_,fun h=>?_⟩
   ·rw[if_pos (.inr (of_decide_eq_true h))]at hres
    subst hres
    ((first|refine rG Γ hm ?_|refine rD Γ hm z_ ?_);(conv=>whnf);repeat((first|refine aF ?_|refine aT ?_);(first|refine rG Γ hm ?_|refine rD Γ hm z_ ?_);conv=>whnf))
    exact dN
   have h6:=of_decide_eq_false h
   rw[if_neg q_]at hres
   ((first|refine rG Γ hm ?_|refine rD Γ hm z_ ?_);(conv=>whnf);repeat((first|refine aF ?_|refine aT ?_);(first|refine rG Γ hm ?_|refine rD Γ hm z_ ?_);conv=>whnf))
   refine c0 q2 F117 ?_
   cases he:(V9 nv == s)
   ·rw[he,if_neg y_]at hres
    subst hres
    ((first|refine rG Γ hm ?_|refine rD Γ hm z_ ?_);(conv=>whnf);repeat((first|refine aF ?_|refine aT ?_);(first|refine rG Γ hm ?_|refine rD Γ hm z_ ?_);conv=>whnf))
    refine⟨fun _=>?_,fun h=>absurd h (by rw[he];simp)⟩
    ((first|refine rG Γ hm ?_|refine rD Γ hm z_ ?_);(conv=>whnf);repeat((first|refine aF ?_|refine aT ?_);(first|refine rG Γ hm ?_|refine rD Γ hm z_ ?_);conv=>whnf))
    exact dN
   ·rw[he,if_pos rfl]at hres
    subst hres
    ((first|refine rG Γ hm ?_|refine rD Γ hm z_ ?_);(conv=>whnf);repeat((first|refine aF ?_|refine aT ?_);(first|refine rG Γ hm ?_|refine rD Γ hm z_ ?_);conv=>whnf))
    refine⟨fun h=>absurd h (by rw[he];simp),fun _=>?_⟩
    ((first|refine rG Γ hm ?_|refine rD Γ hm z_ ?_);(conv=>whnf);repeat((first|refine aF ?_|refine aT ?_);(first|refine rG Γ hm ?_|refine rD Γ hm z_ ?_);conv=>whnf))
    exact dN
  ·rw[hn,if_pos rfl]at hnv
   have h4:=(hng hn).1
   have hw:IntKind.i64.wrap (0-Ks D)=nv:=by rw[IntKind.wrap_i64];omega
   ((first|refine rG Γ hm ?_|refine rD Γ hm z_ ?_);(conv=>whnf);repeat((first|refine aF ?_|refine aT ?_);(first|refine rG Γ hm ?_|refine rD Γ hm z_ ?_);conv=>whnf))
   refine⟨fun _=>?_,fun h=>absurd (of_decide_eq_false h) q_⟩
   ((first|refine rG Γ hm ?_|refine rD Γ hm z_ ?_);(conv=>whnf);repeat((first|refine aF ?_|refine aT ?_);(first|refine rG Γ hm ?_|refine rD Γ hm z_ ?_);conv=>whnf))
   rw[hw]
   refine⟨fun h=>?_,fun h=>?_⟩
   ·rw[if_pos (.inl (of_decide_eq_true h))]at hres
    subst hres
    ((first|refine rG Γ hm ?_|refine rD Γ hm z_ ?_);(conv=>whnf);repeat((first|refine aF ?_|refine aT ?_);(first|refine rG Γ hm ?_|refine rD Γ hm z_ ?_);conv=>whnf))
    exact dN
   have h5:=of_decide_eq_false h
   ((first|refine rG Γ hm ?_|refine rD Γ hm z_ ?_);(conv=>whnf);repeat((first|refine aF ?_|refine aT ?_);(first|refine rG Γ hm ?_|refine rD Γ hm z_ ?_);conv=>whnf))
   refine⟨fun h=>?_,fun h=>?_⟩
   ·rw[if_pos (.inr (of_decide_eq_true h))]at hres
    subst hres
    ((first|refine rG Γ hm ?_|refine rD Γ hm z_ ?_);(conv=>whnf);repeat((first|refine aF ?_|refine aT ?_);(first|refine rG Γ hm ?_|refine rD Γ hm z_ ?_);conv=>whnf))
    exact dN
   have h6:=of_decide_eq_false h
   rw[if_neg q_]at hres
   ((first|refine rG Γ hm ?_|refine rD Γ hm z_ ?_);(conv=>whnf);repeat((first|refine aF ?_|refine aT ?_);(first|refine rG Γ hm ?_|refine rD Γ hm z_ ?_);conv=>whnf))
   refine c0 q2 F117 ?_
   cases he:(V9 nv == s)
   ·rw[he,if_neg y_]at hres
    subst hres
    ((first|refine rG Γ hm ?_|refine rD Γ hm z_ ?_);(conv=>whnf);repeat((first|refine aF ?_|refine aT ?_);(first|refine rG Γ hm ?_|refine rD Γ hm z_ ?_);conv=>whnf))
    refine⟨fun _=>?_,fun h=>absurd h (by rw[he];simp)⟩
    ((first|refine rG Γ hm ?_|refine rD Γ hm z_ ?_);(conv=>whnf);repeat((first|refine aF ?_|refine aT ?_);(first|refine rG Γ hm ?_|refine rD Γ hm z_ ?_);conv=>whnf))
    exact dN
   ·rw[he,if_pos rfl]at hres
    subst hres
    ((first|refine rG Γ hm ?_|refine rD Γ hm z_ ?_);(conv=>whnf);repeat((first|refine aF ?_|refine aT ?_);(first|refine rG Γ hm ?_|refine rD Γ hm z_ ?_);conv=>whnf))
    refine⟨fun h=>absurd h (by rw[he];simp),fun _=>?_⟩
    ((first|refine rG Γ hm ?_|refine rD Γ hm z_ ?_);(conv=>whnf);repeat((first|refine aF ?_|refine aT ?_);(first|refine rG Γ hm ?_|refine rD Γ hm z_ ?_);conv=>whnf))
    exact dN
theorem Ef:∀ (l:List UInt8) (c:UInt8),-1≤Lib.indexByte l c
 | [],_=>by simp[Lib.indexByte]
 | b::l,c=>by
  unfold Lib.indexByte
  have:=Ef l c
  split
  ·omega
  split
  ·omega
  ·omega
def Cu:List UInt8→List UInt8→List ByteArray
 | cur,[]=>if cur=[] then [] else [mkT cur]
 | cur,c::r=>if c=10 then mkT cur::Cu [] r else Cu (cur++[c]) r
def rowsT (b:List UInt8):List ByteArray × Int :=
 if 20000<b.length then ([],3) else if 400<(Cu [] b).length then ([],3) else (Cu [] b,0)
theorem M8:∀ (l cur:List UInt8),Lib.indexByte l 10=-1→Cu cur l=if cur++l=[] then [] else [mkT (cur++l)]
 | [],cur,_=>by rw[Cu,List.append_nil]
 | c::l,cur,h=>by
  unfold Lib.indexByte at h
  by_cases hc:(c == 10)=true
  ·rw[if_pos hc]at h;omega
  rw[if_neg hc]at h
  have hi:Lib.indexByte l 10=-1:=by
   by_cases h1:(Lib.indexByte l 10 == -1)=true
   ·simpa using h1
   ·rw[if_neg h1]at h
    have:=Ef l 10
    omega
  rw[Cu,if_neg (by simpa using hc),M8 l _ hi]
  simp
theorem M7:∀ (l cur:List UInt8),0≤Lib.indexByte l 10→Cu cur l=mkT (cur++l.take (Lib.indexByte l 10).toNat)::Cu [] (l.drop ((Lib.indexByte l 10).toNat+1))
 | [],cur,h=>by simp[Lib.indexByte]at h
 | c::l,cur,h=>by
  unfold Lib.indexByte at h ⊢
  by_cases hc:(c == 10)=true
  ·rw[if_pos hc,Cu,if_pos (by simpa using hc)]
   simp
  rw[if_neg hc]at h ⊢
  by_cases h1:(Lib.indexByte l 10 == -1)=true
  ·rw[if_pos h1]at h;omega
  rw[if_neg h1]at h ⊢
  have:=Ef l 10
  have h2:0≤Lib.indexByte l 10:=by
   have h3:Lib.indexByte l 10≠-1:=by simpa using h1
   omega
  have e:(Lib.indexByte l 10+1).toNat=(Lib.indexByte l 10).toNat+1:=by omega
  rw[Cu,if_neg (by simpa using hc),M7 l _ h2,e]
  simp
theorem Yd {l:List UInt8} (h:l≠[]):Cu [] l=(cutT 10 (mkT l)).1::Cu [] (cutT 10 (mkT l)).2.1.data.toList∧(cutT 10 (mkT l)).2.1.data.toList.length<l.length:=by
 have hpos:=List.length_pos_iff.2 h
 have hlt:=I8 l 10
 have hge:=Ef l 10
 have e0:(mkT l).size=l.length:=Dk l
 rw[cutT,Ed]
 split
 ·rename_i h0
  dsimp only
  rw[M7 l [] h0,Ck,Ck,Ed,e0,List.take_length]
  refine⟨E,?_⟩
  rw[List.length_drop]
  omega
 ·rename_i h0
  dsimp only
  rw[M8 l [] q_,List.nil_append,if_neg h]
  exact⟨E,hpos⟩
theorem Aaz (l:List UInt8):(mkT l == ⟨#[]⟩)=decide (l=[]):=by
 cases l with
 | nil=>rfl
 | cons c l =>
  rw[decide_eq_false y_]
  cases he:(mkT (c::l) == (⟨#[]⟩:ByteArray))
  ·rfl
  ·have e:(mkT (c::l)).data=(⟨#[]⟩:ByteArray).data:=by simpa using (show ((mkT (c::l)).data == (⟨#[]⟩:ByteArray).data)=true from he)
   have:=congrArg Array.size e
   simp[mkT]at this
theorem Aa4 (b:List UInt8) (hb:b.length≤1000000):Sy.Spec Tryz.prog 36 [.sl 1 Cc b] [] (.tup [.sl 1 Ah (rowsT b).1,Aa (rowsT b).2]) []:=cT F36 Tryz.ntmps36 fun F hF=>by
 have hres:=rowsT.eq_1 b
 generalize rowsT b=res at *
 ((conv=>whnf);repeat((first|refine aF ?_|refine aT ?_);(first|refine rG Γ hm ?_|refine rD Γ hm z_ ?_);conv=>whnf))
 refine⟨fun h=>?_,fun h=>?_⟩
 ·rw[if_pos (qA h)]at hres
  subst hres
  ((first|refine rG Γ hm ?_|refine rD Γ hm z_ ?_);(conv=>whnf);repeat((first|refine aF ?_|refine aT ?_);(first|refine rG Γ hm ?_|refine rD Γ hm z_ ?_);conv=>whnf))
  refine De 2 1 Ah E ?_
  ((first|refine rG Γ hm ?_|refine rD Γ hm z_ ?_);(conv=>whnf);repeat((first|refine aF ?_|refine aT ?_);(first|refine rG Γ hm ?_|refine rD Γ hm z_ ?_);conv=>whnf))
  exact dN
 rw[if_neg (qB h)]at hres
 ((first|refine rG Γ hm ?_|refine rD Γ hm z_ ?_);(conv=>whnf);repeat((first|refine aF ?_|refine aT ?_);(first|refine rG Γ hm ?_|refine rD Γ hm z_ ?_);conv=>whnf))
 refine Cg (I9 Γ.toTy (bs:=b) E E E E E E E .sl) E E ?_
 refine C3 4 1000 1 Ah E E ?_
 ((first|refine rG Γ hm ?_|refine rD Γ hm z_ ?_);(conv=>whnf);repeat((first|refine aF ?_|refine aT ?_);(first|refine rG Γ hm ?_|refine rD Γ hm z_ ?_);conv=>whnf))
 refine B3 (fun x:List ByteArray × List UInt8=>Cu [] b=x.1++Cu [] x.2∧x.1.length+x.2.length≤b.length) (fun x=>[(4,.osl 1000),(5,Ah (mkT x.2))]) (fun x=>[(1000,.row 1 Ah x.1)]) (fun x=>x.2.length) ([],b) [] ⟨E,by simp⟩
  ⟨⟨rfl,rfl,rfl,rfl,trivial⟩,⟨.inl rfl,rfl,trivial⟩,rfl,rfl⟩ ?_
 rintro ⟨out,rest⟩ ⟨hI,hlen⟩
 dsimp only at hI hlen ⊢
 have hemp:=Aaz rest
 ((first|refine rG Γ hm ?_|refine rD Γ hm z_ ?_);(conv=>whnf);repeat((first|refine aF ?_|refine aT ?_);(first|refine rG Γ hm ?_|refine rD Γ hm z_ ?_);conv=>whnf))
 by_cases hr:rest=[]
 ·rw[decide_eq_true hr]at hemp
  refine⟨fun h=>absurd h (by rw[hemp];simp),fun _=>?_⟩
  have hro:Cu [] b=out:=by rw[hI,hr];simp[Cu]
  rw[hro]at hres
  ((first|refine rG Γ hm ?_|refine rD Γ hm z_ ?_);(conv=>whnf);repeat((first|refine aF ?_|refine aT ?_);(first|refine rG Γ hm ?_|refine rD Γ hm z_ ?_);conv=>whnf))
  refine⟨fun h=>?_,fun h=>?_⟩
  ·rw[if_pos (qA h)]at hres
   subst hres
   ((first|refine rG Γ hm ?_|refine rD Γ hm z_ ?_);(conv=>whnf);repeat((first|refine aF ?_|refine aT ?_);(first|refine rG Γ hm ?_|refine rD Γ hm z_ ?_);conv=>whnf))
   refine De 2 1 Ah E ?_
   ((first|refine rG Γ hm ?_|refine rD Γ hm z_ ?_);(conv=>whnf);repeat((first|refine aF ?_|refine aT ?_);(first|refine rG Γ hm ?_|refine rD Γ hm z_ ?_);conv=>whnf))
   exact dN
  ·rw[if_neg (qB h)]at hres
   subst hres
   refine Ag 1000 E ?_
   ((first|refine rG Γ hm ?_|refine rD Γ hm z_ ?_);(conv=>whnf);repeat((first|refine aF ?_|refine aT ?_);(first|refine rG Γ hm ?_|refine rD Γ hm z_ ?_);conv=>whnf))
   exact dN
 ·rw[decide_eq_false hr]at hemp
  refine⟨fun _=>?_,fun h=>absurd h (by rw[hemp];simp)⟩
  obtain ⟨hc,hlt⟩:=Yd hr
  have q:=O4 (mkT rest) 10 (by rw[Dk];omega)
  obtain ⟨⟨row,rs,more⟩,hct⟩:∃ p,cutT 10 (mkT rest)=p:=⟨_,rfl⟩
  rw[hct]at q hc hlt
  dsimp only at q hc hlt
  have hrz:rs.data.toList.length=rs.size:=rfl
  ((first|refine rG Γ hm ?_|refine rD Γ hm z_ ?_);(conv=>whnf);repeat((first|refine aF ?_|refine aT ?_);(first|refine rG Γ hm ?_|refine rD Γ hm z_ ?_);conv=>whnf))
  refine c0 q F119 ?_
  ((first|refine rG Γ hm ?_|refine rD Γ hm z_ ?_);(conv=>whnf);repeat((first|refine aF ?_|refine aT ?_);(first|refine rG Γ hm ?_|refine rD Γ hm z_ ?_);conv=>whnf))
  refine Cg (Ak Γ.toTy 23 E E E E E (.row E) (.lit (e:=Ah) (l:=[row]) E E) y_ (by simp;omega) (by simp;omega)) E E ?_
  ((first|refine rG Γ hm ?_|refine rD Γ hm z_ ?_);(conv=>whnf);repeat((first|refine aF ?_|refine aT ?_);(first|refine rG Γ hm ?_|refine rD Γ hm z_ ?_);conv=>whnf))
  refine Az (out++[row],rs.data.toList) [(1000,23)] ⟨by rw[hI,hc];simp,by simp;omega⟩ (by dsimp only;omega) ⟨⟨E,E,congrArg Ah (Ec rs),E,Y⟩,⟨.inl E,E,Y⟩,E,E⟩
end Go.Sy.YtjenpnjajjplkaaGreatDoor
namespace Go.Sy.YtjenpnjajjplkaaGreatDoor
open Go.Proofs
attribute [local irreducible] Go.Sy.G Go.Sy.DR
set_option maxRecDepth 20000
set_option maxHeartbeats 4000000
mutual
theorem O7 {K:List Nat}:∀ x:SV,x.inn []=true→x.inn K=true
 | .ptr _ _,h=>by simp[SV.inn,I3]at h
 | .rpt _ _ _ _,h=>by simp[SV.inn,I3]at h
 | .osl _,h=>by simp[SV.inn,I3]at h
 | .agg l,h=>by simp only[SV.inn]at h ⊢;exact J1 l h
 | .tup l,h=>by simp only[SV.inn]at h ⊢;exact J1 l h
 | .ifc _ x,h=>by simp only[SV.inn]at h ⊢;exact O7 x h
 | .clo _ f l,h=>by simp only[SV.inn,Bool.and_eq_true]at h ⊢;exact⟨J1 f h.1,J1 l h.2⟩
 | .top,_=>rfl
 | .val _,_=>rfl
 | .sl _ _ _,_=>rfl
 | .ref _ _ _,_=>rfl
theorem J1 {K:List Nat}:∀ l:List SV,Bs [] l=true→Bs K l=true
 | [],_=>rfl
 | x::l,h=>by simp only[Bs,Bool.and_eq_true]at h ⊢;exact⟨O7 x h.1,J1 l h.2⟩
end
end Go.Sy.YtjenpnjajjplkaaGreatDoor
namespace Go.Sy.YtjenpnjajjplkaaGreatDoor
open Go.Proofs
attribute [local irreducible] Go.Sy.G Go.Sy.DR
set_option maxRecDepth 100000
set_option maxHeartbeats 4000000
def Adi (d:Domain):SV:=.agg [Aa d.dev,Aa d.vlan,Aa d.vni,Aa d.irb,Aa d.row,.val (.slice none 0 0)]
theorem Abf {M:Nat→Prop} {w:World} (p:Domain) (hp:p.peers=[]) {v:Value} (h:RdD M w (Adi p) v):RdD M w (Ai p) v:=by
 simp only[Adi,Ai,RdD,RdDL,hp]at h ⊢
 obtain ⟨cs,h1,h2,v0,r0,h3,h4,v1,r1,h5,h6,v2,r2,h7,h8,v3,r3,h9,h10,v4,r4,h11,h12,v5,r5,h13,h14,h15⟩:=h
 exact⟨cs,h1,h2,v0,r0,h3,h4,v1,r1,h5,h6,v2,r2,h7,h8,v3,r3,h9,h10,v4,r4,h11,h12,v5,r5,h13,.inl ⟨Y,none,0,h14⟩,h15⟩
def Dz (d:UInt8):List UInt8→List UInt8→List ByteArray
 | cur,[]=>[mkT cur]
 | cur,c::r=>if c=d then mkT cur::Dz d [] r else Dz d (cur++[c]) r
theorem Iz (d:UInt8):∀ (l cur:List UInt8),d∉l→Dz d cur l=[mkT (cur++l)]
 | [],cur,_=>by rw[Dz,List.append_nil]
 | c::l,cur,h=>by
  simp only[List.mem_cons,not_or]at h
  rw[Dz,if_neg (Ne.symm h.1),Iz d l _ h.2]
  simp
theorem Iy (d:UInt8):∀ (l cur:List UInt8),d∈l→Dz d cur l=mkT (cur++l.take (Ez d l))::Dz d [] (l.drop (Ez d l+1))
 | [],cur,h=>by simp at h
 | c::l,cur,h=>by
  by_cases hc:c=d
  ·subst hc
   rw[Dz,if_pos rfl,Ez]
   simp[Lib.indexByte]
  ·have h2:d∈l:=by
    simp only[List.mem_cons]at h
    exact h.resolve_left (Ne.symm hc)
   have h3:=(D5 h2).1
   have e:Ez d (c::l)=Ez d l+1:=by
    have e1:Lib.indexByte (c::l) d=Lib.indexByte l d+1:=by
     rw[Lib.indexByte.eq_def]
     dsimp only
     rw[if_neg (by simpa using hc),if_neg (by simp;omega)]
    rw[Ez,Ez,e1]
    omega
   rw[Dz,if_neg hc,Iy d l _ h2,e]
   simp
theorem Jt (d:UInt8) (l:List UInt8):∀ j,Bo d l (j+1)=Bo d (l.drop (Ez d l+1)) j
 | 0=>rfl
 | j+1=>by
  rw[Bo,Jt d l j]
  rfl
theorem Tm (d:UInt8):∀ (k:Nat) (l:List UInt8),l.length≤k→Bj d (mkT l)=Dz d [] l
 | 0,l,h=>by
  rw[List.length_eq_zero_iff.1 (by omega:l.length=0)]
  simp[Bj,Dz,Bo,mkT]
 | k+1,l,h=>by
  by_cases hd:d∈l
  ·have h1:=Jb hd
   have h2:=(D5 hd).2
   have h3:(l.drop (Ez d l+1)).length≤k:=by rw[List.length_drop];omega
   rw[Iy d l [] hd,← Tm d k _ h3]
   simp only[Bj,Ed]
   rw[← h1,List.range_succ_eq_map,List.map_cons,List.map_map,List.cons_append,List.nil_append,Jt]
   congr 2
   apply List.map_congr_left
   intro j _
   show mkT (Jv d l (j+1))=_
   rw[Jv,Jv,Jt]
  ·have h1:l.count d=0:=List.count_eq_zero.2 hd
   rw[Iz d l [] hd]
   simp[Bj,Ed,h1,Bo]
theorem Tl (d:UInt8) (s:ByteArray):Bj d s=Dz d [] s.data.toList:=by
 rw[← Tm d _ _ (Nat.le_refl _),Ec]
def digI (c:UInt8):Int:=if 48≤c.toNat∧c.toNat≤57 then (c.toNat:Int)-48 else if 97≤c.toNat∧c.toNat≤102 then (c.toNat:Int)-87 else 16
theorem Qa (c:UInt8):0≤digI c∧digI c≤16:=by
 unfold digI
 split
 ·omega
 split
 ·omega
 ·omega
end Go.Sy.YtjenpnjajjplkaaGreatDoor
namespace Go.Sy
open Go.RowKit
def Z8 {β:Type} (T:Nat→Prop) (J:β→World→Prop):Prop :=
 ∀ s W W' row,J s W→W.grownBy W' row→(∀ r,row=some r→T r)→J s W'
def OwnT {β:Type} (B:Nat) (T:Nat→Prop) (I:β→World→Prop):Prop :=
 ∀ s W W' row,I s W→W.grownBy W' row→(∀ r,row=some r→T r∨(B≤r∧∃ o:Obj,W.heap[r]? = some o∧o.isCells=false))→I s W'
theorem OwnT.putObj {β:Type} {B:Nat} {T:Nat→Prop} {I:β→World→Prop} (h:OwnT B T I) {s:β} {W:World} {l:Nat} {o:Obj} (o':Obj) (hs:I s W) (hB:B≤l) (hl:W.heap[l]? = some o) (ho:o.isCells=false):I s (W.putObj l o') :=
 h s W _ _ hs (grownBy_putObj' W l o') (fun r e=>by cases e;exact .inr ⟨hB,o,hl,ho⟩)
theorem OwnT.alloc {β:Type} {B:Nat} {T:Nat→Prop} {I:β→World→Prop} (h:OwnT B T I) {s:β} {W:World} (o:Obj) (hs:I s W):I s (W.alloc o) :=
 h s W _ none hs ⟨rfl,rfl,rfl,by simp,fun k hk _=>Below.heap_alloc _ _ _ hk⟩ (fun r e=>by cases e)
def Uc {α:Type} (F:Fence) (n:Nat) (P:Program) (g:Nat) (lb:Array Value) (encs:α→Array Value) (T:Nat→Prop) (Kp:World→World→Prop) (S Sp:List α→Prop) (N:Nat) (w:World):Prop :=
 ∀ (l:Nat) (J Jx:List α→World→Prop) (W:World),Below w.heap.size w W→Z8 T J→Z8 T Jx →
  (∀ pre x W1,J pre W1→pre.length<N→YieldAt F (n-1) P l (encs x) W1 fun e W' =>
   (e=.returned (.bool true)∧J (pre++[x]) W'∧Kp W1 W')∨(e=.returned (.bool false)∧Jx (pre++[x]) W')) →
  J [] W →
  CallsIn F n P g (#[.func (.yield l) #[] #[]]++lb) W fun e W'=>(∃ v,e=.returned v)∧((∃ xs,S xs∧J xs W')∨(∃ pre,Sp pre∧Jx pre W'))
theorem H7 {A B:World} {T:Nat→Prop} {row:Option Nat} {k:Nat} {o:Obj} (hg:A.grownBy B row) (hr:∀ r,row=some r→T r) (hk:¬ T k) (h:A.heap[k]? = some o):B.heap[k]? = some o:=by
 obtain ⟨_,_,_,_,h5⟩:=hg
 exact(h5 k (Array.getElem?_eq_some_iff.1 h).1 (fun e=>hk (hr k e.symm))).trans h
variable {F:Fence} {n:Nat} {P:Program}
theorem Kk {α:Type} {g:Operand} {ps:Array Tmp} {assign body:Code} {Q:Exit→Act→World→Prop} {a:Act} {w:World}
  (hro:F.round=none) (h1:1≤n) {gf:Nat} {lb:Array Value} (hg:a.eval g=.func (.func gf) #[] lb) (hFg:F.fn gf) (eg:∀ args w,(callFunc gf args).run P w=.ok (.enter gf args) w)
  {encs:α→Array Value} {T:Nat→Prop} {Kp:World→World→Prop} {S Sp:List α→Prop} {N:Nat} {w0:World} (hseq:Uc F (n-1) P gf lb encs T Kp S Sp N w0) (hT:∀ b,T b→b<w.heap.size)
  (hKt:∀ {A B C:World},Kp A B→Kp B C→Kp A C) (hKb:∀ (W:World) (l:Nat) (o o':Obj),w.heap.size≤l→W.heap[l]? = some o→o.isCells=false→o.isWalk=false→Kp W (W.putObj l o')) (hb0:Below w0.heap.size w0 w) (hps:∀ x,(encs x).size=ps.size)
  (I:List α→World→Prop) (Ix:Code→List α→World→Prop) (hI:OwnT w.heap.size T I) (hIx:∀ c,OwnT w.heap.size T (Ix c)) (h0:I [] w) (a₁:α→Act)
  (hassign:∀ (l:Nat) (x:α) (W:World) (K:Act→World→Prop),K (a₁ x) W →
   assign.wpIn (F.inRound l) (n-1-1) P (Exit.then K (fun _ _ _=>False)) { tmps:=(ps.zip (encs x)).foldl (fun t (p,v)=>t.setIfInBounds p v) a.tmps,defers:=[] } W)
  (hbody:∀ (l:Nat) (pre:List α) (x:α) (W:World),I pre W→pre.length<N→body.wpIn (F.inRound l) (n-1-1) P (ownPostK Kp I Ix (pre++[x]) W) (a₁ x) W)
  (hdone:∀ (D:Nat) (xs:List α) (W:World),w.heap.size≤D→S xs→I xs W→W.heap[D]? = some (.deferred (some []))→Q .normal { a with defers:={ target:=.collected D,args:=#[] }::a.defers } W)
  (hstop:∀ (D:Nat) (c:Code) (pre:List α) (W:World),w.heap.size≤D→Sp pre→Ix c pre W→W.heap[D]? = some (.deferred (some []))→c.wpIn F n P Q { a with defers:={ target:=.collected D,args:=#[] }::a.defers } W) :
  (Code.rangeFunc g ps assign body).wpIn F n P Q a w:=by
 refine wpIn_rangeFunc ?_
 intro fn hfn
 rw[hro]
 obtain ⟨rec,hrec⟩:∃ rec:LoopState→Option Code→Loop,rec=fun st pe=>{ state:=st,pending:=pe,fn,tmps:=a.tmps,params:=ps,assign,body,defers:=w.heap.size }:=⟨_,rfl⟩
 obtain ⟨W1,hW1⟩:∃ W1,(w.alloc (.deferred (some []))).alloc (.loop (rec .ready none))=W1:=⟨_,rfl⟩
 have hL1:W1.heap[w.heap.size+1]? = some (.loop (rec .ready none)):=by
  rw[← hW1];have:=World.alloc_heap_new (w.alloc (.deferred (some []))) (.loop (rec .ready none));rwa [World.size_alloc]at this
 have hK1:W1.heap[w.heap.size]? = some (.deferred (some [])):=by
  rw[← hW1];exact(Below.heap_alloc _ _ _ y_).trans (World.alloc_heap_new w _)
 have hI1:I [] W1:=by rw[← hW1];exact hI.alloc _ (hI.alloc _ h0)
 have hb1:Below w0.heap.size w0 W1:=by
  rw[← hW1];exact hb0.trans ((((Below.refl _ w).alloc (Nat.le_refl _) _).alloc y_ _).mono hb0.size)
 have nT:∀ k,w.heap.size≤k→¬ T k:=fun k hk h=>Nat.lt_irrefl _ (Nat.lt_of_lt_of_le (hT k h) hk)
 refine⟨w.heap.size+1,[{ target:=.collected w.heap.size,args:=#[] }],W1,{ target:=.fn (.func gf) lb,args:=#[.func (.yield (w.heap.size+1)) #[] #[]] },W1,gf,
  #[.func (.yield (w.heap.size+1)) #[] #[]]++lb,W1,?_,?_,?_,?_,fun _=>h1,?_⟩
 ·rw[← hW1,hrec];exact run_enterLoop_outer _ _ _ _ _
 ·simp only[resolve,hg]
  simp[go_sem]
 ·intro f' hf';simp[Target.leads]at hf';subst hf';exact hFg
 ·simp[invoke,go_sem,eg]
 ·refine(hseq (w.heap.size+1)
   (fun pre W=>I pre W∧W.heap[w.heap.size+1]? = some (.loop (rec .ready none))∧W.heap[w.heap.size]? = some (.deferred (some [])))
   (fun pre W=>∃ c,Ix c pre W∧W.heap[w.heap.size+1]? = some (.loop (rec .done (some c)))∧W.heap[w.heap.size]? = some (.deferred (some [])))
   W1 hb1
   (fun s A B row hs hg' hr=>⟨hI s A B row hs.1 hg' (fun r e=>.inl (hr r e)),H7 hg' hr (nT _ q_) hs.2.1,H7 hg' hr (nT _ q_) hs.2.2⟩)
   (fun s A B row hs hg' hr=>by
    obtain ⟨c,hc,hl,hk⟩:=hs
    exact⟨c,hIx c s A B row hc hg' (fun r e=>.inl (hr r e)),H7 hg' hr (nT _ q_) hl,H7 hg' hr (nT _ q_) hk⟩)
   ?_ ⟨hI1,hL1,hK1⟩).mono ?_
  ·rintro pre x W ⟨hi,hl,hk⟩ hlen
   have hlt:w.heap.size+1<W.heap.size:=(Array.getElem?_eq_some_iff.1 hl).1
   have hy:=run_yield (P:=P) (args:=encs x) hl (by rw[hrec];exact hps x)
   rw[hrec]at hy
   refine⟨fn,_,assign,body,hy,roundIn_of_wpIn hfn (hassign _ x W _ ⟨_,run_beginRound hl (by rw[hrec]),?_⟩)⟩
   have hl2:(W.putObj (w.heap.size+1) (.loop { rec .ready none with state:=.busy })).heap[w.heap.size+1]? = some (.loop { rec .ready none with state:=.busy }):=World.putObj_heap_same hlt
   have hk2:(W.putObj (w.heap.size+1) (.loop { rec .ready none with state:=.busy })).heap[w.heap.size]? = some (.deferred (some [])):=(World.putObj_heap_other q_).trans hk
   have hw2:Kp W (W.putObj (w.heap.size+1) (.loop { rec .ready none with state:=.busy })):=hKb _ _ _ _ q_ hl rfl rfl
   refine wpIn_mono (hbody _ pre x _ (hI.putObj _ hi (Nat.le_succ _) hl E) hlen) ?_
   have fin:∀ (jump:Option Code) (W3:World),KeepsOthers (W.putObj (w.heap.size+1) (.loop { rec .ready none with state:=.busy })) W3 →
     (Instr.endRound (w.heap.size+1) jump).run P W3=.ok (.bool jump.isNone) (W3.putObj (w.heap.size+1) (.loop (rec (if jump.isNone then .ready else .done) jump))) ∧
     W3.heap[w.heap.size+1]? = some (.loop { rec .ready none with state:=.busy }) ∧
     (W3.putObj (w.heap.size+1) (.loop (rec (if jump.isNone then .ready else .done) jump))).heap[w.heap.size+1]? = some (.loop (rec (if jump.isNone then .ready else .done) jump)) ∧
     (W3.putObj (w.heap.size+1) (.loop (rec (if jump.isNone then .ready else .done) jump))).heap[w.heap.size]? = some (.deferred (some [])):=fun jump W3 hk3=>by
    have hl3:=hk3.same _ _ hl2 rfl
    have:=run_endRound (P:=P) jump hl3
    rw[hrec]at this ⊢
    exact⟨this,by rw[hrec]at hl3;exact hl3,World.putObj_heap_same (Array.getElem?_eq_some_iff.1 hl3).1,(World.putObj_heap_other q_).trans (hk3.same _ _ hk2 E)⟩
   rintro e a3 W3 hp
   cases e with
   | normal =>
    obtain ⟨hk3,hkp3,hi3⟩:=hp
    obtain ⟨hr,hl3,hl4,hk4⟩:=fin none W3 hk3
    exact⟨_,_,hr,.inl ⟨E,⟨hI.putObj _ hi3 (Nat.le_succ _) hl3 E,hl4,hk4⟩,hKt (hKt hw2 hkp3) (hKb _ _ _ _ q_ hl3 E E)⟩⟩
   | ret =>
    obtain ⟨hk3,hi3⟩:=hp
    obtain ⟨hr,hl3,hl4,hk4⟩:=fin (some .ret) W3 hk3
    exact⟨_,_,hr,.inr ⟨E,.ret,(hIx _).putObj _ hi3 (Nat.le_succ _) hl3 E,hl4,hk4⟩⟩
   | exit id =>
    obtain ⟨hk3,hi3⟩:=hp
    obtain ⟨hr,hl3,hl4,hk4⟩:=fin (some (.exit id)) W3 hk3
    exact⟨_,_,hr,.inr ⟨E,.exit id,(hIx _).putObj _ hi3 (Nat.le_succ _) hl3 E,hl4,hk4⟩⟩
   | goto t =>
    obtain ⟨hk3,hi3⟩:=hp
    obtain ⟨hr,hl3,hl4,hk4⟩:=fin (some (.goto t)) W3 hk3
    exact⟨_,_,hr,.inr ⟨E,.goto t,(hIx _).putObj _ hi3 (Nat.le_succ _) hl3 E,hl4,hk4⟩⟩
   | panic ch=>exact hp.elim
   | outgrown=>exact hp.elim
  ·rintro e W2 ⟨⟨v,rfl⟩,(⟨xs,hS,hi,hl,hk⟩ | ⟨pre,hSp,c,hi,hl,hk⟩)⟩
   ·exact⟨none,_,by have:=run_endLoop (P:=P) hl (by rw[hrec];simp);rw[hrec]at this;exact this,hdone _ xs _ (Nat.le_refl _) hS (hI.putObj _ hi (Nat.le_succ _) hl E) ((World.putObj_heap_other q_).trans hk)⟩
   ·exact⟨some c,_,by have:=run_endLoop (P:=P) hl (by rw[hrec];simp);rw[hrec]at this;exact this,hstop _ c pre _ (Nat.le_refl _) hSp ((hIx c).putObj _ hi (Nat.le_succ _) hl E) ((World.putObj_heap_other q_).trans hk)⟩
end Go.Sy
namespace Go.Proofs
open Go.RowKit Go.Shelf Go.Sy Go.Sy.YtjenpnjajjplkaaGreatDoor
attribute [local go_sem] Oper.semAt_some
structure SeqBox (W:World) (bp bs bv:Nat) (t:ByteArray):Prop where
 p:W.cell? ⟨bp,0,none⟩=some (.string ⟨#[46]⟩)
 s:W.cell? ⟨bs,0,none⟩=some (.string t)
 v:W.cell? ⟨bv,0,none⟩=some (.int .i64 0)
 f:W.frozen? ⟨bs,0,none⟩=false
def Adv (bp bs bv:Nat) (W W':World):Prop:=W'.heap[bp]? = W.heap[bp]? ∧ W'.heap[bs]? = W.heap[bs]? ∧ W'.heap[bv]? = W.heap[bv]?
theorem SeqBox.keep {W W':World} {bp bs bv:Nat} {t:ByteArray} (h:SeqBox W bp bs bv t) (k:Adv bp bs bv W W'):SeqBox W' bp bs bv t :=
 ⟨(World.cell?_of_block k.1).trans h.p,(World.cell?_of_block k.2.1).trans h.s,(World.cell?_of_block k.2.2).trans h.v,by
  have:W'.frozen? ⟨bs,0,none⟩=W.frozen? ⟨bs,0,none⟩:=by unfold World.frozen?;rw[k.2.1]
  rw[this];exact h.f⟩
theorem Wo:∀ {l:List UInt8} {c:UInt8},c∉l→Lib.indexByte l c=-1
 | [],_,_=>rfl
 | b::l,c,h=>by
  simp only[List.mem_cons,not_or]at h
  rw[Lib.indexByte,if_neg (by simpa using Ne.symm h.1),Wo h.2]
  rfl
def Acy (bs:Nat) (W:World):Nat:=match W.cell? ⟨bs,0,none⟩ with | some (.string t)=>t.size | _=>0
set_option maxRecDepth 100000 in
set_option maxHeartbeats 4000000 in
theorem Tryz.split_stops (s:ByteArray) (hs:s.size<100000) (n:Nat) (hn:1≤n) (bp bs bv:Nat) (hd:bp≠bs∧bv≠bs) (w:World) (hw:SeqBox w bp bs bv s) (hlt:bp<w.heap.size∧bs<w.heap.size∧bv<w.heap.size) :
  Uc Fence.wide n Tryz.prog 423 #[.pointer (some ⟨bp,0,none⟩),.pointer (some ⟨bs,0,none⟩),.pointer (some ⟨bv,0,none⟩)] (fun x:ByteArray=>#[.string x]) (fun b=>b=bs) (Adv bp bs bv)
   (fun xs=>xs=Bj 46 s) (fun pre=>pre <+: Bj 46 s) (Bj 46 s).length w:=fun l J Jx W hW hJ hJx hY h0=>by
 refine callsIn_of_wp Tryz.func423 E Y ?_ E
 simp only[Tryz.ntmps423,List.size_toArray,List.length_cons,List.length_nil,Nat.reduceAdd,Nat.reduceSub,Array.replicate_succ,Array.replicate_zero,List.push_toArray,List.append_toArray,List.nil_append,List.cons_append]
 have hW0:SeqBox W bp bs bv s:=hw.keep ⟨hW.block _ hlt.1,hW.block _ hlt.2.1,hW.block _ hlt.2.2⟩
 have c1:=hW0.p
 have c2:=hW0.s
 have c3:=hW0.v
 gi_wp2
 gi_loopw [] (fun wr=>∃ j:Nat,j≤Za 46 s∧SeqBox wr bp bs bv (mkT (Bo 46 s.data.toList j))∧J ((Bj 46 s).take j) wr) (fun wr=>Acy bs wr)
 case atStart =>
  exact⟨0,Nat.zero_le _,by rw[Bo,Ec];exact hW0,h0⟩
 case round =>
  obtain ⟨j,hj,hb,hJj⟩:=hrel
  have d1:=hb.p
  have d2:=hb.s
  have d3:=hb.v
  have hlr:=Vz 46 s.data.toList j
  have hsz:s.data.toList.length=s.size:=rfl
  have hwl:=Es 46 s
  have hsm:=Dk (Bo 46 s.data.toList j)
  by_cases hlt:j<Za 46 s
  ·have hi:=D5 (Yg hlt)
   obtain ⟨m,hm'⟩:∃ m:Nat,Lib.indexByte (Bo 46 s.data.toList j) 46=m:=⟨(Lib.indexByte (Bo 46 s.data.toList j) 46).toNat,by omega⟩
   have q:=Tryz.strings_Index_one (mkT (Bo 46 s.data.toList j)) 46 wr
   rw[Ed,hm']at q
   rw[hm',Int.toNat_natCast]at hi
   have hpm:=Acc (c:=46) (s:=s) (j:=j) hm'
   have hqm:=Ad5 (c:=46) (s:=s) (j:=j) hm'
   have hget:(Bj 46 s)[j]? = some (mkT (Jv 46 s.data.toList j)):=by
    have hlt':j<s.data.toList.count 46:=hlt
    rw[Bj,List.getElem?_append_left (by rw[List.length_map,List.length_range];exact hlt'),List.getElem?_map,List.getElem?_range hlt']
    rfl
   have hx:(mkT (Bo 46 s.data.toList j)).extract 0 m=mkT (Jv 46 s.data.toList j):=by
    rw[Ck,hpm];simp
   have hx2:(mkT (Bo 46 s.data.toList j)).extract (m+1) (mkT (Bo 46 s.data.toList j)).size=mkT (Bo 46 s.data.toList (j+1)):=by
    rw[Ck,hqm,hsm,List.take_length]
   have htk:(Bj 46 s).take j++[mkT ((Bo 46 s.data.toList j).take m)]=(Bj 46 s).take (j+1):=by
    rw[List.take_add_one,hget,hpm];rfl
   obtain ⟨fn,tmps,assign,body,hy,hR⟩:=hY _ (mkT ((Bo 46 s.data.toList j).take m)) wr hJj (by rw[List.length_take];omega)
   rw[htk]at hR
   gi_wp2
   refine⟨Y,?_⟩
   refine(callsIn_wide.2 q).mono ?_
   rintro e w' ⟨rfl,rfl⟩
   gi_wp2
   refine hR.mono ?_
   rintro e W' (⟨rfl,hJ',hk⟩ | ⟨rfl,hJx'⟩)
   ·have hb':=hb.keep hk
    have d1:=hb'.p
    have d2:=hb'.s
    have d3:=hb'.v
    have d4:=hb'.f
    have hsm1:(mkT (Bo 46 s.data.toList (j+1))).size+(m+1)=(mkT (Bo 46 s.data.toList j)).size:=by
     rw[hsm,Dk,hqm,List.length_drop];omega
    rw[hsm]at hx2
    gi_wp2
    rw[← hqm]
    have e2:(W'.setCell ⟨bs,0,none⟩ (.string (mkT (Bo 46 s.data.toList (j+1))))).cell? ⟨bs,0,none⟩=some (.string (mkT (Bo 46 s.data.toList (j+1)))):=World.cell?_setCell_same' _ _ _ (by rw[d2];rfl)
    refine⟨⟨j+1,hlt,⟨?_,e2,?_,?_⟩,hJ _ _ _ (some bs) hJ' (grownBy_setCell' _ _ _) (fun r e=>by cases e;rfl)⟩,?_⟩
    ·rw[World.cell?_setCell_other _ _ _ _ (by intro e;cases e;exact hd.1 rfl)];exact d1
    ·rw[World.cell?_setCell_other _ _ _ _ (by intro e;cases e;exact hd.2 rfl)];exact d3
    ·rw[World.frozen?_setCell];exact d4
    ·unfold Acy
     rw[e2,hb.s]
     simp only
     omega
   ·gi_wp2
    refine bodyPost_ret (results_none E _ _ _) E ?_
    exact⟨⟨_,E⟩,.inr ⟨_,List.take_prefix _ _,hJx'⟩⟩
  ·have hje:j=Za 46 s:=by omega
   have hno:(46:UInt8)∉Bo 46 s.data.toList j:=by
    have:=Lf 46 s.data.toList j hj
    have e:Za 46 s=s.data.toList.count 46:=rfl
    exact List.count_eq_zero.1 Go.Sy.q_
   have q:=Tryz.strings_Index_one (mkT (Bo 46 s.data.toList j)) 46 wr
   rw[Ed,Wo hno]at q
   have hget:(Bj 46 s)[j]? = some (mkT (Bo 46 s.data.toList j)):=by
    rw[hje,Bj,List.getElem?_append_right (by simp[Za])]
    simp[Za]
   have htk:(Bj 46 s).take j++[mkT (Bo 46 s.data.toList j)]=Bj 46 s:=by
    have:(Bj 46 s).take (j+1)=Bj 46 s:=List.take_of_length_le Go.Sy.q_
    rw[List.take_add_one,hget]at this
    exact this
   have hlen:((Bj 46 s).take j).length<(Bj 46 s).length:=by rw[List.length_take];omega
   clear hje
   obtain ⟨fn,tmps,assign,body,hy,hR⟩:=hY _ (mkT (Bo 46 s.data.toList j)) wr hJj hlen
   rw[htk]at hR
   gi_wp2
   refine⟨Y,?_⟩
   refine(callsIn_wide.2 q).mono ?_
   rintro e w' ⟨rfl,rfl⟩
   gi_wp2
   refine hR.mono ?_
   rintro e W' (⟨rfl,hJ',hk⟩ | ⟨rfl,hJx'⟩)
   ·gi_wp2
    go_end0
    exact⟨⟨_,E⟩,.inl ⟨_,E,hJ'⟩⟩
   ·gi_wp2
    go_end0
    exact⟨⟨_,E⟩,.inr ⟨_,List.prefix_rfl,hJx'⟩⟩
end Go.Proofs
namespace Go.Sy
theorem U7 (w:World) {b:Nat} {cs:Array Value} {T:TypeId} {fr:Nat × Nat} (h:w.heap[b]? = some (.cells cs T fr)) (n:Nat) :
  (w.freeze ⟨b,n,none⟩ 1).heap[b]? = some (.cells cs T (if fr.1 == fr.2 then (n,n+1) else (min fr.1 n,max fr.2 (n+1))))∧(w.freeze ⟨b,n,none⟩ 1).os=w.os∧(w.freeze ⟨b,n,none⟩ 1).tape=w.tape∧(w.freeze ⟨b,n,none⟩ 1).output=w.output ∧
   (w.freeze ⟨b,n,none⟩ 1).heap.size=w.heap.size∧∀ i,i≠b→(w.freeze ⟨b,n,none⟩ 1).heap[i]? = w.heap[i]?:=by
 unfold World.freeze
 rw[if_neg j_]
 refine⟨?_,E,E,E,by simp,fun i hi=>?_⟩
 ·simp[Array.getElem?_modify,h]
 ·simp[Array.getElem?_modify,Ne.symm hi]
theorem H8 {P:Program} (Γ:Ty P) {o:Oper} {s:SS} {t:TypeId} {ti ei:TI} {x:Operand} {et:TypeId} {sz eb k:Nat} {ez:List Value} {svs:List SV} (h:o.op=.convert t t x)
  (ht:Γ.get t=some ti) (hk:ti.k=.slice et sz eb ez) (he:Γ.get et=some ei) (hek:ei.k=.int .u8) (hx:ev s x=.osl k) (hl:s.h k=.lit sz svs):Good P o s ⟨.osl k,[],[(k,.lit sz svs)]⟩:=by
 intro κ a w hi hr ho N Q hN
 have h1:=hr x (by simp[h,Op.operands])
 have h3:=ho k (.inr (by simp[Up.ws]))
 rw[hl]at h3
 rw[hx]at h1
 obtain ⟨b,cap,cs,T,fr,f1,f2,f3,f4,f5,f6⟩:=h3
 simp only[Rd,f1]at h1
 obtain ⟨hu,_⟩:=Dh Γ ht hk
 have he':=Tw Γ he hek
 obtain ⟨q1,q2,q3,q4,q5,q6⟩:=U7 w f2 cs.length
 have hsh:w.shape? b=some (T,cs.length):=by
  unfold World.shape?
  rw[f2]
  simp
 have hrun:(execOp a.eval o).run P w=.ok (.value (.slice (some ⟨b,0,none⟩) svs.length cap)) (w.freeze ⟨b,cs.length,none⟩ 1):=by
  simp[execOp,h,h1,convert,run_underlying hu,run_underlying he',markStringish,hsh]
 simp only[Oper.wp,hrun,Oper.upon]
 obtain ⟨st,inv⟩:=Iw hi (k:=k) (b:=b) (by rw[f1];rfl) q2 q3 q4 q5 q6
 refine hN _ κ _ (st.weaken (by simp[Up.ws])) inv (by simp[Rd,f1]) (fun p hp=>?_)
 simp only[List.mem_singleton]at hp
 subst hp
 refine⟨b,cap,cs,T,_,f1,q1,?_,f4,f5,fun i x hx=>?_⟩
 ·rcases f3 with h0 | h0
  ·rw[if_pos (by simpa using h0)];exact .inr (Nat.le_refl _)
  ·split
   ·exact .inr (Nat.le_refl _)
   ·exact .inr (by simp only;omega)
 obtain ⟨g0,u,g1,g2,g3,g4⟩:=f6 i x hx
 exact⟨g0,u,RdD.keep st.keeps _ _ g1,g2,g3,g4⟩
end Go.Sy
namespace Go.Sy
open Go.ChangeShapes Go.WideShapes Go.ChangeAt Go.RowKit
def κ0:Ka:=⟨fun _=>.new,fun _=>False⟩
theorem inv0 (w:World):Inv κ0 w :=
 ⟨fun i j b h=>(by cases h),fun k b h=>(by cases h),fun k b h=>(by cases h),fun b h=>False.elim h⟩
theorem Mc {w w':World} {κ':Ka} (c:Ctx ⟨w,κ0,[]⟩ κ' w'):Below w.heap.size w w' :=
 ⟨c.os,c.tape,c.output,c.size,fun k hk=>c.old k hk (fun j h=>by cases h)⟩
section
variable {H:Type} {enc:TypeId × Value→H} {P:Program}
theorem Kt {W W':World} (hl:laidOutB P=true) (hb:Below W.heap.size W W'):∀ {ts:List TypeId} {vs:List Value} {ds:List (DataW H)} {ps:List MemPlace},(∀ t∈ts,P.readableRec t=true∧t<P.types.size) →
  (∀ x∈ps,x.block<W.heap.size)→DataW.TrodAll enc P W 0 (fun _=>true) true ts vs ds ps→DataW.TrodAll enc P W' 0 (fun b=>decide (b<W.heap.size)) true ts vs ds ps
 | [],_,_,_,_,_,h=>by
  obtain ⟨rfl,rfl,rfl⟩:=trodAll_nil h
  rfl
 | t::ts,_,_,_,ht,hp,h=>by
  obtain ⟨v,vs,d,ds,p,q,rfl,rfl,rfl,h1,h2⟩:=trodAll_cons h
  have:=ht t y_
  exact⟨p,q,Below.trod hl this.1 this.2 h1 hb (fun x hx=>hp x (by simp[hx])),Kt hl hb (fun t h=>ht t (by simp[h])) (fun x hx=>hp x (by simp[hx])) h2,E⟩
theorem Aa6 {f:FuncId} {fn:Func} {s:ChangeSpec} {W:World} {args:Array Value} {ds gs:List (DataW H)} {before:List MemPlace} {tb:TypeId} {A:List SV} (hv:s.vars=[]) (hl:laidOutB P=true)
  (hW:DataW.Whole enc P fn.params.toList s.vars false W args.toList ds gs before) (hts:∀ t∈fn.params.toList,P.readableRec t=true∧t<P.types.size) (hrt:fn.resultTypes=#[tb]) (hbt:P.underlying tb=some .bool)
  (hfn:∀ gs:List (DataW H),gs=[]→s.fn H (ds++gs)={ results:=[.lit (.bool true)],args:=ds }) (hA:RdL κ0 W A args.toList) (hs:Sy.Spec P f A [] (Ab true) []) :
  Calls P f args W fun e W'=>∃ v,e=.returned v∧s.post enc P fn false true false false W args v W':=by
 have hc:=hs κ0 W args.toList (inv0 W) (fun k hk=>absurd rfl hk) hA (fun p hp=>by cases hp)
 simp only[Array.toArray_toList]at hc
 refine hc.mono ?_
 rintro e W' ⟨v,κ',rfl,ctx,inv,hR,_⟩
 have hvv:v=.bool true:=by simpa [Ab,Rd] using hR
 subst hvv
 have hb:=Mc ctx
 have hW':=hW
 obtain ⟨p,q,h1,h2,h3,h4,h5⟩:=hW
 have hgs:gs=[]∧q=[]:=by
  rw[hv]at h2
  exact trodVars_none h2
 obtain ⟨rfl,rfl⟩:=hgs
 rw[List.append_nil]at h3
 subst h3
 have hlt:∀ x∈before,x.block<W.heap.size:=fun x hx=>by simpa using hW'.lt x hx
 refine⟨_,rfl,ds,[],before,[],before,[],hW',?_,?_,?_,?_,fun h=>by cases h⟩
 ·rw[hfn [] rfl,hrt]
  exact trodAll_mk1 (shut_bool hbt true)
 ·rw[hfn [] rfl]
  exact Kt hl hb hts hlt h1
 ·rw[hv,hfn [] rfl]
  rfl
 ·exact hb.frame _
end
end Go.Sy
namespace Go.Sy
open Go.RowKit
theorem Spec.calls {P:Program} {f:FuncId} {A:List SV} {R:SV} (h:Sy.Spec P f A [] R []) {w:World} {vs:List Value} (hA:RdL κ0 w A vs) :
  Calls P f vs.toArray w fun e w'=>∃ v κ',e=.returned v∧Rd κ' w' R v∧Below w.heap.size w w':=by
 refine(h κ0 w vs (inv0 w) (fun k hk=>absurd rfl hk) hA (fun p hp=>by cases hp)).mono ?_
 rintro e w' ⟨v,κ',rfl,ctx,inv,hR,_⟩
 exact⟨v,κ',E,hR,Mc ctx⟩
theorem Spec.calls_tup2 {P:Program} {f:FuncId} {A:List SV} {a b:Value} (h:Sy.Spec P f A [] (.tup [.val a,.val b]) []) {w:World} {vs:List Value} (hA:RdL κ0 w A vs) :
  Calls P f vs.toArray w fun e w'=>e=.returned (.tuple #[a,b])∧Below w.heap.size w w' :=
 (h.calls hA).mono fun e w' ⟨v,κ',he,hv,hb⟩=>by
  simp only[Rd,RdL]at hv
  obtain ⟨cs,rfl,_,_,rfl,rfl,_,_,rfl,rfl,rfl⟩:=hv
  exact⟨he,hb⟩
theorem Spec.of_calls2 {P:Program} {f:FuncId} {A:List SV} {H:Obs} {a b:Value}
  (h:∀ (κ:Ka) (w:World) (vs:List Value),Inv κ w→RdL κ w A vs→H.ok κ w→Calls P f vs.toArray w fun e w'=>e=.returned (.tuple #[a,b])∧Below w.heap.size w w'):Spec P f A H (.tup [.val a,.val b]) H:=by
 intro κ w vs hi _ hr ho
 refine(h κ w vs hi hr ho).mono fun e w' hw=>?_
 obtain ⟨he,hw⟩:=hw
 have g:Grew w w':=⟨hw.os,hw.tape,hw.output,hw.size,hw.block⟩
 have st:=Tk hi g
 exact⟨.tuple #[a,b],κ,he,(Ctx.refl κ w).step st.2 st.1,st.2,by simp[Rd,RdL],fun p hp=>ObOK.step st.1 y_ p.2 (ho p hp)⟩
theorem Q3 {w w':World} (h:Below w.heap.size w w'):KeepsOthers w w':=⟨h.size,fun k o hk _=>(h.block k (Array.getElem?_eq_some_iff.1 hk).1).trans hk⟩
theorem Sl {A B:World} {row:Option Nat} {k:Nat} {v:Value} (h:A.cell? ⟨k,0,none⟩=some v) (hg:A.grownBy B row) (hr:row≠some k):B.cell? ⟨k,0,none⟩=some v∧B.frozen? ⟨k,0,none⟩=A.frozen? ⟨k,0,none⟩:=by
 obtain ⟨o,ho,_⟩:=cells_of_cell h
 obtain ⟨_,_,_,_,h5⟩:=hg
 have e:B.heap[k]? = A.heap[k]?:=h5 k (Array.getElem?_eq_some_iff.1 ho).1 (fun e=>hr e.symm)
 refine⟨(World.cell?_of_block e).trans h,?_⟩
 unfold World.frozen?
 rw[e]
def Var1 (W:World) (k:Nat) (v:Value):Prop:=W.cell? ⟨k,0,none⟩=some v∧W.frozen? ⟨k,0,none⟩=false
theorem Var1.at {W:World} {B:Nat} {v:Value} {t:TypeId} (h:W.heap[B]? = some (.cells #[v] t (0,0))):Var1 W B v:=by
 constructor<;>simp[World.cell?,World.frozen?,h]
theorem Var1.below {A B:World} {k:Nat} {v:Value} (h:Var1 A k v) (hb:Below A.heap.size A B):Var1 B k v:=by
 obtain ⟨o,ho,_⟩:=cells_of_cell h.1
 have e:B.heap[k]? = A.heap[k]?:=hb.block k (Array.getElem?_eq_some_iff.1 ho).1
 refine⟨(World.cell?_of_block e).trans h.1,?_⟩
 rw[← h.2]
 unfold World.frozen?
 rw[e]
theorem Var1.new (W:World) (v:Value) (t:TypeId) {k:Nat} (hk:k=W.heap.size):Var1 (W.alloc (.cells #[v] t)) k v:=by
 subst hk
 exact Var1.at (World.alloc_heap_new W _)
theorem Var1.grown {A B:World} {row:Option Nat} {k:Nat} {v:Value} (h:Var1 A k v) (hg:A.grownBy B row) (hr:row≠some k):Var1 B k v :=
 ⟨(Sl h.1 hg hr).1,(Sl h.1 hg hr).2.trans h.2⟩
theorem Var1.alloc {A:World} {k:Nat} {v:Value} (h:Var1 A k v) (o:Obj):Var1 (A.alloc o) k v:=h.grown (World.grownBy_alloc A o none) y_
theorem Var1.set {A:World} {k:Nat} {v:Value} (h:Var1 A k v) (u:Value):Var1 (A.setCell ⟨k,0,none⟩ u) k u :=
 ⟨World.cell?_setCell_same' _ _ _ (by rw[h.1];rfl),by rw[World.frozen?_setCell];exact h.2⟩
theorem Var1.other {A:World} {k b:Nat} {v:Value} (h:Var1 A k v) (hb:b≠k) (u:Value):Var1 (A.setCell ⟨b,0,none⟩ u) k v :=
 ⟨(World.cell?_setCell_other _ _ _ _ (by intro e;cases e;exact hb rfl)).trans h.1,by rw[World.frozen?_setCell];exact h.2⟩
end Go.Sy
namespace Go.Proofs
open Go.RowKit Go.Shelf Go.Sy Go.Sy.YtjenpnjajjplkaaGreatDoor
attribute [local go_sem] Oper.semAt_some
theorem Tryz.splitSeq_calls (s:ByteArray) (w:World):Calls Tryz.prog 303 #[.string s,.string ⟨#[46]⟩] w fun e w' =>
  e=.returned (.func (.func 423) #[] #[.pointer (some ⟨w.heap.size+1,0,none⟩),.pointer (some ⟨w.heap.size,0,none⟩),.pointer (some ⟨w.heap.size+2,0,none⟩)]) ∧
   w'=((w.alloc (.cells #[.string s] 9)).alloc (.cells #[.string ⟨#[46]⟩] 9)).alloc (.cells #[.int .i64 0] 3):=by
 have q:Calls Tryz.prog 367 #[.string s,.string ⟨#[46]⟩,.int .i64 0] w fun e w' =>
  e=.returned (.func (.func 423) #[] #[.pointer (some ⟨w.heap.size+1,0,none⟩),.pointer (some ⟨w.heap.size,0,none⟩),.pointer (some ⟨w.heap.size+2,0,none⟩)]) ∧
   w'=((w.alloc (.cells #[.string s] 9)).alloc (.cells #[.string ⟨#[46]⟩] 9)).alloc (.cells #[.int .i64 0] 3):=by
  refine(callsIn_wide (n:=3)).1 ?_
  refine callsIn_of_wp Tryz.func367 E Y ?_ E
  simp only[Tryz.ntmps367,List.size_toArray,List.length_cons,List.length_nil,Nat.reduceAdd,Nat.reduceSub,Array.replicate_succ,Array.replicate_zero,List.push_toArray,List.append_toArray,List.nil_append,List.cons_append]
  gi_wp2
  go_ret
  exact⟨E,E⟩
 refine(callsIn_wide (n:=3)).1 ?_
 refine callsIn_of_wp Tryz.func303 E Y ?_ E
 simp only[Tryz.ntmps303,List.size_toArray,List.length_cons,List.length_nil,Nat.reduceAdd,Nat.reduceSub,Array.replicate_succ,Array.replicate_zero,List.push_toArray,List.append_toArray,List.nil_append,List.cons_append]
 gi_wp2
 refine⟨Y,?_⟩
 refine(callsIn_wide.2 q).mono ?_
 rintro e w' ⟨rfl,rfl⟩
 gi_wp2
 go_ret
 exact⟨E,E⟩
def Ov:List ByteArray→Int
 | []=>0
 | l=>l.foldl (fun a x=>bits .or .u32 (IntKind.u32.wrap (a * 2 ^ 8)) (IntKind.u32.wrap (smallT x 255).1)) 0
def Aau (x:ByteArray):Bool:=(smallT x 255).2
def B6 (s:ByteArray):Int × Bool:=if (Bj 46 s).length=4∧(Bj 46 s).all Aau=true then (Ov (Bj 46 s),true) else (0,false)
theorem Lg (l:List ByteArray) (x:ByteArray):Ov (l++[x])=bits .or .u32 (IntKind.u32.wrap (Ov l * 2 ^ 8)) (IntKind.u32.wrap (smallT x 255).1):=by
 cases l with
 | nil=>rfl
 | cons y l=>simp[Ov]
set_option maxRecDepth 100000 in
set_option maxHeartbeats 4000000 in
theorem Tryz.addrRead_calls (s:ByteArray) (hs:s.size<100000) (w:World):Calls Tryz.prog 237 #[.string s] w fun e w'=>e=.returned (.tuple #[.int .u32 (B6 s).1,.bool (B6 s).2])∧Below w.heap.size w w':=by
 refine(callsIn_wide (n:=5)).1 ?_
 refine callsIn_of_wp_marks Tryz.func237 E Y ?_ E
 simp only[Tryz.ntmps237,List.size_toArray,List.length_cons,List.length_nil,Nat.reduceAdd,Nat.reduceSub,Array.replicate_succ,Array.replicate_zero,List.push_toArray,List.append_toArray,List.nil_append,List.cons_append]
 gi_wp2
 refine wpIn_wide.2 (wp_scope_straight ((wpIn_wide (n:=5)).1 ?_))
 gi_wp2
 refine wpIn_label ?_
 gi_wp2
 refine⟨Y,?_⟩
 refine(callsIn_wide.2 (Tryz.splitSeq_calls s _)).mono ?_
 rintro e w' ⟨rfl,rfl⟩
 gi_wp2
 obtain ⟨W0,hW0⟩:∃ W0,((((w.alloc (.cells #[.int .u32 0] 62)).alloc (.cells #[.int .i64 0] 3)).alloc (.cells #[.string s] 9)).alloc (.cells #[.string ⟨#[46]⟩] 9)).alloc (.cells #[.int .i64 0] 3)=W0:=⟨_,rfl⟩
 have hsz:W0.heap.size=w.heap.size+5:=by rw[← hW0];simp
 have hB0:Below w.heap.size w W0:=by
  rw[← hW0]
  exact(((((Below.refl _ w).alloc (Nat.le_refl _) _).alloc Go.Sy.y_ _).alloc (by simp;omega) _).alloc (by simp;omega) _).alloc (by simp;omega) _
 have ca:Var1 W0 w.heap.size (.int .u32 0):=by rw[← hW0];exact((((Var1.new _ _ _ rfl).alloc _).alloc _).alloc _).alloc _
 have ci:Var1 W0 (w.heap.size+1) (.int .i64 0):=by rw[← hW0];exact(((Var1.new (w.alloc _) _ _ Go.Sy.y_).alloc _).alloc _).alloc _
 have cs:Var1 W0 (w.heap.size+2) (.string s):=by rw[← hW0];exact((Var1.new ((w.alloc _).alloc _) _ _ Go.Sy.y_).alloc _).alloc _
 have cp:Var1 W0 (w.heap.size+3) (.string ⟨#[46]⟩):=by rw[← hW0];exact(Var1.new (((w.alloc _).alloc _).alloc _) _ _ Go.Sy.y_).alloc _
 have cv:Var1 W0 (w.heap.size+4) (.int .i64 0):=by rw[← hW0];exact Var1.new ((((w.alloc _).alloc _).alloc _).alloc _) _ _ Go.Sy.y_
 have cb:SeqBox W0 (w.heap.size+3) (w.heap.size+2) (w.heap.size+4) s:=⟨cp.1,cs.1,cv.1,cs.2⟩
 rw[hW0]
 clear hW0
 have hrow:∀ {k:Nat} {W:World} {row:Option Nat},k≤w.heap.size+1→(∀ r,row=some r→r=w.heap.size+2∨(W0.heap.size≤r∧∃ o:Obj,W.heap[r]? = some o∧o.isCells=false))→row≠some k:=fun hk hr e=>by
  rcases hr _ e with h | ⟨h,_⟩<;>omega
 have hge:∀ {W:World} {row:Option Nat},(∀ r,row=some r→r=w.heap.size+2∨(W0.heap.size≤r∧∃ o:Obj,W.heap[r]? = some o∧o.isCells=false))→∀ r,row=some r→w.heap.size≤r:=fun hr r e=>by
  rcases hr _ e with h | ⟨h,_⟩<;>omega
 refine Kk E Go.Sy.q_ (gf:=423) (lb:=#[.pointer (some ⟨w.heap.size+3,0,none⟩),.pointer (some ⟨w.heap.size+2,0,none⟩),.pointer (some ⟨w.heap.size+4,0,none⟩)]) E Y (enters_of Tryz.func423 Go.Sy.z_ E)
  (Tryz.split_stops s hs 4 Go.Sy.q_ (w.heap.size+3) (w.heap.size+2) (w.heap.size+4) ⟨by omega,by omega⟩ W0 cb Go.Sy.q_) (fun b hb=>by omega)
  (fun h k=>⟨k.1.trans h.1,k.2.1.trans h.2.1,k.2.2.trans h.2.2⟩)
  (fun W l o o' hl _ _ _=>⟨World.putObj_heap_other Go.Sy.q_,World.putObj_heap_other Go.Sy.q_,World.putObj_heap_other Go.Sy.q_⟩) (Below.refl _ _) (fun _=>rfl)
  (fun pre W=>Var1 W w.heap.size (.int .u32 (Ov pre))∧Var1 W (w.heap.size+1) (.int .i64 pre.length)∧(pre.length≤4∧pre.all Aau=true)∧Below w.heap.size w W∧w.heap.size+5≤W.heap.size)
  (fun c pre W=>c=.exit 0∧Var1 W (w.heap.size+1) (.int .i64 0)∧¬ (pre.length≤4∧pre.all Aau=true)∧Below w.heap.size w W)
  (fun pre A B row hs hg hr=>⟨hs.1.grown hg (hrow Go.Sy.q_ hr),hs.2.1.grown hg (hrow Go.Sy.q_ hr),hs.2.2.1,hs.2.2.2.1.grown hg hs.2.2.2.1.size (hge hr),Nat.le_trans hs.2.2.2.2 hg.size⟩)
  (fun c pre A B row hs hg hr=>⟨hs.1,hs.2.1.grown hg (hrow Go.Sy.q_ hr),hs.2.2.1,hs.2.2.2.grown hg hs.2.2.2.size (hge hr)⟩)
  ⟨ca,ci,⟨by simp,rfl⟩,hB0,by omega⟩
  (fun x=>{ tmps:=#[.string s,undef,.int .u32 0,.bool false,.pointer (some ⟨w.heap.size,0,none⟩),.pointer (some ⟨w.heap.size+1,0,none⟩),.string x,undef,undef,.string s,
   .func (.func 423) #[] #[.pointer (some ⟨w.heap.size+3,0,none⟩),.pointer (some ⟨w.heap.size+2,0,none⟩),.pointer (some ⟨w.heap.size+4,0,none⟩)],.string x,
   undef,undef,undef,undef,undef,undef,undef,undef,undef,undef,undef,undef,undef,undef,undef,undef,undef,undef,undef,undef,undef],defers:=[] }) ?assign ?body ?done ?stop
 case assign =>
  intro l x W K hK
  gi_wp2
  exact hK
 case body =>
  rintro l pre x W ⟨ha,hi,⟨hp1,hp2⟩,hB,hB5⟩ _
  have q:=(Sq x 255).calls_tup2 (w:=W) (vs:=[.string x,.int .i64 255]) (by simp only[RdL];exact⟨_,_,rfl,by simp[Rd,Ah],_,_,rfl,by simp[Rd,Aa],rfl⟩)
  have hsn:=Lg pre x
  have hal:((pre++[x]).all Aau)=Aau x:=by rw[List.all_append,hp2];simp
  have hll:(pre++[x]).length=pre.length+1:=by simp
  have hox:Aau x=(smallT x 255).2:=rfl
  generalize smallT x 255=sm at *
  obtain ⟨v,ok⟩:=sm
  dsimp only at hsn hox q
  gi_wp2
  refine⟨Y,?_⟩
  refine(CallsIn.inRound l (callsIn_wide.2 q)).mono ?_
  rintro e w' ⟨rfl,hb⟩
  have ha':=ha.below hb
  have hi':=hi.below hb
  have hB':Below w.heap.size w w':=hB.trans (hb.mono hB.size)
  have hk1:=Q3 hb
  have a1:=ha'.1
  have a2:=ha'.2
  have b1:=hi'.1
  have b2:=hi'.2
  have s1:∀ (u v:Value),Below w.heap.size w ((w'.setCell ⟨w.heap.size+1,0,none⟩ u).setCell ⟨w.heap.size+1,0,none⟩ v):=fun u v =>
   (hB'.setCell (p:=⟨w.heap.size+1,0,none⟩) (Nat.le_succ _) u).setCell (p:=⟨w.heap.size+1,0,none⟩) (Nat.le_succ _) v
  cases ok
  ·gi_wp2
   exact⟨hk1.trans ((KeepsOthers.setCell _ _ _).trans (KeepsOthers.setCell _ _ _)),rfl,(hi'.set _).set _,(fun e=>by rw[hal,hox]at e;cases e.2),s1 _ _⟩
  ·by_cases h4:pre.length+1≤4
   ·have hsn':Ov (pre++[x])=bits .or .u32 (Ov pre * 256 % 4294967296) (v % 4294967296):=by rw[hsn,IntKind.wrap_u32,IntKind.wrap_u32];rfl
    gi_wp2
    refine⟨hk1.trans ((KeepsOthers.setCell _ _ _).trans (KeepsOthers.setCell _ _ _)),⟨?_,?_,?_⟩,?_,?_,⟨by omega,by rw[hal,hox]⟩,?_,?_⟩
    ·rw[Below.heap_setCell _ _ _ _ Go.Sy.y_,Below.heap_setCell _ _ _ _ Go.Sy.y_]
     exact hb.block _ Go.Sy.q_
    ·rw[Below.heap_setCell _ _ _ _ Go.Sy.y_,Below.heap_setCell _ _ _ _ Go.Sy.y_]
     exact hb.block _ Go.Sy.q_
    ·rw[Below.heap_setCell _ _ _ _ Go.Sy.y_,Below.heap_setCell _ _ _ _ Go.Sy.y_]
     exact hb.block _ Go.Sy.q_
    ·rw[hsn']
     exact(ha'.other Go.Sy.y_ _).set _
    ·rw[hll]
     exact(hi'.set _).other Go.Sy.y_ _
    ·exact(hB'.setCell (p:=⟨w.heap.size+1,0,none⟩) (Nat.le_succ _) _).setCell (p:=⟨w.heap.size,0,none⟩) (Nat.le_refl _) _
    ·have:=hb.size
     simp
     omega
   ·gi_wp2
    exact⟨hk1.trans ((KeepsOthers.setCell _ _ _).trans (KeepsOthers.setCell _ _ _)),E,(hi'.set _).set _,fun e=>by omega,s1 _ _⟩
 case done =>
  rintro D xs W hD rfl ⟨ha,hi,⟨hp1,hp2⟩,hB,_⟩ hK
  have a1:=ha.1
  have a2:=ha.2
  have b1:=hi.1
  have b2:=hi.2
  by_cases h4:(Bj 46 s).length=4
  ·have hr:B6 s=(Ov (Bj 46 s),true):=by rw[B6,if_pos ⟨h4,hp2⟩]
   gi_wp2
   refine⟨by simp,.inl ⟨_,_,E,run_takeDeferred hK,?_⟩⟩
   exact⟨_,results_tmp2 E _ _ _,by rw[hr];rfl,hB.trans (belowK_b (w:=w) (Nat.le_refl _) W D _ _ Go.Sy.q_ hK E E)⟩
  ·have hr:B6 s=(0,false):=by rw[B6,if_neg (fun e=>h4 e.1)]
   gi_wp2
   refine⟨by simp,.inl ⟨_,_,E,run_takeDeferred hK,?_⟩⟩
   exact⟨_,results_tmp2 E _ _ _,by rw[hr];rfl,hB.trans (belowK_b (w:=w) (Nat.le_refl _) W D _ _ Go.Sy.q_ hK E E)⟩
 case stop =>
  rintro D c pre W hD hpre ⟨rfl,hi,hbad,hB⟩ hK
  have b1:=hi.1
  have b2:=hi.2
  have hr:B6 s=(0,false):=by
   rw[B6,if_neg]
   intro e
   refine hbad ⟨by have:=hpre.length_le;omega,?_⟩
   rw[List.all_eq_true]at e ⊢
   exact fun x hx=>e.2 x (hpre.subset hx)
  gi_wp2
  refine⟨by simp,.inl ⟨_,_,E,run_takeDeferred hK,?_⟩⟩
  exact⟨_,results_tmp2 E _ _ _,by rw[hr];rfl,hB.trans (belowK_b (w:=w) (Nat.le_refl _) W D _ _ Go.Sy.q_ hK E E)⟩
end Go.Proofs
namespace Go.Sy.YtjenpnjajjplkaaGreatDoor
open Go.Proofs
theorem M1 (s:ByteArray) (hs:s.size<100000):Sy.Spec Tryz.prog 237 [Ah s] [] (.tup [A9 (B6 s).1,Ab (B6 s).2]) [] :=
 Spec.of_calls2 fun κ w vs _ hr _=>by
  simp only[RdL]at hr
  obtain ⟨v,r,rfl,hv,rfl⟩:=hr
  simp only[Ah,Rd]at hv
  subst hv
  exact Tryz.addrRead_calls s hs w
end Go.Sy.YtjenpnjajjplkaaGreatDoor
namespace Go.Sy.YtjenpnjajjplkaaGreatDoor
open Go.Proofs
attribute [local irreducible] Go.Sy.G Go.Sy.DR
set_option maxRecDepth 100000
set_option maxHeartbeats 4000000
def be:Nat→Nat→List UInt8
 | 0,_=>[]
 | k+1,m=>UInt8.ofNat (m / 256 ^ k)::be k m
end Go.Sy.YtjenpnjajjplkaaGreatDoor
namespace Go.Sy.YtjenpnjajjplkaaGreatDoor
def Ig (a bits:Int):Int:=if 0≤bits∧bits≤32 then a-a % 2 ^ (32-bits).toNat else 0
end Go.Sy.YtjenpnjajjplkaaGreatDoor
namespace Go.Sy.YtjenpnjajjplkaaGreatDoor
open Go.Proofs
attribute [local irreducible] Go.Sy.G Go.Sy.DR
set_option maxRecDepth 100000
set_option maxHeartbeats 4000000
def Ho (a bits:Int):SV:=.agg [A9 a,Aa bits]
theorem Sr (a bits:Int):Sy.Spec Tryz.prog 370 [Ho a bits] [] (Ab (decide (0≤bits∧bits≤32))) []:=cT F370 Tryz.ntmps370 fun F hF=>by
 conv=>whnf
 (repeat' (first | (refine⟨fun h=>?_,fun h=>?_⟩<;>(repeat (first | simp only[decide_eq_true_eq]at h | simp only[decide_eq_false_iff_not]at h))<;>((refine oO ?_))) | (refine Ar rfl (.cons .tmp .nil) ?_ rfl)))
 all_goals (refine congrArg Ab ?_;clear hF;grind)
theorem Ua (a bits:Int) (h:0≤bits∧bits≤32):Sy.Spec Tryz.prog 371 [Ho a bits] [] (A9 (2 ^ (32-bits).toNat-1)) []:=cT F371 Tryz.ntmps371 fun F hF=>by
 conv=>whnf
 refine iW ?_
 refine⟨by omega,?_⟩
 conv=>whnf
 refine Ar E (.cons .tmp .nil) ?_ E
 refine congrArg (fun z=>SV.val (.int .u32 z)) ?_
 obtain ⟨k,hk,hk2⟩:∃ k:Nat,(32-bits).toNat=k∧k≤32:=⟨_,rfl,by omega⟩
 have h1:min (32-bits).toNat IntKind.u32.bits=k:=by show min (32-bits).toNat 32=k;omega
 rw[h1,hk,IntKind.wrap_u32,IntKind.wrap_u32]
 have h2:(2:Int) ^ k≤4294967296:=by
  have:=Nat.pow_le_pow_right (n:=2) j_ hk2
  rw[show (2:Int) ^ k=((2 ^ k:Nat):Int) by rw[Int.natCast_pow];rfl]
  have e:(2:Nat) ^ 32=4294967296:=rfl
  rw[e]at this
  omega
 have h0:(1:Int)≤2 ^ k:=by
  have:=Nat.one_le_two_pow (n:=k)
  rw[show (2:Int) ^ k=((2 ^ k:Nat):Int) by rw[Int.natCast_pow];rfl]
  omega
 generalize (2:Int) ^ k=q at *
 omega
theorem Sn (a k:Nat) (ha:a<4294967296) (hk:k≤32):bits .andNot .u32 (a:Int) ((2 ^ k-1:Nat):Int)=((a-a % 2 ^ k:Nat):Int):=by
 have hp:=Nat.pow_le_pow_right (n:=2) j_ hk
 have e32:(2:Nat) ^ 32=4294967296:=rfl
 rw[e32]at hp
 have h1:=Nat.one_le_two_pow (n:=k)
 have x1:(BitVec.ofInt 32 (a:Int)).toNat=a:=by rw[BitVec.ofInt_natCast,BitVec.toNat_ofNat];exact Nat.mod_eq_of_lt q_
 have x2:(BitVec.ofInt 32 ((2 ^ k-1:Nat):Int)).toNat=2 ^ k-1:=by rw[BitVec.ofInt_natCast,BitVec.toNat_ofNat];exact Nat.mod_eq_of_lt q_
 have key:(BitVec.ofInt 32 (a:Int) &&& ~~~ BitVec.ofInt 32 ((2 ^ k-1:Nat):Int)).toNat=a-a % 2 ^ k:=by
  have hd:a-a % 2 ^ k=2 ^ k * (a / 2 ^ k):=by have:=Nat.div_add_mod a (2 ^ k);omega
  rw[hd]
  refine Nat.eq_of_testBit_eq fun i=>?_
  rw[BitVec.testBit_toNat,BitVec.getLsbD_and,BitVec.getLsbD_not,← BitVec.testBit_toNat,← BitVec.testBit_toNat,x1,x2,Nat.testBit_two_pow_sub_one,Nat.testBit_two_pow_mul,Nat.testBit_div_two_pow]
  by_cases hi:i<k
  ·have:¬ i≥k:=by omega
   simp[hi,this]
  ·have h2:i≥k:=by omega
   have h3:i-k+k=i:=by omega
   by_cases h4:i<32
   ·simp[hi,h2,h4,h3]
   ·have h5:a.testBit i=false:=Nat.testBit_lt_two_pow (Nat.lt_of_lt_of_le (by rw[← e32]at ha;exact ha) (Nat.pow_le_pow_right j_ q_))
    rw[h3,h5]
    simp
 show IntKind.u32.wrap (((BitVec.ofInt 32 (a:Int) &&& ~~~ BitVec.ofInt 32 ((2 ^ k-1:Nat):Int)).toNat:Nat):Int)=_
 rw[key,IntKind.wrap_u32]
 omega
theorem Ja (a k:Nat) (bits:Int) (h:0≤bits∧bits≤32) (hk:(32-bits).toNat=k):Ig a bits=((a-a % 2 ^ k:Nat):Int):=by
 rw[Ig,if_pos h,hk]
 have h1:=Nat.mod_le a (2 ^ k)
 rw[show (2:Int) ^ k=((2 ^ k:Nat):Int) by rw[Int.natCast_pow];rfl]
 omega
theorem Zg (a:Nat) (bits:Int) (ha:a<4294967296):Sy.Spec Tryz.prog 307 [Ho a bits] [] (A9 (Ig a bits)) []:=cT F307 Tryz.ntmps307 fun F hF=>by
 have hr:=Sr a bits
 by_cases hb:0≤bits∧bits≤32
 ·have hrest:=Ua a bits hb
  rw[decide_eq_true hb]at hr
  obtain ⟨k,hk,hk2⟩:∃ k:Nat,(32-bits).toNat=k∧k≤32:=⟨_,rfl,by omega⟩
  have hn:=Sn a k ha hk2
  have hf:=Ja a k bits hb hk
  have h1:=Nat.one_le_two_pow (n:=k)
  have e2:(2:Int) ^ k-1=((2 ^ k-1:Nat):Int):=by
   rw[show (2:Int) ^ k=((2 ^ k:Nat):Int) by rw[Int.natCast_pow];rfl]
   omega
  rw[hk,e2]at hrest
  rw[hf,← hn]
  ((conv=>whnf);repeat((first|refine aF ?_|refine aT ?_);(first|refine rG Γ hm ?_|refine rD Γ hm z_ ?_);conv=>whnf))
  refine c0 hr F370 ?_
  ((first|refine rG Γ hm ?_|refine rD Γ hm z_ ?_);(conv=>whnf);repeat((first|refine aF ?_|refine aT ?_);(first|refine rG Γ hm ?_|refine rD Γ hm z_ ?_);conv=>whnf))
  first | refine cD hrest F371 ?_ | refine c0 hrest F371 ?_
  ((first|refine rG Γ hm ?_|refine rD Γ hm z_ ?_);(conv=>whnf);repeat((first|refine aF ?_|refine aT ?_);(first|refine rG Γ hm ?_|refine rD Γ hm z_ ?_);conv=>whnf))
  first | (refine⟨z_,?_⟩;((conv=>whnf);repeat((first|refine aF ?_|refine aT ?_);(first|refine rG Γ hm ?_|refine rD Γ hm z_ ?_);conv=>whnf))) | skip
  exact dN
 ·rw[decide_eq_false hb]at hr
  have hf:Ig a bits=0:=by rw[Ig,if_neg hb]
  rw[hf]
  ((conv=>whnf);repeat((first|refine aF ?_|refine aT ?_);(first|refine rG Γ hm ?_|refine rD Γ hm z_ ?_);conv=>whnf))
  refine c0 hr F370 ?_
  ((first|refine rG Γ hm ?_|refine rD Γ hm z_ ?_);(conv=>whnf);repeat((first|refine aF ?_|refine aT ?_);(first|refine rG Γ hm ?_|refine rD Γ hm z_ ?_);conv=>whnf))
  exact dN
def Q0 (a bits:Int):Int:=if 0≤bits∧bits≤32 then Ig a bits+2 ^ (32-bits).toNat-1 else 0
theorem or_low (a k:Nat) (ha:a<4294967296) (hk:k≤32):bits .or .u32 (a:Int) ((2 ^ k-1:Nat):Int)=((a-a % 2 ^ k+(2 ^ k-1):Nat):Int):=by
 have hp:=Nat.pow_le_pow_right (n:=2) j_ hk
 have e32:(2:Nat) ^ 32=4294967296:=rfl
 rw[e32]at hp
 have h1:=Nat.one_le_two_pow (n:=k)
 have x1:(BitVec.ofInt 32 (a:Int)).toNat=a:=by rw[BitVec.ofInt_natCast,BitVec.toNat_ofNat];exact Nat.mod_eq_of_lt q_
 have x2:(BitVec.ofInt 32 ((2 ^ k-1:Nat):Int)).toNat=2 ^ k-1:=by rw[BitVec.ofInt_natCast,BitVec.toNat_ofNat];exact Nat.mod_eq_of_lt q_
 have hd:a-a % 2 ^ k=2 ^ k * (a / 2 ^ k):=by have:=Nat.div_add_mod a (2 ^ k);omega
 have hsum:=Nat.two_pow_add_eq_or_of_lt (i:=k) (b:=2 ^ k-1) q_ (a / 2 ^ k)
 have key:(BitVec.ofInt 32 (a:Int) ||| BitVec.ofInt 32 ((2 ^ k-1:Nat):Int)).toNat=a-a % 2 ^ k+(2 ^ k-1):=by
  rw[hd,hsum]
  refine Nat.eq_of_testBit_eq fun i=>?_
  rw[BitVec.testBit_toNat,BitVec.getLsbD_or,← BitVec.testBit_toNat,← BitVec.testBit_toNat,x1,x2,Nat.testBit_or,Nat.testBit_two_pow_sub_one,Nat.testBit_two_pow_mul,Nat.testBit_div_two_pow]
  by_cases hi:i<k
  ·simp[hi]
  ·have h2:i≥k:=by omega
   have h3:i-k+k=i:=by omega
   simp[hi,h2,h3]
 show IntKind.u32.wrap (((BitVec.ofInt 32 (a:Int) ||| BitVec.ofInt 32 ((2 ^ k-1:Nat):Int)).toNat:Nat):Int)=_
 have hlt:(BitVec.ofInt 32 (a:Int) ||| BitVec.ofInt 32 ((2 ^ k-1:Nat):Int)).toNat<4294967296:=BitVec.isLt _
 rw[key]at hlt
 rw[key,IntKind.wrap_u32]
 omega
theorem Aa7 (a k:Nat) (bits:Int) (h:0≤bits∧bits≤32) (hk:(32-bits).toNat=k):Q0 a bits=((a-a % 2 ^ k+(2 ^ k-1):Nat):Int):=by
 rw[Q0,if_pos h,hk,Ja a k bits h hk]
 have h1:=Nat.one_le_two_pow (n:=k)
 rw[show (2:Int) ^ k=((2 ^ k:Nat):Int) by rw[Int.natCast_pow];rfl]
 omega
theorem Abp (a:Nat) (bits:Int) (ha:a<4294967296):Sy.Spec Tryz.prog 308 [Ho a bits] [] (A9 (Q0 a bits)) []:=cT F308 Tryz.ntmps308 fun F hF=>by
 have hr:=Sr a bits
 by_cases hb:0≤bits∧bits≤32
 ·have hrest:=Ua a bits hb
  rw[decide_eq_true hb]at hr
  obtain ⟨k,hk,hk2⟩:∃ k:Nat,(32-bits).toNat=k∧k≤32:=⟨_,rfl,by omega⟩
  have hn:=or_low a k ha hk2
  have hf:=Aa7 a k bits hb hk
  have h1:=Nat.one_le_two_pow (n:=k)
  have e2:(2:Int) ^ k-1=((2 ^ k-1:Nat):Int):=by
   rw[show (2:Int) ^ k=((2 ^ k:Nat):Int) by rw[Int.natCast_pow];rfl]
   omega
  rw[hk,e2]at hrest
  rw[hf,← hn]
  ((conv=>whnf);repeat((first|refine aF ?_|refine aT ?_);(first|refine rG Γ hm ?_|refine rD Γ hm z_ ?_);conv=>whnf))
  refine c0 hr F370 ?_
  ((first|refine rG Γ hm ?_|refine rD Γ hm z_ ?_);(conv=>whnf);repeat((first|refine aF ?_|refine aT ?_);(first|refine rG Γ hm ?_|refine rD Γ hm z_ ?_);conv=>whnf))
  first | refine cD hrest F371 ?_ | refine c0 hrest F371 ?_
  ((first|refine rG Γ hm ?_|refine rD Γ hm z_ ?_);(conv=>whnf);repeat((first|refine aF ?_|refine aT ?_);(first|refine rG Γ hm ?_|refine rD Γ hm z_ ?_);conv=>whnf))
  first | (refine⟨z_,?_⟩;((conv=>whnf);repeat((first|refine aF ?_|refine aT ?_);(first|refine rG Γ hm ?_|refine rD Γ hm z_ ?_);conv=>whnf))) | skip
  exact dN
 ·rw[decide_eq_false hb]at hr
  have hf:Q0 a bits=0:=by rw[Q0,if_neg hb]
  rw[hf]
  ((conv=>whnf);repeat((first|refine aF ?_|refine aT ?_);(first|refine rG Γ hm ?_|refine rD Γ hm z_ ?_);conv=>whnf))
  refine c0 hr F370 ?_
  ((first|refine rG Γ hm ?_|refine rD Γ hm z_ ?_);(conv=>whnf);repeat((first|refine aF ?_|refine aT ?_);(first|refine rG Γ hm ?_|refine rD Γ hm z_ ?_);conv=>whnf))
  exact dN
theorem Adz (a b:Nat) (ha:a<4294967296) (hb:b<4294967296):bits .xor .u32 (a:Int) (b:Int)=((a ^^^ b:Nat):Int):=by
 have x1:(BitVec.ofInt 32 (a:Int)).toNat=a:=by rw[BitVec.ofInt_natCast,BitVec.toNat_ofNat];exact Nat.mod_eq_of_lt q_
 have x2:(BitVec.ofInt 32 (b:Int)).toNat=b:=by rw[BitVec.ofInt_natCast,BitVec.toNat_ofNat];exact Nat.mod_eq_of_lt q_
 show IntKind.u32.wrap (((BitVec.ofInt 32 (a:Int) ^^^ BitVec.ofInt 32 (b:Int)).toNat:Nat):Int)=_
 have hlt:(BitVec.ofInt 32 (a:Int) ^^^ BitVec.ofInt 32 (b:Int)).toNat<4294967296:=BitVec.isLt _
 rw[BitVec.toNat_xor,x1,x2]at hlt ⊢
 rw[IntKind.wrap_u32]
 omega
theorem masked (a x k:Nat) (ha:a<4294967296) (hx:x<4294967296) (hk:k≤32):(bits .andNot .u32 (bits .xor .u32 (a:Int) (x:Int)) ((2 ^ k-1:Nat):Int) == 0)=decide (a / 2 ^ k=x / 2 ^ k):=by
 have hxl:a ^^^ x<4294967296:=Nat.xor_lt_two_pow (n:=32) ha hx
 rw[Adz a x ha hx,Sn _ k hxl hk]
 have hd:(a ^^^ x)-(a ^^^ x) % 2 ^ k=2 ^ k * ((a ^^^ x) / 2 ^ k):=by have:=Nat.div_add_mod (a ^^^ x) (2 ^ k);omega
 rw[hd,Nat.xor_div_two_pow]
 have h1:=Nat.one_le_two_pow (n:=k)
 by_cases h:a / 2 ^ k=x / 2 ^ k
 ·rw[h,Nat.xor_self]
  simp
 ·rw[decide_eq_false h]
  have:a / 2 ^ k ^^^ x / 2 ^ k≠0:=fun e=>h (by
   have:=congrArg (fun z=>z ^^^ x / 2 ^ k) e
   simpa [Nat.xor_assoc] using this)
  rw[beq_eq_false_iff_ne]
  intro e
  have e:=Int.natCast_eq_zero.1 e
  rcases Nat.mul_eq_zero.1 e with e | e
  ·omega
  ·exact this e
def Hx (n:Net):Prop:=∀ x∈n.irbs,0≤x.addr∧x.addr<4294967296
end Go.Sy.YtjenpnjajjplkaaGreatDoor
namespace Go.Sy.YtjenpnjajjplkaaGreatDoor
open Go.Proofs
def U4 (m:Nat):Bool:=decide (m / 1099511627776 % 2=1)
theorem Aet (m k:Nat):m &&& 2 ^ k=if m / 2 ^ k % 2=1 then 2 ^ k else 0:=by
 apply Nat.eq_of_testBit_eq
 intro i
 rw[Nat.testBit_and,Nat.testBit_two_pow]
 by_cases hi:k=i
 ·subst hi
  rw[decide_eq_true rfl,Bool.and_true,Nat.testBit_eq_decide_div_mod_eq]
  split
  ·rename_i h;rw[decide_eq_true h,Nat.testBit_two_pow_self]
  ·rename_i h;rw[decide_eq_false h,Nat.zero_testBit]
 ·rw[decide_eq_false hi,Bool.and_false]
  split
  ·rw[Nat.testBit_two_pow,decide_eq_false hi]
  ·rw[Nat.zero_testBit]
theorem Aba (m:Nat) (h:m<18446744073709551616):(bits .and .u64 (m:Int) 1099511627776 != 0)=U4 m:=by
 have e:=bits_and_u64_nat m 1099511627776 h j_
 rw[show ((1099511627776:Nat):Int)=1099511627776 from rfl]at e
 rw[e,show (1099511627776:Nat)=2 ^ 40 from rfl,Aet,U4,show (1099511627776:Nat)=2 ^ 40 from rfl]
 split
 ·rename_i h;rw[decide_eq_true h];rfl
 ·rename_i h;rw[decide_eq_false h];rfl
end Go.Sy.YtjenpnjajjplkaaGreatDoor
namespace Go.Sy.YtjenpnjajjplkaaGreatDoor
open Go.Proofs
attribute [local irreducible] Go.Sy.G Go.Sy.DR
set_option maxRecDepth 20000
set_option maxHeartbeats 4000000
theorem e_link {n:Net} (h:Af n=true) {i:Nat} (hi:i<n.links.length):(0≤n.links[i].a∧n.links[i].a.toNat<n.ports.length)∧(0≤n.links[i].b∧n.links[i].b.toNat<n.ports.length):=by
 simp only[Af,Bool.and_eq_true]at h
 have:=allB_iff.1 h.1.1.1.1.2 i hi
 simp only[Of,Al,Bool.and_eq_true,decide_eq_true_eq]at this
 omega
theorem I2 {n:Net} {i:Int} (h:0≤Ha n i):(0≤i∧i.toNat<n.ports.length)∧Af n=true∧(Ha n i).toNat<n.ports.length:=by
 unfold Ha at h ⊢
 split at h
 ·rename_i hc
  rw[if_pos hc]
  have hk:i.toNat<n.ports.length:=by omega
  have e1:nth n.ports i=n.ports[i.toNat]:=A7 hk
  rw[e1]at hc h ⊢
  have hq:=Oo hc.2.2 hk hc.2.1
  have e2:nth n.links n.ports[i.toNat].link=n.links[n.ports[i.toNat].link.toNat]:=A7 hq.1
  have hl:=e_link hc.2.2 hq.1
  rw[e2]at h ⊢
  refine⟨by omega,hc.2.2,?_⟩
  split
  ·exact hl.2.2
  ·exact hl.1.2
 ·omega
def Qb (n:Net) (i v:Int):Int:=if v=(nth n.ports i).native then (nth n.ports (Ha n i)).native else if inB (nth n.ports (Ha n i)).tagged v=true then v else 0
def crossT (n:Net) (i v:Int):Int × Int × Bool :=
 if 0≤Ha n i∧Cs (nth n.ports i) v=true∧Qb n i v≠0 then (Ha n i,Qb n i v,true) else (0,0,false)
theorem Wi (n:Net) (hn:n.Fin) (i v:Int):Sy.Spec Tryz.prog 250 [Ao n,Aa i,Aa v] [] (.tup [Aa (crossT n i v).1,Aa (crossT n i v).2.1,Ab (crossT n i v).2.2]) []:=cT F250 Tryz.ntmps250 fun F hF=>by
 have q:=Uy n hn i
 have hth:=I2 (n:=n) (i:=i)
 have hc:=crossT.eq_1 n i v
 unfold Qb at hc
 generalize crossT n i v=r at *
 obtain ⟨far,hfar⟩:∃ far,Ha n i=far:=⟨_,rfl⟩
 rw[hfar]at q hth hc
 ((conv=>whnf);repeat((first|refine aF ?_|refine aT ?_);(first|refine rG Γ hm ?_|refine rD Γ hm z_ ?_);conv=>whnf))
 refine c0 q F184 ?_
 ((first|refine rG Γ hm ?_|refine rD Γ hm z_ ?_);(conv=>whnf);repeat((first|refine aF ?_|refine aT ?_);(first|refine rG Γ hm ?_|refine rD Γ hm z_ ?_);conv=>whnf))
 refine⟨fun h=>?_,fun h=>?_⟩
 ·have h1:far<0:=of_decide_eq_true h
  rw[if_neg q_]at hc
  subst hc
  ((first|refine rG Γ hm ?_|refine rD Γ hm z_ ?_);(conv=>whnf);repeat((first|refine aF ?_|refine aT ?_);(first|refine rG Γ hm ?_|refine rD Γ hm z_ ?_);conv=>whnf))
  exact dN
 have h1:0≤far:=qB h
 obtain ⟨⟨hi0,hk⟩,hb,hfk⟩:=hth h1
 have e1:nth n.ports i=n.ports[i.toNat]:=A7 hk
 have e2:nth n.ports far=n.ports[far.toNat]:=A7 hfk
 rw[e1,e2]at hc
 have ht1:=hn.tagged _ (List.getElem_mem hk)
 have ht2:=hn.tagged _ (List.getElem_mem hfk)
 obtain ⟨p,hp⟩:∃ p,n.ports[i.toNat]=p:=⟨_,rfl⟩
 obtain ⟨o,ho⟩:∃ o,n.ports[far.toNat]=o:=⟨_,rfl⟩
 rw[hp]at hc ht1
 rw[ho]at hc ht2
 have hms:=Ux p v ht1
 have hcs:=Ir o.tagged v ht2
 refine Bg 3 8 (Ao n) E E E ?_
 ((first|refine rG Γ hm ?_|refine rD Γ hm z_ ?_);(conv=>whnf);repeat((first|refine aF ?_|refine aT ?_);(first|refine rG Γ hm ?_|refine rD Γ hm z_ ?_);conv=>whnf))
 refine⟨E,hi0,hk,?_⟩
 rw[hp]
 ((conv=>whnf);repeat((first|refine aF ?_|refine aT ?_);(first|refine rG Γ hm ?_|refine rD Γ hm z_ ?_);conv=>whnf))
 refine c0 hms F179 ?_
 cases hm2:Cs p v
 ·rw[if_neg (by simp[hm2])]at hc
  subst hc
  ((first|refine rG Γ hm ?_|refine rD Γ hm z_ ?_);(conv=>whnf);repeat((first|refine aF ?_|refine aT ?_);(first|refine rG Γ hm ?_|refine rD Γ hm z_ ?_);conv=>whnf))
  exact dN
 ((first|refine rG Γ hm ?_|refine rD Γ hm z_ ?_);(conv=>whnf);repeat((first|refine aF ?_|refine aT ?_);(first|refine rG Γ hm ?_|refine rD Γ hm z_ ?_);conv=>whnf))
 refine⟨E,h1,hfk,?_⟩
 rw[ho]
 ((conv=>whnf);repeat((first|refine aF ?_|refine aT ?_);(first|refine rG Γ hm ?_|refine rD Γ hm z_ ?_);conv=>whnf))
 refine⟨E,hi0,hk,?_⟩
 rw[hp]
 ((conv=>whnf);repeat((first|refine aF ?_|refine aT ?_);(first|refine rG Γ hm ?_|refine rD Γ hm z_ ?_);conv=>whnf))
 refine⟨fun h=>?_,fun h=>?_⟩
 ·have h2:v=p.native:=by simpa using h
  rw[if_pos h2]at hc
  ((first|refine rG Γ hm ?_|refine rD Γ hm z_ ?_);(conv=>whnf);repeat((first|refine aF ?_|refine aT ?_);(first|refine rG Γ hm ?_|refine rD Γ hm z_ ?_);conv=>whnf))
  refine⟨fun h=>?_,fun h=>?_⟩
  ·have h3:o.native=0:=by simpa using h
   rw[if_neg (fun hh=>hh.2.2 h3)]at hc
   subst hc
   ((first|refine rG Γ hm ?_|refine rD Γ hm z_ ?_);(conv=>whnf);repeat((first|refine aF ?_|refine aT ?_);(first|refine rG Γ hm ?_|refine rD Γ hm z_ ?_);conv=>whnf))
   exact dN
  ·have h3:o.native≠0:=by simpa using h
   rw[if_pos ⟨h1,hm2,h3⟩]at hc
   subst hc
   ((first|refine rG Γ hm ?_|refine rD Γ hm z_ ?_);(conv=>whnf);repeat((first|refine aF ?_|refine aT ?_);(first|refine rG Γ hm ?_|refine rD Γ hm z_ ?_);conv=>whnf))
   exact dN
 have h2:¬ v=p.native:=by simpa using h
 rw[if_neg h2]at hc
 ((first|refine rG Γ hm ?_|refine rD Γ hm z_ ?_);(conv=>whnf);repeat((first|refine aF ?_|refine aT ?_);(first|refine rG Γ hm ?_|refine rD Γ hm z_ ?_);conv=>whnf))
 refine c0 hcs F100 ?_
 cases hin:inB o.tagged v
 ·rw[hin,if_neg y_]at hc
  subst hc
  ((first|refine rG Γ hm ?_|refine rD Γ hm z_ ?_);(conv=>whnf);repeat((first|refine aF ?_|refine aT ?_);(first|refine rG Γ hm ?_|refine rD Γ hm z_ ?_);conv=>whnf))
  exact dN
 rw[hin,if_pos rfl]at hc
 ((first|refine rG Γ hm ?_|refine rD Γ hm z_ ?_);(conv=>whnf);repeat((first|refine aF ?_|refine aT ?_);(first|refine rG Γ hm ?_|refine rD Γ hm z_ ?_);conv=>whnf))
 refine⟨fun h=>?_,fun h=>?_⟩
 ·have h3:v=0:=by simpa using h
  rw[if_neg (fun hh=>hh.2.2 h3)]at hc
  subst hc
  ((first|refine rG Γ hm ?_|refine rD Γ hm z_ ?_);(conv=>whnf);repeat((first|refine aF ?_|refine aT ?_);(first|refine rG Γ hm ?_|refine rD Γ hm z_ ?_);conv=>whnf))
  exact dN
 ·have h3:v≠0:=by simpa using h
  rw[if_pos ⟨h1,hm2,h3⟩]at hc
  subst hc
  ((first|refine rG Γ hm ?_|refine rD Γ hm z_ ?_);(conv=>whnf);repeat((first|refine aF ?_|refine aT ?_);(first|refine rG Γ hm ?_|refine rD Γ hm z_ ?_);conv=>whnf))
  exact dN
def linkDomT (n:Net) (i v:Int):Int × Bool:=if (crossT n i v).2.2=true then (O9 n (nth n.ports (crossT n i v).1).dev (crossT n i v).2.1,true) else (0,false)
theorem Ma {n:Net} {i v:Int} (h:(crossT n i v).2.2=true):0≤(crossT n i v).1∧(crossT n i v).1.toNat<n.ports.length:=by
 unfold crossT at h ⊢
 split at h
 ·rename_i hc
  rw[if_pos hc]
  exact⟨hc.1,(I2 hc.1).2.2⟩
 ·cases h
theorem Uz (n:Net) (hn:n.Fin) (i v:Int):Sy.Spec Tryz.prog 167 [Ao n,Aa i,Aa v] [] (.tup [Aa (linkDomT n i v).1,Ab (linkDomT n i v).2]) []:=cT F167 Tryz.ntmps167 fun F hF=>by
 have q:=Wi n hn i v
 have hth:=Ma (n:=n) (i:=i) (v:=v)
 have hc:=linkDomT.eq_1 n i v
 generalize linkDomT n i v=r at *
 generalize crossT n i v=x at *
 obtain ⟨far,to,ok⟩:=x
 ((conv=>whnf);repeat((first|refine aF ?_|refine aT ?_);(first|refine rG Γ hm ?_|refine rD Γ hm z_ ?_);conv=>whnf))
 refine c0 q F250 ?_
 cases ok
 ·rw[if_neg y_]at hc
  subst hc
  ((first|refine rG Γ hm ?_|refine rD Γ hm z_ ?_);(conv=>whnf);repeat((first|refine aF ?_|refine aT ?_);(first|refine rG Γ hm ?_|refine rD Γ hm z_ ?_);conv=>whnf))
  exact dN
 rw[if_pos rfl]at hc
 have hf:=hth rfl
 dsimp only at hf hc
 have e2:nth n.ports far=n.ports[far.toNat]:=A7 hf.2
 rw[e2]at hc
 obtain ⟨o,ho⟩:∃ o,n.ports[far.toNat]'hf.2=o:=⟨_,rfl⟩
 rw[ho]at hc
 have q2:=Lw n hn o.dev to
 subst hc
 refine Bg 3 8 (Ao n) E E E ?_
 ((first|refine rG Γ hm ?_|refine rD Γ hm z_ ?_);(conv=>whnf);repeat((first|refine aF ?_|refine aT ?_);(first|refine rG Γ hm ?_|refine rD Γ hm z_ ?_);conv=>whnf))
 refine⟨E,hf.1,hf.2,?_⟩
 rw[ho]
 ((conv=>whnf);repeat((first|refine aF ?_|refine aT ?_);(first|refine rG Γ hm ?_|refine rD Γ hm z_ ?_);conv=>whnf))
 refine cD q2 F168 ?_
 ((first|refine rG Γ hm ?_|refine rD Γ hm z_ ?_);(conv=>whnf);repeat((first|refine aF ?_|refine aT ?_);(first|refine rG Γ hm ?_|refine rD Γ hm z_ ?_);conv=>whnf))
 refine⟨z_,?_⟩
 ((conv=>whnf);repeat((first|refine aF ?_|refine aT ?_);(first|refine rG Γ hm ?_|refine rD Γ hm z_ ?_);conv=>whnf))
 exact dN
theorem Q7 (l:List Irb) (p:Irb→Bool) (f:FuncId) (first cap:List SV) (hc:(SV.clo (.func f) first cap).inn []=true) (hf:∀ x∈l,Hc Tryz.prog f (first++[By x]++cap) (Ab (p x))) (hl:Aq l) :
  Sy.Spec Tryz.prog 325 [.sl 5 By l,.clo (.func f) first cap] [] (Aa (Br p l)) []:=cT F325 Tryz.ntmps325 fun F hF=>by
 unfold Aq at hl
 have hin:∀ x:Irb,Bs [] (first++[By x]++cap)=true:=fun x=>C0 hc rfl
 ((conv=>whnf);repeat((first|refine aF ?_|refine aT ?_);(first|refine rG Γ hm ?_|refine rD Γ hm z_ ?_);conv=>whnf))
 refine A6 l.length (fun j=>El (fun _ x=>!(p x)) l j) (fun j=>[(0,.sl 5 By l),(1,.clo (.func f) first cap),(7,Aa l.length),(8,Aa j)]) (fun _=>[]) [] (Bc _ _) ⟨⟨E,E,Be _,hc,E,E,E,E,Y⟩,Y,E,E⟩ ?_
 intro j hj hI
 ((first|refine rG Γ hm ?_|refine rD Γ hm z_ ?_);(conv=>whnf);repeat((first|refine aF ?_|refine aT ?_);(first|refine rG Γ hm ?_|refine rD Γ hm z_ ?_);conv=>whnf))
 refine⟨fun h=>?_,fun h=>?_⟩
 ·have h:=of_decide_eq_true h
  have hj2:j<l.length:=by omega
  ((first|refine rG Γ hm ?_|refine rD Γ hm z_ ?_);(conv=>whnf);repeat((first|refine aF ?_|refine aT ?_);(first|refine rG Γ hm ?_|refine rD Γ hm z_ ?_);conv=>whnf))
  refine⟨E,by omega,by omega,?_⟩
  ((conv=>whnf);repeat((first|refine aF ?_|refine aT ?_);(first|refine rG Γ hm ?_|refine rD Γ hm z_ ?_);conv=>whnf))
  refine E5 (hf l[j] (List.getElem_mem hj2)) E E E (by simp only[hin];rfl) E E ?_
  ((first|refine rG Γ hm ?_|refine rD Γ hm z_ ?_);(conv=>whnf);repeat((first|refine aF ?_|refine aT ?_);(first|refine rG Γ hm ?_|refine rD Γ hm z_ ?_);conv=>whnf))
  refine⟨fun h2=>?_,fun h2=>?_⟩
  ·((first|refine rG Γ hm ?_|refine rD Γ hm z_ ?_);(conv=>whnf);repeat((first|refine aF ?_|refine aT ?_);(first|refine rG Γ hm ?_|refine rD Γ hm z_ ?_);conv=>whnf))
   refine Ar E (.cons .tmp .nil) (congrArg Aa ?_) E
   exact Co hj2 (fun i hi hij=>by simpa using hI i hi hij) h2
  ·((first|refine rG Γ hm ?_|refine rD Γ hm z_ ?_);(conv=>whnf);repeat((first|refine aF ?_|refine aT ?_);(first|refine rG Γ hm ?_|refine rD Γ hm z_ ?_);conv=>whnf))
   refine iL ?_
   ((conv=>whnf);repeat((first|refine aF ?_|refine aT ?_);(first|refine rG Γ hm ?_|refine rD Γ hm z_ ?_);conv=>whnf))
   exact Bb [] hI hj2 (A8 hI hj2 (by simp[h2])) ⟨⟨E,E,Be _,hc,E,E,E,E,Y⟩,Y,E,E⟩
 ·have h:=of_decide_eq_false h
  ((first|refine rG Γ hm ?_|refine rD Γ hm z_ ?_);(conv=>whnf);repeat((first|refine aF ?_|refine aT ?_);(first|refine rG Γ hm ?_|refine rD Γ hm z_ ?_);conv=>whnf))
  refine Ar E (.cons .tmp .nil) (congrArg Aa ?_) E
  exact Do (fun i hi=>by simpa using hI i hi q_)
theorem Mb (l:List Irb) (p:Irb→Bool) (f:FuncId) (first cap:List SV) (hc:(SV.clo (.func f) first cap).inn []=true) (hf:∀ x∈l,Hc Tryz.prog f (first++[By x]++cap) (Ab (p x))) (hl:Aq l) :
  Sy.Spec Tryz.prog 263 [.sl 5 By l,.clo (.func f) first cap] [] (Ab (decide (0≤Br p l))) []:=cT F263 Tryz.ntmps263 fun F hF=>by
 have h0:Bs [] [.sl 5 By l,.clo (.func f) first cap]=true:=by simp only[Bs,hc];rfl
 ((conv=>whnf);repeat((first|refine aF ?_|refine aT ?_);(first|refine rG Γ hm ?_|refine rD Γ hm z_ ?_);conv=>whnf))
 refine Jh (Q7 l p f first cap hc hf hl) F325 E E (by simp only[h0];rfl) E E ?_
 ((first|refine rG Γ hm ?_|refine rD Γ hm z_ ?_);(conv=>whnf);repeat((first|refine aF ?_|refine aT ?_);(first|refine rG Γ hm ?_|refine rD Γ hm z_ ?_);conv=>whnf))
 exact dN
theorem e_irb {n:Net} (h:Af n=true) {i:Nat} (hi:i<n.irbs.length):U2 n i n.irbs[i]=true:=by
 simp only[Af,Bool.and_eq_true]at h
 exact allB_iff.1 h.2 i hi
abbrev Zp (a b:Int):SV:=.agg [A9 a,Aa b]
theorem Aar (a b:Int) (h:0≤b∧b≤32):Sy.Spec Tryz.prog 370 [Zp a b] [] (Ab true) []:=cT F370 Tryz.ntmps370 fun F hF=>by
 conv=>whnf
 refine⟨fun _=>?_,fun h2=>absurd (of_decide_eq_false h2) q_⟩
 refine oO ?_
 refine Ar E (.cons .tmp .nil) (congrArg Ab ?_) E
 simp;omega
def V0 (b:Int):Int:=IntKind.u32.wrap (IntKind.u32.wrap (1 * 2 ^ (min (32-b).toNat IntKind.u32.bits))-1)
theorem Acd (a b:Int) (h:0≤b∧b≤32):Sy.Spec Tryz.prog 371 [Zp a b] [] (A9 (V0 b)) []:=cT F371 Tryz.ntmps371 fun F hF=>by
 conv=>whnf
 refine iW ?_
 refine⟨by omega,?_⟩
 conv=>whnf
 exact dN
def Aek (a b x:Int):Bool:=bits .andNot .u32 (bits .xor .u32 a x) (V0 b) == 0
theorem Xf (a b x:Int) (h:0≤b∧b≤32):Sy.Spec Tryz.prog 383 [Zp a b,A9 x] [] (Ab (Aek a b x)) []:=cT F383 Tryz.ntmps383 fun F hF=>by
 have q1:=Aar a b h
 have q2:=Acd a b h
 rw[Aek]
 generalize V0 b=r at *
 conv=>whnf
 refine cD q1 F370 ?_
 (refine oD ?_;refine aT ?_;refine oD ?_)
 refine cD q2 F371 ?_
 refine oD ?_
 refine kW ?_
 exact dN
end Go.Sy.YtjenpnjajjplkaaGreatDoor
namespace Go.Sy.YtjenpnjajjplkaaGreatDoor
open Go.Proofs
set_option maxRecDepth 20000
set_option maxHeartbeats 4000000
theorem Aap (b:Int) (h:0≤b∧b≤32):V0 b=((2 ^ (32-b).toNat-1:Nat):Int):=by
 obtain ⟨k,hk,hk2⟩:∃ k:Nat,(32-b).toNat=k∧k≤32:=⟨_,rfl,by omega⟩
 have h1:min (32-b).toNat IntKind.u32.bits=k:=by show min (32-b).toNat 32=k;omega
 have hp:=Nat.pow_le_pow_right (n:=2) j_ hk2
 have e32:(2:Nat) ^ 32=4294967296:=rfl
 rw[e32]at hp
 have h0:=Nat.one_le_two_pow (n:=k)
 rw[V0,h1,hk,IntKind.wrap_u32,IntKind.wrap_u32,show (2:Int) ^ k=((2 ^ k:Nat):Int) by rw[Int.natCast_pow];rfl]
 generalize 2 ^ k=q at *
 omega
end Go.Sy.YtjenpnjajjplkaaGreatDoor
namespace Go.Sy.YtjenpnjajjplkaaGreatDoor
open Go.Proofs
theorem Ew (a b:ByteArray):(a == b)=true↔a=b:=by
 cases a with
 | mk a =>
  cases b with
  | mk b =>
   show (a == b)=true↔_
   simp
instance:LawfulBEq ByteArray where
 eq_of_beq h:=(Ew _ _).1 h
 rfl:=(Ew _ _).2 rfl
def Acx (c:UInt8):Bool:=decide (97≤c.toNat) && decide (c.toNat≤122)
def Ae4:List UInt8→Bool
 | []=>false
 | c::l=>Acx c && l.all fun c=>Acx c || Ek c
def Ap (s:ByteArray):Bool:=Ae4 s.data.toList && decide (s.size≤12)
def Lx (s:ByteArray) (i:Nat):Bool:=decide (digI (A0 s (3 * i))≤15) && decide (digI (A0 s (3 * i+1))≤15) && (decide (5≤i) || decide ((A0 s (3 * i+2)).toNat=58))
def Kq (s:ByteArray):Nat→Int
 | 0=>0
 | i+1=>Kq s i * 256+digI (A0 s (3 * i)) * 16+digI (A0 s (3 * i+1))
def macR (s:ByteArray):Int × Bool:=if s.size=17∧(List.range 6).all (Lx s)=true then (Kq s 6,true) else (0,false)
def I7 (m:Int):Bool:=decide (m % 281474976710656 / 4294967296=512)
def statB (m:Int):Bool:=decide (m≤281474976710655) && !(I7 m) && !(U4 m.toNat)
def Dn (one:ByteArray→Int × Bool):List Int→List ByteArray→List Int × Bool
 | out,[]=>(out,true)
 | out,p::r=>if (one p).2=false∨out.length=16∨(∃ x,out.getLast? = some x∧(one p).1≤x) then ([],false) else Dn one (out++[(one p).1]) r
def Db (one:ByteArray→Int × Bool) (s:ByteArray):List Int × Bool:=Dn one [] (Bj 44 s)
def Aes:ByteArray:=⟨#[45]⟩
def listR (most:Int) (s:ByteArray):List Int × Bool:=if s=Aes then ([],true) else Db (fun p=>numR p 1 most) s
def Ca (s:ByteArray):List Int × Bool:=Db B6 s
def prefixR (s:ByteArray):(Int × Int) × Bool :=
 if (cutT 47 s).2.2=false∨(B6 (cutT 47 s).1).2=false∨(smallT (cutT 47 s).2.1 32).2=false then ((0,0),false) else (((B6 (cutT 47 s).1).1,(smallT (cutT 47 s).2.1 32).1),true)
def subnetB (a bits:Int):Bool:=decide (1≤bits) && decide (bits≤30) && decide (a≠Ig a bits) && decide (a≠Q0 a bits)
def Ay:List (Bool × Int)→Int
 | []=>0
 | (b,e)::l=>if b=true then e else Ay l
def Ad (cur:Int) (b:Bool) (e:Int):Int:=if b=true∧cur=0 then e else cur
def kindL (s:ByteArray):Int :=
 if s=⟨#[100,101,118,105,99,101]⟩ then 1 else if s=⟨#[112,111,114,116]⟩ then 2 else if s=⟨#[108,105,110,107]⟩ then 3 else if s=⟨#[115,116,97,116,105,99]⟩ then 4
 else if s=⟨#[118,116,101,112]⟩ then 5 else if s=⟨#[118,110,105]⟩ then 6 else if s=⟨#[102,108,111,111,100]⟩ then 7 else if s=⟨#[118,114,102]⟩ then 8 else if s=⟨#[105,114,98]⟩ then 9 else 0
def C2:ByteArray:=⟨#[97,99,99,101,115,115]⟩
def Ct:ByteArray:=⟨#[116,114,117,110,107]⟩
def wdT (w:List ByteArray) (i:Nat):ByteArray:=(w[i]?).getD ⟨#[]⟩
def manyB (k:Int) (w:List ByteArray):Bool :=
 if k=0 then false
 else if k=2 then (if w.length<6 then false else if wdT w 4=C2 then decide (w.length=6) else if wdT w 4=Ct then decide (w.length=7) else decide (w.length≤7))
 else if k=3∨k=4∨k=8∨k=9 then decide (w.length=5) else if k=5 then decide (w.length=3) else decide (w.length=4)
def membersB (vlan:Int) (tagged:List Int):Bool:=(decide (0<vlan) || !tagged.isEmpty) && !(tagged.contains vlan)
def lineZ:LineM:=⟨0,0,⟨#[]⟩,⟨#[]⟩,⟨#[]⟩,⟨#[]⟩,⟨#[]⟩,0,0,0,0,0,0,[],[],[],[]⟩
def Bl (s:ByteArray):Int × Bool:=numR s 1 4094
def Iu (s:ByteArray):Int × Bool:=numR s 1 16777215
def Cf (w:List ByteArray):Int × List Int × List (Bool × Int) :=
 if wdT w 4=C2 then ((Bl (wdT w 5)).1,[],[(!(Bl (wdT w 5)).2,21)])
 else if wdT w 4=Ct then
  (if wdT w 5=Aes then (0,(listR 4094 (wdT w 6)).1,[(!(listR 4094 (wdT w 6)).2,21)])
   else ((Bl (wdT w 5)).1,(listR 4094 (wdT w 6)).1,[(!(Bl (wdT w 5)).2,21),(!(listR 4094 (wdT w 6)).2,21)]))
 else (0,[],[])
def A5 (w:List ByteArray) (row:Int):LineM × List (Bool × Int) :=
 let n:=fun i=>(!(Ap (wdT w i)),(20:Int))
 let k:=kindL (wdT w 0)
 if k=1 then ({ lineZ with row:=row,kind:=1,dev:=wdT w 1,num:=(numR (wdT w 2) 0 65535).1,mac:=(macR (wdT w 3)).1 },[n 1,(!(numR (wdT w 2) 0 65535).2,21),(!((macR (wdT w 3)).2 && statB (macR (wdT w 3)).1),21)])
 else if k=2 then ({ lineZ with row:=row,kind:=2,dev:=wdT w 1,port:=wdT w 2,cost:=(numR (wdT w 3) 1 65535).1,vlan:=(Cf w).1,tagged:=(Cf w).2.1 },
  [n 1,n 2,(!(numR (wdT w 3) 1 65535).2,21),(decide (wdT w 4≠C2) && decide (wdT w 4≠Ct),20)]++(Cf w).2.2++[(!(membersB (Cf w).1 (Cf w).2.1),21)])
 else if k=3 then ({ lineZ with row:=row,kind:=3,dev:=wdT w 1,port:=wdT w 2,peer:=wdT w 3,far:=wdT w 4 },[n 1,n 2,n 3,n 4])
 else if k=4 then ({ lineZ with row:=row,kind:=4,dev:=wdT w 1,vlan:=(Bl (wdT w 2)).1,mac:=(macR (wdT w 3)).1,port:=wdT w 4 },[n 1,(!(Bl (wdT w 2)).2,21),(!((macR (wdT w 3)).2 && statB (macR (wdT w 3)).1),21),n 4])
 else if k=5 then ({ lineZ with row:=row,kind:=5,dev:=wdT w 1,addr:=(B6 (wdT w 2)).1 },[n 1,(!((B6 (wdT w 2)).2 && decide ((B6 (wdT w 2)).1≠0)),21)])
 else if k=6 then ({ lineZ with row:=row,kind:=6,dev:=wdT w 1,vlan:=(Bl (wdT w 2)).1,num:=(Iu (wdT w 3)).1 },[n 1,(!(Bl (wdT w 2)).2,21),(!(Iu (wdT w 3)).2,21)])
 else if k=7 then ({ lineZ with row:=row,kind:=7,dev:=wdT w 1,num:=(Iu (wdT w 2)).1,addrs:=(Ca (wdT w 3)).1 },[n 1,(!(Iu (wdT w 2)).2,21),(!((Ca (wdT w 3)).2 && decide ((Ca (wdT w 3)).1.head? ≠ some 0)),21)])
 else if k=8 then ({ lineZ with row:=row,kind:=8,dev:=wdT w 1,name:=wdT w 2,imports:=(listR 65535 (wdT w 3)).1,exports:=(listR 65535 (wdT w 4)).1 },[n 1,n 2,(!(listR 65535 (wdT w 3)).2,21),(!(listR 65535 (wdT w 4)).2,21)])
 else ({ lineZ with row:=row,kind:=9,dev:=wdT w 1,vlan:=(Bl (wdT w 2)).1,name:=wdT w 3,addr:=(prefixR (wdT w 4)).1.1,bits:=(prefixR (wdT w 4)).1.2 },
  [n 1,(!(Bl (wdT w 2)).2,21),n 3,(!((prefixR (wdT w 4)).2 && subnetB (prefixR (wdT w 4)).1.1 (prefixR (wdT w 4)).1.2),21)])
def Bd (w:List ByteArray) (row:Int):LineM × Int :=
 if w=[]∨manyB (kindL (wdT w 0)) w=false then (lineZ,22) else if Ay (A5 w row).2≠0 then (lineZ,Ay (A5 w row).2) else ((A5 w row).1,0)
def Dt (cur:List UInt8):List ByteArray:=if cur=[] then [] else [mkT cur]
def Cq:List UInt8→List UInt8→List ByteArray
 | cur,[]=>Dt cur
 | cur,c::r=>if c=35 then Dt cur else if c=32∨c=9 then Dt cur++Cq [] r else Cq (cur++[c]) r
def Vm (c:UInt8):Bool:=decide (32<c.toNat) && decide (c.toNat≤126) && decide (c.toNat≠35)
def wordB (s:ByteArray):Bool:=decide (0<s.size) && decide (s.size≤40) && s.data.toList.all Vm
def wordsT (row:ByteArray):List ByteArray × Int:=if (Cq [] row.data.toList).all wordB=true then (Cq [] row.data.toList,0) else ([],20)
def E8:Nat→List ByteArray→List LineM→List LineM × Int × Int
 | _,[],out=>(out,0,0)
 | i,r::rs,out =>
  if (wordsT r).2≠0 then ([],(i:Int)+1,(wordsT r).2) else if (wordsT r).1=[] then E8 (i+1) rs out
  else if (Bd (wordsT r).1 ((i:Int)+1)).2≠0 then ([],(i:Int)+1,(Bd (wordsT r).1 ((i:Int)+1)).2) else E8 (i+1) rs (out++[(Bd (wordsT r).1 ((i:Int)+1)).1])
def textT (b:List UInt8):List LineM × Int × Int:=if (rowsT b).2≠0 then ([],0,(rowsT b).2) else E8 0 (rowsT b).1 []
def Hn (a b:LineM):Bool :=
 a.row == b.row && (a.kind == b.kind && (a.dev == b.dev && (a.port == b.port && (a.peer == b.peer && (a.far == b.far && (a.name == b.name && (a.mac == b.mac && (a.addr == b.addr && (a.bits == b.bits &&
 (a.vlan == b.vlan && (a.num == b.num && (a.cost == b.cost && (a.tagged == b.tagged && (a.imports == b.imports && (a.exports == b.exports && a.addrs == b.addrs)))))))))))))))
def Bf (n lo hi:Int):Bool:=decide (lo≤n) && decide (n≤hi)
abbrev Ch (l:List Int) (hi:Int):Bool:=Jo l hi
def Ej (l:List Int):Bool:=(List.range l.length).all (fun i=>decide (l.getD i 0≠0) && (i == 0 || decide (l.getD (i-1) 0<l.getD i 0))) && (decide (0<l.length) && decide (l.length≤16))
def Av (l:LineM):LineM × Bool :=
 let u:LineM:={ lineZ with row:=l.row,kind:=l.kind,dev:=l.dev }
 if l.kind=1 then ({ u with num:=l.num,mac:=l.mac },Bf l.num 0 65535 && statB l.mac)
 else if l.kind=2 then ({ u with port:=l.port,cost:=l.cost,vlan:=l.vlan,tagged:=l.tagged },Ap l.port && (Bf l.cost 1 65535 && (Bf l.vlan 0 4094 && (Ch l.tagged 4094 && membersB l.vlan l.tagged))))
 else if l.kind=3 then ({ u with port:=l.port,peer:=l.peer,far:=l.far },Ap l.port && (Ap l.peer && Ap l.far))
 else if l.kind=4 then ({ u with vlan:=l.vlan,mac:=l.mac,port:=l.port },Bf l.vlan 1 4094 && (statB l.mac && Ap l.port))
 else if l.kind=5 then ({ u with addr:=l.addr },decide (l.addr≠0))
 else if l.kind=6 then ({ u with vlan:=l.vlan,num:=l.num },Bf l.vlan 1 4094 && Bf l.num 1 16777215)
 else if l.kind=7 then ({ u with num:=l.num,addrs:=l.addrs },Bf l.num 1 16777215 && Ej l.addrs)
 else if l.kind=8 then ({ u with name:=l.name,imports:=l.imports,exports:=l.exports },Ap l.name && (Ch l.imports 65535 && Ch l.exports 65535))
 else if l.kind=9 then ({ u with vlan:=l.vlan,name:=l.name,addr:=l.addr,bits:=l.bits },Bf l.vlan 1 4094 && (Ap l.name && subnetB l.addr l.bits))
 else (u,false)
def Bk (l:LineM):Bool:=(Av l).2 && (Ap l.dev && Hn (Av l).1 l)
end Go.Sy.YtjenpnjajjplkaaGreatDoor
namespace Go.Sy.YtjenpnjajjplkaaGreatDoor
open Go.Proofs
attribute [local irreducible] Go.Sy.G Go.Sy.DR
structure Bx (Q:Prop):Prop where out:Q
theorem sE {α:Sort _} {a b:α} {K:Prop} (e:a=b) (h:K):a=b∧K:=⟨e,h⟩
theorem xE {α:Sort _} {a b:α} {K:a=b→Prop} (e:a=b) (h:K e):∃ e:a=b,K e:=⟨e,h⟩
theorem sL {a b:Int} {K:Prop} (e:a≤b) (h:K):a≤b∧K:=⟨e,h⟩
theorem xL {a b:Int} {K:a≤b→Prop} (e:a≤b) (h:K e):∃ e:a≤b,K e:=⟨e,h⟩
theorem sM {a b:Nat} {K:Prop} (e:a≤b) (h:K):a≤b∧K:=⟨e,h⟩
theorem sT {a b:Nat} {K:Prop} (e:a<b) (h:K):a<b∧K:=⟨e,h⟩
theorem xT {a b:Nat} {K:a<b→Prop} (e:a<b) (h:K e):∃ e:a<b,K e:=⟨e,h⟩
theorem sN {a b:Int} {K:Prop} (e:a≠b) (h:K):a≠b∧K:=⟨e,h⟩
theorem sI {a:Int} {K:Prop} (e:I64 a) (h:K):I64 a∧K:=⟨e,h⟩
theorem ct {p q:Prop} {b:Bool} (h:q) (e:b=true→False:=by
 intro _h
 first | exact absurd _h j_ | exact Bool.false_ne_true (Eq.trans (Eq.symm (by with_reducible assumption)) _h) | (simp at _h;done) | (simp at _h;omega)):(b=true→p)∧(b=false→q):=⟨fun x=>(e x).elim,fun _=>h⟩
theorem cf {p q:Prop} {b:Bool} (h:p) (e:b=false→False:=by
 intro _h
 first | exact absurd _h j_ | exact Bool.false_ne_true (Eq.trans (Eq.symm _h) (by with_reducible assumption)) | (simp at _h;done) | (simp at _h;omega)):(b=true→p)∧(b=false→q):=⟨fun _=>h,fun x=>(e x).elim⟩
theorem S {P Q:Prop} (h:Q) (e:Bx Q→P:=by
 intro hb
 first | refine rg ?_ | refine rd z_ ?_ | skip
 conv=>whnf
 repeat (first
  | ((first | refine aF ?_ | refine aT ?_ | refine ct ?_ | refine cf ?_);(first | refine rg ?_ | refine rd z_ ?_);(conv=>whnf))
  | ((first | refine⟨(by kernel_rfl:Vd _ _=true),?_⟩ | refine sI (by unfold I64;omega) ?_);(conv=>whnf)))
 exact hb.out):P:=e ⟨h⟩
theorem T {P Q:Prop} (h:Q) (e:Bx Q→P:=by
 intro hb
 refine S ?_
 repeat ((first | refine sE (by exact rfl) ?_ | refine sL (by first | omega | decide) ?_ | refine xL (by first | omega | decide) ?_ | refine sT (by first | omega | decide) ?_ | refine xT (by first | omega | decide) ?_ | refine sM (by first | omega | decide) ?_ | refine sN (by first | omega | decide) ?_ | refine xE (by exact rfl) ?_);refine S ?_)
 exact hb.out):P:=e ⟨h⟩
theorem D {P:Prop} (h:P:=by
 apply Ar
 ·exact E
 ·(repeat (first | exact ResVs.nil | (apply ResVs.cons;(first | exact .tmp | exact .cell rfl rfl rfl rfl))))
 ·exact E
 ·exact E):P:=h
theorem U {P:Prop} (h:P:=by
 refine⟨?_,?_,E,E⟩
 ·repeat (first | exact trivial | exact rfl | refine⟨rfl,rfl,?_⟩)
 ·repeat (first | exact trivial | refine⟨.inl rfl,rfl,?_⟩ | refine⟨.inr rfl,rfl,?_⟩)):P:=h
theorem W {P:Prop} (h:P:=by
 repeat (first | exact trivial | exact rfl | refine⟨rfl,?_⟩)):P:=h
theorem V {P:Prop} (h:P:=by
 repeat (first | exact trivial | refine⟨.inl rfl,?_⟩ | refine⟨.inr rfl,?_⟩)):P:=h
theorem C {P:Program} {f:FuncId} {fn:Func} {c:Code} {A:List SV} {R:SV} {Z Q:Prop} (hs:Sy.Spec P f A [] R []) (hf:Fun P f fn c) (h:Q) (e:Sy.Spec P f A [] R []→Fun P f fn c→Bx Q→Z:=by
 intro hs hf hb
 first | refine Jh hs hf rfl rfl rfl rfl rfl ?_ | refine Adk hs hf rfl rfl rfl z_ rfl ?_
 refine T ?_
 exact hb.out):Z:=e hs hf ⟨h⟩
theorem X {C:Cx} {k:List KI} {s:SS} {all:Array Oper} {o:Oper} {rest:List Oper} {V:Up} {Q:Prop} (hg:Good C.P o s V) (h:Q) (hd:K6 C.n o=true:=by exact rfl) (hw:Dq C.n all o s=some true:=by exact rfl) (e:Bx Q→G C (.ops all rest::k) (s.upd o.dst V):=by
 intro hb
 refine T ?_
 exact hb.out):G C (.ops all (o::rest)::k) s:=Cg hg hd hw (e ⟨h⟩)
theorem Xd {C:Cx} {k:List KI} {s:SS} {all:Array Oper} {done:List Stp} {o:Oper} {rest:List Oper} {V:Up} {Q:Prop} (hg:Good C.P o s V) (h:Q) (hi:all[done.length]? = some o:=by kernel_rfl) (hw:Dq C.n all o s=some true:=by exact rfl) (hn:(H6 o || Ld o)=false:=by exact rfl) (e:Bx Q→DR C k all (done++[⟨done.length,o,V,true⟩]) rest (s.upd o.dst V):=by
 intro hb
 refine T ?_
 exact hb.out):DR C k all done (o::rest) s:=H2 hg hi hw (e ⟨h⟩) hn
end Go.Sy.YtjenpnjajjplkaaGreatDoor
namespace Go.Sy.YtjenpnjajjplkaaGreatDoor
open Go.Proofs
attribute [local irreducible] Go.Sy.G Go.Sy.DR
set_option maxRecDepth 100000
set_option maxHeartbeats 4000000
structure LineFin (l:LineM):Prop where
 t:l.tagged.length≤100000
 i:l.imports.length≤100000
 e:l.exports.length≤100000
 a:l.addrs.length≤100000
theorem Kd {κ:Ka} {w:World} {k sz:Nat} {α:Type} {e:α→SV} {l:List α} (hne:l≠[]) (h:ObOK κ w k (.row sz e l)):∃ b n c,κ k=.row b n c:=by
 rcases h with ⟨_,h⟩ | ⟨b,cap,_,_,_,h,_⟩
 ·exact absurd h hne
 ·exact⟨b,_,cap,h⟩
theorem Er (l:List Int) (hl:l.length<2147483648):Sy.Spec Tryz.prog 159 [.sl 1 Aa l] [] (.sl 1 Aa l) []:=cT F159 Tryz.ntmps159 fun F hF=>by
 conv=>whnf
 refine D8 E (.inl E) E E E .sl E E ?_
 intro b hb
 cases b
 ·refine oF ?_
  refine Cg (Ak Γ.toTy 7 E E E E E (.lit (e:=Aa) (l:=[]) E E) .sl y_ (by simp;omega) (by simp;omega)) E E ?_
  refine Ag 7 E ?_
  refine oO ?_
  exact dN
 ·have h0:l=[]:=List.eq_nil_of_length_eq_zero (hb rfl)
  subst h0
  refine oT ?_
  refine De 2 1 Aa E ?_
  exact dN
theorem T8 (l:List Int) (hl:l.length<2147483648):Sy.Spec Tryz.prog 160 [.sl 1 A9 l] [] (.sl 1 A9 l) []:=cT F160 Tryz.ntmps160 fun F hF=>by
 conv=>whnf
 refine D8 E (.inl E) E E E .sl E E ?_
 intro b hb
 cases b
 ·refine oF ?_
  refine Cg (Ak Γ.toTy 7 E E E E E (.lit (e:=A9) (l:=[]) E E) .sl y_ (by simp;omega) (by simp;omega)) E E ?_
  refine Ag 7 E ?_
  refine oO ?_
  exact dN
 ·have h0:l=[]:=List.eq_nil_of_length_eq_zero (hb rfl)
  subst h0
  refine oT ?_
  refine De 2 1 A9 E ?_
  exact dN
theorem Zb (l:List Port) (hl:l.length<2147483648):Sy.Spec Tryz.prog 152 [.sl 7 A2 l] [] (.osl 0) [(0,.row 7 A2 l)]:=cT F152 Tryz.ntmps152 fun F hF=>by
 conv=>whnf
 refine D8 E (.inl E) E E E .sl E E ?_
 intro b hb
 cases b
 ·refine oF ?_
  refine Cg (Ak Γ.toTy 7 E E E E E (.lit (e:=A2) (l:=[]) E E) .sl y_ (by simp;omega) (by simp;omega)) E E ?_
  refine oO ?_
  exact done E (.cons .tmp .nil) [(0,7)] [(0,.row 7 A2 l)] (fun _ h=>h) E E ⟨Y,⟨.inl E,E,Y⟩,E,E⟩
 ·have h0:l=[]:=List.eq_nil_of_length_eq_zero (hb rfl)
  subst h0
  refine oT ?_
  refine C3 2 1000 7 A2 E E ?_
  exact done E (.cons .tmp .nil) [(0,1000)] [(0,.row 7 A2 [])] (fun _ h=>h) E E ⟨Y,⟨.inl E,E,Y⟩,E,E⟩
theorem Vi (l:List Domain) (hl:l.length<2147483648):Sy.Spec Tryz.prog 154 [.sl 6 Ai l] [] (.osl 0) [(0,.row 6 Ai l)]:=cT F154 Tryz.ntmps154 fun F hF=>by
 conv=>whnf
 refine D8 E (.inl E) E E E .sl E E ?_
 intro b hb
 cases b
 ·refine oF ?_
  refine Cg (Ak Γ.toTy 7 E E E E E (.lit (e:=Ai) (l:=[]) E E) .sl y_ (by simp;omega) (by simp;omega)) E E ?_
  refine oO ?_
  exact done E (.cons .tmp .nil) [(0,7)] [(0,.row 6 Ai l)] (fun _ h=>h) E E ⟨Y,⟨.inl E,E,Y⟩,E,E⟩
 ·have h0:l=[]:=List.eq_nil_of_length_eq_zero (hb rfl)
  subst h0
  refine oT ?_
  refine C3 2 1000 6 Ai E E ?_
  exact done E (.cons .tmp .nil) [(0,1000)] [(0,.row 6 Ai [])] (fun _ h=>h) E E ⟨Y,⟨.inl E,E,Y⟩,E,E⟩
theorem W9 (l:List Flood) (hl:l.length<2147483648):Sy.Spec Tryz.prog 156 [.sl 4 A3 l] [] (.osl 0) [(0,.row 4 A3 l)]:=cT F156 Tryz.ntmps156 fun F hF=>by
 conv=>whnf
 refine D8 E (.inl E) E E E .sl E E ?_
 intro b hb
 cases b
 ·refine oF ?_
  refine Cg (Ak Γ.toTy 7 E E E E E (.lit (e:=A3) (l:=[]) E E) .sl y_ (by simp;omega) (by simp;omega)) E E ?_
  refine oO ?_
  exact done E (.cons .tmp .nil) [(0,7)] [(0,.row 4 A3 l)] (fun _ h=>h) E E ⟨Y,⟨.inl E,E,Y⟩,E,E⟩
 ·have h0:l=[]:=List.eq_nil_of_length_eq_zero (hb rfl)
  subst h0
  refine oT ?_
  refine C3 2 1000 4 A3 E E ?_
  exact done E (.cons .tmp .nil) [(0,1000)] [(0,.row 4 A3 [])] (fun _ h=>h) E E ⟨Y,⟨.inl E,E,Y⟩,E,E⟩
theorem Abh (l:List Vrf) (hl:l.length<2147483648):Sy.Spec Tryz.prog 157 [.sl 5 Bz l] [] (.osl 0) [(0,.row 5 Bz l)]:=cT F157 Tryz.ntmps157 fun F hF=>by
 conv=>whnf
 refine D8 E (.inl E) E E E .sl E E ?_
 intro b hb
 cases b
 ·refine oF ?_
  refine Cg (Ak Γ.toTy 7 E E E E E (.lit (e:=Bz) (l:=[]) E E) .sl y_ (by simp;omega) (by simp;omega)) E E ?_
  refine oO ?_
  exact done E (.cons .tmp .nil) [(0,7)] [(0,.row 5 Bz l)] (fun _ h=>h) E E ⟨Y,⟨.inl E,E,Y⟩,E,E⟩
 ·have h0:l=[]:=List.eq_nil_of_length_eq_zero (hb rfl)
  subst h0
  refine oT ?_
  refine C3 2 1000 5 Bz E E ?_
  exact done E (.cons .tmp .nil) [(0,1000)] [(0,.row 5 Bz [])] (fun _ h=>h) E E ⟨Y,⟨.inl E,E,Y⟩,E,E⟩
theorem Aak {s:ByteArray} (h:s.size=0):s=⟨#[]⟩:=by
 have h2:s.data.toList.length=0:=h
 exact Sg (List.eq_nil_of_length_eq_zero h2)
theorem Aa3 (s:ByteArray) (hs:s.size≤1000000):Sy.Spec Tryz.prog 228 [Ah s] [] (Ab (wordB s)) []:=cT F228 Tryz.ntmps228 fun F hF=>by
 have hsz:s.data.toList.length=s.size:=rfl
 have hw:=wordB.eq_1 s
 obtain ⟨r,hr⟩:∃ r,wordB s=r:=⟨_,rfl⟩
 rw[hr]at hw ⊢
 refine T ?_
 refine A6 s.size (fun j=>El (fun _ c=>Vm c) s.data.toList j) (fun j=>[(0,Ah s),(5,Aa s.size),(6,Aa j)]) (fun _=>[]) [] (Bc _ _) U ?_
 intro j hj hI
 refine T ?_
 refine⟨fun h=>?_,fun h=>?_⟩
 ·have hlt:j<s.data.toList.length:=qA h
  have hb:A0 s j=s.data.toList[j]:=Qd hlt
  have hno:=fun h=>@all_at' _ Vm s.data.toList j hlt h
  have hnx:=fun h=>A8 (p:=fun _ c=>Vm c) hI hlt h
  rw[← hb]at hno hnx
  clear h
  have hx:Vm (A0 s j)=(decide (32<(A0 s j).toNat) && decide ((A0 s j).toNat≤126) && decide ((A0 s j).toNat≠35)):=rfl
  by_cases h1:32<(A0 s j).toNat
  ·by_cases h2:(A0 s j).toNat≤126
   ·by_cases h3:(A0 s j).toNat=35
    ·rw[hno (by rw[hx];simp[h3]),Bool.and_false]at hw
     subst hw
     refine T ?_
     exact D
    ·refine T ?_
     exact Bb [] hI q_ (hnx (by rw[hx];simp[h1,h2,h3])) U
   ·rw[hno (by rw[hx];simp[h2]),Bool.and_false]at hw
    subst hw
    refine T ?_
    exact D
  ·rw[hno (by rw[hx];simp[h1]),Bool.and_false]at hw
   subst hw
   refine T ?_
   exact D
 ·have hje:j=s.size:=qB h
  subst hje
  rw[M0 hI (Nat.le_refl _),Bool.and_true]at hw
  clear h
  by_cases h0:s.size=0
  ·have hs:=Aak h0
   have he:(s == (⟨#[]⟩:ByteArray))=true:=(Ew _ _).2 hs
   have hw:r=false:=by rw[hw,h0];rfl
   have he2:(!(s == (⟨#[]⟩:ByteArray)))=false:=by rw[he];rfl
   subst hw
   refine T ?_
   exact D
  ·have he:(s == (⟨#[]⟩:ByteArray))=false:=by
    cases he:(s == (⟨#[]⟩:ByteArray))
    ·rfl
    ·exact absurd (by rw[(Ew _ _).1 he];rfl) h0
   have he2:(!(s == (⟨#[]⟩:ByteArray)))=true:=by rw[he];rfl
   by_cases h4:s.size≤40
   ·have hw:r=true:=by rw[hw];simp[h4];omega
    subst hw
    refine T ?_
    refine Ar E (.cons .tmp .nil) (congrArg Ab ?_) E
    exact(decide_eq_true q_).symm
   ·have hw:r=false:=by rw[hw];simp[h4]
    subst hw
    refine T ?_
    refine Ar E (.cons .tmp .nil) (congrArg Ab ?_) E
    exact(decide_eq_false q_).symm
abbrev strO (row:ByteArray) (f:Nat) (l:List ByteArray):Obs:=[(1,.box [Aa f]),(2,.box [.osl 3]),(3,.row 1 Ah l),(4,.box [Ah row])]
abbrev strN (row:ByteArray) (f:Nat) (l:List ByteArray):Obs:=[(1,.box [Aa f]),(2,.box [.osl 5]),(3,.non),(5,.row 1 Ah l),(4,.box [Ah row])]
theorem Abz (row:ByteArray) (f i:Nat) (l:List ByteArray) (hfi:f≤i) (hi:i≤row.size) (hs:row.size≤1000000) (hl:l.length≤1000000) :
  Sy.Spec Tryz.prog 298 [Aa i,.ptr 1 0,.ptr 2 0,.ptr 4 0] (strO row f l) (.tup []) (strN row (i+1) (l++Dt ((row.data.toList.take i).drop f))):=cT F298 Tryz.ntmps298 fun F hF=>by
 have hsz:row.data.toList.length=row.size:=rfl
 have hx:row.extract f i=mkT ((row.data.toList.take i).drop f):=by rw[← Ck,Ec]
 refine T ?_
 refine⟨fun h=>?_,fun h=>?_⟩
 ·have h1:f<i:=qA h
  have hne:(row.data.toList.take i).drop f≠[]:=fun e=>by
   have:=congrArg List.length e
   rw[List.length_drop,List.length_take]at this
   simp at this;omega
  rw[Dt,if_neg hne,← hx]
  refine T ?_
  refine⟨⟨by omega,by omega,by omega⟩,?_⟩
  refine T ?_
  refine Xd (Ak Γ.toTy 14 E E E E E (.row E) (.lit (e:=Ah) (l:=[row.extract f i]) E E) y_ (by simp;omega) (by simp;omega)) ?_
  refine T ?_
  exact Cb E .nil [(5,14)] (strN row (i+1) (l++[row.extract f i])) (fun _ h=>h) E E U
 ·have h1:¬ f<i:=qB h
  have he:(row.data.toList.take i).drop f=[]:=List.drop_eq_nil_of_le (by rw[List.length_take];omega)
  rw[he,Dt,if_pos rfl,List.append_nil]
  refine Adx 3 1000 E E j_ ?_
  refine T ?_
  exact Cb E .nil [(5,1000)] (strN row (i+1) l) (fun _ h=>h) E E U
theorem Xn (row:ByteArray) (hs:row.size≤100000):Sy.Spec Tryz.prog 227 [Ah row] [] (.sl 1 Ah (Cq [] row.data.toList)) []:=cT F227 Tryz.ntmps227 fun F hF=>by
 have hsz:row.data.toList.length=row.size:=rfl
 refine T ?_
 refine Xi 3 0 1000 1 Ah E E E E ?_
 refine T ?_
 refine B3 (fun x:List ByteArray × Nat × Nat=>Cq [] row.data.toList=x.1++Cq ((row.data.toList.take x.2.2).drop x.2.1) (row.data.toList.drop x.2.2)∧x.2.1≤x.2.2∧x.2.2≤row.size∧x.1.length≤x.2.2)
  (fun x=>[(1,.ptr 1 0),(3,.ptr 3 0),(5,.clo (.func 298) [] [.ptr 4 0,.ptr 3 0,.ptr 1 0]),(6,Aa x.2.2)]) (fun x=>[(1,.box [Ah row]),(3,.box [.osl 1000]),(4,.box [Aa x.2.1]),(1000,.row 1 Ah x.1)]) (fun x=>row.size-x.2.2) ([],0,0) [] ⟨rfl,by simp,by simp,by simp⟩ U ?_
 rintro ⟨l,f,i⟩ ⟨hI,hfi,his,hlen⟩
 dsimp only at hI hfi his hlen ⊢
 have q:=fun i hfi hi=>Abz row f i l hfi hi q_ q_
 refine T ?_
 refine⟨fun h=>?_,fun h=>?_⟩
 ·have hlt:i<row.size:=qA h
  have hlt':i<row.data.toList.length:=hlt
  have hb:A0 row i=row.data.toList[i]:=Qd hlt'
  have hdr:row.data.toList.drop i=row.data.toList[i]::row.data.toList.drop (i+1):=List.drop_eq_getElem_cons hlt'
  have htk:(row.data.toList.take (i+1)).drop f=(row.data.toList.take i).drop f++[row.data.toList[i]]:=by
   rw[List.take_succ_eq_append_getElem hlt',List.drop_append_of_le_length (by rw[List.length_take];omega)]
  rw[← hb]at hdr htk
  have q:=q i hfi q_
  clear h
  rw[hdr,Cq]at hI
  have hlf:(l++Dt ((row.data.toList.take i).drop f)).length≤i+1:=by
   rw[Dt];split<;>simp<;>omega
  have e0:(row.data.toList.take (i+1)).drop (i+1)=[]:=List.drop_eq_nil_of_le (by rw[List.length_take];omega)
  have h35:A0 row i=35↔(A0 row i).toNat=35:=⟨fun e=>by rw[e];rfl,fun e=>UInt8.toNat_inj.1 e⟩
  have h32:A0 row i=32↔(A0 row i).toNat=32:=⟨fun e=>by rw[e];rfl,fun e=>UInt8.toNat_inj.1 e⟩
  have h9:A0 row i=9↔(A0 row i).toNat=9:=⟨fun e=>by rw[e];rfl,fun e=>UInt8.toNat_inj.1 e⟩
  by_cases c1:(A0 row i).toNat=35
  ·rw[if_pos (h35.2 c1)]at hI
   rw[hI]
   refine T ?_
   refine X (Am [(1,4),(2,3),(3,1000),(4,1),(5,900)] (An E E F298) q E W E V) ?_
   refine Ag 900 E ?_
   refine T ?_
   exact D
  ·rw[if_neg (fun e=>c1 (h35.1 e))]at hI
   by_cases c2:(A0 row i).toNat=32∨(A0 row i).toNat=9
   ·rw[if_pos (c2.elim (fun e=>.inl (h32.2 e)) (fun e=>.inr (h9.2 e)))]at hI
    by_cases c3:(A0 row i).toNat=32
    ·refine T ?_
     refine X (Am [(1,4),(2,3),(3,1000),(4,1),(5,900)] (An E E F298) q E W E V) ?_
     refine Az (l++Dt ((row.data.toList.take i).drop f),i+1,i+1) [(1000,900)] ⟨?_,Nat.le_refl _,hlt,hlf⟩ (by dsimp only;omega) U
     dsimp only
     rw[hI,List.append_assoc,e0]
    ·refine T ?_
     refine X (Am [(1,4),(2,3),(3,1000),(4,1),(5,900)] (An E E F298) q E W E V) ?_
     refine Az (l++Dt ((row.data.toList.take i).drop f),i+1,i+1) [(1000,900)] ⟨?_,Nat.le_refl _,hlt,hlf⟩ (by dsimp only;omega) U
     dsimp only
     rw[hI,List.append_assoc,e0]
   ·simp only[not_or]at c2
    rw[if_neg (by rw[h32,h9];omega)]at hI
    refine T ?_
    refine Az (l,f,i+1) [] ⟨?_,by dsimp only;omega,hlt,by dsimp only;omega⟩ (by dsimp only;omega) U
    dsimp only
    rw[hI,htk]
 ·have hie:i=row.size:=qB h
  subst hie
  have q:=q row.size hfi q_
  have hdl:row.data.toList.drop row.size=[]:=by rw[← hsz,List.drop_length]
  rw[hdl,Cq]at hI
  rw[hI]
  clear h
  refine T ?_
  refine X (Am [(1,4),(2,3),(3,1000),(4,1),(5,900)] (An E E F298) q E W E V) ?_
  refine Ag 900 E ?_
  refine T ?_
  exact D
theorem H1:∀ (l cur:List UInt8),(Cq cur l).length≤l.length+1
 | [],cur=>by rw[Cq,Dt];split<;>simp
 | c::l,cur=>by
  rw[Cq]
  have h1:=H1 l []
  have h2:=H1 l (cur++[c])
  have h3:(Dt cur).length≤1:=by rw[Dt];split<;>simp
  split
  ·simp;omega
  ·split
   ·simp;omega
   ·simp;omega
theorem It:∀ (l cur:List UInt8),∀ s∈Cq cur l,s.size≤cur.length+l.length
 | [],cur,s,hs=>by
  rw[Cq,Dt]at hs
  split at hs
  ·cases hs
  ·simp at hs;rw[hs,Dk];simp
 | c::l,cur,s,hs=>by
  have h3:∀ s∈Dt cur,s.size≤cur.length:=fun s hs=>by
   rw[Dt]at hs
   split at hs
   ·cases hs
   ·simp at hs;rw[hs,Dk];exact Nat.le_refl _
  rw[Cq]at hs
  split at hs
  ·have:=h3 s hs;omega
  ·split at hs
   ·rcases List.mem_append.1 hs with hs | hs
    ·have:=h3 s hs;omega
    ·have:=It l [] s hs
     simp at this ⊢;omega
   ·have:=It l (cur++[c]) s hs
    simp at this ⊢;omega
theorem Yv (row:ByteArray) (hs:row.size≤100000):Sy.Spec Tryz.prog 145 [Ah row] [] (.tup [.sl 1 Ah (wordsT row).1,Aa (wordsT row).2]) []:=cT F145 Tryz.ntmps145 fun F hF=>by
 have q:=Xn row hs
 have hres:=wordsT.eq_1 row
 have hlen:=H1 row.data.toList []
 have hsz:=It row.data.toList []
 have hrs:row.data.toList.length=row.size:=rfl
 generalize wordsT row=res at *
 generalize Cq [] row.data.toList=l at *
 refine T ?_
 refine C q F227 ?_
 refine A6 l.length (fun j=>El (fun _ s=>wordB s) l j) (fun j=>[(4,.sl 1 Ah l),(9,.sl 1 Ah l),(10,Aa l.length),(11,Aa j)]) (fun _=>[]) [] (Bc _ _) U ?_
 intro j hj hI
 refine T ?_
 refine⟨fun h=>?_,fun h=>?_⟩
 ·have hlt:j<l.length:=qA h
  have hlt0:((j:Nat):Int).toNat<l.length:=hlt
  have hno:=fun h=>@all_at' _ wordB l j hlt h
  have hnx:=fun h=>A8 (p:=fun _ s=>wordB s) hI hlt h
  have hsj:=hsz l[j] (List.getElem_mem hlt)
  clear h
  refine T ?_
  refine C (Aa3 (l[((j:Nat):Int).toNat]'hlt0) (by rw[show l[((j:Nat):Int).toNat]'hlt0=l[j] from E];simp at hsj;omega)) F228 ?_
  refine⟨fun h=>?_,fun h=>?_⟩
  ·have hf:wordB l[j]=false:=by simpa using h
   rw[if_neg (by rw[hno hf];simp)]at hres
   subst hres
   refine T ?_
   refine De 2 1 Ah E ?_
   refine T ?_
   exact D
  ·have ht:wordB l[j]=true:=by simpa using h
   refine T ?_
   exact Bb [] hI q_ (hnx ht) U
 ·have hje:j=l.length:=qB h
  subst hje
  rw[if_pos (M0 hI (Nat.le_refl _))]at hres
  subst hres
  refine T ?_
  exact D
def Kz (i:Nat) (c:UInt8):Bool:=Acx c || (Ek c && decide (i≠0))
theorem Aco (s:ByteArray):Ap s=(Dp Kz s.data.toList && (decide (0<s.size) && decide (s.size≤12))):=by
 have hsz:s.data.toList.length=s.size:=rfl
 rw[Ap,← hsz]
 cases hl:s.data.toList with
 | nil=>rfl
 | cons c l =>
  have e:Dp Kz (c::l)=(Acx c && l.all fun c=>Acx c || Ek c):=by
   rw[Bool.eq_iff_iff,allB_iff,Bool.and_eq_true,List.all_eq_true]
   constructor
   ·intro h
    refine⟨by have:=h 0 y_;simpa [Kz] using this,fun x hx=>?_⟩
    obtain ⟨i,hi,rfl⟩:=List.mem_iff_getElem.1 hx
    have:=h (i+1) (by simp;omega)
    simpa [Kz] using this
   ·rintro ⟨h1,h2⟩ i hi
    cases i with
    | zero=>simp[Kz,h1]
    | succ i =>
     have:=h2 (l[i]'(by simp at hi;omega)) (List.getElem_mem _)
     simpa [Kz] using this
  rw[e,Ae4]
  simp
theorem Ea (s:ByteArray) (hs:s.size≤1000000):Sy.Spec Tryz.prog 299 [Ah s] [] (Ab (Ap s)) []:=cT F299 Tryz.ntmps299 fun F hF=>by
 have hsz:s.data.toList.length=s.size:=rfl
 have hw:=Aco s
 obtain ⟨r,hr⟩:∃ r,Ap s=r:=⟨_,rfl⟩
 rw[hr]at hw ⊢
 refine T ?_
 refine A6 s.size (fun j=>El Kz s.data.toList j) (fun j=>[(0,Ah s),(7,Aa s.size),(8,Aa j)]) (fun _=>[]) [] (Bc _ _) U ?_
 intro j hj hI
 refine T ?_
 refine⟨fun h=>?_,fun h=>?_⟩
 ·have hlt:j<s.data.toList.length:=qA h
  have hb:A0 s j=s.data.toList[j]:=Qd hlt
  have hno:=fun h=>Bv (p:=Kz) hlt h
  have hnx:=fun h=>A8 (p:=Kz) hI hlt h
  rw[← hb]at hno hnx
  clear h
  have hx:Kz j (A0 s j)=((decide (97≤(A0 s j).toNat) && decide ((A0 s j).toNat≤122)) || ((decide (48≤(A0 s j).toNat) && decide ((A0 s j).toNat≤57)) && decide (j≠0))):=rfl
  rcases (by omega:(A0 s j).toNat<48∨(48≤(A0 s j).toNat∧(A0 s j).toNat≤57)∨(57<(A0 s j).toNat∧(A0 s j).toNat<97)∨(97≤(A0 s j).toNat∧(A0 s j).toNat≤122)∨122<(A0 s j).toNat) with h | h | h | h | h
  ·rw[hno (by rw[hx,decide_eq_false (by omega:¬ 97≤(A0 s j).toNat),decide_eq_false (by omega:¬ 48≤(A0 s j).toNat)];rfl),Bool.false_and]at hw
   subst hw
   refine T ?_
   exact D
  ·by_cases h0:j=0
   ·subst h0
    rw[hno (by rw[hx,decide_eq_false (by omega:¬ 97≤(A0 s 0).toNat)];simp),Bool.false_and]at hw
    subst hw
    refine T ?_
    exact D
   ·refine T ?_
    exact Bb [] hI q_ (hnx (by rw[hx];simp[h,h0])) U
  ·rw[hno (by rw[hx,decide_eq_false (by omega:¬ 97≤(A0 s j).toNat),decide_eq_false (by omega:¬ (A0 s j).toNat≤57)];simp),Bool.false_and]at hw
   subst hw
   refine T ?_
   exact D
  ·refine T ?_
   exact Bb [] hI q_ (hnx (by rw[hx];simp[h])) U
  ·rw[hno (by rw[hx,decide_eq_false (by omega:¬ (A0 s j).toNat≤122),decide_eq_false (by omega:¬ (A0 s j).toNat≤57)];simp),Bool.false_and]at hw
   subst hw
   refine T ?_
   exact D
 ·have hje:j=s.size:=qB h
  subst hje
  rw[C4 hI (Nat.le_refl _),Bool.true_and]at hw
  clear h
  subst hw
  by_cases h0:0<s.size
  ·refine T ?_
   refine⟨fun _=>?_,fun h=>absurd (of_decide_eq_false h) q_⟩
   refine T ?_
   refine Ar E (.cons .tmp .nil) (congrArg Ab ?_) E
   rw[decide_eq_true h0,Bool.true_and]
   exact decide_eq_decide.2 q_
  ·rw[decide_eq_false h0,Bool.false_and]
   refine T ?_
   exact D
theorem Tt (c:UInt8):Sy.Spec Tryz.prog 364 [Cc c] [] (Dv (digI c)) []:=cT F364 Tryz.ntmps364 fun F hF=>by
 have hres:=digI.eq_1 c
 generalize digI c=res at *
 have hcn:=c.toNat_lt
 rcases (by omega:c.toNat<48∨(48≤c.toNat∧c.toNat≤57)∨(57<c.toNat∧c.toNat<97)∨(97≤c.toNat∧c.toNat≤102)∨102<c.toNat) with h | h | h | h | h
 ·rw[if_neg q_,if_neg q_]at hres
  subst hres
  refine T ?_
  exact D
 ·rw[if_pos q_]at hres
  subst hres
  refine T ?_
  refine Ar E (.cons .tmp .nil) ?_ E
  refine congrArg (fun z=>SV.val (.int .u64 z)) (?_:_=IntKind.u64.wrap (IntKind.u8.wrap ((c.toNat:Int)-48)))
  rw[IntKind.wrap_u8,IntKind.wrap_u64];omega
 ·rw[if_neg q_,if_neg q_]at hres
  subst hres
  refine T ?_
  exact D
 ·rw[if_neg q_,if_pos q_]at hres
  subst hres
  refine T ?_
  refine Ar E (.cons .tmp .nil) ?_ E
  refine congrArg (fun z=>SV.val (.int .u64 z)) (?_:_=IntKind.u64.wrap (IntKind.u64.wrap (IntKind.u8.wrap ((c.toNat:Int)-97))+10))
  rw[IntKind.wrap_u8,IntKind.wrap_u64,IntKind.wrap_u64];omega
 ·rw[if_neg q_,if_neg q_]at hres
  subst hres
  refine T ?_
  exact D
theorem Lc {s:ByteArray}:∀ {j:Nat},(∀ i,i<j→Lx s i=true)→0≤Kq s j∧Kq s j<256 ^ j
 | 0,_=>by simp[Kq]
 | j+1,h=>by
  have ih:=Lc (s:=s) (j:=j) (fun i hi=>h i q_)
  have hj:=h j q_
  simp only[Lx,Bool.and_eq_true,decide_eq_true_eq]at hj
  have d1:=Qa (A0 s (3 * j))
  have d2:=Qa (A0 s (3 * j+1))
  rw[Kq,Int.pow_succ]
  omega
theorem Acs (m a b:Nat) (hm:m<72057594037927936) (ha:a<16) (hb:b<16):bits .or .u64 (bits .or .u64 (IntKind.u64.wrap ((m:Int) * 2 ^ min (Int.toNat 8) IntKind.u64.bits)) (IntKind.u64.wrap ((a:Int) * 2 ^ min (Int.toNat 4) IntKind.u64.bits))) (b:Int)=((m * 256+a * 16+b:Nat):Int):=by
 have e1:IntKind.u64.wrap ((m:Int) * 2 ^ min (Int.toNat 8) IntKind.u64.bits)=((m * 256:Nat):Int):=by
  show IntKind.u64.wrap ((m:Int) * 256)=_
  rw[IntKind.wrap_u64];omega
 have e2:IntKind.u64.wrap ((a:Int) * 2 ^ min (Int.toNat 4) IntKind.u64.bits)=((a * 16:Nat):Int):=by
  show IntKind.u64.wrap ((a:Int) * 16)=_
  rw[IntKind.wrap_u64];omega
 have o1:=Nat.two_pow_add_eq_or_of_lt (i:=8) (b:=a * 16) q_ m
 have o2:=Nat.two_pow_add_eq_or_of_lt (i:=4) (b:=b) q_ (m * 16+a)
 have f1:m * 256 ||| a * 16=m * 256+a * 16:=by rw[Nat.mul_comm m 256];exact o1.symm
 have f2:(m * 256+a * 16) ||| b=m * 256+a * 16+b:=by
  have e:m * 256+a * 16=2 ^ 4 * (m * 16+a):=by omega
  rw[e];exact o2.symm
 rw[e1,e2,bits_or_u64_nat _ _ q_ q_,f1,bits_or_u64_nat _ _ q_ q_,f2]
theorem macR_no {s:ByteArray} {j:Nat} (hj:j<6) (h:Lx s j=false):macR s=(0,false):=by
 rw[macR,if_neg]
 rintro ⟨_,h2⟩
 rw[List.all_eq_true]at h2
 rw[h2 j (List.mem_range.2 hj)]at h;cases h
theorem Acu (s:ByteArray) (hs:s.size≤1000000):Sy.Spec Tryz.prog 300 [Ah s] [] (.tup [Dv (macR s).1,Ab (macR s).2]) []:=cT F300 Tryz.ntmps300 fun F hF=>by
 have hno:=@macR_no s
 have hyes:=macR.eq_1 s
 generalize macR s=res at *
 by_cases h17:s.size=17
 rotate_left
 ·rw[if_neg (fun e=>h17 e.1)]at hyes
  subst hyes
  refine T ?_
  exact D
 refine T ?_
 refine A6 6 (fun j=>∀ i,i<j→Lx s i=true) (fun j=>[(0,Ah s),(4,Dv (Kq s j)),(11,Aa j)]) (fun _=>[]) [] (fun i hi=>by omega) U ?_
 intro j hj hI
 have hmv:=Lc hI
 refine T ?_
 refine⟨fun h=>?_,fun h=>?_⟩
 ·have hlt:j<6:=qA h
  have hno:=hno hlt
  clear h
  have i0:(3 * ((j:Nat):Int)).toNat=3 * j:=by omega
  have i1:(3 * ((j:Nat):Int)+1).toNat=3 * j+1:=by omega
  have i2:(3 * ((j:Nat):Int)+2).toNat=3 * j+2:=by omega
  have hx:Lx s j=(decide (digI (A0 s (3 * j))≤15) && decide (digI (A0 s (3 * j+1))≤15) && (decide (5≤j) || decide ((A0 s (3 * j+2)).toNat=58))):=rfl
  have hv:Kq s (j+1)=Kq s j * 256+digI (A0 s (3 * j)) * 16+digI (A0 s (3 * j+1)):=rfl
  rw[← i1,← i2,← i0]at hx
  rw[← i1,← i0]at hv
  have d1:=Qa (A0 s (3 * ((j:Nat):Int)).toNat)
  have d2:=Qa (A0 s (3 * ((j:Nat):Int)+1).toNat)
  have q1:=Tt (A0 s (3 * ((j:Nat):Int)).toNat)
  have q2:=Tt (A0 s (3 * ((j:Nat):Int)+1).toNat)
  by_cases c1:digI (A0 s (3 * ((j:Nat):Int)).toNat)≤15
  ·have f1:decide (digI (A0 s (3 * ((j:Nat):Int)).toNat)>15)=false:=decide_eq_false q_
   by_cases c2:digI (A0 s (3 * ((j:Nat):Int)+1).toNat)≤15
   ·have f2:decide (digI (A0 s (3 * ((j:Nat):Int)+1).toNat)>15)=false:=decide_eq_false q_
    have hp:(256:Int) ^ j≤256 ^ 5:=by
     have:=Nat.pow_le_pow_right (n:=256) j_ (show j≤5 by omega)
     exact_mod_cast this
    have hst:=Acs (Kq s j).toNat (digI (A0 s (3 * ((j:Nat):Int)).toNat)).toNat (digI (A0 s (3 * ((j:Nat):Int)+1).toNat)).toNat q_ q_ q_
    have hst2:((((Kq s j).toNat * 256+(digI (A0 s (3 * ((j:Nat):Int)).toNat)).toNat * 16+(digI (A0 s (3 * ((j:Nat):Int)+1).toNat)).toNat:Nat)):Int)=Kq s (j+1):=by rw[hv];omega
    rw[hst2,Int.toNat_of_nonneg hmv.1,Int.toNat_of_nonneg d1.1,Int.toNat_of_nonneg d2.1]at hst
    by_cases c3:j<5
    ·by_cases c4:(A0 s (3 * ((j:Nat):Int)+2).toNat).toNat=58
     ·have f4:(((A0 s (3 * ((j:Nat):Int)+2).toNat).toNat:Int) != 58)=false:=by rw[c4];rfl
      have hmj:Lx s j=true:=by rw[hx,c4];simp[c1,c2]
      refine T ?_
      refine C q1 F364 ?_
      refine C q2 F364 ?_
      exact Bb [] hI hlt (fun i hi=>by
       by_cases e:i=j
       ·rw[e];exact hmj
       ·exact hI i q_) ⟨⟨E,E,congrArg Dv hst.symm,E,E,E,Y⟩,Y,E,E⟩
     ·have f4:(((A0 s (3 * ((j:Nat):Int)+2).toNat).toNat:Int) != 58)=true:=by
       rw[bne_iff_ne];omega
      have hmj:Lx s j=false:=by rw[hx,decide_eq_false c4,decide_eq_false (by omega:¬ 5≤j)];simp
      rw[hno hmj]
      refine T ?_
      refine C q1 F364 ?_
      refine C q2 F364 ?_
      exact D
    ·have hmj:Lx s j=true:=by rw[hx];simp[c1,c2];omega
     refine T ?_
     refine C q1 F364 ?_
     refine C q2 F364 ?_
     exact Bb [] hI hlt (fun i hi=>by
      by_cases e:i=j
      ·rw[e];exact hmj
      ·exact hI i q_) ⟨⟨E,E,congrArg Dv hst.symm,E,E,E,Y⟩,Y,E,E⟩
   ·have f2:decide (digI (A0 s (3 * ((j:Nat):Int)+1).toNat)>15)=true:=decide_eq_true q_
    rw[hno (by rw[hx,decide_eq_false c2];simp)]
    refine T ?_
    refine C q1 F364 ?_
    refine C q2 F364 ?_
    exact D
  ·have f1:decide (digI (A0 s (3 * ((j:Nat):Int)).toNat)>15)=true:=decide_eq_true q_
   rw[hno (by rw[hx,decide_eq_false c1];rfl)]
   refine T ?_
   refine C q1 F364 ?_
   refine C q2 F364 ?_
   exact D
 ·have hje:j=6:=qB h
  subst hje
  clear h
  rw[if_pos ⟨h17,by rw[List.all_eq_true];intro i hi;exact hI i (List.mem_range.1 hi)⟩]at hyes
  subst hyes
  refine T ?_
  exact D
theorem Wm (m:Nat) (h:m<18446744073709551616):(((bits .and .u64 (m:Int) 281474976710655).fdiv (2 ^ min (Int.toNat 32) IntKind.u64.bits)) != 512)=!(I7 m):=by
 have e:=bits_and_u64_nat m 281474976710655 h j_
 have e2:m &&& 281474976710655=m % 281474976710656:=Nat.and_two_pow_sub_one_eq_mod m 48
 have e3:bits .and .u64 (m:Int) 281474976710655=((m % 281474976710656:Nat):Int):=by rw[← e2];exact e
 have e4:((m % 281474976710656:Nat):Int).fdiv (2 ^ min (Int.toNat 32) IntKind.u64.bits)=((m % 281474976710656 / 4294967296:Nat):Int):=by
  show ((m % 281474976710656:Nat):Int).fdiv 4294967296=_
  rw[Int.fdiv_eq_ediv_of_nonneg _ j_,Int.natCast_ediv];rfl
 rw[e3,e4,I7]
 by_cases hh:m % 281474976710656 / 4294967296=512
 ·rw[hh,decide_eq_true q_];rfl
 ·rw[decide_eq_false q_]
  simp;omega
def Ac5 (m:Int):Int:=if I7 m=true then IntKind.u32.wrap (bits .and .u64 m 281474976710655) else 0
theorem Aei (m:Nat) (h:m<18446744073709551616):Sy.Spec Tryz.prog 365 [Dv m] [] (.tup [A9 (Ac5 m),Ab (I7 m)]) []:=cT F365 Tryz.ntmps365 fun F hF=>by
 have hb:=Wm m h
 rw[Ac5]
 cases hh:I7 m with
 | true =>
  have hb:=hb.trans (by rw[hh];rfl:_=false)
  rw[if_pos rfl]
  refine T ?_
  exact D
 | false =>
  have hb:=hb.trans (by rw[hh];rfl:_=true)
  rw[if_neg y_]
  refine T ?_
  exact D
theorem Aa2 (m:Nat) (h:m<18446744073709551616):Sy.Spec Tryz.prog 366 [Dv m] [] (Ab (U4 m)) []:=cT F366 Tryz.ntmps366 fun F hF=>by
 have hb:=Aba m h
 refine T ?_
 exact Ar E (.cons .tmp .nil) (congrArg Ab hb.symm) E
theorem Qh (m:Nat) (h:m<18446744073709551616):Sy.Spec Tryz.prog 301 [Dv m] [] (Ab (statB m)) []:=cT F301 Tryz.ntmps301 fun F hF=>by
 have q1:=Aei m h
 have q2:=Aa2 m h
 have hw:=statB.eq_1 (m:Int)
 rw[Int.toNat_natCast]at hw
 generalize statB (m:Int)=r at *
 generalize Ac5 (m:Int)=hv at *
 by_cases c1:(m:Int)≤281474976710655
 ·rw[decide_eq_true c1,Bool.true_and]at hw
  have f1:decide ((m:Int)≤281474976710655)=true:=decide_eq_true c1
  cases hh:I7 m with
  | true =>
   rw[hh]at q1 hw
   simp at hw
   subst hw
   refine T ?_
   refine C q1 F365 ?_
   exact D
  | false =>
   rw[hh]at q1 hw
   simp at hw
   subst hw
   refine T ?_
   refine C q1 F365 ?_
   refine C q2 F366 ?_
   exact D
 ·rw[decide_eq_false c1]at hw
  have f1:decide ((m:Int)≤281474976710655)=false:=decide_eq_false c1
  simp at hw
  subst hw
  refine T ?_
  refine C q1 F365 ?_
  exact D
end Go.Sy.YtjenpnjajjplkaaGreatDoor
