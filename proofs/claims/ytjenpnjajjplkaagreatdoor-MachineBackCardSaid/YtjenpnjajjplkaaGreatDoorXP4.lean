/-
  M12 M13 M14 V2 V3 V4 V5 X1 D2 M1 M2 M15 A1 A3 Sy20 Sy21 A4 R1 R2 A5 R3 R5 R6 A6 R7 R8 K0 E7 E8 E9 E10 E11 E12 E13 E14 E15 A7 E21 E29 I6 I11 I41 S0 I31 I7l I8l S3 I37 I15 I16 I17 I18 I12 I13 I14 I19 Sy30 Sy31 Sy32 Sy33 I32: parts of a proof, joined by program.
-/
import Derived.Test.YtjenpnjajjplkaaGreatDoorXP3
import Derived.RangeFuncNested
import Derived.RangeFuncCalls
import Derived.RangeFuncLeaves
import Derived.Shelf.Abstract
import Derived.Shelf.RegionOpen
import Derived.WalkKit
import Derived.OwnWalkIn
import Derived.TacticsInMore
import Derived.LoopNIn
import Derived.LoopIn
import Derived.Test.YtjenpnjajjplkaaGreatDoorProg
import Derived.Test.YtjenpnjajjplkaaGreatDoorXP2
import Derived.ProofKit
import Derived.OpenShut
import Derived.Scope
import Derived.Laws.Bits64b
import Derived.Test.YtjenpnjajjplkaaGreatDoorXP1
set_option linter.all false
set_option linter.unusedVariables false
set_option linter.unusedSimpArgs false
set_option linter.deprecated false
namespace Go.Sy.YtjenpnjajjplkaaGreatDoor
open Go.Proofs
attribute [local irreducible] Go.Sy.G Go.Sy.DR
set_option maxRecDepth 100000
set_option maxHeartbeats 4000000
theorem F207:Fun Tryz.prog 207 Tryz.f207 (T5 Tryz.f207):=⟨Tryz.func207,rfl,by kernel_rfl⟩
theorem F289:Fun Tryz.prog 289 Tryz.f289 (T5 Tryz.f289):=⟨Tryz.func289,rfl,by kernel_rfl⟩
theorem Lg (s:ByteArray) (c:UInt8) (m:Int) (hm:Lib.indexByte s.data.toList c=m):Sy.Spec Tryz.prog 208 [Ai s,Ak c] [] (Aa m) [] :=
 Spec.of_calls fun κ w vs hi hr _=>by
  subst hm
  simp only[RdL]at hr
  obtain ⟨v,r,rfl,h3,u,r',rfl,h4,rfl⟩:=hr
  have h3':v=.string s:=by simpa only [Ai,Rd] using h3
  have h4':u=.int .u8 c.toNat:=by simpa only [Ak,Rd] using h4
  subst h3' h4'
  have e:(Int.toNat (c.toNat:Int)).toUInt8=c:=by simp
  have h5:=Tryz.strings_IndexByte s c.toNat w
  rw[e]at h5
  exact h5.mono fun e w' ⟨he,hw⟩=>⟨he,hw ▸ RowKit.Below.refl _ _⟩
theorem Sn (s p:ByteArray):Sy.Spec Tryz.prog 209 [Ai s,Ai p] [] (Ai (mkT (Lib.trimPrefix s.data.toList p.data.toList))) [] :=
 Spec.of_calls fun κ w vs hi hr _=>by
  simp only[RdL]at hr
  obtain ⟨v,r,rfl,h3,u,r',rfl,h4,rfl⟩:=hr
  have h3':v=.string s:=by simpa only [Ai,Rd] using h3
  have h4':u=.string p:=by simpa only [Ai,Rd] using h4
  subst h3' h4'
  exact(Tryz.strings_TrimPrefix s p w).mono fun e w' ⟨he,hw⟩=>⟨he,hw ▸ RowKit.Below.refl _ _⟩
theorem Abl (s:ByteArray) (c:UInt8) (m:Int) (hm:Lib.indexByte s.data.toList c=m):Sy.Spec Tryz.prog 289 [Ai s,Ai ⟨#[c]⟩] [] (Aa m) [] :=
 Spec.of_calls fun κ w vs hi hr _=>by
  subst hm
  simp only[RdL]at hr
  obtain ⟨v,r,rfl,h3,u,r',rfl,h4,rfl⟩:=hr
  have h3':v=.string s:=by simpa only [Ai,Rd] using h3
  have h4':u=.string ⟨#[c]⟩:=by simpa only [Ai,Rd] using h4
  subst h3' h4'
  exact(Tryz.stringslite_Index_one s c w).mono fun e w' ⟨he,hw⟩=>⟨he,hw ▸ RowKit.Below.refl _ _⟩
def cutT (c:UInt8) (s:ByteArray):ByteArray × ByteArray × Bool :=
 if 0≤Lib.indexByte s.data.toList c then (s.extract 0 (Iz c s.data.toList),s.extract (Iz c s.data.toList+1) s.size,true) else (s,⟨#[]⟩,false)
theorem M5 (l:List UInt8) (c:UInt8):Lib.indexByte l c<l.length:=by
 induction l with
 | nil=>simp[Lib.indexByte]
 | cons b l ih =>
  unfold Lib.indexByte
  rw[List.length_cons]
  split
  ·omega
  split
  ·omega
  ·omega
theorem Ags (s:ByteArray) (c:UInt8) (hs:s.size≤1000000000):Sy.Spec Tryz.prog 207 [Ai s,Ai ⟨#[c]⟩] [] (.tup [Ai (cutT c s).1,Ai (cutT c s).2.1,Ab (cutT c s).2.2]) []:=cT F207 Tryz.ntmps207 fun F hF=>by
 have hres:=cutT.eq_1 c s
 generalize cutT c s=res at *
 have hlt:=M5 s.data.toList c
 have hsz:s.data.toList.length=s.size:=rfl
 have hid:Iz c s.data.toList=(Lib.indexByte s.data.toList c).toNat:=rfl
 obtain ⟨m,hmm⟩:∃ m,Lib.indexByte s.data.toList c=m:=⟨_,rfl⟩
 have q:=Abl s c m hmm
 rw[hmm]at hres hlt hid
 ((conv=>whnf);repeat((first|refine aF ?_|refine aT ?_);(first|refine rG Γ hm ?_|refine rD Γ hm z_ ?_);conv=>whnf))
 refine c0 q F289 ?_
 ((first|refine rG Γ hm ?_|refine rD Γ hm z_ ?_);(conv=>whnf);repeat((first|refine aF ?_|refine aT ?_);(first|refine rG Γ hm ?_|refine rD Γ hm z_ ?_);conv=>whnf))
 refine⟨fun h=>?_,fun h=>?_⟩
 ·have h0:0≤m:=of_decide_eq_true h
  rw[if_pos h0,hid]at hres
  have e1:(m+1).toNat=m.toNat+1:=by omega
  have hc1:(⟨#[c]⟩:ByteArray).size=1:=rfl
  subst hres
  ((first|refine rG Γ hm ?_|refine rD Γ hm z_ ?_);(conv=>whnf);repeat((first|refine aF ?_|refine aT ?_);(first|refine rG Γ hm ?_|refine rD Γ hm z_ ?_);conv=>whnf))
  refine⟨⟨by omega,by omega,by omega⟩,?_⟩
  ((conv=>whnf);repeat((first|refine aF ?_|refine aT ?_);(first|refine rG Γ hm ?_|refine rD Γ hm z_ ?_);conv=>whnf))
  refine⟨by show I64 (m+1);unfold I64;omega,?_⟩
  ((conv=>whnf);repeat((first|refine aF ?_|refine aT ?_);(first|refine rG Γ hm ?_|refine rD Γ hm z_ ?_);conv=>whnf))
  refine⟨⟨by omega,by omega,by omega⟩,?_⟩
  ((conv=>whnf);repeat((first|refine aF ?_|refine aT ?_);(first|refine rG Γ hm ?_|refine rD Γ hm z_ ?_);conv=>whnf))
  refine⟨z_,?_⟩
  ((conv=>whnf);repeat((first|refine aF ?_|refine aT ?_);(first|refine rG Γ hm ?_|refine rD Γ hm z_ ?_);conv=>whnf))
  refine At E (.cons .tmp (.cons .tmp (.cons .tmp .nil))) ?_ E
  show SV.tup [Ai _,Ai (s.extract (m.toNat+1) s.size),_]=SV.tup [Ai _,Ai (s.extract (m+1).toNat _),_]
  rw[e1]
  rfl
 ·have h0:¬ 0≤m:=of_decide_eq_false h
  rw[if_neg h0]at hres
  subst hres
  ((first|refine rG Γ hm ?_|refine rD Γ hm z_ ?_);(conv=>whnf);repeat((first|refine aF ?_|refine aT ?_);(first|refine rG Γ hm ?_|refine rD Γ hm z_ ?_);conv=>whnf))
  exact dN
theorem Ah7 (s:ByteArray) (c:UInt8) (hs:s.size≤1000000000):Sy.Spec Tryz.prog 119 [Ai s,Ai ⟨#[c]⟩] [] (.tup [Ai (cutT c s).1,Ai (cutT c s).2.1,Ab (cutT c s).2.2]) []:=cT F119 Tryz.ntmps119 fun F hF=>by
 have q:=Ags s c hs
 generalize cutT c s=res at *
 ((conv=>whnf);repeat((first|refine aF ?_|refine aT ?_);(first|refine rG Γ hm ?_|refine rD Γ hm z_ ?_);conv=>whnf))
 refine c0 q F207 ?_
 ((first|refine rG Γ hm ?_|refine rD Γ hm z_ ?_);(conv=>whnf);repeat((first|refine aF ?_|refine aT ?_);(first|refine rG Γ hm ?_|refine rD Γ hm z_ ?_);conv=>whnf))
 exact dN
def Jz (l:List UInt8):Int:=l.foldl (fun n c=>10 * n+((c.toNat:Int)-48)) 0
def Ui (s:ByteArray):Bool:=s.data.toList.head? == some 45
def Eb (s:ByteArray):List UInt8:=if Ui s=true then s.data.toList.drop 1 else s.data.toList
def numV (s:ByteArray):Int:=if Ui s=true then 0-Jz (Eb s) else Jz (Eb s)
def numR (s:ByteArray) (lo hi:Int):Int × Bool :=
 if (Eb s).length<1∨10<(Eb s).length then (0,false) else if (Eb s).all Ha=false then (0,false)
 else if numV s<lo∨hi<numV s then (0,false) else if (Cn (numV s) == s)=true then (numV s,true) else (0,false)
theorem K2 (l:List UInt8) (c:UInt8):Jz (l++[c])=10 * Jz l+((c.toNat:Int)-48):=by
 rw[Jz,List.foldl_append];rfl
theorem Adb:∀ (k:Nat) (l:List UInt8),l.length=k→(∀ c∈l,Ha c=true)→0≤Jz l∧Jz l<10 ^ k
 | 0,l,hl,_=>by
  rw[List.length_eq_zero_iff.1 hl]
  exact⟨Int.le_refl _,by decide⟩
 | k+1,l,hl,h=>by
  have hne:l≠[]:=fun e=>by rw[e]at hl;cases hl
  have e:=List.dropLast_concat_getLast hne
  have h1:=Adb k l.dropLast (by rw[List.length_dropLast];omega) fun c hc=>h c (List.dropLast_subset l hc)
  have h2:=h _ (List.getLast_mem hne)
  simp only[Ha,Bool.and_eq_true,decide_eq_true_eq]at h2
  rw[← e,K2,Int.pow_succ]
  omega
theorem Ai2 {l:List UInt8} (hl:l.length≤10) (h:∀ c∈l,Ha c=true):0≤Jz l∧Jz l<10000000000:=by
 have h1:=Adb _ l rfl h
 refine⟨h1.1,Int.lt_of_lt_of_le h1.2 ?_⟩
 have h2:(10:Nat) ^ l.length≤10 ^ 10:=Nat.pow_le_pow_right j_ hl
 have h3:((10:Nat) ^ l.length:Int)≤((10 ^ 10:Nat):Int):=by exact_mod_cast h2
 simpa using h3
theorem Afk (s:ByteArray):Lib.trimPrefix s.data.toList [45]=Eb s:=by
 unfold Lib.trimPrefix Eb Ui
 cases s.data.toList with
 | nil=>simp[Lib.hasPrefix]
 | cons c l =>
  by_cases hc:c=45
  ·subst hc;simp[Lib.hasPrefix]
  ·simp[Lib.hasPrefix,hc,Ne.symm hc]
theorem Oo {s:ByteArray} {i:Nat} (h:i<s.data.toList.length):Ce s i=s.data.toList[i]:=by
 rw[Ce,List.getD_eq_getElem?_getD,List.getElem?_eq_getElem h];rfl
theorem Afi {α:Type} {p:α→Bool} {l:List α} {j:Nat} (hI:Dw (fun _ x=>p x) l j):∀ c∈l.take j,p c=true:=by
 intro c hc
 obtain ⟨i,hi,rfl⟩:=List.mem_iff_getElem.1 hc
 rw[List.length_take]at hi
 rw[List.getElem_take]
 exact hI i q_ q_
theorem Vz {α:Type} {p:α→Bool} {l:List α} {j:Nat} (hI:Dw (fun _ x=>p x) l j) (hj:l.length≤j):l.all p=true:=by
 rw[List.all_eq_true]
 intro x hx
 obtain ⟨i,hi,rfl⟩:=List.mem_iff_getElem.1 hx
 exact hI i hi q_
theorem all_at' {α:Type} {p:α→Bool} {l:List α} {j:Nat} (hj:j<l.length) (h:p l[j]=false):l.all p=false:=by
 cases ha:l.all p
 ·rfl
 ·rw[List.all_eq_true]at ha
  rw[ha _ (List.getElem_mem hj)]at h;cases h
theorem u8_sub2 {c:UInt8} (h:Ha c=true):IntKind.i64.wrap (IntKind.u8.wrap ((c.toNat:Int)-48))=(c.toNat:Int)-48:=by
 simp only[Ha,Bool.and_eq_true,decide_eq_true_eq]at h
 rw[IntKind.wrap_u8,IntKind.wrap_i64];omega
theorem neg_digs {s:ByteArray} (h:Ui s=true):(Eb s).length+1=s.size∧∀ j,j<(Eb s).length→Ce s (1+j)=(Eb s).getD j 0:=by
 have hsz:s.data.toList.length=s.size:=rfl
 rw[Eb,if_pos h]
 rw[Ui]at h
 cases hd:s.data.toList with
 | nil=>rw[hd]at h;cases h
 | cons c l =>
  rw[hd]at hsz
  refine⟨by simp at hsz ⊢;omega,fun j hj=>?_⟩
  rw[Ce,hd,Nat.add_comm]
  rfl
theorem pos_digs {s:ByteArray} (h:Ui s=false):(Eb s).length=s.size∧∀ j,j<(Eb s).length→Ce s j=(Eb s).getD j 0:=by
 rw[Eb,if_neg (by simp[h])]
 exact⟨E,fun j hj=>rfl⟩
theorem Yq (s:ByteArray) (lo hi:Int):Sy.Spec Tryz.prog 124 [Ai s,Aa lo,Aa hi] [] (.tup [Aa (numR s lo hi).1,Ab (numR s lo hi).2]) []:=cT F124 Tryz.ntmps124 fun F hF=>by
 have hres:=numR.eq_1 s lo hi
 generalize numR s lo hi=res at *
 have q:=Sn s ⟨#[45]⟩
 rw[show (⟨#[45]⟩:ByteArray).data.toList=[45] from rfl,Afk]at q
 have hnv:=numV.eq_1 s
 have hng:=@neg_digs s
 have hps:=@pos_digs s
 generalize numV s=nv at *
 generalize hD:Eb s=D at *
 have hDs:(mkT D).size=D.length:=Cf D
 ((conv=>whnf);repeat((first|refine aF ?_|refine aT ?_);(first|refine rG Γ hm ?_|refine rD Γ hm z_ ?_);conv=>whnf))
 refine c0 q F209 ?_
 by_cases h1:D.length<1∨10<D.length
 ·rw[if_pos h1]at hres
  subst hres
  ((first|refine rG Γ hm ?_|refine rD Γ hm z_ ?_);(conv=>whnf);repeat((first|refine aF ?_|refine aT ?_);(first|refine rG Γ hm ?_|refine rD Γ hm z_ ?_);conv=>whnf))
  refine⟨fun h=>?_,fun h=>?_⟩
  ·((first|refine rG Γ hm ?_|refine rD Γ hm z_ ?_);(conv=>whnf);repeat((first|refine aF ?_|refine aT ?_);(first|refine rG Γ hm ?_|refine rD Γ hm z_ ?_);conv=>whnf))
   exact dN
  ·have h2:1≤D.length:=by
    cases D with
    | nil=>exact absurd (show (mkT [] == (⟨#[]⟩:ByteArray))=true from rfl) (by rw[show (mkT [] == (⟨#[]⟩:ByteArray))=false from h];simp)
    | cons=>simp
   ((first|refine rG Γ hm ?_|refine rD Γ hm z_ ?_);(conv=>whnf);repeat((first|refine aF ?_|refine aT ?_);(first|refine rG Γ hm ?_|refine rD Γ hm z_ ?_);conv=>whnf))
   refine⟨fun h=>?_,fun h=>?_⟩
   ·((first|refine rG Γ hm ?_|refine rD Γ hm z_ ?_);(conv=>whnf);repeat((first|refine aF ?_|refine aT ?_);(first|refine rG Γ hm ?_|refine rD Γ hm z_ ?_);conv=>whnf))
    exact dN
   ·exact absurd (of_decide_eq_false h) q_
 rw[if_neg h1]at hres
 have hne:(mkT D == (⟨#[]⟩:ByteArray))=false:=by
  cases he:(mkT D == (⟨#[]⟩:ByteArray))
  ·rfl
  ·have e:(mkT D).data=(⟨#[]⟩:ByteArray).data:=by simpa using (show ((mkT D).data == (⟨#[]⟩:ByteArray).data)=true from he)
   have:=congrArg Array.size e
   have e2:(mkT D).data.size=D.length:=hDs
   rw[e2]at this
   have e3:(⟨#[]⟩:ByteArray).data.size=0:=rfl
   omega
 ((first|refine rG Γ hm ?_|refine rD Γ hm z_ ?_);(conv=>whnf);repeat((first|refine aF ?_|refine aT ?_);(first|refine rG Γ hm ?_|refine rD Γ hm z_ ?_);conv=>whnf))
 refine⟨fun h=>absurd h (by rw[hne];simp),fun _=>?_⟩
 ((first|refine rG Γ hm ?_|refine rD Γ hm z_ ?_);(conv=>whnf);repeat((first|refine aF ?_|refine aT ?_);(first|refine rG Γ hm ?_|refine rD Γ hm z_ ?_);conv=>whnf))
 refine⟨fun h=>absurd (of_decide_eq_true h) q_,fun _=>?_⟩
 ((first|refine rG Γ hm ?_|refine rD Γ hm z_ ?_);(conv=>whnf);repeat((first|refine aF ?_|refine aT ?_);(first|refine rG Γ hm ?_|refine rD Γ hm z_ ?_);conv=>whnf))
 refine A3 D.length (fun j=>Dw (fun _ c=>Ha c) D j) (fun j=>[(0,Ai s),(1,Aa lo),(2,Aa hi),(8,Ai (mkT D)),(9,Aa (Jz (D.take j))),(21,Aa D.length),(22,Aa j)]) (fun _=>[]) [] (Bb _ _)
  ⟨⟨rfl,rfl,rfl,rfl,rfl,rfl,rfl,rfl,rfl,rfl,congrArg (fun z:Nat=>SV.val (.int .i64 z)) hDs.symm,rfl,rfl,rfl,trivial⟩,trivial,rfl,rfl⟩ ?_
 intro j hj hI
 have hv:=Ai2 (l:=D.take j) (by rw[List.length_take];omega) (Afi hI)
 ((first|refine rG Γ hm ?_|refine rD Γ hm z_ ?_);(conv=>whnf);repeat((first|refine aF ?_|refine aT ?_);(first|refine rG Γ hm ?_|refine rD Γ hm z_ ?_);conv=>whnf))
 refine⟨fun h=>?_,fun h=>?_⟩
 ·have hlt:j<D.length:=qA h
  have hb:Ce (mkT D) ((j:Nat):Int).toNat=D[j]:=by
   have:j<(mkT D).data.toList.length:=by rw[B9];exact hlt
   rw[Int.toNat_natCast,Oo this];simp[mkT]
  have hno:=fun h=>@all_at' _ Ha D j hlt h
  have hnx:=fun h=>A8 (p:=fun _ c=>Ha c) hI hlt h
  have hsucc:Jz (D.take (j+1))=10 * Jz (D.take j)+((D[j].toNat:Int)-48):=by rw[List.take_succ_eq_append_getElem hlt,K2]
  have hu:=@u8_sub2 D[j]
  generalize D[j]=c at *
  generalize Jz (D.take j)=v at *
  have hc2:=c.toNat_lt
  ((first|refine rG Γ hm ?_|refine rD Γ hm z_ ?_);(conv=>whnf);repeat((first|refine aF ?_|refine aT ?_);(first|refine rG Γ hm ?_|refine rD Γ hm z_ ?_);conv=>whnf))
  refine⟨by omega,by omega,?_⟩
  rw[hb]
  ((conv=>whnf);repeat((first|refine aF ?_|refine aT ?_);(first|refine rG Γ hm ?_|refine rD Γ hm z_ ?_);conv=>whnf))
  refine⟨fun h2=>?_,fun h2=>?_⟩
  ·have h3:c.toNat<48:=by have:=of_decide_eq_true h2;omega
   rw[if_pos (hno (by rw[Ha,decide_eq_false q_];rfl))]at hres
   subst hres
   ((first|refine rG Γ hm ?_|refine rD Γ hm z_ ?_);(conv=>whnf);repeat((first|refine aF ?_|refine aT ?_);(first|refine rG Γ hm ?_|refine rD Γ hm z_ ?_);conv=>whnf))
   exact dN
  have h2:=of_decide_eq_false h2
  ((first|refine rG Γ hm ?_|refine rD Γ hm z_ ?_);(conv=>whnf);repeat((first|refine aF ?_|refine aT ?_);(first|refine rG Γ hm ?_|refine rD Γ hm z_ ?_);conv=>whnf))
  refine⟨by omega,by omega,?_⟩
  rw[hb]
  ((conv=>whnf);repeat((first|refine aF ?_|refine aT ?_);(first|refine rG Γ hm ?_|refine rD Γ hm z_ ?_);conv=>whnf))
  refine⟨fun h3=>?_,fun h3=>?_⟩
  ·have h3:57<c.toNat:=by have:=of_decide_eq_true h3;omega
   rw[if_pos (hno (by rw[Ha,decide_eq_false (by omega:¬ c.toNat≤57),Bool.and_false]))]at hres
   subst hres
   ((first|refine rG Γ hm ?_|refine rD Γ hm z_ ?_);(conv=>whnf);repeat((first|refine aF ?_|refine aT ?_);(first|refine rG Γ hm ?_|refine rD Γ hm z_ ?_);conv=>whnf))
   exact dN
  have h3:=of_decide_eq_false h3
  have hdg:Ha c=true:=by rw[Ha,decide_eq_true q_,decide_eq_true q_];rfl
  have hu:=hu hdg
  ((first|refine rG Γ hm ?_|refine rD Γ hm z_ ?_);(conv=>whnf);repeat((first|refine aF ?_|refine aT ?_);(first|refine rG Γ hm ?_|refine rD Γ hm z_ ?_);conv=>whnf))
  refine⟨by show I64 (10 * v);unfold I64;omega,?_⟩
  ((conv=>whnf);repeat((first|refine aF ?_|refine aT ?_);(first|refine rG Γ hm ?_|refine rD Γ hm z_ ?_);conv=>whnf))
  refine⟨by omega,by omega,?_⟩
  rw[hb]
  ((conv=>whnf);repeat((first|refine aF ?_|refine aT ?_);(first|refine rG Γ hm ?_|refine rD Γ hm z_ ?_);conv=>whnf))
  rw[hu]
  refine⟨by show I64 (10 * v+((c.toNat:Int)-48));unfold I64;omega,?_⟩
  ((conv=>whnf);repeat((first|refine aF ?_|refine aT ?_);(first|refine rG Γ hm ?_|refine rD Γ hm z_ ?_);conv=>whnf))
  refine iL ?_
  ((conv=>whnf);repeat((first|refine aF ?_|refine aT ?_);(first|refine rG Γ hm ?_|refine rD Γ hm z_ ?_);conv=>whnf))
  exact A1 [] hI q_ (hnx hdg) ⟨⟨E,E,E,E,E,E,E,E,congrArg Aa hsucc,E,E,E,E,E,Y⟩,Y,E,E⟩
 ·have hje:j=D.length:=qB h
  subst hje
  rw[if_neg (by rw[Vz hI (Nat.le_refl _)];simp)]at hres
  rw[List.take_length]at hv ⊢
  have fin:∀ nv:Int,nv=(if Ui s=true then 0-Jz D else Jz D)→(-10000000000<nv∧nv<10000000000)∧El nv:=fun nv h=>by
   unfold El
   split at h<;>omega
  have fn:=fin nv hnv
  have q2:=Vb nv fn.2
  have hs2:((mkT D).size:Int)=D.length:=by rw[hDs]
  cases hn:Ui s
  ·rw[hn,if_neg y_]at hnv
   have h4:=(hps hn).1
   rw[← hnv]
   ((first|refine rG Γ hm ?_|refine rD Γ hm z_ ?_);(conv=>whnf);repeat((first|refine aF ?_|refine aT ?_);(first|refine rG Γ hm ?_|refine rD Γ hm z_ ?_);conv=>whnf))
   refine⟨fun h=>absurd (of_decide_eq_true h) q_,fun _=>?_⟩
   ((first|refine rG Γ hm ?_|refine rD Γ hm z_ ?_);(conv=>whnf);repeat((first|refine aF ?_|refine aT ?_);(first|refine rG Γ hm ?_|refine rD Γ hm z_ ?_);conv=>whnf))
   refine⟨fun h=>?_,fun h=>?_⟩
   ·rw[if_pos (.inl (of_decide_eq_true h))]at hres
    subst hres
    ((first|refine rG Γ hm ?_|refine rD Γ hm z_ ?_);(conv=>whnf);repeat((first|refine aF ?_|refine aT ?_);(first|refine rG Γ hm ?_|refine rD Γ hm z_ ?_);conv=>whnf))
    exact dN
   have h5:=of_decide_eq_false h
   ((first|refine rG Γ hm ?_|refine rD Γ hm z_ ?_);(conv=>whnf);repeat((first|refine aF ?_|refine aT ?_);(first|refine rG Γ hm ?_|refine rD Γ hm z_ ?_);conv=>whnf))
   refine⟨fun h=>?_,fun h=>?_⟩
   ·rw[if_pos (.inr (of_decide_eq_true h))]at hres
    subst hres
    ((first|refine rG Γ hm ?_|refine rD Γ hm z_ ?_);(conv=>whnf);repeat((first|refine aF ?_|refine aT ?_);(first|refine rG Γ hm ?_|refine rD Γ hm z_ ?_);conv=>whnf))
    exact dN
   have h6:=of_decide_eq_false h
   rw[if_neg q_]at hres
   ((first|refine rG Γ hm ?_|refine rD Γ hm z_ ?_);(conv=>whnf);repeat((first|refine aF ?_|refine aT ?_);(first|refine rG Γ hm ?_|refine rD Γ hm z_ ?_);conv=>whnf))
   refine c0 q2 F117 ?_
   cases he:(Cn nv == s)
   ·rw[he,if_neg y_]at hres
    subst hres
    ((first|refine rG Γ hm ?_|refine rD Γ hm z_ ?_);(conv=>whnf);repeat((first|refine aF ?_|refine aT ?_);(first|refine rG Γ hm ?_|refine rD Γ hm z_ ?_);conv=>whnf))
    refine⟨fun _=>?_,fun h=>absurd h (by rw[he];simp)⟩
    ((first|refine rG Γ hm ?_|refine rD Γ hm z_ ?_);(conv=>whnf);repeat((first|refine aF ?_|refine aT ?_);(first|refine rG Γ hm ?_|refine rD Γ hm z_ ?_);conv=>whnf))
    exact dN
   ·rw[he,if_pos rfl]at hres
    subst hres
    ((first|refine rG Γ hm ?_|refine rD Γ hm z_ ?_);(conv=>whnf);repeat((first|refine aF ?_|refine aT ?_);(first|refine rG Γ hm ?_|refine rD Γ hm z_ ?_);conv=>whnf))
    refine⟨fun h=>absurd h (by rw[he];simp),fun _=>?_⟩
    ((first|refine rG Γ hm ?_|refine rD Γ hm z_ ?_);(conv=>whnf);repeat((first|refine aF ?_|refine aT ?_);(first|refine rG Γ hm ?_|refine rD Γ hm z_ ?_);conv=>whnf))
    exact dN
  ·rw[hn,if_pos rfl]at hnv
   have h4:=(hng hn).1
   have hw:IntKind.i64.wrap (0-Jz D)=nv:=by rw[IntKind.wrap_i64];omega
   ((first|refine rG Γ hm ?_|refine rD Γ hm z_ ?_);(conv=>whnf);repeat((first|refine aF ?_|refine aT ?_);(first|refine rG Γ hm ?_|refine rD Γ hm z_ ?_);conv=>whnf))
   refine⟨fun _=>?_,fun h=>absurd (of_decide_eq_false h) q_⟩
   ((first|refine rG Γ hm ?_|refine rD Γ hm z_ ?_);(conv=>whnf);repeat((first|refine aF ?_|refine aT ?_);(first|refine rG Γ hm ?_|refine rD Γ hm z_ ?_);conv=>whnf))
   rw[hw]
   refine⟨fun h=>?_,fun h=>?_⟩
   ·rw[if_pos (.inl (of_decide_eq_true h))]at hres
    subst hres
    ((first|refine rG Γ hm ?_|refine rD Γ hm z_ ?_);(conv=>whnf);repeat((first|refine aF ?_|refine aT ?_);(first|refine rG Γ hm ?_|refine rD Γ hm z_ ?_);conv=>whnf))
    exact dN
   have h5:=of_decide_eq_false h
   ((first|refine rG Γ hm ?_|refine rD Γ hm z_ ?_);(conv=>whnf);repeat((first|refine aF ?_|refine aT ?_);(first|refine rG Γ hm ?_|refine rD Γ hm z_ ?_);conv=>whnf))
   refine⟨fun h=>?_,fun h=>?_⟩
   ·rw[if_pos (.inr (of_decide_eq_true h))]at hres
    subst hres
    ((first|refine rG Γ hm ?_|refine rD Γ hm z_ ?_);(conv=>whnf);repeat((first|refine aF ?_|refine aT ?_);(first|refine rG Γ hm ?_|refine rD Γ hm z_ ?_);conv=>whnf))
    exact dN
   have h6:=of_decide_eq_false h
   rw[if_neg q_]at hres
   ((first|refine rG Γ hm ?_|refine rD Γ hm z_ ?_);(conv=>whnf);repeat((first|refine aF ?_|refine aT ?_);(first|refine rG Γ hm ?_|refine rD Γ hm z_ ?_);conv=>whnf))
   refine c0 q2 F117 ?_
   cases he:(Cn nv == s)
   ·rw[he,if_neg y_]at hres
    subst hres
    ((first|refine rG Γ hm ?_|refine rD Γ hm z_ ?_);(conv=>whnf);repeat((first|refine aF ?_|refine aT ?_);(first|refine rG Γ hm ?_|refine rD Γ hm z_ ?_);conv=>whnf))
    refine⟨fun _=>?_,fun h=>absurd h (by rw[he];simp)⟩
    ((first|refine rG Γ hm ?_|refine rD Γ hm z_ ?_);(conv=>whnf);repeat((first|refine aF ?_|refine aT ?_);(first|refine rG Γ hm ?_|refine rD Γ hm z_ ?_);conv=>whnf))
    exact dN
   ·rw[he,if_pos rfl]at hres
    subst hres
    ((first|refine rG Γ hm ?_|refine rD Γ hm z_ ?_);(conv=>whnf);repeat((first|refine aF ?_|refine aT ?_);(first|refine rG Γ hm ?_|refine rD Γ hm z_ ?_);conv=>whnf))
    refine⟨fun h=>absurd h (by rw[he];simp),fun _=>?_⟩
    ((first|refine rG Γ hm ?_|refine rD Γ hm z_ ?_);(conv=>whnf);repeat((first|refine aF ?_|refine aT ?_);(first|refine rG Γ hm ?_|refine rD Γ hm z_ ?_);conv=>whnf))
    exact dN
theorem Hh:∀ (l:List UInt8) (c:UInt8),-1≤Lib.indexByte l c
 | [],_=>by simp[Lib.indexByte]
 | b::l,c=>by
  unfold Lib.indexByte
  have:=Hh l c
  split
  ·omega
  split
  ·omega
  ·omega
def B8:List UInt8→List UInt8→List ByteArray
 | cur,[]=>if cur=[] then [] else [mkT cur]
 | cur,c::r=>if c=10 then mkT cur::B8 [] r else B8 (cur++[c]) r
def rowsT (b:List UInt8):List ByteArray × Int :=
 if 20000<b.length then ([],3) else if 400<(B8 [] b).length then ([],3) else (B8 [] b,0)
theorem Qn:∀ (l cur:List UInt8),Lib.indexByte l 10=-1→B8 cur l=if cur++l=[] then [] else [mkT (cur++l)]
 | [],cur,_=>by rw[B8,List.append_nil]
 | c::l,cur,h=>by
  unfold Lib.indexByte at h
  by_cases hc:(c == 10)=true
  ·rw[if_pos hc]at h;omega
  rw[if_neg hc]at h
  have hi:Lib.indexByte l 10=-1:=by
   by_cases h1:(Lib.indexByte l 10 == -1)=true
   ·simpa using h1
   ·rw[if_neg h1]at h
    have:=Hh l 10
    omega
  rw[B8,if_neg (by simpa using hc),Qn l _ hi]
  simp
theorem Qm:∀ (l cur:List UInt8),0≤Lib.indexByte l 10→B8 cur l=mkT (cur++l.take (Lib.indexByte l 10).toNat)::B8 [] (l.drop ((Lib.indexByte l 10).toNat+1))
 | [],cur,h=>by simp[Lib.indexByte]at h
 | c::l,cur,h=>by
  unfold Lib.indexByte at h ⊢
  by_cases hc:(c == 10)=true
  ·rw[if_pos hc,B8,if_pos (by simpa using hc)]
   simp
  rw[if_neg hc]at h ⊢
  by_cases h1:(Lib.indexByte l 10 == -1)=true
  ·rw[if_pos h1]at h;omega
  rw[if_neg h1]at h ⊢
  have:=Hh l 10
  have h2:0≤Lib.indexByte l 10:=by
   have h3:Lib.indexByte l 10≠-1:=by simpa using h1
   omega
  have e:(Lib.indexByte l 10+1).toNat=(Lib.indexByte l 10).toNat+1:=by omega
  rw[B8,if_neg (by simpa using hc),Qm l _ h2,e]
  simp
theorem Aaw {l:List UInt8} (h:l≠[]):B8 [] l=(cutT 10 (mkT l)).1::B8 [] (cutT 10 (mkT l)).2.1.data.toList∧(cutT 10 (mkT l)).2.1.data.toList.length<l.length:=by
 have hpos:=List.length_pos_iff.2 h
 have hlt:=M5 l 10
 have hge:=Hh l 10
 have e0:(mkT l).size=l.length:=Cf l
 rw[cutT,B9]
 split
 ·rename_i h0
  dsimp only
  rw[Qm l [] h0,Ie,Ie,B9,e0,List.take_length]
  refine⟨E,?_⟩
  rw[List.length_drop]
  omega
 ·rename_i h0
  dsimp only
  rw[Qn l [] q_,List.nil_append,if_neg h]
  exact⟨E,hpos⟩
theorem Aeh (l:List UInt8):(mkT l == ⟨#[]⟩)=decide (l=[]):=by
 cases l with
 | nil=>rfl
 | cons c l =>
  rw[decide_eq_false y_]
  cases he:(mkT (c::l) == (⟨#[]⟩:ByteArray))
  ·rfl
  ·have e:(mkT (c::l)).data=(⟨#[]⟩:ByteArray).data:=by simpa using (show ((mkT (c::l)).data == (⟨#[]⟩:ByteArray).data)=true from he)
   have:=congrArg Array.size e
   simp[mkT]at this
theorem Aeq (b:List UInt8) (hb:b.length≤1000000):Sy.Spec Tryz.prog 36 [.sl 1 Ak b] [] (.tup [.sl 1 Ai (rowsT b).1,Aa (rowsT b).2]) []:=cT F36 Tryz.ntmps36 fun F hF=>by
 have hres:=rowsT.eq_1 b
 generalize rowsT b=res at *
 ((conv=>whnf);repeat((first|refine aF ?_|refine aT ?_);(first|refine rG Γ hm ?_|refine rD Γ hm z_ ?_);conv=>whnf))
 refine⟨fun h=>?_,fun h=>?_⟩
 ·rw[if_pos (qA h)]at hres
  subst hres
  ((first|refine rG Γ hm ?_|refine rD Γ hm z_ ?_);(conv=>whnf);repeat((first|refine aF ?_|refine aT ?_);(first|refine rG Γ hm ?_|refine rD Γ hm z_ ?_);conv=>whnf))
  refine Ch 2 1 Ai E ?_
  ((first|refine rG Γ hm ?_|refine rD Γ hm z_ ?_);(conv=>whnf);repeat((first|refine aF ?_|refine aT ?_);(first|refine rG Γ hm ?_|refine rD Γ hm z_ ?_);conv=>whnf))
  exact dN
 rw[if_neg (qB h)]at hres
 ((first|refine rG Γ hm ?_|refine rD Γ hm z_ ?_);(conv=>whnf);repeat((first|refine aF ?_|refine aT ?_);(first|refine rG Γ hm ?_|refine rD Γ hm z_ ?_);conv=>whnf))
 refine Aw (Cp Γ.toTy (bs:=b) E E E E E E E .sl) E E ?_
 refine Cb 4 1000 1 Ai E E ?_
 ((first|refine rG Γ hm ?_|refine rD Γ hm z_ ?_);(conv=>whnf);repeat((first|refine aF ?_|refine aT ?_);(first|refine rG Γ hm ?_|refine rD Γ hm z_ ?_);conv=>whnf))
 refine B0 (fun x:List ByteArray × List UInt8=>B8 [] b=x.1++B8 [] x.2∧x.1.length+x.2.length≤b.length) (fun x=>[(4,.osl 1000),(5,Ai (mkT x.2))]) (fun x=>[(1000,.row 1 Ai x.1)]) (fun x=>x.2.length) ([],b) [] ⟨E,by simp⟩
  ⟨⟨rfl,rfl,rfl,rfl,trivial⟩,⟨.inl rfl,rfl,trivial⟩,rfl,rfl⟩ ?_
 rintro ⟨out,rest⟩ ⟨hI,hlen⟩
 dsimp only at hI hlen ⊢
 have hemp:=Aeh rest
 ((first|refine rG Γ hm ?_|refine rD Γ hm z_ ?_);(conv=>whnf);repeat((first|refine aF ?_|refine aT ?_);(first|refine rG Γ hm ?_|refine rD Γ hm z_ ?_);conv=>whnf))
 by_cases hr:rest=[]
 ·rw[decide_eq_true hr]at hemp
  refine⟨fun h=>absurd h (by rw[hemp];simp),fun _=>?_⟩
  have hro:B8 [] b=out:=by rw[hI,hr];simp[B8]
  rw[hro]at hres
  ((first|refine rG Γ hm ?_|refine rD Γ hm z_ ?_);(conv=>whnf);repeat((first|refine aF ?_|refine aT ?_);(first|refine rG Γ hm ?_|refine rD Γ hm z_ ?_);conv=>whnf))
  refine⟨fun h=>?_,fun h=>?_⟩
  ·rw[if_pos (qA h)]at hres
   subst hres
   ((first|refine rG Γ hm ?_|refine rD Γ hm z_ ?_);(conv=>whnf);repeat((first|refine aF ?_|refine aT ?_);(first|refine rG Γ hm ?_|refine rD Γ hm z_ ?_);conv=>whnf))
   refine Ch 2 1 Ai E ?_
   ((first|refine rG Γ hm ?_|refine rD Γ hm z_ ?_);(conv=>whnf);repeat((first|refine aF ?_|refine aT ?_);(first|refine rG Γ hm ?_|refine rD Γ hm z_ ?_);conv=>whnf))
   exact dN
  ·rw[if_neg (qB h)]at hres
   subst hres
   refine Ae 1000 E ?_
   ((first|refine rG Γ hm ?_|refine rD Γ hm z_ ?_);(conv=>whnf);repeat((first|refine aF ?_|refine aT ?_);(first|refine rG Γ hm ?_|refine rD Γ hm z_ ?_);conv=>whnf))
   exact dN
 ·rw[decide_eq_false hr]at hemp
  refine⟨fun _=>?_,fun h=>absurd h (by rw[hemp];simp)⟩
  obtain ⟨hc,hlt⟩:=Aaw hr
  have q:=Ah7 (mkT rest) 10 (by rw[Cf];omega)
  obtain ⟨⟨row,rs,more⟩,hct⟩:∃ p,cutT 10 (mkT rest)=p:=⟨_,rfl⟩
  rw[hct]at q hc hlt
  dsimp only at q hc hlt
  have hrz:rs.data.toList.length=rs.size:=rfl
  ((first|refine rG Γ hm ?_|refine rD Γ hm z_ ?_);(conv=>whnf);repeat((first|refine aF ?_|refine aT ?_);(first|refine rG Γ hm ?_|refine rD Γ hm z_ ?_);conv=>whnf))
  refine c0 q F119 ?_
  ((first|refine rG Γ hm ?_|refine rD Γ hm z_ ?_);(conv=>whnf);repeat((first|refine aF ?_|refine aT ?_);(first|refine rG Γ hm ?_|refine rD Γ hm z_ ?_);conv=>whnf))
  refine Aw (Al Γ.toTy 23 E E E E E (.row E) (.lit (e:=Ai) (l:=[row]) E E) y_ (by simp;omega) (by simp;omega)) E E ?_
  ((first|refine rG Γ hm ?_|refine rD Γ hm z_ ?_);(conv=>whnf);repeat((first|refine aF ?_|refine aT ?_);(first|refine rG Γ hm ?_|refine rD Γ hm z_ ?_);conv=>whnf))
  refine A4 (out++[row],rs.data.toList) [(1000,23)] ⟨by rw[hI,hc];simp,by simp;omega⟩ (by dsimp only;omega) ⟨⟨E,E,congrArg Ai (D5 rs),E,Y⟩,⟨.inl E,E,Y⟩,E,E⟩
end Go.Sy.YtjenpnjajjplkaaGreatDoor
namespace Go.Sy.YtjenpnjajjplkaaGreatDoor
theorem G_vw {C:Cx} {k:List KI} {s:SS} (d:Nat) (x:SV) (h:Vw s [] (s.σ d) x) (hg:G C k ⟨upd s.σ d x,s.h⟩):G C k s:=fun κ a w hs =>
 hg κ a w ⟨hs.defers,hs.size,hs.inv,hs.ctx,fun i=>by
  show Rd κ w (upd s.σ d x i) _
  by_cases hi:i=d
  ·subst hi;rw[B1];exact Vw.rd hs.inv (fun _ hn=>by cases hn) h (hs.slot i)
  ·rw[Cq _ _ hi];exact hs.slot i,hs.obj⟩
end Go.Sy.YtjenpnjajjplkaaGreatDoor
namespace Go.Sy.YtjenpnjajjplkaaGreatDoor
open Go.Proofs
attribute [local irreducible] Go.Sy.G Go.Sy.DR
set_option maxRecDepth 100000
set_option maxHeartbeats 4000000
def Sf (p:Port):SV:=.agg [Aa p.row,Aa p.dev,Aa p.native,Aa p.cost,Aa p.link,Ai p.name,.val (.slice none 0 0)]
def Xb (d:Domain):SV:=.agg [Aa d.dev,Aa d.vlan,Aa d.vni,Aa d.irb,Aa d.row,.val (.slice none 0 0)]
theorem Aa6 {M:Nat→Prop} {w:World} (p:Port) (hp:p.tagged=[]) {v:Value} (h:RdD M w (Sf p) v):RdD M w (Au p) v:=by
 simp only[Sf,Au,RdD,RdDL,hp]at h ⊢
 obtain ⟨cs,h1,h2,v0,r0,h3,h4,v1,r1,h5,h6,v2,r2,h7,h8,v3,r3,h9,h10,v4,r4,h11,h12,v5,r5,h13,h14,v6,r6,h15,h16,h17⟩:=h
 exact⟨cs,h1,h2,v0,r0,h3,h4,v1,r1,h5,h6,v2,r2,h7,h8,v3,r3,h9,h10,v4,r4,h11,h12,v5,r5,h13,h14,v6,r6,h15,.inl ⟨Y,none,0,h16⟩,h17⟩
theorem Vv {M:Nat→Prop} {w:World} (p:Domain) (hp:p.peers=[]) {v:Value} (h:RdD M w (Xb p) v):RdD M w (Af p) v:=by
 simp only[Xb,Af,RdD,RdDL,hp]at h ⊢
 obtain ⟨cs,h1,h2,v0,r0,h3,h4,v1,r1,h5,h6,v2,r2,h7,h8,v3,r3,h9,h10,v4,r4,h11,h12,v5,r5,h13,h14,h15⟩:=h
 exact⟨cs,h1,h2,v0,r0,h3,h4,v1,r1,h5,h6,v2,r2,h7,h8,v3,r3,h9,h10,v4,r4,h11,h12,v5,r5,h13,.inl ⟨Y,none,0,h14⟩,h15⟩
end Go.Sy.YtjenpnjajjplkaaGreatDoor
namespace Go.Sy.YtjenpnjajjplkaaGreatDoor
open Go.Proofs
attribute [local irreducible] Go.Sy.G Go.Sy.DR
set_option maxRecDepth 20000
set_option maxHeartbeats 4000000
def Dd (l:List Bool):List UInt8:=l.map fun b=>if b then 49 else 48
def Bj (l:List Bool):ByteArray:=if l=[] then ⟨#[45]⟩ else mkT (Dd l)
theorem Ah4 (l:List Bool) (hl:l.length<1000000):Sy.Spec Tryz.prog 118 [.sl 1 Ab l] [] (Ai (Bj l)) []:=cT F118 Tryz.ntmps118 fun F hF=>by
 ((conv=>whnf);repeat((first|refine aF ?_|refine aT ?_);(first|refine rG Γ hm ?_|refine rD Γ hm z_ ?_);conv=>whnf))
 refine⟨fun h=>?_,fun h=>?_⟩
 ·have h0:l=[]:=List.length_eq_zero_iff.1 (by have:(l.length:Int)=0:=(by simpa using h);omega)
  rw[Bj,if_pos h0]
  ((first|refine rG Γ hm ?_|refine rD Γ hm z_ ?_);(conv=>whnf);repeat((first|refine aF ?_|refine aT ?_);(first|refine rG Γ hm ?_|refine rD Γ hm z_ ?_);conv=>whnf))
  exact dN
 have h0:l≠[]:=fun e=>by subst e;simp at h
 rw[Bj,if_neg h0]
 ((first|refine rG Γ hm ?_|refine rD Γ hm z_ ?_);(conv=>whnf);repeat((first|refine aF ?_|refine aT ?_);(first|refine rG Γ hm ?_|refine rD Γ hm z_ ?_);conv=>whnf))
 refine Cb 3 1000 1 Ak E E ?_
 refine Dk l.length (fun j=>[(3,.osl 1000),(10,.sl 1 Ab l),(11,Aa l.length),(12,Aa j)]) (fun j=>[(1000,.row 1 Ak (Dd (l.take j)))]) []
  ⟨⟨rfl,rfl,rfl,rfl,rfl,rfl,rfl,rfl,trivial⟩,⟨.inl rfl,rfl,trivial⟩,rfl,rfl⟩ ?_
 intro j hj
 have htl:(Dd (l.take j)).length≤l.length:=by rw[Dd,List.length_map,List.length_take];omega
 ((first|refine rG Γ hm ?_|refine rD Γ hm z_ ?_);(conv=>whnf);repeat((first|refine aF ?_|refine aT ?_);(first|refine rG Γ hm ?_|refine rD Γ hm z_ ?_);conv=>whnf))
 refine⟨fun h=>?_,fun h=>?_⟩
 ·have hlt:j<l.length:=by simpa using h
  have hj0:((j:Nat):Int).toNat<l.length:=by simpa using hlt
  have hs:Dd (l.take (j+1))=Dd (l.take j)++[if l[((j:Nat):Int).toNat]'hj0 then 49 else 48]:=by
   rw[Dd,Dd,List.take_succ_eq_append_getElem hlt,List.map_append];rfl
  obtain ⟨b,hb⟩:∃ b,l[((j:Nat):Int).toNat]'hj0=b:=⟨_,rfl⟩
  rw[hb]at hs
  generalize Dd (l.take j)=u at *
  ((first|refine rG Γ hm ?_|refine rD Γ hm z_ ?_);(conv=>whnf);repeat((first|refine aF ?_|refine aT ?_);(first|refine rG Γ hm ?_|refine rD Γ hm z_ ?_);conv=>whnf))
  refine⟨E,by omega,hj0,?_⟩
  rw[hb]
  cases b
  ·((conv=>whnf);repeat((first|refine aF ?_|refine aT ?_);(first|refine rG Γ hm ?_|refine rD Γ hm z_ ?_);conv=>whnf))
   refine Aw (Al Γ.toTy 20 E E E E E (.row E) (.lit (e:=Ak) (l:=[48]) E E) y_ (by simp;omega) (by simp;omega)) E E ?_
   ((first|refine rG Γ hm ?_|refine rD Γ hm z_ ?_);(conv=>whnf);repeat((first|refine aF ?_|refine aT ?_);(first|refine rG Γ hm ?_|refine rD Γ hm z_ ?_);conv=>whnf))
   refine iL ?_
   ((conv=>whnf);repeat((first|refine aF ?_|refine aT ?_);(first|refine rG Γ hm ?_|refine rD Γ hm z_ ?_);conv=>whnf))
   exact Dx [(1000,20)] hlt ⟨⟨E,E,E,E,E,E,E,E,Y⟩,⟨.inl (congrArg (Ob.row 1 Ak) hs),E,Y⟩,E,E⟩
  ·((conv=>whnf);repeat((first|refine aF ?_|refine aT ?_);(first|refine rG Γ hm ?_|refine rD Γ hm z_ ?_);conv=>whnf))
   refine Aw (Al Γ.toTy 20 E E E E E (.row E) (.lit (e:=Ak) (l:=[49]) E E) y_ (by simp;omega) (by simp;omega)) E E ?_
   ((first|refine rG Γ hm ?_|refine rD Γ hm z_ ?_);(conv=>whnf);repeat((first|refine aF ?_|refine aT ?_);(first|refine rG Γ hm ?_|refine rD Γ hm z_ ?_);conv=>whnf))
   refine iL ?_
   ((conv=>whnf);repeat((first|refine aF ?_|refine aT ?_);(first|refine rG Γ hm ?_|refine rD Γ hm z_ ?_);conv=>whnf))
   exact Dx [(1000,20)] hlt ⟨⟨E,E,E,E,E,E,E,E,Y⟩,⟨.inl (congrArg (Ob.row 1 Ak) hs),E,Y⟩,E,E⟩
 ·have hje:j=l.length:=qB h
  subst hje
  rw[List.take_length]
  ((first|refine rG Γ hm ?_|refine rD Γ hm z_ ?_);(conv=>whnf);repeat((first|refine aF ?_|refine aT ?_);(first|refine rG Γ hm ?_|refine rD Γ hm z_ ?_);conv=>whnf))
  refine Aw (Cp Γ.toTy (bs:=Dd l) E E E E E E E (.row E)) E E ?_
  ((first|refine rG Γ hm ?_|refine rD Γ hm z_ ?_);(conv=>whnf);repeat((first|refine aF ?_|refine aT ?_);(first|refine rG Γ hm ?_|refine rD Γ hm z_ ?_);conv=>whnf))
  exact dN
def Ip (c:Nat):UInt8:=if c<10 then UInt8.ofNat (48+c) else UInt8.ofNat (87+c)
def I1 (l:List UInt8):List UInt8:=l.flatMap fun c=>[Ip (c.toNat / 16),Ip (c.toNat % 16)]
def L5 (l:List UInt8):ByteArray:=if l=[] then ⟨#[45]⟩ else mkT (I1 l)
theorem Ki:∀ l:List UInt8,(I1 l).length=2 * l.length
 | []=>rfl
 | c::l=>by
  have:=Ki l
  rw[I1]at this ⊢
  rw[List.flatMap_cons,List.length_append,this]
  simp only[List.length_cons,List.length_nil]
  omega
def hexC:ByteArray:=⟨#[48,49,50,51,52,53,54,55,56,57,97,98,99,100,101,102]⟩
theorem Ac1:∀ k,k<16→Ce hexC k=Ip k:=by decide
theorem hex_hi (c:UInt8):((c.toNat:Int).fdiv (2 ^ min (Int.toNat 4) IntKind.u8.bits))=((c.toNat / 16:Nat):Int):=by
 show ((c.toNat:Int).fdiv 16)=_
 rw[Int.fdiv_eq_ediv_of_nonneg _ q_];omega
theorem Abr:∀ k:Fin 256,bits .and .u8 (k.1:Int) 15=((k.1 % 16:Nat):Int):=by decide +kernel
theorem hex_lo (c:UInt8):bits .and .u8 (c.toNat:Int) 15=((c.toNat % 16:Nat):Int):=Abr ⟨c.toNat,c.toNat_lt⟩
theorem Acd (l:List UInt8) (hl:l.length<1000000):Sy.Spec Tryz.prog 116 [.sl 1 Ak l] [] (Ai (L5 l)) []:=cT F116 Tryz.ntmps116 fun F hF=>by
 ((conv=>whnf);repeat((first|refine aF ?_|refine aT ?_);(first|refine rG Γ hm ?_|refine rD Γ hm z_ ?_);conv=>whnf))
 refine⟨fun h=>?_,fun h=>?_⟩
 ·have h0:l=[]:=List.length_eq_zero_iff.1 (by have:(l.length:Int)=0:=(by simpa using h);omega)
  rw[L5,if_pos h0]
  ((first|refine rG Γ hm ?_|refine rD Γ hm z_ ?_);(conv=>whnf);repeat((first|refine aF ?_|refine aT ?_);(first|refine rG Γ hm ?_|refine rD Γ hm z_ ?_);conv=>whnf))
  exact dN
 have h0:l≠[]:=fun e=>by subst e;simp at h
 rw[L5,if_neg h0]
 ((first|refine rG Γ hm ?_|refine rD Γ hm z_ ?_);(conv=>whnf);repeat((first|refine aF ?_|refine aT ?_);(first|refine rG Γ hm ?_|refine rD Γ hm z_ ?_);conv=>whnf))
 refine Cb 3 1000 1 Ak E E ?_
 refine Dk l.length (fun j=>[(3,.osl 1000),(9,.sl 1 Ak l),(10,Aa l.length),(11,Aa j)]) (fun j=>[(1000,.row 1 Ak (I1 (l.take j)))]) []
  ⟨⟨rfl,rfl,rfl,rfl,rfl,rfl,rfl,rfl,trivial⟩,⟨.inl rfl,rfl,trivial⟩,rfl,rfl⟩ ?_
 intro j hj
 ((first|refine rG Γ hm ?_|refine rD Γ hm z_ ?_);(conv=>whnf);repeat((first|refine aF ?_|refine aT ?_);(first|refine rG Γ hm ?_|refine rD Γ hm z_ ?_);conv=>whnf))
 refine⟨fun h=>?_,fun h=>?_⟩
 ·have hlt:j<l.length:=by simpa using h
  have hj0:((j:Nat):Int).toNat<l.length:=by simpa using hlt
  obtain ⟨c,hc⟩:∃ c,l[((j:Nat):Int).toNat]'hj0=c:=⟨_,rfl⟩
  have hs:I1 (l.take (j+1))=I1 (l.take j)++[Ip (c.toNat / 16),Ip (c.toNat % 16)]:=by
   rw[I1,I1,List.take_succ_eq_append_getElem hlt,List.flatMap_append]
   rw[show l[j]=c from hc];rfl
  have hul:(I1 (l.take j)).length≤2 * l.length:=by
   rw[Ki,List.length_take];omega
  generalize I1 (l.take j)=u at *
  ((first|refine rG Γ hm ?_|refine rD Γ hm z_ ?_);(conv=>whnf);repeat((first|refine aF ?_|refine aT ?_);(first|refine rG Γ hm ?_|refine rD Γ hm z_ ?_);conv=>whnf))
  refine⟨E,by omega,hj0,?_⟩
  rw[hc]
  ((conv=>whnf);repeat((first|refine aF ?_|refine aT ?_);(first|refine rG Γ hm ?_|refine rD Γ hm z_ ?_);conv=>whnf))
  refine⟨by decide,?_⟩
  ((conv=>whnf);repeat((first|refine aF ?_|refine aT ?_);(first|refine rG Γ hm ?_|refine rD Γ hm z_ ?_);conv=>whnf))
  have hc2:=c.toNat_lt
  have e1:=hex_hi c
  have g1:=Ac1 (c.toNat / 16) q_
  refine⟨by rw[e1];omega,by rw[e1];show _<16;omega,?_⟩
  ((conv=>whnf);repeat((first|refine aF ?_|refine aT ?_);(first|refine rG Γ hm ?_|refine rD Γ hm z_ ?_);conv=>whnf))
  have e2:=hex_lo c
  have g2:=Ac1 (c.toNat % 16) q_
  refine⟨by rw[e2];omega,by rw[e2];show _<16;omega,?_⟩
  ((conv=>whnf);repeat((first|refine aF ?_|refine aT ?_);(first|refine rG Γ hm ?_|refine rD Γ hm z_ ?_);conv=>whnf))
  have v1:Ce hexC ((c.toNat:Int).fdiv (2 ^ min (Int.toNat 4) IntKind.u8.bits)).toNat=Ip (c.toNat / 16):=by rw[e1];exact g1
  have v2:Ce hexC (bits .and .u8 (c.toNat:Int) 15).toNat=Ip (c.toNat % 16):=by rw[e2];exact g2
  refine Hb (Al Γ.toTy 23 E E E E E (.row E) (.lit (e:=Ak) (l:=[Ce hexC ((c.toNat:Int).fdiv (2 ^ min (Int.toNat 4) IntKind.u8.bits)).toNat,Ce hexC (bits .and .u8 (c.toNat:Int) 15).toNat]) E E) y_ (by simp;omega) (by simp;omega)) z_ E ?_
  ((first|refine rG Γ hm ?_|refine rD Γ hm z_ ?_);(conv=>whnf);repeat((first|refine aF ?_|refine aT ?_);(first|refine rG Γ hm ?_|refine rD Γ hm z_ ?_);conv=>whnf))
  refine⟨z_,?_⟩
  ((conv=>whnf);repeat((first|refine aF ?_|refine aT ?_);(first|refine rG Γ hm ?_|refine rD Γ hm z_ ?_);conv=>whnf))
  refine iL ?_
  ((conv=>whnf);repeat((first|refine aF ?_|refine aT ?_);(first|refine rG Γ hm ?_|refine rD Γ hm z_ ?_);conv=>whnf))
  exact Dx [(1000,23)] hlt ⟨⟨E,E,E,E,E,E,E,E,Y⟩,⟨.inl (congrArg (Ob.row 1 Ak) (by rw[hs,v1,v2])),E,Y⟩,E,E⟩
 ·have hje:j=l.length:=qB h
  subst hje
  rw[List.take_length]
  ((first|refine rG Γ hm ?_|refine rD Γ hm z_ ?_);(conv=>whnf);repeat((first|refine aF ?_|refine aT ?_);(first|refine rG Γ hm ?_|refine rD Γ hm z_ ?_);conv=>whnf))
  refine Aw (Cp Γ.toTy (bs:=I1 l) E E E E E E E (.row E)) E E ?_
  ((first|refine rG Γ hm ?_|refine rD Γ hm z_ ?_);(conv=>whnf);repeat((first|refine aF ?_|refine aT ?_);(first|refine rG Γ hm ?_|refine rD Γ hm z_ ?_);conv=>whnf))
  exact dN
end Go.Sy.YtjenpnjajjplkaaGreatDoor
namespace Go.Sy.YtjenpnjajjplkaaGreatDoor
open Go.Proofs
attribute [local irreducible] Go.Sy.G Go.Sy.DR
set_option maxRecDepth 100000
set_option maxHeartbeats 4000000
def Ck (d:UInt8):List UInt8→List UInt8→List ByteArray
 | cur,[]=>[mkT cur]
 | cur,c::r=>if c=d then mkT cur::Ck d [] r else Ck d (cur++[c]) r
theorem I9 (d:UInt8):∀ (l cur:List UInt8),d∉l→Ck d cur l=[mkT (cur++l)]
 | [],cur,_=>by rw[Ck,List.append_nil]
 | c::l,cur,h=>by
  simp only[List.mem_cons,not_or]at h
  rw[Ck,if_neg (Ne.symm h.1),I9 d l _ h.2]
  simp
theorem Me (d:UInt8):∀ (l cur:List UInt8),d∈l→Ck d cur l=mkT (cur++l.take (Iz d l))::Ck d [] (l.drop (Iz d l+1))
 | [],cur,h=>by simp at h
 | c::l,cur,h=>by
  by_cases hc:c=d
  ·subst hc
   rw[Ck,if_pos rfl,Iz]
   simp[Lib.indexByte]
  ·have h2:d∈l:=by
    simp only[List.mem_cons]at h
    exact h.resolve_left (Ne.symm hc)
   have h3:=(Eu h2).1
   have e:Iz d (c::l)=Iz d l+1:=by
    have e1:Lib.indexByte (c::l) d=Lib.indexByte l d+1:=by
     rw[Lib.indexByte.eq_def]
     dsimp only
     rw[if_neg (by simpa using hc),if_neg (by simp;omega)]
    rw[Iz,Iz,e1]
    omega
   rw[Ck,if_neg hc,Me d l _ h2,e]
   simp
theorem J5 (d:UInt8) (l:List UInt8):∀ j,C1 d l (j+1)=C1 d (l.drop (Iz d l+1)) j
 | 0=>rfl
 | j+1=>by
  rw[C1,J5 d l j]
  rfl
theorem U2 (d:UInt8):∀ (k:Nat) (l:List UInt8),l.length≤k→A2 d (mkT l)=Ck d [] l
 | 0,l,h=>by
  rw[List.length_eq_zero_iff.1 (by omega:l.length=0)]
  simp[A2,Ck,C1,mkT]
 | k+1,l,h=>by
  by_cases hd:d∈l
  ·have h1:=Jl hd
   have h2:=(Eu hd).2
   have h3:(l.drop (Iz d l+1)).length≤k:=by rw[List.length_drop];omega
   rw[Me d l [] hd,← U2 d k _ h3]
   simp only[A2,B9]
   rw[← h1,List.range_succ_eq_map,List.map_cons,List.map_map,List.cons_append,List.nil_append,J5]
   congr 2
   apply List.map_congr_left
   intro j _
   show mkT (Eh d l (j+1))=_
   rw[Eh,Eh,J5]
  ·have h1:l.count d=0:=List.count_eq_zero.2 hd
   rw[I9 d l [] hd]
   simp[A2,B9,h1,C1]
theorem Adq (d:UInt8) (s:ByteArray):A2 d s=Ck d [] s.data.toList:=by
 rw[← U2 d _ _ (Nat.le_refl _),D5]
def E9 (c:UInt8):Int:=if 48≤c.toNat∧c.toNat≤57 then (c.toNat:Int)-48 else if 97≤c.toNat∧c.toNat≤102 then (c.toNat:Int)-87 else 16
theorem Si (c:UInt8):0≤E9 c∧E9 c≤16:=by
 unfold E9
 split
 ·omega
 split
 ·omega
 ·omega
theorem Aiu:∀ k:Fin 256,Lib.indexByte hexC.data.toList (UInt8.ofNat k.1)=if E9 (UInt8.ofNat k.1)=16 then -1 else E9 (UInt8.ofNat k.1):=by decide +kernel
theorem Vm (c:UInt8):Lib.indexByte hexC.data.toList c=if E9 c=16 then -1 else E9 c:=by
 have:=Aiu ⟨c.toNat,c.toNat_lt⟩
 simpa using this
def hexV (a b:UInt8):UInt8:=UInt8.ofNat ((E9 a).toNat * 16+(E9 b).toNat)
theorem or_all:∀ x y:Fin 16,IntKind.u8.wrap (bits .or .i64 (IntKind.i64.wrap ((x.1:Int) * 2 ^ (min (Int.toNat 4) IntKind.i64.bits))) (y.1:Int))=((UInt8.ofNat (x.1 * 16+y.1)).toNat:Int):=by decide +kernel
theorem hexV_or {a b:UInt8} (ha:E9 a≤15) (hb:E9 b≤15):IntKind.u8.wrap (bits .or .i64 (IntKind.i64.wrap (E9 a * 2 ^ (min (Int.toNat 4) IntKind.i64.bits))) (E9 b))=((hexV a b).toNat:Int):=by
 have h1:=Si a
 have h2:=Si b
 have:=or_all ⟨(E9 a).toNat,by omega⟩ ⟨(E9 b).toNat,by omega⟩
 dsimp only at this
 rw[Int.toNat_of_nonneg h1.1,Int.toNat_of_nonneg h2.1]at this
 exact this
def Bl:List UInt8→Option (List UInt8)
 | a::b::r=>if E9 a≤15∧E9 b≤15 then (Bl r).map (hexV a b::·) else none
 | _=>some []
def readBP (s:ByteArray):List UInt8 × Bool :=
 if s.data.toList=[45] then ([],true) else match Bl s.data.toList with
  | none=>([],false)
  | some b=>(b,decide (0<s.size) && decide (s.size % 2=0) && decide (b.length≤1600))
def Eg (s:ByteArray):List UInt8 × Bool :=
 if s.data.toList=[45] then ([],true) else if s.size=0∨s.size % 2=1∨3200<s.size then ([],false) else match Bl s.data.toList with
  | none=>([],false)
  | some b=>(b,true)
theorem Ee:∀ (k:Nat) (l:List UInt8),l.length≤k→∀ b,Bl l=some b→b.length=l.length / 2
 | 0,[],_,b,hb=>by simp only[Bl,Option.some.injEq]at hb;subst hb;rfl
 | 0,_::_,h,_,_=>by simp at h
 | k+1,[],_,b,hb=>by simp only[Bl,Option.some.injEq]at hb;subst hb;rfl
 | k+1,[x],_,b,hb=>by simp only[Bl,Option.some.injEq]at hb;subst hb;simp
 | k+1,x::y::r,h,b,hb=>by
  rw[Bl]at hb
  split at hb
  ·cases hr:Bl r with
   | none=>rw[hr]at hb;cases hb
   | some c =>
    rw[hr]at hb
    simp only[Option.map_some,Option.some.injEq]at hb
    subst hb
    have:=Ee k r (by simp at h;omega) c hr
    simp only[List.length_cons];omega
  ·cases hb
theorem Afw (s:ByteArray):(readBP s).2=(Eg s).2∧((Eg s).2=true→(readBP s).1=(Eg s).1):=by
 have hsz:s.data.toList.length=s.size:=rfl
 unfold readBP Eg
 split
 ·exact⟨E,fun _=>rfl⟩
 cases hp:Bl s.data.toList with
 | none =>
  dsimp only
  split
  ·exact⟨E,fun h=>rfl⟩
  ·exact⟨E,fun h=>rfl⟩
 | some b =>
  have hb:=Ee _ _ (Nat.le_refl _) b hp
  dsimp only
  split
  ·refine⟨?_,fun h=>by cases h⟩
   dsimp only
   rw[← Bool.not_eq_true]
   intro h
   simp only[Bool.and_eq_true,decide_eq_true_eq]at h
   omega
  ·refine⟨?_,fun _=>rfl⟩
   dsimp only
   simp only[Bool.and_eq_true,decide_eq_true_eq]
   omega
theorem eq45 (s:ByteArray):(s == ⟨#[45]⟩)=decide (s.data.toList=[45]):=by
 cases h:(s == (⟨#[45]⟩:ByteArray))
 ·rw[decide_eq_false]
  intro e
  have:s=⟨#[45]⟩:=I4 e
  subst this
  cases h
 ·rw[decide_eq_true]
  have e:s.data=(⟨#[45]⟩:ByteArray).data:=by simpa using (show (s.data == (⟨#[45]⟩:ByteArray).data)=true from h)
  rw[e]
end Go.Sy.YtjenpnjajjplkaaGreatDoor
namespace Go.Sy
open Go.RowKit
def OwnT {β:Type} (B:Nat) (T:Nat→Prop) (I:β→World→Prop):Prop :=
 ∀ s W W' row,I s W→W.grownBy W' row→(∀ r,row=some r→T r∨(B≤r∧∃ o:Obj,W.heap[r]? = some o∧o.isCells=false))→I s W'
theorem OwnT.alloc {β:Type} {B:Nat} {T:Nat→Prop} {I:β→World→Prop} (h:OwnT B T I) {s:β} {W:World} (o:Obj) (hs:I s W):I s (W.alloc o) :=
 h s W _ none hs ⟨rfl,rfl,rfl,by simp,fun k hk _=>Below.heap_alloc _ _ _ hk⟩ (fun r e=>by cases e)
variable {F:Fence} {n:Nat} {P:Program}
end Go.Sy
namespace Go.Proofs
open Go.RowKit Go.Shelf Go.Sy Go.Sy.YtjenpnjajjplkaaGreatDoor
attribute [local go_sem] Oper.semAt_some
structure SeqBox (W:World) (bp bs bv:Nat) (t:ByteArray):Prop where
 p:W.cell? ⟨bp,0,none⟩=some (.string ⟨#[46]⟩)
 s:W.cell? ⟨bs,0,none⟩=some (.string t)
 v:W.cell? ⟨bv,0,none⟩=some (.int .i64 0)
 f:W.frozen? ⟨bs,0,none⟩=false
def SameAt (bp bs bv:Nat) (W W':World):Prop:=W'.heap[bp]? = W.heap[bp]? ∧ W'.heap[bs]? = W.heap[bs]? ∧ W'.heap[bv]? = W.heap[bv]?
theorem SeqBox.keep {W W':World} {bp bs bv:Nat} {t:ByteArray} (h:SeqBox W bp bs bv t) (k:SameAt bp bs bv W W'):SeqBox W' bp bs bv t :=
 ⟨(World.cell?_of_block k.1).trans h.p,(World.cell?_of_block k.2.1).trans h.s,(World.cell?_of_block k.2.2).trans h.v,by
  have:W'.frozen? ⟨bs,0,none⟩=W.frozen? ⟨bs,0,none⟩:=by unfold World.frozen?;rw[k.2.1]
  rw[this];exact h.f⟩
end Go.Proofs
namespace Go.Sy
theorem W3 (w:World) {b:Nat} {cs:Array Value} {T:TypeId} {fr:Nat × Nat} (h:w.heap[b]? = some (.cells cs T fr)) (n:Nat) :
  (w.freeze ⟨b,n,none⟩ 1).heap[b]? = some (.cells cs T (if fr.1 == fr.2 then (n,n+1) else (min fr.1 n,max fr.2 (n+1))))∧(w.freeze ⟨b,n,none⟩ 1).os=w.os∧(w.freeze ⟨b,n,none⟩ 1).tape=w.tape∧(w.freeze ⟨b,n,none⟩ 1).output=w.output ∧
   (w.freeze ⟨b,n,none⟩ 1).heap.size=w.heap.size∧∀ i,i≠b→(w.freeze ⟨b,n,none⟩ 1).heap[i]? = w.heap[i]?:=by
 unfold World.freeze
 rw[if_neg j_]
 refine⟨?_,E,E,E,by simp,fun i hi=>?_⟩
 ·simp[Array.getElem?_modify,h]
 ·simp[Array.getElem?_modify,Ne.symm hi]
theorem If {P:Program} (Γ:Ty P) {o:Oper} {s:SS} {t:TypeId} {ti ei:TI} {x:Operand} {et:TypeId} {sz eb k:Nat} {ez:List Value} {svs:List SV} (h:o.op=.convert t t x)
  (ht:Γ.get t=some ti) (hk:ti.k=.slice et sz eb ez) (he:Γ.get et=some ei) (hek:ei.k=.int .u8) (hx:ev s x=.osl k) (hl:s.h k=.lit sz svs):Good P o s ⟨.osl k,[],[(k,.lit sz svs)]⟩:=by
 intro κ a w hi hr ho N Q hN
 have h1:=hr x (by simp[h,Op.operands])
 have h3:=ho k (.inr (by simp[Up.ws]))
 rw[hl]at h3
 rw[hx]at h1
 obtain ⟨b,cap,cs,T,fr,f1,f2,f3,f4,f5,f6⟩:=h3
 simp only[Rd,f1]at h1
 obtain ⟨hu,_⟩:=Cr Γ ht hk
 have he':=Vk Γ he hek
 obtain ⟨q1,q2,q3,q4,q5,q6⟩:=W3 w f2 cs.length
 have hsh:w.shape? b=some (T,cs.length):=by
  unfold World.shape?
  rw[f2]
  simp
 have hrun:(execOp a.eval o).run P w=.ok (.value (.slice (some ⟨b,0,none⟩) svs.length cap)) (w.freeze ⟨b,cs.length,none⟩ 1):=by
  simp[execOp,h,h1,convert,run_underlying hu,run_underlying he',markStringish,hsh]
 simp only[Oper.wp,hrun,Oper.upon]
 obtain ⟨st,inv⟩:=I7 hi (k:=k) (b:=b) (by rw[f1];rfl) q2 q3 q4 q5 q6
 refine hN _ κ _ (st.weaken (by simp[Up.ws])) inv (by simp[Rd,f1]) (fun p hp=>?_)
 simp only[List.mem_singleton]at hp
 subst hp
 refine⟨b,cap,cs,T,_,f1,q1,?_,f4,f5,fun i x hx=>?_⟩
 ·rcases f3 with h0 | h0
  ·rw[if_pos (by simpa using h0)];exact .inr (Nat.le_refl _)
  ·split
   ·exact .inr (Nat.le_refl _)
   ·exact .inr (by simp only;omega)
 obtain ⟨g0,u,g1,g2,g3,g4⟩:=f6 i x hx
 exact⟨g0,u,RdD.keep st.keeps _ _ g1,g2,g3,g4⟩
end Go.Sy
namespace Go.Sy
open Go.ChangeShapes Go.WideShapes Go.ChangeAt Go.RowKit
def κ0:Ka:=⟨fun _=>.new,fun _=>False⟩
theorem inv0 (w:World):Inv κ0 w :=
 ⟨fun i j b h=>(by cases h),fun k b h=>(by cases h),fun k b h=>(by cases h),fun b h=>False.elim h⟩
theorem Xk {w w':World} {κ':Ka} (c:Ctx ⟨w,κ0,[]⟩ κ' w'):Below w.heap.size w w' :=
 ⟨c.os,c.tape,c.output,c.size,fun k hk=>c.old k hk (fun j h=>by cases h)⟩
section
variable {H:Type} {enc:TypeId × Value→H} {P:Program}
theorem Lf {W W':World} (hl:laidOutB P=true) (hb:Below W.heap.size W W'):∀ {ts:List TypeId} {vs:List Value} {ds:List (DataW H)} {ps:List MemPlace},(∀ t∈ts,P.readableRec t=true∧t<P.types.size) →
  (∀ x∈ps,x.block<W.heap.size)→DataW.TrodAll enc P W 0 (fun _=>true) true ts vs ds ps→DataW.TrodAll enc P W' 0 (fun b=>decide (b<W.heap.size)) true ts vs ds ps
 | [],_,_,_,_,_,h=>by
  obtain ⟨rfl,rfl,rfl⟩:=trodAll_nil h
  rfl
 | t::ts,_,_,_,ht,hp,h=>by
  obtain ⟨v,vs,d,ds,p,q,rfl,rfl,rfl,h1,h2⟩:=trodAll_cons h
  have:=ht t y_
  exact⟨p,q,Below.trod hl this.1 this.2 h1 hb (fun x hx=>hp x (by simp[hx])),Lf hl hb (fun t h=>ht t (by simp[h])) (fun x hx=>hp x (by simp[hx])) h2,E⟩
end
end Go.Sy
namespace Go.Sy
open Go.RowKit
theorem T1 {A B:World} {row:Option Nat} {k:Nat} {v:Value} (h:A.cell? ⟨k,0,none⟩=some v) (hg:A.grownBy B row) (hr:row≠some k):B.cell? ⟨k,0,none⟩=some v∧B.frozen? ⟨k,0,none⟩=A.frozen? ⟨k,0,none⟩:=by
 obtain ⟨o,ho,_⟩:=cells_of_cell h
 obtain ⟨_,_,_,_,h5⟩:=hg
 have e:B.heap[k]? = A.heap[k]?:=h5 k (Array.getElem?_eq_some_iff.1 ho).1 (fun e=>hr e.symm)
 refine⟨(World.cell?_of_block e).trans h,?_⟩
 unfold World.frozen?
 rw[e]
def Var1 (W:World) (k:Nat) (v:Value):Prop:=W.cell? ⟨k,0,none⟩=some v∧W.frozen? ⟨k,0,none⟩=false
theorem Var1.at {W:World} {B:Nat} {v:Value} {t:TypeId} (h:W.heap[B]? = some (.cells #[v] t (0,0))):Var1 W B v:=by
 constructor<;>simp[World.cell?,World.frozen?,h]
theorem Var1.new (W:World) (v:Value) (t:TypeId) {k:Nat} (hk:k=W.heap.size):Var1 (W.alloc (.cells #[v] t)) k v:=by
 subst hk
 exact Var1.at (World.alloc_heap_new W _)
theorem Var1.grown {A B:World} {row:Option Nat} {k:Nat} {v:Value} (h:Var1 A k v) (hg:A.grownBy B row) (hr:row≠some k):Var1 B k v :=
 ⟨(T1 h.1 hg hr).1,(T1 h.1 hg hr).2.trans h.2⟩
theorem Var1.alloc {A:World} {k:Nat} {v:Value} (h:Var1 A k v) (o:Obj):Var1 (A.alloc o) k v:=h.grown (World.grownBy_alloc A o none) y_
theorem Var1.set {A:World} {k:Nat} {v:Value} (h:Var1 A k v) (u:Value):Var1 (A.setCell ⟨k,0,none⟩ u) k u :=
 ⟨World.cell?_setCell_same' _ _ _ (by rw[h.1];rfl),by rw[World.frozen?_setCell];exact h.2⟩
theorem Var1.other {A:World} {k b:Nat} {v:Value} (h:Var1 A k v) (hb:b≠k) (u:Value):Var1 (A.setCell ⟨b,0,none⟩ u) k v :=
 ⟨(World.cell?_setCell_other _ _ _ _ (by intro e;cases e;exact hb rfl)).trans h.1,by rw[World.frozen?_setCell];exact h.2⟩
end Go.Sy
namespace Go.Proofs
open Go.RowKit Go.Shelf Go.Sy Go.Sy.YtjenpnjajjplkaaGreatDoor
attribute [local go_sem] Oper.semAt_some
def addrV:List ByteArray→Int
 | []=>0
 | l=>l.foldl (fun a x=>bits .or .u32 (IntKind.u32.wrap (a * 2 ^ 8)) (IntKind.u32.wrap (V9 x 255).1)) 0
def octB (x:ByteArray):Bool:=(V9 x 255).2
def U6 (s:ByteArray):Int × Bool:=if (A2 46 s).length=4∧(A2 46 s).all octB=true then (addrV (A2 46 s),true) else (0,false)
end Go.Proofs
namespace Go.Sy.YtjenpnjajjplkaaGreatDoor
open Go.Proofs
end Go.Sy.YtjenpnjajjplkaaGreatDoor
namespace Go.Sy.YtjenpnjajjplkaaGreatDoor
structure StepM where
 kind:Int
 port:Int
 domain:Int
 at_:Int
 bytes:List UInt8
 up:List Bool
def Bm (x:StepM):SV:=.agg [Aa x.kind,Aa x.port,Aa x.domain,Aa x.at_,.sl 1 Ak x.bytes,.sl 1 Ab x.up]
structure SeenM where
 port:Int
 origin:Int
 bytes:List UInt8
def Ea (a bits:Int):Int:=if 0≤bits∧bits≤32 then a-a % 2 ^ (32-bits).toNat else 0
end Go.Sy.YtjenpnjajjplkaaGreatDoor
namespace Go.Sy.YtjenpnjajjplkaaGreatDoor
open Go.Proofs
attribute [local irreducible] Go.Sy.G Go.Sy.DR
set_option maxRecDepth 100000
set_option maxHeartbeats 4000000
def Ix (a bits:Int):SV:=.agg [Bi a,Aa bits]
theorem Ua (a bits:Int):Sy.Spec Tryz.prog 370 [Ix a bits] [] (Ab (decide (0≤bits∧bits≤32))) []:=cT F370 Tryz.ntmps370 fun F hF=>by
 conv=>whnf
 (repeat' (first | (refine⟨fun h=>?_,fun h=>?_⟩<;>(repeat (first | simp only[decide_eq_true_eq]at h | simp only[decide_eq_false_iff_not]at h))<;>((refine oO ?_))) | (refine At rfl (.cons .tmp .nil) ?_ rfl)))
 all_goals (refine congrArg Ab ?_;clear hF;grind)
theorem V0 (a bits:Int) (h:0≤bits∧bits≤32):Sy.Spec Tryz.prog 371 [Ix a bits] [] (Bi (2 ^ (32-bits).toNat-1)) []:=cT F371 Tryz.ntmps371 fun F hF=>by
 conv=>whnf
 refine iW ?_
 refine⟨by omega,?_⟩
 conv=>whnf
 refine At E (.cons .tmp .nil) ?_ E
 refine congrArg (fun z=>SV.val (.int .u32 z)) ?_
 obtain ⟨k,hk,hk2⟩:∃ k:Nat,(32-bits).toNat=k∧k≤32:=⟨_,rfl,by omega⟩
 have h1:min (32-bits).toNat IntKind.u32.bits=k:=by show min (32-bits).toNat 32=k;omega
 rw[h1,hk,IntKind.wrap_u32,IntKind.wrap_u32]
 have h2:(2:Int) ^ k≤4294967296:=by
  have:=Nat.pow_le_pow_right (n:=2) j_ hk2
  rw[show (2:Int) ^ k=((2 ^ k:Nat):Int) by rw[Int.natCast_pow];rfl]
  have e:(2:Nat) ^ 32=4294967296:=rfl
  rw[e]at this
  omega
 have h0:(1:Int)≤2 ^ k:=by
  have:=Nat.one_le_two_pow (n:=k)
  rw[show (2:Int) ^ k=((2 ^ k:Nat):Int) by rw[Int.natCast_pow];rfl]
  omega
 generalize (2:Int) ^ k=q at *
 omega
theorem T8 (a k:Nat) (ha:a<4294967296) (hk:k≤32):bits .andNot .u32 (a:Int) ((2 ^ k-1:Nat):Int)=((a-a % 2 ^ k:Nat):Int):=by
 have hp:=Nat.pow_le_pow_right (n:=2) j_ hk
 have e32:(2:Nat) ^ 32=4294967296:=rfl
 rw[e32]at hp
 have h1:=Nat.one_le_two_pow (n:=k)
 have x1:(BitVec.ofInt 32 (a:Int)).toNat=a:=by rw[BitVec.ofInt_natCast,BitVec.toNat_ofNat];exact Nat.mod_eq_of_lt q_
 have x2:(BitVec.ofInt 32 ((2 ^ k-1:Nat):Int)).toNat=2 ^ k-1:=by rw[BitVec.ofInt_natCast,BitVec.toNat_ofNat];exact Nat.mod_eq_of_lt q_
 have key:(BitVec.ofInt 32 (a:Int) &&& ~~~ BitVec.ofInt 32 ((2 ^ k-1:Nat):Int)).toNat=a-a % 2 ^ k:=by
  have hd:a-a % 2 ^ k=2 ^ k * (a / 2 ^ k):=by have:=Nat.div_add_mod a (2 ^ k);omega
  rw[hd]
  refine Nat.eq_of_testBit_eq fun i=>?_
  rw[BitVec.testBit_toNat,BitVec.getLsbD_and,BitVec.getLsbD_not,← BitVec.testBit_toNat,← BitVec.testBit_toNat,x1,x2,Nat.testBit_two_pow_sub_one,Nat.testBit_two_pow_mul,Nat.testBit_div_two_pow]
  by_cases hi:i<k
  ·have:¬ i≥k:=by omega
   simp[hi,this]
  ·have h2:i≥k:=by omega
   have h3:i-k+k=i:=by omega
   by_cases h4:i<32
   ·simp[hi,h2,h4,h3]
   ·have h5:a.testBit i=false:=Nat.testBit_lt_two_pow (Nat.lt_of_lt_of_le (by rw[← e32]at ha;exact ha) (Nat.pow_le_pow_right j_ q_))
    rw[h3,h5]
    simp
 show IntKind.u32.wrap (((BitVec.ofInt 32 (a:Int) &&& ~~~ BitVec.ofInt 32 ((2 ^ k-1:Nat):Int)).toNat:Nat):Int)=_
 rw[key,IntKind.wrap_u32]
 omega
theorem H2 (a k:Nat) (bits:Int) (h:0≤bits∧bits≤32) (hk:(32-bits).toNat=k):Ea a bits=((a-a % 2 ^ k:Nat):Int):=by
 rw[Ea,if_pos h,hk]
 have h1:=Nat.mod_le a (2 ^ k)
 rw[show (2:Int) ^ k=((2 ^ k:Nat):Int) by rw[Int.natCast_pow];rfl]
 omega
theorem Acj (a:Nat) (bits:Int) (ha:a<4294967296):Sy.Spec Tryz.prog 307 [Ix a bits] [] (Bi (Ea a bits)) []:=cT F307 Tryz.ntmps307 fun F hF=>by
 have hr:=Ua a bits
 by_cases hb:0≤bits∧bits≤32
 ·have hrest:=V0 a bits hb
  rw[decide_eq_true hb]at hr
  obtain ⟨k,hk,hk2⟩:∃ k:Nat,(32-bits).toNat=k∧k≤32:=⟨_,rfl,by omega⟩
  have hn:=T8 a k ha hk2
  have hf:=H2 a k bits hb hk
  have h1:=Nat.one_le_two_pow (n:=k)
  have e2:(2:Int) ^ k-1=((2 ^ k-1:Nat):Int):=by
   rw[show (2:Int) ^ k=((2 ^ k:Nat):Int) by rw[Int.natCast_pow];rfl]
   omega
  rw[hk,e2]at hrest
  rw[hf,← hn]
  ((conv=>whnf);repeat((first|refine aF ?_|refine aT ?_);(first|refine rG Γ hm ?_|refine rD Γ hm z_ ?_);conv=>whnf))
  refine c0 hr F370 ?_
  ((first|refine rG Γ hm ?_|refine rD Γ hm z_ ?_);(conv=>whnf);repeat((first|refine aF ?_|refine aT ?_);(first|refine rG Γ hm ?_|refine rD Γ hm z_ ?_);conv=>whnf))
  first | refine cD hrest F371 ?_ | refine c0 hrest F371 ?_
  ((first|refine rG Γ hm ?_|refine rD Γ hm z_ ?_);(conv=>whnf);repeat((first|refine aF ?_|refine aT ?_);(first|refine rG Γ hm ?_|refine rD Γ hm z_ ?_);conv=>whnf))
  first | (refine⟨z_,?_⟩;((conv=>whnf);repeat((first|refine aF ?_|refine aT ?_);(first|refine rG Γ hm ?_|refine rD Γ hm z_ ?_);conv=>whnf))) | skip
  exact dN
 ·rw[decide_eq_false hb]at hr
  have hf:Ea a bits=0:=by rw[Ea,if_neg hb]
  rw[hf]
  ((conv=>whnf);repeat((first|refine aF ?_|refine aT ?_);(first|refine rG Γ hm ?_|refine rD Γ hm z_ ?_);conv=>whnf))
  refine c0 hr F370 ?_
  ((first|refine rG Γ hm ?_|refine rD Γ hm z_ ?_);(conv=>whnf);repeat((first|refine aF ?_|refine aT ?_);(first|refine rG Γ hm ?_|refine rD Γ hm z_ ?_);conv=>whnf))
  exact dN
def Ju (a bits:Int):Int:=if 0≤bits∧bits≤32 then Ea a bits+2 ^ (32-bits).toNat-1 else 0
theorem or_low (a k:Nat) (ha:a<4294967296) (hk:k≤32):bits .or .u32 (a:Int) ((2 ^ k-1:Nat):Int)=((a-a % 2 ^ k+(2 ^ k-1):Nat):Int):=by
 have hp:=Nat.pow_le_pow_right (n:=2) j_ hk
 have e32:(2:Nat) ^ 32=4294967296:=rfl
 rw[e32]at hp
 have h1:=Nat.one_le_two_pow (n:=k)
 have x1:(BitVec.ofInt 32 (a:Int)).toNat=a:=by rw[BitVec.ofInt_natCast,BitVec.toNat_ofNat];exact Nat.mod_eq_of_lt q_
 have x2:(BitVec.ofInt 32 ((2 ^ k-1:Nat):Int)).toNat=2 ^ k-1:=by rw[BitVec.ofInt_natCast,BitVec.toNat_ofNat];exact Nat.mod_eq_of_lt q_
 have hd:a-a % 2 ^ k=2 ^ k * (a / 2 ^ k):=by have:=Nat.div_add_mod a (2 ^ k);omega
 have hsum:=Nat.two_pow_add_eq_or_of_lt (i:=k) (b:=2 ^ k-1) q_ (a / 2 ^ k)
 have key:(BitVec.ofInt 32 (a:Int) ||| BitVec.ofInt 32 ((2 ^ k-1:Nat):Int)).toNat=a-a % 2 ^ k+(2 ^ k-1):=by
  rw[hd,hsum]
  refine Nat.eq_of_testBit_eq fun i=>?_
  rw[BitVec.testBit_toNat,BitVec.getLsbD_or,← BitVec.testBit_toNat,← BitVec.testBit_toNat,x1,x2,Nat.testBit_or,Nat.testBit_two_pow_sub_one,Nat.testBit_two_pow_mul,Nat.testBit_div_two_pow]
  by_cases hi:i<k
  ·simp[hi]
  ·have h2:i≥k:=by omega
   have h3:i-k+k=i:=by omega
   simp[hi,h2,h3]
 show IntKind.u32.wrap (((BitVec.ofInt 32 (a:Int) ||| BitVec.ofInt 32 ((2 ^ k-1:Nat):Int)).toNat:Nat):Int)=_
 have hlt:(BitVec.ofInt 32 (a:Int) ||| BitVec.ofInt 32 ((2 ^ k-1:Nat):Int)).toNat<4294967296:=BitVec.isLt _
 rw[key]at hlt
 rw[key,IntKind.wrap_u32]
 omega
theorem Vh (a k:Nat) (bits:Int) (h:0≤bits∧bits≤32) (hk:(32-bits).toNat=k):Ju a bits=((a-a % 2 ^ k+(2 ^ k-1):Nat):Int):=by
 rw[Ju,if_pos h,hk,H2 a k bits h hk]
 have h1:=Nat.one_le_two_pow (n:=k)
 rw[show (2:Int) ^ k=((2 ^ k:Nat):Int) by rw[Int.natCast_pow];rfl]
 omega
theorem Afa (a:Nat) (bits:Int) (ha:a<4294967296):Sy.Spec Tryz.prog 308 [Ix a bits] [] (Bi (Ju a bits)) []:=cT F308 Tryz.ntmps308 fun F hF=>by
 have hr:=Ua a bits
 by_cases hb:0≤bits∧bits≤32
 ·have hrest:=V0 a bits hb
  rw[decide_eq_true hb]at hr
  obtain ⟨k,hk,hk2⟩:∃ k:Nat,(32-bits).toNat=k∧k≤32:=⟨_,rfl,by omega⟩
  have hn:=or_low a k ha hk2
  have hf:=Vh a k bits hb hk
  have h1:=Nat.one_le_two_pow (n:=k)
  have e2:(2:Int) ^ k-1=((2 ^ k-1:Nat):Int):=by
   rw[show (2:Int) ^ k=((2 ^ k:Nat):Int) by rw[Int.natCast_pow];rfl]
   omega
  rw[hk,e2]at hrest
  rw[hf,← hn]
  ((conv=>whnf);repeat((first|refine aF ?_|refine aT ?_);(first|refine rG Γ hm ?_|refine rD Γ hm z_ ?_);conv=>whnf))
  refine c0 hr F370 ?_
  ((first|refine rG Γ hm ?_|refine rD Γ hm z_ ?_);(conv=>whnf);repeat((first|refine aF ?_|refine aT ?_);(first|refine rG Γ hm ?_|refine rD Γ hm z_ ?_);conv=>whnf))
  first | refine cD hrest F371 ?_ | refine c0 hrest F371 ?_
  ((first|refine rG Γ hm ?_|refine rD Γ hm z_ ?_);(conv=>whnf);repeat((first|refine aF ?_|refine aT ?_);(first|refine rG Γ hm ?_|refine rD Γ hm z_ ?_);conv=>whnf))
  first | (refine⟨z_,?_⟩;((conv=>whnf);repeat((first|refine aF ?_|refine aT ?_);(first|refine rG Γ hm ?_|refine rD Γ hm z_ ?_);conv=>whnf))) | skip
  exact dN
 ·rw[decide_eq_false hb]at hr
  have hf:Ju a bits=0:=by rw[Ju,if_neg hb]
  rw[hf]
  ((conv=>whnf);repeat((first|refine aF ?_|refine aT ?_);(first|refine rG Γ hm ?_|refine rD Γ hm z_ ?_);conv=>whnf))
  refine c0 hr F370 ?_
  ((first|refine rG Γ hm ?_|refine rD Γ hm z_ ?_);(conv=>whnf);repeat((first|refine aF ?_|refine aT ?_);(first|refine rG Γ hm ?_|refine rD Γ hm z_ ?_);conv=>whnf))
  exact dN
theorem Ah0 (a b:Nat) (ha:a<4294967296) (hb:b<4294967296):bits .xor .u32 (a:Int) (b:Int)=((a ^^^ b:Nat):Int):=by
 have x1:(BitVec.ofInt 32 (a:Int)).toNat=a:=by rw[BitVec.ofInt_natCast,BitVec.toNat_ofNat];exact Nat.mod_eq_of_lt q_
 have x2:(BitVec.ofInt 32 (b:Int)).toNat=b:=by rw[BitVec.ofInt_natCast,BitVec.toNat_ofNat];exact Nat.mod_eq_of_lt q_
 show IntKind.u32.wrap (((BitVec.ofInt 32 (a:Int) ^^^ BitVec.ofInt 32 (b:Int)).toNat:Nat):Int)=_
 have hlt:(BitVec.ofInt 32 (a:Int) ^^^ BitVec.ofInt 32 (b:Int)).toNat<4294967296:=BitVec.isLt _
 rw[BitVec.toNat_xor,x1,x2]at hlt ⊢
 rw[IntKind.wrap_u32]
 omega
theorem masked (a x k:Nat) (ha:a<4294967296) (hx:x<4294967296) (hk:k≤32):(bits .andNot .u32 (bits .xor .u32 (a:Int) (x:Int)) ((2 ^ k-1:Nat):Int) == 0)=decide (a / 2 ^ k=x / 2 ^ k):=by
 have hxl:a ^^^ x<4294967296:=Nat.xor_lt_two_pow (n:=32) ha hx
 rw[Ah0 a x ha hx,T8 _ k hxl hk]
 have hd:(a ^^^ x)-(a ^^^ x) % 2 ^ k=2 ^ k * ((a ^^^ x) / 2 ^ k):=by have:=Nat.div_add_mod (a ^^^ x) (2 ^ k);omega
 rw[hd,Nat.xor_div_two_pow]
 have h1:=Nat.one_le_two_pow (n:=k)
 by_cases h:a / 2 ^ k=x / 2 ^ k
 ·rw[h,Nat.xor_self]
  simp
 ·rw[decide_eq_false h]
  have:a / 2 ^ k ^^^ x / 2 ^ k≠0:=fun e=>h (by
   have:=congrArg (fun z=>z ^^^ x / 2 ^ k) e
   simpa [Nat.xor_assoc] using this)
  rw[beq_eq_false_iff_ne]
  intro e
  have e:=Int.natCast_eq_zero.1 e
  rcases Nat.mul_eq_zero.1 e with e | e
  ·omega
  ·exact this e
def D0 (n:Net):Prop:=∀ x∈n.irbs,0≤x.addr∧x.addr<4294967296
end Go.Sy.YtjenpnjajjplkaaGreatDoor
namespace Go.Sy.YtjenpnjajjplkaaGreatDoor
open Go.Proofs
def W0 (m:Nat):Bool:=decide (m / 1099511627776 % 2=1)
theorem Ai4 (m k:Nat):m &&& 2 ^ k=if m / 2 ^ k % 2=1 then 2 ^ k else 0:=by
 apply Nat.eq_of_testBit_eq
 intro i
 rw[Nat.testBit_and,Nat.testBit_two_pow]
 by_cases hi:k=i
 ·subst hi
  rw[decide_eq_true rfl,Bool.and_true,Nat.testBit_eq_decide_div_mod_eq]
  split
  ·rename_i h;rw[decide_eq_true h,Nat.testBit_two_pow_self]
  ·rename_i h;rw[decide_eq_false h,Nat.zero_testBit]
 ·rw[decide_eq_false hi,Bool.and_false]
  split
  ·rw[Nat.testBit_two_pow,decide_eq_false hi]
  ·rw[Nat.zero_testBit]
theorem Aev (m:Nat) (h:m<18446744073709551616):(bits .and .u64 (m:Int) 1099511627776 != 0)=W0 m:=by
 have e:=bits_and_u64_nat m 1099511627776 h j_
 rw[show ((1099511627776:Nat):Int)=1099511627776 from rfl]at e
 rw[e,show (1099511627776:Nat)=2 ^ 40 from rfl,Ai4,W0,show (1099511627776:Nat)=2 ^ 40 from rfl]
 split
 ·rename_i h;rw[decide_eq_true h];rfl
 ·rename_i h;rw[decide_eq_false h];rfl
end Go.Sy.YtjenpnjajjplkaaGreatDoor
namespace Go.Sy.YtjenpnjajjplkaaGreatDoor
open Go.Proofs
attribute [local irreducible] Go.Sy.G Go.Sy.DR
set_option maxRecDepth 20000
set_option maxHeartbeats 4000000
theorem e_link {n:Net} (h:Ac n=true) {i:Nat} (hi:i<n.links.length):(0≤n.links[i].a∧n.links[i].a.toNat<n.ports.length)∧(0≤n.links[i].b∧n.links[i].b.toNat<n.ports.length):=by
 simp only[Ac,Bool.and_eq_true]at h
 have:=allB_iff.1 h.1.1.1.1.2 i hi
 simp only[Qu,Ah,Bool.and_eq_true,decide_eq_true_eq]at this
 omega
theorem Jc {n:Net} {i:Int} (h:0≤E5 n i):(0≤i∧i.toNat<n.ports.length)∧Ac n=true∧(E5 n i).toNat<n.ports.length:=by
 unfold E5 at h ⊢
 split at h
 ·rename_i hc
  rw[if_pos hc]
  have hk:i.toNat<n.ports.length:=by omega
  have e1:nth n.ports i=n.ports[i.toNat]:=Am hk
  rw[e1]at hc h ⊢
  have hq:=Q0 hc.2.2 hk hc.2.1
  have e2:nth n.links n.ports[i.toNat].link=n.links[n.ports[i.toNat].link.toNat]:=Am hq.1
  have hl:=e_link hc.2.2 hq.1
  rw[e2]at h ⊢
  refine⟨by omega,hc.2.2,?_⟩
  split
  ·exact hl.2.2
  ·exact hl.1.2
 ·omega
def Sj (n:Net) (i v:Int):Int:=if v=(nth n.ports i).native then (nth n.ports (E5 n i)).native else if inB (nth n.ports (E5 n i)).tagged v=true then v else 0
def crossT (n:Net) (i v:Int):Int × Int × Bool :=
 if 0≤E5 n i∧Co (nth n.ports i) v=true∧Sj n i v≠0 then (E5 n i,Sj n i v,true) else (0,0,false)
theorem Yz (n:Net) (hn:n.Fin) (i v:Int):Sy.Spec Tryz.prog 250 [Aj n,Aa i,Aa v] [] (.tup [Aa (crossT n i v).1,Aa (crossT n i v).2.1,Ab (crossT n i v).2.2]) []:=cT F250 Tryz.ntmps250 fun F hF=>by
 have q:=Wt n hn i
 have hth:=Jc (n:=n) (i:=i)
 have hc:=crossT.eq_1 n i v
 unfold Sj at hc
 generalize crossT n i v=r at *
 obtain ⟨far,hfar⟩:∃ far,E5 n i=far:=⟨_,rfl⟩
 rw[hfar]at q hth hc
 ((conv=>whnf);repeat((first|refine aF ?_|refine aT ?_);(first|refine rG Γ hm ?_|refine rD Γ hm z_ ?_);conv=>whnf))
 refine c0 q F184 ?_
 ((first|refine rG Γ hm ?_|refine rD Γ hm z_ ?_);(conv=>whnf);repeat((first|refine aF ?_|refine aT ?_);(first|refine rG Γ hm ?_|refine rD Γ hm z_ ?_);conv=>whnf))
 refine⟨fun h=>?_,fun h=>?_⟩
 ·have h1:far<0:=of_decide_eq_true h
  rw[if_neg q_]at hc
  subst hc
  ((first|refine rG Γ hm ?_|refine rD Γ hm z_ ?_);(conv=>whnf);repeat((first|refine aF ?_|refine aT ?_);(first|refine rG Γ hm ?_|refine rD Γ hm z_ ?_);conv=>whnf))
  exact dN
 have h1:0≤far:=qB h
 obtain ⟨⟨hi0,hk⟩,hb,hfk⟩:=hth h1
 have e1:nth n.ports i=n.ports[i.toNat]:=Am hk
 have e2:nth n.ports far=n.ports[far.toNat]:=Am hfk
 rw[e1,e2]at hc
 have ht1:=hn.tagged _ (List.getElem_mem hk)
 have ht2:=hn.tagged _ (List.getElem_mem hfk)
 obtain ⟨p,hp⟩:∃ p,n.ports[i.toNat]=p:=⟨_,rfl⟩
 obtain ⟨o,ho⟩:∃ o,n.ports[far.toNat]=o:=⟨_,rfl⟩
 rw[hp]at hc ht1
 rw[ho]at hc ht2
 have hms:=Wr p v ht1
 have hcs:=I6 o.tagged v ht2
 refine A6 3 8 (Aj n) E E E ?_
 ((first|refine rG Γ hm ?_|refine rD Γ hm z_ ?_);(conv=>whnf);repeat((first|refine aF ?_|refine aT ?_);(first|refine rG Γ hm ?_|refine rD Γ hm z_ ?_);conv=>whnf))
 refine⟨E,hi0,hk,?_⟩
 rw[hp]
 ((conv=>whnf);repeat((first|refine aF ?_|refine aT ?_);(first|refine rG Γ hm ?_|refine rD Γ hm z_ ?_);conv=>whnf))
 refine c0 hms F179 ?_
 cases hm2:Co p v
 ·rw[if_neg (by simp[hm2])]at hc
  subst hc
  ((first|refine rG Γ hm ?_|refine rD Γ hm z_ ?_);(conv=>whnf);repeat((first|refine aF ?_|refine aT ?_);(first|refine rG Γ hm ?_|refine rD Γ hm z_ ?_);conv=>whnf))
  exact dN
 ((first|refine rG Γ hm ?_|refine rD Γ hm z_ ?_);(conv=>whnf);repeat((first|refine aF ?_|refine aT ?_);(first|refine rG Γ hm ?_|refine rD Γ hm z_ ?_);conv=>whnf))
 refine⟨E,h1,hfk,?_⟩
 rw[ho]
 ((conv=>whnf);repeat((first|refine aF ?_|refine aT ?_);(first|refine rG Γ hm ?_|refine rD Γ hm z_ ?_);conv=>whnf))
 refine⟨E,hi0,hk,?_⟩
 rw[hp]
 ((conv=>whnf);repeat((first|refine aF ?_|refine aT ?_);(first|refine rG Γ hm ?_|refine rD Γ hm z_ ?_);conv=>whnf))
 refine⟨fun h=>?_,fun h=>?_⟩
 ·have h2:v=p.native:=by simpa using h
  rw[if_pos h2]at hc
  ((first|refine rG Γ hm ?_|refine rD Γ hm z_ ?_);(conv=>whnf);repeat((first|refine aF ?_|refine aT ?_);(first|refine rG Γ hm ?_|refine rD Γ hm z_ ?_);conv=>whnf))
  refine⟨fun h=>?_,fun h=>?_⟩
  ·have h3:o.native=0:=by simpa using h
   rw[if_neg (fun hh=>hh.2.2 h3)]at hc
   subst hc
   ((first|refine rG Γ hm ?_|refine rD Γ hm z_ ?_);(conv=>whnf);repeat((first|refine aF ?_|refine aT ?_);(first|refine rG Γ hm ?_|refine rD Γ hm z_ ?_);conv=>whnf))
   exact dN
  ·have h3:o.native≠0:=by simpa using h
   rw[if_pos ⟨h1,hm2,h3⟩]at hc
   subst hc
   ((first|refine rG Γ hm ?_|refine rD Γ hm z_ ?_);(conv=>whnf);repeat((first|refine aF ?_|refine aT ?_);(first|refine rG Γ hm ?_|refine rD Γ hm z_ ?_);conv=>whnf))
   exact dN
 have h2:¬ v=p.native:=by simpa using h
 rw[if_neg h2]at hc
 ((first|refine rG Γ hm ?_|refine rD Γ hm z_ ?_);(conv=>whnf);repeat((first|refine aF ?_|refine aT ?_);(first|refine rG Γ hm ?_|refine rD Γ hm z_ ?_);conv=>whnf))
 refine c0 hcs F100 ?_
 cases hin:inB o.tagged v
 ·rw[hin,if_neg y_]at hc
  subst hc
  ((first|refine rG Γ hm ?_|refine rD Γ hm z_ ?_);(conv=>whnf);repeat((first|refine aF ?_|refine aT ?_);(first|refine rG Γ hm ?_|refine rD Γ hm z_ ?_);conv=>whnf))
  exact dN
 rw[hin,if_pos rfl]at hc
 ((first|refine rG Γ hm ?_|refine rD Γ hm z_ ?_);(conv=>whnf);repeat((first|refine aF ?_|refine aT ?_);(first|refine rG Γ hm ?_|refine rD Γ hm z_ ?_);conv=>whnf))
 refine⟨fun h=>?_,fun h=>?_⟩
 ·have h3:v=0:=by simpa using h
  rw[if_neg (fun hh=>hh.2.2 h3)]at hc
  subst hc
  ((first|refine rG Γ hm ?_|refine rD Γ hm z_ ?_);(conv=>whnf);repeat((first|refine aF ?_|refine aT ?_);(first|refine rG Γ hm ?_|refine rD Γ hm z_ ?_);conv=>whnf))
  exact dN
 ·have h3:v≠0:=by simpa using h
  rw[if_pos ⟨h1,hm2,h3⟩]at hc
  subst hc
  ((first|refine rG Γ hm ?_|refine rD Γ hm z_ ?_);(conv=>whnf);repeat((first|refine aF ?_|refine aT ?_);(first|refine rG Γ hm ?_|refine rD Γ hm z_ ?_);conv=>whnf))
  exact dN
def linkDomT (n:Net) (i v:Int):Int × Bool:=if (crossT n i v).2.2=true then (Oi n (nth n.ports (crossT n i v).1).dev (crossT n i v).2.1,true) else (0,false)
theorem Ol {n:Net} {i v:Int} (h:(crossT n i v).2.2=true):0≤(crossT n i v).1∧(crossT n i v).1.toNat<n.ports.length:=by
 unfold crossT at h ⊢
 split at h
 ·rename_i hc
  rw[if_pos hc]
  exact⟨hc.1,(Jc hc.1).2.2⟩
 ·cases h
theorem Wu (n:Net) (hn:n.Fin) (i v:Int):Sy.Spec Tryz.prog 167 [Aj n,Aa i,Aa v] [] (.tup [Aa (linkDomT n i v).1,Ab (linkDomT n i v).2]) []:=cT F167 Tryz.ntmps167 fun F hF=>by
 have q:=Yz n hn i v
 have hth:=Ol (n:=n) (i:=i) (v:=v)
 have hc:=linkDomT.eq_1 n i v
 generalize linkDomT n i v=r at *
 generalize crossT n i v=x at *
 obtain ⟨far,to,ok⟩:=x
 ((conv=>whnf);repeat((first|refine aF ?_|refine aT ?_);(first|refine rG Γ hm ?_|refine rD Γ hm z_ ?_);conv=>whnf))
 refine c0 q F250 ?_
 cases ok
 ·rw[if_neg y_]at hc
  subst hc
  ((first|refine rG Γ hm ?_|refine rD Γ hm z_ ?_);(conv=>whnf);repeat((first|refine aF ?_|refine aT ?_);(first|refine rG Γ hm ?_|refine rD Γ hm z_ ?_);conv=>whnf))
  exact dN
 rw[if_pos rfl]at hc
 have hf:=hth rfl
 dsimp only at hf hc
 have e2:nth n.ports far=n.ports[far.toNat]:=Am hf.2
 rw[e2]at hc
 obtain ⟨o,ho⟩:∃ o,n.ports[far.toNat]'hf.2=o:=⟨_,rfl⟩
 rw[ho]at hc
 have q2:=Mw n hn o.dev to
 subst hc
 refine A6 3 8 (Aj n) E E E ?_
 ((first|refine rG Γ hm ?_|refine rD Γ hm z_ ?_);(conv=>whnf);repeat((first|refine aF ?_|refine aT ?_);(first|refine rG Γ hm ?_|refine rD Γ hm z_ ?_);conv=>whnf))
 refine⟨E,hf.1,hf.2,?_⟩
 rw[ho]
 ((conv=>whnf);repeat((first|refine aF ?_|refine aT ?_);(first|refine rG Γ hm ?_|refine rD Γ hm z_ ?_);conv=>whnf))
 refine cD q2 F168 ?_
 ((first|refine rG Γ hm ?_|refine rD Γ hm z_ ?_);(conv=>whnf);repeat((first|refine aF ?_|refine aT ?_);(first|refine rG Γ hm ?_|refine rD Γ hm z_ ?_);conv=>whnf))
 refine⟨z_,?_⟩
 ((conv=>whnf);repeat((first|refine aF ?_|refine aT ?_);(first|refine rG Γ hm ?_|refine rD Γ hm z_ ?_);conv=>whnf))
 exact dN
def Agz (n:Net) (s:ByteArray) (p:Port):Bool:=(nth n.devices p.dev).name++⟨#[46]⟩++p.name == s
def Aje (n:Net) (s:ByteArray):Int:=Bc (Agz n s) n.ports
def Abq (n:Net) (s:ByteArray) (i:Nat):Bool:=Ca n i == s
def Zq (n:Net) (s:ByteArray):Int:=match (List.range n.domains.length).find? (Abq n s) with | some i=>i | none=>-1
theorem Ti (l:List Irb) (p:Irb→Bool) (f:FuncId) (first cap:List SV) (hc:(SV.clo (.func f) first cap).inn []=true) (hf:∀ x∈l,Hk Tryz.prog f (first++[Bt x]++cap) (Ab (p x))) (hl:Aq l) :
  Sy.Spec Tryz.prog 325 [.sl 5 Bt l,.clo (.func f) first cap] [] (Aa (Bc p l)) []:=cT F325 Tryz.ntmps325 fun F hF=>by
 unfold Aq at hl
 have hin:∀ x:Irb,By [] (first++[Bt x]++cap)=true:=fun x=>Cy hc rfl
 ((conv=>whnf);repeat((first|refine aF ?_|refine aT ?_);(first|refine rG Γ hm ?_|refine rD Γ hm z_ ?_);conv=>whnf))
 refine A3 l.length (fun j=>Dw (fun _ x=>!(p x)) l j) (fun j=>[(0,.sl 5 Bt l),(1,.clo (.func f) first cap),(7,Aa l.length),(8,Aa j)]) (fun _=>[]) [] (Bb _ _) ⟨⟨E,E,Bg _,hc,E,E,E,E,Y⟩,Y,E,E⟩ ?_
 intro j hj hI
 ((first|refine rG Γ hm ?_|refine rD Γ hm z_ ?_);(conv=>whnf);repeat((first|refine aF ?_|refine aT ?_);(first|refine rG Γ hm ?_|refine rD Γ hm z_ ?_);conv=>whnf))
 refine⟨fun h=>?_,fun h=>?_⟩
 ·have h:=of_decide_eq_true h
  have hj2:j<l.length:=by omega
  ((first|refine rG Γ hm ?_|refine rD Γ hm z_ ?_);(conv=>whnf);repeat((first|refine aF ?_|refine aT ?_);(first|refine rG Γ hm ?_|refine rD Γ hm z_ ?_);conv=>whnf))
  refine⟨E,by omega,by omega,?_⟩
  ((conv=>whnf);repeat((first|refine aF ?_|refine aT ?_);(first|refine rG Γ hm ?_|refine rD Γ hm z_ ?_);conv=>whnf))
  refine H4 (hf l[j] (List.getElem_mem hj2)) E E E (by simp only[hin];rfl) E E ?_
  ((first|refine rG Γ hm ?_|refine rD Γ hm z_ ?_);(conv=>whnf);repeat((first|refine aF ?_|refine aT ?_);(first|refine rG Γ hm ?_|refine rD Γ hm z_ ?_);conv=>whnf))
  refine⟨fun h2=>?_,fun h2=>?_⟩
  ·((first|refine rG Γ hm ?_|refine rD Γ hm z_ ?_);(conv=>whnf);repeat((first|refine aF ?_|refine aT ?_);(first|refine rG Γ hm ?_|refine rD Γ hm z_ ?_);conv=>whnf))
   refine At E (.cons .tmp .nil) (congrArg Aa ?_) E
   exact Cg hj2 (fun i hi hij=>by simpa using hI i hi hij) h2
  ·((first|refine rG Γ hm ?_|refine rD Γ hm z_ ?_);(conv=>whnf);repeat((first|refine aF ?_|refine aT ?_);(first|refine rG Γ hm ?_|refine rD Γ hm z_ ?_);conv=>whnf))
   refine iL ?_
   ((conv=>whnf);repeat((first|refine aF ?_|refine aT ?_);(first|refine rG Γ hm ?_|refine rD Γ hm z_ ?_);conv=>whnf))
   exact A1 [] hI hj2 (A8 hI hj2 (by simp[h2])) ⟨⟨E,E,Bg _,hc,E,E,E,E,Y⟩,Y,E,E⟩
 ·have h:=of_decide_eq_false h
  ((first|refine rG Γ hm ?_|refine rD Γ hm z_ ?_);(conv=>whnf);repeat((first|refine aF ?_|refine aT ?_);(first|refine rG Γ hm ?_|refine rD Γ hm z_ ?_);conv=>whnf))
  refine At E (.cons .tmp .nil) (congrArg Aa ?_) E
  exact Di (fun i hi=>by simpa using hI i hi q_)
theorem Om (l:List Irb) (p:Irb→Bool) (f:FuncId) (first cap:List SV) (hc:(SV.clo (.func f) first cap).inn []=true) (hf:∀ x∈l,Hk Tryz.prog f (first++[Bt x]++cap) (Ab (p x))) (hl:Aq l) :
  Sy.Spec Tryz.prog 263 [.sl 5 Bt l,.clo (.func f) first cap] [] (Ab (decide (0≤Bc p l))) []:=cT F263 Tryz.ntmps263 fun F hF=>by
 have h0:By [] [.sl 5 Bt l,.clo (.func f) first cap]=true:=by simp only[By,hc];rfl
 ((conv=>whnf);repeat((first|refine aF ?_|refine aT ?_);(first|refine rG Γ hm ?_|refine rD Γ hm z_ ?_);conv=>whnf))
 refine Jw (Ti l p f first cap hc hf hl) F325 E E (by simp only[h0];rfl) E E ?_
 ((first|refine rG Γ hm ?_|refine rD Γ hm z_ ?_);(conv=>whnf);repeat((first|refine aF ?_|refine aT ?_);(first|refine rG Γ hm ?_|refine rD Γ hm z_ ?_);conv=>whnf))
 exact dN
def leaksB (n:Net) (i k:Int):Bool:=i == k || (nth n.vrfs i).dev == (nth n.vrfs k).dev && decide (0≤Bc (inB (nth n.vrfs k).imports) (nth n.vrfs i).exports)
def Wy (n:Net) (i:Int):Int:=(nth n.domains (nth n.irbs i).domain).dev
theorem Ajj {n:Net} (h:Ac n=true) {i:Nat} (hi:i<n.irbs.length):Um n i n.irbs[i]=true:=by
 simp only[Ac,Bool.and_eq_true]at h
 exact allB_iff.1 h.2 i hi
theorem Zp {n:Net} (h:Ac n=true) {i:Nat} (hi:i<n.irbs.length) :
  (0≤n.irbs[i].domain∧n.irbs[i].domain.toNat<n.domains.length)∧(0≤n.irbs[i].vrf∧n.irbs[i].vrf.toNat<n.vrfs.length)∧(0≤n.irbs[i].bits∧n.irbs[i].bits≤32):=by
 have:=Ajj h hi
 simp only[Um,Ah,Bool.and_eq_true,decide_eq_true_eq]at this
 omega
def seesB (n:Net) (i k:Int):Bool:=Wy n i == Wy n k && leaksB n (nth n.irbs k).vrf (nth n.irbs i).vrf
abbrev Acs (a b:Int):SV:=.agg [Bi a,Aa b]
theorem Ad6 (a b:Int) (h:0≤b∧b≤32):Sy.Spec Tryz.prog 370 [Acs a b] [] (Ab true) []:=cT F370 Tryz.ntmps370 fun F hF=>by
 conv=>whnf
 refine⟨fun _=>?_,fun h2=>absurd (of_decide_eq_false h2) q_⟩
 refine oO ?_
 refine At E (.cons .tmp .nil) (congrArg Ab ?_) E
 simp;omega
def Yc (b:Int):Int:=IntKind.u32.wrap (IntKind.u32.wrap (1 * 2 ^ (min (32-b).toNat IntKind.u32.bits))-1)
theorem Af0 (a b:Int) (h:0≤b∧b≤32):Sy.Spec Tryz.prog 371 [Acs a b] [] (Bi (Yc b)) []:=cT F371 Tryz.ntmps371 fun F hF=>by
 conv=>whnf
 refine iW ?_
 refine⟨by omega,?_⟩
 conv=>whnf
 exact dN
def Ag5 (a b x:Int):Bool:=bits .andNot .u32 (bits .xor .u32 a x) (Yc b) == 0
theorem Z2 (a b x:Int) (h:0≤b∧b≤32):Sy.Spec Tryz.prog 383 [Acs a b,Bi x] [] (Ab (Ag5 a b x)) []:=cT F383 Tryz.ntmps383 fun F hF=>by
 have q1:=Ad6 a b h
 have q2:=Af0 a b h
 rw[Ag5]
 generalize Yc b=r at *
 conv=>whnf
 refine cD q1 F370 ?_
 (refine oD ?_;refine aT ?_;refine oD ?_)
 refine cD q2 F371 ?_
 refine oD ?_
 refine kW ?_
 exact dN
def maxI (c:Int→Int→Int) (l:List Int) (j:Nat):Int:=((l.drop 1).take j).foldl (fun m x=>if 0<c x m then x else m) (nth l 0)
def ownV (n:Net) (irb i:Int):Int:=if (nth n.irbs i).vrf=(nth n.irbs irb).vrf then 1 else 0
def cmpR (n:Net) (irb a b:Int):Int:=if (nth n.irbs a).bits≠(nth n.irbs b).bits then (nth n.irbs a).bits-(nth n.irbs b).bits else ownV n irb a-ownV n irb b
def takenB (n:Net) (irb dst:Int) (i:Nat):Bool:=Wy n i == Wy n irb && (nth n.irbs i).addr == dst
def wayB (n:Net) (irb dst:Int) (i:Nat):Bool:=Ag5 (nth n.irbs i).addr (nth n.irbs i).bits dst && seesB n irb i
def Afg (n:Net) (irb dst:Int):List Int:=Aji (wayB n irb dst) n.irbs.length
def Yy (n:Net) (irb dst:Int):Int × Bool :=
 if (List.range n.irbs.length).any (takenB n irb dst)=true then (0,false)
 else if Afg n irb dst=[] then (0,false) else (maxI (cmpR n irb) (Afg n irb dst) ((Afg n irb dst).length-1),true)
end Go.Sy.YtjenpnjajjplkaaGreatDoor
namespace Go.Sy.YtjenpnjajjplkaaGreatDoor
open Go.Proofs
set_option maxRecDepth 20000
set_option maxHeartbeats 4000000
theorem Ad0 (b:Int) (h:0≤b∧b≤32):Yc b=((2 ^ (32-b).toNat-1:Nat):Int):=by
 obtain ⟨k,hk,hk2⟩:∃ k:Nat,(32-b).toNat=k∧k≤32:=⟨_,rfl,by omega⟩
 have h1:min (32-b).toNat IntKind.u32.bits=k:=by show min (32-b).toNat 32=k;omega
 have hp:=Nat.pow_le_pow_right (n:=2) j_ hk2
 have e32:(2:Nat) ^ 32=4294967296:=rfl
 rw[e32]at hp
 have h0:=Nat.one_le_two_pow (n:=k)
 rw[Yc,h1,hk,IntKind.wrap_u32,IntKind.wrap_u32,show (2:Int) ^ k=((2 ^ k:Nat):Int) by rw[Int.natCast_pow];rfl]
 generalize 2 ^ k=q at *
 omega
theorem Agv (a b:Int) (ha:0≤a∧a<4294967296):0≤Ju a b∧Ju a b<4294967296:=by
 by_cases hb:0≤b∧b≤32
 ·obtain ⟨a,rfl⟩:=Int.eq_ofNat_of_zero_le ha.1
  obtain ⟨k,hk,hk2⟩:∃ k:Nat,(32-b).toNat=k∧k≤32:=⟨_,rfl,by omega⟩
  have h0:=Nat.one_le_two_pow (n:=k)
  rw[Vh a k b hb hk]
  have hd:a-a % 2 ^ k=2 ^ k * (a / 2 ^ k):=by have:=Nat.div_add_mod a (2 ^ k);omega
  have h32:2 ^ k * 2 ^ (32-k)=4294967296:=by
   rw[← Nat.pow_add,show k+(32-k)=32 by omega]
  have:a / 2 ^ k<2 ^ (32-k):=by rw[Nat.div_lt_iff_lt_mul q_,Nat.mul_comm,h32];omega
  have:2 ^ k * (a / 2 ^ k)+2 ^ k≤2 ^ k * 2 ^ (32-k):=by
   rw[← Nat.mul_succ];exact Nat.mul_le_mul_left _ this
  omega
 ·rw[Ju,if_neg hb];omega
theorem Aey (a b:Int) (ha:0≤a∧a<4294967296):0≤Ea a b∧Ea a b<4294967296:=by
 by_cases hb:0≤b∧b≤32
 ·obtain ⟨a,rfl⟩:=Int.eq_ofNat_of_zero_le ha.1
  rw[H2 a _ b hb rfl]
  omega
 ·rw[Ea,if_neg hb];omega
end Go.Sy.YtjenpnjajjplkaaGreatDoor
namespace Go.Sy.YtjenpnjajjplkaaGreatDoor
open Go.Proofs
attribute [local irreducible] Go.Sy.G Go.Sy.DR
set_option maxRecDepth 20000
set_option maxHeartbeats 4000000
def Aad (n:Net) (a:Int):Bool:=decide (0≤Bc (fun i:Irb=>i.addr == a) n.irbs)
def Ajf (n:Net) (a led:Int):Int:=if Aad n a=true then a+1 else Ju (nth n.irbs led).addr (nth n.irbs led).bits+1
def addrGo (n:Net) (irb to e:Int) (x:Int):Int × Bool :=
 if x≤e then
  if (Yy n irb x).2=true∧(Yy n irb x).1=to∧Aad n x=false then (x,true)
  else if (Yy n irb x).2=false∧Aad n x=false then (0,false)
  else if x<Ajf n x (Yy n irb x).1 then addrGo n irb to e (Ajf n x (Yy n irb x).1) else (0,false)
 else (0,false)
 termination_by (e+1-x).toNat
 decreasing_by omega
def Z1 (n:Net) (irb to:Int):Int × Bool :=
 if (0≤irb∧irb<n.irbs.length)∧(0≤to∧to<n.irbs.length)∧Ac n=true then
  addrGo n irb to (Ju (nth n.irbs to).addr (nth n.irbs to).bits) (Ea (nth n.irbs to).addr (nth n.irbs to).bits) else (0,false)
end Go.Sy.YtjenpnjajjplkaaGreatDoor
namespace Go.Sy.YtjenpnjajjplkaaGreatDoor
open Go.Proofs
theorem Xv (a b:ByteArray):(a == b)=true↔a=b:=by
 cases a with
 | mk a =>
  cases b with
  | mk b =>
   show (a == b)=true↔_
   simp
instance:LawfulBEq ByteArray where
 eq_of_beq h:=(Xv _ _).1 h
 rfl:=(Xv _ _).2 rfl
def Aer (c:UInt8):Bool:=decide (97≤c.toNat) && decide (c.toNat≤122)
def Agg:List UInt8→Bool
 | []=>false
 | c::l=>Aer c && l.all fun c=>Aer c || Ha c
def Be (s:ByteArray):Bool:=Agg s.data.toList && decide (s.size≤12)
def macAt (s:ByteArray) (i:Nat):Bool:=decide (E9 (Ce s (3 * i))≤15) && decide (E9 (Ce s (3 * i+1))≤15) && (decide (5≤i) || decide ((Ce s (3 * i+2)).toNat=58))
def macV (s:ByteArray):Nat→Int
 | 0=>0
 | i+1=>macV s i * 256+E9 (Ce s (3 * i)) * 16+E9 (Ce s (3 * i+1))
def Sc (s:ByteArray):Int × Bool:=if s.size=17∧(List.range 6).all (macAt s)=true then (macV s 6,true) else (0,false)
def Ji (m:Int):Bool:=decide (m % 281474976710656 / 4294967296=512)
def statB (m:Int):Bool:=decide (m≤281474976710655) && !(Ji m) && !(W0 m.toNat)
def Ac0 (one:ByteArray→Int × Bool):List Int→List ByteArray→List Int × Bool
 | out,[]=>(out,true)
 | out,p::r=>if (one p).2=false∨out.length=16∨(∃ x,out.getLast? = some x∧(one p).1≤x) then ([],false) else Ac0 one (out++[(one p).1]) r
def Agy (one:ByteArray→Int × Bool) (s:ByteArray):List Int × Bool:=Ac0 one [] (A2 44 s)
def dash:ByteArray:=⟨#[45]⟩
def Qt (most:Int) (s:ByteArray):List Int × Bool:=if s=dash then ([],true) else Agy (fun p=>numR p 1 most) s
def Ach (s:ByteArray):List Int × Bool:=Agy U6 s
def Ms (s:ByteArray):(Int × Int) × Bool :=
 if (cutT 47 s).2.2=false∨(U6 (cutT 47 s).1).2=false∨(V9 (cutT 47 s).2.1 32).2=false then ((0,0),false) else (((U6 (cutT 47 s).1).1,(V9 (cutT 47 s).2.1 32).1),true)
def subnetB (a bits:Int):Bool:=decide (1≤bits) && decide (bits≤30) && decide (a≠Ea a bits) && decide (a≠Ju a bits)
def Ls (s:ByteArray):Int :=
 if s=⟨#[100,101,118,105,99,101]⟩ then 1 else if s=⟨#[112,111,114,116]⟩ then 2 else if s=⟨#[108,105,110,107]⟩ then 3 else if s=⟨#[115,116,97,116,105,99]⟩ then 4
 else if s=⟨#[118,116,101,112]⟩ then 5 else if s=⟨#[118,110,105]⟩ then 6 else if s=⟨#[102,108,111,111,100]⟩ then 7 else if s=⟨#[118,114,102]⟩ then 8 else if s=⟨#[105,114,98]⟩ then 9 else 0
def Ade:ByteArray:=⟨#[97,99,99,101,115,115]⟩
def Afj:ByteArray:=⟨#[116,114,117,110,107]⟩
def wdT (w:List ByteArray) (i:Nat):ByteArray:=(w[i]?).getD ⟨#[]⟩
def membersB (vlan:Int) (tagged:List Int):Bool:=(decide (0<vlan) || !tagged.isEmpty) && !(tagged.contains vlan)
def lineZ:LineM:=⟨0,0,⟨#[]⟩,⟨#[]⟩,⟨#[]⟩,⟨#[]⟩,⟨#[]⟩,0,0,0,0,0,0,[],[],[],[]⟩
def It (s:ByteArray):Int × Bool:=numR s 1 4094
def Ah3 (s:ByteArray):Int × Bool:=numR s 1 16777215
def Yj (w:List ByteArray):Int × List Int × List (Bool × Int) :=
 if wdT w 4=Ade then ((It (wdT w 5)).1,[],[(!(It (wdT w 5)).2,21)])
 else if wdT w 4=Afj then
  (if wdT w 5=dash then (0,(Qt 4094 (wdT w 6)).1,[(!(Qt 4094 (wdT w 6)).2,21)])
   else ((It (wdT w 5)).1,(Qt 4094 (wdT w 6)).1,[(!(It (wdT w 5)).2,21),(!(Qt 4094 (wdT w 6)).2,21)]))
 else (0,[],[])
def U1 (w:List ByteArray) (row:Int):LineM × List (Bool × Int) :=
 let n:=fun i=>(!(Be (wdT w i)),(20:Int))
 let k:=Ls (wdT w 0)
 if k=1 then ({ lineZ with row:=row,kind:=1,dev:=wdT w 1,num:=(numR (wdT w 2) 0 65535).1,mac:=(Sc (wdT w 3)).1 },[n 1,(!(numR (wdT w 2) 0 65535).2,21),(!((Sc (wdT w 3)).2 && statB (Sc (wdT w 3)).1),21)])
 else if k=2 then ({ lineZ with row:=row,kind:=2,dev:=wdT w 1,port:=wdT w 2,cost:=(numR (wdT w 3) 1 65535).1,vlan:=(Yj w).1,tagged:=(Yj w).2.1 },
  [n 1,n 2,(!(numR (wdT w 3) 1 65535).2,21),(decide (wdT w 4≠Ade) && decide (wdT w 4≠Afj),20)]++(Yj w).2.2++[(!(membersB (Yj w).1 (Yj w).2.1),21)])
 else if k=3 then ({ lineZ with row:=row,kind:=3,dev:=wdT w 1,port:=wdT w 2,peer:=wdT w 3,far:=wdT w 4 },[n 1,n 2,n 3,n 4])
 else if k=4 then ({ lineZ with row:=row,kind:=4,dev:=wdT w 1,vlan:=(It (wdT w 2)).1,mac:=(Sc (wdT w 3)).1,port:=wdT w 4 },[n 1,(!(It (wdT w 2)).2,21),(!((Sc (wdT w 3)).2 && statB (Sc (wdT w 3)).1),21),n 4])
 else if k=5 then ({ lineZ with row:=row,kind:=5,dev:=wdT w 1,addr:=(U6 (wdT w 2)).1 },[n 1,(!((U6 (wdT w 2)).2 && decide ((U6 (wdT w 2)).1≠0)),21)])
 else if k=6 then ({ lineZ with row:=row,kind:=6,dev:=wdT w 1,vlan:=(It (wdT w 2)).1,num:=(Ah3 (wdT w 3)).1 },[n 1,(!(It (wdT w 2)).2,21),(!(Ah3 (wdT w 3)).2,21)])
 else if k=7 then ({ lineZ with row:=row,kind:=7,dev:=wdT w 1,num:=(Ah3 (wdT w 2)).1,addrs:=(Ach (wdT w 3)).1 },[n 1,(!(Ah3 (wdT w 2)).2,21),(!((Ach (wdT w 3)).2 && decide ((Ach (wdT w 3)).1.head? ≠ some 0)),21)])
 else if k=8 then ({ lineZ with row:=row,kind:=8,dev:=wdT w 1,name:=wdT w 2,imports:=(Qt 65535 (wdT w 3)).1,exports:=(Qt 65535 (wdT w 4)).1 },[n 1,n 2,(!(Qt 65535 (wdT w 3)).2,21),(!(Qt 65535 (wdT w 4)).2,21)])
 else ({ lineZ with row:=row,kind:=9,dev:=wdT w 1,vlan:=(It (wdT w 2)).1,name:=wdT w 3,addr:=(Ms (wdT w 4)).1.1,bits:=(Ms (wdT w 4)).1.2 },
  [n 1,(!(It (wdT w 2)).2,21),n 3,(!((Ms (wdT w 4)).2 && subnetB (Ms (wdT w 4)).1.1 (Ms (wdT w 4)).1.2),21)])
def Iv (a b:LineM):Bool :=
 a.row == b.row && (a.kind == b.kind && (a.dev == b.dev && (a.port == b.port && (a.peer == b.peer && (a.far == b.far && (a.name == b.name && (a.mac == b.mac && (a.addr == b.addr && (a.bits == b.bits &&
 (a.vlan == b.vlan && (a.num == b.num && (a.cost == b.cost && (a.tagged == b.tagged && (a.imports == b.imports && (a.exports == b.exports && a.addrs == b.addrs)))))))))))))))
def A9 (n lo hi:Int):Bool:=decide (lo≤n) && decide (n≤hi)
abbrev Dn (l:List Int) (hi:Int):Bool:=Li l hi
def Ii (l:List Int):Bool:=(List.range l.length).all (fun i=>decide (l.getD i 0≠0) && (i == 0 || decide (l.getD (i-1) 0<l.getD i 0))) && (decide (0<l.length) && decide (l.length≤16))
def Ay (l:LineM):LineM × Bool :=
 let u:LineM:={ lineZ with row:=l.row,kind:=l.kind,dev:=l.dev }
 if l.kind=1 then ({ u with num:=l.num,mac:=l.mac },A9 l.num 0 65535 && statB l.mac)
 else if l.kind=2 then ({ u with port:=l.port,cost:=l.cost,vlan:=l.vlan,tagged:=l.tagged },Be l.port && (A9 l.cost 1 65535 && (A9 l.vlan 0 4094 && (Dn l.tagged 4094 && membersB l.vlan l.tagged))))
 else if l.kind=3 then ({ u with port:=l.port,peer:=l.peer,far:=l.far },Be l.port && (Be l.peer && Be l.far))
 else if l.kind=4 then ({ u with vlan:=l.vlan,mac:=l.mac,port:=l.port },A9 l.vlan 1 4094 && (statB l.mac && Be l.port))
 else if l.kind=5 then ({ u with addr:=l.addr },decide (l.addr≠0))
 else if l.kind=6 then ({ u with vlan:=l.vlan,num:=l.num },A9 l.vlan 1 4094 && A9 l.num 1 16777215)
 else if l.kind=7 then ({ u with num:=l.num,addrs:=l.addrs },A9 l.num 1 16777215 && Ii l.addrs)
 else if l.kind=8 then ({ u with name:=l.name,imports:=l.imports,exports:=l.exports },Be l.name && (Dn l.imports 65535 && Dn l.exports 65535))
 else if l.kind=9 then ({ u with vlan:=l.vlan,name:=l.name,addr:=l.addr,bits:=l.bits },A9 l.vlan 1 4094 && (Be l.name && subnetB l.addr l.bits))
 else (u,false)
def B4 (l:LineM):Bool:=(Ay l).2 && (Be l.dev && Iv (Ay l).1 l)
end Go.Sy.YtjenpnjajjplkaaGreatDoor
namespace Go.Sy.YtjenpnjajjplkaaGreatDoor
open Go.Proofs
attribute [local irreducible] Go.Sy.G Go.Sy.DR
structure Bx (Q:Prop):Prop where out:Q
theorem sE {α:Sort _} {a b:α} {K:Prop} (e:a=b) (h:K):a=b∧K:=⟨e,h⟩
theorem xE {α:Sort _} {a b:α} {K:a=b→Prop} (e:a=b) (h:K e):∃ e:a=b,K e:=⟨e,h⟩
theorem sL {a b:Int} {K:Prop} (e:a≤b) (h:K):a≤b∧K:=⟨e,h⟩
theorem xL {a b:Int} {K:a≤b→Prop} (e:a≤b) (h:K e):∃ e:a≤b,K e:=⟨e,h⟩
theorem sM {a b:Nat} {K:Prop} (e:a≤b) (h:K):a≤b∧K:=⟨e,h⟩
theorem sT {a b:Nat} {K:Prop} (e:a<b) (h:K):a<b∧K:=⟨e,h⟩
theorem xT {a b:Nat} {K:a<b→Prop} (e:a<b) (h:K e):∃ e:a<b,K e:=⟨e,h⟩
theorem sN {a b:Int} {K:Prop} (e:a≠b) (h:K):a≠b∧K:=⟨e,h⟩
theorem sI {a:Int} {K:Prop} (e:I64 a) (h:K):I64 a∧K:=⟨e,h⟩
theorem ct {p q:Prop} {b:Bool} (h:q) (e:b=true→False:=by
 intro _h
 first | exact absurd _h j_ | exact Bool.false_ne_true (Eq.trans (Eq.symm (by with_reducible assumption)) _h) | (simp at _h;done) | (simp at _h;omega)):(b=true→p)∧(b=false→q):=⟨fun x=>(e x).elim,fun _=>h⟩
theorem cf {p q:Prop} {b:Bool} (h:p) (e:b=false→False:=by
 intro _h
 first | exact absurd _h j_ | exact Bool.false_ne_true (Eq.trans (Eq.symm _h) (by with_reducible assumption)) | (simp at _h;done) | (simp at _h;omega)):(b=true→p)∧(b=false→q):=⟨fun _=>h,fun x=>(e x).elim⟩
theorem S {P Q:Prop} (h:Q) (e:Bx Q→P:=by
 intro hb
 first | refine rg ?_ | refine rd z_ ?_ | skip
 conv=>whnf
 repeat (first
  | ((first | refine aF ?_ | refine aT ?_ | refine ct ?_ | refine cf ?_);(first | refine rg ?_ | refine rd z_ ?_);(conv=>whnf))
  | ((first | refine⟨(by kernel_rfl:W9 _ _=true),?_⟩ | refine sI (by unfold I64;omega) ?_);(conv=>whnf)))
 exact hb.out):P:=e ⟨h⟩
theorem T {P Q:Prop} (h:Q) (e:Bx Q→P:=by
 intro hb
 refine S ?_
 repeat ((first | refine sE (by exact rfl) ?_ | refine sL (by first | omega | decide) ?_ | refine xL (by first | omega | decide) ?_ | refine sT (by first | omega | decide) ?_ | refine xT (by first | omega | decide) ?_ | refine sM (by first | omega | decide) ?_ | refine sN (by first | omega | decide) ?_ | refine xE (by exact rfl) ?_);refine S ?_)
 exact hb.out):P:=e ⟨h⟩
theorem D {P:Prop} (h:P:=by
 apply At
 ·exact E
 ·(repeat (first | exact ResVs.nil | (apply ResVs.cons;(first | exact .tmp | exact .cell rfl rfl rfl rfl))))
 ·exact E
 ·exact E):P:=h
theorem U {P:Prop} (h:P:=by
 refine⟨?_,?_,E,E⟩
 ·repeat (first | exact trivial | exact rfl | refine⟨rfl,rfl,?_⟩)
 ·repeat (first | exact trivial | refine⟨.inl rfl,rfl,?_⟩ | refine⟨.inr rfl,rfl,?_⟩)):P:=h
theorem Ahh {P:Program} {fn:Func} {F:Fr} {R:SV} {H':Obs} {Γ:Go.Sy.Ty P} {n:Nat} {bn:List Nat} {hbn:∀ k,F.k0 k≠.new→k∈bn} {k:List KI} {s:SS} {rs:List ResultVar} (hf:fn.results=rs.toArray) {xs:List SV} (hx:ResVs Γ.get s rs xs)
  (hR:R.ren (Ax [])=Uv xs) (hRn:R.inn (Obs.keys H')=true) (hsub:Sub ⟨P,Γ,F,n,Le P fn F R H',bn,hbn⟩ s [] [] H'):G ⟨P,Γ,F,n,Le P fn F R H',bn,hbn⟩ (.code .ret::k) s:=done hf hx [] H' (fun _ h=>h) hR hRn hsub
theorem doneF {P:Program} {fn:Func} {F:Fr} {R:SV} {H':Obs} {Γ:Go.Sy.Ty P} {n:Nat} {bn:List Nat} {hbn:∀ k,F.k0 k≠.new→k∈bn} {s:SS} {rs:List ResultVar} (hf:fn.results=rs.toArray) {xs:List SV} (hx:ResVs Γ.get s rs xs)
  (hR:R.ren (Ax [])=Uv xs) (hRn:R.inn (Obs.keys H')=true) (hsub:Sub ⟨P,Γ,F,n,Le P fn F R H',bn,hbn⟩ s [] [] H'):G ⟨P,Γ,F,n,Le P fn F R H',bn,hbn⟩ [] s:=Ez hf hx [] H' (fun _ h=>h) hR hRn hsub
theorem E0 {P:Prop} (h:P:=by
 first | apply Ahh | apply doneF
 ·exact E
 ·(repeat (first | exact ResVs.nil | (apply ResVs.cons;(first | exact .tmp | exact .cell rfl rfl rfl rfl))))
 ·exact E
 ·exact E
 ·exact U):P:=h
theorem W {P:Prop} (h:P:=by
 repeat (first | exact trivial | exact rfl | refine⟨rfl,?_⟩)):P:=h
theorem V {P:Prop} (h:P:=by
 repeat (first | exact trivial | refine⟨.inl rfl,?_⟩ | refine⟨.inr rfl,?_⟩)):P:=h
theorem C {P:Program} {f:FuncId} {fn:Func} {c:Code} {A:List SV} {R:SV} {Z Q:Prop} (hs:Sy.Spec P f A [] R []) (hf:Fun P f fn c) (h:Q) (e:Sy.Spec P f A [] R []→Fun P f fn c→Bx Q→Z:=by
 intro hs hf hb
 first | refine Jw hs hf rfl rfl rfl rfl rfl ?_ | refine Ahl hs hf rfl rfl rfl z_ rfl ?_
 refine T ?_
 exact hb.out):Z:=e hs hf ⟨h⟩
theorem X {C:Cx} {k:List KI} {s:SS} {all:Array Oper} {o:Oper} {rest:List Oper} {V:Up} {Q:Prop} (hg:Good C.P o s V) (h:Q) (hd:Lx C.n o=true:=by exact rfl) (hw:Df C.n all o s=some true:=by exact rfl) (e:Bx Q→G C (.ops all rest::k) (s.upd o.dst V):=by
 intro hb
 refine T ?_
 exact hb.out):G C (.ops all (o::rest)::k) s:=Aw hg hd hw (e ⟨h⟩)
theorem Xd {C:Cx} {k:List KI} {s:SS} {all:Array Oper} {done:List Stp} {o:Oper} {rest:List Oper} {V:Up} {Q:Prop} (hg:Good C.P o s V) (h:Q) (hi:all[done.length]? = some o:=by kernel_rfl) (hw:Df C.n all o s=some true:=by exact rfl) (hn:(Hx o || Lc o)=false:=by exact rfl) (e:Bx Q→DR C k all (done++[⟨done.length,o,V,true⟩]) rest (s.upd o.dst V):=by
 intro hb
 refine T ?_
 exact hb.out):DR C k all done (o::rest) s:=Hb hg hi hw (e ⟨h⟩) hn
end Go.Sy.YtjenpnjajjplkaaGreatDoor
namespace Go.Sy.YtjenpnjajjplkaaGreatDoor
open Go.Proofs
attribute [local irreducible] Go.Sy.G Go.Sy.DR
set_option maxRecDepth 100000
set_option maxHeartbeats 4000000
structure LineFin (l:LineM):Prop where
 t:l.tagged.length≤100000
 i:l.imports.length≤100000
 e:l.exports.length≤100000
 a:l.addrs.length≤100000
theorem Kv {κ:Ka} {w:World} {k sz:Nat} {α:Type} {e:α→SV} {l:List α} (hne:l≠[]) (h:ObOK κ w k (.row sz e l)):∃ b n c,κ k=.row b n c:=by
 rcases h with ⟨_,h⟩ | ⟨b,cap,_,_,_,h,_⟩
 ·exact absurd h hne
 ·exact⟨b,_,cap,h⟩
theorem Ek (l:List Int) (hl:l.length<2147483648):Sy.Spec Tryz.prog 159 [.sl 1 Aa l] [] (.sl 1 Aa l) []:=cT F159 Tryz.ntmps159 fun F hF=>by
 conv=>whnf
 refine D3 E (.inl E) E E E .sl E E ?_
 intro b hb
 cases b
 ·refine oF ?_
  refine Aw (Al Γ.toTy 7 E E E E E (.lit (e:=Aa) (l:=[]) E E) .sl y_ (by simp;omega) (by simp;omega)) E E ?_
  refine Ae 7 E ?_
  refine oO ?_
  exact dN
 ·have h0:l=[]:=List.eq_nil_of_length_eq_zero (hb rfl)
  subst h0
  refine oT ?_
  refine Ch 2 1 Aa E ?_
  exact dN
theorem Vx (l:List Int) (hl:l.length<2147483648):Sy.Spec Tryz.prog 160 [.sl 1 Bi l] [] (.sl 1 Bi l) []:=cT F160 Tryz.ntmps160 fun F hF=>by
 conv=>whnf
 refine D3 E (.inl E) E E E .sl E E ?_
 intro b hb
 cases b
 ·refine oF ?_
  refine Aw (Al Γ.toTy 7 E E E E E (.lit (e:=Bi) (l:=[]) E E) .sl y_ (by simp;omega) (by simp;omega)) E E ?_
  refine Ae 7 E ?_
  refine oO ?_
  exact dN
 ·have h0:l=[]:=List.eq_nil_of_length_eq_zero (hb rfl)
  subst h0
  refine oT ?_
  refine Ch 2 1 Bi E ?_
  exact dN
theorem Ab9 (l:List Port) (hl:l.length<2147483648):Sy.Spec Tryz.prog 152 [.sl 7 Au l] [] (.osl 0) [(0,.row 7 Au l)]:=cT F152 Tryz.ntmps152 fun F hF=>by
 conv=>whnf
 refine D3 E (.inl E) E E E .sl E E ?_
 intro b hb
 cases b
 ·refine oF ?_
  refine Aw (Al Γ.toTy 7 E E E E E (.lit (e:=Au) (l:=[]) E E) .sl y_ (by simp;omega) (by simp;omega)) E E ?_
  refine oO ?_
  exact done E (.cons .tmp .nil) [(0,7)] [(0,.row 7 Au l)] (fun _ h=>h) E E ⟨Y,⟨.inl E,E,Y⟩,E,E⟩
 ·have h0:l=[]:=List.eq_nil_of_length_eq_zero (hb rfl)
  subst h0
  refine oT ?_
  refine Cb 2 1000 7 Au E E ?_
  exact done E (.cons .tmp .nil) [(0,1000)] [(0,.row 7 Au [])] (fun _ h=>h) E E ⟨Y,⟨.inl E,E,Y⟩,E,E⟩
theorem Xi (l:List Domain) (hl:l.length<2147483648):Sy.Spec Tryz.prog 154 [.sl 6 Af l] [] (.osl 0) [(0,.row 6 Af l)]:=cT F154 Tryz.ntmps154 fun F hF=>by
 conv=>whnf
 refine D3 E (.inl E) E E E .sl E E ?_
 intro b hb
 cases b
 ·refine oF ?_
  refine Aw (Al Γ.toTy 7 E E E E E (.lit (e:=Af) (l:=[]) E E) .sl y_ (by simp;omega) (by simp;omega)) E E ?_
  refine oO ?_
  exact done E (.cons .tmp .nil) [(0,7)] [(0,.row 6 Af l)] (fun _ h=>h) E E ⟨Y,⟨.inl E,E,Y⟩,E,E⟩
 ·have h0:l=[]:=List.eq_nil_of_length_eq_zero (hb rfl)
  subst h0
  refine oT ?_
  refine Cb 2 1000 6 Af E E ?_
  exact done E (.cons .tmp .nil) [(0,1000)] [(0,.row 6 Af [])] (fun _ h=>h) E E ⟨Y,⟨.inl E,E,Y⟩,E,E⟩
theorem Zu (l:List Flood) (hl:l.length<2147483648):Sy.Spec Tryz.prog 156 [.sl 4 A0 l] [] (.osl 0) [(0,.row 4 A0 l)]:=cT F156 Tryz.ntmps156 fun F hF=>by
 conv=>whnf
 refine D3 E (.inl E) E E E .sl E E ?_
 intro b hb
 cases b
 ·refine oF ?_
  refine Aw (Al Γ.toTy 7 E E E E E (.lit (e:=A0) (l:=[]) E E) .sl y_ (by simp;omega) (by simp;omega)) E E ?_
  refine oO ?_
  exact done E (.cons .tmp .nil) [(0,7)] [(0,.row 4 A0 l)] (fun _ h=>h) E E ⟨Y,⟨.inl E,E,Y⟩,E,E⟩
 ·have h0:l=[]:=List.eq_nil_of_length_eq_zero (hb rfl)
  subst h0
  refine oT ?_
  refine Cb 2 1000 4 A0 E E ?_
  exact done E (.cons .tmp .nil) [(0,1000)] [(0,.row 4 A0 [])] (fun _ h=>h) E E ⟨Y,⟨.inl E,E,Y⟩,E,E⟩
theorem Ae1 (l:List Vrf) (hl:l.length<2147483648):Sy.Spec Tryz.prog 157 [.sl 5 Bv l] [] (.osl 0) [(0,.row 5 Bv l)]:=cT F157 Tryz.ntmps157 fun F hF=>by
 conv=>whnf
 refine D3 E (.inl E) E E E .sl E E ?_
 intro b hb
 cases b
 ·refine oF ?_
  refine Aw (Al Γ.toTy 7 E E E E E (.lit (e:=Bv) (l:=[]) E E) .sl y_ (by simp;omega) (by simp;omega)) E E ?_
  refine oO ?_
  exact done E (.cons .tmp .nil) [(0,7)] [(0,.row 5 Bv l)] (fun _ h=>h) E E ⟨Y,⟨.inl E,E,Y⟩,E,E⟩
 ·have h0:l=[]:=List.eq_nil_of_length_eq_zero (hb rfl)
  subst h0
  refine oT ?_
  refine Cb 2 1000 5 Bv E E ?_
  exact done E (.cons .tmp .nil) [(0,1000)] [(0,.row 5 Bv [])] (fun _ h=>h) E E ⟨Y,⟨.inl E,E,Y⟩,E,E⟩
def Lo (i:Nat) (c:UInt8):Bool:=Aer c || (Ha c && decide (i≠0))
theorem Agh (s:ByteArray):Be s=(Dj Lo s.data.toList && (decide (0<s.size) && decide (s.size≤12))):=by
 have hsz:s.data.toList.length=s.size:=rfl
 rw[Be,← hsz]
 cases hl:s.data.toList with
 | nil=>rfl
 | cons c l =>
  have e:Dj Lo (c::l)=(Aer c && l.all fun c=>Aer c || Ha c):=by
   rw[Bool.eq_iff_iff,allB_iff,Bool.and_eq_true,List.all_eq_true]
   constructor
   ·intro h
    refine⟨by have:=h 0 y_;simpa [Lo] using this,fun x hx=>?_⟩
    obtain ⟨i,hi,rfl⟩:=List.mem_iff_getElem.1 hx
    have:=h (i+1) (by simp;omega)
    simpa [Lo] using this
   ·rintro ⟨h1,h2⟩ i hi
    cases i with
    | zero=>simp[Lo,h1]
    | succ i =>
     have:=h2 (l[i]'(by simp at hi;omega)) (List.getElem_mem _)
     simpa [Lo] using this
  rw[e,Agg]
  simp
theorem Er (s:ByteArray) (hs:s.size≤1000000):Sy.Spec Tryz.prog 299 [Ai s] [] (Ab (Be s)) []:=cT F299 Tryz.ntmps299 fun F hF=>by
 have hsz:s.data.toList.length=s.size:=rfl
 have hw:=Agh s
 obtain ⟨r,hr⟩:∃ r,Be s=r:=⟨_,rfl⟩
 rw[hr]at hw ⊢
 refine T ?_
 refine A3 s.size (fun j=>Dw Lo s.data.toList j) (fun j=>[(0,Ai s),(7,Aa s.size),(8,Aa j)]) (fun _=>[]) [] (Bb _ _) U ?_
 intro j hj hI
 refine T ?_
 refine⟨fun h=>?_,fun h=>?_⟩
 ·have hlt:j<s.data.toList.length:=qA h
  have hb:Ce s j=s.data.toList[j]:=Oo hlt
  have hno:=fun h=>Bs (p:=Lo) hlt h
  have hnx:=fun h=>A8 (p:=Lo) hI hlt h
  rw[← hb]at hno hnx
  clear h
  have hx:Lo j (Ce s j)=((decide (97≤(Ce s j).toNat) && decide ((Ce s j).toNat≤122)) || ((decide (48≤(Ce s j).toNat) && decide ((Ce s j).toNat≤57)) && decide (j≠0))):=rfl
  rcases (by omega:(Ce s j).toNat<48∨(48≤(Ce s j).toNat∧(Ce s j).toNat≤57)∨(57<(Ce s j).toNat∧(Ce s j).toNat<97)∨(97≤(Ce s j).toNat∧(Ce s j).toNat≤122)∨122<(Ce s j).toNat) with h | h | h | h | h
  ·rw[hno (by rw[hx,decide_eq_false (by omega:¬ 97≤(Ce s j).toNat),decide_eq_false (by omega:¬ 48≤(Ce s j).toNat)];rfl),Bool.false_and]at hw
   subst hw
   refine T ?_
   exact D
  ·by_cases h0:j=0
   ·subst h0
    rw[hno (by rw[hx,decide_eq_false (by omega:¬ 97≤(Ce s 0).toNat)];simp),Bool.false_and]at hw
    subst hw
    refine T ?_
    exact D
   ·refine T ?_
    exact A1 [] hI q_ (hnx (by rw[hx];simp[h,h0])) U
  ·rw[hno (by rw[hx,decide_eq_false (by omega:¬ 97≤(Ce s j).toNat),decide_eq_false (by omega:¬ (Ce s j).toNat≤57)];simp),Bool.false_and]at hw
   subst hw
   refine T ?_
   exact D
  ·refine T ?_
   exact A1 [] hI q_ (hnx (by rw[hx];simp[h])) U
  ·rw[hno (by rw[hx,decide_eq_false (by omega:¬ (Ce s j).toNat≤122),decide_eq_false (by omega:¬ (Ce s j).toNat≤57)];simp),Bool.false_and]at hw
   subst hw
   refine T ?_
   exact D
 ·have hje:j=s.size:=qB h
  subst hje
  rw[Cz hI (Nat.le_refl _),Bool.true_and]at hw
  clear h
  subst hw
  by_cases h0:0<s.size
  ·refine T ?_
   refine⟨fun _=>?_,fun h=>absurd (of_decide_eq_false h) q_⟩
   refine T ?_
   refine At E (.cons .tmp .nil) (congrArg Ab ?_) E
   rw[decide_eq_true h0,Bool.true_and]
   exact decide_eq_decide.2 q_
  ·rw[decide_eq_false h0,Bool.false_and]
   refine T ?_
   exact D
theorem Y7 (m:Nat) (h:m<18446744073709551616):(((bits .and .u64 (m:Int) 281474976710655).fdiv (2 ^ min (Int.toNat 32) IntKind.u64.bits)) != 512)=!(Ji m):=by
 have e:=bits_and_u64_nat m 281474976710655 h j_
 have e2:m &&& 281474976710655=m % 281474976710656:=Nat.and_two_pow_sub_one_eq_mod m 48
 have e3:bits .and .u64 (m:Int) 281474976710655=((m % 281474976710656:Nat):Int):=by rw[← e2];exact e
 have e4:((m % 281474976710656:Nat):Int).fdiv (2 ^ min (Int.toNat 32) IntKind.u64.bits)=((m % 281474976710656 / 4294967296:Nat):Int):=by
  show ((m % 281474976710656:Nat):Int).fdiv 4294967296=_
  rw[Int.fdiv_eq_ediv_of_nonneg _ j_,Int.natCast_ediv];rfl
 rw[e3,e4,Ji]
 by_cases hh:m % 281474976710656 / 4294967296=512
 ·rw[hh,decide_eq_true q_];rfl
 ·rw[decide_eq_false q_]
  simp;omega
def Ag4 (m:Int):Int:=if Ji m=true then IntKind.u32.wrap (bits .and .u64 m 281474976710655) else 0
theorem Air (m:Nat) (h:m<18446744073709551616):Sy.Spec Tryz.prog 365 [Hq m] [] (.tup [Bi (Ag4 m),Ab (Ji m)]) []:=cT F365 Tryz.ntmps365 fun F hF=>by
 have hb:=Y7 m h
 rw[Ag4]
 cases hh:Ji m with
 | true =>
  have hb:=hb.trans (by rw[hh];rfl:_=false)
  rw[if_pos rfl]
  refine T ?_
  exact D
 | false =>
  have hb:=hb.trans (by rw[hh];rfl:_=true)
  rw[if_neg y_]
  refine T ?_
  exact D
theorem Aep (m:Nat) (h:m<18446744073709551616):Sy.Spec Tryz.prog 366 [Hq m] [] (Ab (W0 m)) []:=cT F366 Tryz.ntmps366 fun F hF=>by
 have hb:=Aev m h
 refine T ?_
 exact At E (.cons .tmp .nil) (congrArg Ab hb.symm) E
theorem Xy (m:Nat) (h:m<18446744073709551616):Sy.Spec Tryz.prog 301 [Hq m] [] (Ab (statB m)) []:=cT F301 Tryz.ntmps301 fun F hF=>by
 have q1:=Air m h
 have q2:=Aep m h
 have hw:=statB.eq_1 (m:Int)
 rw[Int.toNat_natCast]at hw
 generalize statB (m:Int)=r at *
 generalize Ag4 (m:Int)=hv at *
 by_cases c1:(m:Int)≤281474976710655
 ·rw[decide_eq_true c1,Bool.true_and]at hw
  have f1:decide ((m:Int)≤281474976710655)=true:=decide_eq_true c1
  cases hh:Ji m with
  | true =>
   rw[hh]at q1 hw
   simp at hw
   subst hw
   refine T ?_
   refine C q1 F365 ?_
   exact D
  | false =>
   rw[hh]at q1 hw
   simp at hw
   subst hw
   refine T ?_
   refine C q1 F365 ?_
   refine C q2 F366 ?_
   exact D
 ·rw[decide_eq_false c1]at hw
  have f1:decide ((m:Int)≤281474976710655)=false:=decide_eq_false c1
  simp at hw
  subst hw
  refine T ?_
  refine C q1 F365 ?_
  exact D
end Go.Sy.YtjenpnjajjplkaaGreatDoor
namespace Go.Sy.YtjenpnjajjplkaaGreatDoor
open Go.Proofs
theorem Xf (d:Nat) (h:d<10):(UInt8.ofNat (48+d)).toNat=48+d:=UInt8.toNat_ofNat_of_lt' (by show _<256;omega)
theorem Ahj (d:Nat) (h:d<10):Ha (UInt8.ofNat (48+d))=true:=by
 rw[Ha,Xf d h,decide_eq_true q_,decide_eq_true q_];rfl
theorem Xe (n:Nat):(∀ c∈(revDigs n).reverse,Ha c=true)∧Jz (revDigs n).reverse=n:=by
 induction n using Nat.strongRecOn with
 | ind n ih =>
  rw[Ya]
  have h10:n % 10<10:=Nat.mod_lt _ j_
  by_cases h:n<10
  ·rw[if_pos h,List.nil_append]
   refine⟨fun c hc=>?_,?_⟩
   ·simp only[List.mem_singleton]at hc
    rw[hc];exact Ahj _ h10
   ·have:=K2 [] (UInt8.ofNat (48+n % 10))
    rw[List.nil_append]at this
    rw[this,Xf _ h10]
    have h0:Jz []=0:=rfl
    rw[h0];omega
  ·rw[if_neg h]
   obtain ⟨h1,h2⟩:=ih (n / 10) q_
   refine⟨fun c hc=>?_,?_⟩
   ·rcases List.mem_append.1 hc with hc | hc
    ·exact h1 c hc
    ·simp only[List.mem_singleton]at hc
     rw[hc];exact Ahj _ h10
   ·rw[K2,h2,Xf _ h10];omega
theorem Ae0 (n:Nat) (c:UInt8) (h:(revDigs n).reverse.head? = some c):Ha c=true:=by
 refine(Xe n).1 c ?_
 cases hd:(revDigs n).reverse with
 | nil=>rw[hd]at h;cases h
 | cons x l=>rw[hd]at h;simp at h;rw[h];simp
theorem Adc {c:UInt8} (h:Ha c=true) (d:UInt8) (hd:d.toNat<48∨57<d.toNat):c≠d:=by
 intro e;subst e
 simp only[Ha,Bool.and_eq_true,decide_eq_true_eq]at h
 omega
theorem Ta (n:Nat):Ui (mkT (revDigs n).reverse)=false:=by
 rw[Ui,B9]
 cases hh:(revDigs n).reverse.head? with
 | none=>rfl
 | some c =>
  have:=Adc (Ae0 n c hh) 45 (.inl j_)
  simp[this]
theorem Aec (n:Nat):Eb (Cn (n:Int))=(revDigs n).reverse:=by
 rw[J8,Eb,if_neg (by rw[Ta];simp),B9]
theorem Vc {n lo hi:Int} (h0:0≤n) (h1:n<1000000000) (hlo:lo≤n) (hhi:n≤hi):numR (Cn n) lo hi=(n,true):=by
 obtain ⟨m,rfl⟩:∃ m:Nat,n=m:=⟨n.toNat,by omega⟩
 have hd:=Aec m
 have hs:=C5 9 m q_
 have hp:=Ib m
 obtain ⟨ha,hv⟩:=Xe m
 have hall:(Eb (Cn (m:Int))).all Ha=true:=by rw[hd,List.all_eq_true];exact ha
 have hnv:numV (Cn (m:Int))=m:=by rw[numV,if_neg (by rw[J8,Ta];simp),hd,hv]
 rw[numR,if_neg (by rw[hd,List.length_reverse];omega),if_neg (by rw[hall];simp),hnv,if_neg q_,if_pos y_]
theorem Mf (d:UInt8):∀ (p cur r:List UInt8),d∉p→Ck d cur (p++d::r)=mkT (cur++p)::Ck d [] r
 | [],cur,r,_=>by rw[List.nil_append,Ck,if_pos rfl,List.append_nil]
 | c::p,cur,r,h=>by
  simp only[List.mem_cons,not_or]at h
  rw[List.cons_append,Ck,if_neg (Ne.symm h.1),Mf d p _ r h.2]
  simp
theorem Ai1 (n:Nat) (d:UInt8) (hd:d.toNat<48∨57<d.toNat):d∉(revDigs n).reverse:=fun hm=>Adc ((Xe n).1 d hm) d hd rfl
theorem So (d:UInt8):∀ (r:List (List UInt8)) (x:List UInt8),d∉x→(∀ y∈r,d∉y)→Ck d [] (Lib.join (x::r) [d])=(x::r).map mkT
 | [],x,h,_=>by rw[Lib.join_one,I9 d _ _ h];rfl
 | y::r,x,h,h2=>by
  have ih:=So d r y (h2 y y_) (fun z hz=>h2 z (by simp[hz]))
  have e:Lib.join (x::y::r) [d]=x++d::Lib.join (y::r) [d]:=by
   rw[Lib.join_cons,Lib.join_cons,Lib.joinTail,Lib.joinTail]
   simp
  rw[e,Mf d x [] _ h,ih]
  rfl
def Rise (l:List Int):Prop:=l.Pairwise (·<·)
theorem Ady {l:List Int} (h:∀ i (hi:i+1<l.length),l[i]<l[i+1]):Rise l:=by
 unfold Rise
 rw[List.pairwise_iff_getElem]
 intro i j hi hj hij
 induction j with
 | zero=>omega
 | succ j ih =>
  by_cases e:i=j
  ·subst e;exact h i hj
  ·have:=ih q_ q_
   have:=h j hj
   omega
theorem rising_iff {l:List Int} {lo hi:Int}:Ds l lo hi=true↔Rise l∧(∀ x∈l,lo≤x∧x≤hi)∧0<l.length∧l.length≤16:=by
 have hg:∀ i (h:i<l.length),nth l (i:Int)=l[i]:=fun i h=>Am (i:=(i:Int)) h
 rw[Ds,Bool.and_eq_true,Bool.and_eq_true,decide_eq_true_eq,decide_eq_true_eq,allB_iff]
 constructor
 ·rintro ⟨⟨h1,h2⟩,h⟩
  refine⟨Ady fun i hi=>?_,fun x hx=>?_,h1,h2⟩
  ·have:=h (i+1) hi
   simp only[Lh,Bool.and_eq_true,Bool.or_eq_true,decide_eq_true_eq,beq_iff_eq]at this
   rw[show (((i+1:Nat):Int)-1)=(i:Int) by omega,hg i q_]at this
   omega
  ·obtain ⟨i,hi,rfl⟩:=List.mem_iff_getElem.1 hx
   have:=h i hi
   simp only[Lh,Bool.and_eq_true,decide_eq_true_eq]at this
   exact this.1
 ·rintro ⟨h,h1,h2⟩
  refine⟨h2,fun i hi=>?_⟩
  have hx:=h1 _ (List.getElem_mem hi)
  simp only[Lh,Bool.and_eq_true,Bool.or_eq_true,decide_eq_true_eq,beq_iff_eq]
  refine⟨hx,?_⟩
  by_cases h0:i=0
  ·exact .inl h0
  ·right
   rw[show ((i:Int)-1)=((i-1:Nat):Int) by omega,hg (i-1) q_]
   exact List.pairwise_iff_getElem.1 h (i-1) i q_ hi q_
theorem listOK_iff {l:List Int} {hi:Int}:Dn l hi=true↔l=[]∨Ds l 1 hi=true:=by
 rw[Dn,Li,Bool.or_eq_true,decide_eq_true_eq,List.length_eq_zero_iff]
theorem Wn (n:Int) (h0:0≤n) (d:UInt8) (hd:d.toNat<48∨57<d.toNat):d∉(Cn n).data.toList:=by
 obtain ⟨m,rfl⟩:∃ m:Nat,n=m:=⟨n.toNat,by omega⟩
 rw[J8,B9]
 exact Ai1 m d hd
end Go.Sy.YtjenpnjajjplkaaGreatDoor
namespace Go.Sy.YtjenpnjajjplkaaGreatDoor
open Go.Proofs
set_option maxHeartbeats 4000000
theorem k1:Ls ⟨#[100,101,118,105,99,101]⟩=1:=by decide +kernel
theorem k2:Ls ⟨#[112,111,114,116]⟩=2:=by decide +kernel
theorem k3:Ls ⟨#[108,105,110,107]⟩=3:=by decide +kernel
theorem k4:Ls ⟨#[115,116,97,116,105,99]⟩=4:=by decide +kernel
theorem k5:Ls ⟨#[118,116,101,112]⟩=5:=by decide +kernel
theorem k6:Ls ⟨#[118,110,105]⟩=6:=by decide +kernel
theorem k7:Ls ⟨#[102,108,111,111,100]⟩=7:=by decide +kernel
theorem k8:Ls ⟨#[118,114,102]⟩=8:=by decide +kernel
theorem k9:Ls ⟨#[105,114,98]⟩=9:=by decide +kernel
theorem wd0 (a:ByteArray) (l:List ByteArray):wdT (a::l) 0=a:=rfl
theorem st1 (d n m:ByteArray) (r:Int):U1 [⟨#[100,101,118,105,99,101]⟩,d,n,m] r=({ lineZ with row:=r,kind:=1,dev:=d,num:=(numR n 0 65535).1,mac:=(Sc m).1 },[(!(Be d),20),(!(numR n 0 65535).2,21),(!((Sc m).2 && statB (Sc m).1),21)]):=by
 unfold U1
 simp only[wd0,k1]
 rfl
theorem st3 (d p q f:ByteArray) (r:Int):U1 [⟨#[108,105,110,107]⟩,d,p,q,f] r=({ lineZ with row:=r,kind:=3,dev:=d,port:=p,peer:=q,far:=f },[(!(Be d),20),(!(Be p),20),(!(Be q),20),(!(Be f),20)]):=by
 unfold U1
 simp only[wd0,k3]
 rfl
theorem st4 (d v m p:ByteArray) (r:Int):U1 [⟨#[115,116,97,116,105,99]⟩,d,v,m,p] r=({ lineZ with row:=r,kind:=4,dev:=d,vlan:=(It v).1,mac:=(Sc m).1,port:=p },[(!(Be d),20),(!(It v).2,21),(!((Sc m).2 && statB (Sc m).1),21),(!(Be p),20)]):=by
 unfold U1
 simp only[wd0,k4]
 rfl
theorem within_iff {n lo hi:Int}:A9 n lo hi=true↔lo≤n∧n≤hi:=by simp[A9]
theorem Uy {v:Int} (h:A9 v 1 4094=true):It (Cn v)=(v,true):=by
 have:=within_iff.1 h
 exact Vc q_ q_ this.1 this.2
theorem Qj {a b:Int} (h:subnetB a b=true):1≤b∧b≤30:=by
 simp only[subnetB,Bool.and_eq_true,decide_eq_true_eq]at h
 omega
structure LineOK (l:LineM):Prop where
 mac:0≤l.mac∧l.mac<18446744073709551616
 addr:0≤l.addr∧l.addr<4294967296
 addrs:∀ x∈l.addrs,0≤x∧x<4294967296
end Go.Sy.YtjenpnjajjplkaaGreatDoor
namespace Go.Sy.YtjenpnjajjplkaaGreatDoor
open Go.Proofs
attribute [local irreducible] Go.Sy.G Go.Sy.DR
set_option maxRecDepth 100000
set_option maxHeartbeats 4000000
theorem Xx (a:Nat) (b:Int) (ha:a<4294967296):Sy.Spec Tryz.prog 243 [Ix a b] [] (Ab (subnetB a b)) []:=cT F243 Tryz.ntmps243 fun F hF=>by
 have q1:=Acj a b ha
 have q2:=Afa a b ha
 have hs:=subnetB.eq_1 (a:Int) b
 generalize subnetB (a:Int) b=r at *
 generalize Ea (a:Int) b=fi at *
 generalize Ju (a:Int) b=la at *
 by_cases h1:1≤b
 ·by_cases h2:b≤30
  ·by_cases h3:(a:Int)=fi
   ·have f3:((a:Int) != fi)=false:=by rw[bne_eq_false_iff_eq];exact h3
    have hr:r=false:=by rw[hs];simp[h3]
    subst hr
    refine T ?_
    refine C q1 F307 ?_
    exact D
   ·have f3:((a:Int) != fi)=true:=by rw[bne_iff_ne];exact h3
    by_cases h4:(a:Int)=la
    ·have f4:((a:Int) != la)=false:=by rw[bne_eq_false_iff_eq];exact h4
     have hr:r=false:=by rw[hs];simp[h4]
     subst hr
     refine T ?_
     refine C q1 F307 ?_
     refine C q2 F308 ?_
     refine At E (.cons .tmp .nil) (congrArg Ab f4.symm) E
    ·have f4:((a:Int) != la)=true:=by rw[bne_iff_ne];exact h4
     have hr:r=true:=by rw[hs];simp[h1,h2,h3,h4]
     subst hr
     refine T ?_
     refine C q1 F307 ?_
     refine C q2 F308 ?_
     refine At E (.cons .tmp .nil) (congrArg Ab f4.symm) E
  ·have hr:r=false:=by rw[hs];simp[h2]
   subst hr
   refine T ?_
   exact D
 ·have hr:r=false:=by rw[hs];simp[h1]
  subst hr
  refine T ?_
  exact D
theorem Y8 (l:List Int) (v:Int):l.contains v=inB l v:=by
 induction l with
 | nil=>rfl
 | cons x l ih =>
  rw[List.contains_cons,ih,inB,inB,List.any_cons]
  congr 1
  exact Bool.beq_comm
theorem V6 (l:LineM) (hl:Aq l.tagged):Sy.Spec Tryz.prog 302 [Ap l] [] (Ab (membersB l.vlan l.tagged)) []:=cT F302 Tryz.ntmps302 fun F hF=>by
 have q:=I6 l.tagged l.vlan hl
 have hm2:=membersB.eq_1 l.vlan l.tagged
 rw[Y8]at hm2
 generalize membersB l.vlan l.tagged=r at *
 generalize inB l.tagged l.vlan=ib at *
 unfold Aq at hl
 by_cases h1:0<l.vlan
 ·have hr:r=!ib:=by rw[hm2];simp[h1]
  subst hr
  refine T ?_
  refine C q F100 ?_
  exact D
 ·by_cases h2:l.tagged.length=0
  ·have hr:r=false:=by
    rw[hm2,decide_eq_false h1,List.eq_nil_of_length_eq_zero h2];rfl
   subst hr
   refine T ?_
   exact D
  ·have hr:r=!ib:=by
    rw[hm2]
    have:l.tagged.isEmpty=false:=by cases ht:l.tagged<;>simp_all
    simp[this]
   have f2:decide ((l.tagged.length:Int)>0)=true:=decide_eq_true q_
   subst hr
   refine T ?_
   refine C q F100 ?_
   exact D
end Go.Sy.YtjenpnjajjplkaaGreatDoor
namespace Go.Sy
theorem E7 {P:Program} (Γ:Ty P) {o:Oper} {s:SS} {t:TypeId} {ti:TI} {et:TypeId} {len esz sz g:Nat} {y:Operand} {ik:IntKind} {n:Int} {z:SV} (k:Nat)
  (h:o.op=.indexAddr t (.global g) y) (ht:Γ.get t=some ti) (hk:ti.k=.array et len esz) (hb:s.h k=.glob sz z g) (hy:ev s y=.val (.int ik n)) (h0:0≤n) (hn:n.toNat<len) :
  Good P o s ⟨.ref sz z (n.toNat * esz),[k],[]⟩ :=
 Good.pure fun κ a w _ hr ho=>by
  have h1:=ho k y_
  have h2:=hr y (by simp[h,Op.operands])
  rw[hb]at h1
  rw[hy]at h2
  simp only[ObOK,Rd,RdD]at h1
  obtain ⟨b,oo,u,e1,e2,e3,e4,e5⟩:=h1
  obtain ⟨hu,i,q1,q2⟩:=Kr Γ ht hk
  simp only[Nat.add_zero,Value.pointer.injEq,Option.some.injEq,Addr.mk.injEq,and_true]at e1
  obtain ⟨rfl,rfl⟩:=e1
  refine⟨.pointer (some ⟨g,0+n.toNat * esz,none⟩),?_,?_⟩
  ·have hg:a.eval (.global g)=.pointer (some ⟨g,0,none⟩):=rfl
   simp only[execOp,h,hg,h2.val]
   simp[Ja w hu q1 q2 h0 hn]
  ·simp only[Rd,RdD]
   exact⟨g,0,u,E,e2,e3,e4,e5⟩
theorem Tn {P:Program} (Γ:Ty P) {o:Oper} {s:SS} {t:TypeId} {i:TI} {sz g:Nat} {z y:SV} (k:Nat) (h:o.op=.load t (.global g)) (hb:s.h k=.glob sz z g)
  (ht:Γ.get t=some i) (hz:z.boxed=true) (hy:Hw i (cellsOf z) 0=some y):Good P o s ⟨y,[k],[]⟩ :=
 Good.pure fun κ a w _ hr ho=>by
  have h1:=ho k y_
  rw[hb]at h1
  simp only[ObOK,Rd,RdD]at h1
  obtain ⟨b,oo,u,h2,h3,h4,h5,h6⟩:=h1
  simp only[Nat.add_zero,Value.pointer.injEq,Option.some.injEq,Addr.mk.injEq,and_true]at h2
  obtain ⟨rfl,rfl⟩:=h2
  obtain ⟨v,h7,h8⟩:=Hv Γ ht (h6.cellsAt h5.toRd hz) hy
  have hg:a.eval (.global g)=.pointer (some ⟨g,0,none⟩):=rfl
  have h7':(loadVar t ⟨g,0,none⟩).run P w=.ok v w:=by simpa using h7
  exact⟨v,by simp[execOp,h,hg,Instr.loadAt,Instr.sureAddr,h7'],h8⟩
theorem Ob.shp_glob {x:Ob} {sz g:Nat} {z:SV} (h:x.shp=(Ob.glob sz z g).shp):x=.glob sz z g:=by
 cases x<;>simp_all[Ob.shp]
theorem GoodX.glob {P:Program} (Γ:Ty P) {o:Oper} {s:SS} {t:TypeId} {ti:TI} {et:TypeId} {len esz sz g:Nat} {y:Operand} {ik:IntKind} {n:Int} {z:SV} (k:Nat)
  (h:o.op=.indexAddr t (.global g) y) (ht:Γ.get t=some ti) (hk:ti.k=.array et len esz) (hb:s.h k=.glob sz z g) (hy:ev s y=.val (.int ik n)) (h0:0≤n) (hn:n.toNat<len) :
  GoodX P o s ⟨.ref sz z (n.toNat * esz),[k],[]⟩ where
 good:=(E7 Γ k h ht hk hb hy h0 hn).two
 idx _:=⟨rfl,fun s' h1 h2=>E7 Γ k h ht hk (Ob.shp_glob ((h2 k y_).trans (congrArg Ob.shp hb))) ((h1 y (by simp[h,Op.operands])).trans hy) h0 hn⟩
 st hs:=by simp[Lc,h]at hs
theorem I8 {C:Cx} {k:List KI} {s:SS} {all:Array Oper} {done:List Stp} {o:Oper} {rest:List Oper} {U:Up} (hg:GoodX C.P o s U) (hi:all[done.length]? = some o) (hw:Df C.n all o s=some true)
  (h:DR C k all (done++[⟨done.length,o,U,true⟩]) rest (s.upd o.dst U)):DR C k all done (o::rest) s:=Ahz U hg hi (C7 hw).1 h
section
open Go.ChangeShapes Go.WideShapes Go.ChangeAt Go.RowKit
variable {H:Type} {enc:TypeId × Value→H} {P:Program}
theorem Abn {f:FuncId} {fn:Func} {s:ChangeSpec} {W:World} {args:Array Value} {ds gs:List (DataW H)} {before:List MemPlace} {tb:TypeId} {A:List SV} {O O':Obs} (hO:O.ok κ0 W) (hv:s.vars=[]) (hl:laidOutB P=true)
  (hW:DataW.Whole enc P fn.params.toList s.vars false W args.toList ds gs before) (hts:∀ t∈fn.params.toList,P.readableRec t=true∧t<P.types.size) (hrt:fn.resultTypes=#[tb]) (hbt:P.underlying tb=some .bool)
  (hfn:∀ gs:List (DataW H),gs=[]→s.fn H (ds++gs)={ results:=[.lit (.bool true)],args:=ds }) (hA:RdL κ0 W A args.toList) (hs:Sy.Spec P f A O (Ab true) O') :
  Calls P f args W fun e W'=>∃ v,e=.returned v∧s.post enc P fn false true false false W args v W':=by
 have hc:=hs κ0 W args.toList (inv0 W) (fun k hk=>absurd rfl hk) hA hO
 simp only[Array.toArray_toList]at hc
 refine hc.mono ?_
 rintro e W' ⟨v,κ',rfl,ctx,inv,hR,_⟩
 have hvv:v=.bool true:=by simpa [Ab,Rd] using hR
 subst hvv
 have hb:=Xk ctx
 have hW':=hW
 obtain ⟨p,q,h1,h2,h3,h4,h5⟩:=hW
 have hgs:gs=[]∧q=[]:=by
  rw[hv]at h2
  exact trodVars_none h2
 obtain ⟨rfl,rfl⟩:=hgs
 rw[List.append_nil]at h3
 subst h3
 have hlt:∀ x∈before,x.block<W.heap.size:=fun x hx=>by simpa using hW'.lt x hx
 refine⟨_,rfl,ds,[],before,[],before,[],hW',?_,?_,?_,?_,fun h=>by cases h⟩
 ·rw[hfn [] rfl,hrt]
  exact trodAll_mk1 (shut_bool hbt true)
 ·rw[hfn [] rfl]
  exact Lf hl hb hts hlt h1
 ·rw[hv,hfn [] rfl]
  rfl
 ·exact hb.frame _
theorem Acm {M:Nat→Prop} {w:World}:∀ cs:List Value,RdDL M w (cs.map .val) cs
 | []=>by simp[RdDL]
 | c::cs=>by
  simp only[List.map_cons,RdDL]
  exact⟨c,cs,E,by simp[RdD],Acm cs⟩
theorem Aiw {W:World} {k g:Nat} (cs:List Value) (h1:Ones cs) (hg:g<W.heap.size) (hc:∀ j,j<cs.length→W.cell? ⟨g,j,none⟩=cs[j]?):ObOK κ0 W k (.glob cs.length (.agg (cs.map .val)) g):=by
 simp only[ObOK,Rd,RdD]
 refine⟨g,0,.agg cs.toArray,E,?_,hg,⟨cs,E,h1,Acm cs⟩,?_⟩
 ·rintro (⟨j,hj⟩ | hj)
  ·cases hj
  ·exact hj
 ·refine⟨by simp[Value.cells],by simpa [Value.cells] using h1,fun j hj=>?_⟩
  rw[Nat.zero_add,hc j hj]
  simp[Value.cells]
end
end Go.Sy
namespace Go.Sy
theorem Xm {P:Program} {κ:Ka} {w:World} (hi:Inv κ w) {t ty e:TypeId} {i:TypeInfo} {z:Value} {sz:Nat} (ht:P.underlying t=some (.slice e)) (hinfo:P.info? e=some i) (hz:i.zero=some z) (hsz:i.size=sz) (hzs:z.cells.size=sz)
  {v:Value} {n m:Nat} {f g:Nat→SV→Prop} {k:Option Nat} {d:Nat} (hd:κ d=.new) (hb:Base κ w v n sz f k) {t2:TypeId} (ht2:P.underlying t2=some .string) {b0:ByteArray} (hbm:b0.size=m) (hs1:sz=1) (hsg:∀ j x,g j x→∃ h:j<b0.data.toList.length,x=.val (.int .u8 (b0.data.toList[j].toNat))) (h63:n+m≤9223372036854775807) (hbytes:(n+m) * i.bytes≤140737488355328) :
  ∃ v' w' κ',(Builtin.append_ #[t,t2] ty #[v,.string b0]).run P w=.ok v' w'∧Step (fun j=>k=some j∨j=d) κ w κ' w'∧Inv κ' w'∧Rd κ' w' (.osl d) v' ∧
   ((κ' d=.nil∧n+m=0)∨RowAt κ' w' d sz (n+m) (Zz n f g)):=by
 obtain ⟨news,hnl,hn1,hnc,hng⟩:∃ (news:List Value),news.length=m * sz∧Ones news∧(∀ W:World,(∀ p:Addr,p.block<w.heap.size→W.cell? p=w.cell? p)→(Builtin.firstCells sz m (.string b0)).run P W=.ok news.toArray W) ∧
   (∀ j x,g j x→j<m∧∃ q:Value,RdD (Own κ) w x q∧q.cells.size=sz∧Ones q.cells.toList∧∀ l,l<sz→news[j * sz+l]? = q.cells[l]?):=by
  have hsz0:b0.data.toList.length=m:=by rw[← hbm];rfl
  refine⟨b0.data.toList.map fun c=>.int .u8 c.toNat,by rw[List.length_map,hs1,Nat.mul_one];exact hsz0,fun c hc=>?_,fun W _=>?_,fun j x hx=>?_⟩
  ·obtain ⟨b,_,rfl⟩:=List.mem_map.1 hc
   rfl
  ·have he:b0.extract 0 m=b0:=by rw[← hbm];exact ByteArray.extract_zero_size
   have e2:Array.map (fun b:UInt8=>Value.int .u8 b.toNat) b0.data=(List.map (fun b:UInt8=>Value.int .u8 b.toNat) b0.data.toList).toArray:=by apply Array.ext';simp
   simp[Builtin.firstCells,he,e2]
  ·obtain ⟨h,rfl⟩:=hsg j x hx
   refine⟨by omega,.int .u8 (b0.data.toList[j].toNat),by simp[RdD],by rw[hs1];rfl,fun c hc=>?_,fun l hl=>?_⟩
   ·simp[Value.cells]at hc;subst hc;rfl
   ·have hl0:l=0:=by omega
    subst hl0
    rw[hs1,Nat.mul_one,Nat.add_zero,List.getElem?_map,List.getElem?_eq_getElem h]
    simp[Value.cells]
 have hcap:∀ old,n+m≤grownCap w (n+m) old e:=fun old=>grownCap_ge w (n+m) old e
 have hfits:∀ old,old<n+m→¬ (281474976710656<Builtin.nextslicecap (n+m) old * i.bytes):=fun old ho=>by have:=growslice_fits ho hbytes;omega
 have newrow:∀ (olds:List Value) (old:Nat) (hol:olds.length=n * sz) (hof:∀ j x,f j x→j<n→∃ q:Value,RdD (Own κ) w x q∧q.cells.size=sz∧Ones q.cells.toList∧∀ l,l<sz→olds[j * sz+l]? = q.cells[l]?),
   let w':=w.drew.alloc (.cells (olds.toArray++news.toArray++Builtin.zeroCells z.cells (grownCap w (n+m) old e-(n+m))) e)
   let κ':=C0 (Lt κ k) d (.row w.heap.size (n+m) (grownCap w (n+m) old e))
   Step (fun j=>k=some j∨j=d) κ w κ' w'∧Inv κ' w'∧Rd κ' w' (.osl d) (.slice (some ⟨w.heap.size,0,none⟩) (n+m) (grownCap w (n+m) old e))∧RowAt κ' w' d sz (n+m) (Zz n f g):=by
  intro olds old hol hof w' κ'
  have s1:=Dy (κ:=κ) (w:=w) k
  have hdn:(Lt κ k) d=.new:=by
   cases k with
   | none=>exact hd
   | some k =>
    by_cases hkd:d=k
    ·exfalso
     subst hkd
     rcases hb with ⟨h,_⟩ | ⟨_,_,b,cap,h,_⟩<;>rw[hd]at h<;>cases h
    ·simp only[Lt];rw[Bu _ _ hkd];exact hd
  have g0:Grew w w':=(Grew.drew w).trans (Grew.alloc _ _)
  have s2:=D2 (Et hi k) hdn (e:=.row w.heap.size (n+m) (grownCap w (n+m) old e)) g0 (fun b hb=>by
   simp only[Ent.block?,Option.some.injEq]at hb;subst hb;exact⟨Nat.le_refl _,by simp[w']⟩)
  have s3:Step (fun j=>k=some j∨j=d) κ w κ' w':=(s1.weaken (fun j hj=>.inl hj)).trans (s2.1.weaken (fun j hj=>.inr hj))
  refine⟨s3,s2.2,by simp[Rd,κ',An],?_⟩
  refine⟨w.heap.size,grownCap w (n+m) old e,olds++news++(Builtin.zeroCells z.cells (grownCap w (n+m) old e-(n+m))).toList,e,(0,0),An _ _ _,?_,NoFr.zero _,?_,hcap old,?_⟩
  ·have:w'.heap[w.heap.size]? = some (.cells (olds.toArray++news.toArray++Builtin.zeroCells z.cells (grownCap w (n+m) old e-(n+m))) e):=heap_alloc_new w.drew _
   rw[this]
   congr 2
   apply Array.ext'
   simp
  ·simp only[List.length_append,hol,hnl,Array.length_toList,Lr,hzs]
   rw[← Nat.add_mul,← Nat.add_mul]
   have:=hcap old
   rw[show n+m+(grownCap w (n+m) old e-(n+m))=grownCap w (n+m) old e from by omega]
   exact Nat.le_refl _
  ·rintro j x (⟨hj,hx⟩ | ⟨hj,hx⟩)
   ·obtain ⟨q,q1,q2,q3,q4⟩:=hof j x hx hj
    refine⟨by omega,q,RdD.keep s3.keeps _ _ q1,q2,q3,fun l hl=>?_⟩
    have:(j+1) * sz≤n * sz:=Nat.mul_le_mul_right sz q_
    rw[Nat.add_mul,Nat.one_mul]at this
    rw[List.append_assoc,List.getElem?_append_left q_,q4 l hl]
   ·obtain ⟨h0,q,q1,q2,q3,q4⟩:=hng _ x hx
    refine⟨by omega,q,RdD.keep s3.keeps _ _ q1,q2,q3,fun l hl=>?_⟩
    have e1:j * sz=n * sz+(j-n) * sz:=by rw[← Nat.add_mul];congr 1;omega
    have:(j-n+1) * sz≤m * sz:=Nat.mul_le_mul_right sz q_
    rw[Nat.add_mul,Nat.one_mul]at this
    rw[List.append_assoc,List.getElem?_append_right q_,List.getElem?_append_left q_,← q4 l hl]
    congr 1
    omega
 cases k with
 | none =>
  obtain ⟨rfl,rfl⟩:=hb
  by_cases hm:m=0
  ·subst hm
   have st:=D2 hi hd (e:=.nil) (Grew.refl w) (fun b hb=>by cases hb)
   refine⟨.slice none 0 0,w,C0 κ d .nil,?_,st.1.weaken (fun j hj=>.inr hj),st.2,by simp[Rd,An],.inl ⟨An _ _ _,E⟩⟩
   have hc:=hnc w (fun _ _=>rfl)
   simp[Builtin.append_,run_underlying ht,run_underlying ht2,hbm,sizeOf,typeInfo,hinfo,hsz,Builtin.lenOf,hc]
  ·obtain ⟨q1,q2,q3,q4⟩:=newrow [] 0 y_ (fun j x _ hj=>absurd hj q_)
   refine⟨_,_,_,?_,q1,q2,q3,.inr q4⟩
   have hc:=hnc w.drew (fun _ _=>rfl)
   have h48:=hfits 0 q_
   have h63':¬ (9223372036854775807<(m:Int)):=by omega
   simp only[Nat.zero_add]at h48 ⊢
   simp[Builtin.append_,run_underlying ht,run_underlying ht2,hbm,sizeOf,typeInfo,zeroValue,hinfo,hsz,hz,Builtin.lenOf,hm,h63',h48,Question.forced,run_firstCells_none,hc,newRow,grownCap]
 | some k =>
  rcases hb with ⟨hk,rfl,rfl⟩ | ⟨hrow,tot,b,cap,hk,rfl⟩
  ·by_cases hm:m=0
   ·subst hm
    have hkd:d≠k:=fun e=>by subst e;rw[hd]at hk;cases hk
    have st:=D2 (Et hi (some k)) (by show C0 κ k .dead d=.new;rw[Bu _ _ hkd];exact hd) (e:=.nil) (Grew.refl w) (fun b hb=>by cases hb)
    refine⟨.slice none 0 0,w,_,?_,((Dy (some k)).weaken (fun j hj=>.inl hj)).trans (st.1.weaken (fun j hj=>.inr hj)),st.2,by simp[Rd,An],.inl ⟨An _ _ _,E⟩⟩
    have hc:=hnc w (fun _ _=>rfl)
    simp[Builtin.append_,run_underlying ht,run_underlying ht2,hbm,sizeOf,typeInfo,hinfo,hsz,Builtin.lenOf,hc]
   ·obtain ⟨q1,q2,q3,q4⟩:=newrow [] 0 y_ (fun j x _ hj=>absurd hj q_)
    refine⟨_,_,_,?_,q1,q2,q3,.inr q4⟩
    have hc:=hnc w.drew (fun _ _=>rfl)
    have h48:=hfits 0 q_
    have h63':¬ (9223372036854775807<(m:Int)):=by omega
    simp only[Nat.zero_add]at h48 ⊢
    simp[Builtin.append_,run_underlying ht,run_underlying ht2,hbm,sizeOf,typeInfo,zeroValue,hinfo,hsz,hz,Builtin.lenOf,hm,h63',h48,Question.forced,run_firstCells_none,hc,newRow,grownCap]
  ·obtain ⟨b',cap',hk',hsrc⟩:=hrow.src tot
   rw[hk]at hk'
   cases hk'
   have hrow':=hrow
   obtain ⟨b',cap',cs,T,fr,e1,e2,e3,e4,e5,e6⟩:=hrow'
   rw[hk]at e1
   cases e1
   by_cases hroom:n+m≤cap
   ·have hkd:k≠d:=fun e=>by subst e;rw[hk]at hd;cases hd
    have hcs:(n+m) * sz≤cs.length:=Nat.le_trans (Nat.mul_le_mul_right sz hroom) e4
    rw[Nat.add_mul]at hcs
    obtain ⟨w',f1,f2,f3,f4,f5,f6,f7⟩:=C9 P b (n * sz) T fr news 0 cs w e2 e3 q_ hn1
    obtain ⟨st,inv⟩:=O0 (n':=n+m) hi hk hd f3 f4 f5 f6 f7
    refine⟨.slice (some ⟨b,0,none⟩) (n+m) cap,w',_,?_,st.weaken (fun j hj=>hj.imp (fun h=>by rw[h]) id),inv,by simp[Rd,An],.inr ?_⟩
    ·have hc:=hnc w (fun _ _=>rfl)
     simp[Builtin.append_,run_underlying ht,run_underlying ht2,hbm,sizeOf,typeInfo,hinfo,hsz,Builtin.lenOf,hroom,hc,Addr.add_lit,f1]
    ·refine⟨b,cap,_,T,fr,An _ _ _,by simpa using f2,by rw[B3];exact e3,by rw[B3];exact e4,hroom,?_⟩
     have hset:=Mj cs news (n * sz)
     rintro j x (⟨hj,hx⟩ | ⟨hj,hx⟩)
     ·obtain ⟨_,q,q1,q2,q3,q4⟩:=e6 j x hx
      refine⟨by omega,q,RdD.keep st.keeps _ _ q1,q2,q3,fun l hl=>?_⟩
      have:(j+1) * sz≤n * sz:=Nat.mul_le_mul_right sz q_
      rw[Nat.add_mul,Nat.one_mul]at this
      rw[hset _ q_,if_neg q_,q4 l hl]
     ·obtain ⟨h0,q,q1,q2,q3,q4⟩:=hng _ x hx
      refine⟨by omega,q,RdD.keep st.keeps _ _ q1,q2,q3,fun l hl=>?_⟩
      have e1:j * sz=n * sz+(j-n) * sz:=by rw[← Nat.add_mul];congr 1;omega
      have:(j-n+1) * sz≤m * sz:=Nat.mul_le_mul_right sz q_
      rw[Nat.add_mul,Nat.one_mul]at this
      rw[hset _ q_,if_pos q_,← q4 l hl]
      congr 1
      omega
   ·rcases hsrc with ⟨rfl,hno,a',c',he⟩ | ⟨b2,o2,c2,olds,he,g1,g2,g3,g4⟩
    ·obtain ⟨q1,q2,q3,q4⟩:=newrow [] cap y_ (fun j x _ hj=>absurd hj q_)
     refine⟨_,_,_,?_,q1,q2,q3,.inr q4⟩
     have hc:=hnc w.drew (fun _ _=>rfl)
     have h48:=hfits cap q_
     have h63':¬ (9223372036854775807<(m:Int)):=by omega
     have hroom':¬ (m≤cap):=by omega
     have hfo:=run_firstCells_some (P:=P) w.drew sz 0 ⟨b,0,none⟩ 0 cap [] y_ (fun j v hj=>by simp at hj)
     simp only[Nat.zero_add]at h48 ⊢
     simp[Builtin.append_,run_underlying ht,run_underlying ht2,hbm,sizeOf,typeInfo,zeroValue,hinfo,hsz,hz,Builtin.lenOf,hroom',h63',h48,Question.forced,hfo,hc,newRow,grownCap]
    ·cases he
     obtain ⟨q1,q2,q3,q4⟩:=newrow olds cap g1 (fun j x hx hj=>(g4 j x hx).2)
     refine⟨_,_,_,?_,q1,q2,q3,.inr q4⟩
     have hc:=hnc w.drew (fun _ _=>rfl)
     have h48:=hfits cap q_
     have h63':¬ (9223372036854775807<(n:Int)+(m:Int)):=by omega
     have hfo:=run_firstCells_some (P:=P) w.drew sz n ⟨b,0,none⟩ n cap olds g1 (fun j v hj=>by
      have:=g3 j v hj
      rw[Addr.add_lit];simpa using this)
     simp[Builtin.append_,run_underlying ht,run_underlying ht2,hbm,sizeOf,typeInfo,zeroValue,hinfo,hsz,hz,Builtin.lenOf,hroom,h63',h48,Question.forced,hfo,hc,newRow,grownCap]
     congr 2
     apply Array.ext'
     simp[List.append_assoc]
theorem W2 {P:Program} (Γ:Ty P) {o:Oper} {s:SS} (d:Nat) {l:List UInt8} {b:ByteArray} {t t2:TypeId} {ti ti2:TI} {et:TypeId} {eb:Nat} {ez:List Value} {x y:Operand} {k:Option Nat}
  (h:o.op=.call ⟨.builtin .append,#[x,y],#[t,t2]⟩) (hd:s.h d=.fresh) (ht:Γ.get t=some ti) (hk:ti.k=.slice et 1 eb ez) (hez:ez.length=1) (ht2:Γ.get t2=some ti2) (hk2:ti2.k=.string)
  (hb:BaseT s 1 Ak (ev s x) k l) (hy:ev s y=.val (.string b)) (hkk:∀ j,k=some j→j≠d) (hbytes:(l.length+b.size) * eb≤140737488355328) (h63:l.length+b.size≤9223372036854775807) :
  Good P o s ⟨.osl d,[],Dt k d (.row 1 Ak (l++b.data.toList))⟩:=by
 obtain ⟨f,hb,hf⟩:=hb.base
 intro κ a w hi hr ho N Q hN
 have h1:=hr x (by simp[h,Op.operands,Call.operands])
 have h2:=hr y (by simp[h,Op.operands,Call.operands])
 rw[hy]at h2
 have hws:∀ j,j∈(Up.mk (.osl d) [] (Dt k d (.row 1 Ak (l++b.data.toList)))).ws↔(k=some j∨j=d):=by
  intro j
  cases k<;>simp[Up.ws,Dt,eq_comm]
 have hnew:κ d=.new:=by have:=ho d (.inr ((hws d).2 (.inr rfl)));rwa [hd]at this
 obtain ⟨hu,i,z,q1,q2,q3,q4,q5⟩:=Cr Γ ht hk
 have hzs:z.cells.size=1:=by rw[← hez,← q5];simp
 have hu2:P.underlying t2=some .string:=by
  obtain ⟨dd,info,zz,k1,k2,_⟩:=Γ.ok t2 ti2 ht2
  rw[hk2]at k2
  simp only[TK.ok]at k2
  subst k2
  exact k1
 obtain ⟨v',w',κ',r1,r2,r3,r4,r5⟩:=Xm (P:=P) (ty:=o.type) (g:=rowF Ak b.data.toList) hi hu q1 q4 q2 hzs hnew (hb.base h1 (fun j hj=>ho j (.inr ((hws j).2 (.inl hj))))) hu2 (rfl:b.size=b.size) rfl
  (fun j x hx=>hx) h63 (by rw[q3];exact hbytes)
 have hrun:(execOp a.eval o).run P w=.ok (.value v') w':=by
  simp[execOp,h,h2.val,resolve,invoke,builtin,r1]
 simp only[Oper.wp,hrun,Oper.upon]
 refine hN v' κ' w' (r2.weaken (fun j hj=>(hws j).2 hj)) r3 r4 (fun p hp=>?_)
 have hfin:ObOK κ' w' d (.row 1 Ak (l++b.data.toList)):=Zy r5 (by rw[List.length_append];rfl) (X7 hf (fun _ _ h=>h))
 cases k with
 | none =>
  simp only[Dt,List.mem_singleton]at hp
  subst hp
  exact hfin
 | some k =>
  simp only[Dt,List.mem_cons,List.not_mem_nil,or_false]at hp
  rcases hp with rfl | rfl
  ·trivial
  ·exact hfin
theorem Ba {P:Program} (Γ:Ty P) {o:Oper} {s:SS} {t:TypeId} {ti:TI} {et:TypeId} {len:Nat} {x y:Operand} {ik:IntKind} {n:Int} {l:List SV} {z:SV} {k:EK} (h:o.op=.index t x y) (ht:Γ.get t=some ti) (hk:ti.k=.array et len 1)
  (he:P.underlying et=some (EK.desc k)) (hx:ev s x=.agg l) (hy:ev s y=.val (.int ik n)) (h0:0≤n) (hn:n.toNat<len) (hz:D9 l n.toNat=some z):Good P o s ⟨z,[],[]⟩ :=
 Good.pure fun κ a w _ hr _=>by
  have h1:=hr x (by simp[h,Op.operands])
  have h2:=hr y (by simp[h,Op.operands])
  rw[hx]at h1
  rw[hy]at h2
  simp only[Rd]at h1
  obtain ⟨cs,e1,_,e2⟩:=h1
  obtain ⟨v,e3,e4⟩:=e2.getT hz
  obtain ⟨hu,i,q1,q2⟩:=Kr Γ ht hk
  have hp:=Sq (P:=P) w he cs.toArray e3
  have hlt:n<len:=by omega
  refine⟨v,?_,e4⟩
  simp[execOp,h,e1,h2.val,Instr.index,run_underlying hu,asIntOf,h0,hlt,sizeOf,typeInfo,q1,q2,hp]
theorem Ag {C:Cx} {k:List KI} {s:SS} (d:Nat) (l':List SV) {l:List SV} (h:s.h d=.box l) (hv:VwL s [] l l') (hg:G C k ⟨s.σ,upd s.h d (.box l')⟩):G C k s:=fun κ a w hs =>
 hg κ a w ⟨hs.defers,hs.size,hs.inv,hs.ctx,hs.slot,fun i=>by
  show ObOK κ w i (upd s.h d (.box l') i)
  by_cases hi:i=d
  ·subst hi
   rw[B1]
   have:=hs.obj i
   rw[h]at this
   obtain ⟨b,cs,T,fr,e1,e2,e3,e4,e5⟩:=this
   exact⟨b,cs,T,fr,e1,e2,e3,e4,VwL.rd hs.inv (fun _ hn=>by cases hn) hv e5⟩
  ·rw[Cq _ _ hi];exact hs.obj i⟩
end Go.Sy
namespace Go.Sy.YtjenpnjajjplkaaGreatDoor
open Go.Proofs
attribute [local irreducible] Go.Sy.G Go.Sy.DR
set_option maxRecDepth 100000
set_option maxHeartbeats 4000000
theorem E4 (l m:List Int) (hl:l.length≤1000000) (hm1:m.length≤1000000):Sy.Spec Tryz.prog 52 [.sl 1 Aa l,.sl 1 Aa m] [] (Ab (l == m)) []:=cT F52 Tryz.ntmps52 fun F hF=>by
 by_cases hlen:l.length=m.length
 rotate_left
 ·have hr:(l == m)=false:=by
   rw[beq_eq_false_iff_ne];intro e;exact hlen (by rw[e])
  have f0:((l.length:Int) != (m.length:Int))=true:=by rw[bne_iff_ne];omega
  rw[hr]
  refine T ?_
  exact D
 have f0:((l.length:Int) != (m.length:Int))=false:=by rw[bne_eq_false_iff_eq];omega
 refine T ?_
 refine A3 l.length (fun j=>l.take j=m.take j) (fun j=>[(0,.sl 1 Aa l),(1,.sl 1 Aa m),(12,Aa l.length),(13,Aa j)]) (fun _=>[]) [] E U ?_
 intro j hj hI
 refine T ?_
 refine⟨fun h=>?_,fun h=>?_⟩
 ·have hlt:j<l.length:=qA h
  have hlm:j<m.length:=by omega
  have hlt0:((j:Nat):Int).toNat<l.length:=hlt
  have hlm0:((j:Nat):Int).toNat<m.length:=hlm
  clear h
  by_cases he:l[j]=m[j]
  ·have f1:(l[((j:Nat):Int).toNat]'hlt0 != m[((j:Nat):Int).toNat]'hlm0)=false:=by rw[bne_eq_false_iff_eq];exact he
   refine T ?_
   refine A1 [] hI q_ ?_ U
   rw[List.take_succ_eq_append_getElem hlt,List.take_succ_eq_append_getElem hlm,hI,he]
  ·have f1:(l[((j:Nat):Int).toNat]'hlt0 != m[((j:Nat):Int).toNat]'hlm0)=true:=by rw[bne_iff_ne];exact he
   have hr:(l == m)=false:=by
    rw[beq_eq_false_iff_ne];intro e;subst e;exact he rfl
   rw[hr]
   refine T ?_
   exact D
 ·have hje:j=l.length:=qB h
  subst hje
  have hr:(l == m)=true:=by
   rw[beq_iff_eq]
   rw[List.take_length,hlen,List.take_length]at hI
   exact hI
  rw[hr]
  clear h
  refine T ?_
  exact D
theorem Sa (l m:List Int) (hl:l.length≤1000000) (hm1:m.length≤1000000):Sy.Spec Tryz.prog 57 [.sl 1 Bi l,.sl 1 Bi m] [] (Ab (l == m)) []:=cT F57 Tryz.ntmps57 fun F hF=>by
 by_cases hlen:l.length=m.length
 rotate_left
 ·have hr:(l == m)=false:=by
   rw[beq_eq_false_iff_ne];intro e;exact hlen (by rw[e])
  have f0:((l.length:Int) != (m.length:Int))=true:=by rw[bne_iff_ne];omega
  rw[hr]
  refine T ?_
  exact D
 have f0:((l.length:Int) != (m.length:Int))=false:=by rw[bne_eq_false_iff_eq];omega
 refine T ?_
 refine A3 l.length (fun j=>l.take j=m.take j) (fun j=>[(0,.sl 1 Bi l),(1,.sl 1 Bi m),(12,Aa l.length),(13,Aa j)]) (fun _=>[]) [] E U ?_
 intro j hj hI
 refine T ?_
 refine⟨fun h=>?_,fun h=>?_⟩
 ·have hlt:j<l.length:=qA h
  have hlm:j<m.length:=by omega
  have hlt0:((j:Nat):Int).toNat<l.length:=hlt
  have hlm0:((j:Nat):Int).toNat<m.length:=hlm
  clear h
  by_cases he:l[j]=m[j]
  ·have f1:(l[((j:Nat):Int).toNat]'hlt0 != m[((j:Nat):Int).toNat]'hlm0)=false:=by rw[bne_eq_false_iff_eq];exact he
   refine T ?_
   refine A1 [] hI q_ ?_ U
   rw[List.take_succ_eq_append_getElem hlt,List.take_succ_eq_append_getElem hlm,hI,he]
  ·have f1:(l[((j:Nat):Int).toNat]'hlt0 != m[((j:Nat):Int).toNat]'hlm0)=true:=by rw[bne_iff_ne];exact he
   have hr:(l == m)=false:=by
    rw[beq_eq_false_iff_ne];intro e;subst e;exact he rfl
   rw[hr]
   refine T ?_
   exact D
 ·have hje:j=l.length:=qB h
  subst hje
  have hr:(l == m)=true:=by
   rw[beq_iff_eq]
   rw[List.take_length,hlen,List.take_length]at hI
   exact hI
  rw[hr]
  clear h
  refine T ?_
  exact D
theorem Adn (a b:LineM) (ha:LineFin a) (hb:LineFin b):Sy.Spec Tryz.prog 411 [Ap a,Ap b] [] (Ab (Iv a b)) []:=cT F411 Tryz.ntmps411 fun F hF=>by
 have ht:=ha.t;have hi:=ha.i;have he:=ha.e;have haa:=ha.a
 have ht2:=hb.t;have hi2:=hb.i;have he2:=hb.e;have haa2:=hb.a
 have q0:=E4 a.tagged b.tagged q_ q_
 have q1:=E4 a.imports b.imports q_ q_
 have q2:=E4 a.exports b.exports q_ q_
 have q3:=Sa a.addrs b.addrs q_ q_
 rw[Iv]
 cases h_row:(a.row == b.row)
 ·rw[Bool.false_and]
  refine T ?_
  exact D
 rw[Bool.true_and]
 cases h_kind:(a.kind == b.kind)
 ·rw[Bool.false_and]
  refine T ?_
  exact D
 rw[Bool.true_and]
 cases h_dev:(a.dev == b.dev)
 ·rw[Bool.false_and]
  refine T ?_
  exact D
 rw[Bool.true_and]
 cases h_port:(a.port == b.port)
 ·rw[Bool.false_and]
  refine T ?_
  exact D
 rw[Bool.true_and]
 cases h_peer:(a.peer == b.peer)
 ·rw[Bool.false_and]
  refine T ?_
  exact D
 rw[Bool.true_and]
 cases h_far:(a.far == b.far)
 ·rw[Bool.false_and]
  refine T ?_
  exact D
 rw[Bool.true_and]
 cases h_name:(a.name == b.name)
 ·rw[Bool.false_and]
  refine T ?_
  exact D
 rw[Bool.true_and]
 cases h_mac:(a.mac == b.mac)
 ·rw[Bool.false_and]
  refine T ?_
  exact D
 rw[Bool.true_and]
 cases h_addr:(a.addr == b.addr)
 ·rw[Bool.false_and]
  refine T ?_
  exact D
 rw[Bool.true_and]
 cases h_bits:(a.bits == b.bits)
 ·rw[Bool.false_and]
  refine T ?_
  exact D
 rw[Bool.true_and]
 cases h_vlan:(a.vlan == b.vlan)
 ·rw[Bool.false_and]
  refine T ?_
  exact D
 rw[Bool.true_and]
 cases h_num:(a.num == b.num)
 ·rw[Bool.false_and]
  refine T ?_
  exact D
 rw[Bool.true_and]
 cases h_cost:(a.cost == b.cost)
 ·rw[Bool.false_and]
  refine T ?_
  exact D
 rw[Bool.true_and]
 cases h_tagged:(a.tagged == b.tagged)
 ·rw[h_tagged]at q0
  rw[Bool.false_and]
  refine T ?_
  refine C q0 F52 ?_
  exact D
 rw[h_tagged]at q0
 rw[Bool.true_and]
 cases h_imports:(a.imports == b.imports)
 ·rw[h_imports]at q1
  rw[Bool.false_and]
  refine T ?_
  refine C q0 F52 ?_
  refine C q1 F52 ?_
  exact D
 rw[h_imports]at q1
 rw[Bool.true_and]
 cases h_exports:(a.exports == b.exports)
 ·rw[h_exports]at q2
  rw[Bool.false_and]
  refine T ?_
  refine C q0 F52 ?_
  refine C q1 F52 ?_
  refine C q2 F52 ?_
  exact D
 rw[h_exports]at q2
 rw[Bool.true_and]
 cases h_addrs:(a.addrs == b.addrs)
 ·rw[h_addrs]at q3
  skip
  refine T ?_
  refine C q0 F52 ?_
  refine C q1 F52 ?_
  refine C q2 F52 ?_
  refine C q3 F57 ?_
  exact D
 rw[h_addrs]at q3
 refine T ?_
 refine C q0 F52 ?_
 refine C q1 F52 ?_
 refine C q2 F52 ?_
 refine C q3 F57 ?_
 exact D
theorem Cv (n lo hi:Int):Sy.Spec Tryz.prog 439 [Aa n,Aa lo,Aa hi] [] (Ab (A9 n lo hi)) []:=cT F439 Tryz.ntmps439 fun F hF=>by
 rw[A9]
 by_cases h1:lo≤n
 ·have f1:decide (n≥lo)=true:=decide_eq_true h1
  rw[decide_eq_true h1,Bool.true_and]
  refine T ?_
  exact D
 ·have f1:decide (n≥lo)=false:=decide_eq_false h1
  rw[decide_eq_false h1,Bool.false_and]
  refine T ?_
  exact D
theorem Oz (l:List Int) (most:Int) (hl:l.length≤100000):Sy.Spec Tryz.prog 440 [.sl 1 Aa l,Aa most] [] (Ab (Dn l most)) []:=cT F440 Tryz.ntmps440 fun F hF=>by
 have q:=S4 l 1 most (by simp only[Aq];omega)
 rw[Dn,Li]
 by_cases h0:l.length=0
 ·rw[decide_eq_true h0,Bool.true_or]
  have f0:((l.length:Int) == 0)=true:=by rw[h0];rfl
  refine T ?_
  exact D
 ·rw[decide_eq_false h0,Bool.false_or]
  have f0:((l.length:Int) == 0)=false:=by rw[beq_eq_false_iff_ne];omega
  refine T ?_
  refine C q F180 ?_
  exact D
def Kt (l:List Int) (i:Nat) (x:Int):Bool:=decide (x≠0) && (i == 0 || decide (l.getD (i-1) 0<x))
theorem Aci (l:List Int):Ii l=(Dj (Kt l) l && (decide (0<l.length) && decide (l.length≤16))):=by
 have e:(List.range l.length).all (fun i=>decide (l.getD i 0≠0) && (i == 0 || decide (l.getD (i-1) 0<l.getD i 0)))=Dj (Kt l) l:=by
  rw[Bool.eq_iff_iff,List.all_eq_true,allB_iff]
  constructor
  ·intro h i hi
   have:=h i (List.mem_range.2 hi)
   rw[show l.getD i 0=l[i] by rw[List.getD_eq_getElem?_getD,List.getElem?_eq_getElem hi];rfl]at this
   exact this
  ·intro h i hi
   have hi:=List.mem_range.1 hi
   rw[show l.getD i 0=l[i] by rw[List.getD_eq_getElem?_getD,List.getElem?_eq_getElem hi];rfl]
   exact h i hi
 rw[Ii,e]
theorem Aaq (l:List Int) (hl:l.length≤100000):Sy.Spec Tryz.prog 441 [.sl 1 Bi l] [] (Ab (Ii l)) []:=cT F441 Tryz.ntmps441 fun F hF=>by
 have hres:=Aci l
 generalize Ii l=r at *
 refine T ?_
 refine A3 l.length (fun j=>Dw (Kt l) l j) (fun j=>[(0,.sl 1 Bi l),(5,.sl 1 Bi l),(6,Aa l.length),(7,Aa j)]) (fun _=>[]) [] (Bb _ _) U ?_
 intro j hj hI
 refine T ?_
 refine⟨fun h=>?_,fun h=>?_⟩
 ·have hlt:j<l.length:=qA h
  have hlt0:((j:Nat):Int).toNat<l.length:=hlt
  have hno:=fun h=>Bs (p:=Kt l) hlt h
  have hnx:=fun h=>A8 (p:=Kt l) hI hlt h
  clear h
  by_cases h1:l[j]=0
  ·have f1:(l[((j:Nat):Int).toNat]'hlt0 == 0)=true:=beq_iff_eq.2 h1
   rw[hno (by simp[Kt,h1]),Bool.false_and]at hres
   subst hres
   refine T ?_
   exact D
  ·have f1:(l[((j:Nat):Int).toNat]'hlt0 == 0)=false:=beq_eq_false_iff_ne.2 h1
   by_cases h2:j=0
   ·subst h2
    refine T ?_
    exact A1 [] hI q_ (hnx (by simp[Kt,h1])) U
   ·have f2:decide ((j:Int)>0)=true:=decide_eq_true q_
    have hk:((j:Int)-1).toNat<l.length:=by omega
    have hg:l.getD (j-1) 0=l[((j:Int)-1).toNat]'hk:=by
     rw[List.getD_eq_getElem?_getD,List.getElem?_eq_getElem (by omega:j-1<l.length)]
     have:((j:Int)-1).toNat=j-1:=by omega
     simp only[this]
     rfl
    have hx:Kt l j l[j]=(decide (l[j]≠0) && (j == 0 || decide (l.getD (j-1) 0<l[j]))):=rfl
    rw[hg]at hx
    by_cases h3:l[((j:Int)-1).toNat]'hk<l[j]
    ·have f3:decide (l[((j:Int)-1).toNat]'hk≥l[((j:Nat):Int).toNat]'hlt0)=false:=decide_eq_false (by show ¬ _≥l[j];omega)
     refine T ?_
     exact A1 [] hI q_ (hnx (by rw[hx,decide_eq_true h1,decide_eq_true h3,Bool.or_true];rfl)) U
    ·have f3:decide (l[((j:Int)-1).toNat]'hk≥l[((j:Nat):Int).toNat]'hlt0)=true:=decide_eq_true (by show _≥l[j];omega)
     rw[hno (by rw[hx,decide_eq_false h3,beq_eq_false_iff_ne.2 h2];simp),Bool.false_and]at hres
     subst hres
     refine T ?_
     exact D
 ·have hje:j=l.length:=qB h
  subst hje
  rw[Cz hI (Nat.le_refl _),Bool.true_and]at hres
  subst hres
  clear h
  by_cases h0:0<l.length
  ·rw[decide_eq_true h0,Bool.true_and]
   have f0:decide ((l.length:Int)>0)=true:=decide_eq_true q_
   refine T ?_
   refine At E (.cons .tmp .nil) (congrArg Ab ?_) E
   exact decide_eq_decide.2 q_
  ·rw[decide_eq_false h0,Bool.false_and]
   have f0:decide ((l.length:Int)>0)=false:=decide_eq_false q_
   refine T ?_
   exact D
end Go.Sy.YtjenpnjajjplkaaGreatDoor
