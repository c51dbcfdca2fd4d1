/-
  M12 M13 M14 V2 V3 V4 V5 X1 D2 M1 M2 M15 A1 A3 A4 R1 R2 A5 R3 R5 R6 A6 R7 R8 K0 E7 E8 E9 E10 E11 E12 E13 E14 E15 A7 E21 E29 I6 I12 I13 I14: parts of a proof, joined by program.
-/
import Derived.Test.YtgblchnfjbkipaaGreatDoorXH3
import Derived.RangeFuncNested
import Derived.RangeFuncCalls
import Derived.RangeFuncLeaves
import Derived.Shelf.Abstract
import Derived.Shelf.RegionOpen
import Derived.WalkKit
import Derived.OwnWalkIn
import Derived.TacticsInMore
import Derived.LoopNIn
import Derived.LoopIn
import Derived.Test.YtgblchnfjbkipaaGreatDoorProg
import Derived.Scope
import Derived.Laws.Bits64b
namespace Go.Sy.YtgblchnfjbkipaaGreatDoor
open Go.Proofs
attribute [local irreducible] Go.Sy.G Go.Sy.DR
set_option maxRecDepth 100000
set_option maxHeartbeats 4000000
theorem F233:Fun Tryz.prog 233 Tryz.f233 (Uj Tryz.f233):=⟨Tryz.func233,rfl,by kernel_rfl⟩
theorem F288:Fun Tryz.prog 288 Tryz.f288 (Uj Tryz.f288):=⟨Tryz.func288,rfl,by kernel_rfl⟩
theorem Tc (s p:ByteArray):Sy.Spec Tryz.prog 289 [Ab s,Ab p] [] (Ab (mkT (Lib.trimPrefix s.data.toList p.data.toList))) [] :=
 Spec.of_calls fun κ w vs hi hr _=>by
  simp only[RdL]at hr
  obtain ⟨v,r,rfl,h3,u,r',rfl,h4,rfl⟩:=hr
  have h3':v=.string s:=by simpa only [Ab,Rd] using h3
  have h4':u=.string p:=by simpa only [Ab,Rd] using h4
  subst h3' h4'
  exact(Tryz.strings_TrimPrefix s p w).mono fun e w' ⟨he,hw⟩=>⟨he,hw ▸ RowKit.Below.refl _ _⟩
theorem Ab1 (s:ByteArray) (c:UInt8) (m:Int) (hm:Lib.indexByte s.data.toList c=m):Sy.Spec Tryz.prog 288 [Ab s,Ab ⟨#[c]⟩] [] (Aa m) [] :=
 Spec.of_calls fun κ w vs hi hr _=>by
  subst hm
  simp only[RdL]at hr
  obtain ⟨v,r,rfl,h3,u,r',rfl,h4,rfl⟩:=hr
  have h3':v=.string s:=by simpa only [Ab,Rd] using h3
  have h4':u=.string ⟨#[c]⟩:=by simpa only [Ab,Rd] using h4
  subst h3' h4'
  exact(Tryz.stringslite_Index_one s c w).mono fun e w' ⟨he,hw⟩=>⟨he,hw ▸ RowKit.Below.refl _ _⟩
def cutT (c:UInt8) (s:ByteArray):ByteArray × ByteArray × Bool :=
 if 0≤Lib.indexByte s.data.toList c then (s.extract 0 (Hl c s.data.toList),s.extract (Hl c s.data.toList+1) s.size,true) else (s,⟨#[]⟩,false)
theorem Jq (l:List UInt8) (c:UInt8):Lib.indexByte l c<l.length:=by
 induction l with
 | nil=>simp[Lib.indexByte]
 | cons b l ih =>
  unfold Lib.indexByte
  rw[List.length_cons]
  split
  ·omega
  split
  ·omega
  ·omega
theorem Ag7 (s:ByteArray) (c:UInt8) (hs:s.size≤1000000000):Sy.Spec Tryz.prog 233 [Ab s,Ab ⟨#[c]⟩] [] (.tup [Ab (cutT c s).1,Ab (cutT c s).2.1,Af (cutT c s).2.2]) []:=cT F233 Tryz.ntmps233 fun F hF=>by
 have hres:=cutT.eq_1 c s
 generalize cutT c s=res at *
 have hlt:=Jq s.data.toList c
 have hsz:s.data.toList.length=s.size:=rfl
 have hid:Hl c s.data.toList=(Lib.indexByte s.data.toList c).toNat:=rfl
 obtain ⟨m,hmm⟩:∃ m,Lib.indexByte s.data.toList c=m:=⟨_,rfl⟩
 have q:=Ab1 s c m hmm
 rw[hmm]at hres hlt hid
 ((conv=>whnf);repeat((first|refine aF ?_|refine aT ?_);(first|refine rG Γ hm ?_|refine rD Γ hm y_ ?_);conv=>whnf))
 refine c0 q F288 ?_
 ((first|refine rG Γ hm ?_|refine rD Γ hm y_ ?_);(conv=>whnf);repeat((first|refine aF ?_|refine aT ?_);(first|refine rG Γ hm ?_|refine rD Γ hm y_ ?_);conv=>whnf))
 refine⟨fun h=>?_,fun h=>?_⟩
 ·have h0:0≤m:=of_decide_eq_true h
  rw[if_pos h0,hid]at hres
  have e1:(m+1).toNat=m.toNat+1:=by omega
  have hc1:(⟨#[c]⟩:ByteArray).size=1:=rfl
  subst hres
  ((first|refine rG Γ hm ?_|refine rD Γ hm y_ ?_);(conv=>whnf);repeat((first|refine aF ?_|refine aT ?_);(first|refine rG Γ hm ?_|refine rD Γ hm y_ ?_);conv=>whnf))
  refine⟨⟨by omega,by omega,by omega⟩,?_⟩
  ((conv=>whnf);repeat((first|refine aF ?_|refine aT ?_);(first|refine rG Γ hm ?_|refine rD Γ hm y_ ?_);conv=>whnf))
  refine⟨by show I64 (m+1);unfold I64;omega,?_⟩
  ((conv=>whnf);repeat((first|refine aF ?_|refine aT ?_);(first|refine rG Γ hm ?_|refine rD Γ hm y_ ?_);conv=>whnf))
  refine⟨⟨by omega,by omega,by omega⟩,?_⟩
  ((conv=>whnf);repeat((first|refine aF ?_|refine aT ?_);(first|refine rG Γ hm ?_|refine rD Γ hm y_ ?_);conv=>whnf))
  refine⟨y_,?_⟩
  ((conv=>whnf);repeat((first|refine aF ?_|refine aT ?_);(first|refine rG Γ hm ?_|refine rD Γ hm y_ ?_);conv=>whnf))
  refine Bv q_ (.cons .tmp (.cons .tmp (.cons .tmp .nil))) ?_ q_
  show SV.tup [Ab _,Ab (s.extract (m.toNat+1) s.size),_]=SV.tup [Ab _,Ab (s.extract (m+1).toNat _),_]
  rw[e1]
  rfl
 ·have h0:¬ 0≤m:=of_decide_eq_false h
  rw[if_neg h0]at hres
  subst hres
  ((first|refine rG Γ hm ?_|refine rD Γ hm y_ ?_);(conv=>whnf);repeat((first|refine aF ?_|refine aT ?_);(first|refine rG Γ hm ?_|refine rD Γ hm y_ ?_);conv=>whnf))
  exact dN
theorem Sx (s:ByteArray) (c:UInt8) (hs:s.size≤1000000000):Sy.Spec Tryz.prog 176 [Ab s,Ab ⟨#[c]⟩] [] (.tup [Ab (cutT c s).1,Ab (cutT c s).2.1,Af (cutT c s).2.2]) []:=cT F176 Tryz.ntmps176 fun F hF=>by
 have q:=Ag7 s c hs
 generalize cutT c s=res at *
 ((conv=>whnf);repeat((first|refine aF ?_|refine aT ?_);(first|refine rG Γ hm ?_|refine rD Γ hm y_ ?_);conv=>whnf))
 refine c0 q F233 ?_
 ((first|refine rG Γ hm ?_|refine rD Γ hm y_ ?_);(conv=>whnf);repeat((first|refine aF ?_|refine aT ?_);(first|refine rG Γ hm ?_|refine rD Γ hm y_ ?_);conv=>whnf))
 exact dN
def Ei (l:List UInt8):Int:=l.foldl (fun n c=>10 * n+((c.toNat:Int)-48)) 0
def Mb (s:ByteArray):Bool:=s.data.toList.head? == some 45
def Ew (s:ByteArray):List UInt8:=if Mb s=true then s.data.toList.drop 1 else s.data.toList
def numV (s:ByteArray):Int:=if Mb s=true then 0-Ei (Ew s) else Ei (Ew s)
def numR (s:ByteArray) (lo hi:Int):Int × Bool :=
 if (Ew s).length<1∨10<(Ew s).length then (0,false) else if (Ew s).all Cc=false then (0,false)
 else if numV s<lo∨hi<numV s then (0,false) else if (Al (numV s) == s)=true then (numV s,true) else (0,false)
theorem Hn (l:List UInt8) (c:UInt8):Ei (l++[c])=10 * Ei l+((c.toNat:Int)-48):=by
 rw[Ei,List.foldl_append];rfl
theorem Ac7:∀ (k:Nat) (l:List UInt8),l.length=k→(∀ c∈l,Cc c=true)→0≤Ei l∧Ei l<10 ^ k
 | 0,l,hl,_=>by
  rw[List.length_eq_zero_iff.1 hl]
  exact⟨Int.le_refl _,by decide⟩
 | k+1,l,hl,h=>by
  have hne:l≠[]:=fun e=>by rw[e]at hl;cases hl
  have e:=List.dropLast_concat_getLast hne
  have h1:=Ac7 k l.dropLast (by rw[List.length_dropLast];omega) fun c hc=>h c (List.dropLast_subset l hc)
  have h2:=h _ (List.getLast_mem hne)
  simp only[Cc,Bool.and_eq_true,decide_eq_true_eq]at h2
  rw[← e,Hn,Int.pow_succ]
  omega
theorem Xx {l:List UInt8} (hl:l.length≤10) (h:∀ c∈l,Cc c=true):0≤Ei l∧Ei l<10000000000:=by
 have h1:=Ac7 _ l rfl h
 refine⟨h1.1,Int.lt_of_lt_of_le h1.2 ?_⟩
 have h2:(10:Nat) ^ l.length≤10 ^ 10:=Nat.pow_le_pow_right qe hl
 have h3:((10:Nat) ^ l.length:Int)≤((10 ^ 10:Nat):Int):=by exact_mod_cast h2
 simpa using h3
theorem Afn (s:ByteArray):Lib.trimPrefix s.data.toList [45]=Ew s:=by
 unfold Lib.trimPrefix Ew Mb
 cases s.data.toList with
 | nil=>simp[Lib.hasPrefix]
 | cons c l =>
  by_cases hc:c=45
  ·subst hc;simp[Lib.hasPrefix]
  ·simp[Lib.hasPrefix,hc,Ne.symm hc]
theorem Dj {s:ByteArray} {i:Nat} (h:i<s.data.toList.length):Ad s i=s.data.toList[i]:=by
 rw[Ad,List.getD_eq_getElem?_getD,List.getElem?_eq_getElem h];rfl
theorem S6 {α:Type} {p:α→Bool} {l:List α} {j:Nat} (hI:J1 (fun _ x=>p x) l j):∀ c∈l.take j,p c=true:=by
 intro c hc
 obtain ⟨i,hi,rfl⟩:=List.mem_iff_getElem.1 hc
 rw[List.length_take]at hi
 rw[List.getElem_take]
 exact hI i j_ j_
theorem D9 {α:Type} {p:α→Bool} {l:List α} {j:Nat} (hI:J1 (fun _ x=>p x) l j) (hj:l.length≤j):l.all p=true:=by
 rw[List.all_eq_true]
 intro x hx
 obtain ⟨i,hi,rfl⟩:=List.mem_iff_getElem.1 hx
 exact hI i hi j_
theorem all_at' {α:Type} {p:α→Bool} {l:List α} {j:Nat} (hj:j<l.length) (h:p l[j]=false):l.all p=false:=by
 cases ha:l.all p
 ·rfl
 ·rw[List.all_eq_true]at ha
  rw[ha _ (List.getElem_mem hj)]at h;cases h
theorem u8_sub2 {c:UInt8} (h:Cc c=true):IntKind.i64.wrap (IntKind.u8.wrap ((c.toNat:Int)-48))=(c.toNat:Int)-48:=by
 simp only[Cc,Bool.and_eq_true,decide_eq_true_eq]at h
 rw[IntKind.wrap_u8,IntKind.wrap_i64];omega
theorem neg_digs {s:ByteArray} (h:Mb s=true):(Ew s).length+1=s.size∧∀ j,j<(Ew s).length→Ad s (1+j)=(Ew s).getD j 0:=by
 have hsz:s.data.toList.length=s.size:=rfl
 rw[Ew,if_pos h]
 rw[Mb]at h
 cases hd:s.data.toList with
 | nil=>rw[hd]at h;cases h
 | cons c l =>
  rw[hd]at hsz
  refine⟨by simp at hsz ⊢;omega,fun j hj=>?_⟩
  rw[Ad,hd,Nat.add_comm]
  rfl
theorem pos_digs {s:ByteArray} (h:Mb s=false):(Ew s).length=s.size∧∀ j,j<(Ew s).length→Ad s j=(Ew s).getD j 0:=by
 rw[Ew,if_neg (by simp[h])]
 exact⟨q_,fun j hj=>rfl⟩
theorem Y9 (s:ByteArray) (lo hi:Int):Sy.Spec Tryz.prog 236 [Ab s,Aa lo,Aa hi] [] (.tup [Aa (numR s lo hi).1,Af (numR s lo hi).2]) []:=cT F236 Tryz.ntmps236 fun F hF=>by
 have hres:=numR.eq_1 s lo hi
 generalize numR s lo hi=res at *
 have q:=Tc s ⟨#[45]⟩
 rw[show (⟨#[45]⟩:ByteArray).data.toList=[45] from rfl,Afn]at q
 have hnv:=numV.eq_1 s
 have hng:=@neg_digs s
 have hps:=@pos_digs s
 generalize numV s=nv at *
 generalize hD:Ew s=D at *
 have hDs:(mkT D).size=D.length:=Ax D
 ((conv=>whnf);repeat((first|refine aF ?_|refine aT ?_);(first|refine rG Γ hm ?_|refine rD Γ hm y_ ?_);conv=>whnf))
 refine c0 q F289 ?_
 by_cases h1:D.length<1∨10<D.length
 ·rw[if_pos h1]at hres
  subst hres
  ((first|refine rG Γ hm ?_|refine rD Γ hm y_ ?_);(conv=>whnf);repeat((first|refine aF ?_|refine aT ?_);(first|refine rG Γ hm ?_|refine rD Γ hm y_ ?_);conv=>whnf))
  refine⟨fun h=>?_,fun h=>?_⟩
  ·((first|refine rG Γ hm ?_|refine rD Γ hm y_ ?_);(conv=>whnf);repeat((first|refine aF ?_|refine aT ?_);(first|refine rG Γ hm ?_|refine rD Γ hm y_ ?_);conv=>whnf))
   exact dN
  ·have h2:1≤D.length:=by
    cases D with
    | nil=>exact absurd (show (mkT [] == (⟨#[]⟩:ByteArray))=true from rfl) (by rw[show (mkT [] == (⟨#[]⟩:ByteArray))=false from h];simp)
    | cons=>simp
   ((first|refine rG Γ hm ?_|refine rD Γ hm y_ ?_);(conv=>whnf);repeat((first|refine aF ?_|refine aT ?_);(first|refine rG Γ hm ?_|refine rD Γ hm y_ ?_);conv=>whnf))
   refine⟨fun h=>?_,fun h=>?_⟩
   ·((first|refine rG Γ hm ?_|refine rD Γ hm y_ ?_);(conv=>whnf);repeat((first|refine aF ?_|refine aT ?_);(first|refine rG Γ hm ?_|refine rD Γ hm y_ ?_);conv=>whnf))
    exact dN
   ·exact absurd (of_decide_eq_false h) j_
 rw[if_neg h1]at hres
 have hne:(mkT D == (⟨#[]⟩:ByteArray))=false:=by
  cases he:(mkT D == (⟨#[]⟩:ByteArray))
  ·rfl
  ·have e:(mkT D).data=(⟨#[]⟩:ByteArray).data:=by simpa using (show ((mkT D).data == (⟨#[]⟩:ByteArray).data)=true from he)
   have:=congrArg Array.size e
   have e2:(mkT D).data.size=D.length:=hDs
   rw[e2]at this
   have e3:(⟨#[]⟩:ByteArray).data.size=0:=rfl
   omega
 ((first|refine rG Γ hm ?_|refine rD Γ hm y_ ?_);(conv=>whnf);repeat((first|refine aF ?_|refine aT ?_);(first|refine rG Γ hm ?_|refine rD Γ hm y_ ?_);conv=>whnf))
 refine⟨fun h=>absurd h (by rw[hne];simp),fun _=>?_⟩
 ((first|refine rG Γ hm ?_|refine rD Γ hm y_ ?_);(conv=>whnf);repeat((first|refine aF ?_|refine aT ?_);(first|refine rG Γ hm ?_|refine rD Γ hm y_ ?_);conv=>whnf))
 refine⟨fun h=>absurd (of_decide_eq_true h) j_,fun _=>?_⟩
 ((first|refine rG Γ hm ?_|refine rD Γ hm y_ ?_);(conv=>whnf);repeat((first|refine aF ?_|refine aT ?_);(first|refine rG Γ hm ?_|refine rD Γ hm y_ ?_);conv=>whnf))
 refine B3 D.length (fun j=>J1 (fun _ c=>Cc c) D j) (fun j=>[(0,Ab s),(1,Aa lo),(2,Aa hi),(8,Ab (mkT D)),(9,Aa (Ei (D.take j))),(21,Aa D.length),(22,Aa j)]) (fun _=>[]) [] (Cz _ _)
  ⟨⟨rfl,rfl,rfl,rfl,rfl,rfl,rfl,rfl,rfl,rfl,congrArg (fun z:Nat=>SV.val (.int .i64 z)) hDs.symm,rfl,rfl,rfl,trivial⟩,trivial,rfl,rfl⟩ ?_
 intro j hj hI
 have hv:=Xx (l:=D.take j) (by rw[List.length_take];omega) (S6 hI)
 ((first|refine rG Γ hm ?_|refine rD Γ hm y_ ?_);(conv=>whnf);repeat((first|refine aF ?_|refine aT ?_);(first|refine rG Γ hm ?_|refine rD Γ hm y_ ?_);conv=>whnf))
 refine⟨fun h=>?_,fun h=>?_⟩
 ·have hlt:j<D.length:=qA h
  have hb:Ad (mkT D) ((j:Nat):Int).toNat=D[j]:=by
   have:j<(mkT D).data.toList.length:=by rw[A2];exact hlt
   rw[Int.toNat_natCast,Dj this];simp[mkT]
  have hno:=fun h=>@all_at' _ Cc D j hlt h
  have hnx:=fun h=>Ce (p:=fun _ c=>Cc c) hI hlt h
  have hsucc:Ei (D.take (j+1))=10 * Ei (D.take j)+((D[j].toNat:Int)-48):=by rw[List.take_succ_eq_append_getElem hlt,Hn]
  have hu:=@u8_sub2 D[j]
  generalize D[j]=c at *
  generalize Ei (D.take j)=v at *
  have hc2:=c.toNat_lt
  ((first|refine rG Γ hm ?_|refine rD Γ hm y_ ?_);(conv=>whnf);repeat((first|refine aF ?_|refine aT ?_);(first|refine rG Γ hm ?_|refine rD Γ hm y_ ?_);conv=>whnf))
  refine⟨by omega,by omega,?_⟩
  rw[hb]
  ((conv=>whnf);repeat((first|refine aF ?_|refine aT ?_);(first|refine rG Γ hm ?_|refine rD Γ hm y_ ?_);conv=>whnf))
  refine⟨fun h2=>?_,fun h2=>?_⟩
  ·have h3:c.toNat<48:=by have:=of_decide_eq_true h2;omega
   rw[if_pos (hno (by rw[Cc,decide_eq_false j_];rfl))]at hres
   subst hres
   ((first|refine rG Γ hm ?_|refine rD Γ hm y_ ?_);(conv=>whnf);repeat((first|refine aF ?_|refine aT ?_);(first|refine rG Γ hm ?_|refine rD Γ hm y_ ?_);conv=>whnf))
   exact dN
  have h2:=of_decide_eq_false h2
  ((first|refine rG Γ hm ?_|refine rD Γ hm y_ ?_);(conv=>whnf);repeat((first|refine aF ?_|refine aT ?_);(first|refine rG Γ hm ?_|refine rD Γ hm y_ ?_);conv=>whnf))
  refine⟨by omega,by omega,?_⟩
  rw[hb]
  ((conv=>whnf);repeat((first|refine aF ?_|refine aT ?_);(first|refine rG Γ hm ?_|refine rD Γ hm y_ ?_);conv=>whnf))
  refine⟨fun h3=>?_,fun h3=>?_⟩
  ·have h3:57<c.toNat:=by have:=of_decide_eq_true h3;omega
   rw[if_pos (hno (by rw[Cc,decide_eq_false (by omega:¬ c.toNat≤57),Bool.and_false]))]at hres
   subst hres
   ((first|refine rG Γ hm ?_|refine rD Γ hm y_ ?_);(conv=>whnf);repeat((first|refine aF ?_|refine aT ?_);(first|refine rG Γ hm ?_|refine rD Γ hm y_ ?_);conv=>whnf))
   exact dN
  have h3:=of_decide_eq_false h3
  have hdg:Cc c=true:=by rw[Cc,decide_eq_true j_,decide_eq_true j_];rfl
  have hu:=hu hdg
  ((first|refine rG Γ hm ?_|refine rD Γ hm y_ ?_);(conv=>whnf);repeat((first|refine aF ?_|refine aT ?_);(first|refine rG Γ hm ?_|refine rD Γ hm y_ ?_);conv=>whnf))
  refine⟨by show I64 (10 * v);unfold I64;omega,?_⟩
  ((conv=>whnf);repeat((first|refine aF ?_|refine aT ?_);(first|refine rG Γ hm ?_|refine rD Γ hm y_ ?_);conv=>whnf))
  refine⟨by omega,by omega,?_⟩
  rw[hb]
  ((conv=>whnf);repeat((first|refine aF ?_|refine aT ?_);(first|refine rG Γ hm ?_|refine rD Γ hm y_ ?_);conv=>whnf))
  rw[hu]
  refine⟨by show I64 (10 * v+((c.toNat:Int)-48));unfold I64;omega,?_⟩
  ((conv=>whnf);repeat((first|refine aF ?_|refine aT ?_);(first|refine rG Γ hm ?_|refine rD Γ hm y_ ?_);conv=>whnf))
  refine iL ?_
  ((conv=>whnf);repeat((first|refine aF ?_|refine aT ?_);(first|refine rG Γ hm ?_|refine rD Γ hm y_ ?_);conv=>whnf))
  exact B5 [] hI j_ (hnx hdg) ⟨⟨q_,q_,q_,q_,q_,q_,q_,q_,congrArg Aa hsucc,q_,q_,q_,q_,q_,z_⟩,z_,q_,q_⟩
 ·have hje:j=D.length:=qB h
  subst hje
  rw[if_neg (by rw[D9 hI (Nat.le_refl _)];simp)]at hres
  rw[List.take_length]at hv ⊢
  have fin:∀ nv:Int,nv=(if Mb s=true then 0-Ei D else Ei D)→(-10000000000<nv∧nv<10000000000)∧Dq nv:=fun nv h=>by
   unfold Dq
   split at h<;>omega
  have fn:=fin nv hnv
  have q2:=Bi nv fn.2
  have hs2:((mkT D).size:Int)=D.length:=by rw[hDs]
  cases hn:Mb s
  ·rw[hn,if_neg qf]at hnv
   have h4:=(hps hn).1
   rw[← hnv]
   ((first|refine rG Γ hm ?_|refine rD Γ hm y_ ?_);(conv=>whnf);repeat((first|refine aF ?_|refine aT ?_);(first|refine rG Γ hm ?_|refine rD Γ hm y_ ?_);conv=>whnf))
   refine⟨fun h=>absurd (of_decide_eq_true h) j_,fun _=>?_⟩
   ((first|refine rG Γ hm ?_|refine rD Γ hm y_ ?_);(conv=>whnf);repeat((first|refine aF ?_|refine aT ?_);(first|refine rG Γ hm ?_|refine rD Γ hm y_ ?_);conv=>whnf))
   refine⟨fun h=>?_,fun h=>?_⟩
   ·rw[if_pos (.inl (of_decide_eq_true h))]at hres
    subst hres
    ((first|refine rG Γ hm ?_|refine rD Γ hm y_ ?_);(conv=>whnf);repeat((first|refine aF ?_|refine aT ?_);(first|refine rG Γ hm ?_|refine rD Γ hm y_ ?_);conv=>whnf))
    exact dN
   have h5:=of_decide_eq_false h
   ((first|refine rG Γ hm ?_|refine rD Γ hm y_ ?_);(conv=>whnf);repeat((first|refine aF ?_|refine aT ?_);(first|refine rG Γ hm ?_|refine rD Γ hm y_ ?_);conv=>whnf))
   refine⟨fun h=>?_,fun h=>?_⟩
   ·rw[if_pos (.inr (of_decide_eq_true h))]at hres
    subst hres
    ((first|refine rG Γ hm ?_|refine rD Γ hm y_ ?_);(conv=>whnf);repeat((first|refine aF ?_|refine aT ?_);(first|refine rG Γ hm ?_|refine rD Γ hm y_ ?_);conv=>whnf))
    exact dN
   have h6:=of_decide_eq_false h
   rw[if_neg j_]at hres
   ((first|refine rG Γ hm ?_|refine rD Γ hm y_ ?_);(conv=>whnf);repeat((first|refine aF ?_|refine aT ?_);(first|refine rG Γ hm ?_|refine rD Γ hm y_ ?_);conv=>whnf))
   refine c0 q2 F247 ?_
   cases he:(Al nv == s)
   ·rw[he,if_neg qf]at hres
    subst hres
    ((first|refine rG Γ hm ?_|refine rD Γ hm y_ ?_);(conv=>whnf);repeat((first|refine aF ?_|refine aT ?_);(first|refine rG Γ hm ?_|refine rD Γ hm y_ ?_);conv=>whnf))
    refine⟨fun _=>?_,fun h=>absurd h (by rw[he];simp)⟩
    ((first|refine rG Γ hm ?_|refine rD Γ hm y_ ?_);(conv=>whnf);repeat((first|refine aF ?_|refine aT ?_);(first|refine rG Γ hm ?_|refine rD Γ hm y_ ?_);conv=>whnf))
    exact dN
   ·rw[he,if_pos rfl]at hres
    subst hres
    ((first|refine rG Γ hm ?_|refine rD Γ hm y_ ?_);(conv=>whnf);repeat((first|refine aF ?_|refine aT ?_);(first|refine rG Γ hm ?_|refine rD Γ hm y_ ?_);conv=>whnf))
    refine⟨fun h=>absurd h (by rw[he];simp),fun _=>?_⟩
    ((first|refine rG Γ hm ?_|refine rD Γ hm y_ ?_);(conv=>whnf);repeat((first|refine aF ?_|refine aT ?_);(first|refine rG Γ hm ?_|refine rD Γ hm y_ ?_);conv=>whnf))
    exact dN
  ·rw[hn,if_pos rfl]at hnv
   have h4:=(hng hn).1
   have hw:IntKind.i64.wrap (0-Ei D)=nv:=by rw[IntKind.wrap_i64];omega
   ((first|refine rG Γ hm ?_|refine rD Γ hm y_ ?_);(conv=>whnf);repeat((first|refine aF ?_|refine aT ?_);(first|refine rG Γ hm ?_|refine rD Γ hm y_ ?_);conv=>whnf))
   refine⟨fun _=>?_,fun h=>absurd (of_decide_eq_false h) j_⟩
   ((first|refine rG Γ hm ?_|refine rD Γ hm y_ ?_);(conv=>whnf);repeat((first|refine aF ?_|refine aT ?_);(first|refine rG Γ hm ?_|refine rD Γ hm y_ ?_);conv=>whnf))
   rw[hw]
   refine⟨fun h=>?_,fun h=>?_⟩
   ·rw[if_pos (.inl (of_decide_eq_true h))]at hres
    subst hres
    ((first|refine rG Γ hm ?_|refine rD Γ hm y_ ?_);(conv=>whnf);repeat((first|refine aF ?_|refine aT ?_);(first|refine rG Γ hm ?_|refine rD Γ hm y_ ?_);conv=>whnf))
    exact dN
   have h5:=of_decide_eq_false h
   ((first|refine rG Γ hm ?_|refine rD Γ hm y_ ?_);(conv=>whnf);repeat((first|refine aF ?_|refine aT ?_);(first|refine rG Γ hm ?_|refine rD Γ hm y_ ?_);conv=>whnf))
   refine⟨fun h=>?_,fun h=>?_⟩
   ·rw[if_pos (.inr (of_decide_eq_true h))]at hres
    subst hres
    ((first|refine rG Γ hm ?_|refine rD Γ hm y_ ?_);(conv=>whnf);repeat((first|refine aF ?_|refine aT ?_);(first|refine rG Γ hm ?_|refine rD Γ hm y_ ?_);conv=>whnf))
    exact dN
   have h6:=of_decide_eq_false h
   rw[if_neg j_]at hres
   ((first|refine rG Γ hm ?_|refine rD Γ hm y_ ?_);(conv=>whnf);repeat((first|refine aF ?_|refine aT ?_);(first|refine rG Γ hm ?_|refine rD Γ hm y_ ?_);conv=>whnf))
   refine c0 q2 F247 ?_
   cases he:(Al nv == s)
   ·rw[he,if_neg qf]at hres
    subst hres
    ((first|refine rG Γ hm ?_|refine rD Γ hm y_ ?_);(conv=>whnf);repeat((first|refine aF ?_|refine aT ?_);(first|refine rG Γ hm ?_|refine rD Γ hm y_ ?_);conv=>whnf))
    refine⟨fun _=>?_,fun h=>absurd h (by rw[he];simp)⟩
    ((first|refine rG Γ hm ?_|refine rD Γ hm y_ ?_);(conv=>whnf);repeat((first|refine aF ?_|refine aT ?_);(first|refine rG Γ hm ?_|refine rD Γ hm y_ ?_);conv=>whnf))
    exact dN
   ·rw[he,if_pos rfl]at hres
    subst hres
    ((first|refine rG Γ hm ?_|refine rD Γ hm y_ ?_);(conv=>whnf);repeat((first|refine aF ?_|refine aT ?_);(first|refine rG Γ hm ?_|refine rD Γ hm y_ ?_);conv=>whnf))
    refine⟨fun h=>absurd h (by rw[he];simp),fun _=>?_⟩
    ((first|refine rG Γ hm ?_|refine rD Γ hm y_ ?_);(conv=>whnf);repeat((first|refine aF ?_|refine aT ?_);(first|refine rG Γ hm ?_|refine rD Γ hm y_ ?_);conv=>whnf))
    exact dN
theorem Ha:∀ (l:List UInt8) (c:UInt8),-1≤Lib.indexByte l c
 | [],_=>by simp[Lib.indexByte]
 | b::l,c=>by
  unfold Lib.indexByte
  have:=Ha l c
  split
  ·omega
  split
  ·omega
  ·omega
def Cm:List UInt8→List UInt8→List ByteArray
 | cur,[]=>if cur=[] then [] else [mkT cur]
 | cur,c::r=>if c=10 then mkT cur::Cm [] r else Cm (cur++[c]) r
def rowsT (b:List UInt8):List ByteArray × Int :=
 if 20000<b.length then ([],3) else if 400<(Cm [] b).length then ([],3) else (Cm [] b,0)
theorem Qx:∀ (l cur:List UInt8),Lib.indexByte l 10=-1→Cm cur l=if cur++l=[] then [] else [mkT (cur++l)]
 | [],cur,_=>by rw[Cm,List.append_nil]
 | c::l,cur,h=>by
  unfold Lib.indexByte at h
  by_cases hc:(c == 10)=true
  ·rw[if_pos hc]at h;omega
  rw[if_neg hc]at h
  have hi:Lib.indexByte l 10=-1:=by
   by_cases h1:(Lib.indexByte l 10 == -1)=true
   ·simpa using h1
   ·rw[if_neg h1]at h
    have:=Ha l 10
    omega
  rw[Cm,if_neg (by simpa using hc),Qx l _ hi]
  simp
theorem Qw:∀ (l cur:List UInt8),0≤Lib.indexByte l 10→Cm cur l=mkT (cur++l.take (Lib.indexByte l 10).toNat)::Cm [] (l.drop ((Lib.indexByte l 10).toNat+1))
 | [],cur,h=>by simp[Lib.indexByte]at h
 | c::l,cur,h=>by
  unfold Lib.indexByte at h ⊢
  by_cases hc:(c == 10)=true
  ·rw[if_pos hc,Cm,if_pos (by simpa using hc)]
   simp
  rw[if_neg hc]at h ⊢
  by_cases h1:(Lib.indexByte l 10 == -1)=true
  ·rw[if_pos h1]at h;omega
  rw[if_neg h1]at h ⊢
  have:=Ha l 10
  have h2:0≤Lib.indexByte l 10:=by
   have h3:Lib.indexByte l 10≠-1:=by simpa using h1
   omega
  have e:(Lib.indexByte l 10+1).toNat=(Lib.indexByte l 10).toNat+1:=by omega
  rw[Cm,if_neg (by simpa using hc),Qw l _ h2,e]
  simp
theorem Aa7 {l:List UInt8} (h:l≠[]):Cm [] l=(cutT 10 (mkT l)).1::Cm [] (cutT 10 (mkT l)).2.1.data.toList∧(cutT 10 (mkT l)).2.1.data.toList.length<l.length:=by
 have hpos:=List.length_pos_iff.2 h
 have hlt:=Jq l 10
 have hge:=Ha l 10
 have e0:(mkT l).size=l.length:=Ax l
 rw[cutT,A2]
 split
 ·rename_i h0
  dsimp only
  rw[Qw l [] h0,Bu,Bu,A2,e0,List.take_length]
  refine⟨q_,?_⟩
  rw[List.length_drop]
  omega
 ·rename_i h0
  dsimp only
  rw[Qx l [] j_,List.nil_append,if_neg h]
  exact⟨q_,hpos⟩
theorem Aen (l:List UInt8):(mkT l == ⟨#[]⟩)=decide (l=[]):=by
 cases l with
 | nil=>rfl
 | cons c l =>
  rw[decide_eq_false qf]
  cases he:(mkT (c::l) == (⟨#[]⟩:ByteArray))
  ·rfl
  ·have e:(mkT (c::l)).data=(⟨#[]⟩:ByteArray).data:=by simpa using (show ((mkT (c::l)).data == (⟨#[]⟩:ByteArray).data)=true from he)
   have:=congrArg Array.size e
   simp[mkT]at this
theorem Aet (b:List UInt8) (hb:b.length≤1000000):Sy.Spec Tryz.prog 109 [.sl 1 Ak b] [] (.tup [.sl 1 Ab (rowsT b).1,Aa (rowsT b).2]) []:=cT F109 Tryz.ntmps109 fun F hF=>by
 have hres:=rowsT.eq_1 b
 generalize rowsT b=res at *
 ((conv=>whnf);repeat((first|refine aF ?_|refine aT ?_);(first|refine rG Γ hm ?_|refine rD Γ hm y_ ?_);conv=>whnf))
 refine⟨fun h=>?_,fun h=>?_⟩
 ·rw[if_pos (qA h)]at hres
  subst hres
  ((first|refine rG Γ hm ?_|refine rD Γ hm y_ ?_);(conv=>whnf);repeat((first|refine aF ?_|refine aT ?_);(first|refine rG Γ hm ?_|refine rD Γ hm y_ ?_);conv=>whnf))
  refine Bm 2 1 Ab q_ ?_
  ((first|refine rG Γ hm ?_|refine rD Γ hm y_ ?_);(conv=>whnf);repeat((first|refine aF ?_|refine aT ?_);(first|refine rG Γ hm ?_|refine rD Γ hm y_ ?_);conv=>whnf))
  exact dN
 rw[if_neg (qB h)]at hres
 ((first|refine rG Γ hm ?_|refine rD Γ hm y_ ?_);(conv=>whnf);repeat((first|refine aF ?_|refine aT ?_);(first|refine rG Γ hm ?_|refine rD Γ hm y_ ?_);conv=>whnf))
 refine Cq (Bk Γ.toTy (bs:=b) q_ q_ q_ q_ q_ q_ q_ .sl) q_ q_ ?_
 refine Ct 4 1000 1 Ab q_ q_ ?_
 ((first|refine rG Γ hm ?_|refine rD Γ hm y_ ?_);(conv=>whnf);repeat((first|refine aF ?_|refine aT ?_);(first|refine rG Γ hm ?_|refine rD Γ hm y_ ?_);conv=>whnf))
 refine Av (fun x:List ByteArray × List UInt8=>Cm [] b=x.1++Cm [] x.2∧x.1.length+x.2.length≤b.length) (fun x=>[(4,.osl 1000),(5,Ab (mkT x.2))]) (fun x=>[(1000,.row 1 Ab x.1)]) (fun x=>x.2.length) ([],b) [] ⟨q_,by simp⟩
  ⟨⟨rfl,rfl,rfl,rfl,trivial⟩,⟨.inl rfl,rfl,trivial⟩,rfl,rfl⟩ ?_
 rintro ⟨out,rest⟩ ⟨hI,hlen⟩
 dsimp only at hI hlen ⊢
 have hemp:=Aen rest
 ((first|refine rG Γ hm ?_|refine rD Γ hm y_ ?_);(conv=>whnf);repeat((first|refine aF ?_|refine aT ?_);(first|refine rG Γ hm ?_|refine rD Γ hm y_ ?_);conv=>whnf))
 by_cases hr:rest=[]
 ·rw[decide_eq_true hr]at hemp
  refine⟨fun h=>absurd h (by rw[hemp];simp),fun _=>?_⟩
  have hro:Cm [] b=out:=by rw[hI,hr];simp[Cm]
  rw[hro]at hres
  ((first|refine rG Γ hm ?_|refine rD Γ hm y_ ?_);(conv=>whnf);repeat((first|refine aF ?_|refine aT ?_);(first|refine rG Γ hm ?_|refine rD Γ hm y_ ?_);conv=>whnf))
  refine⟨fun h=>?_,fun h=>?_⟩
  ·rw[if_pos (qA h)]at hres
   subst hres
   ((first|refine rG Γ hm ?_|refine rD Γ hm y_ ?_);(conv=>whnf);repeat((first|refine aF ?_|refine aT ?_);(first|refine rG Γ hm ?_|refine rD Γ hm y_ ?_);conv=>whnf))
   refine Bm 2 1 Ab q_ ?_
   ((first|refine rG Γ hm ?_|refine rD Γ hm y_ ?_);(conv=>whnf);repeat((first|refine aF ?_|refine aT ?_);(first|refine rG Γ hm ?_|refine rD Γ hm y_ ?_);conv=>whnf))
   exact dN
  ·rw[if_neg (qB h)]at hres
   subst hres
   refine A5 1000 q_ ?_
   ((first|refine rG Γ hm ?_|refine rD Γ hm y_ ?_);(conv=>whnf);repeat((first|refine aF ?_|refine aT ?_);(first|refine rG Γ hm ?_|refine rD Γ hm y_ ?_);conv=>whnf))
   exact dN
 ·rw[decide_eq_false hr]at hemp
  refine⟨fun _=>?_,fun h=>absurd h (by rw[hemp];simp)⟩
  obtain ⟨hc,hlt⟩:=Aa7 hr
  have q:=Sx (mkT rest) 10 (by rw[Ax];omega)
  obtain ⟨⟨row,rs,more⟩,hct⟩:∃ p,cutT 10 (mkT rest)=p:=⟨_,rfl⟩
  rw[hct]at q hc hlt
  dsimp only at q hc hlt
  have hrz:rs.data.toList.length=rs.size:=rfl
  ((first|refine rG Γ hm ?_|refine rD Γ hm y_ ?_);(conv=>whnf);repeat((first|refine aF ?_|refine aT ?_);(first|refine rG Γ hm ?_|refine rD Γ hm y_ ?_);conv=>whnf))
  refine c0 q F176 ?_
  ((first|refine rG Γ hm ?_|refine rD Γ hm y_ ?_);(conv=>whnf);repeat((first|refine aF ?_|refine aT ?_);(first|refine rG Γ hm ?_|refine rD Γ hm y_ ?_);conv=>whnf))
  refine Cq (Ai Γ.toTy 23 q_ q_ q_ q_ q_ (.row q_) (.lit (e:=Ab) (l:=[row]) q_ q_) qf (by simp;omega) (by simp;omega)) q_ q_ ?_
  ((first|refine rG Γ hm ?_|refine rD Γ hm y_ ?_);(conv=>whnf);repeat((first|refine aF ?_|refine aT ?_);(first|refine rG Γ hm ?_|refine rD Γ hm y_ ?_);conv=>whnf))
  refine Ag (out++[row],rs.data.toList) [(1000,23)] ⟨by rw[hI,hc];simp,by simp;omega⟩ (by dsimp only;omega) ⟨⟨q_,q_,congrArg Ab (Bt rs),q_,z_⟩,⟨.inl q_,q_,z_⟩,q_,q_⟩
end Go.Sy.YtgblchnfjbkipaaGreatDoor
namespace Go.Sy.YtgblchnfjbkipaaGreatDoor
open Go.Proofs
attribute [local irreducible] Go.Sy.G Go.Sy.DR
set_option maxRecDepth 20000
set_option maxHeartbeats 4000000
mutual
theorem Ek {K:List Nat}:∀ x:SV,x.inn []=true→x.inn K=true
 | .ptr _ _,h=>by simp[SV.inn,Jp]at h
 | .rpt _ _ _ _,h=>by simp[SV.inn,Jp]at h
 | .osl _,h=>by simp[SV.inn,Jp]at h
 | .agg l,h=>by simp only[SV.inn]at h ⊢;exact Ks l h
 | .tup l,h=>by simp only[SV.inn]at h ⊢;exact Ks l h
 | .ifc _ x,h=>by simp only[SV.inn]at h ⊢;exact Ek x h
 | .clo _ f l,h=>by simp only[SV.inn,Bool.and_eq_true]at h ⊢;exact⟨Ks f h.1,Ks l h.2⟩
 | .top,_=>rfl
 | .val _,_=>rfl
 | .sl _ _ _,_=>rfl
 | .ref _ _ _,_=>rfl
theorem Ks {K:List Nat}:∀ l:List SV,Cg [] l=true→Cg K l=true
 | [],_=>rfl
 | x::l,h=>by simp only[Cg,Bool.and_eq_true]at h ⊢;exact⟨Ek x h.1,Ks l h.2⟩
end
end Go.Sy.YtgblchnfjbkipaaGreatDoor
namespace Go.Sy.YtgblchnfjbkipaaGreatDoor
theorem G_vw {C:Cx} {k:List KI} {s:SS} (d:Nat) (x:SV) (h:Vw s [] (s.σ d) x) (hg:G C k ⟨upd s.σ d x,s.h⟩):G C k s:=fun κ a w hs =>
 hg κ a w ⟨hs.defers,hs.size,hs.inv,hs.ctx,fun i=>by
  show Rd κ w (upd s.σ d x i) _
  by_cases hi:i=d
  ·subst hi;rw[Cd];exact Vw.rd hs.inv (fun _ hn=>by cases hn) h (hs.slot i)
  ·rw[C6 _ _ hi];exact hs.slot i,hs.obj⟩
end Go.Sy.YtgblchnfjbkipaaGreatDoor
namespace Go.Sy.YtgblchnfjbkipaaGreatDoor
open Go.Proofs
attribute [local irreducible] Go.Sy.G Go.Sy.DR
set_option maxRecDepth 100000
set_option maxHeartbeats 4000000
def Bf (d:UInt8):List UInt8→List UInt8→List ByteArray
 | cur,[]=>[mkT cur]
 | cur,c::r=>if c=d then mkT cur::Bf d [] r else Bf d (cur++[c]) r
theorem E3 (d:UInt8):∀ (l cur:List UInt8),d∉l→Bf d cur l=[mkT (cur++l)]
 | [],cur,_=>by rw[Bf,List.append_nil]
 | c::l,cur,h=>by
  simp only[List.mem_cons,not_or]at h
  rw[Bf,if_neg (Ne.symm h.1),E3 d l _ h.2]
  simp
theorem Jh (d:UInt8):∀ (l cur:List UInt8),d∈l→Bf d cur l=mkT (cur++l.take (Hl d l))::Bf d [] (l.drop (Hl d l+1))
 | [],cur,h=>by simp at h
 | c::l,cur,h=>by
  by_cases hc:c=d
  ·subst hc
   rw[Bf,if_pos rfl,Hl]
   simp[Lib.indexByte]
  ·have h2:d∈l:=by
    simp only[List.mem_cons]at h
    exact h.resolve_left (Ne.symm hc)
   have h3:=(Ev h2).1
   have e:Hl d (c::l)=Hl d l+1:=by
    have e1:Lib.indexByte (c::l) d=Lib.indexByte l d+1:=by
     rw[Lib.indexByte.eq_def]
     dsimp only
     rw[if_neg (by simpa using hc),if_neg (by simp;omega)]
    rw[Hl,Hl,e1]
    omega
   rw[Bf,if_neg hc,Jh d l _ h2,e]
   simp
theorem Kj (d:UInt8) (l:List UInt8):∀ j,Bz d l (j+1)=Bz d (l.drop (Hl d l+1)) j
 | 0=>rfl
 | j+1=>by
  rw[Bz,Kj d l j]
  rfl
theorem Vc (d:UInt8):∀ (k:Nat) (l:List UInt8),l.length≤k→Au d (mkT l)=Bf d [] l
 | 0,l,h=>by
  rw[List.length_eq_zero_iff.1 (by omega:l.length=0)]
  simp[Au,Bf,Bz,mkT]
 | k+1,l,h=>by
  by_cases hd:d∈l
  ·have h1:=Jv hd
   have h2:=(Ev hd).2
   have h3:(l.drop (Hl d l+1)).length≤k:=by rw[List.length_drop];omega
   rw[Jh d l [] hd,← Vc d k _ h3]
   simp only[Au,A2]
   rw[← h1,List.range_succ_eq_map,List.map_cons,List.map_map,List.cons_append,List.nil_append,Kj]
   congr 2
   apply List.map_congr_left
   intro j _
   show mkT (Kk d l (j+1))=_
   rw[Kk,Kk,Kj]
  ·have h1:l.count d=0:=List.count_eq_zero.2 hd
   rw[E3 d l [] hd]
   simp[Au,A2,h1,Bz]
theorem Hh (d:UInt8) (s:ByteArray):Au d s=Bf d [] s.data.toList:=by
 rw[← Vc d _ _ (Nat.le_refl _),Bt]
def digI (c:UInt8):Int:=if 48≤c.toNat∧c.toNat≤57 then (c.toNat:Int)-48 else if 97≤c.toNat∧c.toNat≤102 then (c.toNat:Int)-87 else 16
theorem S4 (c:UInt8):0≤digI c∧digI c≤16:=by
 unfold digI
 split
 ·omega
 split
 ·omega
 ·omega
end Go.Sy.YtgblchnfjbkipaaGreatDoor
namespace Go.Sy
open Go.RowKit
def Adg {β:Type} (T:Nat→Prop) (J:β→World→Prop):Prop :=
 ∀ s W W' row,J s W→W.grownBy W' row→(∀ r,row=some r→T r)→J s W'
def OwnT {β:Type} (B:Nat) (T:Nat→Prop) (I:β→World→Prop):Prop :=
 ∀ s W W' row,I s W→W.grownBy W' row→(∀ r,row=some r→T r∨(B≤r∧∃ o:Obj,W.heap[r]? = some o∧o.isCells=false))→I s W'
theorem OwnT.putObj {β:Type} {B:Nat} {T:Nat→Prop} {I:β→World→Prop} (h:OwnT B T I) {s:β} {W:World} {l:Nat} {o:Obj} (o':Obj) (hs:I s W) (hB:B≤l) (hl:W.heap[l]? = some o) (ho:o.isCells=false):I s (W.putObj l o') :=
 h s W _ _ hs (grownBy_putObj' W l o') (fun r e=>by cases e;exact .inr ⟨hB,o,hl,ho⟩)
theorem OwnT.alloc {β:Type} {B:Nat} {T:Nat→Prop} {I:β→World→Prop} (h:OwnT B T I) {s:β} {W:World} (o:Obj) (hs:I s W):I s (W.alloc o) :=
 h s W _ none hs ⟨rfl,rfl,rfl,by simp,fun k hk _=>Below.heap_alloc _ _ _ hk⟩ (fun r e=>by cases e)
def Wg {α:Type} (F:Fence) (n:Nat) (P:Program) (g:Nat) (lb:Array Value) (encs:α→Array Value) (T:Nat→Prop) (Kp:World→World→Prop) (S Sp:List α→Prop) (N:Nat) (w:World):Prop :=
 ∀ (l:Nat) (J Jx:List α→World→Prop) (W:World),Below w.heap.size w W→Adg T J→Adg T Jx →
  (∀ pre x W1,J pre W1→pre.length<N→YieldAt F (n-1) P l (encs x) W1 fun e W' =>
   (e=.returned (.bool true)∧J (pre++[x]) W'∧Kp W1 W')∨(e=.returned (.bool false)∧Jx (pre++[x]) W')) →
  J [] W →
  CallsIn F n P g (#[.func (.yield l) #[] #[]]++lb) W fun e W'=>(∃ v,e=.returned v)∧((∃ xs,S xs∧J xs W')∨(∃ pre,Sp pre∧Jx pre W'))
theorem It {A B:World} {T:Nat→Prop} {row:Option Nat} {k:Nat} {o:Obj} (hg:A.grownBy B row) (hr:∀ r,row=some r→T r) (hk:¬ T k) (h:A.heap[k]? = some o):B.heap[k]? = some o:=by
 obtain ⟨_,_,_,_,h5⟩:=hg
 exact(h5 k (Array.getElem?_eq_some_iff.1 h).1 (fun e=>hk (hr k e.symm))).trans h
variable {F:Fence} {n:Nat} {P:Program}
theorem Le {α:Type} {g:Operand} {ps:Array Tmp} {assign body:Code} {Q:Exit→Act→World→Prop} {a:Act} {w:World}
  (hro:F.round=none) (h1:1≤n) {gf:Nat} {lb:Array Value} (hg:a.eval g=.func (.func gf) #[] lb) (hFg:F.fn gf) (eg:∀ args w,(callFunc gf args).run P w=.ok (.enter gf args) w)
  {encs:α→Array Value} {T:Nat→Prop} {Kp:World→World→Prop} {S Sp:List α→Prop} {N:Nat} {w0:World} (hseq:Wg F (n-1) P gf lb encs T Kp S Sp N w0) (hT:∀ b,T b→b<w.heap.size)
  (hKt:∀ {A B C:World},Kp A B→Kp B C→Kp A C) (hKb:∀ (W:World) (l:Nat) (o o':Obj),w.heap.size≤l→W.heap[l]? = some o→o.isCells=false→o.isWalk=false→Kp W (W.putObj l o')) (hb0:Below w0.heap.size w0 w) (hps:∀ x,(encs x).size=ps.size)
  (I:List α→World→Prop) (Ix:Code→List α→World→Prop) (hI:OwnT w.heap.size T I) (hIx:∀ c,OwnT w.heap.size T (Ix c)) (h0:I [] w) (a₁:α→Act)
  (hassign:∀ (l:Nat) (x:α) (W:World) (K:Act→World→Prop),K (a₁ x) W →
   assign.wpIn (F.inRound l) (n-1-1) P (Exit.then K (fun _ _ _=>False)) { tmps:=(ps.zip (encs x)).foldl (fun t (p,v)=>t.setIfInBounds p v) a.tmps,defers:=[] } W)
  (hbody:∀ (l:Nat) (pre:List α) (x:α) (W:World),I pre W→pre.length<N→body.wpIn (F.inRound l) (n-1-1) P (ownPostK Kp I Ix (pre++[x]) W) (a₁ x) W)
  (hdone:∀ (D:Nat) (xs:List α) (W:World),w.heap.size≤D→S xs→I xs W→W.heap[D]? = some (.deferred (some []))→Q .normal { a with defers:={ target:=.collected D,args:=#[] }::a.defers } W)
  (hstop:∀ (D:Nat) (c:Code) (pre:List α) (W:World),w.heap.size≤D→Sp pre→Ix c pre W→W.heap[D]? = some (.deferred (some []))→c.wpIn F n P Q { a with defers:={ target:=.collected D,args:=#[] }::a.defers } W) :
  (Code.rangeFunc g ps assign body).wpIn F n P Q a w:=by
 refine wpIn_rangeFunc ?_
 intro fn hfn
 rw[hro]
 obtain ⟨rec,hrec⟩:∃ rec:LoopState→Option Code→Loop,rec=fun st pe=>{ state:=st,pending:=pe,fn,tmps:=a.tmps,params:=ps,assign,body,defers:=w.heap.size }:=⟨_,rfl⟩
 obtain ⟨W1,hW1⟩:∃ W1,(w.alloc (.deferred (some []))).alloc (.loop (rec .ready none))=W1:=⟨_,rfl⟩
 have hL1:W1.heap[w.heap.size+1]? = some (.loop (rec .ready none)):=by
  rw[← hW1];have:=World.alloc_heap_new (w.alloc (.deferred (some []))) (.loop (rec .ready none));rwa [World.size_alloc]at this
 have hK1:W1.heap[w.heap.size]? = some (.deferred (some [])):=by
  rw[← hW1];exact(Below.heap_alloc _ _ _ qf).trans (World.alloc_heap_new w _)
 have hI1:I [] W1:=by rw[← hW1];exact hI.alloc _ (hI.alloc _ h0)
 have hb1:Below w0.heap.size w0 W1:=by
  rw[← hW1];exact hb0.trans ((((Below.refl _ w).alloc (Nat.le_refl _) _).alloc qf _).mono hb0.size)
 have nT:∀ k,w.heap.size≤k→¬ T k:=fun k hk h=>Nat.lt_irrefl _ (Nat.lt_of_lt_of_le (hT k h) hk)
 refine⟨w.heap.size+1,[{ target:=.collected w.heap.size,args:=#[] }],W1,{ target:=.fn (.func gf) lb,args:=#[.func (.yield (w.heap.size+1)) #[] #[]] },W1,gf,
  #[.func (.yield (w.heap.size+1)) #[] #[]]++lb,W1,?_,?_,?_,?_,fun _=>h1,?_⟩
 ·rw[← hW1,hrec];exact run_enterLoop_outer _ _ _ _ _
 ·simp only[resolve,hg]
  simp[go_sem]
 ·intro f' hf';simp[Target.leads]at hf';subst hf';exact hFg
 ·simp[invoke,go_sem,eg]
 ·refine(hseq (w.heap.size+1)
   (fun pre W=>I pre W∧W.heap[w.heap.size+1]? = some (.loop (rec .ready none))∧W.heap[w.heap.size]? = some (.deferred (some [])))
   (fun pre W=>∃ c,Ix c pre W∧W.heap[w.heap.size+1]? = some (.loop (rec .done (some c)))∧W.heap[w.heap.size]? = some (.deferred (some [])))
   W1 hb1
   (fun s A B row hs hg' hr=>⟨hI s A B row hs.1 hg' (fun r e=>.inl (hr r e)),It hg' hr (nT _ j_) hs.2.1,It hg' hr (nT _ j_) hs.2.2⟩)
   (fun s A B row hs hg' hr=>by
    obtain ⟨c,hc,hl,hk⟩:=hs
    exact⟨c,hIx c s A B row hc hg' (fun r e=>.inl (hr r e)),It hg' hr (nT _ j_) hl,It hg' hr (nT _ j_) hk⟩)
   ?_ ⟨hI1,hL1,hK1⟩).mono ?_
  ·rintro pre x W ⟨hi,hl,hk⟩ hlen
   have hlt:w.heap.size+1<W.heap.size:=(Array.getElem?_eq_some_iff.1 hl).1
   have hy:=run_yield (P:=P) (args:=encs x) hl (by rw[hrec];exact hps x)
   rw[hrec]at hy
   refine⟨fn,_,assign,body,hy,roundIn_of_wpIn hfn (hassign _ x W _ ⟨_,run_beginRound hl (by rw[hrec]),?_⟩)⟩
   have hl2:(W.putObj (w.heap.size+1) (.loop { rec .ready none with state:=.busy })).heap[w.heap.size+1]? = some (.loop { rec .ready none with state:=.busy }):=World.putObj_heap_same hlt
   have hk2:(W.putObj (w.heap.size+1) (.loop { rec .ready none with state:=.busy })).heap[w.heap.size]? = some (.deferred (some [])):=(World.putObj_heap_other j_).trans hk
   have hw2:Kp W (W.putObj (w.heap.size+1) (.loop { rec .ready none with state:=.busy })):=hKb _ _ _ _ j_ hl rfl rfl
   refine wpIn_mono (hbody _ pre x _ (hI.putObj _ hi (Nat.le_succ _) hl q_) hlen) ?_
   have fin:∀ (jump:Option Code) (W3:World),KeepsOthers (W.putObj (w.heap.size+1) (.loop { rec .ready none with state:=.busy })) W3 →
     (Instr.endRound (w.heap.size+1) jump).run P W3=.ok (.bool jump.isNone) (W3.putObj (w.heap.size+1) (.loop (rec (if jump.isNone then .ready else .done) jump))) ∧
     W3.heap[w.heap.size+1]? = some (.loop { rec .ready none with state:=.busy }) ∧
     (W3.putObj (w.heap.size+1) (.loop (rec (if jump.isNone then .ready else .done) jump))).heap[w.heap.size+1]? = some (.loop (rec (if jump.isNone then .ready else .done) jump)) ∧
     (W3.putObj (w.heap.size+1) (.loop (rec (if jump.isNone then .ready else .done) jump))).heap[w.heap.size]? = some (.deferred (some [])):=fun jump W3 hk3=>by
    have hl3:=hk3.same _ _ hl2 rfl
    have:=run_endRound (P:=P) jump hl3
    rw[hrec]at this ⊢
    exact⟨this,by rw[hrec]at hl3;exact hl3,World.putObj_heap_same (Array.getElem?_eq_some_iff.1 hl3).1,(World.putObj_heap_other j_).trans (hk3.same _ _ hk2 q_)⟩
   rintro e a3 W3 hp
   cases e with
   | normal =>
    obtain ⟨hk3,hkp3,hi3⟩:=hp
    obtain ⟨hr,hl3,hl4,hk4⟩:=fin none W3 hk3
    exact⟨_,_,hr,.inl ⟨q_,⟨hI.putObj _ hi3 (Nat.le_succ _) hl3 q_,hl4,hk4⟩,hKt (hKt hw2 hkp3) (hKb _ _ _ _ j_ hl3 q_ q_)⟩⟩
   | ret =>
    obtain ⟨hk3,hi3⟩:=hp
    obtain ⟨hr,hl3,hl4,hk4⟩:=fin (some .ret) W3 hk3
    exact⟨_,_,hr,.inr ⟨q_,.ret,(hIx _).putObj _ hi3 (Nat.le_succ _) hl3 q_,hl4,hk4⟩⟩
   | exit id =>
    obtain ⟨hk3,hi3⟩:=hp
    obtain ⟨hr,hl3,hl4,hk4⟩:=fin (some (.exit id)) W3 hk3
    exact⟨_,_,hr,.inr ⟨q_,.exit id,(hIx _).putObj _ hi3 (Nat.le_succ _) hl3 q_,hl4,hk4⟩⟩
   | goto t =>
    obtain ⟨hk3,hi3⟩:=hp
    obtain ⟨hr,hl3,hl4,hk4⟩:=fin (some (.goto t)) W3 hk3
    exact⟨_,_,hr,.inr ⟨q_,.goto t,(hIx _).putObj _ hi3 (Nat.le_succ _) hl3 q_,hl4,hk4⟩⟩
   | panic ch=>exact hp.elim
   | outgrown=>exact hp.elim
  ·rintro e W2 ⟨⟨v,rfl⟩,(⟨xs,hS,hi,hl,hk⟩ | ⟨pre,hSp,c,hi,hl,hk⟩)⟩
   ·exact⟨none,_,by have:=run_endLoop (P:=P) hl (by rw[hrec];simp);rw[hrec]at this;exact this,hdone _ xs _ (Nat.le_refl _) hS (hI.putObj _ hi (Nat.le_succ _) hl q_) ((World.putObj_heap_other j_).trans hk)⟩
   ·exact⟨some c,_,by have:=run_endLoop (P:=P) hl (by rw[hrec];simp);rw[hrec]at this;exact this,hstop _ c pre _ (Nat.le_refl _) hSp ((hIx c).putObj _ hi (Nat.le_succ _) hl q_) ((World.putObj_heap_other j_).trans hk)⟩
end Go.Sy
namespace Go.Proofs
open Go.RowKit Go.Shelf Go.Sy Go.Sy.YtgblchnfjbkipaaGreatDoor
attribute [local go_sem] Oper.semAt_some
structure SeqBox (W:World) (bp bs bv:Nat) (t:ByteArray):Prop where
 p:W.cell? ⟨bp,0,none⟩=some (.string ⟨#[46]⟩)
 s:W.cell? ⟨bs,0,none⟩=some (.string t)
 v:W.cell? ⟨bv,0,none⟩=some (.int .i64 0)
 f:W.frozen? ⟨bs,0,none⟩=false
def Ah5 (bp bs bv:Nat) (W W':World):Prop:=W'.heap[bp]? = W.heap[bp]? ∧ W'.heap[bs]? = W.heap[bs]? ∧ W'.heap[bv]? = W.heap[bv]?
theorem SeqBox.keep {W W':World} {bp bs bv:Nat} {t:ByteArray} (h:SeqBox W bp bs bv t) (k:Ah5 bp bs bv W W'):SeqBox W' bp bs bv t :=
 ⟨(World.cell?_of_block k.1).trans h.p,(World.cell?_of_block k.2.1).trans h.s,(World.cell?_of_block k.2.2).trans h.v,by
  have:W'.frozen? ⟨bs,0,none⟩=W.frozen? ⟨bs,0,none⟩:=by unfold World.frozen?;rw[k.2.1]
  rw[this];exact h.f⟩
theorem Zs:∀ {l:List UInt8} {c:UInt8},c∉l→Lib.indexByte l c=-1
 | [],_,_=>rfl
 | b::l,c,h=>by
  simp only[List.mem_cons,not_or]at h
  rw[Lib.indexByte,if_neg (by simpa using Ne.symm h.1),Zs h.2]
  rfl
def Ag8 (bs:Nat) (W:World):Nat:=match W.cell? ⟨bs,0,none⟩ with | some (.string t)=>t.size | _=>0
set_option maxRecDepth 100000 in
set_option maxHeartbeats 4000000 in
theorem Tryz.split_stops (s:ByteArray) (hs:s.size<100000) (n:Nat) (hn:1≤n) (bp bs bv:Nat) (hd:bp≠bs∧bv≠bs) (w:World) (hw:SeqBox w bp bs bv s) (hlt:bp<w.heap.size∧bs<w.heap.size∧bv<w.heap.size) :
  Wg Fence.wide n Tryz.prog 346 #[.pointer (some ⟨bp,0,none⟩),.pointer (some ⟨bs,0,none⟩),.pointer (some ⟨bv,0,none⟩)] (fun x:ByteArray=>#[.string x]) (fun b=>b=bs) (Ah5 bp bs bv)
   (fun xs=>xs=Au 46 s) (fun pre=>pre <+: Au 46 s) (Au 46 s).length w:=fun l J Jx W hW hJ hJx hY h0=>by
 refine callsIn_of_wp Tryz.func346 Go.Sy.q_ Go.Sy.z_ ?_ Go.Sy.q_
 simp only[Tryz.ntmps346,List.size_toArray,List.length_cons,List.length_nil,Nat.reduceAdd,Nat.reduceSub,Array.replicate_succ,Array.replicate_zero,List.push_toArray,List.append_toArray,List.nil_append,List.cons_append]
 have hW0:SeqBox W bp bs bv s:=hw.keep ⟨hW.block _ hlt.1,hW.block _ hlt.2.1,hW.block _ hlt.2.2⟩
 have c1:=hW0.p
 have c2:=hW0.s
 have c3:=hW0.v
 gi_wp2
 gi_loopw [] (fun wr=>∃ j:Nat,j≤Ace 46 s∧SeqBox wr bp bs bv (mkT (Bz 46 s.data.toList j))∧J ((Au 46 s).take j) wr) (fun wr=>Ag8 bs wr)
 case atStart =>
  exact⟨0,Nat.zero_le _,by rw[Bz,Bt];exact hW0,h0⟩
 case round =>
  obtain ⟨j,hj,hb,hJj⟩:=hrel
  have d1:=hb.p
  have d2:=hb.s
  have d3:=hb.v
  have hlr:=Yj 46 s.data.toList j
  have hsz:s.data.toList.length=s.size:=rfl
  have hwl:=Df 46 s
  have hsm:=Ax (Bz 46 s.data.toList j)
  by_cases hlt:j<Ace 46 s
  ·have hi:=Ev (Aa9 hlt)
   obtain ⟨m,hm'⟩:∃ m:Nat,Lib.indexByte (Bz 46 s.data.toList j) 46=m:=⟨(Lib.indexByte (Bz 46 s.data.toList j) 46).toNat,by omega⟩
   have q:=Tryz.strings_Index_one (mkT (Bz 46 s.data.toList j)) 46 wr
   rw[A2,hm']at q
   rw[hm',Int.toNat_natCast]at hi
   have hpm:=Ago (c:=46) (s:=s) (j:=j) hm'
   have hqm:=Aif (c:=46) (s:=s) (j:=j) hm'
   have hget:(Au 46 s)[j]? = some (mkT (Kk 46 s.data.toList j)):=by
    have hlt':j<s.data.toList.count 46:=hlt
    rw[Au,List.getElem?_append_left (by rw[List.length_map,List.length_range];exact hlt'),List.getElem?_map,List.getElem?_range hlt']
    rfl
   have hx:(mkT (Bz 46 s.data.toList j)).extract 0 m=mkT (Kk 46 s.data.toList j):=by
    rw[Bu,hpm];simp
   have hx2:(mkT (Bz 46 s.data.toList j)).extract (m+1) (mkT (Bz 46 s.data.toList j)).size=mkT (Bz 46 s.data.toList (j+1)):=by
    rw[Bu,hqm,hsm,List.take_length]
   have htk:(Au 46 s).take j++[mkT ((Bz 46 s.data.toList j).take m)]=(Au 46 s).take (j+1):=by
    rw[List.take_add_one,hget,hpm];rfl
   obtain ⟨fn,tmps,assign,body,hy,hR⟩:=hY _ (mkT ((Bz 46 s.data.toList j).take m)) wr hJj (by rw[List.length_take];omega)
   rw[htk]at hR
   gi_wp2
   refine⟨Go.Sy.z_,?_⟩
   refine(callsIn_wide.2 q).mono ?_
   rintro e w' ⟨rfl,rfl⟩
   gi_wp2
   refine hR.mono ?_
   rintro e W' (⟨rfl,hJ',hk⟩ | ⟨rfl,hJx'⟩)
   ·have hb':=hb.keep hk
    have d1:=hb'.p
    have d2:=hb'.s
    have d3:=hb'.v
    have d4:=hb'.f
    have hsm1:(mkT (Bz 46 s.data.toList (j+1))).size+(m+1)=(mkT (Bz 46 s.data.toList j)).size:=by
     rw[hsm,Ax,hqm,List.length_drop];omega
    rw[hsm]at hx2
    gi_wp2
    rw[← hqm]
    have e2:(W'.setCell ⟨bs,0,none⟩ (.string (mkT (Bz 46 s.data.toList (j+1))))).cell? ⟨bs,0,none⟩=some (.string (mkT (Bz 46 s.data.toList (j+1)))):=World.cell?_setCell_same' _ _ _ (by rw[d2];rfl)
    refine⟨⟨j+1,hlt,⟨?_,e2,?_,?_⟩,hJ _ _ _ (some bs) hJ' (grownBy_setCell' _ _ _) (fun r e=>by cases e;rfl)⟩,?_⟩
    ·rw[World.cell?_setCell_other _ _ _ _ (by intro e;cases e;exact hd.1 rfl)];exact d1
    ·rw[World.cell?_setCell_other _ _ _ _ (by intro e;cases e;exact hd.2 rfl)];exact d3
    ·rw[World.frozen?_setCell];exact d4
    ·unfold Ag8
     rw[e2,hb.s]
     simp only
     omega
   ·gi_wp2
    refine bodyPost_ret (results_none Go.Sy.q_ _ _ _) Go.Sy.q_ ?_
    exact⟨⟨_,Go.Sy.q_⟩,.inr ⟨_,List.take_prefix _ _,hJx'⟩⟩
  ·have hje:j=Ace 46 s:=by omega
   have hno:(46:UInt8)∉Bz 46 s.data.toList j:=by
    have:=Mi 46 s.data.toList j hj
    have e:Ace 46 s=s.data.toList.count 46:=rfl
    exact List.count_eq_zero.1 Go.Sy.j_
   have q:=Tryz.strings_Index_one (mkT (Bz 46 s.data.toList j)) 46 wr
   rw[A2,Zs hno]at q
   have hget:(Au 46 s)[j]? = some (mkT (Bz 46 s.data.toList j)):=by
    rw[hje,Au,List.getElem?_append_right (by simp[Ace])]
    simp[Ace]
   have htk:(Au 46 s).take j++[mkT (Bz 46 s.data.toList j)]=Au 46 s:=by
    have:(Au 46 s).take (j+1)=Au 46 s:=List.take_of_length_le Go.Sy.j_
    rw[List.take_add_one,hget]at this
    exact this
   have hlen:((Au 46 s).take j).length<(Au 46 s).length:=by rw[List.length_take];omega
   clear hje
   obtain ⟨fn,tmps,assign,body,hy,hR⟩:=hY _ (mkT (Bz 46 s.data.toList j)) wr hJj hlen
   rw[htk]at hR
   gi_wp2
   refine⟨Go.Sy.z_,?_⟩
   refine(callsIn_wide.2 q).mono ?_
   rintro e w' ⟨rfl,rfl⟩
   gi_wp2
   refine hR.mono ?_
   rintro e W' (⟨rfl,hJ',hk⟩ | ⟨rfl,hJx'⟩)
   ·gi_wp2
    go_end0
    exact⟨⟨_,Go.Sy.q_⟩,.inl ⟨_,Go.Sy.q_,hJ'⟩⟩
   ·gi_wp2
    go_end0
    exact⟨⟨_,Go.Sy.q_⟩,.inr ⟨_,List.prefix_rfl,hJx'⟩⟩
end Go.Proofs
namespace Go.Sy
open Go.RowKit
theorem Spec.calls {P:Program} {f:FuncId} {A:List SV} {R:SV} (h:Sy.Spec P f A [] R []) {w:World} {vs:List Value} (hA:RdL κ0 w A vs) :
  Calls P f vs.toArray w fun e w'=>∃ v κ',e=.returned v∧Rd κ' w' R v∧Below w.heap.size w w':=by
 refine(h κ0 w vs (inv0 w) (fun k hk=>absurd rfl hk) hA (fun p hp=>by cases hp)).mono ?_
 rintro e w' ⟨v,κ',rfl,ctx,inv,hR,_⟩
 exact⟨v,κ',q_,hR,Or ctx⟩
theorem Spec.calls_tup2 {P:Program} {f:FuncId} {A:List SV} {a b:Value} (h:Sy.Spec P f A [] (.tup [.val a,.val b]) []) {w:World} {vs:List Value} (hA:RdL κ0 w A vs) :
  Calls P f vs.toArray w fun e w'=>e=.returned (.tuple #[a,b])∧Below w.heap.size w w' :=
 (h.calls hA).mono fun e w' ⟨v,κ',he,hv,hb⟩=>by
  simp only[Rd,RdL]at hv
  obtain ⟨cs,rfl,_,_,rfl,rfl,_,_,rfl,rfl,rfl⟩:=hv
  exact⟨he,hb⟩
theorem Spec.of_calls2 {P:Program} {f:FuncId} {A:List SV} {H:Obs} {a b:Value}
  (h:∀ (κ:Ka) (w:World) (vs:List Value),Inv κ w→RdL κ w A vs→H.ok κ w→Calls P f vs.toArray w fun e w'=>e=.returned (.tuple #[a,b])∧Below w.heap.size w w'):Spec P f A H (.tup [.val a,.val b]) H:=by
 intro κ w vs hi _ hr ho
 refine(h κ w vs hi hr ho).mono fun e w' hw=>?_
 obtain ⟨he,hw⟩:=hw
 have g:Grew w w':=⟨hw.os,hw.tape,hw.output,hw.size,hw.block⟩
 have st:=Vb hi g
 exact⟨.tuple #[a,b],κ,he,(Ctx.refl κ w).step st.2 st.1,st.2,by simp[Rd,RdL],fun p hp=>ObOK.step st.1 qf p.2 (ho p hp)⟩
theorem T8 {w w':World} (h:Below w.heap.size w w'):KeepsOthers w w':=⟨h.size,fun k o hk _=>(h.block k (Array.getElem?_eq_some_iff.1 hk).1).trans hk⟩
theorem Ui {A B:World} {row:Option Nat} {k:Nat} {v:Value} (h:A.cell? ⟨k,0,none⟩=some v) (hg:A.grownBy B row) (hr:row≠some k):B.cell? ⟨k,0,none⟩=some v∧B.frozen? ⟨k,0,none⟩=A.frozen? ⟨k,0,none⟩:=by
 obtain ⟨o,ho,_⟩:=cells_of_cell h
 obtain ⟨_,_,_,_,h5⟩:=hg
 have e:B.heap[k]? = A.heap[k]?:=h5 k (Array.getElem?_eq_some_iff.1 ho).1 (fun e=>hr e.symm)
 refine⟨(World.cell?_of_block e).trans h,?_⟩
 unfold World.frozen?
 rw[e]
def Var1 (W:World) (k:Nat) (v:Value):Prop:=W.cell? ⟨k,0,none⟩=some v∧W.frozen? ⟨k,0,none⟩=false
theorem Var1.at {W:World} {B:Nat} {v:Value} {t:TypeId} (h:W.heap[B]? = some (.cells #[v] t (0,0))):Var1 W B v:=by
 constructor<;>simp[World.cell?,World.frozen?,h]
theorem Var1.below {A B:World} {k:Nat} {v:Value} (h:Var1 A k v) (hb:Below A.heap.size A B):Var1 B k v:=by
 obtain ⟨o,ho,_⟩:=cells_of_cell h.1
 have e:B.heap[k]? = A.heap[k]?:=hb.block k (Array.getElem?_eq_some_iff.1 ho).1
 refine⟨(World.cell?_of_block e).trans h.1,?_⟩
 rw[← h.2]
 unfold World.frozen?
 rw[e]
theorem Var1.new (W:World) (v:Value) (t:TypeId) {k:Nat} (hk:k=W.heap.size):Var1 (W.alloc (.cells #[v] t)) k v:=by
 subst hk
 exact Var1.at (World.alloc_heap_new W _)
theorem Var1.grown {A B:World} {row:Option Nat} {k:Nat} {v:Value} (h:Var1 A k v) (hg:A.grownBy B row) (hr:row≠some k):Var1 B k v :=
 ⟨(Ui h.1 hg hr).1,(Ui h.1 hg hr).2.trans h.2⟩
theorem Var1.alloc {A:World} {k:Nat} {v:Value} (h:Var1 A k v) (o:Obj):Var1 (A.alloc o) k v:=h.grown (World.grownBy_alloc A o none) qf
theorem Var1.set {A:World} {k:Nat} {v:Value} (h:Var1 A k v) (u:Value):Var1 (A.setCell ⟨k,0,none⟩ u) k u :=
 ⟨World.cell?_setCell_same' _ _ _ (by rw[h.1];rfl),by rw[World.frozen?_setCell];exact h.2⟩
theorem Var1.other {A:World} {k b:Nat} {v:Value} (h:Var1 A k v) (hb:b≠k) (u:Value):Var1 (A.setCell ⟨b,0,none⟩ u) k v :=
 ⟨(World.cell?_setCell_other _ _ _ _ (by intro e;cases e;exact hb rfl)).trans h.1,by rw[World.frozen?_setCell];exact h.2⟩
end Go.Sy
namespace Go.Proofs
open Go.RowKit Go.Shelf Go.Sy Go.Sy.YtgblchnfjbkipaaGreatDoor
attribute [local go_sem] Oper.semAt_some
theorem Tryz.splitSeq_calls (s:ByteArray) (w:World):Calls Tryz.prog 240 #[.string s,.string ⟨#[46]⟩] w fun e w' =>
  e=.returned (.func (.func 346) #[] #[.pointer (some ⟨w.heap.size+1,0,none⟩),.pointer (some ⟨w.heap.size,0,none⟩),.pointer (some ⟨w.heap.size+2,0,none⟩)]) ∧
   w'=((w.alloc (.cells #[.string s] 9)).alloc (.cells #[.string ⟨#[46]⟩] 9)).alloc (.cells #[.int .i64 0] 3):=by
 have q:Calls Tryz.prog 293 #[.string s,.string ⟨#[46]⟩,.int .i64 0] w fun e w' =>
  e=.returned (.func (.func 346) #[] #[.pointer (some ⟨w.heap.size+1,0,none⟩),.pointer (some ⟨w.heap.size,0,none⟩),.pointer (some ⟨w.heap.size+2,0,none⟩)]) ∧
   w'=((w.alloc (.cells #[.string s] 9)).alloc (.cells #[.string ⟨#[46]⟩] 9)).alloc (.cells #[.int .i64 0] 3):=by
  refine(callsIn_wide (n:=3)).1 ?_
  refine callsIn_of_wp Tryz.func293 Go.Sy.q_ Go.Sy.z_ ?_ Go.Sy.q_
  simp only[Tryz.ntmps293,List.size_toArray,List.length_cons,List.length_nil,Nat.reduceAdd,Nat.reduceSub,Array.replicate_succ,Array.replicate_zero,List.push_toArray,List.append_toArray,List.nil_append,List.cons_append]
  gi_wp2
  go_ret
  exact⟨Go.Sy.q_,Go.Sy.q_⟩
 refine(callsIn_wide (n:=3)).1 ?_
 refine callsIn_of_wp Tryz.func240 Go.Sy.q_ Go.Sy.z_ ?_ Go.Sy.q_
 simp only[Tryz.ntmps240,List.size_toArray,List.length_cons,List.length_nil,Nat.reduceAdd,Nat.reduceSub,Array.replicate_succ,Array.replicate_zero,List.push_toArray,List.append_toArray,List.nil_append,List.cons_append]
 gi_wp2
 refine⟨Go.Sy.z_,?_⟩
 refine(callsIn_wide.2 q).mono ?_
 rintro e w' ⟨rfl,rfl⟩
 gi_wp2
 go_ret
 exact⟨Go.Sy.q_,Go.Sy.q_⟩
def Kz:List ByteArray→Int
 | []=>0
 | l=>l.foldl (fun a x=>bits .or .u32 (IntKind.u32.wrap (a * 2 ^ 8)) (IntKind.u32.wrap (smallT x 255).1)) 0
def I8 (x:ByteArray):Bool:=(smallT x 255).2
def A8 (s:ByteArray):Int × Bool:=if (Au 46 s).length=4∧(Au 46 s).all I8=true then (Kz (Au 46 s),true) else (0,false)
theorem Jy (l:List ByteArray) (x:ByteArray):Kz (l++[x])=bits .or .u32 (IntKind.u32.wrap (Kz l * 2 ^ 8)) (IntKind.u32.wrap (smallT x 255).1):=by
 cases l with
 | nil=>rfl
 | cons y l=>simp[Kz]
set_option maxRecDepth 100000 in
set_option maxHeartbeats 4000000 in
theorem Tryz.addrRead_calls (s:ByteArray) (hs:s.size<100000) (w:World):Calls Tryz.prog 187 #[.string s] w fun e w'=>e=.returned (.tuple #[.int .u32 (A8 s).1,.bool (A8 s).2])∧Below w.heap.size w w':=by
 refine(callsIn_wide (n:=5)).1 ?_
 refine callsIn_of_wp_marks Tryz.func187 Go.Sy.q_ Go.Sy.z_ ?_ Go.Sy.q_
 simp only[Tryz.ntmps187,List.size_toArray,List.length_cons,List.length_nil,Nat.reduceAdd,Nat.reduceSub,Array.replicate_succ,Array.replicate_zero,List.push_toArray,List.append_toArray,List.nil_append,List.cons_append]
 gi_wp2
 refine wpIn_wide.2 (wp_scope_straight ((wpIn_wide (n:=5)).1 ?_))
 gi_wp2
 refine wpIn_label ?_
 gi_wp2
 refine⟨Go.Sy.z_,?_⟩
 refine(callsIn_wide.2 (Tryz.splitSeq_calls s _)).mono ?_
 rintro e w' ⟨rfl,rfl⟩
 gi_wp2
 obtain ⟨W0,hW0⟩:∃ W0,((((w.alloc (.cells #[.int .u32 0] 24)).alloc (.cells #[.int .i64 0] 3)).alloc (.cells #[.string s] 9)).alloc (.cells #[.string ⟨#[46]⟩] 9)).alloc (.cells #[.int .i64 0] 3)=W0:=⟨_,rfl⟩
 have hsz:W0.heap.size=w.heap.size+5:=by rw[← hW0];simp
 have hB0:Below w.heap.size w W0:=by
  rw[← hW0]
  exact(((((Below.refl _ w).alloc (Nat.le_refl _) _).alloc qf _).alloc (by simp;omega) _).alloc (by simp;omega) _).alloc (by simp;omega) _
 have ca:Var1 W0 w.heap.size (.int .u32 0):=by rw[← hW0];exact((((Var1.new _ _ _ rfl).alloc _).alloc _).alloc _).alloc _
 have ci:Var1 W0 (w.heap.size+1) (.int .i64 0):=by rw[← hW0];exact(((Var1.new (w.alloc _) _ _ qf).alloc _).alloc _).alloc _
 have cs:Var1 W0 (w.heap.size+2) (.string s):=by rw[← hW0];exact((Var1.new ((w.alloc _).alloc _) _ _ qf).alloc _).alloc _
 have cp:Var1 W0 (w.heap.size+3) (.string ⟨#[46]⟩):=by rw[← hW0];exact(Var1.new (((w.alloc _).alloc _).alloc _) _ _ qf).alloc _
 have cv:Var1 W0 (w.heap.size+4) (.int .i64 0):=by rw[← hW0];exact Var1.new ((((w.alloc _).alloc _).alloc _).alloc _) _ _ qf
 have cb:SeqBox W0 (w.heap.size+3) (w.heap.size+2) (w.heap.size+4) s:=⟨cp.1,cs.1,cv.1,cs.2⟩
 rw[hW0]
 clear hW0
 have hrow:∀ {k:Nat} {W:World} {row:Option Nat},k≤w.heap.size+1→(∀ r,row=some r→r=w.heap.size+2∨(W0.heap.size≤r∧∃ o:Obj,W.heap[r]? = some o∧o.isCells=false))→row≠some k:=fun hk hr e=>by
  rcases hr _ e with h | ⟨h,_⟩<;>omega
 have hge:∀ {W:World} {row:Option Nat},(∀ r,row=some r→r=w.heap.size+2∨(W0.heap.size≤r∧∃ o:Obj,W.heap[r]? = some o∧o.isCells=false))→∀ r,row=some r→w.heap.size≤r:=fun hr r e=>by
  rcases hr _ e with h | ⟨h,_⟩<;>omega
 refine Le Go.Sy.q_ Go.Sy.j_ (gf:=346) (lb:=#[.pointer (some ⟨w.heap.size+3,0,none⟩),.pointer (some ⟨w.heap.size+2,0,none⟩),.pointer (some ⟨w.heap.size+4,0,none⟩)]) Go.Sy.q_ Go.Sy.z_ (enters_of Tryz.func346 Go.Sy.y_ Go.Sy.q_)
  (Tryz.split_stops s hs 4 Go.Sy.j_ (w.heap.size+3) (w.heap.size+2) (w.heap.size+4) ⟨by omega,by omega⟩ W0 cb Go.Sy.j_) (fun b hb=>by omega)
  (fun h k=>⟨k.1.trans h.1,k.2.1.trans h.2.1,k.2.2.trans h.2.2⟩)
  (fun W l o o' hl _ _ _=>⟨World.putObj_heap_other Go.Sy.j_,World.putObj_heap_other Go.Sy.j_,World.putObj_heap_other Go.Sy.j_⟩) (Below.refl _ _) (fun _=>rfl)
  (fun pre W=>Var1 W w.heap.size (.int .u32 (Kz pre))∧Var1 W (w.heap.size+1) (.int .i64 pre.length)∧(pre.length≤4∧pre.all I8=true)∧Below w.heap.size w W∧w.heap.size+5≤W.heap.size)
  (fun c pre W=>c=.exit 0∧Var1 W (w.heap.size+1) (.int .i64 0)∧¬ (pre.length≤4∧pre.all I8=true)∧Below w.heap.size w W)
  (fun pre A B row hs hg hr=>⟨hs.1.grown hg (hrow Go.Sy.j_ hr),hs.2.1.grown hg (hrow Go.Sy.j_ hr),hs.2.2.1,hs.2.2.2.1.grown hg hs.2.2.2.1.size (hge hr),Nat.le_trans hs.2.2.2.2 hg.size⟩)
  (fun c pre A B row hs hg hr=>⟨hs.1,hs.2.1.grown hg (hrow Go.Sy.j_ hr),hs.2.2.1,hs.2.2.2.grown hg hs.2.2.2.size (hge hr)⟩)
  ⟨ca,ci,⟨by simp,rfl⟩,hB0,by omega⟩
  (fun x=>{ tmps:=#[.string s,undef,.int .u32 0,.bool false,.pointer (some ⟨w.heap.size,0,none⟩),.pointer (some ⟨w.heap.size+1,0,none⟩),.string x,undef,undef,.string s,
   .func (.func 346) #[] #[.pointer (some ⟨w.heap.size+3,0,none⟩),.pointer (some ⟨w.heap.size+2,0,none⟩),.pointer (some ⟨w.heap.size+4,0,none⟩)],.string x,
   undef,undef,undef,undef,undef,undef,undef,undef,undef,undef,undef,undef,undef,undef,undef,undef,undef,undef,undef,undef,undef],defers:=[] }) ?assign ?body ?done ?stop
 case assign =>
  intro l x W K hK
  gi_wp2
  exact hK
 case body =>
  rintro l pre x W ⟨ha,hi,⟨hp1,hp2⟩,hB,hB5⟩ _
  have q:=(Um x 255).calls_tup2 (w:=W) (vs:=[.string x,.int .i64 255]) (by simp only[RdL];exact⟨_,_,rfl,by simp[Rd,Ab],_,_,rfl,by simp[Rd,Aa],rfl⟩)
  have hsn:=Jy pre x
  have hal:((pre++[x]).all I8)=I8 x:=by rw[List.all_append,hp2];simp
  have hll:(pre++[x]).length=pre.length+1:=by simp
  have hox:I8 x=(smallT x 255).2:=rfl
  generalize smallT x 255=sm at *
  obtain ⟨v,ok⟩:=sm
  dsimp only at hsn hox q
  gi_wp2
  refine⟨Go.Sy.z_,?_⟩
  refine(CallsIn.inRound l (callsIn_wide.2 q)).mono ?_
  rintro e w' ⟨rfl,hb⟩
  have ha':=ha.below hb
  have hi':=hi.below hb
  have hB':Below w.heap.size w w':=hB.trans (hb.mono hB.size)
  have hk1:=T8 hb
  have a1:=ha'.1
  have a2:=ha'.2
  have b1:=hi'.1
  have b2:=hi'.2
  have s1:∀ (u v:Value),Below w.heap.size w ((w'.setCell ⟨w.heap.size+1,0,none⟩ u).setCell ⟨w.heap.size+1,0,none⟩ v):=fun u v =>
   (hB'.setCell (p:=⟨w.heap.size+1,0,none⟩) (Nat.le_succ _) u).setCell (p:=⟨w.heap.size+1,0,none⟩) (Nat.le_succ _) v
  cases ok
  ·gi_wp2
   exact⟨hk1.trans ((KeepsOthers.setCell _ _ _).trans (KeepsOthers.setCell _ _ _)),rfl,(hi'.set _).set _,(fun e=>by rw[hal,hox]at e;cases e.2),s1 _ _⟩
  ·by_cases h4:pre.length+1≤4
   ·have hsn':Kz (pre++[x])=bits .or .u32 (Kz pre * 256 % 4294967296) (v % 4294967296):=by rw[hsn,IntKind.wrap_u32,IntKind.wrap_u32];rfl
    gi_wp2
    refine⟨hk1.trans ((KeepsOthers.setCell _ _ _).trans (KeepsOthers.setCell _ _ _)),⟨?_,?_,?_⟩,?_,?_,⟨by omega,by rw[hal,hox]⟩,?_,?_⟩
    ·rw[Below.heap_setCell _ _ _ _ qf,Below.heap_setCell _ _ _ _ qf]
     exact hb.block _ Go.Sy.j_
    ·rw[Below.heap_setCell _ _ _ _ qf,Below.heap_setCell _ _ _ _ qf]
     exact hb.block _ Go.Sy.j_
    ·rw[Below.heap_setCell _ _ _ _ qf,Below.heap_setCell _ _ _ _ qf]
     exact hb.block _ Go.Sy.j_
    ·rw[hsn']
     exact(ha'.other qf _).set _
    ·rw[hll]
     exact(hi'.set _).other qf _
    ·exact(hB'.setCell (p:=⟨w.heap.size+1,0,none⟩) (Nat.le_succ _) _).setCell (p:=⟨w.heap.size,0,none⟩) (Nat.le_refl _) _
    ·have:=hb.size
     simp
     omega
   ·gi_wp2
    exact⟨hk1.trans ((KeepsOthers.setCell _ _ _).trans (KeepsOthers.setCell _ _ _)),Go.Sy.q_,(hi'.set _).set _,fun e=>by omega,s1 _ _⟩
 case done =>
  rintro D xs W hD rfl ⟨ha,hi,⟨hp1,hp2⟩,hB,_⟩ hK
  have a1:=ha.1
  have a2:=ha.2
  have b1:=hi.1
  have b2:=hi.2
  by_cases h4:(Au 46 s).length=4
  ·have hr:A8 s=(Kz (Au 46 s),true):=by rw[A8,if_pos ⟨h4,hp2⟩]
   gi_wp2
   refine⟨by simp,.inl ⟨_,_,Go.Sy.q_,run_takeDeferred hK,?_⟩⟩
   exact⟨_,results_tmp2 Go.Sy.q_ _ _ _,by rw[hr];rfl,hB.trans (belowK_b (w:=w) (Nat.le_refl _) W D _ _ Go.Sy.j_ hK Go.Sy.q_ Go.Sy.q_)⟩
  ·have hr:A8 s=(0,false):=by rw[A8,if_neg (fun e=>h4 e.1)]
   gi_wp2
   refine⟨by simp,.inl ⟨_,_,Go.Sy.q_,run_takeDeferred hK,?_⟩⟩
   exact⟨_,results_tmp2 Go.Sy.q_ _ _ _,by rw[hr];rfl,hB.trans (belowK_b (w:=w) (Nat.le_refl _) W D _ _ Go.Sy.j_ hK Go.Sy.q_ Go.Sy.q_)⟩
 case stop =>
  rintro D c pre W hD hpre ⟨rfl,hi,hbad,hB⟩ hK
  have b1:=hi.1
  have b2:=hi.2
  have hr:A8 s=(0,false):=by
   rw[A8,if_neg]
   intro e
   refine hbad ⟨by have:=hpre.length_le;omega,?_⟩
   rw[List.all_eq_true]at e ⊢
   exact fun x hx=>e.2 x (hpre.subset hx)
  gi_wp2
  refine⟨by simp,.inl ⟨_,_,Go.Sy.q_,run_takeDeferred hK,?_⟩⟩
  exact⟨_,results_tmp2 Go.Sy.q_ _ _ _,by rw[hr];rfl,hB.trans (belowK_b (w:=w) (Nat.le_refl _) W D _ _ Go.Sy.j_ hK Go.Sy.q_ Go.Sy.q_)⟩
end Go.Proofs
namespace Go.Sy.YtgblchnfjbkipaaGreatDoor
open Go.Proofs
theorem Qo (s:ByteArray) (hs:s.size<100000):Sy.Spec Tryz.prog 187 [Ab s] [] (.tup [A0 (A8 s).1,Af (A8 s).2]) [] :=
 Spec.of_calls2 fun κ w vs _ hr _=>by
  simp only[RdL]at hr
  obtain ⟨v,r,rfl,hv,rfl⟩:=hr
  simp only[Ab,Rd]at hv
  subst hv
  exact Tryz.addrRead_calls s hs w
end Go.Sy.YtgblchnfjbkipaaGreatDoor
namespace Go.Sy.YtgblchnfjbkipaaGreatDoor
open Go.Proofs
attribute [local irreducible] Go.Sy.G Go.Sy.DR
set_option maxRecDepth 100000
set_option maxHeartbeats 4000000
def be:Nat→Nat→List UInt8
 | 0,_=>[]
 | k+1,m=>UInt8.ofNat (m / 256 ^ k)::be k m
theorem H8 (m:Nat):∀ k,(be k m).length=k
 | 0=>rfl
 | k+1=>by simp[be,H8 m k]
theorem Ac9 (m:Nat):∀ (k j:Nat) (_h:j<k),(be k m).take (j+1)=(be k m).take j++[UInt8.ofNat (m / 256 ^ (k-1-j))]
 | 0,j,h=>by omega
 | k+1,0,h=>by simp[be]
 | k+1,j+1,h=>by
  have:=Ac9 m k j j_
  simp only[be,List.take_succ_cons,List.cons_append,this]
  rw[show k+1-1-(j+1)=k-1-j by omega]
theorem Ai0 (m k:Nat):m / 256 ^ k / 256=m / 256 ^ (k+1):=by rw[Nat.div_div_eq_div_mul,Nat.pow_succ]
theorem Acf (m:Nat) (hm64:m<18446744073709551616):Sy.Spec Tryz.prog 356 [Bh m] [] (.osl 0) [(0,.row 1 Ak (be 6 m))]:=cT F356 Tryz.ntmps356 fun F hF=>by
 conv=>whnf
 refine Ct 3 1000 1 Ak q_ q_ ?_
 refine Dk 6 (fun j=>[(0,Bh m),(3,.osl 1000),(4,Aa (5-(j:Int)))]) (fun j=>[(1000,.row 1 Ak ((be 6 m).take j))]) [] ⟨⟨q_,q_,q_,q_,q_,q_,z_⟩,⟨.inl q_,q_,z_⟩,q_,q_⟩ ?_
 intro j hj
 refine oO ?_
 refine⟨fun h=>?_,fun h=>?_⟩
 ·have hlt:j<6:=qA h
  refine oO ?_
  refine Dk (5-j) (fun k=>[(0,Bh m),(3,.osl 1000),(4,Aa (5-(j:Int))),(5,Bh (m / 256 ^ k:Nat)),(6,Aa k)]) (fun _=>[(1000,.row 1 Ak ((be 6 m).take j))]) [] ⟨⟨q_,q_,q_,q_,q_,q_,by simp;rfl,q_,q_,q_,z_⟩,⟨.inl q_,q_,z_⟩,q_,q_⟩ ?_
  intro k hk
  refine oO ?_
  refine⟨fun h2=>?_,fun h2=>?_⟩
  ·have hlt2:k<5-j:=by have:=of_decide_eq_true h2;omega
   refine oO ?_
   refine⟨by decide,?_⟩
   conv=>whnf
   refine iW ?_
   refine Dr [] j_ ⟨⟨q_,q_,q_,q_,q_,q_,congrArg (fun z=>SV.val (.int .u64 z)) ?_,q_,q_,q_,z_⟩,⟨.inl q_,q_,z_⟩,q_,q_⟩
   have h5:m / 256 ^ k≤m:=Nat.div_le_self _ _
   rw[Int.tdiv_eq_ediv_of_nonneg (Int.natCast_nonneg _),IntKind.wrap_u64,← Ai0]
   generalize m / 256 ^ k=q at *
   omega
  ·have:k=5-j:=by have:=of_decide_eq_false h2;omega
   subst this
   refine oO ?_
   refine⟨by decide,?_⟩
   conv=>whnf
   refine Cq (Ai Γ.toTy 24 q_ q_ q_ q_ q_ (.row q_) (.lit (l:=[UInt8.ofNat (m / 256 ^ (5-j))]) q_ ?_) qf ?_ ?_) q_ q_ ?_
   ·simp only[List.map_cons,List.map_nil,Ak]
    congr 3
    rw[Int.tmod_eq_emod_of_nonneg (Int.natCast_nonneg _),IntKind.wrap_u8]
    simp
   ·simp[H8];omega
   ·simp[H8];omega
   refine oO ?_
   refine iW ?_
   exact Dr [(1000,24)] hlt ⟨⟨q_,q_,q_,q_,congrArg (fun z=>SV.val (.int .i64 z)) j_,q_,z_⟩,⟨.inl (congrArg (Ob.row 1 Ak) (Ac9 _ _ _ hlt)),q_,z_⟩,q_,q_⟩
 ·have:j=6:=qB h
  subst this
  refine oO ?_
  exact done q_ (.cons .tmp .nil) [(0,1000)] _ (fun _ h=>h) q_ q_ ⟨z_,⟨.inl q_,q_,z_⟩,q_,q_⟩
end Go.Sy.YtgblchnfjbkipaaGreatDoor
namespace Go.Sy.YtgblchnfjbkipaaGreatDoor
def Ef (a bits:Int):Int:=if 0≤bits∧bits≤32 then a-a % 2 ^ (32-bits).toNat else 0
end Go.Sy.YtgblchnfjbkipaaGreatDoor
namespace Go.Sy.YtgblchnfjbkipaaGreatDoor
open Go.Proofs
attribute [local irreducible] Go.Sy.G Go.Sy.DR
set_option maxRecDepth 100000
set_option maxHeartbeats 4000000
def B8 (a bits:Int):SV:=.agg [A0 a,Aa bits]
theorem Ml (a bits:Int):Sy.Spec Tryz.prog 296 [B8 a bits] [] (Af (decide (0≤bits∧bits≤32))) []:=cT F296 Tryz.ntmps296 fun F hF=>by
 conv=>whnf
 (repeat' (first | (refine⟨fun h=>?_,fun h=>?_⟩<;>(repeat (first | simp only[decide_eq_true_eq]at h | simp only[decide_eq_false_iff_not]at h))<;>((refine oO ?_))) | (refine Bv rfl (.cons .tmp .nil) ?_ rfl)))
 all_goals (refine congrArg Af ?_;clear hF;grind)
theorem Wf (a bits:Int) (h:0≤bits∧bits≤32):Sy.Spec Tryz.prog 297 [B8 a bits] [] (A0 (2 ^ (32-bits).toNat-1)) []:=cT F297 Tryz.ntmps297 fun F hF=>by
 conv=>whnf
 refine iW ?_
 refine⟨by omega,?_⟩
 conv=>whnf
 refine Bv q_ (.cons .tmp .nil) ?_ q_
 refine congrArg (fun z=>SV.val (.int .u32 z)) ?_
 obtain ⟨k,hk,hk2⟩:∃ k:Nat,(32-bits).toNat=k∧k≤32:=⟨_,rfl,by omega⟩
 have h1:min (32-bits).toNat IntKind.u32.bits=k:=by show min (32-bits).toNat 32=k;omega
 rw[h1,hk,IntKind.wrap_u32,IntKind.wrap_u32]
 have h2:(2:Int) ^ k≤4294967296:=by
  have:=Nat.pow_le_pow_right (n:=2) qe hk2
  rw[show (2:Int) ^ k=((2 ^ k:Nat):Int) by rw[Int.natCast_pow];rfl]
  have e:(2:Nat) ^ 32=4294967296:=rfl
  rw[e]at this
  omega
 have h0:(1:Int)≤2 ^ k:=by
  have:=Nat.one_le_two_pow (n:=k)
  rw[show (2:Int) ^ k=((2 ^ k:Nat):Int) by rw[Int.natCast_pow];rfl]
  omega
 generalize (2:Int) ^ k=q at *
 omega
theorem Acj (a k:Nat) (ha:a<4294967296) (hk:k≤32):bits .andNot .u32 (a:Int) ((2 ^ k-1:Nat):Int)=((a-a % 2 ^ k:Nat):Int):=by
 have hp:=Nat.pow_le_pow_right (n:=2) qe hk
 have e32:(2:Nat) ^ 32=4294967296:=rfl
 rw[e32]at hp
 have h1:=Nat.one_le_two_pow (n:=k)
 have x1:(BitVec.ofInt 32 (a:Int)).toNat=a:=by rw[BitVec.ofInt_natCast,BitVec.toNat_ofNat];exact Nat.mod_eq_of_lt j_
 have x2:(BitVec.ofInt 32 ((2 ^ k-1:Nat):Int)).toNat=2 ^ k-1:=by rw[BitVec.ofInt_natCast,BitVec.toNat_ofNat];exact Nat.mod_eq_of_lt j_
 have key:(BitVec.ofInt 32 (a:Int) &&& ~~~ BitVec.ofInt 32 ((2 ^ k-1:Nat):Int)).toNat=a-a % 2 ^ k:=by
  have hd:a-a % 2 ^ k=2 ^ k * (a / 2 ^ k):=by have:=Nat.div_add_mod a (2 ^ k);omega
  rw[hd]
  refine Nat.eq_of_testBit_eq fun i=>?_
  rw[BitVec.testBit_toNat,BitVec.getLsbD_and,BitVec.getLsbD_not,← BitVec.testBit_toNat,← BitVec.testBit_toNat,x1,x2,Nat.testBit_two_pow_sub_one,Nat.testBit_two_pow_mul,Nat.testBit_div_two_pow]
  by_cases hi:i<k
  ·have:¬ i≥k:=by omega
   simp[hi,this]
  ·have h2:i≥k:=by omega
   have h3:i-k+k=i:=by omega
   by_cases h4:i<32
   ·simp[hi,h2,h4,h3]
   ·have h5:a.testBit i=false:=Nat.testBit_lt_two_pow (Nat.lt_of_lt_of_le (by rw[← e32]at ha;exact ha) (Nat.pow_le_pow_right qe j_))
    rw[h3,h5]
    simp
 show IntKind.u32.wrap (((BitVec.ofInt 32 (a:Int) &&& ~~~ BitVec.ofInt 32 ((2 ^ k-1:Nat):Int)).toNat:Nat):Int)=_
 rw[key,IntKind.wrap_u32]
 omega
theorem Ju (a k:Nat) (bits:Int) (h:0≤bits∧bits≤32) (hk:(32-bits).toNat=k):Ef a bits=((a-a % 2 ^ k:Nat):Int):=by
 rw[Ef,if_pos h,hk]
 have h1:=Nat.mod_le a (2 ^ k)
 rw[show (2:Int) ^ k=((2 ^ k:Nat):Int) by rw[Int.natCast_pow];rfl]
 omega
theorem Aco (a:Nat) (bits:Int) (ha:a<4294967296):Sy.Spec Tryz.prog 244 [B8 a bits] [] (A0 (Ef a bits)) []:=cT F244 Tryz.ntmps244 fun F hF=>by
 have hr:=Ml a bits
 by_cases hb:0≤bits∧bits≤32
 ·have hrest:=Wf a bits hb
  rw[decide_eq_true hb]at hr
  obtain ⟨k,hk,hk2⟩:∃ k:Nat,(32-bits).toNat=k∧k≤32:=⟨_,rfl,by omega⟩
  have hn:=Acj a k ha hk2
  have hf:=Ju a k bits hb hk
  have h1:=Nat.one_le_two_pow (n:=k)
  have e2:(2:Int) ^ k-1=((2 ^ k-1:Nat):Int):=by
   rw[show (2:Int) ^ k=((2 ^ k:Nat):Int) by rw[Int.natCast_pow];rfl]
   omega
  rw[hk,e2]at hrest
  rw[hf,← hn]
  ((conv=>whnf);repeat((first|refine aF ?_|refine aT ?_);(first|refine rG Γ hm ?_|refine rD Γ hm y_ ?_);conv=>whnf))
  refine c0 hr F296 ?_
  ((first|refine rG Γ hm ?_|refine rD Γ hm y_ ?_);(conv=>whnf);repeat((first|refine aF ?_|refine aT ?_);(first|refine rG Γ hm ?_|refine rD Γ hm y_ ?_);conv=>whnf))
  first | refine cD hrest F297 ?_ | refine c0 hrest F297 ?_
  ((first|refine rG Γ hm ?_|refine rD Γ hm y_ ?_);(conv=>whnf);repeat((first|refine aF ?_|refine aT ?_);(first|refine rG Γ hm ?_|refine rD Γ hm y_ ?_);conv=>whnf))
  first | (refine⟨y_,?_⟩;((conv=>whnf);repeat((first|refine aF ?_|refine aT ?_);(first|refine rG Γ hm ?_|refine rD Γ hm y_ ?_);conv=>whnf))) | skip
  exact dN
 ·rw[decide_eq_false hb]at hr
  have hf:Ef a bits=0:=by rw[Ef,if_neg hb]
  rw[hf]
  ((conv=>whnf);repeat((first|refine aF ?_|refine aT ?_);(first|refine rG Γ hm ?_|refine rD Γ hm y_ ?_);conv=>whnf))
  refine c0 hr F296 ?_
  ((first|refine rG Γ hm ?_|refine rD Γ hm y_ ?_);(conv=>whnf);repeat((first|refine aF ?_|refine aT ?_);(first|refine rG Γ hm ?_|refine rD Γ hm y_ ?_);conv=>whnf))
  exact dN
def lastI (a bits:Int):Int:=if 0≤bits∧bits≤32 then Ef a bits+2 ^ (32-bits).toNat-1 else 0
theorem or_low (a k:Nat) (ha:a<4294967296) (hk:k≤32):bits .or .u32 (a:Int) ((2 ^ k-1:Nat):Int)=((a-a % 2 ^ k+(2 ^ k-1):Nat):Int):=by
 have hp:=Nat.pow_le_pow_right (n:=2) qe hk
 have e32:(2:Nat) ^ 32=4294967296:=rfl
 rw[e32]at hp
 have h1:=Nat.one_le_two_pow (n:=k)
 have x1:(BitVec.ofInt 32 (a:Int)).toNat=a:=by rw[BitVec.ofInt_natCast,BitVec.toNat_ofNat];exact Nat.mod_eq_of_lt j_
 have x2:(BitVec.ofInt 32 ((2 ^ k-1:Nat):Int)).toNat=2 ^ k-1:=by rw[BitVec.ofInt_natCast,BitVec.toNat_ofNat];exact Nat.mod_eq_of_lt j_
 have hd:a-a % 2 ^ k=2 ^ k * (a / 2 ^ k):=by have:=Nat.div_add_mod a (2 ^ k);omega
 have hsum:=Nat.two_pow_add_eq_or_of_lt (i:=k) (b:=2 ^ k-1) j_ (a / 2 ^ k)
 have key:(BitVec.ofInt 32 (a:Int) ||| BitVec.ofInt 32 ((2 ^ k-1:Nat):Int)).toNat=a-a % 2 ^ k+(2 ^ k-1):=by
  rw[hd,hsum]
  refine Nat.eq_of_testBit_eq fun i=>?_
  rw[BitVec.testBit_toNat,BitVec.getLsbD_or,← BitVec.testBit_toNat,← BitVec.testBit_toNat,x1,x2,Nat.testBit_or,Nat.testBit_two_pow_sub_one,Nat.testBit_two_pow_mul,Nat.testBit_div_two_pow]
  by_cases hi:i<k
  ·simp[hi]
  ·have h2:i≥k:=by omega
   have h3:i-k+k=i:=by omega
   simp[hi,h2,h3]
 show IntKind.u32.wrap (((BitVec.ofInt 32 (a:Int) ||| BitVec.ofInt 32 ((2 ^ k-1:Nat):Int)).toNat:Nat):Int)=_
 have hlt:(BitVec.ofInt 32 (a:Int) ||| BitVec.ofInt 32 ((2 ^ k-1:Nat):Int)).toNat<4294967296:=BitVec.isLt _
 rw[key]at hlt
 rw[key,IntKind.wrap_u32]
 omega
theorem Vu (a k:Nat) (bits:Int) (h:0≤bits∧bits≤32) (hk:(32-bits).toNat=k):lastI a bits=((a-a % 2 ^ k+(2 ^ k-1):Nat):Int):=by
 rw[lastI,if_pos h,hk,Ju a k bits h hk]
 have h1:=Nat.one_le_two_pow (n:=k)
 rw[show (2:Int) ^ k=((2 ^ k:Nat):Int) by rw[Int.natCast_pow];rfl]
 omega
theorem Aff (a:Nat) (bits:Int) (ha:a<4294967296):Sy.Spec Tryz.prog 245 [B8 a bits] [] (A0 (lastI a bits)) []:=cT F245 Tryz.ntmps245 fun F hF=>by
 have hr:=Ml a bits
 by_cases hb:0≤bits∧bits≤32
 ·have hrest:=Wf a bits hb
  rw[decide_eq_true hb]at hr
  obtain ⟨k,hk,hk2⟩:∃ k:Nat,(32-bits).toNat=k∧k≤32:=⟨_,rfl,by omega⟩
  have hn:=or_low a k ha hk2
  have hf:=Vu a k bits hb hk
  have h1:=Nat.one_le_two_pow (n:=k)
  have e2:(2:Int) ^ k-1=((2 ^ k-1:Nat):Int):=by
   rw[show (2:Int) ^ k=((2 ^ k:Nat):Int) by rw[Int.natCast_pow];rfl]
   omega
  rw[hk,e2]at hrest
  rw[hf,← hn]
  ((conv=>whnf);repeat((first|refine aF ?_|refine aT ?_);(first|refine rG Γ hm ?_|refine rD Γ hm y_ ?_);conv=>whnf))
  refine c0 hr F296 ?_
  ((first|refine rG Γ hm ?_|refine rD Γ hm y_ ?_);(conv=>whnf);repeat((first|refine aF ?_|refine aT ?_);(first|refine rG Γ hm ?_|refine rD Γ hm y_ ?_);conv=>whnf))
  first | refine cD hrest F297 ?_ | refine c0 hrest F297 ?_
  ((first|refine rG Γ hm ?_|refine rD Γ hm y_ ?_);(conv=>whnf);repeat((first|refine aF ?_|refine aT ?_);(first|refine rG Γ hm ?_|refine rD Γ hm y_ ?_);conv=>whnf))
  first | (refine⟨y_,?_⟩;((conv=>whnf);repeat((first|refine aF ?_|refine aT ?_);(first|refine rG Γ hm ?_|refine rD Γ hm y_ ?_);conv=>whnf))) | skip
  exact dN
 ·rw[decide_eq_false hb]at hr
  have hf:lastI a bits=0:=by rw[lastI,if_neg hb]
  rw[hf]
  ((conv=>whnf);repeat((first|refine aF ?_|refine aT ?_);(first|refine rG Γ hm ?_|refine rD Γ hm y_ ?_);conv=>whnf))
  refine c0 hr F296 ?_
  ((first|refine rG Γ hm ?_|refine rD Γ hm y_ ?_);(conv=>whnf);repeat((first|refine aF ?_|refine aT ?_);(first|refine rG Γ hm ?_|refine rD Γ hm y_ ?_);conv=>whnf))
  exact dN
theorem Iw (a bits:Int):Sy.Spec Tryz.prog 337 [B8 a bits] [] (Af (decide (0≤bits∧bits≤32))) []:=cT F337 Tryz.ntmps337 fun F hF=>by
 conv=>whnf
 (repeat' (first | (refine⟨fun h=>?_,fun h=>?_⟩<;>(repeat (first | simp only[decide_eq_true_eq]at h | simp only[decide_eq_false_iff_not]at h))<;>((refine oO ?_))) | (refine Bv rfl (.cons .tmp .nil) ?_ rfl)))
 all_goals (refine congrArg Af ?_;clear hF;grind)
theorem Yl (a bits:Int) (h:0≤bits∧bits≤32):Sy.Spec Tryz.prog 359 [B8 a bits] [] (Aa (2 ^ (32-bits).toNat:Nat)) []:=cT F359 Tryz.ntmps359 fun F hF=>by
 obtain ⟨k,hk,hk2⟩:∃ k:Nat,(32-bits).toNat=k∧k≤32:=⟨_,rfl,by omega⟩
 rw[hk]
 conv=>whnf
 refine Dk k (fun j=>[(1,.ptr 1 0),(3,Aa (2 ^ j:Nat)),(4,Aa (bits+j))]) (fun _=>[(1,.box [A0 a,Aa bits])]) [] ⟨⟨q_,q_,q_,q_,congrArg (fun z=>SV.val (.int .i64 z)) qf,q_,z_⟩,⟨.inl q_,q_,z_⟩,q_,q_⟩ ?_
 intro j hj
 have hp:2 ^ j≤2 ^ 32:=Nat.pow_le_pow_right qe j_
 have e32:(2:Nat) ^ 32=4294967296:=rfl
 have hs:2 ^ (j+1)=2 ^ j * 2:=Nat.pow_succ ..
 rw[e32]at hp
 obtain ⟨q,hq⟩:∃ q:Nat,2 ^ j=q:=⟨_,rfl⟩
 rw[hq]at hp hs ⊢
 refine oO ?_
 refine⟨fun h2=>?_,fun h2=>?_⟩
 ·have hlt:j<k:=by have:=of_decide_eq_true h2;omega
  refine oO ?_
  refine iW ?_
  refine iW ?_
  refine Dr [] hlt ⟨⟨q_,q_,congrArg (fun z=>SV.val (.int .i64 z)) ?_,q_,congrArg (fun z=>SV.val (.int .i64 z)) ?_,q_,z_⟩,⟨.inl q_,q_,z_⟩,q_,q_⟩
  ·rw[hs];omega
  ·omega
 ·have hjk:j=k:=by have:=of_decide_eq_false h2;omega
  subst hjk
  rw[hq]
  refine oO ?_
  exact dN
theorem Vi (a:Nat) (bits:Int) (ha:a<4294967296):Sy.Spec Tryz.prog 313 [B8 a bits] [] (A0 (Ef a bits)) []:=cT F313 Tryz.ntmps313 fun F hF=>by
 have hr:=Iw a bits
 by_cases hb:0≤bits∧bits≤32
 ·have hsz:=Yl a bits hb
  rw[decide_eq_true hb]at hr
  obtain ⟨k,hk,hk2⟩:∃ k:Nat,(32-bits).toNat=k∧k≤32:=⟨_,rfl,by omega⟩
  have hf:=Ju a k bits hb hk
  have h1:=Nat.one_le_two_pow (n:=k)
  have hp:2 ^ k≤2 ^ 32:=Nat.pow_le_pow_right qe hk2
  have e32:(2:Nat) ^ 32=4294967296:=rfl
  have hdm:=Nat.div_add_mod a (2 ^ k)
  have hml:=Nat.mod_le a (2 ^ k)
  have hdl:=Nat.div_le_self a (2 ^ k)
  rw[e32]at hp
  rw[hk]at hsz
  rw[hf]
  generalize 2 ^ k=q at *
  have w1:IntKind.i64.wrap (a:Int)=a:=by rw[IntKind.wrap_i64];omega
  have w2:IntKind.i64.wrap ((IntKind.i64.wrap (a:Int)).tdiv (q:Int))=((a / q:Nat):Int):=by
   rw[w1,Int.tdiv_eq_ediv_of_nonneg j_,IntKind.wrap_i64]
   have:((a:Int) / (q:Int))=((a / q:Nat):Int):=by simp
   rw[this]
   obtain ⟨d,hd⟩:∃ d:Nat,a / q=d:=⟨_,rfl⟩
   rw[hd]at hdl ⊢
   omega
  have hmul:((a / q:Nat):Int) * (q:Int)=((q * (a / q):Nat):Int):=by rw[Int.natCast_mul,Int.mul_comm]
  conv=>whnf
  refine c0 hr F337 ?_
  refine oF ?_
  refine cD hsz F359 ?_
  refine oD ?_
  refine⟨by omega,?_⟩
  conv=>whnf
  refine cD hsz F359 ?_
  refine oD ?_
  refine⟨(by rw[w2,hmul];unfold I64;omega),?_⟩
  conv=>whnf
  refine kW ?_
  refine Bv q_ (.cons .tmp .nil) ?_ q_
  refine congrArg (fun z=>SV.val (.int .u32 z)) ?_
  rw[w2,hmul,IntKind.wrap_u32]
  omega
 ·rw[decide_eq_false hb]at hr
  have hf:Ef a bits=0:=by rw[Ef,if_neg hb]
  rw[hf]
  conv=>whnf
  refine c0 hr F337 ?_
  refine oT ?_
  exact dN
end Go.Sy.YtgblchnfjbkipaaGreatDoor
namespace Go.Sy.YtgblchnfjbkipaaGreatDoor
open Go.Proofs
def S8 (l:List UInt8):Nat:=l.foldl (fun n c=>n * 256+c.toNat) 0
theorem U5 (l:List UInt8) (c:UInt8):S8 (l++[c])=S8 l * 256+c.toNat:=by
 rw[S8,List.foldl_append];rfl
theorem Acr:∀ (k:Nat) (l:List UInt8),l.length=k→S8 l<256 ^ k
 | 0,l,h=>by rw[List.length_eq_zero_iff.1 h];decide
 | k+1,l,h=>by
  have hne:l≠[]:=fun e=>by rw[e]at h;cases h
  have e:=List.dropLast_concat_getLast hne
  have h1:=Acr k l.dropLast (by rw[List.length_dropLast];omega)
  have h2:=(l.getLast hne).toNat_lt
  rw[← e,U5,Nat.pow_succ]
  omega
theorem Adi (l:List UInt8) {j:Nat} (h:j<l.length):S8 (l.take (j+1))=S8 (l.take j) * 256+l[j].toNat:=by
 rw[List.take_succ_eq_append_getElem h,U5]
def Js (m:Nat):Bool:=decide (m / 1099511627776 % 2=1)
theorem Ai6 (m k:Nat):m &&& 2 ^ k=if m / 2 ^ k % 2=1 then 2 ^ k else 0:=by
 apply Nat.eq_of_testBit_eq
 intro i
 rw[Nat.testBit_and,Nat.testBit_two_pow]
 by_cases hi:k=i
 ·subst hi
  rw[decide_eq_true rfl,Bool.and_true,Nat.testBit_eq_decide_div_mod_eq]
  split
  ·rename_i h;rw[decide_eq_true h,Nat.testBit_two_pow_self]
  ·rename_i h;rw[decide_eq_false h,Nat.zero_testBit]
 ·rw[decide_eq_false hi,Bool.and_false]
  split
  ·rw[Nat.testBit_two_pow,decide_eq_false hi]
  ·rw[Nat.zero_testBit]
theorem V3 (m:Nat) (h:m<18446744073709551616):(bits .and .u64 (m:Int) 1099511627776 != 0)=Js m:=by
 have e:=bits_and_u64_nat m 1099511627776 h qe
 rw[show ((1099511627776:Nat):Int)=1099511627776 from rfl]at e
 rw[e,show (1099511627776:Nat)=2 ^ 40 from rfl,Ai6,Js,show (1099511627776:Nat)=2 ^ 40 from rfl]
 split
 ·rename_i h;rw[decide_eq_true h];rfl
 ·rename_i h;rw[decide_eq_false h];rfl
theorem Ahm (m:Nat):decide ((UInt8.ofNat (m / 256 ^ 5)).toNat % 2=1)=Js m:=by
 rw[Js]
 refine decide_eq_decide.2 ?_
 rw[show (256:Nat) ^ 5=1099511627776 from rfl,UInt8.toNat_ofNat']
 omega
end Go.Sy.YtgblchnfjbkipaaGreatDoor
namespace Go.Sy.YtgblchnfjbkipaaGreatDoor
open Go.Proofs
set_option maxRecDepth 20000
set_option maxHeartbeats 4000000
theorem Ae1 {x:Int} (h0:0≤x) (h1:x<4294967297):IntKind.i64.wrap x=x:=by
 rw[IntKind.wrap_i64];omega
theorem Ag9 (a b:Int) (ha:0≤a∧a<4294967296):0≤lastI a b∧lastI a b<4294967296:=by
 by_cases hb:0≤b∧b≤32
 ·obtain ⟨a,rfl⟩:=Int.eq_ofNat_of_zero_le ha.1
  obtain ⟨k,hk,hk2⟩:∃ k:Nat,(32-b).toNat=k∧k≤32:=⟨_,rfl,by omega⟩
  have h0:=Nat.one_le_two_pow (n:=k)
  rw[Vu a k b hb hk]
  have hd:a-a % 2 ^ k=2 ^ k * (a / 2 ^ k):=by have:=Nat.div_add_mod a (2 ^ k);omega
  have h32:2 ^ k * 2 ^ (32-k)=4294967296:=by
   rw[← Nat.pow_add,show k+(32-k)=32 by omega]
  have:a / 2 ^ k<2 ^ (32-k):=by rw[Nat.div_lt_iff_lt_mul j_,Nat.mul_comm,h32];omega
  have:2 ^ k * (a / 2 ^ k)+2 ^ k≤2 ^ k * 2 ^ (32-k):=by
   rw[← Nat.mul_succ];exact Nat.mul_le_mul_left _ this
  omega
 ·rw[lastI,if_neg hb];omega
theorem Ae4 (a b:Int) (ha:0≤a∧a<4294967296):0≤Ef a b∧Ef a b<4294967296:=by
 by_cases hb:0≤b∧b≤32
 ·obtain ⟨a,rfl⟩:=Int.eq_ofNat_of_zero_le ha.1
  rw[Ju a _ b hb rfl]
  omega
 ·rw[Ef,if_neg hb];omega
end Go.Sy.YtgblchnfjbkipaaGreatDoor
namespace Go.Sy.YtgblchnfjbkipaaGreatDoor
open Go.Proofs
attribute [local irreducible] Go.Sy.G Go.Sy.DR
set_option maxRecDepth 20000
set_option maxHeartbeats 8000000
theorem Un:∀ (n:Nat) (l:List UInt8),n<1000000000000000000→l.length+(revDigs n).length<1000000 →
  Sy.Spec Tryz.prog 300 [.osl 0,Aa n] [(0,.row 1 Ak l)] (.osl 1) [(0,.non),(1,.row 1 Ak (l++(revDigs n).reverse))]:=by
 intro n
 induction n using Nat.strongRecOn with
 | ind n ih =>
  intro l hn hl
  have hpos:=D2 n
  have hrev:=Io n
  have hlr:(revDigs n).reverse.length=(revDigs n).length:=List.length_reverse
  refine Hd Γ hm 100 F300 Tryz.ntmps300 q_ fun F hF=>by
   ((conv=>whnf);repeat((first|refine aF ?_|refine aT ?_);(first|refine rG Γ hm ?_|refine rD Γ hm y_ ?_);conv=>whnf))
   refine⟨fun h=>?_,fun h=>?_⟩
   ·have h1:¬ n<10:=qA h
    rw[if_neg h1]at hrev
    have hlen:(revDigs (n / 10)).length+1=(revDigs n).length:=by
     rw[← hlr,hrev];simp
    have q:=ih (n / 10) j_ l j_ j_
    ((first|refine rG Γ hm ?_|refine rD Γ hm y_ ?_);(conv=>whnf);repeat((first|refine aF ?_|refine aT ?_);(first|refine rG Γ hm ?_|refine rD Γ hm y_ ?_);conv=>whnf))
    refine⟨by decide,?_⟩
    ((conv=>whnf);repeat((first|refine aF ?_|refine aT ?_);(first|refine rG Γ hm ?_|refine rD Γ hm y_ ?_);conv=>whnf))
    rw[Afq n hn]
    refine Cq (Ae [(0,0),(1,1000)] q_ F300 q q_ ⟨q_,z_⟩ q_ ⟨.inl q_,.inr q_,z_⟩) q_ q_ ?_
    ((first|refine rG Γ hm ?_|refine rD Γ hm y_ ?_);(conv=>whnf);repeat((first|refine aF ?_|refine aT ?_);(first|refine rG Γ hm ?_|refine rD Γ hm y_ ?_);conv=>whnf))
    refine⟨by decide,?_⟩
    ((conv=>whnf);repeat((first|refine aF ?_|refine aT ?_);(first|refine rG Γ hm ?_|refine rD Γ hm y_ ?_);conv=>whnf))
    rw[Wk n]
    refine iL ?_
    ((conv=>whnf);repeat((first|refine aF ?_|refine aT ?_);(first|refine rG Γ hm ?_|refine rD Γ hm y_ ?_);conv=>whnf))
    rw[Ae6 n]
    refine Cq (Ai Γ.toTy 17 rfl rfl rfl rfl rfl (.row rfl) (.lit (e:=Ak) (l:=[UInt8.ofNat (48+n % 10)]) rfl rfl) (fun j hj=>by cases hj;decide) (by simp;omega) (by simp;omega)) rfl rfl ?_
    ((first|refine rG Γ hm ?_|refine rD Γ hm y_ ?_);(conv=>whnf);repeat((first|refine aF ?_|refine aT ?_);(first|refine rG Γ hm ?_|refine rD Γ hm y_ ?_);conv=>whnf))
    exact done q_ (.cons .tmp .nil) [(1,17)] [(0,.non),(1,.row 1 Ak (l++(revDigs n).reverse))] (fun _ h=>h) q_ q_ ⟨z_,⟨.inl q_,q_,.inl (by rw[hrev,← List.append_assoc];rfl),q_,z_⟩,q_,q_⟩
   ·have h1:n<10:=qB h
    rw[if_pos h1,List.nil_append]at hrev
    ((first|refine rG Γ hm ?_|refine rD Γ hm y_ ?_);(conv=>whnf);repeat((first|refine aF ?_|refine aT ?_);(first|refine rG Γ hm ?_|refine rD Γ hm y_ ?_);conv=>whnf))
    refine⟨by decide,?_⟩
    ((conv=>whnf);repeat((first|refine aF ?_|refine aT ?_);(first|refine rG Γ hm ?_|refine rD Γ hm y_ ?_);conv=>whnf))
    rw[Wk n]
    refine iL ?_
    ((conv=>whnf);repeat((first|refine aF ?_|refine aT ?_);(first|refine rG Γ hm ?_|refine rD Γ hm y_ ?_);conv=>whnf))
    rw[Ae6 n]
    refine Cq (Ai Γ.toTy 17 q_ q_ q_ q_ q_ (.row q_) (.lit (e:=Ak) (l:=[UInt8.ofNat (48+n % 10)]) q_ q_) qf (by simp;omega) (by simp;omega)) q_ q_ ?_
    ((first|refine rG Γ hm ?_|refine rD Γ hm y_ ?_);(conv=>whnf);repeat((first|refine aF ?_|refine aT ?_);(first|refine rG Γ hm ?_|refine rD Γ hm y_ ?_);conv=>whnf))
    exact done q_ (.cons .tmp .nil) [(1,17)] [(0,.non),(1,.row 1 Ak (l++(revDigs n).reverse))] (fun _ h=>h) q_ q_ ⟨z_,⟨.inl q_,q_,.inl (by rw[hrev];rfl),q_,z_⟩,q_,q_⟩
def octN (a i:Nat):Nat:=a / 256 ^ (3-i) % 256
def Iu (a:Nat):Nat→List UInt8
 | 0=>[]
 | j+1=>Iu a j++(if 0<j then [46] else [])++(revDigs (octN a j)).reverse
def Be (a:Int):ByteArray:=mkT (Iu a.toNat 4)
theorem Q0 (a i:Nat):(revDigs (octN a i)).length≤4:=Bw 3 _ (by unfold octN;omega)
theorem Jz (a:Nat):∀ j,(Iu a j).length≤5 * j
 | 0=>by simp[Iu]
 | j+1=>by
  have:=Jz a j
  have h2:=Q0 a j
  rw[Iu,List.length_append,List.length_append,List.length_reverse]
  split<;>simp<;>omega
theorem Aeh (a j:Nat) (ha:a<4294967296) (hj:j<4):IntKind.i64.wrap (IntKind.u8.wrap ((a:Int).fdiv (2 ^ (min (8 * (3-(j:Int))).toNat IntKind.u32.bits))))=((octN a j:Nat):Int):=by
 have h:(8 * (3-(j:Int))).toNat=8 * (3-j):=by omega
 have hb:min (8 * (3-j)) IntKind.u32.bits=8 * (3-j):=by show min _ 32=_;omega
 have hp:(2:Nat) ^ (8 * (3-j))=256 ^ (3-j):=by rw[Nat.pow_mul]
 rw[h,hb,show (2:Int) ^ (8 * (3-j))=((2 ^ (8 * (3-j)):Nat):Int) by rw[Int.natCast_pow];rfl,hp,Int.fdiv_eq_ediv_of_nonneg _ (Int.natCast_nonneg _),← Int.natCast_ediv,octN,IntKind.wrap_u8,IntKind.wrap_i64]
 have:a / 256 ^ (3-j)≤a:=Nat.div_le_self _ _
 omega
theorem Qn (a:Nat) (ha:a<4294967296):Sy.Spec Tryz.prog 251 [A0 a] [] (Ab (Be a)) []:=cT F251 Tryz.ntmps251 fun F hF=>by
 ((conv=>whnf);repeat((first|refine aF ?_|refine aT ?_);(first|refine rG Γ hm ?_|refine rD Γ hm y_ ?_);conv=>whnf))
 refine Ct 3 1000 1 Ak q_ q_ ?_
 refine Dk 4 (fun j=>[(0,A0 a),(3,.osl 1000),(5,Aa j)]) (fun j=>[(1000,.row 1 Ak (Iu a j))]) []
  ⟨⟨rfl,rfl,rfl,rfl,rfl,rfl,trivial⟩,⟨.inl rfl,rfl,trivial⟩,rfl,rfl⟩ ?_
 intro j hj
 have hlu:=Jz a j
 have hsu:Iu a (j+1)=Iu a j++(if 0<j then [46] else [])++(revDigs (octN a j)).reverse:=rfl
 have hro:=Q0 a j
 generalize hu:Iu a j=u at *
 ((first|refine rG Γ hm ?_|refine rD Γ hm y_ ?_);(conv=>whnf);repeat((first|refine aF ?_|refine aT ?_);(first|refine rG Γ hm ?_|refine rD Γ hm y_ ?_);conv=>whnf))
 refine⟨fun h=>?_,fun h=>?_⟩
 ·have hlt:j<4:=qA h
  have hsh:=Aeh a j ha hlt
  have hob:octN a j<1000000000000000000:=by unfold octN;omega
  ((first|refine rG Γ hm ?_|refine rD Γ hm y_ ?_);(conv=>whnf);repeat((first|refine aF ?_|refine aT ?_);(first|refine rG Γ hm ?_|refine rD Γ hm y_ ?_);conv=>whnf))
  refine⟨fun h=>?_,fun h=>?_⟩
  ·have h0:0<j:=qA h
   rw[if_pos h0]at hsu
   have q:=Un (octN a j) (u++[46]) hob (by simp;omega)
   ((first|refine rG Γ hm ?_|refine rD Γ hm y_ ?_);(conv=>whnf);repeat((first|refine aF ?_|refine aT ?_);(first|refine rG Γ hm ?_|refine rD Γ hm y_ ?_);conv=>whnf))
   refine Cq (Ai Γ.toTy 12 q_ q_ q_ q_ q_ (.row q_) (.lit (e:=Ak) (l:=[46]) q_ q_) qe (by simp;omega) (by simp;omega)) q_ q_ ?_
   ((first|refine rG Γ hm ?_|refine rD Γ hm y_ ?_);(conv=>whnf);repeat((first|refine aF ?_|refine aT ?_);(first|refine rG Γ hm ?_|refine rD Γ hm y_ ?_);conv=>whnf))
   refine iL ?_
   ((conv=>whnf);repeat((first|refine aF ?_|refine aT ?_);(first|refine rG Γ hm ?_|refine rD Γ hm y_ ?_);conv=>whnf))
   refine iL ?_
   ((conv=>whnf);repeat((first|refine aF ?_|refine aT ?_);(first|refine rG Γ hm ?_|refine rD Γ hm y_ ?_);conv=>whnf))
   refine⟨by omega,?_⟩
   ((conv=>whnf);repeat((first|refine aF ?_|refine aT ?_);(first|refine rG Γ hm ?_|refine rD Γ hm y_ ?_);conv=>whnf))
   rw[hsh]
   refine Cq (Ae [(0,12),(1,1001)] q_ F300 q q_ ⟨q_,z_⟩ q_ ⟨.inl q_,.inr q_,z_⟩) q_ q_ ?_
   ((first|refine rG Γ hm ?_|refine rD Γ hm y_ ?_);(conv=>whnf);repeat((first|refine aF ?_|refine aT ?_);(first|refine rG Γ hm ?_|refine rD Γ hm y_ ?_);conv=>whnf))
   refine iL ?_
   ((conv=>whnf);repeat((first|refine aF ?_|refine aT ?_);(first|refine rG Γ hm ?_|refine rD Γ hm y_ ?_);conv=>whnf))
   exact Dr [(1000,1001)] hlt ⟨⟨q_,q_,q_,q_,q_,q_,z_⟩,⟨.inl (congrArg (Ob.row 1 Ak) hsu),q_,z_⟩,q_,q_⟩
  ·have h0:¬ 0<j:=qB h
   rw[if_neg h0,List.append_nil]at hsu
   have q:=Un (octN a j) u hob j_
   ((first|refine rG Γ hm ?_|refine rD Γ hm y_ ?_);(conv=>whnf);repeat((first|refine aF ?_|refine aT ?_);(first|refine rG Γ hm ?_|refine rD Γ hm y_ ?_);conv=>whnf))
   refine iL ?_
   ((conv=>whnf);repeat((first|refine aF ?_|refine aT ?_);(first|refine rG Γ hm ?_|refine rD Γ hm y_ ?_);conv=>whnf))
   refine iL ?_
   ((conv=>whnf);repeat((first|refine aF ?_|refine aT ?_);(first|refine rG Γ hm ?_|refine rD Γ hm y_ ?_);conv=>whnf))
   refine⟨by omega,?_⟩
   ((conv=>whnf);repeat((first|refine aF ?_|refine aT ?_);(first|refine rG Γ hm ?_|refine rD Γ hm y_ ?_);conv=>whnf))
   rw[hsh]
   refine Cq (Ae [(0,1000),(1,1001)] q_ F300 q q_ ⟨q_,z_⟩ q_ ⟨.inl q_,.inr q_,z_⟩) q_ q_ ?_
   ((first|refine rG Γ hm ?_|refine rD Γ hm y_ ?_);(conv=>whnf);repeat((first|refine aF ?_|refine aT ?_);(first|refine rG Γ hm ?_|refine rD Γ hm y_ ?_);conv=>whnf))
   refine iL ?_
   ((conv=>whnf);repeat((first|refine aF ?_|refine aT ?_);(first|refine rG Γ hm ?_|refine rD Γ hm y_ ?_);conv=>whnf))
   exact Dr [(1000,1001)] hlt ⟨⟨q_,q_,q_,q_,q_,q_,z_⟩,⟨.inl (congrArg (Ob.row 1 Ak) hsu),q_,z_⟩,q_,q_⟩
 ·have:j=4:=qB h
  subst this
  subst hu
  ((first|refine rG Γ hm ?_|refine rD Γ hm y_ ?_);(conv=>whnf);repeat((first|refine aF ?_|refine aT ?_);(first|refine rG Γ hm ?_|refine rD Γ hm y_ ?_);conv=>whnf))
  refine Cq (Bk Γ.toTy (bs:=Iu a 4) q_ q_ q_ q_ q_ q_ q_ (.row q_)) q_ q_ ?_
  ((first|refine rG Γ hm ?_|refine rD Γ hm y_ ?_);(conv=>whnf);repeat((first|refine aF ?_|refine aT ?_);(first|refine rG Γ hm ?_|refine rD Γ hm y_ ?_);conv=>whnf))
  exact dN
end Go.Sy.YtgblchnfjbkipaaGreatDoor
namespace Go.Sy.YtgblchnfjbkipaaGreatDoor
open Go.Proofs
theorem C1 (a b:ByteArray):(a == b)=true↔a=b:=by
 cases a with
 | mk a =>
  cases b with
  | mk b =>
   show (a == b)=true↔_
   simp
instance:LawfulBEq ByteArray where
 eq_of_beq h:=(C1 _ _).1 h
 rfl:=(C1 _ _).2 rfl
def letB (c:UInt8):Bool:=decide (97≤c.toNat) && decide (c.toNat≤122)
def Ag1:List UInt8→Bool
 | []=>false
 | c::l=>letB c && l.all fun c=>letB c || Cc c
def nameB (s:ByteArray):Bool:=Ag1 s.data.toList && decide (s.size≤12)
def Eb (s:ByteArray) (i:Nat):Bool:=decide (digI (Ad s (3 * i))≤15) && decide (digI (Ad s (3 * i+1))≤15) && (decide (5≤i) || decide ((Ad s (3 * i+2)).toNat=58))
def Ko (s:ByteArray):Nat→Int
 | 0=>0
 | i+1=>Ko s i * 256+digI (Ad s (3 * i)) * 16+digI (Ad s (3 * i+1))
def macR (s:ByteArray):Int × Bool:=if s.size=17∧(List.range 6).all (Eb s)=true then (Ko s 6,true) else (0,false)
def D7 (m:Int):Bool:=decide (m % 281474976710656 / 4294967296=512)
def statB (m:Int):Bool:=decide (m≤281474976710655) && !(D7 m) && !(Js m.toNat)
def Bj (one:ByteArray→Int × Bool):List Int→List ByteArray→List Int × Bool
 | out,[]=>(out,true)
 | out,p::r=>if (one p).2=false∨out.length=16∨(∃ x,out.getLast? = some x∧(one p).1≤x) then ([],false) else Bj one (out++[(one p).1]) r
def Cn (one:ByteArray→Int × Bool) (s:ByteArray):List Int × Bool:=Bj one [] (Au 44 s)
def dash:ByteArray:=⟨#[45]⟩
def listR (most:Int) (s:ByteArray):List Int × Bool:=if s=dash then ([],true) else Cn (fun p=>numR p 1 most) s
def Az (s:ByteArray):List Int × Bool:=Cn A8 s
def prefixR (s:ByteArray):(Int × Int) × Bool :=
 if (cutT 47 s).2.2=false∨(A8 (cutT 47 s).1).2=false∨(smallT (cutT 47 s).2.1 32).2=false then ((0,0),false) else (((A8 (cutT 47 s).1).1,(smallT (cutT 47 s).2.1 32).1),true)
def subnetB (a bits:Int):Bool:=decide (1≤bits) && decide (bits≤30) && decide (a≠Ef a bits) && decide (a≠lastI a bits)
def At:List (Bool × Int)→Int
 | []=>0
 | (b,e)::l=>if b=true then e else At l
def Aj (cur:Int) (b:Bool) (e:Int):Int:=if b=true∧cur=0 then e else cur
def kindL (s:ByteArray):Int :=
 if s=⟨#[100,101,118,105,99,101]⟩ then 1 else if s=⟨#[112,111,114,116]⟩ then 2 else if s=⟨#[108,105,110,107]⟩ then 3 else if s=⟨#[115,116,97,116,105,99]⟩ then 4
 else if s=⟨#[118,116,101,112]⟩ then 5 else if s=⟨#[118,110,105]⟩ then 6 else if s=⟨#[102,108,111,111,100]⟩ then 7 else if s=⟨#[118,114,102]⟩ then 8 else if s=⟨#[105,114,98]⟩ then 9 else 0
def accessT:ByteArray:=⟨#[97,99,99,101,115,115]⟩
def trunkT:ByteArray:=⟨#[116,114,117,110,107]⟩
def wdT (w:List ByteArray) (i:Nat):ByteArray:=(w[i]?).getD ⟨#[]⟩
def manyB (k:Int) (w:List ByteArray):Bool :=
 if k=0 then false
 else if k=2 then (if w.length<6 then false else if wdT w 4=accessT then decide (w.length=6) else if wdT w 4=trunkT then decide (w.length=7) else decide (w.length≤7))
 else if k=3∨k=4∨k=8∨k=9 then decide (w.length=5) else if k=5 then decide (w.length=3) else decide (w.length=4)
def membersB (vlan:Int) (tagged:List Int):Bool:=(decide (0<vlan) || !tagged.isEmpty) && !(tagged.contains vlan)
def lineZ:LineM:=⟨0,0,⟨#[]⟩,⟨#[]⟩,⟨#[]⟩,⟨#[]⟩,⟨#[]⟩,0,0,0,0,0,0,[],[],[],[]⟩
def A1 (s:ByteArray):Int × Bool:=numR s 1 4094
def El (s:ByteArray):Int × Bool:=numR s 1 16777215
def Bs (w:List ByteArray):Int × List Int × List (Bool × Int) :=
 if wdT w 4=accessT then ((A1 (wdT w 5)).1,[],[(!(A1 (wdT w 5)).2,21)])
 else if wdT w 4=trunkT then
  (if wdT w 5=dash then (0,(listR 4094 (wdT w 6)).1,[(!(listR 4094 (wdT w 6)).2,21)])
   else ((A1 (wdT w 5)).1,(listR 4094 (wdT w 6)).1,[(!(A1 (wdT w 5)).2,21),(!(listR 4094 (wdT w 6)).2,21)]))
 else (0,[],[])
def Ap (w:List ByteArray) (row:Int):LineM × List (Bool × Int) :=
 let n:=fun i=>(!(nameB (wdT w i)),(20:Int))
 let k:=kindL (wdT w 0)
 if k=1 then ({ lineZ with row:=row,kind:=1,dev:=wdT w 1,num:=(numR (wdT w 2) 0 65535).1,mac:=(macR (wdT w 3)).1 },[n 1,(!(numR (wdT w 2) 0 65535).2,21),(!((macR (wdT w 3)).2 && statB (macR (wdT w 3)).1),21)])
 else if k=2 then ({ lineZ with row:=row,kind:=2,dev:=wdT w 1,port:=wdT w 2,cost:=(numR (wdT w 3) 1 65535).1,vlan:=(Bs w).1,tagged:=(Bs w).2.1 },
  [n 1,n 2,(!(numR (wdT w 3) 1 65535).2,21),(decide (wdT w 4≠accessT) && decide (wdT w 4≠trunkT),20)]++(Bs w).2.2++[(!(membersB (Bs w).1 (Bs w).2.1),21)])
 else if k=3 then ({ lineZ with row:=row,kind:=3,dev:=wdT w 1,port:=wdT w 2,peer:=wdT w 3,far:=wdT w 4 },[n 1,n 2,n 3,n 4])
 else if k=4 then ({ lineZ with row:=row,kind:=4,dev:=wdT w 1,vlan:=(A1 (wdT w 2)).1,mac:=(macR (wdT w 3)).1,port:=wdT w 4 },[n 1,(!(A1 (wdT w 2)).2,21),(!((macR (wdT w 3)).2 && statB (macR (wdT w 3)).1),21),n 4])
 else if k=5 then ({ lineZ with row:=row,kind:=5,dev:=wdT w 1,addr:=(A8 (wdT w 2)).1 },[n 1,(!((A8 (wdT w 2)).2 && decide ((A8 (wdT w 2)).1≠0)),21)])
 else if k=6 then ({ lineZ with row:=row,kind:=6,dev:=wdT w 1,vlan:=(A1 (wdT w 2)).1,num:=(El (wdT w 3)).1 },[n 1,(!(A1 (wdT w 2)).2,21),(!(El (wdT w 3)).2,21)])
 else if k=7 then ({ lineZ with row:=row,kind:=7,dev:=wdT w 1,num:=(El (wdT w 2)).1,addrs:=(Az (wdT w 3)).1 },[n 1,(!(El (wdT w 2)).2,21),(!((Az (wdT w 3)).2 && decide ((Az (wdT w 3)).1.head? ≠ some 0)),21)])
 else if k=8 then ({ lineZ with row:=row,kind:=8,dev:=wdT w 1,name:=wdT w 2,imports:=(listR 65535 (wdT w 3)).1,exports:=(listR 65535 (wdT w 4)).1 },[n 1,n 2,(!(listR 65535 (wdT w 3)).2,21),(!(listR 65535 (wdT w 4)).2,21)])
 else ({ lineZ with row:=row,kind:=9,dev:=wdT w 1,vlan:=(A1 (wdT w 2)).1,name:=wdT w 3,addr:=(prefixR (wdT w 4)).1.1,bits:=(prefixR (wdT w 4)).1.2 },
  [n 1,(!(A1 (wdT w 2)).2,21),n 3,(!((prefixR (wdT w 4)).2 && subnetB (prefixR (wdT w 4)).1.1 (prefixR (wdT w 4)).1.2),21)])
def Ba (w:List ByteArray) (row:Int):LineM × Int :=
 if w=[]∨manyB (kindL (wdT w 0)) w=false then (lineZ,22) else if At (Ap w row).2≠0 then (lineZ,At (Ap w row).2) else ((Ap w row).1,0)
def Ch (cur:List UInt8):List ByteArray:=if cur=[] then [] else [mkT cur]
def B7:List UInt8→List UInt8→List ByteArray
 | cur,[]=>Ch cur
 | cur,c::r=>if c=35 then Ch cur else if c=32∨c=9 then Ch cur++B7 [] r else B7 (cur++[c]) r
def Mn (c:UInt8):Bool:=decide (32<c.toNat) && decide (c.toNat≤126) && decide (c.toNat≠35)
def wordB (s:ByteArray):Bool:=decide (0<s.size) && decide (s.size≤40) && s.data.toList.all Mn
def wordsT (row:ByteArray):List ByteArray × Int:=if (B7 [] row.data.toList).all wordB=true then (B7 [] row.data.toList,0) else ([],20)
def En:Nat→List ByteArray→List LineM→List LineM × Int × Int
 | _,[],out=>(out,0,0)
 | i,r::rs,out =>
  if (wordsT r).2≠0 then ([],(i:Int)+1,(wordsT r).2) else if (wordsT r).1=[] then En (i+1) rs out
  else if (Ba (wordsT r).1 ((i:Int)+1)).2≠0 then ([],(i:Int)+1,(Ba (wordsT r).1 ((i:Int)+1)).2) else En (i+1) rs (out++[(Ba (wordsT r).1 ((i:Int)+1)).1])
def textT (b:List UInt8):List LineM × Int × Int:=if (rowsT b).2≠0 then ([],0,(rowsT b).2) else En 0 (rowsT b).1 []
def B6 (d:Nat):UInt8:=if d<10 then UInt8.ofNat (48+d) else UInt8.ofNat (87+d)
def byteN (m j:Nat):Nat:=m / 256 ^ (5-j) % 256
def Iz (m:Nat):Nat→List UInt8
 | 0=>[]
 | j+1=>Iz m j++(if 0<j then [58] else [])++[B6 (byteN m j / 16),B6 (byteN m j % 16)]
def Ao (m:Int):ByteArray:=mkT (Iz m.toNat 6)
def comma:ByteArray:=⟨#[44]⟩
def Dz (l:List Int):ByteArray:=Bn (l.map Al) comma
def B9 (l:List Int):ByteArray:=Bn (l.map Be) comma
def By (l:List Int):ByteArray:=if l=[] then dash else Dz l
def B0 (a bits:Int):ByteArray:=if 0≤bits∧bits≤32 then mkT ((Be a).data.toList++[47]++(revDigs bits.toNat).reverse) else ⟨#[]⟩
def Hk (l:LineM):List ByteArray :=
 if l.tagged=[] then [⟨#[112,111,114,116]⟩,l.dev,l.port,Al l.cost,accessT,Al l.vlan]
 else [⟨#[112,111,114,116]⟩,l.dev,l.port,Al l.cost,trunkT,if l.vlan=0 then dash else Al l.vlan,By l.tagged]
def Ah (l:LineM):List ByteArray :=
 if l.kind=1 then [⟨#[100,101,118,105,99,101]⟩,l.dev,Al l.num,Ao l.mac]
 else if l.kind=2 then Hk l
 else if l.kind=3 then [⟨#[108,105,110,107]⟩,l.dev,l.port,l.peer,l.far]
 else if l.kind=4 then [⟨#[115,116,97,116,105,99]⟩,l.dev,Al l.vlan,Ao l.mac,l.port]
 else if l.kind=5 then [⟨#[118,116,101,112]⟩,l.dev,Be l.addr]
 else if l.kind=6 then [⟨#[118,110,105]⟩,l.dev,Al l.vlan,Al l.num]
 else if l.kind=7 then [⟨#[102,108,111,111,100]⟩,l.dev,Al l.num,B9 l.addrs]
 else if l.kind=8 then [⟨#[118,114,102]⟩,l.dev,l.name,By l.imports,By l.exports]
 else if l.kind=9 then [⟨#[105,114,98]⟩,l.dev,Al l.vlan,l.name,B0 l.addr l.bits]
 else []
def Hp (a b:LineM):Bool :=
 a.row == b.row && (a.kind == b.kind && (a.dev == b.dev && (a.port == b.port && (a.peer == b.peer && (a.far == b.far && (a.name == b.name && (a.mac == b.mac && (a.addr == b.addr && (a.bits == b.bits &&
 (a.vlan == b.vlan && (a.num == b.num && (a.cost == b.cost && (a.tagged == b.tagged && (a.imports == b.imports && (a.exports == b.exports && a.addrs == b.addrs)))))))))))))))
def Bg (n lo hi:Int):Bool:=decide (lo≤n) && decide (n≤hi)
abbrev Cs (l:List Int) (hi:Int):Bool:=Vf l hi
def Hf (l:List Int):Bool:=(List.range l.length).all (fun i=>decide (l.getD i 0≠0) && (i == 0 || decide (l.getD (i-1) 0<l.getD i 0))) && (decide (0<l.length) && decide (l.length≤16))
def Aq (l:LineM):LineM × Bool :=
 let u:LineM:={ lineZ with row:=l.row,kind:=l.kind,dev:=l.dev }
 if l.kind=1 then ({ u with num:=l.num,mac:=l.mac },Bg l.num 0 65535 && statB l.mac)
 else if l.kind=2 then ({ u with port:=l.port,cost:=l.cost,vlan:=l.vlan,tagged:=l.tagged },nameB l.port && (Bg l.cost 1 65535 && (Bg l.vlan 0 4094 && (Cs l.tagged 4094 && membersB l.vlan l.tagged))))
 else if l.kind=3 then ({ u with port:=l.port,peer:=l.peer,far:=l.far },nameB l.port && (nameB l.peer && nameB l.far))
 else if l.kind=4 then ({ u with vlan:=l.vlan,mac:=l.mac,port:=l.port },Bg l.vlan 1 4094 && (statB l.mac && nameB l.port))
 else if l.kind=5 then ({ u with addr:=l.addr },decide (l.addr≠0))
 else if l.kind=6 then ({ u with vlan:=l.vlan,num:=l.num },Bg l.vlan 1 4094 && Bg l.num 1 16777215)
 else if l.kind=7 then ({ u with num:=l.num,addrs:=l.addrs },Bg l.num 1 16777215 && Hf l.addrs)
 else if l.kind=8 then ({ u with name:=l.name,imports:=l.imports,exports:=l.exports },nameB l.name && (Cs l.imports 65535 && Cs l.exports 65535))
 else if l.kind=9 then ({ u with vlan:=l.vlan,name:=l.name,addr:=l.addr,bits:=l.bits },Bg l.vlan 1 4094 && (nameB l.name && subnetB l.addr l.bits))
 else (u,false)
def A7 (l:LineM):Bool:=(Aq l).2 && (nameB l.dev && Hp (Aq l).1 l)
def space:ByteArray:=⟨#[32]⟩
def Da:List LineM→List UInt8→List UInt8 × Int
 | [],b=>(b,0)
 | x::l,b=>if A7 x=false then ([],2) else Da l (b++(Bn (Ah x) space).data.toList++[10])
def plainT (l:List LineM):List UInt8 × Int :=
 if (Da l []).2≠0 then ([],(Da l []).2) else if 400<l.length∨20000<(Da l []).1.length then ([],3) else ((Da l []).1,0)
def orderT (b:List UInt8):List UInt8 × Int × Int :=
 if (textT b).2.2≠0 then ([],(textT b).2.1,(textT b).2.2) else ((plainT (Bp (textT b).1)).1,0,(plainT (Bp (textT b).1)).2)
theorem S3 (d:Nat) (h:d<10):(UInt8.ofNat (48+d)).toNat=48+d:=UInt8.toNat_ofNat_of_lt' (by show _<256;omega)
theorem Ahw (d:Nat) (h:d<10):Cc (UInt8.ofNat (48+d))=true:=by
 rw[Cc,S3 d h,decide_eq_true j_,decide_eq_true j_];rfl
theorem S2 (n:Nat):(∀ c∈(revDigs n).reverse,Cc c=true)∧Ei (revDigs n).reverse=n:=by
 induction n using Nat.strongRecOn with
 | ind n ih =>
  rw[Io]
  have h10:n % 10<10:=Nat.mod_lt _ qe
  by_cases h:n<10
  ·rw[if_pos h,List.nil_append]
   refine⟨fun c hc=>?_,?_⟩
   ·simp only[List.mem_singleton]at hc
    rw[hc];exact Ahw _ h10
   ·have:=Hn [] (UInt8.ofNat (48+n % 10))
    rw[List.nil_append]at this
    rw[this,S3 _ h10]
    have h0:Ei []=0:=rfl
    rw[h0];omega
  ·rw[if_neg h]
   obtain ⟨h1,h2⟩:=ih (n / 10) j_
   refine⟨fun c hc=>?_,?_⟩
   ·rcases List.mem_append.1 hc with hc | hc
    ·exact h1 c hc
    ·simp only[List.mem_singleton]at hc
     rw[hc];exact Ahw _ h10
   ·rw[Hn,h2,S3 _ h10];omega
theorem Ai1 (n:Nat):(revDigs n).reverse≠[]:=by
 have:=D2 n
 intro h
 have h2:=congrArg List.length h
 rw[List.length_reverse]at h2
 simp at h2
 rw[h2]at this;simp at this
theorem V9 (n:Nat) (c:UInt8) (h:(revDigs n).reverse.head? = some c):Cc c=true:=by
 refine(S2 n).1 c ?_
 cases hd:(revDigs n).reverse with
 | nil=>rw[hd]at h;cases h
 | cons x l=>rw[hd]at h;simp at h;rw[h];simp
theorem Xy {c:UInt8} (h:Cc c=true) (d:UInt8) (hd:d.toNat<48∨57<d.toNat):c≠d:=by
 intro e;subst e
 simp only[Cc,Bool.and_eq_true,decide_eq_true_eq]at h
 omega
theorem Tx (n:Nat):Mb (mkT (revDigs n).reverse)=false:=by
 rw[Mb,A2]
 cases hh:(revDigs n).reverse.head? with
 | none=>rfl
 | some c =>
  have:=Xy (V9 n c hh) 45 (.inl qe)
  simp[this]
theorem Aej (n:Nat):Ew (Al (n:Int))=(revDigs n).reverse:=by
 rw[C4,Ew,if_neg (by rw[Tx];simp),A2]
theorem I9 {n lo hi:Int} (h0:0≤n) (h1:n<1000000000) (hlo:lo≤n) (hhi:n≤hi):numR (Al n) lo hi=(n,true):=by
 obtain ⟨m,rfl⟩:∃ m:Nat,n=m:=⟨n.toNat,by omega⟩
 have hd:=Aej m
 have hs:=Bw 9 m j_
 have hp:=D2 m
 obtain ⟨ha,hv⟩:=S2 m
 have hall:(Ew (Al (m:Int))).all Cc=true:=by rw[hd,List.all_eq_true];exact ha
 have hnv:numV (Al (m:Int))=m:=by rw[numV,if_neg (by rw[C4,Tx];simp),hd,hv]
 rw[numR,if_neg (by rw[hd,List.length_reverse];omega),if_neg (by rw[hall];simp),hnv,if_neg j_,if_pos qf]
theorem Acx {s:ByteArray} {lo hi v:Int} (h:numR s lo hi=(v,true)):lo≤v∧v≤hi:=by
 unfold numR at h
 repeat' split at h
 all_goals first | (simp at h;done) | (simp only[Prod.mk.injEq,and_true]at h;omega)
theorem Dt {s:ByteArray} {lo hi:Int} (h:(numR s lo hi).2=true):lo≤(numR s lo hi).1∧(numR s lo hi).1≤hi:=Acx (v:=(numR s lo hi).1) (by rw[← h])
theorem U3 (D:List UInt8):∀ j,j≤D.length→D6 (mkT D) j=Ei (D.take j)
 | 0,_=>by simp[D6,Ei]
 | j+1,h=>by
  have hlt:j<D.length:=h
  rw[D6,U3 D j j_,List.take_succ_eq_append_getElem hlt,Hn]
  have e:Ad (mkT D) j=D[j]:=by
   rw[Dj (by rw[A2];exact hlt)]
   simp[mkT]
  rw[e]
theorem L4 (n:Nat) (most:Int) (h:n<1000):smallT (mkT (revDigs n).reverse) most=((n:Int),decide ((n:Int)≤most)):=by
 obtain ⟨ha,hv⟩:=S2 n
 have hp:=D2 n
 have h3:=Et 2 n
 have hsz:(mkT (revDigs n).reverse).size=(revDigs n).length:=by rw[Ax,List.length_reverse]
 have e3:n / 10 ^ (2+1)=0:=by show n / 1000=0;omega
 rw[e3]at h3
 have hval:D6 (mkT (revDigs n).reverse) (revDigs n).length=n:=by
  rw[U3 _ _ (by rw[List.length_reverse];exact Nat.le_refl _),List.take_of_length_le (by rw[List.length_reverse];exact Nat.le_refl _),hv]
 have hdg:J5 (mkT (revDigs n).reverse)=true:=K9 fun i hi=>by
  have hi2:i<(revDigs n).reverse.length:=by rw[hsz]at hi;rw[List.length_reverse];exact hi
  rw[Dj (by rw[A2];exact hi2)]
  refine ha _ ?_
  have:(mkT (revDigs n).reverse).data.toList[i]'(by rw[A2];exact hi2)=(revDigs n).reverse[i]:=by simp[mkT]
  rw[this]
  exact List.getElem_mem _
 have hlead:¬ (1<(mkT (revDigs n).reverse).size∧(Ad (mkT (revDigs n).reverse) 0).toNat=48):=by
  rintro ⟨h1,h2⟩
  rw[hsz]at h1
  have hl0:0<(revDigs n).reverse.length:=by rw[List.length_reverse];omega
  rw[Dj (by rw[A2];exact hl0)]at h2
  have e:(mkT (revDigs n).reverse).data.toList[0]'(by rw[A2];exact hl0)=(revDigs n).reverse[0]:=by simp[mkT]
  rw[e,List.getElem_reverse,Ip]at h2
  obtain ⟨k,hk⟩:∃ k,(revDigs n).length=k+2:=⟨(revDigs n).length-2,by omega⟩
  have a1:=Et k n
  have a2:=Et (k+1) n
  rw[hk]at a1 a2
  have e2:(revDigs n).length-1-0=k+1:=by omega
  rw[e2]at h2
  have b1:0<n / 10 ^ (k+1):=a1.1 j_
  have b2:¬ 0<n / 10 ^ (k+1+1):=fun hh=>by have:=a2.2 hh;omega
  rw[Nat.pow_succ 10 (k+1),← Nat.div_div_eq_div_mul]at b2
  rw[S3 _ (Nat.mod_lt _ qe)]at h2
  omega
 rw[smallT,if_neg,hsz,hval]
 rintro (hh | hh | hh | hh)
 ·rw[hsz]at hh;omega
 ·rw[hsz]at hh;omega
 ·exact hlead hh
 ·rw[hdg]at hh;cases hh
theorem E2 (d:UInt8):∀ (p cur r:List UInt8),d∉p→Bf d cur (p++d::r)=mkT (cur++p)::Bf d [] r
 | [],cur,r,_=>by rw[List.nil_append,Bf,if_pos rfl,List.append_nil]
 | c::p,cur,r,h=>by
  simp only[List.mem_cons,not_or]at h
  rw[List.cons_append,Bf,if_neg (Ne.symm h.1),E2 d p _ r h.2]
  simp
theorem Xw (n:Nat) (d:UInt8) (hd:d.toNat<48∨57<d.toNat):d∉(revDigs n).reverse:=fun hm=>Xy ((S2 n).1 d hm) d hd rfl
theorem Ail (a b:Nat) (ha:a<4294967296) (hb:b<4294967296):bits .or .u32 (a:Int) (b:Int)=((a ||| b:Nat):Int):=by
 have x1:(BitVec.ofInt 32 (a:Int)).toNat=a:=by rw[BitVec.ofInt_natCast,BitVec.toNat_ofNat];exact Nat.mod_eq_of_lt ha
 have x2:(BitVec.ofInt 32 (b:Int)).toNat=b:=by rw[BitVec.ofInt_natCast,BitVec.toNat_ofNat];exact Nat.mod_eq_of_lt hb
 have key:(BitVec.ofInt 32 (a:Int) ||| BitVec.ofInt 32 (b:Int)).toNat=a ||| b:=by rw[BitVec.toNat_or,x1,x2]
 show IntKind.u32.wrap (((BitVec.ofInt 32 (a:Int) ||| BitVec.ofInt 32 (b:Int)).toNat:Nat):Int)=_
 rw[key,IntKind.wrap_u32]
 have:a ||| b<2 ^ 32:=Nat.or_lt_two_pow j_ j_
 omega
theorem Jd (a o:Nat) (ha:a<16777216) (ho:o<256):bits .or .u32 (IntKind.u32.wrap ((a:Int) * 2 ^ 8)) (IntKind.u32.wrap (o:Int))=((a * 256+o:Nat):Int):=by
 have e1:IntKind.u32.wrap ((a:Int) * 2 ^ 8)=((a * 256:Nat):Int):=by
  rw[IntKind.wrap_u32];omega
 have e2:IntKind.u32.wrap (o:Int)=(o:Int):=by rw[IntKind.wrap_u32];omega
 rw[e1,e2,Ail _ _ j_ j_]
 have h:=Nat.two_pow_add_eq_or_of_lt (i:=8) (b:=o) j_ a
 rw[Nat.mul_comm a 256]
 exact congrArg _ h.symm
def Tt (a i:Nat):ByteArray:=mkT (revDigs (octN a i)).reverse
theorem Acn (a:Nat):Au 46 (Be (a:Int))=[Tt a 0,Tt a 1,Tt a 2,Tt a 3]:=by
 have h:=fun i=>Xw (octN a i) 46 (.inl qe)
 have e:Iu a 4=(revDigs (octN a 0)).reverse++46::((revDigs (octN a 1)).reverse++46::((revDigs (octN a 2)).reverse++46::(revDigs (octN a 3)).reverse)):=by
  simp[Iu]
 rw[Be,Int.toNat_natCast,Hh,A2,e,E2 46 _ _ _ (h 0),E2 46 _ _ _ (h 1),E2 46 _ _ _ (h 2),E3 46 _ _ (h 3)]
 rfl
theorem Adu (a i:Nat):smallT (Tt a i) 255=((octN a i:Int),true):=by
 have h:octN a i<256:=Nat.mod_lt _ qe
 rw[Tt,L4 _ _ j_,decide_eq_true j_]
theorem O5 (a:Nat) (ha:a<4294967296):A8 (Be (a:Int))=((a:Int),true):=by
 have h:=fun i=>Adu a i
 have hb:∀ i,I8 (Tt a i)=true:=fun i=>by rw[I8,h]
 have e0:octN a 0<256:=Nat.mod_lt _ qe
 have e1:octN a 1<256:=Nat.mod_lt _ qe
 have e2:octN a 2<256:=Nat.mod_lt _ qe
 have e3:octN a 3<256:=Nat.mod_lt _ qe
 have hv:Kz [Tt a 0,Tt a 1,Tt a 2,Tt a 3]=(a:Int):=by
  simp only[Kz,List.foldl_cons,List.foldl_nil,h]
  have s0:=Jd 0 (octN a 0) j_ e0
  rw[show ((0:Nat):Int)=0 from rfl]at s0
  rw[s0,Jd _ _ j_ e1,Jd _ _ j_ e2,Jd _ _ j_ e3]
  have d0:octN a 0=a / 16777216 % 256:=rfl
  have d1:octN a 1=a / 65536 % 256:=rfl
  have d2:octN a 2=a / 256 % 256:=rfl
  have d3:octN a 3=a / 1 % 256:=rfl
  omega
 rw[A8,Acn,if_pos ⟨rfl,by simp[hb]⟩,hv]
theorem Adb (a:Nat) (d:UInt8) (h46:d≠46) (hd:d.toNat<48∨57<d.toNat):d∉(Be (a:Int)).data.toList:=by
 have h:=fun i=>Xw (octN a i) d hd
 rw[Be,Int.toNat_natCast,A2]
 simp only[Iu]
 intro hm
 simp[h46]at hm
 have g:=fun i hi=>h i (List.mem_reverse.2 hi)
 rcases hm with hm | hm | hm | hm
 ·exact g 0 hm
 ·exact g 1 hm
 ·exact g 2 hm
 ·exact g 3 hm
theorem Zq (d:UInt8):∀ (p r:List UInt8),d∉p→Lib.indexByte (p++d::r) d=p.length
 | [],r,_=>by simp[Lib.indexByte]
 | c::p,r,h=>by
  simp only[List.mem_cons,not_or]at h
  have ih:=Zq d p r h.2
  rw[List.cons_append,Lib.indexByte.eq_def]
  dsimp only
  rw[if_neg (by simpa using Ne.symm h.1),ih,if_neg (by first | (simp;done) | (simp;omega))]
  simp
theorem Ahy (d:UInt8) (p r:List UInt8) (h:d∉p):cutT d (mkT (p++d::r))=(mkT p,mkT r,true):=by
 have hi:=Zq d p r h
 rw[cutT,A2,hi,if_pos j_,Hl,hi,Int.toNat_natCast,Bu,Bu,Ax]
 have e1:((p++d::r).take p.length).drop 0=p:=by simp
 have e2:((p++d::r).take (p++d::r).length).drop (p.length+1)=r:=by
  rw[List.take_length,← List.drop_drop];simp
 rw[e1,e2]
theorem Yn (a:Nat) (bits:Int) (ha:a<4294967296) (h0:0≤bits) (h32:bits≤32):prefixR (B0 (a:Int) bits)=(((a:Int),bits),true):=by
 obtain ⟨n,rfl⟩:∃ n:Nat,bits=n:=⟨bits.toNat,by omega⟩
 have hc:=Ahy 47 (Be (a:Int)).data.toList (revDigs n).reverse (Adb a 47 qe (.inl qe))
 rw[Bt]at hc
 have e:B0 (a:Int) (n:Int)=mkT ((Be (a:Int)).data.toList++47::(revDigs n).reverse):=by
  rw[B0,if_pos ⟨h0,h32⟩,Int.toNat_natCast,List.append_assoc];rfl
 have hs:=L4 n 32 j_
 have hr:=O5 a ha
 rw[prefixR,e,hc]
 dsimp only
 rw[hr,hs,decide_eq_true j_]
 simp
theorem Tf (d:UInt8):∀ (r:List (List UInt8)) (x:List UInt8),d∉x→(∀ y∈r,d∉y)→Bf d [] (Lib.join (x::r) [d])=(x::r).map mkT
 | [],x,h,_=>by rw[Lib.join_one,E3 d _ _ h];rfl
 | y::r,x,h,h2=>by
  have ih:=Tf d r y (h2 y qf) (fun z hz=>h2 z (by simp[hz]))
  have e:Lib.join (x::y::r) [d]=x++d::Lib.join (y::r) [d]:=by
   rw[Lib.join_cons,Lib.join_cons,Lib.joinTail,Lib.joinTail]
   simp
  rw[e,E2 d x [] _ h,ih]
  rfl
theorem Qu (tx:Int→ByteArray) (l:List Int) (hne:l≠[]) (h:∀ x∈l,(44:UInt8)∉(tx x).data.toList):Au 44 (Bn (l.map tx) comma)=l.map tx:=by
 cases l with
 | nil=>exact absurd rfl hne
 | cons x l =>
  have e:(Bn ((x::l).map tx) comma).data.toList=Lib.join ((tx x).data.toList::l.map (fun y=>(tx y).data.toList)) [44]:=by
   simp only[Bn,List.map_cons,List.map_map]
   rfl
  rw[Hh,e,Tf 44 _ _ (h x qf) (fun y hy=>by
   obtain ⟨z,hz,rfl⟩:=List.mem_map.1 hy
   exact h z (by simp[hz]))]
  simp[Bt]
def X2 (l:List Int):Prop:=l.Pairwise (·<·)
theorem Me (one:ByteArray→Int × Bool) (tx:Int→ByteArray):∀ (l out:List Int),(∀ x∈l,one (tx x)=(x,true))→X2 (out++l)→(out++l).length≤16→Bj one out (l.map tx)=(out++l,true)
 | [],out,_,_,_=>by rw[List.map_nil,Bj,List.append_nil]
 | x::l,out,h1,h2,h3=>by
  have hx:=h1 x qf
  rw[List.map_cons,Bj,hx,if_neg,Me one tx l (out++[x]) (fun y hy=>h1 y (by simp[hy])) (by rw[List.append_assoc];exact h2) (by rw[List.append_assoc];exact h3),List.append_assoc]
  ·rfl
  ·rintro (hh | hh | ⟨y,hy,hyx⟩)
   ·cases hh
   ·simp only[List.length_append,List.length_cons]at h3;omega
   ·have hm:=List.mem_of_getLast? hy
    have:=(List.pairwise_append.1 h2).2.2 y hm x qf
    dsimp only at hyx
    omega
theorem E9 (one:ByteArray→Int × Bool):∀ (ps:List ByteArray) (out r:List Int),Bj one out ps=(r,true)→X2 out→out.length≤16 →
  X2 r∧r.length≤16∧r.length=out.length+ps.length∧∀ x∈r,x∈out∨∃ p∈ps,one p=(x,true)
 | [],out,r,h,h1,h2=>by
  rw[Bj]at h
  simp only[Prod.mk.injEq,and_true]at h
  subst h
  exact⟨h1,h2,by simp,fun x hx=>.inl hx⟩
 | p::ps,out,r,h,h1,h2=>by
  rw[Bj]at h
  split at h
  ·simp at h
  ·rename_i hn
   simp only[not_or]at hn
   obtain ⟨n1,n2,n3⟩:=hn
   have hr:X2 (out++[(one p).1]):=by
    refine List.pairwise_append.2 ⟨h1,List.pairwise_singleton _ _,fun y hy z hz=>?_⟩
    simp only[List.mem_singleton]at hz
    subst hz
    cases hl:out.getLast? with
    | none=>rw[List.getLast?_eq_none_iff]at hl;subst hl;cases hy
    | some w =>
     have hlt:¬ (one p).1≤w:=fun hh=>n3 ⟨w,hl,hh⟩
     obtain ⟨c,rfl⟩:∃ c,out=c++[w]:=by
      have hne:out≠[]:=fun e=>by rw[e]at hy;cases hy
      refine⟨out.dropLast,?_⟩
      have:=List.dropLast_concat_getLast hne
      rw[List.getLast?_eq_some_getLast hne]at hl
      simp only[Option.some.injEq]at hl
      rw[← hl];exact this.symm
     rcases List.mem_append.1 hy with hy | hy
     ·have:=(List.pairwise_append.1 h1).2.2 y hy w qf
      omega
     ·simp only[List.mem_singleton]at hy
      omega
   obtain ⟨a,b,c,d⟩:=E9 one ps _ r h hr (by rw[List.length_append];simp;omega)
   refine⟨a,b,by rw[c];simp;omega,fun x hx=>?_⟩
   rcases d x hx with hx | ⟨q,hq,e⟩
   ·rcases List.mem_append.1 hx with hx | hx
    ·exact .inl hx
    ·simp only[List.mem_singleton]at hx
     refine .inr ⟨p,by simp,?_⟩
     rw[hx]
     have:(one p).2=true:=by simpa using n1
     rw[← this]
   ·exact .inr ⟨q,by simp[hq],e⟩
theorem Ve {l:List Int} (h:∀ i (hi:i+1<l.length),l[i]<l[i+1]):X2 l:=by
 unfold X2
 rw[List.pairwise_iff_getElem]
 intro i j hi hj hij
 induction j with
 | zero=>omega
 | succ j ih =>
  by_cases e:i=j
  ·subst e;exact h i hj
  ·have:=ih j_ j_
   have:=h j hj
   omega
theorem Lw:∀ (l:List (Bool × Int)),(∀ x∈l,x.2≠0)→At l=0→∀ x∈l,x.1=false
 | [],_,_,x,hx=>by cases hx
 | (b,e)::l,h,h0,x,hx=>by
  rw[At]at h0
  cases b with
  | true=>rw[if_pos rfl]at h0;exact absurd h0 (h (true,e) qf)
  | false =>
   rw[if_neg qf]at h0
   rcases List.mem_cons.1 hx with hx | hx
   ·rw[hx]
   ·exact Lw l (fun y hy=>h y (by simp[hy])) h0 x hx
theorem Ai2:∀ k:Fin 16,digI (B6 k.1)=(k.1:Int)∧B6 k.1≠58:=by decide +kernel
theorem Z1 (d:Nat) (h:d<16):digI (B6 d)=(d:Int):=(Ai2 ⟨d,h⟩).1
theorem Yo (m:Nat) (hm:m<281474976710656):macR (Ao (m:Int))=((m:Int),true):=by
 have hb:∀ j,byteN m j<256:=fun j=>Nat.mod_lt _ qe
 have h1:∀ j,digI (B6 (byteN m j / 16))=((byteN m j / 16:Nat):Int):=fun j=>Z1 _ (by have:=hb j;omega)
 have h2:∀ j,digI (B6 (byteN m j % 16))=((byteN m j % 16:Nat):Int):=fun j=>Z1 _ j_
 have h0:=hb 0;have h3:=hb 1;have h4:=hb 2;have h5:=hb 3;have h6:=hb 4;have h7:=hb 5
 have e:Ao (m:Int)=mkT [B6 (byteN m 0 / 16),B6 (byteN m 0 % 16),58,B6 (byteN m 1 / 16),B6 (byteN m 1 % 16),58,B6 (byteN m 2 / 16),B6 (byteN m 2 % 16),58,
   B6 (byteN m 3 / 16),B6 (byteN m 3 % 16),58,B6 (byteN m 4 / 16),B6 (byteN m 4 % 16),58,B6 (byteN m 5 / 16),B6 (byteN m 5 % 16)]:=by
  rw[Ao,Int.toNat_natCast]
  simp[Iz]
 have b0:Ad (Ao (m:Int)) 0=B6 (byteN m 0 / 16):=by rw[e];rfl
 have b1:Ad (Ao (m:Int)) 1=B6 (byteN m 0 % 16):=by rw[e];rfl
 have b2:Ad (Ao (m:Int)) 2=58:=by rw[e];rfl
 have b3:Ad (Ao (m:Int)) 3=B6 (byteN m 1 / 16):=by rw[e];rfl
 have b4:Ad (Ao (m:Int)) 4=B6 (byteN m 1 % 16):=by rw[e];rfl
 have b5:Ad (Ao (m:Int)) 5=58:=by rw[e];rfl
 have b6:Ad (Ao (m:Int)) 6=B6 (byteN m 2 / 16):=by rw[e];rfl
 have b7:Ad (Ao (m:Int)) 7=B6 (byteN m 2 % 16):=by rw[e];rfl
 have b8:Ad (Ao (m:Int)) 8=58:=by rw[e];rfl
 have b9:Ad (Ao (m:Int)) 9=B6 (byteN m 3 / 16):=by rw[e];rfl
 have b10:Ad (Ao (m:Int)) 10=B6 (byteN m 3 % 16):=by rw[e];rfl
 have b11:Ad (Ao (m:Int)) 11=58:=by rw[e];rfl
 have b12:Ad (Ao (m:Int)) 12=B6 (byteN m 4 / 16):=by rw[e];rfl
 have b13:Ad (Ao (m:Int)) 13=B6 (byteN m 4 % 16):=by rw[e];rfl
 have b14:Ad (Ao (m:Int)) 14=58:=by rw[e];rfl
 have b15:Ad (Ao (m:Int)) 15=B6 (byteN m 5 / 16):=by rw[e];rfl
 have b16:Ad (Ao (m:Int)) 16=B6 (byteN m 5 % 16):=by rw[e];rfl
 have a0:Eb (Ao (m:Int)) 0=true:=by
  show (decide (digI (Ad (Ao (m:Int)) 0)≤15) && decide (digI (Ad (Ao (m:Int)) 1)≤15) && (decide (5≤0) || decide ((Ad (Ao (m:Int)) 2).toNat=58)))=true
  rw[b0,b1,b2,h1,h2];simp;omega
 have a1:Eb (Ao (m:Int)) 1=true:=by
  show (decide (digI (Ad (Ao (m:Int)) 3)≤15) && decide (digI (Ad (Ao (m:Int)) 4)≤15) && (decide (5≤1) || decide ((Ad (Ao (m:Int)) 5).toNat=58)))=true
  rw[b3,b4,b5,h1,h2];simp;omega
 have a2:Eb (Ao (m:Int)) 2=true:=by
  show (decide (digI (Ad (Ao (m:Int)) 6)≤15) && decide (digI (Ad (Ao (m:Int)) 7)≤15) && (decide (5≤2) || decide ((Ad (Ao (m:Int)) 8).toNat=58)))=true
  rw[b6,b7,b8,h1,h2];simp;omega
 have a3:Eb (Ao (m:Int)) 3=true:=by
  show (decide (digI (Ad (Ao (m:Int)) 9)≤15) && decide (digI (Ad (Ao (m:Int)) 10)≤15) && (decide (5≤3) || decide ((Ad (Ao (m:Int)) 11).toNat=58)))=true
  rw[b9,b10,b11,h1,h2];simp;omega
 have a4:Eb (Ao (m:Int)) 4=true:=by
  show (decide (digI (Ad (Ao (m:Int)) 12)≤15) && decide (digI (Ad (Ao (m:Int)) 13)≤15) && (decide (5≤4) || decide ((Ad (Ao (m:Int)) 14).toNat=58)))=true
  rw[b12,b13,b14,h1,h2];simp;omega
 have a5:Eb (Ao (m:Int)) 5=true:=by
  show (decide (digI (Ad (Ao (m:Int)) 15)≤15) && decide (digI (Ad (Ao (m:Int)) 16)≤15) && (decide (5≤5) || decide ((Ad (Ao (m:Int)) 17).toNat=58)))=true
  rw[b15,b16,h1,h2];simp;omega
 have hv:Ko (Ao (m:Int)) 6=m:=by
  show (((((0 * 256+digI (Ad (Ao (m:Int)) 0) * 16+digI (Ad (Ao (m:Int)) 1)) * 256+digI (Ad (Ao (m:Int)) 3) * 16+digI (Ad (Ao (m:Int)) 4)) * 256+digI (Ad (Ao (m:Int)) 6) * 16+digI (Ad (Ao (m:Int)) 7)) * 256 +
   digI (Ad (Ao (m:Int)) 9) * 16+digI (Ad (Ao (m:Int)) 10)) * 256+digI (Ad (Ao (m:Int)) 12) * 16+digI (Ad (Ao (m:Int)) 13)) * 256+digI (Ad (Ao (m:Int)) 15) * 16+digI (Ad (Ao (m:Int)) 16)=(m:Int)
  rw[b0,b1,b3,b4,b6,b7,b9,b10,b12,b13,b15,b16]
  simp only[h1,h2]
  have d0:byteN m 0=m / 1099511627776 % 256:=rfl
  have d1:byteN m 1=m / 4294967296 % 256:=rfl
  have d2:byteN m 2=m / 16777216 % 256:=rfl
  have d3:byteN m 3=m / 65536 % 256:=rfl
  have d4:byteN m 4=m / 256 % 256:=rfl
  have d5:byteN m 5=m / 1 % 256:=rfl
  omega
 have hs:(Ao (m:Int)).size=17:=by rw[e,Ax];rfl
 rw[macR,if_pos ⟨hs,by rw[List.all_eq_true];intro i hi;have:i<6:=List.mem_range.1 hi;match i,this with | 0,_=>exact a0 | 1,_=>exact a1 | 2,_=>exact a2 | 3,_=>exact a3 | 4,_=>exact a4 | 5,_=>exact a5⟩,hv]
theorem rising_iff {l:List Int} {lo hi:Int}:Cp l lo hi=true↔X2 l∧(∀ x∈l,lo≤x∧x≤hi)∧0<l.length∧l.length≤16:=by
 have hg:∀ i (h:i<l.length),nth l (i:Int)=l[i]:=fun i h=>Tw (i:=(i:Int)) h
 rw[Cp,Bool.and_eq_true,Bool.and_eq_true,decide_eq_true_eq,decide_eq_true_eq,allB_iff]
 constructor
 ·rintro ⟨⟨h1,h2⟩,h⟩
  refine⟨Ve fun i hi=>?_,fun x hx=>?_,h1,h2⟩
  ·have:=h (i+1) hi
   simp only[H2,Bool.and_eq_true,Bool.or_eq_true,decide_eq_true_eq,beq_iff_eq]at this
   rw[show (((i+1:Nat):Int)-1)=(i:Int) by omega,hg i j_]at this
   omega
  ·obtain ⟨i,hi,rfl⟩:=List.mem_iff_getElem.1 hx
   have:=h i hi
   simp only[H2,Bool.and_eq_true,decide_eq_true_eq]at this
   exact this.1
 ·rintro ⟨h,h1,h2⟩
  refine⟨h2,fun i hi=>?_⟩
  have hx:=h1 _ (List.getElem_mem hi)
  simp only[H2,Bool.and_eq_true,Bool.or_eq_true,decide_eq_true_eq,beq_iff_eq]
  refine⟨hx,?_⟩
  by_cases h0:i=0
  ·exact .inl h0
  ·right
   rw[show ((i:Int)-1)=((i-1:Nat):Int) by omega,hg (i-1) j_]
   exact List.pairwise_iff_getElem.1 h (i-1) i j_ hi j_
theorem listOK_iff {l:List Int} {hi:Int}:Cs l hi=true↔l=[]∨Cp l 1 hi=true:=by
 rw[Cs,Vf,Bool.or_eq_true,decide_eq_true_eq,List.length_eq_zero_iff]
theorem Wd {l:List Int} (hn:∀ x∈l,0≤x):Hf l=true↔X2 l∧(∀ x∈l,x≠0)∧0<l.length∧l.length≤16:=by
 have hg:∀ i (h:i<l.length),l.getD i 0=l[i]:=fun i h=>by rw[List.getD_eq_getElem?_getD,List.getElem?_eq_getElem h];rfl
 rw[Hf,Bool.and_eq_true,Bool.and_eq_true,decide_eq_true_eq,decide_eq_true_eq,List.all_eq_true]
 constructor
 ·rintro ⟨h,h1,h2⟩
  refine⟨Ve fun i hi=>?_,fun x hx=>?_,h1,h2⟩
  ·have:=h (i+1) (List.mem_range.2 hi)
   rw[Nat.add_sub_cancel,hg _ hi,hg i j_]at this
   simp only[Bool.and_eq_true,Bool.or_eq_true,decide_eq_true_eq,beq_iff_eq]at this
   omega
  ·obtain ⟨i,hi,rfl⟩:=List.mem_iff_getElem.1 hx
   have:=h i (List.mem_range.2 hi)
   rw[hg i hi]at this
   simp only[Bool.and_eq_true,decide_eq_true_eq]at this
   exact this.1
 ·rintro ⟨h,h1,h2⟩
  refine⟨fun i hi=>?_,h2⟩
  have hi:=List.mem_range.1 hi
  have hx:=h1 _ (List.getElem_mem hi)
  rw[hg i hi]
  simp only[Bool.and_eq_true,Bool.or_eq_true,decide_eq_true_eq,beq_iff_eq]
  refine⟨hx,?_⟩
  by_cases h0:i=0
  ·exact .inl h0
  ·right
   rw[hg (i-1) j_]
   exact List.pairwise_iff_getElem.1 h (i-1) i j_ hi j_
theorem num_no (n:Int) (h0:0≤n) (d:UInt8) (hd:d.toNat<48∨57<d.toNat):d∉(Al n).data.toList:=by
 obtain ⟨m,rfl⟩:∃ m:Nat,n=m:=⟨n.toNat,by omega⟩
 rw[C4,A2]
 exact Xw m d hd
theorem Vp (n:Int) (h0:0≤n):∃ c r,(Al n).data.toList=c::r∧Cc c=true:=by
 obtain ⟨m,rfl⟩:∃ m:Nat,n=m:=⟨n.toNat,by omega⟩
 rw[C4,A2]
 have h:=V9 m
 cases hd:(revDigs m).reverse with
 | nil=>exact absurd hd (Ai1 m)
 | cons c r=>exact⟨c,r,rfl,h c (by rw[hd];rfl)⟩
theorem Ab4 (x:ByteArray) (l:List ByteArray) (sep:ByteArray) {c:UInt8} {r:List UInt8} (h:x.data.toList=c::r):∃ q,(Bn (x::l) sep).data.toList=c::q:=by
 simp only[Bn,List.map_cons,Lib.join_cons,h]
 exact⟨_,q_⟩
theorem Zd {s:ByteArray} {c:UInt8} {r:List UInt8} (h:s.data.toList=c::r) (hc:Cc c=true):s≠dash:=by
 intro e
 rw[e]at h
 have:(45:UInt8)=c:=by
  have:=congrArg List.head? h
  simpa [dash] using this
 exact Xy hc 45 (.inl qe) this.symm
theorem Oc (n:Int) (h:0≤n):Al n≠dash:=by
 obtain ⟨c,r,h1,h2⟩:=Vp n h
 exact Zd h1 h2
theorem T4 (l:List Int) (hne:l≠[]) (h:∀ x∈l,0≤x):Dz l≠dash:=by
 cases l with
 | nil=>exact absurd rfl hne
 | cons x l =>
  obtain ⟨c,r,h1,h2⟩:=Vp x (h x qf)
  obtain ⟨q,hq⟩:=Ab4 (Al x) (l.map Al) comma h1
  exact Zd (s:=Dz (x::l)) hq h2
theorem Qg {l:List Int} {hi:Int} (hhi:hi<1000000000) (h:Cs l hi=true):listR hi (By l)=(l,true):=by
 by_cases hne:l=[]
 ·subst hne
  rw[By,if_pos rfl,listR,if_pos rfl]
 ·obtain ⟨h1,h2,h3,h4⟩:=rising_iff.1 ((listOK_iff.1 h).resolve_left hne)
  have hnn:∀ x∈l,0≤x:=fun x hx=>by have:=h2 x hx;omega
  rw[By,if_neg hne,listR,if_neg (T4 l hne hnn),Cn,Dz,Qu Al l hne (fun x hx=>num_no x (hnn x hx) 44 (.inl qe))]
  have:=Me (fun p=>numR p 1 hi) Al l [] (fun x hx=>I9 (hnn x hx) (by have:=h2 x hx;omega) (h2 x hx).1 (h2 x hx).2) h1 h4
  rw[List.nil_append]at this
  exact this
theorem Ais {s:ByteArray} {hi:Int} {l:List Int} (h:listR hi s=(l,true)):Cs l hi=true:=by
 rw[listR]at h
 split at h
 ·simp only[Prod.mk.injEq,and_true]at h
  subst h;rfl
 ·rw[Cn]at h
  obtain ⟨a,b,c,d⟩:=E9 _ _ _ _ h List.Pairwise.nil qe
  refine listOK_iff.2 (.inr (rising_iff.2 ⟨a,fun x hx=>?_,?_,b⟩))
  ·rcases d x hx with hx | ⟨p,_,hp⟩
   ·cases hx
   ·exact Acx hp
  ·rw[c,Df];simp
theorem Ey (s:ByteArray):0≤(A8 s).1:=by
 rw[A8]
 split
 ·dsimp only
  generalize Au 46 s=l
  cases hl:l.reverse with
  | nil =>
   have:l=[]:=by simpa using hl
   subst this;exact Int.le_refl _
  | cons x r =>
   have:l=r.reverse++[x]:=by
    have:=congrArg List.reverse hl
    simpa using this
   rw[this,Jy]
   show 0≤IntKind.u32.wrap _
   rw[IntKind.wrap_u32];omega
 ·exact Int.le_refl _
theorem Jw (s:ByteArray):(A8 s).1<4294967296:=by
 rw[A8]
 split
 ·dsimp only
  generalize Au 46 s=l
  cases hl:l.reverse with
  | nil =>
   have:l=[]:=by simpa using hl
   subst this;decide
  | cons x r =>
   have:l=r.reverse++[x]:=by
    have:=congrArg List.reverse hl
    simpa using this
   rw[this,Jy]
   show IntKind.u32.wrap _<_
   rw[IntKind.wrap_u32];omega
 ·decide
theorem Ack {l:List Int} (hn:∀ x∈l,0≤x∧x<4294967296) (h:Hf l=true):Az (B9 l)=(l,true)∧l.head? ≠ some 0:=by
 obtain ⟨h1,h2,h3,h4⟩:=(Wd fun x hx=>(hn x hx).1).1 h
 have hne:l≠[]:=fun e=>by rw[e]at h3;simp at h3
 have hno:∀ x∈l,(44:UInt8)∉(Be x).data.toList:=fun x hx=>by
  obtain ⟨m,hm⟩:∃ m:Nat,x=m:=⟨x.toNat,by have:=hn x hx;omega⟩
  rw[hm];exact Adb m 44 qe (.inl qe)
 refine⟨?_,fun e=>?_⟩
 ·rw[Az,Cn,B9,Qu Be l hne hno]
  have:=Me A8 Be l [] (fun x hx=>by
   obtain ⟨m,hm⟩:∃ m:Nat,x=m:=⟨x.toNat,by have:=hn x hx;omega⟩
   have:=hn x hx
   rw[hm];exact O5 m j_) h1 h4
  rw[List.nil_append]at this
  exact this
 ·cases l with
  | nil=>cases e
  | cons x l=>simp at e;exact h2 x qf e
theorem Ah4 {s:ByteArray} {l:List Int} (h:Az s=(l,true)) (h0:l.head? ≠ some 0):Hf l=true:=by
 rw[Az,Cn]at h
 obtain ⟨a,b,c,d⟩:=E9 _ _ _ _ h List.Pairwise.nil qe
 have hn:∀ x∈l,0≤x:=fun x hx=>by
  rcases d x hx with hx | ⟨p,_,hp⟩
  ·cases hx
  ·have:=Ey p
   rw[hp]at this;exact this
 refine(Wd hn).2 ⟨a,fun x hx e=>?_,by rw[c,Df];simp,b⟩
 subst e
 cases l with
 | nil=>cases hx
 | cons y l =>
  rcases List.mem_cons.1 hx with hx | hx
  ·subst hx;exact h0 rfl
  ·have h1:=(List.pairwise_cons.1 a).1 0 hx
   have h2:=hn y qf
   omega
end Go.Sy.YtgblchnfjbkipaaGreatDoor
namespace Go.Sy.YtgblchnfjbkipaaGreatDoor
open Go.Proofs
set_option maxHeartbeats 4000000
theorem Af1 {a b:LineM} (h:Hp a b=true):a=b:=by
 simp only[Hp,Bool.and_eq_true,beq_iff_eq]at h
 obtain ⟨a1,a2,a3,a4,a5,a6,a7,a8,a9,a10,a11,a12,a13,a14,a15,a16,a17⟩:=h
 cases a;cases b
 dsimp only at *
 subst a1 a2 a3 a4 a5 a6 a7 a8 a9 a10 a11 a12 a13 a14 a15 a16 a17
 rfl
theorem Dp (a:LineM):Hp a a=true:=by simp[Hp]
theorem Cu (w:List ByteArray) (row:Int):∀ x∈(Ap w row).2,x.2≠0:=by
 unfold Ap Bs
 dsimp only
 repeat' split
 all_goals simp
theorem Afx {w:List ByteArray} {row:Int} {L:LineM} {E:List (Bool × Int)} (hw:w≠[]) (hm:manyB (kindL (wdT w 0)) w=true) (hr:Ap w row=(L,E)) (he:∀ x∈E,x.1=false):Ba w row=(L,0):=by
 have h0:At E=0:=by
  clear hr
  induction E with
  | nil=>rfl
  | cons x E ih =>
   obtain ⟨b,e⟩:=x
   rw[At,if_neg (by have:=he (b,e) qf;dsimp only at this;rw[this];simp)]
   exact ih fun y hy=>he y (by simp[hy])
 rw[Ba,if_neg (by rw[hm];simp[hw]),hr,if_neg (by simp[h0])]
theorem Adp {w:List ByteArray} {row:Int} (h:(Ba w row).2=0):(Ba w row).1=(Ap w row).1∧∀ x∈(Ap w row).2,x.1=false:=by
 rw[Ba]at h ⊢
 split at h
 ·simp at h
 ·rename_i h1
  rw[if_neg h1]
  split at h
  ·rename_i h2;exact absurd h h2
  ·rename_i h2
   rw[if_neg h2]
   exact⟨q_,Lw _ (Cu w row) j_⟩
theorem k1:kindL ⟨#[100,101,118,105,99,101]⟩=1:=by decide +kernel
theorem k2:kindL ⟨#[112,111,114,116]⟩=2:=by decide +kernel
theorem k3:kindL ⟨#[108,105,110,107]⟩=3:=by decide +kernel
theorem k4:kindL ⟨#[115,116,97,116,105,99]⟩=4:=by decide +kernel
theorem k5:kindL ⟨#[118,116,101,112]⟩=5:=by decide +kernel
theorem k6:kindL ⟨#[118,110,105]⟩=6:=by decide +kernel
theorem k7:kindL ⟨#[102,108,111,111,100]⟩=7:=by decide +kernel
theorem k8:kindL ⟨#[118,114,102]⟩=8:=by decide +kernel
theorem k9:kindL ⟨#[105,114,98]⟩=9:=by decide +kernel
theorem Qp:accessT≠trunkT:=by decide +kernel
theorem K2:trunkT≠accessT:=by decide +kernel
theorem wd0 (a:ByteArray) (l:List ByteArray):wdT (a::l) 0=a:=rfl
theorem wdS (a:ByteArray) (l:List ByteArray) (i:Nat):wdT (a::l) (i+1)=wdT l i:=rfl
theorem st1 (d n m:ByteArray) (r:Int):Ap [⟨#[100,101,118,105,99,101]⟩,d,n,m] r=({ lineZ with row:=r,kind:=1,dev:=d,num:=(numR n 0 65535).1,mac:=(macR m).1 },[(!(nameB d),20),(!(numR n 0 65535).2,21),(!((macR m).2 && statB (macR m).1),21)]):=by
 unfold Ap
 simp only[wd0,k1]
 rfl
theorem st2 (d p c x:ByteArray) (y:List ByteArray) (r:Int):Ap (⟨#[112,111,114,116]⟩::d::p::c::x::y) r=({ lineZ with row:=r,kind:=2,dev:=d,port:=p,cost:=(numR c 1 65535).1,vlan:=(Bs (⟨#[112,111,114,116]⟩::d::p::c::x::y)).1,tagged:=(Bs (⟨#[112,111,114,116]⟩::d::p::c::x::y)).2.1 },
  [(!(nameB d),20),(!(nameB p),20),(!(numR c 1 65535).2,21),(decide (x≠accessT) && decide (x≠trunkT),20)]++(Bs (⟨#[112,111,114,116]⟩::d::p::c::x::y)).2.2++[(!(membersB (Bs (⟨#[112,111,114,116]⟩::d::p::c::x::y)).1 (Bs (⟨#[112,111,114,116]⟩::d::p::c::x::y)).2.1),21)]):=by
 unfold Ap
 simp only[wd0,k2]
 rfl
theorem st3 (d p q f:ByteArray) (r:Int):Ap [⟨#[108,105,110,107]⟩,d,p,q,f] r=({ lineZ with row:=r,kind:=3,dev:=d,port:=p,peer:=q,far:=f },[(!(nameB d),20),(!(nameB p),20),(!(nameB q),20),(!(nameB f),20)]):=by
 unfold Ap
 simp only[wd0,k3]
 rfl
theorem st4 (d v m p:ByteArray) (r:Int):Ap [⟨#[115,116,97,116,105,99]⟩,d,v,m,p] r=({ lineZ with row:=r,kind:=4,dev:=d,vlan:=(A1 v).1,mac:=(macR m).1,port:=p },[(!(nameB d),20),(!(A1 v).2,21),(!((macR m).2 && statB (macR m).1),21),(!(nameB p),20)]):=by
 unfold Ap
 simp only[wd0,k4]
 rfl
theorem st5 (d a:ByteArray) (r:Int):Ap [⟨#[118,116,101,112]⟩,d,a] r=({ lineZ with row:=r,kind:=5,dev:=d,addr:=(A8 a).1 },[(!(nameB d),20),(!((A8 a).2 && decide ((A8 a).1≠0)),21)]):=by
 unfold Ap
 simp only[wd0,k5]
 rfl
theorem st6 (d v n:ByteArray) (r:Int):Ap [⟨#[118,110,105]⟩,d,v,n] r=({ lineZ with row:=r,kind:=6,dev:=d,vlan:=(A1 v).1,num:=(El n).1 },[(!(nameB d),20),(!(A1 v).2,21),(!(El n).2,21)]):=by
 unfold Ap
 simp only[wd0,k6]
 rfl
theorem st7 (d n a:ByteArray) (r:Int):Ap [⟨#[102,108,111,111,100]⟩,d,n,a] r=({ lineZ with row:=r,kind:=7,dev:=d,num:=(El n).1,addrs:=(Az a).1 },[(!(nameB d),20),(!(El n).2,21),(!((Az a).2 && decide ((Az a).1.head? ≠ some 0)),21)]):=by
 unfold Ap
 simp only[wd0,k7]
 rfl
theorem st8 (d n i e:ByteArray) (r:Int):Ap [⟨#[118,114,102]⟩,d,n,i,e] r=({ lineZ with row:=r,kind:=8,dev:=d,name:=n,imports:=(listR 65535 i).1,exports:=(listR 65535 e).1 },[(!(nameB d),20),(!(nameB n),20),(!(listR 65535 i).2,21),(!(listR 65535 e).2,21)]):=by
 unfold Ap
 simp only[wd0,k8]
 rfl
theorem st9 (d v n p:ByteArray) (r:Int):Ap [⟨#[105,114,98]⟩,d,v,n,p] r=({ lineZ with row:=r,kind:=9,dev:=d,vlan:=(A1 v).1,name:=n,addr:=(prefixR p).1.1,bits:=(prefixR p).1.2 },[(!(nameB d),20),(!(A1 v).2,21),(!(nameB n),20),(!((prefixR p).2 && subnetB (prefixR p).1.1 (prefixR p).1.2),21)]):=by
 unfold Ap
 simp only[wd0,k9]
 rfl
theorem within_iff {n lo hi:Int}:Bg n lo hi=true↔lo≤n∧n≤hi:=by simp[Bg]
theorem Ln {m:Int} (h:statB m=true):m<281474976710656:=by
 simp only[statB,Bool.and_eq_true,decide_eq_true_eq]at h
 omega
theorem Zh {m:Int} (h0:0≤m) (h:statB m=true):macR (Ao m)=(m,true):=by
 obtain ⟨k,rfl⟩:∃ k:Nat,m=k:=⟨m.toNat,by omega⟩
 exact Yo k (by have:=Ln h;omega)
theorem I6 {v:Int} (h:Bg v 1 4094=true):A1 (Al v)=(v,true):=by
 have:=within_iff.1 h
 exact I9 j_ j_ this.1 this.2
theorem X4 {v:Int} (h:Bg v 1 16777215=true):El (Al v)=(v,true):=by
 have:=within_iff.1 h
 exact I9 j_ j_ this.1 this.2
theorem J9 {a b:Int} (h:subnetB a b=true):1≤b∧b≤30:=by
 simp only[subnetB,Bool.and_eq_true,decide_eq_true_eq]at h
 omega
structure LineOK (l:LineM):Prop where
 mac:0≤l.mac∧l.mac<18446744073709551616
 addr:0≤l.addr∧l.addr<4294967296
 addrs:∀ x∈l.addrs,0≤x∧x<4294967296
theorem Tk {l:LineM} (ho:LineOK l) (h:A7 l=true):Ba (Ah l) l.row=(l,0):=by
 rw[A7,Bool.and_eq_true,Bool.and_eq_true]at h
 obtain ⟨hu,hd,hs⟩:=h
 have hs:=Af1 hs
 have key:∀ {w E} (L:LineM),w≠[]→manyB (kindL (wdT w 0)) w=true→Ap w l.row=(L,E)→(∀ x∈E,x.1=false)→(Aq l).1=L→Ba w l.row=(l,0):=fun L a b c d e=>by
  rw[Afx a b c d,← e,hs]
 by_cases h1:l.kind=1
 ·have hw:Ah l=[⟨#[100,101,118,105,99,101]⟩,l.dev,Al l.num,Ao l.mac]:=by rw[Ah,if_pos h1]
  simp only[Aq,if_pos h1,Bool.and_eq_true]at hu
  have hn:=within_iff.1 hu.1
  have e1:=I9 (lo:=0) (hi:=65535) (n:=l.num) j_ j_ hn.1 hn.2
  have e2:=Zh ho.mac.1 hu.2
  rw[hw]
  refine key _ qf (by rw[wd0,k1];rfl) (st1 _ _ _ _) ?_ ?_
  ·simp[e1,e2,hd,hu.2]
  ·rw[e1,e2];simp only[Aq,if_pos h1];rw[h1]
 by_cases h2:l.kind=2
 ·simp only[Aq,if_neg h1,if_pos h2,Bool.and_eq_true]at hu
  obtain ⟨u1,u2,u3,u4,u5⟩:=hu
  have hc:=within_iff.1 u2
  have hv:=within_iff.1 u3
  have e1:=I9 (lo:=1) (hi:=65535) (n:=l.cost) j_ j_ hc.1 hc.2
  by_cases ht:l.tagged=[]
  ·have hw:Ah l=[⟨#[112,111,114,116]⟩,l.dev,l.port,Al l.cost,accessT,Al l.vlan]:=by rw[Ah,if_neg h1,if_pos h2,Hk,if_pos ht]
   have hv1:Bg l.vlan 1 4094=true:=by
    rw[ht]at u5
    simp[membersB]at u5
    exact within_iff.2 ⟨by omega,hv.2⟩
   have e2:=I6 hv1
   have hp:Bs [⟨#[112,111,114,116]⟩,l.dev,l.port,Al l.cost,accessT,Al l.vlan]=(l.vlan,[],[(false,21)]):=by
    unfold Bs
    simp only[wd0,wdS,e2]
    simp
   rw[hw]
   refine key _ qf (by rw[wd0,k2];rfl) (st2 _ _ _ _ _ _) ?_ ?_
   ·rw[hp,e1]
    rw[ht]at u5
    simp[hd,u1,u5]
   ·rw[hp,e1];simp only[Aq,if_neg h1,if_pos h2];rw[h2,ht]
  ·have hl:=Qg qe u4
   by_cases hv0:l.vlan=0
   ·have hw:Ah l=[⟨#[112,111,114,116]⟩,l.dev,l.port,Al l.cost,trunkT,dash,By l.tagged]:=by rw[Ah,if_neg h1,if_pos h2,Hk,if_neg ht,if_pos hv0]
    have hp:Bs [⟨#[112,111,114,116]⟩,l.dev,l.port,Al l.cost,trunkT,dash,By l.tagged]=(0,l.tagged,[(false,21)]):=by
     unfold Bs
     simp only[wd0,wdS,hl]
     first | rw[if_neg K2,if_pos rfl,if_pos rfl] | rw[if_neg K2,if_pos trivial,if_pos trivial]
     rfl
    rw[hw]
    refine key _ qf (by rw[wd0,k2];rfl) (st2 _ _ _ _ _ _) ?_ ?_
    ·rw[hp,e1]
     rw[hv0]at u5
     simp[hd,u1,u5]
    ·rw[hp,e1];simp only[Aq,if_neg h1,if_pos h2];rw[h2,hv0]
   ·have hw:Ah l=[⟨#[112,111,114,116]⟩,l.dev,l.port,Al l.cost,trunkT,Al l.vlan,By l.tagged]:=by rw[Ah,if_neg h1,if_pos h2,Hk,if_neg ht,if_neg hv0]
    have e2:=I6 (v:=l.vlan) (within_iff.2 ⟨by omega,hv.2⟩)
    have hp:Bs [⟨#[112,111,114,116]⟩,l.dev,l.port,Al l.cost,trunkT,Al l.vlan,By l.tagged]=(l.vlan,l.tagged,[(false,21),(false,21)]):=by
     unfold Bs
     simp only[wd0,wdS,hl,e2]
     first | rw[if_neg K2,if_pos rfl,if_neg (Oc _ hv.1)] | rw[if_neg K2,if_pos trivial,if_neg (Oc _ hv.1)]
     rfl
    rw[hw]
    refine key _ qf (by rw[wd0,k2];rfl) (st2 _ _ _ _ _ _) ?_ ?_
    ·rw[hp,e1]
     simp[hd,u1,u5]
    ·rw[hp,e1];simp only[Aq,if_neg h1,if_pos h2];rw[h2]
 by_cases h3:l.kind=3
 ·have hw:Ah l=[⟨#[108,105,110,107]⟩,l.dev,l.port,l.peer,l.far]:=by rw[Ah,if_neg h1,if_neg h2,if_pos h3]
  simp only[Aq,if_neg h1,if_neg h2,if_pos h3,Bool.and_eq_true]at hu
  rw[hw]
  refine key _ qf (by rw[wd0,k3];rfl) (st3 _ _ _ _ _) ?_ ?_
  ·simp[hd,hu]
  ·simp only[Aq,if_neg h1,if_neg h2,if_pos h3];rw[h3]
 by_cases h4:l.kind=4
 ·have hw:Ah l=[⟨#[115,116,97,116,105,99]⟩,l.dev,Al l.vlan,Ao l.mac,l.port]:=by rw[Ah,if_neg h1,if_neg h2,if_neg h3,if_pos h4]
  simp only[Aq,if_neg h1,if_neg h2,if_neg h3,if_pos h4,Bool.and_eq_true]at hu
  have e1:=I6 hu.1
  have e2:=Zh ho.mac.1 hu.2.1
  rw[hw]
  refine key _ qf (by rw[wd0,k4];rfl) (st4 _ _ _ _ _) ?_ ?_
  ·simp[e1,e2,hd,hu]
  ·rw[e1,e2];simp only[Aq,if_neg h1,if_neg h2,if_neg h3,if_pos h4];rw[h4]
 by_cases h5:l.kind=5
 ·have hw:Ah l=[⟨#[118,116,101,112]⟩,l.dev,Be l.addr]:=by rw[Ah,if_neg h1,if_neg h2,if_neg h3,if_neg h4,if_pos h5]
  simp only[Aq,if_neg h1,if_neg h2,if_neg h3,if_neg h4,if_pos h5]at hu
  have e1:A8 (Be l.addr)=(l.addr,true):=by
   obtain ⟨m,hm⟩:∃ m:Nat,l.addr=m:=⟨l.addr.toNat,by have:=ho.addr;omega⟩
   rw[hm];exact O5 m (by have:=ho.addr;omega)
  rw[hw]
  refine key _ qf (by rw[wd0,k5];rfl) (st5 _ _ _) ?_ ?_
  ·rw[e1];simp only[decide_eq_true_eq]at hu;simp[hd,hu]
  ·rw[e1];simp only[Aq,if_neg h1,if_neg h2,if_neg h3,if_neg h4,if_pos h5];rw[h5]
 by_cases h6:l.kind=6
 ·have hw:Ah l=[⟨#[118,110,105]⟩,l.dev,Al l.vlan,Al l.num]:=by rw[Ah,if_neg h1,if_neg h2,if_neg h3,if_neg h4,if_neg h5,if_pos h6]
  simp only[Aq,if_neg h1,if_neg h2,if_neg h3,if_neg h4,if_neg h5,if_pos h6,Bool.and_eq_true]at hu
  have e1:=I6 hu.1
  have e2:=X4 hu.2
  rw[hw]
  refine key _ qf (by rw[wd0,k6];rfl) (st6 _ _ _ _) ?_ ?_
  ·simp[e1,e2,hd]
  ·rw[e1,e2];simp only[Aq,if_neg h1,if_neg h2,if_neg h3,if_neg h4,if_neg h5,if_pos h6];rw[h6]
 by_cases h7:l.kind=7
 ·have hw:Ah l=[⟨#[102,108,111,111,100]⟩,l.dev,Al l.num,B9 l.addrs]:=by rw[Ah,if_neg h1,if_neg h2,if_neg h3,if_neg h4,if_neg h5,if_neg h6,if_pos h7]
  simp only[Aq,if_neg h1,if_neg h2,if_neg h3,if_neg h4,if_neg h5,if_neg h6,if_pos h7,Bool.and_eq_true]at hu
  have e1:=X4 hu.1
  obtain ⟨e2,e3⟩:=Ack ho.addrs hu.2
  rw[hw]
  refine key _ qf (by rw[wd0,k7];rfl) (st7 _ _ _ _) ?_ ?_
  ·simp[e1,e2,e3,hd]
  ·rw[e1,e2];simp only[Aq,if_neg h1,if_neg h2,if_neg h3,if_neg h4,if_neg h5,if_neg h6,if_pos h7];rw[h7]
 by_cases h8:l.kind=8
 ·have hw:Ah l=[⟨#[118,114,102]⟩,l.dev,l.name,By l.imports,By l.exports]:=by rw[Ah,if_neg h1,if_neg h2,if_neg h3,if_neg h4,if_neg h5,if_neg h6,if_neg h7,if_pos h8]
  simp only[Aq,if_neg h1,if_neg h2,if_neg h3,if_neg h4,if_neg h5,if_neg h6,if_neg h7,if_pos h8,Bool.and_eq_true]at hu
  have e1:=Qg qe hu.2.1
  have e2:=Qg qe hu.2.2
  rw[hw]
  refine key _ qf (by rw[wd0,k8];rfl) (st8 _ _ _ _ _) ?_ ?_
  ·simp[e1,e2,hd,hu.1]
  ·rw[e1,e2];simp only[Aq,if_neg h1,if_neg h2,if_neg h3,if_neg h4,if_neg h5,if_neg h6,if_neg h7,if_pos h8];rw[h8]
 by_cases h9:l.kind=9
 ·have hw:Ah l=[⟨#[105,114,98]⟩,l.dev,Al l.vlan,l.name,B0 l.addr l.bits]:=by rw[Ah,if_neg h1,if_neg h2,if_neg h3,if_neg h4,if_neg h5,if_neg h6,if_neg h7,if_neg h8,if_pos h9]
  simp only[Aq,if_neg h1,if_neg h2,if_neg h3,if_neg h4,if_neg h5,if_neg h6,if_neg h7,if_neg h8,if_pos h9,Bool.and_eq_true]at hu
  have e1:=I6 hu.1
  have hb:=J9 hu.2.2
  have e2:prefixR (B0 l.addr l.bits)=((l.addr,l.bits),true):=by
   obtain ⟨m,hm⟩:∃ m:Nat,l.addr=m:=⟨l.addr.toNat,by have:=ho.addr;omega⟩
   rw[hm];exact Yn m _ (by have:=ho.addr;omega) j_ j_
  rw[hw]
  refine key _ qf (by rw[wd0,k9];rfl) (st9 _ _ _ _ _) ?_ ?_
  ·simp[e1,e2,hd,hu.2.1,hu.2.2]
  ·rw[e1,e2];simp only[Aq,if_neg h1,if_neg h2,if_neg h3,if_neg h4,if_neg h5,if_neg h6,if_neg h7,if_neg h8,if_pos h9];rw[h9]
 ·simp only[Aq,if_neg h1,if_neg h2,if_neg h3,if_neg h4,if_neg h5,if_neg h6,if_neg h7,if_neg h8,if_neg h9]at hu
  cases hu
theorem Wi {s:ByteArray} {v:Int} (h:(A1 s).2=true) (e:(A1 s).1=v):Bg v 1 4094=true:=by
 have:=Dt h
 exact within_iff.2 (by rw[← e];exact this)
theorem Afk {s:ByteArray} {v:Int} (h:(El s).2=true) (e:(El s).1=v):Bg v 1 16777215=true:=by
 have:=Dt h
 exact within_iff.2 (by rw[← e];exact this)
theorem Jm {α:Type} {p:α × Bool} (h:p.2=true):p=(p.1,true):=by rw[← h]
end Go.Sy.YtgblchnfjbkipaaGreatDoor
