/-
  I15 I16 I17 I18 I12 I13 I14 I19 Sy30 Sy31 Sy32 Sy33 I32 I33 I34 I35 I27: parts of a proof, joined by program.
-/
import Derived.Test.YtgblchnfjbkipaaGreatDoorXF4
import Derived.Test.YtgblchnfjbkipaaGreatDoorXF3
namespace Go.Sy.YtgblchnfjbkipaaGreatDoor
open Go.Proofs
attribute [local irreducible] Go.Sy.G Go.Sy.DR
set_option maxRecDepth 100000
set_option maxHeartbeats 4000000
theorem Y0 {s:ByteArray} (h:s.size=0):s=⟨#[]⟩:=by
 have h2:s.data.toList.length=0:=h
 exact K0 (List.eq_nil_of_length_eq_zero h2)
theorem Zd (s:ByteArray) (hs:s.size≤1000000):Sy.Spec Tryz.prog 178 [Ac s] [] (Af (wordB s)) []:=cT F178 Tryz.ntmps178 fun F hF=>by
 have hsz:s.data.toList.length=s.size:=rfl
 have hw:=wordB.eq_1 s
 obtain ⟨r,hr⟩:∃ r,wordB s=r:=⟨_,rfl⟩
 rw[hr]at hw ⊢
 refine T ?_
 refine Bv s.size (fun j=>Mr (fun _ c=>Tv c) s.data.toList j) (fun j=>[(0,Ac s),(5,Aa s.size),(6,Aa j)]) (fun _=>[]) [] (Ej _ _) U ?_
 intro j hj hI
 refine T ?_
 refine⟨fun h=>?_,fun h=>?_⟩
 ·have hlt:j<s.data.toList.length:=qA h
  have hb:An s j=s.data.toList[j]:=M0 hlt
  have hno:=fun h=>@all_at' _ Tv s.data.toList j hlt h
  have hnx:=fun h=>D2 (p:=fun _ c=>Tv c) hI hlt h
  rw[← hb]at hno hnx
  clear h
  have hx:Tv (An s j)=(decide (32<(An s j).toNat) && decide ((An s j).toNat≤126) && decide ((An s j).toNat≠35)):=rfl
  by_cases h1:32<(An s j).toNat
  ·by_cases h2:(An s j).toNat≤126
   ·by_cases h3:(An s j).toNat=35
    ·rw[hno (by rw[hx];simp[h3]),Bool.and_false]at hw
     subst hw
     refine T ?_
     exact D
    ·refine T ?_
     exact By [] hI j_ (hnx (by rw[hx];simp[h1,h2,h3])) U
   ·rw[hno (by rw[hx];simp[h2]),Bool.and_false]at hw
    subst hw
    refine T ?_
    exact D
  ·rw[hno (by rw[hx];simp[h1]),Bool.and_false]at hw
   subst hw
   refine T ?_
   exact D
 ·have hje:j=s.size:=qB h
  subst hje
  rw[Lm hI (Nat.le_refl _),Bool.and_true]at hw
  clear h
  by_cases h0:s.size=0
  ·have hs:=Y0 h0
   have he:(s == (⟨#[]⟩:ByteArray))=true:=(C9 _ _).2 hs
   have hw:r=false:=by rw[hw,h0];rfl
   have he2:(!(s == (⟨#[]⟩:ByteArray)))=false:=by rw[he];rfl
   subst hw
   refine T ?_
   exact D
  ·have he:(s == (⟨#[]⟩:ByteArray))=false:=by
    cases he:(s == (⟨#[]⟩:ByteArray))
    ·rfl
    ·exact absurd (by rw[(C9 _ _).1 he];rfl) h0
   have he2:(!(s == (⟨#[]⟩:ByteArray)))=true:=by rw[he];rfl
   by_cases h4:s.size≤40
   ·have hw:r=true:=by rw[hw];simp[h4];omega
    subst hw
    refine T ?_
    refine Bo q_ (.cons .tmp .nil) (congrArg Af ?_) q_
    exact(decide_eq_true j_).symm
   ·have hw:r=false:=by rw[hw];simp[h4]
    subst hw
    refine T ?_
    refine Bo q_ (.cons .tmp .nil) (congrArg Af ?_) q_
    exact(decide_eq_false j_).symm
abbrev strO (row:ByteArray) (f:Nat) (l:List ByteArray):Obs:=[(1,.box [Aa f]),(2,.box [.osl 3]),(3,.row 1 Ac l),(4,.box [Ac row])]
abbrev strN (row:ByteArray) (f:Nat) (l:List ByteArray):Obs:=[(1,.box [Aa f]),(2,.box [.osl 5]),(3,.non),(5,.row 1 Ac l),(4,.box [Ac row])]
theorem Z8 (row:ByteArray) (f i:Nat) (l:List ByteArray) (hfi:f≤i) (hi:i≤row.size) (hs:row.size≤1000000) (hl:l.length≤1000000) :
  Sy.Spec Tryz.prog 234 [Aa i,.ptr 1 0,.ptr 2 0,.ptr 4 0] (strO row f l) (.tup []) (strN row (i+1) (l++C6 ((row.data.toList.take i).drop f))):=cT F234 Tryz.ntmps234 fun F hF=>by
 have hsz:row.data.toList.length=row.size:=rfl
 have hx:row.extract f i=mkT ((row.data.toList.take i).drop f):=by rw[← B2,Du]
 refine T ?_
 refine⟨fun h=>?_,fun h=>?_⟩
 ·have h1:f<i:=qA h
  have hne:(row.data.toList.take i).drop f≠[]:=fun e=>by
   have:=congrArg List.length e
   rw[List.length_drop,List.length_take]at this
   simp at this;omega
  rw[C6,if_neg hne,← hx]
  refine T ?_
  refine⟨⟨by omega,by omega,by omega⟩,?_⟩
  refine T ?_
  refine Xd (Ai Γ.toTy 14 q_ q_ q_ q_ q_ (.row q_) (.lit (e:=Ac) (l:=[row.extract f i]) q_ q_) qd (by simp;omega) (by simp;omega)) ?_
  refine T ?_
  exact Bl q_ .nil [(5,14)] (strN row (i+1) (l++[row.extract f i])) (fun _ h=>h) q_ q_ U
 ·have h1:¬ f<i:=qB h
  have he:(row.data.toList.take i).drop f=[]:=List.drop_eq_nil_of_le (by rw[List.length_take];omega)
  rw[he,C6,if_pos rfl,List.append_nil]
  refine Abq 3 1000 q_ q_ qc ?_
  refine T ?_
  exact Bl q_ .nil [(5,1000)] (strN row (i+1) l) (fun _ h=>h) q_ q_ U
theorem V7 (row:ByteArray) (hs:row.size≤100000):Sy.Spec Tryz.prog 177 [Ac row] [] (.sl 1 Ac (B7 [] row.data.toList)) []:=cT F177 Tryz.ntmps177 fun F hF=>by
 have hsz:row.data.toList.length=row.size:=rfl
 refine T ?_
 refine V3 3 0 1000 1 Ac q_ q_ q_ q_ ?_
 refine T ?_
 refine A7 (fun x:List ByteArray × Nat × Nat=>B7 [] row.data.toList=x.1++B7 ((row.data.toList.take x.2.2).drop x.2.1) (row.data.toList.drop x.2.2)∧x.2.1≤x.2.2∧x.2.2≤row.size∧x.1.length≤x.2.2)
  (fun x=>[(1,.ptr 1 0),(3,.ptr 3 0),(5,.clo (.func 234) [] [.ptr 4 0,.ptr 3 0,.ptr 1 0]),(6,Aa x.2.2)]) (fun x=>[(1,.box [Ac row]),(3,.box [.osl 1000]),(4,.box [Aa x.2.1]),(1000,.row 1 Ac x.1)]) (fun x=>row.size-x.2.2) ([],0,0) [] ⟨rfl,by simp,by simp,by simp⟩ U ?_
 rintro ⟨l,f,i⟩ ⟨hI,hfi,his,hlen⟩
 dsimp only at hI hfi his hlen ⊢
 have q:=fun i hfi hi=>Z8 row f i l hfi hi j_ j_
 refine T ?_
 refine⟨fun h=>?_,fun h=>?_⟩
 ·have hlt:i<row.size:=qA h
  have hlt':i<row.data.toList.length:=hlt
  have hb:An row i=row.data.toList[i]:=M0 hlt'
  have hdr:row.data.toList.drop i=row.data.toList[i]::row.data.toList.drop (i+1):=List.drop_eq_getElem_cons hlt'
  have htk:(row.data.toList.take (i+1)).drop f=(row.data.toList.take i).drop f++[row.data.toList[i]]:=by
   rw[List.take_succ_eq_append_getElem hlt',List.drop_append_of_le_length (by rw[List.length_take];omega)]
  rw[← hb]at hdr htk
  have q:=q i hfi j_
  clear h
  rw[hdr,B7]at hI
  have hlf:(l++C6 ((row.data.toList.take i).drop f)).length≤i+1:=by
   rw[C6];split<;>simp<;>omega
  have e0:(row.data.toList.take (i+1)).drop (i+1)=[]:=List.drop_eq_nil_of_le (by rw[List.length_take];omega)
  have h35:An row i=35↔(An row i).toNat=35:=⟨fun e=>by rw[e];rfl,fun e=>UInt8.toNat_inj.1 e⟩
  have h32:An row i=32↔(An row i).toNat=32:=⟨fun e=>by rw[e];rfl,fun e=>UInt8.toNat_inj.1 e⟩
  have h9:An row i=9↔(An row i).toNat=9:=⟨fun e=>by rw[e];rfl,fun e=>UInt8.toNat_inj.1 e⟩
  by_cases c1:(An row i).toNat=35
  ·rw[if_pos (h35.2 c1)]at hI
   rw[hI]
   refine T ?_
   refine X (Ah [(1,4),(2,3),(3,1000),(4,1),(5,900)] (Aj q_ q_ F234) q q_ W q_ V) ?_
   refine Bf 900 q_ ?_
   refine T ?_
   exact D
  ·rw[if_neg (fun e=>c1 (h35.1 e))]at hI
   by_cases c2:(An row i).toNat=32∨(An row i).toNat=9
   ·rw[if_pos (c2.elim (fun e=>.inl (h32.2 e)) (fun e=>.inr (h9.2 e)))]at hI
    by_cases c3:(An row i).toNat=32
    ·refine T ?_
     refine X (Ah [(1,4),(2,3),(3,1000),(4,1),(5,900)] (Aj q_ q_ F234) q q_ W q_ V) ?_
     refine As (l++C6 ((row.data.toList.take i).drop f),i+1,i+1) [(1000,900)] ⟨?_,Nat.le_refl _,hlt,hlf⟩ (by dsimp only;omega) U
     dsimp only
     rw[hI,List.append_assoc,e0]
    ·refine T ?_
     refine X (Ah [(1,4),(2,3),(3,1000),(4,1),(5,900)] (Aj q_ q_ F234) q q_ W q_ V) ?_
     refine As (l++C6 ((row.data.toList.take i).drop f),i+1,i+1) [(1000,900)] ⟨?_,Nat.le_refl _,hlt,hlf⟩ (by dsimp only;omega) U
     dsimp only
     rw[hI,List.append_assoc,e0]
   ·simp only[not_or]at c2
    rw[if_neg (by rw[h32,h9];omega)]at hI
    refine T ?_
    refine As (l,f,i+1) [] ⟨?_,by dsimp only;omega,hlt,by dsimp only;omega⟩ (by dsimp only;omega) U
    dsimp only
    rw[hI,htk]
 ·have hie:i=row.size:=qB h
  subst hie
  have q:=q row.size hfi j_
  have hdl:row.data.toList.drop row.size=[]:=by rw[← hsz,List.drop_length]
  rw[hdl,B7]at hI
  rw[hI]
  clear h
  refine T ?_
  refine X (Ah [(1,4),(2,3),(3,1000),(4,1),(5,900)] (Aj q_ q_ F234) q q_ W q_ V) ?_
  refine Bf 900 q_ ?_
  refine T ?_
  exact D
theorem Ey:∀ (l cur:List UInt8),(B7 cur l).length≤l.length+1
 | [],cur=>by rw[B7,C6];split<;>simp
 | c::l,cur=>by
  rw[B7]
  have h1:=Ey l []
  have h2:=Ey l (cur++[c])
  have h3:(C6 cur).length≤1:=by rw[C6];split<;>simp
  split
  ·simp;omega
  ·split
   ·simp;omega
   ·simp;omega
theorem Hg:∀ (l cur:List UInt8),∀ s∈B7 cur l,s.size≤cur.length+l.length
 | [],cur,s,hs=>by
  rw[B7,C6]at hs
  split at hs
  ·cases hs
  ·simp at hs;rw[hs,Bt];simp
 | c::l,cur,s,hs=>by
  have h3:∀ s∈C6 cur,s.size≤cur.length:=fun s hs=>by
   rw[C6]at hs
   split at hs
   ·cases hs
   ·simp at hs;rw[hs,Bt];exact Nat.le_refl _
  rw[B7]at hs
  split at hs
  ·have:=h3 s hs;omega
  ·split at hs
   ·rcases List.mem_append.1 hs with hs | hs
    ·have:=h3 s hs;omega
    ·have:=Hg l [] s hs
     simp at this ⊢;omega
   ·have:=Hg l (cur++[c]) s hs
    simp at this ⊢;omega
theorem Xi (row:ByteArray) (hs:row.size≤100000):Sy.Spec Tryz.prog 110 [Ac row] [] (.tup [.sl 1 Ac (wordsT row).1,Aa (wordsT row).2]) []:=cT F110 Tryz.ntmps110 fun F hF=>by
 have q:=V7 row hs
 have hres:=wordsT.eq_1 row
 have hlen:=Ey row.data.toList []
 have hsz:=Hg row.data.toList []
 have hrs:row.data.toList.length=row.size:=rfl
 generalize wordsT row=res at *
 generalize B7 [] row.data.toList=l at *
 refine T ?_
 refine C q F177 ?_
 refine Bv l.length (fun j=>Mr (fun _ s=>wordB s) l j) (fun j=>[(4,.sl 1 Ac l),(9,.sl 1 Ac l),(10,Aa l.length),(11,Aa j)]) (fun _=>[]) [] (Ej _ _) U ?_
 intro j hj hI
 refine T ?_
 refine⟨fun h=>?_,fun h=>?_⟩
 ·have hlt:j<l.length:=qA h
  have hlt0:((j:Nat):Int).toNat<l.length:=hlt
  have hno:=fun h=>@all_at' _ wordB l j hlt h
  have hnx:=fun h=>D2 (p:=fun _ s=>wordB s) hI hlt h
  have hsj:=hsz l[j] (List.getElem_mem hlt)
  clear h
  refine T ?_
  refine C (Zd (l[((j:Nat):Int).toNat]'hlt0) (by rw[show l[((j:Nat):Int).toNat]'hlt0=l[j] from q_];simp at hsj;omega)) F178 ?_
  refine⟨fun h=>?_,fun h=>?_⟩
  ·have hf:wordB l[j]=false:=by simpa using h
   rw[if_neg (by rw[hno hf];simp)]at hres
   subst hres
   refine T ?_
   refine Bw 2 1 Ac q_ ?_
   refine T ?_
   exact D
  ·have ht:wordB l[j]=true:=by simpa using h
   refine T ?_
   exact By [] hI j_ (hnx ht) U
 ·have hje:j=l.length:=qB h
  subst hje
  rw[if_pos (Lm hI (Nat.le_refl _))]at hres
  subst hres
  refine T ?_
  exact D
def Je (i:Nat) (c:UInt8):Bool:=Aay c || (D1 c && decide (i≠0))
theorem Aau (s:ByteArray):Ak s=(Qa Je s.data.toList && (decide (0<s.size) && decide (s.size≤12))):=by
 have hsz:s.data.toList.length=s.size:=rfl
 rw[Ak,← hsz]
 cases hl:s.data.toList with
 | nil=>rfl
 | cons c l =>
  have e:Qa Je (c::l)=(Aay c && l.all fun c=>Aay c || D1 c):=by
   rw[Bool.eq_iff_iff,allB_iff,Bool.and_eq_true,List.all_eq_true]
   constructor
   ·intro h
    refine⟨by have:=h 0 qd;simpa [Je] using this,fun x hx=>?_⟩
    obtain ⟨i,hi,rfl⟩:=List.mem_iff_getElem.1 hx
    have:=h (i+1) (by simp;omega)
    simpa [Je] using this
   ·rintro ⟨h1,h2⟩ i hi
    cases i with
    | zero=>simp[Je,h1]
    | succ i =>
     have:=h2 (l[i]'(by simp at hi;omega)) (List.getElem_mem _)
     simpa [Je] using this
  rw[e,Acl]
  simp
theorem Dt (s:ByteArray) (hs:s.size≤1000000):Sy.Spec Tryz.prog 235 [Ac s] [] (Af (Ak s)) []:=cT F235 Tryz.ntmps235 fun F hF=>by
 have hsz:s.data.toList.length=s.size:=rfl
 have hw:=Aau s
 obtain ⟨r,hr⟩:∃ r,Ak s=r:=⟨_,rfl⟩
 rw[hr]at hw ⊢
 refine T ?_
 refine Bv s.size (fun j=>Mr Je s.data.toList j) (fun j=>[(0,Ac s),(7,Aa s.size),(8,Aa j)]) (fun _=>[]) [] (Ej _ _) U ?_
 intro j hj hI
 refine T ?_
 refine⟨fun h=>?_,fun h=>?_⟩
 ·have hlt:j<s.data.toList.length:=qA h
  have hb:An s j=s.data.toList[j]:=M0 hlt
  have hno:=fun h=>Ev (p:=Je) hlt h
  have hnx:=fun h=>D2 (p:=Je) hI hlt h
  rw[← hb]at hno hnx
  clear h
  have hx:Je j (An s j)=((decide (97≤(An s j).toNat) && decide ((An s j).toNat≤122)) || ((decide (48≤(An s j).toNat) && decide ((An s j).toNat≤57)) && decide (j≠0))):=rfl
  rcases (by omega:(An s j).toNat<48∨(48≤(An s j).toNat∧(An s j).toNat≤57)∨(57<(An s j).toNat∧(An s j).toNat<97)∨(97≤(An s j).toNat∧(An s j).toNat≤122)∨122<(An s j).toNat) with h | h | h | h | h
  ·rw[hno (by rw[hx,decide_eq_false (by omega:¬ 97≤(An s j).toNat),decide_eq_false (by omega:¬ 48≤(An s j).toNat)];rfl),Bool.false_and]at hw
   subst hw
   refine T ?_
   exact D
  ·by_cases h0:j=0
   ·subst h0
    rw[hno (by rw[hx,decide_eq_false (by omega:¬ 97≤(An s 0).toNat)];simp),Bool.false_and]at hw
    subst hw
    refine T ?_
    exact D
   ·refine T ?_
    exact By [] hI j_ (hnx (by rw[hx];simp[h,h0])) U
  ·rw[hno (by rw[hx,decide_eq_false (by omega:¬ 97≤(An s j).toNat),decide_eq_false (by omega:¬ (An s j).toNat≤57)];simp),Bool.false_and]at hw
   subst hw
   refine T ?_
   exact D
  ·refine T ?_
   exact By [] hI j_ (hnx (by rw[hx];simp[h])) U
  ·rw[hno (by rw[hx,decide_eq_false (by omega:¬ (An s j).toNat≤122),decide_eq_false (by omega:¬ (An s j).toNat≤57)];simp),Bool.false_and]at hw
   subst hw
   refine T ?_
   exact D
 ·have hje:j=s.size:=qB h
  subst hje
  rw[M1 hI (Nat.le_refl _),Bool.true_and]at hw
  clear h
  subst hw
  by_cases h0:0<s.size
  ·refine T ?_
   refine⟨fun _=>?_,fun h=>absurd (of_decide_eq_false h) j_⟩
   refine T ?_
   refine Bo q_ (.cons .tmp .nil) (congrArg Af ?_) q_
   rw[decide_eq_true h0,Bool.true_and]
   exact decide_eq_decide.2 j_
  ·rw[decide_eq_false h0,Bool.false_and]
   refine T ?_
   exact D
theorem Q2 (c:UInt8):Sy.Spec Tryz.prog 290 [Al c] [] (Cy (digI c)) []:=cT F290 Tryz.ntmps290 fun F hF=>by
 have hres:=digI.eq_1 c
 generalize digI c=res at *
 have hcn:=c.toNat_lt
 rcases (by omega:c.toNat<48∨(48≤c.toNat∧c.toNat≤57)∨(57<c.toNat∧c.toNat<97)∨(97≤c.toNat∧c.toNat≤102)∨102<c.toNat) with h | h | h | h | h
 ·rw[if_neg j_,if_neg j_]at hres
  subst hres
  refine T ?_
  exact D
 ·rw[if_pos j_]at hres
  subst hres
  refine T ?_
  refine Bo q_ (.cons .tmp .nil) ?_ q_
  refine congrArg (fun z=>SV.val (.int .u64 z)) (?_:_=IntKind.u64.wrap (IntKind.u8.wrap ((c.toNat:Int)-48)))
  rw[IntKind.wrap_u8,IntKind.wrap_u64];omega
 ·rw[if_neg j_,if_neg j_]at hres
  subst hres
  refine T ?_
  exact D
 ·rw[if_neg j_,if_pos j_]at hres
  subst hres
  refine T ?_
  refine Bo q_ (.cons .tmp .nil) ?_ q_
  refine congrArg (fun z=>SV.val (.int .u64 z)) (?_:_=IntKind.u64.wrap (IntKind.u64.wrap (IntKind.u8.wrap ((c.toNat:Int)-97))+10))
  rw[IntKind.wrap_u8,IntKind.wrap_u64,IntKind.wrap_u64];omega
 ·rw[if_neg j_,if_neg j_]at hres
  subst hres
  refine T ?_
  exact D
theorem Jt {s:ByteArray}:∀ {j:Nat},(∀ i,i<j→Ko s i=true)→0≤Kn s j∧Kn s j<256 ^ j
 | 0,_=>by simp[Kn]
 | j+1,h=>by
  have ih:=Jt (s:=s) (j:=j) (fun i hi=>h i j_)
  have hj:=h j j_
  simp only[Ko,Bool.and_eq_true,decide_eq_true_eq]at hj
  have d1:=Mx (An s (3 * j))
  have d2:=Mx (An s (3 * j+1))
  rw[Kn,Int.pow_succ]
  omega
theorem Aav (m a b:Nat) (hm:m<72057594037927936) (ha:a<16) (hb:b<16):bits .or .u64 (bits .or .u64 (IntKind.u64.wrap ((m:Int) * 2 ^ min (Int.toNat 8) IntKind.u64.bits)) (IntKind.u64.wrap ((a:Int) * 2 ^ min (Int.toNat 4) IntKind.u64.bits))) (b:Int)=((m * 256+a * 16+b:Nat):Int):=by
 have e1:IntKind.u64.wrap ((m:Int) * 2 ^ min (Int.toNat 8) IntKind.u64.bits)=((m * 256:Nat):Int):=by
  show IntKind.u64.wrap ((m:Int) * 256)=_
  rw[IntKind.wrap_u64];omega
 have e2:IntKind.u64.wrap ((a:Int) * 2 ^ min (Int.toNat 4) IntKind.u64.bits)=((a * 16:Nat):Int):=by
  show IntKind.u64.wrap ((a:Int) * 16)=_
  rw[IntKind.wrap_u64];omega
 have o1:=Nat.two_pow_add_eq_or_of_lt (i:=8) (b:=a * 16) j_ m
 have o2:=Nat.two_pow_add_eq_or_of_lt (i:=4) (b:=b) j_ (m * 16+a)
 have f1:m * 256 ||| a * 16=m * 256+a * 16:=by rw[Nat.mul_comm m 256];exact o1.symm
 have f2:(m * 256+a * 16) ||| b=m * 256+a * 16+b:=by
  have e:m * 256+a * 16=2 ^ 4 * (m * 16+a):=by omega
  rw[e];exact o2.symm
 rw[e1,e2,bits_or_u64_nat _ _ j_ j_,f1,bits_or_u64_nat _ _ j_ j_,f2]
theorem macR_no {s:ByteArray} {j:Nat} (hj:j<6) (h:Ko s j=false):macR s=(0,false):=by
 rw[macR,if_neg]
 rintro ⟨_,h2⟩
 rw[List.all_eq_true]at h2
 rw[h2 j (List.mem_range.2 hj)]at h;cases h
theorem Aaw (s:ByteArray) (hs:s.size≤1000000):Sy.Spec Tryz.prog 237 [Ac s] [] (.tup [Cy (macR s).1,Af (macR s).2]) []:=cT F237 Tryz.ntmps237 fun F hF=>by
 have hno:=@macR_no s
 have hyes:=macR.eq_1 s
 generalize macR s=res at *
 by_cases h17:s.size=17
 rotate_left
 ·rw[if_neg (fun e=>h17 e.1)]at hyes
  subst hyes
  refine T ?_
  exact D
 refine T ?_
 refine Bv 6 (fun j=>∀ i,i<j→Ko s i=true) (fun j=>[(0,Ac s),(4,Cy (Kn s j)),(11,Aa j)]) (fun _=>[]) [] (fun i hi=>by omega) U ?_
 intro j hj hI
 have hmv:=Jt hI
 refine T ?_
 refine⟨fun h=>?_,fun h=>?_⟩
 ·have hlt:j<6:=qA h
  have hno:=hno hlt
  clear h
  have i0:(3 * ((j:Nat):Int)).toNat=3 * j:=by omega
  have i1:(3 * ((j:Nat):Int)+1).toNat=3 * j+1:=by omega
  have i2:(3 * ((j:Nat):Int)+2).toNat=3 * j+2:=by omega
  have hx:Ko s j=(decide (digI (An s (3 * j))≤15) && decide (digI (An s (3 * j+1))≤15) && (decide (5≤j) || decide ((An s (3 * j+2)).toNat=58))):=rfl
  have hv:Kn s (j+1)=Kn s j * 256+digI (An s (3 * j)) * 16+digI (An s (3 * j+1)):=rfl
  rw[← i1,← i2,← i0]at hx
  rw[← i1,← i0]at hv
  have d1:=Mx (An s (3 * ((j:Nat):Int)).toNat)
  have d2:=Mx (An s (3 * ((j:Nat):Int)+1).toNat)
  have q1:=Q2 (An s (3 * ((j:Nat):Int)).toNat)
  have q2:=Q2 (An s (3 * ((j:Nat):Int)+1).toNat)
  by_cases c1:digI (An s (3 * ((j:Nat):Int)).toNat)≤15
  ·have f1:decide (digI (An s (3 * ((j:Nat):Int)).toNat)>15)=false:=decide_eq_false j_
   by_cases c2:digI (An s (3 * ((j:Nat):Int)+1).toNat)≤15
   ·have f2:decide (digI (An s (3 * ((j:Nat):Int)+1).toNat)>15)=false:=decide_eq_false j_
    have hp:(256:Int) ^ j≤256 ^ 5:=by
     have:=Nat.pow_le_pow_right (n:=256) qc (show j≤5 by omega)
     exact_mod_cast this
    have hst:=Aav (Kn s j).toNat (digI (An s (3 * ((j:Nat):Int)).toNat)).toNat (digI (An s (3 * ((j:Nat):Int)+1).toNat)).toNat j_ j_ j_
    have hst2:((((Kn s j).toNat * 256+(digI (An s (3 * ((j:Nat):Int)).toNat)).toNat * 16+(digI (An s (3 * ((j:Nat):Int)+1).toNat)).toNat:Nat)):Int)=Kn s (j+1):=by rw[hv];omega
    rw[hst2,Int.toNat_of_nonneg hmv.1,Int.toNat_of_nonneg d1.1,Int.toNat_of_nonneg d2.1]at hst
    by_cases c3:j<5
    ·by_cases c4:(An s (3 * ((j:Nat):Int)+2).toNat).toNat=58
     ·have f4:(((An s (3 * ((j:Nat):Int)+2).toNat).toNat:Int) != 58)=false:=by rw[c4];rfl
      have hmj:Ko s j=true:=by rw[hx,c4];simp[c1,c2]
      refine T ?_
      refine C q1 F290 ?_
      refine C q2 F290 ?_
      exact By [] hI hlt (fun i hi=>by
       by_cases e:i=j
       ·rw[e];exact hmj
       ·exact hI i j_) ⟨⟨q_,q_,congrArg Cy hst.symm,q_,q_,q_,z_⟩,z_,q_,q_⟩
     ·have f4:(((An s (3 * ((j:Nat):Int)+2).toNat).toNat:Int) != 58)=true:=by
       rw[bne_iff_ne];omega
      have hmj:Ko s j=false:=by rw[hx,decide_eq_false c4,decide_eq_false (by omega:¬ 5≤j)];simp
      rw[hno hmj]
      refine T ?_
      refine C q1 F290 ?_
      refine C q2 F290 ?_
      exact D
    ·have hmj:Ko s j=true:=by rw[hx];simp[c1,c2];omega
     refine T ?_
     refine C q1 F290 ?_
     refine C q2 F290 ?_
     exact By [] hI hlt (fun i hi=>by
      by_cases e:i=j
      ·rw[e];exact hmj
      ·exact hI i j_) ⟨⟨q_,q_,congrArg Cy hst.symm,q_,q_,q_,z_⟩,z_,q_,q_⟩
   ·have f2:decide (digI (An s (3 * ((j:Nat):Int)+1).toNat)>15)=true:=decide_eq_true j_
    rw[hno (by rw[hx,decide_eq_false c2];simp)]
    refine T ?_
    refine C q1 F290 ?_
    refine C q2 F290 ?_
    exact D
  ·have f1:decide (digI (An s (3 * ((j:Nat):Int)).toNat)>15)=true:=decide_eq_true j_
   rw[hno (by rw[hx,decide_eq_false c1];rfl)]
   refine T ?_
   refine C q1 F290 ?_
   refine C q2 F290 ?_
   exact D
 ·have hje:j=6:=qB h
  subst hje
  clear h
  rw[if_pos ⟨h17,by rw[List.all_eq_true];intro i hi;exact hI i (List.mem_range.1 hi)⟩]at hyes
  subst hyes
  refine T ?_
  exact D
theorem Ve (m:Nat) (h:m<18446744073709551616):(((bits .and .u64 (m:Int) 281474976710655).fdiv (2 ^ min (Int.toNat 32) IntKind.u64.bits)) != 512)=!(Ht m):=by
 have e:=bits_and_u64_nat m 281474976710655 h qc
 have e2:m &&& 281474976710655=m % 281474976710656:=Nat.and_two_pow_sub_one_eq_mod m 48
 have e3:bits .and .u64 (m:Int) 281474976710655=((m % 281474976710656:Nat):Int):=by rw[← e2];exact e
 have e4:((m % 281474976710656:Nat):Int).fdiv (2 ^ min (Int.toNat 32) IntKind.u64.bits)=((m % 281474976710656 / 4294967296:Nat):Int):=by
  show ((m % 281474976710656:Nat):Int).fdiv 4294967296=_
  rw[Int.fdiv_eq_ediv_of_nonneg _ qc,Int.natCast_ediv];rfl
 rw[e3,e4,Ht]
 by_cases hh:m % 281474976710656 / 4294967296=512
 ·rw[hh,decide_eq_true j_];rfl
 ·rw[decide_eq_false j_]
  simp;omega
def Aba (m:Int):Int:=if Ht m=true then IntKind.u32.wrap (bits .and .u64 m 281474976710655) else 0
theorem Ab4 (m:Nat) (h:m<18446744073709551616):Sy.Spec Tryz.prog 291 [Cy m] [] (.tup [A1 (Aba m),Af (Ht m)]) []:=cT F291 Tryz.ntmps291 fun F hF=>by
 have hb:=Ve m h
 rw[Aba]
 cases hh:Ht m with
 | true =>
  have hb:=hb.trans (by rw[hh];rfl:_=false)
  rw[if_pos rfl]
  refine T ?_
  exact D
 | false =>
  have hb:=hb.trans (by rw[hh];rfl:_=true)
  rw[if_neg qd]
  refine T ?_
  exact D
theorem Zb (m:Nat) (h:m<18446744073709551616):Sy.Spec Tryz.prog 292 [Cy m] [] (Af (Tg m)) []:=cT F292 Tryz.ntmps292 fun F hF=>by
 have hb:=Zm m h
 refine T ?_
 exact Bo q_ (.cons .tmp .nil) (congrArg Af hb.symm) q_
theorem M7 (m:Nat) (h:m<18446744073709551616):Sy.Spec Tryz.prog 238 [Cy m] [] (Af (statB m)) []:=cT F238 Tryz.ntmps238 fun F hF=>by
 have q1:=Ab4 m h
 have q2:=Zb m h
 have hw:=statB.eq_1 (m:Int)
 rw[Int.toNat_natCast]at hw
 generalize statB (m:Int)=r at *
 generalize Aba (m:Int)=hv at *
 by_cases c1:(m:Int)≤281474976710655
 ·rw[decide_eq_true c1,Bool.true_and]at hw
  have f1:decide ((m:Int)≤281474976710655)=true:=decide_eq_true c1
  cases hh:Ht m with
  | true =>
   rw[hh]at q1 hw
   simp at hw
   subst hw
   refine T ?_
   refine C q1 F291 ?_
   exact D
  | false =>
   rw[hh]at q1 hw
   simp at hw
   subst hw
   refine T ?_
   refine C q1 F291 ?_
   refine C q2 F292 ?_
   exact D
 ·rw[decide_eq_false c1]at hw
  have f1:decide ((m:Int)≤281474976710655)=false:=decide_eq_false c1
  simp at hw
  subst hw
  refine T ?_
  refine C q1 F291 ?_
  exact D
def Et (one:ByteArray→Int × Bool) (out:List Int) (s:ByteArray) (b:Bool):List Int × Bool:=if b=true then C2 one out (A3 44 s) else (out,true)
theorem Aa7 {c:UInt8}:∀ {l:List UInt8},0≤Lib.indexByte l c→c∈l
 | [],h=>by simp[Lib.indexByte]at h
 | b::l,h=>by
  unfold Lib.indexByte at h
  by_cases hb:(b == c)=true
  ·simp at hb;simp[hb]
  ·rw[if_neg hb]at h
   by_cases h1:(Lib.indexByte l c == -1)=true
   ·rw[if_pos h1]at h;omega
   ·rw[if_neg h1]at h
    have:=Dw l c
    have h2:Lib.indexByte l c≠-1:=by simpa using h1
    exact List.mem_cons_of_mem _ (Aa7 j_)
theorem Ow (one:ByteArray→Int × Bool) (out:List Int) (s:ByteArray) :
  Et one out s true=(if (one (cutT 44 s).1).2=false∨out.length=16∨(∃ x,out.getLast? = some x∧(one (cutT 44 s).1).1≤x) then ([],false) else Et one (out++[(one (cutT 44 s).1).1]) (cutT 44 s).2.1 (cutT 44 s).2.2):=by
 rw[Et,if_pos rfl,Qw]
 have hsz:s.data.toList.length=s.size:=rfl
 have tk:∀ i,s.extract 0 i=mkT (s.data.toList.take i):=fun i=>by rw[← Du s,B2,Dv];simp
 by_cases h:0≤Lib.indexByte s.data.toList 44
 ·have hm:=Aa7 h
  have e2:s.extract (Ea 44 s.data.toList+1) s.size=mkT (s.data.toList.drop (Ea 44 s.data.toList+1)):=by
   have:=B2 s.data.toList (Ea 44 s.data.toList+1) s.size
   rw[Du]at this
   rw[this,← hsz,List.take_length]
  rw[cutT,if_pos h,Hi 44 _ _ hm,List.nil_append,C2,tk,e2]
  dsimp only
  rw[Et,if_pos rfl,Qw,Dv]
 ·have hm:(44:UInt8)∉s.data.toList:=fun hh=>h (Dn hh).1
  rw[cutT,if_neg h,Hj 44 _ _ hm,List.nil_append,Du,C2]
  simp only[Et,if_neg (show ¬ (false=true) by simp),C2]
theorem Sg (s:ByteArray):(cutT 44 s).1.size≤s.size∧(cutT 44 s).2.1.size≤s.size∧((cutT 44 s).2.2=true→(cutT 44 s).2.1.size<s.size):=by
 have hsz:s.data.toList.length=s.size:=rfl
 have hlt:=Hu s.data.toList 44
 have ex:∀ i j,(s.extract i j).size=((s.data.toList.take j).drop i).length:=fun i j=>by
  have:=B2 s.data.toList i j
  rw[Du]at this
  rw[this,Bt]
 rw[cutT]
 split
 ·rename_i h
  refine⟨?_,?_,fun _=>?_⟩
  ·rw[ex,List.length_drop,List.length_take];omega
  ·rw[ex,List.length_drop,List.length_take];omega
  ·rw[ex,List.length_drop,List.length_take]
   have:Ea 44 s.data.toList+1≤s.data.toList.length:=by unfold Ea;omega
   omega
 ·exact⟨Nat.le_refl _,Nat.zero_le _,fun e=>by cases e⟩
theorem Uy (one:ByteArray→Int × Bool) (f:FuncId) (first cap:List SV) (hc:(SV.clo (.func f) first cap).inn []=true) (hr:∀ ρ:Nat→Nat,(SV.clo (.func f) first cap).ren ρ=.clo (.func f) first cap) (s0:ByteArray) (hs:s0.size≤10000) (hf:∀ p:ByteArray,p.size≤s0.size→Ms Tryz.prog f (first++[Ac p]++cap) (.tup [Aa (one p).1,Af (one p).2])) :
  Sy.Spec Tryz.prog 294 [Ac s0,.clo (.func f) first cap] [] (.tup [.sl 1 Aa (C3 one s0).1,Af (C3 one s0).2]) []:=cT F294 Tryz.ntmps294 fun F hF=>by
 have hres:C3 one s0=Et one [] s0 true:=rfl
 generalize C3 one s0=res at *
 have hc':(SV.clo (.func f) first cap).inn [1000]=true:=De _ hc
 have hin:∀ y:SV,y.inn []=true→Be [] (first++[y]++cap)=true:=fun y hy=>by
  simp only[SV.inn,Bool.and_eq_true]at hc
  rw[Bk,Bk,hc.1,hc.2]
  simp[Be,hy]
 refine T ?_
 refine Dg 6 1000 1 Aa q_ q_ ?_
 refine T ?_
 refine A7 (fun x:ByteArray × Bool × List Int=>res=Et one x.2.2 x.1 x.2.1∧x.1.size≤s0.size∧x.2.2.length≤16) (fun x=>[(0,Ac x.1),(1,.clo (.func f) first cap),(6,.osl 1000),(7,Af x.2.1)]) (fun x=>[(1000,.row 1 Aa x.2.2)]) (fun x=>if x.2.1=true then x.1.size+1 else 0) (s0,true,[]) [] ⟨hres,Nat.le_refl _,by simp⟩ ⟨⟨q_,q_,A0 _,hc',q_,q_,q_,q_,z_⟩,⟨.inl q_,q_,z_⟩,q_,q_⟩ ?_
 rintro ⟨s,b,out⟩ ⟨hI,hsz,hout⟩
 dsimp only at hI hsz hout ⊢
 cases b with
 | false =>
  rw[Et,if_neg qd]at hI
  subst hI
  refine T ?_
  refine Bf 1000 q_ ?_
  refine T ?_
  exact D
 | true =>
  have q1:=Mt s 44 j_
  have hsm:=Sg s
  rw[Ow]at hI
  generalize cutT 44 s=ct at *
  obtain ⟨p,r,m⟩:=ct
  dsimp only at hI hsm q1
  have q2:=hf p j_
  generalize one p=op at *
  obtain ⟨v,ok⟩:=op
  dsimp only at hI q2
  refine T ?_
  refine C q1 F176 ?_
  refine Yh q2 q_ q_ q_ (by simp only[hin (Ac p) q_];rfl) q_ q_ ?_
  cases ok with
  | false =>
   rw[if_pos (.inl rfl)]at hI
   subst hI
   refine T ?_
   refine Bw 4 1 Aa q_ ?_
   refine T ?_
   exact D
  | true =>
   by_cases c1:out.length=16
   ·rw[if_pos (.inr (.inl c1))]at hI
    subst hI
    refine T ?_
    refine Bw 4 1 Aa q_ ?_
    refine T ?_
    exact D
   ·by_cases c2:out.length=0
    ·have hn:out=[]:=List.eq_nil_of_length_eq_zero c2
     rw[if_neg (by rw[hn];simp)]at hI
     refine T ?_
     refine X (Ai Γ.toTy 49 q_ q_ q_ q_ q_ (.row q_) (.lit (e:=Aa) (l:=[v]) q_ q_) qd (by simp;omega) (by simp;omega)) ?_
     refine As (r,m,out++[v]) [(1000,49)] ⟨hI,by dsimp only;omega,by simp;omega⟩ (by
      have h3:=hsm.2.2
      cases m
      ·simp
      ·have:=h3 rfl;simp;omega) ⟨⟨rfl,rfl,hr _,hc',rfl,rfl,rfl,rfl,trivial⟩,⟨.inl rfl,rfl,trivial⟩,rfl,rfl⟩
    ·have hk:((out.length:Int)-1).toNat<out.length:=by omega
     have hlast:out.getLast? = some (out[((out.length:Int)-1).toNat]'hk):=by
      rw[List.getLast?_eq_getElem?,List.getElem?_eq_getElem j_]
      congr 1
      have:out.length-1=((out.length:Int)-1).toNat:=by omega
      simp only[this]
     have f2:decide ((out.length:Int)>0)=true:=decide_eq_true j_
     by_cases c3:v≤out[((out.length:Int)-1).toNat]'hk
     ·have f3:decide (out[((out.length:Int)-1).toNat]'hk≥v)=true:=decide_eq_true c3
      rw[if_pos (.inr (.inr ⟨_,hlast,c3⟩))]at hI
      subst hI
      refine T ?_
      refine Bw 4 1 Aa q_ ?_
      refine T ?_
      exact D
     ·have f3:decide (out[((out.length:Int)-1).toNat]'hk≥v)=false:=decide_eq_false c3
      rw[if_neg (by
       rintro (hh | hh | ⟨x,hx,hh⟩)
       ·cases hh
       ·exact c1 hh
       ·rw[hlast]at hx
        simp only[Option.some.injEq]at hx
        rw[← hx]at hh
        exact c3 hh)]at hI
      refine T ?_
      refine X (Ai Γ.toTy 49 q_ q_ q_ q_ q_ (.row q_) (.lit (e:=Aa) (l:=[v]) q_ q_) qd (by simp;omega) (by simp;omega)) ?_
      refine As (r,m,out++[v]) [(1000,49)] ⟨hI,by dsimp only;omega,by simp;omega⟩ (by
      have h3:=hsm.2.2
      cases m
      ·simp
      ·have:=h3 rfl;simp;omega) ⟨⟨rfl,rfl,hr _,hc',rfl,rfl,rfl,rfl,trivial⟩,⟨.inl rfl,rfl,trivial⟩,rfl,rfl⟩
theorem Uw (one:ByteArray→Int × Bool) (f:FuncId) (first cap:List SV) (hc:(SV.clo (.func f) first cap).inn []=true) (hr:∀ ρ:Nat→Nat,(SV.clo (.func f) first cap).ren ρ=.clo (.func f) first cap) (s0:ByteArray) (hs:s0.size≤10000) (hf:∀ p:ByteArray,p.size≤s0.size→Ms Tryz.prog f (first++[Ac p]++cap) (.tup [A1 (one p).1,Af (one p).2])) :
  Sy.Spec Tryz.prog 242 [Ac s0,.clo (.func f) first cap] [] (.tup [.sl 1 A1 (C3 one s0).1,Af (C3 one s0).2]) []:=cT F242 Tryz.ntmps242 fun F hF=>by
 have hres:C3 one s0=Et one [] s0 true:=rfl
 generalize C3 one s0=res at *
 have hc':(SV.clo (.func f) first cap).inn [1000]=true:=De _ hc
 have hin:∀ y:SV,y.inn []=true→Be [] (first++[y]++cap)=true:=fun y hy=>by
  simp only[SV.inn,Bool.and_eq_true]at hc
  rw[Bk,Bk,hc.1,hc.2]
  simp[Be,hy]
 refine T ?_
 refine Dg 6 1000 1 A1 q_ q_ ?_
 refine T ?_
 refine A7 (fun x:ByteArray × Bool × List Int=>res=Et one x.2.2 x.1 x.2.1∧x.1.size≤s0.size∧x.2.2.length≤16) (fun x=>[(0,Ac x.1),(1,.clo (.func f) first cap),(6,.osl 1000),(7,Af x.2.1)]) (fun x=>[(1000,.row 1 A1 x.2.2)]) (fun x=>if x.2.1=true then x.1.size+1 else 0) (s0,true,[]) [] ⟨hres,Nat.le_refl _,by simp⟩ ⟨⟨q_,q_,A0 _,hc',q_,q_,q_,q_,z_⟩,⟨.inl q_,q_,z_⟩,q_,q_⟩ ?_
 rintro ⟨s,b,out⟩ ⟨hI,hsz,hout⟩
 dsimp only at hI hsz hout ⊢
 cases b with
 | false =>
  rw[Et,if_neg qd]at hI
  subst hI
  refine T ?_
  refine Bf 1000 q_ ?_
  refine T ?_
  exact D
 | true =>
  have q1:=Mt s 44 j_
  have hsm:=Sg s
  rw[Ow]at hI
  generalize cutT 44 s=ct at *
  obtain ⟨p,r,m⟩:=ct
  dsimp only at hI hsm q1
  have q2:=hf p j_
  generalize one p=op at *
  obtain ⟨v,ok⟩:=op
  dsimp only at hI q2
  refine T ?_
  refine C q1 F176 ?_
  refine Yh q2 q_ q_ q_ (by simp only[hin (Ac p) q_];rfl) q_ q_ ?_
  cases ok with
  | false =>
   rw[if_pos (.inl rfl)]at hI
   subst hI
   refine T ?_
   refine Bw 4 1 A1 q_ ?_
   refine T ?_
   exact D
  | true =>
   by_cases c1:out.length=16
   ·rw[if_pos (.inr (.inl c1))]at hI
    subst hI
    refine T ?_
    refine Bw 4 1 A1 q_ ?_
    refine T ?_
    exact D
   ·by_cases c2:out.length=0
    ·have hn:out=[]:=List.eq_nil_of_length_eq_zero c2
     rw[if_neg (by rw[hn];simp)]at hI
     refine T ?_
     refine X (Ai Γ.toTy 49 q_ q_ q_ q_ q_ (.row q_) (.lit (e:=A1) (l:=[v]) q_ q_) qd (by simp;omega) (by simp;omega)) ?_
     refine As (r,m,out++[v]) [(1000,49)] ⟨hI,by dsimp only;omega,by simp;omega⟩ (by
      have h3:=hsm.2.2
      cases m
      ·simp
      ·have:=h3 rfl;simp;omega) ⟨⟨rfl,rfl,hr _,hc',rfl,rfl,rfl,rfl,trivial⟩,⟨.inl rfl,rfl,trivial⟩,rfl,rfl⟩
    ·have hk:((out.length:Int)-1).toNat<out.length:=by omega
     have hlast:out.getLast? = some (out[((out.length:Int)-1).toNat]'hk):=by
      rw[List.getLast?_eq_getElem?,List.getElem?_eq_getElem j_]
      congr 1
      have:out.length-1=((out.length:Int)-1).toNat:=by omega
      simp only[this]
     have f2:decide ((out.length:Int)>0)=true:=decide_eq_true j_
     by_cases c3:v≤out[((out.length:Int)-1).toNat]'hk
     ·have f3:decide (out[((out.length:Int)-1).toNat]'hk≥v)=true:=decide_eq_true c3
      rw[if_pos (.inr (.inr ⟨_,hlast,c3⟩))]at hI
      subst hI
      refine T ?_
      refine Bw 4 1 A1 q_ ?_
      refine T ?_
      exact D
     ·have f3:decide (out[((out.length:Int)-1).toNat]'hk≥v)=false:=decide_eq_false c3
      rw[if_neg (by
       rintro (hh | hh | ⟨x,hx,hh⟩)
       ·cases hh
       ·exact c1 hh
       ·rw[hlast]at hx
        simp only[Option.some.injEq]at hx
        rw[← hx]at hh
        exact c3 hh)]at hI
      refine T ?_
      refine X (Ai Γ.toTy 49 q_ q_ q_ q_ q_ (.row q_) (.lit (e:=A1) (l:=[v]) q_ q_) qd (by simp;omega) (by simp;omega)) ?_
      refine As (r,m,out++[v]) [(1000,49)] ⟨hI,by dsimp only;omega,by simp;omega⟩ (by
      have h3:=hsm.2.2
      cases m
      ·simp
      ·have:=h3 rfl;simp;omega) ⟨⟨rfl,rfl,hr _,hc',rfl,rfl,rfl,rfl,trivial⟩,⟨.inl rfl,rfl,trivial⟩,rfl,rfl⟩
theorem Tc (p:ByteArray) (lo hi:Int):Sy.Spec Tryz.prog 295 [Ac p,.ref 1 (Aa lo) 0,.ref 1 (Aa hi) 0] [] (.tup [Aa (numR p lo hi).1,Af (numR p lo hi).2]) []:=cT F295 Tryz.ntmps295 fun F hF=>by
 have q:=Ux p lo hi
 generalize numR p lo hi=r at *
 refine T ?_
 refine C q F236 ?_
 exact D
theorem Tb (s:ByteArray) (hi:Int) (hs:s.size≤10000):Sy.Spec Tryz.prog 243 [Ac s,Aa 1,Aa hi] [] (.tup [.sl 1 Aa (C3 (fun p=>numR p 1 hi) s).1,Af (C3 (fun p=>numR p 1 hi) s).2]) []:=cT F243 Tryz.ntmps243 fun F hF=>by
 have q:=Uy (fun p=>numR p 1 hi) 295 [] [.ref 1 (Aa 1) 0,.ref 1 (Aa hi) 0] rfl (fun _=>rfl) s hs (fun p _=>⟨⟨_,_,F295⟩,Tc p 1 hi⟩)
 generalize C3 (fun p=>numR p 1 hi) s=r at *
 refine T ?_
 refine Acp 4 1 (Aa 1) q_ q_ q_ ?_
 refine Acp 5 1 (Aa hi) q_ q_ q_ ?_
 refine T ?_
 refine C q F294 ?_
 exact D
theorem Qi (s:ByteArray) (hs:s.size≤10000):Sy.Spec Tryz.prog 190 [Ac s] [] (.tup [.sl 1 A1 (Cg s).1,Af (Cg s).2]) []:=cT F190 Tryz.ntmps190 fun F hF=>by
 have q:=Uw Bn 187 [] [] rfl (fun _=>rfl) s hs (fun p hp=>⟨⟨_,_,F187⟩,Lo p j_⟩)
 unfold Cg
 generalize C3 Bn s=r at *
 refine T ?_
 refine C q F242 ?_
 exact D
theorem Vy (s:ByteArray) (hs:s.size≤10000):Sy.Spec Tryz.prog 192 [Ac s] [] (.tup [Ds (prefixR s).1.1 (prefixR s).1.2,Af (prefixR s).2]) []:=cT F192 Tryz.ntmps192 fun F hF=>by
 have q1:=Mt s 47 j_
 have hres:=prefixR.eq_1 s
 have hsm:(cutT 47 s).1.size≤s.size:=by
  rw[cutT]
  split
  ·have:=B2 s.data.toList 0 (Ea 47 s.data.toList)
   rw[Du]at this
   rw[this,Bt,List.length_drop,List.length_take]
   have:s.data.toList.length=s.size:=rfl
   omega
  ·exact Nat.le_refl _
 generalize cutT 47 s=ct at *
 obtain ⟨p,r,m⟩:=ct
 dsimp only at hres hsm q1
 have q2:=Lo p j_
 have q3:=Qb r 32
 generalize prefixR s=res at *
 generalize Bn p=a at *
 generalize smallT r 32=b at *
 obtain ⟨av,ao⟩:=a
 obtain ⟨bv,bo⟩:=b
 dsimp only at hres q2 q3
 cases m<;>cases ao<;>cases bo
 all_goals (simp at hres;subst hres)
 all_goals (refine T ?_;refine C q1 F176 ?_;refine C q2 F187 ?_;refine C q3 F241 ?_;exact D)
abbrev rdO (w:List ByteArray) (i:Nat) (e:Int):Obs:=[(0,.box [.sl 1 Ac w,Aa i,Aa e])]
theorem Bm {w:List ByteArray} {i:Nat} (h:i<w.length):wdT w i=w[i]:=by rw[wdT,List.getElem?_eq_getElem h];rfl
theorem E3 (w:List ByteArray) (i:Nat) (e:Int) (hi:i<w.length) (hw:w.length≤1000000):Sy.Spec Tryz.prog 188 [.ptr 0 0] (rdO w i e) (Ac (wdT w i)) (rdO w (i+1) e):=cT F188 Tryz.ntmps188 fun F hF=>by
 have hk:((i:Int)+1-1).toNat<w.length:=by omega
 have hx:wdT w i=w[((i:Int)+1-1).toNat]'hk:=by
  rw[Bm hi]
  have:((i:Int)+1-1).toNat=i:=by omega
  simp only[this]
 rw[hx]
 refine T ?_
 exact done q_ (.cons .tmp .nil) [] (rdO w (i+1) e) (fun _ h=>h) q_ q_ U
theorem Dd (w:List ByteArray) (i:Nat) (e:Int) (b:Bool) (c:Int):Sy.Spec Tryz.prog 185 [.ptr 0 0,Af b,Aa c] (rdO w i e) (.tup []) (rdO w i (Ae e b c)):=cT F185 Tryz.ntmps185 fun F hF=>by
 cases b with
 | false =>
  have hf:Ae e false c=e:=by rw[Ae,if_neg qd]
  rw[hf]
  refine T ?_
  exact Bl q_ .nil [] (rdO w i e) (fun _ h=>h) q_ q_ U
 | true =>
  by_cases h:e=0
  ·have hf:Ae e true c=c:=by rw[Ae,if_pos ⟨rfl,h⟩]
   rw[hf]
   subst h
   refine T ?_
   exact Bl q_ .nil [] (rdO w i c) (fun _ h=>h) q_ q_ U
  ·have hf:Ae e true c=e:=by rw[Ae,if_neg (fun x=>h x.2)]
   rw[hf]
   have hb:(e == 0)=false:=by simpa using h
   refine T ?_
   exact Bl q_ .nil [] (rdO w i e) (fun _ h=>h) q_ q_ U
theorem B8 (w:List ByteArray) (i:Nat) (e:Int) (hi:i<w.length) (hw:w.length≤1000000) (hs:∀ s∈w,s.size≤40):Sy.Spec Tryz.prog 181 [.ptr 0 0] (rdO w i e) (Ac (wdT w i)) (rdO w (i+1) (Ae e (!(Ak (wdT w i))) 20)):=cT F181 Tryz.ntmps181 fun F hF=>by
 have hwd:(wdT w i).size≤40:=by rw[Bm hi];exact hs _ (List.getElem_mem hi)
 have q1:=E3 w i e hi hw
 have q2:=Dt (wdT w i) j_
 have q3:=Dd w (i+1) e (!(Ak (wdT w i))) 20
 generalize Ak (wdT w i)=nb at *
 generalize wdT w i=x at *
 refine T ?_
 refine X (Ad [] q_ F188 q1 q_ W q_ V) ?_
 refine C q2 F235 ?_
 refine X (Ad [] q_ F185 q3 q_ W q_ V) ?_
 exact done q_ (.cons .tmp .nil) [] (rdO w (i+1) (Ae e (!nb) 20)) (fun _ h=>h) q_ q_ U
theorem Iv (w:List ByteArray) (i:Nat) (e lo hi_:Int) (hi:i<w.length) (hw:w.length≤1000000):Sy.Spec Tryz.prog 183 [.ptr 0 0,Aa lo,Aa hi_] (rdO w i e) (Aa (numR (wdT w i) lo hi_).1) (rdO w (i+1) (Ae e (!(numR (wdT w i) lo hi_).2) 21)):=cT F183 Tryz.ntmps183 fun F hF=>by
 have q1:=E3 w i e hi hw
 have q2:=Ux (wdT w i) lo hi_
 generalize numR (wdT w i) lo hi_=r at *
 have q3:=Dd w (i+1) e (!r.2) 21
 generalize wdT w i=x at *
 refine T ?_
 refine X (Ad [] q_ F188 q1 q_ W q_ V) ?_
 refine C q2 F236 ?_
 refine X (Ad [] q_ F185 q3 q_ W q_ V) ?_
 exact done q_ (.cons .tmp .nil) [] (rdO w (i+1) (Ae e (!r.2) 21)) (fun _ h=>h) q_ q_ U
theorem Kh (w:List ByteArray) (i:Nat) (e:Int) (hi:i<w.length) (hw:w.length≤1000000):Sy.Spec Tryz.prog 182 [.ptr 0 0] (rdO w i e) (Aa (Bg (wdT w i)).1) (rdO w (i+1) (Ae e (!(Bg (wdT w i)).2) 21)):=cT F182 Tryz.ntmps182 fun F hF=>by
 have q:=Iv w i e 1 4094 hi hw
 unfold Bg
 generalize numR (wdT w i) 1 4094=r at *
 refine T ?_
 refine X (Ad [] q_ F183 q q_ W q_ V) ?_
 exact done q_ (.cons .tmp .nil) [] (rdO w (i+1) (Ae e (!r.2) 21)) (fun _ h=>h) q_ q_ U
theorem Aah (w:List ByteArray) (i:Nat) (e:Int) (hi:i<w.length) (hw:w.length≤1000000):Sy.Spec Tryz.prog 189 [.ptr 0 0] (rdO w i e) (Aa (Jm (wdT w i)).1) (rdO w (i+1) (Ae e (!(Jm (wdT w i)).2) 21)):=cT F189 Tryz.ntmps189 fun F hF=>by
 have q:=Iv w i e 1 16777215 hi hw
 unfold Jm
 generalize numR (wdT w i) 1 16777215=r at *
 refine T ?_
 refine X (Ad [] q_ F183 q q_ W q_ V) ?_
 exact done q_ (.cons .tmp .nil) [] (rdO w (i+1) (Ae e (!r.2) 21)) (fun _ h=>h) q_ q_ U
theorem Zp (e c:Int):Ae e false c=e:=by rw[Ae,if_neg qd]
theorem Mu (w:List ByteArray) (i:Nat) (e most:Int) (hi:i<w.length) (hw:w.length≤1000000) (hs:∀ s∈w,s.size≤40):Sy.Spec Tryz.prog 191 [.ptr 0 0,Aa most] (rdO w i e) (.sl 1 Aa (listR most (wdT w i)).1) (rdO w (i+1) (Ae e (!(listR most (wdT w i)).2) 21)):=cT F191 Tryz.ntmps191 fun F hF=>by
 have hwd:(wdT w i).size≤40:=by rw[Bm hi];exact hs _ (List.getElem_mem hi)
 have q1:=E3 w i e hi hw
 have q2:=Tb (wdT w i) most j_
 have hres:=listR.eq_1 most (wdT w i)
 generalize listR most (wdT w i)=res at *
 by_cases hd:wdT w i=dash
 ·rw[if_pos hd]at hres
  subst hres
  have hb:(wdT w i == (⟨#[45]⟩:ByteArray))=true:=(C9 _ _).2 hd
  rw[show (!(([]:List Int),true).2)=false from rfl,Zp]
  refine T ?_
  refine X (Ad [] q_ F188 q1 q_ W q_ V) ?_
  refine Bw 4 1 Aa q_ ?_
  refine T ?_
  exact done q_ (.cons .tmp .nil) [] (rdO w (i+1) e) (fun _ h=>h) q_ q_ U
 ·rw[if_neg hd]at hres
  have hb:(wdT w i == (⟨#[45]⟩:ByteArray))=false:=by
   cases hx:(wdT w i == (⟨#[45]⟩:ByteArray))
   ·rfl
   ·exact absurd ((C9 _ _).1 hx) hd
  rw[← hres]at q2
  have q3:=Dd w (i+1) e (!res.2) 21
  clear hres
  refine T ?_
  refine X (Ad [] q_ F188 q1 q_ W q_ V) ?_
  refine C q2 F243 ?_
  refine X (Ad [] q_ F185 q3 q_ W q_ V) ?_
  exact done q_ (.cons .tmp .nil) [] (rdO w (i+1) (Ae e (!res.2) 21)) (fun _ h=>h) q_ q_ U
theorem Xg (s:ByteArray):∃ m:Nat,(macR s).1=m∧m<281474976710656:=by
 rw[macR]
 split
 ·rename_i h
  have:=Jt (s:=s) (j:=6) (fun i hi=>by have:=h.2;rw[List.all_eq_true]at this;exact this i (List.mem_range.2 hi))
  refine⟨(Kn s 6).toNat,?_,?_⟩
  ·rw[Int.toNat_of_nonneg this.1]
  ·have h2:Kn s 6<281474976710656:=this.2
   omega
 ·exact⟨0,q_,by decide⟩
def macE (s:ByteArray):Bool:=!((macR s).2 && statB (macR s).1)
theorem Aai (w:List ByteArray) (i:Nat) (e:Int) (hi:i<w.length) (hw:w.length≤1000000) (hs:∀ s∈w,s.size≤40):Sy.Spec Tryz.prog 184 [.ptr 0 0] (rdO w i e) (Cy (macR (wdT w i)).1) (rdO w (i+1) (Ae e (macE (wdT w i)) 21)):=cT F184 Tryz.ntmps184 fun F hF=>by
 have hwd:(wdT w i).size≤40:=by rw[Bm hi];exact hs _ (List.getElem_mem hi)
 have q1:=E3 w i e hi hw
 have q2:=Aaw (wdT w i) j_
 obtain ⟨m,hm1,hm2⟩:=Xg (wdT w i)
 have q4:=M7 m j_
 have hres:=macE.eq_1 (wdT w i)
 rw[hm1]at hres
 generalize macE (wdT w i)=be at *
 have q3:=Dd w (i+1) e be 21
 generalize macR (wdT w i)=r at *
 obtain ⟨rv,rb⟩:=r
 dsimp only at hm1
 subst hm1
 generalize statB (m:Int)=sb at *
 cases rb with
 | false =>
  simp at hres
  subst hres
  refine T ?_
  refine X (Ad [] q_ F188 q1 q_ W q_ V) ?_
  refine C q2 F237 ?_
  refine X (Ad [] q_ F185 q3 q_ W q_ V) ?_
  exact done q_ (.cons .tmp .nil) [] (rdO w (i+1) (Ae e true 21)) (fun _ h=>h) q_ q_ U
 | true =>
  simp at hres
  subst hres
  refine T ?_
  refine X (Ad [] q_ F188 q1 q_ W q_ V) ?_
  refine C q2 F237 ?_
  refine C q4 F238 ?_
  refine X (Ad [] q_ F185 q3 q_ W q_ V) ?_
  exact done q_ (.cons .tmp .nil) [] (rdO w (i+1) (Ae e (!sb) 21)) (fun _ h=>h) q_ q_ U
end Go.Sy.YtgblchnfjbkipaaGreatDoor
namespace Go.Sy.YtgblchnfjbkipaaGreatDoor
open Go.Proofs
def Rise (l:List Int):Prop:=l.Pairwise (·<·)
theorem Ox (one:ByteArray→Int × Bool):∀ (ps:List ByteArray) (out r:List Int),C2 one out ps=(r,true)→Rise out→out.length≤16 →
  Rise r∧r.length≤16∧r.length=out.length+ps.length∧∀ x∈r,x∈out∨∃ p∈ps,one p=(x,true)
 | [],out,r,h,h1,h2=>by
  rw[C2]at h
  simp only[Prod.mk.injEq,and_true]at h
  subst h
  exact⟨h1,h2,by simp,fun x hx=>.inl hx⟩
 | p::ps,out,r,h,h1,h2=>by
  rw[C2]at h
  split at h
  ·simp at h
  ·rename_i hn
   simp only[not_or]at hn
   obtain ⟨n1,n2,n3⟩:=hn
   have hr:Rise (out++[(one p).1]):=by
    refine List.pairwise_append.2 ⟨h1,List.pairwise_singleton _ _,fun y hy z hz=>?_⟩
    simp only[List.mem_singleton]at hz
    subst hz
    cases hl:out.getLast? with
    | none=>rw[List.getLast?_eq_none_iff]at hl;subst hl;cases hy
    | some w =>
     have hlt:¬ (one p).1≤w:=fun hh=>n3 ⟨w,hl,hh⟩
     obtain ⟨c,rfl⟩:∃ c,out=c++[w]:=by
      have hne:out≠[]:=fun e=>by rw[e]at hy;cases hy
      refine⟨out.dropLast,?_⟩
      have:=List.dropLast_concat_getLast hne
      rw[List.getLast?_eq_some_getLast hne]at hl
      simp only[Option.some.injEq]at hl
      rw[← hl];exact this.symm
     rcases List.mem_append.1 hy with hy | hy
     ·have:=(List.pairwise_append.1 h1).2.2 y hy w qd
      omega
     ·simp only[List.mem_singleton]at hy
      omega
   obtain ⟨a,b,c,d⟩:=Ox one ps _ r h hr (by rw[List.length_append];simp;omega)
   refine⟨a,b,by rw[c];simp;omega,fun x hx=>?_⟩
   rcases d x hx with hx | ⟨q,hq,e⟩
   ·rcases List.mem_append.1 hx with hx | hx
    ·exact .inl hx
    ·simp only[List.mem_singleton]at hx
     refine .inr ⟨p,by simp,?_⟩
     rw[hx]
     have:(one p).2=true:=by simpa using n1
     rw[← this]
   ·exact .inr ⟨q,by simp[hq],e⟩
theorem Vx (s:ByteArray):0≤(Bn s).1:=by
 rw[Bn]
 split
 ·dsimp only
  generalize A3 46 s=l
  cases hl:l.reverse with
  | nil =>
   have:l=[]:=by simpa using hl
   subst this;exact Int.le_refl _
  | cons x r =>
   have:l=r.reverse++[x]:=by
    have:=congrArg List.reverse hl
    simpa using this
   rw[this,Jz]
   show 0≤IntKind.u32.wrap _
   rw[IntKind.wrap_u32];omega
 ·exact Int.le_refl _
theorem X0 (s:ByteArray):(Bn s).1<4294967296:=by
 rw[Bn]
 split
 ·dsimp only
  generalize A3 46 s=l
  cases hl:l.reverse with
  | nil =>
   have:l=[]:=by simpa using hl
   subst this;decide
  | cons x r =>
   have:l=r.reverse++[x]:=by
    have:=congrArg List.reverse hl
    simpa using this
   rw[this,Jz]
   show IntKind.u32.wrap _<_
   rw[IntKind.wrap_u32];omega
 ·decide
end Go.Sy.YtgblchnfjbkipaaGreatDoor
namespace Go.Sy.YtgblchnfjbkipaaGreatDoor
open Go.Proofs
set_option maxHeartbeats 4000000
theorem Ww (a:LineM):T7 a a=true:=by simp[T7]
theorem B1 (w:List ByteArray) (row:Int):∀ x∈(Ay w row).2,x.2≠0:=by
 unfold Ay Cw
 dsimp only
 repeat' split
 all_goals simp
theorem k1:kindL ⟨#[100,101,118,105,99,101]⟩=1:=by decide +kernel
theorem k2:kindL ⟨#[112,111,114,116]⟩=2:=by decide +kernel
theorem k3:kindL ⟨#[108,105,110,107]⟩=3:=by decide +kernel
theorem k4:kindL ⟨#[115,116,97,116,105,99]⟩=4:=by decide +kernel
theorem k5:kindL ⟨#[118,116,101,112]⟩=5:=by decide +kernel
theorem k6:kindL ⟨#[118,110,105]⟩=6:=by decide +kernel
theorem Sk:accessT≠trunkT:=by decide +kernel
theorem wd0 (a:ByteArray) (l:List ByteArray):wdT (a::l) 0=a:=rfl
theorem st1 (d n m:ByteArray) (r:Int):Ay [⟨#[100,101,118,105,99,101]⟩,d,n,m] r=({ lineZ with row:=r,kind:=1,dev:=d,num:=(numR n 0 65535).1,mac:=(macR m).1 },[(!(Ak d),20),(!(numR n 0 65535).2,21),(!((macR m).2 && statB (macR m).1),21)]):=by
 unfold Ay
 simp only[wd0,k1]
 rfl
theorem T3 {a b:Int} (h:subnetB a b=true):1≤b∧b≤30:=by
 simp only[subnetB,Bool.and_eq_true,decide_eq_true_eq]at h
 omega
structure LineOK (l:LineM):Prop where
 mac:0≤l.mac∧l.mac<18446744073709551616
 addr:0≤l.addr∧l.addr<4294967296
 addrs:∀ x∈l.addrs,0≤x∧x<4294967296
theorem Ab0 {α:Type} {p:α × Bool} (h:p.2=true):p=(p.1,true):=by rw[← h]
end Go.Sy.YtgblchnfjbkipaaGreatDoor
namespace Go.Sy.YtgblchnfjbkipaaGreatDoor
open Go.Proofs
attribute [local irreducible] Go.Sy.G Go.Sy.DR
set_option maxRecDepth 100000
set_option maxHeartbeats 4000000
theorem C7 {a b:ByteArray} (h:a≠b):(a == b)=false:=by
 cases hx:(a == b)
 ·rfl
 ·exact absurd ((C9 _ _).1 hx) h
theorem Cf {a b:ByteArray} (h:a=b):(a == b)=true:=(C9 _ _).2 h
theorem Tq {a b:ByteArray} (h:a≠b):(!(a == b))=true:=by rw[C7 h];rfl
theorem Mz {a b:ByteArray} (h:a=b):(!(a == b))=false:=by rw[Cf h];rfl
theorem Cn (s:ByteArray):Sy.Spec Tryz.prog 180 [Ac s] [] (Aa (kindL s)) []:=cT F180 Tryz.ntmps180 fun F hF=>by
 have hk:=kindL.eq_1 s
 generalize kindL s=k at *
 by_cases c1:s=(⟨#[100,101,118,105,99,101]⟩:ByteArray)
 ·have b1:=Cf c1
  rw[if_pos c1]at hk
  subst hk
  refine T ?_
  exact D
 have b1:=C7 c1
 rw[if_neg c1]at hk
 by_cases c2:s=(⟨#[112,111,114,116]⟩:ByteArray)
 ·have b2:=Cf c2
  rw[if_pos c2]at hk
  subst hk
  refine T ?_
  exact D
 have b2:=C7 c2
 rw[if_neg c2]at hk
 by_cases c3:s=(⟨#[108,105,110,107]⟩:ByteArray)
 ·have b3:=Cf c3
  rw[if_pos c3]at hk
  subst hk
  refine T ?_
  exact D
 have b3:=C7 c3
 rw[if_neg c3]at hk
 by_cases c4:s=(⟨#[115,116,97,116,105,99]⟩:ByteArray)
 ·have b4:=Cf c4
  rw[if_pos c4]at hk
  subst hk
  refine T ?_
  exact D
 have b4:=C7 c4
 rw[if_neg c4]at hk
 by_cases c5:s=(⟨#[118,116,101,112]⟩:ByteArray)
 ·have b5:=Cf c5
  rw[if_pos c5]at hk
  subst hk
  refine T ?_
  exact D
 have b5:=C7 c5
 rw[if_neg c5]at hk
 by_cases c6:s=(⟨#[118,110,105]⟩:ByteArray)
 ·have b6:=Cf c6
  rw[if_pos c6]at hk
  subst hk
  refine T ?_
  exact D
 have b6:=C7 c6
 rw[if_neg c6]at hk
 by_cases c7:s=(⟨#[102,108,111,111,100]⟩:ByteArray)
 ·have b7:=Cf c7
  rw[if_pos c7]at hk
  subst hk
  refine T ?_
  exact D
 have b7:=C7 c7
 rw[if_neg c7]at hk
 by_cases c8:s=(⟨#[118,114,102]⟩:ByteArray)
 ·have b8:=Cf c8
  rw[if_pos c8]at hk
  subst hk
  refine T ?_
  exact D
 have b8:=C7 c8
 rw[if_neg c8]at hk
 by_cases c9:s=(⟨#[105,114,98]⟩:ByteArray)
 ·have b9:=Cf c9
  rw[if_pos c9]at hk
  subst hk
  refine T ?_
  exact D
 have b9:=C7 c9
 rw[if_neg c9]at hk
 subst hk
 refine T ?_
 exact D
theorem Cm (k:Int) (hk:0≤k∧k≤9) (w:List ByteArray) (hw:w.length≤1000000):Sy.Spec Tryz.prog 179 [Aa k,.sl 1 Ac w] [] (Af (manyB k w)) []:=cT F179 Tryz.ntmps179 fun F hF=>by
 have hm2:=manyB.eq_1 k w
 generalize manyB k w=r at *
 rcases (by omega:k=0∨k=1∨k=2∨k=3∨k=4∨k=5∨k=6∨k=7∨k=8∨k=9) with h | h | h | h | h | h | h | h | h | h
 ·subst h
  have hr:r=false:=by rw[hm2];simp
  subst hr
  refine T ?_
  exact D
 ·subst h
  have hr:r=decide (w.length=4):=by rw[hm2];simp
  subst hr
  refine T ?_
  refine Bo q_ (.cons .tmp .nil) (congrArg Af ?_) q_
  by_cases hn:w.length=4
  ·rw[hn];rfl
  ·rw[decide_eq_false hn];symm;simp;omega
 ·subst h
  rw[if_neg qc,if_pos rfl]at hm2
  by_cases h6:w.length<6
  ·rw[if_pos h6]at hm2
   subst hm2
   refine T ?_
   exact D
  ·rw[if_neg h6]at hm2
   have f6:decide ((w.length:Int)<6)=false:=decide_eq_false j_
   have h4:(4:Int).toNat<w.length:=by show 4<w.length;omega
   have hx:wdT w 4=w[(4:Int).toNat]'h4:=Bm j_
   rw[hx]at hm2
   by_cases ca:w[(4:Int).toNat]'h4=accessT
   ·have ba:(w[(4:Int).toNat]'h4 == (⟨#[97,99,99,101,115,115]⟩:ByteArray))=true:=Cf ca
    have bt:(w[(4:Int).toNat]'h4 == (⟨#[116,114,117,110,107]⟩:ByteArray))=false:=C7 (by rw[ca];exact Sk)
    have na:(!(w[(4:Int).toNat]'h4 == (⟨#[97,99,99,101,115,115]⟩:ByteArray)))=false:=Mz ca
    rw[if_pos ca]at hm2
    by_cases hn:w.length=6
    ·rw[decide_eq_true hn]at hm2
     subst hm2
     refine T ?_
     exact D
    ·rw[decide_eq_false hn]at hm2
     have fb:((w.length:Int) == 6)=false:=by rw[beq_eq_false_iff_ne];omega
     subst hm2
     refine T ?_
     exact D
   ·have ba:(w[(4:Int).toNat]'h4 == (⟨#[97,99,99,101,115,115]⟩:ByteArray))=false:=C7 ca
    have na:(!(w[(4:Int).toNat]'h4 == (⟨#[97,99,99,101,115,115]⟩:ByteArray)))=true:=Tq ca
    rw[if_neg ca]at hm2
    by_cases ctr:w[(4:Int).toNat]'h4=trunkT
    ·have bt:(w[(4:Int).toNat]'h4 == (⟨#[116,114,117,110,107]⟩:ByteArray))=true:=Cf ctr
     have nt:(!(w[(4:Int).toNat]'h4 == (⟨#[116,114,117,110,107]⟩:ByteArray)))=false:=Mz ctr
     rw[if_pos ctr]at hm2
     by_cases hn:w.length=7
     ·rw[decide_eq_true hn]at hm2
      subst hm2
      refine T ?_
      exact D
     ·rw[decide_eq_false hn]at hm2
      have fb:((w.length:Int) == 7)=false:=by rw[beq_eq_false_iff_ne];omega
      subst hm2
      refine T ?_
      exact D
    ·have bt:(w[(4:Int).toNat]'h4 == (⟨#[116,114,117,110,107]⟩:ByteArray))=false:=C7 ctr
     have nt:(!(w[(4:Int).toNat]'h4 == (⟨#[116,114,117,110,107]⟩:ByteArray)))=true:=Tq ctr
     rw[if_neg ctr]at hm2
     subst hm2
     refine T ?_
     refine Bo q_ (.cons .tmp .nil) (congrArg Af ?_) q_
     exact decide_eq_decide.2 j_
 ·subst h
  have hr:r=decide (w.length=5):=by rw[hm2];simp
  subst hr
  refine T ?_
  refine Bo q_ (.cons .tmp .nil) (congrArg Af ?_) q_
  by_cases hn:w.length=5
  ·rw[hn];rfl
  ·rw[decide_eq_false hn];symm;simp;omega
 ·subst h
  have hr:r=decide (w.length=5):=by rw[hm2];simp
  subst hr
  refine T ?_
  refine Bo q_ (.cons .tmp .nil) (congrArg Af ?_) q_
  by_cases hn:w.length=5
  ·rw[hn];rfl
  ·rw[decide_eq_false hn];symm;simp;omega
 ·subst h
  have hr:r=decide (w.length=3):=by rw[hm2];simp
  subst hr
  refine T ?_
  refine Bo q_ (.cons .tmp .nil) (congrArg Af ?_) q_
  by_cases hn:w.length=3
  ·rw[hn];rfl
  ·rw[decide_eq_false hn];symm;simp;omega
 ·subst h
  have hr:r=decide (w.length=4):=by rw[hm2];simp
  subst hr
  refine T ?_
  refine Bo q_ (.cons .tmp .nil) (congrArg Af ?_) q_
  by_cases hn:w.length=4
  ·rw[hn];rfl
  ·rw[decide_eq_false hn];symm;simp;omega
 ·subst h
  have hr:r=decide (w.length=4):=by rw[hm2];simp
  subst hr
  refine T ?_
  refine Bo q_ (.cons .tmp .nil) (congrArg Af ?_) q_
  by_cases hn:w.length=4
  ·rw[hn];rfl
  ·rw[decide_eq_false hn];symm;simp;omega
 ·subst h
  have hr:r=decide (w.length=5):=by rw[hm2];simp
  subst hr
  refine T ?_
  refine Bo q_ (.cons .tmp .nil) (congrArg Af ?_) q_
  by_cases hn:w.length=5
  ·rw[hn];rfl
  ·rw[decide_eq_false hn];symm;simp;omega
 ·subst h
  have hr:r=decide (w.length=5):=by rw[hm2];simp
  subst hr
  refine T ?_
  refine Bo q_ (.cons .tmp .nil) (congrArg Af ?_) q_
  by_cases hn:w.length=5
  ·rw[hn];rfl
  ·rw[decide_eq_false hn];symm;simp;omega
theorem Lt (a:Nat) (b:Int) (ha:a<4294967296):Sy.Spec Tryz.prog 193 [Ds a b] [] (Af (subnetB a b)) []:=cT F193 Tryz.ntmps193 fun F hF=>by
 have q1:=X1 a b ha
 have q2:=Zw a b ha
 have hs:=subnetB.eq_1 (a:Int) b
 generalize subnetB (a:Int) b=r at *
 generalize Ip (a:Int) b=fi at *
 generalize Ot (a:Int) b=la at *
 by_cases h1:1≤b
 ·by_cases h2:b≤30
  ·by_cases h3:(a:Int)=fi
   ·have f3:((a:Int) != fi)=false:=by rw[bne_eq_false_iff_eq];exact h3
    have hr:r=false:=by rw[hs];simp[h3]
    subst hr
    refine T ?_
    refine C q1 F244 ?_
    exact D
   ·have f3:((a:Int) != fi)=true:=by rw[bne_iff_ne];exact h3
    by_cases h4:(a:Int)=la
    ·have f4:((a:Int) != la)=false:=by rw[bne_eq_false_iff_eq];exact h4
     have hr:r=false:=by rw[hs];simp[h4]
     subst hr
     refine T ?_
     refine C q1 F244 ?_
     refine C q2 F245 ?_
     refine Bo q_ (.cons .tmp .nil) (congrArg Af f4.symm) q_
    ·have f4:((a:Int) != la)=true:=by rw[bne_iff_ne];exact h4
     have hr:r=true:=by rw[hs];simp[h1,h2,h3,h4]
     subst hr
     refine T ?_
     refine C q1 F244 ?_
     refine C q2 F245 ?_
     refine Bo q_ (.cons .tmp .nil) (congrArg Af f4.symm) q_
  ·have hr:r=false:=by rw[hs];simp[h2]
   subst hr
   refine T ?_
   exact D
 ·have hr:r=false:=by rw[hs];simp[h1]
  subst hr
  refine T ?_
  exact D
theorem Vg (l:List Int) (v:Int):l.contains v=inB l v:=by
 induction l with
 | nil=>rfl
 | cons x l ih =>
  rw[List.contains_cons,ih,inB,inB,List.any_cons]
  congr 1
  exact Bool.beq_comm
theorem Dq (l:LineM) (hl:D0 l.tagged):Sy.Spec Tryz.prog 239 [Ab l] [] (Af (membersB l.vlan l.tagged)) []:=cT F239 Tryz.ntmps239 fun F hF=>by
 have q:=Zr l.tagged l.vlan hl
 have hm2:=membersB.eq_1 l.vlan l.tagged
 rw[Vg]at hm2
 generalize membersB l.vlan l.tagged=r at *
 generalize inB l.tagged l.vlan=ib at *
 unfold D0 at hl
 by_cases h1:0<l.vlan
 ·have hr:r=!ib:=by rw[hm2];simp[h1]
  subst hr
  refine T ?_
  refine C q F161 ?_
  exact D
 ·by_cases h2:l.tagged.length=0
  ·have hr:r=false:=by
    rw[hm2,decide_eq_false h1,List.eq_nil_of_length_eq_zero h2];rfl
   subst hr
   refine T ?_
   exact D
  ·have hr:r=!ib:=by
    rw[hm2]
    have:l.tagged.isEmpty=false:=by cases ht:l.tagged<;>simp_all
    simp[this]
   have f2:decide ((l.tagged.length:Int)>0)=true:=decide_eq_true j_
   subst hr
   refine T ?_
   refine C q F161 ?_
   exact D
end Go.Sy.YtgblchnfjbkipaaGreatDoor
namespace Go.Sy
theorem H4 {P:Program} (Γ:Ty P) {o:Oper} {s:SS} {t:TypeId} {ti:TI} {et:TypeId} {len esz sz g:Nat} {y:Operand} {ik:IntKind} {n:Int} {z:SV} (k:Nat)
  (h:o.op=.indexAddr t (.global g) y) (ht:Γ.get t=some ti) (hk:ti.k=.array et len esz) (hb:s.h k=.glob sz z g) (hy:ev s y=.val (.int ik n)) (h0:0≤n) (hn:n.toNat<len) :
  Good P o s ⟨.ref sz z (n.toNat * esz),[k],[]⟩ :=
 Good.pure fun κ a w _ hr ho=>by
  have h1:=ho k qd
  have h2:=hr y (by simp[h,Op.operands])
  rw[hb]at h1
  rw[hy]at h2
  simp only[ObOK,Rd,RdD]at h1
  obtain ⟨b,oo,u,e1,e2,e3,e4,e5⟩:=h1
  obtain ⟨hu,i,q1,q2⟩:=O9 Γ ht hk
  simp only[Nat.add_zero,Value.pointer.injEq,Option.some.injEq,Addr.mk.injEq,and_true]at e1
  obtain ⟨rfl,rfl⟩:=e1
  refine⟨.pointer (some ⟨g,0+n.toNat * esz,none⟩),?_,?_⟩
  ·have hg:a.eval (.global g)=.pointer (some ⟨g,0,none⟩):=rfl
   simp only[execOp,h,hg,h2.val]
   simp[Hm w hu q1 q2 h0 hn]
  ·simp only[Rd,RdD]
   exact⟨g,0,u,q_,e2,e3,e4,e5⟩
theorem Ob.shp_glob {x:Ob} {sz g:Nat} {z:SV} (h:x.shp=(Ob.glob sz z g).shp):x=.glob sz z g:=by
 cases x<;>simp_all[Ob.shp]
theorem GoodX.glob {P:Program} (Γ:Ty P) {o:Oper} {s:SS} {t:TypeId} {ti:TI} {et:TypeId} {len esz sz g:Nat} {y:Operand} {ik:IntKind} {n:Int} {z:SV} (k:Nat)
  (h:o.op=.indexAddr t (.global g) y) (ht:Γ.get t=some ti) (hk:ti.k=.array et len esz) (hb:s.h k=.glob sz z g) (hy:ev s y=.val (.int ik n)) (h0:0≤n) (hn:n.toNat<len) :
  GoodX P o s ⟨.ref sz z (n.toNat * esz),[k],[]⟩ where
 good:=(H4 Γ k h ht hk hb hy h0 hn).two
 idx _:=⟨rfl,fun s' h1 h2=>H4 Γ k h ht hk (Ob.shp_glob ((h2 k qd).trans (congrArg Ob.shp hb))) ((h1 y (by simp[h,Op.operands])).trans hy) h0 hn⟩
 st hs:=by simp[E7,h]at hs
section
open Go.ChangeShapes Go.WideShapes Go.ChangeAt Go.RowKit
variable {H:Type} {enc:TypeId × Value→H} {P:Program}
end
end Go.Sy
namespace Go.Sy
theorem Ts {P:Program} {κ:Ka} {w:World} (hi:Inv κ w) {t ty e:TypeId} {i:TypeInfo} {z:Value} {sz:Nat} (ht:P.underlying t=some (.slice e)) (hinfo:P.info? e=some i) (hz:i.zero=some z) (hsz:i.size=sz) (hzs:z.cells.size=sz)
  {v:Value} {n m:Nat} {f g:Nat→SV→Prop} {k:Option Nat} {d:Nat} (hd:κ d=.new) (hb:Base κ w v n sz f k) {t2:TypeId} (ht2:P.underlying t2=some .string) {b0:ByteArray} (hbm:b0.size=m) (hs1:sz=1) (hsg:∀ j x,g j x→∃ h:j<b0.data.toList.length,x=.val (.int .u8 (b0.data.toList[j].toNat))) (h63:n+m≤9223372036854775807) (hbytes:(n+m) * i.bytes≤140737488355328) :
  ∃ v' w' κ',(Builtin.append_ #[t,t2] ty #[v,.string b0]).run P w=.ok v' w'∧Step (fun j=>k=some j∨j=d) κ w κ' w'∧Inv κ' w'∧Rd κ' w' (.osl d) v' ∧
   ((κ' d=.nil∧n+m=0)∨RowAt κ' w' d sz (n+m) (Vv n f g)):=by
 obtain ⟨news,hnl,hn1,hnc,hng⟩:∃ (news:List Value),news.length=m * sz∧Ones news∧(∀ W:World,(∀ p:Addr,p.block<w.heap.size→W.cell? p=w.cell? p)→(Builtin.firstCells sz m (.string b0)).run P W=.ok news.toArray W) ∧
   (∀ j x,g j x→j<m∧∃ q:Value,RdD (Own κ) w x q∧q.cells.size=sz∧Ones q.cells.toList∧∀ l,l<sz→news[j * sz+l]? = q.cells[l]?):=by
  have hsz0:b0.data.toList.length=m:=by rw[← hbm];rfl
  refine⟨b0.data.toList.map fun c=>.int .u8 c.toNat,by rw[List.length_map,hs1,Nat.mul_one];exact hsz0,fun c hc=>?_,fun W _=>?_,fun j x hx=>?_⟩
  ·obtain ⟨b,_,rfl⟩:=List.mem_map.1 hc
   rfl
  ·have he:b0.extract 0 m=b0:=by rw[← hbm];exact ByteArray.extract_zero_size
   have e2:Array.map (fun b:UInt8=>Value.int .u8 b.toNat) b0.data=(List.map (fun b:UInt8=>Value.int .u8 b.toNat) b0.data.toList).toArray:=by apply Array.ext';simp
   simp[Builtin.firstCells,he,e2]
  ·obtain ⟨h,rfl⟩:=hsg j x hx
   refine⟨by omega,.int .u8 (b0.data.toList[j].toNat),by simp[RdD],by rw[hs1];rfl,fun c hc=>?_,fun l hl=>?_⟩
   ·simp[Value.cells]at hc;subst hc;rfl
   ·have hl0:l=0:=by omega
    subst hl0
    rw[hs1,Nat.mul_one,Nat.add_zero,List.getElem?_map,List.getElem?_eq_getElem h]
    simp[Value.cells]
 have hcap:∀ old,n+m≤grownCap w (n+m) old e:=fun old=>grownCap_ge w (n+m) old e
 have hfits:∀ old,old<n+m→¬ (281474976710656<Builtin.nextslicecap (n+m) old * i.bytes):=fun old ho=>by have:=growslice_fits ho hbytes;omega
 have newrow:∀ (olds:List Value) (old:Nat) (hol:olds.length=n * sz) (hof:∀ j x,f j x→j<n→∃ q:Value,RdD (Own κ) w x q∧q.cells.size=sz∧Ones q.cells.toList∧∀ l,l<sz→olds[j * sz+l]? = q.cells[l]?),
   let w':=w.drew.alloc (.cells (olds.toArray++news.toArray++Builtin.zeroCells z.cells (grownCap w (n+m) old e-(n+m))) e)
   let κ':=Cr (Jh κ k) d (.row w.heap.size (n+m) (grownCap w (n+m) old e))
   Step (fun j=>k=some j∨j=d) κ w κ' w'∧Inv κ' w'∧Rd κ' w' (.osl d) (.slice (some ⟨w.heap.size,0,none⟩) (n+m) (grownCap w (n+m) old e))∧RowAt κ' w' d sz (n+m) (Vv n f g):=by
  intro olds old hol hof w' κ'
  have s1:=Dl (κ:=κ) (w:=w) k
  have hdn:(Jh κ k) d=.new:=by
   cases k with
   | none=>exact hd
   | some k =>
    by_cases hkd:d=k
    ·exfalso
     subst hkd
     rcases hb with ⟨h,_⟩ | ⟨_,_,b,cap,h,_⟩<;>rw[hd]at h<;>cases h
    ·simp only[Jh];rw[A6 _ _ hkd];exact hd
  have g0:Grew w w':=(Grew.drew w).trans (Grew.alloc _ _)
  have s2:=Da (D9 hi k) hdn (e:=.row w.heap.size (n+m) (grownCap w (n+m) old e)) g0 (fun b hb=>by
   simp only[Ent.block?,Option.some.injEq]at hb;subst hb;exact⟨Nat.le_refl _,by simp[w']⟩)
  have s3:Step (fun j=>k=some j∨j=d) κ w κ' w':=(s1.weaken (fun j hj=>.inl hj)).trans (s2.1.weaken (fun j hj=>.inr hj))
  refine⟨s3,s2.2,by simp[Rd,κ',Ag],?_⟩
  refine⟨w.heap.size,grownCap w (n+m) old e,olds++news++(Builtin.zeroCells z.cells (grownCap w (n+m) old e-(n+m))).toList,e,(0,0),Ag _ _ _,?_,NoFr.zero _,?_,hcap old,?_⟩
  ·have:w'.heap[w.heap.size]? = some (.cells (olds.toArray++news.toArray++Builtin.zeroCells z.cells (grownCap w (n+m) old e-(n+m))) e):=heap_alloc_new w.drew _
   rw[this]
   congr 2
   apply Array.ext'
   simp
  ·simp only[List.length_append,hol,hnl,Array.length_toList,Jg,hzs]
   rw[← Nat.add_mul,← Nat.add_mul]
   have:=hcap old
   rw[show n+m+(grownCap w (n+m) old e-(n+m))=grownCap w (n+m) old e from by omega]
   exact Nat.le_refl _
  ·rintro j x (⟨hj,hx⟩ | ⟨hj,hx⟩)
   ·obtain ⟨q,q1,q2,q3,q4⟩:=hof j x hx hj
    refine⟨by omega,q,RdD.keep s3.keeps _ _ q1,q2,q3,fun l hl=>?_⟩
    have:(j+1) * sz≤n * sz:=Nat.mul_le_mul_right sz j_
    rw[Nat.add_mul,Nat.one_mul]at this
    rw[List.append_assoc,List.getElem?_append_left j_,q4 l hl]
   ·obtain ⟨h0,q,q1,q2,q3,q4⟩:=hng _ x hx
    refine⟨by omega,q,RdD.keep s3.keeps _ _ q1,q2,q3,fun l hl=>?_⟩
    have e1:j * sz=n * sz+(j-n) * sz:=by rw[← Nat.add_mul];congr 1;omega
    have:(j-n+1) * sz≤m * sz:=Nat.mul_le_mul_right sz j_
    rw[Nat.add_mul,Nat.one_mul]at this
    rw[List.append_assoc,List.getElem?_append_right j_,List.getElem?_append_left j_,← q4 l hl]
    congr 1
    omega
 cases k with
 | none =>
  obtain ⟨rfl,rfl⟩:=hb
  by_cases hm:m=0
  ·subst hm
   have st:=Da hi hd (e:=.nil) (Grew.refl w) (fun b hb=>by cases hb)
   refine⟨.slice none 0 0,w,Cr κ d .nil,?_,st.1.weaken (fun j hj=>.inr hj),st.2,by simp[Rd,Ag],.inl ⟨Ag _ _ _,q_⟩⟩
   have hc:=hnc w (fun _ _=>rfl)
   simp[Builtin.append_,run_underlying ht,run_underlying ht2,hbm,sizeOf,typeInfo,hinfo,hsz,Builtin.lenOf,hc]
  ·obtain ⟨q1,q2,q3,q4⟩:=newrow [] 0 qd (fun j x _ hj=>absurd hj j_)
   refine⟨_,_,_,?_,q1,q2,q3,.inr q4⟩
   have hc:=hnc w.drew (fun _ _=>rfl)
   have h48:=hfits 0 j_
   have h63':¬ (9223372036854775807<(m:Int)):=by omega
   simp only[Nat.zero_add]at h48 ⊢
   simp[Builtin.append_,run_underlying ht,run_underlying ht2,hbm,sizeOf,typeInfo,zeroValue,hinfo,hsz,hz,Builtin.lenOf,hm,h63',h48,Question.forced,run_firstCells_none,hc,newRow,grownCap]
 | some k =>
  rcases hb with ⟨hk,rfl,rfl⟩ | ⟨hrow,tot,b,cap,hk,rfl⟩
  ·by_cases hm:m=0
   ·subst hm
    have hkd:d≠k:=fun e=>by subst e;rw[hd]at hk;cases hk
    have st:=Da (D9 hi (some k)) (by show Cr κ k .dead d=.new;rw[A6 _ _ hkd];exact hd) (e:=.nil) (Grew.refl w) (fun b hb=>by cases hb)
    refine⟨.slice none 0 0,w,_,?_,((Dl (some k)).weaken (fun j hj=>.inl hj)).trans (st.1.weaken (fun j hj=>.inr hj)),st.2,by simp[Rd,Ag],.inl ⟨Ag _ _ _,q_⟩⟩
    have hc:=hnc w (fun _ _=>rfl)
    simp[Builtin.append_,run_underlying ht,run_underlying ht2,hbm,sizeOf,typeInfo,hinfo,hsz,Builtin.lenOf,hc]
   ·obtain ⟨q1,q2,q3,q4⟩:=newrow [] 0 qd (fun j x _ hj=>absurd hj j_)
    refine⟨_,_,_,?_,q1,q2,q3,.inr q4⟩
    have hc:=hnc w.drew (fun _ _=>rfl)
    have h48:=hfits 0 j_
    have h63':¬ (9223372036854775807<(m:Int)):=by omega
    simp only[Nat.zero_add]at h48 ⊢
    simp[Builtin.append_,run_underlying ht,run_underlying ht2,hbm,sizeOf,typeInfo,zeroValue,hinfo,hsz,hz,Builtin.lenOf,hm,h63',h48,Question.forced,run_firstCells_none,hc,newRow,grownCap]
  ·obtain ⟨b',cap',hk',hsrc⟩:=hrow.src tot
   rw[hk]at hk'
   cases hk'
   have hrow':=hrow
   obtain ⟨b',cap',cs,T,fr,e1,e2,e3,e4,e5,e6⟩:=hrow'
   rw[hk]at e1
   cases e1
   by_cases hroom:n+m≤cap
   ·have hkd:k≠d:=fun e=>by subst e;rw[hk]at hd;cases hd
    have hcs:(n+m) * sz≤cs.length:=Nat.le_trans (Nat.mul_le_mul_right sz hroom) e4
    rw[Nat.add_mul]at hcs
    obtain ⟨w',f1,f2,f3,f4,f5,f6,f7⟩:=Cu P b (n * sz) T fr news 0 cs w e2 e3 j_ hn1
    obtain ⟨st,inv⟩:=K9 (n':=n+m) hi hk hd f3 f4 f5 f6 f7
    refine⟨.slice (some ⟨b,0,none⟩) (n+m) cap,w',_,?_,st.weaken (fun j hj=>hj.imp (fun h=>by rw[h]) id),inv,by simp[Rd,Ag],.inr ?_⟩
    ·have hc:=hnc w (fun _ _=>rfl)
     simp[Builtin.append_,run_underlying ht,run_underlying ht2,hbm,sizeOf,typeInfo,hinfo,hsz,Builtin.lenOf,hroom,hc,Addr.add_lit,f1]
    ·refine⟨b,cap,_,T,fr,Ag _ _ _,by simpa using f2,by rw[Bj];exact e3,by rw[Bj];exact e4,hroom,?_⟩
     have hset:=J9 cs news (n * sz)
     rintro j x (⟨hj,hx⟩ | ⟨hj,hx⟩)
     ·obtain ⟨_,q,q1,q2,q3,q4⟩:=e6 j x hx
      refine⟨by omega,q,RdD.keep st.keeps _ _ q1,q2,q3,fun l hl=>?_⟩
      have:(j+1) * sz≤n * sz:=Nat.mul_le_mul_right sz j_
      rw[Nat.add_mul,Nat.one_mul]at this
      rw[hset _ j_,if_neg j_,q4 l hl]
     ·obtain ⟨h0,q,q1,q2,q3,q4⟩:=hng _ x hx
      refine⟨by omega,q,RdD.keep st.keeps _ _ q1,q2,q3,fun l hl=>?_⟩
      have e1:j * sz=n * sz+(j-n) * sz:=by rw[← Nat.add_mul];congr 1;omega
      have:(j-n+1) * sz≤m * sz:=Nat.mul_le_mul_right sz j_
      rw[Nat.add_mul,Nat.one_mul]at this
      rw[hset _ j_,if_pos j_,← q4 l hl]
      congr 1
      omega
   ·rcases hsrc with ⟨rfl,hno,a',c',he⟩ | ⟨b2,o2,c2,olds,he,g1,g2,g3,g4⟩
    ·obtain ⟨q1,q2,q3,q4⟩:=newrow [] cap qd (fun j x _ hj=>absurd hj j_)
     refine⟨_,_,_,?_,q1,q2,q3,.inr q4⟩
     have hc:=hnc w.drew (fun _ _=>rfl)
     have h48:=hfits cap j_
     have h63':¬ (9223372036854775807<(m:Int)):=by omega
     have hroom':¬ (m≤cap):=by omega
     have hfo:=run_firstCells_some (P:=P) w.drew sz 0 ⟨b,0,none⟩ 0 cap [] qd (fun j v hj=>by simp at hj)
     simp only[Nat.zero_add]at h48 ⊢
     simp[Builtin.append_,run_underlying ht,run_underlying ht2,hbm,sizeOf,typeInfo,zeroValue,hinfo,hsz,hz,Builtin.lenOf,hroom',h63',h48,Question.forced,hfo,hc,newRow,grownCap]
    ·cases he
     obtain ⟨q1,q2,q3,q4⟩:=newrow olds cap g1 (fun j x hx hj=>(g4 j x hx).2)
     refine⟨_,_,_,?_,q1,q2,q3,.inr q4⟩
     have hc:=hnc w.drew (fun _ _=>rfl)
     have h48:=hfits cap j_
     have h63':¬ (9223372036854775807<(n:Int)+(m:Int)):=by omega
     have hfo:=run_firstCells_some (P:=P) w.drew sz n ⟨b,0,none⟩ n cap olds g1 (fun j v hj=>by
      have:=g3 j v hj
      rw[Addr.add_lit];simpa using this)
     simp[Builtin.append_,run_underlying ht,run_underlying ht2,hbm,sizeOf,typeInfo,zeroValue,hinfo,hsz,hz,Builtin.lenOf,hroom,h63',h48,Question.forced,hfo,hc,newRow,grownCap]
     congr 2
     apply Array.ext'
     simp[List.append_assoc]
theorem Ti {P:Program} (Γ:Ty P) {o:Oper} {s:SS} (d:Nat) {l:List UInt8} {b:ByteArray} {t t2:TypeId} {ti ti2:TI} {et:TypeId} {eb:Nat} {ez:List Value} {x y:Operand} {k:Option Nat}
  (h:o.op=.call ⟨.builtin .append,#[x,y],#[t,t2]⟩) (hd:s.h d=.fresh) (ht:Γ.get t=some ti) (hk:ti.k=.slice et 1 eb ez) (hez:ez.length=1) (ht2:Γ.get t2=some ti2) (hk2:ti2.k=.string)
  (hb:BaseT s 1 Al (ev s x) k l) (hy:ev s y=.val (.string b)) (hkk:∀ j,k=some j→j≠d) (hbytes:(l.length+b.size) * eb≤140737488355328) (h63:l.length+b.size≤9223372036854775807) :
  Good P o s ⟨.osl d,[],Dz k d (.row 1 Al (l++b.data.toList))⟩:=by
 obtain ⟨f,hb,hf⟩:=hb.base
 intro κ a w hi hr ho N Q hN
 have h1:=hr x (by simp[h,Op.operands,Call.operands])
 have h2:=hr y (by simp[h,Op.operands,Call.operands])
 rw[hy]at h2
 have hws:∀ j,j∈(Up.mk (.osl d) [] (Dz k d (.row 1 Al (l++b.data.toList)))).ws↔(k=some j∨j=d):=by
  intro j
  cases k<;>simp[Up.ws,Dz,eq_comm]
 have hnew:κ d=.new:=by have:=ho d (.inr ((hws d).2 (.inr rfl)));rwa [hd]at this
 obtain ⟨hu,i,z,q1,q2,q3,q4,q5⟩:=Cd Γ ht hk
 have hzs:z.cells.size=1:=by rw[← hez,← q5];simp
 have hu2:P.underlying t2=some .string:=by
  obtain ⟨dd,info,zz,k1,k2,_⟩:=Γ.ok t2 ti2 ht2
  rw[hk2]at k2
  simp only[TK.ok]at k2
  subst k2
  exact k1
 obtain ⟨v',w',κ',r1,r2,r3,r4,r5⟩:=Ts (P:=P) (ty:=o.type) (g:=rowF Al b.data.toList) hi hu q1 q4 q2 hzs hnew (hb.base h1 (fun j hj=>ho j (.inr ((hws j).2 (.inl hj))))) hu2 (rfl:b.size=b.size) rfl
  (fun j x hx=>hx) h63 (by rw[q3];exact hbytes)
 have hrun:(execOp a.eval o).run P w=.ok (.value v') w':=by
  simp[execOp,h,h2.val,resolve,invoke,builtin,r1]
 simp only[Oper.wp,hrun,Oper.upon]
 refine hN v' κ' w' (r2.weaken (fun j hj=>(hws j).2 hj)) r3 r4 (fun p hp=>?_)
 have hfin:ObOK κ' w' d (.row 1 Al (l++b.data.toList)):=Vu r5 (by rw[List.length_append];rfl) (Ue hf (fun _ _ h=>h))
 cases k with
 | none =>
  simp only[Dz,List.mem_singleton]at hp
  subst hp
  exact hfin
 | some k =>
  simp only[Dz,List.mem_cons,List.not_mem_nil,or_false]at hp
  rcases hp with rfl | rfl
  ·trivial
  ·exact hfin
theorem Am {C:Cx} {k:List KI} {s:SS} (d:Nat) (l':List SV) {l:List SV} (h:s.h d=.box l) (hv:VwL s [] l l') (hg:G C k ⟨s.σ,upd s.h d (.box l')⟩):G C k s:=fun κ a w hs =>
 hg κ a w ⟨hs.defers,hs.size,hs.inv,hs.ctx,hs.slot,fun i=>by
  show ObOK κ w i (upd s.h d (.box l') i)
  by_cases hi:i=d
  ·subst hi
   rw[Bc]
   have:=hs.obj i
   rw[h]at this
   obtain ⟨b,cs,T,fr,e1,e2,e3,e4,e5⟩:=this
   exact⟨b,cs,T,fr,e1,e2,e3,e4,VwL.rd hs.inv (fun _ hn=>by cases hn) hv e5⟩
  ·rw[Bz _ _ hi];exact hs.obj i⟩
end Go.Sy
namespace Go.Sy.YtgblchnfjbkipaaGreatDoor
open Go.Proofs
attribute [local irreducible] Go.Sy.G Go.Sy.DR
set_option maxRecDepth 100000
set_option maxHeartbeats 4000000
theorem Ef (l m:List Int) (hl:l.length≤1000000) (hm1:m.length≤1000000):Sy.Spec Tryz.prog 64 [.sl 1 Aa l,.sl 1 Aa m] [] (Af (l == m)) []:=cT F64 Tryz.ntmps64 fun F hF=>by
 by_cases hlen:l.length=m.length
 rotate_left
 ·have hr:(l == m)=false:=by
   rw[beq_eq_false_iff_ne];intro e;exact hlen (by rw[e])
  have f0:((l.length:Int) != (m.length:Int))=true:=by rw[bne_iff_ne];omega
  rw[hr]
  refine T ?_
  exact D
 have f0:((l.length:Int) != (m.length:Int))=false:=by rw[bne_eq_false_iff_eq];omega
 refine T ?_
 refine Bv l.length (fun j=>l.take j=m.take j) (fun j=>[(0,.sl 1 Aa l),(1,.sl 1 Aa m),(12,Aa l.length),(13,Aa j)]) (fun _=>[]) [] q_ U ?_
 intro j hj hI
 refine T ?_
 refine⟨fun h=>?_,fun h=>?_⟩
 ·have hlt:j<l.length:=qA h
  have hlm:j<m.length:=by omega
  have hlt0:((j:Nat):Int).toNat<l.length:=hlt
  have hlm0:((j:Nat):Int).toNat<m.length:=hlm
  clear h
  by_cases he:l[j]=m[j]
  ·have f1:(l[((j:Nat):Int).toNat]'hlt0 != m[((j:Nat):Int).toNat]'hlm0)=false:=by rw[bne_eq_false_iff_eq];exact he
   refine T ?_
   refine By [] hI j_ ?_ U
   rw[List.take_succ_eq_append_getElem hlt,List.take_succ_eq_append_getElem hlm,hI,he]
  ·have f1:(l[((j:Nat):Int).toNat]'hlt0 != m[((j:Nat):Int).toNat]'hlm0)=true:=by rw[bne_iff_ne];exact he
   have hr:(l == m)=false:=by
    rw[beq_eq_false_iff_ne];intro e;subst e;exact he rfl
   rw[hr]
   refine T ?_
   exact D
 ·have hje:j=l.length:=qB h
  subst hje
  have hr:(l == m)=true:=by
   rw[beq_iff_eq]
   rw[List.take_length,hlen,List.take_length]at hI
   exact hI
  rw[hr]
  clear h
  refine T ?_
  exact D
theorem Mj (l m:List Int) (hl:l.length≤1000000) (hm1:m.length≤1000000):Sy.Spec Tryz.prog 69 [.sl 1 A1 l,.sl 1 A1 m] [] (Af (l == m)) []:=cT F69 Tryz.ntmps69 fun F hF=>by
 by_cases hlen:l.length=m.length
 rotate_left
 ·have hr:(l == m)=false:=by
   rw[beq_eq_false_iff_ne];intro e;exact hlen (by rw[e])
  have f0:((l.length:Int) != (m.length:Int))=true:=by rw[bne_iff_ne];omega
  rw[hr]
  refine T ?_
  exact D
 have f0:((l.length:Int) != (m.length:Int))=false:=by rw[bne_eq_false_iff_eq];omega
 refine T ?_
 refine Bv l.length (fun j=>l.take j=m.take j) (fun j=>[(0,.sl 1 A1 l),(1,.sl 1 A1 m),(12,Aa l.length),(13,Aa j)]) (fun _=>[]) [] q_ U ?_
 intro j hj hI
 refine T ?_
 refine⟨fun h=>?_,fun h=>?_⟩
 ·have hlt:j<l.length:=qA h
  have hlm:j<m.length:=by omega
  have hlt0:((j:Nat):Int).toNat<l.length:=hlt
  have hlm0:((j:Nat):Int).toNat<m.length:=hlm
  clear h
  by_cases he:l[j]=m[j]
  ·have f1:(l[((j:Nat):Int).toNat]'hlt0 != m[((j:Nat):Int).toNat]'hlm0)=false:=by rw[bne_eq_false_iff_eq];exact he
   refine T ?_
   refine By [] hI j_ ?_ U
   rw[List.take_succ_eq_append_getElem hlt,List.take_succ_eq_append_getElem hlm,hI,he]
  ·have f1:(l[((j:Nat):Int).toNat]'hlt0 != m[((j:Nat):Int).toNat]'hlm0)=true:=by rw[bne_iff_ne];exact he
   have hr:(l == m)=false:=by
    rw[beq_eq_false_iff_ne];intro e;subst e;exact he rfl
   rw[hr]
   refine T ?_
   exact D
 ·have hje:j=l.length:=qB h
  subst hje
  have hr:(l == m)=true:=by
   rw[beq_iff_eq]
   rw[List.take_length,hlen,List.take_length]at hI
   exact hI
  rw[hr]
  clear h
  refine T ?_
  exact D
theorem Qt (a b:LineM) (ha:LineFin a) (hb:LineFin b):Sy.Spec Tryz.prog 50 [Ab a,Ab b] [] (Af (T7 a b)) []:=cT F50 Tryz.ntmps50 fun F hF=>by
 have ht:=ha.t;have hi:=ha.i;have he:=ha.e;have haa:=ha.a
 have ht2:=hb.t;have hi2:=hb.i;have he2:=hb.e;have haa2:=hb.a
 have q0:=Ef a.tagged b.tagged j_ j_
 have q1:=Ef a.imports b.imports j_ j_
 have q2:=Ef a.exports b.exports j_ j_
 have q3:=Mj a.addrs b.addrs j_ j_
 rw[T7]
 cases h_row:(a.row == b.row)
 ·rw[Bool.false_and]
  refine T ?_
  exact D
 rw[Bool.true_and]
 cases h_kind:(a.kind == b.kind)
 ·rw[Bool.false_and]
  refine T ?_
  exact D
 rw[Bool.true_and]
 cases h_dev:(a.dev == b.dev)
 ·rw[Bool.false_and]
  refine T ?_
  exact D
 rw[Bool.true_and]
 cases h_port:(a.port == b.port)
 ·rw[Bool.false_and]
  refine T ?_
  exact D
 rw[Bool.true_and]
 cases h_peer:(a.peer == b.peer)
 ·rw[Bool.false_and]
  refine T ?_
  exact D
 rw[Bool.true_and]
 cases h_far:(a.far == b.far)
 ·rw[Bool.false_and]
  refine T ?_
  exact D
 rw[Bool.true_and]
 cases h_name:(a.name == b.name)
 ·rw[Bool.false_and]
  refine T ?_
  exact D
 rw[Bool.true_and]
 cases h_mac:(a.mac == b.mac)
 ·rw[Bool.false_and]
  refine T ?_
  exact D
 rw[Bool.true_and]
 cases h_addr:(a.addr == b.addr)
 ·rw[Bool.false_and]
  refine T ?_
  exact D
 rw[Bool.true_and]
 cases h_bits:(a.bits == b.bits)
 ·rw[Bool.false_and]
  refine T ?_
  exact D
 rw[Bool.true_and]
 cases h_vlan:(a.vlan == b.vlan)
 ·rw[Bool.false_and]
  refine T ?_
  exact D
 rw[Bool.true_and]
 cases h_num:(a.num == b.num)
 ·rw[Bool.false_and]
  refine T ?_
  exact D
 rw[Bool.true_and]
 cases h_cost:(a.cost == b.cost)
 ·rw[Bool.false_and]
  refine T ?_
  exact D
 rw[Bool.true_and]
 cases h_tagged:(a.tagged == b.tagged)
 ·rw[h_tagged]at q0
  rw[Bool.false_and]
  refine T ?_
  refine C q0 F64 ?_
  exact D
 rw[h_tagged]at q0
 rw[Bool.true_and]
 cases h_imports:(a.imports == b.imports)
 ·rw[h_imports]at q1
  rw[Bool.false_and]
  refine T ?_
  refine C q0 F64 ?_
  refine C q1 F64 ?_
  exact D
 rw[h_imports]at q1
 rw[Bool.true_and]
 cases h_exports:(a.exports == b.exports)
 ·rw[h_exports]at q2
  rw[Bool.false_and]
  refine T ?_
  refine C q0 F64 ?_
  refine C q1 F64 ?_
  refine C q2 F64 ?_
  exact D
 rw[h_exports]at q2
 rw[Bool.true_and]
 cases h_addrs:(a.addrs == b.addrs)
 ·rw[h_addrs]at q3
  skip
  refine T ?_
  refine C q0 F64 ?_
  refine C q1 F64 ?_
  refine C q2 F64 ?_
  refine C q3 F69 ?_
  exact D
 rw[h_addrs]at q3
 refine T ?_
 refine C q0 F64 ?_
 refine C q1 F64 ?_
 refine C q2 F64 ?_
 refine C q3 F69 ?_
 exact D
theorem Ca (n lo hi:Int):Sy.Spec Tryz.prog 349 [Aa n,Aa lo,Aa hi] [] (Af (A4 n lo hi)) []:=cT F349 Tryz.ntmps349 fun F hF=>by
 rw[A4]
 by_cases h1:lo≤n
 ·have f1:decide (n≥lo)=true:=decide_eq_true h1
  rw[decide_eq_true h1,Bool.true_and]
  refine T ?_
  exact D
 ·have f1:decide (n≥lo)=false:=decide_eq_false h1
  rw[decide_eq_false h1,Bool.false_and]
  refine T ?_
  exact D
theorem K8 (l:List Int) (most:Int) (hl:l.length≤100000):Sy.Spec Tryz.prog 350 [.sl 1 Aa l,Aa most] [] (Af (Es l most)) []:=cT F350 Tryz.ntmps350 fun F hF=>by
 have q:=Xa l 1 most (by simp only[D0];omega)
 rw[Es,Ack]
 by_cases h0:l.length=0
 ·rw[decide_eq_true h0,Bool.true_or]
  have f0:((l.length:Int) == 0)=true:=by rw[h0];rfl
  refine T ?_
  exact D
 ·rw[decide_eq_false h0,Bool.false_or]
  have f0:((l.length:Int) == 0)=false:=by rw[beq_eq_false_iff_ne];omega
  refine T ?_
  refine C q F166 ?_
  exact D
def Is (l:List Int) (i:Nat) (x:Int):Bool:=decide (x≠0) && (i == 0 || decide (l.getD (i-1) 0<x))
theorem Xz (l:List Int):Hz l=(Qa (Is l) l && (decide (0<l.length) && decide (l.length≤16))):=by
 have e:(List.range l.length).all (fun i=>decide (l.getD i 0≠0) && (i == 0 || decide (l.getD (i-1) 0<l.getD i 0)))=Qa (Is l) l:=by
  rw[Bool.eq_iff_iff,List.all_eq_true,allB_iff]
  constructor
  ·intro h i hi
   have:=h i (List.mem_range.2 hi)
   rw[show l.getD i 0=l[i] by rw[List.getD_eq_getElem?_getD,List.getElem?_eq_getElem hi];rfl]at this
   exact this
  ·intro h i hi
   have hi:=List.mem_range.1 hi
   rw[show l.getD i 0=l[i] by rw[List.getD_eq_getElem?_getD,List.getElem?_eq_getElem hi];rfl]
   exact h i hi
 rw[Hz,e]
theorem Wr (l:List Int) (hl:l.length≤100000):Sy.Spec Tryz.prog 351 [.sl 1 A1 l] [] (Af (Hz l)) []:=cT F351 Tryz.ntmps351 fun F hF=>by
 have hres:=Xz l
 generalize Hz l=r at *
 refine T ?_
 refine Bv l.length (fun j=>Mr (Is l) l j) (fun j=>[(0,.sl 1 A1 l),(5,.sl 1 A1 l),(6,Aa l.length),(7,Aa j)]) (fun _=>[]) [] (Ej _ _) U ?_
 intro j hj hI
 refine T ?_
 refine⟨fun h=>?_,fun h=>?_⟩
 ·have hlt:j<l.length:=qA h
  have hlt0:((j:Nat):Int).toNat<l.length:=hlt
  have hno:=fun h=>Ev (p:=Is l) hlt h
  have hnx:=fun h=>D2 (p:=Is l) hI hlt h
  clear h
  by_cases h1:l[j]=0
  ·have f1:(l[((j:Nat):Int).toNat]'hlt0 == 0)=true:=beq_iff_eq.2 h1
   rw[hno (by simp[Is,h1]),Bool.false_and]at hres
   subst hres
   refine T ?_
   exact D
  ·have f1:(l[((j:Nat):Int).toNat]'hlt0 == 0)=false:=beq_eq_false_iff_ne.2 h1
   by_cases h2:j=0
   ·subst h2
    refine T ?_
    exact By [] hI j_ (hnx (by simp[Is,h1])) U
   ·have f2:decide ((j:Int)>0)=true:=decide_eq_true j_
    have hk:((j:Int)-1).toNat<l.length:=by omega
    have hg:l.getD (j-1) 0=l[((j:Int)-1).toNat]'hk:=by
     rw[List.getD_eq_getElem?_getD,List.getElem?_eq_getElem (by omega:j-1<l.length)]
     have:((j:Int)-1).toNat=j-1:=by omega
     simp only[this]
     rfl
    have hx:Is l j l[j]=(decide (l[j]≠0) && (j == 0 || decide (l.getD (j-1) 0<l[j]))):=rfl
    rw[hg]at hx
    by_cases h3:l[((j:Int)-1).toNat]'hk<l[j]
    ·have f3:decide (l[((j:Int)-1).toNat]'hk≥l[((j:Nat):Int).toNat]'hlt0)=false:=decide_eq_false (by show ¬ _≥l[j];omega)
     refine T ?_
     exact By [] hI j_ (hnx (by rw[hx,decide_eq_true h1,decide_eq_true h3,Bool.or_true];rfl)) U
    ·have f3:decide (l[((j:Int)-1).toNat]'hk≥l[((j:Nat):Int).toNat]'hlt0)=true:=decide_eq_true (by show _≥l[j];omega)
     rw[hno (by rw[hx,decide_eq_false h3,beq_eq_false_iff_ne.2 h2];simp),Bool.false_and]at hres
     subst hres
     refine T ?_
     exact D
 ·have hje:j=l.length:=qB h
  subst hje
  rw[M1 hI (Nat.le_refl _),Bool.true_and]at hres
  subst hres
  clear h
  by_cases h0:0<l.length
  ·rw[decide_eq_true h0,Bool.true_and]
   have f0:decide ((l.length:Int)>0)=true:=decide_eq_true j_
   refine T ?_
   refine Bo q_ (.cons .tmp .nil) (congrArg Af ?_) q_
   exact decide_eq_decide.2 j_
  ·rw[decide_eq_false h0,Bool.false_and]
   have f0:decide ((l.length:Int)>0)=false:=decide_eq_false j_
   refine T ?_
   exact D
structure LineW (l:LineM):Prop where
 fin:LineFin l
 ok:LineOK l
 dev:l.dev.size≤100000
 port:l.port.size≤100000
 peer:l.peer.size≤100000
 far:l.far.size≤100000
 name:l.name.size≤100000
theorem Wg (l:LineM) (hw:LineW l) (hk:l.kind=1):Sy.Spec Tryz.prog 298 [Ab l] [] (.tup [Ab (Az l).1,Af (Az l).2]) []:=cT F298 Tryz.ntmps298 fun F hF=>by
 have hU:Az l=({ lineZ with row:=l.row,kind:=1,dev:=l.dev,num:=l.num,mac:=l.mac },(A4 l.num 0 65535 && statB l.mac)):=by
  simp only[Az,hk]
  rfl
 rw[hU]
 have q0:=Ca l.num 0 65535
 have q1:Sy.Spec Tryz.prog 238 [Cy l.mac] [] (Af (statB l.mac)) []:=by
  have:=hw.ok.mac
  obtain ⟨m,hm1⟩:∃ m:Nat,l.mac=m:=⟨l.mac.toNat,by omega⟩
  rw[hm1];exact M7 m j_
 obtain ⟨row,kind,dev,port,peer,far,name,mac,addr,bits,vlan,num,cost,tagged,imports,exports,addrs⟩:=l
 dsimp only at hk q0 q1 ⊢
 subst hk
 clear hU hw
 generalize A4 num 0 65535=b0 at *
 generalize statB mac=b1 at *
 cases b0
 ·rw[Bool.false_and]
  refine T ?_
  refine C q0 F349 ?_
  refine Am 2 (Av { lineZ with row:=row,kind:=1,dev:=dev,num:=num,mac:=mac }) rfl (.cons (.refl _) (.cons (.refl _) (.cons (.refl _) (.cons (.refl _) (.cons (.refl _) (.cons (.refl _) (.cons (.refl _) (.cons (.refl _) (.cons (.refl _) (.cons (.refl _) (.cons (.refl _) (.cons (.refl _) (.cons (.refl _) (.cons .nil (.cons .nil (.cons .nil (.cons .nil .nil))))))))))))))))) ?_
  refine T ?_
  exact D
 rw[Bool.true_and]
 refine T ?_
 refine C q0 F349 ?_
 refine C q1 F238 ?_
 refine Am 2 (Av { lineZ with row:=row,kind:=1,dev:=dev,num:=num,mac:=mac }) rfl (.cons (.refl _) (.cons (.refl _) (.cons (.refl _) (.cons (.refl _) (.cons (.refl _) (.cons (.refl _) (.cons (.refl _) (.cons (.refl _) (.cons (.refl _) (.cons (.refl _) (.cons (.refl _) (.cons (.refl _) (.cons (.refl _) (.cons .nil (.cons .nil (.cons .nil (.cons .nil .nil))))))))))))))))) ?_
 refine T ?_
 exact D
theorem Wf (l:LineM) (hw:LineW l) (hk:l.kind=2):Sy.Spec Tryz.prog 298 [Ab l] [] (.tup [Ab (Az l).1,Af (Az l).2]) []:=cT F298 Tryz.ntmps298 fun F hF=>by
 have hU:Az l=({ lineZ with row:=l.row,kind:=2,dev:=l.dev,port:=l.port,cost:=l.cost,vlan:=l.vlan,tagged:=l.tagged },(Ak l.port && (A4 l.cost 1 65535 && (A4 l.vlan 0 4094 && (Es l.tagged 4094 && membersB l.vlan l.tagged))))):=by
  simp only[Az,hk]
  rfl
 rw[hU]
 have q0:=Dt l.port (by have:=hw.port;omega)
 have q1:=Ca l.cost 1 65535
 have q2:=Ca l.vlan 0 4094
 have q3:=K8 l.tagged 4094 hw.fin.t
 have q4:=Dq l (by have:=hw.fin.t;simp only[D0];omega)
 obtain ⟨row,kind,dev,port,peer,far,name,mac,addr,bits,vlan,num,cost,tagged,imports,exports,addrs⟩:=l
 dsimp only at hk q0 q1 q2 q3 q4 ⊢
 subst hk
 clear hU hw
 generalize Ak port=b0 at *
 generalize A4 cost 1 65535=b1 at *
 generalize A4 vlan 0 4094=b2 at *
 generalize Es tagged 4094=b3 at *
 generalize membersB vlan tagged=b4 at *
 cases b0
 ·rw[Bool.false_and]
  refine T ?_
  refine C q0 F235 ?_
  refine Am 2 (Av { lineZ with row:=row,kind:=2,dev:=dev,port:=port,cost:=cost,vlan:=vlan,tagged:=tagged }) rfl (.cons (.refl _) (.cons (.refl _) (.cons (.refl _) (.cons (.refl _) (.cons (.refl _) (.cons (.refl _) (.cons (.refl _) (.cons (.refl _) (.cons (.refl _) (.cons (.refl _) (.cons (.refl _) (.cons (.refl _) (.cons (.refl _) (.cons (.refl _) (.cons .nil (.cons .nil (.cons .nil .nil))))))))))))))))) ?_
  refine T ?_
  exact D
 rw[Bool.true_and]
 cases b1
 ·rw[Bool.false_and]
  refine T ?_
  refine C q0 F235 ?_
  refine C q1 F349 ?_
  refine Am 2 (Av { lineZ with row:=row,kind:=2,dev:=dev,port:=port,cost:=cost,vlan:=vlan,tagged:=tagged }) rfl (.cons (.refl _) (.cons (.refl _) (.cons (.refl _) (.cons (.refl _) (.cons (.refl _) (.cons (.refl _) (.cons (.refl _) (.cons (.refl _) (.cons (.refl _) (.cons (.refl _) (.cons (.refl _) (.cons (.refl _) (.cons (.refl _) (.cons (.refl _) (.cons .nil (.cons .nil (.cons .nil .nil))))))))))))))))) ?_
  refine T ?_
  exact D
 rw[Bool.true_and]
 cases b2
 ·rw[Bool.false_and]
  refine T ?_
  refine C q0 F235 ?_
  refine C q1 F349 ?_
  refine C q2 F349 ?_
  refine Am 2 (Av { lineZ with row:=row,kind:=2,dev:=dev,port:=port,cost:=cost,vlan:=vlan,tagged:=tagged }) rfl (.cons (.refl _) (.cons (.refl _) (.cons (.refl _) (.cons (.refl _) (.cons (.refl _) (.cons (.refl _) (.cons (.refl _) (.cons (.refl _) (.cons (.refl _) (.cons (.refl _) (.cons (.refl _) (.cons (.refl _) (.cons (.refl _) (.cons (.refl _) (.cons .nil (.cons .nil (.cons .nil .nil))))))))))))))))) ?_
  refine T ?_
  exact D
 rw[Bool.true_and]
 cases b3
 ·rw[Bool.false_and]
  refine T ?_
  refine C q0 F235 ?_
  refine C q1 F349 ?_
  refine C q2 F349 ?_
  refine C q3 F350 ?_
  refine Am 2 (Av { lineZ with row:=row,kind:=2,dev:=dev,port:=port,cost:=cost,vlan:=vlan,tagged:=tagged }) rfl (.cons (.refl _) (.cons (.refl _) (.cons (.refl _) (.cons (.refl _) (.cons (.refl _) (.cons (.refl _) (.cons (.refl _) (.cons (.refl _) (.cons (.refl _) (.cons (.refl _) (.cons (.refl _) (.cons (.refl _) (.cons (.refl _) (.cons (.refl _) (.cons .nil (.cons .nil (.cons .nil .nil))))))))))))))))) ?_
  refine T ?_
  exact D
 rw[Bool.true_and]
 refine T ?_
 refine C q0 F235 ?_
 refine C q1 F349 ?_
 refine C q2 F349 ?_
 refine C q3 F350 ?_
 refine C q4 F239 ?_
 refine Am 2 (Av { lineZ with row:=row,kind:=2,dev:=dev,port:=port,cost:=cost,vlan:=vlan,tagged:=tagged }) rfl (.cons (.refl _) (.cons (.refl _) (.cons (.refl _) (.cons (.refl _) (.cons (.refl _) (.cons (.refl _) (.cons (.refl _) (.cons (.refl _) (.cons (.refl _) (.cons (.refl _) (.cons (.refl _) (.cons (.refl _) (.cons (.refl _) (.cons (.refl _) (.cons .nil (.cons .nil (.cons .nil .nil))))))))))))))))) ?_
 refine T ?_
 exact D
theorem We (l:LineM) (hw:LineW l) (hk:l.kind=3):Sy.Spec Tryz.prog 298 [Ab l] [] (.tup [Ab (Az l).1,Af (Az l).2]) []:=cT F298 Tryz.ntmps298 fun F hF=>by
 have hU:Az l=({ lineZ with row:=l.row,kind:=3,dev:=l.dev,port:=l.port,peer:=l.peer,far:=l.far },(Ak l.port && (Ak l.peer && Ak l.far))):=by
  simp only[Az,hk]
  rfl
 rw[hU]
 have q0:=Dt l.port (by have:=hw.port;omega)
 have q1:=Dt l.peer (by have:=hw.peer;omega)
 have q2:=Dt l.far (by have:=hw.far;omega)
 obtain ⟨row,kind,dev,port,peer,far,name,mac,addr,bits,vlan,num,cost,tagged,imports,exports,addrs⟩:=l
 dsimp only at hk q0 q1 q2 ⊢
 subst hk
 clear hU hw
 generalize Ak port=b0 at *
 generalize Ak peer=b1 at *
 generalize Ak far=b2 at *
 cases b0
 ·rw[Bool.false_and]
  refine T ?_
  refine C q0 F235 ?_
  refine Am 2 (Av { lineZ with row:=row,kind:=3,dev:=dev,port:=port,peer:=peer,far:=far }) rfl (.cons (.refl _) (.cons (.refl _) (.cons (.refl _) (.cons (.refl _) (.cons (.refl _) (.cons (.refl _) (.cons (.refl _) (.cons (.refl _) (.cons (.refl _) (.cons (.refl _) (.cons (.refl _) (.cons (.refl _) (.cons (.refl _) (.cons .nil (.cons .nil (.cons .nil (.cons .nil .nil))))))))))))))))) ?_
  refine T ?_
  exact D
 rw[Bool.true_and]
 cases b1
 ·rw[Bool.false_and]
  refine T ?_
  refine C q0 F235 ?_
  refine C q1 F235 ?_
  refine Am 2 (Av { lineZ with row:=row,kind:=3,dev:=dev,port:=port,peer:=peer,far:=far }) rfl (.cons (.refl _) (.cons (.refl _) (.cons (.refl _) (.cons (.refl _) (.cons (.refl _) (.cons (.refl _) (.cons (.refl _) (.cons (.refl _) (.cons (.refl _) (.cons (.refl _) (.cons (.refl _) (.cons (.refl _) (.cons (.refl _) (.cons .nil (.cons .nil (.cons .nil (.cons .nil .nil))))))))))))))))) ?_
  refine T ?_
  exact D
 rw[Bool.true_and]
 refine T ?_
 refine C q0 F235 ?_
 refine C q1 F235 ?_
 refine C q2 F235 ?_
 refine Am 2 (Av { lineZ with row:=row,kind:=3,dev:=dev,port:=port,peer:=peer,far:=far }) rfl (.cons (.refl _) (.cons (.refl _) (.cons (.refl _) (.cons (.refl _) (.cons (.refl _) (.cons (.refl _) (.cons (.refl _) (.cons (.refl _) (.cons (.refl _) (.cons (.refl _) (.cons (.refl _) (.cons (.refl _) (.cons (.refl _) (.cons .nil (.cons .nil (.cons .nil (.cons .nil .nil))))))))))))))))) ?_
 refine T ?_
 exact D
theorem Wd (l:LineM) (hw:LineW l) (hk:l.kind=4):Sy.Spec Tryz.prog 298 [Ab l] [] (.tup [Ab (Az l).1,Af (Az l).2]) []:=cT F298 Tryz.ntmps298 fun F hF=>by
 have hU:Az l=({ lineZ with row:=l.row,kind:=4,dev:=l.dev,vlan:=l.vlan,mac:=l.mac,port:=l.port },(A4 l.vlan 1 4094 && (statB l.mac && Ak l.port))):=by
  simp only[Az,hk]
  rfl
 rw[hU]
 have q0:=Ca l.vlan 1 4094
 have q1:Sy.Spec Tryz.prog 238 [Cy l.mac] [] (Af (statB l.mac)) []:=by
  have:=hw.ok.mac
  obtain ⟨m,hm1⟩:∃ m:Nat,l.mac=m:=⟨l.mac.toNat,by omega⟩
  rw[hm1];exact M7 m j_
 have q2:=Dt l.port (by have:=hw.port;omega)
 obtain ⟨row,kind,dev,port,peer,far,name,mac,addr,bits,vlan,num,cost,tagged,imports,exports,addrs⟩:=l
 dsimp only at hk q0 q1 q2 ⊢
 subst hk
 clear hU hw
 generalize A4 vlan 1 4094=b0 at *
 generalize statB mac=b1 at *
 generalize Ak port=b2 at *
 cases b0
 ·rw[Bool.false_and]
  refine T ?_
  refine C q0 F349 ?_
  refine Am 2 (Av { lineZ with row:=row,kind:=4,dev:=dev,vlan:=vlan,mac:=mac,port:=port }) rfl (.cons (.refl _) (.cons (.refl _) (.cons (.refl _) (.cons (.refl _) (.cons (.refl _) (.cons (.refl _) (.cons (.refl _) (.cons (.refl _) (.cons (.refl _) (.cons (.refl _) (.cons (.refl _) (.cons (.refl _) (.cons (.refl _) (.cons .nil (.cons .nil (.cons .nil (.cons .nil .nil))))))))))))))))) ?_
  refine T ?_
  exact D
 rw[Bool.true_and]
 cases b1
 ·rw[Bool.false_and]
  refine T ?_
  refine C q0 F349 ?_
  refine C q1 F238 ?_
  refine Am 2 (Av { lineZ with row:=row,kind:=4,dev:=dev,vlan:=vlan,mac:=mac,port:=port }) rfl (.cons (.refl _) (.cons (.refl _) (.cons (.refl _) (.cons (.refl _) (.cons (.refl _) (.cons (.refl _) (.cons (.refl _) (.cons (.refl _) (.cons (.refl _) (.cons (.refl _) (.cons (.refl _) (.cons (.refl _) (.cons (.refl _) (.cons .nil (.cons .nil (.cons .nil (.cons .nil .nil))))))))))))))))) ?_
  refine T ?_
  exact D
 rw[Bool.true_and]
 refine T ?_
 refine C q0 F349 ?_
 refine C q1 F238 ?_
 refine C q2 F235 ?_
 refine Am 2 (Av { lineZ with row:=row,kind:=4,dev:=dev,vlan:=vlan,mac:=mac,port:=port }) rfl (.cons (.refl _) (.cons (.refl _) (.cons (.refl _) (.cons (.refl _) (.cons (.refl _) (.cons (.refl _) (.cons (.refl _) (.cons (.refl _) (.cons (.refl _) (.cons (.refl _) (.cons (.refl _) (.cons (.refl _) (.cons (.refl _) (.cons .nil (.cons .nil (.cons .nil (.cons .nil .nil))))))))))))))))) ?_
 refine T ?_
 exact D
theorem Wb (l:LineM) (hw:LineW l) (hk:l.kind=6):Sy.Spec Tryz.prog 298 [Ab l] [] (.tup [Ab (Az l).1,Af (Az l).2]) []:=cT F298 Tryz.ntmps298 fun F hF=>by
 have hU:Az l=({ lineZ with row:=l.row,kind:=6,dev:=l.dev,vlan:=l.vlan,num:=l.num },(A4 l.vlan 1 4094 && A4 l.num 1 16777215)):=by
  simp only[Az,hk]
  rfl
 rw[hU]
 have q0:=Ca l.vlan 1 4094
 have q1:=Ca l.num 1 16777215
 obtain ⟨row,kind,dev,port,peer,far,name,mac,addr,bits,vlan,num,cost,tagged,imports,exports,addrs⟩:=l
 dsimp only at hk q0 q1 ⊢
 subst hk
 clear hU hw
 generalize A4 vlan 1 4094=b0 at *
 generalize A4 num 1 16777215=b1 at *
 cases b0
 ·rw[Bool.false_and]
  refine T ?_
  refine C q0 F349 ?_
  refine Am 2 (Av { lineZ with row:=row,kind:=6,dev:=dev,vlan:=vlan,num:=num }) rfl (.cons (.refl _) (.cons (.refl _) (.cons (.refl _) (.cons (.refl _) (.cons (.refl _) (.cons (.refl _) (.cons (.refl _) (.cons (.refl _) (.cons (.refl _) (.cons (.refl _) (.cons (.refl _) (.cons (.refl _) (.cons (.refl _) (.cons .nil (.cons .nil (.cons .nil (.cons .nil .nil))))))))))))))))) ?_
  refine T ?_
  exact D
 rw[Bool.true_and]
 refine T ?_
 refine C q0 F349 ?_
 refine C q1 F349 ?_
 refine Am 2 (Av { lineZ with row:=row,kind:=6,dev:=dev,vlan:=vlan,num:=num }) rfl (.cons (.refl _) (.cons (.refl _) (.cons (.refl _) (.cons (.refl _) (.cons (.refl _) (.cons (.refl _) (.cons (.refl _) (.cons (.refl _) (.cons (.refl _) (.cons (.refl _) (.cons (.refl _) (.cons (.refl _) (.cons (.refl _) (.cons .nil (.cons .nil (.cons .nil (.cons .nil .nil))))))))))))))))) ?_
 refine T ?_
 exact D
theorem Wa (l:LineM) (hw:LineW l) (hk:l.kind=7):Sy.Spec Tryz.prog 298 [Ab l] [] (.tup [Ab (Az l).1,Af (Az l).2]) []:=cT F298 Tryz.ntmps298 fun F hF=>by
 have hU:Az l=({ lineZ with row:=l.row,kind:=7,dev:=l.dev,num:=l.num,addrs:=l.addrs },(A4 l.num 1 16777215 && Hz l.addrs)):=by
  simp only[Az,hk]
  rfl
 rw[hU]
 have q0:=Ca l.num 1 16777215
 have q1:=Wr l.addrs hw.fin.a
 obtain ⟨row,kind,dev,port,peer,far,name,mac,addr,bits,vlan,num,cost,tagged,imports,exports,addrs⟩:=l
 dsimp only at hk q0 q1 ⊢
 subst hk
 clear hU hw
 generalize A4 num 1 16777215=b0 at *
 generalize Hz addrs=b1 at *
 cases b0
 ·rw[Bool.false_and]
  refine T ?_
  refine C q0 F349 ?_
  refine Am 2 (Av { lineZ with row:=row,kind:=7,dev:=dev,num:=num,addrs:=addrs }) rfl (.cons (.refl _) (.cons (.refl _) (.cons (.refl _) (.cons (.refl _) (.cons (.refl _) (.cons (.refl _) (.cons (.refl _) (.cons (.refl _) (.cons (.refl _) (.cons (.refl _) (.cons (.refl _) (.cons (.refl _) (.cons (.refl _) (.cons .nil (.cons .nil (.cons .nil (.cons (.refl _) .nil))))))))))))))))) ?_
  refine T ?_
  exact D
 rw[Bool.true_and]
 refine T ?_
 refine C q0 F349 ?_
 refine C q1 F351 ?_
 refine Am 2 (Av { lineZ with row:=row,kind:=7,dev:=dev,num:=num,addrs:=addrs }) rfl (.cons (.refl _) (.cons (.refl _) (.cons (.refl _) (.cons (.refl _) (.cons (.refl _) (.cons (.refl _) (.cons (.refl _) (.cons (.refl _) (.cons (.refl _) (.cons (.refl _) (.cons (.refl _) (.cons (.refl _) (.cons (.refl _) (.cons .nil (.cons .nil (.cons .nil (.cons (.refl _) .nil))))))))))))))))) ?_
 refine T ?_
 exact D
theorem V9 (l:LineM) (hw:LineW l) (hk:l.kind=8):Sy.Spec Tryz.prog 298 [Ab l] [] (.tup [Ab (Az l).1,Af (Az l).2]) []:=cT F298 Tryz.ntmps298 fun F hF=>by
 have hU:Az l=({ lineZ with row:=l.row,kind:=8,dev:=l.dev,name:=l.name,imports:=l.imports,exports:=l.exports },(Ak l.name && (Es l.imports 65535 && Es l.exports 65535))):=by
  simp only[Az,hk]
  rfl
 rw[hU]
 have q0:=Dt l.name (by have:=hw.name;omega)
 have q1:=K8 l.imports 65535 hw.fin.i
 have q2:=K8 l.exports 65535 hw.fin.e
 obtain ⟨row,kind,dev,port,peer,far,name,mac,addr,bits,vlan,num,cost,tagged,imports,exports,addrs⟩:=l
 dsimp only at hk q0 q1 q2 ⊢
 subst hk
 clear hU hw
 generalize Ak name=b0 at *
 generalize Es imports 65535=b1 at *
 generalize Es exports 65535=b2 at *
 cases b0
 ·rw[Bool.false_and]
  refine T ?_
  refine C q0 F235 ?_
  refine Am 2 (Av { lineZ with row:=row,kind:=8,dev:=dev,name:=name,imports:=imports,exports:=exports }) rfl (.cons (.refl _) (.cons (.refl _) (.cons (.refl _) (.cons (.refl _) (.cons (.refl _) (.cons (.refl _) (.cons (.refl _) (.cons (.refl _) (.cons (.refl _) (.cons (.refl _) (.cons (.refl _) (.cons (.refl _) (.cons (.refl _) (.cons .nil (.cons (.refl _) (.cons (.refl _) (.cons .nil .nil))))))))))))))))) ?_
  refine T ?_
  exact D
 rw[Bool.true_and]
 cases b1
 ·rw[Bool.false_and]
  refine T ?_
  refine C q0 F235 ?_
  refine C q1 F350 ?_
  refine Am 2 (Av { lineZ with row:=row,kind:=8,dev:=dev,name:=name,imports:=imports,exports:=exports }) rfl (.cons (.refl _) (.cons (.refl _) (.cons (.refl _) (.cons (.refl _) (.cons (.refl _) (.cons (.refl _) (.cons (.refl _) (.cons (.refl _) (.cons (.refl _) (.cons (.refl _) (.cons (.refl _) (.cons (.refl _) (.cons (.refl _) (.cons .nil (.cons (.refl _) (.cons (.refl _) (.cons .nil .nil))))))))))))))))) ?_
  refine T ?_
  exact D
 rw[Bool.true_and]
 refine T ?_
 refine C q0 F235 ?_
 refine C q1 F350 ?_
 refine C q2 F350 ?_
 refine Am 2 (Av { lineZ with row:=row,kind:=8,dev:=dev,name:=name,imports:=imports,exports:=exports }) rfl (.cons (.refl _) (.cons (.refl _) (.cons (.refl _) (.cons (.refl _) (.cons (.refl _) (.cons (.refl _) (.cons (.refl _) (.cons (.refl _) (.cons (.refl _) (.cons (.refl _) (.cons (.refl _) (.cons (.refl _) (.cons (.refl _) (.cons .nil (.cons (.refl _) (.cons (.refl _) (.cons .nil .nil))))))))))))))))) ?_
 refine T ?_
 exact D
theorem V8 (l:LineM) (hw:LineW l) (hk:l.kind=9):Sy.Spec Tryz.prog 298 [Ab l] [] (.tup [Ab (Az l).1,Af (Az l).2]) []:=cT F298 Tryz.ntmps298 fun F hF=>by
 have hU:Az l=({ lineZ with row:=l.row,kind:=9,dev:=l.dev,vlan:=l.vlan,name:=l.name,addr:=l.addr,bits:=l.bits },(A4 l.vlan 1 4094 && (Ak l.name && subnetB l.addr l.bits))):=by
  simp only[Az,hk]
  rfl
 rw[hU]
 have q0:=Ca l.vlan 1 4094
 have q1:=Dt l.name (by have:=hw.name;omega)
 have q2:Sy.Spec Tryz.prog 193 [Ds l.addr l.bits] [] (Af (subnetB l.addr l.bits)) []:=by
  have:=hw.ok.addr
  obtain ⟨m,hm1⟩:∃ m:Nat,l.addr=m:=⟨l.addr.toNat,by omega⟩
  rw[hm1];exact Lt m l.bits j_
 obtain ⟨row,kind,dev,port,peer,far,name,mac,addr,bits,vlan,num,cost,tagged,imports,exports,addrs⟩:=l
 dsimp only at hk q0 q1 q2 ⊢
 subst hk
 clear hU hw
 generalize A4 vlan 1 4094=b0 at *
 generalize Ak name=b1 at *
 generalize subnetB addr bits=b2 at *
 cases b0
 ·rw[Bool.false_and]
  refine T ?_
  refine C q0 F349 ?_
  refine Am 2 (Av { lineZ with row:=row,kind:=9,dev:=dev,vlan:=vlan,name:=name,addr:=addr,bits:=bits }) rfl (.cons (.refl _) (.cons (.refl _) (.cons (.refl _) (.cons (.refl _) (.cons (.refl _) (.cons (.refl _) (.cons (.refl _) (.cons (.refl _) (.cons (.refl _) (.cons (.refl _) (.cons (.refl _) (.cons (.refl _) (.cons (.refl _) (.cons .nil (.cons .nil (.cons .nil (.cons .nil .nil))))))))))))))))) ?_
  refine T ?_
  exact D
 rw[Bool.true_and]
 cases b1
 ·rw[Bool.false_and]
  refine T ?_
  refine C q0 F349 ?_
  refine C q1 F235 ?_
  refine Am 2 (Av { lineZ with row:=row,kind:=9,dev:=dev,vlan:=vlan,name:=name,addr:=addr,bits:=bits }) rfl (.cons (.refl _) (.cons (.refl _) (.cons (.refl _) (.cons (.refl _) (.cons (.refl _) (.cons (.refl _) (.cons (.refl _) (.cons (.refl _) (.cons (.refl _) (.cons (.refl _) (.cons (.refl _) (.cons (.refl _) (.cons (.refl _) (.cons .nil (.cons .nil (.cons .nil (.cons .nil .nil))))))))))))))))) ?_
  refine T ?_
  exact D
 rw[Bool.true_and]
 refine T ?_
 refine C q0 F349 ?_
 refine C q1 F235 ?_
 refine C q2 F193 ?_
 refine Am 2 (Av { lineZ with row:=row,kind:=9,dev:=dev,vlan:=vlan,name:=name,addr:=addr,bits:=bits }) rfl (.cons (.refl _) (.cons (.refl _) (.cons (.refl _) (.cons (.refl _) (.cons (.refl _) (.cons (.refl _) (.cons (.refl _) (.cons (.refl _) (.cons (.refl _) (.cons (.refl _) (.cons (.refl _) (.cons (.refl _) (.cons (.refl _) (.cons .nil (.cons .nil (.cons .nil (.cons .nil .nil))))))))))))))))) ?_
 refine T ?_
 exact D
theorem Wc (l:LineM) (hw:LineW l) (hk:l.kind=5):Sy.Spec Tryz.prog 298 [Ab l] [] (.tup [Ab (Az l).1,Af (Az l).2]) []:=cT F298 Tryz.ntmps298 fun F hF=>by
 have hU:Az l=({ lineZ with row:=l.row,kind:=5,dev:=l.dev,addr:=l.addr },decide (l.addr≠0)):=by
  simp only[Az,hk]
  rfl
 rw[hU]
 obtain ⟨row,kind,dev,port,peer,far,name,mac,addr,bits,vlan,num,cost,tagged,imports,exports,addrs⟩:=l
 dsimp only at hk ⊢
 subst hk
 clear hU hw
 have hb:decide (addr≠0)=(addr != 0):=by
  by_cases h:addr=0
  ·rw[h];rfl
  ·rw[decide_eq_true h,bne_iff_ne.2 h]
 rw[hb]
 refine T ?_
 refine Am 2 (Av { lineZ with row:=row,kind:=5,dev:=dev,addr:=addr }) rfl (.cons (.refl _) (.cons (.refl _) (.cons (.refl _) (.cons (.refl _) (.cons (.refl _) (.cons (.refl _) (.cons (.refl _) (.cons (.refl _) (.cons (.refl _) (.cons (.refl _) (.cons (.refl _) (.cons (.refl _) (.cons (.refl _) (.cons .nil (.cons .nil (.cons .nil (.cons .nil .nil))))))))))))))))) ?_
 refine T ?_
 exact D
theorem Wh (l:LineM) (hk:¬ (1≤l.kind∧l.kind≤9)):Sy.Spec Tryz.prog 298 [Ab l] [] (.tup [Ab (Az l).1,Af (Az l).2]) []:=cT F298 Tryz.ntmps298 fun F hF=>by
 have n1:¬ l.kind=1:=by omega
 have f1:(l.kind == 1)=false:=beq_eq_false_iff_ne.2 n1
 have n2:¬ l.kind=2:=by omega
 have f2:(l.kind == 2)=false:=beq_eq_false_iff_ne.2 n2
 have n3:¬ l.kind=3:=by omega
 have f3:(l.kind == 3)=false:=beq_eq_false_iff_ne.2 n3
 have n4:¬ l.kind=4:=by omega
 have f4:(l.kind == 4)=false:=beq_eq_false_iff_ne.2 n4
 have n5:¬ l.kind=5:=by omega
 have f5:(l.kind == 5)=false:=beq_eq_false_iff_ne.2 n5
 have n6:¬ l.kind=6:=by omega
 have f6:(l.kind == 6)=false:=beq_eq_false_iff_ne.2 n6
 have n7:¬ l.kind=7:=by omega
 have f7:(l.kind == 7)=false:=beq_eq_false_iff_ne.2 n7
 have n8:¬ l.kind=8:=by omega
 have f8:(l.kind == 8)=false:=beq_eq_false_iff_ne.2 n8
 have n9:¬ l.kind=9:=by omega
 have f9:(l.kind == 9)=false:=beq_eq_false_iff_ne.2 n9
 have hU:Az l=({ lineZ with row:=l.row,kind:=l.kind,dev:=l.dev },false):=by
  simp only[Az,if_neg n1,if_neg n2,if_neg n3,if_neg n4,if_neg n5,if_neg n6,if_neg n7,if_neg n8,if_neg n9]
 rw[hU]
 refine T ?_
 refine Am 2 (Av { lineZ with row:=l.row,kind:=l.kind,dev:=l.dev }) rfl (.cons (.refl _) (.cons (.refl _) (.cons (.refl _) (.cons (.refl _) (.cons (.refl _) (.cons (.refl _) (.cons (.refl _) (.cons (.refl _) (.cons (.refl _) (.cons (.refl _) (.cons (.refl _) (.cons (.refl _) (.cons (.refl _) (.cons .nil (.cons .nil (.cons .nil (.cons .nil .nil))))))))))))))))) ?_
 refine T ?_
 exact D
theorem Yt (l:LineM) (hw:LineW l):Sy.Spec Tryz.prog 298 [Ab l] [] (.tup [Ab (Az l).1,Af (Az l).2]) []:=by
 by_cases hk:1≤l.kind∧l.kind≤9
 ·rcases (by omega:l.kind=1∨l.kind=2∨l.kind=3∨l.kind=4∨l.kind=5∨l.kind=6∨l.kind=7∨l.kind=8∨l.kind=9) with h | h | h | h | h | h | h | h | h
  ·exact Wg l hw h
  ·exact Wf l hw h
  ·exact We l hw h
  ·exact Wd l hw h
  ·exact Wc l hw h
  ·exact Wb l hw h
  ·exact Wa l hw h
  ·exact V9 l hw h
  ·exact V8 l hw h
 ·exact Wh l hk
theorem Yo {l:LineM} (h:LineFin l):LineFin (Az l).1:=by
 have ht:=h.t;have hi:=h.i;have he:=h.e;have haa:=h.a
 unfold Az
 dsimp only
 repeat' split
 all_goals exact⟨by first | exact ht | (show 0≤100000;decide),by first | exact hi | (show 0≤100000;decide),by first | exact he | (show 0≤100000;decide),by first | exact haa | (show 0≤100000;decide)⟩
theorem B4 (l:LineM) (hw:LineW l):Sy.Spec Tryz.prog 246 [Ab l] [] (Af (Br l)) []:=cT F246 Tryz.ntmps246 fun F hF=>by
 have q1:=Yt l hw
 have q2:=Dt l.dev (by have:=hw.dev;omega)
 have q3:=Qt (Az l).1 l (Yo hw.fin) hw.fin
 rw[Br]
 generalize Az l=u at *
 obtain ⟨ul,ub⟩:=u
 dsimp only at q1 q3 ⊢
 cases ub
 ·rw[Bool.false_and]
  refine T ?_
  refine C q1 F298 ?_
  exact D
 rw[Bool.true_and]
 cases hn:Ak l.dev
 ·rw[hn]at q2
  rw[Bool.false_and]
  refine T ?_
  refine C q1 F298 ?_
  refine C q2 F235 ?_
  exact D
 rw[hn]at q2
 rw[Bool.true_and]
 refine T ?_
 refine C q1 F298 ?_
 refine C q2 F235 ?_
 refine C q3 F50 ?_
 exact D
theorem Za (i:Nat) (hi:i<6):Sy.Spec Tryz.prog 299 [Aa i] [] (Cy ((8 * (5-i):Nat):Int)) []:=cT F299 Tryz.ntmps299 fun F hF=>by
 refine T ?_
 refine Bo q_ (.cons .tmp .nil) (congrArg (fun z=>SV.val (.int .u64 z)) (?_:_=IntKind.u64.wrap (8 * (5-(i:Int))))) q_
 rw[IntKind.wrap_u64];omega
theorem Xu (m j:Nat) (hm:m<18446744073709551616) (hj:j<6):IntKind.u8.wrap ((m:Int).fdiv (2 ^ (min (((8 * (5-j):Nat):Int)).toNat IntKind.u64.bits)))=((byteN m j:Nat):Int):=by
 have hb:min (((8 * (5-j):Nat):Int)).toNat IntKind.u64.bits=8 * (5-j):=by show min _ 64=_;omega
 have hp:(2:Nat) ^ (8 * (5-j))=256 ^ (5-j):=by rw[Nat.pow_mul]
 rw[hb,show (2:Int) ^ (8 * (5-j))=((2 ^ (8 * (5-j)):Nat):Int) by rw[Int.natCast_pow];rfl,hp,Int.fdiv_eq_ediv_of_nonneg _ (Int.natCast_nonneg _),← Int.natCast_ediv,byteN,IntKind.wrap_u8]
 omega
theorem On (m:Nat):∀ j,(Qj m j).length≤3 * j
 | 0=>by simp[Qj]
 | j+1=>by
  have:=On m j
  rw[Qj,List.length_append,List.length_append]
  split<;>simp<;>omega
theorem Abb:∀ k:Fin 16,An (⟨#[48,49,50,51,52,53,54,55,56,57,97,98,99,100,101,102]⟩:ByteArray) k.1=Oy k.1:=by decide +kernel
theorem Xw:∀ k:Fin 256,bits .and .u8 (k.1:Int) 15=((k.1 % 16:Nat):Int):=by decide +kernel
theorem Aac (c:Nat):(c:Int).fdiv (2 ^ min (Int.toNat 4) IntKind.u8.bits)=((c / 16:Nat):Int):=by
 show (c:Int).fdiv 16=_
 rw[Int.fdiv_eq_ediv_of_nonneg _ qc,Int.natCast_ediv];rfl
theorem U7 (m:Nat) (h_:m<18446744073709551616):Sy.Spec Tryz.prog 249 [Cy m] [] (Ac (Ij m)) []:=cT F249 Tryz.ntmps249 fun F hF=>by
 refine T ?_
 refine Dg 3 1000 1 Al q_ q_ ?_
 refine T ?_
 refine Df 6 (fun j=>[(0,Cy m),(3,.osl 1000),(6,Aa j)]) (fun j=>[(1000,.row 1 Al (Qj m j))]) [] U ?_
 intro j hj
 have hlu:=On m j
 have hsu:Qj m (j+1)=Qj m j++(if 0<j then [58] else [])++[Oy (byteN m j / 16),Oy (byteN m j % 16)]:=rfl
 generalize hu:Qj m j=u at *
 refine T ?_
 refine⟨fun h=>?_,fun h=>?_⟩
 ·have hlt:j<6:=qA h
  have hsh:=Xu m j h_ hlt
  clear h
  refine T ?_
  refine C (Za j hlt) F299 ?_
  rw[hsh]
  have hbn:byteN m j<256:=Nat.mod_lt _ qc
  generalize byteN m j=c at *
  have hsz:(⟨#[48,49,50,51,52,53,54,55,56,57,97,98,99,100,101,102]⟩:ByteArray).size=16:=rfl
  have g1:0≤(c:Int).fdiv (2 ^ min (Int.toNat 4) IntKind.u8.bits):=by rw[Aac];omega
  have g2:((c:Int).fdiv (2 ^ min (Int.toNat 4) IntKind.u8.bits)).toNat<(⟨#[48,49,50,51,52,53,54,55,56,57,97,98,99,100,101,102]⟩:ByteArray).size:=by rw[Aac,hsz];omega
  have g3:0≤bits .and .u8 (c:Int) 15:=by rw[Xw ⟨c,hbn⟩];omega
  have g4:(bits .and .u8 (c:Int) 15).toNat<(⟨#[48,49,50,51,52,53,54,55,56,57,97,98,99,100,101,102]⟩:ByteArray).size:=by rw[Xw ⟨c,hbn⟩,hsz];show ((c % 16:Nat):Int).toNat<16;omega
  have x1:An (⟨#[48,49,50,51,52,53,54,55,56,57,97,98,99,100,101,102]⟩:ByteArray) ((c:Int).fdiv (2 ^ min (Int.toNat 4) IntKind.u8.bits)).toNat=Oy (c / 16):=by
   rw[Aac,Int.toNat_natCast];exact Abb ⟨c / 16,by omega⟩
  have x2:An (⟨#[48,49,50,51,52,53,54,55,56,57,97,98,99,100,101,102]⟩:ByteArray) (bits .and .u8 (c:Int) 15).toNat=Oy (c % 16):=by
   rw[Xw ⟨c,hbn⟩,Int.toNat_natCast];exact Abb ⟨c % 16,by omega⟩
  rw[← x1,← x2]at hsu
  by_cases h0:0<j
  ·rw[if_pos h0]at hsu
   refine T ?_
   refine X (Ai Γ.toTy 18 q_ q_ q_ q_ q_ (.row q_) (.lit (e:=Al) (l:=[58]) q_ q_) qc (by simp;omega) (by simp;omega)) ?_
   refine Xd (Ai Γ.toTy 27 q_ q_ q_ q_ q_ (.row q_) (.lit (e:=Al) (l:=[An (⟨#[48,49,50,51,52,53,54,55,56,57,97,98,99,100,101,102]⟩:ByteArray) ((c:Int).fdiv (2 ^ min (Int.toNat 4) IntKind.u8.bits)).toNat,An (⟨#[48,49,50,51,52,53,54,55,56,57,97,98,99,100,101,102]⟩:ByteArray) (bits .and .u8 (c:Int) 15).toNat]) q_ q_) qc (by simp;omega) (by simp;omega)) ?_
   exact Dk [(1000,27)] hlt ⟨⟨q_,q_,q_,q_,q_,q_,z_⟩,⟨.inl (congrArg (Ob.row 1 Al) hsu),q_,z_⟩,q_,q_⟩
  ·rw[if_neg h0,List.append_nil]at hsu
   refine T ?_
   refine Xd (Ai Γ.toTy 27 q_ q_ q_ q_ q_ (.row q_) (.lit (e:=Al) (l:=[An (⟨#[48,49,50,51,52,53,54,55,56,57,97,98,99,100,101,102]⟩:ByteArray) ((c:Int).fdiv (2 ^ min (Int.toNat 4) IntKind.u8.bits)).toNat,An (⟨#[48,49,50,51,52,53,54,55,56,57,97,98,99,100,101,102]⟩:ByteArray) (bits .and .u8 (c:Int) 15).toNat]) q_ q_) qc (by simp;omega) (by simp;omega)) ?_
   exact Dk [(1000,27)] hlt ⟨⟨q_,q_,q_,q_,q_,q_,z_⟩,⟨.inl (congrArg (Ob.row 1 Al) hsu),q_,z_⟩,q_,q_⟩
 ·have:j=6:=qB h
  subst this
  subst hu
  clear h
  refine T ?_
  refine X (Ce Γ.toTy (bs:=Qj m 6) q_ q_ q_ q_ q_ q_ q_ (.row q_)) ?_
  exact D
theorem H8 {α:Type} {tx:α→ByteArray}:∀ (l:List α),(∀ x∈l,(tx x).size≤100)→Hb (l.map tx)≤100 * l.length
 | [],_=>by simp[Hb]
 | x::l,h=>by
  have h1:=h x qd
  have h2:=H8 l (fun y hy=>h y (by simp[hy]))
  simp only[Hb,List.map_cons,List.sum_cons,List.length_cons]at h2 ⊢
  omega
theorem Ta (tx:Int→ByteArray) (f:FuncId) (first cap:List SV) (hc:(SV.clo (.func f) first cap).inn []=true) (hr:∀ ρ:Nat→Nat,(SV.clo (.func f) first cap).ren ρ=.clo (.func f) first cap) (l:List Int) (hl:l.length≤100000) (hz:∀ x∈l,(tx x).size≤100) (hf:∀ x∈l,Ms Tryz.prog f (first++[Aa x]++cap) (Ac (tx x))) :
  Sy.Spec Tryz.prog 352 [.sl 1 Aa l,.clo (.func f) first cap] [] (Ac (D8 (l.map tx) comma)) []:=cT F352 Tryz.ntmps352 fun F hF=>by
 have hc':(SV.clo (.func f) first cap).inn [1000]=true:=De _ hc
 have hin:∀ y:SV,y.inn []=true→Be [] (first++[y]++cap)=true:=fun y hy=>by
  simp only[SV.inn,Bool.and_eq_true]at hc
  rw[Bk,Bk,hc.1,hc.2]
  simp[Be,hy]
 have hs:Hb (l.map tx)≤100 * l.length:=H8 l hz
 have q2:=M6 (l.map tx) comma (by simp;omega) j_ (by rw[List.length_map];show 1 * l.length≤_;omega)
 refine T ?_
 refine Dg 5 1000 1 Ac q_ q_ ?_
 refine T ?_
 refine Df l.length (fun j=>[(1,.clo (.func f) first cap),(5,.osl 1000),(8,.sl 1 Aa l),(9,Aa l.length),(10,Aa j)]) (fun j=>[(1000,.row 1 Ac ((l.take j).map tx))]) [] ⟨⟨A0 _,hc',q_,q_,q_,q_,q_,q_,q_,q_,z_⟩,⟨.inl q_,q_,z_⟩,q_,q_⟩ ?_
 intro j hj
 refine T ?_
 refine⟨fun h=>?_,fun h=>?_⟩
 ·have hlt:j<l.length:=qA h
  have hlt0:((j:Nat):Int).toNat<l.length:=hlt
  clear h
  have q1:=hf (l[((j:Nat):Int).toNat]'hlt0) (List.getElem_mem _)
  refine T ?_
  refine Yh q1 q_ q_ q_ (by simp only[hin (Aa (l[((j:Nat):Int).toNat]'hlt0)) q_];rfl) q_ q_ ?_
  refine T ?_
  refine X (Ai Γ.toTy 19 q_ q_ q_ q_ q_ (.row q_) (.lit (e:=Ac) (l:=[tx (l[((j:Nat):Int).toNat]'hlt0)]) q_ q_) qc (by simp;omega) (by simp;omega)) ?_
  refine Dk [(1000,19)] hlt ⟨⟨hr _,hc',q_,q_,q_,q_,q_,q_,q_,q_,z_⟩,⟨.inl (congrArg (Ob.row 1 Ac) ?_),q_,z_⟩,q_,q_⟩
  rw[List.take_succ_eq_append_getElem hlt,List.map_append]
  rfl
 ·have hje:j=l.length:=qB h
  subst hje
  clear h
  rw[List.take_length]
  refine T ?_
  refine Bf 1000 q_ ?_
  refine C q2 F255 ?_
  exact D
theorem S9 (tx:Int→ByteArray) (f:FuncId) (first cap:List SV) (hc:(SV.clo (.func f) first cap).inn []=true) (hr:∀ ρ:Nat→Nat,(SV.clo (.func f) first cap).ren ρ=.clo (.func f) first cap) (l:List Int) (hl:l.length≤100000) (hz:∀ x∈l,(tx x).size≤100) (hf:∀ x∈l,Ms Tryz.prog f (first++[A1 x]++cap) (Ac (tx x))) :
  Sy.Spec Tryz.prog 301 [.sl 1 A1 l,.clo (.func f) first cap] [] (Ac (D8 (l.map tx) comma)) []:=cT F301 Tryz.ntmps301 fun F hF=>by
 have hc':(SV.clo (.func f) first cap).inn [1000]=true:=De _ hc
 have hin:∀ y:SV,y.inn []=true→Be [] (first++[y]++cap)=true:=fun y hy=>by
  simp only[SV.inn,Bool.and_eq_true]at hc
  rw[Bk,Bk,hc.1,hc.2]
  simp[Be,hy]
 have hs:Hb (l.map tx)≤100 * l.length:=H8 l hz
 have q2:=M6 (l.map tx) comma (by simp;omega) j_ (by rw[List.length_map];show 1 * l.length≤_;omega)
 refine T ?_
 refine Dg 5 1000 1 Ac q_ q_ ?_
 refine T ?_
 refine Df l.length (fun j=>[(1,.clo (.func f) first cap),(5,.osl 1000),(8,.sl 1 A1 l),(9,Aa l.length),(10,Aa j)]) (fun j=>[(1000,.row 1 Ac ((l.take j).map tx))]) [] ⟨⟨A0 _,hc',q_,q_,q_,q_,q_,q_,q_,q_,z_⟩,⟨.inl q_,q_,z_⟩,q_,q_⟩ ?_
 intro j hj
 refine T ?_
 refine⟨fun h=>?_,fun h=>?_⟩
 ·have hlt:j<l.length:=qA h
  have hlt0:((j:Nat):Int).toNat<l.length:=hlt
  clear h
  have q1:=hf (l[((j:Nat):Int).toNat]'hlt0) (List.getElem_mem _)
  refine T ?_
  refine Yh q1 q_ q_ q_ (by simp only[hin (A1 (l[((j:Nat):Int).toNat]'hlt0)) q_];rfl) q_ q_ ?_
  refine T ?_
  refine X (Ai Γ.toTy 19 q_ q_ q_ q_ q_ (.row q_) (.lit (e:=Ac) (l:=[tx (l[((j:Nat):Int).toNat]'hlt0)]) q_ q_) qc (by simp;omega) (by simp;omega)) ?_
  refine Dk [(1000,19)] hlt ⟨⟨hr _,hc',q_,q_,q_,q_,q_,q_,q_,q_,z_⟩,⟨.inl (congrArg (Ob.row 1 Ac) ?_),q_,z_⟩,q_,q_⟩
  rw[List.take_succ_eq_append_getElem hlt,List.map_append]
  rfl
 ·have hje:j=l.length:=qB h
  subst hje
  clear h
  rw[List.take_length]
  refine T ?_
  refine Bf 1000 q_ ?_
  refine C q2 F255 ?_
  exact D
theorem Zc (l:List Int) (hl:l.length≤100000) (hw:∀ x∈l,Ch x):Sy.Spec Tryz.prog 302 [.sl 1 Aa l] [] (Ac (Oo l)) []:=cT F302 Tryz.ntmps302 fun F hF=>by
 have q:=Ta A8 247 [] [] rfl (fun _=>rfl) l hl (fun x hx=>by have:=D6 (hw x hx);omega) (fun x hx=>⟨⟨_,_,F247⟩,Aw x (hw x hx)⟩)
 rw[Oo]
 generalize D8 (l.map A8) comma=r at *
 refine T ?_
 refine C q F352 ?_
 exact D
theorem Ee (a:Int):(C8 a).size≤100:=by
 have:=H1 a.toNat 4
 rw[C8,Bt];omega
theorem Xy (l:List Int) (hl:l.length≤100000) (hw:∀ x∈l,0≤x∧x<4294967296):Sy.Spec Tryz.prog 252 [.sl 1 A1 l] [] (Ac (Hy l)) []:=cT F252 Tryz.ntmps252 fun F hF=>by
 have q:=S9 C8 251 [] [] rfl (fun _=>rfl) l hl (fun x hx=>Ee x) (fun x hx=>⟨⟨_,_,F251⟩,by
  obtain ⟨m,hm1⟩:∃ m:Nat,x=m:=⟨x.toNat,by have:=hw x hx;omega⟩
  have:=hw x hx
  rw[hm1];exact Ln m j_⟩)
 rw[Hy]
 generalize D8 (l.map C8) comma=r at *
 refine T ?_
 refine C q F301 ?_
 exact D
theorem Jq (l:List Int) (hl:l.length≤100000) (hw:∀ x∈l,Ch x):Sy.Spec Tryz.prog 253 [.sl 1 Aa l] [] (Ac (Dh l)) []:=cT F253 Tryz.ntmps253 fun F hF=>by
 have q:=Zc l hl hw
 rw[Dh]
 by_cases h0:l.length=0
 ·rw[if_pos (List.eq_nil_of_length_eq_zero h0)]
  have f0:((l.length:Int) == 0)=true:=by rw[h0];rfl
  refine T ?_
  exact D
 ·rw[if_neg (fun e=>h0 (by rw[e];rfl))]
  have f0:((l.length:Int) == 0)=false:=by rw[beq_eq_false_iff_ne];omega
  refine T ?_
  refine C q F302 ?_
  exact D
theorem Ci (svs:List SV):Sy.Spec Tryz.prog 248 [.osl 0] [(0,.lit 1 svs)] (.osl 0) [(0,.lit 1 svs)]:=cT F248 Tryz.ntmps248 fun F hF=>by
 refine T ?_
 exact done q_ (.cons .tmp .nil) [] [(0,.lit 1 svs)] (fun _ h=>h) q_ q_ ⟨z_,⟨.inl q_,q_,z_⟩,q_,q_⟩
theorem Uj (a:Nat) (b:Int) (ha:a<4294967296) (hb:0≤b∧b≤32):Sy.Spec Tryz.prog 254 [Ds a b] [] (Ac (D5 a b)) []:=cT F254 Tryz.ntmps254 fun F hF=>by
 have q1:=J0 (a:Int) b
 rw[decide_eq_true hb]at q1
 have q2:=Ln a ha
 have hsz:=Ee (a:Int)
 rw[D5,if_pos hb]
 generalize C8 (a:Int)=t at *
 have q3:=Qc b.toNat (t++(⟨#[47]⟩:ByteArray)).data.toList j_ (by
  have h1:=B5 2 b.toNat j_
  have h2:(t++(⟨#[47]⟩:ByteArray)).data.toList.length=t.size+1:=by
   rw[show (t++(⟨#[47]⟩:ByteArray)).data.toList=t.data.toList++[47] from by simp]
   simp
  omega)
 rw[Int.toNat_of_nonneg hb.1]at q3
 have he:t.data.toList++[47]++(revDigs b.toNat).reverse=(t++(⟨#[47]⟩:ByteArray)).data.toList++(revDigs b.toNat).reverse:=by
  rw[show (t++(⟨#[47]⟩:ByteArray)).data.toList=t.data.toList++[47] from by simp]
 rw[he]
 refine T ?_
 refine C q1 F296 ?_
 refine C q2 F251 ?_
 refine Xd (Ks Γ.toTy (d:=10) q_ q_ q_ q_ q_ q_ q_ q_ q_) ?_
 refine Xd (Ad [(0,10),(1,900)] q_ F300 q3 q_ W q_ V) ?_
 refine Xd (Ce Γ.toTy (bs:=(t++(⟨#[47]⟩:ByteArray)).data.toList++(revDigs b.toNat).reverse) q_ q_ q_ q_ q_ q_ q_ (.row q_)) ?_
 exact D
structure LineX (l:LineM):Prop where
 w:LineW l
 vlan:Ch l.vlan
 num:Ch l.num
 cost:Ch l.cost
 tagged:∀ x∈l.tagged,Ch x
 imports:∀ x∈l.imports,Ch x
 exports:∀ x∈l.exports,Ch x
theorem W6 (l:LineM) (h:LineX l):Sy.Spec Tryz.prog 250 [Ab l] [] (.sl 1 Ac (Jp l)) []:=cT F250 Tryz.ntmps250 fun F hF=>by
 have q1:=Aw l.vlan h.vlan
 have q2:=Aw l.cost h.cost
 have q3:=Jq l.tagged h.w.fin.t h.tagged
 have q4:=Ci [Ac ⟨#[112,111,114,116]⟩,Ac l.dev,Ac l.port,Ac (A8 l.cost)]
 rw[Jp]
 by_cases h0:l.tagged.length=0
 ·have f0:((l.tagged.length:Int) == 0)=true:=by rw[h0];rfl
  rw[if_pos (List.eq_nil_of_length_eq_zero h0)]
  have q5:=Ci [Ac accessT,Ac (A8 l.vlan)]
  refine T ?_
  refine C q1 F247 ?_
  refine C q2 F247 ?_
  refine Xe (Ad [(0,15)] q_ F248 q4 q_ W q_ V) ?_
  refine X (Ad [(0,24)] q_ F248 q5 q_ W q_ V) ?_
  refine X (Ai Γ.toTy 26 q_ q_ q_ q_ q_ (.lit (e:=Ac) (l:=[⟨#[112,111,114,116]⟩,l.dev,l.port,A8 l.cost]) q_ q_) (.lit (e:=Ac) (l:=[accessT,A8 l.vlan]) q_ q_) qc qd qd) ?_
  refine Bf 26 q_ ?_
  refine T ?_
  exact D
 ·have f0:((l.tagged.length:Int) == 0)=false:=by rw[beq_eq_false_iff_ne];omega
  rw[if_neg (fun e=>h0 (by rw[e];rfl))]
  by_cases hv:l.vlan=0
  ·have f1:(l.vlan == 0)=true:=beq_iff_eq.2 hv
   rw[if_pos hv]
   have q5:=Ci [Ac trunkT,Ac dash,Ac (Dh l.tagged)]
   refine T ?_
   refine C q1 F247 ?_
   refine C q2 F247 ?_
   refine Xe (Ad [(0,15)] q_ F248 q4 q_ W q_ V) ?_
   refine C q3 F253 ?_
   refine X (Ad [(0,36)] q_ F248 q5 q_ W q_ V) ?_
   refine X (Ai Γ.toTy 38 q_ q_ q_ q_ q_ (.lit (e:=Ac) (l:=[⟨#[112,111,114,116]⟩,l.dev,l.port,A8 l.cost]) q_ q_) (.lit (e:=Ac) (l:=[trunkT,dash,Dh l.tagged]) q_ q_) qc qd qd) ?_
   refine Bf 38 q_ ?_
   refine T ?_
   exact D
  ·have f1:(l.vlan == 0)=false:=beq_eq_false_iff_ne.2 hv
   rw[if_neg hv]
   have q5:=Ci [Ac trunkT,Ac (A8 l.vlan),Ac (Dh l.tagged)]
   refine T ?_
   refine C q1 F247 ?_
   refine C q2 F247 ?_
   refine Xe (Ad [(0,15)] q_ F248 q4 q_ W q_ V) ?_
   refine C q3 F253 ?_
   refine X (Ad [(0,36)] q_ F248 q5 q_ W q_ V) ?_
   refine X (Ai Γ.toTy 38 q_ q_ q_ q_ q_ (.lit (e:=Ac) (l:=[⟨#[112,111,114,116]⟩,l.dev,l.port,A8 l.cost]) q_ q_) (.lit (e:=Ac) (l:=[trunkT,A8 l.vlan,Dh l.tagged]) q_ q_) qc qd qd) ?_
   refine Bf 38 q_ ?_
   refine T ?_
   exact D
theorem S4 (l:LineM) (h:LineX l) (hr:Br l=true) (hk:l.kind=1):Sy.Spec Tryz.prog 194 [Ab l] [] (.sl 1 Ac (Ax l)) []:=cT F194 Tryz.ntmps194 fun F hF=>by
 have q0:=B4 l h.w
 have qv:=Aw l.vlan h.vlan
 have qn:=Aw l.num h.num
 have qa:Sy.Spec Tryz.prog 249 [Cy l.mac] [] (Ac (Ij l.mac)) []:=by
  have:=h.w.ok.mac
  obtain ⟨m,hm1⟩:∃ m:Nat,l.mac=m:=⟨l.mac.toNat,by omega⟩
  rw[hm1];exact U7 m j_
 have hwo:Ax l=[(⟨#[100,101,118,105,99,101]⟩:ByteArray),l.dev,A8 l.num,Ij l.mac]:=by
  simp only[Ax,hk]
  rfl
 rw[hwo]
 rw[hr]at q0
 have f1:(l.kind == 1)=true:=by rw[hk];rfl
 generalize A8 l.vlan=vv at *
 generalize A8 l.num=nn at *
 generalize Ij l.mac=mm at *
 have qo:=Ci [Ac (⟨#[100,101,118,105,99,101]⟩:ByteArray),Ac l.dev,Ac nn,Ac mm]
 refine T ?_
 refine C q0 F246 ?_
 refine C qv F247 ?_
 refine C qn F247 ?_
 refine C qa F249 ?_
 refine Xe (Ad [(0,24)] q_ F248 qo q_ W q_ V) ?_
 refine Ha 24 Ac [(⟨#[100,101,118,105,99,101]⟩:ByteArray),l.dev,nn,mm] q_ q_ ?_
 refine Bf 24 q_ ?_
 refine T ?_
 exact D
theorem S2 (l:LineM) (h:LineX l) (hr:Br l=true) (hk:l.kind=3):Sy.Spec Tryz.prog 194 [Ab l] [] (.sl 1 Ac (Ax l)) []:=cT F194 Tryz.ntmps194 fun F hF=>by
 have q0:=B4 l h.w
 have qv:=Aw l.vlan h.vlan
 have qn:=Aw l.num h.num
 have hwo:Ax l=[(⟨#[108,105,110,107]⟩:ByteArray),l.dev,l.port,l.peer,l.far]:=by
  simp only[Ax,hk]
  rfl
 rw[hwo]
 rw[hr]at q0
 have f1:(l.kind == 1)=false:=by rw[hk];rfl
 have f2:(l.kind == 2)=false:=by rw[hk];rfl
 have f3:(l.kind == 3)=true:=by rw[hk];rfl
 generalize A8 l.vlan=vv at *
 generalize A8 l.num=nn at *
 have qo:=Ci [Ac (⟨#[108,105,110,107]⟩:ByteArray),Ac l.dev,Ac l.port,Ac l.peer,Ac l.far]
 refine T ?_
 refine C q0 F246 ?_
 refine C qv F247 ?_
 refine C qn F247 ?_
 refine X (Ad [(0,40)] q_ F248 qo q_ W q_ V) ?_
 refine Ha 40 Ac [(⟨#[108,105,110,107]⟩:ByteArray),l.dev,l.port,l.peer,l.far] q_ q_ ?_
 refine Bf 40 q_ ?_
 refine T ?_
 exact D
theorem S1 (l:LineM) (h:LineX l) (hr:Br l=true) (hk:l.kind=4):Sy.Spec Tryz.prog 194 [Ab l] [] (.sl 1 Ac (Ax l)) []:=cT F194 Tryz.ntmps194 fun F hF=>by
 have q0:=B4 l h.w
 have qv:=Aw l.vlan h.vlan
 have qn:=Aw l.num h.num
 have qa:Sy.Spec Tryz.prog 249 [Cy l.mac] [] (Ac (Ij l.mac)) []:=by
  have:=h.w.ok.mac
  obtain ⟨m,hm1⟩:∃ m:Nat,l.mac=m:=⟨l.mac.toNat,by omega⟩
  rw[hm1];exact U7 m j_
 have hwo:Ax l=[(⟨#[115,116,97,116,105,99]⟩:ByteArray),l.dev,A8 l.vlan,Ij l.mac,l.port]:=by
  simp only[Ax,hk]
  rfl
 rw[hwo]
 rw[hr]at q0
 have f1:(l.kind == 1)=false:=by rw[hk];rfl
 have f2:(l.kind == 2)=false:=by rw[hk];rfl
 have f3:(l.kind == 3)=false:=by rw[hk];rfl
 have f4:(l.kind == 4)=true:=by rw[hk];rfl
 generalize A8 l.vlan=vv at *
 generalize A8 l.num=nn at *
 generalize Ij l.mac=mm at *
 have qo:=Ci [Ac (⟨#[115,116,97,116,105,99]⟩:ByteArray),Ac l.dev,Ac vv,Ac mm,Ac l.port]
 refine T ?_
 refine C q0 F246 ?_
 refine C qv F247 ?_
 refine C qn F247 ?_
 refine C qa F249 ?_
 refine Xe (Ad [(0,52)] q_ F248 qo q_ W q_ V) ?_
 refine Ha 52 Ac [(⟨#[115,116,97,116,105,99]⟩:ByteArray),l.dev,vv,mm,l.port] q_ q_ ?_
 refine Bf 52 q_ ?_
 refine T ?_
 exact D
theorem S0 (l:LineM) (h:LineX l) (hr:Br l=true) (hk:l.kind=5):Sy.Spec Tryz.prog 194 [Ab l] [] (.sl 1 Ac (Ax l)) []:=cT F194 Tryz.ntmps194 fun F hF=>by
 have q0:=B4 l h.w
 have qv:=Aw l.vlan h.vlan
 have qn:=Aw l.num h.num
 have qa:Sy.Spec Tryz.prog 251 [A1 l.addr] [] (Ac (C8 l.addr)) []:=by
  have:=h.w.ok.addr
  obtain ⟨m,hm1⟩:∃ m:Nat,l.addr=m:=⟨l.addr.toNat,by omega⟩
  rw[hm1];exact Ln m j_
 have hwo:Ax l=[(⟨#[118,116,101,112]⟩:ByteArray),l.dev,C8 l.addr]:=by
  simp only[Ax,hk]
  rfl
 rw[hwo]
 rw[hr]at q0
 have f1:(l.kind == 1)=false:=by rw[hk];rfl
 have f2:(l.kind == 2)=false:=by rw[hk];rfl
 have f3:(l.kind == 3)=false:=by rw[hk];rfl
 have f4:(l.kind == 4)=false:=by rw[hk];rfl
 have f5:(l.kind == 5)=true:=by rw[hk];rfl
 generalize A8 l.vlan=vv at *
 generalize A8 l.num=nn at *
 generalize C8 l.addr=aa at *
 have qo:=Ci [Ac (⟨#[118,116,101,112]⟩:ByteArray),Ac l.dev,Ac aa]
 refine T ?_
 refine C q0 F246 ?_
 refine C qv F247 ?_
 refine C qn F247 ?_
 refine C qa F251 ?_
 refine Xe (Ad [(0,61)] q_ F248 qo q_ W q_ V) ?_
 refine Ha 61 Ac [(⟨#[118,116,101,112]⟩:ByteArray),l.dev,aa] q_ q_ ?_
 refine Bf 61 q_ ?_
 refine T ?_
 exact D
theorem Sz (l:LineM) (h:LineX l) (hr:Br l=true) (hk:l.kind=6):Sy.Spec Tryz.prog 194 [Ab l] [] (.sl 1 Ac (Ax l)) []:=cT F194 Tryz.ntmps194 fun F hF=>by
 have q0:=B4 l h.w
 have qv:=Aw l.vlan h.vlan
 have qn:=Aw l.num h.num
 have hwo:Ax l=[(⟨#[118,110,105]⟩:ByteArray),l.dev,A8 l.vlan,A8 l.num]:=by
  simp only[Ax,hk]
  rfl
 rw[hwo]
 rw[hr]at q0
 have f1:(l.kind == 1)=false:=by rw[hk];rfl
 have f2:(l.kind == 2)=false:=by rw[hk];rfl
 have f3:(l.kind == 3)=false:=by rw[hk];rfl
 have f4:(l.kind == 4)=false:=by rw[hk];rfl
 have f5:(l.kind == 5)=false:=by rw[hk];rfl
 have f6:(l.kind == 6)=true:=by rw[hk];rfl
 generalize A8 l.vlan=vv at *
 generalize A8 l.num=nn at *
 have qo:=Ci [Ac (⟨#[118,110,105]⟩:ByteArray),Ac l.dev,Ac vv,Ac nn]
 refine T ?_
 refine C q0 F246 ?_
 refine C qv F247 ?_
 refine C qn F247 ?_
 refine X (Ad [(0,69)] q_ F248 qo q_ W q_ V) ?_
 refine Ha 69 Ac [(⟨#[118,110,105]⟩:ByteArray),l.dev,vv,nn] q_ q_ ?_
 refine Bf 69 q_ ?_
 refine T ?_
 exact D
theorem Sx (l:LineM) (h:LineX l) (hr:Br l=true) (hk:l.kind=7):Sy.Spec Tryz.prog 194 [Ab l] [] (.sl 1 Ac (Ax l)) []:=cT F194 Tryz.ntmps194 fun F hF=>by
 have q0:=B4 l h.w
 have qv:=Aw l.vlan h.vlan
 have qn:=Aw l.num h.num
 have qa:=Xy l.addrs h.w.fin.a h.w.ok.addrs
 have hwo:Ax l=[(⟨#[102,108,111,111,100]⟩:ByteArray),l.dev,A8 l.num,Hy l.addrs]:=by
  simp only[Ax,hk]
  rfl
 rw[hwo]
 rw[hr]at q0
 have f1:(l.kind == 1)=false:=by rw[hk];rfl
 have f2:(l.kind == 2)=false:=by rw[hk];rfl
 have f3:(l.kind == 3)=false:=by rw[hk];rfl
 have f4:(l.kind == 4)=false:=by rw[hk];rfl
 have f5:(l.kind == 5)=false:=by rw[hk];rfl
 have f6:(l.kind == 6)=false:=by rw[hk];rfl
 have f7:(l.kind == 7)=true:=by rw[hk];rfl
 generalize A8 l.vlan=vv at *
 generalize A8 l.num=nn at *
 generalize Hy l.addrs=ad at *
 have qo:=Ci [Ac (⟨#[102,108,111,111,100]⟩:ByteArray),Ac l.dev,Ac nn,Ac ad]
 refine T ?_
 refine C q0 F246 ?_
 refine C qv F247 ?_
 refine C qn F247 ?_
 refine C qa F252 ?_
 refine Xe (Ad [(0,79)] q_ F248 qo q_ W q_ V) ?_
 refine Ha 79 Ac [(⟨#[102,108,111,111,100]⟩:ByteArray),l.dev,nn,ad] q_ q_ ?_
 refine Bf 79 q_ ?_
 refine T ?_
 exact D
theorem Sw (l:LineM) (h:LineX l) (hr:Br l=true) (hk:l.kind=8):Sy.Spec Tryz.prog 194 [Ab l] [] (.sl 1 Ac (Ax l)) []:=cT F194 Tryz.ntmps194 fun F hF=>by
 have q0:=B4 l h.w
 have qv:=Aw l.vlan h.vlan
 have qn:=Aw l.num h.num
 have qa:=Jq l.imports h.w.fin.i h.imports
 have qb:=Jq l.exports h.w.fin.e h.exports
 have hwo:Ax l=[(⟨#[118,114,102]⟩:ByteArray),l.dev,l.name,Dh l.imports,Dh l.exports]:=by
  simp only[Ax,hk]
  rfl
 rw[hwo]
 rw[hr]at q0
 have f1:(l.kind == 1)=false:=by rw[hk];rfl
 have f2:(l.kind == 2)=false:=by rw[hk];rfl
 have f3:(l.kind == 3)=false:=by rw[hk];rfl
 have f4:(l.kind == 4)=false:=by rw[hk];rfl
 have f5:(l.kind == 5)=false:=by rw[hk];rfl
 have f6:(l.kind == 6)=false:=by rw[hk];rfl
 have f7:(l.kind == 7)=false:=by rw[hk];rfl
 have f8:(l.kind == 8)=true:=by rw[hk];rfl
 generalize A8 l.vlan=vv at *
 generalize A8 l.num=nn at *
 generalize Dh l.imports=si at *
 generalize Dh l.exports=se at *
 have qo:=Ci [Ac (⟨#[118,114,102]⟩:ByteArray),Ac l.dev,Ac l.name,Ac si,Ac se]
 refine T ?_
 refine C q0 F246 ?_
 refine C qv F247 ?_
 refine C qn F247 ?_
 refine C qa F253 ?_
 refine C qb F253 ?_
 refine Xe (Ad [(0,93)] q_ F248 qo q_ W q_ V) ?_
 refine Ha 93 Ac [(⟨#[118,114,102]⟩:ByteArray),l.dev,l.name,si,se] q_ q_ ?_
 refine Bf 93 q_ ?_
 refine T ?_
 exact D
theorem Sv (l:LineM) (h:LineX l) (hr:Br l=true) (hk:l.kind=9):Sy.Spec Tryz.prog 194 [Ab l] [] (.sl 1 Ac (Ax l)) []:=cT F194 Tryz.ntmps194 fun F hF=>by
 have q0:=B4 l h.w
 have qv:=Aw l.vlan h.vlan
 have qn:=Aw l.num h.num
 have hb9:1≤l.bits∧l.bits≤30:=by
  rw[Br,Bool.and_eq_true]at hr
  have hu:=hr.1
  have n1:∀ k:Int,k≠9→¬ l.kind=k:=fun k hk2 e=>hk2 (by rw[← e,hk])
  simp only[Az,if_neg (n1 1 qc),if_neg (n1 2 qc),if_neg (n1 3 qc),if_neg (n1 4 qc),if_neg (n1 5 qc),if_neg (n1 6 qc),if_neg (n1 7 qc),if_neg (n1 8 qc),if_pos hk,Bool.and_eq_true]at hu
  exact T3 hu.2.2
 have qa:Sy.Spec Tryz.prog 254 [Ds l.addr l.bits] [] (Ac (D5 l.addr l.bits)) []:=by
  have:=h.w.ok.addr
  obtain ⟨m,hm1⟩:∃ m:Nat,l.addr=m:=⟨l.addr.toNat,by omega⟩
  rw[hm1];exact Uj m l.bits j_ j_
 have hwo:Ax l=[(⟨#[105,114,98]⟩:ByteArray),l.dev,A8 l.vlan,l.name,D5 l.addr l.bits]:=by
  simp only[Ax,hk]
  rfl
 rw[hwo]
 rw[hr]at q0
 have f1:(l.kind == 1)=false:=by rw[hk];rfl
 have f2:(l.kind == 2)=false:=by rw[hk];rfl
 have f3:(l.kind == 3)=false:=by rw[hk];rfl
 have f4:(l.kind == 4)=false:=by rw[hk];rfl
 have f5:(l.kind == 5)=false:=by rw[hk];rfl
 have f6:(l.kind == 6)=false:=by rw[hk];rfl
 have f7:(l.kind == 7)=false:=by rw[hk];rfl
 have f8:(l.kind == 8)=false:=by rw[hk];rfl
 have f9:(l.kind == 9)=true:=by rw[hk];rfl
 generalize A8 l.vlan=vv at *
 generalize A8 l.num=nn at *
 generalize D5 l.addr l.bits=pp at *
 have qo:=Ci [Ac (⟨#[105,114,98]⟩:ByteArray),Ac l.dev,Ac vv,Ac l.name,Ac pp]
 refine T ?_
 refine C q0 F246 ?_
 refine C qv F247 ?_
 refine C qn F247 ?_
 refine C qa F254 ?_
 refine Xe (Ad [(0,106)] q_ F248 qo q_ W q_ V) ?_
 refine Ha 106 Ac [(⟨#[105,114,98]⟩:ByteArray),l.dev,vv,l.name,pp] q_ q_ ?_
 refine Bf 106 q_ ?_
 refine T ?_
 exact D
theorem S3 (l:LineM) (h:LineX l) (hr:Br l=true) (hk:l.kind=2):Sy.Spec Tryz.prog 194 [Ab l] [] (.sl 1 Ac (Ax l)) []:=cT F194 Tryz.ntmps194 fun F hF=>by
 have q0:=B4 l h.w
 have qv:=Aw l.vlan h.vlan
 have qn:=Aw l.num h.num
 have qp:=W6 l h
 have hwo:Ax l=Jp l:=by
  simp only[Ax,hk]
  rfl
 rw[hwo]
 rw[hr]at q0
 have f1:(l.kind == 1)=false:=by rw[hk];rfl
 have f2:(l.kind == 2)=true:=by rw[hk];rfl
 generalize Jp l=ws at *
 refine T ?_
 refine C q0 F246 ?_
 refine C qv F247 ?_
 refine C qn F247 ?_
 refine C qp F250 ?_
 exact D
theorem Oe {l:LineM} (hr:Br l=true):1≤l.kind∧l.kind≤9:=by
 rw[Br,Bool.and_eq_true]at hr
 have hu:=hr.1
 refine Classical.byContradiction fun hk=>?_
 have n1:¬ l.kind=1:=by omega
 have n2:¬ l.kind=2:=by omega
 have n3:¬ l.kind=3:=by omega
 have n4:¬ l.kind=4:=by omega
 have n5:¬ l.kind=5:=by omega
 have n6:¬ l.kind=6:=by omega
 have n7:¬ l.kind=7:=by omega
 have n8:¬ l.kind=8:=by omega
 have n9:¬ l.kind=9:=by omega
 simp only[Az,if_neg n1,if_neg n2,if_neg n3,if_neg n4,if_neg n5,if_neg n6,if_neg n7,if_neg n8,if_neg n9]at hu
 cases hu
def Cb (l:LineM):List ByteArray:=if Br l=true then Ax l else []
theorem Uk (l:LineM) (h:LineX l):Sy.Spec Tryz.prog 194 [Ab l] [] (.sl 1 Ac (Cb l)) []:=by
 cases hr:Br l with
 | true =>
  rw[Cb,if_pos hr]
  have hk:=Oe hr
  rcases (by omega:l.kind=1∨l.kind=2∨l.kind=3∨l.kind=4∨l.kind=5∨l.kind=6∨l.kind=7∨l.kind=8∨l.kind=9) with h9 | h9 | h9 | h9 | h9 | h9 | h9 | h9 | h9
  ·exact S4 l h hr h9
  ·exact S3 l h hr h9
  ·exact S2 l h hr h9
  ·exact S1 l h hr h9
  ·exact S0 l h hr h9
  ·exact Sz l h hr h9
  ·exact Sx l h hr h9
  ·exact Sw l h hr h9
  ·exact Sv l h hr h9
 | false =>
  rw[Cb,if_neg (by rw[hr];simp)]
  have q0:=B4 l h.w
  rw[hr]at q0
  refine He Γ hm 100 F194 Tryz.ntmps194 q_ fun F hF=>by
   refine T ?_
   refine C q0 F246 ?_
   refine Bw 2 1 Ac q_ ?_
   refine T ?_
   exact D
def Ec (e:Int) (l:List (Bool × Int)):Int:=l.foldl (fun e x=>Ae e x.1 x.2) e
theorem Ma:∀ (l:List (Bool × Int)) (e:Int),(∀ x∈l,x.2≠0)→Ec e l=if e=0 then Ar l else e
 | [],e,_=>by
  show e=_
  split
  ·rename_i h;rw[h];rfl
  ·rfl
 | (b,c)::l,e,h=>by
  have hc:=h (b,c) qd
  have ih:=Ma l (Ae e b c) (fun x hx=>h x (by simp[hx]))
  show Ec (Ae e b c) l=_
  rw[ih,Ar]
  dsimp only at hc
  by_cases he:e=0
  ·subst he
   cases b with
   | true=>simp[Ae,hc]
   | false=>simp[Ae]
  ·have:Ae e b c=e:=by rw[Ae,if_neg (fun x=>he x.2)]
   rw[this,if_neg he,if_neg he]
theorem Bi (l:List (Bool × Int)) (h:∀ x∈l,x.2≠0):Ar l=Ec 0 l:=by rw[Ma l 0 h,if_pos rfl]
theorem Iy (e:Int) (a b:List (Bool × Int)):Ec e (a++b)=Ec (Ec e a) b:=List.foldl_append
abbrev rlO (w:List ByteArray) (i:Nat) (e:Int) (l:LineM):Obs:=[(0,.box [.sl 1 Ac w,Aa i,Aa e]),(1,.box (Av l))]
def Aak (w:List ByteArray):Nat:=if wdT w 4=accessT then 6 else if wdT w 4=trunkT then 7 else 5
theorem L5 (most:Int) (s:ByteArray):(listR most s).1.length≤16:=by
 rw[listR]
 split
 ·simp
 ·rw[C3]
  cases h:C2 (fun p=>numR p 1 most) [] (A3 44 s) with
  | mk l b =>
   cases b with
   | true=>exact(Ox _ _ _ _ h List.Pairwise.nil qc).2.1
   | false =>
    have:∀ (ps:List ByteArray) (out r:List Int),C2 (fun p=>numR p 1 most) out ps=(r,false)→r=[]:=by
     intro ps
     induction ps with
     | nil=>intro out r h;rw[C2]at h;simp at h
     | cons p ps ih =>
      intro out r h
      rw[C2]at h
      split at h
      ·simp at h;exact h
      ·exact ih _ _ h
    rw[this _ _ _ h];simp
set_option maxRecDepth 100000 in
theorem Abz (w:List ByteArray) (e:Int) (l:LineM) (hw:w.length≤1000000) (hs:∀ s∈w,s.size≤40) (h4:4<w.length) (ha:wdT w 4=accessT→5<w.length) (htr:wdT w 4=trunkT→6<w.length) (hl0:l.vlan=0∧l.tagged=[]) :
  Sy.Spec Tryz.prog 186 [.ptr 0 0,.ptr 1 0] (rlO w 4 e l) (.tup []) (rlO w (Aak w) (Ec e ((Cw w).2.2++[(!(membersB (Cw w).1 (Cw w).2.1),21)])) { l with vlan:=(Cw w).1,tagged:=(Cw w).2.1 }):=cT F186 Tryz.ntmps186 fun F hF=>by
 obtain ⟨row,kind,dev,port,peer,far,name,mac,addr,bits,vlan,num,cost,tagged,imports,exports,addrs⟩:=l
 obtain ⟨g1,g2⟩:=hl0
 dsimp only at g1 g2
 subst g1 g2
 have q0:Sy.Spec Tryz.prog 188 [.ptr 0 0] (rdO w 4 e) (Ac (wdT w 4)) (rdO w 5 e):=E3 w 4 e h4 hw
 rw[Aak,Cw,Iy]
 by_cases c1:wdT w 4=accessT
 ·have b1:(wdT w 4 == (⟨#[97,99,99,101,115,115]⟩:ByteArray))=true:=Cf c1
  have q1:=Kh w 5 e (ha c1) hw
  rw[if_pos c1,if_pos c1]
  have q2:=Dq ⟨row,kind,dev,port,peer,far,name,mac,addr,bits,(Bg (wdT w 5)).1,num,cost,[],imports,exports,addrs⟩ (by simp[D0])
  dsimp only at q2 ⊢
  have hf1:Ec e [(!(Bg (wdT w 5)).2,21)]=Ae e (!(Bg (wdT w 5)).2) 21:=rfl
  rw[hf1]
  have q3:=fun b=>Dd w 6 (Ae e (!(Bg (wdT w 5)).2) 21) b 21
  generalize Ae e (!(Bg (wdT w 5)).2) 21=e1 at *
  generalize (Bg (wdT w 5)).1=v at *
  have hf2:Ec e1 [(!(membersB v []),21)]=Ae e1 (!(membersB v [])) 21:=rfl
  rw[hf2]
  have q3:=q3 (!(membersB v []))
  generalize Ae e1 (!(membersB v [])) 21=e2 at *
  generalize membersB v []=mb at *
  refine T ?_
  refine X (Ad [] q_ F188 q0 q_ W q_ V) ?_
  refine X (Ad [] q_ F182 q1 q_ W q_ V) ?_
  refine C q2 F239 ?_
  refine X (Ad [] q_ F185 q3 q_ W q_ V) ?_
  exact Bl q_ .nil [] (rlO w 6 e2 ⟨row,kind,dev,port,peer,far,name,mac,addr,bits,v,num,cost,[],imports,exports,addrs⟩) (fun _ h=>h) q_ q_ U
 ·have b1:(wdT w 4 == (⟨#[97,99,99,101,115,115]⟩:ByteArray))=false:=C7 c1
  rw[if_neg c1,if_neg c1]
  by_cases c2:wdT w 4=trunkT
  ·have b2:(wdT w 4 == (⟨#[116,114,117,110,107]⟩:ByteArray))=true:=Cf c2
   have h6:=htr c2
   have h5:((5:Nat):Int).toNat<w.length:=by show 5<w.length;omega
   have e5:w[((5:Nat):Int).toNat]'h5=wdT w 5:=(Bm j_).symm
   rw[if_pos c2,if_pos c2]
   by_cases c3:wdT w 5=dash
   ·have b3:(w[((5:Nat):Int).toNat]'h5 == (⟨#[45]⟩:ByteArray))=true:=Cf (by rw[e5];exact c3)
    rw[if_pos c3]
    have q1:=Mu w 6 e 4094 h6 hw hs
    have q2:=Dq ⟨row,kind,dev,port,peer,far,name,mac,addr,bits,0,num,cost,(listR 4094 (wdT w 6)).1,imports,exports,addrs⟩ (by have:=L5 4094 (wdT w 6);simp only[D0];omega)
    dsimp only at q2 ⊢
    have hf1:Ec e [(!(listR 4094 (wdT w 6)).2,21)]=Ae e (!(listR 4094 (wdT w 6)).2) 21:=rfl
    rw[hf1]
    have q3:=fun b=>Dd w 7 (Ae e (!(listR 4094 (wdT w 6)).2) 21) b 21
    generalize Ae e (!(listR 4094 (wdT w 6)).2) 21=e1 at *
    generalize (listR 4094 (wdT w 6)).1=v at *
    have hf2:Ec e1 [(!(membersB 0 v),21)]=Ae e1 (!(membersB 0 v)) 21:=rfl
    rw[hf2]
    have q3:=q3 (!(membersB 0 v))
    generalize Ae e1 (!(membersB 0 v)) 21=e2 at *
    generalize membersB 0 v=mb at *
    refine T ?_
    refine X (Ad [] q_ F188 q0 q_ W q_ V) ?_
    refine X (Ad [] q_ F191 q1 q_ W q_ V) ?_
    refine C q2 F239 ?_
    refine X (Ad [] q_ F185 q3 q_ W q_ V) ?_
    exact Bl q_ .nil [] (rlO w 7 e2 ⟨row,kind,dev,port,peer,far,name,mac,addr,bits,0,num,cost,v,imports,exports,addrs⟩) (fun _ h=>h) q_ q_ U
   ·have b3:(w[((5:Nat):Int).toNat]'h5 == (⟨#[45]⟩:ByteArray))=false:=C7 (by rw[e5];exact c3)
    rw[if_neg c3]
    have q4:=Kh w 5 e j_ hw
    have hf1:Ec e [(!(Bg (wdT w 5)).2,21),(!(listR 4094 (wdT w 6)).2,21)]=Ae (Ae e (!(Bg (wdT w 5)).2) 21) (!(listR 4094 (wdT w 6)).2) 21:=rfl
    dsimp only
    rw[hf1]
    generalize Ae e (!(Bg (wdT w 5)).2) 21=e0 at *
    have q1:=Mu w 6 e0 4094 h6 hw hs
    have q2:=Dq ⟨row,kind,dev,port,peer,far,name,mac,addr,bits,(Bg (wdT w 5)).1,num,cost,(listR 4094 (wdT w 6)).1,imports,exports,addrs⟩ (by have:=L5 4094 (wdT w 6);simp only[D0];omega)
    dsimp only at q2
    have q3:=fun b=>Dd w 7 (Ae e0 (!(listR 4094 (wdT w 6)).2) 21) b 21
    generalize Ae e0 (!(listR 4094 (wdT w 6)).2) 21=e1 at *
    generalize (listR 4094 (wdT w 6)).1=v at *
    generalize (Bg (wdT w 5)).1=u at *
    have hf2:Ec e1 [(!(membersB u v),21)]=Ae e1 (!(membersB u v)) 21:=rfl
    rw[hf2]
    have q3:=q3 (!(membersB u v))
    generalize Ae e1 (!(membersB u v)) 21=e2 at *
    generalize membersB u v=mb at *
    refine T ?_
    refine X (Ad [] q_ F188 q0 q_ W q_ V) ?_
    refine X (Ad [] q_ F182 q4 q_ W q_ V) ?_
    refine X (Ad [] q_ F191 q1 q_ W q_ V) ?_
    refine C q2 F239 ?_
    refine X (Ad [] q_ F185 q3 q_ W q_ V) ?_
    exact Bl q_ .nil [] (rlO w 7 e2 ⟨row,kind,dev,port,peer,far,name,mac,addr,bits,u,num,cost,v,imports,exports,addrs⟩) (fun _ h=>h) q_ q_ U
  ·have b2:(wdT w 4 == (⟨#[116,114,117,110,107]⟩:ByteArray))=false:=C7 c2
   rw[if_neg c2,if_neg c2]
   have q2:=Dq ⟨row,kind,dev,port,peer,far,name,mac,addr,bits,0,num,cost,[],imports,exports,addrs⟩ (by simp[D0])
   dsimp only at q2 ⊢
   have hf2:Ec (Ec e []) [(!(membersB 0 []),21)]=Ae e (!(membersB 0 [])) 21:=rfl
   rw[hf2]
   have q3:=Dd w 5 e (!(membersB 0 [])) 21
   generalize Ae e (!(membersB 0 [])) 21=e2 at *
   generalize membersB 0 []=mb at *
   refine T ?_
   refine X (Ad [] q_ F188 q0 q_ W q_ V) ?_
   refine C q2 F239 ?_
   refine X (Ad [] q_ F185 q3 q_ W q_ V) ?_
   exact Bl q_ .nil [] (rlO w 5 e2 ⟨row,kind,dev,port,peer,far,name,mac,addr,bits,0,num,cost,[],imports,exports,addrs⟩) (fun _ h=>h) q_ q_ U
end Go.Sy.YtgblchnfjbkipaaGreatDoor
