/-
  E19 E33 E34 BF2 EP1 I23 I24 I62 I25 NB0 NB1 NB2 NB3 NB4 I26 NB5 NB6 NB7 NB8 NB9 NB10: parts of a proof, joined by program.
-/
import Derived.Test.YtjenpnjajjplkaaGreatDoorXM5
import Derived.Test.YtjenpnjajjplkaaGreatDoorXM6
import Derived.Test.YtjenpnjajjplkaaGreatDoorXM4
import Derived.Test.YtjenpnjajjplkaaGreatDoorXM2
set_option linter.all false
set_option linter.unusedVariables false
set_option linter.unusedSimpArgs false
set_option linter.deprecated false
namespace Go.Sy.YtjenpnjajjplkaaGreatDoor
open Go.Proofs
attribute [local irreducible] Go.Sy.G Go.Sy.DR
set_option maxRecDepth 20000
set_option maxHeartbeats 4000000
theorem Wy {n:Net} {s:ByteArray}:Bo n s<n.ports.length∧-1≤Bo n s:=⟨Ot _ _,Ai7 _ _⟩
theorem M4 (c:UInt8) {s:ByteArray} (h:s.size<100000):Ag (An c s):=by
 unfold Ag
 rw[Ds]
 have:Ha c s≤s.size:=List.count_le_length
 omega
theorem Th {c:UInt8} {s x:ByteArray} (hx:x∈An c s):x.size≤s.size:=by
 have hl:s.data.toList.length=s.size:=rfl
 rw[An,List.mem_append]at hx
 rcases hx with hx | hx
 ·obtain ⟨j,_,rfl⟩:=List.mem_map.1 hx
  rw[Df,D6,List.length_take]
  have:=Kh c s.data.toList j
  omega
 ·rw[List.mem_singleton]at hx
  subst hx
  rw[Df]
  have:=Kh c s.data.toList (s.data.toList.count c)
  omega
theorem O1 (n:Net) (rd:ByteArray→Int × Bool) (l:List ByteArray) (s:Bool × Int × Bool) (h:s.1=false):goR n rd l s=s:=by
 cases l with
 | nil=>rfl
 | cons x l=>rw[goR,if_neg (by simp[h])]
theorem Adl (n:Net) (rd:ByteArray→Int × Bool):∀ (l m:List ByteArray) (s:Bool × Int × Bool),goR n rd (l++m) s=goR n rd m (goR n rd l s)
 | [],m,s=>rfl
 | x::l,m,s=>by
  by_cases hs:s.1=true
  ·rw[List.cons_append,goR,if_pos hs,goR,if_pos hs,Adl n rd l m]
  ·have hs':s.1=false:=by simpa using hs
   rw[O1 _ _ _ _ hs',O1 _ _ (x::l) _ hs',O1 _ _ _ _ hs']
theorem Ahl {n:Net} {rd:ByteArray→Int × Bool} {l:List ByteArray} {j:Nat} {s:Bool × Int × Bool} (h:(goR n rd (l.take j) s).1=false):(goR n rd l s).1=false:=by
 have e:l=l.take j++l.drop j:=(List.take_append_drop j l).symm
 rw[e,Adl,O1 _ _ _ _ h]
 exact h
theorem Ye (n:Net) (hn:n.Fin) (hnm:Hc n) (rows:List ByteArray) (hr:Ag rows) (hsz:∀ x∈rows,x.size<100000) (rd:ByteArray→Int × Bool)
  (hrd:∀ s:ByteArray,s.size<100000→Sy.Spec Tryz.prog 237 [Ak s] [] (.tup [A5 (rd s).1,Ab (rd s).2]) []) :
  Sy.Spec Tryz.prog 29 [Ae n,.sl 1 Ak rows] [] (.tup [Aa (checkR n rd rows).1,Aa (checkR n rd rows).2.1,Ab (checkR n rd rows).2.2]) []:=cT F29 Tryz.ntmps29 fun F hF=>by
 have hlk:=checkR.eq_1 n rd rows
 generalize checkR n rd rows=res at *
 have hrt:=Aw n hn
 unfold Ag at hr
 ((conv=>whnf);repeat((first|refine aF ?_|refine aT ?_);(first|refine rG Γ hm ?_|refine rD Γ hm z_ ?_);conv=>whnf))
 refine⟨fun h=>?_,fun h=>?_⟩
 ·have h1:¬ 2≤rows.length:=qA h
  rw[if_neg (fun e=>h1 e.1)]at hlk
  subst hlk
  ((first|refine rG Γ hm ?_|refine rD Γ hm z_ ?_);(conv=>whnf);repeat((first|refine aF ?_|refine aT ?_);(first|refine rG Γ hm ?_|refine rD Γ hm z_ ?_);conv=>whnf))
  exact dN
 have h1:2≤rows.length:=qB h
 refine A1 2 8 (Ae n) E E E ?_
 ((first|refine rG Γ hm ?_|refine rD Γ hm z_ ?_);(conv=>whnf);repeat((first|refine aF ?_|refine aT ?_);(first|refine rG Γ hm ?_|refine rD Γ hm z_ ?_);conv=>whnf))
 refine c0 hrt F25 ?_
 cases hb:Ac n
 ·rw[if_neg (fun e=>by rw[hb]at e;cases e.2.1)]at hlk
  subst hlk
  ((first|refine rG Γ hm ?_|refine rD Γ hm z_ ?_);(conv=>whnf);repeat((first|refine aF ?_|refine aT ?_);(first|refine rG Γ hm ?_|refine rD Γ hm z_ ?_);conv=>whnf))
  exact dN
 obtain ⟨k,hk⟩:∃ k:Nat,rows.length=k+2:=⟨rows.length-2,by omega⟩
 have hk0:(0:Int).toNat<rows.length:=by simp;omega
 have hkl:((rows.length:Int)-1).toNat<rows.length:=by omega
 have el:nth rows ((rows.length-1:Nat):Int)=rows[((rows.length:Int)-1).toNat]'hkl:=by
  have e:((rows.length-1:Nat):Int)=(rows.length:Int)-1:=by omega
  rw[e,Ad hkl]
 rw[Ad hk0,el]at hlk
 have hs0:=hsz _ (List.getElem_mem hk0)
 have hsl:=hsz _ (List.getElem_mem hkl)
 have q0:=Abj _ 32 hs0
 have ql:=Abj _ 32 hsl
 have hf0:=Ds 32 (rows[(0:Int).toNat]'hk0)
 have hfl:=Ds 32 (rows[((rows.length:Int)-1).toNat]'hkl)
 have hw0:=M4 32 hs0
 have hwl:=M4 32 hsl
 obtain ⟨r0,hr0⟩:∃ x,rows[(0:Int).toNat]'hk0=x:=⟨_,rfl⟩
 obtain ⟨rl,hrl⟩:∃ x,rows[((rows.length:Int)-1).toNat]'hkl=x:=⟨_,rfl⟩
 rw[hr0]at hlk hs0 q0 hf0 hw0
 rw[hrl]at hlk hsl ql hfl hwl
 generalize An 32 r0=f at *
 generalize An 32 rl=l at *
 generalize hmid:(rows.take (rows.length-1)).drop 1=mid at *
 ((first|refine rG Γ hm ?_|refine rD Γ hm z_ ?_);(conv=>whnf);repeat((first|refine aF ?_|refine aT ?_);(first|refine rG Γ hm ?_|refine rD Γ hm z_ ?_);conv=>whnf))
 refine⟨E,by decide,hk0,?_⟩
 ((conv=>whnf);repeat((first|refine aF ?_|refine aT ?_);(first|refine rG Γ hm ?_|refine rD Γ hm z_ ?_);conv=>whnf))
 refine cD (hr0 ▸ q0) F92 ?_
 ((first|refine rG Γ hm ?_|refine rD Γ hm z_ ?_);(conv=>whnf);repeat((first|refine aF ?_|refine aT ?_);(first|refine rG Γ hm ?_|refine rD Γ hm z_ ?_);conv=>whnf))
 refine iL ?_
 ((conv=>whnf);repeat((first|refine aF ?_|refine aT ?_);(first|refine rG Γ hm ?_|refine rD Γ hm z_ ?_);conv=>whnf))
 refine⟨E,by omega,hkl,?_⟩
 ((conv=>whnf);repeat((first|refine aF ?_|refine aT ?_);(first|refine rG Γ hm ?_|refine rD Γ hm z_ ?_);conv=>whnf))
 refine cD (hrl ▸ ql) F92 ?_
 ((first|refine rG Γ hm ?_|refine rD Γ hm z_ ?_);(conv=>whnf);repeat((first|refine aF ?_|refine aT ?_);(first|refine rG Γ hm ?_|refine rD Γ hm z_ ?_);conv=>whnf))
 refine⟨z_,?_⟩
 ((conv=>whnf);repeat((first|refine aF ?_|refine aT ?_);(first|refine rG Γ hm ?_|refine rD Γ hm z_ ?_);conv=>whnf))
 refine⟨fun h=>?_,fun h=>?_⟩
 ·have h2:f.length≠3:=by
   intro e
   rw[e]at h
   exact absurd h j_
  rw[if_neg (fun e=>by have:=e.2.2.1;simp[Ie,h2]at this)]at hlk
  subst hlk
  ((first|refine rG Γ hm ?_|refine rD Γ hm z_ ?_);(conv=>whnf);repeat((first|refine aF ?_|refine aT ?_);(first|refine rG Γ hm ?_|refine rD Γ hm z_ ?_);conv=>whnf))
  exact dN
 have h2:f.length=3:=by
  have:=h
  simp at this
  omega
 obtain ⟨f0,f1,f2,rfl⟩:∃ f0 f1 f2,f=[f0,f1,f2]:=by
  match f,h2 with
  | [a,b,c],_=>exact⟨a,b,c,rfl⟩
 have e0:nth [f0,f1,f2] 0=f0:=rfl
 have e1:nth [f0,f1,f2] 1=f1:=rfl
 have e2:nth [f0,f1,f2] 2=f2:=rfl
 rw[e1,e2]at hlk
 ((first|refine rG Γ hm ?_|refine rD Γ hm z_ ?_);(conv=>whnf);repeat((first|refine aF ?_|refine aT ?_);(first|refine rG Γ hm ?_|refine rD Γ hm z_ ?_);conv=>whnf))
 refine⟨E,by decide,by simp,?_⟩
 ((conv=>whnf);repeat((first|refine aF ?_|refine aT ?_);(first|refine rG Γ hm ?_|refine rD Γ hm z_ ?_);conv=>whnf))
 refine⟨fun h=>?_,fun h=>?_⟩
 ·have h3:(f0 == tFrom)=false:=by simpa using h
  rw[if_neg (fun e=>by have:=e.2.2.1;simp[Ie,e0,h3]at this)]at hlk
  subst hlk
  ((first|refine rG Γ hm ?_|refine rD Γ hm z_ ?_);(conv=>whnf);repeat((first|refine aF ?_|refine aT ?_);(first|refine rG Γ hm ?_|refine rD Γ hm z_ ?_);conv=>whnf))
  exact dN
 have h3:(f0 == tFrom)=true:=by simpa using h
 ((first|refine rG Γ hm ?_|refine rD Γ hm z_ ?_);(conv=>whnf);repeat((first|refine aF ?_|refine aT ?_);(first|refine rG Γ hm ?_|refine rD Γ hm z_ ?_);conv=>whnf))
 refine⟨fun h=>?_,fun h=>?_⟩
 ·have h4:l.length≠2:=by
   intro e
   rw[e]at h
   exact absurd h j_
  rw[if_neg (fun e=>by have:=e.2.2.1;simp[Ie,h4]at this)]at hlk
  subst hlk
  ((first|refine rG Γ hm ?_|refine rD Γ hm z_ ?_);(conv=>whnf);repeat((first|refine aF ?_|refine aT ?_);(first|refine rG Γ hm ?_|refine rD Γ hm z_ ?_);conv=>whnf))
  exact dN
 have h4:l.length=2:=by
  have:=h
  simp at this
  omega
 obtain ⟨l0,l1,rfl⟩:∃ l0 l1,l=[l0,l1]:=by
  match l,h4 with
  | [a,b],_=>exact⟨a,b,rfl⟩
 have g0:nth [l0,l1] 0=l0:=rfl
 have g1:nth [l0,l1] 1=l1:=rfl
 rw[g1]at hlk
 ((first|refine rG Γ hm ?_|refine rD Γ hm z_ ?_);(conv=>whnf);repeat((first|refine aF ?_|refine aT ?_);(first|refine rG Γ hm ?_|refine rD Γ hm z_ ?_);conv=>whnf))
 refine⟨E,by decide,by simp,?_⟩
 ((conv=>whnf);repeat((first|refine aF ?_|refine aT ?_);(first|refine rG Γ hm ?_|refine rD Γ hm z_ ?_);conv=>whnf))
 refine⟨fun h=>?_,fun h=>?_⟩
 ·have h5:(l0 == tTo)=false:=by simpa using h
  rw[if_neg (fun e=>by have:=e.2.2.1;simp[Ie,g0,h5]at this)]at hlk
  subst hlk
  ((first|refine rG Γ hm ?_|refine rD Γ hm z_ ?_);(conv=>whnf);repeat((first|refine aF ?_|refine aT ?_);(first|refine rG Γ hm ?_|refine rD Γ hm z_ ?_);conv=>whnf))
  exact dN
 have h5:(l0 == tTo)=true:=by simpa using h
 have hbg:Ie n [f0,f1,f2] [l0,l1]=(I7 n (Bo n f1) && I7 n (Bo n l1) && decide (0≤Al n f2) && !(Bo n f1 == Bo n l1) && inB (Ao n (Al n f2)) (Bo n f1)):=by
  rw[Ie,e0,e1,e2,g0,g1,h3,h5]
  simp
 rw[hbg]at hlk
 clear hbg
 have p1:=Hv n hn hnm hb 0 false f1
 have p2:=Hv n hn hnm hb 0 false l1
 have p3:=Ef n hn hnm 0 false f2
 have hp1:=Wy (n:=n) (s:=f1)
 have hp2:=Wy (n:=n) (s:=l1)
 have hin0:¬ Al n f2<0→Et n (Al n f2):=fun h=>Il h
 generalize Bo n f1=from_ at *
 generalize Bo n l1=to at *
 generalize Al n f2=at0 at *
 have p4:=Qc n at0 false from_ q_
 have p5:=Qc n at0 false to q_
 have p6:=Id n hn at0 false from_ at0
 ((first|refine rG Γ hm ?_|refine rD Γ hm z_ ?_);(conv=>whnf);repeat((first|refine aF ?_|refine aT ?_);(first|refine rG Γ hm ?_|refine rD Γ hm z_ ?_);conv=>whnf))
 refine⟨E,by decide,by simp,?_⟩
 ((conv=>whnf);repeat((first|refine aF ?_|refine aT ?_);(first|refine rG Γ hm ?_|refine rD Γ hm z_ ?_);conv=>whnf))
 refine Hi [22] p1 F93 E (.cons (.box E E E E) (.cons (.refl _) .nil)) E z_ E ?_
 ((first|refine rG Γ hm ?_|refine rD Γ hm z_ ?_);(conv=>whnf);repeat((first|refine aF ?_|refine aT ?_);(first|refine rG Γ hm ?_|refine rD Γ hm z_ ?_);conv=>whnf))
 refine⟨E,by decide,by simp,?_⟩
 ((conv=>whnf);repeat((first|refine aF ?_|refine aT ?_);(first|refine rG Γ hm ?_|refine rD Γ hm z_ ?_);conv=>whnf))
 refine Hi [22] p2 F93 E (.cons (.box E E E E) (.cons (.refl _) .nil)) E z_ E ?_
 ((first|refine rG Γ hm ?_|refine rD Γ hm z_ ?_);(conv=>whnf);repeat((first|refine aF ?_|refine aT ?_);(first|refine rG Γ hm ?_|refine rD Γ hm z_ ?_);conv=>whnf))
 refine⟨E,by decide,by simp,?_⟩
 ((conv=>whnf);repeat((first|refine aF ?_|refine aT ?_);(first|refine rG Γ hm ?_|refine rD Γ hm z_ ?_);conv=>whnf))
 refine Hi [22] p3 F94 E (.cons (.box E E E E) (.cons (.refl _) .nil)) E z_ E ?_
 ((first|refine rG Γ hm ?_|refine rD Γ hm z_ ?_);(conv=>whnf);repeat((first|refine aF ?_|refine aT ?_);(first|refine rG Γ hm ?_|refine rD Γ hm z_ ?_);conv=>whnf))
 refine⟨z_,?_⟩
 ((conv=>whnf);repeat((first|refine aF ?_|refine aT ?_);(first|refine rG Γ hm ?_|refine rD Γ hm z_ ?_);conv=>whnf))
 refine Mh [22] p4 F95 E (.cons (.box E E E E) (.cons (.refl _) .nil)) E E E ?_
 generalize I7 n from_=b1 at *
 cases b1
 ·skip
  rw[if_neg (fun e=>by have:=e.2.2.1;simp[]at this)]at hlk
  subst hlk
  ((first|refine rG Γ hm ?_|refine rD Γ hm z_ ?_);(conv=>whnf);repeat((first|refine aF ?_|refine aT ?_);(first|refine rG Γ hm ?_|refine rD Γ hm z_ ?_);conv=>whnf))
  exact dN
 ((first|refine rG Γ hm ?_|refine rD Γ hm z_ ?_);(conv=>whnf);repeat((first|refine aF ?_|refine aT ?_);(first|refine rG Γ hm ?_|refine rD Γ hm z_ ?_);conv=>whnf))
 refine Mh [22] p5 F95 E (.cons (.box E E E E) (.cons (.refl _) .nil)) E E E ?_
 generalize I7 n to=b2 at *
 cases b2
 ·skip
  rw[if_neg (fun e=>by have:=e.2.2.1;simp[]at this)]at hlk
  subst hlk
  ((first|refine rG Γ hm ?_|refine rD Γ hm z_ ?_);(conv=>whnf);repeat((first|refine aF ?_|refine aT ?_);(first|refine rG Γ hm ?_|refine rD Γ hm z_ ?_);conv=>whnf))
  exact dN
 ((first|refine rG Γ hm ?_|refine rD Γ hm z_ ?_);(conv=>whnf);repeat((first|refine aF ?_|refine aT ?_);(first|refine rG Γ hm ?_|refine rD Γ hm z_ ?_);conv=>whnf))
 refine⟨fun h=>?_,fun h=>?_⟩
 ·have h6:¬ 0≤at0:=qA h
  rw[if_neg (fun e=>by have:=e.2.2.1;simp[h6]at this)]at hlk
  subst hlk
  ((first|refine rG Γ hm ?_|refine rD Γ hm z_ ?_);(conv=>whnf);repeat((first|refine aF ?_|refine aT ?_);(first|refine rG Γ hm ?_|refine rD Γ hm z_ ?_);conv=>whnf))
  exact dN
 have h6:¬ at0<0:=of_decide_eq_false h
 have hin:=hin0 h6
 ((first|refine rG Γ hm ?_|refine rD Γ hm z_ ?_);(conv=>whnf);repeat((first|refine aF ?_|refine aT ?_);(first|refine rG Γ hm ?_|refine rD Γ hm z_ ?_);conv=>whnf))
 refine⟨fun h=>?_,fun h=>?_⟩
 ·have h7:(from_ == to)=true:=h
  rw[if_neg (fun e=>by have:=e.2.2.1;simp[h7]at this)]at hlk
  subst hlk
  ((first|refine rG Γ hm ?_|refine rD Γ hm z_ ?_);(conv=>whnf);repeat((first|refine aF ?_|refine aT ?_);(first|refine rG Γ hm ?_|refine rD Γ hm z_ ?_);conv=>whnf))
  exact dN
 have h7:(from_ == to)=false:=h
 ((first|refine rG Γ hm ?_|refine rD Γ hm z_ ?_);(conv=>whnf);repeat((first|refine aF ?_|refine aT ?_);(first|refine rG Γ hm ?_|refine rD Γ hm z_ ?_);conv=>whnf))
 refine Mh [22] p6 F96 E (.cons (.box E E E E) (.cons (.refl _) (.cons (.refl _) .nil))) E E E ?_
 generalize inB (Ao n at0) from_=b3 at *
 cases b3
 ·skip
  rw[if_neg (fun e=>by have:=e.2.2.1;simp[]at this)]at hlk
  subst hlk
  ((first|refine rG Γ hm ?_|refine rD Γ hm z_ ?_);(conv=>whnf);repeat((first|refine aF ?_|refine aT ?_);(first|refine rG Γ hm ?_|refine rD Γ hm z_ ?_);conv=>whnf))
  exact dN
 have hbg:(true && true && decide (0≤at0) && !(from_ == to) && true)=true:=by rw[h7];simp;omega
 simp only[hbg,hb,true_and,h1]at hlk
 ((first|refine rG Γ hm ?_|refine rD Γ hm z_ ?_);(conv=>whnf);repeat((first|refine aF ?_|refine aT ?_);(first|refine rG Γ hm ?_|refine rD Γ hm z_ ?_);conv=>whnf))
 refine iL ?_
 ((conv=>whnf);repeat((first|refine aF ?_|refine aT ?_);(first|refine rG Γ hm ?_|refine rD Γ hm z_ ?_);conv=>whnf))
 refine A2 (Mc (lo:=1) (hi:=rows.length-1) Γ.toTy E E E E (.inr ⟨_,_,E,E⟩) (.inr ⟨_,_,E,congrArg (fun z=>SV.val (.int .i64 z)) q_⟩) q_ q_) E E ?_
 rw[hmid]
 ((first|refine rG Γ hm ?_|refine rD Γ hm z_ ?_);(conv=>whnf);repeat((first|refine aF ?_|refine aT ?_);(first|refine rG Γ hm ?_|refine rD Γ hm z_ ?_);conv=>whnf))
 have hS0:goR n rd (mid.take 0) (true,at0,false)=(true,at0,false):=rfl
 have hsc:∀ (j:Nat) (hj:j<mid.length),(goR n rd (mid.take j) (true,at0,false)).1=true →
   goR n rd (mid.take (j+1)) (true,at0,false)=stepR n (goR n rd (mid.take j) (true,at0,false)).2.1 (goR n rd (mid.take j) (true,at0,false)).2.2 rd (An 32 (mid[j]'hj)):=fun j hj h=>by
  rw[List.take_add_one,List.getElem?_eq_getElem hj]
  exact O2 n rd _ _ _ h
 have hS1:∀ j,Et n (goR n rd (mid.take j) (true,at0,false)).2.1:=fun j=>Ahk n rd _ _ hin
 have hSe:goR n rd (mid.take mid.length) (true,at0,false)=goR n rd mid (true,at0,false):=by rw[List.take_length]
 have hSf:∀ j,(goR n rd (mid.take j) (true,at0,false)).1=false→(goR n rd mid (true,at0,false)).1=false:=fun j h=>Ahl h
 have hml:mid.length≤rows.length:=by rw[← hmid];simp;omega
 have hmem:∀ x∈mid,x∈rows:=fun x hx=>by
  rw[← hmid]at hx
  exact List.mem_of_mem_take (List.mem_of_mem_drop hx)
 have hmsz:∀ (j:Nat) (hj:j<mid.length),(mid[j]'hj).size<100000:=fun j hj=>by
  refine hsz _ (hmem _ (List.getElem_mem hj))
 generalize goR n rd mid (true,at0,false)=Z at *
 generalize (fun j=>goR n rd (mid.take j) (true,at0,false))=S at *
 refine Az mid.length (fun j=>(goR n rd (mid.take j) (true,at0,false)).1=true) (fun j=>[(4,Aa from_),(5,Aa to),(7,.ptr 22 0),(108,.sl 1 Ak mid),(109,Aa mid.length),(110,Aa j)]) (fun j=>[(22,.box (Di n (goR n rd (mid.take j) (true,at0,false)).2.1 (goR n rd (mid.take j) (true,at0,false)).2.2))]) [] E
  ⟨⟨rfl,rfl,rfl,rfl,rfl,rfl,rfl,rfl,rfl,rfl,rfl,rfl,trivial⟩,⟨.inl rfl,rfl,trivial⟩,rfl,rfl⟩ ?_
 intro j hj hI
 have hsj:=hsc j
 have hij:=hS1 j
 have hfj:=hSf (j+1)
 generalize hSj:goR n rd (mid.take j) (true,at0,false)=Sj at *
 generalize hSk:goR n rd (mid.take (j+1)) (true,at0,false)=Sk at *
 obtain ⟨_,aj,bj⟩:=Sj
 dsimp only at hI hij hsj ⊢
 subst hI
 ((first|refine rG Γ hm ?_|refine rD Γ hm z_ ?_);(conv=>whnf);repeat((first|refine aF ?_|refine aT ?_);(first|refine rG Γ hm ?_|refine rD Γ hm z_ ?_);conv=>whnf))
 refine⟨fun h=>?_,fun h=>?_⟩
 ·have hlt:j<mid.length:=by simpa using h
  have hsk:=hsj hlt rfl
  have hm0:((j:Nat):Int).toNat<mid.length:=by simpa using hlt
  have q:=Yb n hn hnm hb aj bj (mid[j]'hlt) rd (hmsz j hlt) hij (fun s hs=>hrd s (Nat.lt_of_le_of_lt (Th hs) (hmsz j hlt)))
  rw[← hsk]at q
  ((first|refine rG Γ hm ?_|refine rD Γ hm z_ ?_);(conv=>whnf);repeat((first|refine aF ?_|refine aT ?_);(first|refine rG Γ hm ?_|refine rD Γ hm z_ ?_);conv=>whnf))
  refine⟨E,by omega,hm0,?_⟩
  ((conv=>whnf);repeat((first|refine aF ?_|refine aT ?_);(first|refine rG Γ hm ?_|refine rD Γ hm z_ ?_);conv=>whnf))
  refine A2 (Aj [(0,22)] E F97 q E ⟨E,Y⟩ E ⟨.inl E,Y⟩) E E ?_
  obtain ⟨bk,ak,ck⟩:=Sk
  cases bk
  ·have:=hfj rfl
   rw[if_neg (fun e=>by rw[this]at e;cases e.1)]at hlk
   subst hlk
   ((first|refine rG Γ hm ?_|refine rD Γ hm z_ ?_);(conv=>whnf);repeat((first|refine aF ?_|refine aT ?_);(first|refine rG Γ hm ?_|refine rD Γ hm z_ ?_);conv=>whnf))
   exact dN
  ((first|refine rG Γ hm ?_|refine rD Γ hm z_ ?_);(conv=>whnf);repeat((first|refine aF ?_|refine aT ?_);(first|refine rG Γ hm ?_|refine rD Γ hm z_ ?_);conv=>whnf))
  refine iL ?_
  ((conv=>whnf);repeat((first|refine aF ?_|refine aT ?_);(first|refine rG Γ hm ?_|refine rD Γ hm z_ ?_);conv=>whnf))
  refine Ay [] (by rw[hSj]) hlt (by rw[hSk]) ⟨⟨E,E,E,E,E,E,E,E,E,E,E,E,Y⟩,⟨.inl (by rw[hSk];rfl),E,Y⟩,E,E⟩
 ·have:j=mid.length:=qB h
  subst this
  have hz:=hSe.symm.trans hSj
  subst hz
  have p7:=Id n hn aj bj to aj
  generalize inB (Ao n aj) to=b4 at *
  ((first|refine rG Γ hm ?_|refine rD Γ hm z_ ?_);(conv=>whnf);repeat((first|refine aF ?_|refine aT ?_);(first|refine rG Γ hm ?_|refine rD Γ hm z_ ?_);conv=>whnf))
  refine Mh [22] p7 F96 E (.cons (.box E E E E) (.cons (.refl _) (.cons (.refl _) .nil))) E E E ?_
  cases b4
  ·rw[if_neg (fun e=>by cases e.2)]at hlk
   subst hlk
   ((first|refine rG Γ hm ?_|refine rD Γ hm z_ ?_);(conv=>whnf);repeat((first|refine aF ?_|refine aT ?_);(first|refine rG Γ hm ?_|refine rD Γ hm z_ ?_);conv=>whnf))
   exact dN
  ·rw[if_pos ⟨rfl,rfl⟩]at hlk
   subst hlk
   ((first|refine rG Γ hm ?_|refine rD Γ hm z_ ?_);(conv=>whnf);repeat((first|refine aF ?_|refine aT ?_);(first|refine rG Γ hm ?_|refine rD Γ hm z_ ?_);conv=>whnf))
   exact dN
end Go.Sy.YtjenpnjajjplkaaGreatDoor
namespace Go.Sy.YtjenpnjajjplkaaGreatDoor
open Go.Proofs
def netW:Net:=⟨[⟨0,0,⟨#[97]⟩,0,0⟩],[⟨0,0,10,0,-1,⟨#[112]⟩,[]⟩,⟨0,0,10,0,-1,⟨#[113]⟩,[]⟩],[],[⟨0,10,0,-1,0,[]⟩],[],[],[],[]⟩
def Af5:ByteArray:=⟨#[102,114,111,109,32,97,46,112,32,97,47,49,48]⟩
def Af4:ByteArray:=⟨#[116,111,32,97,46,113]⟩
theorem Afb:explainT netW 0 1=([Af5,Af4],0):=by kernel_rfl
theorem Ajf:checkR netW Bv [Af5,Af4]=(0,1,true):=by kernel_rfl
theorem Ahu:checkR netW Bv []=(0,0,false):=by kernel_rfl
theorem K7 (a b:ByteArray):(a == b)=true↔a=b:=by
 cases a
 cases b
 rename_i x y
 show (x == y)=true↔_
 rw[beq_iff_eq]
 simp
abbrev midR (rows:List ByteArray):List ByteArray:=(rows.take (rows.length-1)).drop 1
abbrev Acc (rows:List ByteArray):List ByteArray:=An 32 (nth rows 0)
abbrev lastR (rows:List ByteArray):List ByteArray:=An 32 (nth rows (rows.length-1:Nat))
theorem Aao {n:Net} {rd:ByteArray→Int × Bool} {rows:List ByteArray} (h:(checkR n rd rows).2.2=true) :
  2≤rows.length∧Ac n=true∧Ie n (Acc rows) (lastR rows)=true∧(goR n rd (midR rows) (true,Al n (nth (Acc rows) 2),false)).1=true∧(checkR n rd rows).1=Bo n (nth (Acc rows) 1):=by
 unfold checkR at h ⊢
 split at h
 ·rename_i hc
  rw[if_pos hc]
  exact⟨hc.1,hc.2.1,hc.2.2.1,hc.2.2.2.1,E⟩
 ·cases h
theorem Ai6 {α:Type} {p:α→Bool} {l:List α} {i:Int} (h:Bd p l=i) (h0:0≤i):∃ hi:i.toNat<l.length,p l[i.toNat]=true:=by
 unfold Bd at h
 split at h
 ·rename_i j hj
  rw[List.findIdx?_eq_some_iff_getElem]at hj
  obtain ⟨h1,h2,_⟩:=hj
  subst h
  exact⟨by simpa using h1,by simpa using h2⟩
 ·omega
theorem memberB_iff {p:Port} {v:Int}:B5 p v=true↔v≠0∧(v=p.native∨v∈p.tagged):=by
 simp[B5,inB]
theorem Kn {n:Net} (hr:Ac n=true) {d p:Int} (hd:0≤d∧d.toNat<n.domains.length) :
  p∈Ao n d↔(0≤p∧p.toNat<n.ports.length)∧(nth n.ports p).dev=(nth n.domains d).dev∧B5 (nth n.ports p) (nth n.domains d).vlan=true:=by
 rw[Ao,if_pos ⟨⟨hd.1,by omega⟩,hr⟩,Om,filtI_mem]
 constructor
 ·rintro ⟨h1,h2,h3⟩
  rw[Mb,Int.toNat_of_nonneg h1]at h3
  simp only[Bool.and_eq_true,beq_iff_eq]at h3
  exact⟨⟨h1,by omega⟩,h3⟩
 ·rintro ⟨⟨h1,h2⟩,h3⟩
  refine⟨h1,by omega,?_⟩
  rw[Mb,Int.toNat_of_nonneg h1]
  simpa using h3
theorem X4 {n:Net} (hr:Ac n=true) {d:Int} (hd:0≤d∧d.toNat<n.domains.length):Dn n (nth n.domains d).dev (nth n.domains d).vlan=d:=by
 rw[Ad hd.2,(bareB_iff.1 (Ajv hr hd.2)).2.2.2.2]
 exact Int.toNat_of_nonneg hd.1
theorem dom_of {n:Net} {dev v:Int} (h:0≤Dn n dev v):(0≤Dn n dev v∧(Dn n dev v).toNat<n.domains.length)∧(nth n.domains (Dn n dev v)).dev=dev∧(nth n.domains (Dn n dev v)).vlan=v:=by
 have h0:Dn n dev v=Bd (fun d:Domain=>d.dev == dev && d.vlan == v) n.domains:=rfl
 obtain ⟨a,b⟩:=Ai6 (p:=fun d:Domain=>d.dev == dev && d.vlan == v) h0.symm h
 simp only[Bool.and_eq_true,beq_iff_eq]at b
 exact⟨⟨h,a⟩,by rw[Ad a];exact b.1,by rw[Ad a];exact b.2⟩
inductive Path (n:Net):Nat→Int→Int→Prop
 | nil (d:Int):Path n 0 d d
 | snoc {k:Nat} {d e:Int} {h:Hop}:Path n k d e→h∈Cv n e→Path n (k+1) d h.domain
theorem Path.cons {n:Net} {d:Int} {h:Hop} (hh:h∈Cv n d):∀ {k:Nat} {e:Int},Path n k h.domain e→Path n (k+1) d e:=by
 intro k e hp
 generalize hx:h.domain=x at hp
 induction hp with
 | nil=>subst hx;exact .snoc (.nil d) hh
 | snoc _ hg ih=>exact .snoc (ih hx) hg
theorem Ml {n:Net} (hr:Ac n=true) {p d:Int} (hp:0≤p∧p.toNat<n.ports.length):Aa0 n p (d,0)↔(0≤d∧d.toNat<n.domains.length)∧inB (Ao n d) p=true:=by
 have e:nth n.ports p=n.ports[p.toNat]:=Ad hp.2
 constructor
 ·rintro ⟨v,hv,h0,he⟩
  obtain ⟨rfl,_⟩:=Prod.mk.inj he
  have hm:B5 (nth n.ports p) v=true:=memberB_iff.2 ⟨h0,by simpa using hv⟩
  rw[Bl,if_pos hr]
  have hd:=K3 hr hp.2 (by rw[← e];exact hm)
  rw[← e]at hd
  obtain ⟨d0,d1,d2⟩:=dom_of (n:=n) (dev:=(nth n.ports p).dev) (v:=v) hd.1
  refine⟨d0,?_⟩
  have:=(Kn hr d0).2 ⟨hp,d1.symm,by rw[d2];exact hm⟩
  simpa [inB] using this
 ·rintro ⟨hd,hm⟩
  have hm:p∈Ao n d:=by simpa [inB] using hm
  obtain ⟨_,h1,h2⟩:=(Kn hr hd).1 hm
  obtain ⟨h3,h4⟩:=memberB_iff.1 h2
  refine⟨(nth n.domains d).vlan,by simpa using h4,h3,?_⟩
  rw[Bl,if_pos hr,h1,X4 hr hd]
theorem Ab4 {n:Net} (hu:Bp n) (hb:Ac n=true) {irb j x:Int} (hk:InIrbs n irb) (hx:0≤x∧x<4294967296) (hl:Hg n irb j x=true):(addrT n irb j).2=true∧InIrbs n j:=by
 obtain ⟨h1,h2,_⟩:=leadsB_iff.1 hl
 have h3:=(Lc h1).1
 rw[h2]at h3
 obtain ⟨hti,h4,_⟩:=mem_ways.1 h3
 refine⟨?_,hti⟩
 have hnt:nth n.irbs j=n.irbs[j.toNat]'hti.2:=Ad hti.2
 have hut:=hu _ (List.getElem_mem hti.2)
 have hbt:=(B3 hb hti.2).2.2
 have hin:B2 (nth n.irbs j).addr (nth n.irbs j).bits≤x∧x≤Cy (nth n.irbs j).addr (nth n.irbs j).bits:=by
  rw[hnt]at h4 ⊢
  exact(Kw _ _ _ hbt hut hx).1 h4
 have hk1:=hk.2
 have ht1:=hti.2
 rw[addrT,if_pos ⟨⟨hk.1,by omega⟩,⟨hti.1,by omega⟩,hb⟩]
 rcases Te hu hb (irb:=irb) hti _ (show B2 (nth n.irbs j).addr (nth n.irbs j).bits∈Qd n j by rw[Qd,Adu];simp) (Int.le_refl _) (fun a h1 h2=>by omega) with ⟨h,_⟩ | ⟨_,h⟩
 ·exact h
 ·rw[h x hin.1 hin.2]at hl
  cases hl
def Af0 (a:Int) (r:Bool):Int × Int:=(a,if r=true then 1 else 0)
theorem X2 {n:Net} {s:ByteArray} (h:0≤Al n s):(Al n s).toNat<n.domains.length:=by
 unfold Al at h ⊢
 cases hf:(List.range n.domains.length).find? (H8 n s) with
 | none=>rw[hf]at h;exact absurd h j_
 | some i =>
  have:=List.mem_of_find?_eq_some hf
  simpa using this
theorem Ad6 {n:Net} (hu:Bp n) (hr:Ac n=true) {rd:ByteArray→Int × Bool} (hrd:∀ s,0≤(rd s).1∧(rd s).1<4294967296) {a:Int} {r:Bool} {w:List ByteArray} (ha:0≤a∧a.toNat<n.domains.length)
  (h:(stepR n a r rd w).1=true):Ajm n (Af0 a r) (Af0 (stepR n a r rd w).2.1 (stepR n a r rd w).2.2)∧(0≤(stepR n a r rd w).2.1∧(stepR n a r rd w).2.1.toNat<n.domains.length):=by
 have hdom:S6 n a:=⟨⟨ha.1,by omega⟩,hr⟩
 rw[stepR]at h ⊢
 by_cases h1:(nth w 0 == Kc)=true
 ·rw[if_pos h1]at h ⊢
  dsimp only at h ⊢
  rw[linkR]at h ⊢
  by_cases c1:w.length≠4
  ·rw[if_pos c1]at h;cases h
  rw[if_neg c1]at h ⊢
  split at h
  ·cases h
  rename_i c2
  rw[if_neg c2]
  dsimp only at h ⊢
  rw[Bool.and_eq_true,beq_iff_eq]at h
  have hd0:0≤Al n (nth w 3):=by
   by_cases hc:Al n (nth w 3)<0
   ·exact absurd (.inr (.inr (.inl hc))) c2
   ·omega
  have hm:inB (Ao n a) (Bo n (nth w 1))=true:=by
   cases hc:inB (Ao n a) (Bo n (nth w 1))
   ·exact absurd (.inr (.inr (.inr (.inl hc)))) c2
   ·rfl
  have hm':Bo n (nth w 1)∈Ao n a:=by simpa [inB] using hm
  refine⟨.inl ⟨⟨1,Bo n (nth w 1),(linkDomT n (Bo n (nth w 1)) (nth n.domains a).vlan).1,0⟩,?_,by rw[← h.2];rfl⟩,hd0,X2 hd0⟩
  show _∈Cv n a
  rw[Cv,if_pos hdom]
  exact List.mem_append_left _ (List.mem_filterMap.2 ⟨_,hm',by rw[linkHop,if_pos h.1]⟩)
 rw[if_neg h1]at h ⊢
 by_cases h2:(nth w 0 == tMesh)=true
 ·rw[if_pos h2]at h ⊢
  dsimp only at h ⊢
  rw[meshR]at h ⊢
  by_cases c1:w.length≠3
  ·rw[if_pos c1]at h;cases h
  rw[if_neg c1]at h ⊢
  split at h
  ·cases h
  rename_i c2
  rw[if_neg c2]
  dsimp only at h ⊢
  have hd0:0≤Al n (nth w 2):=by
   by_cases hc:Al n (nth w 2)<0
   ·exact absurd (.inl hc) c2
   ·omega
  have hm:inB (nth n.domains a).peers (Al n (nth w 2))=true:=by
   cases hc:inB (nth n.domains a).peers (Al n (nth w 2))
   ·exact absurd (.inr (.inl hc)) c2
   ·rfl
  have hm':Al n (nth w 2)∈(nth n.domains a).peers:=by simpa [inB] using hm
  refine⟨.inl ⟨Hq (Al n (nth w 2)),?_,E⟩,hd0,X2 hd0⟩
  show _∈Cv n a
  rw[Cv,if_pos hdom]
  exact List.mem_append_right _ (List.mem_map.2 ⟨_,hm',E⟩)
 rw[if_neg h2]at h ⊢
 by_cases h3:(nth w 0 == tRoute)=true
 ·rw[if_pos h3]at h ⊢
  rw[routeR]at h ⊢
  split at h
  ·cases h
  rename_i c1
  rw[if_neg c1]
  split at h
  ·cases h
  rename_i c2
  rw[if_neg c2]
  dsimp only at h ⊢
  have hd0:0≤Al n (nth w 2):=by
   by_cases hc:Al n (nth w 2)<0
   ·exact absurd (.inr (.inl hc)) c2
   ·omega
  have hr0:r=false:=by
   cases r
   ·rfl
   ·exact absurd (.inr (.inl E)) c1
  have hirb:0≤(nth n.domains a).irb:=by
   by_cases hc:(nth n.domains a).irb<0
   ·exact absurd (.inr (.inr hc)) c1
   ·omega
  have hlk:(lookT n (nth n.domains a).irb (rd (nth w 1)).1).2=true:=by
   cases hc:(lookT n (nth n.domains a).irb (rd (nth w 1)).1).2
   ·exact absurd (.inr (.inr (.inl hc))) c2
   ·rfl
  have htk:De n (rd (nth w 1)).1=false:=by
   refine decide_eq_false fun hc=>c2 (.inr (.inr (.inr (.inl hc))))
  have hdm:(nth n.irbs (lookT n (nth n.domains a).irb (rd (nth w 1)).1).1).domain=Al n (nth w 2):=by
   by_cases hc:(nth n.irbs (lookT n (nth n.domains a).irb (rd (nth w 1)).1).1).domain=Al n (nth w 2)
   ·exact hc
   ·exact absurd (.inr (.inr (.inr (.inr hc)))) c2
  have hki:InIrbs n (nth n.domains a).irb:=by
   have:=(Ce hr ha.2).2.2.2
   rw[← Ad ha.2]at this
   rcases this with h | h
   ·omega
   ·exact h
  obtain ⟨f1,f2⟩:=Ab4 hu hr hki (hrd _) (leadsB_iff.2 ⟨hlk,rfl,htk⟩)
  refine⟨.inr ⟨by rw[hr0];rfl,⟨(lookT n (nth n.domains a).irb (rd (nth w 1)).1).1,_,(addrT n (nth n.domains a).irb (lookT n (nth n.domains a).irb (rd (nth w 1)).1).1).1⟩,?_,by rw[← hdm];rfl⟩,hd0,X2 hd0⟩
  show _∈routesT n a
  rw[routesT,if_pos ⟨⟨ha.1,by omega⟩,hirb,hr⟩,Jm]
  refine List.mem_filterMap.2 ⟨(lookT n (nth n.domains a).irb (rd (nth w 1)).1).1.toNat,List.mem_range.2 f2.2,?_⟩
  rw[leadF,Int.toNat_of_nonneg f2.1,if_pos f1]
 ·rw[if_neg h3]at h;cases h
theorem Adk {n:Net} (hu:Bp n) (hr:Ac n=true) {rd:ByteArray→Int × Bool} (hrd:∀ s,0≤(rd s).1∧(rd s).1<4294967296) {p:Int}:∀ (l:List ByteArray) (s:Bool × Int × Bool) (k:Nat),Walk n p k (Af0 s.2.1 s.2.2)→(0≤s.2.1∧s.2.1.toNat<n.domains.length) →
  (goR n rd l s).1=true→Walk n p (k+l.length) (Af0 (goR n rd l s).2.1 (goR n rd l s).2.2)
 | [],s,k,hw,_,_=>hw
 | x::l,s,k,hw,hin,h=>by
  rw[goR]at h ⊢
  by_cases hs:s.1=true
  ·rw[if_pos hs]at h ⊢
   have h1:(stepR n s.2.1 s.2.2 rd (An 32 x)).1=true:=by
    cases hc:(stepR n s.2.1 s.2.2 rd (An 32 x)).1
    ·cases l with
     | nil=>rw[goR]at h;rw[hc]at h;cases h
     | cons y l=>rw[goR,if_neg (by rw[hc];decide),hc]at h;cases h
    ·rfl
   obtain ⟨s1,s2⟩:=Ad6 hu hr hrd hin h1
   have:=Adk hu hr hrd (p:=p) l _ (k+1) (.step hw s1) s2 h
   rw[show k+(x::l).length=k+1+l.length from by rw[List.length_cons];omega]
   exact this
  ·rw[if_neg hs]at h
   exact absurd h hs
theorem Afe {n:Net} (hu:Bp n) {rd:ByteArray→Int × Bool} (hrd:∀ s,0≤(rd s).1∧(rd s).1<4294967296) {rows:List ByteArray} :
  ((checkR n rd rows).2.2=true→(wayT n (checkR n rd rows).1 (checkR n rd rows).2.1).2=true∧(wayT n (checkR n rd rows).1 (checkR n rd rows).2.1).1.length≤rows.length-1)∧((checkR n rd rows).2.2=false→(checkR n rd rows).1=0∧(checkR n rd rows).2.1=0):=by
 rw[checkR]
 split
 ·rename_i hc
  obtain ⟨c1,hr,c3,c4,c5⟩:=hc
  refine⟨fun _=>?_,fun h=>by cases h⟩
  dsimp only
  simp only[Ie,Bool.and_eq_true,decide_eq_true_eq,Bool.not_eq_true',beq_eq_false_iff_ne]at c3
  obtain ⟨⟨⟨⟨⟨⟨⟨⟨b1,b2⟩,b3⟩,b4⟩,b5⟩,b6⟩,b7⟩,b8⟩,b9⟩:=c3
  have host:∀ s,I7 n (Bo n s)=true→Ei n (Bo n s)=true:=fun s hs=>by
   simp only[I7,Bool.and_eq_true,decide_eq_true_eq]at hs
   simp only[Ei,Bool.and_eq_true,decide_eq_true_eq]
   have:=Ot (Q2 n s) n.ports
   exact⟨⟨hs.1,this⟩,hs.2⟩
  have h1:=host _ b5
  have h2:=host _ b6
  have hd:=X2 b7
  have hw0:Walk n (Bo n (nth (An 32 (nth rows 0)) 1)) 0 (Af0 (Al n (nth (An 32 (nth rows 0)) 2)) false) :=
   .start ((Ml hr (I6 h1)).2 ⟨⟨b7,hd⟩,b9⟩)
  have hw:=Adk hu hr hrd ((rows.take (rows.length-1)).drop 1) (true,Al n (nth (An 32 (nth rows 0)) 2),false) 0 hw0 ⟨b7,hd⟩ c4
  have hlen:((rows.take (rows.length-1)).drop 1).length=rows.length-2:=by
   rw[List.length_drop,List.length_take];omega
  rw[hlen,Nat.zero_add]at hw
  generalize goR n rd ((rows.take (rows.length-1)).drop 1) (true,Al n (nth (An 32 (nth rows 0)) 2),false)=g at *
  generalize Bo n (nth (An 32 (nth rows 0)) 1)=p at *
  generalize Bo n (nth (An 32 (nth rows (rows.length-1:Nat))) 1)=q at *
  cases hwq:(wayT n p q).2 with
  | false=>exact absurd c5 (fun c5=>((Qn (n:=n) (p:=p) (to:=q)).2 hwq).2 hr h1 h2 b8 _ _ hw c5)
  | true =>
   obtain ⟨_,_,_,_,m,x,_,_,v3,_,v4⟩:=(Qn (n:=n) (p:=p) (to:=q)).1 hwq
   have:=v4 _ _ hw c5
   exact⟨E,by omega⟩
 ·exact⟨fun h=>(by cases h),fun _=>⟨rfl,rfl⟩⟩
theorem idxI_nonneg {α:Type} {p:α→Bool} {l:List α}:0≤Bd p l↔l.any p=true:=by
 rw[List.any_eq_true]
 constructor
 ·intro h
  cases hf:l.findIdx? p with
  | none=>simp only[Bd,hf]at h;omega
  | some i =>
   rw[List.findIdx?_eq_some_iff_getElem]at hf
   obtain ⟨h1,h2,_⟩:=hf
   exact⟨l[i],List.getElem_mem h1,h2⟩
 ·rintro ⟨x,hx,hp⟩
  cases hf:l.findIdx? p with
  | none =>
   rw[List.findIdx?_eq_none_iff]at hf
   rw[hf x hx]at hp;cases hp
  | some i=>simp only[Bd,hf];omega
theorem Ahb {α:Type} [Inhabited α] {p:α→Bool} {l:List α} (h:0≤Bd p l):(Bd p l).toNat<l.length∧p (nth l (Bd p l))=true:=by
 cases hf:l.findIdx? p with
 | none=>simp only[Bd,hf]at h;omega
 | some i =>
  have e:Bd p l=i:=by simp only[Bd,hf]
  rw[List.findIdx?_eq_some_iff_getElem]at hf
  obtain ⟨h1,h2,_⟩:=hf
  rw[e,Int.toNat_natCast]
  refine⟨h1,?_⟩
  rw[← K0 l i h1];exact h2
theorem Z1 {α:Type} (p:α→Bool) (l e:List α) (h:0≤Bd p l):Bd p (l++e)=Bd p l:=by
 cases hf:l.findIdx? p with
 | none=>simp only[Bd,hf]at h;omega
 | some i =>
  have:(l++e).findIdx? p=some i:=by rw[List.findIdx?_append,hf];rfl
  simp only[Bd,hf,this]
theorem Wt {α:Type} (p:α→Bool) (l:List α) (x:α) (h:l.any p=false) (hx:p x=true):Bd p (l++[x])=l.length:=by
 refine B8 (j:=l.length) y_ (fun i hi hij=>?_) ?_
 ·rw[List.getElem_append_left hij]
  rw[List.any_eq_false]at h
  have:=h l[i] (List.getElem_mem hij)
  simpa using this
 ·rw[List.getElem_append_right (Nat.le_refl _)]
  simpa using hx
theorem Aaa {n:Net} {l:LineM} {k:Int} (h:¬ fitsB n l k=false):l.kind=k∧(A9 l).2=true∧NetR n:=by
 have h:fitsB n l k=true:=by simpa using h
 simp only[fitsB,B0,Bool.and_eq_true,beq_iff_eq]at h
 exact⟨h.1,h.2.1.1,netR_iff.1 h.2.2⟩
theorem Afg {n:Net} {l:LineM} {k:Int} (h:¬ (begT n l k).2≠0):l.kind=k∧(A9 l).2=true∧NetR n∧0≤Cb n l.dev∧(Cb n l.dev).toNat<n.devices.length∧(begT n l k).1=Cb n l.dev:=by
 rw[begT]at h ⊢
 split at h
 ·simp at h
 ·rename_i h1
  rw[if_neg h1]
  split at h
  ·simp at h
  ·rename_i h2
   rw[if_neg h2]
   obtain ⟨a,b,c⟩:=Aaa h1
   exact⟨a,b,c,by omega,(Ahb (p:=fun d:Device=>d.name == l.dev) (by show 0≤Cb n l.dev;omega)).1,E⟩
theorem Add {n:Net} (h:(meshNT n).2.2=0):(meshNT n).1=Dw n∧(meshNT n).2.1=0∧Ac (Dw n)=true∧n.floods.find? (fun f=>!(agreesB n f))=none:=by
 rw[meshNT]at h ⊢
 split at h
 ·simp at h
 rename_i h1
 rw[if_neg h1]
 cases hf:n.floods.find? (fun f=>!(agreesB n f)) with
 | some f=>rw[hf]at h;simp at h
 | none =>
  rw[hf]at h
  dsimp only at h ⊢
  split at h
  ·simp at h
  rename_i h2
  rw[if_neg h2]
  exact⟨E,E,by simpa using h2,E⟩
end Go.Sy.YtjenpnjajjplkaaGreatDoor
namespace Go.Sy.YtjenpnjajjplkaaGreatDoor
open Go.Proofs
attribute [local irreducible] Go.Sy.G Go.Sy.DR
set_option maxRecDepth 100000
set_option maxHeartbeats 4000000
theorem V6 (l:List Device) (hl:l.length<2147483648):Sy.Spec Tryz.prog 151 [.sl 5 Ap l] [] (.osl 0) [(0,.row 5 Ap l)]:=cT F151 Tryz.ntmps151 fun F hF=>by
 ((conv=>whnf);repeat((first|refine aF ?_|refine aT ?_);(first|refine rG Γ hm ?_|refine rD Γ hm z_ ?_);conv=>whnf))
 refine D2 E (.inl E) E E E .sl E E ?_
 intro b hb
 cases b
 ·((first|refine rG Γ hm ?_|refine rD Γ hm z_ ?_);(conv=>whnf);repeat((first|refine aF ?_|refine aT ?_);(first|refine rG Γ hm ?_|refine rD Γ hm z_ ?_);conv=>whnf))
  refine A2 (Ai Γ.toTy 7 E E E E E (.lit (e:=Ap) (l:=[]) E E) .sl y_ (by simp;omega) (by simp;omega)) E E ?_
  ((first|refine rG Γ hm ?_|refine rD Γ hm z_ ?_);(conv=>whnf);repeat((first|refine aF ?_|refine aT ?_);(first|refine rG Γ hm ?_|refine rD Γ hm z_ ?_);conv=>whnf))
  exact done E (.cons .tmp .nil) [(0,7)] [(0,.row 5 Ap l)] (fun _ h=>h) E E ⟨Y,⟨.inl E,E,Y⟩,E,E⟩
 ·have h0:l=[]:=List.eq_nil_of_length_eq_zero (hb rfl)
  subst h0
  ((first|refine rG Γ hm ?_|refine rD Γ hm z_ ?_);(conv=>whnf);repeat((first|refine aF ?_|refine aT ?_);(first|refine rG Γ hm ?_|refine rD Γ hm z_ ?_);conv=>whnf))
  refine Cq 2 1000 5 Ap E E ?_
  exact done E (.cons .tmp .nil) [(0,1000)] [(0,.row 5 Ap [])] (fun _ h=>h) E E ⟨Y,⟨.inl E,E,Y⟩,E,E⟩
theorem Aal (l:List Link) (hl:l.length<2147483648):Sy.Spec Tryz.prog 153 [.sl 3 Bg l] [] (.osl 0) [(0,.row 3 Bg l)]:=cT F153 Tryz.ntmps153 fun F hF=>by
 ((conv=>whnf);repeat((first|refine aF ?_|refine aT ?_);(first|refine rG Γ hm ?_|refine rD Γ hm z_ ?_);conv=>whnf))
 refine D2 E (.inl E) E E E .sl E E ?_
 intro b hb
 cases b
 ·((first|refine rG Γ hm ?_|refine rD Γ hm z_ ?_);(conv=>whnf);repeat((first|refine aF ?_|refine aT ?_);(first|refine rG Γ hm ?_|refine rD Γ hm z_ ?_);conv=>whnf))
  refine A2 (Ai Γ.toTy 7 E E E E E (.lit (e:=Bg) (l:=[]) E E) .sl y_ (by simp;omega) (by simp;omega)) E E ?_
  ((first|refine rG Γ hm ?_|refine rD Γ hm z_ ?_);(conv=>whnf);repeat((first|refine aF ?_|refine aT ?_);(first|refine rG Γ hm ?_|refine rD Γ hm z_ ?_);conv=>whnf))
  exact done E (.cons .tmp .nil) [(0,7)] [(0,.row 3 Bg l)] (fun _ h=>h) E E ⟨Y,⟨.inl E,E,Y⟩,E,E⟩
 ·have h0:l=[]:=List.eq_nil_of_length_eq_zero (hb rfl)
  subst h0
  ((first|refine rG Γ hm ?_|refine rD Γ hm z_ ?_);(conv=>whnf);repeat((first|refine aF ?_|refine aT ?_);(first|refine rG Γ hm ?_|refine rD Γ hm z_ ?_);conv=>whnf))
  refine Cq 2 1000 3 Bg E E ?_
  exact done E (.cons .tmp .nil) [(0,1000)] [(0,.row 3 Bg [])] (fun _ h=>h) E E ⟨Y,⟨.inl E,E,Y⟩,E,E⟩
theorem V5 (l:List Static) (hl:l.length<2147483648):Sy.Spec Tryz.prog 155 [.sl 4 Av l] [] (.osl 0) [(0,.row 4 Av l)]:=cT F155 Tryz.ntmps155 fun F hF=>by
 ((conv=>whnf);repeat((first|refine aF ?_|refine aT ?_);(first|refine rG Γ hm ?_|refine rD Γ hm z_ ?_);conv=>whnf))
 refine D2 E (.inl E) E E E .sl E E ?_
 intro b hb
 cases b
 ·((first|refine rG Γ hm ?_|refine rD Γ hm z_ ?_);(conv=>whnf);repeat((first|refine aF ?_|refine aT ?_);(first|refine rG Γ hm ?_|refine rD Γ hm z_ ?_);conv=>whnf))
  refine A2 (Ai Γ.toTy 7 E E E E E (.lit (e:=Av) (l:=[]) E E) .sl y_ (by simp;omega) (by simp;omega)) E E ?_
  ((first|refine rG Γ hm ?_|refine rD Γ hm z_ ?_);(conv=>whnf);repeat((first|refine aF ?_|refine aT ?_);(first|refine rG Γ hm ?_|refine rD Γ hm z_ ?_);conv=>whnf))
  exact done E (.cons .tmp .nil) [(0,7)] [(0,.row 4 Av l)] (fun _ h=>h) E E ⟨Y,⟨.inl E,E,Y⟩,E,E⟩
 ·have h0:l=[]:=List.eq_nil_of_length_eq_zero (hb rfl)
  subst h0
  ((first|refine rG Γ hm ?_|refine rD Γ hm z_ ?_);(conv=>whnf);repeat((first|refine aF ?_|refine aT ?_);(first|refine rG Γ hm ?_|refine rD Γ hm z_ ?_);conv=>whnf))
  refine Cq 2 1000 4 Av E E ?_
  exact done E (.cons .tmp .nil) [(0,1000)] [(0,.row 4 Av [])] (fun _ h=>h) E E ⟨Y,⟨.inl E,E,Y⟩,E,E⟩
theorem Acm (l:List Irb) (hl:l.length<2147483648):Sy.Spec Tryz.prog 158 [.sl 5 Bf l] [] (.osl 0) [(0,.row 5 Bf l)]:=cT F158 Tryz.ntmps158 fun F hF=>by
 ((conv=>whnf);repeat((first|refine aF ?_|refine aT ?_);(first|refine rG Γ hm ?_|refine rD Γ hm z_ ?_);conv=>whnf))
 refine D2 E (.inl E) E E E .sl E E ?_
 intro b hb
 cases b
 ·((first|refine rG Γ hm ?_|refine rD Γ hm z_ ?_);(conv=>whnf);repeat((first|refine aF ?_|refine aT ?_);(first|refine rG Γ hm ?_|refine rD Γ hm z_ ?_);conv=>whnf))
  refine A2 (Ai Γ.toTy 7 E E E E E (.lit (e:=Bf) (l:=[]) E E) .sl y_ (by simp;omega) (by simp;omega)) E E ?_
  ((first|refine rG Γ hm ?_|refine rD Γ hm z_ ?_);(conv=>whnf);repeat((first|refine aF ?_|refine aT ?_);(first|refine rG Γ hm ?_|refine rD Γ hm z_ ?_);conv=>whnf))
  exact done E (.cons .tmp .nil) [(0,7)] [(0,.row 5 Bf l)] (fun _ h=>h) E E ⟨Y,⟨.inl E,E,Y⟩,E,E⟩
 ·have h0:l=[]:=List.eq_nil_of_length_eq_zero (hb rfl)
  subst h0
  ((first|refine rG Γ hm ?_|refine rD Γ hm z_ ?_);(conv=>whnf);repeat((first|refine aF ?_|refine aT ?_);(first|refine rG Γ hm ?_|refine rD Γ hm z_ ?_);conv=>whnf))
  refine Cq 2 1000 5 Bf E E ?_
  exact done E (.cons .tmp .nil) [(0,1000)] [(0,.row 5 Bf [])] (fun _ h=>h) E E ⟨Y,⟨.inl E,E,Y⟩,E,E⟩
theorem Jv (n:Net) (hn:n.Fin) :
  Sy.Spec Tryz.prog 61 [Ae n] [] (.agg [.osl 0,.osl 1,.osl 2,.osl 3,.osl 4,.osl 5,.osl 6,.osl 7]) [(0,.row 5 Ap n.devices),(1,.row 7 As n.ports),(2,.row 3 Bg n.links),(3,.row 6 Af n.domains),(4,.row 4 Av n.statics),(5,.row 4 Ax n.floods),(6,.row 5 Bh n.vrfs),(7,.row 5 Bf n.irbs)]:=cT F61 Tryz.ntmps61 fun F hF=>by
 have h1:n.devices.length<2147483648∧n.ports.length<2147483648∧n.links.length<2147483648∧n.domains.length<2147483648∧n.statics.length<2147483648∧n.floods.length<2147483648∧n.vrfs.length<2147483648∧n.irbs.length<2147483648:=⟨hn.devices,hn.ports,hn.links,hn.domains,hn.statics,hn.floods,hn.vrfs,hn.irbs⟩
 have h2:(∀ p∈n.ports,p.tagged.length<2147483648)∧(∀ p∈n.domains,p.peers.length<2147483648)∧(∀ p∈n.floods,p.addrs.length<2147483648)∧(∀ p∈n.vrfs,p.imports.length<2147483648∧p.exports.length<2147483648):=⟨hn.tagged,hn.peers,hn.addrs,fun v hv=>⟨hn.imports v hv,hn.exports v hv⟩⟩
 ((conv=>whnf);repeat((first|refine aF ?_|refine aT ?_);(first|refine rG Γ hm ?_|refine rD Γ hm z_ ?_);conv=>whnf))
 refine Dr (Aj [(0,11)] E F151 (V6 n.devices h1.1) E Y E ⟨.inr E,Y⟩) z_ E ?_
 ((first|refine rG Γ hm ?_|refine rD Γ hm z_ ?_);(conv=>whnf);repeat((first|refine aF ?_|refine aT ?_);(first|refine rG Γ hm ?_|refine rD Γ hm z_ ?_);conv=>whnf))
 refine Dr (Aj [(0,14)] E F152 (Acl n.ports h1.2.1) E Y E ⟨.inr E,Y⟩) z_ E ?_
 ((first|refine rG Γ hm ?_|refine rD Γ hm z_ ?_);(conv=>whnf);repeat((first|refine aF ?_|refine aT ?_);(first|refine rG Γ hm ?_|refine rD Γ hm z_ ?_);conv=>whnf))
 refine Dr (Aj [(0,17)] E F153 (Aal n.links h1.2.2.1) E Y E ⟨.inr E,Y⟩) z_ E ?_
 ((first|refine rG Γ hm ?_|refine rD Γ hm z_ ?_);(conv=>whnf);repeat((first|refine aF ?_|refine aT ?_);(first|refine rG Γ hm ?_|refine rD Γ hm z_ ?_);conv=>whnf))
 refine Dr (Aj [(0,20)] E F154 (Ya n.domains h1.2.2.2.1) E Y E ⟨.inr E,Y⟩) z_ E ?_
 ((first|refine rG Γ hm ?_|refine rD Γ hm z_ ?_);(conv=>whnf);repeat((first|refine aF ?_|refine aT ?_);(first|refine rG Γ hm ?_|refine rD Γ hm z_ ?_);conv=>whnf))
 refine Dr (Aj [(0,23)] E F155 (V5 n.statics h1.2.2.2.2.1) E Y E ⟨.inr E,Y⟩) z_ E ?_
 ((first|refine rG Γ hm ?_|refine rD Γ hm z_ ?_);(conv=>whnf);repeat((first|refine aF ?_|refine aT ?_);(first|refine rG Γ hm ?_|refine rD Γ hm z_ ?_);conv=>whnf))
 refine Dr (Aj [(0,26)] E F156 (Aam n.floods h1.2.2.2.2.2.1) E Y E ⟨.inr E,Y⟩) z_ E ?_
 ((first|refine rG Γ hm ?_|refine rD Γ hm z_ ?_);(conv=>whnf);repeat((first|refine aF ?_|refine aT ?_);(first|refine rG Γ hm ?_|refine rD Γ hm z_ ?_);conv=>whnf))
 refine Dr (Aj [(0,29)] E F157 (Afd n.vrfs h1.2.2.2.2.2.2.1) E Y E ⟨.inr E,Y⟩) z_ E ?_
 ((first|refine rG Γ hm ?_|refine rD Γ hm z_ ?_);(conv=>whnf);repeat((first|refine aF ?_|refine aT ?_);(first|refine rG Γ hm ?_|refine rD Γ hm z_ ?_);conv=>whnf))
 refine Dr (Aj [(0,32)] E F158 (Acm n.irbs h1.2.2.2.2.2.2.2) E Y E ⟨.inr E,Y⟩) z_ E ?_
 ((first|refine rG Γ hm ?_|refine rD Γ hm z_ ?_);(conv=>whnf);repeat((first|refine aF ?_|refine aT ?_);(first|refine rG Γ hm ?_|refine rD Γ hm z_ ?_);conv=>whnf))
 refine⟨z_,?_⟩
 ((conv=>whnf);repeat((first|refine aF ?_|refine aT ?_);(first|refine rG Γ hm ?_|refine rD Γ hm z_ ?_);conv=>whnf))
 refine By n.ports.length (fun j=>[(2,.ptr 2 0),(3,.ptr 3 0),(36,Aa n.ports.length),(37,Aa j)]) (fun _=>[(2,.box [.val (.slice none 0 0),.val (.slice none 0 0),.val (.slice none 0 0),.val (.slice none 0 0),.val (.slice none 0 0),.val (.slice none 0 0),.val (.slice none 0 0),.val (.slice none 0 0)]),(3,.box [.osl 11,.osl 14,.osl 17,.osl 20,.osl 23,.osl 26,.osl 29,.osl 32]),(11,.row 5 Ap n.devices),(14,.row 7 As n.ports),(17,.row 3 Bg n.links),(20,.row 6 Af n.domains),(23,.row 4 Av n.statics),(26,.row 4 Ax n.floods),(29,.row 5 Bh n.vrfs),(32,.row 5 Bf n.irbs)]) []
  ⟨⟨rfl,rfl,rfl,rfl,rfl,rfl,rfl,rfl,trivial⟩,⟨.inl rfl,rfl,.inl rfl,rfl,.inl rfl,rfl,.inl rfl,rfl,.inl rfl,rfl,.inl rfl,rfl,.inl rfl,rfl,.inl rfl,rfl,.inl rfl,rfl,.inl rfl,rfl,trivial⟩,rfl,rfl⟩ ?_
 intro j hj
 ((first|refine rG Γ hm ?_|refine rD Γ hm z_ ?_);(conv=>whnf);repeat((first|refine aF ?_|refine aT ?_);(first|refine rG Γ hm ?_|refine rD Γ hm z_ ?_);conv=>whnf))
 refine⟨fun h=>?_,fun h=>?_⟩
 ·have hlt:j<n.ports.length:=by simpa using h
  obtain ⟨p,hp⟩:∃ p,n.ports[(j:Int).toNat]'q_=p:=⟨_,rfl⟩
  have hne:n.ports≠[]:=fun e=>by rw[e]at hlt;cases hlt
  have hset:n.ports.set (j:Int).toNat p=n.ports:=by rw[← hp];exact List.set_getElem_self _
  have hpl:=h2.1 p (by rw[← hp];exact List.getElem_mem _)
  ((first|refine rG Γ hm ?_|refine rD Γ hm z_ ?_);(conv=>whnf);repeat((first|refine aF ?_|refine aT ?_);(first|refine rG Γ hm ?_|refine rD Γ hm z_ ?_);conv=>whnf))
  refine⟨by omega,by show _<n.ports.length;omega,?_⟩
  ((conv=>whnf);repeat((first|refine aF ?_|refine aT ?_);(first|refine rG Γ hm ?_|refine rD Γ hm z_ ?_);conv=>whnf))
  refine⟨hne,?_⟩
  ((conv=>whnf);repeat((first|refine aF ?_|refine aT ?_);(first|refine rG Γ hm ?_|refine rD Γ hm z_ ?_);conv=>whnf))
  refine⟨E,by omega,?_⟩
  rw[hp]
  ((conv=>whnf);repeat((first|refine aF ?_|refine aT ?_);(first|refine rG Γ hm ?_|refine rD Γ hm z_ ?_);conv=>whnf))
  refine cD (Er p.tagged hpl) F159 ?_
  ((first|refine rG Γ hm ?_|refine rD Γ hm z_ ?_);(conv=>whnf);repeat((first|refine aF ?_|refine aT ?_);(first|refine rG Γ hm ?_|refine rD Γ hm z_ ?_);conv=>whnf))
  refine⟨by omega,by show _<n.ports.length;omega,?_⟩
  ((conv=>whnf);repeat((first|refine aF ?_|refine aT ?_);(first|refine rG Γ hm ?_|refine rD Γ hm z_ ?_);conv=>whnf))
  refine⟨hne,?_⟩
  ((conv=>whnf);repeat((first|refine aF ?_|refine aT ?_);(first|refine rG Γ hm ?_|refine rD Γ hm z_ ?_);conv=>whnf))
  refine⟨E,by omega,p,(by rw[hp];rfl),(by rw[hp];rfl),?_⟩
  ((conv=>whnf);repeat((first|refine aF ?_|refine aT ?_);(first|refine rG Γ hm ?_|refine rD Γ hm z_ ?_);conv=>whnf))
  refine⟨z_,?_⟩
  ((conv=>whnf);repeat((first|refine aF ?_|refine aT ?_);(first|refine rG Γ hm ?_|refine rD Γ hm z_ ?_);conv=>whnf))
  refine iL ?_
  ((conv=>whnf);repeat((first|refine aF ?_|refine aT ?_);(first|refine rG Γ hm ?_|refine rD Γ hm z_ ?_);conv=>whnf))
  exact Bs [] hlt ⟨⟨E,E,E,E,E,E,E,E,Y⟩,⟨.inl E,E,.inl E,E,.inl E,E,.inl (congrArg (Ob.row 7 As) hset.symm),E,.inl E,E,.inl E,E,.inl E,E,.inl E,E,.inl E,E,.inl E,E,Y⟩,E,E⟩
 ·((first|refine rG Γ hm ?_|refine rD Γ hm z_ ?_);(conv=>whnf);repeat((first|refine aF ?_|refine aT ?_);(first|refine rG Γ hm ?_|refine rD Γ hm z_ ?_);conv=>whnf))
  refine By n.domains.length (fun j=>[(2,.ptr 2 0),(3,.ptr 3 0),(55,Aa n.domains.length),(56,Aa j)]) (fun _=>[(2,.box [.val (.slice none 0 0),.val (.slice none 0 0),.val (.slice none 0 0),.val (.slice none 0 0),.val (.slice none 0 0),.val (.slice none 0 0),.val (.slice none 0 0),.val (.slice none 0 0)]),(3,.box [.osl 11,.osl 14,.osl 17,.osl 20,.osl 23,.osl 26,.osl 29,.osl 32]),(11,.row 5 Ap n.devices),(14,.row 7 As n.ports),(17,.row 3 Bg n.links),(20,.row 6 Af n.domains),(23,.row 4 Av n.statics),(26,.row 4 Ax n.floods),(29,.row 5 Bh n.vrfs),(32,.row 5 Bf n.irbs)]) []
   ⟨⟨rfl,rfl,rfl,rfl,rfl,rfl,rfl,rfl,trivial⟩,⟨.inl rfl,rfl,.inl rfl,rfl,.inl rfl,rfl,.inl rfl,rfl,.inl rfl,rfl,.inl rfl,rfl,.inl rfl,rfl,.inl rfl,rfl,.inl rfl,rfl,.inl rfl,rfl,trivial⟩,rfl,rfl⟩ ?_
  intro j hj
  ((first|refine rG Γ hm ?_|refine rD Γ hm z_ ?_);(conv=>whnf);repeat((first|refine aF ?_|refine aT ?_);(first|refine rG Γ hm ?_|refine rD Γ hm z_ ?_);conv=>whnf))
  refine⟨fun h=>?_,fun h=>?_⟩
  ·have hlt:j<n.domains.length:=by simpa using h
   obtain ⟨p,hp⟩:∃ p,n.domains[(j:Int).toNat]'q_=p:=⟨_,rfl⟩
   have hne:n.domains≠[]:=fun e=>by rw[e]at hlt;cases hlt
   have hset:n.domains.set (j:Int).toNat p=n.domains:=by rw[← hp];exact List.set_getElem_self _
   have hpl:=h2.2.1 p (by rw[← hp];exact List.getElem_mem _)
   ((first|refine rG Γ hm ?_|refine rD Γ hm z_ ?_);(conv=>whnf);repeat((first|refine aF ?_|refine aT ?_);(first|refine rG Γ hm ?_|refine rD Γ hm z_ ?_);conv=>whnf))
   refine⟨by omega,by show _<n.domains.length;omega,?_⟩
   ((conv=>whnf);repeat((first|refine aF ?_|refine aT ?_);(first|refine rG Γ hm ?_|refine rD Γ hm z_ ?_);conv=>whnf))
   refine⟨hne,?_⟩
   ((conv=>whnf);repeat((first|refine aF ?_|refine aT ?_);(first|refine rG Γ hm ?_|refine rD Γ hm z_ ?_);conv=>whnf))
   refine⟨E,by omega,?_⟩
   rw[hp]
   ((conv=>whnf);repeat((first|refine aF ?_|refine aT ?_);(first|refine rG Γ hm ?_|refine rD Γ hm z_ ?_);conv=>whnf))
   refine cD (Er p.peers hpl) F159 ?_
   ((first|refine rG Γ hm ?_|refine rD Γ hm z_ ?_);(conv=>whnf);repeat((first|refine aF ?_|refine aT ?_);(first|refine rG Γ hm ?_|refine rD Γ hm z_ ?_);conv=>whnf))
   refine⟨by omega,by show _<n.domains.length;omega,?_⟩
   ((conv=>whnf);repeat((first|refine aF ?_|refine aT ?_);(first|refine rG Γ hm ?_|refine rD Γ hm z_ ?_);conv=>whnf))
   refine⟨hne,?_⟩
   ((conv=>whnf);repeat((first|refine aF ?_|refine aT ?_);(first|refine rG Γ hm ?_|refine rD Γ hm z_ ?_);conv=>whnf))
   refine⟨E,by omega,p,(by rw[hp];rfl),(by rw[hp];rfl),?_⟩
   ((conv=>whnf);repeat((first|refine aF ?_|refine aT ?_);(first|refine rG Γ hm ?_|refine rD Γ hm z_ ?_);conv=>whnf))
   refine⟨z_,?_⟩
   ((conv=>whnf);repeat((first|refine aF ?_|refine aT ?_);(first|refine rG Γ hm ?_|refine rD Γ hm z_ ?_);conv=>whnf))
   refine iL ?_
   ((conv=>whnf);repeat((first|refine aF ?_|refine aT ?_);(first|refine rG Γ hm ?_|refine rD Γ hm z_ ?_);conv=>whnf))
   exact Bs [] hlt ⟨⟨E,E,E,E,E,E,E,E,Y⟩,⟨.inl E,E,.inl E,E,.inl E,E,.inl E,E,.inl E,E,.inl (congrArg (Ob.row 6 Af) hset.symm),E,.inl E,E,.inl E,E,.inl E,E,.inl E,E,Y⟩,E,E⟩
  ·((first|refine rG Γ hm ?_|refine rD Γ hm z_ ?_);(conv=>whnf);repeat((first|refine aF ?_|refine aT ?_);(first|refine rG Γ hm ?_|refine rD Γ hm z_ ?_);conv=>whnf))
   refine By n.floods.length (fun j=>[(2,.ptr 2 0),(3,.ptr 3 0),(74,Aa n.floods.length),(75,Aa j)]) (fun _=>[(2,.box [.val (.slice none 0 0),.val (.slice none 0 0),.val (.slice none 0 0),.val (.slice none 0 0),.val (.slice none 0 0),.val (.slice none 0 0),.val (.slice none 0 0),.val (.slice none 0 0)]),(3,.box [.osl 11,.osl 14,.osl 17,.osl 20,.osl 23,.osl 26,.osl 29,.osl 32]),(11,.row 5 Ap n.devices),(14,.row 7 As n.ports),(17,.row 3 Bg n.links),(20,.row 6 Af n.domains),(23,.row 4 Av n.statics),(26,.row 4 Ax n.floods),(29,.row 5 Bh n.vrfs),(32,.row 5 Bf n.irbs)]) []
    ⟨⟨rfl,rfl,rfl,rfl,rfl,rfl,rfl,rfl,trivial⟩,⟨.inl rfl,rfl,.inl rfl,rfl,.inl rfl,rfl,.inl rfl,rfl,.inl rfl,rfl,.inl rfl,rfl,.inl rfl,rfl,.inl rfl,rfl,.inl rfl,rfl,.inl rfl,rfl,trivial⟩,rfl,rfl⟩ ?_
   intro j hj
   ((first|refine rG Γ hm ?_|refine rD Γ hm z_ ?_);(conv=>whnf);repeat((first|refine aF ?_|refine aT ?_);(first|refine rG Γ hm ?_|refine rD Γ hm z_ ?_);conv=>whnf))
   refine⟨fun h=>?_,fun h=>?_⟩
   ·have hlt:j<n.floods.length:=by simpa using h
    obtain ⟨p,hp⟩:∃ p,n.floods[(j:Int).toNat]'q_=p:=⟨_,rfl⟩
    have hne:n.floods≠[]:=fun e=>by rw[e]at hlt;cases hlt
    have hset:n.floods.set (j:Int).toNat p=n.floods:=by rw[← hp];exact List.set_getElem_self _
    have hpl:=h2.2.2.1 p (by rw[← hp];exact List.getElem_mem _)
    ((first|refine rG Γ hm ?_|refine rD Γ hm z_ ?_);(conv=>whnf);repeat((first|refine aF ?_|refine aT ?_);(first|refine rG Γ hm ?_|refine rD Γ hm z_ ?_);conv=>whnf))
    refine⟨by omega,by show _<n.floods.length;omega,?_⟩
    ((conv=>whnf);repeat((first|refine aF ?_|refine aT ?_);(first|refine rG Γ hm ?_|refine rD Γ hm z_ ?_);conv=>whnf))
    refine⟨hne,?_⟩
    ((conv=>whnf);repeat((first|refine aF ?_|refine aT ?_);(first|refine rG Γ hm ?_|refine rD Γ hm z_ ?_);conv=>whnf))
    refine⟨E,by omega,?_⟩
    rw[hp]
    ((conv=>whnf);repeat((first|refine aF ?_|refine aT ?_);(first|refine rG Γ hm ?_|refine rD Γ hm z_ ?_);conv=>whnf))
    refine cD (W6 p.addrs hpl) F160 ?_
    ((first|refine rG Γ hm ?_|refine rD Γ hm z_ ?_);(conv=>whnf);repeat((first|refine aF ?_|refine aT ?_);(first|refine rG Γ hm ?_|refine rD Γ hm z_ ?_);conv=>whnf))
    refine⟨by omega,by show _<n.floods.length;omega,?_⟩
    ((conv=>whnf);repeat((first|refine aF ?_|refine aT ?_);(first|refine rG Γ hm ?_|refine rD Γ hm z_ ?_);conv=>whnf))
    refine⟨hne,?_⟩
    ((conv=>whnf);repeat((first|refine aF ?_|refine aT ?_);(first|refine rG Γ hm ?_|refine rD Γ hm z_ ?_);conv=>whnf))
    refine⟨E,by omega,p,(by rw[hp];rfl),(by rw[hp];rfl),?_⟩
    ((conv=>whnf);repeat((first|refine aF ?_|refine aT ?_);(first|refine rG Γ hm ?_|refine rD Γ hm z_ ?_);conv=>whnf))
    refine⟨z_,?_⟩
    ((conv=>whnf);repeat((first|refine aF ?_|refine aT ?_);(first|refine rG Γ hm ?_|refine rD Γ hm z_ ?_);conv=>whnf))
    refine iL ?_
    ((conv=>whnf);repeat((first|refine aF ?_|refine aT ?_);(first|refine rG Γ hm ?_|refine rD Γ hm z_ ?_);conv=>whnf))
    exact Bs [] hlt ⟨⟨E,E,E,E,E,E,E,E,Y⟩,⟨.inl E,E,.inl E,E,.inl E,E,.inl E,E,.inl E,E,.inl E,E,.inl E,E,.inl (congrArg (Ob.row 4 Ax) hset.symm),E,.inl E,E,.inl E,E,Y⟩,E,E⟩
   ·((first|refine rG Γ hm ?_|refine rD Γ hm z_ ?_);(conv=>whnf);repeat((first|refine aF ?_|refine aT ?_);(first|refine rG Γ hm ?_|refine rD Γ hm z_ ?_);conv=>whnf))
    refine By n.vrfs.length (fun j=>[(2,.ptr 2 0),(3,.ptr 3 0),(93,Aa n.vrfs.length),(94,Aa j)]) (fun _=>[(2,.box [.val (.slice none 0 0),.val (.slice none 0 0),.val (.slice none 0 0),.val (.slice none 0 0),.val (.slice none 0 0),.val (.slice none 0 0),.val (.slice none 0 0),.val (.slice none 0 0)]),(3,.box [.osl 11,.osl 14,.osl 17,.osl 20,.osl 23,.osl 26,.osl 29,.osl 32]),(11,.row 5 Ap n.devices),(14,.row 7 As n.ports),(17,.row 3 Bg n.links),(20,.row 6 Af n.domains),(23,.row 4 Av n.statics),(26,.row 4 Ax n.floods),(29,.row 5 Bh n.vrfs),(32,.row 5 Bf n.irbs)]) []
     ⟨⟨rfl,rfl,rfl,rfl,rfl,rfl,rfl,rfl,trivial⟩,⟨.inl rfl,rfl,.inl rfl,rfl,.inl rfl,rfl,.inl rfl,rfl,.inl rfl,rfl,.inl rfl,rfl,.inl rfl,rfl,.inl rfl,rfl,.inl rfl,rfl,.inl rfl,rfl,trivial⟩,rfl,rfl⟩ ?_
    intro j hj
    ((first|refine rG Γ hm ?_|refine rD Γ hm z_ ?_);(conv=>whnf);repeat((first|refine aF ?_|refine aT ?_);(first|refine rG Γ hm ?_|refine rD Γ hm z_ ?_);conv=>whnf))
    refine⟨fun h=>?_,fun h=>?_⟩
    ·have hlt:j<n.vrfs.length:=by simpa using h
     obtain ⟨p,hp⟩:∃ p,n.vrfs[(j:Int).toNat]'q_=p:=⟨_,rfl⟩
     have hne:n.vrfs≠[]:=fun e=>by rw[e]at hlt;cases hlt
     have hset:n.vrfs.set (j:Int).toNat p=n.vrfs:=by rw[← hp];exact List.set_getElem_self _
     have hpl:=h2.2.2.2 p (by rw[← hp];exact List.getElem_mem _)
     ((first|refine rG Γ hm ?_|refine rD Γ hm z_ ?_);(conv=>whnf);repeat((first|refine aF ?_|refine aT ?_);(first|refine rG Γ hm ?_|refine rD Γ hm z_ ?_);conv=>whnf))
     have hne2:n.vrfs.set (j:Int).toNat p≠[]:=by rw[hset];exact hne
     have hp2:(n.vrfs.set (j:Int).toNat p)[(j:Int).toNat]'(by rw[hset];omega)=p:=by simp
     have hset2:(n.vrfs.set (j:Int).toNat p).set (j:Int).toNat p=n.vrfs:=by rw[hset,hset]
     refine⟨by omega,by show _<n.vrfs.length;omega,?_⟩
     ((conv=>whnf);repeat((first|refine aF ?_|refine aT ?_);(first|refine rG Γ hm ?_|refine rD Γ hm z_ ?_);conv=>whnf))
     refine Dr (Cr E (.inr (.inr (.inr ⟨29,5,_,0,E,fun κ w h=>Lb hne h,E⟩)))) z_ E ?_
     ((first|refine rG Γ hm ?_|refine rD Γ hm z_ ?_);(conv=>whnf);repeat((first|refine aF ?_|refine aT ?_);(first|refine rG Γ hm ?_|refine rD Γ hm z_ ?_);conv=>whnf))
     refine⟨hne,?_⟩
     ((conv=>whnf);repeat((first|refine aF ?_|refine aT ?_);(first|refine rG Γ hm ?_|refine rD Γ hm z_ ?_);conv=>whnf))
     refine⟨E,by omega,?_⟩
     rw[hp]
     ((conv=>whnf);repeat((first|refine aF ?_|refine aT ?_);(first|refine rG Γ hm ?_|refine rD Γ hm z_ ?_);conv=>whnf))
     refine cD (Er p.imports hpl.1) F159 ?_
     ((first|refine rG Γ hm ?_|refine rD Γ hm z_ ?_);(conv=>whnf);repeat((first|refine aF ?_|refine aT ?_);(first|refine rG Γ hm ?_|refine rD Γ hm z_ ?_);conv=>whnf))
     refine Dr (Cr E (.inr (.inr (.inr ⟨29,5,_,0,E,fun κ w h=>Lb hne h,E⟩)))) z_ E ?_
     ((first|refine rG Γ hm ?_|refine rD Γ hm z_ ?_);(conv=>whnf);repeat((first|refine aF ?_|refine aT ?_);(first|refine rG Γ hm ?_|refine rD Γ hm z_ ?_);conv=>whnf))
     refine⟨hne,?_⟩
     ((conv=>whnf);repeat((first|refine aF ?_|refine aT ?_);(first|refine rG Γ hm ?_|refine rD Γ hm z_ ?_);conv=>whnf))
     refine⟨E,by omega,?_⟩
     rw[hp]
     ((conv=>whnf);repeat((first|refine aF ?_|refine aT ?_);(first|refine rG Γ hm ?_|refine rD Γ hm z_ ?_);conv=>whnf))
     refine cD (Er p.exports hpl.2) F159 ?_
     ((first|refine rG Γ hm ?_|refine rD Γ hm z_ ?_);(conv=>whnf);repeat((first|refine aF ?_|refine aT ?_);(first|refine rG Γ hm ?_|refine rD Γ hm z_ ?_);conv=>whnf))
     refine Dr (Cr E (.inr (.inr (.inr ⟨29,5,_,0,E,fun κ w h=>Lb hne h,E⟩)))) z_ E ?_
     ((first|refine rG Γ hm ?_|refine rD Γ hm z_ ?_);(conv=>whnf);repeat((first|refine aF ?_|refine aT ?_);(first|refine rG Γ hm ?_|refine rD Γ hm z_ ?_);conv=>whnf))
     refine⟨hne,?_⟩
     ((conv=>whnf);repeat((first|refine aF ?_|refine aT ?_);(first|refine rG Γ hm ?_|refine rD Γ hm z_ ?_);conv=>whnf))
     refine⟨E,by omega,p,(by rw[hp];rfl),(by rw[hp];rfl),?_⟩
     ((conv=>whnf);repeat((first|refine aF ?_|refine aT ?_);(first|refine rG Γ hm ?_|refine rD Γ hm z_ ?_);conv=>whnf))
     refine Dr (Cr E (.inr (.inr (.inr ⟨29,5,_,0,E,fun κ w h=>Lb hne2 h,E⟩)))) z_ E ?_
     ((first|refine rG Γ hm ?_|refine rD Γ hm z_ ?_);(conv=>whnf);repeat((first|refine aF ?_|refine aT ?_);(first|refine rG Γ hm ?_|refine rD Γ hm z_ ?_);conv=>whnf))
     refine⟨hne2,?_⟩
     ((conv=>whnf);repeat((first|refine aF ?_|refine aT ?_);(first|refine rG Γ hm ?_|refine rD Γ hm z_ ?_);conv=>whnf))
     refine⟨E,by rw[hset];omega,p,(by rw[hp2];rfl),(by rw[hp2];rfl),?_⟩
     ((conv=>whnf);repeat((first|refine aF ?_|refine aT ?_);(first|refine rG Γ hm ?_|refine rD Γ hm z_ ?_);conv=>whnf))
     refine⟨z_,?_⟩
     ((conv=>whnf);repeat((first|refine aF ?_|refine aT ?_);(first|refine rG Γ hm ?_|refine rD Γ hm z_ ?_);conv=>whnf))
     refine iL ?_
     ((conv=>whnf);repeat((first|refine aF ?_|refine aT ?_);(first|refine rG Γ hm ?_|refine rD Γ hm z_ ?_);conv=>whnf))
     exact Bs [] hlt ⟨⟨E,E,E,E,E,E,E,E,Y⟩,⟨.inl E,E,.inl E,E,.inl E,E,.inl E,E,.inl E,E,.inl E,E,.inl E,E,.inl E,E,.inl (congrArg (Ob.row 5 Bh) hset2.symm),E,.inl E,E,Y⟩,E,E⟩
    ·((first|refine rG Γ hm ?_|refine rD Γ hm z_ ?_);(conv=>whnf);repeat((first|refine aF ?_|refine aT ?_);(first|refine rG Γ hm ?_|refine rD Γ hm z_ ?_);conv=>whnf))
     exact done E (.cons (.cell E E E E) .nil) [(0,11),(1,14),(2,17),(3,20),(4,23),(5,26),(6,29),(7,32)] [(0,.row 5 Ap n.devices),(1,.row 7 As n.ports),(2,.row 3 Bg n.links),(3,.row 6 Af n.domains),(4,.row 4 Av n.statics),(5,.row 4 Ax n.floods),(6,.row 5 Bh n.vrfs),(7,.row 5 Bf n.irbs)] (fun _ h=>h) E E ⟨Y,⟨.inl E,E,.inl E,E,.inl E,E,.inl E,E,.inl E,E,.inl E,E,.inl E,E,.inl E,E,Y⟩,E,E⟩
end Go.Sy.YtjenpnjajjplkaaGreatDoor
namespace Go.Sy.YtjenpnjajjplkaaGreatDoor
open Go.Proofs
attribute [local irreducible] Go.Sy.G Go.Sy.DR
set_option maxRecDepth 20000
set_option maxHeartbeats 4000000
theorem Ea (l:List Device) (p:Device→Bool) (f:FuncId) (first cap:List SV) (hc:(SV.clo (.func f) first cap).inn []=true) (hf:∀ x∈l,Eu Tryz.prog f (first++[Ap x]++cap) (Ab (p x))) (hl:Ag l) :
  Sy.Spec Tryz.prog 165 [.sl 5 Ap l,.clo (.func f) first cap] [] (Aa (Bd p l)) []:=cT F165 Tryz.ntmps165 fun F hF=>by
 unfold Ag at hl
 have hin:∀ x:Device,Bn [] (first++[Ap x]++cap)=true:=fun x=>Cp hc rfl
 ((conv=>whnf);repeat((first|refine aF ?_|refine aT ?_);(first|refine rG Γ hm ?_|refine rD Γ hm z_ ?_);conv=>whnf))
 refine Az l.length (fun j=>Dp (fun _ x=>!(p x)) l j) (fun j=>[(0,.sl 5 Ap l),(1,.clo (.func f) first cap),(7,Aa l.length),(8,Aa j)]) (fun _=>[]) [] (A7 _ _) ⟨⟨E,E,Ba _,hc,E,E,E,E,Y⟩,Y,E,E⟩ ?_
 intro j hj hI
 ((first|refine rG Γ hm ?_|refine rD Γ hm z_ ?_);(conv=>whnf);repeat((first|refine aF ?_|refine aT ?_);(first|refine rG Γ hm ?_|refine rD Γ hm z_ ?_);conv=>whnf))
 refine⟨fun h=>?_,fun h=>?_⟩
 ·have h:=of_decide_eq_true h
  have hj2:j<l.length:=by omega
  ((first|refine rG Γ hm ?_|refine rD Γ hm z_ ?_);(conv=>whnf);repeat((first|refine aF ?_|refine aT ?_);(first|refine rG Γ hm ?_|refine rD Γ hm z_ ?_);conv=>whnf))
  refine⟨E,by omega,by omega,?_⟩
  ((conv=>whnf);repeat((first|refine aF ?_|refine aT ?_);(first|refine rG Γ hm ?_|refine rD Γ hm z_ ?_);conv=>whnf))
  refine Hb (hf l[j] (List.getElem_mem hj2)) E E E (by simp only[hin];rfl) E E ?_
  ((first|refine rG Γ hm ?_|refine rD Γ hm z_ ?_);(conv=>whnf);repeat((first|refine aF ?_|refine aT ?_);(first|refine rG Γ hm ?_|refine rD Γ hm z_ ?_);conv=>whnf))
  refine⟨fun h2=>?_,fun h2=>?_⟩
  ·((first|refine rG Γ hm ?_|refine rD Γ hm z_ ?_);(conv=>whnf);repeat((first|refine aF ?_|refine aT ?_);(first|refine rG Γ hm ?_|refine rD Γ hm z_ ?_);conv=>whnf))
   refine At E (.cons .tmp .nil) (congrArg Aa ?_) E
   exact B8 hj2 (fun i hi hij=>by simpa using hI i hi hij) h2
  ·((first|refine rG Γ hm ?_|refine rD Γ hm z_ ?_);(conv=>whnf);repeat((first|refine aF ?_|refine aT ?_);(first|refine rG Γ hm ?_|refine rD Γ hm z_ ?_);conv=>whnf))
   refine iL ?_
   ((conv=>whnf);repeat((first|refine aF ?_|refine aT ?_);(first|refine rG Γ hm ?_|refine rD Γ hm z_ ?_);conv=>whnf))
   exact Ay [] hI hj2 (A6 hI hj2 (by simp[h2])) ⟨⟨E,E,Ba _,hc,E,E,E,E,Y⟩,Y,E,E⟩
 ·have h:=of_decide_eq_false h
  ((first|refine rG Γ hm ?_|refine rD Γ hm z_ ?_);(conv=>whnf);repeat((first|refine aF ?_|refine aT ?_);(first|refine rG Γ hm ?_|refine rD Γ hm z_ ?_);conv=>whnf))
  refine At E (.cons .tmp .nil) (congrArg Aa ?_) E
  exact C7 (fun i hi=>by simpa using hI i hi q_)
theorem Q3 (l:List Flood) (p:Flood→Bool) (f:FuncId) (first cap:List SV) (hc:(SV.clo (.func f) first cap).inn []=true) (hf:∀ x∈l,Eu Tryz.prog f (first++[Ax x]++cap) (Ab (p x))) (hl:Ag l) :
  Sy.Spec Tryz.prog 161 [.sl 4 Ax l,.clo (.func f) first cap] [] (Aa (Bd p l)) []:=cT F161 Tryz.ntmps161 fun F hF=>by
 unfold Ag at hl
 have hin:∀ x:Flood,Bn [] (first++[Ax x]++cap)=true:=fun x=>Cp hc rfl
 ((conv=>whnf);repeat((first|refine aF ?_|refine aT ?_);(first|refine rG Γ hm ?_|refine rD Γ hm z_ ?_);conv=>whnf))
 refine Az l.length (fun j=>Dp (fun _ x=>!(p x)) l j) (fun j=>[(0,.sl 4 Ax l),(1,.clo (.func f) first cap),(7,Aa l.length),(8,Aa j)]) (fun _=>[]) [] (A7 _ _) ⟨⟨E,E,Ba _,hc,E,E,E,E,Y⟩,Y,E,E⟩ ?_
 intro j hj hI
 ((first|refine rG Γ hm ?_|refine rD Γ hm z_ ?_);(conv=>whnf);repeat((first|refine aF ?_|refine aT ?_);(first|refine rG Γ hm ?_|refine rD Γ hm z_ ?_);conv=>whnf))
 refine⟨fun h=>?_,fun h=>?_⟩
 ·have h:=of_decide_eq_true h
  have hj2:j<l.length:=by omega
  ((first|refine rG Γ hm ?_|refine rD Γ hm z_ ?_);(conv=>whnf);repeat((first|refine aF ?_|refine aT ?_);(first|refine rG Γ hm ?_|refine rD Γ hm z_ ?_);conv=>whnf))
  refine⟨E,by omega,by omega,?_⟩
  ((conv=>whnf);repeat((first|refine aF ?_|refine aT ?_);(first|refine rG Γ hm ?_|refine rD Γ hm z_ ?_);conv=>whnf))
  refine Hb (hf l[j] (List.getElem_mem hj2)) E E E (by simp only[hin];rfl) E E ?_
  ((first|refine rG Γ hm ?_|refine rD Γ hm z_ ?_);(conv=>whnf);repeat((first|refine aF ?_|refine aT ?_);(first|refine rG Γ hm ?_|refine rD Γ hm z_ ?_);conv=>whnf))
  refine⟨fun h2=>?_,fun h2=>?_⟩
  ·((first|refine rG Γ hm ?_|refine rD Γ hm z_ ?_);(conv=>whnf);repeat((first|refine aF ?_|refine aT ?_);(first|refine rG Γ hm ?_|refine rD Γ hm z_ ?_);conv=>whnf))
   refine At E (.cons .tmp .nil) (congrArg Aa ?_) E
   exact B8 hj2 (fun i hi hij=>by simpa using hI i hi hij) h2
  ·((first|refine rG Γ hm ?_|refine rD Γ hm z_ ?_);(conv=>whnf);repeat((first|refine aF ?_|refine aT ?_);(first|refine rG Γ hm ?_|refine rD Γ hm z_ ?_);conv=>whnf))
   refine iL ?_
   ((conv=>whnf);repeat((first|refine aF ?_|refine aT ?_);(first|refine rG Γ hm ?_|refine rD Γ hm z_ ?_);conv=>whnf))
   exact Ay [] hI hj2 (A6 hI hj2 (by simp[h2])) ⟨⟨E,E,Ba _,hc,E,E,E,E,Y⟩,Y,E,E⟩
 ·have h:=of_decide_eq_false h
  ((first|refine rG Γ hm ?_|refine rD Γ hm z_ ?_);(conv=>whnf);repeat((first|refine aF ?_|refine aT ?_);(first|refine rG Γ hm ?_|refine rD Γ hm z_ ?_);conv=>whnf))
  refine At E (.cons .tmp .nil) (congrArg Aa ?_) E
  exact C7 (fun i hi=>by simpa using hI i hi q_)
theorem Uw (l:List Vrf) (p:Vrf→Bool) (f:FuncId) (first cap:List SV) (hc:(SV.clo (.func f) first cap).inn []=true) (hf:∀ x∈l,Eu Tryz.prog f (first++[Bh x]++cap) (Ab (p x))) (hl:Ag l) :
  Sy.Spec Tryz.prog 442 [.sl 5 Bh l,.clo (.func f) first cap] [] (Aa (Bd p l)) []:=cT F442 Tryz.ntmps442 fun F hF=>by
 unfold Ag at hl
 have hin:∀ x:Vrf,Bn [] (first++[Bh x]++cap)=true:=fun x=>Cp hc rfl
 ((conv=>whnf);repeat((first|refine aF ?_|refine aT ?_);(first|refine rG Γ hm ?_|refine rD Γ hm z_ ?_);conv=>whnf))
 refine Az l.length (fun j=>Dp (fun _ x=>!(p x)) l j) (fun j=>[(0,.sl 5 Bh l),(1,.clo (.func f) first cap),(7,Aa l.length),(8,Aa j)]) (fun _=>[]) [] (A7 _ _) ⟨⟨E,E,Ba _,hc,E,E,E,E,Y⟩,Y,E,E⟩ ?_
 intro j hj hI
 ((first|refine rG Γ hm ?_|refine rD Γ hm z_ ?_);(conv=>whnf);repeat((first|refine aF ?_|refine aT ?_);(first|refine rG Γ hm ?_|refine rD Γ hm z_ ?_);conv=>whnf))
 refine⟨fun h=>?_,fun h=>?_⟩
 ·have h:=of_decide_eq_true h
  have hj2:j<l.length:=by omega
  ((first|refine rG Γ hm ?_|refine rD Γ hm z_ ?_);(conv=>whnf);repeat((first|refine aF ?_|refine aT ?_);(first|refine rG Γ hm ?_|refine rD Γ hm z_ ?_);conv=>whnf))
  refine⟨E,by omega,by omega,?_⟩
  ((conv=>whnf);repeat((first|refine aF ?_|refine aT ?_);(first|refine rG Γ hm ?_|refine rD Γ hm z_ ?_);conv=>whnf))
  refine Hb (hf l[j] (List.getElem_mem hj2)) E E E (by simp only[hin];rfl) E E ?_
  ((first|refine rG Γ hm ?_|refine rD Γ hm z_ ?_);(conv=>whnf);repeat((first|refine aF ?_|refine aT ?_);(first|refine rG Γ hm ?_|refine rD Γ hm z_ ?_);conv=>whnf))
  refine⟨fun h2=>?_,fun h2=>?_⟩
  ·((first|refine rG Γ hm ?_|refine rD Γ hm z_ ?_);(conv=>whnf);repeat((first|refine aF ?_|refine aT ?_);(first|refine rG Γ hm ?_|refine rD Γ hm z_ ?_);conv=>whnf))
   refine At E (.cons .tmp .nil) (congrArg Aa ?_) E
   exact B8 hj2 (fun i hi hij=>by simpa using hI i hi hij) h2
  ·((first|refine rG Γ hm ?_|refine rD Γ hm z_ ?_);(conv=>whnf);repeat((first|refine aF ?_|refine aT ?_);(first|refine rG Γ hm ?_|refine rD Γ hm z_ ?_);conv=>whnf))
   refine iL ?_
   ((conv=>whnf);repeat((first|refine aF ?_|refine aT ?_);(first|refine rG Γ hm ?_|refine rD Γ hm z_ ?_);conv=>whnf))
   exact Ay [] hI hj2 (A6 hI hj2 (by simp[h2])) ⟨⟨E,E,Ba _,hc,E,E,E,E,Y⟩,Y,E,E⟩
 ·have h:=of_decide_eq_false h
  ((first|refine rG Γ hm ?_|refine rD Γ hm z_ ?_);(conv=>whnf);repeat((first|refine aF ?_|refine aT ?_);(first|refine rG Γ hm ?_|refine rD Γ hm z_ ?_);conv=>whnf))
  refine At E (.cons .tmp .nil) (congrArg Aa ?_) E
  exact C7 (fun i hi=>by simpa using hI i hi q_)
theorem K5 (l:List Device) (p:Device→Bool) (f:FuncId) (first cap:List SV) (hc:(SV.clo (.func f) first cap).inn []=true) (hf:∀ x∈l,Eu Tryz.prog f (first++[Ap x]++cap) (Ab (p x))) (hl:Ag l) :
  Sy.Spec Tryz.prog 338 [.sl 5 Ap l,.clo (.func f) first cap] [] (Ab (decide (0≤Bd p l))) []:=cT F338 Tryz.ntmps338 fun F hF=>by
 have h0:Bn [] [.sl 5 Ap l,.clo (.func f) first cap]=true:=by simp only[Bn,hc];rfl
 ((conv=>whnf);repeat((first|refine aF ?_|refine aT ?_);(first|refine rG Γ hm ?_|refine rD Γ hm z_ ?_);conv=>whnf))
 refine I9 (Ea l p f first cap hc hf hl) F165 E E (by simp only[h0];rfl) E E ?_
 ((first|refine rG Γ hm ?_|refine rD Γ hm z_ ?_);(conv=>whnf);repeat((first|refine aF ?_|refine aT ?_);(first|refine rG Γ hm ?_|refine rD Γ hm z_ ?_);conv=>whnf))
 exact dN
theorem E9 (l:List Domain) (p:Domain→Bool) (f:FuncId) (first cap:List SV) (hc:(SV.clo (.func f) first cap).inn []=true) (hf:∀ x∈l,Eu Tryz.prog f (first++[Af x]++cap) (Ab (p x))) (hl:Ag l) :
  Sy.Spec Tryz.prog 408 [.sl 6 Af l,.clo (.func f) first cap] [] (Ab (decide (0≤Bd p l))) []:=cT F408 Tryz.ntmps408 fun F hF=>by
 have h0:Bn [] [.sl 6 Af l,.clo (.func f) first cap]=true:=by simp only[Bn,hc];rfl
 ((conv=>whnf);repeat((first|refine aF ?_|refine aT ?_);(first|refine rG Γ hm ?_|refine rD Γ hm z_ ?_);conv=>whnf))
 refine I9 (Da l p f first cap hc hf hl) F163 E E (by simp only[h0];rfl) E E ?_
 ((first|refine rG Γ hm ?_|refine rD Γ hm z_ ?_);(conv=>whnf);repeat((first|refine aF ?_|refine aT ?_);(first|refine rG Γ hm ?_|refine rD Γ hm z_ ?_);conv=>whnf))
 exact dN
theorem Xz (n:Net) (hn:n.Fin) (l:List Device) (p:Device→Bool) (f:FuncId) (first cap:List SV) (hc:(SV.clo (.func f) first cap).inn []=true) (hf:∀ x∈l,Eu Tryz.prog f (first++[Ap x]++cap) (Ab (p x))) (hl:Ag l) :
  Sy.Spec Tryz.prog 404 [Ae n,.sl 5 Ap l,.clo (.func f) first cap] [] (Aa (if Ac n=true then Bd p l else -1)) []:=cT F404 Tryz.ntmps404 fun F hF=>by
 have hr:=Aw n hn
 have q:=Ea l p f first cap hc hf hl
 ((conv=>whnf);repeat((first|refine aF ?_|refine aT ?_);(first|refine rG Γ hm ?_|refine rD Γ hm z_ ?_);conv=>whnf))
 refine c0 hr F25 ?_
 cases hb:Ac n
 ·rw[if_neg y_]
  ((first|refine rG Γ hm ?_|refine rD Γ hm z_ ?_);(conv=>whnf);repeat((first|refine aF ?_|refine aT ?_);(first|refine rG Γ hm ?_|refine rD Γ hm z_ ?_);conv=>whnf))
  exact dN
 rw[if_pos rfl]
 ((first|refine rG Γ hm ?_|refine rD Γ hm z_ ?_);(conv=>whnf);repeat((first|refine aF ?_|refine aT ?_);(first|refine rG Γ hm ?_|refine rD Γ hm z_ ?_);conv=>whnf))
 refine I9 q F165 E E (by simp only[Bn,hc,Bool.and_true];rfl) E E ?_
 ((first|refine rG Γ hm ?_|refine rD Γ hm z_ ?_);(conv=>whnf);repeat((first|refine aF ?_|refine aT ?_);(first|refine rG Γ hm ?_|refine rD Γ hm z_ ?_);conv=>whnf))
 exact dN
theorem Acd (n:Net) (hn:n.Fin) (l:List Port) (p:Port→Bool) (f:FuncId) (first cap:List SV) (hc:(SV.clo (.func f) first cap).inn []=true) (hf:∀ x∈l,Eu Tryz.prog f (first++[As x]++cap) (Ab (p x))) (hl:Ag l) :
  Sy.Spec Tryz.prog 406 [Ae n,.sl 7 As l,.clo (.func f) first cap] [] (Aa (if Ac n=true then Bd p l else -1)) []:=cT F406 Tryz.ntmps406 fun F hF=>by
 have hr:=Aw n hn
 have q:=J1 l p f first cap hc hf hl
 ((conv=>whnf);repeat((first|refine aF ?_|refine aT ?_);(first|refine rG Γ hm ?_|refine rD Γ hm z_ ?_);conv=>whnf))
 refine c0 hr F25 ?_
 cases hb:Ac n
 ·rw[if_neg y_]
  ((first|refine rG Γ hm ?_|refine rD Γ hm z_ ?_);(conv=>whnf);repeat((first|refine aF ?_|refine aT ?_);(first|refine rG Γ hm ?_|refine rD Γ hm z_ ?_);conv=>whnf))
  exact dN
 rw[if_pos rfl]
 ((first|refine rG Γ hm ?_|refine rD Γ hm z_ ?_);(conv=>whnf);repeat((first|refine aF ?_|refine aT ?_);(first|refine rG Γ hm ?_|refine rD Γ hm z_ ?_);conv=>whnf))
 refine I9 q F121 E E (by simp only[Bn,hc,Bool.and_true];rfl) E E ?_
 ((first|refine rG Γ hm ?_|refine rD Γ hm z_ ?_);(conv=>whnf);repeat((first|refine aF ?_|refine aT ?_);(first|refine rG Γ hm ?_|refine rD Γ hm z_ ?_);conv=>whnf))
 exact dN
theorem Ae7 (n:Net) (hn:n.Fin) (l:List Vrf) (p:Vrf→Bool) (f:FuncId) (first cap:List SV) (hc:(SV.clo (.func f) first cap).inn []=true) (hf:∀ x∈l,Eu Tryz.prog f (first++[Bh x]++cap) (Ab (p x))) (hl:Ag l) :
  Sy.Spec Tryz.prog 414 [Ae n,.sl 5 Bh l,.clo (.func f) first cap] [] (Aa (if Ac n=true then Bd p l else -1)) []:=cT F414 Tryz.ntmps414 fun F hF=>by
 have hr:=Aw n hn
 have q:=Uw l p f first cap hc hf hl
 ((conv=>whnf);repeat((first|refine aF ?_|refine aT ?_);(first|refine rG Γ hm ?_|refine rD Γ hm z_ ?_);conv=>whnf))
 refine c0 hr F25 ?_
 cases hb:Ac n
 ·rw[if_neg y_]
  ((first|refine rG Γ hm ?_|refine rD Γ hm z_ ?_);(conv=>whnf);repeat((first|refine aF ?_|refine aT ?_);(first|refine rG Γ hm ?_|refine rD Γ hm z_ ?_);conv=>whnf))
  exact dN
 rw[if_pos rfl]
 ((first|refine rG Γ hm ?_|refine rD Γ hm z_ ?_);(conv=>whnf);repeat((first|refine aF ?_|refine aT ?_);(first|refine rG Γ hm ?_|refine rD Γ hm z_ ?_);conv=>whnf))
 refine I9 q F442 E E (by simp only[Bn,hc,Bool.and_true];rfl) E E ?_
 ((first|refine rG Γ hm ?_|refine rD Γ hm z_ ?_);(conv=>whnf);repeat((first|refine aF ?_|refine aT ?_);(first|refine rG Γ hm ?_|refine rD Γ hm z_ ?_);conv=>whnf))
 exact dN
theorem Xq (s:ByteArray) (d:Device):Sy.Spec Tryz.prog 405 [Ap d,.ref 1 (Ak s) 0] [] (Ab (d.name == s)) []:=cT F405 Tryz.ntmps405 fun F hF=>by
 refine T ?_
 exact D
theorem Abz (dev:Int) (s:ByteArray) (p:Port):Sy.Spec Tryz.prog 407 [As p,.ref 1 (Aa dev) 0,.ref 1 (Ak s) 0] [] (Ab (p.dev == dev && p.name == s)) []:=cT F407 Tryz.ntmps407 fun F hF=>by
 cases h:(p.dev == dev)
 ·refine T ?_
  exact D
 ·refine T ?_
  exact D
theorem Aet (dev:Int) (s:ByteArray) (p:Vrf):Sy.Spec Tryz.prog 415 [Bh p,.ref 1 (Aa dev) 0,.ref 1 (Ak s) 0] [] (Ab (p.dev == dev && p.name == s)) []:=cT F415 Tryz.ntmps415 fun F hF=>by
 cases h:(p.dev == dev)
 ·refine T ?_
  exact D
 ·refine T ?_
  exact D
theorem D7 (n:Net) (hn:n.Fin) (hr:Ac n=true) (s:ByteArray):Sy.Spec Tryz.prog 340 [Ae n,Ak s] [] (Aa (Cb n s)) []:=cT F340 Tryz.ntmps340 fun F hF=>by
 have q:=Xz n hn n.devices (fun d=>d.name == s) 405 [] [.ref 1 (Ak s) 0] rfl (fun d _=>⟨⟨_,_,F405⟩,Xq s d⟩) hn.devices
 rw[if_pos hr]at q
 ((conv=>whnf);repeat((first|refine aF ?_|refine aT ?_);(first|refine rG Γ hm ?_|refine rD Γ hm z_ ?_);conv=>whnf))
 refine A1 3 1 (Ak s) E E E ?_
 refine c0 q F404 ?_
 ((first|refine rG Γ hm ?_|refine rD Γ hm z_ ?_);(conv=>whnf);repeat((first|refine aF ?_|refine aT ?_);(first|refine rG Γ hm ?_|refine rD Γ hm z_ ?_);conv=>whnf))
 exact dN
theorem Mn (n:Net) (hn:n.Fin) (hr:Ac n=true) (dev:Int) (s:ByteArray):Sy.Spec Tryz.prog 341 [Ae n,Aa dev,Ak s] [] (Aa (Qu n dev s)) []:=cT F341 Tryz.ntmps341 fun F hF=>by
 have q:=Acd n hn n.ports (fun p=>p.dev == dev && p.name == s) 407 [] [.ref 1 (Aa dev) 0,.ref 1 (Ak s) 0] rfl (fun d _=>⟨⟨_,_,F407⟩,Abz dev s d⟩) hn.ports
 rw[if_pos hr]at q
 ((conv=>whnf);repeat((first|refine aF ?_|refine aT ?_);(first|refine rG Γ hm ?_|refine rD Γ hm z_ ?_);conv=>whnf))
 refine A1 4 1 (Aa dev) E E E ?_
 refine A1 5 1 (Ak s) E E E ?_
 refine c0 q F406 ?_
 ((first|refine rG Γ hm ?_|refine rD Γ hm z_ ?_);(conv=>whnf);repeat((first|refine aF ?_|refine aT ?_);(first|refine rG Γ hm ?_|refine rD Γ hm z_ ?_);conv=>whnf))
 exact dN
theorem Wn (n:Net) (hn:n.Fin) (hr:Ac n=true) (dev:Int) (s:ByteArray):Sy.Spec Tryz.prog 348 [Ae n,Aa dev,Ak s] [] (Aa (Afs n dev s)) []:=cT F348 Tryz.ntmps348 fun F hF=>by
 have q:=Ae7 n hn n.vrfs (fun p=>p.dev == dev && p.name == s) 415 [] [.ref 1 (Aa dev) 0,.ref 1 (Ak s) 0] rfl (fun d _=>⟨⟨_,_,F415⟩,Aet dev s d⟩) hn.vrfs
 rw[if_pos hr]at q
 ((conv=>whnf);repeat((first|refine aF ?_|refine aT ?_);(first|refine rG Γ hm ?_|refine rD Γ hm z_ ?_);conv=>whnf))
 refine A1 4 1 (Aa dev) E E E ?_
 refine A1 5 1 (Ak s) E E E ?_
 refine c0 q F414 ?_
 ((first|refine rG Γ hm ?_|refine rD Γ hm z_ ?_);(conv=>whnf);repeat((first|refine aF ?_|refine aT ?_);(first|refine rG Γ hm ?_|refine rD Γ hm z_ ?_);conv=>whnf))
 exact dN
theorem Ex (n:Net) (hn:n.Fin) (hr:Ac n=true) (dev vlan:Int):Sy.Spec Tryz.prog 168 [Ae n,Aa dev,Aa vlan] [] (Aa (Dn n dev vlan)) []:=by
 have q:=Je n hn dev vlan
 rwa [Bl,if_pos hr]at q
end Go.Sy.YtjenpnjajjplkaaGreatDoor
namespace Go.Sy.YtjenpnjajjplkaaGreatDoor
open Go.Proofs
attribute [local irreducible] Go.Sy.G Go.Sy.DR
set_option maxRecDepth 100000
set_option maxHeartbeats 4000000
theorem Eo {α:Type} {p:α→Bool} {l:List α} (h:¬ Bd p l<0):∃ i:Nat,Bd p l=i∧i<l.length:=by
 have:=Ot p l
 exact⟨(Bd p l).toNat,by omega,by omega⟩
theorem Ir (n:Net) (hn:n.Fin) (l:LineM) (hl:LineW l) (k:Int):Sy.Spec Tryz.prog 346 [Ae n,Au l,Aa k] [] (.tup [Aa (begT n l k).1,Aa (begT n l k).2]) []:=cT F346 Tryz.ntmps346 fun F hF=>by
 have q1:=Ej l hl
 have q2:=Aw n hn
 have hres:=begT.eq_1 n l k
 have hf:=fitsB.eq_1 n l k
 generalize begT n l k=res at *
 generalize fitsB n l k=f at *
 cases h1:(l.kind == k) with
 | false =>
  have g1:(l.kind != k)=true:=by rw[bne,h1];rfl
  rw[h1,Bool.false_and]at hf
  rw[hf,if_pos rfl]at hres
  subst hres
  refine T ?_
  exact D
 | true =>
  have g1:(l.kind != k)=false:=by rw[bne,h1];rfl
  rw[h1,Bool.true_and]at hf
  cases h2:B0 l with
  | false =>
   rw[h2]at q1 hf
   rw[hf,Bool.false_and,if_pos rfl]at hres
   subst hres
   refine T ?_
   refine C q1 F343 ?_
   exact D
  | true =>
   rw[h2]at q1 hf
   cases h3:Ac n with
   | false =>
    rw[h3]at q2 hf
    rw[hf,Bool.and_false,if_pos rfl]at hres
    subst hres
    refine T ?_
    refine C q1 F343 ?_
    refine C q2 F25 ?_
    exact D
   | true =>
    have q3:=D7 n hn h3 l.dev
    rw[h3]at q2 hf
    rw[hf,if_neg y_]at hres
    generalize Cb n l.dev=d at *
    by_cases h4:d<0
    ·have g4:decide (d<0)=true:=decide_eq_true h4
     rw[if_pos h4]at hres
     subst hres
     refine T ?_
     refine C q1 F343 ?_
     refine C q2 F25 ?_
     refine C q3 F340 ?_
     exact D
    ·have g4:decide (d<0)=false:=decide_eq_false h4
     rw[if_neg h4]at hres
     subst hres
     refine T ?_
     refine C q1 F343 ?_
     refine C q2 F25 ?_
     refine C q3 F340 ?_
     exact D
theorem T1 (n:Net) (hn:n.Fin) (l:LineM) (hl:LineW l) (k:Int):Sy.Spec Tryz.prog 347 [Ae n,Au l,Aa k] [] (.tup [Aa (begT n l k).1,Aa (begT n l k).2]) []:=cT F347 Tryz.ntmps347 fun F hF=>by
 have q1:=Ej l hl
 have q2:=Aw n hn
 have hres:=begT.eq_1 n l k
 have hf:=fitsB.eq_1 n l k
 generalize begT n l k=res at *
 generalize fitsB n l k=f at *
 cases h1:(l.kind == k) with
 | false =>
  have g1:(l.kind != k)=true:=by rw[bne,h1];rfl
  rw[h1,Bool.false_and]at hf
  rw[hf,if_pos rfl]at hres
  subst hres
  refine T ?_
  exact D
 | true =>
  have g1:(l.kind != k)=false:=by rw[bne,h1];rfl
  rw[h1,Bool.true_and]at hf
  cases h2:B0 l with
  | false =>
   rw[h2]at q1 hf
   rw[hf,Bool.false_and,if_pos rfl]at hres
   subst hres
   refine T ?_
   refine C q1 F343 ?_
   exact D
  | true =>
   rw[h2]at q1 hf
   cases h3:Ac n with
   | false =>
    rw[h3]at q2 hf
    rw[hf,Bool.and_false,if_pos rfl]at hres
    subst hres
    refine T ?_
    refine C q1 F343 ?_
    refine C q2 F25 ?_
    exact D
   | true =>
    have q3:=D7 n hn h3 l.dev
    rw[h3]at q2 hf
    rw[hf,if_neg y_]at hres
    generalize Cb n l.dev=d at *
    by_cases h4:d<0
    ·have g4:decide (d<0)=true:=decide_eq_true h4
     rw[if_pos h4]at hres
     subst hres
     refine T ?_
     refine C q1 F343 ?_
     refine C q2 F25 ?_
     refine C q3 F340 ?_
     exact D
    ·have g4:decide (d<0)=false:=decide_eq_false h4
     rw[if_neg h4]at hres
     subst hres
     refine T ?_
     refine C q1 F343 ?_
     refine C q2 F25 ?_
     refine C q3 F340 ?_
     exact D
theorem beg_ok {n:Net} {l:LineM} {k:Int} (h:(begT n l k).2=0):fitsB n l k=true∧Ac n=true∧∃ i:Nat,(begT n l k).1=i∧i<n.devices.length:=by
 unfold begT at h ⊢
 cases hf:fitsB n l k with
 | false=>rw[hf,if_pos rfl]at h;exact absurd h j_
 | true =>
  rw[hf,if_neg y_]at h
  rw[if_neg y_]
  by_cases hd:Cb n l.dev<0
  ·rw[if_pos hd]at h;exact absurd h j_
  ·rw[if_neg hd]
   refine⟨E,?_,Eo hd⟩
   unfold fitsB at hf
   simp only[Bool.and_eq_true]at hf
   exact hf.2.2
theorem ownerC (a:Int) (d:Device):Sy.Spec Tryz.prog 166 [Ap d,.ref 1 (A5 a) 0] [] (Ab (d.vtep == a)) []:=cT F166 Tryz.ntmps166 fun F hF=>by
 refine T ?_
 exact D
theorem Abx (n:Net) (hn:n.Fin) (a:Int):Sy.Spec Tryz.prog 64 [Ae n,A5 a] [] (Aa (C3 n a)) []:=cT F64 Tryz.ntmps64 fun F hF=>by
 have q:=Ea n.devices (fun d=>d.vtep == a) 166 [] [.ref 1 (A5 a) 0] rfl (fun d _=>⟨⟨_,_,F166⟩,ownerC a d⟩) hn.devices
 ((conv=>whnf);repeat((first|refine aF ?_|refine aT ?_);(first|refine rG Γ hm ?_|refine rD Γ hm z_ ?_);conv=>whnf))
 refine A1 3 1 (A5 a) E E E ?_
 refine c0 q F165 ?_
 ((first|refine rG Γ hm ?_|refine rD Γ hm z_ ?_);(conv=>whnf);repeat((first|refine aF ?_|refine aT ?_);(first|refine rG Γ hm ?_|refine rD Γ hm z_ ?_);conv=>whnf))
 exact dN
theorem Aip (dev vni:Int) (d:Domain):Sy.Spec Tryz.prog 164 [Af d,.ref 1 (Aa dev) 0,.ref 1 (Aa vni) 0] [] (Ab (d.dev == dev && (d.vni == vni && vni != 0))) []:=cT F164 Tryz.ntmps164 fun F hF=>by
 cases h:(d.dev == dev)
 ·refine T ?_
  exact D
 ·cases h2:(d.vni == vni)
  ·refine T ?_
   exact D
  ·refine T ?_
   exact D
theorem Oi (n:Net) (hn:n.Fin) (dev vni:Int):Sy.Spec Tryz.prog 63 [Ae n,Aa dev,Aa vni] [] (Aa (J3 n dev vni)) []:=cT F63 Tryz.ntmps63 fun F hF=>by
 have q:=Da n.domains (fun d=>d.dev == dev && (d.vni == vni && vni != 0)) 164 [] [.ref 1 (Aa dev) 0,.ref 1 (Aa vni) 0] rfl (fun d _=>⟨⟨_,_,F164⟩,Aip dev vni d⟩) hn.domains
 ((conv=>whnf);repeat((first|refine aF ?_|refine aT ?_);(first|refine rG Γ hm ?_|refine rD Γ hm z_ ?_);conv=>whnf))
 refine A1 4 1 (Aa dev) E E E ?_
 refine A1 5 1 (Aa vni) E E E ?_
 refine c0 q F163 ?_
 ((first|refine rG Γ hm ?_|refine rD Γ hm z_ ?_);(conv=>whnf);repeat((first|refine aF ?_|refine aT ?_);(first|refine rG Γ hm ?_|refine rD Γ hm z_ ?_);conv=>whnf))
 exact dN
theorem Aio (dev vni:Int) (f:Flood):Sy.Spec Tryz.prog 162 [Ax f,.ref 1 (Aa dev) 0,.ref 1 (Aa vni) 0] [] (Ab (f.dev == dev && f.vni == vni)) []:=cT F162 Tryz.ntmps162 fun F hF=>by
 cases h:(f.dev == dev)
 ·refine T ?_
  exact D
 ·refine T ?_
  exact D
theorem Xn (n:Net) (hn:n.Fin) (dev vni:Int):Sy.Spec Tryz.prog 62 [Ae n,Aa dev,Aa vni] [] (Aa (Eh n dev vni)) []:=cT F62 Tryz.ntmps62 fun F hF=>by
 have q:=Q3 n.floods (fun f=>f.dev == dev && f.vni == vni) 162 [] [.ref 1 (Aa dev) 0,.ref 1 (Aa vni) 0] rfl (fun f _=>⟨⟨_,_,F162⟩,Aio dev vni f⟩) hn.floods
 ((conv=>whnf);repeat((first|refine aF ?_|refine aT ?_);(first|refine rG Γ hm ?_|refine rD Γ hm z_ ?_);conv=>whnf))
 refine A1 4 1 (Aa dev) E E E ?_
 refine A1 5 1 (Aa vni) E E E ?_
 refine c0 q F161 ?_
 ((first|refine rG Γ hm ?_|refine rD Γ hm z_ ?_);(conv=>whnf);repeat((first|refine aF ?_|refine aT ?_);(first|refine rG Γ hm ?_|refine rD Γ hm z_ ?_);conv=>whnf))
 exact dN
theorem Ain (n:Net) (hn:n.Fin) (l:LineM) (hl:LineW l):Sy.Spec Tryz.prog 284 [Ae n,Au l] [] (.tup [Ae (putVtep n l).1,Aa (putVtep n l).2]) []:=cT F284 Tryz.ntmps284 fun F hF=>by
 have q1:=Ir n hn l hl 5
 have hok:=@beg_ok n l 5
 have hres:=putVtep.eq_1 n l
 have q2:=Abx n hn l.addr
 have q3:=Jv n hn
 generalize putVtep n l=res at *
 generalize begT n l 5=b at *
 obtain ⟨d,e⟩:=b
 dsimp only at hres hok q1
 by_cases h1:e≠0
 ·have g1:(e != 0)=true:=by rw[bne_iff_ne];exact h1
  rw[if_pos h1]at hres
  subst hres
  refine T ?_
  refine C q1 F346 ?_
  refine Am 4 (B1 emptyN) E (.cons .nil (.cons .nil (.cons .nil (.cons .nil (.cons .nil (.cons .nil (.cons .nil (.cons .nil .nil)))))))) ?_
  refine T ?_
  exact D
 have g1:(e != 0)=false:=by rw[bne_eq_false_iff_eq];omega
 rw[if_neg h1]at hres
 obtain ⟨_,_,i,hi,hlt⟩:=hok q_
 subst hi
 clear hok
 have hlt0:((i:Nat):Int).toNat<n.devices.length:=hlt
 have hnth:nth n.devices (i:Int)=n.devices[((i:Nat):Int).toNat]'hlt0:=Ad hlt0
 rw[hnth]at hres
 by_cases h2:(n.devices[((i:Nat):Int).toNat]'hlt0).vtep≠0
 ·have g2:((n.devices[((i:Nat):Int).toNat]'hlt0).vtep != 0)=true:=by rw[bne_iff_ne];exact h2
  rw[if_pos (.inl h2)]at hres
  subst hres
  refine T ?_
  refine C q1 F346 ?_
  refine Am 4 (B1 emptyN) E (.cons .nil (.cons .nil (.cons .nil (.cons .nil (.cons .nil (.cons .nil (.cons .nil (.cons .nil .nil)))))))) ?_
  refine T ?_
  exact D
 have g2:((n.devices[((i:Nat):Int).toNat]'hlt0).vtep != 0)=false:=by rw[bne_eq_false_iff_eq];omega
 by_cases h3:0≤C3 n l.addr
 ·have g3:decide (C3 n l.addr≥0)=true:=decide_eq_true h3
  rw[if_pos (.inr h3)]at hres
  subst hres
  refine T ?_
  refine C q1 F346 ?_
  refine C q2 F64 ?_
  refine Am 4 (B1 emptyN) E (.cons .nil (.cons .nil (.cons .nil (.cons .nil (.cons .nil (.cons .nil (.cons .nil (.cons .nil .nil)))))))) ?_
  refine T ?_
  exact D
 have g3:decide (C3 n l.addr≥0)=false:=decide_eq_false h3
 rw[if_neg (fun h=>h.elim h2 h3)]at hres
 have hset:Ip n.devices (i:Int) l.addr=n.devices.set ((i:Nat):Int).toNat { (n.devices[((i:Nat):Int).toNat]'hlt0) with vtep:=l.addr }:=by rw[Ip,hnth]
 rw[hset]at hres
 subst hres
 have hne:n.devices≠[]:=fun e=>by rw[e]at hlt;cases hlt
 refine T ?_
 refine C q1 F346 ?_
 refine C q2 F64 ?_
 refine X (Aj [(0,901),(1,902),(2,903),(3,904),(4,905),(5,906),(6,907),(7,908)] E F61 q3 E W E V) ?_
 refine⟨hne,?_⟩
 refine T ?_
 refine⟨{ (n.devices[((i:Nat):Int).toNat]'hlt0) with vtep:=l.addr },rfl,rfl,?_⟩
 refine T ?_
 refine Ah 901 E ?_
 refine Ah 902 E ?_
 refine Ah 903 E ?_
 refine Ah 904 E ?_
 refine Ah 905 E ?_
 refine Ah 906 E ?_
 refine Ah 907 E ?_
 refine Ah 908 E ?_
 exact D
theorem Ws (l:List Int) (x:Int) (hl:Ag l):Sy.Spec Tryz.prog 249 [.sl 1 A5 l,A5 x] [] (Aa (Bd (· == x) l)) []:=cT F249 Tryz.ntmps249 fun F hF=>by
 unfold Ag at hl
 ((conv=>whnf);repeat((first|refine aF ?_|refine aT ?_);(first|refine rG Γ hm ?_|refine rD Γ hm z_ ?_);conv=>whnf))
 refine Az l.length (fun j=>∀ i (h:i<l.length),i<j→(l[i] == x)=false) (fun j=>[(0,.sl 1 A5 l),(1,A5 x),(7,Aa l.length),(8,Aa j)]) (fun _=>[]) [] (fun i h hj=>absurd hj q_) ⟨⟨E,E,E,E,E,E,E,E,Y⟩,Y,E,E⟩ ?_
 intro j hj hI
 ((first|refine rG Γ hm ?_|refine rD Γ hm z_ ?_);(conv=>whnf);repeat((first|refine aF ?_|refine aT ?_);(first|refine rG Γ hm ?_|refine rD Γ hm z_ ?_);conv=>whnf))
 (repeat' (first | (refine⟨fun h=>?_,fun h=>?_⟩<;>(repeat (first | simp only[Ar]at h | simp only[decide_eq_true_eq]at h | simp only[decide_eq_false_iff_not]at h | simp only[beq_iff_eq]at h | simp only[beq_eq_false_iff_ne]at h | simp only[bne_iff_ne]at h | simp only[bne_eq_false_iff_eq]at h | simp only[Bool.and_eq_true]at h | simp only[Bool.or_eq_true]at h | simp only[Bool.and_eq_false_iff]at h | simp only[Bool.or_eq_false_iff]at h | simp only[Bool.not_eq_true']at h | simp only[Bool.not_eq_false']at h | simp only[Bool.not_eq_eq_eq_not]at h | simp only[Bool.not_true]at h | simp only[Bool.not_false]at h))<;>((first|refine rg ?_|refine rd z_ ?_);(conv=>whnf);repeat((first|refine aF ?_|refine aT ?_);(first|refine rg ?_|refine rd z_ ?_);(conv=>whnf)))) | (refine At rfl (.cons .tmp .nil) ?_ rfl) | (refine⟨z_,?_⟩;((conv=>whnf);repeat((first|refine aF ?_|refine aT ?_);(first|refine rg ?_|refine rd z_ ?_);(conv=>whnf)))) | (refine⟨by (first | (unfold I64;omega) | omega | (simp only[Int.toNat_natCast];omega) | done),by (first | (unfold I64;omega) | omega | (simp only[Int.toNat_natCast];omega) | done),?_⟩;((conv=>whnf);repeat((first|refine aF ?_|refine aT ?_);(first|refine rg ?_|refine rd z_ ?_);(conv=>whnf)))) | (refine⟨by (first | (unfold I64;omega) | omega | (simp only[Int.toNat_natCast];omega) | done),?_⟩;((conv=>whnf);repeat((first|refine aF ?_|refine aT ?_);(first|refine rg ?_|refine rd z_ ?_);(conv=>whnf)))) | refine Ay [] hI q_ ?_ ⟨⟨rfl,rfl,rfl,rfl,rfl,rfl,rfl,rfl,trivial⟩,trivial,rfl,rfl⟩))
 all_goals try (refine congrArg Aa ?_)
 ·exact B8 q_ hI (by simpa using h.symm)
 ·intro i hi hij
  rcases Nat.lt_or_ge i j with h1 | h1
  ·exact hI i hi h1
  ·have:i=j:=by omega
   subst this
   simpa using Ne.symm h
 ·exact C7 (fun i hi=>hI i hi q_)
theorem Jw (l:List Int) (x:Int) (hl:Ag l):Sy.Spec Tryz.prog 150 [.sl 1 A5 l,A5 x] [] (Ab (inB l x)) []:=cT F150 Tryz.ntmps150 fun F hF=>by
 ((conv=>whnf);repeat((first|refine aF ?_|refine aT ?_);(first|refine rG Γ hm ?_|refine rD Γ hm z_ ?_);conv=>whnf))
 (repeat' (first | (refine⟨fun h=>?_,fun h=>?_⟩<;>(repeat (first | simp only[Ar]at h | simp only[decide_eq_true_eq]at h | simp only[decide_eq_false_iff_not]at h | simp only[beq_iff_eq]at h | simp only[beq_eq_false_iff_ne]at h | simp only[bne_iff_ne]at h | simp only[bne_eq_false_iff_eq]at h | simp only[Bool.and_eq_true]at h | simp only[Bool.or_eq_true]at h | simp only[Bool.and_eq_false_iff]at h | simp only[Bool.or_eq_false_iff]at h | simp only[Bool.not_eq_true']at h | simp only[Bool.not_eq_false']at h | simp only[Bool.not_eq_eq_eq_not]at h | simp only[Bool.not_true]at h | simp only[Bool.not_false]at h))<;>((first|refine rg ?_|refine rd z_ ?_);(conv=>whnf);repeat((first|refine aF ?_|refine aT ?_);(first|refine rg ?_|refine rd z_ ?_);(conv=>whnf)))) | (refine At rfl (.cons .tmp .nil) ?_ rfl) | (refine⟨z_,?_⟩;((conv=>whnf);repeat((first|refine aF ?_|refine aT ?_);(first|refine rg ?_|refine rd z_ ?_);(conv=>whnf)))) | (refine⟨by (first | (unfold I64;omega) | omega | (simp only[Int.toNat_natCast];omega) | done),by (first | (unfold I64;omega) | omega | (simp only[Int.toNat_natCast];omega) | done),?_⟩;((conv=>whnf);repeat((first|refine aF ?_|refine aT ?_);(first|refine rg ?_|refine rd z_ ?_);(conv=>whnf)))) | (refine⟨by (first | (unfold I64;omega) | omega | (simp only[Int.toNat_natCast];omega) | done),?_⟩;((conv=>whnf);repeat((first|refine aF ?_|refine aT ?_);(first|refine rg ?_|refine rd z_ ?_);(conv=>whnf)))) | (refine c0 (Ws _ _ hl) F249 ?_;((first|refine rg ?_|refine rd z_ ?_);(conv=>whnf);repeat((first|refine aF ?_|refine aT ?_);(first|refine rg ?_|refine rd z_ ?_);(conv=>whnf)))) | (refine cD (Ws _ _ hl) F249 ?_;((first|refine rg ?_|refine rd z_ ?_);(conv=>whnf);repeat((first|refine aF ?_|refine aT ?_);(first|refine rg ?_|refine rd z_ ?_);(conv=>whnf))))))
 exact congrArg Ab (Ia _ _).symm
theorem ovVniS (n:Net) (hn:n.Fin) (l:LineM) (hl:LineW l):Sy.Spec Tryz.prog 285 [Ae n,Au l] [] (.tup [Ae (putVni n l).1,Aa (putVni n l).2]) []:=cT F285 Tryz.ntmps285 fun F hF=>by
 have hok:=@beg_ok n l 6
 have hres:=putVni.eq_1 n l
 have q1:=Ir n hn l hl 6
 have qcopy:=Jv n hn
 generalize putVni n l=res at *
 generalize begT n l 6=b at *
 obtain ⟨d,e⟩:=b
 dsimp only at hres hok q1
 by_cases h1:e≠0
 ·have g1:(e != 0)=true:=by rw[bne_iff_ne];exact h1
  rw[if_pos h1]at hres
  subst hres
  refine T ?_
  refine C q1 F346 ?_
  refine Am 4 (B1 emptyN) E (.cons .nil (.cons .nil (.cons .nil (.cons .nil (.cons .nil (.cons .nil (.cons .nil (.cons .nil .nil)))))))) ?_
  refine T ?_
  exact D
 have g1:(e != 0)=false:=by rw[bne_eq_false_iff_eq];omega
 rw[if_neg h1]at hres
 obtain ⟨_,hr,i,hi,hlt⟩:=hok q_
 subst hi
 clear hok
 have hlt0:((i:Nat):Int).toNat<n.devices.length:=hlt
 have hnth:nth n.devices (i:Int)=n.devices[((i:Nat):Int).toNat]'hlt0:=Ad hlt0
 rw[hnth]at hres
 have q2:=Ex n hn hr (i:Int) l.vlan
 have q3:=Oi n hn (i:Int) l.num
 have hdr:Dn n (i:Int) l.vlan<0∨∃ k:Nat,Dn n (i:Int) l.vlan=k∧k<n.domains.length:=by
  by_cases h:Dn n (i:Int) l.vlan<0
  ·exact .inl h
  ·exact .inr (Eo h)
 generalize Dn n (i:Int) l.vlan=dm at *
 by_cases h2:(n.devices[((i:Nat):Int).toNat]'hlt0).vtep=0
 ·have g2:((n.devices[((i:Nat):Int).toNat]'hlt0).vtep == 0)=true:=by rw[beq_iff_eq];exact h2
  rw[if_pos h2]at hres
  subst hres
  refine T ?_
  refine C q1 F346 ?_
  refine C q2 F168 ?_
  refine Am 4 (B1 emptyN) E (.cons .nil (.cons .nil (.cons .nil (.cons .nil (.cons .nil (.cons .nil (.cons .nil (.cons .nil .nil)))))))) ?_
  refine T ?_
  exact D
 have g2:((n.devices[((i:Nat):Int).toNat]'hlt0).vtep == 0)=false:=by rw[beq_eq_false_iff_ne];exact h2
 rw[if_neg h2]at hres
 by_cases h3:dm<0
 ·have g3:decide (dm<0)=true:=decide_eq_true h3
  rw[if_pos h3]at hres
  subst hres
  refine T ?_
  refine C q1 F346 ?_
  refine C q2 F168 ?_
  refine Am 4 (B1 emptyN) E (.cons .nil (.cons .nil (.cons .nil (.cons .nil (.cons .nil (.cons .nil (.cons .nil (.cons .nil .nil)))))))) ?_
  refine T ?_
  exact D
 have g3:decide (dm<0)=false:=decide_eq_false h3
 rw[if_neg h3]at hres
 obtain ⟨k,hk,hkl⟩:=hdr.resolve_left h3
 subst hk
 clear hdr
 have hkl0:((k:Nat):Int).toNat<n.domains.length:=hkl
 have hnd:nth n.domains (k:Int)=n.domains[((k:Nat):Int).toNat]'hkl0:=Ad hkl0
 rw[hnd]at hres
 by_cases h4:(n.domains[((k:Nat):Int).toNat]'hkl0).vni≠0
 ·have g4:((n.domains[((k:Nat):Int).toNat]'hkl0).vni != 0)=true:=by rw[bne_iff_ne];exact h4
  rw[if_pos (.inl h4)]at hres
  subst hres
  refine T ?_
  refine C q1 F346 ?_
  refine C q2 F168 ?_
  refine Am 4 (B1 emptyN) E (.cons .nil (.cons .nil (.cons .nil (.cons .nil (.cons .nil (.cons .nil (.cons .nil (.cons .nil .nil)))))))) ?_
  refine T ?_
  exact D
 have g4:((n.domains[((k:Nat):Int).toNat]'hkl0).vni != 0)=false:=by rw[bne_eq_false_iff_eq];omega
 by_cases h5:0≤J3 n (i:Int) l.num
 ·have g5:decide (J3 n (i:Int) l.num≥0)=true:=decide_eq_true h5
  rw[if_pos (.inr h5)]at hres
  subst hres
  refine T ?_
  refine C q1 F346 ?_
  refine C q2 F168 ?_
  refine C q3 F63 ?_
  refine Am 4 (B1 emptyN) E (.cons .nil (.cons .nil (.cons .nil (.cons .nil (.cons .nil (.cons .nil (.cons .nil (.cons .nil .nil)))))))) ?_
  refine T ?_
  exact D
 have g5:decide (J3 n (i:Int) l.num≥0)=false:=decide_eq_false h5
 rw[if_neg (fun h=>h.elim h4 h5)]at hres
 have hne:n.domains≠[]:=fun e=>by rw[e]at hkl;cases hkl
 have hne2:∀ x,n.domains.set ((k:Nat):Int).toNat x≠[]:=fun x e=>by
  have:=congrArg List.length e
  rw[List.length_set]at this
  simp at this;exact hne this
 have hk2:∀ x,((k:Nat):Int).toNat<(n.domains.set ((k:Nat):Int).toNat x).length:=fun x=>by rw[List.length_set];exact hkl0
 have hset:∀ x y,(n.domains.set ((k:Nat):Int).toNat x).set ((k:Nat):Int).toNat y=n.domains.set ((k:Nat):Int).toNat y:=fun x y=>List.set_set ..
 have hget:∀ x,(n.domains.set ((k:Nat):Int).toNat x)[((k:Nat):Int).toNat]'(hk2 x)=x:=fun x=>List.getElem_set_self ..
 rw[← hset (⟨(n.domains[((k:Nat):Int).toNat]'hkl0).dev,(n.domains[((k:Nat):Int).toNat]'hkl0).vlan,l.num,(n.domains[((k:Nat):Int).toNat]'hkl0).irb,(n.domains[((k:Nat):Int).toNat]'hkl0).row,(n.domains[((k:Nat):Int).toNat]'hkl0).peers⟩:Domain) (⟨(n.domains[((k:Nat):Int).toNat]'hkl0).dev,(n.domains[((k:Nat):Int).toNat]'hkl0).vlan,l.num,(n.domains[((k:Nat):Int).toNat]'hkl0).irb,l.row,(n.domains[((k:Nat):Int).toNat]'hkl0).peers⟩:Domain)]at hres
 subst hres
 refine T ?_
 refine C q1 F346 ?_
 refine C q2 F168 ?_
 refine C q3 F63 ?_
 refine X (Aj [(0,901),(1,902),(2,903),(3,904),(4,905),(5,906),(6,907),(7,908)] E F61 qcopy E W E V) ?_
 refine⟨hne,?_⟩
 refine T ?_
 refine⟨(⟨(n.domains[((k:Nat):Int).toNat]'hkl0).dev,(n.domains[((k:Nat):Int).toNat]'hkl0).vlan,l.num,(n.domains[((k:Nat):Int).toNat]'hkl0).irb,(n.domains[((k:Nat):Int).toNat]'hkl0).row,(n.domains[((k:Nat):Int).toNat]'hkl0).peers⟩:Domain),E,E,?_⟩
 refine T ?_
 refine⟨hk2 _,?_⟩
 refine T ?_
 refine⟨hne2 _,?_⟩
 refine T ?_
 refine⟨hk2 _,(⟨(n.domains[((k:Nat):Int).toNat]'hkl0).dev,(n.domains[((k:Nat):Int).toNat]'hkl0).vlan,l.num,(n.domains[((k:Nat):Int).toNat]'hkl0).irb,l.row,(n.domains[((k:Nat):Int).toNat]'hkl0).peers⟩:Domain),by rw[hget];rfl,by rw[hget];rfl,?_⟩
 refine T ?_
 refine Ah 901 E ?_
 refine Ah 902 E ?_
 refine Ah 903 E ?_
 refine Ah 904 E ?_
 refine Ah 905 E ?_
 refine Ah 906 E ?_
 refine Ah 907 E ?_
 refine Ah 908 E ?_
 exact D
theorem Agd (n:Net) (hn:n.Fin) (l:LineM) (hl:LineW l):Sy.Spec Tryz.prog 286 [Ae n,Au l] [] (.tup [Ae (putFlood n l).1,Aa (putFlood n l).2]) []:=cT F286 Tryz.ntmps286 fun F hF=>by
 have hok:=@beg_ok n l 7
 have hres:=putFlood.eq_1 n l
 have q1:=Ir n hn l hl 7
 have qcopy:=Jv n hn
 generalize putFlood n l=res at *
 generalize begT n l 7=b at *
 obtain ⟨d,e⟩:=b
 dsimp only at hres hok q1
 by_cases h1:e≠0
 ·have g1:(e != 0)=true:=by rw[bne_iff_ne];exact h1
  rw[if_pos h1]at hres
  subst hres
  refine T ?_
  refine C q1 F346 ?_
  refine Am 4 (B1 emptyN) E (.cons .nil (.cons .nil (.cons .nil (.cons .nil (.cons .nil (.cons .nil (.cons .nil (.cons .nil .nil)))))))) ?_
  refine T ?_
  exact D
 have g1:(e != 0)=false:=by rw[bne_eq_false_iff_eq];omega
 rw[if_neg h1]at hres
 obtain ⟨_,hr,i,hi,hlt⟩:=hok q_
 subst hi
 clear hok
 have hlt0:((i:Nat):Int).toNat<n.devices.length:=hlt
 have hnth:nth n.devices (i:Int)=n.devices[((i:Nat):Int).toNat]'hlt0:=Ad hlt0
 rw[hnth]at hres
 have hla:=hl.fin.a
 have q2:=Oi n hn (i:Int) l.num
 have q3:=Xn n hn (i:Int) l.num
 have q4:=Jw l.addrs (n.devices[((i:Nat):Int).toNat]'hlt0).vtep (by unfold Ag;omega)
 have q5:=W6 l.addrs q_
 generalize J3 n (i:Int) l.num=v2 at *
 generalize Eh n (i:Int) l.num=v3 at *
 generalize inB l.addrs (n.devices[((i:Nat):Int).toNat]'hlt0).vtep=v4 at *
 by_cases h2:v2<0
 ·have g2:decide (v2<0)=true:=decide_eq_true h2
  rw[if_pos h2]at hres
  subst hres
  refine T ?_
  refine C q1 F346 ?_
  refine C q2 F63 ?_
  refine Am 4 (B1 emptyN) E (.cons .nil (.cons .nil (.cons .nil (.cons .nil (.cons .nil (.cons .nil (.cons .nil (.cons .nil .nil)))))))) ?_
  refine T ?_
  exact D
 have g2:decide (v2<0)=false:=decide_eq_false h2
 rw[if_neg h2]at hres
 by_cases h3:0≤v3
 ·have g3:decide (v3≥0)=true:=decide_eq_true h3
  rw[if_pos h3]at hres
  subst hres
  refine T ?_
  refine C q1 F346 ?_
  refine C q2 F63 ?_
  refine C q3 F62 ?_
  refine Am 4 (B1 emptyN) E (.cons .nil (.cons .nil (.cons .nil (.cons .nil (.cons .nil (.cons .nil (.cons .nil (.cons .nil .nil)))))))) ?_
  refine T ?_
  exact D
 have g3:decide (v3≥0)=false:=decide_eq_false h3
 rw[if_neg h3]at hres
 cases v4 with
 | true =>
  rw[if_pos rfl]at hres
  subst hres
  refine T ?_
  refine C q1 F346 ?_
  refine C q2 F63 ?_
  refine C q3 F62 ?_
  refine C q4 F150 ?_
  refine Am 4 (B1 emptyN) E (.cons .nil (.cons .nil (.cons .nil (.cons .nil (.cons .nil (.cons .nil (.cons .nil (.cons .nil .nil)))))))) ?_
  refine T ?_
  exact D
 | false =>
  rw[if_neg y_]at hres
  by_cases h5:n.floods.length=48
  ·have g5:((n.floods.length:Int) == 48)=true:=by rw[beq_iff_eq];omega
   rw[if_pos h5]at hres
   subst hres
   refine T ?_
   refine C q1 F346 ?_
   refine C q2 F63 ?_
   refine C q3 F62 ?_
   refine C q4 F150 ?_
   refine Am 4 (B1 emptyN) E (.cons .nil (.cons .nil (.cons .nil (.cons .nil (.cons .nil (.cons .nil (.cons .nil (.cons .nil .nil)))))))) ?_
   refine T ?_
   exact D
  have g5:((n.floods.length:Int) == 48)=false:=by rw[beq_eq_false_iff_ne];omega
  rw[if_neg h5]at hres
  subst hres
  have hfl:n.floods.length<2147483648:=hn.floods
  refine T ?_
  refine C q1 F346 ?_
  refine C q2 F63 ?_
  refine C q3 F62 ?_
  refine C q4 F150 ?_
  refine X (Aj [(0,901),(1,902),(2,903),(3,904),(4,905),(5,906),(6,907),(7,908)] E F61 qcopy E W E V) ?_
  refine C q5 F160 ?_
  refine Xd (Ai Γ.toTy 66 E E E E E (.row E) (.lit (e:=Ax) (l:=[(⟨l.row,(i:Int),l.num,l.addrs⟩:Flood)]) E E) j_ (by simp only[List.length_singleton];omega) (by simp only[List.length_singleton];omega)) ?_
  refine T ?_
  refine Ah 901 E ?_
  refine Ah 902 E ?_
  refine Ah 903 E ?_
  refine Ah 904 E ?_
  refine Ah 905 E ?_
  refine Ah 66 E ?_
  refine Ah 907 E ?_
  refine Ah 908 E ?_
  exact D
theorem Aih (n:Net) (hn:n.Fin) (l:LineM) (hl:LineW l):Sy.Spec Tryz.prog 287 [Ae n,Au l] [] (.tup [Ae (putVrf n l).1,Aa (putVrf n l).2]) []:=cT F287 Tryz.ntmps287 fun F hF=>by
 have hok:=@beg_ok n l 8
 have hres:=putVrf.eq_1 n l
 have q1:=T1 n hn l hl 8
 have qcopy:=Jv n hn
 generalize putVrf n l=res at *
 generalize begT n l 8=b at *
 obtain ⟨d,e⟩:=b
 dsimp only at hres hok q1
 by_cases h1:e≠0
 ·have g1:(e != 0)=true:=by rw[bne_iff_ne];exact h1
  rw[if_pos h1]at hres
  subst hres
  refine T ?_
  refine C q1 F347 ?_
  refine Am 4 (B1 emptyN) E (.cons .nil (.cons .nil (.cons .nil (.cons .nil (.cons .nil (.cons .nil (.cons .nil (.cons .nil .nil)))))))) ?_
  refine T ?_
  exact D
 have g1:(e != 0)=false:=by rw[bne_eq_false_iff_eq];omega
 rw[if_neg h1]at hres
 obtain ⟨_,hr,i,hi,hlt⟩:=hok q_
 subst hi
 clear hok
 have hlt0:((i:Nat):Int).toNat<n.devices.length:=hlt
 have hnth:nth n.devices (i:Int)=n.devices[((i:Nat):Int).toNat]'hlt0:=Ad hlt0
 clear hnth
 have hli:=hl.fin.i
 have hle:=hl.fin.e
 have q2:=Wn n hn hr (i:Int) l.name
 have q5:=Er l.imports q_
 have q6:=Er l.exports q_
 have hfl:n.vrfs.length<2147483648:=hn.vrfs
 generalize Afs n (i:Int) l.name=v2 at *
 by_cases h2:0≤v2
 ·have g2:decide (v2≥0)=true:=decide_eq_true h2
  rw[if_pos h2]at hres
  subst hres
  refine T ?_
  refine C q1 F347 ?_
  refine C q2 F348 ?_
  refine Am 4 (B1 emptyN) E (.cons .nil (.cons .nil (.cons .nil (.cons .nil (.cons .nil (.cons .nil (.cons .nil (.cons .nil .nil)))))))) ?_
  refine T ?_
  exact D
 have g2:decide (v2≥0)=false:=decide_eq_false h2
 rw[if_neg h2]at hres
 by_cases h5:n.vrfs.length=16
 ·have g5:((n.vrfs.length:Int) == 16)=true:=by rw[beq_iff_eq];omega
  rw[if_pos h5]at hres
  subst hres
  refine T ?_
  refine C q1 F347 ?_
  refine C q2 F348 ?_
  refine Am 4 (B1 emptyN) E (.cons .nil (.cons .nil (.cons .nil (.cons .nil (.cons .nil (.cons .nil (.cons .nil (.cons .nil .nil)))))))) ?_
  refine T ?_
  exact D
 have g5:((n.vrfs.length:Int) == 16)=false:=by rw[beq_eq_false_iff_ne];omega
 rw[if_neg h5]at hres
 subst hres
 refine T ?_
 refine C q1 F347 ?_
 refine C q2 F348 ?_
 refine X (Aj [(0,901),(1,902),(2,903),(3,904),(4,905),(5,906),(6,907),(7,908)] E F61 qcopy E W E V) ?_
 refine C q5 F159 ?_
 refine C q6 F159 ?_
 refine Xd (Ai Γ.toTy 51 E E E E E (.row E) (.lit (e:=Bh) (l:=[(⟨l.row,(i:Int),l.name,l.imports,l.exports⟩:Vrf)]) E E) j_ (by simp only[List.length_singleton];omega) (by simp only[List.length_singleton];omega)) ?_
 refine T ?_
 refine Ah 901 E ?_
 refine Ah 902 E ?_
 refine Ah 903 E ?_
 refine Ah 904 E ?_
 refine Ah 905 E ?_
 refine Ah 906 E ?_
 refine Ah 51 E ?_
 refine Ah 908 E ?_
 exact D
theorem Wk {a b x:Int} (hb:0≤b∧b≤32) (ha:0≤a∧a<4294967296) (hx:0≤x∧x<4294967296):Vu a b x=Qv a b x:=by
 obtain ⟨y,rfl⟩:=Int.eq_ofNat_of_zero_le ha.1
 obtain ⟨z,rfl⟩:=Int.eq_ofNat_of_zero_le hx.1
 obtain ⟨k,hk,hk2⟩:∃ k:Nat,(32-b).toNat=k∧k≤32:=⟨_,rfl,by omega⟩
 have hq:0<2 ^ k:=Nat.two_pow_pos k
 rw[Vu,Wj b hb,hk,Agx y z k q_ q_ hk2,Qv,decide_eq_true hb.1,decide_eq_true hb.2,Bool.true_and,Bool.true_and,Ep y k b hb hk,Ep z k b hb hk]
 generalize 2 ^ k=q at *
 have h1:=Nat.div_add_mod y q
 have h2:=Nat.div_add_mod z q
 have e1:y-y % q=q * (y / q):=by omega
 have e2:z-z % q=q * (z / q):=by omega
 rw[e1,e2,Bool.eq_iff_iff,decide_eq_true_eq,beq_iff_eq]
 constructor
 ·intro h;rw[h]
 ·intro h
  exact Nat.eq_of_mul_eq_mul_left hq (by exact_mod_cast h)
theorem clashS (n:Net) (x:Irb) (hv:0≤x.vrf∧x.vrf.toNat<n.vrfs.length) (hb:0≤x.bits∧x.bits≤32) (hx:0≤x.addr∧x.addr<4294967296) (dev a b:Int) (ha:0≤a∧a<4294967296) (hb2:0≤b∧b≤32) :
  Sy.Spec Tryz.prog 350 [Ae n,Bf x,Aa dev,Ac9 a b] [] (Ab (clashB n dev a b x)) []:=cT F350 Tryz.ntmps350 fun F hF=>by
 have q1:=Vh x.addr x.bits a hb
 have q2:=Vh a b x.addr hb2
 rw[Wk hb hx ha]at q1
 rw[Wk hb2 ha hx]at q2
 have hc:=clashB.eq_1 n dev a b x
 have hv0:=hv.2
 rw[Ad hv0]at hc
 generalize clashB n dev a b x=r at *
 generalize Qv x.addr x.bits a=p1 at *
 generalize Qv a b x.addr=p2 at *
 cases h1:(x.addr == a) with
 | true =>
  rw[h1,Bool.true_or]at hc
  subst hc
  refine T ?_
  exact D
 | false =>
  rw[h1,Bool.false_or]at hc
  cases h2:((n.vrfs[x.vrf.toNat]'hv0).dev != dev) with
  | false =>
   rw[h2,Bool.false_and]at hc
   subst hc
   refine T ?_
   exact D
  | true =>
   rw[h2,Bool.true_and]at hc
   cases p1 with
   | true =>
    rw[Bool.true_or]at hc
    subst hc
    refine T ?_
    refine C q1 F383 ?_
    exact D
   | false =>
    rw[Bool.false_or]at hc
    subst hc
    refine T ?_
    refine C q1 F383 ?_
    refine C q2 F383 ?_
    exact D
theorem irbC (n:Net) (x:Irb) (hv:0≤x.vrf∧x.vrf.toNat<n.vrfs.length) (hb:0≤x.bits∧x.bits≤32) (hx:0≤x.addr∧x.addr<4294967296) (dev:Int) (l:LineM) (ha:0≤l.addr∧l.addr<4294967296) (hb2:0≤l.bits∧l.bits≤32) :
  Sy.Spec Tryz.prog 349 [Bf x,.ref 8 (Ae n) 0,.ref 1 (Aa dev) 0,.ref 17 (Au l) 0] [] (Ab (clashB n dev l.addr l.bits x)) []:=cT F349 Tryz.ntmps349 fun F hF=>by
 have q:=clashS n x hv hb hx dev l.addr l.bits ha hb2
 generalize clashB n dev l.addr l.bits x=r at *
 refine T ?_
 refine C q F350 ?_
 exact D
theorem Aca {n:Net} {l:LineM} {k:Int} (h:fitsB n l k=true):l.kind=k∧B0 l=true∧Ac n=true:=by
 unfold fitsB at h
 simp only[Bool.and_eq_true,beq_iff_eq]at h
 exact⟨h.1,h.2.1,h.2.2⟩
theorem Abo {l:LineM} (h:B0 l=true) (hk:l.kind=9):0≤l.bits∧l.bits≤32:=by
 rw[B0,Bool.and_eq_true]at h
 have:=h.1
 simp[A9,hk]at this
 have:=Yq this.2.2
 omega
theorem Ai5 (n:Net) (hn:n.Fin) (ha:Bp n) (l:LineM) (hl:LineW l):Sy.Spec Tryz.prog 288 [Ae n,Au l] [] (.tup [Ae (putIrb n l).1,Aa (putIrb n l).2]) []:=cT F288 Tryz.ntmps288 fun F hF=>by
 have hok:=@beg_ok n l 9
 have hres:=putIrb.eq_1 n l
 have q1:=T1 n hn l hl 9
 have qcopy:=Jv n hn
 generalize putIrb n l=res at *
 generalize begT n l 9=b at *
 obtain ⟨d,e⟩:=b
 dsimp only at hres hok q1
 by_cases h1:e≠0
 ·have g1:(e != 0)=true:=by rw[bne_iff_ne];exact h1
  rw[if_pos h1]at hres
  subst hres
  refine T ?_
  refine C q1 F347 ?_
  refine Am 4 (B1 emptyN) E (.cons .nil (.cons .nil (.cons .nil (.cons .nil (.cons .nil (.cons .nil (.cons .nil (.cons .nil .nil)))))))) ?_
  refine T ?_
  exact D
 have g1:(e != 0)=false:=by rw[bne_eq_false_iff_eq];omega
 rw[if_neg h1]at hres
 obtain ⟨hfit,hr,i,hi,hlt⟩:=hok q_
 subst hi
 clear hok
 have hlt0:((i:Nat):Int).toNat<n.devices.length:=hlt
 have hnth:nth n.devices (i:Int)=n.devices[((i:Nat):Int).toNat]'hlt0:=Ad hlt0
 clear hnth
 obtain ⟨hk9,hrl,_⟩:=Aca hfit
 have hbits:=Abo hrl hk9
 have q2:=Wn n hn hr (i:Int) l.name
 have q3:=Ex n hn hr (i:Int) l.vlan
 have hirb:∀ x∈n.irbs,(0≤x.vrf∧x.vrf.toNat<n.vrfs.length)∧(0≤x.bits∧x.bits≤32):=fun x hx=>by
  obtain ⟨j,hj,rfl⟩:=List.getElem_of_mem hx
  have:=Aju hr hj
  simp only[Zx,Ar,Bool.and_eq_true,decide_eq_true_eq]at this
  omega
 have qc:=Dc n.irbs (clashB n (i:Int) l.addr l.bits) 349 [] [.ref 8 (Ae n) 0,.ref 1 (Aa (i:Int)) 0,.ref 17 (Au l) 0] rfl (fun x hx=>⟨⟨_,_,F349⟩,irbC n x (hirb x hx).1 (hirb x hx).2 (ha x hx) (i:Int) l hl.ok.addr hbits⟩) hn.irbs
 rw[Ia]at qc
 have hdr:Dn n (i:Int) l.vlan<0∨∃ k:Nat,Dn n (i:Int) l.vlan=k∧k<n.domains.length:=by
  by_cases h:Dn n (i:Int) l.vlan<0
  ·exact .inl h
  ·exact .inr (Eo h)
 generalize Afs n (i:Int) l.name=v2 at *
 generalize Dn n (i:Int) l.vlan=dm at *
 generalize n.irbs.any (clashB n (i:Int) l.addr l.bits)=cl at *
 by_cases h2:v2<0
 ·have g2:decide (v2<0)=true:=decide_eq_true h2
  rw[if_pos h2]at hres
  subst hres
  refine T ?_
  refine C q1 F347 ?_
  refine C q2 F348 ?_
  refine C q3 F168 ?_
  refine Am 4 (B1 emptyN) E (.cons .nil (.cons .nil (.cons .nil (.cons .nil (.cons .nil (.cons .nil (.cons .nil (.cons .nil .nil)))))))) ?_
  refine T ?_
  exact D
 have g2:decide (v2<0)=false:=decide_eq_false h2
 rw[if_neg h2]at hres
 by_cases h3:dm<0
 ·have g3:decide (dm<0)=true:=decide_eq_true h3
  rw[if_pos h3]at hres
  subst hres
  refine T ?_
  refine C q1 F347 ?_
  refine C q2 F348 ?_
  refine C q3 F168 ?_
  refine Am 4 (B1 emptyN) E (.cons .nil (.cons .nil (.cons .nil (.cons .nil (.cons .nil (.cons .nil (.cons .nil (.cons .nil .nil)))))))) ?_
  refine T ?_
  exact D
 have g3:decide (dm<0)=false:=decide_eq_false h3
 rw[if_neg h3]at hres
 obtain ⟨k,hk,hkl⟩:=hdr.resolve_left h3
 subst hk
 clear hdr
 have hkl0:((k:Nat):Int).toNat<n.domains.length:=hkl
 have hnd:nth n.domains (k:Int)=n.domains[((k:Nat):Int).toNat]'hkl0:=Ad hkl0
 rw[hnd]at hres
 by_cases h4:0≤(n.domains[((k:Nat):Int).toNat]'hkl0).irb
 ·have g4:decide ((n.domains[((k:Nat):Int).toNat]'hkl0).irb≥0)=true:=decide_eq_true h4
  rw[if_pos (.inl h4)]at hres
  subst hres
  refine T ?_
  refine C q1 F347 ?_
  refine C q2 F348 ?_
  refine C q3 F168 ?_
  refine Am 4 (B1 emptyN) E (.cons .nil (.cons .nil (.cons .nil (.cons .nil (.cons .nil (.cons .nil (.cons .nil (.cons .nil .nil)))))))) ?_
  refine T ?_
  exact D
 have g4:decide ((n.domains[((k:Nat):Int).toNat]'hkl0).irb≥0)=false:=decide_eq_false h4
 cases cl with
 | true =>
  rw[if_pos (.inr rfl)]at hres
  subst hres
  refine T ?_
  refine C q1 F347 ?_
  refine C q2 F348 ?_
  refine C q3 F168 ?_
  refine A1 2 8 (Ae n) E E E ?_
  refine A1 3 17 (Au l) E E E ?_
  refine A1 6 1 (Aa (i:Int)) E E E ?_
  refine C qc F263 ?_
  refine Am 4 (B1 emptyN) E (.cons .nil (.cons .nil (.cons .nil (.cons .nil (.cons .nil (.cons .nil (.cons .nil (.cons .nil .nil)))))))) ?_
  refine T ?_
  exact D
 | false =>
  rw[if_neg (fun h=>h.elim h4 y_)]at hres
  subst hres
  have hne:n.domains≠[]:=fun e=>by rw[e]at hkl;cases hkl
  have hfl:n.irbs.length<2147483648:=hn.irbs
  refine T ?_
  refine C q1 F347 ?_
  refine C q2 F348 ?_
  refine C q3 F168 ?_
  refine A1 2 8 (Ae n) E E E ?_
  refine A1 3 17 (Au l) E E E ?_
  refine A1 6 1 (Aa (i:Int)) E E E ?_
  refine C qc F263 ?_
  refine X (Aj [(0,901),(1,902),(2,903),(3,904),(4,905),(5,906),(6,907),(7,908)] E F61 qcopy E W E V) ?_
  refine⟨hne,?_⟩
  refine T ?_
  refine⟨(⟨(n.domains[((k:Nat):Int).toNat]'hkl0).dev,(n.domains[((k:Nat):Int).toNat]'hkl0).vlan,(n.domains[((k:Nat):Int).toNat]'hkl0).vni,(n.irbs.length:Int),(n.domains[((k:Nat):Int).toNat]'hkl0).row,(n.domains[((k:Nat):Int).toNat]'hkl0).peers⟩:Domain),E,E,?_⟩
  refine T ?_
  refine X (Ai Γ.toTy 77 E E E E E (.row E) (.lit (e:=Bf) (l:=[(⟨l.row,(k:Int),v2,l.addr,l.bits⟩:Irb)]) E E) j_ (by simp only[List.length_singleton];omega) (by simp only[List.length_singleton];omega)) ?_
  refine Ah 901 E ?_
  refine Ah 902 E ?_
  refine Ah 903 E ?_
  refine Ah 904 E ?_
  refine Ah 905 E ?_
  refine Ah 906 E ?_
  refine Ah 907 E ?_
  refine Ah 77 E ?_
  exact D
theorem Or (l:List Static) (p:Static→Bool) (f:FuncId) (first cap:List SV) (hc:(SV.clo (.func f) first cap).inn []=true) (hf:∀ x∈l,Eu Tryz.prog f (first++[Av x]++cap) (Ab (p x))) (hl:Ag l) :
  Sy.Spec Tryz.prog 412 [.sl 4 Av l,.clo (.func f) first cap] [] (Aa (Bd p l)) []:=cT F412 Tryz.ntmps412 fun F hF=>by
 unfold Ag at hl
 have hin:∀ x:Static,Bn [] (first++[Av x]++cap)=true:=fun x=>Cp hc rfl
 ((conv=>whnf);repeat((first|refine aF ?_|refine aT ?_);(first|refine rG Γ hm ?_|refine rD Γ hm z_ ?_);conv=>whnf))
 refine Az l.length (fun j=>Dp (fun _ x=>!(p x)) l j) (fun j=>[(0,.sl 4 Av l),(1,.clo (.func f) first cap),(7,Aa l.length),(8,Aa j)]) (fun _=>[]) [] (A7 _ _) ⟨⟨E,E,Ba _,hc,E,E,E,E,Y⟩,Y,E,E⟩ ?_
 intro j hj hI
 ((first|refine rG Γ hm ?_|refine rD Γ hm z_ ?_);(conv=>whnf);repeat((first|refine aF ?_|refine aT ?_);(first|refine rG Γ hm ?_|refine rD Γ hm z_ ?_);conv=>whnf))
 refine⟨fun h=>?_,fun h=>?_⟩
 ·have h:=of_decide_eq_true h
  have hj2:j<l.length:=by omega
  ((first|refine rG Γ hm ?_|refine rD Γ hm z_ ?_);(conv=>whnf);repeat((first|refine aF ?_|refine aT ?_);(first|refine rG Γ hm ?_|refine rD Γ hm z_ ?_);conv=>whnf))
  refine⟨E,by omega,by omega,?_⟩
  ((conv=>whnf);repeat((first|refine aF ?_|refine aT ?_);(first|refine rG Γ hm ?_|refine rD Γ hm z_ ?_);conv=>whnf))
  refine Hb (hf l[j] (List.getElem_mem hj2)) E E E (by simp only[hin];rfl) E E ?_
  ((first|refine rG Γ hm ?_|refine rD Γ hm z_ ?_);(conv=>whnf);repeat((first|refine aF ?_|refine aT ?_);(first|refine rG Γ hm ?_|refine rD Γ hm z_ ?_);conv=>whnf))
  refine⟨fun h2=>?_,fun h2=>?_⟩
  ·((first|refine rG Γ hm ?_|refine rD Γ hm z_ ?_);(conv=>whnf);repeat((first|refine aF ?_|refine aT ?_);(first|refine rG Γ hm ?_|refine rD Γ hm z_ ?_);conv=>whnf))
   refine At E (.cons .tmp .nil) (congrArg Aa ?_) E
   exact B8 hj2 (fun i hi hij=>by simpa using hI i hi hij) h2
  ·((first|refine rG Γ hm ?_|refine rD Γ hm z_ ?_);(conv=>whnf);repeat((first|refine aF ?_|refine aT ?_);(first|refine rG Γ hm ?_|refine rD Γ hm z_ ?_);conv=>whnf))
   refine iL ?_
   ((conv=>whnf);repeat((first|refine aF ?_|refine aT ?_);(first|refine rG Γ hm ?_|refine rD Γ hm z_ ?_);conv=>whnf))
   exact Ay [] hI hj2 (A6 hI hj2 (by simp[h2])) ⟨⟨E,E,Ba _,hc,E,E,E,E,Y⟩,Y,E,E⟩
 ·have h:=of_decide_eq_false h
  ((first|refine rG Γ hm ?_|refine rD Γ hm z_ ?_);(conv=>whnf);repeat((first|refine aF ?_|refine aT ?_);(first|refine rG Γ hm ?_|refine rD Γ hm z_ ?_);conv=>whnf))
  refine At E (.cons .tmp .nil) (congrArg Aa ?_) E
  exact C7 (fun i hi=>by simpa using hI i hi q_)
theorem Agm (dom m:Int) (s:Static):Sy.Spec Tryz.prog 413 [Av s,.ref 1 (Aa dom) 0,.ref 1 (Ig m) 0] [] (Ab (s.domain == dom && s.mac == m)) []:=cT F413 Tryz.ntmps413 fun F hF=>by
 cases h:(s.domain == dom)
 ·refine T ?_
  exact D
 ·refine T ?_
  exact D
theorem Agl (n:Net) (hn:n.Fin) (dom m:Int):Sy.Spec Tryz.prog 345 [Ae n,Aa dom,Ig m] [] (Aa (X1 n dom m)) []:=cT F345 Tryz.ntmps345 fun F hF=>by
 have q:=Or n.statics (fun s:Static=>s.domain == dom && s.mac == m) 413 [] [.ref 1 (Aa dom) 0,.ref 1 (Ig m) 0] rfl (fun x _=>⟨⟨_,_,F413⟩,Agm dom m x⟩) hn.statics
 ((conv=>whnf);repeat((first|refine aF ?_|refine aT ?_);(first|refine rG Γ hm ?_|refine rD Γ hm z_ ?_);conv=>whnf))
 refine A1 4 1 (Aa dom) E E E ?_
 refine A1 5 1 (Ig m) E E E ?_
 refine c0 q F412 ?_
 ((first|refine rG Γ hm ?_|refine rD Γ hm z_ ?_);(conv=>whnf);repeat((first|refine aF ?_|refine aT ?_);(first|refine rG Γ hm ?_|refine rD Γ hm z_ ?_);conv=>whnf))
 exact dN
theorem Abh (n:Net) (hn:n.Fin) (l:LineM) (hl:LineW l):Sy.Spec Tryz.prog 283 [Ae n,Au l] [] (.tup [Ae (putStatic n l).1,Aa (putStatic n l).2]) []:=cT F283 Tryz.ntmps283 fun F hF=>by
 have qr:=Ej l hl
 have qn:=Aw n hn
 have qcopy:=Jv n hn
 have hres:=putStatic.eq_1 n l
 dsimp only at hres
 have hf:=fitsB.eq_1 n l 4
 generalize putStatic n l=res at *
 generalize fitsB n l 4=f at *
 cases h1:(l.kind == 4) with
 | false =>
  have g1:(l.kind != 4)=true:=by rw[bne,h1];rfl
  rw[h1,Bool.false_and]at hf
  rw[hf,if_pos rfl]at hres
  subst hres
  refine T ?_
  refine Am 4 (B1 emptyN) E (.cons .nil (.cons .nil (.cons .nil (.cons .nil (.cons .nil (.cons .nil (.cons .nil (.cons .nil .nil)))))))) ?_
  refine T ?_
  exact D
 | true =>
 have g1:(l.kind != 4)=false:=by rw[bne,h1];rfl
 rw[h1,Bool.true_and]at hf
 cases h2:B0 l with
 | false =>
  rw[h2]at qr hf
  rw[hf,Bool.false_and,if_pos rfl]at hres
  subst hres
  refine T ?_
  refine C qr F343 ?_
  refine Am 4 (B1 emptyN) E (.cons .nil (.cons .nil (.cons .nil (.cons .nil (.cons .nil (.cons .nil (.cons .nil (.cons .nil .nil)))))))) ?_
  refine T ?_
  exact D
 | true =>
 rw[h2]at qr hf
 cases hr:Ac n with
 | false =>
  rw[hr]at qn hf
  rw[hf,Bool.and_false,if_pos rfl]at hres
  subst hres
  refine T ?_
  refine C qr F343 ?_
  refine C qn F25 ?_
  refine Am 4 (B1 emptyN) E (.cons .nil (.cons .nil (.cons .nil (.cons .nil (.cons .nil (.cons .nil (.cons .nil (.cons .nil .nil)))))))) ?_
  refine T ?_
  exact D
 | true =>
 rw[hr]at qn hf
 rw[hf,if_neg y_]at hres
 have q1:=D7 n hn hr l.dev
 have q2:=Mn n hn hr (Cb n l.dev) l.port
 have q3:=Ex n hn hr (Cb n l.dev) l.vlan
 have q5:=Agl n hn (Dn n (Cb n l.dev) l.vlan) l.mac
 have hpr:Qu n (Cb n l.dev) l.port<0∨∃ k:Nat,Qu n (Cb n l.dev) l.port=k∧k<n.ports.length:=by
  by_cases h:Qu n (Cb n l.dev) l.port<0
  ·exact .inl h
  ·exact .inr (Eo h)
 have hfl:n.statics.length<2147483648:=hn.statics
 generalize Qu n (Cb n l.dev) l.port=pt at *
 generalize Dn n (Cb n l.dev) l.vlan=dm at *
 generalize Cb n l.dev=dv at *
 generalize X1 n dm l.mac=en at *
 by_cases h3:dv<0
 ·have g3:decide (dv<0)=true:=decide_eq_true h3
  rw[if_pos (.inl h3)]at hres
  subst hres
  refine T ?_
  refine C qr F343 ?_
  refine C qn F25 ?_
  refine C q1 F340 ?_
  refine C q2 F341 ?_
  refine C q3 F168 ?_
  refine Am 4 (B1 emptyN) E (.cons .nil (.cons .nil (.cons .nil (.cons .nil (.cons .nil (.cons .nil (.cons .nil (.cons .nil .nil)))))))) ?_
  refine T ?_
  exact D
 have g3:decide (dv<0)=false:=decide_eq_false h3
 by_cases h4:pt<0
 ·have g4:decide (pt<0)=true:=decide_eq_true h4
  rw[if_pos (.inr h4)]at hres
  subst hres
  refine T ?_
  refine C qr F343 ?_
  refine C qn F25 ?_
  refine C q1 F340 ?_
  refine C q2 F341 ?_
  refine C q3 F168 ?_
  refine Am 4 (B1 emptyN) E (.cons .nil (.cons .nil (.cons .nil (.cons .nil (.cons .nil (.cons .nil (.cons .nil (.cons .nil .nil)))))))) ?_
  refine T ?_
  exact D
 have g4:decide (pt<0)=false:=decide_eq_false h4
 rw[if_neg (fun h=>h.elim h3 h4)]at hres
 obtain ⟨p,hp,hpl⟩:=hpr.resolve_left h4
 subst hp
 clear hpr
 have hp0:((p:Nat):Int).toNat<n.ports.length:=hpl
 have hnp:nth n.ports (p:Int)=n.ports[((p:Nat):Int).toNat]'hp0:=Ad hp0
 rw[hnp]at hres
 by_cases h5:dm<0
 ·have g5:decide (dm<0)=true:=decide_eq_true h5
  rw[if_pos (.inl h5)]at hres
  subst hres
  refine T ?_
  refine C qr F343 ?_
  refine C qn F25 ?_
  refine C q1 F340 ?_
  refine C q2 F341 ?_
  refine C q3 F168 ?_
  refine Am 4 (B1 emptyN) E (.cons .nil (.cons .nil (.cons .nil (.cons .nil (.cons .nil (.cons .nil (.cons .nil (.cons .nil .nil)))))))) ?_
  refine T ?_
  exact D
 have g5:decide (dm<0)=false:=decide_eq_false h5
 have q4:=Ts (n.ports[((p:Nat):Int).toNat]'hp0) l.vlan (hn.tagged _ (List.getElem_mem hp0))
 cases hb:B5 (n.ports[((p:Nat):Int).toNat]'hp0) l.vlan with
 | false =>
  rw[hb]at q4
  rw[if_pos (.inr hb)]at hres
  subst hres
  refine T ?_
  refine C qr F343 ?_
  refine C qn F25 ?_
  refine C q1 F340 ?_
  refine C q2 F341 ?_
  refine C q3 F168 ?_
  refine C q4 F179 ?_
  refine Am 4 (B1 emptyN) E (.cons .nil (.cons .nil (.cons .nil (.cons .nil (.cons .nil (.cons .nil (.cons .nil (.cons .nil .nil)))))))) ?_
  refine T ?_
  exact D
 | true =>
 rw[hb]at q4
 rw[if_neg (fun h=>h.elim h5 (by rw[hb];simp))]at hres
 by_cases h6:0≤en
 ·have g6:decide (en≥0)=true:=decide_eq_true h6
  rw[if_pos h6]at hres
  subst hres
  refine T ?_
  refine C qr F343 ?_
  refine C qn F25 ?_
  refine C q1 F340 ?_
  refine C q2 F341 ?_
  refine C q3 F168 ?_
  refine C q4 F179 ?_
  refine C q5 F345 ?_
  refine Am 4 (B1 emptyN) E (.cons .nil (.cons .nil (.cons .nil (.cons .nil (.cons .nil (.cons .nil (.cons .nil (.cons .nil .nil)))))))) ?_
  refine T ?_
  exact D
 have g6:decide (en≥0)=false:=decide_eq_false h6
 rw[if_neg h6]at hres
 by_cases h7:n.statics.length=64
 ·have g7:((n.statics.length:Int) == 64)=true:=by rw[beq_iff_eq];omega
  rw[if_pos h7]at hres
  subst hres
  refine T ?_
  refine C qr F343 ?_
  refine C qn F25 ?_
  refine C q1 F340 ?_
  refine C q2 F341 ?_
  refine C q3 F168 ?_
  refine C q4 F179 ?_
  refine C q5 F345 ?_
  refine Am 4 (B1 emptyN) E (.cons .nil (.cons .nil (.cons .nil (.cons .nil (.cons .nil (.cons .nil (.cons .nil (.cons .nil .nil)))))))) ?_
  refine T ?_
  exact D
 have g7:((n.statics.length:Int) == 64)=false:=by rw[beq_eq_false_iff_ne];omega
 rw[if_neg h7]at hres
 subst hres
 refine T ?_
 refine C qr F343 ?_
 refine C qn F25 ?_
 refine C q1 F340 ?_
 refine C q2 F341 ?_
 refine C q3 F168 ?_
 refine C q4 F179 ?_
 refine C q5 F345 ?_
 refine X (Aj [(0,901),(1,902),(2,903),(3,904),(4,905),(5,906),(6,907),(7,908)] E F61 qcopy E W E V) ?_
 refine X (Ai Γ.toTy 87 E E E E E (.row E) (.lit (e:=Av) (l:=[(⟨l.row,dm,(p:Int),l.mac⟩:Static)]) E E) j_ (by simp only[List.length_singleton];omega) (by simp only[List.length_singleton];omega)) ?_
 refine Ah 901 E ?_
 refine Ah 902 E ?_
 refine Ah 903 E ?_
 refine Ah 904 E ?_
 refine Ah 87 E ?_
 refine Ah 906 E ?_
 refine Ah 907 E ?_
 refine Ah 908 E ?_
 exact D
theorem Zr (n:Net) (hn:n.Fin) (hr:Ac n=true) (dev port:ByteArray):Sy.Spec Tryz.prog 344 [Ae n,Ak dev,Ak port] [] (Aa (endI n dev port)) []:=cT F344 Tryz.ntmps344 fun F hF=>by
 have q1:=D7 n hn hr dev
 have q2:=Mn n hn hr (Cb n dev) port
 have hres:=endI.eq_1 n dev port
 generalize endI n dev port=res at *
 generalize Qu n (Cb n dev) port=pt at *
 generalize Cb n dev=d at *
 by_cases h:d<0
 ·have g:decide (d<0)=true:=decide_eq_true h
  rw[if_pos h]at hres
  subst hres
  refine T ?_
  refine C q1 F340 ?_
  exact D
 ·have g:decide (d<0)=false:=decide_eq_false h
  rw[if_neg h]at hres
  subst hres
  refine T ?_
  refine C q1 F340 ?_
  refine C q2 F341 ?_
  exact D
theorem end_range {n:Net} {dev port:ByteArray} (h:¬ endI n dev port<0):∃ k:Nat,endI n dev port=k∧k<n.ports.length:=by
 unfold endI at h ⊢
 split
 ·rename_i h1;rw[if_pos h1]at h;omega
 ·rename_i h1;rw[if_neg h1]at h;exact Eo h
theorem Ag3 (n:Net) (hn:n.Fin) (l:LineM) (hl:LineW l):Sy.Spec Tryz.prog 282 [Ae n,Au l] [] (.tup [Ae (putLink n l).1,Aa (putLink n l).2]) []:=cT F282 Tryz.ntmps282 fun F hF=>by
 have qr:=Ej l hl
 have qn:=Aw n hn
 have qcopy:=Jv n hn
 have hres:=putLink.eq_1 n l
 dsimp only at hres
 have hf:=fitsB.eq_1 n l 3
 generalize putLink n l=res at *
 generalize fitsB n l 3=f at *
 cases h1:(l.kind == 3) with
 | false =>
  have g1:(l.kind != 3)=true:=by rw[bne,h1];rfl
  rw[h1,Bool.false_and]at hf
  rw[hf,if_pos rfl]at hres
  subst hres
  refine T ?_
  refine Am 4 (B1 emptyN) E (.cons .nil (.cons .nil (.cons .nil (.cons .nil (.cons .nil (.cons .nil (.cons .nil (.cons .nil .nil)))))))) ?_
  refine T ?_
  exact D
 | true =>
 have g1:(l.kind != 3)=false:=by rw[bne,h1];rfl
 rw[h1,Bool.true_and]at hf
 cases h2:B0 l with
 | false =>
  rw[h2]at qr hf
  rw[hf,Bool.false_and,if_pos rfl]at hres
  subst hres
  refine T ?_
  refine C qr F343 ?_
  refine Am 4 (B1 emptyN) E (.cons .nil (.cons .nil (.cons .nil (.cons .nil (.cons .nil (.cons .nil (.cons .nil (.cons .nil .nil)))))))) ?_
  refine T ?_
  exact D
 | true =>
 rw[h2]at qr hf
 cases hr:Ac n with
 | false =>
  rw[hr]at qn hf
  rw[hf,Bool.and_false,if_pos rfl]at hres
  subst hres
  refine T ?_
  refine C qr F343 ?_
  refine C qn F25 ?_
  refine Am 4 (B1 emptyN) E (.cons .nil (.cons .nil (.cons .nil (.cons .nil (.cons .nil (.cons .nil (.cons .nil (.cons .nil .nil)))))))) ?_
  refine T ?_
  exact D
 | true =>
 rw[hr]at qn hf
 rw[hf,if_neg y_]at hres
 have q1:=Zr n hn hr l.dev l.port
 have q2:=Zr n hn hr l.peer l.far
 have ra:=@end_range n l.dev l.port
 have rb:=@end_range n l.peer l.far
 have hfl:n.links.length<2147483648:=hn.links
 generalize endI n l.dev l.port=a at *
 generalize endI n l.peer l.far=b at *
 refine T ?_
 refine C qr F343 ?_
 refine C qn F25 ?_
 refine C q1 F344 ?_
 refine C q2 F344 ?_
 refine Xd (Z6 Γ.toTy E E E E E E) ?_
 refine T ?_
 refine A1 2 8 (Ae n) E E E ?_
 refine A1 3 17 (Au l) E E E ?_
 refine A1 6 2 (.agg [Aa a,Aa b]) E E E ?_
 refine Cc (fun j:Nat=>j≤2∧(1≤j→¬ a<0)∧(2≤j→¬ b<0)) (fun j=>[(2,.ref 8 (Ae n) 0),(3,.ref 17 (Au l) 0),(4,.ptr 1001 0),(6,.ref 2 (.agg [Aa a,Aa b]) 0),(41,.agg [Aa a,Aa b]),(42,Aa j)]) (fun _=>[(1001,.box [.val (.slice none 0 0),.val (.slice none 0 0),.val (.slice none 0 0),.val (.slice none 0 0),.val (.slice none 0 0),.val (.slice none 0 0),.val (.slice none 0 0),.val (.slice none 0 0)])]) (fun j=>2-j) 0 [(1001,4)] ⟨by omega,by omega,by omega⟩ U ?_
 rintro j ⟨hj,ja,jb⟩
 have hc:j=0∨j=1∨j=2:=by omega
 rcases hc with rfl | rfl | rfl
 ·by_cases ka:a<0
  ·have g1:decide (a<0)=true:=decide_eq_true ka
   rw[if_pos (.inl ka)]at hres
   subst hres
   refine T ?_
   refine X (Cm (k:=.int .i64) Γ.toTy E E E Tryz.underlying3 E E j_ j_ E) ?_
   refine Am 1001 (B1 emptyN) E (.cons .nil (.cons .nil (.cons .nil (.cons .nil (.cons .nil (.cons .nil (.cons .nil (.cons .nil .nil)))))))) ?_
   refine T ?_
   exact D
  ·have g1:decide (a<0)=false:=decide_eq_false ka
   refine T ?_
   refine X (Cm (k:=.int .i64) Γ.toTy E E E Tryz.underlying3 E E j_ j_ E) ?_
   exact A8 1 [] ⟨by omega,fun _=>ka,by omega⟩ q_ U
 ·have ka:=ja q_
  by_cases kb:b<0
  ·have g1:decide (b<0)=true:=decide_eq_true kb
   rw[if_pos (.inr kb)]at hres
   subst hres
   refine T ?_
   refine X (Cm (k:=.int .i64) Γ.toTy E E E Tryz.underlying3 E E j_ j_ E) ?_
   refine Am 1001 (B1 emptyN) E (.cons .nil (.cons .nil (.cons .nil (.cons .nil (.cons .nil (.cons .nil (.cons .nil (.cons .nil .nil)))))))) ?_
   refine T ?_
   exact D
  ·have g1:decide (b<0)=false:=decide_eq_false kb
   refine T ?_
   refine X (Cm (k:=.int .i64) Γ.toTy E E E Tryz.underlying3 E E j_ j_ E) ?_
   exact A8 2 [] ⟨by omega,fun _=>ka,fun _=>kb⟩ q_ U
 ·have ka:=ja q_
  have kb:=jb q_
  obtain ⟨a,rfl,hal⟩:=ra ka
  obtain ⟨b,rfl,hbl⟩:=rb kb
  rw[if_neg (fun h=>h.elim ka kb)]at hres
  clear ja jb ra rb hj
  have ha0:((a:Nat):Int).toNat<n.ports.length:=hal
  have hb0:((b:Nat):Int).toNat<n.ports.length:=hbl
  have hna:nth n.ports (a:Int)=n.ports[((a:Nat):Int).toNat]'ha0:=Ad ha0
  have hnb:nth n.ports (b:Int)=n.ports[((b:Nat):Int).toNat]'hb0:=Ad hb0
  rw[hna,hnb]at hres
  by_cases k1:(n.ports[((a:Nat):Int).toNat]'ha0).dev=(n.ports[((b:Nat):Int).toNat]'hb0).dev
  ·have g1:((n.ports[((a:Nat):Int).toNat]'ha0).dev == (n.ports[((b:Nat):Int).toNat]'hb0).dev)=true:=by rw[beq_iff_eq];exact k1
   rw[if_pos (.inl k1)]at hres
   subst hres
   refine T ?_
   refine Am 1001 (B1 emptyN) E (.cons .nil (.cons .nil (.cons .nil (.cons .nil (.cons .nil (.cons .nil (.cons .nil (.cons .nil .nil)))))))) ?_
   refine T ?_
   exact D
  have g1:((n.ports[((a:Nat):Int).toNat]'ha0).dev == (n.ports[((b:Nat):Int).toNat]'hb0).dev)=false:=by rw[beq_eq_false_iff_ne];exact k1
  by_cases k2:0≤(n.ports[((a:Nat):Int).toNat]'ha0).link
  ·have g2:decide ((n.ports[((a:Nat):Int).toNat]'ha0).link≥0)=true:=decide_eq_true k2
   rw[if_pos (.inr (.inl k2))]at hres
   subst hres
   refine T ?_
   refine Am 1001 (B1 emptyN) E (.cons .nil (.cons .nil (.cons .nil (.cons .nil (.cons .nil (.cons .nil (.cons .nil (.cons .nil .nil)))))))) ?_
   refine T ?_
   exact D
  have g2:decide ((n.ports[((a:Nat):Int).toNat]'ha0).link≥0)=false:=decide_eq_false k2
  by_cases k3:0≤(n.ports[((b:Nat):Int).toNat]'hb0).link
  ·have g3:decide ((n.ports[((b:Nat):Int).toNat]'hb0).link≥0)=true:=decide_eq_true k3
   rw[if_pos (.inr (.inr k3))]at hres
   subst hres
   refine T ?_
   refine Am 1001 (B1 emptyN) E (.cons .nil (.cons .nil (.cons .nil (.cons .nil (.cons .nil (.cons .nil (.cons .nil (.cons .nil .nil)))))))) ?_
   refine T ?_
   exact D
  have g3:decide ((n.ports[((b:Nat):Int).toNat]'hb0).link≥0)=false:=decide_eq_false k3
  rw[if_neg (by rintro (h | h | h);exact k1 h;exact k2 h;exact k3 h)]at hres
  by_cases k4:n.links.length=20
  ·have g4:((n.links.length:Int) == 20)=true:=by rw[beq_iff_eq];omega
   rw[if_pos k4]at hres
   subst hres
   refine T ?_
   refine Am 1001 (B1 emptyN) E (.cons .nil (.cons .nil (.cons .nil (.cons .nil (.cons .nil (.cons .nil (.cons .nil (.cons .nil .nil)))))))) ?_
   refine T ?_
   exact D
  have g4:((n.links.length:Int) == 20)=false:=by rw[beq_eq_false_iff_ne];omega
  rw[if_neg k4]at hres
  have t1:Hj n.ports (a:Int) (n.links.length:Int)=n.ports.set ((a:Nat):Int).toNat (⟨(n.ports[((a:Nat):Int).toNat]'ha0).row,(n.ports[((a:Nat):Int).toNat]'ha0).dev,(n.ports[((a:Nat):Int).toNat]'ha0).native,(n.ports[((a:Nat):Int).toNat]'ha0).cost,(n.links.length:Int),(n.ports[((a:Nat):Int).toNat]'ha0).name,(n.ports[((a:Nat):Int).toNat]'ha0).tagged⟩:Port):=by rw[Hj,hna]
  have l1:(Hj n.ports (a:Int) (n.links.length:Int)).length=n.ports.length:=by rw[Hj,List.length_set]
  have hne:n.ports≠[]:=fun e=>by rw[e]at hal;cases hal
  obtain ⟨P1,hP1⟩:∃ P1,Hj n.ports (a:Int) (n.links.length:Int)=P1:=⟨_,rfl⟩
  rw[hP1]at hres t1 l1
  have hb1:((b:Nat):Int).toNat<P1.length:=by rw[l1];exact hb0
  have hn1:nth P1 (b:Int)=P1[((b:Nat):Int).toNat]'hb1:=Ad hb1
  have hne1:P1≠[]:=fun e=>by rw[e]at hb1;cases hb1
  have t2:Hj P1 (b:Int) (n.links.length:Int)=P1.set ((b:Nat):Int).toNat (⟨(P1[((b:Nat):Int).toNat]'hb1).row,(P1[((b:Nat):Int).toNat]'hb1).dev,(P1[((b:Nat):Int).toNat]'hb1).native,(P1[((b:Nat):Int).toNat]'hb1).cost,(n.links.length:Int),(P1[((b:Nat):Int).toNat]'hb1).name,(P1[((b:Nat):Int).toNat]'hb1).tagged⟩:Port):=by rw[Hj,hn1]
  obtain ⟨P2,hP2⟩:∃ P2,Hj P1 (b:Int) (n.links.length:Int)=P2:=⟨_,rfl⟩
  rw[hP2]at hres t2
  subst hres
  refine T ?_
  refine X (Aj [(0,901),(1,902),(2,903),(3,904),(4,905),(5,906),(6,907),(7,908)] E F61 qcopy E W E V) ?_
  refine Cc (fun j:Nat=>j≤2) (fun j=>[(3,.ref 17 (Au l) 0),(4,.ptr 1001 0),(6,.ref 2 (.agg [Aa (a:Int),Aa (b:Int)]) 0),(11,.ptr 1002 0),(86,.agg [Aa (a:Int),Aa (b:Int)]),(87,Aa j)]) (fun j=>[(1001,.box [.val (.slice none 0 0),.val (.slice none 0 0),.val (.slice none 0 0),.val (.slice none 0 0),.val (.slice none 0 0),.val (.slice none 0 0),.val (.slice none 0 0),.val (.slice none 0 0)]),(1002,.box [.osl 901,.osl 902,.osl 903,.osl 904,.osl 905,.osl 906,.osl 907,.osl 908]),(901,.row 5 Ap n.devices),(902,.row 7 As (if j=0 then n.ports else if j=1 then P1 else P2)),(903,.row 3 Bg n.links),(904,.row 6 Af n.domains),(905,.row 4 Av n.statics),(906,.row 4 Ax n.floods),(907,.row 5 Bh n.vrfs),(908,.row 5 Bf n.irbs)]) (fun j=>2-j) 0 [(1002,11)] q_ U ?_
  intro j hj
  have hc:j=0∨j=1∨j=2:=by omega
  rcases hc with rfl | rfl | rfl
  ·rw[if_pos rfl]
   refine T ?_
   refine X (Cm (k:=.int .i64) Γ.toTy E E E Tryz.underlying3 E E j_ j_ E) ?_
   refine T ?_
   refine⟨hne,?_⟩
   refine T ?_
   refine⟨(⟨(n.ports[((a:Nat):Int).toNat]'ha0).row,(n.ports[((a:Nat):Int).toNat]'ha0).dev,(n.ports[((a:Nat):Int).toNat]'ha0).native,(n.ports[((a:Nat):Int).toNat]'ha0).cost,(n.links.length:Int),(n.ports[((a:Nat):Int).toNat]'ha0).name,(n.ports[((a:Nat):Int).toNat]'ha0).tagged⟩:Port),E,E,?_⟩
   refine T ?_
   exact A8 1 [] q_ q_ ⟨⟨E,E,E,E,E,E,E,E,E,E,E,E,Y⟩,⟨.inl E,E,.inl E,E,.inl E,E,.inl (congrArg (Ob.row 7 As) t1),E,.inl E,E,.inl E,E,.inl E,E,.inl E,E,.inl E,E,.inl E,E,Y⟩,E,E⟩
  ·rw[if_neg j_,if_pos rfl]
   refine T ?_
   refine X (Cm (k:=.int .i64) Γ.toTy E E E Tryz.underlying3 E E j_ j_ E) ?_
   refine T ?_
   refine⟨hne1,?_⟩
   refine T ?_
   refine⟨(⟨(P1[((b:Nat):Int).toNat]'hb1).row,(P1[((b:Nat):Int).toNat]'hb1).dev,(P1[((b:Nat):Int).toNat]'hb1).native,(P1[((b:Nat):Int).toNat]'hb1).cost,(n.links.length:Int),(P1[((b:Nat):Int).toNat]'hb1).name,(P1[((b:Nat):Int).toNat]'hb1).tagged⟩:Port),E,E,?_⟩
   refine T ?_
   exact A8 2 [] q_ q_ ⟨⟨E,E,E,E,E,E,E,E,E,E,E,E,Y⟩,⟨.inl E,E,.inl E,E,.inl E,E,.inl (congrArg (Ob.row 7 As) t2),E,.inl E,E,.inl E,E,.inl E,E,.inl E,E,.inl E,E,.inl E,E,Y⟩,E,E⟩
  ·rw[if_neg j_,if_neg j_]
   refine T ?_
   refine X (Ai Γ.toTy 109 E E E E E (.row E) (.lit (e:=Bg) (l:=[(⟨l.row,(a:Int),(b:Int)⟩:Link)]) E E) j_ (by simp only[List.length_singleton];omega) (by simp only[List.length_singleton];omega)) ?_
   refine T ?_
   refine Ah 901 E ?_
   refine Ah 902 E ?_
   refine Ah 109 E ?_
   refine Ah 904 E ?_
   refine Ah 905 E ?_
   refine Ah 906 E ?_
   refine Ah 907 E ?_
   refine Ah 908 E ?_
   exact D
abbrev Acj (n:Net):Obs:=[(900,.box [.osl 901,.osl 902,.osl 903,.osl 904,.osl 905,.osl 906,.osl 907,.osl 908]),(901,.row 5 Ap n.devices),(902,.row 7 As n.ports),(903,.row 3 Bg n.links),(904,.row 6 Af n.domains),(905,.row 4 Av n.statics),(906,.row 4 Ax n.floods),(907,.row 5 Bh n.vrfs),(908,.row 5 Bf n.irbs)]
theorem So (n:Net) (hn:n.Fin) (l:LineM) (hl:LineW l) (k:Int) (h:fitsB n l k=true):Sy.Spec Tryz.prog 337 [Ae n,Au l,Aa k] [] (.tup [.ptr 900 0,Ab true]) (Acj n):=cT F337 Tryz.ntmps337 fun F hF=>by
 have qr:=Ej l hl
 have qn:=Aw n hn
 have qcopy:=Jv n hn
 unfold fitsB at h
 simp only[Bool.and_eq_true]at h
 obtain ⟨h1,h2,h3⟩:=h
 have g1:(l.kind != k)=false:=by rw[bne,h1];rfl
 rw[h2]at qr
 rw[h3]at qn
 refine T ?_
 refine C qr F343 ?_
 refine C qn F25 ?_
 refine X (Aj [(0,901),(1,902),(2,903),(3,904),(4,905),(5,906),(6,907),(7,908)] E F61 qcopy E W E V) ?_
 exact done E (.cons .tmp (.cons .tmp .nil)) [(900,25)] (Acj n) (fun _ h=>h) E E U
theorem L3 (n:Net) (hn:n.Fin) (l:LineM) (hl:LineW l) (k:Int) (h:fitsB n l k=false):Sy.Spec Tryz.prog 337 [Ae n,Au l,Aa k] [] (.tup [.val (.pointer none),Ab false]) []:=cT F337 Tryz.ntmps337 fun F hF=>by
 have qr:=Ej l hl
 have qn:=Aw n hn
 unfold fitsB at h
 cases h1:(l.kind == k) with
 | false =>
  have g1:(l.kind != k)=true:=by rw[bne,h1];rfl
  refine T ?_
  exact D
 | true =>
 have g1:(l.kind != k)=false:=by rw[bne,h1];rfl
 rw[h1,Bool.true_and]at h
 cases h2:B0 l with
 | false =>
  rw[h2]at qr
  refine T ?_
  refine C qr F343 ?_
  exact D
 | true =>
 rw[h2]at qr h
 rw[Bool.true_and]at h
 rw[h]at qn
 refine T ?_
 refine C qr F343 ?_
 refine C qn F25 ?_
 exact D
theorem Agc (l:LineM) (d:Device):Sy.Spec Tryz.prog 339 [Ap d,.ref 17 (Au l) 0] [] (Ab (d.name == l.dev || d.mac == l.mac)) []:=cT F339 Tryz.ntmps339 fun F hF=>by
 cases h:(d.name == l.dev)
 ·refine T ?_
  exact D
 ·refine T ?_
  exact D
theorem Ack (n:Net) (hn:n.Fin) (l:LineM) (hl:LineW l):Sy.Spec Tryz.prog 280 [Ae n,Au l] [] (.tup [Ae (putDevice n l).1,Aa (putDevice n l).2]) []:=cT F280 Tryz.ntmps280 fun F hF=>by
 have hres:=putDevice.eq_1 n l
 generalize putDevice n l=res at *
 cases hf:fitsB n l 1 with
 | false =>
  have q1:=L3 n hn l hl 1 hf
  rw[hf,if_pos rfl]at hres
  subst hres
  refine T ?_
  refine C q1 F337 ?_
  refine Am 4 (B1 emptyN) E (.cons .nil (.cons .nil (.cons .nil (.cons .nil (.cons .nil (.cons .nil (.cons .nil (.cons .nil .nil)))))))) ?_
  refine T ?_
  exact D
 | true =>
 have q1:=So n hn l hl 1 hf
 rw[hf,if_neg y_]at hres
 have qc:=K5 n.devices (fun d=>d.name == l.dev || d.mac == l.mac) 339 [] [.ref 17 (Au l) 0] rfl (fun d _=>⟨⟨_,_,F339⟩,Agc l d⟩) hn.devices
 rw[Ia]at qc
 have hfl:n.devices.length<2147483648:=hn.devices
 generalize n.devices.any (fun d=>d.name == l.dev || d.mac == l.mac)=cl at *
 cases cl with
 | true =>
  rw[if_pos rfl]at hres
  subst hres
  refine T ?_
  refine X (Aj [] E F337 q1 E W E V) ?_
  refine A1 3 17 (Au l) E E E ?_
  refine X (Dg [901] E F338 qc (.cons (.row E E) (.cons (.refl _) .nil)) E E) ?_
  refine Am 4 (B1 emptyN) E (.cons .nil (.cons .nil (.cons .nil (.cons .nil (.cons .nil (.cons .nil (.cons .nil (.cons .nil .nil)))))))) ?_
  refine T ?_
  exact D
 | false =>
 rw[if_neg y_]at hres
 by_cases h5:n.devices.length=8
 ·have g5:((n.devices.length:Int) == 8)=true:=by rw[beq_iff_eq];omega
  rw[if_pos h5]at hres
  subst hres
  refine T ?_
  refine X (Aj [] E F337 q1 E W E V) ?_
  refine A1 3 17 (Au l) E E E ?_
  refine X (Dg [901] E F338 qc (.cons (.row E E) (.cons (.refl _) .nil)) E E) ?_
  refine Am 4 (B1 emptyN) E (.cons .nil (.cons .nil (.cons .nil (.cons .nil (.cons .nil (.cons .nil (.cons .nil (.cons .nil .nil)))))))) ?_
  refine T ?_
  exact D
 have g5:((n.devices.length:Int) == 8)=false:=by rw[beq_eq_false_iff_ne];omega
 rw[if_neg h5]at hres
 subst hres
 refine T ?_
 refine X (Aj [] E F337 q1 E W E V) ?_
 refine A1 3 17 (Au l) E E E ?_
 refine X (Dg [901] E F338 qc (.cons (.row E E) (.cons (.refl _) .nil)) E E) ?_
 refine T ?_
 refine Xd (Ai Γ.toTy 52 E E E E E (.row E) (.lit (e:=Ap) (l:=[(⟨l.row,l.num,l.dev,l.mac,0⟩:Device)]) E E) j_ (by simp only[List.length_singleton];omega) (by simp only[List.length_singleton];omega)) ?_
 refine T ?_
 refine Ah 52 E ?_
 refine Ah 902 E ?_
 refine Ah 903 E ?_
 refine Ah 904 E ?_
 refine Ah 905 E ?_
 refine Ah 906 E ?_
 refine Ah 907 E ?_
 refine Ah 908 E ?_
 exact D
end Go.Sy.YtjenpnjajjplkaaGreatDoor
namespace Go.Sy
theorem V1 {P:Program} (Γ:Ty P) {o:Oper} {s:SS} (d q:Nat) {α:Type} {e:α→SV} {l:List α} (z:α) {sv:SV} {t:TypeId} {ti:TI} {et:TypeId} {sz eb:Nat} {ez:List Value} {x y:Operand} {k:Option Nat}
  (h:o.op=.call ⟨.builtin .append,#[x,y],#[t,t]⟩) (hd:s.h d=.fresh) (ht:Γ.get t=some ti) (hk:ti.k=.slice et sz eb ez) (hez:ez.length=sz)
  (hb:BaseT s sz e (ev s x) k l) (hy:ev s y=.osl q) (hq:s.h q=.lit sz [sv]) (hv:∀ (M:Nat→Prop) (w:World) (v:Value),RdD M w sv v→RdD M w (e z) v) (hkk:∀ j,k=some j→j≠d) (hbytes:(l.length+1) * eb≤140737488355328) (h63:l.length+1≤9223372036854775807) :
  Good P o s ⟨.osl d,[q],Jz k d (.row sz e (l++[z]))⟩:=by
 obtain ⟨f,hb,hf⟩:=hb.base
 have hs:AppSrc s sz (ev s y) [q] 1 (Vs [sv]):=by
  rw[hy]
  exact AppSrc.lit (sz:=sz) hq
 refine Sz Γ h hd ht hk hez hb hs hkk hbytes h63 fun κ w hr=>?_
 rcases hr with ⟨_,h2⟩ | ⟨b,cap,cs,T,fr,e1,e2,e3,e4,e5,e6⟩
 ·omega
 ·refine .inr ⟨b,cap,cs,T,fr,by simpa using e1,e2,e3,e4,by simpa using e5,fun i x hx=>?_⟩
  obtain ⟨hi,rfl⟩:=hx
  have hi2:i<l.length+1:=by simpa using hi
  by_cases hl:i<l.length
  ·have hx:rowF e l i ((l++[z])[i] |> e):=⟨hl,by rw[List.getElem_append_left hl]⟩
   obtain ⟨a1,a2⟩:=e6 i _ (.inl ⟨hl,hf i _ hx⟩)
   exact⟨by simpa using a1,a2⟩
  ·have hie:i=l.length:=by omega
   subst hie
   obtain ⟨a1,u,hu,hrest⟩:=e6 l.length sv (.inr ⟨Nat.le_refl _,by rw[Nat.sub_self];rfl⟩)
   refine⟨by simp,u,?_,hrest⟩
   have:=hv _ _ u hu
   simpa using this
end Go.Sy
namespace Go.Sy.YtjenpnjajjplkaaGreatDoor
open Go.Proofs
attribute [local irreducible] Go.Sy.G Go.Sy.DR
set_option maxRecDepth 100000
set_option maxHeartbeats 4000000
theorem O6 (dev v:Int) (d:Domain):Sy.Spec Tryz.prog 409 [Af d,.ref 1 (Aa dev) 0,.ref 1 (Aa v) 0] [] (Ab (d.dev == dev && d.vlan == v)) []:=cT F409 Tryz.ntmps409 fun F hF=>by
 cases h:(d.dev == dev)
 ·refine T ?_
  exact D
 ·refine T ?_
  exact D
abbrev Ajw (n:Net) (ds:List Domain):Obs:=[(900,.box [.osl 901,.osl 902,.osl 903,.osl 1904,.osl 905,.osl 906,.osl 907,.osl 908]),(901,.row 5 Ap n.devices),(902,.row 7 As n.ports),(903,.row 3 Bg n.links),(904,.non),(1904,.row 6 Af ds),(905,.row 4 Av n.statics),(906,.row 4 Ax n.floods),(907,.row 5 Bh n.vrfs),(908,.row 5 Bf n.irbs)]
theorem Ic (n:Net) (hl:n.domains.length<2147483648) (dev v:Int) (hc:¬ (0<v∧n.domains.any (fun d=>d.dev == dev && d.vlan == v)=false)):Sy.Spec Tryz.prog 342 [.ptr 900 0,Aa dev,Aa v] (Acj n) (.tup []) (Acj n):=cT F342 Tryz.ntmps342 fun F hF=>by
 have qc:=E9 n.domains (fun d=>d.dev == dev && d.vlan == v) 409 [] [.ref 1 (Aa dev) 0,.ref 1 (Aa v) 0] rfl (fun d _=>⟨⟨_,_,F409⟩,O6 dev v d⟩) hl
 rw[Ia]at qc
 generalize n.domains.any (fun d=>d.dev == dev && d.vlan == v)=cl at *
 by_cases h1:0<v
 ·have g1:decide (v>0)=true:=decide_eq_true h1
  cases cl with
  | true =>
   refine T ?_
   refine A1 4 1 (Aa dev) E E E ?_
   refine A1 5 1 (Aa v) E E E ?_
   refine X (Dg [904] E F408 qc (.cons (.row E E) (.cons (.refl _) .nil)) E E) ?_
   exact Ch E .nil [] (Acj n) (fun _ h=>h) E E U
  | false=>exact absurd ⟨h1,rfl⟩ hc
 ·have g1:decide (v>0)=false:=decide_eq_false h1
  refine T ?_
  exact Ch E .nil [] (Acj n) (fun _ h=>h) E E U
theorem Hh (n:Net) (hl:n.domains.length<2147483648) (dev v:Int) (hc:0<v∧n.domains.any (fun d=>d.dev == dev && d.vlan == v)=false):Sy.Spec Tryz.prog 342 [.ptr 900 0,Aa dev,Aa v] (Acj n) (.tup []) (Ajw n (n.domains++[(⟨dev,v,0,-1,0,[]⟩:Domain)])):=cT F342 Tryz.ntmps342 fun F hF=>by
 have qc:=E9 n.domains (fun d=>d.dev == dev && d.vlan == v) 409 [] [.ref 1 (Aa dev) 0,.ref 1 (Aa v) 0] rfl (fun d _=>⟨⟨_,_,F409⟩,O6 dev v d⟩) hl
 rw[Ia,hc.2]at qc
 have g1:decide (v>0)=true:=decide_eq_true hc.1
 refine T ?_
 refine A1 4 1 (Aa dev) E E E ?_
 refine A1 5 1 (Aa v) E E E ?_
 refine X (Dg [904] E F408 qc (.cons (.row E E) (.cons (.refl _) .nil)) E E) ?_
 refine T ?_
 refine Xd (V1 Γ.toTy 28 27 (⟨dev,v,0,-1,0,[]⟩:Domain) E E E E E (.row E) E E (fun M w u hu=>W4 (⟨dev,v,0,-1,0,[]⟩:Domain) E hu) j_ q_ q_) ?_
 refine T ?_
 exact Ch E .nil [(1904,28)] (Ajw n (n.domains++[(⟨dev,v,0,-1,0,[]⟩:Domain)])) (fun _ h=>h) E E U
theorem Se {dev v:Int} {ds:List Domain} (h:¬ (0<v∧ds.any (fun d=>d.dev == dev && d.vlan == v)=false)):Ck dev ds v=ds:=by rw[Ck,if_neg h]
theorem Mz {dev v:Int} {ds:List Domain} (h:0<v∧ds.any (fun d=>d.dev == dev && d.vlan == v)=false):Ck dev ds v=ds++[(⟨dev,v,0,-1,0,[]⟩:Domain)]:=by rw[Ck,if_pos h]
theorem Qj (dev:Int):∀ (l:List Int) (ds:List Domain),(A3 dev ds l).length≤ds.length+l.length
 | [],ds=>by simp[A3]
 | v::l,ds=>by
  have ih:=Qj dev l (Ck dev ds v)
  have h1:(Ck dev ds v).length≤ds.length+1:=by
   unfold Ck
   split<;>simp
  have e:A3 dev ds (v::l)=A3 dev (Ck dev ds v) l:=rfl
  rw[e,List.length_cons];omega
theorem Qi (dev:Int) (ds:List Domain) (l:List Int) (v:Int):A3 dev ds (l++[v])=Ck dev (A3 dev ds l) v:=by
 unfold A3
 rw[List.foldl_append];rfl
end Go.Sy.YtjenpnjajjplkaaGreatDoor
