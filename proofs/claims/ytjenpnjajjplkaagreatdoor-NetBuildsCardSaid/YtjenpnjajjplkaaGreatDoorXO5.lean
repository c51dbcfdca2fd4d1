/-
  E7 E8 E9 E10 E11 E12 E13 E14 E15 A7 E21 E29 I6 I20 S0 RB0 S3 NB0 Sy42 RB1 I11 I31 I15 I16 I17 I18: parts of a proof, joined by program.
-/
import Derived.Test.YtjenpnjajjplkaaGreatDoorXO4
import Derived.Test.YtjenpnjajjplkaaGreatDoorXO3
import Derived.Test.YtjenpnjajjplkaaGreatDoorXO2
set_option linter.all false
set_option linter.unusedVariables false
set_option linter.unusedSimpArgs false
set_option linter.deprecated false
namespace Go.Sy.YtjenpnjajjplkaaGreatDoor
open Go.Proofs
attribute [local irreducible] Go.Sy.G Go.Sy.DR
set_option maxRecDepth 20000
set_option maxHeartbeats 4000000
theorem e_link {n:Net} (h:Ah n=true) {i:Nat} (hi:i<n.links.length):(0≤n.links[i].a∧n.links[i].a.toNat<n.ports.length)∧(0≤n.links[i].b∧n.links[i].b.toNat<n.ports.length):=by
 simp only[Ah,Bool.and_eq_true]at h
 have:=allB_iff.1 h.1.1.1.1.2 i hi
 simp only[On,Ap,Bool.and_eq_true,decide_eq_true_eq]at this
 omega
theorem J6 {n:Net} {i:Int} (h:0≤Hi n i):(0≤i∧i.toNat<n.ports.length)∧Ah n=true∧(Hi n i).toNat<n.ports.length:=by
 unfold Hi at h ⊢
 split at h
 ·rename_i hc
  rw[if_pos hc]
  have hk:i.toNat<n.ports.length:=by omega
  have e1:nth n.ports i=n.ports[i.toNat]:=As hk
  rw[e1]at hc h ⊢
  have hq:=Oy hc.2.2 hk hc.2.1
  have e2:nth n.links n.ports[i.toNat].link=n.links[n.ports[i.toNat].link.toNat]:=As hq.1
  have hl:=e_link hc.2.2 hq.1
  rw[e2]at h ⊢
  refine⟨by omega,hc.2.2,?_⟩
  split
  ·exact hl.2.2
  ·exact hl.1.2
 ·omega
def T9 (n:Net) (i v:Int):Int:=if v=(nth n.ports i).native then (nth n.ports (Hi n i)).native else if inB (nth n.ports (Hi n i)).tagged v=true then v else 0
def crossT (n:Net) (i v:Int):Int × Int × Bool :=
 if 0≤Hi n i∧C7 (nth n.ports i) v=true∧T9 n i v≠0 then (Hi n i,T9 n i v,true) else (0,0,false)
theorem Aei (n:Net) (hn:n.Fin) (i v:Int):Sy.Spec Tryz.prog 250 [Aj n,Aa i,Aa v] [] (.tup [Aa (crossT n i v).1,Aa (crossT n i v).2.1,Ab (crossT n i v).2.2]) []:=cT F250 Tryz.ntmps250 fun F hF=>by
 have q:=Abo n hn i
 have hth:=J6 (n:=n) (i:=i)
 have hc:=crossT.eq_1 n i v
 unfold T9 at hc
 generalize crossT n i v=r at *
 obtain ⟨far,hfar⟩:∃ far,Hi n i=far:=⟨_,rfl⟩
 rw[hfar]at q hth hc
 ((conv=>whnf);repeat((first|refine aF ?_|refine aT ?_);(first|refine rG Γ hm ?_|refine rD Γ hm j_ ?_);conv=>whnf))
 refine c0 q F184 ?_
 ((first|refine rG Γ hm ?_|refine rD Γ hm j_ ?_);(conv=>whnf);repeat((first|refine aF ?_|refine aT ?_);(first|refine rG Γ hm ?_|refine rD Γ hm j_ ?_);conv=>whnf))
 refine⟨fun h=>?_,fun h=>?_⟩
 ·have h1:far<0:=of_decide_eq_true h
  rw[if_neg z_]at hc
  subst hc
  ((first|refine rG Γ hm ?_|refine rD Γ hm j_ ?_);(conv=>whnf);repeat((first|refine aF ?_|refine aT ?_);(first|refine rG Γ hm ?_|refine rD Γ hm j_ ?_);conv=>whnf))
  exact dN
 have h1:0≤far:=qB h
 obtain ⟨⟨hi0,hk⟩,hb,hfk⟩:=hth h1
 have e1:nth n.ports i=n.ports[i.toNat]:=As hk
 have e2:nth n.ports far=n.ports[far.toNat]:=As hfk
 rw[e1,e2]at hc
 have ht1:=hn.tagged _ (List.getElem_mem hk)
 have ht2:=hn.tagged _ (List.getElem_mem hfk)
 obtain ⟨p,hp⟩:∃ p,n.ports[i.toNat]=p:=⟨_,rfl⟩
 obtain ⟨o,ho⟩:∃ o,n.ports[far.toNat]=o:=⟨_,rfl⟩
 rw[hp]at hc ht1
 rw[ho]at hc ht2
 have hms:=Abm p v ht1
 have hcs:=Ll o.tagged v ht2
 refine A6 3 8 (Aj n) Y Y Y ?_
 ((first|refine rG Γ hm ?_|refine rD Γ hm j_ ?_);(conv=>whnf);repeat((first|refine aF ?_|refine aT ?_);(first|refine rG Γ hm ?_|refine rD Γ hm j_ ?_);conv=>whnf))
 refine⟨Y,hi0,hk,?_⟩
 rw[hp]
 ((conv=>whnf);repeat((first|refine aF ?_|refine aT ?_);(first|refine rG Γ hm ?_|refine rD Γ hm j_ ?_);conv=>whnf))
 refine c0 hms F179 ?_
 cases hm2:C7 p v
 ·rw[if_neg (by simp[hm2])]at hc
  subst hc
  ((first|refine rG Γ hm ?_|refine rD Γ hm j_ ?_);(conv=>whnf);repeat((first|refine aF ?_|refine aT ?_);(first|refine rG Γ hm ?_|refine rD Γ hm j_ ?_);conv=>whnf))
  exact dN
 ((first|refine rG Γ hm ?_|refine rD Γ hm j_ ?_);(conv=>whnf);repeat((first|refine aF ?_|refine aT ?_);(first|refine rG Γ hm ?_|refine rD Γ hm j_ ?_);conv=>whnf))
 refine⟨Y,h1,hfk,?_⟩
 rw[ho]
 ((conv=>whnf);repeat((first|refine aF ?_|refine aT ?_);(first|refine rG Γ hm ?_|refine rD Γ hm j_ ?_);conv=>whnf))
 refine⟨Y,hi0,hk,?_⟩
 rw[hp]
 ((conv=>whnf);repeat((first|refine aF ?_|refine aT ?_);(first|refine rG Γ hm ?_|refine rD Γ hm j_ ?_);conv=>whnf))
 refine⟨fun h=>?_,fun h=>?_⟩
 ·have h2:v=p.native:=by simpa using h
  rw[if_pos h2]at hc
  ((first|refine rG Γ hm ?_|refine rD Γ hm j_ ?_);(conv=>whnf);repeat((first|refine aF ?_|refine aT ?_);(first|refine rG Γ hm ?_|refine rD Γ hm j_ ?_);conv=>whnf))
  refine⟨fun h=>?_,fun h=>?_⟩
  ·have h3:o.native=0:=by simpa using h
   rw[if_neg (fun hh=>hh.2.2 h3)]at hc
   subst hc
   ((first|refine rG Γ hm ?_|refine rD Γ hm j_ ?_);(conv=>whnf);repeat((first|refine aF ?_|refine aT ?_);(first|refine rG Γ hm ?_|refine rD Γ hm j_ ?_);conv=>whnf))
   exact dN
  ·have h3:o.native≠0:=by simpa using h
   rw[if_pos ⟨h1,hm2,h3⟩]at hc
   subst hc
   ((first|refine rG Γ hm ?_|refine rD Γ hm j_ ?_);(conv=>whnf);repeat((first|refine aF ?_|refine aT ?_);(first|refine rG Γ hm ?_|refine rD Γ hm j_ ?_);conv=>whnf))
   exact dN
 have h2:¬ v=p.native:=by simpa using h
 rw[if_neg h2]at hc
 ((first|refine rG Γ hm ?_|refine rD Γ hm j_ ?_);(conv=>whnf);repeat((first|refine aF ?_|refine aT ?_);(first|refine rG Γ hm ?_|refine rD Γ hm j_ ?_);conv=>whnf))
 refine c0 hcs F100 ?_
 cases hin:inB o.tagged v
 ·rw[hin,if_neg qe]at hc
  subst hc
  ((first|refine rG Γ hm ?_|refine rD Γ hm j_ ?_);(conv=>whnf);repeat((first|refine aF ?_|refine aT ?_);(first|refine rG Γ hm ?_|refine rD Γ hm j_ ?_);conv=>whnf))
  exact dN
 rw[hin,if_pos rfl]at hc
 ((first|refine rG Γ hm ?_|refine rD Γ hm j_ ?_);(conv=>whnf);repeat((first|refine aF ?_|refine aT ?_);(first|refine rG Γ hm ?_|refine rD Γ hm j_ ?_);conv=>whnf))
 refine⟨fun h=>?_,fun h=>?_⟩
 ·have h3:v=0:=by simpa using h
  rw[if_neg (fun hh=>hh.2.2 h3)]at hc
  subst hc
  ((first|refine rG Γ hm ?_|refine rD Γ hm j_ ?_);(conv=>whnf);repeat((first|refine aF ?_|refine aT ?_);(first|refine rG Γ hm ?_|refine rD Γ hm j_ ?_);conv=>whnf))
  exact dN
 ·have h3:v≠0:=by simpa using h
  rw[if_pos ⟨h1,hm2,h3⟩]at hc
  subst hc
  ((first|refine rG Γ hm ?_|refine rD Γ hm j_ ?_);(conv=>whnf);repeat((first|refine aF ?_|refine aT ?_);(first|refine rG Γ hm ?_|refine rD Γ hm j_ ?_);conv=>whnf))
  exact dN
def linkDomT (n:Net) (i v:Int):Int × Bool:=if (crossT n i v).2.2=true then (T7 n (nth n.ports (crossT n i v).1).dev (crossT n i v).2.1,true) else (0,false)
theorem Ma {n:Net} {i v:Int} (h:(crossT n i v).2.2=true):0≤(crossT n i v).1∧(crossT n i v).1.toNat<n.ports.length:=by
 unfold crossT at h ⊢
 split at h
 ·rename_i hc
  rw[if_pos hc]
  exact⟨hc.1,(J6 hc.1).2.2⟩
 ·cases h
theorem Abp (n:Net) (hn:n.Fin) (i v:Int):Sy.Spec Tryz.prog 167 [Aj n,Aa i,Aa v] [] (.tup [Aa (linkDomT n i v).1,Ab (linkDomT n i v).2]) []:=cT F167 Tryz.ntmps167 fun F hF=>by
 have q:=Aei n hn i v
 have hth:=Ma (n:=n) (i:=i) (v:=v)
 have hc:=linkDomT.eq_1 n i v
 generalize linkDomT n i v=r at *
 generalize crossT n i v=x at *
 obtain ⟨far,to,ok⟩:=x
 ((conv=>whnf);repeat((first|refine aF ?_|refine aT ?_);(first|refine rG Γ hm ?_|refine rD Γ hm j_ ?_);conv=>whnf))
 refine c0 q F250 ?_
 cases ok
 ·rw[if_neg qe]at hc
  subst hc
  ((first|refine rG Γ hm ?_|refine rD Γ hm j_ ?_);(conv=>whnf);repeat((first|refine aF ?_|refine aT ?_);(first|refine rG Γ hm ?_|refine rD Γ hm j_ ?_);conv=>whnf))
  exact dN
 rw[if_pos rfl]at hc
 have hf:=hth rfl
 dsimp only at hf hc
 have e2:nth n.ports far=n.ports[far.toNat]:=As hf.2
 rw[e2]at hc
 obtain ⟨o,ho⟩:∃ o,n.ports[far.toNat]'hf.2=o:=⟨_,rfl⟩
 rw[ho]at hc
 have q2:=Tq n hn o.dev to
 subst hc
 refine A6 3 8 (Aj n) Y Y Y ?_
 ((first|refine rG Γ hm ?_|refine rD Γ hm j_ ?_);(conv=>whnf);repeat((first|refine aF ?_|refine aT ?_);(first|refine rG Γ hm ?_|refine rD Γ hm j_ ?_);conv=>whnf))
 refine⟨Y,hf.1,hf.2,?_⟩
 rw[ho]
 ((conv=>whnf);repeat((first|refine aF ?_|refine aT ?_);(first|refine rG Γ hm ?_|refine rD Γ hm j_ ?_);conv=>whnf))
 refine cD q2 F168 ?_
 ((first|refine rG Γ hm ?_|refine rD Γ hm j_ ?_);(conv=>whnf);repeat((first|refine aF ?_|refine aT ?_);(first|refine rG Γ hm ?_|refine rD Γ hm j_ ?_);conv=>whnf))
 refine⟨j_,?_⟩
 ((conv=>whnf);repeat((first|refine aF ?_|refine aT ?_);(first|refine rG Γ hm ?_|refine rD Γ hm j_ ?_);conv=>whnf))
 exact dN
theorem Ya (l:List Irb) (p:Irb→Bool) (f:FuncId) (first cap:List SV) (hc:(SV.clo (.func f) first cap).inn []=true) (hf:∀ x∈l,Jz Tryz.prog f (first++[Cf x]++cap) (Ab (p x))) (hl:At l) :
  Sy.Spec Tryz.prog 325 [.sl 5 Cf l,.clo (.func f) first cap] [] (Aa (Dl p l)) []:=cT F325 Tryz.ntmps325 fun F hF=>by
 unfold At at hl
 have hin:∀ x:Irb,C6 [] (first++[Cf x]++cap)=true:=fun x=>Er hc rfl
 ((conv=>whnf);repeat((first|refine aF ?_|refine aT ?_);(first|refine rG Γ hm ?_|refine rD Γ hm j_ ?_);conv=>whnf))
 refine A2 l.length (fun j=>Da (fun _ x=>!(p x)) l j) (fun j=>[(0,.sl 5 Cf l),(1,.clo (.func f) first cap),(7,Aa l.length),(8,Aa j)]) (fun _=>[]) [] (Av _ _) ⟨⟨Y,Y,B7 _,hc,Y,Y,Y,Y,q_⟩,q_,Y,Y⟩ ?_
 intro j hj hI
 ((first|refine rG Γ hm ?_|refine rD Γ hm j_ ?_);(conv=>whnf);repeat((first|refine aF ?_|refine aT ?_);(first|refine rG Γ hm ?_|refine rD Γ hm j_ ?_);conv=>whnf))
 refine⟨fun h=>?_,fun h=>?_⟩
 ·have h:=of_decide_eq_true h
  have hj2:j<l.length:=by omega
  ((first|refine rG Γ hm ?_|refine rD Γ hm j_ ?_);(conv=>whnf);repeat((first|refine aF ?_|refine aT ?_);(first|refine rG Γ hm ?_|refine rD Γ hm j_ ?_);conv=>whnf))
  refine⟨Y,by omega,by omega,?_⟩
  ((conv=>whnf);repeat((first|refine aF ?_|refine aT ?_);(first|refine rG Γ hm ?_|refine rD Γ hm j_ ?_);conv=>whnf))
  refine Jq (hf l[j] (List.getElem_mem hj2)) Y Y Y (by simp only[hin];rfl) Y Y ?_
  ((first|refine rG Γ hm ?_|refine rD Γ hm j_ ?_);(conv=>whnf);repeat((first|refine aF ?_|refine aT ?_);(first|refine rG Γ hm ?_|refine rD Γ hm j_ ?_);conv=>whnf))
  refine⟨fun h2=>?_,fun h2=>?_⟩
  ·((first|refine rG Γ hm ?_|refine rD Γ hm j_ ?_);(conv=>whnf);repeat((first|refine aF ?_|refine aT ?_);(first|refine rG Γ hm ?_|refine rD Γ hm j_ ?_);conv=>whnf))
   refine Ar Y (.cons .tmp .nil) (congrArg Aa ?_) Y
   exact Ck hj2 (fun i hi hij=>by simpa using hI i hi hij) h2
  ·((first|refine rG Γ hm ?_|refine rD Γ hm j_ ?_);(conv=>whnf);repeat((first|refine aF ?_|refine aT ?_);(first|refine rG Γ hm ?_|refine rD Γ hm j_ ?_);conv=>whnf))
   refine iL ?_
   ((conv=>whnf);repeat((first|refine aF ?_|refine aT ?_);(first|refine rG Γ hm ?_|refine rD Γ hm j_ ?_);conv=>whnf))
   exact Ba [] hI hj2 (Aq hI hj2 (by simp[h2])) ⟨⟨Y,Y,B7 _,hc,Y,Y,Y,Y,q_⟩,q_,Y,Y⟩
 ·have h:=of_decide_eq_false h
  ((first|refine rG Γ hm ?_|refine rD Γ hm j_ ?_);(conv=>whnf);repeat((first|refine aF ?_|refine aT ?_);(first|refine rG Γ hm ?_|refine rD Γ hm j_ ?_);conv=>whnf))
  refine Ar Y (.cons .tmp .nil) (congrArg Aa ?_) Y
  exact C2 (fun i hi=>by simpa using hI i hi z_)
theorem Ua (l:List Irb) (p:Irb→Bool) (f:FuncId) (first cap:List SV) (hc:(SV.clo (.func f) first cap).inn []=true) (hf:∀ x∈l,Jz Tryz.prog f (first++[Cf x]++cap) (Ab (p x))) (hl:At l) :
  Sy.Spec Tryz.prog 263 [.sl 5 Cf l,.clo (.func f) first cap] [] (Ab (decide (0≤Dl p l))) []:=cT F263 Tryz.ntmps263 fun F hF=>by
 have h0:C6 [] [.sl 5 Cf l,.clo (.func f) first cap]=true:=by simp only[C6,hc];rfl
 ((conv=>whnf);repeat((first|refine aF ?_|refine aT ?_);(first|refine rG Γ hm ?_|refine rD Γ hm j_ ?_);conv=>whnf))
 refine Mq (Ya l p f first cap hc hf hl) F325 Y Y (by simp only[h0];rfl) Y Y ?_
 ((first|refine rG Γ hm ?_|refine rD Γ hm j_ ?_);(conv=>whnf);repeat((first|refine aF ?_|refine aT ?_);(first|refine rG Γ hm ?_|refine rD Γ hm j_ ?_);conv=>whnf))
 exact dN
def leaksB (n:Net) (i k:Int):Bool:=i == k || (nth n.vrfs i).dev == (nth n.vrfs k).dev && decide (0≤Dl (inB (nth n.vrfs k).imports) (nth n.vrfs i).exports)
def Abw (n:Net) (i:Int):Int:=(nth n.domains (nth n.irbs i).domain).dev
theorem Aou {n:Net} (h:Ah n=true) {i:Nat} (hi:i<n.irbs.length):Tu n i n.irbs[i]=true:=by
 simp only[Ah,Bool.and_eq_true]at h
 exact allB_iff.1 h.2 i hi
theorem Ae8 {n:Net} (h:Ah n=true) {i:Nat} (hi:i<n.irbs.length) :
  (0≤n.irbs[i].domain∧n.irbs[i].domain.toNat<n.domains.length)∧(0≤n.irbs[i].vrf∧n.irbs[i].vrf.toNat<n.vrfs.length)∧(0≤n.irbs[i].bits∧n.irbs[i].bits≤32):=by
 have:=Aou h hi
 simp only[Tu,Ap,Bool.and_eq_true,decide_eq_true_eq]at this
 omega
def seesB (n:Net) (i k:Int):Bool:=Abw n i == Abw n k && leaksB n (nth n.irbs k).vrf (nth n.irbs i).vrf
abbrev Ti (a b:Int):SV:=.agg [A3 a,Aa b]
theorem Ak2 (a b:Int) (h:0≤b∧b≤32):Sy.Spec Tryz.prog 370 [Ti a b] [] (Ab true) []:=cT F370 Tryz.ntmps370 fun F hF=>by
 conv=>whnf
 refine⟨fun _=>?_,fun h2=>absurd (of_decide_eq_false h2) z_⟩
 refine oO ?_
 refine Ar Y (.cons .tmp .nil) (congrArg Ab ?_) Y
 simp;omega
def Ac4 (b:Int):Int:=IntKind.u32.wrap (IntKind.u32.wrap (1 * 2 ^ (min (32-b).toNat IntKind.u32.bits))-1)
theorem Anj (a b:Int) (h:0≤b∧b≤32):Sy.Spec Tryz.prog 371 [Ti a b] [] (A3 (Ac4 b)) []:=cT F371 Tryz.ntmps371 fun F hF=>by
 conv=>whnf
 refine iW ?_
 refine⟨by omega,?_⟩
 conv=>whnf
 exact dN
def Aby (a b x:Int):Bool:=bits .andNot .u32 (bits .xor .u32 a x) (Ac4 b) == 0
theorem Afl (a b x:Int) (h:0≤b∧b≤32):Sy.Spec Tryz.prog 383 [Ti a b,A3 x] [] (Ab (Aby a b x)) []:=cT F383 Tryz.ntmps383 fun F hF=>by
 have q1:=Ak2 a b h
 have q2:=Anj a b h
 rw[Aby]
 generalize Ac4 b=r at *
 conv=>whnf
 refine cD q1 F370 ?_
 (refine oD ?_;refine aT ?_;refine oD ?_)
 refine cD q2 F371 ?_
 refine oD ?_
 refine kW ?_
 exact dN
def maxI (c:Int→Int→Int) (l:List Int) (j:Nat):Int:=((l.drop 1).take j).foldl (fun m x=>if 0<c x m then x else m) (nth l 0)
def ownV (n:Net) (irb i:Int):Int:=if (nth n.irbs i).vrf=(nth n.irbs irb).vrf then 1 else 0
def cmpR (n:Net) (irb a b:Int):Int:=if (nth n.irbs a).bits≠(nth n.irbs b).bits then (nth n.irbs a).bits-(nth n.irbs b).bits else ownV n irb a-ownV n irb b
def takenB (n:Net) (irb dst:Int) (i:Nat):Bool:=Abw n i == Abw n irb && (nth n.irbs i).addr == dst
def wayB (n:Net) (irb dst:Int) (i:Nat):Bool:=Aby (nth n.irbs i).addr (nth n.irbs i).bits dst && seesB n irb i
def Amd (n:Net) (irb dst:Int):List Int:=Mo (wayB n irb dst) n.irbs.length
def Aeh (n:Net) (irb dst:Int):Int × Bool :=
 if (List.range n.irbs.length).any (takenB n irb dst)=true then (0,false)
 else if Amd n irb dst=[] then (0,false) else (maxI (cmpR n irb) (Amd n irb dst) ((Amd n irb dst).length-1),true)
end Go.Sy.YtjenpnjajjplkaaGreatDoor
namespace Go.Sy.YtjenpnjajjplkaaGreatDoor
open Go.Proofs
set_option maxRecDepth 20000
set_option maxHeartbeats 4000000
theorem Alo {x:Int} (h0:0≤x) (h1:x<4294967297):IntKind.i64.wrap x=x:=by
 rw[IntKind.wrap_i64];omega
theorem Zv (b:Int) (h:0≤b∧b≤32):Ac4 b=((2 ^ (32-b).toNat-1:Nat):Int):=by
 obtain ⟨k,hk,hk2⟩:∃ k:Nat,(32-b).toNat=k∧k≤32:=⟨_,rfl,by omega⟩
 have h1:min (32-b).toNat IntKind.u32.bits=k:=by show min (32-b).toNat 32=k;omega
 have hp:=Nat.pow_le_pow_right (n:=2) y_ hk2
 have e32:(2:Nat) ^ 32=4294967296:=rfl
 rw[e32]at hp
 have h0:=Nat.one_le_two_pow (n:=k)
 rw[Ac4,h1,hk,IntKind.wrap_u32,IntKind.wrap_u32,show (2:Int) ^ k=((2 ^ k:Nat):Int) by rw[Int.natCast_pow];rfl]
 generalize 2 ^ k=q at *
 omega
theorem Aoi (a b x:Int) (hb:0≤b∧b≤32) (ha:0≤a∧a<4294967296) (hx:0≤x∧x<4294967296):Aby a b x=true↔Ed a b≤x∧x≤lastI a b:=by
 obtain ⟨a,rfl⟩:=Int.eq_ofNat_of_zero_le ha.1
 obtain ⟨x,rfl⟩:=Int.eq_ofNat_of_zero_le hx.1
 obtain ⟨k,hk,hk2⟩:∃ k:Nat,(32-b).toNat=k∧k≤32:=⟨_,rfl,by omega⟩
 have h0:=Nat.one_le_two_pow (n:=k)
 rw[Aby,Zv b hb,hk,Anx a x k z_ z_ hk2,decide_eq_true_iff,Aka a x (2 ^ k) z_,H2 a k b hb hk,U1 a k b hb hk]
 omega
theorem Aen (a b:Int) (ha:0≤a∧a<4294967296):0≤lastI a b∧lastI a b<4294967296:=by
 by_cases hb:0≤b∧b≤32
 ·obtain ⟨a,rfl⟩:=Int.eq_ofNat_of_zero_le ha.1
  obtain ⟨k,hk,hk2⟩:∃ k:Nat,(32-b).toNat=k∧k≤32:=⟨_,rfl,by omega⟩
  have h0:=Nat.one_le_two_pow (n:=k)
  rw[U1 a k b hb hk]
  have hd:a-a % 2 ^ k=2 ^ k * (a / 2 ^ k):=by have:=Nat.div_add_mod a (2 ^ k);omega
  have h32:2 ^ k * 2 ^ (32-k)=4294967296:=by
   rw[← Nat.pow_add,show k+(32-k)=32 by omega]
  have:a / 2 ^ k<2 ^ (32-k):=by rw[Nat.div_lt_iff_lt_mul z_,Nat.mul_comm,h32];omega
  have:2 ^ k * (a / 2 ^ k)+2 ^ k≤2 ^ k * 2 ^ (32-k):=by
   rw[← Nat.mul_succ];exact Nat.mul_le_mul_left _ this
  omega
 ·rw[lastI,if_neg hb];omega
theorem Aag (a b:Int) (ha:0≤a∧a<4294967296):0≤Ed a b∧Ed a b<4294967296:=by
 by_cases hb:0≤b∧b≤32
 ·obtain ⟨a,rfl⟩:=Int.eq_ofNat_of_zero_le ha.1
  rw[H2 a _ b hb rfl]
  omega
 ·rw[Ed,if_neg hb];omega
end Go.Sy.YtjenpnjajjplkaaGreatDoor
namespace Go.Sy.YtjenpnjajjplkaaGreatDoor
open Go.Proofs
attribute [local irreducible] Go.Sy.G Go.Sy.DR
set_option maxRecDepth 20000
set_option maxHeartbeats 4000000
def Afy (n:Net) (a:Int):Bool:=decide (0≤Dl (fun i:Irb=>i.addr == a) n.irbs)
def Ara (n:Net) (a led:Int):Int:=if Afy n a=true then a+1 else lastI (nth n.irbs led).addr (nth n.irbs led).bits+1
def addrGo (n:Net) (irb to e:Int) (x:Int):Int × Bool :=
 if x≤e then
  if (Aeh n irb x).2=true∧(Aeh n irb x).1=to∧Afy n x=false then (x,true)
  else if (Aeh n irb x).2=false∧Afy n x=false then (0,false)
  else if x<Ara n x (Aeh n irb x).1 then addrGo n irb to e (Ara n x (Aeh n irb x).1) else (0,false)
 else (0,false)
 termination_by (e+1-x).toNat
 decreasing_by omega
def Afj (n:Net) (irb to:Int):Int × Bool :=
 if (0≤irb∧irb<n.irbs.length)∧(0≤to∧to<n.irbs.length)∧Ah n=true then
  addrGo n irb to (lastI (nth n.irbs to).addr (nth n.irbs to).bits) (Ed (nth n.irbs to).addr (nth n.irbs to).bits) else (0,false)
end Go.Sy.YtjenpnjajjplkaaGreatDoor
namespace Go.Sy.YtjenpnjajjplkaaGreatDoor
open Go.Proofs
attribute [local irreducible] Go.Sy.G Go.Sy.DR
set_option maxRecDepth 20000
set_option maxHeartbeats 8000000
def octN (a i:Nat):Nat:=a / 256 ^ (3-i) % 256
def Ue (a:Nat):Nat→List UInt8
 | 0=>[]
 | j+1=>Ue a j++(if 0<j then [46] else [])++(revDigs (octN a j)).reverse
def B6 (a:Int):ByteArray:=mkT (Ue a.toNat 4)
theorem Ac2 (a i:Nat):(revDigs (octN a i)).length≤4:=Cb 3 _ (by unfold octN;omega)
theorem Ud (a:Nat):∀ j,(Ue a j).length≤5 * j
 | 0=>by simp[Ue]
 | j+1=>by
  have:=Ud a j
  have h2:=Ac2 a j
  rw[Ue,List.length_append,List.length_append,List.length_reverse]
  split<;>simp<;>omega
end Go.Sy.YtjenpnjajjplkaaGreatDoor
namespace Go.Sy.YtjenpnjajjplkaaGreatDoor
open Go.Proofs
theorem Eh (a b:ByteArray):(a == b)=true↔a=b:=by
 cases a with
 | mk a =>
  cases b with
  | mk b =>
   show (a == b)=true↔_
   simp
instance:LawfulBEq ByteArray where
 eq_of_beq h:=(Eh _ _).1 h
 rfl:=(Eh _ _).2 rfl
def letB (c:UInt8):Bool:=decide (97≤c.toNat) && decide (c.toNat≤122)
def Anu:List UInt8→Bool
 | []=>false
 | c::l=>letB c && l.all fun c=>letB c || Dd c
def nameB (s:ByteArray):Bool:=Anu s.data.toList && decide (s.size≤12)
def Hh (s:ByteArray) (i:Nat):Bool:=decide (digI (Ai s (3 * i))≤15) && decide (digI (Ai s (3 * i+1))≤15) && (decide (5≤i) || decide ((Ai s (3 * i+2)).toNat=58))
def Ok (s:ByteArray):Nat→Int
 | 0=>0
 | i+1=>Ok s i * 256+digI (Ai s (3 * i)) * 16+digI (Ai s (3 * i+1))
def macR (s:ByteArray):Int × Bool:=if s.size=17∧(List.range 6).all (Hh s)=true then (Ok s 6,true) else (0,false)
def Hd (m:Int):Bool:=decide (m % 281474976710656 / 4294967296=512)
def statB (m:Int):Bool:=decide (m≤281474976710655) && !(Hd m) && !(Ot m.toNat)
def B5 (one:ByteArray→Int × Bool):List Int→List ByteArray→List Int × Bool
 | out,[]=>(out,true)
 | out,p::r=>if (one p).2=false∨out.length=16∨(∃ x,out.getLast? = some x∧(one p).1≤x) then ([],false) else B5 one (out++[(one p).1]) r
def Dr (one:ByteArray→Int × Bool) (s:ByteArray):List Int × Bool:=B5 one [] (Bd 44 s)
def dash:ByteArray:=⟨#[45]⟩
def listR (most:Int) (s:ByteArray):List Int × Bool:=if s=dash then ([],true) else Dr (fun p=>numR p 1 most) s
def Bk (s:ByteArray):List Int × Bool:=Dr Bo s
def prefixR (s:ByteArray):(Int × Int) × Bool :=
 if (cutT 47 s).2.2=false∨(Bo (cutT 47 s).1).2=false∨(smallT (cutT 47 s).2.1 32).2=false then ((0,0),false) else (((Bo (cutT 47 s).1).1,(smallT (cutT 47 s).2.1 32).1),true)
def subnetB (a bits:Int):Bool:=decide (1≤bits) && decide (bits≤30) && decide (a≠Ed a bits) && decide (a≠lastI a bits)
def Bc:List (Bool × Int)→Int
 | []=>0
 | (b,e)::l=>if b=true then e else Bc l
def An (cur:Int) (b:Bool) (e:Int):Int:=if b=true∧cur=0 then e else cur
def kindL (s:ByteArray):Int :=
 if s=⟨#[100,101,118,105,99,101]⟩ then 1 else if s=⟨#[112,111,114,116]⟩ then 2 else if s=⟨#[108,105,110,107]⟩ then 3 else if s=⟨#[115,116,97,116,105,99]⟩ then 4
 else if s=⟨#[118,116,101,112]⟩ then 5 else if s=⟨#[118,110,105]⟩ then 6 else if s=⟨#[102,108,111,111,100]⟩ then 7 else if s=⟨#[118,114,102]⟩ then 8 else if s=⟨#[105,114,98]⟩ then 9 else 0
def accessT:ByteArray:=⟨#[97,99,99,101,115,115]⟩
def trunkT:ByteArray:=⟨#[116,114,117,110,107]⟩
def wdT (w:List ByteArray) (i:Nat):ByteArray:=(w[i]?).getD ⟨#[]⟩
def manyB (k:Int) (w:List ByteArray):Bool :=
 if k=0 then false
 else if k=2 then (if w.length<6 then false else if wdT w 4=accessT then decide (w.length=6) else if wdT w 4=trunkT then decide (w.length=7) else decide (w.length≤7))
 else if k=3∨k=4∨k=8∨k=9 then decide (w.length=5) else if k=5 then decide (w.length=3) else decide (w.length=4)
def membersB (vlan:Int) (tagged:List Int):Bool:=(decide (0<vlan) || !tagged.isEmpty) && !(tagged.contains vlan)
def lineZ:LineM:=⟨0,0,⟨#[]⟩,⟨#[]⟩,⟨#[]⟩,⟨#[]⟩,⟨#[]⟩,0,0,0,0,0,0,[],[],[],[]⟩
def Bl (s:ByteArray):Int × Bool:=numR s 1 4094
def Hy (s:ByteArray):Int × Bool:=numR s 1 16777215
def Cj (w:List ByteArray):Int × List Int × List (Bool × Int) :=
 if wdT w 4=accessT then ((Bl (wdT w 5)).1,[],[(!(Bl (wdT w 5)).2,21)])
 else if wdT w 4=trunkT then
  (if wdT w 5=dash then (0,(listR 4094 (wdT w 6)).1,[(!(listR 4094 (wdT w 6)).2,21)])
   else ((Bl (wdT w 5)).1,(listR 4094 (wdT w 6)).1,[(!(Bl (wdT w 5)).2,21),(!(listR 4094 (wdT w 6)).2,21)]))
 else (0,[],[])
def A5 (w:List ByteArray) (row:Int):LineM × List (Bool × Int) :=
 let n:=fun i=>(!(nameB (wdT w i)),(20:Int))
 let k:=kindL (wdT w 0)
 if k=1 then ({ lineZ with row:=row,kind:=1,dev:=wdT w 1,num:=(numR (wdT w 2) 0 65535).1,mac:=(macR (wdT w 3)).1 },[n 1,(!(numR (wdT w 2) 0 65535).2,21),(!((macR (wdT w 3)).2 && statB (macR (wdT w 3)).1),21)])
 else if k=2 then ({ lineZ with row:=row,kind:=2,dev:=wdT w 1,port:=wdT w 2,cost:=(numR (wdT w 3) 1 65535).1,vlan:=(Cj w).1,tagged:=(Cj w).2.1 },
  [n 1,n 2,(!(numR (wdT w 3) 1 65535).2,21),(decide (wdT w 4≠accessT) && decide (wdT w 4≠trunkT),20)]++(Cj w).2.2++[(!(membersB (Cj w).1 (Cj w).2.1),21)])
 else if k=3 then ({ lineZ with row:=row,kind:=3,dev:=wdT w 1,port:=wdT w 2,peer:=wdT w 3,far:=wdT w 4 },[n 1,n 2,n 3,n 4])
 else if k=4 then ({ lineZ with row:=row,kind:=4,dev:=wdT w 1,vlan:=(Bl (wdT w 2)).1,mac:=(macR (wdT w 3)).1,port:=wdT w 4 },[n 1,(!(Bl (wdT w 2)).2,21),(!((macR (wdT w 3)).2 && statB (macR (wdT w 3)).1),21),n 4])
 else if k=5 then ({ lineZ with row:=row,kind:=5,dev:=wdT w 1,addr:=(Bo (wdT w 2)).1 },[n 1,(!((Bo (wdT w 2)).2 && decide ((Bo (wdT w 2)).1≠0)),21)])
 else if k=6 then ({ lineZ with row:=row,kind:=6,dev:=wdT w 1,vlan:=(Bl (wdT w 2)).1,num:=(Hy (wdT w 3)).1 },[n 1,(!(Bl (wdT w 2)).2,21),(!(Hy (wdT w 3)).2,21)])
 else if k=7 then ({ lineZ with row:=row,kind:=7,dev:=wdT w 1,num:=(Hy (wdT w 2)).1,addrs:=(Bk (wdT w 3)).1 },[n 1,(!(Hy (wdT w 2)).2,21),(!((Bk (wdT w 3)).2 && decide ((Bk (wdT w 3)).1.head? ≠ some 0)),21)])
 else if k=8 then ({ lineZ with row:=row,kind:=8,dev:=wdT w 1,name:=wdT w 2,imports:=(listR 65535 (wdT w 3)).1,exports:=(listR 65535 (wdT w 4)).1 },[n 1,n 2,(!(listR 65535 (wdT w 3)).2,21),(!(listR 65535 (wdT w 4)).2,21)])
 else ({ lineZ with row:=row,kind:=9,dev:=wdT w 1,vlan:=(Bl (wdT w 2)).1,name:=wdT w 3,addr:=(prefixR (wdT w 4)).1.1,bits:=(prefixR (wdT w 4)).1.2 },
  [n 1,(!(Bl (wdT w 2)).2,21),n 3,(!((prefixR (wdT w 4)).2 && subnetB (prefixR (wdT w 4)).1.1 (prefixR (wdT w 4)).1.2),21)])
def Bt (w:List ByteArray) (row:Int):LineM × Int :=
 if w=[]∨manyB (kindL (wdT w 0)) w=false then (lineZ,22) else if Bc (A5 w row).2≠0 then (lineZ,Bc (A5 w row).2) else ((A5 w row).1,0)
def Hm (cur:List UInt8):List ByteArray:=if cur=[] then [] else [mkT cur]
def Ef:List UInt8→List UInt8→List ByteArray
 | cur,[]=>Hm cur
 | cur,c::r=>if c=35 then Hm cur else if c=32∨c=9 then Hm cur++Ef [] r else Ef (cur++[c]) r
def Acl (c:UInt8):Bool:=decide (32<c.toNat) && decide (c.toNat≤126) && decide (c.toNat≠35)
def wordB (s:ByteArray):Bool:=decide (0<s.size) && decide (s.size≤40) && s.data.toList.all Acl
def wordsT (row:ByteArray):List ByteArray × Int:=if (Ef [] row.data.toList).all wordB=true then (Ef [] row.data.toList,0) else ([],20)
def Ju:Nat→List ByteArray→List LineM→List LineM × Int × Int
 | _,[],out=>(out,0,0)
 | i,r::rs,out =>
  if (wordsT r).2≠0 then ([],(i:Int)+1,(wordsT r).2) else if (wordsT r).1=[] then Ju (i+1) rs out
  else if (Bt (wordsT r).1 ((i:Int)+1)).2≠0 then ([],(i:Int)+1,(Bt (wordsT r).1 ((i:Int)+1)).2) else Ju (i+1) rs (out++[(Bt (wordsT r).1 ((i:Int)+1)).1])
def textT (b:List UInt8):List LineM × Int × Int:=if (rowsT b).2≠0 then ([],0,(rowsT b).2) else Ju 0 (rowsT b).1 []
def Dk (d:Nat):UInt8:=if d<10 then UInt8.ofNat (48+d) else UInt8.ofNat (87+d)
def Bg (m j:Nat):Nat:=m / 256 ^ (5-j) % 256
def Qn (m:Nat):Nat→List UInt8
 | 0=>[]
 | j+1=>Qn m j++(if 0<j then [58] else [])++[Dk (Bg m j / 16),Dk (Bg m j % 16)]
def A1 (m:Int):ByteArray:=mkT (Qn m.toNat 6)
def comma:ByteArray:=⟨#[44]⟩
def Dw (l:List Int):ByteArray:=Jk (l.map Aw) comma
def Dn (l:List Int):ByteArray:=Jk (l.map B6) comma
def Ct (l:List Int):ByteArray:=if l=[] then dash else Dw l
def C1 (a bits:Int):ByteArray:=if 0≤bits∧bits≤32 then mkT ((B6 a).data.toList++[47]++(revDigs bits.toNat).reverse) else ⟨#[]⟩
def K6 (l:LineM):List ByteArray :=
 if l.tagged=[] then [⟨#[112,111,114,116]⟩,l.dev,l.port,Aw l.cost,accessT,Aw l.vlan]
 else [⟨#[112,111,114,116]⟩,l.dev,l.port,Aw l.cost,trunkT,if l.vlan=0 then dash else Aw l.vlan,Ct l.tagged]
def Ao (l:LineM):List ByteArray :=
 if l.kind=1 then [⟨#[100,101,118,105,99,101]⟩,l.dev,Aw l.num,A1 l.mac]
 else if l.kind=2 then K6 l
 else if l.kind=3 then [⟨#[108,105,110,107]⟩,l.dev,l.port,l.peer,l.far]
 else if l.kind=4 then [⟨#[115,116,97,116,105,99]⟩,l.dev,Aw l.vlan,A1 l.mac,l.port]
 else if l.kind=5 then [⟨#[118,116,101,112]⟩,l.dev,B6 l.addr]
 else if l.kind=6 then [⟨#[118,110,105]⟩,l.dev,Aw l.vlan,Aw l.num]
 else if l.kind=7 then [⟨#[102,108,111,111,100]⟩,l.dev,Aw l.num,Dn l.addrs]
 else if l.kind=8 then [⟨#[118,114,102]⟩,l.dev,l.name,Ct l.imports,Ct l.exports]
 else if l.kind=9 then [⟨#[105,114,98]⟩,l.dev,Aw l.vlan,l.name,C1 l.addr l.bits]
 else []
def Jd (a b:LineM):Bool :=
 a.row == b.row && (a.kind == b.kind && (a.dev == b.dev && (a.port == b.port && (a.peer == b.peer && (a.far == b.far && (a.name == b.name && (a.mac == b.mac && (a.addr == b.addr && (a.bits == b.bits &&
 (a.vlan == b.vlan && (a.num == b.num && (a.cost == b.cost && (a.tagged == b.tagged && (a.imports == b.imports && (a.exports == b.exports && a.addrs == b.addrs)))))))))))))))
def Bz (n lo hi:Int):Bool:=decide (lo≤n) && decide (n≤hi)
abbrev Du (l:List Int) (hi:Int):Bool:=S9 l hi
def Iu (l:List Int):Bool:=(List.range l.length).all (fun i=>decide (l.getD i 0≠0) && (i == 0 || decide (l.getD (i-1) 0<l.getD i 0))) && (decide (0<l.length) && decide (l.length≤16))
def A7 (l:LineM):LineM × Bool :=
 let u:LineM:={ lineZ with row:=l.row,kind:=l.kind,dev:=l.dev }
 if l.kind=1 then ({ u with num:=l.num,mac:=l.mac },Bz l.num 0 65535 && statB l.mac)
 else if l.kind=2 then ({ u with port:=l.port,cost:=l.cost,vlan:=l.vlan,tagged:=l.tagged },nameB l.port && (Bz l.cost 1 65535 && (Bz l.vlan 0 4094 && (Du l.tagged 4094 && membersB l.vlan l.tagged))))
 else if l.kind=3 then ({ u with port:=l.port,peer:=l.peer,far:=l.far },nameB l.port && (nameB l.peer && nameB l.far))
 else if l.kind=4 then ({ u with vlan:=l.vlan,mac:=l.mac,port:=l.port },Bz l.vlan 1 4094 && (statB l.mac && nameB l.port))
 else if l.kind=5 then ({ u with addr:=l.addr },decide (l.addr≠0))
 else if l.kind=6 then ({ u with vlan:=l.vlan,num:=l.num },Bz l.vlan 1 4094 && Bz l.num 1 16777215)
 else if l.kind=7 then ({ u with num:=l.num,addrs:=l.addrs },Bz l.num 1 16777215 && Iu l.addrs)
 else if l.kind=8 then ({ u with name:=l.name,imports:=l.imports,exports:=l.exports },nameB l.name && (Du l.imports 65535 && Du l.exports 65535))
 else if l.kind=9 then ({ u with vlan:=l.vlan,name:=l.name,addr:=l.addr,bits:=l.bits },Bz l.vlan 1 4094 && (nameB l.name && subnetB l.addr l.bits))
 else (u,false)
def B1 (l:LineM):Bool:=(A7 l).2 && (nameB l.dev && Jd (A7 l).1 l)
def emptyN:Net:=⟨[],[],[],[],[],[],[],[]⟩
def fitsB (n:Net) (l:LineM) (k:Int):Bool:=l.kind == k && (B1 l && Ah n)
def Cn (n:Net) (s:ByteArray):Int:=Dl (fun d:Device=>d.name == s) n.devices
def K5 (n:Net) (dev:Int) (s:ByteArray):Int:=Dl (fun p:Port=>p.dev == dev && p.name == s) n.ports
def Aco (n:Net) (dev:Int) (s:ByteArray):Int:=Dl (fun v:Vrf=>v.dev == dev && v.name == s) n.vrfs
def putDevice (n:Net) (l:LineM):Net × Int :=
 if fitsB n l 1=false then (emptyN,2) else if n.devices.any (fun d=>d.name == l.dev || d.mac == l.mac)=true then (emptyN,30) else if n.devices.length=8 then (emptyN,3)
 else ({ n with devices:=n.devices++[⟨l.row,l.num,l.dev,l.mac,0⟩] },0)
def C8 (dev:Int) (ds:List Domain) (v:Int):List Domain:=if 0<v∧ds.any (fun d=>d.dev == dev && d.vlan == v)=false then ds++[⟨dev,v,0,-1,0,[]⟩] else ds
def Ay (dev:Int) (ds:List Domain) (l:List Int):List Domain:=l.foldl (C8 dev) ds
def putPort (n:Net) (l:LineM):Net × Int :=
 if fitsB n l 2=false then (emptyN,2) else if Cn n l.dev<0 then (emptyN,31) else if 0≤K5 n (Cn n l.dev) l.port then (emptyN,30) else if n.ports.length=40 then (emptyN,3)
 else if 48<(Ay (Cn n l.dev) n.domains (l.vlan::l.tagged)).length then (emptyN,3)
 else ({ n with ports:=n.ports++[⟨l.row,Cn n l.dev,l.vlan,l.cost,-1,l.port,l.tagged⟩],domains:=Ay (Cn n l.dev) n.domains (l.vlan::l.tagged) },0)
def endI (n:Net) (dev port:ByteArray):Int:=if Cn n dev<0 then -1 else K5 n (Cn n dev) port
def K4 (l:List Port) (i k:Int):List Port:=l.set i.toNat { nth l i with link:=k }
def putLink (n:Net) (l:LineM):Net × Int :=
 if fitsB n l 3=false then (emptyN,2) else
 let a:=endI n l.dev l.port
 let b:=endI n l.peer l.far
 if a<0∨b<0 then (emptyN,31) else if (nth n.ports a).dev=(nth n.ports b).dev∨0≤(nth n.ports a).link∨0≤(nth n.ports b).link then (emptyN,33) else if n.links.length=20 then (emptyN,3)
 else ({ n with ports:=K4 (K4 n.ports a n.links.length) b n.links.length,links:=n.links++[⟨l.row,a,b⟩] },0)
def Jb (n:Net) (d mac:Int):Int:=Dl (fun s:Static=>s.domain == d && s.mac == mac) n.statics
def putStatic (n:Net) (l:LineM):Net × Int :=
 if fitsB n l 4=false then (emptyN,2) else
 let dev:=Cn n l.dev
 let port:=K5 n dev l.port
 let dom:=Ds n dev l.vlan
 if dev<0∨port<0 then (emptyN,31) else if dom<0∨C7 (nth n.ports port) l.vlan=false then (emptyN,32) else if 0≤Jb n dom l.mac then (emptyN,30) else if n.statics.length=64 then (emptyN,3)
 else ({ n with statics:=n.statics++[⟨l.row,dom,port,l.mac⟩] },0)
def Cz (n:Net) (a:Int):Int:=Dl (fun d:Device=>d.vtep == a) n.devices
def Ia (n:Net) (dev vni:Int):Int:=Dl (fun d:Domain=>d.dev == dev && (d.vni == vni && vni != 0)) n.domains
def Ee (n:Net) (dev vni:Int):Int:=Dl (fun f:Flood=>f.dev == dev && f.vni == vni) n.floods
def begT (n:Net) (l:LineM) (k:Int):Int × Int:=if fitsB n l k=false then (0,2) else if Cn n l.dev<0 then (0,31) else (Cn n l.dev,0)
def Sb (l:List Device) (i a:Int):List Device:=l.set i.toNat { nth l i with vtep:=a }
def putVtep (n:Net) (l:LineM):Net × Int :=
 if (begT n l 5).2≠0 then (emptyN,(begT n l 5).2) else
 let dev:=(begT n l 5).1
 if (nth n.devices dev).vtep≠0∨0≤Cz n l.addr then (emptyN,30) else ({ n with devices:=Sb n.devices dev l.addr },0)
def putVni (n:Net) (l:LineM):Net × Int :=
 if (begT n l 6).2≠0 then (emptyN,(begT n l 6).2) else
 let dev:=(begT n l 6).1
 let at_:=Ds n dev l.vlan
 if (nth n.devices dev).vtep=0 then (emptyN,35) else if at_<0 then (emptyN,32) else if (nth n.domains at_).vni≠0∨0≤Ia n dev l.num then (emptyN,30)
 else ({ n with domains:=n.domains.set at_.toNat { nth n.domains at_ with vni:=l.num,row:=l.row } },0)
def putFlood (n:Net) (l:LineM):Net × Int :=
 if (begT n l 7).2≠0 then (emptyN,(begT n l 7).2) else
 let dev:=(begT n l 7).1
 if Ia n dev l.num<0 then (emptyN,31) else if 0≤Ee n dev l.num then (emptyN,30) else if inB l.addrs (nth n.devices dev).vtep=true then (emptyN,36) else if n.floods.length=48 then (emptyN,3)
 else ({ n with floods:=n.floods++[⟨l.row,dev,l.num,l.addrs⟩] },0)
def putVrf (n:Net) (l:LineM):Net × Int :=
 if (begT n l 8).2≠0 then (emptyN,(begT n l 8).2) else
 let dev:=(begT n l 8).1
 if 0≤Aco n dev l.name then (emptyN,30) else if n.vrfs.length=16 then (emptyN,3)
 else ({ n with vrfs:=n.vrfs++[⟨l.row,dev,l.name,l.imports,l.exports⟩] },0)
def M8 (a bits x:Int):Bool:=decide (0≤bits) && (decide (bits≤32) && Ed a bits == Ed x bits)
def clashB (n:Net) (dev a bits:Int) (x:Irb):Bool:=x.addr == a || ((nth n.vrfs x.vrf).dev != dev && (M8 x.addr x.bits a || M8 a bits x.addr))
def putIrb (n:Net) (l:LineM):Net × Int :=
 if (begT n l 9).2≠0 then (emptyN,(begT n l 9).2) else
 let dev:=(begT n l 9).1
 let vrf:=Aco n dev l.name
 let at_:=Ds n dev l.vlan
 if vrf<0 then (emptyN,31) else if at_<0 then (emptyN,32) else if 0≤(nth n.domains at_).irb∨n.irbs.any (clashB n dev l.addr l.bits)=true then (emptyN,37)
 else ({ n with domains:=n.domains.set at_.toNat { nth n.domains at_ with irb:=n.irbs.length },irbs:=n.irbs++[⟨l.row,at_,vrf,l.addr,l.bits⟩] },0)
def putT (n:Net) (l:LineM):Net × Int :=
 if l.kind=1 then putDevice n l else if l.kind=2 then putPort n l else if l.kind=3 then putLink n l else if l.kind=4 then putStatic n l else if l.kind=5 then putVtep n l
 else if l.kind=6 then putVni n l else if l.kind=7 then putFlood n l else if l.kind=8 then putVrf n l else if l.kind=9 then putIrb n l else (emptyN,2)
def agreeA (n:Net) (f:Flood) (a:Int):Bool :=
 let dev:=Cz n a
 decide (0≤dev) && (a != 0 && (decide (0≤Ia n dev f.vni) && (decide (0≤Ee n dev f.vni) &&
  (inB (nth n.floods (Ee n dev f.vni)).addrs (nth n.devices f.dev).vtep && f.addrs.all fun b=>b == a || inB (nth n.floods (Ee n dev f.vni)).addrs b))))
def agreesB (n:Net) (f:Flood):Bool:=decide (0≤Ia n f.dev f.vni) && f.addrs.all (agreeA n f)
def peersT (n:Net) (d:Domain):List Int:=if d.vni≠0∧0≤Ee n d.dev d.vni then (nth n.floods (Ee n d.dev d.vni)).addrs.map (fun a=>Ia n (Cz n a) d.vni) else []
def D7 (n:Net):Net:={ n with domains:=n.domains.map fun d=>{ d with peers:=peersT n d } }
def meshNT (n:Net):Net × Int × Int :=
 if Ah n=false then (emptyN,0,2) else match n.floods.find? (fun f=>!(agreesB n f)) with
 | some f=>(emptyN,f.row,36)
 | none=>if Ah (D7 n)=false then (emptyN,0,36) else (D7 n,0,0)
end Go.Sy.YtjenpnjajjplkaaGreatDoor
namespace Go.Sy.YtjenpnjajjplkaaGreatDoor
open Go.Proofs
attribute [local irreducible] Go.Sy.G Go.Sy.DR
structure Bx (Q:Prop):Prop where out:Q
theorem sE {α:Sort _} {a b:α} {K:Prop} (e:a=b) (h:K):a=b∧K:=⟨e,h⟩
theorem xE {α:Sort _} {a b:α} {K:a=b→Prop} (e:a=b) (h:K e):∃ e:a=b,K e:=⟨e,h⟩
theorem sL {a b:Int} {K:Prop} (e:a≤b) (h:K):a≤b∧K:=⟨e,h⟩
theorem xL {a b:Int} {K:a≤b→Prop} (e:a≤b) (h:K e):∃ e:a≤b,K e:=⟨e,h⟩
theorem sM {a b:Nat} {K:Prop} (e:a≤b) (h:K):a≤b∧K:=⟨e,h⟩
theorem sT {a b:Nat} {K:Prop} (e:a<b) (h:K):a<b∧K:=⟨e,h⟩
theorem xT {a b:Nat} {K:a<b→Prop} (e:a<b) (h:K e):∃ e:a<b,K e:=⟨e,h⟩
theorem sN {a b:Int} {K:Prop} (e:a≠b) (h:K):a≠b∧K:=⟨e,h⟩
theorem sI {a:Int} {K:Prop} (e:I64 a) (h:K):I64 a∧K:=⟨e,h⟩
theorem ct {p q:Prop} {b:Bool} (h:q) (e:b=true→False:=by
 intro _h
 first | exact absurd _h y_ | exact Bool.false_ne_true (Eq.trans (Eq.symm (by with_reducible assumption)) _h) | (simp at _h;done) | (simp at _h;omega)):(b=true→p)∧(b=false→q):=⟨fun x=>(e x).elim,fun _=>h⟩
theorem cf {p q:Prop} {b:Bool} (h:p) (e:b=false→False:=by
 intro _h
 first | exact absurd _h y_ | exact Bool.false_ne_true (Eq.trans (Eq.symm _h) (by with_reducible assumption)) | (simp at _h;done) | (simp at _h;omega)):(b=true→p)∧(b=false→q):=⟨fun _=>h,fun x=>(e x).elim⟩
theorem S {P Q:Prop} (h:Q) (e:Bx Q→P:=by
 intro hb
 first | refine rg ?_ | refine rd j_ ?_ | skip
 conv=>whnf
 repeat (first
  | ((first | refine aF ?_ | refine aT ?_ | refine ct ?_ | refine cf ?_);(first | refine rg ?_ | refine rd j_ ?_);(conv=>whnf))
  | ((first | refine⟨(by kernel_rfl:Aca _ _=true),?_⟩ | refine sI (by unfold I64;omega) ?_);(conv=>whnf)))
 exact hb.out):P:=e ⟨h⟩
theorem T {P Q:Prop} (h:Q) (e:Bx Q→P:=by
 intro hb
 refine S ?_
 repeat ((first | refine sE (by exact rfl) ?_ | refine sL (by first | omega | decide) ?_ | refine xL (by first | omega | decide) ?_ | refine sT (by first | omega | decide) ?_ | refine xT (by first | omega | decide) ?_ | refine sM (by first | omega | decide) ?_ | refine sN (by first | omega | decide) ?_ | refine xE (by exact rfl) ?_);refine S ?_)
 exact hb.out):P:=e ⟨h⟩
theorem D {P:Prop} (h:P:=by
 apply Ar
 ·exact Y
 ·(repeat (first | exact ResVs.nil | (apply ResVs.cons;(first | exact .tmp | exact .cell rfl rfl rfl rfl))))
 ·exact Y
 ·exact Y):P:=h
theorem U {P:Prop} (h:P:=by
 refine⟨?_,?_,Y,Y⟩
 ·repeat (first | exact trivial | exact rfl | refine⟨rfl,rfl,?_⟩)
 ·repeat (first | exact trivial | refine⟨.inl rfl,rfl,?_⟩ | refine⟨.inr rfl,rfl,?_⟩)):P:=h
theorem W {P:Prop} (h:P:=by
 repeat (first | exact trivial | exact rfl | refine⟨rfl,?_⟩)):P:=h
theorem V {P:Prop} (h:P:=by
 repeat (first | exact trivial | refine⟨.inl rfl,?_⟩ | refine⟨.inr rfl,?_⟩)):P:=h
theorem C {P:Program} {f:FuncId} {fn:Func} {c:Code} {A:List SV} {R:SV} {Z Q:Prop} (hs:Sy.Spec P f A [] R []) (hf:Fun P f fn c) (h:Q) (e:Sy.Spec P f A [] R []→Fun P f fn c→Bx Q→Z:=by
 intro hs hf hb
 first | refine Mq hs hf rfl rfl rfl rfl rfl ?_ | refine Ao1 hs hf rfl rfl rfl j_ rfl ?_
 refine T ?_
 exact hb.out):Z:=e hs hf ⟨h⟩
theorem X {C:Cx} {k:List KI} {s:SS} {all:Array Oper} {o:Oper} {rest:List Oper} {V:Up} {Q:Prop} (hg:Good C.P o s V) (h:Q) (hd:Q6 C.n o=true:=by exact rfl) (hw:E7 C.n all o s=some true:=by exact rfl) (e:Bx Q→G C (.ops all rest::k) (s.upd o.dst V):=by
 intro hb
 refine T ?_
 exact hb.out):G C (.ops all (o::rest)::k) s:=C0 hg hd hw (e ⟨h⟩)
theorem Xd {C:Cx} {k:List KI} {s:SS} {all:Array Oper} {done:List Stp} {o:Oper} {rest:List Oper} {V:Up} {Q:Prop} (hg:Good C.P o s V) (h:Q) (hi:all[done.length]? = some o:=by kernel_rfl) (hw:E7 C.n all o s=some true:=by exact rfl) (hn:(J1 o || Sq o)=false:=by exact rfl) (e:Bx Q→DR C k all (done++[⟨done.length,o,V,true⟩]) rest (s.upd o.dst V):=by
 intro hb
 refine T ?_
 exact hb.out):DR C k all done (o::rest) s:=Kd hg hi hw (e ⟨h⟩) hn
end Go.Sy.YtjenpnjajjplkaaGreatDoor
namespace Go.Sy.YtjenpnjajjplkaaGreatDoor
open Go.Proofs
attribute [local irreducible] Go.Sy.G Go.Sy.DR
set_option maxRecDepth 100000
set_option maxHeartbeats 4000000
theorem Dv {α:Type} {p:α→Bool} {l:List α} {j:Nat} (h:Da (fun _ x=>!(p x)) l j) (i:Nat) (hi:i<l.length) (hij:i<j):p l[i]=false:=by
 have:=h i hi hij
 simpa using this
theorem I5 (n:Net) (name:ByteArray) (hl:At n.devices):Sy.Spec Tryz.prog 211 [Aj n,Ad name] [] (Aa (Cn n name)) []:=cT F211 Tryz.ntmps211 fun F hF=>by
 unfold At at hl
 refine T ?_
 refine A6 2 8 (Aj n) Y Y Y ?_
 refine Au (fun j:Nat=>j≤n.devices.length∧Da (fun _ (x:Device)=>!(x.name == name)) n.devices j) (fun j=>[(1,Ad name),(2,.ref 8 (Aj n) 0),(5,Aa j)]) (fun _=>[]) (fun j=>n.devices.length-j) 0 [] ⟨by omega,Av _ _⟩ U ?_
 rintro j ⟨hj,hI⟩
 refine T ?_
 refine⟨fun h=>?_,fun h=>?_⟩
 ·have hlt:j<n.devices.length:=qA h
  have hj0:((j:Nat):Int).toNat<n.devices.length:=hlt
  clear h
  by_cases e0:((n.devices[((j:Nat):Int).toNat]'hj0).name == name)=true
  case neg =>
   have e0:((n.devices[((j:Nat):Int).toNat]'hj0).name == name)=false:=by simpa using e0
   refine T ?_
   exact Ae (j+1) [] ⟨hlt,Aq hI hlt (by have e:=e0;(try simp only[Int.toNat_natCast]at e);simp[e])⟩ z_ U
  refine T ?_
  refine Ar Y (.cons .tmp .nil) (congrArg Aa ?_) Y
  exact Ck (p:=fun x:Device=>x.name == name) (j:=j) hlt (fun i hi hij=>Dv hI i hi hij) (e0)
 ·have hje:j=n.devices.length:=qB h
  clear h
  refine T ?_
  refine Ar Y (.cons .tmp .nil) (congrArg Aa ?_) Y
  exact C2 (p:=fun x:Device=>x.name == name) (fun i hi=>Dv hI i hi z_)
theorem Xk (n:Net) (dev:Int) (name:ByteArray) (hl:At n.ports):Sy.Spec Tryz.prog 212 [Aj n,Aa dev,Ad name] [] (Aa (K5 n dev name)) []:=cT F212 Tryz.ntmps212 fun F hF=>by
 unfold At at hl
 refine T ?_
 refine A6 3 8 (Aj n) Y Y Y ?_
 refine Au (fun j:Nat=>j≤n.ports.length∧Da (fun _ (x:Port)=>!(x.dev == dev && x.name == name)) n.ports j) (fun j=>[(1,Aa dev),(2,Ad name),(3,.ref 8 (Aj n) 0),(7,Aa j)]) (fun _=>[]) (fun j=>n.ports.length-j) 0 [] ⟨by omega,Av _ _⟩ U ?_
 rintro j ⟨hj,hI⟩
 refine T ?_
 refine⟨fun h=>?_,fun h=>?_⟩
 ·have hlt:j<n.ports.length:=qA h
  have hj0:((j:Nat):Int).toNat<n.ports.length:=hlt
  clear h
  by_cases e0:((n.ports[((j:Nat):Int).toNat]'hj0).dev == dev)=true
  case neg =>
   have e0:((n.ports[((j:Nat):Int).toNat]'hj0).dev == dev)=false:=by simpa using e0
   refine T ?_
   exact Ae (j+1) [] ⟨hlt,Aq hI hlt (by have e:=e0;(try simp only[Int.toNat_natCast]at e);simp[e])⟩ z_ U
  by_cases e1:((n.ports[((j:Nat):Int).toNat]'hj0).name == name)=true
  case neg =>
   have e1:((n.ports[((j:Nat):Int).toNat]'hj0).name == name)=false:=by simpa using e1
   refine T ?_
   exact Ae (j+1) [] ⟨hlt,Aq hI hlt (by have e:=e1;(try simp only[Int.toNat_natCast]at e);simp[e])⟩ z_ U
  refine T ?_
  refine Ar Y (.cons .tmp .nil) (congrArg Aa ?_) Y
  exact Ck (p:=fun x:Port=>x.dev == dev && x.name == name) (j:=j) hlt (fun i hi hij=>Dv hI i hi hij) (Bool.and_eq_true_iff.2 ⟨e0,e1⟩)
 ·have hje:j=n.ports.length:=qB h
  clear h
  refine T ?_
  refine Ar Y (.cons .tmp .nil) (congrArg Aa ?_) Y
  exact C2 (p:=fun x:Port=>x.dev == dev && x.name == name) (fun i hi=>Dv hI i hi z_)
theorem Ai7 (n:Net) (dev:Int) (name:ByteArray) (hl:At n.vrfs):Sy.Spec Tryz.prog 219 [Aj n,Aa dev,Ad name] [] (Aa (Aco n dev name)) []:=cT F219 Tryz.ntmps219 fun F hF=>by
 unfold At at hl
 refine T ?_
 refine A6 3 8 (Aj n) Y Y Y ?_
 refine Au (fun j:Nat=>j≤n.vrfs.length∧Da (fun _ (x:Vrf)=>!(x.dev == dev && x.name == name)) n.vrfs j) (fun j=>[(1,Aa dev),(2,Ad name),(3,.ref 8 (Aj n) 0),(7,Aa j)]) (fun _=>[]) (fun j=>n.vrfs.length-j) 0 [] ⟨by omega,Av _ _⟩ U ?_
 rintro j ⟨hj,hI⟩
 refine T ?_
 refine⟨fun h=>?_,fun h=>?_⟩
 ·have hlt:j<n.vrfs.length:=qA h
  have hj0:((j:Nat):Int).toNat<n.vrfs.length:=hlt
  clear h
  by_cases e0:((n.vrfs[((j:Nat):Int).toNat]'hj0).dev == dev)=true
  case neg =>
   have e0:((n.vrfs[((j:Nat):Int).toNat]'hj0).dev == dev)=false:=by simpa using e0
   refine T ?_
   exact Ae (j+1) [] ⟨hlt,Aq hI hlt (by have e:=e0;(try simp only[Int.toNat_natCast]at e);simp[e])⟩ z_ U
  by_cases e1:((n.vrfs[((j:Nat):Int).toNat]'hj0).name == name)=true
  case neg =>
   have e1:((n.vrfs[((j:Nat):Int).toNat]'hj0).name == name)=false:=by simpa using e1
   refine T ?_
   exact Ae (j+1) [] ⟨hlt,Aq hI hlt (by have e:=e1;(try simp only[Int.toNat_natCast]at e);simp[e])⟩ z_ U
  refine T ?_
  refine Ar Y (.cons .tmp .nil) (congrArg Aa ?_) Y
  exact Ck (p:=fun x:Vrf=>x.dev == dev && x.name == name) (j:=j) hlt (fun i hi hij=>Dv hI i hi hij) (Bool.and_eq_true_iff.2 ⟨e0,e1⟩)
 ·have hje:j=n.vrfs.length:=qB h
  clear h
  refine T ?_
  refine Ar Y (.cons .tmp .nil) (congrArg Aa ?_) Y
  exact C2 (p:=fun x:Vrf=>x.dev == dev && x.name == name) (fun i hi=>Dv hI i hi z_)
theorem M7 (n:Net) (dev:Int) (vni:Int) (hl:At n.domains):Sy.Spec Tryz.prog 139 [Aj n,Aa dev,Aa vni] [] (Aa (Ia n dev vni)) []:=cT F139 Tryz.ntmps139 fun F hF=>by
 unfold At at hl
 refine T ?_
 refine A6 3 8 (Aj n) Y Y Y ?_
 refine Au (fun j:Nat=>j≤n.domains.length∧Da (fun _ (x:Domain)=>!(x.dev == dev && (x.vni == vni && vni != 0))) n.domains j) (fun j=>[(1,Aa dev),(2,Aa vni),(3,.ref 8 (Aj n) 0),(7,Aa j)]) (fun _=>[]) (fun j=>n.domains.length-j) 0 [] ⟨by omega,Av _ _⟩ U ?_
 rintro j ⟨hj,hI⟩
 refine T ?_
 refine⟨fun h=>?_,fun h=>?_⟩
 ·have hlt:j<n.domains.length:=qA h
  have hj0:((j:Nat):Int).toNat<n.domains.length:=hlt
  clear h
  by_cases e0:((n.domains[((j:Nat):Int).toNat]'hj0).dev == dev)=true
  case neg =>
   have e0:((n.domains[((j:Nat):Int).toNat]'hj0).dev == dev)=false:=by simpa using e0
   refine T ?_
   exact Ae (j+1) [] ⟨hlt,Aq hI hlt (by have e:=e0;(try simp only[Int.toNat_natCast]at e);simp[e])⟩ z_ U
  by_cases e1:((n.domains[((j:Nat):Int).toNat]'hj0).vni == vni)=true
  case neg =>
   have e1:((n.domains[((j:Nat):Int).toNat]'hj0).vni == vni)=false:=by simpa using e1
   refine T ?_
   exact Ae (j+1) [] ⟨hlt,Aq hI hlt (by have e:=e1;(try simp only[Int.toNat_natCast]at e);simp[e])⟩ z_ U
  by_cases e2:(vni != 0)=true
  case neg =>
   have e2:(vni != 0)=false:=by simpa using e2
   refine T ?_
   exact Ae (j+1) [] ⟨hlt,Aq hI hlt (by have e:=e2;(try simp only[Int.toNat_natCast]at e);simp[e])⟩ z_ U
  refine T ?_
  refine Ar Y (.cons .tmp .nil) (congrArg Aa ?_) Y
  exact Ck (p:=fun x:Domain=>x.dev == dev && (x.vni == vni && vni != 0)) (j:=j) hlt (fun i hi hij=>Dv hI i hi hij) (Bool.and_eq_true_iff.2 ⟨e0,Bool.and_eq_true_iff.2 ⟨e1,e2⟩⟩)
 ·have hje:j=n.domains.length:=qB h
  clear h
  refine T ?_
  refine Ar Y (.cons .tmp .nil) (congrArg Aa ?_) Y
  exact C2 (p:=fun x:Domain=>x.dev == dev && (x.vni == vni && vni != 0)) (fun i hi=>Dv hI i hi z_)
theorem Uu (n:Net) (a:Int) (hl:At n.devices):Sy.Spec Tryz.prog 140 [Aj n,A3 a] [] (Aa (Cz n a)) []:=cT F140 Tryz.ntmps140 fun F hF=>by
 unfold At at hl
 refine T ?_
 refine A6 2 8 (Aj n) Y Y Y ?_
 refine Au (fun j:Nat=>j≤n.devices.length∧Da (fun _ (x:Device)=>!(x.vtep == a)) n.devices j) (fun j=>[(1,A3 a),(2,.ref 8 (Aj n) 0),(5,Aa j)]) (fun _=>[]) (fun j=>n.devices.length-j) 0 [] ⟨by omega,Av _ _⟩ U ?_
 rintro j ⟨hj,hI⟩
 refine T ?_
 refine⟨fun h=>?_,fun h=>?_⟩
 ·have hlt:j<n.devices.length:=qA h
  have hj0:((j:Nat):Int).toNat<n.devices.length:=hlt
  clear h
  by_cases e0:((n.devices[((j:Nat):Int).toNat]'hj0).vtep == a)=true
  case neg =>
   have e0:((n.devices[((j:Nat):Int).toNat]'hj0).vtep == a)=false:=by simpa using e0
   refine T ?_
   exact Ae (j+1) [] ⟨hlt,Aq hI hlt (by have e:=e0;(try simp only[Int.toNat_natCast]at e);simp[e])⟩ z_ U
  refine T ?_
  refine Ar Y (.cons .tmp .nil) (congrArg Aa ?_) Y
  exact Ck (p:=fun x:Device=>x.vtep == a) (j:=j) hlt (fun i hi hij=>Dv hI i hi hij) (e0)
 ·have hje:j=n.devices.length:=qB h
  clear h
  refine T ?_
  refine Ar Y (.cons .tmp .nil) (congrArg Aa ?_) Y
  exact C2 (p:=fun x:Device=>x.vtep == a) (fun i hi=>Dv hI i hi z_)
theorem Xj (n:Net) (dev:Int) (vni:Int) (hl:At n.floods):Sy.Spec Tryz.prog 138 [Aj n,Aa dev,Aa vni] [] (Aa (Ee n dev vni)) []:=cT F138 Tryz.ntmps138 fun F hF=>by
 unfold At at hl
 refine T ?_
 refine A6 3 8 (Aj n) Y Y Y ?_
 refine Au (fun j:Nat=>j≤n.floods.length∧Da (fun _ (x:Flood)=>!(x.dev == dev && x.vni == vni)) n.floods j) (fun j=>[(1,Aa dev),(2,Aa vni),(3,.ref 8 (Aj n) 0),(7,Aa j)]) (fun _=>[]) (fun j=>n.floods.length-j) 0 [] ⟨by omega,Av _ _⟩ U ?_
 rintro j ⟨hj,hI⟩
 refine T ?_
 refine⟨fun h=>?_,fun h=>?_⟩
 ·have hlt:j<n.floods.length:=qA h
  have hj0:((j:Nat):Int).toNat<n.floods.length:=hlt
  clear h
  by_cases e0:((n.floods[((j:Nat):Int).toNat]'hj0).dev == dev)=true
  case neg =>
   have e0:((n.floods[((j:Nat):Int).toNat]'hj0).dev == dev)=false:=by simpa using e0
   refine T ?_
   exact Ae (j+1) [] ⟨hlt,Aq hI hlt (by have e:=e0;(try simp only[Int.toNat_natCast]at e);simp[e])⟩ z_ U
  by_cases e1:((n.floods[((j:Nat):Int).toNat]'hj0).vni == vni)=true
  case neg =>
   have e1:((n.floods[((j:Nat):Int).toNat]'hj0).vni == vni)=false:=by simpa using e1
   refine T ?_
   exact Ae (j+1) [] ⟨hlt,Aq hI hlt (by have e:=e1;(try simp only[Int.toNat_natCast]at e);simp[e])⟩ z_ U
  refine T ?_
  refine Ar Y (.cons .tmp .nil) (congrArg Aa ?_) Y
  exact Ck (p:=fun x:Flood=>x.dev == dev && x.vni == vni) (j:=j) hlt (fun i hi hij=>Dv hI i hi hij) (Bool.and_eq_true_iff.2 ⟨e0,e1⟩)
 ·have hje:j=n.floods.length:=qB h
  clear h
  refine T ?_
  refine Ar Y (.cons .tmp .nil) (congrArg Aa ?_) Y
  exact C2 (p:=fun x:Flood=>x.dev == dev && x.vni == vni) (fun i hi=>Dv hI i hi z_)
theorem Aa8 (l:List Int) (a:Int) (hl:At l):Sy.Spec Tryz.prog 218 [.sl 1 A3 l,A3 a] [] (Ab (inB l a)) []:=cT F218 Tryz.ntmps218 fun F hF=>by
 unfold At at hl
 refine T ?_
 refine Au (fun j:Nat=>j≤l.length∧Da (fun _ (x:Int)=>!(x == a)) l j) (fun j=>[(0,.sl 1 A3 l),(1,A3 a),(5,Aa j)]) (fun _=>[]) (fun j=>l.length-j) 0 [] ⟨by omega,Av _ _⟩ U ?_
 rintro j ⟨hj,hI⟩
 refine T ?_
 refine⟨fun h=>?_,fun h=>?_⟩
 ·have hlt:j<l.length:=qA h
  have hj0:((j:Nat):Int).toNat<l.length:=hlt
  clear h
  by_cases e0:((l[((j:Nat):Int).toNat]'hj0) == a)=true
  ·have hb:inB l a=true:=List.any_eq_true.2 ⟨_,List.getElem_mem hlt,e0⟩
   rw[hb]
   refine T ?_
   exact D
  ·have e0:((l[((j:Nat):Int).toNat]'hj0) == a)=false:=by simpa using e0
   refine T ?_
   exact Ae (j+1) [] ⟨hlt,Aq hI hlt (by have e:=e0;simp only[Int.toNat_natCast]at e;simp[e])⟩ z_ U
 ·have hje:j=l.length:=qB h
  clear h
  have hb:inB l a=false:=by
   rw[inB,List.any_eq_false]
   intro x hx
   obtain ⟨i,hi,rfl⟩:=List.mem_iff_getElem.1 hx
   simpa using hI i hi z_
  rw[hb]
  refine T ?_
  exact D
theorem O7 {κ:Ka} {w:World} {k sz:Nat} {α:Type} {e:α→SV} {l:List α} (hne:l≠[]) (h:ObOK κ w k (.row sz e l)):∃ b n c,κ k=.row b n c:=by
 rcases h with ⟨_,h⟩ | ⟨b,cap,_,_,_,h,_⟩
 ·exact absurd h hne
 ·exact⟨b,_,cap,h⟩
theorem I8 (l:List Int) (hl:l.length<2147483648):Sy.Spec Tryz.prog 159 [.sl 1 Aa l] [] (.sl 1 Aa l) []:=cT F159 Tryz.ntmps159 fun F hF=>by
 conv=>whnf
 refine Ic Y (.inl Y) Y Y Y .sl Y Y ?_
 intro b hb
 cases b
 ·refine oF ?_
  refine C0 (Ak Γ.toTy 7 Y Y Y Y Y (.lit (e:=Aa) (l:=[]) Y Y) .sl qe (by simp;omega) (by simp;omega)) Y Y ?_
  refine Ac 7 Y ?_
  refine oO ?_
  exact dN
 ·have h0:l=[]:=List.eq_nil_of_length_eq_zero (hb rfl)
  subst h0
  refine oT ?_
  refine Dh 2 1 Aa Y ?_
  exact dN
theorem Aam (l:List Int) (hl:l.length<2147483648):Sy.Spec Tryz.prog 160 [.sl 1 A3 l] [] (.sl 1 A3 l) []:=cT F160 Tryz.ntmps160 fun F hF=>by
 conv=>whnf
 refine Ic Y (.inl Y) Y Y Y .sl Y Y ?_
 intro b hb
 cases b
 ·refine oF ?_
  refine C0 (Ak Γ.toTy 7 Y Y Y Y Y (.lit (e:=A3) (l:=[]) Y Y) .sl qe (by simp;omega) (by simp;omega)) Y Y ?_
  refine Ac 7 Y ?_
  refine oO ?_
  exact dN
 ·have h0:l=[]:=List.eq_nil_of_length_eq_zero (hb rfl)
  subst h0
  refine oT ?_
  refine Dh 2 1 A3 Y ?_
  exact dN
theorem Ain (l:List Port) (hl:l.length<2147483648):Sy.Spec Tryz.prog 152 [.sl 7 Bb l] [] (.osl 0) [(0,.row 7 Bb l)]:=cT F152 Tryz.ntmps152 fun F hF=>by
 conv=>whnf
 refine Ic Y (.inl Y) Y Y Y .sl Y Y ?_
 intro b hb
 cases b
 ·refine oF ?_
  refine C0 (Ak Γ.toTy 7 Y Y Y Y Y (.lit (e:=Bb) (l:=[]) Y Y) .sl qe (by simp;omega) (by simp;omega)) Y Y ?_
  refine oO ?_
  exact done Y (.cons .tmp .nil) [(0,7)] [(0,.row 7 Bb l)] (fun _ h=>h) Y Y ⟨q_,⟨.inl Y,Y,q_⟩,Y,Y⟩
 ·have h0:l=[]:=List.eq_nil_of_length_eq_zero (hb rfl)
  subst h0
  refine oT ?_
  refine C4 2 1000 7 Bb Y Y ?_
  exact done Y (.cons .tmp .nil) [(0,1000)] [(0,.row 7 Bb [])] (fun _ h=>h) Y Y ⟨q_,⟨.inl Y,Y,q_⟩,Y,Y⟩
theorem Acg (l:List Domain) (hl:l.length<2147483648):Sy.Spec Tryz.prog 154 [.sl 6 Am l] [] (.osl 0) [(0,.row 6 Am l)]:=cT F154 Tryz.ntmps154 fun F hF=>by
 conv=>whnf
 refine Ic Y (.inl Y) Y Y Y .sl Y Y ?_
 intro b hb
 cases b
 ·refine oF ?_
  refine C0 (Ak Γ.toTy 7 Y Y Y Y Y (.lit (e:=Am) (l:=[]) Y Y) .sl qe (by simp;omega) (by simp;omega)) Y Y ?_
  refine oO ?_
  exact done Y (.cons .tmp .nil) [(0,7)] [(0,.row 6 Am l)] (fun _ h=>h) Y Y ⟨q_,⟨.inl Y,Y,q_⟩,Y,Y⟩
 ·have h0:l=[]:=List.eq_nil_of_length_eq_zero (hb rfl)
  subst h0
  refine oT ?_
  refine C4 2 1000 6 Am Y Y ?_
  exact done Y (.cons .tmp .nil) [(0,1000)] [(0,.row 6 Am [])] (fun _ h=>h) Y Y ⟨q_,⟨.inl Y,Y,q_⟩,Y,Y⟩
theorem Afe (l:List Flood) (hl:l.length<2147483648):Sy.Spec Tryz.prog 156 [.sl 4 A4 l] [] (.osl 0) [(0,.row 4 A4 l)]:=cT F156 Tryz.ntmps156 fun F hF=>by
 conv=>whnf
 refine Ic Y (.inl Y) Y Y Y .sl Y Y ?_
 intro b hb
 cases b
 ·refine oF ?_
  refine C0 (Ak Γ.toTy 7 Y Y Y Y Y (.lit (e:=A4) (l:=[]) Y Y) .sl qe (by simp;omega) (by simp;omega)) Y Y ?_
  refine oO ?_
  exact done Y (.cons .tmp .nil) [(0,7)] [(0,.row 4 A4 l)] (fun _ h=>h) Y Y ⟨q_,⟨.inl Y,Y,q_⟩,Y,Y⟩
 ·have h0:l=[]:=List.eq_nil_of_length_eq_zero (hb rfl)
  subst h0
  refine oT ?_
  refine C4 2 1000 4 A4 Y Y ?_
  exact done Y (.cons .tmp .nil) [(0,1000)] [(0,.row 4 A4 [])] (fun _ h=>h) Y Y ⟨q_,⟨.inl Y,Y,q_⟩,Y,Y⟩
theorem Aly (l:List Vrf) (hl:l.length<2147483648):Sy.Spec Tryz.prog 157 [.sl 5 Cd l] [] (.osl 0) [(0,.row 5 Cd l)]:=cT F157 Tryz.ntmps157 fun F hF=>by
 conv=>whnf
 refine Ic Y (.inl Y) Y Y Y .sl Y Y ?_
 intro b hb
 cases b
 ·refine oF ?_
  refine C0 (Ak Γ.toTy 7 Y Y Y Y Y (.lit (e:=Cd) (l:=[]) Y Y) .sl qe (by simp;omega) (by simp;omega)) Y Y ?_
  refine oO ?_
  exact done Y (.cons .tmp .nil) [(0,7)] [(0,.row 5 Cd l)] (fun _ h=>h) Y Y ⟨q_,⟨.inl Y,Y,q_⟩,Y,Y⟩
 ·have h0:l=[]:=List.eq_nil_of_length_eq_zero (hb rfl)
  subst h0
  refine oT ?_
  refine C4 2 1000 5 Cd Y Y ?_
  exact done Y (.cons .tmp .nil) [(0,1000)] [(0,.row 5 Cd [])] (fun _ h=>h) Y Y ⟨q_,⟨.inl Y,Y,q_⟩,Y,Y⟩
theorem Zk (l:List Device) (hl:l.length<2147483648):Sy.Spec Tryz.prog 151 [.sl 5 Az l] [] (.osl 0) [(0,.row 5 Az l)]:=cT F151 Tryz.ntmps151 fun F hF=>by
 ((conv=>whnf);repeat((first|refine aF ?_|refine aT ?_);(first|refine rG Γ hm ?_|refine rD Γ hm j_ ?_);conv=>whnf))
 refine Ic Y (.inl Y) Y Y Y .sl Y Y ?_
 intro b hb
 cases b
 ·((first|refine rG Γ hm ?_|refine rD Γ hm j_ ?_);(conv=>whnf);repeat((first|refine aF ?_|refine aT ?_);(first|refine rG Γ hm ?_|refine rD Γ hm j_ ?_);conv=>whnf))
  refine C0 (Ak Γ.toTy 7 Y Y Y Y Y (.lit (e:=Az) (l:=[]) Y Y) .sl qe (by simp;omega) (by simp;omega)) Y Y ?_
  ((first|refine rG Γ hm ?_|refine rD Γ hm j_ ?_);(conv=>whnf);repeat((first|refine aF ?_|refine aT ?_);(first|refine rG Γ hm ?_|refine rD Γ hm j_ ?_);conv=>whnf))
  exact done Y (.cons .tmp .nil) [(0,7)] [(0,.row 5 Az l)] (fun _ h=>h) Y Y ⟨q_,⟨.inl Y,Y,q_⟩,Y,Y⟩
 ·have h0:l=[]:=List.eq_nil_of_length_eq_zero (hb rfl)
  subst h0
  ((first|refine rG Γ hm ?_|refine rD Γ hm j_ ?_);(conv=>whnf);repeat((first|refine aF ?_|refine aT ?_);(first|refine rG Γ hm ?_|refine rD Γ hm j_ ?_);conv=>whnf))
  refine C4 2 1000 5 Az Y Y ?_
  exact done Y (.cons .tmp .nil) [(0,1000)] [(0,.row 5 Az [])] (fun _ h=>h) Y Y ⟨q_,⟨.inl Y,Y,q_⟩,Y,Y⟩
theorem Afd (l:List Link) (hl:l.length<2147483648):Sy.Spec Tryz.prog 153 [.sl 3 B2 l] [] (.osl 0) [(0,.row 3 B2 l)]:=cT F153 Tryz.ntmps153 fun F hF=>by
 ((conv=>whnf);repeat((first|refine aF ?_|refine aT ?_);(first|refine rG Γ hm ?_|refine rD Γ hm j_ ?_);conv=>whnf))
 refine Ic Y (.inl Y) Y Y Y .sl Y Y ?_
 intro b hb
 cases b
 ·((first|refine rG Γ hm ?_|refine rD Γ hm j_ ?_);(conv=>whnf);repeat((first|refine aF ?_|refine aT ?_);(first|refine rG Γ hm ?_|refine rD Γ hm j_ ?_);conv=>whnf))
  refine C0 (Ak Γ.toTy 7 Y Y Y Y Y (.lit (e:=B2) (l:=[]) Y Y) .sl qe (by simp;omega) (by simp;omega)) Y Y ?_
  ((first|refine rG Γ hm ?_|refine rD Γ hm j_ ?_);(conv=>whnf);repeat((first|refine aF ?_|refine aT ?_);(first|refine rG Γ hm ?_|refine rD Γ hm j_ ?_);conv=>whnf))
  exact done Y (.cons .tmp .nil) [(0,7)] [(0,.row 3 B2 l)] (fun _ h=>h) Y Y ⟨q_,⟨.inl Y,Y,q_⟩,Y,Y⟩
 ·have h0:l=[]:=List.eq_nil_of_length_eq_zero (hb rfl)
  subst h0
  ((first|refine rG Γ hm ?_|refine rD Γ hm j_ ?_);(conv=>whnf);repeat((first|refine aF ?_|refine aT ?_);(first|refine rG Γ hm ?_|refine rD Γ hm j_ ?_);conv=>whnf))
  refine C4 2 1000 3 B2 Y Y ?_
  exact done Y (.cons .tmp .nil) [(0,1000)] [(0,.row 3 B2 [])] (fun _ h=>h) Y Y ⟨q_,⟨.inl Y,Y,q_⟩,Y,Y⟩
theorem Zj (l:List Static) (hl:l.length<2147483648):Sy.Spec Tryz.prog 155 [.sl 4 A8 l] [] (.osl 0) [(0,.row 4 A8 l)]:=cT F155 Tryz.ntmps155 fun F hF=>by
 ((conv=>whnf);repeat((first|refine aF ?_|refine aT ?_);(first|refine rG Γ hm ?_|refine rD Γ hm j_ ?_);conv=>whnf))
 refine Ic Y (.inl Y) Y Y Y .sl Y Y ?_
 intro b hb
 cases b
 ·((first|refine rG Γ hm ?_|refine rD Γ hm j_ ?_);(conv=>whnf);repeat((first|refine aF ?_|refine aT ?_);(first|refine rG Γ hm ?_|refine rD Γ hm j_ ?_);conv=>whnf))
  refine C0 (Ak Γ.toTy 7 Y Y Y Y Y (.lit (e:=A8) (l:=[]) Y Y) .sl qe (by simp;omega) (by simp;omega)) Y Y ?_
  ((first|refine rG Γ hm ?_|refine rD Γ hm j_ ?_);(conv=>whnf);repeat((first|refine aF ?_|refine aT ?_);(first|refine rG Γ hm ?_|refine rD Γ hm j_ ?_);conv=>whnf))
  exact done Y (.cons .tmp .nil) [(0,7)] [(0,.row 4 A8 l)] (fun _ h=>h) Y Y ⟨q_,⟨.inl Y,Y,q_⟩,Y,Y⟩
 ·have h0:l=[]:=List.eq_nil_of_length_eq_zero (hb rfl)
  subst h0
  ((first|refine rG Γ hm ?_|refine rD Γ hm j_ ?_);(conv=>whnf);repeat((first|refine aF ?_|refine aT ?_);(first|refine rG Γ hm ?_|refine rD Γ hm j_ ?_);conv=>whnf))
  refine C4 2 1000 4 A8 Y Y ?_
  exact done Y (.cons .tmp .nil) [(0,1000)] [(0,.row 4 A8 [])] (fun _ h=>h) Y Y ⟨q_,⟨.inl Y,Y,q_⟩,Y,Y⟩
theorem Aio (l:List Irb) (hl:l.length<2147483648):Sy.Spec Tryz.prog 158 [.sl 5 Cf l] [] (.osl 0) [(0,.row 5 Cf l)]:=cT F158 Tryz.ntmps158 fun F hF=>by
 ((conv=>whnf);repeat((first|refine aF ?_|refine aT ?_);(first|refine rG Γ hm ?_|refine rD Γ hm j_ ?_);conv=>whnf))
 refine Ic Y (.inl Y) Y Y Y .sl Y Y ?_
 intro b hb
 cases b
 ·((first|refine rG Γ hm ?_|refine rD Γ hm j_ ?_);(conv=>whnf);repeat((first|refine aF ?_|refine aT ?_);(first|refine rG Γ hm ?_|refine rD Γ hm j_ ?_);conv=>whnf))
  refine C0 (Ak Γ.toTy 7 Y Y Y Y Y (.lit (e:=Cf) (l:=[]) Y Y) .sl qe (by simp;omega) (by simp;omega)) Y Y ?_
  ((first|refine rG Γ hm ?_|refine rD Γ hm j_ ?_);(conv=>whnf);repeat((first|refine aF ?_|refine aT ?_);(first|refine rG Γ hm ?_|refine rD Γ hm j_ ?_);conv=>whnf))
  exact done Y (.cons .tmp .nil) [(0,7)] [(0,.row 5 Cf l)] (fun _ h=>h) Y Y ⟨q_,⟨.inl Y,Y,q_⟩,Y,Y⟩
 ·have h0:l=[]:=List.eq_nil_of_length_eq_zero (hb rfl)
  subst h0
  ((first|refine rG Γ hm ?_|refine rD Γ hm j_ ?_);(conv=>whnf);repeat((first|refine aF ?_|refine aT ?_);(first|refine rG Γ hm ?_|refine rD Γ hm j_ ?_);conv=>whnf))
  refine C4 2 1000 5 Cf Y Y ?_
  exact done Y (.cons .tmp .nil) [(0,1000)] [(0,.row 5 Cf [])] (fun _ h=>h) Y Y ⟨q_,⟨.inl Y,Y,q_⟩,Y,Y⟩
theorem Mc (n:Net) (hn:n.Fin) :
  Sy.Spec Tryz.prog 61 [Aj n] [] (.agg [.osl 0,.osl 1,.osl 2,.osl 3,.osl 4,.osl 5,.osl 6,.osl 7]) [(0,.row 5 Az n.devices),(1,.row 7 Bb n.ports),(2,.row 3 B2 n.links),(3,.row 6 Am n.domains),(4,.row 4 A8 n.statics),(5,.row 4 A4 n.floods),(6,.row 5 Cd n.vrfs),(7,.row 5 Cf n.irbs)]:=cT F61 Tryz.ntmps61 fun F hF=>by
 have h1:n.devices.length<2147483648∧n.ports.length<2147483648∧n.links.length<2147483648∧n.domains.length<2147483648∧n.statics.length<2147483648∧n.floods.length<2147483648∧n.vrfs.length<2147483648∧n.irbs.length<2147483648:=⟨hn.devices,hn.ports,hn.links,hn.domains,hn.statics,hn.floods,hn.vrfs,hn.irbs⟩
 have h2:(∀ p∈n.ports,p.tagged.length<2147483648)∧(∀ p∈n.domains,p.peers.length<2147483648)∧(∀ p∈n.floods,p.addrs.length<2147483648)∧(∀ p∈n.vrfs,p.imports.length<2147483648∧p.exports.length<2147483648):=⟨hn.tagged,hn.peers,hn.addrs,fun v hv=>⟨hn.imports v hv,hn.exports v hv⟩⟩
 ((conv=>whnf);repeat((first|refine aF ?_|refine aT ?_);(first|refine rG Γ hm ?_|refine rD Γ hm j_ ?_);conv=>whnf))
 refine Kd (Af [(0,11)] Y F151 (Zk n.devices h1.1) Y q_ Y ⟨.inr Y,q_⟩) j_ Y ?_
 ((first|refine rG Γ hm ?_|refine rD Γ hm j_ ?_);(conv=>whnf);repeat((first|refine aF ?_|refine aT ?_);(first|refine rG Γ hm ?_|refine rD Γ hm j_ ?_);conv=>whnf))
 refine Kd (Af [(0,14)] Y F152 (Ain n.ports h1.2.1) Y q_ Y ⟨.inr Y,q_⟩) j_ Y ?_
 ((first|refine rG Γ hm ?_|refine rD Γ hm j_ ?_);(conv=>whnf);repeat((first|refine aF ?_|refine aT ?_);(first|refine rG Γ hm ?_|refine rD Γ hm j_ ?_);conv=>whnf))
 refine Kd (Af [(0,17)] Y F153 (Afd n.links h1.2.2.1) Y q_ Y ⟨.inr Y,q_⟩) j_ Y ?_
 ((first|refine rG Γ hm ?_|refine rD Γ hm j_ ?_);(conv=>whnf);repeat((first|refine aF ?_|refine aT ?_);(first|refine rG Γ hm ?_|refine rD Γ hm j_ ?_);conv=>whnf))
 refine Kd (Af [(0,20)] Y F154 (Acg n.domains h1.2.2.2.1) Y q_ Y ⟨.inr Y,q_⟩) j_ Y ?_
 ((first|refine rG Γ hm ?_|refine rD Γ hm j_ ?_);(conv=>whnf);repeat((first|refine aF ?_|refine aT ?_);(first|refine rG Γ hm ?_|refine rD Γ hm j_ ?_);conv=>whnf))
 refine Kd (Af [(0,23)] Y F155 (Zj n.statics h1.2.2.2.2.1) Y q_ Y ⟨.inr Y,q_⟩) j_ Y ?_
 ((first|refine rG Γ hm ?_|refine rD Γ hm j_ ?_);(conv=>whnf);repeat((first|refine aF ?_|refine aT ?_);(first|refine rG Γ hm ?_|refine rD Γ hm j_ ?_);conv=>whnf))
 refine Kd (Af [(0,26)] Y F156 (Afe n.floods h1.2.2.2.2.2.1) Y q_ Y ⟨.inr Y,q_⟩) j_ Y ?_
 ((first|refine rG Γ hm ?_|refine rD Γ hm j_ ?_);(conv=>whnf);repeat((first|refine aF ?_|refine aT ?_);(first|refine rG Γ hm ?_|refine rD Γ hm j_ ?_);conv=>whnf))
 refine Kd (Af [(0,29)] Y F157 (Aly n.vrfs h1.2.2.2.2.2.2.1) Y q_ Y ⟨.inr Y,q_⟩) j_ Y ?_
 ((first|refine rG Γ hm ?_|refine rD Γ hm j_ ?_);(conv=>whnf);repeat((first|refine aF ?_|refine aT ?_);(first|refine rG Γ hm ?_|refine rD Γ hm j_ ?_);conv=>whnf))
 refine Kd (Af [(0,32)] Y F158 (Aio n.irbs h1.2.2.2.2.2.2.2) Y q_ Y ⟨.inr Y,q_⟩) j_ Y ?_
 ((first|refine rG Γ hm ?_|refine rD Γ hm j_ ?_);(conv=>whnf);repeat((first|refine aF ?_|refine aT ?_);(first|refine rG Γ hm ?_|refine rD Γ hm j_ ?_);conv=>whnf))
 refine⟨j_,?_⟩
 ((conv=>whnf);repeat((first|refine aF ?_|refine aT ?_);(first|refine rG Γ hm ?_|refine rD Γ hm j_ ?_);conv=>whnf))
 refine Dz n.ports.length (fun j=>[(2,.ptr 2 0),(3,.ptr 3 0),(36,Aa n.ports.length),(37,Aa j)]) (fun _=>[(2,.box [.val (.slice none 0 0),.val (.slice none 0 0),.val (.slice none 0 0),.val (.slice none 0 0),.val (.slice none 0 0),.val (.slice none 0 0),.val (.slice none 0 0),.val (.slice none 0 0)]),(3,.box [.osl 11,.osl 14,.osl 17,.osl 20,.osl 23,.osl 26,.osl 29,.osl 32]),(11,.row 5 Az n.devices),(14,.row 7 Bb n.ports),(17,.row 3 B2 n.links),(20,.row 6 Am n.domains),(23,.row 4 A8 n.statics),(26,.row 4 A4 n.floods),(29,.row 5 Cd n.vrfs),(32,.row 5 Cf n.irbs)]) []
  ⟨⟨rfl,rfl,rfl,rfl,rfl,rfl,rfl,rfl,trivial⟩,⟨.inl rfl,rfl,.inl rfl,rfl,.inl rfl,rfl,.inl rfl,rfl,.inl rfl,rfl,.inl rfl,rfl,.inl rfl,rfl,.inl rfl,rfl,.inl rfl,rfl,.inl rfl,rfl,trivial⟩,rfl,rfl⟩ ?_
 intro j hj
 ((first|refine rG Γ hm ?_|refine rD Γ hm j_ ?_);(conv=>whnf);repeat((first|refine aF ?_|refine aT ?_);(first|refine rG Γ hm ?_|refine rD Γ hm j_ ?_);conv=>whnf))
 refine⟨fun h=>?_,fun h=>?_⟩
 ·have hlt:j<n.ports.length:=by simpa using h
  obtain ⟨p,hp⟩:∃ p,n.ports[(j:Int).toNat]'z_=p:=⟨_,rfl⟩
  have hne:n.ports≠[]:=fun e=>by rw[e]at hlt;cases hlt
  have hset:n.ports.set (j:Int).toNat p=n.ports:=by rw[← hp];exact List.set_getElem_self _
  have hpl:=h2.1 p (by rw[← hp];exact List.getElem_mem _)
  ((first|refine rG Γ hm ?_|refine rD Γ hm j_ ?_);(conv=>whnf);repeat((first|refine aF ?_|refine aT ?_);(first|refine rG Γ hm ?_|refine rD Γ hm j_ ?_);conv=>whnf))
  refine⟨by omega,by show _<n.ports.length;omega,?_⟩
  ((conv=>whnf);repeat((first|refine aF ?_|refine aT ?_);(first|refine rG Γ hm ?_|refine rD Γ hm j_ ?_);conv=>whnf))
  refine⟨hne,?_⟩
  ((conv=>whnf);repeat((first|refine aF ?_|refine aT ?_);(first|refine rG Γ hm ?_|refine rD Γ hm j_ ?_);conv=>whnf))
  refine⟨Y,by omega,?_⟩
  rw[hp]
  ((conv=>whnf);repeat((first|refine aF ?_|refine aT ?_);(first|refine rG Γ hm ?_|refine rD Γ hm j_ ?_);conv=>whnf))
  refine cD (I8 p.tagged hpl) F159 ?_
  ((first|refine rG Γ hm ?_|refine rD Γ hm j_ ?_);(conv=>whnf);repeat((first|refine aF ?_|refine aT ?_);(first|refine rG Γ hm ?_|refine rD Γ hm j_ ?_);conv=>whnf))
  refine⟨by omega,by show _<n.ports.length;omega,?_⟩
  ((conv=>whnf);repeat((first|refine aF ?_|refine aT ?_);(first|refine rG Γ hm ?_|refine rD Γ hm j_ ?_);conv=>whnf))
  refine⟨hne,?_⟩
  ((conv=>whnf);repeat((first|refine aF ?_|refine aT ?_);(first|refine rG Γ hm ?_|refine rD Γ hm j_ ?_);conv=>whnf))
  refine⟨Y,by omega,p,(by rw[hp];rfl),(by rw[hp];rfl),?_⟩
  ((conv=>whnf);repeat((first|refine aF ?_|refine aT ?_);(first|refine rG Γ hm ?_|refine rD Γ hm j_ ?_);conv=>whnf))
  refine⟨j_,?_⟩
  ((conv=>whnf);repeat((first|refine aF ?_|refine aT ?_);(first|refine rG Γ hm ?_|refine rD Γ hm j_ ?_);conv=>whnf))
  refine iL ?_
  ((conv=>whnf);repeat((first|refine aF ?_|refine aT ?_);(first|refine rG Γ hm ?_|refine rD Γ hm j_ ?_);conv=>whnf))
  exact D3 [] hlt ⟨⟨Y,Y,Y,Y,Y,Y,Y,Y,q_⟩,⟨.inl Y,Y,.inl Y,Y,.inl Y,Y,.inl (congrArg (Ob.row 7 Bb) hset.symm),Y,.inl Y,Y,.inl Y,Y,.inl Y,Y,.inl Y,Y,.inl Y,Y,.inl Y,Y,q_⟩,Y,Y⟩
 ·((first|refine rG Γ hm ?_|refine rD Γ hm j_ ?_);(conv=>whnf);repeat((first|refine aF ?_|refine aT ?_);(first|refine rG Γ hm ?_|refine rD Γ hm j_ ?_);conv=>whnf))
  refine Dz n.domains.length (fun j=>[(2,.ptr 2 0),(3,.ptr 3 0),(55,Aa n.domains.length),(56,Aa j)]) (fun _=>[(2,.box [.val (.slice none 0 0),.val (.slice none 0 0),.val (.slice none 0 0),.val (.slice none 0 0),.val (.slice none 0 0),.val (.slice none 0 0),.val (.slice none 0 0),.val (.slice none 0 0)]),(3,.box [.osl 11,.osl 14,.osl 17,.osl 20,.osl 23,.osl 26,.osl 29,.osl 32]),(11,.row 5 Az n.devices),(14,.row 7 Bb n.ports),(17,.row 3 B2 n.links),(20,.row 6 Am n.domains),(23,.row 4 A8 n.statics),(26,.row 4 A4 n.floods),(29,.row 5 Cd n.vrfs),(32,.row 5 Cf n.irbs)]) []
   ⟨⟨rfl,rfl,rfl,rfl,rfl,rfl,rfl,rfl,trivial⟩,⟨.inl rfl,rfl,.inl rfl,rfl,.inl rfl,rfl,.inl rfl,rfl,.inl rfl,rfl,.inl rfl,rfl,.inl rfl,rfl,.inl rfl,rfl,.inl rfl,rfl,.inl rfl,rfl,trivial⟩,rfl,rfl⟩ ?_
  intro j hj
  ((first|refine rG Γ hm ?_|refine rD Γ hm j_ ?_);(conv=>whnf);repeat((first|refine aF ?_|refine aT ?_);(first|refine rG Γ hm ?_|refine rD Γ hm j_ ?_);conv=>whnf))
  refine⟨fun h=>?_,fun h=>?_⟩
  ·have hlt:j<n.domains.length:=by simpa using h
   obtain ⟨p,hp⟩:∃ p,n.domains[(j:Int).toNat]'z_=p:=⟨_,rfl⟩
   have hne:n.domains≠[]:=fun e=>by rw[e]at hlt;cases hlt
   have hset:n.domains.set (j:Int).toNat p=n.domains:=by rw[← hp];exact List.set_getElem_self _
   have hpl:=h2.2.1 p (by rw[← hp];exact List.getElem_mem _)
   ((first|refine rG Γ hm ?_|refine rD Γ hm j_ ?_);(conv=>whnf);repeat((first|refine aF ?_|refine aT ?_);(first|refine rG Γ hm ?_|refine rD Γ hm j_ ?_);conv=>whnf))
   refine⟨by omega,by show _<n.domains.length;omega,?_⟩
   ((conv=>whnf);repeat((first|refine aF ?_|refine aT ?_);(first|refine rG Γ hm ?_|refine rD Γ hm j_ ?_);conv=>whnf))
   refine⟨hne,?_⟩
   ((conv=>whnf);repeat((first|refine aF ?_|refine aT ?_);(first|refine rG Γ hm ?_|refine rD Γ hm j_ ?_);conv=>whnf))
   refine⟨Y,by omega,?_⟩
   rw[hp]
   ((conv=>whnf);repeat((first|refine aF ?_|refine aT ?_);(first|refine rG Γ hm ?_|refine rD Γ hm j_ ?_);conv=>whnf))
   refine cD (I8 p.peers hpl) F159 ?_
   ((first|refine rG Γ hm ?_|refine rD Γ hm j_ ?_);(conv=>whnf);repeat((first|refine aF ?_|refine aT ?_);(first|refine rG Γ hm ?_|refine rD Γ hm j_ ?_);conv=>whnf))
   refine⟨by omega,by show _<n.domains.length;omega,?_⟩
   ((conv=>whnf);repeat((first|refine aF ?_|refine aT ?_);(first|refine rG Γ hm ?_|refine rD Γ hm j_ ?_);conv=>whnf))
   refine⟨hne,?_⟩
   ((conv=>whnf);repeat((first|refine aF ?_|refine aT ?_);(first|refine rG Γ hm ?_|refine rD Γ hm j_ ?_);conv=>whnf))
   refine⟨Y,by omega,p,(by rw[hp];rfl),(by rw[hp];rfl),?_⟩
   ((conv=>whnf);repeat((first|refine aF ?_|refine aT ?_);(first|refine rG Γ hm ?_|refine rD Γ hm j_ ?_);conv=>whnf))
   refine⟨j_,?_⟩
   ((conv=>whnf);repeat((first|refine aF ?_|refine aT ?_);(first|refine rG Γ hm ?_|refine rD Γ hm j_ ?_);conv=>whnf))
   refine iL ?_
   ((conv=>whnf);repeat((first|refine aF ?_|refine aT ?_);(first|refine rG Γ hm ?_|refine rD Γ hm j_ ?_);conv=>whnf))
   exact D3 [] hlt ⟨⟨Y,Y,Y,Y,Y,Y,Y,Y,q_⟩,⟨.inl Y,Y,.inl Y,Y,.inl Y,Y,.inl Y,Y,.inl Y,Y,.inl (congrArg (Ob.row 6 Am) hset.symm),Y,.inl Y,Y,.inl Y,Y,.inl Y,Y,.inl Y,Y,q_⟩,Y,Y⟩
  ·((first|refine rG Γ hm ?_|refine rD Γ hm j_ ?_);(conv=>whnf);repeat((first|refine aF ?_|refine aT ?_);(first|refine rG Γ hm ?_|refine rD Γ hm j_ ?_);conv=>whnf))
   refine Dz n.floods.length (fun j=>[(2,.ptr 2 0),(3,.ptr 3 0),(74,Aa n.floods.length),(75,Aa j)]) (fun _=>[(2,.box [.val (.slice none 0 0),.val (.slice none 0 0),.val (.slice none 0 0),.val (.slice none 0 0),.val (.slice none 0 0),.val (.slice none 0 0),.val (.slice none 0 0),.val (.slice none 0 0)]),(3,.box [.osl 11,.osl 14,.osl 17,.osl 20,.osl 23,.osl 26,.osl 29,.osl 32]),(11,.row 5 Az n.devices),(14,.row 7 Bb n.ports),(17,.row 3 B2 n.links),(20,.row 6 Am n.domains),(23,.row 4 A8 n.statics),(26,.row 4 A4 n.floods),(29,.row 5 Cd n.vrfs),(32,.row 5 Cf n.irbs)]) []
    ⟨⟨rfl,rfl,rfl,rfl,rfl,rfl,rfl,rfl,trivial⟩,⟨.inl rfl,rfl,.inl rfl,rfl,.inl rfl,rfl,.inl rfl,rfl,.inl rfl,rfl,.inl rfl,rfl,.inl rfl,rfl,.inl rfl,rfl,.inl rfl,rfl,.inl rfl,rfl,trivial⟩,rfl,rfl⟩ ?_
   intro j hj
   ((first|refine rG Γ hm ?_|refine rD Γ hm j_ ?_);(conv=>whnf);repeat((first|refine aF ?_|refine aT ?_);(first|refine rG Γ hm ?_|refine rD Γ hm j_ ?_);conv=>whnf))
   refine⟨fun h=>?_,fun h=>?_⟩
   ·have hlt:j<n.floods.length:=by simpa using h
    obtain ⟨p,hp⟩:∃ p,n.floods[(j:Int).toNat]'z_=p:=⟨_,rfl⟩
    have hne:n.floods≠[]:=fun e=>by rw[e]at hlt;cases hlt
    have hset:n.floods.set (j:Int).toNat p=n.floods:=by rw[← hp];exact List.set_getElem_self _
    have hpl:=h2.2.2.1 p (by rw[← hp];exact List.getElem_mem _)
    ((first|refine rG Γ hm ?_|refine rD Γ hm j_ ?_);(conv=>whnf);repeat((first|refine aF ?_|refine aT ?_);(first|refine rG Γ hm ?_|refine rD Γ hm j_ ?_);conv=>whnf))
    refine⟨by omega,by show _<n.floods.length;omega,?_⟩
    ((conv=>whnf);repeat((first|refine aF ?_|refine aT ?_);(first|refine rG Γ hm ?_|refine rD Γ hm j_ ?_);conv=>whnf))
    refine⟨hne,?_⟩
    ((conv=>whnf);repeat((first|refine aF ?_|refine aT ?_);(first|refine rG Γ hm ?_|refine rD Γ hm j_ ?_);conv=>whnf))
    refine⟨Y,by omega,?_⟩
    rw[hp]
    ((conv=>whnf);repeat((first|refine aF ?_|refine aT ?_);(first|refine rG Γ hm ?_|refine rD Γ hm j_ ?_);conv=>whnf))
    refine cD (Aam p.addrs hpl) F160 ?_
    ((first|refine rG Γ hm ?_|refine rD Γ hm j_ ?_);(conv=>whnf);repeat((first|refine aF ?_|refine aT ?_);(first|refine rG Γ hm ?_|refine rD Γ hm j_ ?_);conv=>whnf))
    refine⟨by omega,by show _<n.floods.length;omega,?_⟩
    ((conv=>whnf);repeat((first|refine aF ?_|refine aT ?_);(first|refine rG Γ hm ?_|refine rD Γ hm j_ ?_);conv=>whnf))
    refine⟨hne,?_⟩
    ((conv=>whnf);repeat((first|refine aF ?_|refine aT ?_);(first|refine rG Γ hm ?_|refine rD Γ hm j_ ?_);conv=>whnf))
    refine⟨Y,by omega,p,(by rw[hp];rfl),(by rw[hp];rfl),?_⟩
    ((conv=>whnf);repeat((first|refine aF ?_|refine aT ?_);(first|refine rG Γ hm ?_|refine rD Γ hm j_ ?_);conv=>whnf))
    refine⟨j_,?_⟩
    ((conv=>whnf);repeat((first|refine aF ?_|refine aT ?_);(first|refine rG Γ hm ?_|refine rD Γ hm j_ ?_);conv=>whnf))
    refine iL ?_
    ((conv=>whnf);repeat((first|refine aF ?_|refine aT ?_);(first|refine rG Γ hm ?_|refine rD Γ hm j_ ?_);conv=>whnf))
    exact D3 [] hlt ⟨⟨Y,Y,Y,Y,Y,Y,Y,Y,q_⟩,⟨.inl Y,Y,.inl Y,Y,.inl Y,Y,.inl Y,Y,.inl Y,Y,.inl Y,Y,.inl Y,Y,.inl (congrArg (Ob.row 4 A4) hset.symm),Y,.inl Y,Y,.inl Y,Y,q_⟩,Y,Y⟩
   ·((first|refine rG Γ hm ?_|refine rD Γ hm j_ ?_);(conv=>whnf);repeat((first|refine aF ?_|refine aT ?_);(first|refine rG Γ hm ?_|refine rD Γ hm j_ ?_);conv=>whnf))
    refine Dz n.vrfs.length (fun j=>[(2,.ptr 2 0),(3,.ptr 3 0),(93,Aa n.vrfs.length),(94,Aa j)]) (fun _=>[(2,.box [.val (.slice none 0 0),.val (.slice none 0 0),.val (.slice none 0 0),.val (.slice none 0 0),.val (.slice none 0 0),.val (.slice none 0 0),.val (.slice none 0 0),.val (.slice none 0 0)]),(3,.box [.osl 11,.osl 14,.osl 17,.osl 20,.osl 23,.osl 26,.osl 29,.osl 32]),(11,.row 5 Az n.devices),(14,.row 7 Bb n.ports),(17,.row 3 B2 n.links),(20,.row 6 Am n.domains),(23,.row 4 A8 n.statics),(26,.row 4 A4 n.floods),(29,.row 5 Cd n.vrfs),(32,.row 5 Cf n.irbs)]) []
     ⟨⟨rfl,rfl,rfl,rfl,rfl,rfl,rfl,rfl,trivial⟩,⟨.inl rfl,rfl,.inl rfl,rfl,.inl rfl,rfl,.inl rfl,rfl,.inl rfl,rfl,.inl rfl,rfl,.inl rfl,rfl,.inl rfl,rfl,.inl rfl,rfl,.inl rfl,rfl,trivial⟩,rfl,rfl⟩ ?_
    intro j hj
    ((first|refine rG Γ hm ?_|refine rD Γ hm j_ ?_);(conv=>whnf);repeat((first|refine aF ?_|refine aT ?_);(first|refine rG Γ hm ?_|refine rD Γ hm j_ ?_);conv=>whnf))
    refine⟨fun h=>?_,fun h=>?_⟩
    ·have hlt:j<n.vrfs.length:=by simpa using h
     obtain ⟨p,hp⟩:∃ p,n.vrfs[(j:Int).toNat]'z_=p:=⟨_,rfl⟩
     have hne:n.vrfs≠[]:=fun e=>by rw[e]at hlt;cases hlt
     have hset:n.vrfs.set (j:Int).toNat p=n.vrfs:=by rw[← hp];exact List.set_getElem_self _
     have hpl:=h2.2.2.2 p (by rw[← hp];exact List.getElem_mem _)
     ((first|refine rG Γ hm ?_|refine rD Γ hm j_ ?_);(conv=>whnf);repeat((first|refine aF ?_|refine aT ?_);(first|refine rG Γ hm ?_|refine rD Γ hm j_ ?_);conv=>whnf))
     have hne2:n.vrfs.set (j:Int).toNat p≠[]:=by rw[hset];exact hne
     have hp2:(n.vrfs.set (j:Int).toNat p)[(j:Int).toNat]'(by rw[hset];omega)=p:=by simp
     have hset2:(n.vrfs.set (j:Int).toNat p).set (j:Int).toNat p=n.vrfs:=by rw[hset,hset]
     refine⟨by omega,by show _<n.vrfs.length;omega,?_⟩
     ((conv=>whnf);repeat((first|refine aF ?_|refine aT ?_);(first|refine rG Γ hm ?_|refine rD Γ hm j_ ?_);conv=>whnf))
     refine Kd (Ec Y (.inr (.inr (.inr ⟨29,5,_,0,Y,fun κ w h=>O7 hne h,Y⟩)))) j_ Y ?_
     ((first|refine rG Γ hm ?_|refine rD Γ hm j_ ?_);(conv=>whnf);repeat((first|refine aF ?_|refine aT ?_);(first|refine rG Γ hm ?_|refine rD Γ hm j_ ?_);conv=>whnf))
     refine⟨hne,?_⟩
     ((conv=>whnf);repeat((first|refine aF ?_|refine aT ?_);(first|refine rG Γ hm ?_|refine rD Γ hm j_ ?_);conv=>whnf))
     refine⟨Y,by omega,?_⟩
     rw[hp]
     ((conv=>whnf);repeat((first|refine aF ?_|refine aT ?_);(first|refine rG Γ hm ?_|refine rD Γ hm j_ ?_);conv=>whnf))
     refine cD (I8 p.imports hpl.1) F159 ?_
     ((first|refine rG Γ hm ?_|refine rD Γ hm j_ ?_);(conv=>whnf);repeat((first|refine aF ?_|refine aT ?_);(first|refine rG Γ hm ?_|refine rD Γ hm j_ ?_);conv=>whnf))
     refine Kd (Ec Y (.inr (.inr (.inr ⟨29,5,_,0,Y,fun κ w h=>O7 hne h,Y⟩)))) j_ Y ?_
     ((first|refine rG Γ hm ?_|refine rD Γ hm j_ ?_);(conv=>whnf);repeat((first|refine aF ?_|refine aT ?_);(first|refine rG Γ hm ?_|refine rD Γ hm j_ ?_);conv=>whnf))
     refine⟨hne,?_⟩
     ((conv=>whnf);repeat((first|refine aF ?_|refine aT ?_);(first|refine rG Γ hm ?_|refine rD Γ hm j_ ?_);conv=>whnf))
     refine⟨Y,by omega,?_⟩
     rw[hp]
     ((conv=>whnf);repeat((first|refine aF ?_|refine aT ?_);(first|refine rG Γ hm ?_|refine rD Γ hm j_ ?_);conv=>whnf))
     refine cD (I8 p.exports hpl.2) F159 ?_
     ((first|refine rG Γ hm ?_|refine rD Γ hm j_ ?_);(conv=>whnf);repeat((first|refine aF ?_|refine aT ?_);(first|refine rG Γ hm ?_|refine rD Γ hm j_ ?_);conv=>whnf))
     refine Kd (Ec Y (.inr (.inr (.inr ⟨29,5,_,0,Y,fun κ w h=>O7 hne h,Y⟩)))) j_ Y ?_
     ((first|refine rG Γ hm ?_|refine rD Γ hm j_ ?_);(conv=>whnf);repeat((first|refine aF ?_|refine aT ?_);(first|refine rG Γ hm ?_|refine rD Γ hm j_ ?_);conv=>whnf))
     refine⟨hne,?_⟩
     ((conv=>whnf);repeat((first|refine aF ?_|refine aT ?_);(first|refine rG Γ hm ?_|refine rD Γ hm j_ ?_);conv=>whnf))
     refine⟨Y,by omega,p,(by rw[hp];rfl),(by rw[hp];rfl),?_⟩
     ((conv=>whnf);repeat((first|refine aF ?_|refine aT ?_);(first|refine rG Γ hm ?_|refine rD Γ hm j_ ?_);conv=>whnf))
     refine Kd (Ec Y (.inr (.inr (.inr ⟨29,5,_,0,Y,fun κ w h=>O7 hne2 h,Y⟩)))) j_ Y ?_
     ((first|refine rG Γ hm ?_|refine rD Γ hm j_ ?_);(conv=>whnf);repeat((first|refine aF ?_|refine aT ?_);(first|refine rG Γ hm ?_|refine rD Γ hm j_ ?_);conv=>whnf))
     refine⟨hne2,?_⟩
     ((conv=>whnf);repeat((first|refine aF ?_|refine aT ?_);(first|refine rG Γ hm ?_|refine rD Γ hm j_ ?_);conv=>whnf))
     refine⟨Y,by rw[hset];omega,p,(by rw[hp2];rfl),(by rw[hp2];rfl),?_⟩
     ((conv=>whnf);repeat((first|refine aF ?_|refine aT ?_);(first|refine rG Γ hm ?_|refine rD Γ hm j_ ?_);conv=>whnf))
     refine⟨j_,?_⟩
     ((conv=>whnf);repeat((first|refine aF ?_|refine aT ?_);(first|refine rG Γ hm ?_|refine rD Γ hm j_ ?_);conv=>whnf))
     refine iL ?_
     ((conv=>whnf);repeat((first|refine aF ?_|refine aT ?_);(first|refine rG Γ hm ?_|refine rD Γ hm j_ ?_);conv=>whnf))
     exact D3 [] hlt ⟨⟨Y,Y,Y,Y,Y,Y,Y,Y,q_⟩,⟨.inl Y,Y,.inl Y,Y,.inl Y,Y,.inl Y,Y,.inl Y,Y,.inl Y,Y,.inl Y,Y,.inl Y,Y,.inl (congrArg (Ob.row 5 Cd) hset2.symm),Y,.inl Y,Y,q_⟩,Y,Y⟩
    ·((first|refine rG Γ hm ?_|refine rD Γ hm j_ ?_);(conv=>whnf);repeat((first|refine aF ?_|refine aT ?_);(first|refine rG Γ hm ?_|refine rD Γ hm j_ ?_);conv=>whnf))
     exact done Y (.cons (.cell Y Y Y Y) .nil) [(0,11),(1,14),(2,17),(3,20),(4,23),(5,26),(6,29),(7,32)] [(0,.row 5 Az n.devices),(1,.row 7 Bb n.ports),(2,.row 3 B2 n.links),(3,.row 6 Am n.domains),(4,.row 4 A8 n.statics),(5,.row 4 A4 n.floods),(6,.row 5 Cd n.vrfs),(7,.row 5 Cf n.irbs)] (fun _ h=>h) Y Y ⟨q_,⟨.inl Y,Y,.inl Y,Y,.inl Y,Y,.inl Y,Y,.inl Y,Y,.inl Y,Y,.inl Y,Y,.inl Y,Y,q_⟩,Y,Y⟩
end Go.Sy.YtjenpnjajjplkaaGreatDoor
namespace Go.Sy
theorem Good.frozen {P:Program} {o:Oper} {s:SS} {d sz:Nat} {α:Type} {e:α→SV} {l:List α} {ks:List Nat} {L:Obs} (hd:∀ p∈L,p.1≠d) (h:Good P o s ⟨.osl d,ks,L++[(d,.row sz e l)]⟩) :
  Good P o s ⟨.sl sz e l,ks,L++[(d,.non)]⟩:=by
 intro κ a w hi hr ho N Q hN
 refine h κ a w hi hr (fun k hk=>ho k (by simpa [Up.ws] using hk)) N Q ?_
 intro v κ' w' st inv hv hobs
 have hob:=hobs (d,.row sz e l) qe
 have st2:=I1 (κ:=κ') (w:=w') (some d)
 have inv2:=Kl inv (some d)
 have hx:Rd (En κ' d .dead) w' (.sl sz e l) v:=by
  rcases hob with ⟨h1,rfl⟩ | h1
  ·simp only[Rd,h1]at hv
   simp only[Rd,RdD]
   exact .inl ⟨by simp,none,0,hv⟩
  ·refine h1.freeze hv st2.keeps.out (fun b hb=>⟨inv.bnd d b hb,?_⟩)
   rintro (⟨q,hq⟩ | hq)
   ·by_cases hqd:q=d
    ·subst hqd;rw[A9]at hq;cases hq
    ·rw[Cy _ _ hqd]at hq
     exact hqd (inv.inj q d b hq hb)
   ·exact inv.apart d b hb hq
 refine hN v (En κ' d .dead) w' ((st.weaken (fun k hk=>by simpa [Up.ws] using hk)).trans (st2.weaken (fun k hk=>by cases hk;simp[Up.ws]))) inv2 hx ?_
 intro p hp
 rcases List.mem_append.1 hp with hp | hp
 ·exact ObOK.step st2 (fun e=>hd p hp (Option.some.inj e).symm) _ (hobs p (by simp[hp]))
 ·rw[List.mem_singleton.1 hp];trivial
theorem He {P:Program} (Γ:Ty P) {o:Oper} {s:SS} (d:Nat) {q:Nat} {α:Type} {e:α→SV} {m:List α} {t:TypeId} {ti:TI} {et:TypeId} {sz eb:Nat} {ez:List Value} {x y:Operand}
  (h:o.op=.call ⟨.builtin .append,#[x,y],#[t,t]⟩) (hd:s.h d=.fresh) (ht:Γ.get t=some ti) (hk:ti.k=.slice et sz eb ez) (hez:ez.length=sz)
  (hx:ev s x=.osl q) (hq:s.h q=.lit sz []) (hy:ev s y=.sl sz e m) (hqd:q≠d) (hbytes:m.length * eb≤140737488355328) (h63:m.length≤9223372036854775807) :
  Good P o s ⟨.sl sz e m,[],[(q,.non),(d,.non)]⟩:=by
 have hb:BaseT s sz e (ev s x) (some q) ([]:List α):=by rw[hx];exact .lit hq rfl
 have hs:SrcT s sz e (ev s y) [] m:=by rw[hy];exact .sl
 have:=Ak Γ d h hd ht hk hez hb hs (fun j hj=>by cases hj;exact hqd) (by simpa using hbytes) (by simpa using h63)
 exact Good.frozen (L:=[(q,.non)]) (by intro p hp;rw[List.mem_singleton.1 hp];exact hqd) this
end Go.Sy
namespace Go.Sy.YtjenpnjajjplkaaGreatDoor
open Go.Proofs
attribute [local irreducible] Go.Sy.G Go.Sy.DR
set_option maxRecDepth 100000
set_option maxHeartbeats 4000000
theorem Hp (n:Net) (hn:n.Fin):Sy.Spec Tryz.prog 137 [Aj n] [] (.agg [.osl 0,.osl 1,.osl 2,.osl 3,.osl 4,.osl 5,.osl 6,.osl 7]) [(0,.row 5 Az n.devices),(1,.row 7 Bb n.ports),(2,.row 3 B2 n.links),(3,.row 6 Am n.domains),(4,.row 4 A8 n.statics),(5,.row 4 A4 n.floods),(6,.row 5 Cd n.vrfs),(7,.row 5 Cf n.irbs)]:=cT F137 Tryz.ntmps137 fun F hF=>by
 have hd:n.devices.length<2147483648:=hn.devices
 have hp:n.ports.length<2147483648:=hn.ports
 have hl:n.links.length<2147483648:=hn.links
 have ho:n.domains.length<2147483648:=hn.domains
 have hs:n.statics.length<2147483648:=hn.statics
 have hf:n.floods.length<2147483648:=hn.floods
 have hv:n.vrfs.length<2147483648:=hn.vrfs
 have hi:n.irbs.length<2147483648:=hn.irbs
 refine T ?_
 refine X (Ak Γ.toTy 11 Y Y Y Y Y (.lit (e:=Az) (l:=[]) Y Y) .sl qe (by simp;omega) (by simp;omega)) ?_
 refine T ?_
 refine X (Ak Γ.toTy 16 Y Y Y Y Y (.lit (e:=Bb) (l:=[]) Y Y) .sl qe (by simp;omega) (by simp;omega)) ?_
 refine T ?_
 refine X (Ak Γ.toTy 21 Y Y Y Y Y (.lit (e:=B2) (l:=[]) Y Y) .sl qe (by simp;omega) (by simp;omega)) ?_
 refine T ?_
 refine X (Ak Γ.toTy 26 Y Y Y Y Y (.lit (e:=Am) (l:=[]) Y Y) .sl qe (by simp;omega) (by simp;omega)) ?_
 refine T ?_
 refine X (Ak Γ.toTy 31 Y Y Y Y Y (.lit (e:=A8) (l:=[]) Y Y) .sl qe (by simp;omega) (by simp;omega)) ?_
 refine T ?_
 refine X (Ak Γ.toTy 36 Y Y Y Y Y (.lit (e:=A4) (l:=[]) Y Y) .sl qe (by simp;omega) (by simp;omega)) ?_
 refine T ?_
 refine X (Ak Γ.toTy 41 Y Y Y Y Y (.lit (e:=Cd) (l:=[]) Y Y) .sl qe (by simp;omega) (by simp;omega)) ?_
 refine T ?_
 refine X (Ak Γ.toTy 46 Y Y Y Y Y (.lit (e:=Cf) (l:=[]) Y Y) .sl qe (by simp;omega) (by simp;omega)) ?_
 refine T ?_
 refine Dz n.ports.length (fun j=>[(2,.ptr 2 0),(3,.ptr 3 0),(4,Aa j)]) (fun _=>[(2,.box [.val (.slice none 0 0),.val (.slice none 0 0),.val (.slice none 0 0),.val (.slice none 0 0),.val (.slice none 0 0),.val (.slice none 0 0),.val (.slice none 0 0),.val (.slice none 0 0)]),(3,.box [.osl 11,.osl 16,.osl 21,.osl 26,.osl 31,.osl 36,.osl 41,.osl 46]),(11,.row 5 Az n.devices),(16,.row 7 Bb n.ports),(21,.row 3 B2 n.links),(26,.row 6 Am n.domains),(31,.row 4 A8 n.statics),(36,.row 4 A4 n.floods),(41,.row 5 Cd n.vrfs),(46,.row 5 Cf n.irbs)]) [] U ?_
 intro j hj
 refine T ?_
 refine⟨fun h=>?_,fun h=>?_⟩
 ·have hlt:j<n.ports.length:=qA h
  have hj0:((j:Nat):Int).toNat<n.ports.length:=hlt
  have hne:n.ports≠[]:=fun e=>by rw[e]at hlt;cases hlt
  clear h
  have hset:n.ports.set ((j:Nat):Int).toNat (n.ports[((j:Nat):Int).toNat]'hj0)=n.ports:=List.set_getElem_self _
  have htagged:(n.ports[((j:Nat):Int).toNat]'hj0).tagged.length<2147483648:=hn.tagged _ (List.getElem_mem hj0)
  have gtagged:n.ports[j].tagged.length<2147483648:=htagged
  refine T ?_
  refine⟨hne,?_⟩
  refine T ?_
  refine Xd (He Γ.toTy 65 Y Y Y Y Y Y Y Y y_ z_ z_) ?_
  refine T ?_
  refine⟨hne,?_⟩
  refine T ?_
  refine⟨n.ports[((j:Nat):Int).toNat]'hj0,Y,Y,?_⟩
  refine T ?_
  exact D3 [] hlt ⟨⟨Y,Y,Y,Y,Y,Y,q_⟩,⟨.inl Y,Y,.inl Y,Y,.inl Y,Y,(.inl (congrArg (Ob.row 7 Bb) hset.symm)),Y,.inl Y,Y,.inl Y,Y,.inl Y,Y,.inl Y,Y,.inl Y,Y,.inl Y,Y,q_⟩,Y,Y⟩
 ·have hje:j=n.ports.length:=qB h
  clear h
  refine T ?_
  refine Dz n.domains.length (fun j=>[(2,.ptr 2 0),(3,.ptr 3 0),(5,Aa j)]) (fun _=>[(2,.box [.val (.slice none 0 0),.val (.slice none 0 0),.val (.slice none 0 0),.val (.slice none 0 0),.val (.slice none 0 0),.val (.slice none 0 0),.val (.slice none 0 0),.val (.slice none 0 0)]),(3,.box [.osl 11,.osl 16,.osl 21,.osl 26,.osl 31,.osl 36,.osl 41,.osl 46]),(11,.row 5 Az n.devices),(16,.row 7 Bb n.ports),(21,.row 3 B2 n.links),(26,.row 6 Am n.domains),(31,.row 4 A8 n.statics),(36,.row 4 A4 n.floods),(41,.row 5 Cd n.vrfs),(46,.row 5 Cf n.irbs)]) [] U ?_
  intro j hj
  refine T ?_
  refine⟨fun h=>?_,fun h=>?_⟩
  ·have hlt:j<n.domains.length:=qA h
   have hj0:((j:Nat):Int).toNat<n.domains.length:=hlt
   have hne:n.domains≠[]:=fun e=>by rw[e]at hlt;cases hlt
   clear h
   have hset:n.domains.set ((j:Nat):Int).toNat (n.domains[((j:Nat):Int).toNat]'hj0)=n.domains:=List.set_getElem_self _
   have hpeers:(n.domains[((j:Nat):Int).toNat]'hj0).peers.length<2147483648:=hn.peers _ (List.getElem_mem hj0)
   have gpeers:n.domains[j].peers.length<2147483648:=hpeers
   refine T ?_
   refine⟨hne,?_⟩
   refine T ?_
   refine Xd (He Γ.toTy 85 Y Y Y Y Y Y Y Y y_ z_ z_) ?_
   refine T ?_
   refine⟨hne,?_⟩
   refine T ?_
   refine⟨n.domains[((j:Nat):Int).toNat]'hj0,Y,Y,?_⟩
   refine T ?_
   exact D3 [] hlt ⟨⟨Y,Y,Y,Y,Y,Y,q_⟩,⟨.inl Y,Y,.inl Y,Y,.inl Y,Y,.inl Y,Y,.inl Y,Y,(.inl (congrArg (Ob.row 6 Am) hset.symm)),Y,.inl Y,Y,.inl Y,Y,.inl Y,Y,.inl Y,Y,q_⟩,Y,Y⟩
  ·have hje:j=n.domains.length:=qB h
   clear h
   refine T ?_
   refine Dz n.floods.length (fun j=>[(2,.ptr 2 0),(3,.ptr 3 0),(6,Aa j)]) (fun _=>[(2,.box [.val (.slice none 0 0),.val (.slice none 0 0),.val (.slice none 0 0),.val (.slice none 0 0),.val (.slice none 0 0),.val (.slice none 0 0),.val (.slice none 0 0),.val (.slice none 0 0)]),(3,.box [.osl 11,.osl 16,.osl 21,.osl 26,.osl 31,.osl 36,.osl 41,.osl 46]),(11,.row 5 Az n.devices),(16,.row 7 Bb n.ports),(21,.row 3 B2 n.links),(26,.row 6 Am n.domains),(31,.row 4 A8 n.statics),(36,.row 4 A4 n.floods),(41,.row 5 Cd n.vrfs),(46,.row 5 Cf n.irbs)]) [] U ?_
   intro j hj
   refine T ?_
   refine⟨fun h=>?_,fun h=>?_⟩
   ·have hlt:j<n.floods.length:=qA h
    have hj0:((j:Nat):Int).toNat<n.floods.length:=hlt
    have hne:n.floods≠[]:=fun e=>by rw[e]at hlt;cases hlt
    clear h
    have hset:n.floods.set ((j:Nat):Int).toNat (n.floods[((j:Nat):Int).toNat]'hj0)=n.floods:=List.set_getElem_self _
    have haddrs:(n.floods[((j:Nat):Int).toNat]'hj0).addrs.length<2147483648:=hn.addrs _ (List.getElem_mem hj0)
    have gaddrs:n.floods[j].addrs.length<2147483648:=haddrs
    refine T ?_
    refine⟨hne,?_⟩
    refine T ?_
    refine Xd (He Γ.toTy 105 Y Y Y Y Y Y Y Y y_ z_ z_) ?_
    refine T ?_
    refine⟨hne,?_⟩
    refine T ?_
    refine⟨n.floods[((j:Nat):Int).toNat]'hj0,Y,Y,?_⟩
    refine T ?_
    exact D3 [] hlt ⟨⟨Y,Y,Y,Y,Y,Y,q_⟩,⟨.inl Y,Y,.inl Y,Y,.inl Y,Y,.inl Y,Y,.inl Y,Y,.inl Y,Y,.inl Y,Y,(.inl (congrArg (Ob.row 4 A4) hset.symm)),Y,.inl Y,Y,.inl Y,Y,q_⟩,Y,Y⟩
   ·have hje:j=n.floods.length:=qB h
    clear h
    refine T ?_
    refine Dz n.vrfs.length (fun j=>[(2,.ptr 2 0),(3,.ptr 3 0),(7,Aa j)]) (fun _=>[(2,.box [.val (.slice none 0 0),.val (.slice none 0 0),.val (.slice none 0 0),.val (.slice none 0 0),.val (.slice none 0 0),.val (.slice none 0 0),.val (.slice none 0 0),.val (.slice none 0 0)]),(3,.box [.osl 11,.osl 16,.osl 21,.osl 26,.osl 31,.osl 36,.osl 41,.osl 46]),(11,.row 5 Az n.devices),(16,.row 7 Bb n.ports),(21,.row 3 B2 n.links),(26,.row 6 Am n.domains),(31,.row 4 A8 n.statics),(36,.row 4 A4 n.floods),(41,.row 5 Cd n.vrfs),(46,.row 5 Cf n.irbs)]) [] U ?_
    intro j hj
    refine T ?_
    refine⟨fun h=>?_,fun h=>?_⟩
    ·have hlt:j<n.vrfs.length:=qA h
     have hj0:((j:Nat):Int).toNat<n.vrfs.length:=hlt
     have hne:n.vrfs≠[]:=fun e=>by rw[e]at hlt;cases hlt
     clear h
     have hset:n.vrfs.set ((j:Nat):Int).toNat (n.vrfs[((j:Nat):Int).toNat]'hj0)=n.vrfs:=List.set_getElem_self _
     have himports:(n.vrfs[((j:Nat):Int).toNat]'hj0).imports.length<2147483648:=hn.imports _ (List.getElem_mem hj0)
     have gimports:n.vrfs[j].imports.length<2147483648:=himports
     have hexports:(n.vrfs[((j:Nat):Int).toNat]'hj0).exports.length<2147483648:=hn.exports _ (List.getElem_mem hj0)
     have gexports:n.vrfs[j].exports.length<2147483648:=hexports
     refine T ?_
     refine⟨hne,?_⟩
     refine T ?_
     refine Xd (He Γ.toTy 125 Y Y Y Y Y Y Y Y y_ z_ z_) ?_
     refine T ?_
     refine⟨hne,?_⟩
     refine T ?_
     refine⟨n.vrfs[((j:Nat):Int).toNat]'hj0,Y,Y,?_⟩
     rw[hset]
     refine T ?_
     refine⟨hne,?_⟩
     refine T ?_
     refine Xd (He Γ.toTy 138 Y Y Y Y Y Y Y Y y_ z_ z_) ?_
     refine T ?_
     refine⟨hne,?_⟩
     refine T ?_
     refine⟨n.vrfs[((j:Nat):Int).toNat]'hj0,Y,Y,?_⟩
     refine T ?_
     exact D3 [] hlt ⟨⟨Y,Y,Y,Y,Y,Y,q_⟩,⟨.inl Y,Y,.inl Y,Y,.inl Y,Y,.inl Y,Y,.inl Y,Y,.inl Y,Y,.inl Y,Y,.inl Y,Y,(.inl (congrArg (Ob.row 5 Cd) hset.symm)),Y,.inl Y,Y,q_⟩,Y,Y⟩
    ·have hje:j=n.vrfs.length:=qB h
     clear h
     refine T ?_
     exact done Y (.cons (.cell Y Y Y Y) .nil) [(0,11),(1,16),(2,21),(3,26),(4,31),(5,36),(6,41),(7,46)] [(0,.row 5 Az n.devices),(1,.row 7 Bb n.ports),(2,.row 3 B2 n.links),(3,.row 6 Am n.domains),(4,.row 4 A8 n.statics),(5,.row 4 A4 n.floods),(6,.row 5 Cd n.vrfs),(7,.row 5 Cf n.irbs)] (fun _ h=>h) Y Y U
structure LineFin (l:LineM):Prop where
 t:l.tagged.length≤100000
 i:l.imports.length≤100000
 e:l.exports.length≤100000
 a:l.addrs.length≤100000
theorem Aj7 {s:ByteArray} (h:s.size=0):s=⟨#[]⟩:=by
 have h2:s.data.toList.length=0:=h
 exact It (List.eq_nil_of_length_eq_zero h2)
theorem Alg (s:ByteArray) (hs:s.size≤1000000):Sy.Spec Tryz.prog 228 [Ad s] [] (Ab (wordB s)) []:=cT F228 Tryz.ntmps228 fun F hF=>by
 have hsz:s.data.toList.length=s.size:=rfl
 have hw:=wordB.eq_1 s
 obtain ⟨r,hr⟩:∃ r,wordB s=r:=⟨_,rfl⟩
 rw[hr]at hw ⊢
 refine T ?_
 refine A2 s.size (fun j=>Da (fun _ c=>Acl c) s.data.toList j) (fun j=>[(0,Ad s),(5,Aa s.size),(6,Aa j)]) (fun _=>[]) [] (Av _ _) U ?_
 intro j hj hI
 refine T ?_
 refine⟨fun h=>?_,fun h=>?_⟩
 ·have hlt:j<s.data.toList.length:=qA h
  have hb:Ai s j=s.data.toList[j]:=Hx hlt
  have hno:=fun h=>@all_at' _ Acl s.data.toList j hlt h
  have hnx:=fun h=>Aq (p:=fun _ c=>Acl c) hI hlt h
  rw[← hb]at hno hnx
  clear h
  have hx:Acl (Ai s j)=(decide (32<(Ai s j).toNat) && decide ((Ai s j).toNat≤126) && decide ((Ai s j).toNat≠35)):=rfl
  by_cases h1:32<(Ai s j).toNat
  ·by_cases h2:(Ai s j).toNat≤126
   ·by_cases h3:(Ai s j).toNat=35
    ·rw[hno (by rw[hx];simp[h3]),Bool.and_false]at hw
     subst hw
     refine T ?_
     exact D
    ·refine T ?_
     exact Ba [] hI z_ (hnx (by rw[hx];simp[h1,h2,h3])) U
   ·rw[hno (by rw[hx];simp[h2]),Bool.and_false]at hw
    subst hw
    refine T ?_
    exact D
  ·rw[hno (by rw[hx];simp[h1]),Bool.and_false]at hw
   subst hw
   refine T ?_
   exact D
 ·have hje:j=s.size:=qB h
  subst hje
  rw[I9 hI (Nat.le_refl _),Bool.and_true]at hw
  clear h
  by_cases h0:s.size=0
  ·have hs:=Aj7 h0
   have he:(s == (⟨#[]⟩:ByteArray))=true:=(Eh _ _).2 hs
   have hw:r=false:=by rw[hw,h0];rfl
   have he2:(!(s == (⟨#[]⟩:ByteArray)))=false:=by rw[he];rfl
   subst hw
   refine T ?_
   exact D
  ·have he:(s == (⟨#[]⟩:ByteArray))=false:=by
    cases he:(s == (⟨#[]⟩:ByteArray))
    ·rfl
    ·exact absurd (by rw[(Eh _ _).1 he];rfl) h0
   have he2:(!(s == (⟨#[]⟩:ByteArray)))=true:=by rw[he];rfl
   by_cases h4:s.size≤40
   ·have hw:r=true:=by rw[hw];simp[h4];omega
    subst hw
    refine T ?_
    refine Ar Y (.cons .tmp .nil) (congrArg Ab ?_) Y
    exact(decide_eq_true z_).symm
   ·have hw:r=false:=by rw[hw];simp[h4]
    subst hw
    refine T ?_
    refine Ar Y (.cons .tmp .nil) (congrArg Ab ?_) Y
    exact(decide_eq_false z_).symm
abbrev strO (row:ByteArray) (f:Nat) (l:List ByteArray):Obs:=[(1,.box [Aa f]),(2,.box [.osl 3]),(3,.row 1 Ad l),(4,.box [Ad row])]
abbrev strN (row:ByteArray) (f:Nat) (l:List ByteArray):Obs:=[(1,.box [Aa f]),(2,.box [.osl 5]),(3,.non),(5,.row 1 Ad l),(4,.box [Ad row])]
theorem Aml (row:ByteArray) (f i:Nat) (l:List ByteArray) (hfi:f≤i) (hi:i≤row.size) (hs:row.size≤1000000) (hl:l.length≤1000000) :
  Sy.Spec Tryz.prog 298 [Aa i,.ptr 1 0,.ptr 2 0,.ptr 4 0] (strO row f l) (.tup []) (strN row (i+1) (l++Hm ((row.data.toList.take i).drop f))):=cT F298 Tryz.ntmps298 fun F hF=>by
 have hsz:row.data.toList.length=row.size:=rfl
 have hx:row.extract f i=mkT ((row.data.toList.take i).drop f):=by rw[← Cr,Cv]
 refine T ?_
 refine⟨fun h=>?_,fun h=>?_⟩
 ·have h1:f<i:=qA h
  have hne:(row.data.toList.take i).drop f≠[]:=fun e=>by
   have:=congrArg List.length e
   rw[List.length_drop,List.length_take]at this
   simp at this;omega
  rw[Hm,if_neg hne,← hx]
  refine T ?_
  refine⟨⟨by omega,by omega,by omega⟩,?_⟩
  refine T ?_
  refine Xd (Ak Γ.toTy 14 Y Y Y Y Y (.row Y) (.lit (e:=Ad) (l:=[row.extract f i]) Y Y) qe (by simp;omega) (by simp;omega)) ?_
  refine T ?_
  exact C3 Y .nil [(5,14)] (strN row (i+1) (l++[row.extract f i])) (fun _ h=>h) Y Y U
 ·have h1:¬ f<i:=qB h
  have he:(row.data.toList.take i).drop f=[]:=List.drop_eq_nil_of_le (by rw[List.length_take];omega)
  rw[he,Hm,if_pos rfl,List.append_nil]
  refine Apf 3 1000 Y Y y_ ?_
  refine T ?_
  exact C3 Y .nil [(5,1000)] (strN row (i+1) l) (fun _ h=>h) Y Y U
theorem Af0 (row:ByteArray) (hs:row.size≤100000):Sy.Spec Tryz.prog 227 [Ad row] [] (.sl 1 Ad (Ef [] row.data.toList)) []:=cT F227 Tryz.ntmps227 fun F hF=>by
 have hsz:row.data.toList.length=row.size:=rfl
 refine T ?_
 refine Afp 3 0 1000 1 Ad Y Y Y Y ?_
 refine T ?_
 refine Au (fun x:List ByteArray × Nat × Nat=>Ef [] row.data.toList=x.1++Ef ((row.data.toList.take x.2.2).drop x.2.1) (row.data.toList.drop x.2.2)∧x.2.1≤x.2.2∧x.2.2≤row.size∧x.1.length≤x.2.2)
  (fun x=>[(1,.ptr 1 0),(3,.ptr 3 0),(5,.clo (.func 298) [] [.ptr 4 0,.ptr 3 0,.ptr 1 0]),(6,Aa x.2.2)]) (fun x=>[(1,.box [Ad row]),(3,.box [.osl 1000]),(4,.box [Aa x.2.1]),(1000,.row 1 Ad x.1)]) (fun x=>row.size-x.2.2) ([],0,0) [] ⟨rfl,by simp,by simp,by simp⟩ U ?_
 rintro ⟨l,f,i⟩ ⟨hI,hfi,his,hlen⟩
 dsimp only at hI hfi his hlen ⊢
 have q:=fun i hfi hi=>Aml row f i l hfi hi z_ z_
 refine T ?_
 refine⟨fun h=>?_,fun h=>?_⟩
 ·have hlt:i<row.size:=qA h
  have hlt':i<row.data.toList.length:=hlt
  have hb:Ai row i=row.data.toList[i]:=Hx hlt'
  have hdr:row.data.toList.drop i=row.data.toList[i]::row.data.toList.drop (i+1):=List.drop_eq_getElem_cons hlt'
  have htk:(row.data.toList.take (i+1)).drop f=(row.data.toList.take i).drop f++[row.data.toList[i]]:=by
   rw[List.take_succ_eq_append_getElem hlt',List.drop_append_of_le_length (by rw[List.length_take];omega)]
  rw[← hb]at hdr htk
  have q:=q i hfi z_
  clear h
  rw[hdr,Ef]at hI
  have hlf:(l++Hm ((row.data.toList.take i).drop f)).length≤i+1:=by
   rw[Hm];split<;>simp<;>omega
  have e0:(row.data.toList.take (i+1)).drop (i+1)=[]:=List.drop_eq_nil_of_le (by rw[List.length_take];omega)
  have h35:Ai row i=35↔(Ai row i).toNat=35:=⟨fun e=>by rw[e];rfl,fun e=>UInt8.toNat_inj.1 e⟩
  have h32:Ai row i=32↔(Ai row i).toNat=32:=⟨fun e=>by rw[e];rfl,fun e=>UInt8.toNat_inj.1 e⟩
  have h9:Ai row i=9↔(Ai row i).toNat=9:=⟨fun e=>by rw[e];rfl,fun e=>UInt8.toNat_inj.1 e⟩
  by_cases c1:(Ai row i).toNat=35
  ·rw[if_pos (h35.2 c1)]at hI
   rw[hI]
   refine T ?_
   refine X (Ax [(1,4),(2,3),(3,1000),(4,1),(5,900)] (A0 Y Y F298) q Y W Y V) ?_
   refine Ac 900 Y ?_
   refine T ?_
   exact D
  ·rw[if_neg (fun e=>c1 (h35.1 e))]at hI
   by_cases c2:(Ai row i).toNat=32∨(Ai row i).toNat=9
   ·rw[if_pos (c2.elim (fun e=>.inl (h32.2 e)) (fun e=>.inr (h9.2 e)))]at hI
    by_cases c3:(Ai row i).toNat=32
    ·refine T ?_
     refine X (Ax [(1,4),(2,3),(3,1000),(4,1),(5,900)] (A0 Y Y F298) q Y W Y V) ?_
     refine Ae (l++Hm ((row.data.toList.take i).drop f),i+1,i+1) [(1000,900)] ⟨?_,Nat.le_refl _,hlt,hlf⟩ (by dsimp only;omega) U
     dsimp only
     rw[hI,List.append_assoc,e0]
    ·refine T ?_
     refine X (Ax [(1,4),(2,3),(3,1000),(4,1),(5,900)] (A0 Y Y F298) q Y W Y V) ?_
     refine Ae (l++Hm ((row.data.toList.take i).drop f),i+1,i+1) [(1000,900)] ⟨?_,Nat.le_refl _,hlt,hlf⟩ (by dsimp only;omega) U
     dsimp only
     rw[hI,List.append_assoc,e0]
   ·simp only[not_or]at c2
    rw[if_neg (by rw[h32,h9];omega)]at hI
    refine T ?_
    refine Ae (l,f,i+1) [] ⟨?_,by dsimp only;omega,hlt,by dsimp only;omega⟩ (by dsimp only;omega) U
    dsimp only
    rw[hI,htk]
 ·have hie:i=row.size:=qB h
  subst hie
  have q:=q row.size hfi z_
  have hdl:row.data.toList.drop row.size=[]:=by rw[← hsz,List.drop_length]
  rw[hdl,Ef]at hI
  rw[hI]
  clear h
  refine T ?_
  refine X (Ax [(1,4),(2,3),(3,1000),(4,1),(5,900)] (A0 Y Y F298) q Y W Y V) ?_
  refine Ac 900 Y ?_
  refine T ?_
  exact D
theorem Kt:∀ (l cur:List UInt8),(Ef cur l).length≤l.length+1
 | [],cur=>by rw[Ef,Hm];split<;>simp
 | c::l,cur=>by
  rw[Ef]
  have h1:=Kt l []
  have h2:=Kt l (cur++[c])
  have h3:(Hm cur).length≤1:=by rw[Hm];split<;>simp
  split
  ·simp;omega
  ·split
   ·simp;omega
   ·simp;omega
theorem Ln:∀ (l cur:List UInt8),∀ s∈Ef cur l,s.size≤cur.length+l.length
 | [],cur,s,hs=>by
  rw[Ef,Hm]at hs
  split at hs
  ·cases hs
  ·simp at hs;rw[hs,Bp];simp
 | c::l,cur,s,hs=>by
  have h3:∀ s∈Hm cur,s.size≤cur.length:=fun s hs=>by
   rw[Hm]at hs
   split at hs
   ·cases hs
   ·simp at hs;rw[hs,Bp];exact Nat.le_refl _
  rw[Ef]at hs
  split at hs
  ·have:=h3 s hs;omega
  ·split at hs
   ·rcases List.mem_append.1 hs with hs | hs
    ·have:=h3 s hs;omega
    ·have:=Ln l [] s hs
     simp at this ⊢;omega
   ·have:=Ln l (cur++[c]) s hs
    simp at this ⊢;omega
theorem Ahx (row:ByteArray) (hs:row.size≤100000):Sy.Spec Tryz.prog 145 [Ad row] [] (.tup [.sl 1 Ad (wordsT row).1,Aa (wordsT row).2]) []:=cT F145 Tryz.ntmps145 fun F hF=>by
 have q:=Af0 row hs
 have hres:=wordsT.eq_1 row
 have hlen:=Kt row.data.toList []
 have hsz:=Ln row.data.toList []
 have hrs:row.data.toList.length=row.size:=rfl
 generalize wordsT row=res at *
 generalize Ef [] row.data.toList=l at *
 refine T ?_
 refine C q F227 ?_
 refine A2 l.length (fun j=>Da (fun _ s=>wordB s) l j) (fun j=>[(4,.sl 1 Ad l),(9,.sl 1 Ad l),(10,Aa l.length),(11,Aa j)]) (fun _=>[]) [] (Av _ _) U ?_
 intro j hj hI
 refine T ?_
 refine⟨fun h=>?_,fun h=>?_⟩
 ·have hlt:j<l.length:=qA h
  have hlt0:((j:Nat):Int).toNat<l.length:=hlt
  have hno:=fun h=>@all_at' _ wordB l j hlt h
  have hnx:=fun h=>Aq (p:=fun _ s=>wordB s) hI hlt h
  have hsj:=hsz l[j] (List.getElem_mem hlt)
  clear h
  refine T ?_
  refine C (Alg (l[((j:Nat):Int).toNat]'hlt0) (by rw[show l[((j:Nat):Int).toNat]'hlt0=l[j] from Y];simp at hsj;omega)) F228 ?_
  refine⟨fun h=>?_,fun h=>?_⟩
  ·have hf:wordB l[j]=false:=by simpa using h
   rw[if_neg (by rw[hno hf];simp)]at hres
   subst hres
   refine T ?_
   refine Dh 2 1 Ad Y ?_
   refine T ?_
   exact D
  ·have ht:wordB l[j]=true:=by simpa using h
   refine T ?_
   exact Ba [] hI z_ (hnx ht) U
 ·have hje:j=l.length:=qB h
  subst hje
  rw[if_pos (I9 hI (Nat.le_refl _))]at hres
  subst hres
  refine T ?_
  exact D
def Qx (i:Nat) (c:UInt8):Bool:=letB c || (Dd c && decide (i≠0))
theorem Anv (s:ByteArray):nameB s=(Dt Qx s.data.toList && (decide (0<s.size) && decide (s.size≤12))):=by
 have hsz:s.data.toList.length=s.size:=rfl
 rw[nameB,← hsz]
 cases hl:s.data.toList with
 | nil=>rfl
 | cons c l =>
  have e:Dt Qx (c::l)=(letB c && l.all fun c=>letB c || Dd c):=by
   rw[Bool.eq_iff_iff,allB_iff,Bool.and_eq_true,List.all_eq_true]
   constructor
   ·intro h
    refine⟨by have:=h 0 qe;simpa [Qx] using this,fun x hx=>?_⟩
    obtain ⟨i,hi,rfl⟩:=List.mem_iff_getElem.1 hx
    have:=h (i+1) (by simp;omega)
    simpa [Qx] using this
   ·rintro ⟨h1,h2⟩ i hi
    cases i with
    | zero=>simp[Qx,h1]
    | succ i =>
     have:=h2 (l[i]'(by simp at hi;omega)) (List.getElem_mem _)
     simpa [Qx] using this
  rw[e,Anu]
  simp
theorem Ij (s:ByteArray) (hs:s.size≤1000000):Sy.Spec Tryz.prog 299 [Ad s] [] (Ab (nameB s)) []:=cT F299 Tryz.ntmps299 fun F hF=>by
 have hsz:s.data.toList.length=s.size:=rfl
 have hw:=Anv s
 obtain ⟨r,hr⟩:∃ r,nameB s=r:=⟨_,rfl⟩
 rw[hr]at hw ⊢
 refine T ?_
 refine A2 s.size (fun j=>Da Qx s.data.toList j) (fun j=>[(0,Ad s),(7,Aa s.size),(8,Aa j)]) (fun _=>[]) [] (Av _ _) U ?_
 intro j hj hI
 refine T ?_
 refine⟨fun h=>?_,fun h=>?_⟩
 ·have hlt:j<s.data.toList.length:=qA h
  have hb:Ai s j=s.data.toList[j]:=Hx hlt
  have hno:=fun h=>Be (p:=Qx) hlt h
  have hnx:=fun h=>Aq (p:=Qx) hI hlt h
  rw[← hb]at hno hnx
  clear h
  have hx:Qx j (Ai s j)=((decide (97≤(Ai s j).toNat) && decide ((Ai s j).toNat≤122)) || ((decide (48≤(Ai s j).toNat) && decide ((Ai s j).toNat≤57)) && decide (j≠0))):=rfl
  rcases (by omega:(Ai s j).toNat<48∨(48≤(Ai s j).toNat∧(Ai s j).toNat≤57)∨(57<(Ai s j).toNat∧(Ai s j).toNat<97)∨(97≤(Ai s j).toNat∧(Ai s j).toNat≤122)∨122<(Ai s j).toNat) with h | h | h | h | h
  ·rw[hno (by rw[hx,decide_eq_false (by omega:¬ 97≤(Ai s j).toNat),decide_eq_false (by omega:¬ 48≤(Ai s j).toNat)];rfl),Bool.false_and]at hw
   subst hw
   refine T ?_
   exact D
  ·by_cases h0:j=0
   ·subst h0
    rw[hno (by rw[hx,decide_eq_false (by omega:¬ 97≤(Ai s 0).toNat)];simp),Bool.false_and]at hw
    subst hw
    refine T ?_
    exact D
   ·refine T ?_
    exact Ba [] hI z_ (hnx (by rw[hx];simp[h,h0])) U
  ·rw[hno (by rw[hx,decide_eq_false (by omega:¬ 97≤(Ai s j).toNat),decide_eq_false (by omega:¬ (Ai s j).toNat≤57)];simp),Bool.false_and]at hw
   subst hw
   refine T ?_
   exact D
  ·refine T ?_
   exact Ba [] hI z_ (hnx (by rw[hx];simp[h])) U
  ·rw[hno (by rw[hx,decide_eq_false (by omega:¬ (Ai s j).toNat≤122),decide_eq_false (by omega:¬ (Ai s j).toNat≤57)];simp),Bool.false_and]at hw
   subst hw
   refine T ?_
   exact D
 ·have hje:j=s.size:=qB h
  subst hje
  rw[Ci hI (Nat.le_refl _),Bool.true_and]at hw
  clear h
  subst hw
  by_cases h0:0<s.size
  ·refine T ?_
   refine⟨fun _=>?_,fun h=>absurd (of_decide_eq_false h) z_⟩
   refine T ?_
   refine Ar Y (.cons .tmp .nil) (congrArg Ab ?_) Y
   rw[decide_eq_true h0,Bool.true_and]
   exact decide_eq_decide.2 z_
  ·rw[decide_eq_false h0,Bool.false_and]
   refine T ?_
   exact D
theorem Z5 (c:UInt8):Sy.Spec Tryz.prog 364 [Bn c] [] (B4 (digI c)) []:=cT F364 Tryz.ntmps364 fun F hF=>by
 have hres:=digI.eq_1 c
 generalize digI c=res at *
 have hcn:=c.toNat_lt
 rcases (by omega:c.toNat<48∨(48≤c.toNat∧c.toNat≤57)∨(57<c.toNat∧c.toNat<97)∨(97≤c.toNat∧c.toNat≤102)∨102<c.toNat) with h | h | h | h | h
 ·rw[if_neg z_,if_neg z_]at hres
  subst hres
  refine T ?_
  exact D
 ·rw[if_pos z_]at hres
  subst hres
  refine T ?_
  refine Ar Y (.cons .tmp .nil) ?_ Y
  refine congrArg (fun z=>SV.val (.int .u64 z)) (?_:_=IntKind.u64.wrap (IntKind.u8.wrap ((c.toNat:Int)-48)))
  rw[IntKind.wrap_u8,IntKind.wrap_u64];omega
 ·rw[if_neg z_,if_neg z_]at hres
  subst hres
  refine T ?_
  exact D
 ·rw[if_neg z_,if_pos z_]at hres
  subst hres
  refine T ?_
  refine Ar Y (.cons .tmp .nil) ?_ Y
  refine congrArg (fun z=>SV.val (.int .u64 z)) (?_:_=IntKind.u64.wrap (IntKind.u64.wrap (IntKind.u8.wrap ((c.toNat:Int)-97))+10))
  rw[IntKind.wrap_u8,IntKind.wrap_u64,IntKind.wrap_u64];omega
 ·rw[if_neg z_,if_neg z_]at hres
  subst hres
  refine T ?_
  exact D
theorem Sk {s:ByteArray}:∀ {j:Nat},(∀ i,i<j→Hh s i=true)→0≤Ok s j∧Ok s j<256 ^ j
 | 0,_=>by simp[Ok]
 | j+1,h=>by
  have ih:=Sk (s:=s) (j:=j) (fun i hi=>h i z_)
  have hj:=h j z_
  simp only[Hh,Bool.and_eq_true,decide_eq_true_eq]at hj
  have d1:=Ws (Ai s (3 * j))
  have d2:=Ws (Ai s (3 * j+1))
  rw[Ok,Int.pow_succ]
  omega
theorem Anz (m a b:Nat) (hm:m<72057594037927936) (ha:a<16) (hb:b<16):bits .or .u64 (bits .or .u64 (IntKind.u64.wrap ((m:Int) * 2 ^ min (Int.toNat 8) IntKind.u64.bits)) (IntKind.u64.wrap ((a:Int) * 2 ^ min (Int.toNat 4) IntKind.u64.bits))) (b:Int)=((m * 256+a * 16+b:Nat):Int):=by
 have e1:IntKind.u64.wrap ((m:Int) * 2 ^ min (Int.toNat 8) IntKind.u64.bits)=((m * 256:Nat):Int):=by
  show IntKind.u64.wrap ((m:Int) * 256)=_
  rw[IntKind.wrap_u64];omega
 have e2:IntKind.u64.wrap ((a:Int) * 2 ^ min (Int.toNat 4) IntKind.u64.bits)=((a * 16:Nat):Int):=by
  show IntKind.u64.wrap ((a:Int) * 16)=_
  rw[IntKind.wrap_u64];omega
 have o1:=Nat.two_pow_add_eq_or_of_lt (i:=8) (b:=a * 16) z_ m
 have o2:=Nat.two_pow_add_eq_or_of_lt (i:=4) (b:=b) z_ (m * 16+a)
 have f1:m * 256 ||| a * 16=m * 256+a * 16:=by rw[Nat.mul_comm m 256];exact o1.symm
 have f2:(m * 256+a * 16) ||| b=m * 256+a * 16+b:=by
  have e:m * 256+a * 16=2 ^ 4 * (m * 16+a):=by omega
  rw[e];exact o2.symm
 rw[e1,e2,bits_or_u64_nat _ _ z_ z_,f1,bits_or_u64_nat _ _ z_ z_,f2]
theorem macR_no {s:ByteArray} {j:Nat} (hj:j<6) (h:Hh s j=false):macR s=(0,false):=by
 rw[macR,if_neg]
 rintro ⟨_,h2⟩
 rw[List.all_eq_true]at h2
 rw[h2 j (List.mem_range.2 hj)]at h;cases h
theorem An1 (s:ByteArray) (hs:s.size≤1000000):Sy.Spec Tryz.prog 300 [Ad s] [] (.tup [B4 (macR s).1,Ab (macR s).2]) []:=cT F300 Tryz.ntmps300 fun F hF=>by
 have hno:=@macR_no s
 have hyes:=macR.eq_1 s
 generalize macR s=res at *
 by_cases h17:s.size=17
 rotate_left
 ·rw[if_neg (fun e=>h17 e.1)]at hyes
  subst hyes
  refine T ?_
  exact D
 refine T ?_
 refine A2 6 (fun j=>∀ i,i<j→Hh s i=true) (fun j=>[(0,Ad s),(4,B4 (Ok s j)),(11,Aa j)]) (fun _=>[]) [] (fun i hi=>by omega) U ?_
 intro j hj hI
 have hmv:=Sk hI
 refine T ?_
 refine⟨fun h=>?_,fun h=>?_⟩
 ·have hlt:j<6:=qA h
  have hno:=hno hlt
  clear h
  have i0:(3 * ((j:Nat):Int)).toNat=3 * j:=by omega
  have i1:(3 * ((j:Nat):Int)+1).toNat=3 * j+1:=by omega
  have i2:(3 * ((j:Nat):Int)+2).toNat=3 * j+2:=by omega
  have hx:Hh s j=(decide (digI (Ai s (3 * j))≤15) && decide (digI (Ai s (3 * j+1))≤15) && (decide (5≤j) || decide ((Ai s (3 * j+2)).toNat=58))):=rfl
  have hv:Ok s (j+1)=Ok s j * 256+digI (Ai s (3 * j)) * 16+digI (Ai s (3 * j+1)):=rfl
  rw[← i1,← i2,← i0]at hx
  rw[← i1,← i0]at hv
  have d1:=Ws (Ai s (3 * ((j:Nat):Int)).toNat)
  have d2:=Ws (Ai s (3 * ((j:Nat):Int)+1).toNat)
  have q1:=Z5 (Ai s (3 * ((j:Nat):Int)).toNat)
  have q2:=Z5 (Ai s (3 * ((j:Nat):Int)+1).toNat)
  by_cases c1:digI (Ai s (3 * ((j:Nat):Int)).toNat)≤15
  ·have f1:decide (digI (Ai s (3 * ((j:Nat):Int)).toNat)>15)=false:=decide_eq_false z_
   by_cases c2:digI (Ai s (3 * ((j:Nat):Int)+1).toNat)≤15
   ·have f2:decide (digI (Ai s (3 * ((j:Nat):Int)+1).toNat)>15)=false:=decide_eq_false z_
    have hp:(256:Int) ^ j≤256 ^ 5:=by
     have:=Nat.pow_le_pow_right (n:=256) y_ (show j≤5 by omega)
     exact_mod_cast this
    have hst:=Anz (Ok s j).toNat (digI (Ai s (3 * ((j:Nat):Int)).toNat)).toNat (digI (Ai s (3 * ((j:Nat):Int)+1).toNat)).toNat z_ z_ z_
    have hst2:((((Ok s j).toNat * 256+(digI (Ai s (3 * ((j:Nat):Int)).toNat)).toNat * 16+(digI (Ai s (3 * ((j:Nat):Int)+1).toNat)).toNat:Nat)):Int)=Ok s (j+1):=by rw[hv];omega
    rw[hst2,Int.toNat_of_nonneg hmv.1,Int.toNat_of_nonneg d1.1,Int.toNat_of_nonneg d2.1]at hst
    by_cases c3:j<5
    ·by_cases c4:(Ai s (3 * ((j:Nat):Int)+2).toNat).toNat=58
     ·have f4:(((Ai s (3 * ((j:Nat):Int)+2).toNat).toNat:Int) != 58)=false:=by rw[c4];rfl
      have hmj:Hh s j=true:=by rw[hx,c4];simp[c1,c2]
      refine T ?_
      refine C q1 F364 ?_
      refine C q2 F364 ?_
      exact Ba [] hI hlt (fun i hi=>by
       by_cases e:i=j
       ·rw[e];exact hmj
       ·exact hI i z_) ⟨⟨Y,Y,congrArg B4 hst.symm,Y,Y,Y,q_⟩,q_,Y,Y⟩
     ·have f4:(((Ai s (3 * ((j:Nat):Int)+2).toNat).toNat:Int) != 58)=true:=by
       rw[bne_iff_ne];omega
      have hmj:Hh s j=false:=by rw[hx,decide_eq_false c4,decide_eq_false (by omega:¬ 5≤j)];simp
      rw[hno hmj]
      refine T ?_
      refine C q1 F364 ?_
      refine C q2 F364 ?_
      exact D
    ·have hmj:Hh s j=true:=by rw[hx];simp[c1,c2];omega
     refine T ?_
     refine C q1 F364 ?_
     refine C q2 F364 ?_
     exact Ba [] hI hlt (fun i hi=>by
      by_cases e:i=j
      ·rw[e];exact hmj
      ·exact hI i z_) ⟨⟨Y,Y,congrArg B4 hst.symm,Y,Y,Y,q_⟩,q_,Y,Y⟩
   ·have f2:decide (digI (Ai s (3 * ((j:Nat):Int)+1).toNat)>15)=true:=decide_eq_true z_
    rw[hno (by rw[hx,decide_eq_false c2];simp)]
    refine T ?_
    refine C q1 F364 ?_
    refine C q2 F364 ?_
    exact D
  ·have f1:decide (digI (Ai s (3 * ((j:Nat):Int)).toNat)>15)=true:=decide_eq_true z_
   rw[hno (by rw[hx,decide_eq_false c1];rfl)]
   refine T ?_
   refine C q1 F364 ?_
   refine C q2 F364 ?_
   exact D
 ·have hje:j=6:=qB h
  subst hje
  clear h
  rw[if_pos ⟨h17,by rw[List.all_eq_true];intro i hi;exact hI i (List.mem_range.1 hi)⟩]at hyes
  subst hyes
  refine T ?_
  exact D
theorem Aeq (m:Nat) (h:m<18446744073709551616):(((bits .and .u64 (m:Int) 281474976710655).fdiv (2 ^ min (Int.toNat 32) IntKind.u64.bits)) != 512)=!(Hd m):=by
 have e:=bits_and_u64_nat m 281474976710655 h y_
 have e2:m &&& 281474976710655=m % 281474976710656:=Nat.and_two_pow_sub_one_eq_mod m 48
 have e3:bits .and .u64 (m:Int) 281474976710655=((m % 281474976710656:Nat):Int):=by rw[← e2];exact e
 have e4:((m % 281474976710656:Nat):Int).fdiv (2 ^ min (Int.toNat 32) IntKind.u64.bits)=((m % 281474976710656 / 4294967296:Nat):Int):=by
  show ((m % 281474976710656:Nat):Int).fdiv 4294967296=_
  rw[Int.fdiv_eq_ediv_of_nonneg _ y_,Int.natCast_ediv];rfl
 rw[e3,e4,Hd]
 by_cases hh:m % 281474976710656 / 4294967296=512
 ·rw[hh,decide_eq_true z_];rfl
 ·rw[decide_eq_false z_]
  simp;omega
def Aoe (m:Int):Int:=if Hd m=true then IntKind.u32.wrap (bits .and .u64 m 281474976710655) else 0
theorem Aqm (m:Nat) (h:m<18446744073709551616):Sy.Spec Tryz.prog 365 [B4 m] [] (.tup [A3 (Aoe m),Ab (Hd m)]) []:=cT F365 Tryz.ntmps365 fun F hF=>by
 have hb:=Aeq m h
 rw[Aoe]
 cases hh:Hd m with
 | true =>
  have hb:=hb.trans (by rw[hh];rfl:_=false)
  rw[if_pos rfl]
  refine T ?_
  exact D
 | false =>
  have hb:=hb.trans (by rw[hh];rfl:_=true)
  rw[if_neg qe]
  refine T ?_
  exact D
theorem Ale (m:Nat) (h:m<18446744073709551616):Sy.Spec Tryz.prog 366 [B4 m] [] (Ab (Ot m)) []:=cT F366 Tryz.ntmps366 fun F hF=>by
 have hb:=Alp m h
 refine T ?_
 exact Ar Y (.cons .tmp .nil) (congrArg Ab hb.symm) Y
theorem W4 (m:Nat) (h:m<18446744073709551616):Sy.Spec Tryz.prog 301 [B4 m] [] (Ab (statB m)) []:=cT F301 Tryz.ntmps301 fun F hF=>by
 have q1:=Aqm m h
 have q2:=Ale m h
 have hw:=statB.eq_1 (m:Int)
 rw[Int.toNat_natCast]at hw
 generalize statB (m:Int)=r at *
 generalize Aoe (m:Int)=hv at *
 by_cases c1:(m:Int)≤281474976710655
 ·rw[decide_eq_true c1,Bool.true_and]at hw
  have f1:decide ((m:Int)≤281474976710655)=true:=decide_eq_true c1
  cases hh:Hd m with
  | true =>
   rw[hh]at q1 hw
   simp at hw
   subst hw
   refine T ?_
   refine C q1 F365 ?_
   exact D
  | false =>
   rw[hh]at q1 hw
   simp at hw
   subst hw
   refine T ?_
   refine C q1 F365 ?_
   refine C q2 F366 ?_
   exact D
 ·rw[decide_eq_false c1]at hw
  have f1:decide ((m:Int)≤281474976710655)=false:=decide_eq_false c1
  simp at hw
  subst hw
  refine T ?_
  refine C q1 F365 ?_
  exact D
def Kk (one:ByteArray→Int × Bool) (out:List Int) (s:ByteArray) (b:Bool):List Int × Bool:=if b=true then B5 one out (Bd 44 s) else (out,true)
theorem Ah2 {c:UInt8}:∀ {l:List UInt8},0≤Lib.indexByte l c→c∈l
 | [],h=>by simp[Lib.indexByte]at h
 | b::l,h=>by
  unfold Lib.indexByte at h
  by_cases hb:(b == c)=true
  ·simp at hb;simp[hb]
  ·rw[if_neg hb]at h
   by_cases h1:(Lib.indexByte l c == -1)=true
   ·rw[if_pos h1]at h;omega
   ·rw[if_neg h1]at h
    have:=Ip l c
    have h2:Lib.indexByte l c≠-1:=by simpa using h1
    exact List.mem_cons_of_mem _ (Ah2 z_)
theorem X8 (one:ByteArray→Int × Bool) (out:List Int) (s:ByteArray) :
  Kk one out s true=(if (one (cutT 44 s).1).2=false∨out.length=16∨(∃ x,out.getLast? = some x∧(one (cutT 44 s).1).1≤x) then ([],false) else Kk one (out++[(one (cutT 44 s).1).1]) (cutT 44 s).2.1 (cutT 44 s).2.2):=by
 rw[Kk,if_pos rfl,I2]
 have hsz:s.data.toList.length=s.size:=rfl
 have tk:∀ i,s.extract 0 i=mkT (s.data.toList.take i):=fun i=>by rw[← Cv s,Cr,Bv];simp
 by_cases h:0≤Lib.indexByte s.data.toList 44
 ·have hm:=Ah2 h
  have e2:s.extract (I6 44 s.data.toList+1) s.size=mkT (s.data.toList.drop (I6 44 s.data.toList+1)):=by
   have:=Cr s.data.toList (I6 44 s.data.toList+1) s.size
   rw[Cv]at this
   rw[this,← hsz,List.take_length]
  rw[cutT,if_pos h,Lq 44 _ _ hm,List.nil_append,B5,tk,e2]
  dsimp only
  rw[Kk,if_pos rfl,I2,Bv]
 ·have hm:(44:UInt8)∉s.data.toList:=fun hh=>h (H5 hh).1
  rw[cutT,if_neg h,Ie 44 _ _ hm,List.nil_append,Cv,B5]
  simp only[Kk,if_neg (show ¬ (false=true) by simp),B5]
theorem Aal (s:ByteArray):(cutT 44 s).1.size≤s.size∧(cutT 44 s).2.1.size≤s.size∧((cutT 44 s).2.2=true→(cutT 44 s).2.1.size<s.size):=by
 have hsz:s.data.toList.length=s.size:=rfl
 have hlt:=L7 s.data.toList 44
 have ex:∀ i j,(s.extract i j).size=((s.data.toList.take j).drop i).length:=fun i j=>by
  have:=Cr s.data.toList i j
  rw[Cv]at this
  rw[this,Bp]
 rw[cutT]
 split
 ·rename_i h
  refine⟨?_,?_,fun _=>?_⟩
  ·rw[ex,List.length_drop,List.length_take];omega
  ·rw[ex,List.length_drop,List.length_take];omega
  ·rw[ex,List.length_drop,List.length_take]
   have:I6 44 s.data.toList+1≤s.data.toList.length:=by unfold I6;omega
   omega
 ·exact⟨Nat.le_refl _,Nat.zero_le _,fun e=>by cases e⟩
theorem Ad6 (one:ByteArray→Int × Bool) (f:FuncId) (first cap:List SV) (hc:(SV.clo (.func f) first cap).inn []=true) (hr:∀ ρ:Nat→Nat,(SV.clo (.func f) first cap).ren ρ=.clo (.func f) first cap) (s0:ByteArray) (hs:s0.size≤10000) (hf:∀ p:ByteArray,p.size≤s0.size→Jz Tryz.prog f (first++[Ad p]++cap) (.tup [Aa (one p).1,Ab (one p).2])) :
  Sy.Spec Tryz.prog 368 [Ad s0,.clo (.func f) first cap] [] (.tup [.sl 1 Aa (Dr one s0).1,Ab (Dr one s0).2]) []:=cT F368 Tryz.ntmps368 fun F hF=>by
 have hres:Dr one s0=Kk one [] s0 true:=rfl
 generalize Dr one s0=res at *
 have hc':(SV.clo (.func f) first cap).inn [1000]=true:=Wn _ hc
 have hin:∀ y:SV,y.inn []=true→C6 [] (first++[y]++cap)=true:=fun y hy=>by
  simp only[SV.inn,Bool.and_eq_true]at hc
  rw[E6,E6,hc.1,hc.2]
  simp[C6,hy]
 refine T ?_
 refine C4 6 1000 1 Aa Y Y ?_
 refine T ?_
 refine Au (fun x:ByteArray × Bool × List Int=>res=Kk one x.2.2 x.1 x.2.1∧x.1.size≤s0.size∧x.2.2.length≤16) (fun x=>[(0,Ad x.1),(1,.clo (.func f) first cap),(6,.osl 1000),(7,Ab x.2.1)]) (fun x=>[(1000,.row 1 Aa x.2.2)]) (fun x=>if x.2.1=true then x.1.size+1 else 0) (s0,true,[]) [] ⟨hres,Nat.le_refl _,by simp⟩ ⟨⟨Y,Y,B7 _,hc',Y,Y,Y,Y,q_⟩,⟨.inl Y,Y,q_⟩,Y,Y⟩ ?_
 rintro ⟨s,b,out⟩ ⟨hI,hsz,hout⟩
 dsimp only at hI hsz hout ⊢
 cases b with
 | false =>
  rw[Kk,if_neg qe]at hI
  subst hI
  refine T ?_
  refine Ac 1000 Y ?_
  refine T ?_
  exact D
 | true =>
  have q1:=Wl s 44 z_
  have hsm:=Aal s
  rw[X8]at hI
  generalize cutT 44 s=ct at *
  obtain ⟨p,r,m⟩:=ct
  dsimp only at hI hsm q1
  have q2:=hf p z_
  generalize one p=op at *
  obtain ⟨v,ok⟩:=op
  dsimp only at hI q2
  refine T ?_
  refine C q1 F119 ?_
  refine Jq q2 Y Y Y (by simp only[hin (Ad p) Y];rfl) Y Y ?_
  cases ok with
  | false =>
   rw[if_pos (.inl rfl)]at hI
   subst hI
   refine T ?_
   refine Dh 4 1 Aa Y ?_
   refine T ?_
   exact D
  | true =>
   by_cases c1:out.length=16
   ·rw[if_pos (.inr (.inl c1))]at hI
    subst hI
    refine T ?_
    refine Dh 4 1 Aa Y ?_
    refine T ?_
    exact D
   ·by_cases c2:out.length=0
    ·have hn:out=[]:=List.eq_nil_of_length_eq_zero c2
     rw[if_neg (by rw[hn];simp)]at hI
     refine T ?_
     refine X (Ak Γ.toTy 49 Y Y Y Y Y (.row Y) (.lit (e:=Aa) (l:=[v]) Y Y) qe (by simp;omega) (by simp;omega)) ?_
     refine Ae (r,m,out++[v]) [(1000,49)] ⟨hI,by dsimp only;omega,by simp;omega⟩ (by
      have h3:=hsm.2.2
      cases m
      ·simp
      ·have:=h3 rfl;simp;omega) ⟨⟨rfl,rfl,hr _,hc',rfl,rfl,rfl,rfl,trivial⟩,⟨.inl rfl,rfl,trivial⟩,rfl,rfl⟩
    ·have hk:((out.length:Int)-1).toNat<out.length:=by omega
     have hlast:out.getLast? = some (out[((out.length:Int)-1).toNat]'hk):=by
      rw[List.getLast?_eq_getElem?,List.getElem?_eq_getElem z_]
      congr 1
      have:out.length-1=((out.length:Int)-1).toNat:=by omega
      simp only[this]
     have f2:decide ((out.length:Int)>0)=true:=decide_eq_true z_
     by_cases c3:v≤out[((out.length:Int)-1).toNat]'hk
     ·have f3:decide (out[((out.length:Int)-1).toNat]'hk≥v)=true:=decide_eq_true c3
      rw[if_pos (.inr (.inr ⟨_,hlast,c3⟩))]at hI
      subst hI
      refine T ?_
      refine Dh 4 1 Aa Y ?_
      refine T ?_
      exact D
     ·have f3:decide (out[((out.length:Int)-1).toNat]'hk≥v)=false:=decide_eq_false c3
      rw[if_neg (by
       rintro (hh | hh | ⟨x,hx,hh⟩)
       ·cases hh
       ·exact c1 hh
       ·rw[hlast]at hx
        simp only[Option.some.injEq]at hx
        rw[← hx]at hh
        exact c3 hh)]at hI
      refine T ?_
      refine X (Ak Γ.toTy 49 Y Y Y Y Y (.row Y) (.lit (e:=Aa) (l:=[v]) Y Y) qe (by simp;omega) (by simp;omega)) ?_
      refine Ae (r,m,out++[v]) [(1000,49)] ⟨hI,by dsimp only;omega,by simp;omega⟩ (by
      have h3:=hsm.2.2
      cases m
      ·simp
      ·have:=h3 rfl;simp;omega) ⟨⟨rfl,rfl,hr _,hc',rfl,rfl,rfl,rfl,trivial⟩,⟨.inl rfl,rfl,trivial⟩,rfl,rfl⟩
theorem Ad4 (one:ByteArray→Int × Bool) (f:FuncId) (first cap:List SV) (hc:(SV.clo (.func f) first cap).inn []=true) (hr:∀ ρ:Nat→Nat,(SV.clo (.func f) first cap).ren ρ=.clo (.func f) first cap) (s0:ByteArray) (hs:s0.size≤10000) (hf:∀ p:ByteArray,p.size≤s0.size→Jz Tryz.prog f (first++[Ad p]++cap) (.tup [A3 (one p).1,Ab (one p).2])) :
  Sy.Spec Tryz.prog 305 [Ad s0,.clo (.func f) first cap] [] (.tup [.sl 1 A3 (Dr one s0).1,Ab (Dr one s0).2]) []:=cT F305 Tryz.ntmps305 fun F hF=>by
 have hres:Dr one s0=Kk one [] s0 true:=rfl
 generalize Dr one s0=res at *
 have hc':(SV.clo (.func f) first cap).inn [1000]=true:=Wn _ hc
 have hin:∀ y:SV,y.inn []=true→C6 [] (first++[y]++cap)=true:=fun y hy=>by
  simp only[SV.inn,Bool.and_eq_true]at hc
  rw[E6,E6,hc.1,hc.2]
  simp[C6,hy]
 refine T ?_
 refine C4 6 1000 1 A3 Y Y ?_
 refine T ?_
 refine Au (fun x:ByteArray × Bool × List Int=>res=Kk one x.2.2 x.1 x.2.1∧x.1.size≤s0.size∧x.2.2.length≤16) (fun x=>[(0,Ad x.1),(1,.clo (.func f) first cap),(6,.osl 1000),(7,Ab x.2.1)]) (fun x=>[(1000,.row 1 A3 x.2.2)]) (fun x=>if x.2.1=true then x.1.size+1 else 0) (s0,true,[]) [] ⟨hres,Nat.le_refl _,by simp⟩ ⟨⟨Y,Y,B7 _,hc',Y,Y,Y,Y,q_⟩,⟨.inl Y,Y,q_⟩,Y,Y⟩ ?_
 rintro ⟨s,b,out⟩ ⟨hI,hsz,hout⟩
 dsimp only at hI hsz hout ⊢
 cases b with
 | false =>
  rw[Kk,if_neg qe]at hI
  subst hI
  refine T ?_
  refine Ac 1000 Y ?_
  refine T ?_
  exact D
 | true =>
  have q1:=Wl s 44 z_
  have hsm:=Aal s
  rw[X8]at hI
  generalize cutT 44 s=ct at *
  obtain ⟨p,r,m⟩:=ct
  dsimp only at hI hsm q1
  have q2:=hf p z_
  generalize one p=op at *
  obtain ⟨v,ok⟩:=op
  dsimp only at hI q2
  refine T ?_
  refine C q1 F119 ?_
  refine Jq q2 Y Y Y (by simp only[hin (Ad p) Y];rfl) Y Y ?_
  cases ok with
  | false =>
   rw[if_pos (.inl rfl)]at hI
   subst hI
   refine T ?_
   refine Dh 4 1 A3 Y ?_
   refine T ?_
   exact D
  | true =>
   by_cases c1:out.length=16
   ·rw[if_pos (.inr (.inl c1))]at hI
    subst hI
    refine T ?_
    refine Dh 4 1 A3 Y ?_
    refine T ?_
    exact D
   ·by_cases c2:out.length=0
    ·have hn:out=[]:=List.eq_nil_of_length_eq_zero c2
     rw[if_neg (by rw[hn];simp)]at hI
     refine T ?_
     refine X (Ak Γ.toTy 49 Y Y Y Y Y (.row Y) (.lit (e:=A3) (l:=[v]) Y Y) qe (by simp;omega) (by simp;omega)) ?_
     refine Ae (r,m,out++[v]) [(1000,49)] ⟨hI,by dsimp only;omega,by simp;omega⟩ (by
      have h3:=hsm.2.2
      cases m
      ·simp
      ·have:=h3 rfl;simp;omega) ⟨⟨rfl,rfl,hr _,hc',rfl,rfl,rfl,rfl,trivial⟩,⟨.inl rfl,rfl,trivial⟩,rfl,rfl⟩
    ·have hk:((out.length:Int)-1).toNat<out.length:=by omega
     have hlast:out.getLast? = some (out[((out.length:Int)-1).toNat]'hk):=by
      rw[List.getLast?_eq_getElem?,List.getElem?_eq_getElem z_]
      congr 1
      have:out.length-1=((out.length:Int)-1).toNat:=by omega
      simp only[this]
     have f2:decide ((out.length:Int)>0)=true:=decide_eq_true z_
     by_cases c3:v≤out[((out.length:Int)-1).toNat]'hk
     ·have f3:decide (out[((out.length:Int)-1).toNat]'hk≥v)=true:=decide_eq_true c3
      rw[if_pos (.inr (.inr ⟨_,hlast,c3⟩))]at hI
      subst hI
      refine T ?_
      refine Dh 4 1 A3 Y ?_
      refine T ?_
      exact D
     ·have f3:decide (out[((out.length:Int)-1).toNat]'hk≥v)=false:=decide_eq_false c3
      rw[if_neg (by
       rintro (hh | hh | ⟨x,hx,hh⟩)
       ·cases hh
       ·exact c1 hh
       ·rw[hlast]at hx
        simp only[Option.some.injEq]at hx
        rw[← hx]at hh
        exact c3 hh)]at hI
      refine T ?_
      refine X (Ak Γ.toTy 49 Y Y Y Y Y (.row Y) (.lit (e:=A3) (l:=[v]) Y Y) qe (by simp;omega) (by simp;omega)) ?_
      refine Ae (r,m,out++[v]) [(1000,49)] ⟨hI,by dsimp only;omega,by simp;omega⟩ (by
      have h3:=hsm.2.2
      cases m
      ·simp
      ·have:=h3 rfl;simp;omega) ⟨⟨rfl,rfl,hr _,hc',rfl,rfl,rfl,rfl,trivial⟩,⟨.inl rfl,rfl,trivial⟩,rfl,rfl⟩
theorem Abh (p:ByteArray) (lo hi:Int):Sy.Spec Tryz.prog 369 [Ad p,.ref 1 (Aa lo) 0,.ref 1 (Aa hi) 0] [] (.tup [Aa (numR p lo hi).1,Ab (numR p lo hi).2]) []:=cT F369 Tryz.ntmps369 fun F hF=>by
 have q:=Ad5 p lo hi
 generalize numR p lo hi=r at *
 refine T ?_
 refine C q F124 ?_
 exact D
theorem Abg (s:ByteArray) (hi:Int) (hs:s.size≤10000):Sy.Spec Tryz.prog 306 [Ad s,Aa 1,Aa hi] [] (.tup [.sl 1 Aa (Dr (fun p=>numR p 1 hi) s).1,Ab (Dr (fun p=>numR p 1 hi) s).2]) []:=cT F306 Tryz.ntmps306 fun F hF=>by
 have q:=Ad6 (fun p=>numR p 1 hi) 369 [] [.ref 1 (Aa 1) 0,.ref 1 (Aa hi) 0] rfl (fun _=>rfl) s hs (fun p _=>⟨⟨_,_,F369⟩,Abh p 1 hi⟩)
 generalize Dr (fun p=>numR p 1 hi) s=r at *
 refine T ?_
 refine A6 4 1 (Aa 1) Y Y Y ?_
 refine A6 5 1 (Aa hi) Y Y Y ?_
 refine T ?_
 refine C q F368 ?_
 exact D
theorem Y8 (s:ByteArray) (hs:s.size≤10000):Sy.Spec Tryz.prog 240 [Ad s] [] (.tup [.sl 1 A3 (Bk s).1,Ab (Bk s).2]) []:=cT F240 Tryz.ntmps240 fun F hF=>by
 have q:=Ad4 Bo 237 [] [] rfl (fun _=>rfl) s hs (fun p hp=>⟨⟨_,_,F237⟩,U8 p z_⟩)
 unfold Bk
 generalize Dr Bo s=r at *
 refine T ?_
 refine C q F305 ?_
 exact D
theorem Afk (s:ByteArray) (hs:s.size≤10000):Sy.Spec Tryz.prog 242 [Ad s] [] (.tup [Di (prefixR s).1.1 (prefixR s).1.2,Ab (prefixR s).2]) []:=cT F242 Tryz.ntmps242 fun F hF=>by
 have q1:=Wl s 47 z_
 have hres:=prefixR.eq_1 s
 have hsm:(cutT 47 s).1.size≤s.size:=by
  rw[cutT]
  split
  ·have:=Cr s.data.toList 0 (I6 47 s.data.toList)
   rw[Cv]at this
   rw[this,Bp,List.length_drop,List.length_take]
   have:s.data.toList.length=s.size:=rfl
   omega
  ·exact Nat.le_refl _
 generalize cutT 47 s=ct at *
 obtain ⟨p,r,m⟩:=ct
 dsimp only at hres hsm q1
 have q2:=U8 p z_
 have q3:=Yt r 32
 generalize prefixR s=res at *
 generalize Bo p=a at *
 generalize smallT r 32=b at *
 obtain ⟨av,ao⟩:=a
 obtain ⟨bv,bo⟩:=b
 dsimp only at hres q2 q3
 cases m<;>cases ao<;>cases bo
 all_goals (simp at hres;subst hres)
 all_goals (refine T ?_;refine C q1 F119 ?_;refine C q2 F237 ?_;refine C q3 F304 ?_;exact D)
abbrev rdO (w:List ByteArray) (i:Nat) (e:Int):Obs:=[(0,.box [.sl 1 Ad w,Aa i,Aa e])]
theorem Ch {w:List ByteArray} {i:Nat} (h:i<w.length):wdT w i=w[i]:=by rw[wdT,List.getElem?_eq_getElem h];rfl
theorem Ky (w:List ByteArray) (i:Nat) (e:Int) (hi:i<w.length) (hw:w.length≤1000000):Sy.Spec Tryz.prog 238 [.ptr 0 0] (rdO w i e) (Ad (wdT w i)) (rdO w (i+1) e):=cT F238 Tryz.ntmps238 fun F hF=>by
 have hk:((i:Int)+1-1).toNat<w.length:=by omega
 have hx:wdT w i=w[((i:Int)+1-1).toNat]'hk:=by
  rw[Ch hi]
  have:((i:Int)+1-1).toNat=i:=by omega
  simp only[this]
 rw[hx]
 refine T ?_
 exact done Y (.cons .tmp .nil) [] (rdO w (i+1) e) (fun _ h=>h) Y Y U
theorem Hv (w:List ByteArray) (i:Nat) (e:Int) (b:Bool) (c:Int):Sy.Spec Tryz.prog 235 [.ptr 0 0,Ab b,Aa c] (rdO w i e) (.tup []) (rdO w i (An e b c)):=cT F235 Tryz.ntmps235 fun F hF=>by
 cases b with
 | false =>
  have hf:An e false c=e:=by rw[An,if_neg qe]
  rw[hf]
  refine T ?_
  exact C3 Y .nil [] (rdO w i e) (fun _ h=>h) Y Y U
 | true =>
  by_cases h:e=0
  ·have hf:An e true c=c:=by rw[An,if_pos ⟨rfl,h⟩]
   rw[hf]
   subst h
   refine T ?_
   exact C3 Y .nil [] (rdO w i c) (fun _ h=>h) Y Y U
  ·have hf:An e true c=e:=by rw[An,if_neg (fun x=>h x.2)]
   rw[hf]
   have hb:(e == 0)=false:=by simpa using h
   refine T ?_
   exact C3 Y .nil [] (rdO w i e) (fun _ h=>h) Y Y U
theorem Eg (w:List ByteArray) (i:Nat) (e:Int) (hi:i<w.length) (hw:w.length≤1000000) (hs:∀ s∈w,s.size≤40):Sy.Spec Tryz.prog 231 [.ptr 0 0] (rdO w i e) (Ad (wdT w i)) (rdO w (i+1) (An e (!(nameB (wdT w i))) 20)):=cT F231 Tryz.ntmps231 fun F hF=>by
 have hwd:(wdT w i).size≤40:=by rw[Ch hi];exact hs _ (List.getElem_mem hi)
 have q1:=Ky w i e hi hw
 have q2:=Ij (wdT w i) z_
 have q3:=Hv w (i+1) e (!(nameB (wdT w i))) 20
 generalize nameB (wdT w i)=nb at *
 generalize wdT w i=x at *
 refine T ?_
 refine X (Af [] Y F238 q1 Y W Y V) ?_
 refine C q2 F299 ?_
 refine X (Af [] Y F235 q3 Y W Y V) ?_
 exact done Y (.cons .tmp .nil) [] (rdO w (i+1) (An e (!nb) 20)) (fun _ h=>h) Y Y U
theorem O9 (w:List ByteArray) (i:Nat) (e lo hi_:Int) (hi:i<w.length) (hw:w.length≤1000000):Sy.Spec Tryz.prog 233 [.ptr 0 0,Aa lo,Aa hi_] (rdO w i e) (Aa (numR (wdT w i) lo hi_).1) (rdO w (i+1) (An e (!(numR (wdT w i) lo hi_).2) 21)):=cT F233 Tryz.ntmps233 fun F hF=>by
 have q1:=Ky w i e hi hw
 have q2:=Ad5 (wdT w i) lo hi_
 generalize numR (wdT w i) lo hi_=r at *
 have q3:=Hv w (i+1) e (!r.2) 21
 generalize wdT w i=x at *
 refine T ?_
 refine X (Af [] Y F238 q1 Y W Y V) ?_
 refine C q2 F124 ?_
 refine X (Af [] Y F235 q3 Y W Y V) ?_
 exact done Y (.cons .tmp .nil) [] (rdO w (i+1) (An e (!r.2) 21)) (fun _ h=>h) Y Y U
theorem Tf (w:List ByteArray) (i:Nat) (e:Int) (hi:i<w.length) (hw:w.length≤1000000):Sy.Spec Tryz.prog 232 [.ptr 0 0] (rdO w i e) (Aa (Bl (wdT w i)).1) (rdO w (i+1) (An e (!(Bl (wdT w i)).2) 21)):=cT F232 Tryz.ntmps232 fun F hF=>by
 have q:=O9 w i e 1 4094 hi hw
 unfold Bl
 generalize numR (wdT w i) 1 4094=r at *
 refine T ?_
 refine X (Af [] Y F233 q Y W Y V) ?_
 exact done Y (.cons .tmp .nil) [] (rdO w (i+1) (An e (!r.2) 21)) (fun _ h=>h) Y Y U
theorem Am0 (w:List ByteArray) (i:Nat) (e:Int) (hi:i<w.length) (hw:w.length≤1000000):Sy.Spec Tryz.prog 239 [.ptr 0 0] (rdO w i e) (Aa (Hy (wdT w i)).1) (rdO w (i+1) (An e (!(Hy (wdT w i)).2) 21)):=cT F239 Tryz.ntmps239 fun F hF=>by
 have q:=O9 w i e 1 16777215 hi hw
 unfold Hy
 generalize numR (wdT w i) 1 16777215=r at *
 refine T ?_
 refine X (Af [] Y F233 q Y W Y V) ?_
 exact done Y (.cons .tmp .nil) [] (rdO w (i+1) (An e (!r.2) 21)) (fun _ h=>h) Y Y U
theorem Alv (e c:Int):An e false c=e:=by rw[An,if_neg qe]
theorem Wm (w:List ByteArray) (i:Nat) (e most:Int) (hi:i<w.length) (hw:w.length≤1000000) (hs:∀ s∈w,s.size≤40):Sy.Spec Tryz.prog 241 [.ptr 0 0,Aa most] (rdO w i e) (.sl 1 Aa (listR most (wdT w i)).1) (rdO w (i+1) (An e (!(listR most (wdT w i)).2) 21)):=cT F241 Tryz.ntmps241 fun F hF=>by
 have hwd:(wdT w i).size≤40:=by rw[Ch hi];exact hs _ (List.getElem_mem hi)
 have q1:=Ky w i e hi hw
 have q2:=Abg (wdT w i) most z_
 have hres:=listR.eq_1 most (wdT w i)
 generalize listR most (wdT w i)=res at *
 by_cases hd:wdT w i=dash
 ·rw[if_pos hd]at hres
  subst hres
  have hb:(wdT w i == (⟨#[45]⟩:ByteArray))=true:=(Eh _ _).2 hd
  rw[show (!(([]:List Int),true).2)=false from rfl,Alv]
  refine T ?_
  refine X (Af [] Y F238 q1 Y W Y V) ?_
  refine Dh 4 1 Aa Y ?_
  refine T ?_
  exact done Y (.cons .tmp .nil) [] (rdO w (i+1) e) (fun _ h=>h) Y Y U
 ·rw[if_neg hd]at hres
  have hb:(wdT w i == (⟨#[45]⟩:ByteArray))=false:=by
   cases hx:(wdT w i == (⟨#[45]⟩:ByteArray))
   ·rfl
   ·exact absurd ((Eh _ _).1 hx) hd
  rw[← hres]at q2
  have q3:=Hv w (i+1) e (!res.2) 21
  clear hres
  refine T ?_
  refine X (Af [] Y F238 q1 Y W Y V) ?_
  refine C q2 F306 ?_
  refine X (Af [] Y F235 q3 Y W Y V) ?_
  exact done Y (.cons .tmp .nil) [] (rdO w (i+1) (An e (!res.2) 21)) (fun _ h=>h) Y Y U
theorem Xy (s:ByteArray):∃ m:Nat,(macR s).1=m∧m<281474976710656:=by
 rw[macR]
 split
 ·rename_i h
  have:=Sk (s:=s) (j:=6) (fun i hi=>by have:=h.2;rw[List.all_eq_true]at this;exact this i (List.mem_range.2 hi))
  refine⟨(Ok s 6).toNat,?_,?_⟩
  ·rw[Int.toNat_of_nonneg this.1]
  ·have h2:Ok s 6<281474976710656:=this.2
   omega
 ·exact⟨0,Y,by decide⟩
def macE (s:ByteArray):Bool:=!((macR s).2 && statB (macR s).1)
theorem Am1 (w:List ByteArray) (i:Nat) (e:Int) (hi:i<w.length) (hw:w.length≤1000000) (hs:∀ s∈w,s.size≤40):Sy.Spec Tryz.prog 234 [.ptr 0 0] (rdO w i e) (B4 (macR (wdT w i)).1) (rdO w (i+1) (An e (macE (wdT w i)) 21)):=cT F234 Tryz.ntmps234 fun F hF=>by
 have hwd:(wdT w i).size≤40:=by rw[Ch hi];exact hs _ (List.getElem_mem hi)
 have q1:=Ky w i e hi hw
 have q2:=An1 (wdT w i) z_
 obtain ⟨m,hm1,hm2⟩:=Xy (wdT w i)
 have q4:=W4 m z_
 have hres:=macE.eq_1 (wdT w i)
 rw[hm1]at hres
 generalize macE (wdT w i)=be at *
 have q3:=Hv w (i+1) e be 21
 generalize macR (wdT w i)=r at *
 obtain ⟨rv,rb⟩:=r
 dsimp only at hm1
 subst hm1
 generalize statB (m:Int)=sb at *
 cases rb with
 | false =>
  simp at hres
  subst hres
  refine T ?_
  refine X (Af [] Y F238 q1 Y W Y V) ?_
  refine C q2 F300 ?_
  refine X (Af [] Y F235 q3 Y W Y V) ?_
  exact done Y (.cons .tmp .nil) [] (rdO w (i+1) (An e true 21)) (fun _ h=>h) Y Y U
 | true =>
  simp at hres
  subst hres
  refine T ?_
  refine X (Af [] Y F238 q1 Y W Y V) ?_
  refine C q2 F300 ?_
  refine C q4 F301 ?_
  refine X (Af [] Y F235 q3 Y W Y V) ?_
  exact done Y (.cons .tmp .nil) [] (rdO w (i+1) (An e (!sb) 21)) (fun _ h=>h) Y Y U
end Go.Sy.YtjenpnjajjplkaaGreatDoor
