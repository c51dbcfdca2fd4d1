/-
  T7 T8 T9 T10 T11 T12 T13 T15 T16 T17 T14 T19 T21 Z0 Z1 K35 K36 K37 K38 K39 K40 Z2 Sy36 Sy37 Sy38 Z3 Z4: parts of a proof, joined by program.
-/
import Derived.Test.YteinjapglfkamaaGreatXB6
import Derived.Test.YteinjapglfkamaaGreatXB5
import Derived.Laws.LoneSync
namespace Go.Sy.YteinjapglfkamaaGreat
open Go.Proofs
attribute [local irreducible] Go.Sy.G Go.Sy.DR
set_option maxRecDepth 100000
set_option maxHeartbeats 4000000
theorem W0 {n:Net} {up:List Bool} (h:Af n=true) {i:Nat} (hi:i<n.ports.length) (hf:0≤C0 n up i):C0 n up i<n.ports.length:=by
 have hp:=Km h hi
 have hpl:=Ml h hi
 simp only[Ef,Bool.and_eq_true,Bool.or_eq_true,beq_iff_eq]at hp
 have hp:=hp.2
 unfold C0 at *
 rw[A7 hi]at *
 simp only at *
 split at hf
 ·omega
 ·rename_i hc
  rw[if_neg hc]
  simp only[Bool.or_eq_true,decide_eq_true_eq,not_or]at hc
  rcases hp with hp | hp
  ·omega
  ·have hl:n.ports[i].link.toNat<n.links.length:=by omega
   have he:=J0 h hl
   rw[Am hl]at *
   omega
def Xf (n:Net) (up:List Bool) (ranks roots costs:List Int) (dev:Int) (i:Nat):Option Vec :=
 let p:=n.ports.getD i default
 let far:=C0 n up i
 let there:=(nth n.ports far).dev
 if p.dev == dev && decide (0≤far) then some ⟨nth roots there,nth costs there+p.cost,nth ranks there,far,i⟩ else none
def Kd (n:Net) (up:List Bool) (ranks roots costs:List Int) (dev:Int) (j:Nat):List Vec:=(List.range j).filterMap (Xf n up ranks roots costs dev)
theorem Af0 (n:Net) (up:List Bool) (ranks roots costs:List Int) (dev:Int) (j:Nat):Kd n up ranks roots costs dev (j+1)=Kd n up ranks roots costs dev j++(Xf n up ranks roots costs dev j).toList:=by
 rw[Kd,List.range_succ,List.filterMap_append]
 cases h:Xf n up ranks roots costs dev j<;>simp[Kd,h]
theorem S2 (n:Net) (up:List Bool) (ranks roots costs:List Int) (dev:Int) (j:Nat):(Kd n up ranks roots costs dev j).length≤j:=by
 have:=List.length_filterMap_le (Xf n up ranks roots costs dev) (List.range j)
 simpa [Kd] using this
def Oq (n:Net) (up:List Bool) (ranks roots costs:List Int) (dev:Int):Int :=
 let r:=Ks (Kd n up ranks roots costs dev n.ports.length)
 if !r.2 || nth roots dev == nth ranks dev then -1 else r.1.own
theorem bestS (n:Net) (up:List Bool) (ranks roots costs:List Int) (dev:Int) (hr:Af n=true) (hu:up.length=n.links.length) (hcost:C1 n=true) (hrk:ranks.length=n.devices.length) (hro:roots.length=n.devices.length) (hc:costs.length=n.devices.length)
  (hb:∀ c∈costs,0≤c∧c<1000000000) (hd:0≤dev∧dev<n.devices.length) :
  Sy.Spec Tryz.prog 224 [Lk n up ranks roots costs,Aa dev] [] (Aa (Oq n up ranks roots costs dev)) []:=Ab Γ hm 100 F224 Tryz.ntmps224 rfl fun F hF=>by
 have hf:=Dt hr
 conv=>whnf
 refine Cf 5 1000 5 Lh E E ?_
 refine A3 n.ports.length (fun j=>[(0,Lk n up ranks roots costs),(1,Aa dev),(5,.osl 1000),(16,.sl 7 A6 n.ports),(17,Aa n.ports.length),(18,Aa j)]) (fun j=>[(1000,.row 5 Lh (Kd n up ranks roots costs dev j))]) []
  ⟨⟨rfl,rfl,rfl,rfl,rfl,rfl,rfl,rfl,rfl,rfl,rfl,rfl,trivial⟩,⟨.inl rfl,rfl,trivial⟩,rfl,rfl⟩ ?_
 intro j hj
 refine rg ?_;conv=>whnf
 refine⟨fun h=>?_,fun h=>?_⟩
 ·have hlt:j<n.ports.length:=by simpa using h
  have e1:n.ports[(j:Int).toNat]'qn=n.ports[j]:=rfl
  have hfar:=farS n up ranks (.sl 1 Aa roots) (.sl 1 Aa costs) rfl j hr hu hlt
  have hfl:=W0 (up:=up) hr hlt
  have hsucc:=Af0 n up ranks roots costs dev j
  have hbl:=S2 n up ranks roots costs dev j
  have hcand:Xf n up ranks roots costs dev j=if n.ports[j].dev == dev && decide (0≤C0 n up j) then some ⟨nth roots (nth n.ports (C0 n up j)).dev,nth costs (nth n.ports (C0 n up j)).dev+n.ports[j].cost,nth ranks (nth n.ports (C0 n up j)).dev,C0 n up j,j⟩ else none:=by
   rw[Xf,A7 hlt]
  generalize C0 n up j=k at *
  have hpc:1≤n.ports[j].cost∧n.ports[j].cost≤65535:=by
   simp only[C1,Bool.not_eq_true',List.any_eq_false]at hcost
   have:=hcost _ (List.getElem_mem hlt)
   simp only[I8,Bool.or_eq_true,decide_eq_true_eq,not_or]at this
   omega
  obtain ⟨p,hp⟩:∃ p,n.ports[j]=p:=⟨_,rfl⟩
  rw[hp]at e1 hcand hpc
  refine rg ?_;conv=>whnf
  refine⟨E,by omega,by omega,?_⟩
  rw[e1]
  conv=>whnf
  refine Ag hfar F222 E E E E E ?_
  refine rg ?_;conv=>whnf
  refine⟨fun h=>?_,fun h=>?_⟩
  ·refine rg ?_;conv=>whnf
   refine⟨fun h2=>?_,fun h2=>?_⟩
   ·have hk0:0≤k:=of_decide_eq_true h2
    have hk1:=hfl hk0
    rw[if_pos (by simp only[Bool.and_eq_true,decide_eq_true_eq];exact⟨h,hk0⟩),Am (l:=n.ports) (i:=k) qn]at hcand
    have hpd:=Lr hr (i:=k.toNat) qn
    obtain ⟨q,hq⟩:∃ q,n.ports[k.toNat]'qn=q:=⟨_,rfl⟩
    rw[hq]at hcand hpd
    have hcb:=hb (costs[q.dev.toNat]'qn) (List.getElem_mem _)
    rw[Am (l:=roots) (i:=q.dev) qn,Am (l:=costs) (i:=q.dev) qn,Am (l:=ranks) (i:=q.dev) qn]at hcand
    refine rg ?_;conv=>whnf
    refine⟨E,hk0,by omega,?_⟩
    rw[hq]
    conv=>whnf
    refine⟨qq,?_⟩
    refine⟨by omega,by omega,?_⟩
    conv=>whnf
    refine⟨qq,?_⟩
    refine⟨by omega,by omega,?_⟩
    conv=>whnf
    refine⟨by unfold I64;omega,?_⟩
    conv=>whnf
    refine⟨qq,?_⟩
    refine⟨by omega,by omega,?_⟩
    conv=>whnf
    refine Bo (Al Γ.toTy 72 E E E E E (.row E) (.lit (l:=[(⟨roots[q.dev.toNat]'qn,costs[q.dev.toNat]'qn+p.cost,ranks[q.dev.toNat]'qn,k,j⟩:Vec)]) E E) qy (by simp;omega) (by simp;omega)) qq E ?_
    refine rd qq ?_;conv=>whnf
    refine⟨qq,?_⟩
    conv=>whnf
    refine⟨by unfold I64;omega,?_⟩
    conv=>whnf
    refine Av [(1000,72)] hlt ⟨⟨E,E,E,E,E,E,E,E,E,E,E,E,Y⟩,⟨.inl (congrArg (Ob.row 5 Lh) ?_),E,Y⟩,E,E⟩
    rw[hsucc,hcand]
    rfl
   ·have hk0:¬ 0≤k:=of_decide_eq_false h2
    rw[if_neg (by simp only[Bool.and_eq_true,decide_eq_true_eq];exact fun hh=>hk0 hh.2)]at hcand
    refine rg ?_;conv=>whnf
    refine⟨by unfold I64;omega,?_⟩
    conv=>whnf
    refine Av [] hlt ⟨⟨E,E,E,E,E,E,E,E,E,E,E,E,Y⟩,⟨.inl (congrArg (Ob.row 5 Lh) ?_),E,Y⟩,E,E⟩
    rw[hsucc,hcand]
    simp
  ·rw[if_neg (by rw[h];simp)]at hcand
   (refine rg ?_;(conv=>whnf);refine aF ?_;refine rg ?_;conv=>whnf)
   refine⟨by unfold I64;omega,?_⟩
   conv=>whnf
   refine Av [] hlt ⟨⟨E,E,E,E,E,E,E,E,E,E,E,E,Y⟩,⟨.inl (congrArg (Ob.row 5 Lh) ?_),E,Y⟩,E,E⟩
   rw[hsucc,hcand]
   simp
 ·have hjl:j=n.ports.length:=by
   have:¬ j<n.ports.length:=by simpa using h
   omega
  subst hjl
  have hbl:=S2 n up ranks roots costs dev n.ports.length
  have hbi:Oq n up ranks roots costs dev=if !(Ks (Kd n up ranks roots costs dev n.ports.length)).2 || nth roots dev == nth ranks dev then -1 else (Ks (Kd n up ranks roots costs dev n.ports.length)).1.own:=rfl
  rw[Am qn,Am qn]at hbi
  have hls:=leastS (Kd n up ranks roots costs dev n.ports.length) (by unfold An;omega)
  generalize Ks (Kd n up ranks roots costs dev n.ports.length)=r at hls hbi
  obtain ⟨v,ok⟩:=r
  simp only at hls hbi
  rw[hbi]
  refine rg ?_;conv=>whnf
  refine At 1000 E ?_
  refine Ag hls F289 E E E E E ?_
  refine rg ?_;conv=>whnf
  (repeat' (first | (refine⟨fun h=>?_,fun h=>?_⟩<;>(repeat (first | simp only[beq_iff_eq]at h | simp only[beq_eq_false_iff_ne]at h | simp only[Bool.not_eq_true']at h | simp only[Bool.not_eq_false']at h))<;>((first|refine rg ?_|refine rd qq ?_);(conv=>whnf))) | (refine Ac rfl (.cons .tmp .nil) ?_ rfl) | (refine⟨qq,?_⟩;((conv=>whnf);repeat((refine aT ?_);(refine rg ?_);(conv=>whnf)))) | (refine⟨by (omega),by (omega),?_⟩;((conv=>whnf)))))
  all_goals (refine congrArg Aa ?_;clear hF hls hbi;grind)
theorem best_lt {n:Net} {up:List Bool} {ranks roots costs:List Int} {dev:Int} (h:0≤Oq n up ranks roots costs dev):Oq n up ranks roots costs dev<n.ports.length:=by
 have hmem:=@leastR_mem (Kd n up ranks roots costs dev n.ports.length)
 unfold Oq at *
 simp only at *
 split at h
 ·omega
 ·rename_i hc
  rw[if_neg hc]
  simp only[Bool.or_eq_true,Bool.not_eq_true',not_or]at hc
  have h2:=hmem (by simpa using hc.1)
  obtain ⟨i,hi,he⟩:=List.mem_filterMap.1 h2
  have hi:=List.mem_range.1 hi
  unfold Xf at he
  simp only at he
  split at he
  ·have e:=congrArg Vec.own (Option.some.inj he)
   simp only at e
   omega
  ·cases he
def Agi (n:Net) (up:List Bool) (ranks costs:List Int) (i:Nat):Int :=
 if C0 n up i<0 then 0 else if Jq n ranks costs i (C0 n up i).toNat then 2 else 3
def Ha (n:Net) (up:List Bool) (ranks costs:List Int) (j:Nat):List Int:=(List.range n.ports.length).map fun i=>if i<j then Agi n up ranks costs i else 0
theorem Oa (n:Net) (up:List Bool) (ranks costs:List Int) (j:Nat):(Ha n up ranks costs j).length=n.ports.length:=by simp[Ha]
theorem Abj (n:Net) (up:List Bool) (ranks costs:List Int):Ha n up ranks costs 0=List.replicate n.ports.length 0:=by
 rw[Ha]
 exact List.ext_getElem qy qy
theorem Abk (n:Net) (up:List Bool) (ranks costs:List Int) (j:Nat) (hj:j<n.ports.length):Ha n up ranks costs (j+1)=(Ha n up ranks costs j).set j (Agi n up ranks costs j):=by
 refine List.ext_getElem (by simp[Ha]) (fun i h1 h2=>?_)
 rw[List.getElem_set]
 simp only[Ha,List.getElem_map,List.getElem_range]
 rcases Nat.lt_trichotomy i j with h | h | h
 ·rw[if_pos qn,if_neg qn,if_pos h]
 ·subst h;rw[if_pos qn,if_pos rfl]
 ·rw[if_neg qn,if_neg qn,if_neg qn]
theorem Abl (n:Net) (up:List Bool) (ranks costs:List Int) (j:Nat) (h:Agi n up ranks costs j=0):Ha n up ranks costs (j+1)=Ha n up ranks costs j:=by
 simp only[Ha]
 refine List.map_congr_left (fun i _=>?_)
 by_cases hij:i<j
 ·rw[if_pos qn,if_pos hij]
 ·by_cases he:i=j
  ·subst he;rw[if_pos qn,if_neg hij,h]
  ·rw[if_neg qn,if_neg hij]
def Jc (n:Net) (up:List Bool) (ranks roots costs:List Int):Nat→List Int
 | 0=>Ha n up ranks costs n.ports.length
 | d+1=>if 0≤Oq n up ranks roots costs d then (Jc n up ranks roots costs d).set (Oq n up ranks roots costs d).toNat 1 else Jc n up ranks roots costs d
theorem Hf (n:Net) (up:List Bool) (ranks roots costs:List Int):∀ d,(Jc n up ranks roots costs d).length=n.ports.length
 | 0=>Oa n up ranks costs _
 | d+1=>by
  rw[Jc]
  split
  ·rw[List.length_set,Hf]
  ·rw[Hf]
theorem rolesS (n:Net) (up:List Bool) (ranks roots costs:List Int) (hr:Af n=true) (hu:up.length=n.links.length) (hcost:C1 n=true) (hrk:ranks.length=n.devices.length) (hro:roots.length=n.devices.length) (hc:costs.length=n.devices.length)
  (hb:∀ c∈costs,0≤c∧c<1000000000) :
  Sy.Spec Tryz.prog 161 [Lk n up ranks roots costs] [] (.sl 1 Aa (Jc n up ranks roots costs n.devices.length)) []:=Ab Γ hm 100 F161 Tryz.ntmps161 rfl fun F hF=>by
 have hf:=Dt hr
 conv=>whnf
 refine Ah (Bl Γ.toTy (d:=14) (n:=n.ports.length) Aa 0 E E E E E E E E qn qn E E E) E E ?_
 rw[← Abj n up ranks costs]
 refine rg ?_;conv=>whnf
 refine A3 n.ports.length (fun j=>[(0,Lk n up ranks roots costs),(3,.osl 14),(20,Aa n.ports.length),(21,Aa j)]) (fun j=>[(14,.row 1 Aa (Ha n up ranks costs j))]) []
  ⟨⟨rfl,rfl,rfl,rfl,rfl,rfl,rfl,rfl,trivial⟩,⟨.inl rfl,rfl,trivial⟩,rfl,rfl⟩ ?_
 intro j hj
 refine rg ?_;conv=>whnf
 refine⟨fun h=>?_,fun h=>?_⟩
 ·have hlt:j<n.ports.length:=by simpa using h
  have hfar:=farS n up ranks (.sl 1 Aa roots) (.sl 1 Aa costs) rfl j hr hu hlt
  have hfl:=W0 (up:=up) hr hlt
  have hlen:=Oa n up ranks costs j
  have hrole:Agi n up ranks costs j=if C0 n up j<0 then 0 else if Jq n ranks costs j (C0 n up j).toNat then 2 else 3:=rfl
  have hsucc:=Abk n up ranks costs j hlt
  have hsame:=Abl n up ranks costs j
  generalize C0 n up j=k at *
  refine rg ?_;conv=>whnf
  refine Ag hfar F222 E E E E E ?_
  refine rg ?_;conv=>whnf
  refine⟨fun h=>?_,fun h=>?_⟩
  ·have hk:k<0:=of_decide_eq_true h
   rw[if_pos hk]at hrole
   refine rg ?_;conv=>whnf
   refine⟨by unfold I64;omega,?_⟩
   conv=>whnf
   exact Av [] hlt ⟨⟨E,E,E,E,E,E,E,E,Y⟩,⟨.inl (congrArg (Ob.row 1 Aa) (hsame hrole)),E,Y⟩,E,E⟩
  have hk:¬ k<0:=of_decide_eq_false h
  rw[if_neg hk]at hrole
  obtain ⟨m,rfl⟩:∃ m:Nat,k=m:=⟨k.toNat,by omega⟩
  have hah:=Aea n up ranks roots costs j m hr hrk hc hlt qn
  rw[Int.toNat_natCast]at hrole
  refine rg ?_;conv=>whnf
  refine Ag hah F223 E E E E E ?_
  refine rg ?_;conv=>whnf
  refine⟨fun h=>?_,fun h=>?_⟩
  ·rw[h,if_pos rfl]at hrole
   rw[hrole]at hsucc
   refine rg ?_;conv=>whnf
   refine⟨by omega,by omega,?_⟩
   conv=>whnf
   refine⟨E,by omega,2,E,E,?_⟩
   conv=>whnf
   refine⟨by unfold I64;omega,?_⟩
   conv=>whnf
   exact Av [] hlt ⟨⟨E,E,E,E,E,E,E,E,Y⟩,⟨.inl (congrArg (Ob.row 1 Aa) hsucc),E,Y⟩,E,E⟩
  ·rw[h]at hrole
   simp only[Bool.false_eq_true,if_false]at hrole
   rw[hrole]at hsucc
   refine rg ?_;conv=>whnf
   refine⟨by omega,by omega,?_⟩
   conv=>whnf
   refine⟨E,by omega,3,E,E,?_⟩
   conv=>whnf
   refine⟨by unfold I64;omega,?_⟩
   conv=>whnf
   exact Av [] hlt ⟨⟨E,E,E,E,E,E,E,E,Y⟩,⟨.inl (congrArg (Ob.row 1 Aa) hsucc),E,Y⟩,E,E⟩
 have hjl:j=n.ports.length:=by
  have:¬ j<n.ports.length:=by simpa using h
  omega
 subst hjl
 refine rg ?_;conv=>whnf
 refine A3 n.devices.length (fun d=>[(0,Lk n up ranks roots costs),(3,.osl 14),(47,Aa n.devices.length),(48,Aa d)]) (fun d=>[(14,.row 1 Aa (Jc n up ranks roots costs d))]) []
  ⟨⟨rfl,rfl,rfl,rfl,rfl,rfl,rfl,rfl,trivial⟩,⟨.inl rfl,rfl,trivial⟩,rfl,rfl⟩ ?_
 clear hj h
 intro d hdle
 refine rg ?_;conv=>whnf
 refine⟨fun h=>?_,fun h=>?_⟩
 ·have hlt:d<n.devices.length:=by simpa using h
  have hbs:=bestS n up ranks roots costs d hr hu hcost hrk hro hc hb qn
  have hbl:=@best_lt n up ranks roots costs d
  have hlen:=Hf n up ranks roots costs d
  have hsucc:Jc n up ranks roots costs (d+1)=if 0≤Oq n up ranks roots costs d then (Jc n up ranks roots costs d).set (Oq n up ranks roots costs d).toNat 1 else Jc n up ranks roots costs d:=rfl
  generalize Oq n up ranks roots costs d=k at *
  refine rg ?_;conv=>whnf
  refine Ag hbs F224 E E E E E ?_
  refine rg ?_;conv=>whnf
  refine⟨fun h=>?_,fun h=>?_⟩
  ·have hk:0≤k:=of_decide_eq_true h
   rw[if_pos hk]at hsucc
   refine rg ?_;conv=>whnf
   refine⟨hk,by omega,?_⟩
   conv=>whnf
   refine⟨E,by omega,1,E,E,?_⟩
   conv=>whnf
   refine⟨by unfold I64;omega,?_⟩
   conv=>whnf
   exact Av [] hlt ⟨⟨E,E,E,E,E,E,E,E,Y⟩,⟨.inl (congrArg (Ob.row 1 Aa) hsucc),E,Y⟩,E,E⟩
  ·have hk:¬ 0≤k:=of_decide_eq_false h
   rw[if_neg hk]at hsucc
   refine rg ?_;conv=>whnf
   refine⟨by unfold I64;omega,?_⟩
   conv=>whnf
   exact Av [] hlt ⟨⟨E,E,E,E,E,E,E,E,Y⟩,⟨.inl (congrArg (Ob.row 1 Aa) hsucc),E,Y⟩,E,E⟩
 have hdl:d=n.devices.length:=by
  have:¬ d<n.devices.length:=by simpa using h
  omega
 subst hdl
 refine rg ?_;conv=>whnf
 refine At 14 E ?_
 exact Ac E (.cons .tmp .nil) E E
def Yi (n:Net) (up:List Bool) (ranks:List Int) (roots costs:List Int):Obs:=[(0,.box (M8 n up ranks (.osl 1) (.osl 2))),(1,.row 1 Aa roots),(2,.row 1 Aa costs)]
theorem farR (n:Net) (up:List Bool) (ranks roots costs:List Int) (i:Nat) (hr:Af n=true) (hu:up.length=n.links.length) (hi:i<n.ports.length) :
  Sy.Spec Tryz.prog 222 [.ptr 0 0,Aa i] (Yi n up ranks roots costs) (Aa (C0 n up i)) (Yi n up ranks roots costs):=Ab Γ hm 100 F222 Tryz.ntmps222 rfl fun F hF=>by
 have hpl:=Ml hr hi
 have hf:=Dt hr
 have e1:n.ports[(i:Int).toNat]'qn=n.ports[i]:=rfl
 have hfar:C0 n up i=if n.ports[i].link<0 || !(up.getD n.ports[i].link.toNat false) then -1 else (nth n.links n.ports[i].link).a+(nth n.links n.ports[i].link).b-i:=by
  rw[C0,A7 hi]
 generalize hp:n.ports[i]=p at *
 have hle:=fun h=>J0 hr (i:=p.link.toNat) h
 conv=>whnf
 refine⟨E,by omega,by omega,?_⟩
 rw[e1]
 conv=>whnf
 (repeat' (first | (refine⟨fun h=>?_,fun h=>?_⟩<;>(repeat (first | simp only[decide_eq_true_eq]at h | simp only[decide_eq_false_iff_not]at h | simp only[Bool.not_eq_true']at h | simp only[Bool.not_eq_false']at h))<;>((first|refine rg ?_|refine rd qq ?_);(conv=>whnf))) | (refine⟨qq,?_⟩;((conv=>whnf);repeat((refine aT ?_);(refine rg ?_);(conv=>whnf)))) | (refine⟨by (first | omega | ((have hq:=hle qn;unfold I64;omega))),by (first | omega | ((have hq:=hle qn;unfold I64;omega))),?_⟩;((conv=>whnf))) | refine done rfl (.cons .tmp .nil) [] (Yi n up ranks roots costs) (fun _ h=>h) ?_ rfl ⟨trivial,⟨.inl rfl,rfl,.inl rfl,rfl,.inl rfl,rfl,trivial⟩,rfl,rfl⟩))
 all_goals (refine congrArg Aa ?_;rw[hfar])
 ·simp_all
 ·have h1:up.getD p.link.toNat false=false:=by rw[A7 qn];assumption
  rw[h1];simp
 ·have h1:up.getD p.link.toNat false=true:=by rw[A7 qn];assumption
  rw[h1,Am qn]
  simp_all
def Cv (n:Net) (up:List Bool) (x:Item) (q:List Item) (i:Nat):List Item :=
 if (n.ports.getD i default).dev=x.dev∧0≤C0 n up i then Od q ⟨x.root,x.cost+(nth n.ports (C0 n up i)).cost,(nth n.ports (C0 n up i)).dev⟩ else q
def Ko (n:Net) (up:List Bool) (s:List Item × List Int × List Int):List Item × List Int × List Int :=
 let x:=(Co s.1).getLast?.getD default
 let q:=(Co s.1).dropLast
 if 0≤nth s.2.1 x.dev then (q,s.2) else ((List.range n.ports.length).foldl (Cv n up x) q,s.2.1.set x.dev.toNat x.root,s.2.2.set x.dev.toNat x.cost)
def Eb (n:Net) (up:List Bool):Nat→List Item × List Int × List Int→List Item × List Int × List Int
 | 0,s=>s
 | f+1,s=>if s.1=[] then s else Eb n up f (Ko n up s)
end Go.Sy.YteinjapglfkamaaGreat
namespace Go.Sy.YteinjapglfkamaaGreat
theorem Oz (q:List Item) (i j:Nat) (hi:i<q.length) (hj:j<q.length):(Df q i j).Perm q:=by
 rw[Df,A7 hi,A7 hj]
 exact List.set_set_perm hi hj
theorem Aa4:∀ (f:Nat) (q:List Item) (j:Nat),j<q.length→(upF f q j).Perm q
 | 0,_,_,_=>.refl _
 | f+1,q,j,hj=>by
  rw[upF]
  split
  ·exact .refl _
  ·split
   ·exact(Aa4 f _ _ (by rw[Ay];omega)).trans (Oz q _ _ qn hj)
   ·exact .refl _
theorem W5:∀ (f:Nat) (q:List Item) (i n:Nat),i<q.length→n≤q.length→(Dc f q i n).1.Perm q
 | 0,_,_,_,_,_=>.refl _
 | f+1,q,i,n,hi,hn=>by
  rw[Dc]
  split
  ·rename_i h
   have hc:=Kc q i n h
   split
   ·exact(W5 f _ _ n (by rw[Ay];omega) (by rw[Ay];exact hn)).trans (Oz q _ _ hi qn)
   ·exact .refl _
  ·exact .refl _
theorem Kq (q:List Item) (x:Item):(Od q x).Perm (x::q) :=
 (Aa4 _ _ _ qy).trans (List.perm_append_comm (l₁:=q) (l₂:=[x]))
theorem H3 (q:List Item) (x:Item):(Od q x).length=q.length+1:=by rw[Od,Vj];simp
theorem Mm (q:List Item) (hq:q≠[]):(Co q).Perm q:=by
 have h0:0<q.length:=List.length_pos_iff.2 hq
 exact(W5 _ _ _ _ (by rw[Ay];exact h0) (by rw[Ay];omega)).trans (Oz q _ _ h0 qn)
def Ix (q:List Item) (n:Nat):Prop:=∀ c,0<c→c<n→c<q.length→Bt (q.getD c default) (q.getD ((c-1) / 2) default)=false
theorem Ku {x y z:Item} (h1:Bt y x=false) (h2:Bt z y=false):Bt z x=false:=by
 unfold Bt at *
 grind
theorem Afg {q:List Item} {n:Nat} (h:Ix q n) (hn:n≤q.length):∀ c,c<n→Bt (q.getD c default) (q.getD 0 default)=false:=by
 intro c
 induction c using Nat.strongRecOn with
 | ind c ih =>
  intro hc
  rcases Nat.eq_zero_or_pos c with h0 | h0
  ·subst h0;unfold Bt;grind
  ·have h1:=h c h0 hc qn
   have h2:=ih ((c-1) / 2) qn qn
   exact Ku h2 h1
theorem Do (q:List Item) (i j c:Nat) (hi:i<q.length) (hj:j<q.length):(Df q i j).getD c default=if c=j then q.getD i default else if c=i then q.getD j default else q.getD c default:=by
 rw[Df]
 simp only[List.getD_eq_getElem?_getD,List.getElem?_set,List.length_set]
 by_cases h1:c=j
 ·subst h1;simp[hj]
 ·rw[if_neg (Ne.symm h1),if_neg h1]
  by_cases h2:c=i
  ·subst h2;simp[hi]
  ·rw[if_neg (Ne.symm h2),if_neg h2]
theorem Kv {x y:Item} (h:Bt x y=true):Bt y x=false:=by
 unfold Bt at *
 grind
structure UpInv (q:List Item) (j n:Nat):Prop where
 heap:∀ c,0<c→c<n→c≠j→Bt (q.getD c default) (q.getD ((c-1) / 2) default)=false
 over:∀ c,0<c→c<n→(c-1) / 2=j→0<j→Bt (q.getD c default) (q.getD ((j-1) / 2) default)=false
theorem Aa5 (n:Nat):∀ (f:Nat) (q:List Item) (j:Nat),j≤f→j<n→n≤q.length→UpInv q j n→Ix (upF f q j) n
 | 0,q,j,hf,hj,hn,hI=>by
  have:j=0:=by omega
  subst this
  exact fun c h0 hc _=>hI.heap c h0 hc qn
 | f+1,q,j,hf,hj,hn,hI=>by
  rw[upF]
  split
  ·rename_i h0
   subst h0
   exact fun c h0 hc _=>hI.heap c h0 hc qn
  ·rename_i h0
   split
   ·rename_i hlt
    have hp:(j-1) / 2<j:=by omega
    refine Aa5 n f _ _ qn qn (by rw[Ay];exact hn) ⟨fun c hc0 hcn hcp=>?_,fun c hc0 hcn hpar hp0=>?_⟩
    ·rw[Do _ _ _ _ qn qn,Do _ _ _ _ qn qn]
     by_cases hcj:c=j
     ·subst hcj
      rw[if_pos rfl,if_neg qn,if_pos rfl]
      exact Kv hlt
     ·rw[if_neg hcj,if_neg hcp]
      by_cases hpj:(c-1) / 2=j
      ·rw[if_pos hpj]
       exact hI.over c hc0 hcn hpj qn
      ·rw[if_neg hpj]
       by_cases hpp:(c-1) / 2=(j-1) / 2
       ·rw[if_pos hpp]
        have:=hI.heap c hc0 hcn hcj
        rw[hpp]at this
        exact Ku (Kv hlt) this
       ·rw[if_neg hpp]
        exact hI.heap c hc0 hcn hcj
    ·rw[Do _ _ _ _ qn qn,Do _ _ _ _ qn qn]
     have hpI:=hI.heap ((j-1) / 2) hp0 qn qn
     rw[if_neg (show ((j-1) / 2-1) / 2≠j by omega),if_neg (show ((j-1) / 2-1) / 2≠(j-1) / 2 by omega)]
     by_cases hcj:c=j
     ·rw[if_pos hcj];exact hpI
     ·rw[if_neg hcj,if_neg qn]
      have:=hI.heap c hc0 hcn hcj
      rw[hpar]at this
      exact Ku hpI this
   ·rename_i hlt
    intro c hc0 hcn _
    by_cases hcj:c=j
    ·subst hcj;simpa using hlt
    ·exact hI.heap c hc0 hcn hcj
theorem J5 {q r:List Item} {c:Nat} (h:c<q.length):(q++r).getD c default=q.getD c default:=by
 simp[List.getD_eq_getElem?_getD,List.getElem?_append_left h]
theorem V7 (q:List Item) (x:Item) (h:Ix q q.length):Ix (Od q x) (Od q x).length:=by
 rw[H3]
 refine Aa5 (q.length+1) _ _ _ (Nat.le_refl _) qn qy ⟨fun c hc0 hcn hcj=>?_,fun c hc0 hcn hpar hp0=>by omega⟩
 rw[J5 qn,J5 qn]
 exact h c hc0 qn qn
structure DownInv (q:List Item) (i n:Nat):Prop where
 heap:∀ c,0<c→c<n→(c-1) / 2≠i→Bt (q.getD c default) (q.getD ((c-1) / 2) default)=false
 over:∀ c,0<c→c<n→(c-1) / 2=i→0<i→Bt (q.getD c default) (q.getD ((i-1) / 2) default)=false
theorem Ajd (q:List Item) (i n c:Nat) (_h:2 * i+1<n) (hc0:0<c) (hc:c<n) (hp:(c-1) / 2=i):Bt (q.getD c default) (q.getD (Db q i n) default)=false:=by
 have hcc:c=2 * i+1∨c=2 * i+2:=by omega
 unfold Db
 split
 ·rename_i hh
  rcases hcc with rfl | rfl
  ·exact Kv hh.2
  ·unfold Bt;grind
 ·rename_i hh
  rcases hcc with rfl | rfl
  ·unfold Bt;grind
  ·cases hlt:Bt (q.getD (2 * i+2) default) (q.getD (2 * i+1) default) with
   | false=>rfl
   | true=>exact absurd ⟨hc,hlt⟩ hh
theorem W6 (n:Nat):∀ (f:Nat) (q:List Item) (i:Nat),n≤f+i→i<q.length→n≤q.length→DownInv q i n→Ix (Dc f q i n).1 n
 | 0,q,i,hf,hi,hn,hI=>fun c hc0 hc _=>hI.heap c hc0 hc qn
 | f+1,q,i,hf,hi,hn,hI=>by
  rw[Dc]
  split
  ·rename_i h
   have hcl:=Kc q i n h
   have hpar:(Db q i n-1) / 2=i:=by unfold Db;split<;>omega
   have hle:=fun c=>Ajd q i n c h
   generalize Db q i n=k at *
   split
   ·rename_i hlt
    refine W6 n f _ _ qn (by rw[Ay];omega) (by rw[Ay];exact hn) ⟨fun c hc0 hcn hck=>?_,fun c hc0 hcn hcp hk0=>?_⟩
    ·rw[Do _ _ _ _ hi qn,Do _ _ _ _ hi qn,if_neg hck]
     by_cases hc1:c=k
     ·subst hc1
      rw[if_pos rfl,if_pos hpar]
      exact Kv hlt
     ·rw[if_neg hc1]
      by_cases hc2:c=i
      ·subst hc2
       rw[if_pos rfl,if_neg qn]
       exact hI.over k qn hcl.1 hpar hc0
      ·rw[if_neg hc2]
       by_cases hc3:(c-1) / 2=i
       ·rw[if_pos hc3];exact hle c hc0 hcn hc3
       ·rw[if_neg hc3];exact hI.heap c hc0 hcn hc3
    ·rw[Do _ _ _ _ hi qn,Do _ _ _ _ hi qn]
     rw[if_neg qn,if_neg qn,hpar,if_neg qn,if_pos rfl]
     have:=hI.heap c hc0 hcn qn
     rwa [hcp]at this
   ·rename_i hlt
    intro c hc0 hcn _
    by_cases hc3:(c-1) / 2=i
    ·rw[hc3]
     exact Ku (by simpa using hlt) (hle c hc0 hcn hc3)
    ·exact hI.heap c hc0 hcn hc3
  ·exact fun c hc0 hc _=>hI.heap c hc0 hc qn
theorem W4 (n:Nat):∀ (f:Nat) (q:List Item) (i c:Nat),i<n→n≤q.length→n≤c→(Dc f q i n).1.getD c default=q.getD c default
 | 0,_,_,_,_,_,_=>rfl
 | f+1,q,i,c,hi,hn,hc=>by
  rw[Dc]
  split
  ·rename_i h
   have hcl:=Kc q i n h
   split
   ·rw[W4 n f _ _ c qn (by rw[Ay];exact hn) hc,Do _ _ _ _ qn qn,if_neg qn,if_neg qn]
   ·rfl
  ·rfl
theorem Aby (q:List Item) (hq:q≠[]):(Co q).getLast (De hq)=q.getD 0 default:=by
 have h0:0<q.length:=List.length_pos_iff.2 hq
 rw[List.getLast_eq_getElem,← A7 (show (Co q).length-1<(Co q).length by rw[Dh];omega),Dh]
 by_cases h1:q.length=1
 ·have:Co q=q:=by
   obtain ⟨x,rfl⟩:=List.length_eq_one_iff.1 h1
   rfl
  rw[this,h1]
 ·rw[Co,W4 _ _ _ _ _ qn (by rw[Ay];omega) (Nat.le_refl _),Do _ _ _ _ h0 qn,if_pos rfl]
theorem Ah8 (q:List Item) (hq:q≠[]):(Co q).dropLast++[q.getD 0 default]=Co q:=by
 rw[← Aby q hq];exact List.dropLast_concat_getLast (De hq)
theorem Aku (q:List Item) (hq:q≠[]):(q.getD 0 default::(Co q).dropLast).Perm q :=
 ((List.perm_append_comm (l₁:=[q.getD 0 default]) (l₂:=(Co q).dropLast)).trans (by rw[Ah8 q hq])).trans (Mm q hq)
theorem Akv (q:List Item) (hq:q≠[]) (h:Ix q q.length):Ix (Co q).dropLast (Co q).dropLast.length:=by
 have h0:0<q.length:=List.length_pos_iff.2 hq
 have hd:(Co q).dropLast.length=q.length-1:=by rw[List.length_dropLast,Dh]
 have hh:Ix (Co q) (q.length-1):=by
  rw[Co]
  refine W6 (q.length-1) _ _ _ qn (by rw[Ay];exact h0) (by rw[Ay];omega) ⟨fun c hc0 hcn hp=>?_,fun c hc0 hcn hp h=>by omega⟩
  rw[Do _ _ _ _ h0 qn,Do _ _ _ _ h0 qn,if_neg qn,if_neg qn,if_neg qn,if_neg hp]
  exact h c hc0 qn qn
 intro c hc0 hcn _
 rw[hd]at hcn
 have hl:=Dh q
 have e:∀ k,k<q.length-1→(Co q).dropLast.getD k default=(Co q).getD k default:=fun k hk=>by
  rw[A7 (show k<(Co q).dropLast.length by omega),A7 (show k<(Co q).length by omega),List.getElem_dropLast]
 rw[e c hcn,e _ qn]
 exact hh c hc0 hcn qn
theorem Ah9 (q:List Item) (h:Ix q q.length):∀ x∈q,Bt x (q.getD 0 default)=false:=fun x hx=>by
 obtain ⟨c,hc,rfl⟩:=List.getElem_of_mem hx
 have:=Afg h (Nat.le_refl _) c hc
 rwa [A7 hc]at this
def Dj (ranks:List Int) (j:Nat):List Item:=(List.range j).foldl (fun q (i:Nat)=>Od q ⟨ranks.getD i 0,0,i⟩) []
theorem Hk (ranks:List Int) (j:Nat):Dj ranks (j+1)=Od (Dj ranks j) ⟨ranks.getD j 0,0,j⟩:=by
 rw[Dj,List.range_succ,List.foldl_append];rfl
theorem Jb (ranks:List Int):∀ j,(Dj ranks j).length=j
 | 0=>rfl
 | j+1=>by rw[Hk,H3,Jb ranks j]
def Q5 (roots:List Int):Nat:=roots.countP (fun r=>decide (r<0))
def reachM (s:List Item × List Int × List Int):Nat:=41 * Q5 s.2.1+s.1.length
structure ReachInv (n:Net) (s:List Item × List Int × List Int):Prop where
 rootsL:s.2.1.length=n.devices.length
 costsL:s.2.2.length=n.devices.length
 items:∀ x∈s.1,0≤x.dev∧x.dev<n.devices.length∧0≤x.root∧0≤x.cost∧x.cost+65535 * Q5 s.2.1≤65535 * n.devices.length
 few:s.1.length+40 * Q5 s.2.1≤1000
theorem Ala (roots:List Int):Q5 roots≤roots.length:=List.countP_le_length
theorem Aig {roots:List Int} {i:Nat} {v:Int} (h:i<roots.length) (h0:roots[i]<0) (hv:0≤v):Q5 (roots.set i v)+1=Q5 roots:=by
 have h1:0<roots.countP (fun r=>decide (r<0)):=List.countP_pos_iff.2 ⟨roots[i],List.getElem_mem h,by simpa using h0⟩
 have hv':¬ v<0:=by omega
 rw[Q5,Q5,List.countP_set h]
 simp only[h0,hv',decide_true,decide_false,if_true,Bool.false_eq_true,if_false]
 omega
theorem Zq (n:Net) (up:List Bool) (x:Item) (hr:Af n=true) (hcost:C1 n=true) {m:Nat} (hx:0≤x.root∧0≤x.cost∧x.cost+65535 * (m+1)≤65535 * n.devices.length) (q:List Item)
  (hq:∀ y∈q,0≤y.dev∧y.dev<n.devices.length∧0≤y.root∧0≤y.cost∧y.cost+65535 * m≤65535 * n.devices.length) (i:Nat) (hi:i<n.ports.length) :
  (∀ y∈Cv n up x q i,0≤y.dev∧y.dev<n.devices.length∧0≤y.root∧0≤y.cost∧y.cost+65535 * m≤65535 * n.devices.length)∧(Cv n up x q i).length≤q.length+1:=by
 rw[Cv]
 split
 ·rename_i h
  have hlt:=W0 hr hi h.2
  have hk:(C0 n up i).toNat<n.ports.length:=by omega
  have hd:=Lr hr hk
  have hpc:1≤n.ports[(C0 n up i).toNat].cost∧n.ports[(C0 n up i).toNat].cost≤65535:=by
   simp only[C1,Bool.not_eq_true',List.any_eq_false]at hcost
   have:=hcost _ (List.getElem_mem hk)
   simp only[I8,Bool.or_eq_true,decide_eq_true_eq,not_or]at this
   omega
  have e:nth n.ports (C0 n up i)=n.ports[(C0 n up i).toNat]:=Am (l:=n.ports) (i:=C0 n up i) qn
  rw[e]
  refine⟨fun y hy=>?_,by rw[H3];omega⟩
  rcases List.mem_cons.1 ((Kq q _).mem_iff.1 hy) with rfl | hy
  ·simp only
   omega
  ·exact hq y hy
 ·exact⟨hq,by omega⟩
theorem V4 (n:Net) (up:List Bool) (x:Item) (hr:Af n=true) (hcost:C1 n=true) {m:Nat} (hx:0≤x.root∧0≤x.cost∧x.cost+65535 * (m+1)≤65535 * n.devices.length) (q:List Item)
  (hq:∀ y∈q,0≤y.dev∧y.dev<n.devices.length∧0≤y.root∧0≤y.cost∧y.cost+65535 * m≤65535 * n.devices.length):∀ i,i≤n.ports.length →
  (∀ y∈(List.range i).foldl (Cv n up x) q,0≤y.dev∧y.dev<n.devices.length∧0≤y.root∧0≤y.cost∧y.cost+65535 * m≤65535 * n.devices.length)∧((List.range i).foldl (Cv n up x) q).length≤q.length+i
 | 0,_=>⟨hq,by simp⟩
 | i+1,hi=>by
  obtain ⟨h1,h2⟩:=V4 n up x hr hcost hx q hq i qn
  rw[List.range_succ,List.foldl_append]
  obtain ⟨h3,h4⟩:=Zq n up x hr hcost hx _ h1 i qn
  exact⟨h3,by simp only[List.foldl_cons,List.foldl_nil];omega⟩
theorem Wf {q:List Item} (hq:q≠[]):(Co q).getLast?.getD default=(Co q).getLast (De hq):=by
 rw[List.getLast?_eq_some_getLast (De hq)];rfl
theorem Ih (n:Net) (up:List Bool) (hr:Af n=true) (hcost:C1 n=true) (s:List Item × List Int × List Int) (hI:ReachInv n s) (hne:s.1≠[]):ReachInv n (Ko n up s)∧reachM (Ko n up s)<reachM s:=by
 have hf:=Dt hr
 have hx:=hI.items _ ((Mm s.1 hne).mem_iff.1 (List.getLast_mem (De hne)))
 have hd:∀ y∈(Co s.1).dropLast,y∈s.1:=fun y hy=>(Mm s.1 hne).mem_iff.1 ((List.dropLast_sublist _).subset hy)
 have h0:0<s.1.length:=List.length_pos_iff.2 hne
 have hdl:(Co s.1).dropLast.length+1=s.1.length:=by rw[List.length_dropLast,Dh];omega
 have hfew:=hI.few
 rw[Ko,Wf hne]
 generalize (Co s.1).getLast (De hne)=x at *
 split
 ·exact⟨⟨hI.rootsL,hI.costsL,fun y hy=>hI.items y (hd y hy),by simp only;omega⟩,by unfold reachM;simp only;omega⟩
 ·rename_i hneg
  have hk:x.dev.toNat<s.2.1.length:=by rw[hI.rootsL];omega
  rw[Am (l:=s.2.1) (i:=x.dev) (by rw[hI.rootsL];omega)]at hneg
  have hm:=Aig hk qn hx.2.2.1
  obtain ⟨h1,h2⟩:=V4 n up x hr hcost (m:=Q5 (s.2.1.set x.dev.toNat x.root)) ⟨hx.2.2.1,hx.2.2.2.1,by have:=hx.2.2.2.2;omega⟩ (Co s.1).dropLast (fun y hy=>by have:=hI.items y (hd y hy);omega) n.ports.length (Nat.le_refl _)
  exact⟨⟨by simp only[List.length_set];exact hI.rootsL,by simp only[List.length_set];exact hI.costsL,h1,by simp only;omega⟩,by unfold reachM;simp only;omega⟩
theorem T8 (n:Net) (up:List Bool) (hr:Af n=true) (hcost:C1 n=true):∀ (f g:Nat) (s:List Item × List Int × List Int),ReachInv n s→reachM s≤f→reachM s≤g→Eb n up f s=Eb n up g s
 | 0,0,_,_,_,_=>rfl
 | 0,g+1,s,_,h,_=>by
  have:s.1=[]:=List.eq_nil_of_length_eq_zero (by unfold reachM at h;omega)
  rw[Eb,Eb,if_pos this]
 | f+1,0,s,_,_,h=>by
  have:s.1=[]:=List.eq_nil_of_length_eq_zero (by unfold reachM at h;omega)
  rw[Eb,Eb,if_pos this]
 | f+1,g+1,s,hI,h1,h2=>by
  rw[Eb,Eb]
  split
  ·rfl
  ·rename_i hne
   obtain ⟨h3,h4⟩:=Ih n up hr hcost s hI hne
   exact T8 n up hr hcost f g _ h3 qn qn
def Hu (n:Net) (up:List Bool) (s:List Item × List Int × List Int):List Item × List Int × List Int:=Eb n up (reachM s) s
theorem Aen (n:Net) (up:List Bool) (s:List Item × List Int × List Int) (h:s.1=[]):Hu n up s=s:=by
 rw[Hu]
 cases reachM s with
 | zero=>rfl
 | succ m=>rw[Eb,if_pos h]
theorem Abv (n:Net) (up:List Bool) (hr:Af n=true) (hcost:C1 n=true) (s:List Item × List Int × List Int) (hI:ReachInv n s) (hne:s.1≠[]):Hu n up s=Hu n up (Ko n up s):=by
 obtain ⟨h3,h4⟩:=Ih n up hr hcost s hI hne
 rw[Hu,Hu]
 obtain ⟨m,hm⟩:∃ m,reachM s=m+1:=⟨reachM s-1,by omega⟩
 rw[hm,Eb,if_neg hne]
 exact T8 n up hr hcost _ _ _ h3 qn (Nat.le_refl _)
theorem T4 (ranks:List Int) (m:Nat) (hrr:∀ r∈ranks,0≤r):∀ j,j≤ranks.length→∀ y∈Dj ranks j,0≤y.dev∧y.dev<m+ranks.length∧0≤y.root∧y.cost=0
 | 0,_,y,hy=>by simp[Dj]at hy
 | j+1,hj,y,hy=>by
  rw[Hk]at hy
  rcases List.mem_cons.1 ((Kq _ _).mem_iff.1 hy) with rfl | hy
  ·have h1:=hrr (ranks[j]'qn) (List.getElem_mem _)
   have h2:(0:Int)≤(j:Int)∧(j:Int)<m+ranks.length:=by omega
   exact⟨h2.1,h2.2,by rw[A7 (show j<ranks.length by omega)];exact h1,E⟩
  ·exact T4 ranks m hrr j qn y hy
theorem Yh (n:Net) (ranks roots costs:List Int) (hr:Af n=true) (hrk:ranks.length=n.devices.length) (hro:roots.length=n.devices.length) (hc:costs.length=n.devices.length) (hrr:∀ r∈ranks,0≤r):ReachInv n (Dj ranks ranks.length,roots,costs):=by
 have hf:=Dt hr
 have hm:=Ala roots
 refine⟨hro,hc,fun y hy=>?_,by simp only[Jb];omega⟩
 have:=T4 ranks 0 hrr _ (Nat.le_refl _) y hy
 simp only
 omega
def Le2 (r c r' c':Int):Prop:=r<r'∨(r=r'∧c≤c')
theorem Aio {x y:Item} (h:Bt y x=false):Le2 x.root x.cost y.root y.cost:=by
 simp only[Bt,Bool.or_eq_false_iff,decide_eq_false_iff_not,Bool.and_eq_false_iff,beq_eq_false_iff_ne]at h
 unfold Le2
 omega
theorem Ain {a b c d e f:Int} (h1:Le2 a b c d) (h2:Le2 c d e f):Le2 a b e f:=by
 unfold Le2 at *
 omega
theorem Acn {a b c d m:Int} (h1:Le2 a b c d) (hm:0≤m):Le2 a b c (d+m):=by
 unfold Le2 at *
 omega
def Yb (n:Net) (up:List Bool) (i j:Nat):Prop:=i<n.ports.length∧C0 n up i=j
theorem L3 {n:Net} {up:List Bool} (hr:Af n=true) {i j:Nat} (h:Yb n up i j):j<n.ports.length:=by
 have:=W0 (up:=up) hr h.1 (by rw[h.2];omega)
 rw[h.2]at this
 omega
theorem Yw {n:Net} {up:List Bool} (hr:Af n=true) {i j:Nat} (h:Yb n up i j) :
  ∃ k:Nat,k<n.links.length∧(nth n.ports i).link=k∧(nth n.ports j).link=k∧up.getD k false=true∧(((nth n.links k).a=i∧(nth n.links k).b=j)∨((nth n.links k).a=j∧(nth n.links k).b=i))∧D0 n i≠D0 n j:=by
 have hj:=L3 hr h
 obtain ⟨hi,hf⟩:=h
 have hp:=Km hr hi
 have hpl:=Ml hr hi
 simp only[Ef,Bool.and_eq_true,Bool.or_eq_true,beq_iff_eq]at hp
 have hp:=hp.2
 have e:nth n.ports i=n.ports[i]:=Am (l:=n.ports) (i:=(i:Int)) (by simpa using hi)
 unfold C0 at hf
 rw[A7 hi]at hf
 simp only at hf
 split at hf
 ·omega
 ·rename_i hc
  simp only[Bool.or_eq_true,decide_eq_true_eq,not_or,Bool.not_eq_true',Bool.not_eq_false]at hc
  rcases hp with hp | hp
  ·omega
  ·have hl:n.ports[i].link.toNat<n.links.length:=by omega
   have hlk:=V0 hr hl
   have he:=J0 hr hl
   have ek:((n.ports[i].link.toNat:Nat):Int)=n.ports[i].link:=by omega
   refine⟨n.ports[i].link.toNat,hl,by rw[e];omega,?_⟩
   simp only[J1,Bool.and_eq_true,beq_iff_eq,bne_iff_ne]at hlk
   obtain ⟨⟨⟨_,hne⟩,h1⟩,h2⟩:=hlk
   rw[ek]
   rw[Am (l:=n.links) (i:=n.ports[i].link) qn]at hf hp ⊢
   generalize n.links[n.ports[i].link.toNat]=l at *
   rcases hp.2 with ha | hb
   ·have hb:l.b=j:=by omega
    rw[ha,hb]at hne
    rw[hb]at h2
    exact⟨by omega,by simpa using hc.2,.inl ⟨ha,hb⟩,hne⟩
   ·have ha:l.a=j:=by omega
    rw[ha,hb]at hne
    rw[ha]at h1
    exact⟨by omega,by simpa using hc.2,.inr ⟨ha,hb⟩,fun h=>hne h.symm⟩
theorem Acx {n:Net} {up:List Bool} (hr:Af n=true) {i j:Nat} (h:Yb n up i j):Yb n up j i:=by
 have hj:=L3 hr h
 obtain ⟨k,hk,_,h2,h3,h4,_⟩:=Yw hr h
 refine⟨hj,?_⟩
 unfold C0
 have e:n.ports.getD j default=nth n.ports j:=rfl
 rw[e]
 simp only[h2,Int.toNat_natCast,h3]
 rw[if_neg qy]
 omega
theorem Mn {n:Net} (hr:Af n=true) {i:Nat} (hi:i<n.ports.length):0≤D0 n i∧D0 n i<n.devices.length:=by
 rw[D0,Am (l:=n.ports) (i:=(i:Int)) (by simpa using hi)]
 exact Lr hr hi
def Der (n:Net) (up:List Bool) (K R C:Int→Int) (r c d:Int):Prop :=
 (r=K d∧c=0)∨∃ i j:Nat,Yb n up i j∧D0 n i=d∧0≤R (D0 n j)∧r=R (D0 n j)∧c=C (D0 n j)+Q1 n i
structure Dij (n:Net) (up:List Bool) (K:Int→Int) (q:List Item) (R C:Int→Int):Prop where
 heap:Ix q q.length
 items:∀ x∈q,Der n up K R C x.root x.cost x.dev
 done:∀ d:Int,0≤d→d<n.devices.length→0≤R d→Der n up K R C (R d) (C d) d
 own:∀ d:Int,0≤d→d<n.devices.length→R d<0→⟨K d,0,d⟩∈q
 push:∀ i j:Nat,Yb n up i j→R (D0 n i)<0→0≤R (D0 n j)→⟨R (D0 n j),C (D0 n j)+Q1 n i,D0 n i⟩∈q
 low:∀ d:Int,0≤d→d<n.devices.length→0≤R d→∀ x∈q,Le2 (R d) (C d) x.root x.cost
 self:∀ d:Int,0≤d→d<n.devices.length→0≤R d→Le2 (R d) (C d) (K d) 0
 tri:∀ i j:Nat,Yb n up i j→0≤R (D0 n i)→0≤R (D0 n j)→Le2 (R (D0 n i)) (C (D0 n i)) (R (D0 n j)) (C (D0 n j)+Q1 n i)
theorem V2 (n:Net) (up:List Bool) (x:Item) (q:List Item) (y:Item):∀ m,y∈(List.range m).foldl (Cv n up x) q↔y∈q∨∃ i,i<m∧D0 n i=x.dev∧0≤C0 n up i∧y=⟨x.root,x.cost+(nth n.ports (C0 n up i)).cost,(nth n.ports (C0 n up i)).dev⟩
 | 0=>by simp
 | m+1=>by
  rw[List.range_succ,List.foldl_append]
  simp only[List.foldl_cons,List.foldl_nil]
  rw[Cv]
  have ih:=V2 n up x q y m
  have e:(n.ports.getD m default).dev=D0 n m:=rfl
  rw[e]
  split
  ·rename_i h
   rw[(Kq _ _).mem_iff,List.mem_cons,ih]
   constructor
   ·rintro (h1 | h1 | ⟨i,h1,h2⟩)
    ·exact .inr ⟨m,by omega,h.1,h.2,h1⟩
    ·exact .inl h1
    ·exact .inr ⟨i,by omega,h2⟩
   ·rintro (h1 | ⟨i,h1,h2,h3,h4⟩)
    ·exact .inr (.inl h1)
    ·by_cases hm:i=m
     ·subst hm;exact .inl h4
     ·exact .inr (.inr ⟨i,by omega,h2,h3,h4⟩)
  ·rename_i h
   rw[ih]
   constructor
   ·rintro (h1 | ⟨i,h1,h2⟩)
    ·exact .inl h1
    ·exact .inr ⟨i,by omega,h2⟩
   ·rintro (h1 | ⟨i,h1,h2,h3,h4⟩)
    ·exact .inl h1
    ·by_cases hm:i=m
     ·subst hm;exact absurd ⟨h2,h3⟩ h
     ·exact .inr ⟨i,by omega,h2,h3,h4⟩
theorem T7 (n:Net) (up:List Bool) (x:Item) (q:List Item) (h:Ix q q.length):∀ m,Ix ((List.range m).foldl (Cv n up x) q) ((List.range m).foldl (Cv n up x) q).length
 | 0=>h
 | m+1=>by
  rw[List.range_succ,List.foldl_append]
  simp only[List.foldl_cons,List.foldl_nil]
  have ih:=T7 n up x q h m
  rw[Cv]
  split
  ·exact V7 _ _ ih
  ·exact ih
theorem W8 {n:Net} {up:List Bool} {K R C R' C':Int→Int} {r c d:Int} (h:Der n up K R C r c d) (hs:∀ e,0≤R e→R' e=R e∧C' e=C e):Der n up K R' C' r c d:=by
 rcases h with h | ⟨i,j,h1,h2,h3,h4,h5⟩
 ·exact .inl h
 ·obtain ⟨e1,e2⟩:=hs _ h3
  exact .inr ⟨i,j,h1,h2,by rw[e1];exact h3,by rw[e1];exact h4,by rw[e2];exact h5⟩
theorem Al7 {n:Net} {up:List Bool} {K R C:Int→Int} {q q':List Item} {x:Item} (h:Dij n up K q R C) (hp:(x::q').Perm q) (hh:Ix q' q'.length) (hx:0≤R x.dev):Dij n up K q' R C:=by
 have hm:∀ y,y∈q↔y=x∨y∈q':=fun y=>by rw[← hp.mem_iff,List.mem_cons]
 refine⟨hh,fun y hy=>h.items y ((hm y).2 (.inr hy)),h.done,fun d h0 h1 h2=>?_,fun i j hij h1 h2=>?_,fun d h0 h1 h2 y hy=>h.low d h0 h1 h2 y ((hm y).2 (.inr hy)),h.self,h.tri⟩
 ·rcases (hm _).1 (h.own d h0 h1 h2) with e | e
  ·rw[← e]at hx;simp only at hx;omega
  ·exact e
 ·rcases (hm _).1 (h.push i j hij h1 h2) with e | e
  ·rw[← e]at hx;simp only at hx;omega
  ·exact e
theorem Al6 {n:Net} {up:List Bool} {K R C R' C':Int→Int} {q q':List Item} {x:Item} (hr:Af n=true) (hcost:C1 n=true) (h:Dij n up K q R C) (hp:(x::q').Perm q) (hh:Ix q' q'.length)
  (hmin:∀ y∈q,Bt y x=false) (hx:R x.dev<0) (hx0:0≤x.root) (_hxd:0≤x.dev∧x.dev<n.devices.length)
  (hR:∀ e,R' e=if e=x.dev then x.root else R e) (hC:∀ e,C' e=if e=x.dev then x.cost else C e) :
  Dij n up K ((List.range n.ports.length).foldl (Cv n up x) q') R' C':=by
 have hm:∀ y,y∈q↔y=x∨y∈q':=fun y=>by rw[← hp.mem_iff,List.mem_cons]
 have hn:=fun y=>V2 n up x q' y n.ports.length
 have hs:∀ e,0≤R e→R' e=R e∧C' e=C e:=fun e he=>by
  have:e≠x.dev:=fun h=>by rw[h]at he;omega
  rw[hR,hC,if_neg this,if_neg this]
  exact⟨E,E⟩
 have hRd:R' x.dev=x.root:=by rw[hR,if_pos rfl]
 have hCd:C' x.dev=x.cost:=by rw[hC,if_pos rfl]
 have hxq:x∈q:=(hm x).2 (.inl rfl)
 have hle:∀ y∈q,Le2 x.root x.cost y.root y.cost:=fun y hy=>Aio (hmin y hy)
 have hnew:∀ y,y∈(List.range n.ports.length).foldl (Cv n up x) q'↔y∈q'∨∃ i j:Nat,Yb n up i j∧D0 n i=x.dev∧y=⟨x.root,x.cost+Q1 n j,D0 n j⟩:=fun y=>by
  rw[hn y]
  constructor
  ·rintro (h1 | ⟨i,h1,h2,h3,h4⟩)
   ·exact .inl h1
   ·obtain ⟨j,hj⟩:∃ j:Nat,C0 n up i=j:=⟨(C0 n up i).toNat,by omega⟩
    rw[hj]at h4
    exact .inr ⟨i,j,⟨h1,hj⟩,h2,h4⟩
  ·rintro (h1 | ⟨i,j,h1,h2,h3⟩)
   ·exact .inl h1
   ·refine .inr ⟨i,h1.1,h2,by rw[h1.2];omega,?_⟩
    rw[h1.2]
    exact h3
 refine⟨T7 n up x q' hh _,fun y hy=>?_,fun d h0 h1 h2=>?_,fun d h0 h1 h2=>?_,fun i j hij h1 h2=>?_,fun d h0 h1 h2 y hy=>?_,fun d h0 h1 h2=>?_,fun i j hij h1 h2=>?_⟩
 ·rcases (hnew y).1 hy with hy | ⟨i,j,h1,h2,rfl⟩
  ·exact W8 (h.items y ((hm y).2 (.inr hy))) hs
  ·exact .inr ⟨j,i,Acx hr h1,E,by rw[h2,hRd];exact hx0,by rw[h2,hRd],by rw[h2,hCd]⟩
 ·by_cases hd:d=x.dev
  ·subst hd
   rw[hRd,hCd]
   exact W8 (h.items x hxq) hs
  ·rw[hR,if_neg hd]at h2
   obtain ⟨e1,e2⟩:=hs d h2
   rw[e1,e2]
   exact W8 (h.done d h0 h1 h2) hs
 ·have hd:d≠x.dev:=fun e=>by rw[e,hRd]at h2;omega
  rw[hR,if_neg hd]at h2
  refine(hnew _).2 (.inl ?_)
  rcases (hm _).1 (h.own d h0 h1 h2) with e | e
  ·exact absurd (congrArg Item.dev e) hd
  ·exact e
 ·have hd:D0 n i≠x.dev:=fun e=>by rw[e,hRd]at h1;omega
  rw[hR,if_neg hd]at h1
  by_cases hj:D0 n j=x.dev
  ·rw[hj,hRd,hCd]
   exact(hnew _).2 (.inr ⟨j,i,Acx hr hij,hj,E⟩)
  ·rw[hR,if_neg hj]at h2
   obtain ⟨e1,e2⟩:=hs _ h2
   rw[e1,e2]
   refine(hnew _).2 (.inl ?_)
   rcases (hm _).1 (h.push i j hij h1 h2) with e | e
   ·exact absurd (congrArg Item.dev e) hd
   ·exact e
 ·have hdx:Le2 (R' d) (C' d) x.root x.cost:=by
   by_cases hd:d=x.dev
   ·subst hd;rw[hRd,hCd];exact .inr ⟨rfl,Int.le_refl _⟩
   ·rw[hR,if_neg hd]at h2
    obtain ⟨e1,e2⟩:=hs d h2
    rw[e1,e2]
    exact h.low d h0 h1 h2 x hxq
  rcases (hnew y).1 hy with hy | ⟨i,j,h3,_,rfl⟩
  ·exact Ain hdx (hle y ((hm y).2 (.inr hy)))
  ·exact Acn hdx (by have:=Ab3 hcost (L3 hr h3);omega)
 ·by_cases hd:d=x.dev
  ·subst hd
   rw[hRd,hCd]
   exact hle _ (h.own _ h0 h1 hx)
  ·rw[hR,if_neg hd]at h2
   obtain ⟨e1,e2⟩:=hs d h2
   rw[e1,e2]
   exact h.self d h0 h1 h2
 ·have hj:=L3 hr hij
  have hpc:=Ab3 hcost hij.1
  have hne:=(Yw hr hij).choose_spec.2.2.2.2.2
  by_cases hd:D0 n i=x.dev
  ·rw[hd,hRd,hCd]
   have hjd:D0 n j≠x.dev:=fun e=>hne (by rw[hd,e])
   rw[hR,if_neg hjd]at h2
   obtain ⟨e1,e2⟩:=hs _ h2
   rw[e1,e2]
   exact hle _ (h.push i j hij (by rw[hd];exact hx) h2)
  ·rw[hR,if_neg hd]at h1
   obtain ⟨e1,e2⟩:=hs _ h1
   rw[e1,e2]
   by_cases hjd:D0 n j=x.dev
   ·rw[hjd,hRd,hCd]
    have hdl:=Mn hr hij.1
    exact Acn (h.low _ hdl.1 hdl.2 h1 x hxq) qn
   ·rw[hR,if_neg hjd]at h2
    obtain ⟨e3,e4⟩:=hs _ h2
    rw[e3,e4]
    exact h.tri i j hij h1 h2
def atI (l:List Int) (e:Int):Int:=if e<0 then -1 else nth l e
theorem Iw {l:List Int} {e:Int} (h:0≤e):atI l e=nth l e:=by rw[atI,if_neg qn]
theorem Ag2 {l:List Int} {d v:Int} (h0:0≤d) (h1:d<l.length) (e:Int):atI (l.set d.toNat v) e=if e=d then v else atI l e:=by
 by_cases he:e<0
 ·rw[atI,if_pos he,if_neg qn,atI,if_pos he]
 ·rw[atI,if_neg he,atI,if_neg he,nth,nth,List.getElem?_set]
  by_cases hd:e=d
  ·subst hd
   rw[if_pos rfl,if_pos rfl,if_pos qn]
   rfl
  ·rw[if_neg qn,if_neg hd]
structure DijS (n:Net) (up:List Bool) (ranks:List Int) (s:List Item × List Int × List Int):Prop where
 inv:ReachInv n s
 dij:Dij n up (atI ranks) s.1 (atI s.2.1) (atI s.2.2)
 bound:∀ c∈s.2.2,0≤c∧c≤1000000
theorem Aeo (n:Net) (up:List Bool) (ranks:List Int) (hr:Af n=true) (hcost:C1 n=true) (s:List Item × List Int × List Int) (hI:DijS n up ranks s) (hne:s.1≠[]):DijS n up ranks (Ko n up s):=by
 have hf:=Dt hr
 have h1:=(Ih n up hr hcost s hI.inv hne).1
 have hrest:=Aku s.1 hne
 have hheap:=Akv s.1 hne hI.dij.heap
 have hleast:=Ah9 s.1 hI.dij.heap
 have hx:=hI.inv.items _ (hrest.mem_iff.1 (List.mem_cons_self ..))
 have hrl:=hI.inv.rootsL
 have hcl:=hI.inv.costsL
 have hd:=hI.dij
 have hb:=hI.bound
 rw[Ko,Wf hne,Aby s.1 hne]at *
 generalize s.1.getD 0 default=x at *
 try simp only at *
 have ea:nth s.2.1 x.dev=atI s.2.1 x.dev:=(Iw hx.1).symm
 rw[ea];rw[ea]at h1
 split
 ·rename_i hc
  rw[if_pos hc]at h1
  exact⟨h1,Al7 hd hrest hheap hc,hb⟩
 ·rename_i hc
  rw[if_neg hc]at h1
  refine⟨h1,Al6 hr hcost hd hrest hheap hleast qn hx.2.2.1 ⟨hx.1,hx.2.1⟩ (Ag2 hx.1 qn) (Ag2 hx.1 qn),fun c hc=>?_⟩
  rcases List.mem_or_eq_of_mem_set hc with h | h
  ·exact hb c h
  ·omega
theorem V5 (n:Net) (up:List Bool) (ranks:List Int) (hr:Af n=true) (hcost:C1 n=true):∀ (f:Nat) (s:List Item × List Int × List Int),DijS n up ranks s→reachM s≤f→DijS n up ranks (Eb n up f s)∧(Eb n up f s).1=[]
 | 0,s,h,hf=>⟨h,List.eq_nil_of_length_eq_zero (by unfold reachM at hf;rw[Eb];omega)⟩
 | f+1,s,h,hf=>by
  rw[Eb]
  split
  ·rename_i he;exact⟨h,he⟩
  ·rename_i hne
   exact V5 n up ranks hr hcost f _ (Aeo n up ranks hr hcost s h hne) (by have:=(Ih n up hr hcost s h.inv hne).2;omega)
structure Solved (n:Net) (up:List Bool) (ranks roots costs:List Int):Prop where
 rootsL:roots.length=n.devices.length
 costsL:costs.length=n.devices.length
 bound:∀ c∈costs,0≤c∧c≤1000000
 root:∀ d:Int,0≤d→d<n.devices.length→0≤nth roots d
 self:∀ d:Int,0≤d→d<n.devices.length→Le2 (nth roots d) (nth costs d) (nth ranks d) 0
 tri:∀ i j:Nat,Yb n up i j→Le2 (nth roots (D0 n i)) (nth costs (D0 n i)) (nth roots (D0 n j)) (nth costs (D0 n j)+Q1 n i)
 der:∀ d:Int,0≤d→d<n.devices.length→(nth roots d=nth ranks d∧nth costs d=0)∨∃ i j:Nat,Yb n up i j∧D0 n i=d∧nth roots d=nth roots (D0 n j)∧nth costs d=nth costs (D0 n j)+Q1 n i
theorem Ahl (n:Net) (up:List Bool) (ranks:List Int) (hr:Af n=true) (s:List Item × List Int × List Int) (h:DijS n up ranks s) (he:s.1=[]):Solved n up ranks s.2.1 s.2.2:=by
 have hd:=h.dij
 rw[he]at hd
 have h0:∀ d:Int,0≤d→d<n.devices.length→0≤atI s.2.1 d:=fun d h1 h2=>by
  by_cases hc:0≤atI s.2.1 d
  ·exact hc
  ·have:=hd.own d h1 h2 qn
   simp at this
 refine⟨h.inv.rootsL,h.inv.costsL,h.bound,fun d h1 h2=>?_,fun d h1 h2=>?_,fun i j hij=>?_,fun d h1 h2=>?_⟩
 ·have:=h0 d h1 h2
  rwa [Iw h1]at this
 ·have:=hd.self d h1 h2 (h0 d h1 h2)
  simpa only [Iw h1] using this
 ·have hi:=Mn hr hij.1
  have hj:=Mn hr (L3 hr hij)
  have:=hd.tri i j hij (h0 _ hi.1 hi.2) (h0 _ hj.1 hj.2)
  simpa only [Iw hi.1,Iw hj.1] using this
 ·rcases hd.done d h1 h2 (h0 d h1 h2) with h3 | ⟨i,j,h3,h4,_,h5,h6⟩
  ·simp only[Iw h1]at h3
   exact .inl h3
  ·have hj:=Mn hr (L3 hr h3)
   simp only[Iw h1,Iw hj.1]at h5 h6
   exact .inr ⟨i,j,h3,h4,h5,h6⟩
theorem Th (ranks:List Int) (y:Item):∀ j,y∈Dj ranks j↔∃ i,i<j∧y=⟨ranks.getD i 0,0,i⟩
 | 0=>by simp[Dj]
 | j+1=>by
  rw[Hk,(Kq _ _).mem_iff,List.mem_cons,Th ranks y j]
  constructor
  ·rintro (h | ⟨i,h1,h2⟩)
   ·exact⟨j,by omega,h⟩
   ·exact⟨i,by omega,h2⟩
  ·rintro ⟨i,h1,h2⟩
   by_cases h:i=j
   ·subst h;exact .inl h2
   ·exact .inr ⟨i,by omega,h2⟩
theorem Vp (ranks:List Int):∀ j,Ix (Dj ranks j) (Dj ranks j).length
 | 0=>fun c _ h2 _=>by simp[Dj]at h2
 | j+1=>by
  rw[Hk]
  exact V7 _ _ (Vp ranks j)
theorem Xw {v:Int} {m:Nat} {d:Int} (h1:d<m) (h0:0≤d):nth (List.replicate m v) d=v:=by
 rw[Am (by simp;omega)];simp
theorem Ahj (n:Net) (up:List Bool) (ranks:List Int) (hr:Af n=true) (hrk:ranks.length=n.devices.length) (hrr:∀ r∈ranks,0≤r) :
  DijS n up ranks (Dj ranks ranks.length,List.replicate n.devices.length (-1),List.replicate n.devices.length 0):=by
 have hneg:∀ d:Int,0≤d→d<n.devices.length→atI (List.replicate n.devices.length (-1)) d=-1:=fun d h0 h1=>by rw[Iw h0,Xw h1 h0]
 refine⟨Yh n ranks _ _ hr hrk qy qy hrr,⟨Vp ranks _,fun x hx=>?_,fun d h0 h1 h2=>?_,fun d h0 h1 h2=>?_,fun i j hij h1 h2=>?_,fun d h0 h1 h2=>?_,fun d h0 h1 h2=>?_,fun i j hij h1 h2=>?_⟩,fun c hc=>?_⟩
 ·obtain ⟨i,h1,rfl⟩:=(Th ranks x _).1 hx
  refine .inl ⟨?_,E⟩
  simp only
  rw[Iw qn,Am (by simpa using h1),A7 h1]
  rfl
 ·rw[hneg d h0 h1]at h2;omega
 ·refine(Th ranks _ _).2 ⟨d.toNat,by omega,?_⟩
  rw[Iw h0,Am qn,A7 qn,Int.toNat_of_nonneg h0]
 ·have hj:=Mn hr (L3 hr hij)
  rw[hneg _ hj.1 hj.2]at h2;omega
 ·rw[hneg d h0 h1]at h2;omega
 ·rw[hneg d h0 h1]at h2;omega
 ·have hj:=Mn hr (L3 hr hij)
  rw[hneg _ hj.1 hj.2]at h2;omega
 ·have:=List.eq_of_mem_replicate hc
  omega
def Lq (n:Net) (up:List Bool) (ranks:List Int):List Item × List Int × List Int:=Hu n up (Dj ranks ranks.length,List.replicate n.devices.length (-1),List.replicate n.devices.length 0)
theorem Xs (n:Net) (up:List Bool) (ranks:List Int) (hr:Af n=true) (hcost:C1 n=true) (hrk:ranks.length=n.devices.length) (hrr:∀ r∈ranks,0≤r):Solved n up ranks (Lq n up ranks).2.1 (Lq n up ranks).2.2:=by
 obtain ⟨h1,h2⟩:=V5 n up ranks hr hcost _ _ (Ahj n up ranks hr hrk hrr) (Nat.le_refl _)
 exact Ahl n up ranks hr _ h1 h2
end Go.Sy.YteinjapglfkamaaGreat
namespace Go.Sy.YteinjapglfkamaaGreat
section
variable {n:Net} {up:List Bool} {ranks roots costs:List Int}
def rolesL (n:Net) (up:List Bool) (ranks roots costs:List Int):List Int:=Jc n up ranks roots costs n.devices.length
def Alz (roles:List Int) (l:Link):Bool:=inB [nth roles l.a,nth roles l.b] 1 && inB [nth roles l.a,nth roles l.b] 2
def fwdL (n:Net) (roles:List Int):List Bool:=n.links.map (Alz roles)
end
end Go.Sy.YteinjapglfkamaaGreat
namespace Go.Sy.YteinjapglfkamaaGreat
open Go.Proofs
theorem G_lit {C:Cx} {k:List KI} {s:SS} (d:Nat) {sz:Nat} {α:Type} (e:α→SV) (l:List α) {svs:List SV} (h:s.h d=.lit sz svs) (hl:l.map e=svs) (hg:G C k ⟨s.σ,upd s.h d (.row sz e l)⟩):G C k s:=fun κ a w hs=>by
 refine hg κ a w ⟨hs.defers,hs.size,hs.inv,hs.ctx,hs.slot,fun j=>?_⟩
 show ObOK κ w j (upd s.h d (.row sz e l) j)
 by_cases hj:j=d
 ·subst hj
  rw[Bg]
  have hob:=hs.obj j
  rw[h]at hob
  have hlen:l.length=svs.length:=by rw[← hl,List.length_map]
  obtain ⟨b,cap,cs,T,fr,e1,e2,e3,e4,e5,e6⟩:=hob
  exact .inr ⟨b,cap,cs,T,fr,by rw[hlen];exact e1,e2,e3,e4,by omega,fun i x hx=>by rw[hlen];exact e6 i x (Jr hl i x hx)⟩
 ·rw[Bz _ _ hj];exact hs.obj j
attribute [local irreducible] Go.Sy.G Go.Sy.DR
set_option maxRecDepth 100000
set_option maxHeartbeats 4000000
theorem V3 (n:Net) (up:List Bool) (x:Item) (q:List Item):∀ i,((List.range i).foldl (Cv n up x) q).length≤q.length+i
 | 0=>by simp
 | i+1=>by
  have:=V3 n up x q i
  rw[List.range_succ,List.foldl_append]
  simp only[List.foldl_cons,List.foldl_nil]
  rw[Cv]
  split
  ·rw[H3];omega
  ·omega
theorem reachS (n:Net) (up:List Bool) (ranks roots costs:List Int) (hr:Af n=true) (hu:up.length=n.links.length) (hcost:C1 n=true) (hrk:ranks.length=n.devices.length) (hro:roots.length=n.devices.length) (hc:costs.length=n.devices.length) (hrr:∀ r∈ranks,0≤r) (D:List Item × List Int × List Int) (hD:Hu n up (Dj ranks ranks.length,roots,costs)=D) :
  Sy.Spec Tryz.prog 221 [.ptr 0 0] (Yi n up ranks roots costs) (.tup []) (Yi n up ranks D.2.1 D.2.2):=Ab Γ hm 100 F221 Tryz.ntmps221 rfl fun F hF=>by
 have hf:=Dt hr
 conv=>whnf
 refine G_lit 10 Bi [] E E ?_
 refine A3 ranks.length (fun j=>[(0,.ptr 0 0),(2,.ptr 11 0),(15,.sl 1 Aa ranks),(16,Aa ranks.length),(17,Aa j)]) (fun j=>[(0,.box (M8 n up ranks (.osl 1) (.osl 2))),(1,.row 1 Aa roots),(2,.row 1 Aa costs),(11,.box [.osl 12]),(12,.row 3 Bi (Dj ranks j))]) [(12,10)]
  ⟨⟨rfl,rfl,rfl,rfl,rfl,rfl,rfl,rfl,rfl,rfl,trivial⟩,⟨.inl rfl,rfl,.inl rfl,rfl,.inl rfl,rfl,.inl rfl,rfl,.inl rfl,rfl,trivial⟩,rfl,rfl⟩ ?_
 intro j hj
 refine rg ?_;conv=>whnf
 refine⟨fun h=>?_,fun h=>?_⟩
 ·have hlt:j<ranks.length:=by simpa using h
  have e1:ranks[(j:Int).toNat]'qn=ranks[j]:=rfl
  have hpush:=Yx (Dj ranks j) ⟨ranks.getD j 0,0,j⟩ (by rw[Jb];omega)
  have hsucc:=Hk ranks j
  rw[A7 (show j<ranks.length by omega)]at hpush hsucc
  refine rg ?_;conv=>whnf
  refine⟨by omega,by omega,?_⟩
  conv=>whnf
  refine⟨by omega,?_⟩
  rw[e1]
  conv=>whnf
  refine Ah (Aj [(0,11),(1,12),(2,28)] E F286 hpush E ⟨E,E,Y⟩ E ⟨.inl E,.inl E,.inr E,Y⟩) E E ?_
  refine rg ?_;conv=>whnf
  refine⟨by unfold I64;omega,?_⟩
  conv=>whnf
  refine Av [(12,28)] hlt ⟨⟨E,E,E,E,E,E,E,E,E,E,Y⟩,⟨.inl E,E,.inl E,E,.inl E,E,.inl E,E,.inl (congrArg (Ob.row 3 Bi) hsucc),E,Y⟩,E,E⟩
 ·have hjl:j=ranks.length:=by
   have:¬ j<ranks.length:=by simpa using h
   omega
  subst hjl
  refine rg ?_;conv=>whnf
  refine Mg (α:={s:List Item × List Int × List Int // ReachInv n s∧Hu n up s=D}) (fun p=>[(0,.ptr 0 0),(2,.ptr 11 0)]) (fun p=>[(0,.box (M8 n up ranks (.osl 1) (.osl 2))),(1,.row 1 Aa p.1.2.1),(2,.row 1 Aa p.1.2.2),(11,.box [.osl 12]),(12,.row 3 Bi p.1.1)]) (fun p=>reachM p.1) ⟨(Dj ranks ranks.length,roots,costs),Yh n ranks roots costs hr hrk hro hc hrr,hD⟩ []
   ⟨⟨rfl,rfl,rfl,rfl,trivial⟩,⟨.inl rfl,rfl,.inl rfl,rfl,.inl rfl,rfl,.inl rfl,rfl,.inl rfl,rfl,trivial⟩,rfl,rfl⟩ ?_
  rintro ⟨⟨q,ro,co⟩,hI,hDq⟩
  have hlen:=Tj q
  have hdn:=Aen n up (q,ro,co)
  have hds:=Abv n up hr hcost (q,ro,co) hI
  dsimp only at hdn hds ⊢
  refine rg ?_;conv=>whnf
  refine Ah (O7 [12] E F287 hlen (.cons (.row E E) .nil) E E) E E ?_
  refine rg ?_;conv=>whnf
  refine⟨fun h2=>?_,fun h2=>?_⟩
  ·have hne:q≠[]:=fun e=>by subst e;simp at h2
   have hpop:=Alp q hne (by have:=hI.few;simp only at this;omega)
   have hx:=hI.items _ ((Mm q hne).mem_iff.1 (List.getLast_mem (De hne)))
   have hst:Ko n up (q,ro,co)=if 0≤nth ro ((Co q).getLast (De hne)).dev then ((Co q).dropLast,ro,co) else ((List.range n.ports.length).foldl (Cv n up ((Co q).getLast (De hne))) (Co q).dropLast,ro.set ((Co q).getLast (De hne)).dev.toNat ((Co q).getLast (De hne)).root,co.set ((Co q).getLast (De hne)).dev.toNat ((Co q).getLast (De hne)).cost):=by
    rw[Ko,Wf hne]
   have hr1:=Ih n up hr hcost (q,ro,co) hI hne
   have hD1:=hds hne
   rw[hDq]at hD1
   rw[hst]at hr1 hD1
   generalize (Co q).getLast (De hne)=x at *
   have hroL:=hI.rootsL
   have hcoL:=hI.costsL
   dsimp only at hroL hcoL
   rw[Am (l:=ro) (i:=x.dev) qn]at hr1 hD1
   refine rg ?_;conv=>whnf
   refine Ah (Aj [(0,11),(1,12),(2,38)] E F288 hpop E ⟨E,E,Y⟩ E ⟨.inl E,.inl E,.inr E,Y⟩) E E ?_
   refine rg ?_;conv=>whnf
   refine Ah (Uj Γ.toTy E E E E) E E ?_
   (refine rg ?_;(conv=>whnf);refine aF ?_;refine rd qq ?_;conv=>whnf)
   have hx1:=hx.1
   have hx2:=hx.2.1
   refine⟨by omega,by omega,?_⟩
   conv=>whnf
   refine⟨E,by omega,?_⟩
   conv=>whnf
   refine⟨qq,?_⟩
   conv=>whnf
   refine⟨fun h3=>?_,fun h3=>?_⟩
   ·have h30:0≤ro[x.dev.toNat]'qn:=of_decide_eq_true h3
    rw[if_pos h30]at hr1 hD1
    refine rg ?_;conv=>whnf
    exact Or (α:={s:List Item × List Int × List Int // ReachInv n s∧Hu n up s=D}) (L:=fun p=>[(0,.ptr 0 0),(2,.ptr 11 0)]) (O:=fun p=>[(0,.box (M8 n up ranks (.osl 1) (.osl 2))),(1,.row 1 Aa p.1.2.1),(2,.row 1 Aa p.1.2.2),(11,.box [.osl 12]),(12,.row 3 Bi p.1.1)]) (μ:=fun p=>reachM p.1) (x:=⟨(q,ro,co),hI,hDq⟩)
     ⟨((Co q).dropLast,ro,co),hr1.1,hD1.symm⟩ [(12,38)] hr1.2
     ⟨⟨rfl,rfl,rfl,rfl,trivial⟩,⟨.inl rfl,rfl,.inl rfl,rfl,.inl rfl,rfl,.inl rfl,rfl,.inl rfl,rfl,trivial⟩,rfl,rfl⟩
   ·have h30:¬ 0≤ro[x.dev.toNat]'qn:=of_decide_eq_false h3
    rw[if_neg h30]at hr1 hD1
    refine rg ?_;conv=>whnf
    refine⟨by omega,by omega,?_⟩
    conv=>whnf
    refine⟨by omega,by omega,?_⟩
    conv=>whnf
    refine⟨x.root,E,E,?_⟩
    conv=>whnf
    refine⟨by omega,by omega,E,by omega,x.cost,E,E,?_⟩
    conv=>whnf
    refine⟨qq,?_⟩
    conv=>whnf
    generalize ro.set x.dev.toNat x.root=ro' at *
    generalize co.set x.dev.toNat x.cost=co' at *
    refine A3 n.ports.length (fun j=>[(0,.ptr 0 0),(2,.ptr 11 0),(5,.ptr 5 0),(77,.sl 7 A6 n.ports),(78,Aa n.ports.length),(79,Aa j)]) (fun j=>[(0,.box (M8 n up ranks (.osl 1) (.osl 2))),(1,.row 1 Aa ro'),(2,.row 1 Aa co'),(5,.box [Aa x.root,Aa x.cost,Aa x.dev]),(11,.box [.osl 12]),(12,.row 3 Bi ((List.range j).foldl (Cv n up x) (Co q).dropLast))]) [(12,38)]
     ⟨⟨rfl,rfl,rfl,rfl,rfl,rfl,rfl,rfl,rfl,rfl,rfl,rfl,trivial⟩,⟨.inl rfl,rfl,.inl rfl,rfl,.inl rfl,rfl,.inl rfl,rfl,.inl rfl,rfl,.inl rfl,rfl,trivial⟩,rfl,rfl⟩ ?_
    intro j hj
    refine rg ?_;conv=>whnf
    refine⟨fun h4=>?_,fun h4=>?_⟩
    ·have hlt:j<n.ports.length:=by simpa using h4
     have e1:n.ports[(j:Int).toNat]'qn=n.ports[j]:=rfl
     have hfar:=farR n up ranks ro' co' j hr hu hlt
     have hql:(Co q).dropLast.length≤q.length:=by rw[List.length_dropLast,Dh];omega
     have hlenQ:=V3 n up x (Co q).dropLast j
     have hfew:=hI.few
     dsimp only at hfew
     have hsucc:(List.range (j+1)).foldl (Cv n up x) (Co q).dropLast=Cv n up x ((List.range j).foldl (Cv n up x) (Co q).dropLast) j:=by
      rw[List.range_succ,List.foldl_append];rfl
     generalize (List.range j).foldl (Cv n up x) (Co q).dropLast=Q at *
     rw[Cv,A7 hlt]at hsucc
     refine rg ?_;conv=>whnf
     refine⟨by omega,by omega,?_⟩
     conv=>whnf
     refine⟨by omega,?_⟩
     rw[e1]
     conv=>whnf
     refine Ah (Aj [] E F222 hfar E ⟨E,E,E,Y⟩ E ⟨.inl E,.inl E,.inl E,Y⟩) E E ?_
     refine rg ?_;conv=>whnf
     refine⟨fun h5=>?_,fun h5=>?_⟩
     ·refine rg ?_;conv=>whnf
      refine⟨fun h6=>?_,fun h6=>?_⟩
      ·have hk0:0≤C0 n up j:=of_decide_eq_true h6
       have hk1:=W0 (up:=up) hr hlt hk0
       rw[if_pos ⟨by simpa using h5,hk0⟩,Am (l:=n.ports) (i:=C0 n up j) qn]at hsucc
       have hpc:1≤(n.ports[(C0 n up j).toNat]'qn).cost∧(n.ports[(C0 n up j).toNat]'qn).cost≤65535:=by
        simp only[C1,Bool.not_eq_true',List.any_eq_false]at hcost
        have:=hcost _ (List.getElem_mem (show (C0 n up j).toNat<n.ports.length by omega))
        simp only[I8,Bool.or_eq_true,decide_eq_true_eq,not_or]at this
        omega
       have hxc:=hx.2.2.2
       have hpush:=Yx Q ⟨x.root,x.cost+(n.ports[(C0 n up j).toNat]'qn).cost,(n.ports[(C0 n up j).toNat]'qn).dev⟩ qn
       refine rg ?_;conv=>whnf
       refine⟨E,hk0,by omega,?_⟩
       conv=>whnf
       refine⟨by unfold I64;omega,?_⟩
       conv=>whnf
       refine⟨E,hk0,by omega,?_⟩
       conv=>whnf
       refine Bo (Aj [(0,11),(1,12),(2,123)] E F286 hpush E ⟨E,E,Y⟩ E ⟨.inl E,.inl E,.inr E,Y⟩) qq E ?_
       refine rd qq ?_;conv=>whnf
       refine⟨qq,?_⟩
       conv=>whnf
       refine⟨by unfold I64;omega,?_⟩
       conv=>whnf
       refine Av [(12,123)] hlt ⟨⟨E,E,E,E,E,E,E,E,E,E,E,E,Y⟩,⟨.inl E,E,.inl E,E,.inl E,E,.inl E,E,.inl E,E,.inl (congrArg (Ob.row 3 Bi) hsucc),E,Y⟩,E,E⟩
      ·rw[if_neg (fun hh=>(of_decide_eq_false h6) hh.2)]at hsucc
       refine rg ?_;conv=>whnf
       refine⟨by unfold I64;omega,?_⟩
       conv=>whnf
       refine Av [] hlt ⟨⟨E,E,E,E,E,E,E,E,E,E,E,E,Y⟩,⟨.inl E,E,.inl E,E,.inl E,E,.inl E,E,.inl E,E,.inl (congrArg (Ob.row 3 Bi) hsucc),E,Y⟩,E,E⟩
     ·rw[if_neg (fun hh=>absurd hh.1 (by simpa using h5))]at hsucc
      (refine rg ?_;(conv=>whnf);refine aF ?_;refine rg ?_;conv=>whnf)
      refine⟨by unfold I64;omega,?_⟩
      conv=>whnf
      refine Av [] hlt ⟨⟨E,E,E,E,E,E,E,E,E,E,E,E,Y⟩,⟨.inl E,E,.inl E,E,.inl E,E,.inl E,E,.inl E,E,.inl (congrArg (Ob.row 3 Bi) hsucc),E,Y⟩,E,E⟩
    ·have hjl:j=n.ports.length:=by
      have:¬ j<n.ports.length:=by simpa using h4
      omega
     subst hjl
     refine rg ?_;conv=>whnf
     exact Or (α:={s:List Item × List Int × List Int // ReachInv n s∧Hu n up s=D}) (L:=fun p=>[(0,.ptr 0 0),(2,.ptr 11 0)]) (O:=fun p=>[(0,.box (M8 n up ranks (.osl 1) (.osl 2))),(1,.row 1 Aa p.1.2.1),(2,.row 1 Aa p.1.2.2),(11,.box [.osl 12]),(12,.row 3 Bi p.1.1)]) (μ:=fun p=>reachM p.1) (x:=⟨(q,ro,co),hI,hDq⟩)
      ⟨((List.range n.ports.length).foldl (Cv n up x) (Co q).dropLast,ro',co'),hr1.1,hD1.symm⟩ [] hr1.2
      ⟨⟨rfl,rfl,rfl,rfl,trivial⟩,⟨.inl rfl,rfl,.inl rfl,rfl,.inl rfl,rfl,.inl rfl,rfl,.inl rfl,rfl,trivial⟩,rfl,rfl⟩
  ·have he:q=[]:=List.eq_nil_of_length_eq_zero (by
    have:¬ 0<q.length:=by simpa using h2
    omega)
   have e:D=(q,ro,co):=by rw[← hDq,hdn he]
   rw[e]
   refine rg ?_;conv=>whnf
   exact Ba E .nil [] (Yi n up ranks ro co) (fun _ h=>h) E E ⟨Y,⟨.inl E,E,.inl E,E,.inl E,E,Y⟩,E,E⟩
end Go.Sy.YteinjapglfkamaaGreat
namespace Go.Sy.YteinjapglfkamaaGreat
open Go.Proofs
attribute [local irreducible] Go.Sy.G Go.Sy.DR
set_option maxRecDepth 100000
set_option maxHeartbeats 4000000
def okB (n:Net) (up:List Bool):Bool:=decide (up.length=n.links.length) && (Af n && C1 n)
theorem ok_iff {n:Net} {up:List Bool}:okB n up=true↔up.length=n.links.length∧Af n=true∧C1 n=true:=by simp[okB]
def Vy (n:Net) (up:List Bool):List Int:=(Lq n up (Dg n)).2.1
def Xa (n:Net) (up:List Bool):List Int:=(Lq n up (Dg n)).2.2
def Zy (n:Net) (up:List Bool):SV:=Lk n up (Dg n) (Vy n up) (Xa n up)
theorem Anc (n:Net) (up:List Bool) (hn:n.Fin) (h:okB n up=false):Sy.Spec Tryz.prog 160 [Ap n,.sl 1 Ad up] [] (.tup [.val (.pointer none),Aa 2]) []:=Ab Γ hm 100 F160 Tryz.ntmps160 rfl fun F hF=>by
 have h':¬ (up.length=n.links.length∧Af n=true∧C1 n=true):=fun hh=>by rw[ok_iff.2 hh]at h;cases h
 conv=>whnf
 (repeat' (first | (refine⟨fun h=>?_,fun h=>?_⟩<;>(repeat (first | simp only[bne_iff_ne]at h | simp only[bne_eq_false_iff_eq]at h | simp only[Bool.not_eq_true']at h | simp only[Bool.not_eq_false']at h))<;>((refine rg ?_);(conv=>whnf);repeat((refine aT ?_);(refine rg ?_);(conv=>whnf)))) | (refine Ag (Bd n hn) F23 rfl rfl rfl rfl rfl ?_;((refine rg ?_);(conv=>whnf))) | (refine Ag (Al8 n hn.ports) F219 rfl rfl rfl rfl rfl ?_;((refine rg ?_);(conv=>whnf))) | refine Ac rfl (.cons .tmp (.cons .tmp .nil)) rfl rfl))
 all_goals exact absurd ⟨by omega,by assumption,by assumption⟩ h'
def Lc (m j:Nat):List Int:=List.replicate j (-1)++List.replicate (m-j) 0
theorem Afm (m:Nat):Lc m 0=List.replicate m 0:=by simp[Lc]
theorem Ai2 (m:Nat):Lc m m=List.replicate m (-1):=by simp[Lc]
theorem Aah (m j:Nat) (h:j≤m):(Lc m j).length=m:=by simp[Lc];omega
theorem Afn (m j:Nat) (h:j<m):Lc m (j+1)=(Lc m j).set j (-1):=by
 have e:m-j=(m-(j+1))+1:=by omega
 rw[Lc,Lc,e,List.set_append_right _ _ qy,List.length_replicate,Nat.sub_self,List.replicate_succ' (n:=j),List.replicate_succ (n:=m-(j+1))]
 simp
theorem openOK (n:Net) (up:List Bool) (hn:n.Fin) (hu:up.length=n.links.length) (hr:Af n=true) (hcost:C1 n=true):Sy.Spec Tryz.prog 160 [Ap n,.sl 1 Ad up] [] (.tup [Zy n up,Aa 0]) []:=Ab Γ hm 100 F160 Tryz.ntmps160 rfl fun F hF=>by
 have hf:=Dt hr
 have hrt:=Bd n hn
 have hct:=Al8 n hn.ports
 have hrs:=ranksS n hn
 rw[hr]at hrt
 rw[hcost]at hct
 rw[hr,if_pos rfl]at hrs
 have hrk:=Je n
 have hrr:∀ r∈Dg n,0≤r:=fun r h=>(T9 n r h).1
 have hsv:Zy n up=Lk n up (Dg n) (Lq n up (Dg n)).2.1 (Lq n up (Dg n)).2.2:=rfl
 rw[hsv]
 generalize Dg n=ranks at *
 have hreach:=fun D hD=>reachS n up ranks (List.replicate n.devices.length (-1)) (List.replicate n.devices.length 0) hr hu hcost hrk qy qy hrr D hD
 have hRT:Hu n up (Dj ranks ranks.length,List.replicate n.devices.length (-1),List.replicate n.devices.length 0)=Lq n up ranks:=rfl
 generalize Lq n up ranks=D at *
 have hreach:=hreach D hRT
 clear hRT hsv
 conv=>whnf
 refine⟨fun h=>absurd h (by simp[hu]),fun h=>?_⟩
 refine rg ?_;conv=>whnf
 refine Ag hrt F23 E E E E E ?_
 (refine rg ?_;(conv=>whnf);refine aF ?_;refine rg ?_;conv=>whnf)
 refine Ag hct F219 E E E E E ?_
 (refine rg ?_;(conv=>whnf);refine aF ?_;refine rg ?_;conv=>whnf)
 refine Au hrs F220 E E E qq E ?_
 refine rd qq ?_;conv=>whnf
 refine Bo (Bl Γ.toTy (d:=31) (n:=n.devices.length) Aa 0 E E E E E E E E qn qn E E E) qq E ?_
 refine rd qq ?_;conv=>whnf
 refine Bo (Bl Γ.toTy (d:=35) (n:=n.devices.length) Aa 0 E E E E E E E E qn qn E E E) qq E ?_
 refine rd qq ?_;conv=>whnf
 refine⟨qq,?_⟩
 conv=>whnf
 refine A3 n.devices.length (fun j=>[(6,.ptr 37 0),(42,Aa (List.replicate n.devices.length (0:Int)).length),(43,Aa j)]) (fun j=>[(37,.box (M8 n up ranks (.osl 31) (.osl 35))),(31,.row 1 Aa (Lc n.devices.length j)),(35,.row 1 Aa (List.replicate n.devices.length 0))]) []
  ⟨⟨rfl,rfl,rfl,rfl,rfl,rfl,trivial⟩,⟨.inl rfl,rfl,.inl (by rw[Afm];rfl),rfl,.inl rfl,rfl,trivial⟩,rfl,rfl⟩ ?_
 intro j hj
 have hlen:=Aah n.devices.length j hj
 refine rg ?_;conv=>whnf
 refine⟨fun h=>?_,fun h=>?_⟩
 ·have hlt:j<n.devices.length:=by simpa using h
  have hsucc:=Afn n.devices.length j hlt
  generalize Lc n.devices.length j=u at *
  refine rg ?_;conv=>whnf
  refine⟨by omega,by omega,?_⟩
  conv=>whnf
  refine⟨E,by omega,-1,E,E,?_⟩
  conv=>whnf
  refine⟨by unfold I64;omega,?_⟩
  conv=>whnf
  exact Av [] hlt ⟨⟨E,E,E,E,E,E,Y⟩,⟨.inl E,E,.inl (congrArg (Ob.row 1 Aa) hsucc),E,.inl E,E,Y⟩,E,E⟩
 have hjl:j=n.devices.length:=by
  have:¬ j<n.devices.length:=by simpa using h
  omega
 subst hjl
 have hall:=Ai2 n.devices.length
 rw[← hall]at hreach
 refine rg ?_;conv=>whnf
 refine Ah (Aj [(0,37),(1,31),(2,35)] E F221 hreach E ⟨E,E,E,Y⟩ E ⟨.inl E,.inl E,.inl E,Y⟩) E E ?_
 refine At 31 E ?_
 refine At 35 E ?_
 refine Be 37 12 (.agg (M8 n up ranks (.sl 1 Aa D.2.1) (.sl 1 Aa D.2.2))) E E E ?_
 refine rg ?_;conv=>whnf
 exact Ac E (.cons .tmp (.cons .tmp .nil)) E E
theorem Aa9 {n:Net} {up:List Bool} (h:okB n up=true):Solved n up (Dg n) (Vy n up) (Xa n up):=by
 obtain ⟨hu,hr,hcost⟩:=ok_iff.1 h
 exact Xs n up (Dg n) hr hcost (Je n) (fun r h=>(T9 n r h).1)
def Zn (n:Net) (up:List Bool):List Int:=rolesL n up (Dg n) (Vy n up) (Xa n up)
def fwdT (n:Net) (up:List Bool):List Bool:=fwdL n (Zn n up)
theorem Xq (n:Net) (up:List Bool):(Zn n up).length=n.ports.length:=Hf ..
theorem Aev (n:Net) (up:List Bool) (h:okB n up=true):Sy.Spec Tryz.prog 161 [Zy n up] [] (.sl 1 Aa (Zn n up)) []:=by
 obtain ⟨hu,hr,hcost⟩:=ok_iff.1 h
 have S:=Aa9 h
 exact rolesS n up (Dg n) (Vy n up) (Xa n up) hr hu hcost (Je n) S.rootsL S.costsL (fun c hc=>by have:=S.bound c hc;omega)
theorem Wv (n:Net) (up:List Bool) (hn:n.Fin) (h:okB n up=false):Sy.Spec Tryz.prog 112 [Ap n,.sl 1 Ad up] [] (.tup [.sl 1 Ad [],Aa 2]) []:=Ab Γ hm 100 F112 Tryz.ntmps112 rfl fun F hF=>by
 conv=>whnf
 refine Ag (Anc n up hn h) F160 E E E E E ?_
 (refine rg ?_;(conv=>whnf);refine aT ?_;refine rg ?_;conv=>whnf)
 refine Ao 4 1 Ad E ?_
 exact Ac E (.cons .tmp (.cons .tmp .nil)) E E
def U0 (n:Net) (roles:List Int) (j:Nat):List Bool:=(n.links.take j).map (Alz roles)++List.replicate (n.links.length-j) false
theorem Aix (n:Net) (roles:List Int):U0 n roles 0=List.replicate n.links.length false:=by simp[U0]
theorem Aly (n:Net) (roles:List Int):U0 n roles n.links.length=fwdL n roles:=by simp[U0,fwdL]
theorem Ac1 (n:Net) (roles:List Int) (j:Nat) (h:j≤n.links.length):(U0 n roles j).length=n.links.length:=by simp[U0];omega
theorem Aiy (n:Net) (roles:List Int) (j:Nat) (h:j<n.links.length):U0 n roles (j+1)=(U0 n roles j).set j (Alz roles n.links[j]):=by
 have e:n.links.length-j=(n.links.length-(j+1))+1:=by omega
 have el:((n.links.take j).map (Alz roles)).length=j:=by simp;omega
 rw[U0,U0,List.set_append_right _ _ qn,el,Nat.sub_self,List.take_succ_eq_append_getElem h,List.map_append,e,List.replicate_succ,List.set_cons_zero]
 simp
theorem Y0 (n:Net) (up:List Bool) (hn:n.Fin) (h:okB n up=true):Sy.Spec Tryz.prog 112 [Ap n,.sl 1 Ad up] [] (.tup [.sl 1 Ad (fwdT n up),Aa 0]) []:=Ab Γ hm 100 F112 Tryz.ntmps112 rfl fun F hF=>by
 obtain ⟨hu,hr,hcost⟩:=ok_iff.1 h
 have hf:=Dt hr
 have ho:=openOK n up hn hu hr hcost
 have hro:=Aev n up h
 have hrl:=Xq n up
 rw[fwdT]
 generalize Zn n up=roles at *
 unfold Zy at ho hro
 generalize Dg n=ranks at *
 generalize Vy n up=roots at *
 generalize Xa n up=costs at *
 conv=>whnf
 refine Ag ho F160 E E E E E ?_
 (refine rg ?_;(conv=>whnf);refine aF ?_;refine rg ?_;conv=>whnf)
 refine Ag hro F161 E E E E E ?_
 refine rg ?_;conv=>whnf
 refine Ah (Bl Γ.toTy (d:=27) (n:=n.links.length) Ad false E E E E E E E E qn qn E E E) E E ?_
 rw[← Aix n roles]
 refine rg ?_;conv=>whnf
 refine A3 n.links.length (fun j=>[(8,.sl 1 Aa roles),(9,.osl 27),(29,.sl 3 Ce n.links),(30,Aa n.links.length),(31,Aa j)]) (fun j=>[(27,.row 1 Ad (U0 n roles j))]) []
  ⟨⟨rfl,rfl,rfl,rfl,rfl,rfl,rfl,rfl,rfl,rfl,trivial⟩,⟨.inl rfl,rfl,trivial⟩,rfl,rfl⟩ ?_
 intro j hj
 have hall:=Aly n roles
 refine rg ?_;conv=>whnf
 refine⟨fun h=>?_,fun h=>?_⟩
 ·have hlt:j<n.links.length:=by simpa using h
  have he:=J0 hr hlt
  have e1:n.links[(j:Int).toNat]'qn=n.links[j]:=rfl
  have hlen:=Ac1 n roles j hj
  have hsucc:=Aiy n roles j hlt
  generalize U0 n roles j=u at *
  generalize n.links[j]=l at *
  rw[Alz,Am (l:=roles) (i:=l.a) qn,Am (l:=roles) (i:=l.b) qn]at hsucc
  refine rg ?_;conv=>whnf
  refine⟨E,by omega,by omega,?_⟩
  rw[e1]
  conv=>whnf
  refine⟨E,by omega,by omega,?_⟩
  conv=>whnf
  refine⟨E,by omega,by omega,?_⟩
  conv=>whnf
  refine⟨qq,?_⟩
  conv=>whnf
  have hA:0≤l.a∧l.a<roles.length:=by omega
  have hB:0≤l.b∧l.b<roles.length:=by omega
  obtain ⟨x,hx⟩:∃ x,roles[l.a.toNat]'qn=x:=⟨_,rfl⟩
  obtain ⟨y,hy⟩:∃ y,roles[l.b.toNat]'qn=y:=⟨_,rfl⟩
  rw[hx,hy]at hsucc
  refine Adz 46 (e:=Aa) (l:=[x,y]) E (by rw[← hx,← hy];rfl) ?_
  refine At 46 E ?_
  refine Ag (Ct [x,y] 1 (by unfold An;simp)) F25 E E E E E ?_
  refine rg ?_;conv=>whnf
  refine⟨fun h1=>?_,fun h1=>?_⟩
  ·rw[h1,Bool.true_and]at hsucc
   refine rg ?_;conv=>whnf
   refine Ag (Ct [x,y] 2 (by unfold An;simp)) F25 E E E E E ?_
   refine rg ?_;conv=>whnf
   refine⟨by omega,by omega,?_⟩
   conv=>whnf
   refine⟨E,by omega,inB [x,y] 2,E,E,?_⟩
   conv=>whnf
   refine⟨by unfold I64;omega,?_⟩
   conv=>whnf
   exact Av [] hlt ⟨⟨E,E,E,E,E,E,E,E,E,E,Y⟩,⟨.inl (congrArg (Ob.row 1 Ad) hsucc),E,Y⟩,E,E⟩
  ·rw[h1,Bool.false_and]at hsucc
   refine rg ?_;conv=>whnf
   refine⟨by omega,by omega,?_⟩
   conv=>whnf
   refine⟨E,by omega,false,E,E,?_⟩
   conv=>whnf
   refine⟨by unfold I64;omega,?_⟩
   conv=>whnf
   exact Av [] hlt ⟨⟨E,E,E,E,E,E,E,E,E,E,Y⟩,⟨.inl (congrArg (Ob.row 1 Ad) hsucc),E,Y⟩,E,E⟩
 have hjl:j=n.links.length:=by
  have:¬ j<n.links.length:=by simpa using h
  omega
 subst hjl
 rw[← hall]
 refine rg ?_;conv=>whnf
 refine At 27 E ?_
 exact Ac E (.cons .tmp (.cons .tmp .nil)) E E
end Go.Sy.YteinjapglfkamaaGreat
namespace Go.Sy.YteinjapglfkamaaGreat
open Go.Proofs
structure MacM where
 up:List Bool
 tables:List (List EntryM)
 queues:List (List QueuedM)
 now:Int
 injected:Int
 drops:Nat→Int
def B9 (m:MacM) (e:Int):MacM:=⟨m.up,m.tables,m.queues,m.now,m.injected,fun i=>if i=e.toNat then m.drops i+1 else m.drops i⟩
def queueL (m:MacM) (dom:Int):List QueuedM:=(m.queues[dom.toNat]?).getD []
def tableL (m:MacM) (dom:Int):List EntryM:=(m.tables[dom.toNat]?).getD []
def Ahp (m:MacM) (dom:Int) (l:List QueuedM):MacM:=⟨m.up,m.tables,m.queues.set dom.toNat l,m.now,m.injected,m.drops⟩
def Ea (m:MacM) (dom:Int) (t:List EntryM):MacM:=⟨m.up,m.tables.set dom.toNat t,m.queues,m.now,m.injected,m.drops⟩
def comeM (m:MacM) (dom:Int) (q:QueuedM) (e:Int):MacM :=
 if e≠0 then B9 m e else if (pushT (queueL m dom) q).2=true then Ahp m dom (pushT (queueL m dom) q).1 else B9 m 3
def takeM (m:MacM) (dom at_:Int):MacM × QueuedM × Bool :=
 if Ak dom m.queues.length=false then (m,noQ,false)
 else (Ahp m dom (takeT (queueL m dom) at_).2.1,(takeT (queueL m dom) at_).1,(takeT (queueL m dom) at_).2.2)
def injectT (n:Net) (m:MacM) (port:Int) (b:List UInt8):MacM :=
 if Ak port n.ports.length=false∨0≤(nth n.ports port).link then m
 else comeM ⟨m.up,m.tables,m.queues,m.now,m.injected+1,m.drops⟩ (enterT n port b).1 ⟨port,0,m.injected+1,(enterT n port b).2.1⟩ (enterT n port b).2.2
def goesM (n:Net) (m:MacM) (o:OutM) (origin:Int):MacM × List SeenM :=
 if o.kind=1 then (m,[⟨o.port,origin,o.bytes⟩])
 else if o.kind=2 then (comeM m (linkT n o.port o.bytes).2.1 ⟨(linkT n o.port o.bytes).1,0,origin,(linkT n o.port o.bytes).2.2.1⟩ (linkT n o.port o.bytes).2.2.2,[])
 else if o.kind=3 then (comeM m (comeT n o.bytes).2.1 ⟨-1,(comeT n o.bytes).1,origin,(comeT n o.bytes).2.2.1⟩ (comeT n o.bytes).2.2.2,[])
 else if o.kind=4 then (comeM m o.domain ⟨-2,0,origin,o.frame⟩ 0,[])
 else (B9 m o.error,[])
def Bs (n:Net) (m:MacM) (origin:Int):List OutM→MacM × List SeenM
 | []=>(m,[])
 | o::l=>((Bs n (goesM n m o origin).1 origin l).1,(goesM n m o origin).2++(Bs n (goesM n m o origin).1 origin l).2)
def J6 (n:Net) (up:List Bool):List Bool:=if okB n up=true then fwdT n up else []
def Ab1 (n:Net) (m:MacM) (dom:Int) (q:QueuedM):List EntryM × List OutM × Int:=bridgeT n (J6 n m.up) (tableL m dom) dom q m.now
def Q0 (m:MacM) (dom:Int) (r:List EntryM × List OutM × Int):MacM :=
 if r.2.2=2 then B9 m 2 else if r.2.2≠0 then B9 (Ea m dom r.1) r.2.2 else Ea m dom r.1
def pickT (n:Net) (m:MacM) (dom at_:Int):MacM × List SeenM :=
 if (takeM m dom at_).2.2=false then ((takeM m dom at_).1,[])
 else Bs n (Q0 (takeM m dom at_).1 dom (Ab1 n (takeM m dom at_).1 dom (takeM m dom at_).2.1)) (takeM m dom at_).2.1.origin (Ab1 n (takeM m dom at_).1 dom (takeM m dom at_).2.1).2.1
def M7 (m:MacM):MacM :=
 let now:=min (m.now+1) 1099511627776
 ⟨m.up,m.tables.map (fun t=>ageT t now),m.queues,now,m.injected,m.drops⟩
def doT (n:Net) (m:MacM) (x:StepM):MacM × List SeenM :=
 if x.kind=1 then (injectT n m x.port x.bytes,[])
 else if x.kind=2 then pickT n m x.domain x.at_
 else if x.kind=3 then ((takeM m x.domain x.at_).1,[])
 else if x.kind=4 then (M7 m,[])
 else if x.kind=5 then ((if x.up.length=n.links.length then ⟨x.up,m.tables,m.queues,m.now,m.injected,m.drops⟩ else m),[])
 else (m,[])
def newT (n:Net):MacM:=⟨List.replicate n.links.length true,List.replicate n.domains.length [],List.replicate n.domains.length [],0,0,fun _=>0⟩
def Bn (e:Int):Prop:=0≤e∧e<64
def DomIn (n:Net) (d:Int):Prop:=0≤d∧d.toNat<n.domains.length
theorem Ik {n:Net} {d:Int} (h:Ak d n.domains.length=true):DomIn n d:=by
 have:=B1 h
 unfold DomIn
 omega
theorem Td (b:List UInt8):Bn (takeF b).2:=by
 unfold takeF Bn
 repeat' split
 all_goals (dsimp only;omega)
theorem Ad8 (f:FrameM):Bn (stripT f).2.2.2:=by
 unfold stripT Bn
 repeat' split
 all_goals (dsimp only;omega)
theorem W1 (n:Net) (port:Int) (b:List UInt8):Bn (enterT n port b).2.2:=by
 have h1:=Td b
 have h2:=Ad8 (takeF b).1
 have h3:∀ f tg v,Bn (It n port f tg v).2.2:=fun f tg v=>by
  unfold It Bn
  repeat' split
  all_goals (dsimp only;omega)
 unfold enterT
 split
 ·unfold Bn;dsimp only;omega
 split
 ·exact h1
 split
 ·split
  ·exact h2
  ·exact h3 _ _ _
 ·exact h3 _ _ _
theorem Aik (n:Net) (port:Int) (b:List UInt8):Bn (linkT n port b).2.2.2:=by
 unfold linkT
 split
 ·unfold Bn;dsimp only;omega
 ·exact W1 _ _ _
theorem Ae3 (n:Net) (port dom:Int) (f:FrameM):Bn (leaveT n port dom f).2:=by
 unfold leaveT
 split
 ·unfold Bn;dsimp only;omega
 split
 ·unfold Bn;dsimp only;omega
 split
 ·unfold Bn;dsimp only;omega
 split
 ·unfold Bn;dsimp only;omega
 split
 ·show Bn (tagT f (nth n.domains dom).vlan).2
  unfold tagT Bn
  repeat' split
  all_goals (dsimp only;omega)
 ·unfold Bn;dsimp only;omega
theorem Ag8 (a b:Nat) (v:Int) (f:FrameM):Bn (wrapT a b v f).2:=by
 unfold wrapT Bn
 repeat' split
 all_goals (dsimp only;omega)
theorem Aih (n:Net) (dom peer:Int) (f:FrameM):Bn (meshT n dom peer f).2:=by
 unfold meshT
 split
 ·unfold Bn;dsimp only;omega
 split
 ·unfold Bn;dsimp only;omega
 ·exact Ag8 _ _ _ _
theorem Uf (b:List UInt8):Bn (ipTakeT b).2:=by
 unfold ipTakeT Bn
 repeat' split
 all_goals (dsimp only;omega)
theorem Zg (b:List UInt8):Bn (udpTakeT b).2.2.2:=by
 unfold udpTakeT Bn
 repeat' split
 all_goals (dsimp only;omega)
theorem Aju (b:List UInt8):Bn (vniT b).2.2:=by
 unfold vniT Bn
 repeat' split
 all_goals (dsimp only;omega)
theorem Aet (b:List UInt8):Bn (outerT b).2:=by
 unfold outerT
 split
 ·exact Td _
 split
 ·unfold Bn;dsimp only;omega
 split
 ·exact Uf _
 ·unfold Bn;dsimp only;split<;>omega
theorem Afd (b:List UInt8):Bn (Jk b).2.2:=by
 unfold Jk
 split
 ·exact Zg _
 split
 ·unfold Bn;dsimp only;omega
 split
 ·exact Aju _
 split
 ·exact Td _
 split
 ·unfold Bn;dsimp only;omega
 ·unfold Bn;dsimp only;omega
theorem Aa7 (b:List UInt8):Bn (Bu b).2.2.2.2:=by
 unfold Bu
 split
 ·exact Aet _
 split
 ·exact Afd _
 ·unfold Bn;dsimp only;omega
theorem Ai8 (n:Net) (b:List UInt8):Bn (comeT n b).2.2.2:=by
 unfold comeT
 split
 ·unfold Bn;dsimp only;omega
 split
 ·exact Aa7 _
 split
 ·unfold Bn;dsimp only;omega
 split
 ·unfold Bn;dsimp only;omega
 ·unfold Bn;dsimp only;omega
theorem Aln (n:Net) (irb:Int) (f:FrameM):Bn (hopT n irb f).2.2:=by
 unfold hopT
 split
 ·unfold Bn;dsimp only;omega
 split
 ·unfold Bn;dsimp only;omega
 split
 ·exact Uf _
 split
 ·unfold Bn;dsimp only;omega
 split
 ·unfold Bn;dsimp only;omega
 split
 ·unfold Bn;dsimp only;omega
 ·unfold Bn;dsimp only;omega
theorem Adm (n:Net) (fw:List Bool) (t:List EntryM) (dom:Int) (q:QueuedM) (now:Int):Bn (bridgeT n fw t dom q now).2.2:=by
 unfold bridgeT
 split
 ·unfold Bn;dsimp only;omega
 split
 ·split
  ·exact Aln _ _ _
  ·unfold Bn;dsimp only;omega
 ·unfold Bn;dsimp only;omega
theorem Agy {n:Net} {dev v:Int} (h:Bw n dev v=true):DomIn n (Tz n dev v):=by
 have h1:0≤Tz n dev v:=by simpa [Bw] using h
 have h2:Tz n dev v<n.domains.length:=D6 _ _
 exact⟨h1,by omega⟩
theorem Ajv {n:Net} (hb:Af n=true) {port:Int} (hp:Ak port n.ports.length=true) {tg:Bool} {vid:Int} (h:(vlanT (nth n.ports port) tg vid).2=true):DomIn n (Tz n (nth n.ports port).dev (vlanT (nth n.ports port) tg vid).1):=by
 have hk:=B1 hp
 have hk2:port.toNat<n.ports.length:=by omega
 simp only[Af,Bool.and_eq_true]at hb
 have hpb:=allB_iff.1 hb.1.1.1.1.1.2 _ hk2
 rw[Am hk2]at h ⊢
 generalize n.ports[port.toNat]=p at *
 simp only[Ef,Bool.and_eq_true]at hpb
 obtain ⟨⟨⟨⟨⟨⟨⟨⟨g1,g2⟩,g3⟩,g4⟩,g5⟩,g6⟩,g7⟩,g8⟩,g9⟩:=hpb
 unfold vlanT at h ⊢
 split
 ·rw[if_pos (by assumption)]at h
  have h1:p.native≠0:=by simpa using h
  have h2:0≤p.native:=by simpa using g2
  refine Agy ?_
  have h3:decide (0<p.native)=true:=by simp;omega
  rw[h3,Bool.true_and]at g8
  simpa using g8
 ·rw[if_neg (by assumption)]at h
  split
  ·rename_i h4
   have h5:vid∈p.tagged:=inB_mem.1 h4
   obtain ⟨i,hi,rfl⟩:=List.mem_iff_getElem.1 h5
   exact Agy (allB_iff.1 g7 i hi)
  ·rw[if_neg (by assumption)]at h
   cases h
theorem W2 {n:Net} {port:Int} {b:List UInt8} (h:(enterT n port b).2.2=0):DomIn n (enterT n port b).1:=by
 unfold enterT at h ⊢
 split
 ·rw[if_pos (by assumption)]at h;cases h
 rename_i hc
 rw[if_neg hc]at h
 have hp:Ak port n.ports.length=true:=by cases hx:Ak port n.ports.length;exact absurd (.inl hx) hc;rfl
 have hb:Af n=true:=by cases hx:Af n;exact absurd (.inr hx) hc;rfl
 have key:∀ f tg v,(It n port f tg v).2.2=0→DomIn n (It n port f tg v).1:=fun f tg v h=>by
  unfold It at h ⊢
  split
  ·rw[if_pos (by assumption)]at h;cases h
  rw[if_neg (by assumption)]at h
  split
  ·rw[if_pos (by assumption)]at h;cases h
  rename_i h5
  show DomIn n (Ck n _ _)
  rw[Ck,if_pos hb]
  exact Ajv hb hp (by simpa using h5)
 split
 ·rename_i h2
  rw[if_pos h2]at h
  exact absurd h h2
 rename_i h2
 rw[if_neg h2]at h
 split
 ·rename_i h3
  rw[if_pos h3]at h
  split
  ·rename_i h4
   rw[if_pos h4]at h
   exact absurd h h4
  ·rename_i h4
   rw[if_neg h4]at h
   exact key _ _ _ h
 ·rename_i h3
  rw[if_neg h3]at h
  exact key _ _ _ h
theorem Ail {n:Net} {port:Int} {b:List UInt8} (h:(linkT n port b).2.2.2=0):DomIn n (linkT n port b).2.1:=by
 unfold linkT at h ⊢
 split
 ·rw[if_pos (by assumption)]at h;cases h
 ·rename_i h2
  rw[if_neg h2]at h
  exact W2 h
theorem Ab2 {n:Net} (hb:Af n=true) {dom:Nat} (hd:dom<n.domains.length) {k:Int} (hk:k∈n.domains[dom].peers):DomIn n k:=by
 simp only[Af,Bool.and_eq_true]at hb
 have:=allB_iff.1 hb.1.1.1.1.1.1.2 _ hd
 obtain ⟨i,hi,rfl⟩:=List.mem_iff_getElem.1 hk
 have h2:=allB_iff.1 this i hi
 simp only[K8,Bool.and_eq_true]at h2
 exact Ik h2.1.1.1.1.1.1.1.1.1
theorem Al3 {n:Net} (hb:Af n=true) {src dst:Nat} {vni:Int} (h:¬ (endsT n src dst vni).1<0):DomIn n (endsT n src dst vni).1∧DomIn n (endsT n src dst vni).2:=by
 unfold endsT at h ⊢
 dsimp only at h ⊢
 split
 ·rw[if_pos (by assumption)]at h;exact absurd qx h
 rename_i h1
 rw[if_neg h1]at h
 split
 ·rw[if_pos (by assumption)]at h;exact absurd qx h
 rename_i h2
 have hd:=D6 (fun d:Domain=>decide (d.dev=Cb (fun d:Device=>decide (d.vtep=(dst:Int))) n.devices) && decide (d.vni=vni)) n.domains
 generalize Cb (fun d:Domain=>decide (d.dev=Cb (fun d:Device=>decide (d.vtep=(dst:Int))) n.devices) && decide (d.vni=vni)) n.domains=dom at *
 have hd2:dom.toNat<n.domains.length:=by omega
 have hi:=D6 (fun k:Int=>decide (Hx n k=(src:Int))) (nth n.domains dom).peers
 generalize Cb (fun k:Int=>decide (Hx n k=(src:Int))) (nth n.domains dom).peers=i at *
 rw[Am hd2]at hi ⊢
 have hi2:i.toNat<(n.domains[dom.toNat]).peers.length:=by omega
 refine⟨?_,⟨by dsimp only;omega,hd2⟩⟩
 show DomIn n (nth (n.domains[dom.toNat]).peers i)
 rw[Am hi2]
 exact Ab2 hb hd2 (List.getElem_mem hi2)
theorem Y8 {n:Net} {b:List UInt8} (h:(comeT n b).2.2.2=0):DomIn n (comeT n b).1∧DomIn n (comeT n b).2.1:=by
 unfold comeT at h ⊢
 split
 ·rw[if_pos (by assumption)]at h;cases h
 rename_i hb
 rw[if_neg hb]at h
 split
 ·rename_i h2
  rw[if_pos h2]at h;exact absurd h h2
 rename_i h2
 rw[if_neg h2]at h
 split
 ·rw[if_pos (by assumption)]at h;cases h
 rename_i h3
 rw[if_neg h3]at h
 split
 ·rw[if_pos (by assumption)]at h;cases h
 exact Al3 (by simpa using hb) h3
theorem Alo {n:Net} {irb:Int} {f:FrameM} (hin:∀ (d:Int),(lookT n irb d).2=true→0≤(lookT n irb d).1∧(lookT n irb d).1.toNat<n.irbs.length) (h:(hopT n irb f).2.2=0):DomIn n (hopT n irb f).1:=by
 unfold hopT at h ⊢
 split
 ·rw[if_pos (by assumption)]at h;cases h
 rename_i h1
 rw[if_neg h1]at h
 split
 ·rw[if_pos (by assumption)]at h;cases h
 rename_i h2
 rw[if_neg h2]at h
 split
 ·rename_i h3
  rw[if_pos h3]at h;exact absurd h h3
 rename_i h3
 rw[if_neg h3]at h
 split
 ·rw[if_pos (by assumption)]at h;cases h
 rename_i h4
 rw[if_neg h4]at h
 split
 ·rw[if_pos (by assumption)]at h;cases h
 rename_i h5
 rw[if_neg h5]at h
 split
 ·rw[if_pos (by assumption)]at h;cases h
 have hl:=hin ((ipTakeT f.body).1.dst:Int) (by simpa using h5)
 have hb:Af n=true:=by cases hx:Af n;exact absurd (.inr hx) h1;rfl
 have:=(C6 hb hl.2).1
 show DomIn n (nth n.irbs _).domain
 rw[Am hl.2]
 exact this
end Go.Sy.YteinjapglfkamaaGreat
namespace Go.Sy.YteinjapglfkamaaGreat
open Go.Proofs
attribute [local irreducible] Go.Sy.G Go.Sy.DR
set_option maxRecDepth 100000
set_option maxHeartbeats 4000000
theorem Se (l:List Device) (p:Device→Bool) (f:FuncId) (first cap:List SV) (hc:(SV.clo (.func f) first cap).inn []=true) (hf:∀ x∈l,E9 Tryz.prog f (first++[Bj x]++cap) (Ad (p x))) (hl:An l) :
  Sy.Spec Tryz.prog 359 [.sl 5 Bj l,.clo (.func f) first cap] [] (Aa (Cb p l)) []:=Ab Γ hm 100 F359 Tryz.ntmps359 rfl fun F hF=>by
 unfold An at hl
 have hin:∀ x:Device,B8 [] (first++[Bj x]++cap)=true:=fun x=>Cn hc rfl
 conv=>whnf
 refine A2 l.length (fun j=>C7 (fun _ x=>!(p x)) l j) (fun j=>[(0,.sl 5 Bj l),(1,.clo (.func f) first cap),(7,Aa l.length),(8,Aa j)]) (fun _=>[]) [] (Ax _ _) ⟨⟨E,E,Bb _,hc,E,E,E,E,Y⟩,Y,E,E⟩ ?_
 intro j hj hI
 refine rg ?_;conv=>whnf
 refine⟨fun h=>?_,fun h=>?_⟩
 ·have h:=of_decide_eq_true h
  have hj2:j<l.length:=by omega
  refine rg ?_;conv=>whnf
  refine⟨E,by omega,by omega,?_⟩
  conv=>whnf
  refine Ds (hf l[j] (List.getElem_mem hj2)) E E E (by simp only[hin];rfl) E E ?_
  refine rg ?_;conv=>whnf
  refine⟨fun h2=>?_,fun h2=>?_⟩
  ·refine rg ?_;conv=>whnf
   refine Ac E (.cons .tmp .nil) (congrArg Aa ?_) E
   exact C9 hj2 (fun i hi hij=>by simpa using hI i hi hij) h2
  ·refine rg ?_;conv=>whnf
   refine⟨by unfold I64;omega,?_⟩
   conv=>whnf
   exact A0 [] hI hj2 (As hI hj2 (by simp[h2])) ⟨⟨E,E,Bb _,hc,E,E,E,E,Y⟩,Y,E,E⟩
 ·have h:=of_decide_eq_false h
  refine rg ?_;conv=>whnf
  refine Ac E (.cons .tmp .nil) (congrArg Aa ?_) E
  exact Dv (fun i hi=>by simpa using hI i hi qn)
theorem Aaj {n:Net} (hb:Af n=true) {d:Int} (hd:DomIn n d):0≤(n.domains[d.toNat]'hd.2).dev∧(n.domains[d.toNat]'hd.2).dev.toNat<n.devices.length:=by
 simp only[Af,Bool.and_eq_true]at hb
 have:=Ke hb.1.1.1.1.1.1.1.2 hd.2
 have:=B1 this
 omega
theorem Aax {n:Net} (hb:Af n=true) {d:Int} (hd:DomIn n d):Hx n d=(n.devices[(n.domains[d.toNat]'hd.2).dev.toNat]'(Aaj hb hd).2).vtep:=by
 rw[Hx,Am hd.2,Am (Aaj hb hd).2]
theorem Aaw {n:Net} (hm:n.Num) (hb:Af n=true) {d:Int} (hd:DomIn n d):0≤Hx n d∧Hx n d<4294967296:=by
 rw[Aax hb hd]
 exact hm.vtep _ (List.getElem_mem _)
theorem O4 (n:Net) (hb:Af n=true) (d:Int) (hd:DomIn n d):Sy.Spec Tryz.prog 304 [Ap n,Aa d] [] (Bm (Hx n d)) []:=Ab Γ hm 100 F304 Tryz.ntmps304 rfl fun F hF=>by
 have hv:=Aax hb hd
 have h2:=Aaj hb hd
 obtain ⟨x,hx⟩:∃ x,n.domains[d.toNat]'hd.2=x:=⟨_,rfl⟩
 rw[hx]at h2
 simp only[hx]at hv
 obtain ⟨y,hy⟩:∃ y,n.devices[x.dev.toNat]'h2.2=y:=⟨_,rfl⟩
 rw[hy]at hv
 rw[hv]
 conv=>whnf
 refine⟨E,hd.1,hd.2,?_⟩
 rw[hx]
 conv=>whnf
 refine⟨E,h2.1,h2.2,?_⟩
 rw[hy]
 conv=>whnf
 refine⟨qq,?_⟩
 conv=>whnf
 exact Ac E (.cons .tmp .nil) E E
theorem Ae4 (n:Net) (hn:n.Fin) (hm0:n.Num) (dom peer:Int) (f:FrameM) (h:FrameOK f) :
  Sy.Spec Tryz.prog 237 [Ap n,Aa dom,Aa peer,B6 f] [] (.tup [.sl 1 Ai (meshT n dom peer f).1,Aa (meshT n dom peer f).2]) []:=Ab Γ hm 100 F237 Tryz.ntmps237 rfl fun F hF=>by
 have hres:=meshT.eq_1 n dom peer f
 generalize meshT n dom peer f=res at *
 have hr:=Bd n hn
 have hpS:=I3 peer n.domains.length
 have hdS:=I3 dom n.domains.length
 conv=>whnf
 refine Be 4 8 (Ap n) E E E ?_
 refine Be 7 4 (B6 f) E E E ?_
 refine rg ?_;conv=>whnf
 refine Ag hpS F300 E E E E E ?_
 cases hpl:Ak peer n.domains.length
 ·rw[if_pos (.inl hpl)]at hres
  subst hres
  (refine rg ?_;(conv=>whnf);refine aT ?_;refine rg ?_;(conv=>whnf);refine aT ?_;refine rg ?_;(conv=>whnf);refine aT ?_;refine rg ?_;conv=>whnf)
  refine Ao 8 1 Ai E ?_
  exact Ac E (.cons .tmp (.cons .tmp .nil)) E E
 (refine rg ?_;(conv=>whnf);refine aF ?_;refine rg ?_;conv=>whnf)
 refine Ag hdS F300 E E E E E ?_
 cases hdl:Ak dom n.domains.length
 ·rw[if_pos (.inr (.inl hdl))]at hres
  subst hres
  (refine rg ?_;(conv=>whnf);refine aT ?_;refine rg ?_;(conv=>whnf);refine aT ?_;refine rg ?_;conv=>whnf)
  refine Ao 8 1 Ai E ?_
  exact Ac E (.cons .tmp (.cons .tmp .nil)) E E
 (refine rg ?_;(conv=>whnf);refine aF ?_;refine rg ?_;conv=>whnf)
 refine Ag hr F23 E E E E E ?_
 cases hbn:Af n
 ·rw[if_pos (.inr (.inr hbn))]at hres
  subst hres
  (refine rg ?_;(conv=>whnf);refine aT ?_;refine rg ?_;conv=>whnf)
  refine Ao 8 1 Ai E ?_
  exact Ac E (.cons .tmp (.cons .tmp .nil)) E E
 rw[if_neg (by simp[hbn,hpl,hdl])]at hres
 have hd:=Ik hdl
 have hp:=Ik hpl
 have hd0:=hd.1
 have hkd:=hd.2
 have e2:nth n.domains dom=n.domains[dom.toNat]:=Am hkd
 have hpe:=hn.peers _ (List.getElem_mem hkd)
 have va:=Aaw hm0 hbn hd
 have vb:=Aaw hm0 hbn hp
 have qa:=O4 n hbn dom hd
 have qb:=O4 n hbn peer hp
 generalize Hx n dom=a at *
 generalize Hx n peer=c at *
 obtain ⟨a,rfl⟩:=Int.eq_ofNat_of_zero_le va.1
 obtain ⟨c,rfl⟩:=Int.eq_ofNat_of_zero_le vb.1
 rw[Int.toNat_natCast,Int.toNat_natCast]at hres
 obtain ⟨d,hdd⟩:∃ d,n.domains[dom.toNat]'hkd=d:=⟨_,rfl⟩
 rw[hdd]at e2 hpe
 rw[e2]at hres
 have qc:=Ct d.peers peer hpe
 have qw:=Amw a c d.vni f qn qn h
 (refine rg ?_;(conv=>whnf);refine aF ?_;refine rg ?_;conv=>whnf)
 refine⟨E,hd0,hkd,?_⟩
 rw[hdd]
 conv=>whnf
 refine Ag qc F25 E E E E E ?_
 cases hi:inB d.peers peer
 ·rw[if_pos hi]at hres
  subst hres
  (refine rg ?_;(conv=>whnf);refine aT ?_;refine rg ?_;conv=>whnf)
  refine Ao 8 1 Ai E ?_
  exact Ac E (.cons .tmp (.cons .tmp .nil)) E E
 rw[if_neg (by rw[hi];decide)]at hres
 subst hres
 (refine rg ?_;(conv=>whnf);refine aF ?_;refine rg ?_;conv=>whnf)
 refine Au qa F304 E E E qq E ?_
 refine rd qq ?_;conv=>whnf
 refine Au qb F304 E E E qq E ?_
 refine rd qq ?_;conv=>whnf
 refine⟨E,hd0,hkd,?_⟩
 rw[hdd]
 conv=>whnf
 refine Au qw F303 E E E qq E ?_
 refine rd qq ?_;conv=>whnf
 refine⟨qq,?_⟩
 conv=>whnf
 exact Ac E (.cons .tmp (.cons .tmp .nil)) E E
theorem endsC1 (dst:Int) (d:Device):Sy.Spec Tryz.prog 360 [Bj d,.ref 1 (Bm dst) 0] [] (Ad (decide (d.vtep=dst))) []:=Ab Γ hm 100 F360 Tryz.ntmps360 rfl fun F hF=>by
 conv=>whnf
 refine Ac E (.cons .tmp .nil) (congrArg Ad ?_) E
 rw[Bool.eq_iff_iff]
 simp
theorem endsC2 (dev vni:Int) (d:Domain):Sy.Spec Tryz.prog 361 [Ar d,.ref 1 (Aa dev) 0,.ref 1 (Aa vni) 0] [] (Ad (decide (d.dev=dev) && decide (d.vni=vni))) []:=Ab Γ hm 100 F361 Tryz.ntmps361 rfl fun F hF=>by
 conv=>whnf
 refine⟨fun h=>?_,fun h=>?_⟩
 ·have h1:d.dev=dev:=by simpa using h
  refine rg ?_;conv=>whnf
  refine Ac E (.cons .tmp .nil) (congrArg Ad ?_) E
  rw[decide_eq_true h1,Bool.true_and,Bool.eq_iff_iff]
  simp
 ·have h1:¬ d.dev=dev:=by simpa using h
  refine rg ?_;conv=>whnf
  refine Ac E (.cons .tmp .nil) (congrArg Ad ?_) E
  rw[decide_eq_false h1,Bool.false_and]
theorem endsC3 (n:Net) (hb:Af n=true) (src:Int) (k:Int) (hk:DomIn n k):Sy.Spec Tryz.prog 363 [Aa k,.ref 8 (Ap n) 0,.ref 1 (Bm src) 0] [] (Ad (decide (Hx n k=src))) []:=Ab Γ hm 100 F363 Tryz.ntmps363 rfl fun F hF=>by
 have q:=O4 n hb k hk
 conv=>whnf
 refine Au q F304 E E E qq E ?_
 refine rd qq ?_;conv=>whnf
 refine⟨qq,?_⟩
 conv=>whnf
 refine Ac E (.cons .tmp .nil) (congrArg Ad ?_) E
 rw[Bool.eq_iff_iff]
 simp
theorem endsS (n:Net) (hn:n.Fin) (hb:Af n=true) (src dst:Nat) (vni:Int) :
  Sy.Spec Tryz.prog 309 [Ap n,Bm src,Bm dst,Aa vni] [] (.tup [Aa (endsT n src dst vni).1,Aa (endsT n src dst vni).2]) []:=Ab Γ hm 100 F309 Tryz.ntmps309 rfl fun F hF=>by
 have hres:=endsT.eq_1 n src dst vni
 dsimp only at hres
 generalize endsT n src dst vni=res at *
 have q1:=Se n.devices (fun d=>decide (d.vtep=(dst:Int))) 360 [] [.ref 1 (Bm dst) 0] rfl (fun d _=>⟨⟨_,_,F360⟩,endsC1 dst d⟩) hn.devices
 generalize Cb (fun d:Device=>decide (d.vtep=(dst:Int))) n.devices=dev at *
 have q2:=E4 n.domains (fun d=>decide (d.dev=dev) && decide (d.vni=vni)) 361 [] [.ref 1 (Aa dev) 0,.ref 1 (Aa vni) 0] rfl (fun d _=>⟨⟨_,_,F361⟩,endsC2 dev vni d⟩) hn.domains
 have hlt:=D6 (fun d:Domain=>decide (d.dev=dev) && decide (d.vni=vni)) n.domains
 generalize Cb (fun d:Domain=>decide (d.dev=dev) && decide (d.vni=vni)) n.domains=dom at *
 conv=>whnf
 refine Be 4 8 (Ap n) E E E ?_
 refine Be 5 1 (Bm src) E E E ?_
 refine Be 6 1 (Bm dst) E E E ?_
 refine Be 7 1 (Aa vni) E E E ?_
 refine rg ?_;conv=>whnf
 refine Ag q1 F359 E E E E E ?_
 refine rg ?_;conv=>whnf
 refine Be 10 1 (Aa dev) E E E ?_
 refine rg ?_;conv=>whnf
 refine Ag q2 F201 E E E E E ?_
 refine rg ?_;conv=>whnf
 refine⟨fun h=>?_,fun h=>?_⟩
 ·rw[if_pos (.inl (of_decide_eq_true h))]at hres
  subst hres
  (refine rg ?_;(conv=>whnf);refine aT ?_;refine rg ?_;conv=>whnf)
  exact Ac E (.cons .tmp (.cons .tmp .nil)) E E
 have h1:=of_decide_eq_false h
 clear h
 refine rg ?_;conv=>whnf
 refine⟨fun h=>?_,fun h=>?_⟩
 ·rw[if_pos (.inr (of_decide_eq_true h))]at hres
  subst hres
  refine rg ?_;conv=>whnf
  exact Ac E (.cons .tmp (.cons .tmp .nil)) E E
 have h2:=of_decide_eq_false h
 clear h
 rw[if_neg (fun h=>h.elim h1 h2)]at hres
 have hd0:0≤dom:=by omega
 have hkd:dom.toNat<n.domains.length:=by omega
 have e2:nth n.domains dom=n.domains[dom.toNat]:=Am hkd
 have hpe:=hn.peers _ (List.getElem_mem hkd)
 have hpin:∀ k∈(n.domains[dom.toNat]'hkd).peers,DomIn n k:=fun k hk=>Ab2 hb hkd hk
 obtain ⟨d,hdd⟩:∃ d,n.domains[dom.toNat]'hkd=d:=⟨_,rfl⟩
 rw[hdd]at e2 hpe hpin
 rw[e2]at hres
 have q3:=Iq d.peers (fun k=>decide (Hx n k=(src:Int))) 363 [] [.ref 8 (Ap n) 0,.ref 1 (Bm src) 0] rfl (fun k hk=>⟨⟨_,_,F363⟩,endsC3 n hb src k (hpin k hk)⟩) hpe
 have hlt2:=D6 (fun k:Int=>decide (Hx n k=(src:Int))) d.peers
 generalize Cb (fun k:Int=>decide (Hx n k=(src:Int))) d.peers=i at *
 refine rg ?_;conv=>whnf
 refine⟨E,hd0,hkd,?_⟩
 rw[hdd]
 conv=>whnf
 refine Ag q3 F362 E E E E E ?_
 refine rg ?_;conv=>whnf
 refine⟨fun h=>?_,fun h=>?_⟩
 ·rw[if_pos (of_decide_eq_true h)]at hres
  subst hres
  refine rg ?_;conv=>whnf
  exact Ac E (.cons .tmp (.cons .tmp .nil)) E E
 have h3:=of_decide_eq_false h
 clear h
 rw[if_neg h3]at hres
 have hki:i.toNat<d.peers.length:=by omega
 rw[Am hki]at hres
 subst hres
 refine rg ?_;conv=>whnf
 refine⟨E,by omega,hki,?_⟩
 conv=>whnf
 exact Ac E (.cons .tmp (.cons .tmp .nil)) E E
theorem Ae6 (n:Net) (hn:n.Fin) (b:List UInt8) (hb:b.length<100000) :
  Sy.Spec Tryz.prog 242 [Ap n,.sl 1 Ai b] [] (.tup [Aa (comeT n b).1,Aa (comeT n b).2.1,B6 (comeT n b).2.2.1,Aa (comeT n b).2.2.2]) []:=Ab Γ hm 100 F242 Tryz.ntmps242 rfl fun F hF=>by
 have hres:=comeT.eq_1 n b
 generalize comeT n b=res at *
 have hr:=Bd n hn
 conv=>whnf
 refine Be 2 8 (Ap n) E E E ?_
 refine rg ?_;conv=>whnf
 refine Ag hr F23 E E E E E ?_
 cases hbn:Af n
 ·rw[if_pos hbn]at hres
  subst hres
  (refine rg ?_;(conv=>whnf);refine aT ?_;refine rg ?_;conv=>whnf)
  refine Bc 6 zF E (.cons (.refl _) (.cons (.refl _) (.cons (.refl _) (.cons .nil .nil)))) ?_
  exact Ac E (.cons .tmp (.cons .tmp (.cons (.cell E E E E) (.cons .tmp .nil)))) E E
 rw[if_neg (by rw[hbn];decide)]at hres
 have q1:=Ag9 b hb
 have huo:=Vk b
 generalize Bu b=u at *
 obtain ⟨src,dst,vni,f,e⟩:=u
 dsimp only at hres q1 huo
 have hsrc:=huo.2.2.2.src
 (refine rg ?_;(conv=>whnf);refine aF ?_;refine rg ?_;conv=>whnf)
 refine Ag q1 F308 E E E E E ?_
 refine rg ?_;conv=>whnf
 refine⟨fun h=>?_,fun h=>?_⟩
 ·rw[if_pos (by simpa using h)]at hres
  subst hres
  refine rg ?_;conv=>whnf
  refine Bc 6 zF E (.cons (.refl _) (.cons (.refl _) (.cons (.refl _) (.cons .nil .nil)))) ?_
  exact Ac E (.cons .tmp (.cons .tmp (.cons (.cell E E E E) (.cons .tmp .nil)))) E E
 rw[if_neg (by simpa using h)]at hres
 clear h
 have q2:=endsS n hn hbn src dst vni
 generalize endsT n src dst vni=en at *
 obtain ⟨fr,dom⟩:=en
 dsimp only at hres q2
 refine rg ?_;conv=>whnf
 refine Ag q2 F309 E E E E E ?_
 refine rg ?_;conv=>whnf
 refine⟨fun h=>?_,fun h=>?_⟩
 ·rw[if_pos (of_decide_eq_true h)]at hres
  subst hres
  refine rg ?_;conv=>whnf
  refine Bc 6 zF E (.cons (.refl _) (.cons (.refl _) (.cons (.refl _) (.cons .nil .nil)))) ?_
  exact Ac E (.cons .tmp (.cons .tmp (.cons (.cell E E E E) (.cons .tmp .nil)))) E E
 rw[if_neg (of_decide_eq_false h)]at hres
 clear h
 have qg:=Jz f.src qn
 refine rg ?_;conv=>whnf
 refine Ag qg F226 E E E E E ?_
 cases hg:Hc f.src
 rotate_left
 ·rw[if_pos hg]at hres
  subst hres
  (refine rg ?_;(conv=>whnf);refine aT ?_;refine rg ?_;conv=>whnf)
  refine Bc 6 zF E (.cons (.refl _) (.cons (.refl _) (.cons (.refl _) (.cons .nil .nil)))) ?_
  exact Ac E (.cons .tmp (.cons .tmp (.cons (.cell E E E E) (.cons .tmp .nil)))) E E
 rw[if_neg (by rw[hg];decide)]at hres
 subst hres
 (refine rg ?_;(conv=>whnf);refine aF ?_;refine rg ?_;conv=>whnf)
 refine⟨qq,?_⟩
 conv=>whnf
 exact Ac E (.cons .tmp (.cons .tmp (.cons (.cell E E E E) (.cons .tmp .nil)))) E E
theorem An1 {n:Net} (hb:Af n=true) {d:Int} (hd:DomIn n d) (hi:0≤(n.domains[d.toNat]'hd.2).irb) :
  ∃ h:(n.domains[d.toNat]'hd.2).irb.toNat<n.irbs.length,(n.irbs[(n.domains[d.toNat]'hd.2).irb.toNat]'h).domain=d:=by
 simp only[Af,Bool.and_eq_true]at hb
 have:=allB_iff.1 hb.1.1.1.1.1.1.1.2 _ hd.2
 simp only[E8,Bool.and_eq_true,Bool.or_eq_true,beq_iff_eq]at this
 have h2:=this.1.2
 rcases h2 with h2 | ⟨h2,h3⟩
 ·omega
 ·have h4:=B1 h2
  have h5:(n.domains[d.toNat]'hd.2).irb.toNat<n.irbs.length:=by omega
  rw[Am h5]at h3
  have:=hd.1
  exact⟨h5,by omega⟩
theorem Aaz (n:Net) (hn:n.Fin) (hm0:n.Num) (dom:Int) (m:Nat) :
  Sy.Spec Tryz.prog 232 [Ap n,Aa dom,A9 m] [] (.tup [Aa (routerT n dom m).1,Ad (routerT n dom m).2]) []:=Ab Γ hm 100 F232 Tryz.ntmps232 rfl fun F hF=>by
 have hres:=routerT.eq_1 n dom m
 generalize routerT n dom m=res at *
 have hr:=Bd n hn
 conv=>whnf
 refine⟨fun h=>?_,fun h=>?_⟩
 ·have hp:Ak dom n.domains.length=false:=by
   cases hx:Ak dom n.domains.length
   ·rfl
   ·have:=B1 hx;have:=of_decide_eq_true h;omega
  rw[if_pos (.inl hp)]at hres
  subst hres
  (refine rg ?_;(conv=>whnf);refine aT ?_;refine rg ?_;(conv=>whnf);refine aT ?_;refine rg ?_;conv=>whnf)
  exact Ac E (.cons .tmp (.cons .tmp .nil)) E E
 have h0:0≤dom:=by have:=of_decide_eq_false h;omega
 clear h
 refine rg ?_;conv=>whnf
 refine⟨fun h=>?_,fun h=>?_⟩
 ·have hp:Ak dom n.domains.length=false:=by
   cases hx:Ak dom n.domains.length
   ·rfl
   ·have:=B1 hx;have:=of_decide_eq_true h;omega
  rw[if_pos (.inl hp)]at hres
  subst hres
  (refine rg ?_;(conv=>whnf);refine aT ?_;refine rg ?_;conv=>whnf)
  exact Ac E (.cons .tmp (.cons .tmp .nil)) E E
 have h1:dom<n.domains.length:=by have:=of_decide_eq_false h;omega
 clear h
 have hpl:Ak dom n.domains.length=true:=I1 ⟨h0,h1⟩
 refine rg ?_;conv=>whnf
 refine Ag hr F23 E E E E E ?_
 cases hbn:Af n
 ·rw[if_pos (.inr hbn)]at hres
  subst hres
  (refine rg ?_;(conv=>whnf);refine aT ?_;refine rg ?_;conv=>whnf)
  exact Ac E (.cons .tmp (.cons .tmp .nil)) E E
 rw[if_neg (by simp[hbn,hpl])]at hres
 have hd:=Ik hpl
 have e2:nth n.domains dom=n.domains[dom.toNat]'hd.2:=Am hd.2
 have hir:=An1 hbn hd
 obtain ⟨d,hdd⟩:∃ d,n.domains[dom.toNat]'hd.2=d:=⟨_,rfl⟩
 simp only[hdd]at e2 hir
 rw[e2]at hres
 (refine rg ?_;(conv=>whnf);refine aF ?_;refine rg ?_;conv=>whnf)
 refine⟨E,hd.1,hd.2,?_⟩
 rw[hdd]
 conv=>whnf
 refine⟨fun h=>?_,fun h=>?_⟩
 ·rw[if_pos (.inl (of_decide_eq_true h))]at hres
  subst hres
  (refine rg ?_;(conv=>whnf);refine aT ?_;refine rg ?_;conv=>whnf)
  exact Ac E (.cons .tmp (.cons .tmp .nil)) E E
 have hi0:0≤d.irb:=by have:=of_decide_eq_false h;omega
 clear h
 obtain ⟨hi1,hi2⟩:=hir hi0
 have ha:=hm0.addr _ (List.getElem_mem hi1)
 rw[Am hi1]at hres
 obtain ⟨x,hx⟩:∃ x,n.irbs[d.irb.toNat]'hi1=x:=⟨_,rfl⟩
 rw[hx]at ha hres
 obtain ⟨a,hae⟩:=Int.eq_ofNat_of_zero_le ha.1
 have qh:=Yv a qn
 rw[← hae]at qh
 refine rg ?_;conv=>whnf
 refine⟨E,hi0,hi1,?_⟩
 rw[hx]
 conv=>whnf
 refine Ag qh F44 E E E E E ?_
 refine rg ?_;conv=>whnf
 refine⟨fun h=>?_,fun h=>?_⟩
 ·have hne:E5 x.addr≠m:=fun e=>by
   rw[e]at h
   simp at h
  rw[if_pos (.inr hne)]at hres
  subst hres
  refine rg ?_;conv=>whnf
  exact Ac E (.cons .tmp (.cons .tmp .nil)) E E
 ·have heq:E5 x.addr=m:=by
   have:(E5 x.addr:Int)=(m:Int):=by simpa using h
   omega
  rw[if_neg (fun h=>h.elim qn (fun h2=>h2 heq))]at hres
  subst hres
  refine rg ?_;conv=>whnf
  exact Ac E (.cons .tmp (.cons .tmp .nil)) E E
theorem Xt {n:Net} {i:Int} (h:Ak i n.irbs.length=true):InIrbs n i:=by
 have:=B1 h
 exact⟨this.1,by omega⟩
theorem Ant {p:PacketM} (h:PacketOK p):PacketOK (Aff p):=⟨h.tos,h.id,by have:=h.ttl;show p.ttl-1≤255;omega,h.proto,h.src,h.dst⟩
theorem Afb (p:PacketM):ipPutT (Aff p)=if 1480<p.body.length then ([],14) else (Sb (Aff p),0):=rfl
theorem Ahw (n:Net) (hn:n.Fin) (hm0:n.Num) (irb:Int) (f:FrameM) (hf:FrameOK f) :
  Sy.Spec Tryz.prog 233 [Ap n,Aa irb,B6 f] [] (.tup [Aa (hopT n irb f).1,B6 (hopT n irb f).2.1,Aa (hopT n irb f).2.2]) []:=Ab Γ hm 100 F233 Tryz.ntmps233 rfl fun F hF=>by
 have hres:=hopT.eq_1 n irb f
 generalize hopT n irb f=res at *
 have hr:=Bd n hn
 have hb:=hf.body
 conv=>whnf
 refine⟨fun h=>?_,fun h=>?_⟩
 ·have hp:Ak irb n.irbs.length=false:=by
   cases hx:Ak irb n.irbs.length
   ·rfl
   ·have:=B1 hx;have:=of_decide_eq_true h;omega
  rw[if_pos (.inl hp)]at hres
  subst hres
  (refine rg ?_;(conv=>whnf);refine aT ?_;refine rg ?_;(conv=>whnf);refine aT ?_;refine rg ?_;conv=>whnf)
  refine Bc 7 zF E (.cons (.refl _) (.cons (.refl _) (.cons (.refl _) (.cons .nil .nil)))) ?_
  exact Ac E (.cons .tmp (.cons (.cell E E E E) (.cons .tmp .nil))) E E
 have h0:0≤irb:=by have:=of_decide_eq_false h;omega
 clear h
 refine rg ?_;conv=>whnf
 refine⟨fun h=>?_,fun h=>?_⟩
 ·have hp:Ak irb n.irbs.length=false:=by
   cases hx:Ak irb n.irbs.length
   ·rfl
   ·have:=B1 hx;have:=of_decide_eq_true h;omega
  rw[if_pos (.inl hp)]at hres
  subst hres
  (refine rg ?_;(conv=>whnf);refine aT ?_;refine rg ?_;conv=>whnf)
  refine Bc 7 zF E (.cons (.refl _) (.cons (.refl _) (.cons (.refl _) (.cons .nil .nil)))) ?_
  exact Ac E (.cons .tmp (.cons (.cell E E E E) (.cons .tmp .nil))) E E
 have h1:irb<n.irbs.length:=by have:=of_decide_eq_false h;omega
 clear h
 have hpl:Ak irb n.irbs.length=true:=I1 ⟨h0,h1⟩
 refine rg ?_;conv=>whnf
 refine Ag hr F23 E E E E E ?_
 cases hbn:Af n
 ·rw[if_pos (.inr hbn)]at hres
  subst hres
  (refine rg ?_;(conv=>whnf);refine aT ?_;refine rg ?_;conv=>whnf)
  refine Bc 7 zF E (.cons (.refl _) (.cons (.refl _) (.cons (.refl _) (.cons .nil .nil)))) ?_
  exact Ac E (.cons .tmp (.cons (.cell E E E E) (.cons .tmp .nil))) E E
 rw[if_neg (by simp[hbn,hpl])]at hres
 refine Be 3 8 (Ap n) E E E ?_
 refine Be 5 4 (B6 f) E E E ?_
 (refine rg ?_;(conv=>whnf);refine aF ?_;refine rg ?_;conv=>whnf)
 refine⟨fun h=>?_,fun h=>?_⟩
 ·rw[if_pos (by have:¬ (f.typ:Int)=2048:=(by simpa using h);omega)]at hres
  subst hres
  refine rg ?_;conv=>whnf
  refine Bc 7 zF E (.cons (.refl _) (.cons (.refl _) (.cons (.refl _) (.cons .nil .nil)))) ?_
  exact Ac E (.cons .tmp (.cons (.cell E E E E) (.cons .tmp .nil))) E E
 rw[if_neg (by have:(f.typ:Int)=2048:=(by simpa using h);omega)]at hres
 clear h
 have q1:=Agr f.body qn
 have hok:=@Wj f.body
 generalize ipTakeT f.body=tk at *
 obtain ⟨p,e⟩:=tk
 dsimp only at hres q1 hok
 refine rg ?_;conv=>whnf
 refine Ag q1 F297 E E E E E ?_
 refine rg ?_;conv=>whnf
 by_cases he:e=0
 rotate_left
 ·rw[if_pos he]at hres
  subst hres
  refine⟨fun h=>absurd (show e=0 by simpa using h) he,fun _=>?_⟩
  refine rg ?_;conv=>whnf
  refine⟨fun _=>?_,fun h=>absurd (show e=0 by simpa using h) he⟩
  refine rg ?_;conv=>whnf
  refine Bc 7 zF E (.cons (.refl _) (.cons (.refl _) (.cons (.refl _) (.cons .nil .nil)))) ?_
  exact Ac E (.cons .tmp (.cons (.cell E E E E) (.cons .tmp .nil))) E E
 subst he
 rw[if_neg qy]at hres
 obtain ⟨hpo,hpb⟩:=hok rfl
 have hpt:=hpo.ttl
 have hpd:=hpo.dst
 have q2:=ipHopS p qn hpt
 (refine⟨fun _=>?_,fun h=>False.elim (absurd h qx)⟩;refine rg ?_;conv=>whnf)
 by_cases ht:p.ttl≤1
 ·rw[if_pos ht]at hres
  subst hres
  rw[hop1,if_pos ht]at q2
  refine Ag q2 F298 E E E E E ?_
  (refine rg ?_;(conv=>whnf);refine aT ?_;refine rg ?_;conv=>whnf)
  refine Bc 7 zF E (.cons (.refl _) (.cons (.refl _) (.cons (.refl _) (.cons .nil .nil)))) ?_
  exact Ac E (.cons .tmp (.cons (.cell E E E E) (.cons .tmp .nil))) E E
 rw[if_neg ht]at hres
 rw[hop1,if_neg ht]at q2
 refine Ag q2 F298 E E E E E ?_
 have q3:=Agp n hn hbn irb p.dst (Xt hpl)
 have hth:=fun h=>@Lw n irb p.dst h
 generalize lookT n irb p.dst=lk at *
 obtain ⟨to,ok⟩:=lk
 dsimp only at hres q3 hth
 (refine rg ?_;(conv=>whnf);refine aF ?_;refine rg ?_;conv=>whnf)
 refine Ag q3 F271 E E E E E ?_
 cases ok
 ·rw[if_pos rfl]at hres
  subst hres
  (refine rg ?_;(conv=>whnf);refine aT ?_;refine rg ?_;conv=>whnf)
  refine Bc 7 zF E (.cons (.refl _) (.cons (.refl _) (.cons (.refl _) (.cons .nil .nil)))) ?_
  exact Ac E (.cons .tmp (.cons (.cell E E E E) (.cons .tmp .nil))) E E
 rw[if_neg qx]at hres
 have hto:=hth rfl
 have hpp:=Afb p
 have q4:=Z7 (Aff p) (Ant hpo) (by show p.body.length<100000;omega)
 rw[hpp]at q4
 clear hpp
 by_cases hl:1480<p.body.length
 ·rw[if_pos hl]at hres q4
  subst hres
  (refine rg ?_;(conv=>whnf);refine aF ?_;refine rg ?_;conv=>whnf)
  refine Ag q4 F43 E E E E E ?_
  (refine rg ?_;(conv=>whnf);refine aT ?_;refine rg ?_;conv=>whnf)
  refine Bc 7 zF E (.cons (.refl _) (.cons (.refl _) (.cons (.refl _) (.cons .nil .nil)))) ?_
  exact Ac E (.cons .tmp (.cons (.cell E E E E) (.cons .tmp .nil))) E E
 rw[if_neg hl]at hres q4
 have ha:=hm0.addr _ (List.getElem_mem hto.2)
 rw[Am hto.2]at hres
 obtain ⟨x,hx⟩:∃ x,n.irbs[to.toNat]'hto.2=x:=⟨_,rfl⟩
 rw[hx]at ha hres
 obtain ⟨a,hae⟩:=Int.eq_ofNat_of_zero_le ha.1
 have qh:=Yv a qn
 rw[← hae]at qh
 have qd:=Yv p.dst hpd
 subst hres
 (refine rg ?_;(conv=>whnf);refine aF ?_;refine rg ?_;conv=>whnf)
 refine Ag q4 F43 E E E E E ?_
 (refine rg ?_;(conv=>whnf);refine aF ?_;refine rg ?_;conv=>whnf)
 refine⟨E,hto.1,hto.2,?_⟩
 rw[hx]
 conv=>whnf
 refine Au qd F44 E E E qq E ?_
 refine rd qq ?_;conv=>whnf
 refine⟨E,hto.1,hto.2,?_⟩
 rw[hx]
 conv=>whnf
 refine Au qh F44 E E E qq E ?_
 refine rd qq ?_;conv=>whnf
 refine⟨qq,?_⟩
 conv=>whnf
 exact Ac E (.cons .tmp (.cons (.cell E E E E) (.cons .tmp .nil))) E E
end Go.Sy.YteinjapglfkamaaGreat
namespace Go.Sy.YteinjapglfkamaaGreat
open Go.Proofs
structure TabOK (t:List EntryM):Prop where
 short:An t
 mac:∀ e∈t,e.mac<18446744073709551616
 wh:∀ e∈t,I64 e.where_
structure QueuedOK (q:QueuedM):Prop where
 frame:FrameOK q.frame
 from_:-2≤q.from_∧q.from_<1099511627776
 peer:0≤q.peer∧q.peer<1099511627776
def Ep (l:List QueuedM):Prop:=l.length≤64∧∀ q∈l,QueuedOK q
structure MacOK (n:Net) (m:MacM) (J D:Int):Prop where
 up:m.up.length=n.links.length
 tabs:m.tables.length=n.domains.length
 ques:m.queues.length=n.domains.length
 tab:∀ t∈m.tables,TabOK t
 que:∀ l∈m.queues,Ep l
 now:0≤m.now∧m.now≤1099511627776
 inj:0≤m.injected∧m.injected≤J
 drp:∀ i,0≤m.drops i∧m.drops i≤D
theorem Ev {f:FrameM} (hf:FrameOK f) {a b:Int} (c:Int) (h1:-2≤a∧a<1099511627776) (h2:0≤b∧b<1099511627776):QueuedOK ⟨a,b,c,f⟩:=⟨hf,h1,h2⟩
theorem Ak6:QueuedOK noQ:=⟨Cw,by decide,by decide⟩
theorem Tm:TabOK []:=⟨by unfold An;decide,fun _ h=>(by cases h),fun _ h=>(by cases h)⟩
theorem Ud:Ep []:=⟨by decide,fun _ h=>(by cases h)⟩
theorem Z1 {α:Type} {l:List α} {i:Nat} {x y:α} (h:y∈l.set i x):y=x∨y∈l:=by
 rcases List.mem_or_eq_of_mem_set h with h | h
 ·exact .inr h
 ·exact .inl h
theorem Wu {α:Type} {l:List α} {i:Nat} {d:α} (h:i<l.length):(l[i]?).getD d∈l:=by
 rw[List.getElem?_eq_getElem h]
 exact List.getElem_mem h
theorem D5 {n:Net} {m:MacM} {J D:Int} (h:MacOK n m J D) (dom:Int):Ep (queueL m dom):=by
 unfold queueL
 by_cases hd:dom.toNat<m.queues.length
 ·exact h.que _ (Wu hd)
 ·rw[List.getElem?_eq_none qn];exact Ud
theorem Te {n:Net} {m:MacM} {J D:Int} (h:MacOK n m J D) (dom:Int):TabOK (tableL m dom):=by
 unfold tableL
 by_cases hd:dom.toNat<m.tables.length
 ·exact h.tab _ (Wu hd)
 ·rw[List.getElem?_eq_none qn];exact Tm
theorem MacOK.mono {n:Net} {m:MacM} {J D J' D':Int} (h:MacOK n m J D) (h1:J≤J') (h2:D≤D'):MacOK n m J' D' :=
 ⟨h.up,h.tabs,h.ques,h.tab,h.que,h.now,⟨h.inj.1,by have:=h.inj.2;omega⟩,fun i=>⟨(h.drp i).1,by have:=(h.drp i).2;omega⟩⟩
theorem L9 {n:Net} {m:MacM} {J D:Int} (h:MacOK n m J D) (hD:0≤D) (e:Int):MacOK n (B9 m e) J (D+1):=by
 refine⟨h.up,h.tabs,h.ques,h.tab,h.que,h.now,h.inj,fun i=>?_⟩
 have:=h.drp i
 show 0≤(if i=e.toNat then m.drops i+1 else m.drops i)∧(if i=e.toNat then m.drops i+1 else m.drops i)≤D+1
 split<;>omega
theorem Agf {n:Net} {m:MacM} {J D:Int} (h:MacOK n m J D) (dom:Int) {l:List QueuedM} (hl:Ep l):MacOK n (Ahp m dom l) J D:=by
 refine⟨h.up,h.tabs,by rw[Ahp];simp[h.ques],h.tab,fun x hx=>?_,h.now,h.inj,h.drp⟩
 rcases Z1 hx with rfl | hx
 ·exact hl
 ·exact h.que x hx
theorem Age {n:Net} {m:MacM} {J D:Int} (h:MacOK n m J D) (dom:Int) {l:List EntryM} (hl:TabOK l):MacOK n (Ea m dom l) J D:=by
 refine⟨h.up,by rw[Ea];simp[h.tabs],h.ques,fun x hx=>?_,h.que,h.now,h.inj,h.drp⟩
 rcases Z1 hx with rfl | hx
 ·exact hl
 ·exact h.tab x hx
theorem Akt {l:List QueuedM} (hl:Ep l) {q:QueuedM} (hq:QueuedOK q):Ep (pushT l q).1:=by
 unfold pushT
 split
 ·exact hl
 ·refine⟨by simp;omega,fun x hx=>?_⟩
  rcases List.mem_append.1 hx with hx | hx
  ·exact hl.2 x hx
  ·rw[List.mem_singleton.1 hx];exact hq
theorem Aj2 {l:List QueuedM} (hl:Ep l) (at_:Int):QueuedOK (takeT l at_).1∧Ep (takeT l at_).2.1:=by
 unfold takeT
 split
 ·exact⟨Ak6,hl⟩
 ·rename_i h
  refine⟨hl.2 _ (Wu qn),?_,fun x hx=>hl.2 x (List.mem_of_mem_eraseIdx hx)⟩
  have:=List.length_eraseIdx_le l at_.toNat
  have:=hl.1
  show (l.eraseIdx at_.toNat).length≤64
  omega
theorem Sz {n:Net} {m:MacM} {J D:Int} (h:MacOK n m J D) (hD:0≤D) (dom:Int) {q:QueuedM} (hq:QueuedOK q) (e:Int):MacOK n (comeM m dom q e) J (D+1):=by
 unfold comeM
 split
 ·exact L9 h hD e
 split
 ·exact(Agf h dom (Akt (D5 h dom) hq)).mono (Int.le_refl _) qn
 ·exact L9 h hD 3
theorem Vm {n:Net} {m:MacM} {J D:Int} (h:MacOK n m J D) (dom at_:Int):MacOK n (takeM m dom at_).1 J D∧QueuedOK (takeM m dom at_).2.1:=by
 unfold takeM
 split
 ·exact⟨h,Ak6⟩
 ·have:=Aj2 (D5 h dom) at_
  exact⟨Agf h dom this.2,this.1⟩
theorem Afe {n:Net} (hn:n.Fin) {m:MacM} {J D:Int} (h:MacOK n m J D) (hJ:0≤J) (hD:0≤D) (port:Int) (b:List UInt8):MacOK n (injectT n m port b) (J+1) (D+1):=by
 unfold injectT
 split
 ·exact h.mono qn qn
 ·rename_i hc
  have hp:Ak port n.ports.length=true:=by cases hx:Ak port n.ports.length;exact absurd (.inl hx) hc;rfl
  have hpi:=B1 hp
  have hs:=hn.ports
  unfold An at hs
  have h1:=h.inj
  have hm:MacOK n ⟨m.up,m.tables,m.queues,m.now,m.injected+1,m.drops⟩ (J+1) D:=⟨h.up,h.tabs,h.ques,h.tab,h.que,h.now,(by show 0≤m.injected+1∧m.injected+1≤J+1;omega),h.drp⟩
  exact Sz hm hD _ (Ev (Tw _ _ _) _ qn qn) _
structure OutOK (n:Net) (o:OutM):Prop where
 kind:1≤o.kind∧o.kind≤5
 bytes:o.bytes.length≤1518
 frame:o.kind=4→FrameOK o.frame∧DomIn n o.domain
 err:o.kind=5→Bn o.error
theorem Aic {n:Net} (hn:n.Fin) (port:Int):-1≤Cz n port∧Cz n port<2147483648:=by
 unfold Cz
 split
 ·rename_i h
  obtain ⟨⟨h1,h2⟩,h3,hb⟩:=h
  have hk:port.toNat<n.ports.length:=by omega
  rw[Am hk]at h3 ⊢
  have hl:=(Hr hb hk h3).1
  rw[Am hl]
  simp only[Af,Bool.and_eq_true]at hb
  have hlb:=allB_iff.1 hb.1.1.1.1.2 _ hl
  simp only[J1,Bool.and_eq_true]at hlb
  have ha:=B1 hlb.1.1.1.1
  have hb2:=B1 hlb.1.1.1.2
  have hs:=hn.ports
  unfold An at hs
  split<;>omega
 ·omega
theorem Ach {n:Net} (hn:n.Fin) (port:Int) (b:List UInt8):0≤(linkT n port b).1∧(linkT n port b).1<1099511627776:=by
 have:=Aic hn port
 unfold linkT
 split<;>dsimp only<;>omega
theorem Xb {n:Net} (hn:n.Fin) (b:List UInt8):0≤(comeT n b).1∧(comeT n b).1<1099511627776:=by
 by_cases h:(comeT n b).2.2.2=0
 ·have:=(Y8 h).1
  have hs:=hn.domains
  unfold An at hs
  unfold DomIn at this
  omega
 ·unfold comeT at h ⊢
  split
  ·decide
  rename_i h1
  rw[if_neg h1]at h
  split
  ·exact⟨Int.le_refl _,by dsimp only;omega⟩
  rename_i h1
  rw[if_neg h1]at h
  split
  ·decide
  rename_i h1
  rw[if_neg h1]at h
  split
  ·decide
  rename_i h1
  rw[if_neg h1]at h
  exact absurd E h
theorem Alw {n:Net} (hn:n.Fin) {m:MacM} {J D:Int} (h:MacOK n m J D) (hD:0≤D) {o:OutM} (ho:OutOK n o) (origin:Int):MacOK n (goesM n m o origin).1 J (D+1):=by
 unfold goesM
 split
 ·exact h.mono (Int.le_refl _) qn
 split
 ·have:=Ach hn o.port o.bytes
  exact Sz h hD _ (Ev (Aci _ _ _) _ qn qn) _
 split
 ·exact Sz h hD _ (Ev (Adg _ _) _ qn (Xb hn o.bytes)) _
 split
 ·rename_i h4
  exact Sz h hD o.domain (Ev (a:=-2) (b:=0) (ho.frame h4).1 origin qx qx) 0
 ·exact L9 h hD _
theorem L6 {n:Net} (hn:n.Fin) (origin:Int):∀ (l:List OutM) {m:MacM} {J D:Int},MacOK n m J D→0≤D→(∀ o∈l,OutOK n o)→MacOK n (Bs n m origin l).1 J (D+l.length)
 | [],m,J,D,h,_,_=>by
  rw[Bs]
  exact h.mono (Int.le_refl _) qy
 | o::l,m,J,D,h,hD,ho=>by
  rw[Bs]
  have:=L6 hn origin l (Alw hn h hD (ho o qy) origin) qn (fun x hx=>ho x (by simp[hx]))
  exact this.mono (Int.le_refl _) (by simp only[List.length_cons];omega)
theorem Ace {n:Net} {o:OutM} {r:List UInt8 × Int} (hk:1≤o.kind∧o.kind≤3) (hr:r.1.length≤1518) (he:Bn r.2):OutOK n (Q7 o r):=by
 unfold Q7
 split
 ·exact⟨⟨by dsimp only;omega,by dsimp only;omega⟩,by simp,fun h=>absurd h (by dsimp only;omega),fun _=>he⟩
 ·exact⟨⟨hk.1,by have:=hk.2;dsimp only;omega⟩,hr,fun h=>by have:=hk.2;dsimp only at h;omega,fun h=>by have:=hk.2;dsimp only at h;omega⟩
theorem Aim {t:List EntryM} (h:TabOK t) {m:Nat} (hm:m<18446744073709551616) {wh:Int} (hw:I64 wh) (now:Int):TabOK (learnT t m wh now):=by
 have hs:=h.short
 unfold An at hs
 have key:∀ e:EntryM,e∈learnT t m wh now→e∈t∨e=⟨m,wh,now⟩:=fun e he=>by
  unfold learnT at he
  split at he
  ·exact .inl he
  split at he
  ·rcases Z1 he with h | h
   ·exact .inr h
   ·exact .inl h
  ·rcases List.mem_append.1 he with h | h
   ·split at h
    ·exact .inl (List.mem_of_mem_eraseIdx h)
    ·exact .inl h
   ·exact .inr (List.mem_singleton.1 h)
 refine⟨?_,fun e he=>?_,fun e he=>?_⟩
 ·unfold learnT
  split
  ·exact h.short
  rename_i hb
  have h8:t.length≤8:=by
   have:tableB t=true:=by cases hx:tableB t;exact absurd (.inl hx) hb;rfl
   simp only[tableB,Bool.and_eq_true,decide_eq_true_eq]at this
   exact this.1
  split
  ·unfold An;simp;omega
  ·unfold An
   split
   ·have:=List.length_eraseIdx_le t (oldestU t t.length)
    simp only[List.length_append,List.length_cons,List.length_nil]
    omega
   ·simp only[List.length_append,List.length_cons,List.length_nil]
    omega
 ·rcases key e he with h1 | rfl
  ·exact h.mac e h1
  ·exact hm
 ·rcases key e he with h1 | rfl
  ·exact h.wh e h1
  ·exact hw
theorem Mo {t:List EntryM} (h:TabOK t) {q:QueuedM} (hq:QueuedOK q) (now:Int):TabOK (learnQ t q now):=by
 unfold learnQ
 split
 ·exact h
 ·have hs:=hq.frame.src
  refine Aim h qn ?_ now
  have h1:=hq.from_
  have h2:=hq.peer
  unfold I64
  split<;>omega
theorem Aoa {t:List EntryM} (h:TabOK t) (now:Int):TabOK (ageT t now):=by
 unfold ageT
 split
 ·exact h
 ·have hs:=h.short
  unfold An at hs
  refine⟨?_,fun e he=>h.mac e (List.mem_filter.1 he).1,fun e he=>h.wh e (List.mem_filter.1 he).1⟩
  unfold An
  exact Nat.lt_of_le_of_lt (List.length_filter_le _ _) hs
theorem Aca (n:Net) (dom:Int):(A4 n dom).length≤n.ports.length:=by
 rw[A4]
 have:=D7 (Oi n (nth n.domains dom)) n.ports.length
 exact this
end Go.Sy.YteinjapglfkamaaGreat
namespace Go.Sy
theorem VwL.get {s:SS} {V:List Nat}:∀ {l m:List SV} (_:VwL s V l m) {i:Nat} {y:SV},Dy m i=some y→∃ x,Dy l i=some x∧Vw s V x y
 | _,_,.nil,i,y,h=>by cases i<;>simp[Dy]at h
 | _,_,.cons (x:=x) h0 hs,0,y,h=>by
  simp only[Dy,Option.some.injEq]at h
  subst h
  exact⟨x,E,h0⟩
 | _,_,.cons h0 hs,i+1,y,h=>VwL.get hs (i:=i) h
theorem VwL.len {s:SS} {V:List Nat}:∀ {l m:List SV} (_:VwL s V l m),m.length=l.length
 | _,_,.nil=>rfl
 | _,_,.cons _ hs=>by simp[VwL.len hs]
theorem Y6:∀ {l:List SV} {i:Nat} {x:SV},J9 l=true→Dy l i=some x→x.data=true
 | [],i,x,_,h=>by cases i<;>simp[Dy]at h
 | y::l,0,x,hd,h=>by
  simp only[Dy,Option.some.injEq]at h
  subst h
  simp only[J9,Bool.and_eq_true]at hd
  exact hd.1
 | y::l,i+1,x,hd,h=>by
  simp only[J9,Bool.and_eq_true]at hd
  exact Y6 hd.2 (i:=i) h
theorem Aav {C:Cx} {k:List KI} {s:SS} (d:Nat) {sz:Nat} {svs:List SV} (svs':List SV) (h:s.h d=.lit sz svs) (hv:VwL s [] svs svs') (hd:J9 svs'=true) (hg:G C k ⟨s.σ,upd s.h d (.lit sz svs')⟩):G C k s:=fun κ a w hs=>by
 refine hg κ a w ⟨hs.defers,hs.size,hs.inv,hs.ctx,hs.slot,fun j=>?_⟩
 show ObOK κ w j (upd s.h d (.lit sz svs') j)
 by_cases hj:j=d
 ·subst hj
  rw[Bg]
  have hob:=hs.obj j
  rw[h]at hob
  have hlen:=hv.len
  obtain ⟨b,cap,cs,T,fr,e1,e2,e3,e4,e5,e6⟩:=hob
  refine⟨b,cap,cs,T,fr,by rw[hlen];exact e1,e2,e3,e4,by omega,fun i x hx=>?_⟩
  obtain ⟨y,hy,hvw⟩:=hv.get hx
  obtain ⟨f1,u,f2,f3⟩:=e6 i y hy
  exact⟨by omega,u,Rd.data _ _ (Y6 hd hx) (hvw.rd hs.inv (fun n hn=>by cases hn) f2.toRd),f3⟩
 ·rw[Bz _ _ hj];exact hs.obj j
theorem RdL.setI {κ:Ka} {w:World} {x:SV} {v:Value} (hx:Rd κ w x v):∀ {l:List SV} {cs:List Value} (i:Nat),RdL κ w l cs→RdL κ w (l.set i x) (cs.set i v)
 | [],cs,i,h=>by simp only[RdL]at h;subst h;simp[RdL]
 | y::l,cs,0,h=>by
  simp only[RdL]at h
  obtain ⟨u,r,rfl,h1,h2⟩:=h
  simp only[List.set_cons_zero,RdL]
  exact⟨v,r,E,hx,h2⟩
 | y::l,cs,i+1,h=>by
  simp only[RdL]at h
  obtain ⟨u,r,rfl,h1,h2⟩:=h
  simp only[List.set_cons_succ,RdL]
  exact⟨u,_,E,h1,h2.setI hx i⟩
theorem Hs {κ:Ka} {w:World} {k:Nat} {l:List SV} (hi:Inv κ w) (h:ObOK κ w k (.box l)) {off:Nat} {x:SV} {v:Value} (hx:x.plain=true) (hv:∀ κ w,Rd κ w x v) (h1:v.oneCell'=true) :
  ∃ b,κ k=.blk b∧(∀ j y,Dy l j=some y→∃ u,w.cell? ⟨b,j,none⟩=some u∧Rd κ w y u)∧(∀ j,j<l.length→w.frozen? ⟨b,j,none⟩=false) ∧
   Step (·=k) κ w κ (w.setCell ⟨b,off,none⟩ v)∧Inv κ (w.setCell ⟨b,off,none⟩ v)∧ObOK κ (w.setCell ⟨b,off,none⟩ v) k (.box (l.set off x)):=by
 obtain ⟨b,cs,T,fr,e1,e2,e3,e4,e5⟩:=h
 have hsame:(w.setCell ⟨b,off,none⟩ v).heap[b]? = some (.cells (cs.set off v).toArray T fr):=by
  simp[World.setCell,Array.getElem?_modify,e2]
 have hoth:∀ j,j≠b→(w.setCell ⟨b,off,none⟩ v).heap[j]? = w.heap[j]?:=fun j hj=>heap_setCell_other w ⟨b,off,none⟩ j v hj
 obtain ⟨st,inv⟩:=Ki (w':=w.setCell ⟨b,off,none⟩ v) hi (k:=k) (b:=b) (by rw[e1];rfl) rfl rfl rfl qy hoth
 have hlen:=e5.length
 refine⟨b,e1,fun j y hy=>?_,fun j hj=>?_,st,inv,b,_,T,fr,e1,hsame,by rw[List.length_set];exact e3,?_,(RdL.step st _ _ e5).setI (hv _ _) off⟩
 ·obtain ⟨u,hu,hr⟩:=e5.get hy
  exact⟨u,by rw[cell_of_row w b j cs.toArray T fr e2,List.getElem?_toArray];exact hu,hr⟩
 ·obtain ⟨lo,hi'⟩:=fr
  simp only[World.frozen?,e2]
  rcases e3 with h | h
  ·simp only at h;subst h;simp
  ·simp only at h;simp;omega
 ·intro c hc
  rcases List.mem_or_eq_of_mem_set hc with h | h
  ·exact e4 c h
  ·rw[h];exact h1
theorem X5 {P:Program} {o:Oper} {s:SS} {f:FuncId} {ik:IntKind} {ts:Array TypeId} {x:Operand} {k off:Nat} {l:List SV} {v:Int}
  (hf:∀ (a:Addr) (x:Int) (w:World),w.cell? a=some (.int ik x)→(callFunc f #[.pointer (some a)]).run P w=.ok (.value (.int ik x)) w)
  (h:o.op=.call ⟨.value (.func f),#[x],ts⟩) (hx:ev s x=.ptr k off) (hk:s.h k=.box l) (hy:Dy l off=some (.val (.int ik v))):Good P o s ⟨.val (.int ik v),[k],[]⟩ :=
 Good.pure fun κ a w hi hr ho=>by
  have h1:=hr x (by simp[h,Op.operands,Call.operands])
  rw[hx]at h1
  have h2:=ho k qy
  rw[hk]at h2
  obtain ⟨b,cs,T,fr,e1,e2,e3,e4,e5⟩:=h2
  simp only[Rd,e1]at h1
  obtain ⟨u,hu,hr2⟩:=e5.get hy
  have hc:w.cell? ⟨b,off,none⟩=some (.int ik v):=by rw[cell_of_row w b off cs.toArray T fr e2,List.getElem?_toArray,hu,hr2.val]
  have hrun:=hf ⟨b,off,none⟩ v w hc
  refine⟨.int ik v,?_,by simp only[Rd]⟩
  have hev:a.eval (.func f)=.func (.func f) #[] #[]:=rfl
  simp[execOp,h,resolve,hev,Deferred.ofValue,invoke,h1,hrun]
theorem Z9 {P:Program} {o:Oper} {s:SS} {f:FuncId} {ts:Array TypeId} {x y:Operand} {k off:Nat} {l:List SV} {v d:Int}
  (hf:∀ (a:Addr) (x y:Int) (w:World),w.cell? a=some (.int .i64 x)→w.frozen? a=false→(callFunc f #[.pointer (some a),.int .i64 y]).run P w=.ok (.value (.int .i64 (IntKind.i64.wrap (x+y)))) (w.setCell a (.int .i64 (IntKind.i64.wrap (x+y)))))
  (h:o.op=.call ⟨.value (.func f),#[x,y],ts⟩) (hx:ev s x=.ptr k off) (hy:ev s y=.val (.int .i64 d)) (hk:s.h k=.box l) (hl:Dy l off=some (.val (.int .i64 v))) (hv:IntKind.i64.wrap (v+d)=v+d) :
  Good P o s ⟨.val (.int .i64 (v+d)),[],[(k,.box (l.set off (.val (.int .i64 (v+d)))))]⟩:=by
 intro κ a w hi hr ho N Q hN
 have h1:=hr x (by simp[h,Op.operands,Call.operands])
 have h2:=hr y (by simp[h,Op.operands,Call.operands])
 rw[hx]at h1
 rw[hy]at h2
 have h3:=ho k (.inr (by simp[Up.ws]))
 rw[hk]at h3
 obtain ⟨b,e1,c1,c2,st,inv,ob⟩:=Hs (off:=off) (x:=.val (.int .i64 (v+d))) (v:=.int .i64 (v+d)) hi h3 rfl (fun _ _=>by simp only[Rd]) rfl
 simp only[Rd,e1]at h1
 obtain ⟨u,hu,hr2⟩:=c1 off _ hl
 rw[hr2.val]at hu
 have hrun:=hf ⟨b,off,none⟩ v d w hu (c2 off (U7 hl))
 rw[hv]at hrun
 have hrun2:(execOp a.eval o).run P w=.ok (.value (.int .i64 (v+d))) (w.setCell ⟨b,off,none⟩ (.int .i64 (v+d))):=by
  have hev:a.eval (.func f)=.func (.func f) #[] #[]:=rfl
  simp[execOp,h,resolve,hev,Deferred.ofValue,invoke,h1,h2.val,hrun]
 simp only[Oper.wp,hrun2,Oper.upon]
 refine hN _ κ _ (st.weaken (by simp[Up.ws])) inv (by simp only[Rd]) (fun p hp=>?_)
 simp only[List.mem_singleton]at hp
 subst hp
 exact ob
theorem X6 {P:Program} (Γ:Ty P) {o:Oper} {s:SS} (q:Nat) {t:TypeId} {ti:TI} {et:TypeId} {eb b n cap lo k c1 c2:Nat} {ez:List Value} {x y:Operand} {α:Type} {e:α→SV} {l:List α} {B B2:Option Addr}
  (h:o.op=.call ⟨.builtin .copy,#[x,y],#[t,t]⟩) (ht:Γ.get t=some ti) (hk:ti.k=.slice et 1 eb ez) (hx:ev s x=.val (.slice B (n-lo) c1)) (hB:B=some ⟨b,lo,none⟩) (hy:ev s y=.val (.slice B2 k c2)) (hB2:B2=some ⟨b,0,none⟩)
  (hq:s.h q=.pin b n cap 1 e l) (hl:l.length=n) (hk2:k≤n) (hpos:0<min k (n-lo)) :
  Good P o s ⟨.val (.int .i64 (min k (n-lo):Nat)),[],[(q,.pin b n cap 1 e (l.take lo++l.take (min k (n-lo))++l.drop (lo+min k (n-lo))))]⟩:=by
 intro κ a w hinv hr ho N Q hN
 have r1:=hr x (by simp[h,Op.operands,Call.operands])
 have r2:=hr y (by simp[h,Op.operands,Call.operands])
 rw[hx]at r1
 rw[hy]at r2
 subst hB
 subst hB2
 have hob:=ho q (.inr (by simp[Up.ws]))
 rw[hq]at hob
 obtain ⟨e0,b',cap',cs,T,fr,e1,e2,e3,e4,e5,e6⟩:=hob
 rw[e0]at e1
 cases e1
 obtain ⟨hu,ii,zv,q1,q2,q3,q4,q5⟩:=B0 Γ ht hk
 obtain ⟨mn,hmn⟩:∃ mn,min k (n-lo)=mn:=⟨_,rfl⟩
 rw[hmn]at hpos hN
 have hnc:n≤cs.length:=by omega
 have hall:∀ i,i<n→∃ u:Value,u.cells.size=1∧Ones u.cells.toList∧∀ j,j<1→cs[i * 1+j]? = u.cells[j]?:=fun i hi=>by
  obtain ⟨_,u,_,u2⟩:=e6 i (e l[i]) ⟨by omega,rfl⟩
  exact⟨u,u2⟩
 obtain ⟨news,hnews⟩:∃ news,news=cs.take mn:=⟨_,rfl⟩
 have hnl:news.length=mn:=by rw[hnews,List.length_take];omega
 have hget:∀ p,p<mn→news[p]? = cs[p]?:=fun p hp=>by rw[hnews,List.getElem?_take,if_pos hp]
 have hones:Ones news:=fun v hv=>by
  obtain ⟨p,hp,he⟩:=List.getElem_of_mem hv
  have h1:news[p]? = some v:=by rw[List.getElem?_eq_getElem hp,he]
  rw[hnl]at hp
  rw[hget p hp]at h1
  exact Abi (n:=n) hall qn h1
 obtain ⟨w',f1,f2,f3,f4,f5,f6,f7⟩:=Cc P b lo T fr news 0 cs w e2 e3 qn hones
 obtain ⟨st,inv⟩:=Lj hinv e0 f3 f4 f5 f6 f7
 have hcell:∀ p v,cs[p]? = some v→w.cell? ⟨b,p,none⟩=some v:=fun p v hp=>by simp[World.cell?,e2,hp]
 have hc:=Y7 (P:=P) w w' t t o.type et ⟨b,lo,none⟩ ⟨b,0,none⟩ (n-lo) c1 k c2 news hu q1 q2 (by rw[hnl,hmn]) (fun j v hv=>by
  rw[Addr.add_lit]
  have hlt:j<mn:=by rw[← hnl];exact(List.getElem?_eq_some_iff.1 hv).1
  rw[hget j hlt]at hv
  rw[Nat.zero_add]
  exact hcell _ _ hv) f1
 rw[hnl]at hc
 have hrun:(execOp a.eval o).run P w=.ok (.value (.int .i64 (mn:Nat))) w':=by
  simp[execOp,h,resolve,invoke,builtin,r1.val,r2.val,hc]
 simp only[Oper.wp,hrun,Oper.upon]
 refine hN _ κ w' (st.weaken (fun k hk=>by subst hk;simp[Up.ws])) inv (by simp only[Rd]) (fun p hp=>?_)
 simp only[List.mem_singleton]at hp
 subst hp
 refine⟨e0,b,cap,_,T,fr,e0,f2,by rw[Br];exact e3,by rw[Br];exact e4,e5,?_⟩
 rintro i z ⟨hi0,rfl⟩
 have hset:=Id cs news (lo+0)
 have hlen:(l.take lo++l.take mn++l.drop (lo+mn)).length=n:=by
  simp only[List.length_append,List.length_take,List.length_drop];omega
 rw[hlen]at hi0
 have src:∀ j (hj:j<l.length),∃ u:Value,RdD (Own κ) w (e l[j]) u∧u.cells.size=1∧Ones u.cells.toList∧∀ p,p<1→cs[j * 1+p]? = u.cells[p]?:=fun j hj=>(e6 j (e l[j]) ⟨hj,rfl⟩).2
 by_cases hi1:i<lo
 ·obtain ⟨u,u1,u2,u3,u4⟩:=src i qn
  refine⟨hi0,u,?_,u2,u3,fun p hp=>?_⟩
  ·have:(l.take lo++l.take mn++l.drop (lo+mn))[i]'(by rw[hlen];exact hi0)=l[i]'qn:=by
    rw[List.getElem_append_left (by simp only[List.length_append,List.length_take];omega),List.getElem_append_left (by simp only[List.length_take];omega),List.getElem_take]
   rw[this]
   exact RdD.keep st.keeps _ _ u1
  ·rw[hset _ qn,if_neg qn,u4 p hp]
 ·by_cases hi2:i<lo+mn
  ·obtain ⟨u,u1,u2,u3,u4⟩:=src (i-lo) qn
   refine⟨hi0,u,?_,u2,u3,fun p hp=>?_⟩
   ·have:(l.take lo++l.take mn++l.drop (lo+mn))[i]'(by rw[hlen];exact hi0)=l[i-lo]'qn:=by
     rw[List.getElem_append_left (by simp only[List.length_append,List.length_take];omega),List.getElem_append_right (by simp only[List.length_take];omega),List.getElem_take]
     congr 1
     simp only[List.length_take];omega
    rw[this]
    exact RdD.keep st.keeps _ _ u1
   ·rw[hset _ qn,if_pos qn,hget _ qn,← u4 p hp]
    congr 1
    omega
  ·obtain ⟨u,u1,u2,u3,u4⟩:=src i qn
   refine⟨hi0,u,?_,u2,u3,fun p hp=>?_⟩
   ·have:(l.take lo++l.take mn++l.drop (lo+mn))[i]'(by rw[hlen];exact hi0)=l[i]'qn:=by
     rw[List.getElem_append_right (by simp only[List.length_append,List.length_take];omega),List.getElem_drop]
     congr 1
     simp only[List.length_append,List.length_take];omega
    rw[this]
    exact RdD.keep st.keeps _ _ u1
   ·rw[hset _ qn,if_neg qn,u4 p hp]
end Go.Sy
namespace Go.Sy.YteinjapglfkamaaGreat
open Go.Proofs
attribute [local irreducible] Go.Sy.G Go.Sy.DR
set_option maxRecDepth 100000
set_option maxHeartbeats 4000000
theorem Xg (m:Nat) (h:m<4294967296):bits .and .u64 (m:Int) 4294967295=(m:Int):=by
 have:=bits_and_u64_nat m 4294967295 qn qx
 rw[show ((4294967295:Nat):Int)=4294967295 from rfl]at this
 rw[this]
 have h2:=Nat.and_two_pow_sub_one_eq_mod m 32
 rw[show 2 ^ 32-1=4294967295 from rfl,show 2 ^ 32=4294967296 from rfl]at h2
 rw[h2,Nat.mod_eq_of_lt h]
theorem Aed (m:Nat) (h:m<4294967296):(m:Int).fdiv (2 ^ (min (Int.toNat 32) IntKind.u64.bits))=0:=by
 show (m:Int).fdiv 4294967296=0
 rw[Int.fdiv_eq_ediv_of_nonneg _ qx]
 omega
theorem mul64S (m:Nat) (h:m<4294967296):Sy.Spec Tryz.prog 218 [A9 1,A9 m] [] (.tup [A9 0,A9 m]) []:=Ab Γ hm 100 F218 Tryz.ntmps218 rfl fun F hF=>by
 have e0:bits .and .u64 1 4294967295=1:=Xg 1 qx
 have e1:(1:Int).fdiv (2 ^ (min (Int.toNat 32) IntKind.u64.bits))=0:=Aed 1 qx
 have e2:=Xg m h
 have e3:=Aed m h
 have w1:IntKind.u64.wrap (1 * (m:Int))=m:=by rw[IntKind.wrap_u64];omega
 have w0:IntKind.u64.wrap (0 * (m:Int))=0:=by rw[IntKind.wrap_u64];omega
 have z0:IntKind.u64.wrap (0+0)=0:=rfl
 have a0:bits .and .u64 0 4294967295=0:=Xg 0 qx
 have s0:(0:Int).fdiv (2 ^ (min (Int.toNat 32) IntKind.u64.bits))=0:=Aed 0 qx
 conv=>whnf
 rw[e0]
 refine⟨by decide,?_⟩
 rw[e1]
 conv=>whnf
 rw[e2]
 refine⟨by decide,?_⟩
 rw[e3]
 conv=>whnf
 rw[w1,w0]
 refine⟨by decide,?_⟩
 rw[e3]
 conv=>whnf
 rw[z0,a0]
 refine⟨by decide,?_⟩
 rw[s0]
 conv=>whnf
 refine⟨by decide,?_⟩
 conv=>whnf
 refine Ac E (.cons .tmp (.cons .tmp .nil)) ?_ E
 refine congrArg (fun z:Int=>SV.tup [A9 0,A9 z]) ?_
 exact w1.symm
theorem mulS (m:Nat) (h:m<4294967296):Sy.Spec Tryz.prog 159 [A9 1,A9 m] [] (.tup [A9 0,A9 m]) []:=Ab Γ hm 100 F159 Tryz.ntmps159 rfl fun F hF=>by
 ((conv=>whnf);refine aF ?_;refine rg ?_;conv=>whnf)
 refine Ag (mul64S m h) F218 E E E E E ?_
 refine rg ?_;conv=>whnf
 exact Ac E (.cons .tmp (.cons .tmp .nil)) E E
def Ig (m k:Nat):List Bool:=List.replicate k true++List.replicate (m-k) false
theorem Lp (m k:Nat) (h:k≤m):(Ig m k).length=m:=by simp[Ig];omega
theorem Ako (m:Nat):Ig m m=List.replicate m true:=by simp[Ig]
theorem Ah1 (m k c:Nat) (h:k≤m) (hc:c=min k (m-k)):(Ig m k).take k++(Ig m k).take c++(Ig m k).drop (k+c)=Ig m (k+c):=by
 have e1:(Ig m k).take k=List.replicate k true:=by
  rw[Ig,List.take_append_of_le_length qy];simp
 have e2:(Ig m k).take c=List.replicate c true:=by
  rw[Ig,List.take_append_of_le_length (by simp;omega)];simp;omega
 have e3:(Ig m k).drop (k+c)=List.replicate (m-(k+c)) false:=by
  rw[Ig,List.drop_append,List.drop_eq_nil_of_le qy,List.nil_append]
  simp
  omega
 rw[e1,e2,e3,Ig,List.replicate_append_replicate]
theorem Agj (m:Nat) (h:m<2147483648):Sy.Spec Tryz.prog 111 [.sl 1 Ad [true],Aa m] [] (.sl 1 Ad (List.replicate m true)) []:=Ab Γ hm 100 F111 Tryz.ntmps111 rfl fun F hF=>by
 have hw:IntKind.u64.wrap (m:Int)=m:=by rw[IntKind.wrap_u64];omega
 have hw2:IntKind.i64.wrap (m:Int)=m:=by rw[IntKind.wrap_i64];omega
 have q:=mulS m qn
 rw[← hw]at q
 ((conv=>whnf);refine aF ?_;refine rg ?_;conv=>whnf)
 refine Ag q F159 E E E E E ?_
 rw[hw]
 (refine rg ?_;(conv=>whnf);refine aF ?_;refine rg ?_;conv=>whnf)
 refine⟨fun h1=>absurd (of_decide_eq_true h1) qn,fun _=>?_⟩
 refine rg ?_;conv=>whnf
 rw[hw2]
 refine Ah (Bl Γ.toTy (d:=30) (n:=m) Ad false E E E E E E E E qn qn E E E) E E ?_
 refine rg ?_;conv=>whnf
 refine Ah (Tq Γ.toTy (l:=List.replicate m false) (m:=[true]) E E E E E .sl) E E ?_
 have e0:[true].take (List.replicate m false).length++(List.replicate m false).drop [true].length=Ig m (min 1 m):=by
  cases m with
  | zero=>rfl
  | succ m=>simp[Ig,Nat.min_eq_left,List.replicate_succ]
 have e1:min [true].length (List.replicate m false).length=min 1 m:=by simp
 rw[e0,e1]
 refine rg ?_;conv=>whnf
 refine Vd (fun k:Nat=>min 1 m≤k∧k≤m) (fun k=>[(7,.osl 30),(8,Aa k)]) (fun k=>[(30,.row 1 Ad (Ig m k))]) (fun k=>m-k) (min 1 m) [] qn ⟨⟨E,E,E,E,Y⟩,⟨.inl E,E,Y⟩,E,E⟩ ?_
 intro k hk
 have hl:=Lp m k hk.2
 refine rg ?_;conv=>whnf
 refine⟨fun h1=>?_,fun h1=>?_⟩
 ·have hlt:k<m:=by have:=of_decide_eq_true h1;rw[hl]at this;omega
  clear h1
  have hk1:1≤k:=by omega
  have hne:Ig m k≠[]:=fun e=>by rw[e]at hl;simp at hl;omega
  refine Ag7 30 [7] E hne (fun i hi=>by simp at hi;subst hi;rfl) ?_
  intro b cap hc
  rw[hl]at hc ⊢
  have hcl:¬ cap=k:=by omega
  have hcp:=Ah1 m k (min k (m-k)) hk.2 rfl
  refine rg ?_;conv=>whnf
  refine Bo (Cr (lo:=k) (hi:=m) Γ.toTy E E E E (.inr ⟨_,_,E,E⟩) (.inl ⟨E,E⟩) qn qn) qq E ?_
  refine rd qq ?_;conv=>whnf
  refine Bo (Cr (lo:=0) (hi:=k) Γ.toTy E E E E (.inl ⟨E,E⟩) (.inr ⟨_,_,E,E⟩) qn qn) qq E ?_
  refine rd qq ?_;conv=>whnf
  refine Bo (X6 Γ.toTy 30 (lo:=k) (k:=k) E E E E (by rw[if_neg hcl,Nat.mul_one]) E (by rw[if_neg qn,Nat.zero_mul]) E hl qn qn) qq E ?_
  refine rd qq ?_;conv=>whnf
  refine⟨by unfold I64;omega,?_⟩
  conv=>whnf
  refine⟨qq,?_⟩
  conv=>whnf
  refine Ve 30 31 [7] m E E (by rw[hcp,Lp m _ qn];exact Nat.le_refl _) (fun i hi=>by simp at hi;subst hi;rfl) ?_
  have hfin:((Ig m k).take k++(Ig m k).take (min k (m-k))++(Ig m k).drop (k+min k (m-k))).take m=Ig m (k+min k (m-k)):=by
   rw[hcp,List.take_of_length_le (by rw[Lp m _ qn];exact Nat.le_refl _)]
  exact Iy (k+min k (m-k)) [(30,31)] qn qn ⟨⟨E,E,E,E,Y⟩,⟨.inl (congrArg (Ob.row 1 Ad) hfin.symm),E,Y⟩,E,E⟩
 ·have hkm:k=m:=by have:=of_decide_eq_false h1;rw[hl]at this;omega
  subst hkm
  rw[Ako]
  refine rg ?_;conv=>whnf
  refine At 30 E ?_
  exact Ac E (.cons .tmp .nil) E E
def Jo (t:List EntryM):SV:=.sl 3 Az t
def K7 (l:List QueuedM):SV:=.sl 7 Bk l
def Ll (n:Net) (k:Nat) (now inj:Int) (d:Nat→Int):List SV :=
 [.sl 5 Bj n.devices,.sl 7 A6 n.ports,.sl 3 Ce n.links,.sl 6 Ar n.domains,.sl 4 Bh n.statics,.sl 4 Bv n.floods,.sl 5 Cq n.vrfs,.sl 5 Cd n.irbs,.ptr k 0,.osl 2,.osl 3,.val (.int .i64 now),.val (.int .i64 inj),
 .val (.int .i64 (d 0)),.val (.int .i64 (d 1)),.val (.int .i64 (d 2)),.val (.int .i64 (d 3)),.val (.int .i64 (d 4)),.val (.int .i64 (d 5)),.val (.int .i64 (d 6)),.val (.int .i64 (d 7)),.val (.int .i64 (d 8)),.val (.int .i64 (d 9)),.val (.int .i64 (d 10)),.val (.int .i64 (d 11)),.val (.int .i64 (d 12)),.val (.int .i64 (d 13)),.val (.int .i64 (d 14)),.val (.int .i64 (d 15)),.val (.int .i64 (d 16)),.val (.int .i64 (d 17)),.val (.int .i64 (d 18)),.val (.int .i64 (d 19)),.val (.int .i64 (d 20)),.val (.int .i64 (d 21)),.val (.int .i64 (d 22)),.val (.int .i64 (d 23)),.val (.int .i64 (d 24)),.val (.int .i64 (d 25)),.val (.int .i64 (d 26)),.val (.int .i64 (d 27)),.val (.int .i64 (d 28)),.val (.int .i64 (d 29)),.val (.int .i64 (d 30)),.val (.int .i64 (d 31)),.val (.int .i64 (d 32)),.val (.int .i64 (d 33)),.val (.int .i64 (d 34)),.val (.int .i64 (d 35)),.val (.int .i64 (d 36)),.val (.int .i64 (d 37)),.val (.int .i64 (d 38)),.val (.int .i64 (d 39)),.val (.int .i64 (d 40)),.val (.int .i64 (d 41)),.val (.int .i64 (d 42)),.val (.int .i64 (d 43)),.val (.int .i64 (d 44)),.val (.int .i64 (d 45)),.val (.int .i64 (d 46)),.val (.int .i64 (d 47)),.val (.int .i64 (d 48)),.val (.int .i64 (d 49)),.val (.int .i64 (d 50)),.val (.int .i64 (d 51)),.val (.int .i64 (d 52)),.val (.int .i64 (d 53)),.val (.int .i64 (d 54)),.val (.int .i64 (d 55)),.val (.int .i64 (d 56)),.val (.int .i64 (d 57)),.val (.int .i64 (d 58)),.val (.int .i64 (d 59)),.val (.int .i64 (d 60)),.val (.int .i64 (d 61)),.val (.int .i64 (d 62)),.val (.int .i64 (d 63))]
def onceL (up:List Bool) (done:Int) (fw:List Bool):List SV:=[.sl 1 Ad up,.val (.int .u32 done),.val (.int .i32 0),.val (.int .u32 0),.sl 1 Ad fw]
def Hm (n:Net) (up:List Bool) (d:Bool):List SV:=onceL up (if d then 1 else 0) (if d then J6 n up else [])
def Cs (n:Net) (m:MacM) (d:Bool):Obs:=[(0,.box (Ll n 1 m.now m.injected m.drops)),(1,.box (Hm n m.up d)),(2,.row 1 Jo m.tables),(3,.row 1 K7 m.queues)]
theorem getI_map (f:Nat→SV):∀ (k a n:Nat),k<n→Dy ((List.range' a n).map f) k=some (f (a+k))
 | 0,a,n+1,_=>rfl
 | k+1,a,n+1,h=>by
  show Dy ((List.range' (a+1) n).map f) k=_
  rw[getI_map f k (a+1) n qn]
  congr 2;omega
theorem Agd (f:Nat→SV) (x:SV):∀ (k a n:Nat),((List.range' a n).map f).set k x=(List.range' a n).map (fun i=>if i=a+k then x else f i)
 | _,_,0=>rfl
 | 0,a,n+1=>by
  show x::(List.range' (a+1) n).map f=(if a=a+0 then x else f a)::(List.range' (a+1) n).map _
  rw[if_pos qn]
  congr 1
  apply List.map_congr_left
  intro i hi
  have:=(List.mem_range'_1.1 hi).1
  rw[if_neg qn]
 | k+1,a,n+1=>by
  show f a::((List.range' (a+1) n).map f).set k x=(if a=a+(k+1) then x else f a)::(List.range' (a+1) n).map _
  rw[if_neg qn,Agd f x k (a+1) n]
  congr 1
  apply List.map_congr_left
  intro i _
  rw[show a+1+k=a+(k+1) by omega]
theorem O0 (n:Net) (k:Nat) (now inj:Int) (d:Nat→Int):Ll n k now inj d =
  .sl 5 Bj n.devices::.sl 7 A6 n.ports::.sl 3 Ce n.links::.sl 6 Ar n.domains::.sl 4 Bh n.statics::.sl 4 Bv n.floods::.sl 5 Cq n.vrfs::.sl 5 Cd n.irbs::.ptr k 0::.osl 2::.osl 3::.val (.int .i64 now)::.val (.int .i64 inj) ::
   (List.range' 0 64).map (fun i=>.val (.int .i64 (d i))):=rfl
theorem Akh (n:Net) (k:Nat) (now inj:Int) (d:Nat→Int) (e:Nat) (he:e<64):Dy (Ll n k now inj d) (13+e)=some (.val (.int .i64 (d e))):=by
 rw[O0,Nat.add_comm]
 show Dy ((List.range' 0 64).map (fun i=>SV.val (.int .i64 (d i)))) e=_
 rw[getI_map _ e 0 64 he,Nat.zero_add]
theorem Akg (n:Net) (k:Nat) (now inj:Int) (d:Nat→Int) (e:Nat) (v:Int):(Ll n k now inj d).set (13+e) (.val (.int .i64 v))=Ll n k now inj (fun i=>if i=e then v else d i):=by
 rw[O0,O0,Nat.add_comm]
 have h:=Agd (fun i=>SV.val (.int .i64 (d i))) (.val (.int .i64 v)) e 0 64
 have h2:(fun i=>if i=0+e then SV.val (.int .i64 v) else SV.val (.int .i64 (d i)))=(fun i=>SV.val (.int .i64 (if i=e then v else d i))):=by
  funext i
  rw[Nat.zero_add]
  split<;>rfl
 rw[h2]at h
 rw[← h]
 rfl
theorem add64 (a:Addr) (x y:Int) (w:World) (hc:w.cell? a=some (.int .i64 x)) (hz:w.frozen? a=false):(callFunc 307 #[.pointer (some a),.int .i64 y]).run Tryz.prog w=.ok (.value (.int .i64 (IntKind.i64.wrap (x+y)))) (w.setCell a (.int .i64 (IntKind.i64.wrap (x+y)))) :=
 run_call_add Tryz.func307 qq qq qq .i64 qq hc hz rfl
theorem Aho (n:Net) (k:Nat) (m:MacM) (e:Int):Ll n k m.now m.injected (B9 m e).drops=(Ll n k m.now m.injected m.drops).set (13+e.toNat) (.val (.int .i64 (m.drops e.toNat+1))):=by
 rw[Akg]
 congr 1
 funext i
 show (if i=e.toNat then m.drops i+1 else m.drops i)=_
 split
 ·rename_i h;rw[h]
 ·rfl
theorem Afs {x:Int} (h:0≤x∧x≤1000000000000):IntKind.i64.wrap (x+1)=x+1:=by
 rw[IntKind.wrap_i64];omega
theorem Af2 (n:Net) (m:MacM) (d:Bool) (e:Int) (h0:0≤e) (h1:e<64) (hb:IntKind.i64.wrap (m.drops e.toNat+1)=m.drops e.toNat+1) :
  Sy.Spec Tryz.prog 240 [.ptr 0 (13+e.toNat),Aa 1] (Cs n m d) (Aa (m.drops e.toNat+1)) (Cs n (B9 m e) d):=Ab Γ hm 100 F240 Tryz.ntmps240 rfl fun F hF=>by
 have hg:=Akh n 1 m.now m.injected m.drops e.toNat qn
 have hs:=Aho n 1 m e
 have hlt:=U7 hg
 ((conv=>whnf);repeat((first|refine aF ?_|refine aT ?_);(first|refine rG Γ hm ?_|refine rD Γ hm qq ?_);conv=>whnf))
 refine Ah (Z9 add64 E E E E hg hb) E E ?_
 ((first|refine rG Γ hm ?_|refine rD Γ hm qq ?_);(conv=>whnf);repeat((first|refine aF ?_|refine aT ?_);(first|refine rG Γ hm ?_|refine rD Γ hm qq ?_);conv=>whnf))
 exact done E (.cons .tmp .nil) [] (Cs n (B9 m e) d) (fun _ h=>h) E E ⟨Y,⟨.inl (congrArg Ob.box hs),E,.inl E,E,.inl E,E,.inl E,E,Y⟩,E,E⟩
theorem Adc (n:Net) (m:MacM) (d:Bool) (e:Int) (h0:0≤e) (h1:e<64) (hb:0≤m.drops e.toNat∧m.drops e.toNat≤1000000000000) :
  Sy.Spec Tryz.prog 176 [.ptr 0 0,Aa e] (Cs n m d) (.tup []) (Cs n (B9 m e) d):=Ab Γ hm 100 F176 Tryz.ntmps176 rfl fun F hF=>by
 ((conv=>whnf);repeat((first|refine aF ?_|refine aT ?_);(first|refine rG Γ hm ?_|refine rD Γ hm qq ?_);conv=>whnf))
 refine⟨h0,by omega,?_⟩
 ((first|refine rG Γ hm ?_|refine rD Γ hm qq ?_);(conv=>whnf);repeat((first|refine aF ?_|refine aT ?_);(first|refine rG Γ hm ?_|refine rD Γ hm qq ?_);conv=>whnf))
 refine Ah (Aj [] E F240 (Af2 n m d e h0 h1 (Afs hb)) (congrArg (fun z=>[SV.ptr 0 z,Aa 1]) (show 13+e.toNat=0+13+e.toNat * 1 by omega)) ⟨E,E,E,E,Y⟩ E ⟨.inl E,.inl E,.inl E,.inl E,Y⟩) E E ?_
 ((first|refine rG Γ hm ?_|refine rD Γ hm qq ?_);(conv=>whnf);repeat((first|refine aF ?_|refine aT ?_);(first|refine rG Γ hm ?_|refine rD Γ hm qq ?_);conv=>whnf))
 exact Ba E .nil [] (Cs n (B9 m e) d) (fun _ h=>h) E E ⟨Y,⟨.inl E,E,.inl E,E,.inl E,E,.inl E,E,Y⟩,E,E⟩
theorem Agb (n:Net) (m:MacM) (d:Bool) (dom:Int) :
  Sy.Spec Tryz.prog 119 [.ptr 0 0,Aa dom] (Cs n m d) (Ad (Ak dom m.queues.length)) (Cs n m d):=Ab Γ hm 100 F119 Tryz.ntmps119 rfl fun F hF=>by
 have hres:Ak dom m.queues.length=(decide (0≤dom) && decide (dom<m.queues.length)):=rfl
 generalize Ak dom m.queues.length=res at *
 ((conv=>whnf);repeat((first|refine aF ?_|refine aT ?_);(first|refine rG Γ hm ?_|refine rD Γ hm qq ?_);conv=>whnf))
 refine⟨fun h=>?_,fun h=>?_⟩
 ·((first|refine rG Γ hm ?_|refine rD Γ hm qq ?_);(conv=>whnf);repeat((first|refine aF ?_|refine aT ?_);(first|refine rG Γ hm ?_|refine rD Γ hm qq ?_);conv=>whnf))
  (repeat (first | (refine⟨fun h=>False.elim (by first | (exact absurd h qx) | (simp at h;done) | (simp at h;omega)),fun _=>?_⟩;((first|refine rG Γ hm ?_|refine rD Γ hm qq ?_);(conv=>whnf);repeat((first|refine aF ?_|refine aT ?_);(first|refine rG Γ hm ?_|refine rD Γ hm qq ?_);conv=>whnf))) | (refine⟨fun _=>?_,fun h=>False.elim (by first | (exact absurd h qx) | (simp at h;done) | (simp at h;omega))⟩;((first|refine rG Γ hm ?_|refine rD Γ hm qq ?_);(conv=>whnf);repeat((first|refine aF ?_|refine aT ?_);(first|refine rG Γ hm ?_|refine rD Γ hm qq ?_);conv=>whnf)))))
  refine done E (.cons .tmp .nil) [] (Cs n m d) (fun _ h=>h) ?_ E ⟨Y,⟨.inl E,E,.inl E,E,.inl E,E,.inl E,E,Y⟩,E,E⟩
  rw[hres,h]
  rfl
 ·((first|refine rG Γ hm ?_|refine rD Γ hm qq ?_);(conv=>whnf);repeat((first|refine aF ?_|refine aT ?_);(first|refine rG Γ hm ?_|refine rD Γ hm qq ?_);conv=>whnf))
  (repeat (first | (refine⟨fun h=>False.elim (by first | (exact absurd h qx) | (simp at h;done) | (simp at h;omega)),fun _=>?_⟩;((first|refine rG Γ hm ?_|refine rD Γ hm qq ?_);(conv=>whnf);repeat((first|refine aF ?_|refine aT ?_);(first|refine rG Γ hm ?_|refine rD Γ hm qq ?_);conv=>whnf))) | (refine⟨fun _=>?_,fun h=>False.elim (by first | (exact absurd h qx) | (simp at h;done) | (simp at h;omega))⟩;((first|refine rG Γ hm ?_|refine rD Γ hm qq ?_);(conv=>whnf);repeat((first|refine aF ?_|refine aT ?_);(first|refine rG Γ hm ?_|refine rD Γ hm qq ?_);conv=>whnf)))))
  refine done E (.cons .tmp .nil) [] (Cs n m d) (fun _ h=>h) ?_ E ⟨Y,⟨.inl E,E,.inl E,E,.inl E,E,.inl E,E,Y⟩,E,E⟩
  rw[hres,h]
  rfl
end Go.Sy.YteinjapglfkamaaGreat
