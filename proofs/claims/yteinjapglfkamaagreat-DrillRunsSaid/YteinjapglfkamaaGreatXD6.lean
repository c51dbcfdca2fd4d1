/-
  T8 T9 T10 T11 T12 T13 T15 T16 T17 T14 T19 T21 Z0 Z1 Z2 Sy34 Sy35 Sy36 Sy37 Sy38 Z3: parts of a proof, joined by program.
-/
import Derived.Test.YteinjapglfkamaaGreatXD5
import Derived.Test.YteinjapglfkamaaGreatXD3
import Derived.Laws.LoneSync
namespace Go.Sy.YteinjapglfkamaaGreat
open Go.Proofs
attribute [local irreducible] Go.Sy.G Go.Sy.DR
set_option maxRecDepth 100000
set_option maxHeartbeats 4000000
theorem best_lt {n:Net} {up:List Bool} {ranks roots costs:List Int} {dev:Int} (h:0≤Hk n up ranks roots costs dev):Hk n up ranks roots costs dev<n.ports.length:=by
 have hmem:=@Aj2 (Ik n up ranks roots costs dev n.ports.length)
 unfold Hk at *
 simp only at *
 split at h
 ·omega
 ·rename_i hc
  rw[if_neg hc]
  simp only[Bool.or_eq_true,Bool.not_eq_true',not_or]at hc
  have h2:=hmem (by simpa using hc.1)
  obtain ⟨i,hi,he⟩:=List.mem_filterMap.1 h2
  have hi:=List.mem_range.1 hi
  unfold Vv at he
  simp only at he
  split at he
  ·have e:=congrArg Vec.own (Option.some.inj he)
   simp only at e
   omega
  ·cases he
def O3 (n:Net) (up:List Bool) (ranks costs:List Int) (i:Nat):Int :=
 if Cd n up i<0 then 0 else if Ki n ranks costs i (Cd n up i).toNat then 2 else 3
def H5 (n:Net) (up:List Bool) (ranks costs:List Int) (j:Nat):List Int:=(List.range n.ports.length).map fun i=>if i<j then O3 n up ranks costs i else 0
theorem Lv (n:Net) (up:List Bool) (ranks costs:List Int) (j:Nat):(H5 n up ranks costs j).length=n.ports.length:=by simp[H5]
theorem Af2 (n:Net) (up:List Bool) (ranks costs:List Int):H5 n up ranks costs 0=List.replicate n.ports.length 0:=by
 rw[H5]
 exact List.ext_getElem qz qz
theorem Af3 (n:Net) (up:List Bool) (ranks costs:List Int) (j:Nat) (hj:j<n.ports.length):H5 n up ranks costs (j+1)=(H5 n up ranks costs j).set j (O3 n up ranks costs j):=by
 refine List.ext_getElem (by simp[H5]) (fun i h1 h2=>?_)
 rw[List.getElem_set]
 simp only[H5,List.getElem_map,List.getElem_range]
 rcases Nat.lt_trichotomy i j with h | h | h
 ·rw[if_pos qn,if_neg qn,if_pos h]
 ·subst h;rw[if_pos qn,if_pos rfl]
 ·rw[if_neg qn,if_neg qn,if_neg qn]
theorem Af4 (n:Net) (up:List Bool) (ranks costs:List Int) (j:Nat) (h:O3 n up ranks costs j=0):H5 n up ranks costs (j+1)=H5 n up ranks costs j:=by
 simp only[H5]
 refine List.map_congr_left (fun i _=>?_)
 by_cases hij:i<j
 ·rw[if_pos qn,if_pos hij]
 ·by_cases he:i=j
  ·subst he;rw[if_pos qn,if_neg hij,h]
  ·rw[if_neg qn,if_neg hij]
def Ip (n:Net) (up:List Bool) (ranks roots costs:List Int):Nat→List Int
 | 0=>H5 n up ranks costs n.ports.length
 | d+1=>if 0≤Hk n up ranks roots costs d then (Ip n up ranks roots costs d).set (Hk n up ranks roots costs d).toNat 1 else Ip n up ranks roots costs d
theorem Hr (n:Net) (up:List Bool) (ranks roots costs:List Int):∀ d,(Ip n up ranks roots costs d).length=n.ports.length
 | 0=>Lv n up ranks costs _
 | d+1=>by
  rw[Ip]
  split
  ·rw[List.length_set,Hr]
  ·rw[Hr]
theorem rolesS (n:Net) (up:List Bool) (ranks roots costs:List Int) (hr:Ae n=true) (hu:up.length=n.links.length) (hcost:Cq n=true) (hrk:ranks.length=n.devices.length) (hro:roots.length=n.devices.length) (hc:costs.length=n.devices.length)
  (hb:∀ c∈costs,0≤c∧c<1000000000) :
  Sy.Spec Tryz.prog 161 [Oz n up ranks roots costs] [] (.sl 1 Aa (Ip n up ranks roots costs n.devices.length)) []:=cT F161 Tryz.ntmps161 fun F hF=>by
 have hf:=C1 hr
 conv=>whnf
 refine Ad (B5 Γ.toTy (d:=14) (n:=n.ports.length) Aa 0 E E E E E E E E qn qn E E E) E E ?_
 rw[← Af2 n up ranks costs]
 refine oO ?_
 refine At n.ports.length (fun j=>[(0,Oz n up ranks roots costs),(3,.osl 14),(20,Aa n.ports.length),(21,Aa j)]) (fun j=>[(14,.row 1 Aa (H5 n up ranks costs j))]) []
  ⟨⟨rfl,rfl,rfl,rfl,rfl,rfl,rfl,rfl,trivial⟩,⟨.inl rfl,rfl,trivial⟩,rfl,rfl⟩ ?_
 intro j hj
 refine oO ?_
 refine⟨fun h=>?_,fun h=>?_⟩
 ·have hlt:j<n.ports.length:=by simpa using h
  have hfar:=farS n up ranks (.sl 1 Aa roots) (.sl 1 Aa costs) rfl j hr hu hlt
  have hfl:=Tx (up:=up) hr hlt
  have hlen:=Lv n up ranks costs j
  have hrole:O3 n up ranks costs j=if Cd n up j<0 then 0 else if Ki n ranks costs j (Cd n up j).toNat then 2 else 3:=rfl
  have hsucc:=Af3 n up ranks costs j hlt
  have hsame:=Af4 n up ranks costs j
  generalize Cd n up j=k at *
  refine oO ?_
  refine c0 hfar F222 ?_
  refine oO ?_
  refine⟨fun h=>?_,fun h=>?_⟩
  ·have hk:k<0:=of_decide_eq_true h
   rw[if_pos hk]at hrole
   refine oO ?_
   refine iW ?_
   exact An [] hlt ⟨⟨E,E,E,E,E,E,E,E,Y⟩,⟨.inl (congrArg (Ob.row 1 Aa) (hsame hrole)),E,Y⟩,E,E⟩
  have hk:¬ k<0:=of_decide_eq_false h
  rw[if_neg hk]at hrole
  obtain ⟨m,rfl⟩:∃ m:Nat,k=m:=⟨k.toNat,by omega⟩
  have hah:=Aie n up ranks roots costs j m hr hrk hc hlt qn
  rw[Int.toNat_natCast]at hrole
  refine oO ?_
  refine c0 hah F223 ?_
  refine oO ?_
  refine⟨fun h=>?_,fun h=>?_⟩
  ·rw[h,if_pos rfl]at hrole
   rw[hrole]at hsucc
   refine oO ?_
   refine⟨by omega,by omega,?_⟩
   conv=>whnf
   refine⟨E,by omega,2,E,E,?_⟩
   conv=>whnf
   refine iW ?_
   exact An [] hlt ⟨⟨E,E,E,E,E,E,E,E,Y⟩,⟨.inl (congrArg (Ob.row 1 Aa) hsucc),E,Y⟩,E,E⟩
  ·rw[h]at hrole
   simp only[Bool.false_eq_true,if_false]at hrole
   rw[hrole]at hsucc
   refine oO ?_
   refine⟨by omega,by omega,?_⟩
   conv=>whnf
   refine⟨E,by omega,3,E,E,?_⟩
   conv=>whnf
   refine iW ?_
   exact An [] hlt ⟨⟨E,E,E,E,E,E,E,E,Y⟩,⟨.inl (congrArg (Ob.row 1 Aa) hsucc),E,Y⟩,E,E⟩
 have hjl:j=n.ports.length:=by
  have:¬ j<n.ports.length:=by simpa using h
  omega
 subst hjl
 refine oO ?_
 refine At n.devices.length (fun d=>[(0,Oz n up ranks roots costs),(3,.osl 14),(47,Aa n.devices.length),(48,Aa d)]) (fun d=>[(14,.row 1 Aa (Ip n up ranks roots costs d))]) []
  ⟨⟨rfl,rfl,rfl,rfl,rfl,rfl,rfl,rfl,trivial⟩,⟨.inl rfl,rfl,trivial⟩,rfl,rfl⟩ ?_
 clear hj h
 intro d hdle
 refine oO ?_
 refine⟨fun h=>?_,fun h=>?_⟩
 ·have hlt:d<n.devices.length:=by simpa using h
  have hbs:=bestS n up ranks roots costs d hr hu hcost hrk hro hc hb qn
  have hbl:=@best_lt n up ranks roots costs d
  have hlen:=Hr n up ranks roots costs d
  have hsucc:Ip n up ranks roots costs (d+1)=if 0≤Hk n up ranks roots costs d then (Ip n up ranks roots costs d).set (Hk n up ranks roots costs d).toNat 1 else Ip n up ranks roots costs d:=rfl
  generalize Hk n up ranks roots costs d=k at *
  refine oO ?_
  refine c0 hbs F224 ?_
  refine oO ?_
  refine⟨fun h=>?_,fun h=>?_⟩
  ·have hk:0≤k:=of_decide_eq_true h
   rw[if_pos hk]at hsucc
   refine oO ?_
   refine⟨hk,by omega,?_⟩
   conv=>whnf
   refine⟨E,by omega,1,E,E,?_⟩
   conv=>whnf
   refine iW ?_
   exact An [] hlt ⟨⟨E,E,E,E,E,E,E,E,Y⟩,⟨.inl (congrArg (Ob.row 1 Aa) hsucc),E,Y⟩,E,E⟩
  ·have hk:¬ 0≤k:=of_decide_eq_false h
   rw[if_neg hk]at hsucc
   refine oO ?_
   refine iW ?_
   exact An [] hlt ⟨⟨E,E,E,E,E,E,E,E,Y⟩,⟨.inl (congrArg (Ob.row 1 Aa) hsucc),E,Y⟩,E,E⟩
 have hdl:d=n.devices.length:=by
  have:¬ d<n.devices.length:=by simpa using h
  omega
 subst hdl
 refine oO ?_
 refine Ao 14 E ?_
 exact dN
def Aca (n:Net) (up:List Bool) (ranks:List Int) (roots costs:List Int):Obs:=[(0,.box (Ss n up ranks (.osl 1) (.osl 2))),(1,.row 1 Aa roots),(2,.row 1 Aa costs)]
theorem farR (n:Net) (up:List Bool) (ranks roots costs:List Int) (i:Nat) (hr:Ae n=true) (hu:up.length=n.links.length) (hi:i<n.ports.length) :
  Sy.Spec Tryz.prog 222 [.ptr 0 0,Aa i] (Aca n up ranks roots costs) (Aa (Cd n up i)) (Aca n up ranks roots costs):=cT F222 Tryz.ntmps222 fun F hF=>by
 have hpl:=E5 hr hi
 have hf:=C1 hr
 have e1:n.ports[(i:Int).toNat]'qn=n.ports[i]:=rfl
 have hfar:Cd n up i=if n.ports[i].link<0 || !(up.getD n.ports[i].link.toNat false) then -1 else (nth n.links n.ports[i].link).a+(nth n.links n.ports[i].link).b-i:=by
  rw[Cd,A9 hi]
 generalize hp:n.ports[i]=p at *
 have hle:=fun h=>I5 hr (i:=p.link.toNat) h
 conv=>whnf
 refine⟨E,by omega,by omega,?_⟩
 rw[e1]
 conv=>whnf
 (repeat' (first | (refine⟨fun h=>?_,fun h=>?_⟩<;>(repeat (first | simp only[decide_eq_true_eq]at h | simp only[decide_eq_false_iff_not]at h | simp only[Bool.not_eq_true']at h | simp only[Bool.not_eq_false']at h))<;>((first|refine rg ?_|refine rd qq ?_);(conv=>whnf))) | (refine⟨qq,?_⟩;((conv=>whnf);repeat((refine aT ?_);(refine oO ?_)))) | (refine⟨by (first | omega | ((have hq:=hle qn;unfold I64;omega))),by (first | omega | ((have hq:=hle qn;unfold I64;omega))),?_⟩;((conv=>whnf))) | refine done rfl (.cons .tmp .nil) [] (Aca n up ranks roots costs) (fun _ h=>h) ?_ rfl ⟨trivial,⟨.inl rfl,rfl,.inl rfl,rfl,.inl rfl,rfl,trivial⟩,rfl,rfl⟩))
 all_goals (refine congrArg Aa ?_;rw[hfar])
 ·simp_all
 ·have h1:up.getD p.link.toNat false=false:=by rw[A9 qn];assumption
  rw[h1];simp
 ·have h1:up.getD p.link.toNat false=true:=by rw[A9 qn];assumption
  rw[h1,Ak qn]
  simp_all
def Dn (n:Net) (up:List Bool) (x:Item) (q:List Item) (i:Nat):List Item :=
 if (n.ports.getD i default).dev=x.dev∧0≤Cd n up i then S0 q ⟨x.root,x.cost+(nth n.ports (Cd n up i)).cost,(nth n.ports (Cd n up i)).dev⟩ else q
def M0 (n:Net) (up:List Bool) (s:List Item × List Int × List Int):List Item × List Int × List Int :=
 let x:=(Db s.1).getLast?.getD default
 let q:=(Db s.1).dropLast
 if 0≤nth s.2.1 x.dev then (q,s.2) else ((List.range n.ports.length).foldl (Dn n up x) q,s.2.1.set x.dev.toNat x.root,s.2.2.set x.dev.toNat x.cost)
def Hm (n:Net) (up:List Bool):Nat→List Item × List Int × List Int→List Item × List Int × List Int
 | 0,s=>s
 | f+1,s=>if s.1=[] then s else Hm n up f (M0 n up s)
end Go.Sy.YteinjapglfkamaaGreat
namespace Go.Sy.YteinjapglfkamaaGreat
theorem Td (q:List Item) (i j:Nat) (hi:i<q.length) (hj:j<q.length):(D8 q i j).Perm q:=by
 rw[D8,A9 hi,A9 hj]
 exact List.set_set_perm hi hj
theorem Afj:∀ (f:Nat) (q:List Item) (j:Nat),j<q.length→(upF f q j).Perm q
 | 0,_,_,_=>.refl _
 | f+1,q,j,hj=>by
  rw[upF]
  split
  ·exact .refl _
  ·split
   ·exact(Afj f _ _ (by rw[A6];omega)).trans (Td q _ _ qn hj)
   ·exact .refl _
theorem Aay:∀ (f:Nat) (q:List Item) (i n:Nat),i<q.length→n≤q.length→(D6 f q i n).1.Perm q
 | 0,_,_,_,_,_=>.refl _
 | f+1,q,i,n,hi,hn=>by
  rw[D6]
  split
  ·rename_i h
   have hc:=Mo q i n h
   split
   ·exact(Aay f _ _ n (by rw[A6];omega) (by rw[A6];exact hn)).trans (Td q _ _ hi qn)
   ·exact .refl _
  ·exact .refl _
theorem M1 (q:List Item) (x:Item):(S0 q x).Perm (x::q) :=
 (Afj _ _ _ qz).trans (List.perm_append_comm (l₁:=q) (l₂:=[x]))
theorem Kb (q:List Item) (x:Item):(S0 q x).length=q.length+1:=by rw[S0,Yu];simp
theorem Sa (q:List Item) (hq:q≠[]):(Db q).Perm q:=by
 have h0:0<q.length:=List.length_pos_iff.2 hq
 exact(Aay _ _ _ _ (by rw[A6];exact h0) (by rw[A6];omega)).trans (Td q _ _ h0 qn)
def K8 (q:List Item) (n:Nat):Prop:=∀ c,0<c→c<n→c<q.length→Ca (q.getD c default) (q.getD ((c-1) / 2) default)=false
theorem M8 {x y z:Item} (h1:Ca y x=false) (h2:Ca z y=false):Ca z x=false:=by
 unfold Ca at *
 grind
theorem Akc {q:List Item} {n:Nat} (h:K8 q n) (hn:n≤q.length):∀ c,c<n→Ca (q.getD c default) (q.getD 0 default)=false:=by
 intro c
 induction c using Nat.strongRecOn with
 | ind c ih =>
  intro hc
  rcases Nat.eq_zero_or_pos c with h0 | h0
  ·subst h0;unfold Ca;grind
  ·have h1:=h c h0 hc qn
   have h2:=ih ((c-1) / 2) qn qn
   exact M8 h2 h1
theorem Ew (q:List Item) (i j c:Nat) (hi:i<q.length) (hj:j<q.length):(D8 q i j).getD c default=if c=j then q.getD i default else if c=i then q.getD j default else q.getD c default:=by
 rw[D8]
 simp only[List.getD_eq_getElem?_getD,List.getElem?_set,List.length_set]
 by_cases h1:c=j
 ·subst h1;simp[hj]
 ·rw[if_neg (Ne.symm h1),if_neg h1]
  by_cases h2:c=i
  ·subst h2;simp[hi]
  ·rw[if_neg (Ne.symm h2),if_neg h2]
theorem M9 {x y:Item} (h:Ca x y=true):Ca y x=false:=by
 unfold Ca at *
 grind
structure UpInv (q:List Item) (j n:Nat):Prop where
 heap:∀ c,0<c→c<n→c≠j→Ca (q.getD c default) (q.getD ((c-1) / 2) default)=false
 over:∀ c,0<c→c<n→(c-1) / 2=j→0<j→Ca (q.getD c default) (q.getD ((j-1) / 2) default)=false
theorem Afk (n:Nat):∀ (f:Nat) (q:List Item) (j:Nat),j≤f→j<n→n≤q.length→UpInv q j n→K8 (upF f q j) n
 | 0,q,j,hf,hj,hn,hI=>by
  have:j=0:=by omega
  subst this
  exact fun c h0 hc _=>hI.heap c h0 hc qn
 | f+1,q,j,hf,hj,hn,hI=>by
  rw[upF]
  split
  ·rename_i h0
   subst h0
   exact fun c h0 hc _=>hI.heap c h0 hc qn
  ·rename_i h0
   split
   ·rename_i hlt
    have hp:(j-1) / 2<j:=by omega
    refine Afk n f _ _ qn qn (by rw[A6];exact hn) ⟨fun c hc0 hcn hcp=>?_,fun c hc0 hcn hpar hp0=>?_⟩
    ·rw[Ew _ _ _ _ qn qn,Ew _ _ _ _ qn qn]
     by_cases hcj:c=j
     ·subst hcj
      rw[if_pos rfl,if_neg qn,if_pos rfl]
      exact M9 hlt
     ·rw[if_neg hcj,if_neg hcp]
      by_cases hpj:(c-1) / 2=j
      ·rw[if_pos hpj]
       exact hI.over c hc0 hcn hpj qn
      ·rw[if_neg hpj]
       by_cases hpp:(c-1) / 2=(j-1) / 2
       ·rw[if_pos hpp]
        have:=hI.heap c hc0 hcn hcj
        rw[hpp]at this
        exact M8 (M9 hlt) this
       ·rw[if_neg hpp]
        exact hI.heap c hc0 hcn hcj
    ·rw[Ew _ _ _ _ qn qn,Ew _ _ _ _ qn qn]
     have hpI:=hI.heap ((j-1) / 2) hp0 qn qn
     rw[if_neg (show ((j-1) / 2-1) / 2≠j by omega),if_neg (show ((j-1) / 2-1) / 2≠(j-1) / 2 by omega)]
     by_cases hcj:c=j
     ·rw[if_pos hcj];exact hpI
     ·rw[if_neg hcj,if_neg qn]
      have:=hI.heap c hc0 hcn hcj
      rw[hpar]at this
      exact M8 hpI this
   ·rename_i hlt
    intro c hc0 hcn _
    by_cases hcj:c=j
    ·subst hcj;simpa using hlt
    ·exact hI.heap c hc0 hcn hcj
theorem Mj {q r:List Item} {c:Nat} (h:c<q.length):(q++r).getD c default=q.getD c default:=by
 simp[List.getD_eq_getElem?_getD,List.getElem?_append_left h]
theorem Zq (q:List Item) (x:Item) (h:K8 q q.length):K8 (S0 q x) (S0 q x).length:=by
 rw[Kb]
 refine Afk (q.length+1) _ _ _ (Nat.le_refl _) qn qz ⟨fun c hc0 hcn hcj=>?_,fun c hc0 hcn hpar hp0=>by omega⟩
 rw[Mj qn,Mj qn]
 exact h c hc0 qn qn
structure DownInv (q:List Item) (i n:Nat):Prop where
 heap:∀ c,0<c→c<n→(c-1) / 2≠i→Ca (q.getD c default) (q.getD ((c-1) / 2) default)=false
 over:∀ c,0<c→c<n→(c-1) / 2=i→0<i→Ca (q.getD c default) (q.getD ((i-1) / 2) default)=false
theorem Aol (q:List Item) (i n c:Nat) (_h:2 * i+1<n) (hc0:0<c) (hc:c<n) (hp:(c-1) / 2=i):Ca (q.getD c default) (q.getD (D2 q i n) default)=false:=by
 have hcc:c=2 * i+1∨c=2 * i+2:=by omega
 unfold D2
 split
 ·rename_i hh
  rcases hcc with rfl | rfl
  ·exact M9 hh.2
  ·unfold Ca;grind
 ·rename_i hh
  rcases hcc with rfl | rfl
  ·unfold Ca;grind
  ·cases hlt:Ca (q.getD (2 * i+2) default) (q.getD (2 * i+1) default) with
   | false=>rfl
   | true=>exact absurd ⟨hc,hlt⟩ hh
theorem Aaz (n:Nat):∀ (f:Nat) (q:List Item) (i:Nat),n≤f+i→i<q.length→n≤q.length→DownInv q i n→K8 (D6 f q i n).1 n
 | 0,q,i,hf,hi,hn,hI=>fun c hc0 hc _=>hI.heap c hc0 hc qn
 | f+1,q,i,hf,hi,hn,hI=>by
  rw[D6]
  split
  ·rename_i h
   have hcl:=Mo q i n h
   have hpar:(D2 q i n-1) / 2=i:=by unfold D2;split<;>omega
   have hle:=fun c=>Aol q i n c h
   generalize D2 q i n=k at *
   split
   ·rename_i hlt
    refine Aaz n f _ _ qn (by rw[A6];omega) (by rw[A6];exact hn) ⟨fun c hc0 hcn hck=>?_,fun c hc0 hcn hcp hk0=>?_⟩
    ·rw[Ew _ _ _ _ hi qn,Ew _ _ _ _ hi qn,if_neg hck]
     by_cases hc1:c=k
     ·subst hc1
      rw[if_pos rfl,if_pos hpar]
      exact M9 hlt
     ·rw[if_neg hc1]
      by_cases hc2:c=i
      ·subst hc2
       rw[if_pos rfl,if_neg qn]
       exact hI.over k qn hcl.1 hpar hc0
      ·rw[if_neg hc2]
       by_cases hc3:(c-1) / 2=i
       ·rw[if_pos hc3];exact hle c hc0 hcn hc3
       ·rw[if_neg hc3];exact hI.heap c hc0 hcn hc3
    ·rw[Ew _ _ _ _ hi qn,Ew _ _ _ _ hi qn]
     rw[if_neg qn,if_neg qn,hpar,if_neg qn,if_pos rfl]
     have:=hI.heap c hc0 hcn qn
     rwa [hcp]at this
   ·rename_i hlt
    intro c hc0 hcn _
    by_cases hc3:(c-1) / 2=i
    ·rw[hc3]
     exact M8 (by simpa using hlt) (hle c hc0 hcn hc3)
    ·exact hI.heap c hc0 hcn hc3
  ·exact fun c hc0 hc _=>hI.heap c hc0 hc qn
theorem Aax (n:Nat):∀ (f:Nat) (q:List Item) (i c:Nat),i<n→n≤q.length→n≤c→(D6 f q i n).1.getD c default=q.getD c default
 | 0,_,_,_,_,_,_=>rfl
 | f+1,q,i,c,hi,hn,hc=>by
  rw[D6]
  split
  ·rename_i h
   have hcl:=Mo q i n h
   split
   ·rw[Aax n f _ _ c qn (by rw[A6];exact hn) hc,Ew _ _ _ _ qn qn,if_neg qn,if_neg qn]
   ·rfl
  ·rfl
theorem Agk (q:List Item) (hq:q≠[]):(Db q).getLast (D7 hq)=q.getD 0 default:=by
 have h0:0<q.length:=List.length_pos_iff.2 hq
 rw[List.getLast_eq_getElem,← A9 (show (Db q).length-1<(Db q).length by rw[Eg];omega),Eg]
 by_cases h1:q.length=1
 ·have:Db q=q:=by
   obtain ⟨x,rfl⟩:=List.length_eq_one_iff.1 h1
   rfl
  rw[this,h1]
 ·rw[Db,Aax _ _ _ _ _ qn (by rw[A6];omega) (Nat.le_refl _),Ew _ _ _ _ h0 qn,if_pos rfl]
theorem Anl (q:List Item) (hq:q≠[]):(Db q).dropLast++[q.getD 0 default]=Db q:=by
 rw[← Agk q hq];exact List.dropLast_concat_getLast (D7 hq)
theorem Ap7 (q:List Item) (hq:q≠[]):(q.getD 0 default::(Db q).dropLast).Perm q :=
 ((List.perm_append_comm (l₁:=[q.getD 0 default]) (l₂:=(Db q).dropLast)).trans (by rw[Anl q hq])).trans (Sa q hq)
theorem Ap8 (q:List Item) (hq:q≠[]) (h:K8 q q.length):K8 (Db q).dropLast (Db q).dropLast.length:=by
 have h0:0<q.length:=List.length_pos_iff.2 hq
 have hd:(Db q).dropLast.length=q.length-1:=by rw[List.length_dropLast,Eg]
 have hh:K8 (Db q) (q.length-1):=by
  rw[Db]
  refine Aaz (q.length-1) _ _ _ qn (by rw[A6];exact h0) (by rw[A6];omega) ⟨fun c hc0 hcn hp=>?_,fun c hc0 hcn hp h=>by omega⟩
  rw[Ew _ _ _ _ h0 qn,Ew _ _ _ _ h0 qn,if_neg qn,if_neg qn,if_neg qn,if_neg hp]
  exact h c hc0 qn qn
 intro c hc0 hcn _
 rw[hd]at hcn
 have hl:=Eg q
 have e:∀ k,k<q.length-1→(Db q).dropLast.getD k default=(Db q).getD k default:=fun k hk=>by
  rw[A9 (show k<(Db q).dropLast.length by omega),A9 (show k<(Db q).length by omega),List.getElem_dropLast]
 rw[e c hcn,e _ qn]
 exact hh c hc0 hcn qn
theorem Anm (q:List Item) (h:K8 q q.length):∀ x∈q,Ca x (q.getD 0 default)=false:=fun x hx=>by
 obtain ⟨c,hc,rfl⟩:=List.getElem_of_mem hx
 have:=Akc h (Nat.le_refl _) c hc
 rwa [A9 hc]at this
def Ek (ranks:List Int) (j:Nat):List Item:=(List.range j).foldl (fun q (i:Nat)=>S0 q ⟨ranks.getD i 0,0,i⟩) []
theorem Jm (ranks:List Int) (j:Nat):Ek ranks (j+1)=S0 (Ek ranks j) ⟨ranks.getD j 0,0,j⟩:=by
 rw[Ek,List.range_succ,List.foldl_append];rfl
theorem Lt (ranks:List Int):∀ j,(Ek ranks j).length=j
 | 0=>rfl
 | j+1=>by rw[Jm,Kb,Lt ranks j]
def U5 (roots:List Int):Nat:=roots.countP (fun r=>decide (r<0))
def reachM (s:List Item × List Int × List Int):Nat:=41 * U5 s.2.1+s.1.length
structure ReachInv (n:Net) (s:List Item × List Int × List Int):Prop where
 rootsL:s.2.1.length=n.devices.length
 costsL:s.2.2.length=n.devices.length
 items:∀ x∈s.1,0≤x.dev∧x.dev<n.devices.length∧0≤x.root∧0≤x.cost∧x.cost+65535 * U5 s.2.1≤65535 * n.devices.length
 few:s.1.length+40 * U5 s.2.1≤1000
theorem Aqn (roots:List Int):U5 roots≤roots.length:=List.countP_le_length
theorem Anv {roots:List Int} {i:Nat} {v:Int} (h:i<roots.length) (h0:roots[i]<0) (hv:0≤v):U5 (roots.set i v)+1=U5 roots:=by
 have h1:0<roots.countP (fun r=>decide (r<0)):=List.countP_pos_iff.2 ⟨roots[i],List.getElem_mem h,by simpa using h0⟩
 have hv':¬ v<0:=by omega
 rw[U5,U5,List.countP_set h]
 simp only[h0,hv',decide_true,decide_false,if_true,Bool.false_eq_true,if_false]
 omega
theorem Ad8 (n:Net) (up:List Bool) (x:Item) (hr:Ae n=true) (hcost:Cq n=true) {m:Nat} (hx:0≤x.root∧0≤x.cost∧x.cost+65535 * (m+1)≤65535 * n.devices.length) (q:List Item)
  (hq:∀ y∈q,0≤y.dev∧y.dev<n.devices.length∧0≤y.root∧0≤y.cost∧y.cost+65535 * m≤65535 * n.devices.length) (i:Nat) (hi:i<n.ports.length) :
  (∀ y∈Dn n up x q i,0≤y.dev∧y.dev<n.devices.length∧0≤y.root∧0≤y.cost∧y.cost+65535 * m≤65535 * n.devices.length)∧(Dn n up x q i).length≤q.length+1:=by
 rw[Dn]
 split
 ·rename_i h
  have hlt:=Tx hr hi h.2
  have hk:(Cd n up i).toNat<n.ports.length:=by omega
  have hd:=O8 hr hk
  have hpc:1≤n.ports[(Cd n up i).toNat].cost∧n.ports[(Cd n up i).toNat].cost≤65535:=by
   simp only[Cq,Bool.not_eq_true',List.any_eq_false]at hcost
   have:=hcost _ (List.getElem_mem hk)
   simp only[I0,Bool.or_eq_true,decide_eq_true_eq,not_or]at this
   omega
  have e:nth n.ports (Cd n up i)=n.ports[(Cd n up i).toNat]:=Ak (l:=n.ports) (i:=Cd n up i) qn
  rw[e]
  refine⟨fun y hy=>?_,by rw[Kb];omega⟩
  rcases List.mem_cons.1 ((M1 q _).mem_iff.1 hy) with rfl | hy
  ·simp only
   omega
  ·exact hq y hy
 ·exact⟨hq,by omega⟩
theorem Zn (n:Net) (up:List Bool) (x:Item) (hr:Ae n=true) (hcost:Cq n=true) {m:Nat} (hx:0≤x.root∧0≤x.cost∧x.cost+65535 * (m+1)≤65535 * n.devices.length) (q:List Item)
  (hq:∀ y∈q,0≤y.dev∧y.dev<n.devices.length∧0≤y.root∧0≤y.cost∧y.cost+65535 * m≤65535 * n.devices.length):∀ i,i≤n.ports.length →
  (∀ y∈(List.range i).foldl (Dn n up x) q,0≤y.dev∧y.dev<n.devices.length∧0≤y.root∧0≤y.cost∧y.cost+65535 * m≤65535 * n.devices.length)∧((List.range i).foldl (Dn n up x) q).length≤q.length+i
 | 0,_=>⟨hq,by simp⟩
 | i+1,hi=>by
  obtain ⟨h1,h2⟩:=Zn n up x hr hcost hx q hq i qn
  rw[List.range_succ,List.foldl_append]
  obtain ⟨h3,h4⟩:=Ad8 n up x hr hcost hx _ h1 i qn
  exact⟨h3,by simp only[List.foldl_cons,List.foldl_nil];omega⟩
theorem Z5 {q:List Item} (hq:q≠[]):(Db q).getLast?.getD default=(Db q).getLast (D7 hq):=by
 rw[List.getLast?_eq_some_getLast (D7 hq)];rfl
theorem Ku (n:Net) (up:List Bool) (hr:Ae n=true) (hcost:Cq n=true) (s:List Item × List Int × List Int) (hI:ReachInv n s) (hne:s.1≠[]):ReachInv n (M0 n up s)∧reachM (M0 n up s)<reachM s:=by
 have hf:=C1 hr
 have hx:=hI.items _ ((Sa s.1 hne).mem_iff.1 (List.getLast_mem (D7 hne)))
 have hd:∀ y∈(Db s.1).dropLast,y∈s.1:=fun y hy=>(Sa s.1 hne).mem_iff.1 ((List.dropLast_sublist _).subset hy)
 have h0:0<s.1.length:=List.length_pos_iff.2 hne
 have hdl:(Db s.1).dropLast.length+1=s.1.length:=by rw[List.length_dropLast,Eg];omega
 have hfew:=hI.few
 rw[M0,Z5 hne]
 generalize (Db s.1).getLast (D7 hne)=x at *
 split
 ·exact⟨⟨hI.rootsL,hI.costsL,fun y hy=>hI.items y (hd y hy),by simp only;omega⟩,by unfold reachM;simp only;omega⟩
 ·rename_i hneg
  have hk:x.dev.toNat<s.2.1.length:=by rw[hI.rootsL];omega
  rw[Ak (l:=s.2.1) (i:=x.dev) (by rw[hI.rootsL];omega)]at hneg
  have hm:=Anv hk qn hx.2.2.1
  obtain ⟨h1,h2⟩:=Zn n up x hr hcost (m:=U5 (s.2.1.set x.dev.toNat x.root)) ⟨hx.2.2.1,hx.2.2.2.1,by have:=hx.2.2.2.2;omega⟩ (Db s.1).dropLast (fun y hy=>by have:=hI.items y (hd y hy);omega) n.ports.length (Nat.le_refl _)
  exact⟨⟨by simp only[List.length_set];exact hI.rootsL,by simp only[List.length_set];exact hI.costsL,h1,by simp only;omega⟩,by unfold reachM;simp only;omega⟩
theorem W6 (n:Net) (up:List Bool) (hr:Ae n=true) (hcost:Cq n=true):∀ (f g:Nat) (s:List Item × List Int × List Int),ReachInv n s→reachM s≤f→reachM s≤g→Hm n up f s=Hm n up g s
 | 0,0,_,_,_,_=>rfl
 | 0,g+1,s,_,h,_=>by
  have:s.1=[]:=List.eq_nil_of_length_eq_zero (by unfold reachM at h;omega)
  rw[Hm,Hm,if_pos this]
 | f+1,0,s,_,_,h=>by
  have:s.1=[]:=List.eq_nil_of_length_eq_zero (by unfold reachM at h;omega)
  rw[Hm,Hm,if_pos this]
 | f+1,g+1,s,hI,h1,h2=>by
  rw[Hm,Hm]
  split
  ·rfl
  ·rename_i hne
   obtain ⟨h3,h4⟩:=Ku n up hr hcost s hI hne
   exact W6 n up hr hcost f g _ h3 qn qn
def J2 (n:Net) (up:List Bool) (s:List Item × List Int × List Int):List Item × List Int × List Int:=Hm n up (reachM s) s
theorem Ai8 (n:Net) (up:List Bool) (s:List Item × List Int × List Int) (h:s.1=[]):J2 n up s=s:=by
 rw[J2]
 cases reachM s with
 | zero=>rfl
 | succ m=>rw[Hm,if_pos h]
theorem Agi (n:Net) (up:List Bool) (hr:Ae n=true) (hcost:Cq n=true) (s:List Item × List Int × List Int) (hI:ReachInv n s) (hne:s.1≠[]):J2 n up s=J2 n up (M0 n up s):=by
 obtain ⟨h3,h4⟩:=Ku n up hr hcost s hI hne
 rw[J2,J2]
 obtain ⟨m,hm⟩:∃ m,reachM s=m+1:=⟨reachM s-1,by omega⟩
 rw[hm,Hm,if_neg hne]
 exact W6 n up hr hcost _ _ _ h3 qn (Nat.le_refl _)
theorem Wy (ranks:List Int) (m:Nat) (hrr:∀ r∈ranks,0≤r):∀ j,j≤ranks.length→∀ y∈Ek ranks j,0≤y.dev∧y.dev<m+ranks.length∧0≤y.root∧y.cost=0
 | 0,_,y,hy=>by simp[Ek]at hy
 | j+1,hj,y,hy=>by
  rw[Jm]at hy
  rcases List.mem_cons.1 ((M1 _ _).mem_iff.1 hy) with rfl | hy
  ·have h1:=hrr (ranks[j]'qn) (List.getElem_mem _)
   have h2:(0:Int)≤(j:Int)∧(j:Int)<m+ranks.length:=by omega
   exact⟨h2.1,h2.2,by rw[A9 (show j<ranks.length by omega)];exact h1,E⟩
  ·exact Wy ranks m hrr j qn y hy
theorem Ab9 (n:Net) (ranks roots costs:List Int) (hr:Ae n=true) (hrk:ranks.length=n.devices.length) (hro:roots.length=n.devices.length) (hc:costs.length=n.devices.length) (hrr:∀ r∈ranks,0≤r):ReachInv n (Ek ranks ranks.length,roots,costs):=by
 have hf:=C1 hr
 have hm:=Aqn roots
 refine⟨hro,hc,fun y hy=>?_,by simp only[Lt];omega⟩
 have:=Wy ranks 0 hrr _ (Nat.le_refl _) y hy
 simp only
 omega
def Le2 (r c r' c':Int):Prop:=r<r'∨(r=r'∧c≤c')
theorem Anz {x y:Item} (h:Ca y x=false):Le2 x.root x.cost y.root y.cost:=by
 simp only[Ca,Bool.or_eq_false_iff,decide_eq_false_iff_not,Bool.and_eq_false_iff,beq_eq_false_iff_ne]at h
 unfold Le2
 omega
theorem Wk {a b c d e f:Int} (h1:Le2 a b c d) (h2:Le2 c d e f):Le2 a b e f:=by
 unfold Le2 at *
 omega
theorem Ag6 {a b c d m:Int} (h1:Le2 a b c d) (hm:0≤m):Le2 a b c (d+m):=by
 unfold Le2 at *
 omega
def Kh (n:Net) (up:List Bool) (i j:Nat):Prop:=i<n.ports.length∧Cd n up i=j
theorem Hn {n:Net} {up:List Bool} (hr:Ae n=true) {i j:Nat} (h:Kh n up i j):j<n.ports.length:=by
 have:=Tx (up:=up) hr h.1 (by rw[h.2];omega)
 rw[h.2]at this
 omega
theorem Wo {n:Net} {up:List Bool} (hr:Ae n=true) {i j:Nat} (h:Kh n up i j) :
  ∃ k:Nat,k<n.links.length∧(nth n.ports i).link=k∧(nth n.ports j).link=k∧up.getD k false=true∧(((nth n.links k).a=i∧(nth n.links k).b=j)∨((nth n.links k).a=j∧(nth n.links k).b=i))∧Bn n i≠Bn n j:=by
 have hj:=Hn hr h
 obtain ⟨hi,hf⟩:=h
 have hp:=Kr hr hi
 have hpl:=E5 hr hi
 simp only[D9,Bool.and_eq_true,Bool.or_eq_true,beq_iff_eq]at hp
 have hp:=hp.2
 have e:nth n.ports i=n.ports[i]:=Ak (l:=n.ports) (i:=(i:Int)) (by simpa using hi)
 unfold Cd at hf
 rw[A9 hi]at hf
 simp only at hf
 split at hf
 ·omega
 ·rename_i hc
  simp only[Bool.or_eq_true,decide_eq_true_eq,not_or,Bool.not_eq_true',Bool.not_eq_false]at hc
  rcases hp with hp | hp
  ·omega
  ·have hl:n.ports[i].link.toNat<n.links.length:=by omega
   have hlk:=Th hr hl
   have he:=I5 hr hl
   have ek:((n.ports[i].link.toNat:Nat):Int)=n.ports[i].link:=by omega
   refine⟨n.ports[i].link.toNat,hl,by rw[e];omega,?_⟩
   simp only[K1,Bool.and_eq_true,beq_iff_eq,bne_iff_ne]at hlk
   obtain ⟨⟨⟨_,hne⟩,h1⟩,h2⟩:=hlk
   rw[ek]
   rw[Ak (l:=n.links) (i:=n.ports[i].link) qn]at hf hp ⊢
   generalize n.links[n.ports[i].link.toNat]=l at *
   rcases hp.2 with ha | hb
   ·have hb:l.b=j:=by omega
    rw[ha,hb]at hne
    rw[hb]at h2
    exact⟨by omega,by simpa using hc.2,.inl ⟨ha,hb⟩,hne⟩
   ·have ha:l.a=j:=by omega
    rw[ha,hb]at hne
    rw[ha]at h1
    exact⟨by omega,by simpa using hc.2,.inr ⟨ha,hb⟩,fun h=>hne h.symm⟩
theorem Aai {n:Net} {up:List Bool} (hr:Ae n=true) {i j:Nat} (h:Kh n up i j):Kh n up j i:=by
 have hj:=Hn hr h
 obtain ⟨k,hk,_,h2,h3,h4,_⟩:=Wo hr h
 refine⟨hj,?_⟩
 unfold Cd
 have e:n.ports.getD j default=nth n.ports j:=rfl
 rw[e]
 simp only[h2,Int.toNat_natCast,h3]
 rw[if_neg qz]
 omega
theorem C0 {n:Net} (hr:Ae n=true) {i:Nat} (hi:i<n.ports.length):0≤Bn n i∧Bn n i<n.devices.length:=by
 rw[Bn,Ak (l:=n.ports) (i:=(i:Int)) (by simpa using hi)]
 exact O8 hr hi
def Der (n:Net) (up:List Bool) (K R C:Int→Int) (r c d:Int):Prop :=
 (r=K d∧c=0)∨∃ i j:Nat,Kh n up i j∧Bn n i=d∧0≤R (Bn n j)∧r=R (Bn n j)∧c=C (Bn n j)+If n i
structure Dij (n:Net) (up:List Bool) (K:Int→Int) (q:List Item) (R C:Int→Int):Prop where
 heap:K8 q q.length
 items:∀ x∈q,Der n up K R C x.root x.cost x.dev
 done:∀ d:Int,0≤d→d<n.devices.length→0≤R d→Der n up K R C (R d) (C d) d
 own:∀ d:Int,0≤d→d<n.devices.length→R d<0→⟨K d,0,d⟩∈q
 push:∀ i j:Nat,Kh n up i j→R (Bn n i)<0→0≤R (Bn n j)→⟨R (Bn n j),C (Bn n j)+If n i,Bn n i⟩∈q
 low:∀ d:Int,0≤d→d<n.devices.length→0≤R d→∀ x∈q,Le2 (R d) (C d) x.root x.cost
 self:∀ d:Int,0≤d→d<n.devices.length→0≤R d→Le2 (R d) (C d) (K d) 0
 tri:∀ i j:Nat,Kh n up i j→0≤R (Bn n i)→0≤R (Bn n j)→Le2 (R (Bn n i)) (C (Bn n i)) (R (Bn n j)) (C (Bn n j)+If n i)
theorem Zl (n:Net) (up:List Bool) (x:Item) (q:List Item) (y:Item):∀ m,y∈(List.range m).foldl (Dn n up x) q↔y∈q∨∃ i,i<m∧Bn n i=x.dev∧0≤Cd n up i∧y=⟨x.root,x.cost+(nth n.ports (Cd n up i)).cost,(nth n.ports (Cd n up i)).dev⟩
 | 0=>by simp
 | m+1=>by
  rw[List.range_succ,List.foldl_append]
  simp only[List.foldl_cons,List.foldl_nil]
  rw[Dn]
  have ih:=Zl n up x q y m
  have e:(n.ports.getD m default).dev=Bn n m:=rfl
  rw[e]
  split
  ·rename_i h
   rw[(M1 _ _).mem_iff,List.mem_cons,ih]
   constructor
   ·rintro (h1 | h1 | ⟨i,h1,h2⟩)
    ·exact .inr ⟨m,by omega,h.1,h.2,h1⟩
    ·exact .inl h1
    ·exact .inr ⟨i,by omega,h2⟩
   ·rintro (h1 | ⟨i,h1,h2,h3,h4⟩)
    ·exact .inr (.inl h1)
    ·by_cases hm:i=m
     ·subst hm;exact .inl h4
     ·exact .inr (.inr ⟨i,by omega,h2,h3,h4⟩)
  ·rename_i h
   rw[ih]
   constructor
   ·rintro (h1 | ⟨i,h1,h2⟩)
    ·exact .inl h1
    ·exact .inr ⟨i,by omega,h2⟩
   ·rintro (h1 | ⟨i,h1,h2,h3,h4⟩)
    ·exact .inl h1
    ·by_cases hm:i=m
     ·subst hm;exact absurd ⟨h2,h3⟩ h
     ·exact .inr ⟨i,by omega,h2,h3,h4⟩
theorem W5 (n:Net) (up:List Bool) (x:Item) (q:List Item) (h:K8 q q.length):∀ m,K8 ((List.range m).foldl (Dn n up x) q) ((List.range m).foldl (Dn n up x) q).length
 | 0=>h
 | m+1=>by
  rw[List.range_succ,List.foldl_append]
  simp only[List.foldl_cons,List.foldl_nil]
  have ih:=W5 n up x q h m
  rw[Dn]
  split
  ·exact Zq _ _ ih
  ·exact ih
theorem Aa2 {n:Net} {up:List Bool} {K R C R' C':Int→Int} {r c d:Int} (h:Der n up K R C r c d) (hs:∀ e,0≤R e→R' e=R e∧C' e=C e):Der n up K R' C' r c d:=by
 rcases h with h | ⟨i,j,h1,h2,h3,h4,h5⟩
 ·exact .inl h
 ·obtain ⟨e1,e2⟩:=hs _ h3
  exact .inr ⟨i,j,h1,h2,by rw[e1];exact h3,by rw[e1];exact h4,by rw[e2];exact h5⟩
theorem Ars {n:Net} {up:List Bool} {K R C:Int→Int} {q q':List Item} {x:Item} (h:Dij n up K q R C) (hp:(x::q').Perm q) (hh:K8 q' q'.length) (hx:0≤R x.dev):Dij n up K q' R C:=by
 have hm:∀ y,y∈q↔y=x∨y∈q':=fun y=>by rw[← hp.mem_iff,List.mem_cons]
 refine⟨hh,fun y hy=>h.items y ((hm y).2 (.inr hy)),h.done,fun d h0 h1 h2=>?_,fun i j hij h1 h2=>?_,fun d h0 h1 h2 y hy=>h.low d h0 h1 h2 y ((hm y).2 (.inr hy)),h.self,h.tri⟩
 ·rcases (hm _).1 (h.own d h0 h1 h2) with e | e
  ·rw[← e]at hx;simp only at hx;omega
  ·exact e
 ·rcases (hm _).1 (h.push i j hij h1 h2) with e | e
  ·rw[← e]at hx;simp only at hx;omega
  ·exact e
theorem Arr {n:Net} {up:List Bool} {K R C R' C':Int→Int} {q q':List Item} {x:Item} (hr:Ae n=true) (hcost:Cq n=true) (h:Dij n up K q R C) (hp:(x::q').Perm q) (hh:K8 q' q'.length)
  (hmin:∀ y∈q,Ca y x=false) (hx:R x.dev<0) (hx0:0≤x.root) (_hxd:0≤x.dev∧x.dev<n.devices.length)
  (hR:∀ e,R' e=if e=x.dev then x.root else R e) (hC:∀ e,C' e=if e=x.dev then x.cost else C e) :
  Dij n up K ((List.range n.ports.length).foldl (Dn n up x) q') R' C':=by
 have hm:∀ y,y∈q↔y=x∨y∈q':=fun y=>by rw[← hp.mem_iff,List.mem_cons]
 have hn:=fun y=>Zl n up x q' y n.ports.length
 have hs:∀ e,0≤R e→R' e=R e∧C' e=C e:=fun e he=>by
  have:e≠x.dev:=fun h=>by rw[h]at he;omega
  rw[hR,hC,if_neg this,if_neg this]
  exact⟨E,E⟩
 have hRd:R' x.dev=x.root:=by rw[hR,if_pos rfl]
 have hCd:C' x.dev=x.cost:=by rw[hC,if_pos rfl]
 have hxq:x∈q:=(hm x).2 (.inl rfl)
 have hle:∀ y∈q,Le2 x.root x.cost y.root y.cost:=fun y hy=>Anz (hmin y hy)
 have hnew:∀ y,y∈(List.range n.ports.length).foldl (Dn n up x) q'↔y∈q'∨∃ i j:Nat,Kh n up i j∧Bn n i=x.dev∧y=⟨x.root,x.cost+If n j,Bn n j⟩:=fun y=>by
  rw[hn y]
  constructor
  ·rintro (h1 | ⟨i,h1,h2,h3,h4⟩)
   ·exact .inl h1
   ·obtain ⟨j,hj⟩:∃ j:Nat,Cd n up i=j:=⟨(Cd n up i).toNat,by omega⟩
    rw[hj]at h4
    exact .inr ⟨i,j,⟨h1,hj⟩,h2,h4⟩
  ·rintro (h1 | ⟨i,j,h1,h2,h3⟩)
   ·exact .inl h1
   ·refine .inr ⟨i,h1.1,h2,by rw[h1.2];omega,?_⟩
    rw[h1.2]
    exact h3
 refine⟨W5 n up x q' hh _,fun y hy=>?_,fun d h0 h1 h2=>?_,fun d h0 h1 h2=>?_,fun i j hij h1 h2=>?_,fun d h0 h1 h2 y hy=>?_,fun d h0 h1 h2=>?_,fun i j hij h1 h2=>?_⟩
 ·rcases (hnew y).1 hy with hy | ⟨i,j,h1,h2,rfl⟩
  ·exact Aa2 (h.items y ((hm y).2 (.inr hy))) hs
  ·exact .inr ⟨j,i,Aai hr h1,E,by rw[h2,hRd];exact hx0,by rw[h2,hRd],by rw[h2,hCd]⟩
 ·by_cases hd:d=x.dev
  ·subst hd
   rw[hRd,hCd]
   exact Aa2 (h.items x hxq) hs
  ·rw[hR,if_neg hd]at h2
   obtain ⟨e1,e2⟩:=hs d h2
   rw[e1,e2]
   exact Aa2 (h.done d h0 h1 h2) hs
 ·have hd:d≠x.dev:=fun e=>by rw[e,hRd]at h2;omega
  rw[hR,if_neg hd]at h2
  refine(hnew _).2 (.inl ?_)
  rcases (hm _).1 (h.own d h0 h1 h2) with e | e
  ·exact absurd (congrArg Item.dev e) hd
  ·exact e
 ·have hd:Bn n i≠x.dev:=fun e=>by rw[e,hRd]at h1;omega
  rw[hR,if_neg hd]at h1
  by_cases hj:Bn n j=x.dev
  ·rw[hj,hRd,hCd]
   exact(hnew _).2 (.inr ⟨j,i,Aai hr hij,hj,E⟩)
  ·rw[hR,if_neg hj]at h2
   obtain ⟨e1,e2⟩:=hs _ h2
   rw[e1,e2]
   refine(hnew _).2 (.inl ?_)
   rcases (hm _).1 (h.push i j hij h1 h2) with e | e
   ·exact absurd (congrArg Item.dev e) hd
   ·exact e
 ·have hdx:Le2 (R' d) (C' d) x.root x.cost:=by
   by_cases hd:d=x.dev
   ·subst hd;rw[hRd,hCd];exact .inr ⟨rfl,Int.le_refl _⟩
   ·rw[hR,if_neg hd]at h2
    obtain ⟨e1,e2⟩:=hs d h2
    rw[e1,e2]
    exact h.low d h0 h1 h2 x hxq
  rcases (hnew y).1 hy with hy | ⟨i,j,h3,_,rfl⟩
  ·exact Wk hdx (hle y ((hm y).2 (.inr hy)))
  ·exact Ag6 hdx (by have:=Kx hcost (Hn hr h3);omega)
 ·by_cases hd:d=x.dev
  ·subst hd
   rw[hRd,hCd]
   exact hle _ (h.own _ h0 h1 hx)
  ·rw[hR,if_neg hd]at h2
   obtain ⟨e1,e2⟩:=hs d h2
   rw[e1,e2]
   exact h.self d h0 h1 h2
 ·have hj:=Hn hr hij
  have hpc:=Kx hcost hij.1
  have hne:=(Wo hr hij).choose_spec.2.2.2.2.2
  by_cases hd:Bn n i=x.dev
  ·rw[hd,hRd,hCd]
   have hjd:Bn n j≠x.dev:=fun e=>hne (by rw[hd,e])
   rw[hR,if_neg hjd]at h2
   obtain ⟨e1,e2⟩:=hs _ h2
   rw[e1,e2]
   exact hle _ (h.push i j hij (by rw[hd];exact hx) h2)
  ·rw[hR,if_neg hd]at h1
   obtain ⟨e1,e2⟩:=hs _ h1
   rw[e1,e2]
   by_cases hjd:Bn n j=x.dev
   ·rw[hjd,hRd,hCd]
    have hdl:=C0 hr hij.1
    exact Ag6 (h.low _ hdl.1 hdl.2 h1 x hxq) qn
   ·rw[hR,if_neg hjd]at h2
    obtain ⟨e3,e4⟩:=hs _ h2
    rw[e3,e4]
    exact h.tri i j hij h1 h2
def atI (l:List Int) (e:Int):Int:=if e<0 then -1 else nth l e
theorem K7 {l:List Int} {e:Int} (h:0≤e):atI l e=nth l e:=by rw[atI,if_neg qn]
theorem Amf {l:List Int} {d v:Int} (h0:0≤d) (h1:d<l.length) (e:Int):atI (l.set d.toNat v) e=if e=d then v else atI l e:=by
 by_cases he:e<0
 ·rw[atI,if_pos he,if_neg qn,atI,if_pos he]
 ·rw[atI,if_neg he,atI,if_neg he,nth,nth,List.getElem?_set]
  by_cases hd:e=d
  ·subst hd
   rw[if_pos rfl,if_pos rfl,if_pos qn]
   rfl
  ·rw[if_neg qn,if_neg hd]
structure DijS (n:Net) (up:List Bool) (ranks:List Int) (s:List Item × List Int × List Int):Prop where
 inv:ReachInv n s
 dij:Dij n up (atI ranks) s.1 (atI s.2.1) (atI s.2.2)
 bound:∀ c∈s.2.2,0≤c∧c≤1000000
theorem Ai9 (n:Net) (up:List Bool) (ranks:List Int) (hr:Ae n=true) (hcost:Cq n=true) (s:List Item × List Int × List Int) (hI:DijS n up ranks s) (hne:s.1≠[]):DijS n up ranks (M0 n up s):=by
 have hf:=C1 hr
 have h1:=(Ku n up hr hcost s hI.inv hne).1
 have hrest:=Ap7 s.1 hne
 have hheap:=Ap8 s.1 hne hI.dij.heap
 have hleast:=Anm s.1 hI.dij.heap
 have hx:=hI.inv.items _ (hrest.mem_iff.1 (List.mem_cons_self ..))
 have hrl:=hI.inv.rootsL
 have hcl:=hI.inv.costsL
 have hd:=hI.dij
 have hb:=hI.bound
 rw[M0,Z5 hne,Agk s.1 hne]at *
 generalize s.1.getD 0 default=x at *
 try simp only at *
 have ea:nth s.2.1 x.dev=atI s.2.1 x.dev:=(K7 hx.1).symm
 rw[ea];rw[ea]at h1
 split
 ·rename_i hc
  rw[if_pos hc]at h1
  exact⟨h1,Ars hd hrest hheap hc,hb⟩
 ·rename_i hc
  rw[if_neg hc]at h1
  refine⟨h1,Arr hr hcost hd hrest hheap hleast qn hx.2.2.1 ⟨hx.1,hx.2.1⟩ (Amf hx.1 qn) (Amf hx.1 qn),fun c hc=>?_⟩
  rcases List.mem_or_eq_of_mem_set hc with h | h
  ·exact hb c h
  ·omega
theorem Zo (n:Net) (up:List Bool) (ranks:List Int) (hr:Ae n=true) (hcost:Cq n=true):∀ (f:Nat) (s:List Item × List Int × List Int),DijS n up ranks s→reachM s≤f→DijS n up ranks (Hm n up f s)∧(Hm n up f s).1=[]
 | 0,s,h,hf=>⟨h,List.eq_nil_of_length_eq_zero (by unfold reachM at hf;rw[Hm];omega)⟩
 | f+1,s,h,hf=>by
  rw[Hm]
  split
  ·rename_i he;exact⟨h,he⟩
  ·rename_i hne
   exact Zo n up ranks hr hcost f _ (Ai9 n up ranks hr hcost s h hne) (by have:=(Ku n up hr hcost s h.inv hne).2;omega)
structure Solved (n:Net) (up:List Bool) (ranks roots costs:List Int):Prop where
 rootsL:roots.length=n.devices.length
 costsL:costs.length=n.devices.length
 bound:∀ c∈costs,0≤c∧c≤1000000
 root:∀ d:Int,0≤d→d<n.devices.length→0≤nth roots d
 self:∀ d:Int,0≤d→d<n.devices.length→Le2 (nth roots d) (nth costs d) (nth ranks d) 0
 tri:∀ i j:Nat,Kh n up i j→Le2 (nth roots (Bn n i)) (nth costs (Bn n i)) (nth roots (Bn n j)) (nth costs (Bn n j)+If n i)
 der:∀ d:Int,0≤d→d<n.devices.length→(nth roots d=nth ranks d∧nth costs d=0)∨∃ i j:Nat,Kh n up i j∧Bn n i=d∧nth roots d=nth roots (Bn n j)∧nth costs d=nth costs (Bn n j)+If n i
theorem Amv (n:Net) (up:List Bool) (ranks:List Int) (hr:Ae n=true) (s:List Item × List Int × List Int) (h:DijS n up ranks s) (he:s.1=[]):Solved n up ranks s.2.1 s.2.2:=by
 have hd:=h.dij
 rw[he]at hd
 have h0:∀ d:Int,0≤d→d<n.devices.length→0≤atI s.2.1 d:=fun d h1 h2=>by
  by_cases hc:0≤atI s.2.1 d
  ·exact hc
  ·have:=hd.own d h1 h2 qn
   simp at this
 refine⟨h.inv.rootsL,h.inv.costsL,h.bound,fun d h1 h2=>?_,fun d h1 h2=>?_,fun i j hij=>?_,fun d h1 h2=>?_⟩
 ·have:=h0 d h1 h2
  rwa [K7 h1]at this
 ·have:=hd.self d h1 h2 (h0 d h1 h2)
  simpa only [K7 h1] using this
 ·have hi:=C0 hr hij.1
  have hj:=C0 hr (Hn hr hij)
  have:=hd.tri i j hij (h0 _ hi.1 hi.2) (h0 _ hj.1 hj.2)
  simpa only [K7 hi.1,K7 hj.1] using this
 ·rcases hd.done d h1 h2 (h0 d h1 h2) with h3 | ⟨i,j,h3,h4,_,h5,h6⟩
  ·simp only[K7 h1]at h3
   exact .inl h3
  ·have hj:=C0 hr (Hn hr h3)
   simp only[K7 h1,K7 hj.1]at h5 h6
   exact .inr ⟨i,j,h3,h4,h5,h6⟩
theorem V7 (ranks:List Int) (y:Item):∀ j,y∈Ek ranks j↔∃ i,i<j∧y=⟨ranks.getD i 0,0,i⟩
 | 0=>by simp[Ek]
 | j+1=>by
  rw[Jm,(M1 _ _).mem_iff,List.mem_cons,V7 ranks y j]
  constructor
  ·rintro (h | ⟨i,h1,h2⟩)
   ·exact⟨j,by omega,h⟩
   ·exact⟨i,by omega,h2⟩
  ·rintro ⟨i,h1,h2⟩
   by_cases h:i=j
   ·subst h;exact .inl h2
   ·exact .inr ⟨i,by omega,h2⟩
theorem Y1 (ranks:List Int):∀ j,K8 (Ek ranks j) (Ek ranks j).length
 | 0=>fun c _ h2 _=>by simp[Ek]at h2
 | j+1=>by
  rw[Jm]
  exact Zq _ _ (Y1 ranks j)
theorem Abk {v:Int} {m:Nat} {d:Int} (h1:d<m) (h0:0≤d):nth (List.replicate m v) d=v:=by
 rw[Ak (by simp;omega)];simp
theorem Ams (n:Net) (up:List Bool) (ranks:List Int) (hr:Ae n=true) (hrk:ranks.length=n.devices.length) (hrr:∀ r∈ranks,0≤r) :
  DijS n up ranks (Ek ranks ranks.length,List.replicate n.devices.length (-1),List.replicate n.devices.length 0):=by
 have hneg:∀ d:Int,0≤d→d<n.devices.length→atI (List.replicate n.devices.length (-1)) d=-1:=fun d h0 h1=>by rw[K7 h0,Abk h1 h0]
 refine⟨Ab9 n ranks _ _ hr hrk qz qz hrr,⟨Y1 ranks _,fun x hx=>?_,fun d h0 h1 h2=>?_,fun d h0 h1 h2=>?_,fun i j hij h1 h2=>?_,fun d h0 h1 h2=>?_,fun d h0 h1 h2=>?_,fun i j hij h1 h2=>?_⟩,fun c hc=>?_⟩
 ·obtain ⟨i,h1,rfl⟩:=(V7 ranks x _).1 hx
  refine .inl ⟨?_,E⟩
  simp only
  rw[K7 qn,Ak (by simpa using h1),A9 h1]
  rfl
 ·rw[hneg d h0 h1]at h2;omega
 ·refine(V7 ranks _ _).2 ⟨d.toNat,by omega,?_⟩
  rw[K7 h0,Ak qn,A9 qn,Int.toNat_of_nonneg h0]
 ·have hj:=C0 hr (Hn hr hij)
  rw[hneg _ hj.1 hj.2]at h2;omega
 ·rw[hneg d h0 h1]at h2;omega
 ·rw[hneg d h0 h1]at h2;omega
 ·have hj:=C0 hr (Hn hr hij)
  rw[hneg _ hj.1 hj.2]at h2;omega
 ·have:=List.eq_of_mem_replicate hc
  omega
def O7 (n:Net) (up:List Bool) (ranks:List Int):List Item × List Int × List Int:=J2 n up (Ek ranks ranks.length,List.replicate n.devices.length (-1),List.replicate n.devices.length 0)
theorem Abg (n:Net) (up:List Bool) (ranks:List Int) (hr:Ae n=true) (hcost:Cq n=true) (hrk:ranks.length=n.devices.length) (hrr:∀ r∈ranks,0≤r):Solved n up ranks (O7 n up ranks).2.1 (O7 n up ranks).2.2:=by
 obtain ⟨h1,h2⟩:=Zo n up ranks hr hcost _ _ (Ams n up ranks hr hrk hrr) (Nat.le_refl _)
 exact Amv n up ranks hr _ h1 h2
end Go.Sy.YteinjapglfkamaaGreat
namespace Go.Sy.YteinjapglfkamaaGreat
section
variable {n:Net} {up:List Bool} {ranks roots costs:List Int}
theorem Lc (S:Solved n up ranks roots costs) (hr:Ae n=true) {i j:Nat} (h:Kh n up i j):nth roots (Bn n i)=nth roots (Bn n j):=by
 have h1:=S.tri i j h
 have h2:=S.tri j i (Aai hr h)
 unfold Le2 at h1 h2
 omega
theorem Y2 (S:Solved n up ranks roots costs) (hr:Ae n=true) {i j:Nat} (h:Kh n up i j):nth costs (Bn n i)≤nth costs (Bn n j)+If n i:=by
 have h1:=S.tri i j h
 have h2:=Lc S hr h
 unfold Le2 at h1
 omega
theorem O0 (S:Solved n up ranks roots costs) {d:Int} (h0:0≤d) (h1:d<n.devices.length):0≤nth costs d∧nth costs d≤1000000:=by
 have hl:=S.costsL
 rw[Ak qn]
 exact S.bound _ (List.getElem_mem _)
theorem Afs (S:Solved n up ranks roots costs) {d:Int} (h0:0≤d) (h1:d<n.devices.length) (h:nth roots d=nth ranks d):nth costs d=0:=by
 have h2:=S.self d h0 h1
 have h3:=O0 S h0 h1
 unfold Le2 at h2
 omega
theorem Aif (S:Solved n up ranks roots costs) {d:Int} (h0:0≤d) (h1:d<n.devices.length) (h:nth roots d≠nth ranks d):∃ i j:Nat,Kh n up i j∧Bn n i=d∧nth roots d=nth roots (Bn n j)∧nth costs d=nth costs (Bn n j)+If n i:=by
 rcases S.der d h0 h1 with h2 | h2
 ·exact absurd h2.1 h
 ·exact h2
theorem best_mem {dev:Int} {v:Vec}:v∈Ik n up ranks roots costs dev n.ports.length↔∃ i j:Nat,Kh n up i j∧Bn n i=dev∧v=⟨nth roots (Bn n j),nth costs (Bn n j)+If n i,nth ranks (Bn n j),j,i⟩:=by
 rw[Ik,List.mem_filterMap]
 constructor
 ·rintro ⟨i,hi,he⟩
  have hi:=List.mem_range.1 hi
  unfold Vv at he
  simp only at he
  split at he
  ·rename_i hc
   simp only[Bool.and_eq_true,beq_iff_eq,decide_eq_true_eq]at hc
   obtain ⟨j,hj⟩:∃ j:Nat,Cd n up i=j:=⟨(Cd n up i).toNat,by omega⟩
   rw[hj]at he
   exact⟨i,j,⟨hi,hj⟩,hc.1,(Option.some.inj he).symm⟩
  ·cases he
 ·rintro ⟨i,j,⟨hi,hj⟩,hd,rfl⟩
  refine⟨i,List.mem_range.2 hi,?_⟩
  unfold Vv
  have e:(n.ports.getD i default).dev=dev:=hd
  simp only[hj,e]
  rw[if_pos qz]
  rfl
theorem Aoo {d:Int} (h:nth roots d=nth ranks d):Hk n up ranks roots costs d=-1:=by
 simp only[Hk,h,beq_self_eq_true,Bool.or_true,if_true]
theorem Aa5 {d:Int} {i:Nat} (h:Hk n up ranks roots costs d=i):∃ j:Nat,Kh n up i j∧Bn n i=d∧nth roots d≠nth ranks d∧(H9 (Ik n up ranks roots costs d n.ports.length)).1=⟨nth roots (Bn n j),nth costs (Bn n j)+If n i,nth ranks (Bn n j),j,i⟩:=by
 have hmem:=@Aj2 (Ik n up ranks roots costs d n.ports.length)
 unfold Hk at h
 simp only at h
 split at h
 ·omega
 ·rename_i hc
  simp only[Bool.or_eq_true,Bool.not_eq_true',not_or,Bool.not_eq_false,beq_iff_eq]at hc
  obtain ⟨i',j,h1,h2,h3⟩:=best_mem.1 (hmem hc.1)
  rw[h3]at h
  have:i'=i:=by simp only at h;omega
  subst this
  exact⟨j,h1,h2,hc.2,h3⟩
theorem Aon (S:Solved n up ranks roots costs) (hr:Ae n=true) {d:Int} (h0:0≤d) (h1:d<n.devices.length) (h:nth roots d≠nth ranks d):∃ i j:Nat,Kh n up i j∧Bn n i=d∧Hk n up ranks roots costs d=i∧nth costs d=nth costs (Bn n j)+If n i:=by
 obtain ⟨p,q,g1,g2,g3,g4⟩:=Aif S h0 h1 h
 have hm:=(best_mem (ranks:=ranks) (roots:=roots) (costs:=costs)).2 ⟨p,q,g1,g2,rfl⟩
 have h2:(H9 (Ik n up ranks roots costs d n.ports.length)).2=true:=by
  cases hb:(H9 (Ik n up ranks roots costs d n.ports.length)).2
  ·rw[(Ag5 hb).1]at hm;simp at hm
  ·rfl
 obtain ⟨i,j,e1,e2,e3⟩:=best_mem.1 (Aj2 h2)
 have hle:=Acy _ _ hm
 rw[e3]at hle
 refine⟨i,j,e1,e2,?_,?_⟩
 ·unfold Hk
  simp only[h2,Bool.not_true,Bool.false_or,beq_iff_eq]
  rw[if_neg h,e3]
 ·have r1:=Lc S hr e1
  have v1:=Y2 S hr e1
  rw[e2]at r1 v1
  simp only[Cj]at hle
  grind
theorem Aik (n:Net) (up:List Bool) (ranks costs:List Int) {p:Nat} (hp:p<n.ports.length):nth (H5 n up ranks costs n.ports.length) p=O3 n up ranks costs p:=by
 rw[Ak (by rw[Lv];simpa using hp)]
 simp[H5,hp]
theorem Uk (n:Net) (up:List Bool) (ranks roots costs:List Int) {p:Nat} (hp:p<n.ports.length):∀ e:Nat,(∀ d:Nat,d<e→Hk n up ranks roots costs d≠p)→nth (Ip n up ranks roots costs e) p=O3 n up ranks costs p
 | 0,_=>Aik n up ranks costs hp
 | e+1,h=>by
  have ih:=Uk n up ranks roots costs hp e (fun d hd=>h d qn)
  have hne:=h e qn
  rw[Ip]
  split
  ·rw[nth,List.getElem?_set_ne qn]
   exact ih
  ·exact ih
theorem W1 (n:Net) (up:List Bool) (ranks roots costs:List Int) {p:Nat} (hp:p<n.ports.length):∀ (e d:Nat),d<e→Hk n up ranks roots costs d=p→nth (Ip n up ranks roots costs e) p=1
 | 0,_,h,_=>absurd h qn
 | e+1,d,h,hb=>by
  have hl:=Hr n up ranks roots costs e
  rw[Ip]
  by_cases hbe:Hk n up ranks roots costs e=p
  ·rw[hbe,if_pos qn,nth,Int.toNat_natCast,List.getElem?_set_self qn]
   rfl
  ·have hde:d≠e:=fun h=>hbe (by rw[← h];exact hb)
   have ih:=W1 n up ranks roots costs hp e d qn hb
   split
   ·rw[nth,List.getElem?_set_ne qn]
    exact ih
   ·exact ih
def Apu (n:Net) (up:List Bool) (ranks roots costs:List Int):List Int:=Ip n up ranks roots costs n.devices.length
theorem Ace (hr:Ae n=true) {p:Nat} (hp:p<n.ports.length):nth (Apu n up ranks roots costs) p=if Hk n up ranks roots costs (Bn n p)=p then 1 else O3 n up ranks costs p:=by
 have hd:=C0 hr hp
 split
 ·rename_i h
  refine W1 n up ranks roots costs hp _ (Bn n p).toNat qn ?_
  rw[Int.toNat_of_nonneg hd.1]
  exact h
 ·rename_i h
  refine Uk n up ranks roots costs hp _ (fun d _ hb=>h ?_)
  obtain ⟨_,_,h2,_⟩:=Aa5 hb
  rw[h2]
  exact hb
theorem Ail {p:Nat} (h:Cd n up p<0):O3 n up ranks costs p=0:=by rw[O3,if_pos h]
theorem Am4 {p q:Nat} (h:Kh n up p q):O3 n up ranks costs p=if nth costs (Bn n p)<nth costs (Bn n q)∨(nth costs (Bn n p)=nth costs (Bn n q)∧nth ranks (Bn n p)<nth ranks (Bn n q)) then 2 else 3:=by
 rw[O3,h.2,if_neg qn,Int.toNat_natCast,Ki]
 have e1:(n.ports.getD p default).dev=Bn n p:=rfl
 have e2:(n.ports.getD q default).dev=Bn n q:=rfl
 simp only[e1,e2,Bool.or_eq_true,decide_eq_true_eq,Bool.and_eq_true,beq_iff_eq]
def Wr (roles:List Int) (l:Link):Bool:=inB [nth roles l.a,nth roles l.b] 1 && inB [nth roles l.a,nth roles l.b] 2
def fwdL (n:Net) (roles:List Int):List Bool:=n.links.map (Wr roles)
end
end Go.Sy.YteinjapglfkamaaGreat
namespace Go.Sy.YteinjapglfkamaaGreat
open Go.Proofs
theorem G_lit {C:Cx} {k:List KI} {s:SS} (d:Nat) {sz:Nat} {α:Type} (e:α→SV) (l:List α) {svs:List SV} (h:s.h d=.lit sz svs) (hl:l.map e=svs) (hg:G C k ⟨s.σ,upd s.h d (.row sz e l)⟩):G C k s:=fun κ a w hs=>by
 refine hg κ a w ⟨hs.defers,hs.size,hs.inv,hs.ctx,hs.slot,fun j=>?_⟩
 show ObOK κ w j (upd s.h d (.row sz e l) j)
 by_cases hj:j=d
 ·subst hj
  rw[By]
  have hob:=hs.obj j
  rw[h]at hob
  have hlen:l.length=svs.length:=by rw[← hl,List.length_map]
  obtain ⟨b,cap,cs,T,fr,e1,e2,e3,e4,e5,e6⟩:=hob
  exact .inr ⟨b,cap,cs,T,fr,by rw[hlen];exact e1,e2,e3,e4,by omega,fun i x hx=>by rw[hlen];exact e6 i x (L8 hl i x hx)⟩
 ·rw[Ck _ _ hj];exact hs.obj j
attribute [local irreducible] Go.Sy.G Go.Sy.DR
set_option maxRecDepth 100000
set_option maxHeartbeats 4000000
theorem Zm (n:Net) (up:List Bool) (x:Item) (q:List Item):∀ i,((List.range i).foldl (Dn n up x) q).length≤q.length+i
 | 0=>by simp
 | i+1=>by
  have:=Zm n up x q i
  rw[List.range_succ,List.foldl_append]
  simp only[List.foldl_cons,List.foldl_nil]
  rw[Dn]
  split
  ·rw[Kb];omega
  ·omega
theorem reachS (n:Net) (up:List Bool) (ranks roots costs:List Int) (hr:Ae n=true) (hu:up.length=n.links.length) (hcost:Cq n=true) (hrk:ranks.length=n.devices.length) (hro:roots.length=n.devices.length) (hc:costs.length=n.devices.length) (hrr:∀ r∈ranks,0≤r) (D:List Item × List Int × List Int) (hD:J2 n up (Ek ranks ranks.length,roots,costs)=D) :
  Sy.Spec Tryz.prog 221 [.ptr 0 0] (Aca n up ranks roots costs) (.tup []) (Aca n up ranks D.2.1 D.2.2):=cT F221 Tryz.ntmps221 fun F hF=>by
 have hf:=C1 hr
 conv=>whnf
 refine G_lit 10 Bw [] E E ?_
 refine At ranks.length (fun j=>[(0,.ptr 0 0),(2,.ptr 11 0),(15,.sl 1 Aa ranks),(16,Aa ranks.length),(17,Aa j)]) (fun j=>[(0,.box (Ss n up ranks (.osl 1) (.osl 2))),(1,.row 1 Aa roots),(2,.row 1 Aa costs),(11,.box [.osl 12]),(12,.row 3 Bw (Ek ranks j))]) [(12,10)]
  ⟨⟨rfl,rfl,rfl,rfl,rfl,rfl,rfl,rfl,rfl,rfl,trivial⟩,⟨.inl rfl,rfl,.inl rfl,rfl,.inl rfl,rfl,.inl rfl,rfl,.inl rfl,rfl,trivial⟩,rfl,rfl⟩ ?_
 intro j hj
 refine oO ?_
 refine⟨fun h=>?_,fun h=>?_⟩
 ·have hlt:j<ranks.length:=by simpa using h
  have e1:ranks[(j:Int).toNat]'qn=ranks[j]:=rfl
  have hpush:=Ac7 (Ek ranks j) ⟨ranks.getD j 0,0,j⟩ (by rw[Lt];omega)
  have hsucc:=Jm ranks j
  rw[A9 (show j<ranks.length by omega)]at hpush hsucc
  refine oO ?_
  refine⟨by omega,by omega,?_⟩
  conv=>whnf
  refine⟨by omega,?_⟩
  rw[e1]
  conv=>whnf
  refine Ad (Af [(0,11),(1,12),(2,28)] E F286 hpush E ⟨E,E,Y⟩ E ⟨.inl E,.inl E,.inr E,Y⟩) E E ?_
  refine oO ?_
  refine iW ?_
  refine An [(12,28)] hlt ⟨⟨E,E,E,E,E,E,E,E,E,E,Y⟩,⟨.inl E,E,.inl E,E,.inl E,E,.inl E,E,.inl (congrArg (Ob.row 3 Bw) hsucc),E,Y⟩,E,E⟩
 ·have hjl:j=ranks.length:=by
   have:¬ j<ranks.length:=by simpa using h
   omega
  subst hjl
  refine oO ?_
  refine Q2 (α:={s:List Item × List Int × List Int // ReachInv n s∧J2 n up s=D}) (fun p=>[(0,.ptr 0 0),(2,.ptr 11 0)]) (fun p=>[(0,.box (Ss n up ranks (.osl 1) (.osl 2))),(1,.row 1 Aa p.1.2.1),(2,.row 1 Aa p.1.2.2),(11,.box [.osl 12]),(12,.row 3 Bw p.1.1)]) (fun p=>reachM p.1) ⟨(Ek ranks ranks.length,roots,costs),Ab9 n ranks roots costs hr hrk hro hc hrr,hD⟩ []
   ⟨⟨rfl,rfl,rfl,rfl,trivial⟩,⟨.inl rfl,rfl,.inl rfl,rfl,.inl rfl,rfl,.inl rfl,rfl,.inl rfl,rfl,trivial⟩,rfl,rfl⟩ ?_
  rintro ⟨⟨q,ro,co⟩,hI,hDq⟩
  have hlen:=Wc q
  have hdn:=Ai8 n up (q,ro,co)
  have hds:=Agi n up hr hcost (q,ro,co) hI
  dsimp only at hdn hds ⊢
  refine oO ?_
  refine Ad (Tu [12] E F287 hlen (.cons (.row E E) .nil) E E) E E ?_
  refine oO ?_
  refine⟨fun h2=>?_,fun h2=>?_⟩
  ·have hne:q≠[]:=fun e=>by subst e;simp at h2
   have hpop:=Aq3 q hne (by have:=hI.few;simp only at this;omega)
   have hx:=hI.items _ ((Sa q hne).mem_iff.1 (List.getLast_mem (D7 hne)))
   have hst:M0 n up (q,ro,co)=if 0≤nth ro ((Db q).getLast (D7 hne)).dev then ((Db q).dropLast,ro,co) else ((List.range n.ports.length).foldl (Dn n up ((Db q).getLast (D7 hne))) (Db q).dropLast,ro.set ((Db q).getLast (D7 hne)).dev.toNat ((Db q).getLast (D7 hne)).root,co.set ((Db q).getLast (D7 hne)).dev.toNat ((Db q).getLast (D7 hne)).cost):=by
    rw[M0,Z5 hne]
   have hr1:=Ku n up hr hcost (q,ro,co) hI hne
   have hD1:=hds hne
   rw[hDq]at hD1
   rw[hst]at hr1 hD1
   generalize (Db q).getLast (D7 hne)=x at *
   have hroL:=hI.rootsL
   have hcoL:=hI.costsL
   dsimp only at hroL hcoL
   rw[Ak (l:=ro) (i:=x.dev) qn]at hr1 hD1
   refine oO ?_
   refine Ad (Af [(0,11),(1,12),(2,38)] E F288 hpop E ⟨E,E,Y⟩ E ⟨.inl E,.inl E,.inr E,Y⟩) E E ?_
   refine oO ?_
   refine Ad (Xo Γ.toTy E E E E) E E ?_
   (refine rg ?_;(conv=>whnf);refine aF ?_;refine oD ?_)
   have hx1:=hx.1
   have hx2:=hx.2.1
   refine⟨by omega,by omega,?_⟩
   conv=>whnf
   refine⟨E,by omega,?_⟩
   conv=>whnf
   refine kW ?_
   refine⟨fun h3=>?_,fun h3=>?_⟩
   ·have h30:0≤ro[x.dev.toNat]'qn:=of_decide_eq_true h3
    rw[if_pos h30]at hr1 hD1
    refine oO ?_
    exact S9 (α:={s:List Item × List Int × List Int // ReachInv n s∧J2 n up s=D}) (L:=fun p=>[(0,.ptr 0 0),(2,.ptr 11 0)]) (O:=fun p=>[(0,.box (Ss n up ranks (.osl 1) (.osl 2))),(1,.row 1 Aa p.1.2.1),(2,.row 1 Aa p.1.2.2),(11,.box [.osl 12]),(12,.row 3 Bw p.1.1)]) (μ:=fun p=>reachM p.1) (x:=⟨(q,ro,co),hI,hDq⟩)
     ⟨((Db q).dropLast,ro,co),hr1.1,hD1.symm⟩ [(12,38)] hr1.2
     ⟨⟨rfl,rfl,rfl,rfl,trivial⟩,⟨.inl rfl,rfl,.inl rfl,rfl,.inl rfl,rfl,.inl rfl,rfl,.inl rfl,rfl,trivial⟩,rfl,rfl⟩
   ·have h30:¬ 0≤ro[x.dev.toNat]'qn:=of_decide_eq_false h3
    rw[if_neg h30]at hr1 hD1
    refine oO ?_
    refine⟨by omega,by omega,?_⟩
    conv=>whnf
    refine⟨by omega,by omega,?_⟩
    conv=>whnf
    refine⟨x.root,E,E,?_⟩
    conv=>whnf
    refine⟨by omega,by omega,E,by omega,x.cost,E,E,?_⟩
    conv=>whnf
    refine kW ?_
    generalize ro.set x.dev.toNat x.root=ro' at *
    generalize co.set x.dev.toNat x.cost=co' at *
    refine At n.ports.length (fun j=>[(0,.ptr 0 0),(2,.ptr 11 0),(5,.ptr 5 0),(77,.sl 7 Bh n.ports),(78,Aa n.ports.length),(79,Aa j)]) (fun j=>[(0,.box (Ss n up ranks (.osl 1) (.osl 2))),(1,.row 1 Aa ro'),(2,.row 1 Aa co'),(5,.box [Aa x.root,Aa x.cost,Aa x.dev]),(11,.box [.osl 12]),(12,.row 3 Bw ((List.range j).foldl (Dn n up x) (Db q).dropLast))]) [(12,38)]
     ⟨⟨rfl,rfl,rfl,rfl,rfl,rfl,rfl,rfl,rfl,rfl,rfl,rfl,trivial⟩,⟨.inl rfl,rfl,.inl rfl,rfl,.inl rfl,rfl,.inl rfl,rfl,.inl rfl,rfl,.inl rfl,rfl,trivial⟩,rfl,rfl⟩ ?_
    intro j hj
    refine oO ?_
    refine⟨fun h4=>?_,fun h4=>?_⟩
    ·have hlt:j<n.ports.length:=by simpa using h4
     have e1:n.ports[(j:Int).toNat]'qn=n.ports[j]:=rfl
     have hfar:=farR n up ranks ro' co' j hr hu hlt
     have hql:(Db q).dropLast.length≤q.length:=by rw[List.length_dropLast,Eg];omega
     have hlenQ:=Zm n up x (Db q).dropLast j
     have hfew:=hI.few
     dsimp only at hfew
     have hsucc:(List.range (j+1)).foldl (Dn n up x) (Db q).dropLast=Dn n up x ((List.range j).foldl (Dn n up x) (Db q).dropLast) j:=by
      rw[List.range_succ,List.foldl_append];rfl
     generalize (List.range j).foldl (Dn n up x) (Db q).dropLast=Q at *
     rw[Dn,A9 hlt]at hsucc
     refine oO ?_
     refine⟨by omega,by omega,?_⟩
     conv=>whnf
     refine⟨by omega,?_⟩
     rw[e1]
     conv=>whnf
     refine Ad (Af [] E F222 hfar E ⟨E,E,E,Y⟩ E ⟨.inl E,.inl E,.inl E,Y⟩) E E ?_
     refine oO ?_
     refine⟨fun h5=>?_,fun h5=>?_⟩
     ·refine oO ?_
      refine⟨fun h6=>?_,fun h6=>?_⟩
      ·have hk0:0≤Cd n up j:=of_decide_eq_true h6
       have hk1:=Tx (up:=up) hr hlt hk0
       rw[if_pos ⟨by simpa using h5,hk0⟩,Ak (l:=n.ports) (i:=Cd n up j) qn]at hsucc
       have hpc:1≤(n.ports[(Cd n up j).toNat]'qn).cost∧(n.ports[(Cd n up j).toNat]'qn).cost≤65535:=by
        simp only[Cq,Bool.not_eq_true',List.any_eq_false]at hcost
        have:=hcost _ (List.getElem_mem (show (Cd n up j).toNat<n.ports.length by omega))
        simp only[I0,Bool.or_eq_true,decide_eq_true_eq,not_or]at this
        omega
       have hxc:=hx.2.2.2
       have hpush:=Ac7 Q ⟨x.root,x.cost+(n.ports[(Cd n up j).toNat]'qn).cost,(n.ports[(Cd n up j).toNat]'qn).dev⟩ qn
       refine oO ?_
       refine⟨E,hk0,by omega,?_⟩
       conv=>whnf
       refine iW ?_
       refine⟨E,hk0,by omega,?_⟩
       conv=>whnf
       refine Bd (Af [(0,11),(1,12),(2,123)] E F286 hpush E ⟨E,E,Y⟩ E ⟨.inl E,.inl E,.inr E,Y⟩) qq E ?_
       refine oD ?_
       refine kW ?_
       refine iW ?_
       refine An [(12,123)] hlt ⟨⟨E,E,E,E,E,E,E,E,E,E,E,E,Y⟩,⟨.inl E,E,.inl E,E,.inl E,E,.inl E,E,.inl E,E,.inl (congrArg (Ob.row 3 Bw) hsucc),E,Y⟩,E,E⟩
      ·rw[if_neg (fun hh=>(of_decide_eq_false h6) hh.2)]at hsucc
       refine oO ?_
       refine iW ?_
       refine An [] hlt ⟨⟨E,E,E,E,E,E,E,E,E,E,E,E,Y⟩,⟨.inl E,E,.inl E,E,.inl E,E,.inl E,E,.inl E,E,.inl (congrArg (Ob.row 3 Bw) hsucc),E,Y⟩,E,E⟩
     ·rw[if_neg (fun hh=>absurd hh.1 (by simpa using h5))]at hsucc
      refine oF ?_
      refine iW ?_
      refine An [] hlt ⟨⟨E,E,E,E,E,E,E,E,E,E,E,E,Y⟩,⟨.inl E,E,.inl E,E,.inl E,E,.inl E,E,.inl E,E,.inl (congrArg (Ob.row 3 Bw) hsucc),E,Y⟩,E,E⟩
    ·have hjl:j=n.ports.length:=by
      have:¬ j<n.ports.length:=by simpa using h4
      omega
     subst hjl
     refine oO ?_
     exact S9 (α:={s:List Item × List Int × List Int // ReachInv n s∧J2 n up s=D}) (L:=fun p=>[(0,.ptr 0 0),(2,.ptr 11 0)]) (O:=fun p=>[(0,.box (Ss n up ranks (.osl 1) (.osl 2))),(1,.row 1 Aa p.1.2.1),(2,.row 1 Aa p.1.2.2),(11,.box [.osl 12]),(12,.row 3 Bw p.1.1)]) (μ:=fun p=>reachM p.1) (x:=⟨(q,ro,co),hI,hDq⟩)
      ⟨((List.range n.ports.length).foldl (Dn n up x) (Db q).dropLast,ro',co'),hr1.1,hD1.symm⟩ [] hr1.2
      ⟨⟨rfl,rfl,rfl,rfl,trivial⟩,⟨.inl rfl,rfl,.inl rfl,rfl,.inl rfl,rfl,.inl rfl,rfl,.inl rfl,rfl,trivial⟩,rfl,rfl⟩
  ·have he:q=[]:=List.eq_nil_of_length_eq_zero (by
    have:¬ 0<q.length:=by simpa using h2
    omega)
   have e:D=(q,ro,co):=by rw[← hDq,hdn he]
   rw[e]
   refine oO ?_
   exact B3 E .nil [] (Aca n up ranks ro co) (fun _ h=>h) E E ⟨Y,⟨.inl E,E,.inl E,E,.inl E,E,Y⟩,E,E⟩
end Go.Sy.YteinjapglfkamaaGreat
namespace Go.Sy.YteinjapglfkamaaGreat
open Go.Proofs
attribute [local irreducible] Go.Sy.G Go.Sy.DR
set_option maxRecDepth 100000
set_option maxHeartbeats 4000000
def okB (n:Net) (up:List Bool):Bool:=decide (up.length=n.links.length) && (Ae n && Cq n)
theorem ok_iff {n:Net} {up:List Bool}:okB n up=true↔up.length=n.links.length∧Ae n=true∧Cq n=true:=by simp[okB]
def Tg (n:Net) (up:List Bool):List Int:=(O7 n up (Cw n)).2.1
def T9 (n:Net) (up:List Bool):List Int:=(O7 n up (Cw n)).2.2
def Aed (n:Net) (up:List Bool):SV:=Oz n up (Cw n) (Tg n up) (T9 n up)
theorem Asw (n:Net) (up:List Bool) (hn:n.Fin) (h:okB n up=false):Sy.Spec Tryz.prog 160 [Aj n,.sl 1 Ab up] [] (.tup [.val (.pointer none),Aa 2]) []:=cT F160 Tryz.ntmps160 fun F hF=>by
 have h':¬ (up.length=n.links.length∧Ae n=true∧Cq n=true):=fun hh=>by rw[ok_iff.2 hh]at h;cases h
 conv=>whnf
 (repeat' (first | (refine⟨fun h=>?_,fun h=>?_⟩<;>(repeat (first | simp only[bne_iff_ne]at h | simp only[bne_eq_false_iff_eq]at h | simp only[Bool.not_eq_true']at h | simp only[Bool.not_eq_false']at h))<;>((refine oO ?_);repeat((refine aT ?_);(refine oO ?_)))) | (refine c0 (B0 n hn) F23 ?_;((refine oO ?_))) | (refine c0 (Aru n hn.ports) F219 ?_;((refine oO ?_))) | refine Aq rfl (.cons .tmp (.cons .tmp .nil)) rfl rfl))
 all_goals exact absurd ⟨by omega,by assumption,by assumption⟩ h'
def Oo (m j:Nat):List Int:=List.replicate j (-1)++List.replicate (m-j) 0
theorem Akk (m:Nat):Oo m 0=List.replicate m 0:=by simp[Oo]
theorem Aod (m:Nat):Oo m m=List.replicate m (-1):=by simp[Oo]
theorem Aew (m j:Nat) (h:j≤m):(Oo m j).length=m:=by simp[Oo];omega
theorem Akl (m j:Nat) (h:j<m):Oo m (j+1)=(Oo m j).set j (-1):=by
 have e:m-j=(m-(j+1))+1:=by omega
 rw[Oo,Oo,e,List.set_append_right _ _ qz,List.length_replicate,Nat.sub_self,List.replicate_succ' (n:=j),List.replicate_succ (n:=m-(j+1))]
 simp
theorem openOK (n:Net) (up:List Bool) (hn:n.Fin) (hu:up.length=n.links.length) (hr:Ae n=true) (hcost:Cq n=true):Sy.Spec Tryz.prog 160 [Aj n,.sl 1 Ab up] [] (.tup [Aed n up,Aa 0]) []:=cT F160 Tryz.ntmps160 fun F hF=>by
 have hf:=C1 hr
 have hrt:=B0 n hn
 have hct:=Aru n hn.ports
 have hrs:=ranksS n hn
 rw[hr]at hrt
 rw[hcost]at hct
 rw[hr,if_pos rfl]at hrs
 have hrk:=E4 n
 have hrr:∀ r∈Cw n,0≤r:=fun r h=>(W7 n r h).1
 have hsv:Aed n up=Oz n up (Cw n) (O7 n up (Cw n)).2.1 (O7 n up (Cw n)).2.2:=rfl
 rw[hsv]
 generalize Cw n=ranks at *
 have hreach:=fun D hD=>reachS n up ranks (List.replicate n.devices.length (-1)) (List.replicate n.devices.length 0) hr hu hcost hrk qz qz hrr D hD
 have hRT:J2 n up (Ek ranks ranks.length,List.replicate n.devices.length (-1),List.replicate n.devices.length 0)=O7 n up ranks:=rfl
 generalize O7 n up ranks=D at *
 have hreach:=hreach D hRT
 clear hRT hsv
 conv=>whnf
 refine⟨fun h=>absurd h (by simp[hu]),fun h=>?_⟩
 refine oO ?_
 refine c0 hrt F23 ?_
 refine oF ?_
 refine c0 hct F219 ?_
 refine oF ?_
 refine cD hrs F220 ?_
 refine oD ?_
 refine Bd (B5 Γ.toTy (d:=31) (n:=n.devices.length) Aa 0 E E E E E E E E qn qn E E E) qq E ?_
 refine oD ?_
 refine Bd (B5 Γ.toTy (d:=35) (n:=n.devices.length) Aa 0 E E E E E E E E qn qn E E E) qq E ?_
 refine oD ?_
 refine kW ?_
 refine At n.devices.length (fun j=>[(6,.ptr 37 0),(42,Aa (List.replicate n.devices.length (0:Int)).length),(43,Aa j)]) (fun j=>[(37,.box (Ss n up ranks (.osl 31) (.osl 35))),(31,.row 1 Aa (Oo n.devices.length j)),(35,.row 1 Aa (List.replicate n.devices.length 0))]) []
  ⟨⟨rfl,rfl,rfl,rfl,rfl,rfl,trivial⟩,⟨.inl rfl,rfl,.inl (by rw[Akk];rfl),rfl,.inl rfl,rfl,trivial⟩,rfl,rfl⟩ ?_
 intro j hj
 have hlen:=Aew n.devices.length j hj
 refine oO ?_
 refine⟨fun h=>?_,fun h=>?_⟩
 ·have hlt:j<n.devices.length:=by simpa using h
  have hsucc:=Akl n.devices.length j hlt
  generalize Oo n.devices.length j=u at *
  refine oO ?_
  refine⟨by omega,by omega,?_⟩
  conv=>whnf
  refine⟨E,by omega,-1,E,E,?_⟩
  conv=>whnf
  refine iW ?_
  exact An [] hlt ⟨⟨E,E,E,E,E,E,Y⟩,⟨.inl E,E,.inl (congrArg (Ob.row 1 Aa) hsucc),E,.inl E,E,Y⟩,E,E⟩
 have hjl:j=n.devices.length:=by
  have:¬ j<n.devices.length:=by simpa using h
  omega
 subst hjl
 have hall:=Aod n.devices.length
 rw[← hall]at hreach
 refine oO ?_
 refine Ad (Af [(0,37),(1,31),(2,35)] E F221 hreach E ⟨E,E,E,Y⟩ E ⟨.inl E,.inl E,.inl E,Y⟩) E E ?_
 refine Ao 31 E ?_
 refine Ao 35 E ?_
 refine A3 37 12 (.agg (Ss n up ranks (.sl 1 Aa D.2.1) (.sl 1 Aa D.2.2))) E E E ?_
 refine oO ?_
 exact dN
theorem Ww {n:Net} {up:List Bool} (h:okB n up=true):Solved n up (Cw n) (Tg n up) (T9 n up):=by
 obtain ⟨hu,hr,hcost⟩:=ok_iff.1 h
 exact Abg n up (Cw n) hr hcost (E4 n) (fun r h=>(W7 n r h).1)
def J0 (n:Net) (up:List Bool):List Int:=Apu n up (Cw n) (Tg n up) (T9 n up)
def Are (n:Net) (up:List Bool):List Bool:=fwdL n (J0 n up)
theorem Lu (n:Net) (up:List Bool):(J0 n up).length=n.ports.length:=Hr ..
theorem Ajk (n:Net) (up:List Bool) (h:okB n up=true):Sy.Spec Tryz.prog 161 [Aed n up] [] (.sl 1 Aa (J0 n up)) []:=by
 obtain ⟨hu,hr,hcost⟩:=ok_iff.1 h
 have S:=Ww h
 exact rolesS n up (Cw n) (Tg n up) (T9 n up) hr hu hcost (E4 n) S.rootsL S.costsL (fun c hc=>by have:=S.bound c hc;omega)
theorem Aap (n:Net) (up:List Bool) (hn:n.Fin) (h:okB n up=false):Sy.Spec Tryz.prog 112 [Aj n,.sl 1 Ab up] [] (.tup [.sl 1 Ab [],Aa 2]) []:=cT F112 Tryz.ntmps112 fun F hF=>by
 conv=>whnf
 refine c0 (Asw n up hn h) F160 ?_
 refine oT ?_
 refine Am 4 1 Ab E ?_
 exact dN
def X8 (n:Net) (roles:List Int) (j:Nat):List Bool:=(n.links.take j).map (Wr roles)++List.replicate (n.links.length-j) false
theorem An8 (n:Net) (roles:List Int):X8 n roles 0=List.replicate n.links.length false:=by simp[X8]
theorem Ard (n:Net) (roles:List Int):X8 n roles n.links.length=fwdL n roles:=by simp[X8,fwdL]
theorem Ahj (n:Net) (roles:List Int) (j:Nat) (h:j≤n.links.length):(X8 n roles j).length=n.links.length:=by simp[X8];omega
theorem An9 (n:Net) (roles:List Int) (j:Nat) (h:j<n.links.length):X8 n roles (j+1)=(X8 n roles j).set j (Wr roles n.links[j]):=by
 have e:n.links.length-j=(n.links.length-(j+1))+1:=by omega
 have el:((n.links.take j).map (Wr roles)).length=j:=by simp;omega
 rw[X8,X8,List.set_append_right _ _ qn,el,Nat.sub_self,List.take_succ_eq_append_getElem h,List.map_append,e,List.replicate_succ,List.set_cons_zero]
 simp
theorem Ada (n:Net) (up:List Bool) (hn:n.Fin) (h:okB n up=true):Sy.Spec Tryz.prog 112 [Aj n,.sl 1 Ab up] [] (.tup [.sl 1 Ab (Are n up),Aa 0]) []:=cT F112 Tryz.ntmps112 fun F hF=>by
 obtain ⟨hu,hr,hcost⟩:=ok_iff.1 h
 have hf:=C1 hr
 have ho:=openOK n up hn hu hr hcost
 have hro:=Ajk n up h
 have hrl:=Lu n up
 rw[Are]
 generalize J0 n up=roles at *
 unfold Aed at ho hro
 generalize Cw n=ranks at *
 generalize Tg n up=roots at *
 generalize T9 n up=costs at *
 conv=>whnf
 refine c0 ho F160 ?_
 refine oF ?_
 refine c0 hro F161 ?_
 refine oO ?_
 refine Ad (B5 Γ.toTy (d:=27) (n:=n.links.length) Ab false E E E E E E E E qn qn E E E) E E ?_
 rw[← An8 n roles]
 refine oO ?_
 refine At n.links.length (fun j=>[(8,.sl 1 Aa roles),(9,.osl 27),(29,.sl 3 Cs n.links),(30,Aa n.links.length),(31,Aa j)]) (fun j=>[(27,.row 1 Ab (X8 n roles j))]) []
  ⟨⟨rfl,rfl,rfl,rfl,rfl,rfl,rfl,rfl,rfl,rfl,trivial⟩,⟨.inl rfl,rfl,trivial⟩,rfl,rfl⟩ ?_
 intro j hj
 have hall:=Ard n roles
 refine oO ?_
 refine⟨fun h=>?_,fun h=>?_⟩
 ·have hlt:j<n.links.length:=by simpa using h
  have he:=I5 hr hlt
  have e1:n.links[(j:Int).toNat]'qn=n.links[j]:=rfl
  have hlen:=Ahj n roles j hj
  have hsucc:=An9 n roles j hlt
  generalize X8 n roles j=u at *
  generalize n.links[j]=l at *
  rw[Wr,Ak (l:=roles) (i:=l.a) qn,Ak (l:=roles) (i:=l.b) qn]at hsucc
  refine oO ?_
  refine⟨E,by omega,by omega,?_⟩
  rw[e1]
  conv=>whnf
  refine⟨E,by omega,by omega,?_⟩
  conv=>whnf
  refine⟨E,by omega,by omega,?_⟩
  conv=>whnf
  refine kW ?_
  have hA:0≤l.a∧l.a<roles.length:=by omega
  have hB:0≤l.b∧l.b<roles.length:=by omega
  obtain ⟨x,hx⟩:∃ x,roles[l.a.toNat]'qn=x:=⟨_,rfl⟩
  obtain ⟨y,hy⟩:∃ y,roles[l.b.toNat]'qn=y:=⟨_,rfl⟩
  rw[hx,hy]at hsucc
  refine Aa9 46 (e:=Aa) (l:=[x,y]) E (by rw[← hx,← hy];rfl) ?_
  refine Ao 46 E ?_
  refine c0 (Ee [x,y] 1 (by unfold Ap;simp)) F25 ?_
  refine oO ?_
  refine⟨fun h1=>?_,fun h1=>?_⟩
  ·rw[h1,Bool.true_and]at hsucc
   refine oO ?_
   refine c0 (Ee [x,y] 2 (by unfold Ap;simp)) F25 ?_
   refine oO ?_
   refine⟨by omega,by omega,?_⟩
   conv=>whnf
   refine⟨E,by omega,inB [x,y] 2,E,E,?_⟩
   conv=>whnf
   refine iW ?_
   exact An [] hlt ⟨⟨E,E,E,E,E,E,E,E,E,E,Y⟩,⟨.inl (congrArg (Ob.row 1 Ab) hsucc),E,Y⟩,E,E⟩
  ·rw[h1,Bool.false_and]at hsucc
   refine oO ?_
   refine⟨by omega,by omega,?_⟩
   conv=>whnf
   refine⟨E,by omega,false,E,E,?_⟩
   conv=>whnf
   refine iW ?_
   exact An [] hlt ⟨⟨E,E,E,E,E,E,E,E,E,E,Y⟩,⟨.inl (congrArg (Ob.row 1 Ab) hsucc),E,Y⟩,E,E⟩
 have hjl:j=n.links.length:=by
  have:¬ j<n.links.length:=by simpa using h
  omega
 subst hjl
 rw[← hall]
 refine oO ?_
 refine Ao 27 E ?_
 exact dN
end Go.Sy.YteinjapglfkamaaGreat
namespace Go.Sy.YteinjapglfkamaaGreat
open Go.Proofs
structure MacM where
 up:List Bool
 tables:List (List EntryM)
 queues:List (List QueuedM)
 now:Int
 injected:Int
 drops:Nat→Int
def Bg (m:MacM) (e:Int):MacM:=⟨m.up,m.tables,m.queues,m.now,m.injected,fun i=>if i=e.toNat then m.drops i+1 else m.drops i⟩
def queueL (m:MacM) (dom:Int):List QueuedM:=(m.queues[dom.toNat]?).getD []
def tableL (m:MacM) (dom:Int):List EntryM:=(m.tables[dom.toNat]?).getD []
def Adx (m:MacM) (dom:Int) (l:List QueuedM):MacM:=⟨m.up,m.tables,m.queues.set dom.toNat l,m.now,m.injected,m.drops⟩
def Bz (m:MacM) (dom:Int) (t:List EntryM):MacM:=⟨m.up,m.tables.set dom.toNat t,m.queues,m.now,m.injected,m.drops⟩
def comeM (m:MacM) (dom:Int) (q:QueuedM) (e:Int):MacM :=
 if e≠0 then Bg m e else if (pushT (queueL m dom) q).2=true then Adx m dom (pushT (queueL m dom) q).1 else Bg m 3
def takeM (m:MacM) (dom at_:Int):MacM × QueuedM × Bool :=
 if Ai dom m.queues.length=false then (m,noQ,false)
 else (Adx m dom (takeT (queueL m dom) at_).2.1,(takeT (queueL m dom) at_).1,(takeT (queueL m dom) at_).2.2)
def injectT (n:Net) (m:MacM) (port:Int) (b:List UInt8):MacM :=
 if Ai port n.ports.length=false∨0≤(nth n.ports port).link then m
 else comeM ⟨m.up,m.tables,m.queues,m.now,m.injected+1,m.drops⟩ (enterT n port b).1 ⟨port,0,m.injected+1,(enterT n port b).2.1⟩ (enterT n port b).2.2
def goesM (n:Net) (m:MacM) (o:OutM) (origin:Int):MacM × List SeenM :=
 if o.kind=1 then (m,[⟨o.port,origin,o.bytes⟩])
 else if o.kind=2 then (comeM m (linkT n o.port o.bytes).2.1 ⟨(linkT n o.port o.bytes).1,0,origin,(linkT n o.port o.bytes).2.2.1⟩ (linkT n o.port o.bytes).2.2.2,[])
 else if o.kind=3 then (comeM m (comeT n o.bytes).2.1 ⟨-1,(comeT n o.bytes).1,origin,(comeT n o.bytes).2.2.1⟩ (comeT n o.bytes).2.2.2,[])
 else if o.kind=4 then (comeM m o.domain ⟨-2,0,origin,o.frame⟩ 0,[])
 else (Bg m o.error,[])
def A7 (n:Net) (m:MacM) (origin:Int):List OutM→MacM × List SeenM
 | []=>(m,[])
 | o::l=>((A7 n (goesM n m o origin).1 origin l).1,(goesM n m o origin).2++(A7 n (goesM n m o origin).1 origin l).2)
def Im (n:Net) (up:List Bool):List Bool:=if okB n up=true then Are n up else []
def Qa (n:Net) (m:MacM) (dom:Int) (q:QueuedM):List EntryM × List OutM × Int:=bridgeT n (Im n m.up) (tableL m dom) dom q m.now
def Is (m:MacM) (dom:Int) (r:List EntryM × List OutM × Int):MacM :=
 if r.2.2=2 then Bg m 2 else if r.2.2≠0 then Bg (Bz m dom r.1) r.2.2 else Bz m dom r.1
def pickT (n:Net) (m:MacM) (dom at_:Int):MacM × List SeenM :=
 if (takeM m dom at_).2.2=false then ((takeM m dom at_).1,[])
 else A7 n (Is (takeM m dom at_).1 dom (Qa n (takeM m dom at_).1 dom (takeM m dom at_).2.1)) (takeM m dom at_).2.1.origin (Qa n (takeM m dom at_).1 dom (takeM m dom at_).2.1).2.1
def Oj (m:MacM):MacM :=
 let now:=min (m.now+1) 1099511627776
 ⟨m.up,m.tables.map (fun t=>ageT t now),m.queues,now,m.injected,m.drops⟩
def doT (n:Net) (m:MacM) (x:StepM):MacM × List SeenM :=
 if x.kind=1 then (injectT n m x.port x.bytes,[])
 else if x.kind=2 then pickT n m x.domain x.at_
 else if x.kind=3 then ((takeM m x.domain x.at_).1,[])
 else if x.kind=4 then (Oj m,[])
 else if x.kind=5 then ((if x.up.length=n.links.length then ⟨x.up,m.tables,m.queues,m.now,m.injected,m.drops⟩ else m),[])
 else (m,[])
def newT (n:Net):MacM:=⟨List.replicate n.links.length true,List.replicate n.domains.length [],List.replicate n.domains.length [],0,0,fun _=>0⟩
def Cp (n:Net):MacM→List StepM→MacM × List SeenM
 | m,[]=>(m,[])
 | m,x::l=>((Cp n (doT n m x).1 l).1,(doT n m x).2++(Cp n (doT n m x).1 l).2)
def B1 (e:Int):Prop:=0≤e∧e<64
def DomIn (n:Net) (d:Int):Prop:=0≤d∧d.toNat<n.domains.length
theorem Ha {n:Net} {d:Int} (h:Ai d n.domains.length=true):DomIn n d:=by
 have:=Ba h
 unfold DomIn
 omega
theorem V5 (b:List UInt8):B1 (takeF b).2:=by
 unfold takeF B1
 repeat' split
 all_goals (dsimp only;omega)
theorem Aic (f:FrameM):B1 (stripT f).2.2.2:=by
 unfold stripT B1
 repeat' split
 all_goals (dsimp only;omega)
theorem T0 (n:Net) (port:Int) (b:List UInt8):B1 (enterT n port b).2.2:=by
 have h1:=V5 b
 have h2:=Aic (takeF b).1
 have h3:∀ f tg v,B1 (Ja n port f tg v).2.2:=fun f tg v=>by
  unfold Ja B1
  repeat' split
  all_goals (dsimp only;omega)
 unfold enterT
 split
 ·unfold B1;dsimp only;omega
 split
 ·exact h1
 split
 ·split
  ·exact h2
  ·exact h3 _ _ _
 ·exact h3 _ _ _
theorem Acv (n:Net) (port:Int) (b:List UInt8):B1 (linkT n port b).2.2.2:=by
 unfold linkT
 split
 ·unfold B1;dsimp only;omega
 ·exact T0 _ _ _
theorem Ajx (n:Net) (port dom:Int) (f:FrameM):B1 (leaveT n port dom f).2:=by
 unfold leaveT
 split
 ·unfold B1;dsimp only;omega
 split
 ·unfold B1;dsimp only;omega
 split
 ·unfold B1;dsimp only;omega
 split
 ·unfold B1;dsimp only;omega
 split
 ·show B1 (tagT f (nth n.domains dom).vlan).2
  unfold tagT B1
  repeat' split
  all_goals (dsimp only;omega)
 ·unfold B1;dsimp only;omega
theorem Amk (a b:Nat) (v:Int) (f:FrameM):B1 (wrapT a b v f).2:=by
 unfold wrapT B1
 repeat' split
 all_goals (dsimp only;omega)
theorem Anw (n:Net) (dom peer:Int) (f:FrameM):B1 (meshT n dom peer f).2:=by
 unfold meshT
 split
 ·unfold B1;dsimp only;omega
 split
 ·unfold B1;dsimp only;omega
 ·exact Amk _ _ _ _
theorem Xi (b:List UInt8):B1 (ipTakeT b).2:=by
 unfold ipTakeT B1
 repeat' split
 all_goals (dsimp only;omega)
theorem Adp (b:List UInt8):B1 (udpTakeT b).2.2.2:=by
 unfold udpTakeT B1
 repeat' split
 all_goals (dsimp only;omega)
theorem Aoz (b:List UInt8):B1 (vniT b).2.2:=by
 unfold vniT B1
 repeat' split
 all_goals (dsimp only;omega)
theorem Ajf (b:List UInt8):B1 (outerT b).2:=by
 unfold outerT
 split
 ·exact V5 _
 split
 ·unfold B1;dsimp only;omega
 split
 ·exact Xi _
 ·unfold B1;dsimp only;split<;>omega
theorem Aj9 (b:List UInt8):B1 (innerT b).2.2:=by
 unfold innerT
 split
 ·exact Adp _
 split
 ·unfold B1;dsimp only;omega
 split
 ·exact Aoz _
 split
 ·exact V5 _
 split
 ·unfold B1;dsimp only;omega
 ·unfold B1;dsimp only;omega
theorem Afm (b:List UInt8):B1 (unwrapT b).2.2.2.2:=by
 unfold unwrapT
 split
 ·exact Ajf _
 split
 ·exact Aj9 _
 ·unfold B1;dsimp only;omega
theorem Adi (n:Net) (b:List UInt8):B1 (comeT n b).2.2.2:=by
 unfold comeT
 split
 ·unfold B1;dsimp only;omega
 split
 ·exact Afm _
 split
 ·unfold B1;dsimp only;omega
 split
 ·unfold B1;dsimp only;omega
 ·unfold B1;dsimp only;omega
theorem Aq1 (n:Net) (irb:Int) (f:FrameM):B1 (hopT n irb f).2.2:=by
 unfold hopT
 split
 ·unfold B1;dsimp only;omega
 split
 ·unfold B1;dsimp only;omega
 split
 ·exact Xi _
 split
 ·unfold B1;dsimp only;omega
 split
 ·unfold B1;dsimp only;omega
 split
 ·unfold B1;dsimp only;omega
 ·unfold B1;dsimp only;omega
theorem Xt (n:Net) (fw:List Bool) (t:List EntryM) (dom:Int) (q:QueuedM) (now:Int):B1 (bridgeT n fw t dom q now).2.2:=by
 unfold bridgeT
 split
 ·unfold B1;dsimp only;omega
 split
 ·split
  ·exact Aq1 _ _ _
  ·unfold B1;dsimp only;omega
 ·unfold B1;dsimp only;omega
theorem Ama {n:Net} {dev v:Int} (h:Cn n dev v=true):DomIn n (Aa0 n dev v):=by
 have h1:0≤Aa0 n dev v:=by simpa [Cn] using h
 have h2:Aa0 n dev v<n.domains.length:=Ji _ _
 exact⟨h1,by omega⟩
theorem Ao0 {n:Net} (hb:Ae n=true) {port:Int} (hp:Ai port n.ports.length=true) {tg:Bool} {vid:Int} (h:(vlanT (nth n.ports port) tg vid).2=true):DomIn n (Aa0 n (nth n.ports port).dev (vlanT (nth n.ports port) tg vid).1):=by
 have hk:=Ba hp
 have hk2:port.toNat<n.ports.length:=by omega
 simp only[Ae,Bool.and_eq_true]at hb
 have hpb:=allB_iff.1 hb.1.1.1.1.1.2 _ hk2
 rw[Ak hk2]at h ⊢
 generalize n.ports[port.toNat]=p at *
 simp only[D9,Bool.and_eq_true]at hpb
 obtain ⟨⟨⟨⟨⟨⟨⟨⟨g1,g2⟩,g3⟩,g4⟩,g5⟩,g6⟩,g7⟩,g8⟩,g9⟩:=hpb
 unfold vlanT at h ⊢
 split
 ·rw[if_pos (by assumption)]at h
  have h1:p.native≠0:=by simpa using h
  have h2:0≤p.native:=by simpa using g2
  refine Ama ?_
  have h3:decide (0<p.native)=true:=by simp;omega
  rw[h3,Bool.true_and]at g8
  simpa using g8
 ·rw[if_neg (by assumption)]at h
  split
  ·rename_i h4
   have h5:vid∈p.tagged:=inB_mem.1 h4
   obtain ⟨i,hi,rfl⟩:=List.mem_iff_getElem.1 h5
   exact Ama (allB_iff.1 g7 i hi)
  ·rw[if_neg (by assumption)]at h
   cases h
theorem T1 {n:Net} {port:Int} {b:List UInt8} (h:(enterT n port b).2.2=0):DomIn n (enterT n port b).1:=by
 unfold enterT at h ⊢
 split
 ·rw[if_pos (by assumption)]at h;cases h
 rename_i hc
 rw[if_neg hc]at h
 have hp:Ai port n.ports.length=true:=by cases hx:Ai port n.ports.length;exact absurd (.inl hx) hc;rfl
 have hb:Ae n=true:=by cases hx:Ae n;exact absurd (.inr hx) hc;rfl
 have key:∀ f tg v,(Ja n port f tg v).2.2=0→DomIn n (Ja n port f tg v).1:=fun f tg v h=>by
  unfold Ja at h ⊢
  split
  ·rw[if_pos (by assumption)]at h;cases h
  rw[if_neg (by assumption)]at h
  split
  ·rw[if_pos (by assumption)]at h;cases h
  rename_i h5
  show DomIn n (Lq n _ _)
  rw[Lq,if_pos hb]
  exact Ao0 hb hp (by simpa using h5)
 split
 ·rename_i h2
  rw[if_pos h2]at h
  exact absurd h h2
 rename_i h2
 rw[if_neg h2]at h
 split
 ·rename_i h3
  rw[if_pos h3]at h
  split
  ·rename_i h4
   rw[if_pos h4]at h
   exact absurd h h4
  ·rename_i h4
   rw[if_neg h4]at h
   exact key _ _ _ h
 ·rename_i h3
  rw[if_neg h3]at h
  exact key _ _ _ h
theorem Acw {n:Net} {port:Int} {b:List UInt8} (h:(linkT n port b).2.2.2=0):DomIn n (linkT n port b).2.1:=by
 unfold linkT at h ⊢
 split
 ·rw[if_pos (by assumption)]at h;cases h
 ·rename_i h2
  rw[if_neg h2]at h
  exact T1 h
theorem Zw {n:Net} (hb:Ae n=true) {dom:Nat} (hd:dom<n.domains.length) {k:Int} (hk:k∈n.domains[dom].peers):DomIn n k:=by
 simp only[Ae,Bool.and_eq_true]at hb
 have:=allB_iff.1 hb.1.1.1.1.1.1.2 _ hd
 obtain ⟨i,hi,rfl⟩:=List.mem_iff_getElem.1 hk
 have h2:=allB_iff.1 this i hi
 simp only[Qc,Bool.and_eq_true]at h2
 exact Ha h2.1.1.1.1.1.1.1.1.1
theorem Arj {n:Net} (hb:Ae n=true) {src dst:Nat} {vni:Int} (h:¬ (endsT n src dst vni).1<0):DomIn n (endsT n src dst vni).1∧DomIn n (endsT n src dst vni).2:=by
 unfold endsT at h ⊢
 dsimp only at h ⊢
 split
 ·rw[if_pos (by assumption)]at h;exact absurd qy h
 rename_i h1
 rw[if_neg h1]at h
 split
 ·rw[if_pos (by assumption)]at h;exact absurd qy h
 rename_i h2
 have hd:=Ji (fun d:Domain=>decide (d.dev=Dq (fun d:Device=>decide (d.vtep=(dst:Int))) n.devices) && decide (d.vni=vni)) n.domains
 generalize Dq (fun d:Domain=>decide (d.dev=Dq (fun d:Device=>decide (d.vtep=(dst:Int))) n.devices) && decide (d.vni=vni)) n.domains=dom at *
 have hd2:dom.toNat<n.domains.length:=by omega
 have hi:=Ji (fun k:Int=>decide (E7 n k=(src:Int))) (nth n.domains dom).peers
 generalize Dq (fun k:Int=>decide (E7 n k=(src:Int))) (nth n.domains dom).peers=i at *
 rw[Ak hd2]at hi ⊢
 have hi2:i.toNat<(n.domains[dom.toNat]).peers.length:=by omega
 refine⟨?_,⟨by dsimp only;omega,hd2⟩⟩
 show DomIn n (nth (n.domains[dom.toNat]).peers i)
 rw[Ak hi2]
 exact Zw hb hd2 (List.getElem_mem hi2)
theorem Wu {n:Net} {b:List UInt8} (h:(comeT n b).2.2.2=0):DomIn n (comeT n b).1∧DomIn n (comeT n b).2.1:=by
 unfold comeT at h ⊢
 split
 ·rw[if_pos (by assumption)]at h;cases h
 rename_i hb
 rw[if_neg hb]at h
 split
 ·rename_i h2
  rw[if_pos h2]at h;exact absurd h h2
 rename_i h2
 rw[if_neg h2]at h
 split
 ·rw[if_pos (by assumption)]at h;cases h
 rename_i h3
 rw[if_neg h3]at h
 split
 ·rw[if_pos (by assumption)]at h;cases h
 exact Arj (by simpa using hb) h3
theorem Aq2 {n:Net} {irb:Int} {f:FrameM} (hin:∀ (d:Int),(lookT n irb d).2=true→0≤(lookT n irb d).1∧(lookT n irb d).1.toNat<n.irbs.length) (h:(hopT n irb f).2.2=0):DomIn n (hopT n irb f).1:=by
 unfold hopT at h ⊢
 split
 ·rw[if_pos (by assumption)]at h;cases h
 rename_i h1
 rw[if_neg h1]at h
 split
 ·rw[if_pos (by assumption)]at h;cases h
 rename_i h2
 rw[if_neg h2]at h
 split
 ·rename_i h3
  rw[if_pos h3]at h;exact absurd h h3
 rename_i h3
 rw[if_neg h3]at h
 split
 ·rw[if_pos (by assumption)]at h;cases h
 rename_i h4
 rw[if_neg h4]at h
 split
 ·rw[if_pos (by assumption)]at h;cases h
 rename_i h5
 rw[if_neg h5]at h
 split
 ·rw[if_pos (by assumption)]at h;cases h
 have hl:=hin ((ipTakeT f.body).1.dst:Int) (by simpa using h5)
 have hb:Ae n=true:=by cases hx:Ae n;exact absurd (.inr hx) h1;rfl
 have:=(Dj hb hl.2).1
 show DomIn n (nth n.irbs _).domain
 rw[Ak hl.2]
 exact this
structure TabOK (t:List EntryM):Prop where
 short:Ap t
 mac:∀ e∈t,e.mac<18446744073709551616
 wh:∀ e∈t,I64 e.where_
structure QueuedOK (q:QueuedM):Prop where
 frame:FrameOK q.frame
 from_:-2≤q.from_∧q.from_<1099511627776
 peer:0≤q.peer∧q.peer<1099511627776
def Hi (l:List QueuedM):Prop:=l.length≤64∧∀ q∈l,QueuedOK q
structure MacOK (n:Net) (m:MacM) (J D:Int):Prop where
 up:m.up.length=n.links.length
 tabs:m.tables.length=n.domains.length
 ques:m.queues.length=n.domains.length
 tab:∀ t∈m.tables,TabOK t
 que:∀ l∈m.queues,Hi l
 now:0≤m.now∧m.now≤1099511627776
 inj:0≤m.injected∧m.injected≤J
 drp:∀ i,0≤m.drops i∧m.drops i≤D
theorem Dw {f:FrameM} (hf:FrameOK f) {a b:Int} (c:Int) (h1:-2≤a∧a<1099511627776) (h2:0≤b∧b<1099511627776):QueuedOK ⟨a,b,c,f⟩:=⟨hf,h1,h2⟩
theorem Aqk:QueuedOK noQ:=⟨Ea,by decide,by decide⟩
theorem Wh:TabOK []:=⟨by unfold Ap;decide,fun _ h=>(by cases h),fun _ h=>(by cases h)⟩
theorem Xc:Hi []:=⟨by decide,fun _ h=>(by cases h)⟩
theorem Yj {α:Type} {l:List α} {i:Nat} {x y:α} (h:y∈l.set i x):y=x∨y∈l:=by
 rcases List.mem_or_eq_of_mem_set h with h | h
 ·exact .inr h
 ·exact .inl h
theorem Qp {α:Type} {l:List α} {i:Nat} {d:α} (h:i<l.length):(l[i]?).getD d∈l:=by
 rw[List.getElem?_eq_getElem h]
 exact List.getElem_mem h
theorem C9 {n:Net} {m:MacM} {J D:Int} (h:MacOK n m J D) (dom:Int):Hi (queueL m dom):=by
 unfold queueL
 by_cases hd:dom.toNat<m.queues.length
 ·exact h.que _ (Qp hd)
 ·rw[List.getElem?_eq_none qn];exact Xc
theorem L5 {n:Net} {m:MacM} {J D:Int} (h:MacOK n m J D) (dom:Int):TabOK (tableL m dom):=by
 unfold tableL
 by_cases hd:dom.toNat<m.tables.length
 ·exact h.tab _ (Qp hd)
 ·rw[List.getElem?_eq_none qn];exact Wh
theorem MacOK.mono {n:Net} {m:MacM} {J D J' D':Int} (h:MacOK n m J D) (h1:J≤J') (h2:D≤D'):MacOK n m J' D' :=
 ⟨h.up,h.tabs,h.ques,h.tab,h.que,h.now,⟨h.inj.1,by have:=h.inj.2;omega⟩,fun i=>⟨(h.drp i).1,by have:=(h.drp i).2;omega⟩⟩
theorem Qs {n:Net} {m:MacM} {J D:Int} (h:MacOK n m J D) (_hD:0≤D) (e:Int):MacOK n (Bg m e) J (D+1):=by
 refine⟨h.up,h.tabs,h.ques,h.tab,h.que,h.now,h.inj,fun i=>?_⟩
 have:=h.drp i
 show 0≤(if i=e.toNat then m.drops i+1 else m.drops i)∧(if i=e.toNat then m.drops i+1 else m.drops i)≤D+1
 split<;>omega
theorem Ali {n:Net} {m:MacM} {J D:Int} (h:MacOK n m J D) (dom:Int) {l:List QueuedM} (hl:Hi l):MacOK n (Adx m dom l) J D:=by
 refine⟨h.up,h.tabs,by rw[Adx];simp[h.ques],h.tab,fun x hx=>?_,h.now,h.inj,h.drp⟩
 rcases Yj hx with rfl | hx
 ·exact hl
 ·exact h.que x hx
theorem Adw {n:Net} {m:MacM} {J D:Int} (h:MacOK n m J D) (dom:Int) {l:List EntryM} (hl:TabOK l):MacOK n (Bz m dom l) J D:=by
 refine⟨h.up,by rw[Bz];simp[h.tabs],h.ques,fun x hx=>?_,h.que,h.now,h.inj,h.drp⟩
 rcases Yj hx with rfl | hx
 ·exact hl
 ·exact h.tab x hx
theorem Ap6 {l:List QueuedM} (hl:Hi l) {q:QueuedM} (hq:QueuedOK q):Hi (pushT l q).1:=by
 unfold pushT
 split
 ·exact hl
 ·refine⟨by simp;omega,fun x hx=>?_⟩
  rcases List.mem_append.1 hx with hx | hx
  ·exact hl.2 x hx
  ·rw[List.mem_singleton.1 hx];exact hq
theorem Ao6 {l:List QueuedM} (hl:Hi l) (at_:Int):QueuedOK (takeT l at_).1∧Hi (takeT l at_).2.1:=by
 unfold takeT
 split
 ·exact⟨Aqk,hl⟩
 ·rename_i h
  refine⟨hl.2 _ (Qp qn),?_,fun x hx=>hl.2 x (List.mem_of_mem_eraseIdx hx)⟩
  have:=List.length_eraseIdx_le l at_.toNat
  have:=hl.1
  show (l.eraseIdx at_.toNat).length≤64
  omega
theorem Vt {n:Net} {m:MacM} {J D:Int} (h:MacOK n m J D) (hD:0≤D) (dom:Int) {q:QueuedM} (hq:QueuedOK q) (e:Int):MacOK n (comeM m dom q e) J (D+1):=by
 unfold comeM
 split
 ·exact Qs h hD e
 split
 ·exact(Ali h dom (Ap6 (C9 h dom) hq)).mono (Int.le_refl _) qn
 ·exact Qs h hD 3
theorem Uh {n:Net} {m:MacM} {J D:Int} (h:MacOK n m J D) (dom at_:Int):MacOK n (takeM m dom at_).1 J D∧QueuedOK (takeM m dom at_).2.1:=by
 unfold takeM
 split
 ·exact⟨h,Aqk⟩
 ·have:=Ao6 (C9 h dom) at_
  exact⟨Ali h dom this.2,this.1⟩
theorem Aka {n:Net} (hn:n.Fin) {m:MacM} {J D:Int} (h:MacOK n m J D) (_hJ:0≤J) (hD:0≤D) (port:Int) (b:List UInt8):MacOK n (injectT n m port b) (J+1) (D+1):=by
 unfold injectT
 split
 ·exact h.mono qn qn
 ·rename_i hc
  have hp:Ai port n.ports.length=true:=by cases hx:Ai port n.ports.length;exact absurd (.inl hx) hc;rfl
  have hpi:=Ba hp
  have hs:=hn.ports
  unfold Ap at hs
  have h1:=h.inj
  have hm:MacOK n ⟨m.up,m.tables,m.queues,m.now,m.injected+1,m.drops⟩ (J+1) D:=⟨h.up,h.tabs,h.ques,h.tab,h.que,h.now,(by show 0≤m.injected+1∧m.injected+1≤J+1;omega),h.drp⟩
  exact Vt hm hD _ (Dw (Sj _ _ _) _ qn qn) _
structure OutOK (n:Net) (o:OutM):Prop where
 kind:1≤o.kind∧o.kind≤5
 bytes:o.bytes.length≤1518
 frame:o.kind=4→FrameOK o.frame∧DomIn n o.domain
 err:o.kind=5→B1 o.error
theorem Anp {n:Net} (hn:n.Fin) (port:Int):-1≤En n port∧En n port<2147483648:=by
 unfold En
 split
 ·rename_i h
  obtain ⟨⟨h1,h2⟩,h3,hb⟩:=h
  have hk:port.toNat<n.ports.length:=by omega
  rw[Ak hk]at h3 ⊢
  have hl:=(Lp hb hk h3).1
  rw[Ak hl]
  simp only[Ae,Bool.and_eq_true]at hb
  have hlb:=allB_iff.1 hb.1.1.1.1.2 _ hl
  simp only[K1,Bool.and_eq_true]at hlb
  have ha:=Ba hlb.1.1.1.1
  have hb2:=Ba hlb.1.1.1.2
  have hs:=hn.ports
  unfold Ap at hs
  split<;>omega
 ·omega
theorem Z2 {n:Net} (hn:n.Fin) (port:Int) (b:List UInt8):0≤(linkT n port b).1∧(linkT n port b).1<1099511627776:=by
 have:=Anp hn port
 unfold linkT
 split<;>dsimp only<;>omega
theorem Ub {n:Net} (hn:n.Fin) (b:List UInt8):0≤(comeT n b).1∧(comeT n b).1<1099511627776:=by
 by_cases h:(comeT n b).2.2.2=0
 ·have:=(Wu h).1
  have hs:=hn.domains
  unfold Ap at hs
  unfold DomIn at this
  omega
 ·unfold comeT at h ⊢
  split
  ·decide
  rename_i h1
  rw[if_neg h1]at h
  split
  ·exact⟨Int.le_refl _,by dsimp only;omega⟩
  rename_i h1
  rw[if_neg h1]at h
  split
  ·decide
  rename_i h1
  rw[if_neg h1]at h
  split
  ·decide
  rename_i h1
  rw[if_neg h1]at h
  exact absurd E h
theorem Arc {n:Net} (hn:n.Fin) {m:MacM} {J D:Int} (h:MacOK n m J D) (hD:0≤D) {o:OutM} (ho:OutOK n o) (origin:Int):MacOK n (goesM n m o origin).1 J (D+1):=by
 unfold goesM
 split
 ·exact h.mono (Int.le_refl _) qn
 split
 ·have:=Z2 hn o.port o.bytes
  exact Vt h hD _ (Dw (Z3 _ _ _) _ qn qn) _
 split
 ·exact Vt h hD _ (Dw (Aa3 _ _) _ qn (Ub hn o.bytes)) _
 split
 ·rename_i h4
  exact Vt h hD o.domain (Dw (a:=-2) (b:=0) (ho.frame h4).1 origin qy qy) 0
 ·exact Qs h hD _
theorem Jv {n:Net} (hn:n.Fin) (origin:Int):∀ (l:List OutM) {m:MacM} {J D:Int},MacOK n m J D→0≤D→(∀ o∈l,OutOK n o)→MacOK n (A7 n m origin l).1 J (D+l.length)
 | [],m,J,D,h,_,_=>by
  rw[A7]
  exact h.mono (Int.le_refl _) qz
 | o::l,m,J,D,h,hD,ho=>by
  rw[A7]
  have:=Jv hn origin l (Arc hn h hD (ho o qz) origin) qn (fun x hx=>ho x (by simp[hx]))
  exact this.mono (Int.le_refl _) (by simp only[List.length_cons];omega)
theorem Agz {n:Net} {o:OutM} {r:List UInt8 × Int} (hk:1≤o.kind∧o.kind≤3) (hr:r.1.length≤1518) (he:B1 r.2):OutOK n (D5 o r):=by
 unfold D5
 split
 ·exact⟨⟨by dsimp only;omega,by dsimp only;omega⟩,by simp,fun h=>absurd h (by dsimp only;omega),fun _=>he⟩
 ·exact⟨⟨hk.1,by have:=hk.2;dsimp only;omega⟩,hr,fun h=>by have:=hk.2;dsimp only at h;omega,fun h=>by have:=hk.2;dsimp only at h;omega⟩
theorem Any {t:List EntryM} (h:TabOK t) {m:Nat} (hm:m<18446744073709551616) {wh:Int} (hw:I64 wh) (now:Int):TabOK (learnT t m wh now):=by
 have hs:=h.short
 unfold Ap at hs
 have key:∀ e:EntryM,e∈learnT t m wh now→e∈t∨e=⟨m,wh,now⟩:=fun e he=>by
  unfold learnT at he
  split at he
  ·exact .inl he
  split at he
  ·rcases Yj he with h | h
   ·exact .inr h
   ·exact .inl h
  ·rcases List.mem_append.1 he with h | h
   ·split at h
    ·exact .inl (List.mem_of_mem_eraseIdx h)
    ·exact .inl h
   ·exact .inr (List.mem_singleton.1 h)
 refine⟨?_,fun e he=>?_,fun e he=>?_⟩
 ·unfold learnT
  split
  ·exact h.short
  rename_i hb
  have h8:t.length≤8:=by
   have:tableB t=true:=by cases hx:tableB t;exact absurd (.inl hx) hb;rfl
   simp only[tableB,Bool.and_eq_true,decide_eq_true_eq]at this
   exact this.1
  split
  ·unfold Ap;simp;omega
  ·unfold Ap
   split
   ·have:=List.length_eraseIdx_le t (oldestU t t.length)
    simp only[List.length_append,List.length_cons,List.length_nil]
    omega
   ·simp only[List.length_append,List.length_cons,List.length_nil]
    omega
 ·rcases key e he with h1 | rfl
  ·exact h.mac e h1
  ·exact hm
 ·rcases key e he with h1 | rfl
  ·exact h.wh e h1
  ·exact hw
theorem Mf {t:List EntryM} (h:TabOK t) {q:QueuedM} (hq:QueuedOK q) (now:Int):TabOK (learnQ t q now):=by
 unfold learnQ
 split
 ·exact h
 ·have hs:=hq.frame.src
  refine Any h qn ?_ now
  have h1:=hq.from_
  have h2:=hq.peer
  unfold I64
  split<;>omega
theorem Ats {t:List EntryM} (h:TabOK t) (now:Int):TabOK (ageT t now):=by
 unfold ageT
 split
 ·exact h
 ·have hs:=h.short
  unfold Ap at hs
  refine⟨?_,fun e he=>h.mac e (List.mem_filter.1 he).1,fun e he=>h.wh e (List.mem_filter.1 he).1⟩
  unfold Ap
  exact Nat.lt_of_le_of_lt (List.length_filter_le _ _) hs
theorem Agu (n:Net) (dom:Int):(Ax n dom).length≤n.ports.length:=by
 rw[Ax]
 have:=Ev (Jt n (nth n.domains dom)) n.ports.length
 exact this
end Go.Sy.YteinjapglfkamaaGreat
namespace Go.Sy
theorem Amj {C:Cx} {kk:List KI} {s:SS} (q:Nat) (r:List Nat) {sz:Nat} {α:Type} {e:α→SV} {l:List α} (h:s.h q=.row sz e l) (hl:l≠[]) (hr:∀ i∈r,s.σ i=.osl q)
  (hg:∀ b cap,l.length≤cap→G C kk ⟨freezeσ s.σ (.val (.slice (some ⟨b,0,none⟩) l.length cap)) r,upd s.h q (.pin b l.length cap sz e l)⟩):G C kk s:=fun κ a w hs=>by
 have hob:=hs.obj q
 rw[h]at hob
 rcases hob with ⟨_,h1⟩ | hrow
 ·exact absurd h1 hl
 obtain ⟨b,cap,cs,T,fr,e1,e2,e3,e4,e5,e6⟩:=hrow
 refine hg b cap e5 κ a w ⟨hs.defers,hs.size,hs.inv,hs.ctx,fun i=>?_,fun j=>?_⟩
 ·refine freezeσ_ok r _ i (hs.slot i) (fun hi=>?_)
  have:=hs.slot i
  rw[hr i hi]at this
  simp only[Rd,e1]at this
  simp only[Rd]
  exact this
 ·show ObOK κ w j (upd s.h q _ j)
  by_cases hj:j=q
  ·subst hj;rw[By];exact⟨e1,b,cap,cs,T,fr,e1,e2,e3,e4,e5,e6⟩
  ·rw[Ck _ _ hj];exact hs.obj j
theorem Yr {C:Cx} {kk:List KI} {s:SS} (q d:Nat) (r:List Nat) (m:Nat) {b n cap sz:Nat} {α:Type} {e:α→SV} {l:List α} (h:s.h q=.pin b n cap sz e l) (hd:s.h d=.fresh) (hm:m≤l.length)
  (hr:∀ i∈r,s.σ i=.val (.slice (some ⟨b,0,none⟩) m cap)) (hg:G C kk ⟨freezeσ s.σ (.osl d) r,upd (upd s.h q .non) d (.row sz e (l.take m))⟩):G C kk s:=fun κ a w hs=>by
 have hob:=hs.obj q
 rw[h]at hob
 have hnew:κ d=.new:=by have:=hs.obj d;rwa [hd]at this
 obtain ⟨e0,b',cap',cs,T,fr,e1,e2,e3,e4,e5,e6⟩:=hob
 rw[e0]at e1
 cases e1
 have hln:l.length≤n:=by
  by_cases h0:l.length=0
  ·omega
  ·have:=(e6 (l.length-1) _ ⟨by omega,rfl⟩).1
   omega
 obtain ⟨st,inv⟩:=Q6 (n':=m) (w':=w) hs.inv e0 hnew rfl rfl rfl rfl (fun _ _=>rfl)
 have hlt:(l.take m).length=m:=by rw[List.length_take];omega
 refine hg _ a w ⟨hs.defers,hs.size,inv,hs.ctx.step inv st,fun j=>?_,fun j=>?_⟩
 ·refine freezeσ_ok r _ j (Rd.step st _ _ (hs.slot j)) (fun hj=>?_)
  have:=hs.slot j
  rw[hr j hj]at this
  simp only[Rd]at this
  simp[Rd,Az,this]
 ·show ObOK _ w j (upd (upd s.h q .non) d _ j)
  by_cases hj:j=d
  ·subst hj;rw[By]
   refine .inr ⟨b,cap,cs,T,fr,by rw[Az,hlt],e2,e3,e4,by omega,fun i x hx=>?_⟩
   obtain ⟨hi,rfl⟩:=hx
   obtain ⟨_,u,q2,q3⟩:=e6 i (e l[i]) ⟨by omega,rfl⟩
   refine⟨hi,u,?_,q3⟩
   rw[List.getElem_take]
   exact RdD.keep st.keeps _ _ q2
  ·rw[Ck _ _ hj]
   by_cases hj2:j=q
   ·subst hj2;rw[By];trivial
   ·rw[Ck _ _ hj2];exact ObOK.step st (fun e=>e.elim hj2 hj) _ (hs.obj j)
theorem Dh {P:Program} (Γ:Ty P) {o:Oper} {s:SS} {t:TypeId} {ti:TI} {et:TypeId} {sz eb b n cap lo hi:Nat} {ez:List Value} {x:Operand} {lx hx:Option Operand}
  (h:o.op=.slice t x lx hx none) (ht:Γ.get t=some ti) (hk:ti.k=.slice et sz eb ez) (hxe:ev s x=.val (.slice (some ⟨b,0,none⟩) n cap)) (hlo:BoundIs s lx 0 lo) (hhi:BoundIs s hx n hi) (h1:lo≤hi) (h2:hi≤cap) :
  Good P o s ⟨.val (.slice (some (if cap=lo then ⟨b,0,none⟩ else ⟨b,lo * sz,none⟩)) (hi-lo) (cap-lo)),[],[]⟩ :=
 Good.pure fun κ a w _ hr _=>by
  have r1:=hr x (by simp[h,Op.operands])
  rw[hxe]at r1
  obtain ⟨hu,i,zv,q1,q2,q3,q4,q5⟩:=Cg Γ ht hk
  have b1:=hlo.val (a:=a) (fun y hy=>hr y (by simp[h,Op.operands,hy]))
  have b2:=hhi.val (a:=a) (fun y hy=>hr y (by simp[h,Op.operands,hy]))
  have hb:=Hx (P:=P) w (len:=n) (cap:=cap) b1 b2 h1 h2
  refine⟨.slice (some (if cap=lo then ⟨b,0,none⟩ else ⟨b,lo * sz,none⟩)) (hi-lo) (cap-lo),?_,by simp only[Rd]⟩
  by_cases hc:cap=lo
  ·subst hc
   simp[execOp,h,r1.val,Instr.sliceAt,Instr.slice,run_underlying hu,hb,sizeOf,typeInfo,q1]
  ·simp[execOp,h,r1.val,Instr.sliceAt,Instr.slice,run_underlying hu,hb,sizeOf,typeInfo,q1,q2,hc,Addr.add_lit]
theorem Abt {P:Program} (Γ:Ty P) {o:Oper} {s:SS} {t:TypeId} {ti:TI} {et:TypeId} {sz eb b n cap lo hi mm:Nat} {ez:List Value} {x:Operand} {lx hx mx:Operand} {k1 k2 k3:IntKind}
  (h:o.op=.slice t x (some lx) (some hx) (some mx)) (ht:Γ.get t=some ti) (hk:ti.k=.slice et sz eb ez) (hxe:ev s x=.val (.slice (some ⟨b,0,none⟩) n cap)) (hlo:ev s lx=.val (.int k1 lo)) (hhi:ev s hx=.val (.int k2 hi)) (hmx:ev s mx=.val (.int k3 mm))
  (h1:lo≤hi) (h2:hi≤mm) (h3:mm≤cap):Good P o s ⟨.top,[],[]⟩ :=
 Good.pure fun κ a w _ hr _=>by
  have r1:=hr x (by simp[h,Op.operands])
  have r2:=hr lx (by simp[h,Op.operands])
  have r3:=hr hx (by simp[h,Op.operands])
  have r4:=hr mx (by simp[h,Op.operands])
  rw[hxe]at r1
  rw[hlo]at r2
  rw[hhi]at r3
  rw[hmx]at r4
  obtain ⟨hu,i,zv,q1,q2,q3,q4,q5⟩:=Cg Γ ht hk
  have hb:(Instr.sliceBounds true n cap (some (a.eval lx)) (some (a.eval hx)) (some (a.eval mx))).run P w=.ok (lo,hi,mm) w:=by
   rw[r2.val,r3.val,r4.val]
   simp[Instr.sliceBounds,Instr.sliceBound,asIntOf,h1,h2,h3]
  refine⟨.slice (some (if mm=lo then ⟨b,0,none⟩ else ⟨b,lo * sz,none⟩)) (hi-lo) (mm-lo),?_,by simp only[Rd]⟩
  by_cases hc:mm=lo
  ·subst hc
   simp[execOp,h,r1.val,Instr.sliceAt,Instr.slice,run_underlying hu,hb,sizeOf,typeInfo,q1]
  ·simp[execOp,h,r1.val,Instr.sliceAt,Instr.slice,run_underlying hu,hb,sizeOf,typeInfo,q1,q2,hc,Addr.add_lit]
theorem Ox {κ:Ka} {w w':World} {k b n cap:Nat} (hi:Inv κ w) (hk:κ k=.row b n cap) (hos:w'.os=w.os) (ht:w'.tape=w.tape) (ho:w'.output=w.output)
  (hs:w'.heap.size=w.heap.size) (hb:∀ i,i≠b→w'.heap[i]? = w.heap[i]?):Step (fun j=>j=k) κ w κ w'∧Inv κ w':=by
 have hkb:(κ k).block? = some b:=by rw[hk];rfl
 refine⟨⟨by omega,hos,ht,ho,E,fun c hm=>hb c (fun e=>hi.apart k b hkb (e ▸ hm)),fun c _ hn=>hb c (fun e=>hn (.inl ⟨k,e ▸ hkb⟩)),fun j c hj hjc=>hb c (fun e=>hj ?_),fun _ _=>rfl,fun _ _=>.inr (.inl E),fun _ h=>.inl h⟩,
  ⟨hi.inj,fun j c h=>by rw[hs];exact hi.bnd j c h,hi.apart,fun c h=>by rw[hs];exact hi.mbnd c h⟩⟩
 subst e
 exact hi.inj j k _ hjc hkb
theorem Af1 {cs:List Value} {sz n:Nat} (h:∀ i,i<n→∃ u:Value,u.cells.size=sz∧Ones u.cells.toList∧∀ j,j<sz→cs[i * sz+j]? = u.cells[j]?) {p:Nat} (hp:p<n * sz) {v:Value} (hv:cs[p]? = some v):v.oneCell'=true:=by
 have h0:0<sz:=by
  rcases Nat.eq_zero_or_pos sz with rfl | h
  ·simp at hp
  ·exact h
 obtain ⟨u,h1,h2,h3⟩:=h (p / sz) (Nat.div_lt_of_lt_mul (by rw[Nat.mul_comm];exact hp))
 have h4:=h3 (p % sz) (Nat.mod_lt _ h0)
 rw[Nat.mul_comm,Nat.div_add_mod,hv]at h4
 obtain ⟨hl,he⟩:=Array.getElem?_eq_some_iff.1 h4.symm
 refine h2 v ?_
 rw[← he]
 exact Array.getElem_mem_toList hl
theorem X7 {P:Program} (Γ:Ty P) {o:Oper} {s:SS} (q:Nat) {t:TypeId} {ti:TI} {et:TypeId} {sz eb b n cap i j:Nat} {ez:List Value} {x y:Operand} {α:Type} {e:α→SV} {l:List α} {B:Option Addr} {c:Nat}
  (h:o.op=.call ⟨.builtin .append,#[x,y],#[t,t]⟩) (ht:Γ.get t=some ti) (hk:ti.k=.slice et sz eb ez) (hx:ev s x=.val (.slice (some ⟨b,0,none⟩) i cap))
  (hy:ev s y=.val (.slice B (n-j) c)) (hB:B=some (if cap=j then ⟨b,0,none⟩ else ⟨b,j * sz,none⟩)) (hob:s.h q=.pin b n cap sz e l) (hl:l.length=n) (hij:i≤j) (hj:j≤n) :
  Good P o s ⟨.val (.slice (some ⟨b,0,none⟩) (i+(n-j)) cap),[],[(q,.pin b n cap sz e (l.take i++l.drop j))]⟩:=by
 intro κ a w hinv hr ho N Q hN
 have r1:=hr x (by simp[h,Op.operands,Call.operands])
 have r2:=hr y (by simp[h,Op.operands,Call.operands])
 rw[hx]at r1
 rw[hy]at r2
 subst hB
 have hq:=ho q (.inr (by simp[Up.ws]))
 rw[hob]at hq
 obtain ⟨e0,b',cap',cs,T,fr,e1,e2,e3,e4,e5,e6⟩:=hq
 rw[e0]at e1
 cases e1
 obtain ⟨hu,ii,zv,q1,q2,q3,q4,q5⟩:=Cg Γ ht hk
 have hall:∀ i,i<n→∃ u:Value,u.cells.size=sz∧Ones u.cells.toList∧∀ j,j<sz→cs[i * sz+j]? = u.cells[j]?:=fun i hi=>by
  obtain ⟨_,u,_,u2⟩:=e6 i (e l[i]) ⟨by omega,rfl⟩
  exact⟨u,u2⟩
 obtain ⟨news,hnews⟩:∃ news,news=(cs.drop (j * sz)).take ((n-j) * sz):=⟨_,rfl⟩
 have hmul:(n-j) * sz+j * sz=n * sz:=by rw[← Nat.add_mul];congr 1;omega
 have hnc:n * sz≤cap * sz:=Nat.mul_le_mul_right sz e5
 have hijs:i * sz≤j * sz:=Nat.mul_le_mul_right sz hij
 have hnl:news.length=(n-j) * sz:=by rw[hnews,List.length_take,List.length_drop];omega
 have hget:∀ p,p<(n-j) * sz→news[p]? = cs[j * sz+p]?:=fun p hp=>by
  rw[hnews,List.getElem?_take,if_pos hp,List.getElem?_drop]
 have hones:Ones news:=fun v hv=>by
  obtain ⟨p,hp,he⟩:=List.getElem_of_mem hv
  have h1:news[p]? = some v:=by rw[List.getElem?_eq_getElem hp,he]
  rw[hnl]at hp
  rw[hget p hp]at h1
  exact Af1 hall qn h1
 obtain ⟨w',f1,f2,f3,f4,f5,f6,f7⟩:=Cv P b (i * sz) T fr news 0 cs w e2 e3 qn hones
 obtain ⟨st,inv⟩:=Ox hinv e0 f3 f4 f5 f6 f7
 have hroom:i+(n-j)≤cap:=by omega
 have hcell:∀ p v,cs[p]? = some v→w.cell? ⟨b,p,none⟩=some v:=fun p v hp=>by
  simp[World.cell?,e2,hp]
 have hc:(Builtin.firstCells sz (n-j) (.slice (some (if cap=j then ⟨b,0,none⟩ else ⟨b,j * sz,none⟩)) (n-j) c)).run P w=.ok news.toArray w:=by
  by_cases hcj:cap=j
  ·have h0:n-j=0:=by omega
   rw[if_pos hcj,h0]
   have h1:news=[]:=by rw[h0]at hnl;simpa using hnl
   rw[h1]
   exact run_firstCells_some (P:=P) w sz 0 ⟨b,0,none⟩ 0 c [] qz (fun j v hj=>by simp at hj)
  ·rw[if_neg hcj]
   refine run_firstCells_some (P:=P) w sz (n-j) ⟨b,j * sz,none⟩ (n-j) c news hnl (fun p v hp=>?_)
   rw[Addr.add_lit]
   have hlt:p<(n-j) * sz:=by
    rw[← hnl];exact(List.getElem?_eq_some_iff.1 hp).1
   rw[hget p hlt]at hp
   exact hcell _ _ hp
 have hrun:(execOp a.eval o).run P w=.ok (.value (.slice (some ⟨b,0,none⟩) (i+(n-j)) cap)) w':=by
  simp[execOp,h,resolve,invoke,builtin,Builtin.append_,r1.val,r2.val,run_underlying hu,sizeOf,typeInfo,q1,q2,Builtin.lenOf,hroom,hc,Addr.add_lit,f1]
 simp only[Oper.wp,hrun,Oper.upon]
 refine hN _ κ w' (st.weaken (fun k hk=>by subst hk;simp[Up.ws])) inv (by simp only[Rd]) (fun p hp=>?_)
 simp only[List.mem_singleton]at hp
 subst hp
 refine⟨e0,b,cap,_,T,fr,e0,f2,by rw[B8];exact e3,by rw[B8];exact e4,e5,?_⟩
 rintro k z ⟨hk0,rfl⟩
 have hset:=Kn cs news (i * sz+0)
 have hlen:(l.take i++l.drop j).length=i+(n-j):=by rw[List.length_append,List.length_take,List.length_drop];omega
 rw[hlen]at hk0
 by_cases hki:k<i
 ·obtain ⟨_,u,u1,u2,u3,u4⟩:=e6 k (e l[k]) ⟨by omega,rfl⟩
  have:(k+1) * sz≤i * sz:=Nat.mul_le_mul_right sz qn
  rw[Nat.add_mul,Nat.one_mul]at this
  refine⟨by omega,u,?_,u2,u3,fun p hp=>?_⟩
  ·rw[List.getElem_append_left (by rw[List.length_take];omega),List.getElem_take]
   exact RdD.keep st.keeps _ _ u1
  ·rw[hset _ qn,if_neg qn,u4 p hp]
 ·obtain ⟨_,u,u1,u2,u3,u4⟩:=e6 (j+(k-i)) (e l[j+(k-i)]) ⟨by omega,rfl⟩
  have hks:k * sz=i * sz+(k-i) * sz:=by rw[← Nat.add_mul];congr 1;omega
  have hjs:(j+(k-i)) * sz=j * sz+(k-i) * sz:=by rw[← Nat.add_mul]
  have:(k-i+1) * sz≤(n-j) * sz:=Nat.mul_le_mul_right sz qn
  rw[Nat.add_mul,Nat.one_mul]at this
  refine⟨by omega,u,?_,u2,u3,fun p hp=>?_⟩
  ·rw[List.getElem_append_right (by rw[List.length_take];omega),List.getElem_drop]
   have hidx:j+(k-(l.take i).length)=j+(k-i):=by rw[List.length_take];omega
   simp only[hidx]
   exact RdD.keep st.keeps _ _ u1
  ·rw[hset _ qn,if_pos qn,← u4 p hp,hjs]
   rw[show k * sz+p-(i * sz+0)=(k-i) * sz+p by omega,hget _ qn]
   congr 1
   omega
theorem K4 {P:Program} (Γ:Ty P) {o:Oper} {s:SS} (q:Nat) {t:TypeId} {ti:TI} {et:TypeId} {sz eb b n cap k m c:Nat} {ez:List Value} {x:Operand} {α:Type} {e:α→SV} {l:List α} {B:Option Addr}
  (h:o.op=.call ⟨.builtin .clear,#[x],#[t]⟩) (ht:Γ.get t=some ti) (hk:ti.k=.slice et sz eb ez) (hez:ez.length=sz) (hz1:∀ v∈ez,v.oneCell'=true) (hx:ev s x=.val (.slice B m c)) (hB:B=some (if cap=k then ⟨b,0,none⟩ else ⟨b,k * sz,none⟩))
  (hob:s.h q=.pin b n cap sz e l) (hkl:k≤l.length) (hm:k+m≤cap) :
  Good P o s ⟨.tup [],[],[(q,.pin b n cap sz e (l.take k))]⟩:=by
 intro κ a w hinv hr ho N Q hN
 have r1:=hr x (by simp[h,Op.operands,Call.operands])
 rw[hx]at r1
 subst hB
 have hq:=ho q (.inr (by simp[Up.ws]))
 rw[hob]at hq
 obtain ⟨e0,b',cap',cs,T,fr,e1,e2,e3,e4,e5,e6⟩:=hq
 rw[e0]at e1
 cases e1
 obtain ⟨hu,ii,zv,q1,q2,q3,q4,q5⟩:=Cg Γ ht hk
 have hzs:zv.cells.size=sz:=by rw[← hez,← q5];simp
 have hlt:(l.take k).length=k:=by rw[List.length_take];omega
 by_cases hm0:m=0
 ·subst hm0
  have hrun:(execOp a.eval o).run P w=.ok (.value (.tuple #[])) w:=by
   simp[execOp,h,resolve,invoke,builtin,Builtin.clear_,r1.val,run_underlying hu]
  simp only[Oper.wp,hrun,Oper.upon]
  refine hN _ κ w (Step.refl _ κ w) hinv (by simp[Rd,RdL]) (fun p hp=>?_)
  simp only[List.mem_singleton]at hp
  subst hp
  refine⟨e0,b,cap,cs,T,fr,e0,e2,e3,e4,e5,?_⟩
  rintro p z ⟨hp0,rfl⟩
  rw[List.getElem_take]
  exact e6 p (e l[p]) ⟨by omega,E⟩
 obtain ⟨m,rfl⟩:∃ p,m=p+1:=⟨m-1,by omega⟩
 rw[if_neg qn]at r1
 obtain ⟨news,hnews⟩:∃ news,news=(Builtin.zeroCells zv.cells (m+1)).toList:=⟨_,rfl⟩
 have hnl:news.length=(m+1) * sz:=by rw[hnews,Array.length_toList,S4,hzs]
 have hones:Ones news:=fun v hv=>by
  rw[hnews,Array.mem_toList_iff]at hv
  refine hz1 v ?_
  rw[← q5]
  simp only[Builtin.zeroCells,Array.mem_map,Array.mem_range]at hv
  obtain ⟨p,hp,rfl⟩:=hv
  have h0:0<zv.cells.size:=by
   rcases Nat.eq_zero_or_pos zv.cells.size with h | h
   ·rw[h]at hp;simp at hp
   ·exact h
  have hlt2:p % zv.cells.size<zv.cells.size:=Nat.mod_lt _ h0
  rw[getElem!_pos zv.cells _ hlt2]
  exact Array.getElem_mem_toList hlt2
 have hmul:k * sz+(m+1) * sz≤cap * sz:=by rw[← Nat.add_mul];exact Nat.mul_le_mul_right sz hm
 obtain ⟨w',f1,f2,f3,f4,f5,f6,f7⟩:=Cv P b (k * sz) T fr news 0 cs w e2 e3 qn hones
 obtain ⟨st,inv⟩:=Ox hinv e0 f3 f4 f5 f6 f7
 have hrun:(execOp a.eval o).run P w=.ok (.value (.tuple #[])) w':=by
  simp[execOp,h,resolve,invoke,builtin,Builtin.clear_,r1.val,run_underlying hu,zeroValue,typeInfo,q1,q4,← hnews,f1]
 simp only[Oper.wp,hrun,Oper.upon]
 refine hN _ κ w' (st.weaken (fun k hk=>by subst hk;simp[Up.ws])) inv (by simp[Rd,RdL]) (fun p hp=>?_)
 simp only[List.mem_singleton]at hp
 subst hp
 refine⟨e0,b,cap,_,T,fr,e0,f2,by rw[B8];exact e3,by rw[B8];exact e4,e5,?_⟩
 rintro p z ⟨hp0,rfl⟩
 have hset:=Kn cs news (k * sz+0)
 obtain ⟨h0,u,u1,u2,u3,u4⟩:=e6 p (e l[p]) ⟨by omega,rfl⟩
 have:(p+1) * sz≤k * sz:=Nat.mul_le_mul_right sz qn
 rw[Nat.add_mul,Nat.one_mul]at this
 refine⟨h0,u,?_,u2,u3,fun j hj=>?_⟩
 ·rw[List.getElem_take]
  exact RdD.keep st.keeps _ _ u1
 ·have hcl:k * sz≤cs.length:=by omega
  rw[hset _ qn,if_neg qn,u4 j hj]
theorem G_dat {C:Cx} {kk:List KI} {s:SS} (i q:Nat) {sz:Nat} {α:Type} {e:α→SV} {l:List α} (h:s.σ i=.sl sz e l) (hl:l≠[])
  (hg:∀ b off cap,l.length≤cap→G C kk ⟨upd s.σ i (.val (.slice (some ⟨b,off,none⟩) l.length cap)),upd s.h q (.dat (.slice (some ⟨b,off,none⟩) l.length cap) sz e l)⟩):G C kk s:=fun κ a w hs=>by
 have h1:=hs.slot i
 rw[h]at h1
 have h1':=h1
 simp only[Rd,RdD]at h1
 rcases h1 with ⟨h2,_⟩ | ⟨b,off,cap,h2,h3,_⟩
 ·exact absurd h2 hl
 ·refine hg b off cap h3 κ a w ⟨hs.defers,hs.size,hs.inv,hs.ctx,fun j=>?_,fun j=>?_⟩
  ·show Rd κ w (upd s.σ i (.val (.slice (some ⟨b,off,none⟩) l.length cap)) j) _
   by_cases hj:j=i
   ·subst hj;rw[By];simp only[Rd];exact h2
   ·rw[Ck _ _ hj];exact hs.slot j
  ·show ObOK κ w j (upd s.h q (.dat (.slice (some ⟨b,off,none⟩) l.length cap) sz e l) j)
   by_cases hj:j=q
   ·subst hj;rw[By];rw[h2]at h1';exact h1'
   ·rw[Ck _ _ hj];exact hs.obj j
theorem Abu {P:Program} (Γ:Ty P) {o:Oper} {s:SS} {t:TypeId} {ti:TI} {et:TypeId} {sz eb b off n cap hi:Nat} {ez:List Value} {x hx mx:Operand} {k2 k3:IntKind}
  (h:o.op=.slice t x none (some hx) (some mx)) (ht:Γ.get t=some ti) (hk:ti.k=.slice et sz eb ez) (hxe:ev s x=.val (.slice (some ⟨b,off,none⟩) n cap)) (hhi:ev s hx=.val (.int k2 hi)) (hmx:ev s mx=.val (.int k3 hi))
  (h3:hi≤cap):Good P o s ⟨.val (.slice (some ⟨b,off,none⟩) hi hi),[],[]⟩ :=
 Good.pure fun κ a w _ hr _=>by
  have r1:=hr x (by simp[h,Op.operands])
  have r3:=hr hx (by simp[h,Op.operands])
  have r4:=hr mx (by simp[h,Op.operands])
  rw[hxe]at r1
  rw[hhi]at r3
  rw[hmx]at r4
  obtain ⟨hu,i,zv,q1,q2,q3,q4,q5⟩:=Cg Γ ht hk
  have hb:(Instr.sliceBounds true n cap none (some (a.eval hx)) (some (a.eval mx))).run P w=.ok (0,hi,hi) w:=by
   rw[r3.val,r4.val]
   simp[Instr.sliceBounds,Instr.sliceBound,asIntOf,h3]
  refine⟨.slice (some ⟨b,off,none⟩) hi hi,?_,by simp only[Rd]⟩
  by_cases hc:hi=0
  ·subst hc
   simp[execOp,h,r1.val,Instr.sliceAt,Instr.slice,run_underlying hu,hb,sizeOf,typeInfo,q1]
  ·simp[execOp,h,r1.val,Instr.sliceAt,Instr.slice,run_underlying hu,hb,sizeOf,typeInfo,q1,q2,hc,Addr.add_lit]
theorem Ab0 {P:Program} (Γ:Ty P) {o:Oper} {s:SS} (q:Nat) {t:TypeId} {ti:TI} {et:TypeId} {sz eb b off n cap:Nat} {ez:List Value} {x y:Operand} {α:Type} {e:α→SV} {l l':List α}
  (h:o.op=.call ⟨.builtin .append,#[x,y],#[t,t]⟩) (ht:Γ.get t=some ti) (hk:ti.k=.slice et sz eb ez) (hez:ez.length=sz) (hx:ev s x=.val (.slice (some ⟨b,off,none⟩) n n))
  (hq:s.h q=.dat (.slice (some ⟨b,off,none⟩) l.length cap) sz e l) (hn:n≤l.length) (hy:ev s y=.sl sz e l') (hbytes:(n+l'.length) * eb≤140737488355328) (h63:n+l'.length≤9223372036854775807) :
  Good P o s ⟨.sl sz e (l.take n++l'),[q],[]⟩:=by
 intro κ a w hinv hr ho N Q hN
 have r1:=hr x (by simp[h,Op.operands,Call.operands])
 have r2:=hr y (by simp[h,Op.operands,Call.operands])
 rw[hx]at r1
 rw[hy]at r2
 have hq1:=ho q (.inl qz)
 rw[hq]at hq1
 have hq1:Rd κ w (.sl sz e l) (.slice (some ⟨b,off,none⟩) l.length cap):=hq1
 obtain ⟨hu,ii,zv,q1,q2,q3,q4,q5⟩:=Cg Γ ht hk
 have hzs:zv.cells.size=sz:=by rw[← hez,← q5];simp
 have htl:(l.take n).length=n:=by rw[List.length_take];omega
 have hbase:Rd κ w (.sl sz e (l.take n)) (.slice (some ⟨b,off,none⟩) n n):=by
  simp only[Rd,RdD]at hq1 ⊢
  rcases hq1 with ⟨h0,_⟩ | ⟨b2,off2,cap2,h2,h3,h4,h5,h6⟩
  ·have hn0:n=0:=by rw[h0]at hn;simpa using hn
   subst hn0
   exact .inl ⟨by simp,_,_,E⟩
  ·cases h2
   refine .inr ⟨b,off,n,by rw[htl],by rw[htl];exact Nat.le_refl _,h4,h5,fun i hi=>?_⟩
   obtain ⟨u,h7,h8⟩:=h6 i qn
   exact⟨u,by rw[List.getElem_take];exact h7,h8⟩
 have hrb:=hbase.src
 have hru:=r2.src
 rw[htl]at hrb
 obtain ⟨m,hm⟩:∃ m,l'.length=m:=⟨_,rfl⟩
 rw[hm]at hru hbytes h63
 generalize hve:a.eval y=u at *
 obtain ⟨ad,c,news,hu2,hnl,hn1,hnc,hng⟩:∃ (a:Option Addr) (c:Nat) (news:List Value),u=.slice a m c∧news.length=m * sz∧Ones news∧(∀ W:World,(∀ p:Addr,p.block<w.heap.size→W.cell? p=w.cell? p)→(Builtin.firstCells sz m u).run P W=.ok news.toArray W) ∧
   (∀ j x,rowF e l' j x→j<m∧∃ q:Value,RdD (Own κ) w x q∧q.cells.size=sz∧Ones q.cells.toList∧∀ l,l<sz→news[j * sz+l]? = q.cells[l]?):=by
  rcases hru with ⟨rfl,hno,a,c,rfl⟩ | ⟨b,o,c,news,rfl,h1,h2,h3,h4⟩
  ·refine⟨a,c,[],E,by simp,by simp[Ones],fun W _=>?_,fun j x h=>absurd h (hno j x)⟩
   cases a<;>simp[Builtin.firstCells,loadCells,loadCellsFrom]
  ·refine⟨some ⟨b,o,none⟩,c,news,E,h1,h2,fun W hW=>?_,fun j x hx=>h4 j x hx⟩
   exact run_firstCells_some (P:=P) W sz m ⟨b,o,none⟩ m c news h1 (fun j q hj=>by
    rw[Addr.add_lit]
    have h5:=h3 j q hj
    rw[hW _ (by exact World.block_lt_of_cell? w _ h5),h5])
 subst hu2
 by_cases hm0:m=0
 ·subst hm0
  have hl':l'=[]:=List.eq_nil_of_length_eq_zero hm
  subst hl'
  have hc:=hnc w (fun _ _=>rfl)
  have hnn:news=[]:=by simpa using hnl
  subst hnn
  have hrun:(execOp a.eval o).run P w=.ok (.value (.slice (some ⟨b,off,none⟩) n n)) w:=by
   simp[execOp,h,resolve,invoke,builtin,Builtin.append_,r1.val,hve,run_underlying hu,sizeOf,typeInfo,q1,q2,Builtin.lenOf,hc,storeCells]
  simp only[Oper.wp,hrun,Oper.upon]
  refine hN _ κ w (Step.refl _ κ w) hinv ?_ (fun p hp=>by cases hp)
  rw[List.append_nil]
  exact hbase
 obtain ⟨olds,hol,hof,hfo⟩:∃ olds:List Value,olds.length=n * sz∧(∀ j x,rowF e (l.take n) j x→j<n→∃ q:Value,RdD (Own κ) w x q∧q.cells.size=sz∧Ones q.cells.toList∧∀ l,l<sz→olds[j * sz+l]? = q.cells[l]?) ∧
   (Builtin.firstCells sz n (.slice (some ⟨b,off,none⟩) n n)).run P w.drew=.ok olds.toArray w.drew:=by
  rcases hrb with ⟨rfl,hno,_⟩ | ⟨b2,o2,c2,olds,he,g1,g2,g3,g4⟩
  ·exact⟨[],by simp,fun j x _ hj=>absurd hj qn,run_firstCells_some (P:=P) w.drew sz 0 ⟨b,off,none⟩ 0 0 [] qz (fun j v hj=>by simp at hj)⟩
  ·cases he
   exact⟨olds,g1,fun j x hx _=>(g4 j x hx).2,run_firstCells_some (P:=P) w.drew sz n ⟨b,off,none⟩ n n olds g1 (fun j v hj=>by
    have:=g3 j v hj
    rw[Addr.add_lit];simpa using this)⟩
 have hcap:n+m≤grownCap w (n+m) n et:=grownCap_ge w (n+m) n et
 have h48:¬ (281474976710656<Builtin.nextslicecap (n+m) n * ii.bytes):=by
  have:=growslice_fits (need:=n+m) (old:=n) (bytes:=ii.bytes) qn (by rw[q3];exact hbytes)
  omega
 have h63':¬ (9223372036854775807<(n:Int)+(m:Int)):=by omega
 have hroom:¬ n+m≤n:=by omega
 have hc:=hnc w.drew (fun _ _=>rfl)
 obtain ⟨w',hw'⟩:∃ w',w.drew.alloc (.cells (olds.toArray++news.toArray++Builtin.zeroCells zv.cells (grownCap w (n+m) n et-(n+m))) et)=w':=⟨_,rfl⟩
 have hrun:(execOp a.eval o).run P w=.ok (.value (.slice (some ⟨w.heap.size,0,none⟩) (n+m) (grownCap w (n+m) n et))) w':=by
  rw[← hw']
  simp[execOp,h,resolve,invoke,builtin,Builtin.append_,r1.val,hve,run_underlying hu,sizeOf,typeInfo,zeroValue,q4,q1,q2,Builtin.lenOf,h63',h48,Question.forced,hfo,hc,newRow,grownCap]
  rw[if_neg hroom]
  have ea:∀ Z:Array Value,olds.toArray++(news.toArray++Z)=(olds++news).toArray++Z:=fun Z=>by apply Array.ext';simp
  rw[ea]
 have g0:Grew w w':=by rw[← hw'];exact(Grew.drew w).trans (Grew.alloc _ _)
 obtain ⟨st,inv⟩:=Amr hinv g0
 have hblk:w'.heap[w.heap.size]? = some (.cells (olds++news++(Builtin.zeroCells zv.cells (grownCap w (n+m) n et-(n+m))).toList).toArray et):=by
  rw[← hw']
  have:(w.drew.alloc (.cells (olds.toArray++news.toArray++Builtin.zeroCells zv.cells (grownCap w (n+m) n et-(n+m))) et)).heap[w.heap.size]? = some (.cells (olds.toArray++news.toArray++Builtin.zeroCells zv.cells (grownCap w (n+m) n et-(n+m))) et):=heap_alloc_new w.drew _
  rw[this]
  congr 2
  apply Array.ext'
  simp
 have hsz:w.heap.size<w'.heap.size:=by rw[← hw'];simp
 simp only[Oper.wp,hrun,Oper.upon]
 refine hN _ κ w' (st.weaken (fun _ h=>h.elim)) inv ?_ (fun p hp=>by cases hp)
 simp only[Rd,RdD]
 have hlen:(l.take n++l').length=n+m:=by rw[List.length_append,htl,hm]
 refine .inr ⟨w.heap.size,0,grownCap w (n+m) n et,by rw[hlen],by rw[hlen];exact hcap,?_,hsz,fun j hj=>?_⟩
 ·rintro (⟨k,hk⟩ | hk)
  ·exact Nat.lt_irrefl _ (hinv.bnd k _ hk)
  ·exact Nat.lt_irrefl _ (hinv.mbnd _ hk)
 ·rw[hlen]at hj
  by_cases hjn:j<n
  ·obtain ⟨qv,g1,g2,g3,g4⟩:=hof j (e (l.take n)[j]) ⟨by omega,rfl⟩ hjn
   refine⟨qv,by rw[List.getElem_append_left qn];exact RdD.keep st.keeps _ _ g1,g2,g3,fun p hp=>?_⟩
   have:(j+1) * sz≤n * sz:=Nat.mul_le_mul_right sz qn
   rw[Nat.add_mul,Nat.one_mul]at this
   rw[cell_of_row w' _ _ _ et (0,0) hblk,List.getElem?_toArray,List.append_assoc,List.getElem?_append_left qn,Nat.zero_add]
   exact g4 p hp
  ·obtain ⟨_,qv,g1,g2,g3,g4⟩:=hng (j-n) (e (l'[j-n]'qn)) ⟨by omega,rfl⟩
   refine⟨qv,?_,g2,g3,fun p hp=>?_⟩
   ·rw[List.getElem_append_right qn]
    simp only[htl]
    exact RdD.keep st.keeps _ _ g1
   ·have e1:j * sz=n * sz+(j-n) * sz:=by rw[← Nat.add_mul];congr 1;omega
    have:(j-n+1) * sz≤m * sz:=Nat.mul_le_mul_right sz qn
    rw[Nat.add_mul,Nat.one_mul]at this
    rw[cell_of_row w' _ _ _ et (0,0) hblk,List.getElem?_toArray,List.append_assoc,List.getElem?_append_right qn,List.getElem?_append_left qn,← g4 p hp]
    congr 1
    omega
theorem Xl {P:Program} {o:Oper} {s:SS} (q:Nat) {sz:Nat} {α:Type} {e:α→SV} {l:List α} {v:Value} {x:Operand} (h:o.op=.move x∨o.op=.assign x) (hx:ev s x=.val v) (hq:s.h q=.dat v sz e l):Good P o s ⟨.sl sz e l,[q],[]⟩ :=
 Good.pure fun κ a w _ hr ho=>by
  have hq1:=ho q qz
  rw[hq]at hq1
  have hr1:=hr x (by rcases h with h | h<;>simp[h,Op.operands])
  rw[hx]at hr1
  refine⟨a.eval x,?_,?_⟩
  ·rcases h with h | h<;>simp[execOp,h]
  ·rw[hr1.val];exact hq1
theorem Aar {f g:Nat→Option (Nat × Nat)}:∀ (ps:List (Nat × Value)) (cs:Array Value),(∀ p∈ps,f p.1=g p.1)→Instr.fill f cs ps=Instr.fill g cs ps
 | [],cs,_=>rfl
 | (i,v)::ps,cs,h=>by
  have h1:=h (i,v) qz
  simp only[Instr.fill]
  dsimp only at h1
  rw[h1]
  cases g i with
  | none=>rfl
  | some os =>
   dsimp only
   split
   ·rfl
   ·exact Aar ps _ (fun p hp=>h p (by simp[hp]))
theorem Ahg {P:Program} (Γ:Ty P) {o:Oper} {s:SS} {t et:TypeId} {ti:TI} {len esz:Nat} {ps:List (Nat × Operand)} {out:List SV} (h:o.op=.build t ps.toArray) (ht:Γ.get t=some ti) (hk:ti.k=.array et len esz)
  (h1:Xb ti.zero=true) (hps:(ps.all fun p=>Nat.blt p.1 len)=true) (hf:Aas ((List.range len).map fun i=>(i * esz,esz)) (ti.zero.map .val) (ps.map fun p=>(p.1,ev s p.2))=some out):Good P o s ⟨.agg out,[],[]⟩ :=
 Good.pure fun κ a w _ hr _=>by
  obtain ⟨d,info,z,k1,k2,k3,k4,k5,k6⟩:=Γ.ok t ti ht
  obtain ⟨hu,i,q1,q2⟩:=Qz Γ ht hk
  have hops:∀ p∈ps,Rd κ w (ev s p.2) (a.eval p.2):=fun p hp=>hr p.2 (by
   simp only[h,Op.operands]
   simp only[List.mem_toArray,List.mem_map]
   exact⟨p,hp,E⟩)
  obtain ⟨r,r1,r2,r3⟩:=Aev (κ:=κ) (w:=w) (a:=a) ps _ out z.cells (by rw[k6];exact Vz _) (by rw[k6];exact Qd h1) hops hf
  refine⟨.agg r,?_,?_⟩
  ·have hcg:=Aar (f:=fun i=>some (i * esz,esz)) (g:=fun i=>((List.range len).map fun i=>(i * esz,esz))[i]?) (ps.map fun p=>(p.1,a.eval p.2)) z.cells (fun p hp=>by
    obtain ⟨x,hx,rfl⟩:=List.mem_map.1 hp
    have hlt:x.1<len:=Nat.le_of_ble_eq_true (List.all_eq_true.1 hps x hx)
    dsimp only
    rw[List.getElem?_map,List.getElem?_range hlt]
    rfl)
   simp only[execOp,h,Sem.run_bind,Instr.build,zeroValue,typeInfo,run_program,Result.andThen_ok,k3,k5,Sem.run_pure,run_underlying hu,sizeOf,q1,q2,List.map_toArray]
   rw[hcg,r1]
   simp
  ·simp only[Rd]
   exact⟨r.toList,by simp,r3,r2⟩
mutual
def rnb (k d:Nat):SV→SV
 | .ptr j o=>bif Nat.beq j k then .ptr d o else .ptr j o
 | .agg l=>.agg (Zd k d l)
 | .tup l=>.tup (Zd k d l)
 | .ifc t y=>.ifc t (rnb k d y)
 | .clo f g l=>.clo f (Zd k d g) (Zd k d l)
 | y=>y
def Zd (k d:Nat):List SV→List SV
 | []=>[]
 | y::l=>rnb k d y::Zd k d l
end
mutual
theorem Aim {κ κ':Ka} {w:World} {K:Nat→Prop} {k d:Nat} (st:Step K κ w κ' w) (hx:∀ o v,Rd κ w (.ptr k o) v→Rd κ' w (.ptr d o) v):∀ (y:SV) (v:Value),Rd κ w y v→Rd κ' w (rnb k d y) v
 | .ptr j o,v,h=>by
  unfold rnb
  by_cases hk:j=k
  ·subst hk;rw[show Nat.beq j j=true from Nat.beq_refl j];exact hx o v h
  ·rw[show Nat.beq j k=false from by cases hb:Nat.beq j k with | false=>rfl | true=>exact absurd (Nat.eq_of_beq_eq_true hb) hk];exact Rd.step st _ _ h
 | .agg l,v,h=>by
  simp only[Rd]at h
  unfold rnb
  simp only[Rd]
  obtain ⟨cs,h1,h2,h3⟩:=h
  exact⟨cs,h1,h2,Mx st hx l cs h3⟩
 | .tup l,v,h=>by
  simp only[Rd]at h
  unfold rnb
  simp only[Rd]
  obtain ⟨cs,h1,h3⟩:=h
  exact⟨cs,h1,Mx st hx l cs h3⟩
 | .ifc t y,v,h=>by
  simp only[Rd]at h
  unfold rnb
  simp only[Rd]
  obtain ⟨u,h1,h3⟩:=h
  exact⟨u,h1,Aim st hx y u h3⟩
 | .clo f g l,v,h=>by
  simp only[Rd]at h
  unfold rnb
  simp only[Rd]
  obtain ⟨fs,cs,h1,h2,h3⟩:=h
  exact⟨fs,cs,h1,Mx st hx g fs h2,Mx st hx l cs h3⟩
 | .top,v,h=>by unfold rnb;exact Rd.step st _ _ h
 | .val u,v,h=>by unfold rnb;exact Rd.step st _ _ h
 | .sl sz e l,v,h=>by unfold rnb;exact Rd.step st _ _ h
 | .ref sz z o,v,h=>by unfold rnb;exact Rd.step st _ _ h
 | .rpt k sz i o,v,h=>by unfold rnb;exact Rd.step st _ _ h
 | .osl k,v,h=>by unfold rnb;exact Rd.step st _ _ h
theorem Mx {κ κ':Ka} {w:World} {K:Nat→Prop} {k d:Nat} (st:Step K κ w κ' w) (hx:∀ o v,Rd κ w (.ptr k o) v→Rd κ' w (.ptr d o) v):∀ (l:List SV) (vs:List Value),RdL κ w l vs→RdL κ' w (Zd k d l) vs
 | [],vs,h=>by
  unfold Zd
  simpa [RdL] using h
 | y::l,vs,h=>by
  simp only[RdL]at h
  unfold Zd
  simp only[RdL]
  obtain ⟨v,r,h1,h2,h3⟩:=h
  exact⟨v,r,h1,Aim st hx y v h2,Mx st hx l r h3⟩
end
def rnbO (k d:Nat):Ob→Ob
 | .box l=>.box (Zd k d l)
 | o=>o
theorem Aid {κ:Ka} {w:World} {k d b:Nat} (hi:Inv κ w) (hk:κ k=.blk b) (hd:κ d=.new) :
  Step (fun j=>j=k∨j=d) κ w (Dl (Dl κ k .dead) d (.blk b)) w∧Inv (Dl (Dl κ k .dead) d (.blk b)) w:=by
 have hkd:k≠d:=fun e=>by subst e;rw[hk]at hd;cases hd
 have hkb:(κ k).block? = some b:=by rw[hk];rfl
 have key:∀ j c,((Dl (Dl κ k .dead) d (.blk b)) j).block? = some c→(j=d∧c=b)∨(j≠d∧j≠k∧(κ j).block? = some c):=by
  intro j c h
  by_cases hj:j=d
  ·subst hj;rw[Az]at h;exact .inl ⟨rfl,by simpa [Ent.block?] using h.symm⟩
  ·rw[Ce _ _ hj]at h
   by_cases hj2:j=k
   ·subst hj2;rw[Az]at h;cases h
   ·rw[Ce _ _ hj2]at h;exact .inr ⟨hj,hj2,h⟩
 refine⟨⟨Nat.le_refl _,E,E,E,E,fun _ _=>rfl,fun _ _ _=>rfl,fun _ _ _ _=>rfl,fun j hj=>?_,?_,?_⟩,⟨?_,?_,?_,fun c h=>hi.mbnd c h⟩⟩
 ·rw[Ce _ _ (fun e=>hj (.inr e)),Ce _ _ (fun e=>hj (.inl e))]
 ·rintro j (rfl | rfl)
  ·exact .inr (.inr (by rw[Ce _ _ hkd,Az]))
  ·exact .inl hd
 ·rintro c (⟨j,hj⟩ | hj)
  ·rcases key j c hj with ⟨_,rfl⟩ | ⟨_,_,h⟩
   ·exact .inl (.inl ⟨k,hkb⟩)
   ·exact .inl (.inl ⟨j,h⟩)
  ·exact .inl (.inr hj)
 ·intro i j c h1 h2
  rcases key i c h1 with ⟨a1,a2⟩ | ⟨a1,a2,a3⟩<;>rcases key j c h2 with ⟨b1,b2⟩ | ⟨b1,b2,b3⟩
  ·exact a1.trans b1.symm
  ·subst a2;exact absurd (hi.inj j k _ b3 hkb) b2
  ·subst b2;exact absurd (hi.inj i k _ a3 hkb) a2
  ·exact hi.inj i j c a3 b3
 ·intro j c h
  rcases key j c h with ⟨_,rfl⟩ | ⟨_,_,h⟩
  ·exact hi.bnd k _ hkb
  ·exact hi.bnd j c h
 ·intro j c h
  rcases key j c h with ⟨_,rfl⟩ | ⟨_,_,h⟩
  ·exact hi.apart k _ hkb
  ·exact hi.apart j c h
theorem Jd {C:Cx} {kk:List KI} {s:SS} (k d:Nat) {l:List SV} (h:s.h k=.box l) (hd:s.h d=.fresh) (hkd:k≠d)
  (hg:G C kk ⟨fun i=>rnb k d (s.σ i),upd (fun j=>bif Nat.beq j k then .non else rnbO k d (s.h j)) d (.box (Zd k d l))⟩):G C kk s:=fun κ a w hs=>by
 have hob:=hs.obj k
 rw[h]at hob
 have hnew:κ d=.new:=by have:=hs.obj d;rwa [hd]at this
 obtain ⟨b,cs,T,fr,e1,e2,e3,e4,e5⟩:=hob
 obtain ⟨st,inv⟩:=Aid hs.inv e1 hnew
 have hne:∀ j,j≠k→j≠d→(Dl (Dl κ k .dead) d (.blk b)) j=κ j:=fun j h1 h2=>by rw[Ce _ _ h2,Ce _ _ h1]
 have hv:∀ o v,Rd κ w (.ptr k o) v→Rd (Dl (Dl κ k .dead) d (.blk b)) w (.ptr d o) v:=fun o v hv=>by
  simp only[Rd,e1]at hv
  simp only[Rd,Az]
  exact hv
 refine hg _ a w ⟨hs.defers,hs.size,inv,hs.ctx.step inv st,fun j=>Aim st hv _ _ (hs.slot j),fun j=>?_⟩
 show ObOK _ w j (upd (fun j=>bif Nat.beq j k then .non else rnbO k d (s.h j)) d (.box (Zd k d l)) j)
 by_cases hj:j=d
 ·subst hj
  rw[By]
  exact⟨b,cs,T,fr,Az _ _ _,e2,e3,e4,Mx st hv l cs e5⟩
 ·rw[Ck _ _ hj]
  by_cases hj2:j=k
  ·subst hj2;rw[show Nat.beq j j=true from Nat.beq_refl j];trivial
  ·rw[show Nat.beq j k=false from by cases hb:Nat.beq j k with | false=>rfl | true=>exact absurd (Nat.eq_of_beq_eq_true hb) hj2]
   have hb:=ObOK.step st (fun e=>e.elim hj2 hj) _ (hs.obj j)
   have h0:=hs.obj j
   show ObOK _ w j (rnbO k d (s.h j))
   cases hh:s.h j with
   | box m =>
    rw[hh]at h0 hb
    obtain ⟨b2,cs2,T2,fr2,f1,f2,f3,f4,f5⟩:=h0
    exact⟨b2,cs2,T2,fr2,(hne j hj2 hj).trans f1,f2,f3,f4,Mx st hv m cs2 f5⟩
   | fresh=>rw[hh]at hb;exact hb
   | non=>rw[hh]at hb;exact hb
   | row sz' e' l'=>rw[hh]at hb;exact hb
   | lit sz' svs=>rw[hh]at hb;exact hb
   | glob sz' x' g'=>rw[hh]at hb;exact hb
   | pin b' n' cap' sz' e' l'=>rw[hh]at hb;exact hb
   | dat v' sz' e' l'=>rw[hh]at hb;exact hb
theorem VwL.get {s:SS} {V:List Nat}:∀ {l m:List SV} (_:VwL s V l m) {i:Nat} {y:SV},Et m i=some y→∃ x,Et l i=some x∧Vw s V x y
 | _,_,.nil,i,y,h=>by cases i<;>simp[Et]at h
 | _,_,.cons (x:=x) h0 hs,0,y,h=>by
  simp only[Et,Option.some.injEq]at h
  subst h
  exact⟨x,E,h0⟩
 | _,_,.cons h0 hs,i+1,y,h=>VwL.get hs (i:=i) h
theorem VwL.len {s:SS} {V:List Nat}:∀ {l m:List SV} (_:VwL s V l m),m.length=l.length
 | _,_,.nil=>rfl
 | _,_,.cons _ hs=>by simp[VwL.len hs]
theorem Adg:∀ {l:List SV} {i:Nat} {x:SV},Mm l=true→Et l i=some x→x.data=true
 | [],i,x,_,h=>by cases i<;>simp[Et]at h
 | y::l,0,x,hd,h=>by
  simp only[Et,Option.some.injEq]at h
  subst h
  simp only[Mm,Bool.and_eq_true]at hd
  exact hd.1
 | y::l,i+1,x,hd,h=>by
  simp only[Mm,Bool.and_eq_true]at hd
  exact Adg hd.2 (i:=i) h
theorem Aba {C:Cx} {k:List KI} {s:SS} (d:Nat) {sz:Nat} {svs:List SV} (svs':List SV) (h:s.h d=.lit sz svs) (hv:VwL s [] svs svs') (hd:Mm svs'=true) (hg:G C k ⟨s.σ,upd s.h d (.lit sz svs')⟩):G C k s:=fun κ a w hs=>by
 refine hg κ a w ⟨hs.defers,hs.size,hs.inv,hs.ctx,hs.slot,fun j=>?_⟩
 show ObOK κ w j (upd s.h d (.lit sz svs') j)
 by_cases hj:j=d
 ·subst hj
  rw[By]
  have hob:=hs.obj j
  rw[h]at hob
  have hlen:=hv.len
  obtain ⟨b,cap,cs,T,fr,e1,e2,e3,e4,e5,e6⟩:=hob
  refine⟨b,cap,cs,T,fr,by rw[hlen];exact e1,e2,e3,e4,by omega,fun i x hx=>?_⟩
  obtain ⟨y,hy,hvw⟩:=hv.get hx
  obtain ⟨f1,u,f2,f3⟩:=e6 i y hy
  exact⟨by omega,u,Rd.data _ _ (Adg hd hx) (hvw.rd hs.inv (fun n hn=>by cases hn) f2.toRd),f3⟩
 ·rw[Ck _ _ hj];exact hs.obj j
theorem RdL.setI {κ:Ka} {w:World} {x:SV} {v:Value} (hx:Rd κ w x v):∀ {l:List SV} {cs:List Value} (i:Nat),RdL κ w l cs→RdL κ w (l.set i x) (cs.set i v)
 | [],cs,i,h=>by simp only[RdL]at h;subst h;simp[RdL]
 | y::l,cs,0,h=>by
  simp only[RdL]at h
  obtain ⟨u,r,rfl,h1,h2⟩:=h
  simp only[List.set_cons_zero,RdL]
  exact⟨v,r,E,hx,h2⟩
 | y::l,cs,i+1,h=>by
  simp only[RdL]at h
  obtain ⟨u,r,rfl,h1,h2⟩:=h
  simp only[List.set_cons_succ,RdL]
  exact⟨u,_,E,h1,h2.setI hx i⟩
theorem Jy {κ:Ka} {w:World} {k:Nat} {l:List SV} (hi:Inv κ w) (h:ObOK κ w k (.box l)) {off:Nat} {x:SV} {v:Value} (_hx:x.plain=true) (hv:∀ κ w,Rd κ w x v) (h1:v.oneCell'=true) :
  ∃ b,κ k=.blk b∧(∀ j y,Et l j=some y→∃ u,w.cell? ⟨b,j,none⟩=some u∧Rd κ w y u)∧(∀ j,j<l.length→w.frozen? ⟨b,j,none⟩=false) ∧
   Step (·=k) κ w κ (w.setCell ⟨b,off,none⟩ v)∧Inv κ (w.setCell ⟨b,off,none⟩ v)∧ObOK κ (w.setCell ⟨b,off,none⟩ v) k (.box (l.set off x)):=by
 obtain ⟨b,cs,T,fr,e1,e2,e3,e4,e5⟩:=h
 have hsame:(w.setCell ⟨b,off,none⟩ v).heap[b]? = some (.cells (cs.set off v).toArray T fr):=by
  simp[World.setCell,Array.getElem?_modify,e2]
 have hoth:∀ j,j≠b→(w.setCell ⟨b,off,none⟩ v).heap[j]? = w.heap[j]?:=fun j hj=>heap_setCell_other w ⟨b,off,none⟩ j v hj
 obtain ⟨st,inv⟩:=Ms (w':=w.setCell ⟨b,off,none⟩ v) hi (k:=k) (b:=b) (by rw[e1];rfl) rfl rfl rfl qz hoth
 have hlen:=e5.length
 refine⟨b,e1,fun j y hy=>?_,fun j hj=>?_,st,inv,b,_,T,fr,e1,hsame,by rw[List.length_set];exact e3,?_,(RdL.step st _ _ e5).setI (hv _ _) off⟩
 ·obtain ⟨u,hu,hr⟩:=e5.get hy
  exact⟨u,by rw[cell_of_row w b j cs.toArray T fr e2,List.getElem?_toArray];exact hu,hr⟩
 ·obtain ⟨lo,hi'⟩:=fr
  simp only[World.frozen?,e2]
  rcases e3 with h | h
  ·simp only at h;subst h;simp
  ·simp only at h;simp;omega
 ·intro c hc
  rcases List.mem_or_eq_of_mem_set hc with h | h
  ·exact e4 c h
  ·rw[h];exact h1
theorem Aby {P:Program} {o:Oper} {s:SS} {f:FuncId} {ik:IntKind} {ts:Array TypeId} {x:Operand} {k off:Nat} {l:List SV} {v:Int}
  (hf:∀ (a:Addr) (x:Int) (w:World),w.cell? a=some (.int ik x)→(callFunc f #[.pointer (some a)]).run P w=.ok (.value (.int ik x)) w)
  (h:o.op=.call ⟨.value (.func f),#[x],ts⟩) (hx:ev s x=.ptr k off) (hk:s.h k=.box l) (hy:Et l off=some (.val (.int ik v))):Good P o s ⟨.val (.int ik v),[k],[]⟩ :=
 Good.pure fun κ a w hi hr ho=>by
  have h1:=hr x (by simp[h,Op.operands,Call.operands])
  rw[hx]at h1
  have h2:=ho k qz
  rw[hk]at h2
  obtain ⟨b,cs,T,fr,e1,e2,e3,e4,e5⟩:=h2
  simp only[Rd,e1]at h1
  obtain ⟨u,hu,hr2⟩:=e5.get hy
  have hc:w.cell? ⟨b,off,none⟩=some (.int ik v):=by rw[cell_of_row w b off cs.toArray T fr e2,List.getElem?_toArray,hu,hr2.val]
  have hrun:=hf ⟨b,off,none⟩ v w hc
  refine⟨.int ik v,?_,by simp only[Rd]⟩
  have hev:a.eval (.func f)=.func (.func f) #[] #[]:=rfl
  simp[execOp,h,resolve,hev,Deferred.ofValue,invoke,h1,hrun]
theorem Aer {P:Program} {o:Oper} {s:SS} {f:FuncId} {ts:Array TypeId} {x y:Operand} {k off:Nat} {l:List SV} {v d:Int}
  (hf:∀ (a:Addr) (x y:Int) (w:World),w.cell? a=some (.int .i64 x)→w.frozen? a=false→(callFunc f #[.pointer (some a),.int .i64 y]).run P w=.ok (.value (.int .i64 (IntKind.i64.wrap (x+y)))) (w.setCell a (.int .i64 (IntKind.i64.wrap (x+y)))))
  (h:o.op=.call ⟨.value (.func f),#[x,y],ts⟩) (hx:ev s x=.ptr k off) (hy:ev s y=.val (.int .i64 d)) (hk:s.h k=.box l) (hl:Et l off=some (.val (.int .i64 v))) (hv:IntKind.i64.wrap (v+d)=v+d) :
  Good P o s ⟨.val (.int .i64 (v+d)),[],[(k,.box (l.set off (.val (.int .i64 (v+d)))))]⟩:=by
 intro κ a w hi hr ho N Q hN
 have h1:=hr x (by simp[h,Op.operands,Call.operands])
 have h2:=hr y (by simp[h,Op.operands,Call.operands])
 rw[hx]at h1
 rw[hy]at h2
 have h3:=ho k (.inr (by simp[Up.ws]))
 rw[hk]at h3
 obtain ⟨b,e1,c1,c2,st,inv,ob⟩:=Jy (off:=off) (x:=.val (.int .i64 (v+d))) (v:=.int .i64 (v+d)) hi h3 rfl (fun _ _=>by simp only[Rd]) rfl
 simp only[Rd,e1]at h1
 obtain ⟨u,hu,hr2⟩:=c1 off _ hl
 rw[hr2.val]at hu
 have hrun:=hf ⟨b,off,none⟩ v d w hu (c2 off (Ln hl))
 rw[hv]at hrun
 have hrun2:(execOp a.eval o).run P w=.ok (.value (.int .i64 (v+d))) (w.setCell ⟨b,off,none⟩ (.int .i64 (v+d))):=by
  have hev:a.eval (.func f)=.func (.func f) #[] #[]:=rfl
  simp[execOp,h,resolve,hev,Deferred.ofValue,invoke,h1,h2.val,hrun]
 simp only[Oper.wp,hrun2,Oper.upon]
 refine hN _ κ _ (st.weaken (by simp[Up.ws])) inv (by simp only[Rd]) (fun p hp=>?_)
 simp only[List.mem_singleton]at hp
 subst hp
 exact ob
theorem Abz {P:Program} (Γ:Ty P) {o:Oper} {s:SS} (q:Nat) {t:TypeId} {ti:TI} {et:TypeId} {eb b n cap lo k c1 c2:Nat} {ez:List Value} {x y:Operand} {α:Type} {e:α→SV} {l:List α} {B B2:Option Addr}
  (h:o.op=.call ⟨.builtin .copy,#[x,y],#[t,t]⟩) (ht:Γ.get t=some ti) (hk:ti.k=.slice et 1 eb ez) (hx:ev s x=.val (.slice B (n-lo) c1)) (hB:B=some ⟨b,lo,none⟩) (hy:ev s y=.val (.slice B2 k c2)) (hB2:B2=some ⟨b,0,none⟩)
  (hq:s.h q=.pin b n cap 1 e l) (hl:l.length=n) (hk2:k≤n) (hpos:0<min k (n-lo)) :
  Good P o s ⟨.val (.int .i64 (min k (n-lo):Nat)),[],[(q,.pin b n cap 1 e (l.take lo++l.take (min k (n-lo))++l.drop (lo+min k (n-lo))))]⟩:=by
 intro κ a w hinv hr ho N Q hN
 have r1:=hr x (by simp[h,Op.operands,Call.operands])
 have r2:=hr y (by simp[h,Op.operands,Call.operands])
 rw[hx]at r1
 rw[hy]at r2
 subst hB
 subst hB2
 have hob:=ho q (.inr (by simp[Up.ws]))
 rw[hq]at hob
 obtain ⟨e0,b',cap',cs,T,fr,e1,e2,e3,e4,e5,e6⟩:=hob
 rw[e0]at e1
 cases e1
 obtain ⟨hu,ii,zv,q1,q2,q3,q4,q5⟩:=Cg Γ ht hk
 obtain ⟨mn,hmn⟩:∃ mn,min k (n-lo)=mn:=⟨_,rfl⟩
 rw[hmn]at hpos hN
 have hnc:n≤cs.length:=by omega
 have hall:∀ i,i<n→∃ u:Value,u.cells.size=1∧Ones u.cells.toList∧∀ j,j<1→cs[i * 1+j]? = u.cells[j]?:=fun i hi=>by
  obtain ⟨_,u,_,u2⟩:=e6 i (e l[i]) ⟨by omega,rfl⟩
  exact⟨u,u2⟩
 obtain ⟨news,hnews⟩:∃ news,news=cs.take mn:=⟨_,rfl⟩
 have hnl:news.length=mn:=by rw[hnews,List.length_take];omega
 have hget:∀ p,p<mn→news[p]? = cs[p]?:=fun p hp=>by rw[hnews,List.getElem?_take,if_pos hp]
 have hones:Ones news:=fun v hv=>by
  obtain ⟨p,hp,he⟩:=List.getElem_of_mem hv
  have h1:news[p]? = some v:=by rw[List.getElem?_eq_getElem hp,he]
  rw[hnl]at hp
  rw[hget p hp]at h1
  exact Af1 (n:=n) hall qn h1
 obtain ⟨w',f1,f2,f3,f4,f5,f6,f7⟩:=Cv P b lo T fr news 0 cs w e2 e3 qn hones
 obtain ⟨st,inv⟩:=Ox hinv e0 f3 f4 f5 f6 f7
 have hcell:∀ p v,cs[p]? = some v→w.cell? ⟨b,p,none⟩=some v:=fun p v hp=>by simp[World.cell?,e2,hp]
 have hc:=Adh (P:=P) w w' t t o.type et ⟨b,lo,none⟩ ⟨b,0,none⟩ (n-lo) c1 k c2 news hu q1 q2 (by rw[hnl,hmn]) (fun j v hv=>by
  rw[Addr.add_lit]
  have hlt:j<mn:=by rw[← hnl];exact(List.getElem?_eq_some_iff.1 hv).1
  rw[hget j hlt]at hv
  rw[Nat.zero_add]
  exact hcell _ _ hv) f1
 rw[hnl]at hc
 have hrun:(execOp a.eval o).run P w=.ok (.value (.int .i64 (mn:Nat))) w':=by
  simp[execOp,h,resolve,invoke,builtin,r1.val,r2.val,hc]
 simp only[Oper.wp,hrun,Oper.upon]
 refine hN _ κ w' (st.weaken (fun k hk=>by subst hk;simp[Up.ws])) inv (by simp only[Rd]) (fun p hp=>?_)
 simp only[List.mem_singleton]at hp
 subst hp
 refine⟨e0,b,cap,_,T,fr,e0,f2,by rw[B8];exact e3,by rw[B8];exact e4,e5,?_⟩
 rintro i z ⟨hi0,rfl⟩
 have hset:=Kn cs news (lo+0)
 have hlen:(l.take lo++l.take mn++l.drop (lo+mn)).length=n:=by
  simp only[List.length_append,List.length_take,List.length_drop];omega
 rw[hlen]at hi0
 have src:∀ j (hj:j<l.length),∃ u:Value,RdD (Own κ) w (e l[j]) u∧u.cells.size=1∧Ones u.cells.toList∧∀ p,p<1→cs[j * 1+p]? = u.cells[p]?:=fun j hj=>(e6 j (e l[j]) ⟨hj,rfl⟩).2
 by_cases hi1:i<lo
 ·obtain ⟨u,u1,u2,u3,u4⟩:=src i qn
  refine⟨hi0,u,?_,u2,u3,fun p hp=>?_⟩
  ·have:(l.take lo++l.take mn++l.drop (lo+mn))[i]'(by rw[hlen];exact hi0)=l[i]'qn:=by
    rw[List.getElem_append_left (by simp only[List.length_append,List.length_take];omega),List.getElem_append_left (by simp only[List.length_take];omega),List.getElem_take]
   rw[this]
   exact RdD.keep st.keeps _ _ u1
  ·rw[hset _ qn,if_neg qn,u4 p hp]
 ·by_cases hi2:i<lo+mn
  ·obtain ⟨u,u1,u2,u3,u4⟩:=src (i-lo) qn
   refine⟨hi0,u,?_,u2,u3,fun p hp=>?_⟩
   ·have:(l.take lo++l.take mn++l.drop (lo+mn))[i]'(by rw[hlen];exact hi0)=l[i-lo]'qn:=by
     rw[List.getElem_append_left (by simp only[List.length_append,List.length_take];omega),List.getElem_append_right (by simp only[List.length_take];omega),List.getElem_take]
     congr 1
     simp only[List.length_take];omega
    rw[this]
    exact RdD.keep st.keeps _ _ u1
   ·rw[hset _ qn,if_pos qn,hget _ qn,← u4 p hp]
    congr 1
    omega
  ·obtain ⟨u,u1,u2,u3,u4⟩:=src i qn
   refine⟨hi0,u,?_,u2,u3,fun p hp=>?_⟩
   ·have:(l.take lo++l.take mn++l.drop (lo+mn))[i]'(by rw[hlen];exact hi0)=l[i]'qn:=by
     rw[List.getElem_append_right (by simp only[List.length_append,List.length_take];omega),List.getElem_drop]
     congr 1
     simp only[List.length_append,List.length_take];omega
    rw[this]
    exact RdD.keep st.keeps _ _ u1
   ·rw[hset _ qn,if_neg qn,u4 p hp]
end Go.Sy
namespace Go.Sy.YteinjapglfkamaaGreat
open Go.Proofs
attribute [local irreducible] Go.Sy.G Go.Sy.DR
set_option maxRecDepth 100000
set_option maxHeartbeats 4000000
theorem Aa6 (m:Nat) (h:m<4294967296):bits .and .u64 (m:Int) 4294967295=(m:Int):=by
 have:=bits_and_u64_nat m 4294967295 qn qy
 rw[show ((4294967295:Nat):Int)=4294967295 from rfl]at this
 rw[this]
 have h2:=Nat.and_two_pow_sub_one_eq_mod m 32
 rw[show 2 ^ 32-1=4294967295 from rfl,show 2 ^ 32=4294967296 from rfl]at h2
 rw[h2,Nat.mod_eq_of_lt h]
theorem Aih (m:Nat) (h:m<4294967296):(m:Int).fdiv (2 ^ (min (Int.toNat 32) IntKind.u64.bits))=0:=by
 show (m:Int).fdiv 4294967296=0
 rw[Int.fdiv_eq_ediv_of_nonneg _ qy]
 omega
theorem mul64S (m:Nat) (h:m<4294967296):Sy.Spec Tryz.prog 218 [As 1,As m] [] (.tup [As 0,As m]) []:=cT F218 Tryz.ntmps218 fun F hF=>by
 have e0:bits .and .u64 1 4294967295=1:=Aa6 1 qy
 have e1:(1:Int).fdiv (2 ^ (min (Int.toNat 32) IntKind.u64.bits))=0:=Aih 1 qy
 have e2:=Aa6 m h
 have e3:=Aih m h
 have w1:IntKind.u64.wrap (1 * (m:Int))=m:=by rw[IntKind.wrap_u64];omega
 have w0:IntKind.u64.wrap (0 * (m:Int))=0:=by rw[IntKind.wrap_u64];omega
 have z0:IntKind.u64.wrap (0+0)=0:=rfl
 have a0:bits .and .u64 0 4294967295=0:=Aa6 0 qy
 have s0:(0:Int).fdiv (2 ^ (min (Int.toNat 32) IntKind.u64.bits))=0:=Aih 0 qy
 conv=>whnf
 rw[e0]
 refine⟨by decide,?_⟩
 rw[e1]
 conv=>whnf
 rw[e2]
 refine⟨by decide,?_⟩
 rw[e3]
 conv=>whnf
 rw[w1,w0]
 refine⟨by decide,?_⟩
 rw[e3]
 conv=>whnf
 rw[z0,a0]
 refine⟨by decide,?_⟩
 rw[s0]
 conv=>whnf
 refine⟨by decide,?_⟩
 conv=>whnf
 refine Aq E (.cons .tmp (.cons .tmp .nil)) ?_ E
 refine congrArg (fun z:Int=>SV.tup [As 0,As z]) ?_
 exact w1.symm
theorem mulS (m:Nat) (h:m<4294967296):Sy.Spec Tryz.prog 159 [As 1,As m] [] (.tup [As 0,As m]) []:=cT F159 Tryz.ntmps159 fun F hF=>by
 ((conv=>whnf);refine aF ?_;refine rg ?_;conv=>whnf)
 refine c0 (mul64S m h) F218 ?_
 refine oO ?_
 exact dN
def Ks (m k:Nat):List Bool:=List.replicate k true++List.replicate (m-k) false
theorem O5 (m k:Nat) (h:k≤m):(Ks m k).length=m:=by simp[Ks];omega
theorem Apw (m:Nat):Ks m m=List.replicate m true:=by simp[Ks]
theorem Am7 (m k c:Nat) (_h:k≤m) (hc:c=min k (m-k)):(Ks m k).take k++(Ks m k).take c++(Ks m k).drop (k+c)=Ks m (k+c):=by
 have e1:(Ks m k).take k=List.replicate k true:=by
  rw[Ks,List.take_append_of_le_length qz];simp
 have e2:(Ks m k).take c=List.replicate c true:=by
  rw[Ks,List.take_append_of_le_length (by simp;omega)];simp;omega
 have e3:(Ks m k).drop (k+c)=List.replicate (m-(k+c)) false:=by
  rw[Ks,List.drop_append,List.drop_eq_nil_of_le qz,List.nil_append]
  simp
  omega
 rw[e1,e2,e3,Ks,List.replicate_append_replicate]
theorem All (m:Nat) (h:m<2147483648):Sy.Spec Tryz.prog 111 [.sl 1 Ab [true],Aa m] [] (.sl 1 Ab (List.replicate m true)) []:=cT F111 Tryz.ntmps111 fun F hF=>by
 have hw:IntKind.u64.wrap (m:Int)=m:=by rw[IntKind.wrap_u64];omega
 have hw2:IntKind.i64.wrap (m:Int)=m:=by rw[IntKind.wrap_i64];omega
 have q:=mulS m qn
 rw[← hw]at q
 ((conv=>whnf);refine aF ?_;refine rg ?_;conv=>whnf)
 refine c0 q F159 ?_
 rw[hw]
 refine oF ?_
 refine⟨fun h1=>absurd (of_decide_eq_true h1) qn,fun _=>?_⟩
 refine oO ?_
 rw[hw2]
 refine Ad (B5 Γ.toTy (d:=30) (n:=m) Ab false E E E E E E E E qn qn E E E) E E ?_
 refine oO ?_
 refine Ad (Wp Γ.toTy (l:=List.replicate m false) (m:=[true]) E E E E E .sl) E E ?_
 have e0:[true].take (List.replicate m false).length++(List.replicate m false).drop [true].length=Ks m (min 1 m):=by
  cases m with
  | zero=>rfl
  | succ m=>simp[Ks,Nat.min_eq_left,List.replicate_succ]
 have e1:min [true].length (List.replicate m false).length=min 1 m:=by simp
 rw[e0,e1]
 refine oO ?_
 refine Atv (fun k:Nat=>min 1 m≤k∧k≤m) (fun k=>[(7,.osl 30),(8,Aa k)]) (fun k=>[(30,.row 1 Ab (Ks m k))]) (fun k=>m-k) (min 1 m) [] qn ⟨⟨E,E,E,E,Y⟩,⟨.inl E,E,Y⟩,E,E⟩ ?_
 intro k hk
 have hl:=O5 m k hk.2
 refine oO ?_
 refine⟨fun h1=>?_,fun h1=>?_⟩
 ·have hlt:k<m:=by have:=of_decide_eq_true h1;rw[hl]at this;omega
  clear h1
  have hk1:1≤k:=by omega
  have hne:Ks m k≠[]:=fun e=>by rw[e]at hl;simp at hl;omega
  refine Amj 30 [7] E hne (fun i hi=>by simp at hi;subst hi;rfl) ?_
  intro b cap hc
  rw[hl]at hc ⊢
  have hcl:¬ cap=k:=by omega
  have hcp:=Am7 m k (min k (m-k)) hk.2 rfl
  refine oO ?_
  refine Bd (Dh (lo:=k) (hi:=m) Γ.toTy E E E E (.inr ⟨_,_,E,E⟩) (.inl ⟨E,E⟩) qn qn) qq E ?_
  refine oD ?_
  refine Bd (Dh (lo:=0) (hi:=k) Γ.toTy E E E E (.inl ⟨E,E⟩) (.inr ⟨_,_,E,E⟩) qn qn) qq E ?_
  refine oD ?_
  refine Bd (Abz Γ.toTy 30 (lo:=k) (k:=k) E E E E (by rw[if_neg hcl,Nat.mul_one]) E (by rw[if_neg qn,Nat.zero_mul]) E hl qn qn) qq E ?_
  refine oD ?_
  refine iW ?_
  refine kW ?_
  refine Yr 30 31 [7] m E E (by rw[hcp,O5 m _ qn];exact Nat.le_refl _) (fun i hi=>by simp at hi;subst hi;rfl) ?_
  have hfin:((Ks m k).take k++(Ks m k).take (min k (m-k))++(Ks m k).drop (k+min k (m-k))).take m=Ks m (k+min k (m-k)):=by
   rw[hcp,List.take_of_length_le (by rw[O5 m _ qn];exact Nat.le_refl _)]
  exact Ar9 (k+min k (m-k)) [(30,31)] qn qn ⟨⟨E,E,E,E,Y⟩,⟨.inl (congrArg (Ob.row 1 Ab) hfin.symm),E,Y⟩,E,E⟩
 ·have hkm:k=m:=by have:=of_decide_eq_false h1;rw[hl]at this;omega
  subst hkm
  rw[Apw]
  refine oO ?_
  refine Ao 30 E ?_
  exact dN
end Go.Sy.YteinjapglfkamaaGreat
