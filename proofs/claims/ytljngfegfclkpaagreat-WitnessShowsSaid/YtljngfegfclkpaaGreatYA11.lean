/-
  NB2 NB3 NB4 I26 NB5 NB6 NB7 NB8 NB9 NB10 NB11 NB12 NB13 NB16 BN1: parts of a proof, joined by program.
-/
import Derived.Test.YtljngfegfclkpaaGreatYA10
import Derived.Test.YtljngfegfclkpaaGreatYA7
import Derived.Test.YtljngfegfclkpaaGreatYA8
import Derived.Test.YtljngfegfclkpaaGreatYA4
set_option linter.all false
set_option linter.unusedVariables false
set_option linter.unusedSimpArgs false
set_option linter.deprecated false
namespace Go.Sy.YtljngfegfclkpaaGreat
open Go.Proofs
attribute [local irreducible] Go.Sy.G Go.Sy.DR
set_option maxRecDepth 100000
set_option maxHeartbeats 4000000
theorem Jy {α:Type} {p:α→Bool} {l:List α} (h:¬ Bg p l<0):∃ i:Nat,Bg p l=i∧i<l.length:=by
 have:=Hj p l
 exact⟨(Bg p l).toNat,by omega,by omega⟩
theorem Mp (n:Net) (hn:n.Fin) (l:LineM) (hl:LineW l) (k:Int):Sp 194 [Aj n,A6 l,Aa k] (.tup [Aa (begT n l k).1,Aa (begT n l k).2]):=cT F194 Tryz.ntmps194 λ F hF=>by
 have q1:=Js l hl
 have q2:=Av n hn
 have hres:=begT.eq_1 n l k
 have hf:=fitsB.eq_1 n l k
 generalize begT n l k=res at *
 generalize fitsB n l k=f at *
 cases h1:(l.kind == k) with
 | false =>
  have g1:(l.kind != k)=true:=by rw[bne,h1];rfl
  rw[h1,zT]at hf
  rw[hf,zC rfl]at hres
  subst hres
  refine T ?_
  exact D
 | true =>
  have g1:(l.kind != k)=false:=by rw[bne,h1];rfl
  rw[h1,zS]at hf
  cases h2:C6 l with
  | false =>
   rw[h2]at q1 hf
   rw[hf,zT,zC rfl]at hres
   subst hres
   refine T ?_
   refine C q1 F191 ?_
   exact D
  | true =>
   rw[h2]at q1 hf
   cases h3:Ab n with
   | false =>
    rw[h3]at q2 hf
    rw[hf,wR,zC rfl]at hres
    subst hres
    refine T ?_
    refine C q1 F191 ?_
    refine C q2 F19 ?_
    exact D
   | true =>
    have q3:=Jc n hn h3 l.dev
    rw[h3]at q2 hf
    rw[hf,zA y_]at hres
    generalize Ca n l.dev=d at *
    by_cases h4:d<0
    ·have g4:decide (d<0)=true:=zL h4
     rw[zC h4]at hres
     subst hres
     refine T ?_
     refine C q1 F191 ?_
     refine C q2 F19 ?_
     refine C q3 F188 ?_
     exact D
    ·have g4:decide (d<0)=false:=zJ h4
     rw[zA h4]at hres
     subst hres
     refine T ?_
     refine C q1 F191 ?_
     refine C q2 F19 ?_
     refine C q3 F188 ?_
     exact D
theorem Aa9 (n:Net) (hn:n.Fin) (l:LineM) (hl:LineW l) (k:Int):Sp 196 [Aj n,A6 l,Aa k] (.tup [Aa (begT n l k).1,Aa (begT n l k).2]):=cT F196 Tryz.ntmps196 λ F hF=>by
 have q1:=Js l hl
 have q2:=Av n hn
 have hres:=begT.eq_1 n l k
 have hf:=fitsB.eq_1 n l k
 generalize begT n l k=res at *
 generalize fitsB n l k=f at *
 cases h1:(l.kind == k) with
 | false =>
  have g1:(l.kind != k)=true:=by rw[bne,h1];rfl
  rw[h1,zT]at hf
  rw[hf,zC rfl]at hres
  subst hres
  refine T ?_
  exact D
 | true =>
  have g1:(l.kind != k)=false:=by rw[bne,h1];rfl
  rw[h1,zS]at hf
  cases h2:C6 l with
  | false =>
   rw[h2]at q1 hf
   rw[hf,zT,zC rfl]at hres
   subst hres
   refine T ?_
   refine C q1 F191 ?_
   exact D
  | true =>
   rw[h2]at q1 hf
   cases h3:Ab n with
   | false =>
    rw[h3]at q2 hf
    rw[hf,wR,zC rfl]at hres
    subst hres
    refine T ?_
    refine C q1 F191 ?_
    refine C q2 F19 ?_
    exact D
   | true =>
    have q3:=Jc n hn h3 l.dev
    rw[h3]at q2 hf
    rw[hf,zA y_]at hres
    generalize Ca n l.dev=d at *
    by_cases h4:d<0
    ·have g4:decide (d<0)=true:=zL h4
     rw[zC h4]at hres
     subst hres
     refine T ?_
     refine C q1 F191 ?_
     refine C q2 F19 ?_
     refine C q3 F188 ?_
     exact D
    ·have g4:decide (d<0)=false:=zJ h4
     rw[zA h4]at hres
     subst hres
     refine T ?_
     refine C q1 F191 ?_
     refine C q2 F19 ?_
     refine C q3 F188 ?_
     exact D
theorem beg_ok {n:Net} {l:LineM} {k:Int} (h:(begT n l k).2=0):fitsB n l k=true∧Ab n=true∧∃ i:Nat,(begT n l k).1=i∧i<n.devices.length:=by
 unfold begT at h ⊢
 cases hf:fitsB n l k with
 | false=>rw[hf,zC rfl]at h;exact zW h j_
 | true =>
  rw[hf,zA y_]at h
  rw[zA y_]
  by_cases hd:Ca n l.dev<0
  ·rw[zC hd]at h;exact zW h j_
  ·rw[zA hd]
   refine⟨E,?_,Jy hd⟩
   unfold fitsB at hf
   simp only[zB]at hf
   exact hf.2.2
theorem ownerC (a:Int) (d:Device):Sp 204 [Aq d,.ref 1 (A8 a) 0] (Ac (d.vtep == a)):=cT F204 Tryz.ntmps204 λ F hF=>by
 refine T ?_
 exact D
theorem Aoe (n:Net) (hn:n.Fin) (a:Int):Sp 135 [Aj n,A8 a] (Aa (Cp n a)):=cT F135 Tryz.ntmps135 λ F hF=>by
 have q:=Jg n.devices (λ d=>d.vtep == a) 204 [] [.ref 1 (A8 a) 0] rfl (λ d _=>⟨⟨_,_,F204⟩,ownerC a d⟩) hn.devices
 refine fW ?_
 refine Az 3 1 (A8 a) E E E ?_
 refine c0 q F203 ?_
 refine fU ?_
 exact dN
theorem Az1 (dev vni:Int) (d:Domain):Sp 202 [An d,.ref 1 (Aa dev) 0,.ref 1 (Aa vni) 0] (Ac (d.dev == dev && (d.vni == vni && vni != 0))):=cT F202 Tryz.ntmps202 λ F hF=>by
 cases h:(d.dev == dev)
 ·refine T ?_
  exact D
 ·cases h2:(d.vni == vni)
  ·refine T ?_
   exact D
  ·refine T ?_
   exact D
theorem Wo (n:Net) (hn:n.Fin) (dev vni:Int):Sp 134 [Aj n,Aa dev,Aa vni] (Aa (H6 n dev vni)):=cT F134 Tryz.ntmps134 λ F hF=>by
 have q:=Ec n.domains (λ d=>d.dev == dev && (d.vni == vni && vni != 0)) 202 [] [.ref 1 (Aa dev) 0,.ref 1 (Aa vni) 0] rfl (λ d _=>⟨⟨_,_,F202⟩,Az1 dev vni d⟩) hn.domains
 refine fW ?_
 refine Az 4 1 (Aa dev) E E E ?_
 refine Az 5 1 (Aa vni) E E E ?_
 refine c0 q F170 ?_
 refine fU ?_
 exact dN
theorem Az0 (dev vni:Int) (f:Flood):Sp 201 [A3 f,.ref 1 (Aa dev) 0,.ref 1 (Aa vni) 0] (Ac (f.dev == dev && f.vni == vni)):=cT F201 Tryz.ntmps201 λ F hF=>by
 cases h:(f.dev == dev)
 ·refine T ?_
  exact D
 ·refine T ?_
  exact D
theorem Ahm (n:Net) (hn:n.Fin) (dev vni:Int):Sp 133 [Aj n,Aa dev,Aa vni] (Aa (Dt n dev vni)):=cT F133 Tryz.ntmps133 λ F hF=>by
 have q:=Yz n.floods (λ f=>f.dev == dev && f.vni == vni) 201 [] [.ref 1 (Aa dev) 0,.ref 1 (Aa vni) 0] rfl (λ f _=>⟨⟨_,_,F201⟩,Az0 dev vni f⟩) hn.floods
 refine fW ?_
 refine Az 4 1 (Aa dev) E E E ?_
 refine Az 5 1 (Aa vni) E E E ?_
 refine c0 q F200 ?_
 refine fU ?_
 exact dN
theorem Azz (n:Net) (hn:n.Fin) (l:LineM) (hl:LineW l):Sp 127 [Aj n,A6 l] (.tup [Aj (putVtep n l).1,Aa (putVtep n l).2]):=cT F127 Tryz.ntmps127 λ F hF=>by
 have q1:=Mp n hn l hl 5
 have hok:=@beg_ok n l 5
 have hres:=putVtep.eq_1 n l
 have q2:=Aoe n hn l.addr
 have q3:=Qe n hn
 generalize putVtep n l=res at *
 generalize begT n l 5=b at *
 obtain ⟨d,e⟩:=b
 dsimp only at hres hok q1
 by_cases h1:e≠0
 ·have g1:(e != 0)=true:=by rw[yV];exact h1
  rw[zC h1]at hres
  subst hres
  refine T ?_
  refine C q1 F194 ?_
  refine Am 4 (C7 emptyN) E vL ?_
  refine T ?_
  exact D
 have g1:(e != 0)=false:=by rw[bne_eq_false_iff_eq];omega
 rw[zA h1]at hres
 obtain ⟨_,_,i,hi,hlt⟩:=hok q_
 subst hi
 clear hok
 have hlt0:((i:Nat):Int).toNat<n.devices.length:=hlt
 have hnth:nth n.devices (i:Int)=n.devices[((i:Nat):Int).toNat]'hlt0:=Ae hlt0
 rw[hnth]at hres
 by_cases h2:(n.devices[((i:Nat):Int).toNat]'hlt0).vtep≠0
 ·have g2:((n.devices[((i:Nat):Int).toNat]'hlt0).vtep != 0)=true:=by rw[yV];exact h2
  rw[zC (.inl h2)]at hres
  subst hres
  refine T ?_
  refine C q1 F194 ?_
  refine Am 4 (C7 emptyN) E vL ?_
  refine T ?_
  exact D
 have g2:((n.devices[((i:Nat):Int).toNat]'hlt0).vtep != 0)=false:=by rw[bne_eq_false_iff_eq];omega
 by_cases h3:0≤Cp n l.addr
 ·have g3:decide (Cp n l.addr≥0)=true:=zL h3
  rw[zC (.inr h3)]at hres
  subst hres
  refine T ?_
  refine C q1 F194 ?_
  refine C q2 F135 ?_
  refine Am 4 (C7 emptyN) E vL ?_
  refine T ?_
  exact D
 have g3:decide (Cp n l.addr≥0)=false:=zJ h3
 rw[zA (λ h=>h.elim h2 h3)]at hres
 have hset:Vd n.devices (i:Int) l.addr=n.devices.set ((i:Nat):Int).toNat { (n.devices[((i:Nat):Int).toNat]'hlt0) with vtep:=l.addr }:=by rw[Vd,hnth]
 rw[hset]at hres
 subst hres
 have hne:n.devices≠[]:=λ e=>by rw[e]at hlt;cases hlt
 refine T ?_
 refine C q1 F194 ?_
 refine C q2 F135 ?_
 refine X (Ad [(0,901),(1,902),(2,903),(3,904),(4,905),(5,906),(6,907),(7,908)] E F34 q3 E W E V) ?_
 refine⟨hne,?_⟩
 refine T ?_
 refine⟨{ (n.devices[((i:Nat):Int).toNat]'hlt0) with vtep:=l.addr },rfl,rfl,?_⟩
 refine T ?_
 refine Ai 901 E ?_
 refine Ai 902 E ?_
 refine Ai 903 E ?_
 refine Ai 904 E ?_
 refine Ai 905 E ?_
 refine Ai 906 E ?_
 refine Ai 907 E ?_
 refine Ai 908 E ?_
 exact D
theorem Afz (l:List Int) (x:Int) (hl:Ak l):Sp 262 [.sl 1 A8 l,A8 x] (Aa (Bg (· == x) l)):=cT F262 Tryz.ntmps262 λ F hF=>by
 unfold Ak at hl
 refine fW ?_
 refine Bi l.length (λ j=>∀ i (h:i<l.length),i<j→(l[i] == x)=false) (λ j=>[(0,.sl 1 A8 l),(1,A8 x),(7,Aa l.length),(8,Aa j)]) (λ _=>[]) [] (λ i h hj=>zW hj q_) ⟨⟨E,E,E,E,E,E,E,E,Y⟩,Y,E,E⟩ ?_
 intro j hj hI
 refine fU ?_
 (repeat' (first | (refine⟨λ h=>?_,λ h=>?_⟩<;>(repeat (first | simp only[Af]at h | simp only[zG]at h | simp only[zV]at h | simp only[yA]at h | simp only[zO]at h | simp only[yV]at h | simp only[bne_eq_false_iff_eq]at h | simp only[zB]at h | simp only[yD]at h | simp only[yT]at h | simp only[xU]at h | simp only[yK]at h | simp only[wC]at h | simp only[uW]at h | simp only[tJ]at h | simp only[Bool.not_false]at h))<;>((first|refine rg ?_|refine rd z_ ?_);(conv=>whnf);repeat((first|refine aF ?_|refine aT ?_);(first|refine rg ?_|refine rd z_ ?_);(conv=>whnf)))) | (refine Ap rfl (.cons .tmp .nil) ?_ rfl) | (refine⟨z_,?_⟩;((conv=>whnf);repeat((first|refine aF ?_|refine aT ?_);(first|refine rg ?_|refine rd z_ ?_);(conv=>whnf)))) | (refine⟨by (first | (unfold I64;omega) | omega | (simp only[zR];omega) | done),by (first | (unfold I64;omega) | omega | (simp only[zR];omega) | done),?_⟩;((conv=>whnf);repeat((first|refine aF ?_|refine aT ?_);(first|refine rg ?_|refine rd z_ ?_);(conv=>whnf)))) | (refine⟨by (first | (unfold I64;omega) | omega | (simp only[zR];omega) | done),?_⟩;((conv=>whnf);repeat((first|refine aF ?_|refine aT ?_);(first|refine rg ?_|refine rd z_ ?_);(conv=>whnf)))) | refine Be [] hI q_ ?_ ⟨⟨rfl,rfl,rfl,rfl,rfl,rfl,rfl,rfl,trivial⟩,trivial,rfl,rfl⟩))
 all_goals try (refine zD Aa ?_)
 ·exact Cj q_ hI (by simpa using h.symm)
 ·intro i hi hij
  rcases vB i j with h1 | h1
  ·exact hI i hi h1
  ·have:i=j:=by omega
   subst this
   simpa using Ne.symm h
 ·exact Dg (λ i hi=>hI i hi q_)
theorem Qf (l:List Int) (x:Int) (hl:Ak l):Sp 195 [.sl 1 A8 l,A8 x] (Ac (inB l x)):=cT F195 Tryz.ntmps195 λ F hF=>by
 refine fW ?_
 (repeat' (first | (refine⟨λ h=>?_,λ h=>?_⟩<;>(repeat (first | simp only[Af]at h | simp only[zG]at h | simp only[zV]at h | simp only[yA]at h | simp only[zO]at h | simp only[yV]at h | simp only[bne_eq_false_iff_eq]at h | simp only[zB]at h | simp only[yD]at h | simp only[yT]at h | simp only[xU]at h | simp only[yK]at h | simp only[wC]at h | simp only[uW]at h | simp only[tJ]at h | simp only[Bool.not_false]at h))<;>((first|refine rg ?_|refine rd z_ ?_);(conv=>whnf);repeat((first|refine aF ?_|refine aT ?_);(first|refine rg ?_|refine rd z_ ?_);(conv=>whnf)))) | (refine Ap rfl (.cons .tmp .nil) ?_ rfl) | (refine⟨z_,?_⟩;((conv=>whnf);repeat((first|refine aF ?_|refine aT ?_);(first|refine rg ?_|refine rd z_ ?_);(conv=>whnf)))) | (refine⟨by (first | (unfold I64;omega) | omega | (simp only[zR];omega) | done),by (first | (unfold I64;omega) | omega | (simp only[zR];omega) | done),?_⟩;((conv=>whnf);repeat((first|refine aF ?_|refine aT ?_);(first|refine rg ?_|refine rd z_ ?_);(conv=>whnf)))) | (refine⟨by (first | (unfold I64;omega) | omega | (simp only[zR];omega) | done),?_⟩;((conv=>whnf);repeat((first|refine aF ?_|refine aT ?_);(first|refine rg ?_|refine rd z_ ?_);(conv=>whnf)))) | (refine c0 (Afz _ _ hl) F262 ?_;((first|refine rg ?_|refine rd z_ ?_);(conv=>whnf);repeat((first|refine aF ?_|refine aT ?_);(first|refine rg ?_|refine rd z_ ?_);(conv=>whnf)))) | (refine cD (Afz _ _ hl) F262 ?_;((first|refine rg ?_|refine rd z_ ?_);(conv=>whnf);repeat((first|refine aF ?_|refine aT ?_);(first|refine rg ?_|refine rd z_ ?_);(conv=>whnf))))))
 exact zD Ac (Kg _ _).symm
theorem ovVniS (n:Net) (hn:n.Fin) (l:LineM) (hl:LineW l):Sp 128 [Aj n,A6 l] (.tup [Aj (putVni n l).1,Aa (putVni n l).2]):=cT F128 Tryz.ntmps128 λ F hF=>by
 have hok:=@beg_ok n l 6
 have hres:=putVni.eq_1 n l
 have q1:=Mp n hn l hl 6
 have qcopy:=Qe n hn
 generalize putVni n l=res at *
 generalize begT n l 6=b at *
 obtain ⟨d,e⟩:=b
 dsimp only at hres hok q1
 by_cases h1:e≠0
 ·have g1:(e != 0)=true:=by rw[yV];exact h1
  rw[zC h1]at hres
  subst hres
  refine T ?_
  refine C q1 F194 ?_
  refine Am 4 (C7 emptyN) E vL ?_
  refine T ?_
  exact D
 have g1:(e != 0)=false:=by rw[bne_eq_false_iff_eq];omega
 rw[zA h1]at hres
 obtain ⟨_,hr,i,hi,hlt⟩:=hok q_
 subst hi
 clear hok
 have hlt0:((i:Nat):Int).toNat<n.devices.length:=hlt
 have hnth:nth n.devices (i:Int)=n.devices[((i:Nat):Int).toNat]'hlt0:=Ae hlt0
 rw[hnth]at hres
 have q2:=J4 n hn hr (i:Int) l.vlan
 have q3:=Wo n hn (i:Int) l.num
 have hdr:Cq n (i:Int) l.vlan<0∨∃ k:Nat,Cq n (i:Int) l.vlan=k∧k<n.domains.length:=by
  by_cases h:Cq n (i:Int) l.vlan<0
  ·exact .inl h
  ·exact .inr (Jy h)
 generalize Cq n (i:Int) l.vlan=dm at *
 by_cases h2:(n.devices[((i:Nat):Int).toNat]'hlt0).vtep=0
 ·have g2:((n.devices[((i:Nat):Int).toNat]'hlt0).vtep == 0)=true:=by rw[yA];exact h2
  rw[zC h2]at hres
  subst hres
  refine T ?_
  refine C q1 F194 ?_
  refine C q2 F62 ?_
  refine Am 4 (C7 emptyN) E vL ?_
  refine T ?_
  exact D
 have g2:((n.devices[((i:Nat):Int).toNat]'hlt0).vtep == 0)=false:=by rw[zO];exact h2
 rw[zA h2]at hres
 by_cases h3:dm<0
 ·have g3:decide (dm<0)=true:=zL h3
  rw[zC h3]at hres
  subst hres
  refine T ?_
  refine C q1 F194 ?_
  refine C q2 F62 ?_
  refine Am 4 (C7 emptyN) E vL ?_
  refine T ?_
  exact D
 have g3:decide (dm<0)=false:=zJ h3
 rw[zA h3]at hres
 obtain ⟨k,hk,hkl⟩:=hdr.resolve_left h3
 subst hk
 clear hdr
 have hkl0:((k:Nat):Int).toNat<n.domains.length:=hkl
 have hnd:nth n.domains (k:Int)=n.domains[((k:Nat):Int).toNat]'hkl0:=Ae hkl0
 rw[hnd]at hres
 by_cases h4:(n.domains[((k:Nat):Int).toNat]'hkl0).vni≠0
 ·have g4:((n.domains[((k:Nat):Int).toNat]'hkl0).vni != 0)=true:=by rw[yV];exact h4
  rw[zC (.inl h4)]at hres
  subst hres
  refine T ?_
  refine C q1 F194 ?_
  refine C q2 F62 ?_
  refine Am 4 (C7 emptyN) E vL ?_
  refine T ?_
  exact D
 have g4:((n.domains[((k:Nat):Int).toNat]'hkl0).vni != 0)=false:=by rw[bne_eq_false_iff_eq];omega
 by_cases h5:0≤H6 n (i:Int) l.num
 ·have g5:decide (H6 n (i:Int) l.num≥0)=true:=zL h5
  rw[zC (.inr h5)]at hres
  subst hres
  refine T ?_
  refine C q1 F194 ?_
  refine C q2 F62 ?_
  refine C q3 F134 ?_
  refine Am 4 (C7 emptyN) E vL ?_
  refine T ?_
  exact D
 have g5:decide (H6 n (i:Int) l.num≥0)=false:=zJ h5
 rw[zA (λ h=>h.elim h4 h5)]at hres
 have hne:n.domains≠[]:=λ e=>by rw[e]at hkl;cases hkl
 have hne2:∀ x,n.domains.set ((k:Nat):Int).toNat x≠[]:=λ x e=>by
  have:=zD List.length e
  rw[yE]at this
  simp at this;exact hne this
 have hk2:∀ x,((k:Nat):Int).toNat<(n.domains.set ((k:Nat):Int).toNat x).length:=λ x=>by rw[yE];exact hkl0
 have hset:∀ x y,(n.domains.set ((k:Nat):Int).toNat x).set ((k:Nat):Int).toNat y=n.domains.set ((k:Nat):Int).toNat y:=λ x y=>List.set_set ..
 have hget:∀ x,(n.domains.set ((k:Nat):Int).toNat x)[((k:Nat):Int).toNat]'(hk2 x)=x:=λ x=>uB ..
 rw[← hset (⟨(n.domains[((k:Nat):Int).toNat]'hkl0).dev,(n.domains[((k:Nat):Int).toNat]'hkl0).vlan,l.num,(n.domains[((k:Nat):Int).toNat]'hkl0).irb,(n.domains[((k:Nat):Int).toNat]'hkl0).row,(n.domains[((k:Nat):Int).toNat]'hkl0).peers⟩:Domain) (⟨(n.domains[((k:Nat):Int).toNat]'hkl0).dev,(n.domains[((k:Nat):Int).toNat]'hkl0).vlan,l.num,(n.domains[((k:Nat):Int).toNat]'hkl0).irb,l.row,(n.domains[((k:Nat):Int).toNat]'hkl0).peers⟩:Domain)]at hres
 subst hres
 refine T ?_
 refine C q1 F194 ?_
 refine C q2 F62 ?_
 refine C q3 F134 ?_
 refine X (Ad [(0,901),(1,902),(2,903),(3,904),(4,905),(5,906),(6,907),(7,908)] E F34 qcopy E W E V) ?_
 refine⟨hne,?_⟩
 refine T ?_
 refine⟨(⟨(n.domains[((k:Nat):Int).toNat]'hkl0).dev,(n.domains[((k:Nat):Int).toNat]'hkl0).vlan,l.num,(n.domains[((k:Nat):Int).toNat]'hkl0).irb,(n.domains[((k:Nat):Int).toNat]'hkl0).row,(n.domains[((k:Nat):Int).toNat]'hkl0).peers⟩:Domain),E,E,?_⟩
 refine T ?_
 refine⟨hk2 _,?_⟩
 refine T ?_
 refine⟨hne2 _,?_⟩
 refine T ?_
 refine⟨hk2 _,(⟨(n.domains[((k:Nat):Int).toNat]'hkl0).dev,(n.domains[((k:Nat):Int).toNat]'hkl0).vlan,l.num,(n.domains[((k:Nat):Int).toNat]'hkl0).irb,l.row,(n.domains[((k:Nat):Int).toNat]'hkl0).peers⟩:Domain),by rw[hget];rfl,by rw[hget];rfl,?_⟩
 refine T ?_
 refine Ai 901 E ?_
 refine Ai 902 E ?_
 refine Ai 903 E ?_
 refine Ai 904 E ?_
 refine Ai 905 E ?_
 refine Ai 906 E ?_
 refine Ai 907 E ?_
 refine Ai 908 E ?_
 exact D
theorem Awv (n:Net) (hn:n.Fin) (l:LineM) (hl:LineW l):Sp 129 [Aj n,A6 l] (.tup [Aj (putFlood n l).1,Aa (putFlood n l).2]):=cT F129 Tryz.ntmps129 λ F hF=>by
 have hok:=@beg_ok n l 7
 have hres:=putFlood.eq_1 n l
 have q1:=Mp n hn l hl 7
 have qcopy:=Qe n hn
 generalize putFlood n l=res at *
 generalize begT n l 7=b at *
 obtain ⟨d,e⟩:=b
 dsimp only at hres hok q1
 by_cases h1:e≠0
 ·have g1:(e != 0)=true:=by rw[yV];exact h1
  rw[zC h1]at hres
  subst hres
  refine T ?_
  refine C q1 F194 ?_
  refine Am 4 (C7 emptyN) E vL ?_
  refine T ?_
  exact D
 have g1:(e != 0)=false:=by rw[bne_eq_false_iff_eq];omega
 rw[zA h1]at hres
 obtain ⟨_,hr,i,hi,hlt⟩:=hok q_
 subst hi
 clear hok
 have hlt0:((i:Nat):Int).toNat<n.devices.length:=hlt
 have hnth:nth n.devices (i:Int)=n.devices[((i:Nat):Int).toNat]'hlt0:=Ae hlt0
 rw[hnth]at hres
 have hla:=hl.fin.a
 have q2:=Wo n hn (i:Int) l.num
 have q3:=Ahm n hn (i:Int) l.num
 have q4:=Qf l.addrs (n.devices[((i:Nat):Int).toNat]'hlt0).vtep (by unfold Ak;omega)
 have q5:=Y7 l.addrs q_
 generalize H6 n (i:Int) l.num=v2 at *
 generalize Dt n (i:Int) l.num=v3 at *
 generalize inB l.addrs (n.devices[((i:Nat):Int).toNat]'hlt0).vtep=v4 at *
 by_cases h2:v2<0
 ·have g2:decide (v2<0)=true:=zL h2
  rw[zC h2]at hres
  subst hres
  refine T ?_
  refine C q1 F194 ?_
  refine C q2 F134 ?_
  refine Am 4 (C7 emptyN) E vL ?_
  refine T ?_
  exact D
 have g2:decide (v2<0)=false:=zJ h2
 rw[zA h2]at hres
 by_cases h3:0≤v3
 ·have g3:decide (v3≥0)=true:=zL h3
  rw[zC h3]at hres
  subst hres
  refine T ?_
  refine C q1 F194 ?_
  refine C q2 F134 ?_
  refine C q3 F133 ?_
  refine Am 4 (C7 emptyN) E vL ?_
  refine T ?_
  exact D
 have g3:decide (v3≥0)=false:=zJ h3
 rw[zA h3]at hres
 cases v4 with
 | true =>
  rw[zC rfl]at hres
  subst hres
  refine T ?_
  refine C q1 F194 ?_
  refine C q2 F134 ?_
  refine C q3 F133 ?_
  refine C q4 F195 ?_
  refine Am 4 (C7 emptyN) E vL ?_
  refine T ?_
  exact D
 | false =>
  rw[zA y_]at hres
  by_cases h5:n.floods.length=48
  ·have g5:((n.floods.length:Int) == 48)=true:=by rw[yA];omega
   rw[zC h5]at hres
   subst hres
   refine T ?_
   refine C q1 F194 ?_
   refine C q2 F134 ?_
   refine C q3 F133 ?_
   refine C q4 F195 ?_
   refine Am 4 (C7 emptyN) E vL ?_
   refine T ?_
   exact D
  have g5:((n.floods.length:Int) == 48)=false:=by rw[zO];omega
  rw[zA h5]at hres
  subst hres
  have hfl:n.floods.length<2147483648:=hn.floods
  refine T ?_
  refine C q1 F194 ?_
  refine C q2 F134 ?_
  refine C q3 F133 ?_
  refine C q4 F195 ?_
  refine X (Ad [(0,901),(1,902),(2,903),(3,904),(4,905),(5,906),(6,907),(7,908)] E F34 qcopy E W E V) ?_
  refine C q5 F91 ?_
  refine Xd (Ah Γ.toTy 66 E E E E E (.row E) (.lit (e:=A3) (l:=[(⟨l.row,(i:Int),l.num,l.addrs⟩:Flood)]) E E) j_ (by simp only[zM];omega) (by simp only[zM];omega)) ?_
  refine T ?_
  refine Ai 901 E ?_
  refine Ai 902 E ?_
  refine Ai 903 E ?_
  refine Ai 904 E ?_
  refine Ai 905 E ?_
  refine Ai 66 E ?_
  refine Ai 907 E ?_
  refine Ai 908 E ?_
  exact D
theorem Azi (n:Net) (hn:n.Fin) (l:LineM) (hl:LineW l):Sp 130 [Aj n,A6 l] (.tup [Aj (putVrf n l).1,Aa (putVrf n l).2]):=cT F130 Tryz.ntmps130 λ F hF=>by
 have hok:=@beg_ok n l 8
 have hres:=putVrf.eq_1 n l
 have q1:=Aa9 n hn l hl 8
 have qcopy:=Qe n hn
 generalize putVrf n l=res at *
 generalize begT n l 8=b at *
 obtain ⟨d,e⟩:=b
 dsimp only at hres hok q1
 by_cases h1:e≠0
 ·have g1:(e != 0)=true:=by rw[yV];exact h1
  rw[zC h1]at hres
  subst hres
  refine T ?_
  refine C q1 F196 ?_
  refine Am 4 (C7 emptyN) E vL ?_
  refine T ?_
  exact D
 have g1:(e != 0)=false:=by rw[bne_eq_false_iff_eq];omega
 rw[zA h1]at hres
 obtain ⟨_,hr,i,hi,hlt⟩:=hok q_
 subst hi
 clear hok
 have hlt0:((i:Nat):Int).toNat<n.devices.length:=hlt
 have hnth:nth n.devices (i:Int)=n.devices[((i:Nat):Int).toNat]'hlt0:=Ae hlt0
 clear hnth
 have hli:=hl.fin.i
 have hle:=hl.fin.e
 have q2:=Afm n hn hr (i:Int) l.name
 have q5:=D7 l.imports q_
 have q6:=D7 l.exports q_
 have hfl:n.vrfs.length<2147483648:=hn.vrfs
 generalize Agt n (i:Int) l.name=v2 at *
 by_cases h2:0≤v2
 ·have g2:decide (v2≥0)=true:=zL h2
  rw[zC h2]at hres
  subst hres
  refine T ?_
  refine C q1 F196 ?_
  refine C q2 F197 ?_
  refine Am 4 (C7 emptyN) E vL ?_
  refine T ?_
  exact D
 have g2:decide (v2≥0)=false:=zJ h2
 rw[zA h2]at hres
 by_cases h5:n.vrfs.length=16
 ·have g5:((n.vrfs.length:Int) == 16)=true:=by rw[yA];omega
  rw[zC h5]at hres
  subst hres
  refine T ?_
  refine C q1 F196 ?_
  refine C q2 F197 ?_
  refine Am 4 (C7 emptyN) E vL ?_
  refine T ?_
  exact D
 have g5:((n.vrfs.length:Int) == 16)=false:=by rw[zO];omega
 rw[zA h5]at hres
 subst hres
 refine T ?_
 refine C q1 F196 ?_
 refine C q2 F197 ?_
 refine X (Ad [(0,901),(1,902),(2,903),(3,904),(4,905),(5,906),(6,907),(7,908)] E F34 qcopy E W E V) ?_
 refine C q5 F90 ?_
 refine C q6 F90 ?_
 refine Xd (Ah Γ.toTy 51 E E E E E (.row E) (.lit (e:=B5) (l:=[(⟨l.row,(i:Int),l.name,l.imports,l.exports⟩:Vrf)]) E E) j_ (by simp only[zM];omega) (by simp only[zM];omega)) ?_
 refine T ?_
 refine Ai 901 E ?_
 refine Ai 902 E ?_
 refine Ai 903 E ?_
 refine Ai 904 E ?_
 refine Ai 905 E ?_
 refine Ai 906 E ?_
 refine Ai 51 E ?_
 refine Ai 908 E ?_
 exact D
theorem Afi {a b x:Int} (hb:0≤b∧b≤32) (ha:0≤a∧a<4294967296) (hx:0≤x∧x<4294967296):Alm a b x=Yq a b x:=by
 obtain ⟨y,rfl⟩:=yZ ha.1
 obtain ⟨z,rfl⟩:=yZ hx.1
 obtain ⟨k,hk,hk2⟩:∃ k:Nat,(32-b).toNat=k∧k≤32:=⟨_,rfl,by omega⟩
 have hq:0<2 ^ k:=Nat.two_pow_pos k
 rw[Alm,Aff b hb,hk,Axh y z k q_ q_ hk2,Yq,zL hb.1,zL hb.2,zS,zS,Jz y k b hb hk,Jz z k b hb hk]
 generalize 2 ^ k=q at *
 have h1:=vJ y q
 have h2:=vJ z q
 have e1:y-y % q=q * (y / q):=by omega
 have e2:z-z % q=q * (z / q):=by omega
 rw[e1,e2,xO,zG,yA]
 constructor
 ·intro h;rw[h]
 ·intro h
  exact Nat.eq_of_mul_eq_mul_left hq (by exact_mod_cast h)
theorem clashS (n:Net) (x:Irb) (hv:0≤x.vrf∧x.vrf.toNat<n.vrfs.length) (hb:0≤x.bits∧x.bits≤32) (hx:0≤x.addr∧x.addr<4294967296) (dev a b:Int) (ha:0≤a∧a<4294967296) (hb2:0≤b∧b≤32) :
  Sp 199 [Aj n,By x,Aa dev,Aq0 a b] (Ac (clashB n dev a b x)):=cT F199 Tryz.ntmps199 λ F hF=>by
 have q1:=Ad3 x.addr x.bits a hb
 have q2:=Ad3 a b x.addr hb2
 rw[Afi hb hx ha]at q1
 rw[Afi hb2 ha hx]at q2
 have hc:=clashB.eq_1 n dev a b x
 have hv0:=hv.2
 rw[Ae hv0]at hc
 generalize clashB n dev a b x=r at *
 generalize Yq x.addr x.bits a=p1 at *
 generalize Yq a b x.addr=p2 at *
 cases h1:(x.addr == a) with
 | true =>
  rw[h1,uS]at hc
  subst hc
  refine T ?_
  exact D
 | false =>
  rw[h1,vF]at hc
  cases h2:((n.vrfs[x.vrf.toNat]'hv0).dev != dev) with
  | false =>
   rw[h2,zT]at hc
   subst hc
   refine T ?_
   exact D
  | true =>
   rw[h2,zS]at hc
   cases p1 with
   | true =>
    rw[uS]at hc
    subst hc
    refine T ?_
    refine C q1 F265 ?_
    exact D
   | false =>
    rw[vF]at hc
    subst hc
    refine T ?_
    refine C q1 F265 ?_
    refine C q2 F265 ?_
    exact D
theorem irbC (n:Net) (x:Irb) (hv:0≤x.vrf∧x.vrf.toNat<n.vrfs.length) (hb:0≤x.bits∧x.bits≤32) (hx:0≤x.addr∧x.addr<4294967296) (dev:Int) (l:LineM) (ha:0≤l.addr∧l.addr<4294967296) (hb2:0≤l.bits∧l.bits≤32) :
  Sp 198 [By x,.ref 8 (Aj n) 0,.ref 1 (Aa dev) 0,.ref 17 (A6 l) 0] (Ac (clashB n dev l.addr l.bits x)):=cT F198 Tryz.ntmps198 λ F hF=>by
 have q:=clashS n x hv hb hx dev l.addr l.bits ha hb2
 generalize clashB n dev l.addr l.bits x=r at *
 refine T ?_
 refine C q F199 ?_
 exact D
theorem Apg {n:Net} {l:LineM} {k:Int} (h:fitsB n l k=true):l.kind=k∧C6 l=true∧Ab n=true:=by
 unfold fitsB at h
 simp only[zB,yA]at h
 exact⟨h.1,h.2.1,h.2.2⟩
theorem Anz {l:LineM} (h:C6 l=true) (hk:l.kind=9):0≤l.bits∧l.bits≤32:=by
 rw[C6,zB]at h
 have:=h.1
 simp[Bh,hk]at this
 have:=Ze this.2.2
 omega
theorem A0n (n:Net) (hn:n.Fin) (ha:Dd n) (l:LineM) (hl:LineW l):Sp 131 [Aj n,A6 l] (.tup [Aj (putIrb n l).1,Aa (putIrb n l).2]):=cT F131 Tryz.ntmps131 λ F hF=>by
 have hok:=@beg_ok n l 9
 have hres:=putIrb.eq_1 n l
 have q1:=Aa9 n hn l hl 9
 have qcopy:=Qe n hn
 generalize putIrb n l=res at *
 generalize begT n l 9=b at *
 obtain ⟨d,e⟩:=b
 dsimp only at hres hok q1
 by_cases h1:e≠0
 ·have g1:(e != 0)=true:=by rw[yV];exact h1
  rw[zC h1]at hres
  subst hres
  refine T ?_
  refine C q1 F196 ?_
  refine Am 4 (C7 emptyN) E vL ?_
  refine T ?_
  exact D
 have g1:(e != 0)=false:=by rw[bne_eq_false_iff_eq];omega
 rw[zA h1]at hres
 obtain ⟨hfit,hr,i,hi,hlt⟩:=hok q_
 subst hi
 clear hok
 have hlt0:((i:Nat):Int).toNat<n.devices.length:=hlt
 have hnth:nth n.devices (i:Int)=n.devices[((i:Nat):Int).toNat]'hlt0:=Ae hlt0
 clear hnth
 obtain ⟨hk9,hrl,_⟩:=Apg hfit
 have hbits:=Anz hrl hk9
 have q2:=Afm n hn hr (i:Int) l.name
 have q3:=J4 n hn hr (i:Int) l.vlan
 have hirb:∀ x∈n.irbs,(0≤x.vrf∧x.vrf.toNat<n.vrfs.length)∧(0≤x.bits∧x.bits≤32):=λ x hx=>by
  obtain ⟨j,hj,rfl⟩:=wX hx
  have:=A1r hr hj
  simp only[Aen,Af,zB,zG]at this
  omega
 have qc:=Jn n.irbs (clashB n (i:Int) l.addr l.bits) 198 [] [.ref 8 (Aj n) 0,.ref 1 (Aa (i:Int)) 0,.ref 17 (A6 l) 0] rfl (λ x hx=>⟨⟨_,_,F198⟩,irbC n x (hirb x hx).1 (hirb x hx).2 (ha x hx) (i:Int) l hl.ok.addr hbits⟩) hn.irbs
 rw[Kg]at qc
 have hdr:Cq n (i:Int) l.vlan<0∨∃ k:Nat,Cq n (i:Int) l.vlan=k∧k<n.domains.length:=by
  by_cases h:Cq n (i:Int) l.vlan<0
  ·exact .inl h
  ·exact .inr (Jy h)
 generalize Agt n (i:Int) l.name=v2 at *
 generalize Cq n (i:Int) l.vlan=dm at *
 generalize n.irbs.any (clashB n (i:Int) l.addr l.bits)=cl at *
 by_cases h2:v2<0
 ·have g2:decide (v2<0)=true:=zL h2
  rw[zC h2]at hres
  subst hres
  refine T ?_
  refine C q1 F196 ?_
  refine C q2 F197 ?_
  refine C q3 F62 ?_
  refine Am 4 (C7 emptyN) E vL ?_
  refine T ?_
  exact D
 have g2:decide (v2<0)=false:=zJ h2
 rw[zA h2]at hres
 by_cases h3:dm<0
 ·have g3:decide (dm<0)=true:=zL h3
  rw[zC h3]at hres
  subst hres
  refine T ?_
  refine C q1 F196 ?_
  refine C q2 F197 ?_
  refine C q3 F62 ?_
  refine Am 4 (C7 emptyN) E vL ?_
  refine T ?_
  exact D
 have g3:decide (dm<0)=false:=zJ h3
 rw[zA h3]at hres
 obtain ⟨k,hk,hkl⟩:=hdr.resolve_left h3
 subst hk
 clear hdr
 have hkl0:((k:Nat):Int).toNat<n.domains.length:=hkl
 have hnd:nth n.domains (k:Int)=n.domains[((k:Nat):Int).toNat]'hkl0:=Ae hkl0
 rw[hnd]at hres
 by_cases h4:0≤(n.domains[((k:Nat):Int).toNat]'hkl0).irb
 ·have g4:decide ((n.domains[((k:Nat):Int).toNat]'hkl0).irb≥0)=true:=zL h4
  rw[zC (.inl h4)]at hres
  subst hres
  refine T ?_
  refine C q1 F196 ?_
  refine C q2 F197 ?_
  refine C q3 F62 ?_
  refine Am 4 (C7 emptyN) E vL ?_
  refine T ?_
  exact D
 have g4:decide ((n.domains[((k:Nat):Int).toNat]'hkl0).irb≥0)=false:=zJ h4
 cases cl with
 | true =>
  rw[zC (.inr rfl)]at hres
  subst hres
  refine T ?_
  refine C q1 F196 ?_
  refine C q2 F197 ?_
  refine C q3 F62 ?_
  refine Az 2 8 (Aj n) E E E ?_
  refine Az 3 17 (A6 l) E E E ?_
  refine Az 6 1 (Aa (i:Int)) E E E ?_
  refine C qc F177 ?_
  refine Am 4 (C7 emptyN) E vL ?_
  refine T ?_
  exact D
 | false =>
  rw[zA (λ h=>h.elim h4 y_)]at hres
  subst hres
  have hne:n.domains≠[]:=λ e=>by rw[e]at hkl;cases hkl
  have hfl:n.irbs.length<2147483648:=hn.irbs
  refine T ?_
  refine C q1 F196 ?_
  refine C q2 F197 ?_
  refine C q3 F62 ?_
  refine Az 2 8 (Aj n) E E E ?_
  refine Az 3 17 (A6 l) E E E ?_
  refine Az 6 1 (Aa (i:Int)) E E E ?_
  refine C qc F177 ?_
  refine X (Ad [(0,901),(1,902),(2,903),(3,904),(4,905),(5,906),(6,907),(7,908)] E F34 qcopy E W E V) ?_
  refine⟨hne,?_⟩
  refine T ?_
  refine⟨(⟨(n.domains[((k:Nat):Int).toNat]'hkl0).dev,(n.domains[((k:Nat):Int).toNat]'hkl0).vlan,(n.domains[((k:Nat):Int).toNat]'hkl0).vni,(n.irbs.length:Int),(n.domains[((k:Nat):Int).toNat]'hkl0).row,(n.domains[((k:Nat):Int).toNat]'hkl0).peers⟩:Domain),E,E,?_⟩
  refine T ?_
  refine X (Ah Γ.toTy 77 E E E E E (.row E) (.lit (e:=By) (l:=[(⟨l.row,(k:Int),v2,l.addr,l.bits⟩:Irb)]) E E) j_ (by simp only[zM];omega) (by simp only[zM];omega)) ?_
  refine Ai 901 E ?_
  refine Ai 902 E ?_
  refine Ai 903 E ?_
  refine Ai 904 E ?_
  refine Ai 905 E ?_
  refine Ai 906 E ?_
  refine Ai 907 E ?_
  refine Ai 77 E ?_
  exact D
theorem W3 (l:List Static) (p:Static→Bool) (f:FuncId) (first cap:List SV) (hc:(SV.clo (.func f) first cap).inn []=true) (hf:∀ x∈l,Hh Tryz.prog f (first++[As x]++cap) (Ac (p x))) (hl:Ak l) :
  Sp 260 [.sl 4 As l,.clo (.func f) first cap] (Aa (Bg p l)):=cT F260 Tryz.ntmps260 λ F hF=>by
 unfold Ak at hl
 have hin:∀ x:Static,B7 [] (first++[As x]++cap)=true:=λ x=>C2 hc rfl
 refine fW ?_
 refine Bi l.length (λ j=>Ir (λ _ x=>!(p x)) l j) (λ j=>[(0,.sl 4 As l),(1,.clo (.func f) first cap),(7,Aa l.length),(8,Aa j)]) (λ _=>[]) [] (Bp _ _) ⟨⟨E,E,A9 _,hc,E,E,E,E,Y⟩,Y,E,E⟩ ?_
 intro j hj hI
 refine fU ?_
 constructor<;>intro h
 ·have h:=zK h
  have hj2:j<l.length:=by omega
  refine fU ?_
  refine⟨E,by omega,by omega,?_⟩
  refine fW ?_
  refine Eg (hf l[j] (zE hj2)) E E E (by simp only[hin];rfl) E E ?_
  refine fU ?_
  constructor<;>intro h2
  ·refine fU ?_
   refine Ap E (.cons .tmp .nil) (zD Aa ?_) E
   exact Cj hj2 (λ i hi hij=>by simpa using hI i hi hij) h2
  ·refine fU ?_
   refine iL ?_
   refine fW ?_
   exact Be [] hI hj2 (Bj hI hj2 (by simp[h2])) ⟨⟨E,E,A9 _,hc,E,E,E,E,Y⟩,Y,E,E⟩
 ·have h:=zN h
  refine fU ?_
  refine Ap E (.cons .tmp .nil) (zD Aa ?_) E
  exact Dg (λ i hi=>by simpa using hI i hi q_)
theorem Aw5 (dom m:Int) (s:Static):Sp 261 [As s,.ref 1 (Aa dom) 0,.ref 1 (Bb m) 0] (Ac (s.domain == dom && s.mac == m)):=cT F261 Tryz.ntmps261 λ F hF=>by
 cases h:(s.domain == dom)
 ·refine T ?_
  exact D
 ·refine T ?_
  exact D
theorem Aw4 (n:Net) (hn:n.Fin) (dom m:Int):Sp 193 [Aj n,Aa dom,Bb m] (Aa (Aif n dom m)):=cT F193 Tryz.ntmps193 λ F hF=>by
 have q:=W3 n.statics (λ s:Static=>s.domain == dom && s.mac == m) 261 [] [.ref 1 (Aa dom) 0,.ref 1 (Bb m) 0] rfl (λ x _=>⟨⟨_,_,F261⟩,Aw5 dom m x⟩) hn.statics
 refine fW ?_
 refine Az 4 1 (Aa dom) E E E ?_
 refine Az 5 1 (Bb m) E E E ?_
 refine c0 q F260 ?_
 refine fU ?_
 exact dN
theorem Anj (n:Net) (hn:n.Fin) (l:LineM) (hl:LineW l):Sp 126 [Aj n,A6 l] (.tup [Aj (putStatic n l).1,Aa (putStatic n l).2]):=cT F126 Tryz.ntmps126 λ F hF=>by
 have qr:=Js l hl
 have qn:=Av n hn
 have qcopy:=Qe n hn
 have hres:=putStatic.eq_1 n l
 dsimp only at hres
 have hf:=fitsB.eq_1 n l 4
 generalize putStatic n l=res at *
 generalize fitsB n l 4=f at *
 cases h1:(l.kind == 4) with
 | false =>
  have g1:(l.kind != 4)=true:=by rw[bne,h1];rfl
  rw[h1,zT]at hf
  rw[hf,zC rfl]at hres
  subst hres
  refine T ?_
  refine Am 4 (C7 emptyN) E vL ?_
  refine T ?_
  exact D
 | true =>
 have g1:(l.kind != 4)=false:=by rw[bne,h1];rfl
 rw[h1,zS]at hf
 cases h2:C6 l with
 | false =>
  rw[h2]at qr hf
  rw[hf,zT,zC rfl]at hres
  subst hres
  refine T ?_
  refine C qr F191 ?_
  refine Am 4 (C7 emptyN) E vL ?_
  refine T ?_
  exact D
 | true =>
 rw[h2]at qr hf
 cases hr:Ab n with
 | false =>
  rw[hr]at qn hf
  rw[hf,wR,zC rfl]at hres
  subst hres
  refine T ?_
  refine C qr F191 ?_
  refine C qn F19 ?_
  refine Am 4 (C7 emptyN) E vL ?_
  refine T ?_
  exact D
 | true =>
 rw[hr]at qn hf
 rw[hf,zA y_]at hres
 have q1:=Jc n hn hr l.dev
 have q2:=Vj n hn hr (Ca n l.dev) l.port
 have q3:=J4 n hn hr (Ca n l.dev) l.vlan
 have q5:=Aw4 n hn (Cq n (Ca n l.dev) l.vlan) l.mac
 have hpr:Sb n (Ca n l.dev) l.port<0∨∃ k:Nat,Sb n (Ca n l.dev) l.port=k∧k<n.ports.length:=by
  by_cases h:Sb n (Ca n l.dev) l.port<0
  ·exact .inl h
  ·exact .inr (Jy h)
 have hfl:n.statics.length<2147483648:=hn.statics
 generalize Sb n (Ca n l.dev) l.port=pt at *
 generalize Cq n (Ca n l.dev) l.vlan=dm at *
 generalize Ca n l.dev=dv at *
 generalize Aif n dm l.mac=en at *
 by_cases h3:dv<0
 ·have g3:decide (dv<0)=true:=zL h3
  rw[zC (.inl h3)]at hres
  subst hres
  refine T ?_
  refine C qr F191 ?_
  refine C qn F19 ?_
  refine C q1 F188 ?_
  refine C q2 F189 ?_
  refine C q3 F62 ?_
  refine Am 4 (C7 emptyN) E vL ?_
  refine T ?_
  exact D
 have g3:decide (dv<0)=false:=zJ h3
 by_cases h4:pt<0
 ·have g4:decide (pt<0)=true:=zL h4
  rw[zC (.inr h4)]at hres
  subst hres
  refine T ?_
  refine C qr F191 ?_
  refine C qn F19 ?_
  refine C q1 F188 ?_
  refine C q2 F189 ?_
  refine C q3 F62 ?_
  refine Am 4 (C7 emptyN) E vL ?_
  refine T ?_
  exact D
 have g4:decide (pt<0)=false:=zJ h4
 rw[zA (λ h=>h.elim h3 h4)]at hres
 obtain ⟨p,hp,hpl⟩:=hpr.resolve_left h4
 subst hp
 clear hpr
 have hp0:((p:Nat):Int).toNat<n.ports.length:=hpl
 have hnp:nth n.ports (p:Int)=n.ports[((p:Nat):Int).toNat]'hp0:=Ae hp0
 rw[hnp]at hres
 by_cases h5:dm<0
 ·have g5:decide (dm<0)=true:=zL h5
  rw[zC (.inl h5)]at hres
  subst hres
  refine T ?_
  refine C qr F191 ?_
  refine C qn F19 ?_
  refine C q1 F188 ?_
  refine C q2 F189 ?_
  refine C q3 F62 ?_
  refine Am 4 (C7 emptyN) E vL ?_
  refine T ?_
  exact D
 have g5:decide (dm<0)=false:=zJ h5
 have q4:=Wt (n.ports[((p:Nat):Int).toNat]'hp0) l.vlan (hn.tagged _ (zE hp0))
 cases hb:Ce (n.ports[((p:Nat):Int).toNat]'hp0) l.vlan with
 | false =>
  rw[hb]at q4
  rw[zC (.inr hb)]at hres
  subst hres
  refine T ?_
  refine C qr F191 ?_
  refine C qn F19 ?_
  refine C q1 F188 ?_
  refine C q2 F189 ?_
  refine C q3 F62 ?_
  refine C q4 F66 ?_
  refine Am 4 (C7 emptyN) E vL ?_
  refine T ?_
  exact D
 | true =>
 rw[hb]at q4
 rw[zA (λ h=>h.elim h5 (by rw[hb];simp))]at hres
 by_cases h6:0≤en
 ·have g6:decide (en≥0)=true:=zL h6
  rw[zC h6]at hres
  subst hres
  refine T ?_
  refine C qr F191 ?_
  refine C qn F19 ?_
  refine C q1 F188 ?_
  refine C q2 F189 ?_
  refine C q3 F62 ?_
  refine C q4 F66 ?_
  refine C q5 F193 ?_
  refine Am 4 (C7 emptyN) E vL ?_
  refine T ?_
  exact D
 have g6:decide (en≥0)=false:=zJ h6
 rw[zA h6]at hres
 by_cases h7:n.statics.length=64
 ·have g7:((n.statics.length:Int) == 64)=true:=by rw[yA];omega
  rw[zC h7]at hres
  subst hres
  refine T ?_
  refine C qr F191 ?_
  refine C qn F19 ?_
  refine C q1 F188 ?_
  refine C q2 F189 ?_
  refine C q3 F62 ?_
  refine C q4 F66 ?_
  refine C q5 F193 ?_
  refine Am 4 (C7 emptyN) E vL ?_
  refine T ?_
  exact D
 have g7:((n.statics.length:Int) == 64)=false:=by rw[zO];omega
 rw[zA h7]at hres
 subst hres
 refine T ?_
 refine C qr F191 ?_
 refine C qn F19 ?_
 refine C q1 F188 ?_
 refine C q2 F189 ?_
 refine C q3 F62 ?_
 refine C q4 F66 ?_
 refine C q5 F193 ?_
 refine X (Ad [(0,901),(1,902),(2,903),(3,904),(4,905),(5,906),(6,907),(7,908)] E F34 qcopy E W E V) ?_
 refine X (Ah Γ.toTy 87 E E E E E (.row E) (.lit (e:=As) (l:=[(⟨l.row,dm,(p:Int),l.mac⟩:Static)]) E E) j_ (by simp only[zM];omega) (by simp only[zM];omega)) ?_
 refine Ai 901 E ?_
 refine Ai 902 E ?_
 refine Ai 903 E ?_
 refine Ai 904 E ?_
 refine Ai 87 E ?_
 refine Ai 906 E ?_
 refine Ai 907 E ?_
 refine Ai 908 E ?_
 exact D
theorem Ak2 (n:Net) (hn:n.Fin) (hr:Ab n=true) (dev port:ByteArray):Sp 192 [Aj n,Dz dev,Dz port] (Aa (endI n dev port)):=cT F192 Tryz.ntmps192 λ F hF=>by
 have q1:=Jc n hn hr dev
 have q2:=Vj n hn hr (Ca n dev) port
 have hres:=endI.eq_1 n dev port
 generalize endI n dev port=res at *
 generalize Sb n (Ca n dev) port=pt at *
 generalize Ca n dev=d at *
 by_cases h:d<0
 ·have g:decide (d<0)=true:=zL h
  rw[zC h]at hres
  subst hres
  refine T ?_
  refine C q1 F188 ?_
  exact D
 ·have g:decide (d<0)=false:=zJ h
  rw[zA h]at hres
  subst hres
  refine T ?_
  refine C q1 F188 ?_
  refine C q2 F189 ?_
  exact D
theorem end_range {n:Net} {dev port:ByteArray} (h:¬ endI n dev port<0):∃ k:Nat,endI n dev port=k∧k<n.ports.length:=by
 unfold endI at h ⊢
 split
 ·rename_i h1;rw[zC h1]at h;omega
 ·rename_i h1;rw[zA h1]at h;exact Jy h
theorem Axp (n:Net) (hn:n.Fin) (l:LineM) (hl:LineW l):Sp 125 [Aj n,A6 l] (.tup [Aj (putLink n l).1,Aa (putLink n l).2]):=cT F125 Tryz.ntmps125 λ F hF=>by
 have qr:=Js l hl
 have qn:=Av n hn
 have qcopy:=Qe n hn
 have hres:=putLink.eq_1 n l
 dsimp only at hres
 have hf:=fitsB.eq_1 n l 3
 generalize putLink n l=res at *
 generalize fitsB n l 3=f at *
 cases h1:(l.kind == 3) with
 | false =>
  have g1:(l.kind != 3)=true:=by rw[bne,h1];rfl
  rw[h1,zT]at hf
  rw[hf,zC rfl]at hres
  subst hres
  refine T ?_
  refine Am 4 (C7 emptyN) E vL ?_
  refine T ?_
  exact D
 | true =>
 have g1:(l.kind != 3)=false:=by rw[bne,h1];rfl
 rw[h1,zS]at hf
 cases h2:C6 l with
 | false =>
  rw[h2]at qr hf
  rw[hf,zT,zC rfl]at hres
  subst hres
  refine T ?_
  refine C qr F191 ?_
  refine Am 4 (C7 emptyN) E vL ?_
  refine T ?_
  exact D
 | true =>
 rw[h2]at qr hf
 cases hr:Ab n with
 | false =>
  rw[hr]at qn hf
  rw[hf,wR,zC rfl]at hres
  subst hres
  refine T ?_
  refine C qr F191 ?_
  refine C qn F19 ?_
  refine Am 4 (C7 emptyN) E vL ?_
  refine T ?_
  exact D
 | true =>
 rw[hr]at qn hf
 rw[hf,zA y_]at hres
 have q1:=Ak2 n hn hr l.dev l.port
 have q2:=Ak2 n hn hr l.peer l.far
 have ra:=@end_range n l.dev l.port
 have rb:=@end_range n l.peer l.far
 have hfl:n.links.length<2147483648:=hn.links
 generalize endI n l.dev l.port=a at *
 generalize endI n l.peer l.far=b at *
 refine T ?_
 refine C qr F191 ?_
 refine C qn F19 ?_
 refine C q1 F192 ?_
 refine C q2 F192 ?_
 refine Xd (Z3 Γ.toTy E E E E E E) ?_
 refine T ?_
 refine Az 2 8 (Aj n) E E E ?_
 refine Az 3 17 (A6 l) E E E ?_
 refine Az 6 2 (.agg [Aa a,Aa b]) E E E ?_
 refine Db (λ j:Nat=>j≤2∧(1≤j→¬ a<0)∧(2≤j→¬ b<0)) (λ j=>[(2,.ref 8 (Aj n) 0),(3,.ref 17 (A6 l) 0),(4,.ptr 1001 0),(6,.ref 2 (.agg [Aa a,Aa b]) 0),(41,.agg [Aa a,Aa b]),(42,Aa j)]) (λ _=>[(1001,.box [.val (.slice none 0 0),.val (.slice none 0 0),.val (.slice none 0 0),.val (.slice none 0 0),.val (.slice none 0 0),.val (.slice none 0 0),.val (.slice none 0 0),.val (.slice none 0 0)])]) (λ j=>2-j) 0 [(1001,4)] ⟨by omega,by omega,by omega⟩ U ?_
 rintro j ⟨hj,ja,jb⟩
 have hc:j=0∨j=1∨j=2:=by omega
 rcases hc with rfl | rfl | rfl
 ·by_cases ka:a<0
  ·have g1:decide (a<0)=true:=zL ka
   rw[zC (.inl ka)]at hres
   subst hres
   refine T ?_
   refine X (Cm (k:=.int .i64) Γ.toTy E E E Tryz.underlying3 E E j_ j_ E) ?_
   refine Am 1001 (C7 emptyN) E vL ?_
   refine T ?_
   exact D
  ·have g1:decide (a<0)=false:=zJ ka
   refine T ?_
   refine X (Cm (k:=.int .i64) Γ.toTy E E E Tryz.underlying3 E E j_ j_ E) ?_
   exact Bd 1 [] ⟨by omega,λ _=>ka,by omega⟩ q_ U
 ·have ka:=ja q_
  by_cases kb:b<0
  ·have g1:decide (b<0)=true:=zL kb
   rw[zC (.inr kb)]at hres
   subst hres
   refine T ?_
   refine X (Cm (k:=.int .i64) Γ.toTy E E E Tryz.underlying3 E E j_ j_ E) ?_
   refine Am 1001 (C7 emptyN) E vL ?_
   refine T ?_
   exact D
  ·have g1:decide (b<0)=false:=zJ kb
   refine T ?_
   refine X (Cm (k:=.int .i64) Γ.toTy E E E Tryz.underlying3 E E j_ j_ E) ?_
   exact Bd 2 [] ⟨by omega,λ _=>ka,λ _=>kb⟩ q_ U
 ·have ka:=ja q_
  have kb:=jb q_
  obtain ⟨a,rfl,hal⟩:=ra ka
  obtain ⟨b,rfl,hbl⟩:=rb kb
  rw[zA (λ h=>h.elim ka kb)]at hres
  clear ja jb ra rb hj
  have ha0:((a:Nat):Int).toNat<n.ports.length:=hal
  have hb0:((b:Nat):Int).toNat<n.ports.length:=hbl
  have hna:nth n.ports (a:Int)=n.ports[((a:Nat):Int).toNat]'ha0:=Ae ha0
  have hnb:nth n.ports (b:Int)=n.ports[((b:Nat):Int).toNat]'hb0:=Ae hb0
  rw[hna,hnb]at hres
  by_cases k1:(n.ports[((a:Nat):Int).toNat]'ha0).dev=(n.ports[((b:Nat):Int).toNat]'hb0).dev
  ·have g1:((n.ports[((a:Nat):Int).toNat]'ha0).dev == (n.ports[((b:Nat):Int).toNat]'hb0).dev)=true:=by rw[yA];exact k1
   rw[zC (.inl k1)]at hres
   subst hres
   refine T ?_
   refine Am 1001 (C7 emptyN) E vL ?_
   refine T ?_
   exact D
  have g1:((n.ports[((a:Nat):Int).toNat]'ha0).dev == (n.ports[((b:Nat):Int).toNat]'hb0).dev)=false:=by rw[zO];exact k1
  by_cases k2:0≤(n.ports[((a:Nat):Int).toNat]'ha0).link
  ·have g2:decide ((n.ports[((a:Nat):Int).toNat]'ha0).link≥0)=true:=zL k2
   rw[zC (.inr (.inl k2))]at hres
   subst hres
   refine T ?_
   refine Am 1001 (C7 emptyN) E vL ?_
   refine T ?_
   exact D
  have g2:decide ((n.ports[((a:Nat):Int).toNat]'ha0).link≥0)=false:=zJ k2
  by_cases k3:0≤(n.ports[((b:Nat):Int).toNat]'hb0).link
  ·have g3:decide ((n.ports[((b:Nat):Int).toNat]'hb0).link≥0)=true:=zL k3
   rw[zC (.inr (.inr k3))]at hres
   subst hres
   refine T ?_
   refine Am 1001 (C7 emptyN) E vL ?_
   refine T ?_
   exact D
  have g3:decide ((n.ports[((b:Nat):Int).toNat]'hb0).link≥0)=false:=zJ k3
  rw[zA (by rintro (h | h | h);exact k1 h;exact k2 h;exact k3 h)]at hres
  by_cases k4:n.links.length=20
  ·have g4:((n.links.length:Int) == 20)=true:=by rw[yA];omega
   rw[zC k4]at hres
   subst hres
   refine T ?_
   refine Am 1001 (C7 emptyN) E vL ?_
   refine T ?_
   exact D
  have g4:((n.links.length:Int) == 20)=false:=by rw[zO];omega
  rw[zA k4]at hres
  have t1:Ex n.ports (a:Int) (n.links.length:Int)=n.ports.set ((a:Nat):Int).toNat (⟨(n.ports[((a:Nat):Int).toNat]'ha0).row,(n.ports[((a:Nat):Int).toNat]'ha0).dev,(n.ports[((a:Nat):Int).toNat]'ha0).native,(n.ports[((a:Nat):Int).toNat]'ha0).cost,(n.links.length:Int),(n.ports[((a:Nat):Int).toNat]'ha0).name,(n.ports[((a:Nat):Int).toNat]'ha0).tagged⟩:Port):=by rw[Ex,hna]
  have l1:(Ex n.ports (a:Int) (n.links.length:Int)).length=n.ports.length:=by rw[Ex,yE]
  have hne:n.ports≠[]:=λ e=>by rw[e]at hal;cases hal
  obtain ⟨P1,hP1⟩:∃ P1,Ex n.ports (a:Int) (n.links.length:Int)=P1:=⟨_,rfl⟩
  rw[hP1]at hres t1 l1
  have hb1:((b:Nat):Int).toNat<P1.length:=by rw[l1];exact hb0
  have hn1:nth P1 (b:Int)=P1[((b:Nat):Int).toNat]'hb1:=Ae hb1
  have hne1:P1≠[]:=λ e=>by rw[e]at hb1;cases hb1
  have t2:Ex P1 (b:Int) (n.links.length:Int)=P1.set ((b:Nat):Int).toNat (⟨(P1[((b:Nat):Int).toNat]'hb1).row,(P1[((b:Nat):Int).toNat]'hb1).dev,(P1[((b:Nat):Int).toNat]'hb1).native,(P1[((b:Nat):Int).toNat]'hb1).cost,(n.links.length:Int),(P1[((b:Nat):Int).toNat]'hb1).name,(P1[((b:Nat):Int).toNat]'hb1).tagged⟩:Port):=by rw[Ex,hn1]
  obtain ⟨P2,hP2⟩:∃ P2,Ex P1 (b:Int) (n.links.length:Int)=P2:=⟨_,rfl⟩
  rw[hP2]at hres t2
  subst hres
  refine T ?_
  refine X (Ad [(0,901),(1,902),(2,903),(3,904),(4,905),(5,906),(6,907),(7,908)] E F34 qcopy E W E V) ?_
  refine Db (λ j:Nat=>j≤2) (λ j=>[(3,.ref 17 (A6 l) 0),(4,.ptr 1001 0),(6,.ref 2 (.agg [Aa (a:Int),Aa (b:Int)]) 0),(11,.ptr 1002 0),(86,.agg [Aa (a:Int),Aa (b:Int)]),(87,Aa j)]) (λ j=>[(1001,.box [.val (.slice none 0 0),.val (.slice none 0 0),.val (.slice none 0 0),.val (.slice none 0 0),.val (.slice none 0 0),.val (.slice none 0 0),.val (.slice none 0 0),.val (.slice none 0 0)]),(1002,.box [.osl 901,.osl 902,.osl 903,.osl 904,.osl 905,.osl 906,.osl 907,.osl 908]),(901,.row 5 Aq n.devices),(902,.row 7 Aw (if j=0 then n.ports else if j=1 then P1 else P2)),(903,.row 3 Br n.links),(904,.row 6 An n.domains),(905,.row 4 As n.statics),(906,.row 4 A3 n.floods),(907,.row 5 B5 n.vrfs),(908,.row 5 By n.irbs)]) (λ j=>2-j) 0 [(1002,11)] q_ U ?_
  intro j hj
  have hc:j=0∨j=1∨j=2:=by omega
  rcases hc with rfl | rfl | rfl
  ·rw[zC rfl]
   refine T ?_
   refine X (Cm (k:=.int .i64) Γ.toTy E E E Tryz.underlying3 E E j_ j_ E) ?_
   refine T ?_
   refine⟨hne,?_⟩
   refine T ?_
   refine⟨(⟨(n.ports[((a:Nat):Int).toNat]'ha0).row,(n.ports[((a:Nat):Int).toNat]'ha0).dev,(n.ports[((a:Nat):Int).toNat]'ha0).native,(n.ports[((a:Nat):Int).toNat]'ha0).cost,(n.links.length:Int),(n.ports[((a:Nat):Int).toNat]'ha0).name,(n.ports[((a:Nat):Int).toNat]'ha0).tagged⟩:Port),E,E,?_⟩
   refine T ?_
   exact Bd 1 [] q_ q_ ⟨⟨E,E,E,E,E,E,E,E,E,E,E,E,Y⟩,⟨.inl E,E,.inl E,E,.inl E,E,.inl (zD (Ob.row 7 Aw) t1),E,.inl E,E,.inl E,E,.inl E,E,.inl E,E,.inl E,E,.inl E,E,Y⟩,E,E⟩
  ·rw[zA j_,zC rfl]
   refine T ?_
   refine X (Cm (k:=.int .i64) Γ.toTy E E E Tryz.underlying3 E E j_ j_ E) ?_
   refine T ?_
   refine⟨hne1,?_⟩
   refine T ?_
   refine⟨(⟨(P1[((b:Nat):Int).toNat]'hb1).row,(P1[((b:Nat):Int).toNat]'hb1).dev,(P1[((b:Nat):Int).toNat]'hb1).native,(P1[((b:Nat):Int).toNat]'hb1).cost,(n.links.length:Int),(P1[((b:Nat):Int).toNat]'hb1).name,(P1[((b:Nat):Int).toNat]'hb1).tagged⟩:Port),E,E,?_⟩
   refine T ?_
   exact Bd 2 [] q_ q_ ⟨⟨E,E,E,E,E,E,E,E,E,E,E,E,Y⟩,⟨.inl E,E,.inl E,E,.inl E,E,.inl (zD (Ob.row 7 Aw) t2),E,.inl E,E,.inl E,E,.inl E,E,.inl E,E,.inl E,E,.inl E,E,Y⟩,E,E⟩
  ·rw[zA j_,zA j_]
   refine T ?_
   refine X (Ah Γ.toTy 109 E E E E E (.row E) (.lit (e:=Br) (l:=[(⟨l.row,(a:Int),(b:Int)⟩:Link)]) E E) j_ (by simp only[zM];omega) (by simp only[zM];omega)) ?_
   refine T ?_
   refine Ai 901 E ?_
   refine Ai 902 E ?_
   refine Ai 109 E ?_
   refine Ai 904 E ?_
   refine Ai 905 E ?_
   refine Ai 906 E ?_
   refine Ai 907 E ?_
   refine Ai 908 E ?_
   exact D
abbrev Apv (n:Net):Obs:=[(900,.box [.osl 901,.osl 902,.osl 903,.osl 904,.osl 905,.osl 906,.osl 907,.osl 908]),(901,.row 5 Aq n.devices),(902,.row 7 Aw n.ports),(903,.row 3 Br n.links),(904,.row 6 An n.domains),(905,.row 4 As n.statics),(906,.row 4 A3 n.floods),(907,.row 5 B5 n.vrfs),(908,.row 5 By n.irbs)]
theorem Zs (n:Net) (hn:n.Fin) (l:LineM) (hl:LineW l) (k:Int) (h:fitsB n l k=true):Sq 185 [Aj n,A6 l,Aa k] [] (.tup [.ptr 900 0,Ac true]) (Apv n):=cT F185 Tryz.ntmps185 λ F hF=>by
 have qr:=Js l hl
 have qn:=Av n hn
 have qcopy:=Qe n hn
 unfold fitsB at h
 simp only[zB]at h
 obtain ⟨h1,h2,h3⟩:=h
 have g1:(l.kind != k)=false:=by rw[bne,h1];rfl
 rw[h2]at qr
 rw[h3]at qn
 refine T ?_
 refine C qr F191 ?_
 refine C qn F19 ?_
 refine X (Ad [(0,901),(1,902),(2,903),(3,904),(4,905),(5,906),(6,907),(7,908)] E F34 qcopy E W E V) ?_
 exact done E (.cons .tmp (.cons .tmp .nil)) [(900,25)] (Apv n) (λ _ h=>h) E E U
theorem Ul (n:Net) (hn:n.Fin) (l:LineM) (hl:LineW l) (k:Int) (h:fitsB n l k=false):Sp 185 [Aj n,A6 l,Aa k] (.tup [.val (.pointer none),Ac false]):=cT F185 Tryz.ntmps185 λ F hF=>by
 have qr:=Js l hl
 have qn:=Av n hn
 unfold fitsB at h
 cases h1:(l.kind == k) with
 | false =>
  have g1:(l.kind != k)=true:=by rw[bne,h1];rfl
  refine T ?_
  exact D
 | true =>
 have g1:(l.kind != k)=false:=by rw[bne,h1];rfl
 rw[h1,zS]at h
 cases h2:C6 l with
 | false =>
  rw[h2]at qr
  refine T ?_
  refine C qr F191 ?_
  exact D
 | true =>
 rw[h2]at qr h
 rw[zS]at h
 rw[h]at qn
 refine T ?_
 refine C qr F191 ?_
 refine C qn F19 ?_
 exact D
theorem Awu (l:LineM) (d:Device):Sp 187 [Aq d,.ref 17 (A6 l) 0] (Ac (d.name == l.dev || d.mac == l.mac)):=cT F187 Tryz.ntmps187 λ F hF=>by
 cases h:(d.name == l.dev)
 ·refine T ?_
  exact D
 ·refine T ?_
  exact D
theorem Apw (n:Net) (hn:n.Fin) (l:LineM) (hl:LineW l):Sp 123 [Aj n,A6 l] (.tup [Aj (putDevice n l).1,Aa (putDevice n l).2]):=cT F123 Tryz.ntmps123 λ F hF=>by
 have hres:=putDevice.eq_1 n l
 generalize putDevice n l=res at *
 cases hf:fitsB n l 1 with
 | false =>
  have q1:=Ul n hn l hl 1 hf
  rw[hf,zC rfl]at hres
  subst hres
  refine T ?_
  refine C q1 F185 ?_
  refine Am 4 (C7 emptyN) E vL ?_
  refine T ?_
  exact D
 | true =>
 have q1:=Zs n hn l hl 1 hf
 rw[hf,zA y_]at hres
 have qc:=Tb n.devices (λ d=>d.name == l.dev || d.mac == l.mac) 187 [] [.ref 17 (A6 l) 0] rfl (λ d _=>⟨⟨_,_,F187⟩,Awu l d⟩) hn.devices
 rw[Kg]at qc
 have hfl:n.devices.length<2147483648:=hn.devices
 generalize n.devices.any (λ d=>d.name == l.dev || d.mac == l.mac)=cl at *
 cases cl with
 | true =>
  rw[zC rfl]at hres
  subst hres
  refine T ?_
  refine X (Ad [] E F185 q1 E W E V) ?_
  refine Az 3 17 (A6 l) E E E ?_
  refine X (Ht [901] E F186 qc (.cons (.row E E) (.cons (.refl _) .nil)) E E) ?_
  refine Am 4 (C7 emptyN) E vL ?_
  refine T ?_
  exact D
 | false =>
 rw[zA y_]at hres
 by_cases h5:n.devices.length=8
 ·have g5:((n.devices.length:Int) == 8)=true:=by rw[yA];omega
  rw[zC h5]at hres
  subst hres
  refine T ?_
  refine X (Ad [] E F185 q1 E W E V) ?_
  refine Az 3 17 (A6 l) E E E ?_
  refine X (Ht [901] E F186 qc (.cons (.row E E) (.cons (.refl _) .nil)) E E) ?_
  refine Am 4 (C7 emptyN) E vL ?_
  refine T ?_
  exact D
 have g5:((n.devices.length:Int) == 8)=false:=by rw[zO];omega
 rw[zA h5]at hres
 subst hres
 refine T ?_
 refine X (Ad [] E F185 q1 E W E V) ?_
 refine Az 3 17 (A6 l) E E E ?_
 refine X (Ht [901] E F186 qc (.cons (.row E E) (.cons (.refl _) .nil)) E E) ?_
 refine T ?_
 refine Xd (Ah Γ.toTy 52 E E E E E (.row E) (.lit (e:=Aq) (l:=[(⟨l.row,l.num,l.dev,l.mac,0⟩:Device)]) E E) j_ (by simp only[zM];omega) (by simp only[zM];omega)) ?_
 refine T ?_
 refine Ai 52 E ?_
 refine Ai 902 E ?_
 refine Ai 903 E ?_
 refine Ai 904 E ?_
 refine Ai 905 E ?_
 refine Ai 906 E ?_
 refine Ai 907 E ?_
 refine Ai 908 E ?_
 exact D
end Go.Sy.YtljngfegfclkpaaGreat
namespace Go.Sy
theorem Aev {P:Program} (Γ:Ty P) {o:Oper} {s:SS} (d q:Nat) {α:Type} {e:α→SV} {l:List α} (z:α) {sv:SV} {t:TypeId} {ti:TI} {et:TypeId} {sz eb:Nat} {ez:List Value} {x y:Operand} {k:Option Nat}
  (h:o.op=.call ⟨.builtin .append,#[x,y],#[t,t]⟩) (hd:s.h d=.fresh) (ht:Γ.get t=some ti) (hk:ti.k=.slice et sz eb ez) (hez:ez.length=sz)
  (hb:BaseT s sz e (ev s x) k l) (hy:ev s y=.osl q) (hq:s.h q=.lit sz [sv]) (hv:∀ (M:Nat→Prop) (w:World) (v:Value),RdD M w sv v→RdD M w (e z) v) (hkk:∀ j,k=some j→j≠d) (hbytes:(l.length+1) * eb≤140737488355328) (h63:l.length+1≤9223372036854775807) :
  Good P o s ⟨.osl d,[q],Qk k d (.row sz e (l++[z]))⟩:=by
 obtain ⟨f,hb,hf⟩:=hb.base
 have hs:AppSrc s sz (ev s y) [q] 1 (Aek [sv]):=by
  rw[hy]
  exact AppSrc.lit (sz:=sz) hq
 refine Z5 Γ h hd ht hk hez hb hs hkk hbytes h63 λ κ w hr=>?_
 rcases hr with ⟨_,h2⟩ | ⟨b,cap,cs,T,fr,e1,e2,e3,e4,e5,e6⟩
 ·omega
 ·refine .inr ⟨b,cap,cs,T,fr,by simpa using e1,e2,e3,e4,by simpa using e5,λ i x hx=>?_⟩
  obtain ⟨hi,rfl⟩:=hx
  have hi2:i<l.length+1:=by simpa using hi
  by_cases hl:i<l.length
  ·have hx:rowF e l i ((l++[z])[i] |> e):=⟨hl,by rw[yL hl]⟩
   obtain ⟨a1,a2⟩:=e6 i _ (.inl ⟨hl,hf i _ hx⟩)
   exact⟨by simpa using a1,a2⟩
  ·have hie:i=l.length:=by omega
   subst hie
   obtain ⟨a1,u,hu,hrest⟩:=e6 l.length sv (.inr ⟨zZ _,by rw[uU];rfl⟩)
   refine⟨by simp,u,?_,hrest⟩
   have:=hv _ _ u hu
   simpa using this
end Go.Sy
namespace Go.Sy.YtljngfegfclkpaaGreat
open Go.Proofs
attribute [local irreducible] Go.Sy.G Go.Sy.DR
set_option maxRecDepth 100000
set_option maxHeartbeats 4000000
theorem Xm (dev v:Int) (d:Domain):Sp 256 [An d,.ref 1 (Aa dev) 0,.ref 1 (Aa v) 0] (Ac (d.dev == dev && d.vlan == v)):=cT F256 Tryz.ntmps256 λ F hF=>by
 cases h:(d.dev == dev)
 ·refine T ?_
  exact D
 ·refine T ?_
  exact D
abbrev A1s (n:Net) (ds:List Domain):Obs:=[(900,.box [.osl 901,.osl 902,.osl 903,.osl 1904,.osl 905,.osl 906,.osl 907,.osl 908]),(901,.row 5 Aq n.devices),(902,.row 7 Aw n.ports),(903,.row 3 Br n.links),(904,.non),(1904,.row 6 An ds),(905,.row 4 As n.statics),(906,.row 4 A3 n.floods),(907,.row 5 B5 n.vrfs),(908,.row 5 By n.irbs)]
theorem L1 (n:Net) (hl:n.domains.length<2147483648) (dev v:Int) (hc:¬ (0<v∧n.domains.any (λ d=>d.dev == dev && d.vlan == v)=false)):Sq 190 [.ptr 900 0,Aa dev,Aa v] (Apv n) (.tup []) (Apv n):=cT F190 Tryz.ntmps190 λ F hF=>by
 have qc:=Kk n.domains (λ d=>d.dev == dev && d.vlan == v) 256 [] [.ref 1 (Aa dev) 0,.ref 1 (Aa v) 0] rfl (λ d _=>⟨⟨_,_,F256⟩,Xm dev v d⟩) hl
 rw[Kg]at qc
 generalize n.domains.any (λ d=>d.dev == dev && d.vlan == v)=cl at *
 by_cases h1:0<v
 ·have g1:decide (v>0)=true:=zL h1
  cases cl with
  | true =>
   refine T ?_
   refine Az 4 1 (Aa dev) E E E ?_
   refine Az 5 1 (Aa v) E E E ?_
   refine X (Ht [904] E F255 qc (.cons (.row E E) (.cons (.refl _) .nil)) E E) ?_
   exact A4 E .nil [] (Apv n) (λ _ h=>h) E E U
  | false=>exact zW ⟨h1,rfl⟩ hc
 ·have g1:decide (v>0)=false:=zJ h1
  refine T ?_
  exact A4 E .nil [] (Apv n) (λ _ h=>h) E E U
theorem Kr (n:Net) (hl:n.domains.length<2147483648) (dev v:Int) (hc:0<v∧n.domains.any (λ d=>d.dev == dev && d.vlan == v)=false):Sq 190 [.ptr 900 0,Aa dev,Aa v] (Apv n) (.tup []) (A1s n (n.domains++[(⟨dev,v,0,-1,0,[]⟩:Domain)])):=cT F190 Tryz.ntmps190 λ F hF=>by
 have qc:=Kk n.domains (λ d=>d.dev == dev && d.vlan == v) 256 [] [.ref 1 (Aa dev) 0,.ref 1 (Aa v) 0] rfl (λ d _=>⟨⟨_,_,F256⟩,Xm dev v d⟩) hl
 rw[Kg,hc.2]at qc
 have g1:decide (v>0)=true:=zL hc.1
 refine T ?_
 refine Az 4 1 (Aa dev) E E E ?_
 refine Az 5 1 (Aa v) E E E ?_
 refine X (Ht [904] E F255 qc (.cons (.row E E) (.cons (.refl _) .nil)) E E) ?_
 refine T ?_
 refine Xd (Aev Γ.toTy 28 27 (⟨dev,v,0,-1,0,[]⟩:Domain) E E E E E (.row E) E E (λ M w u hu=>Aux (⟨dev,v,0,-1,0,[]⟩:Domain) E hu) j_ q_ q_) ?_
 refine T ?_
 exact A4 E .nil [(1904,28)] (A1s n (n.domains++[(⟨dev,v,0,-1,0,[]⟩:Domain)])) (λ _ h=>h) E E U
theorem Za {dev v:Int} {ds:List Domain} (h:¬ (0<v∧ds.any (λ d=>d.dev == dev && d.vlan == v)=false)):Ck dev ds v=ds:=by rw[Ck,zA h]
theorem Vx {dev v:Int} {ds:List Domain} (h:0<v∧ds.any (λ d=>d.dev == dev && d.vlan == v)=false):Ck dev ds v=ds++[(⟨dev,v,0,-1,0,[]⟩:Domain)]:=by rw[Ck,zC h]
theorem X4 (dev:Int):∀ (l:List Int) (ds:List Domain),(A7 dev ds l).length≤ds.length+l.length
 | [],ds=>by simp[A7]
 | v::l,ds=>by
  have ih:=X4 dev l (Ck dev ds v)
  have h1:(Ck dev ds v).length≤ds.length+1:=by
   unfold Ck
   split<;>simp
  have e:A7 dev ds (v::l)=A7 dev (Ck dev ds v) l:=rfl
  rw[e,yJ];omega
theorem X3 (dev:Int) (ds:List Domain) (l:List Int) (v:Int):A7 dev ds (l++[v])=Ck dev (A7 dev ds l) v:=by
 unfold A7
 rw[xB];rfl
theorem Awo (n:Net) (hn:n.Fin) (l:LineM) (hl:LineW l):Sp 124 [Aj n,A6 l] (.tup [Aj (putPort n l).1,Aa (putPort n l).2]):=cT F124 Tryz.ntmps124 λ F hF=>by
 have hres:=putPort.eq_1 n l
 generalize putPort n l=res at *
 cases hf:fitsB n l 2 with
 | false =>
  have q1:=Ul n hn l hl 2 hf
  rw[hf,zC rfl]at hres
  subst hres
  refine T ?_
  refine C q1 F185 ?_
  refine Am 4 (C7 emptyN) E vL ?_
  refine T ?_
  exact D
 | true =>
 have q1:=Zs n hn l hl 2 hf
 have hr:Ab n=true:=by
  unfold fitsB at hf
  simp only[zB]at hf
  exact hf.2.2
 rw[hf,zA y_]at hres
 have q2:=Jc n hn hr l.dev
 have q3:=Vj n hn hr (Ca n l.dev) l.port
 have hlt:=hl.fin.t
 have q5:=D7 l.tagged q_
 have hfl:n.ports.length≤40∧n.domains.length≤48:=⟨(Agh hr).2.1,(Agh hr).2.2.2.1⟩
 generalize Sb n (Ca n l.dev) l.port=pt at *
 generalize Ca n l.dev=dv at *
 by_cases h3:dv<0
 ·have g3:decide (dv<0)=true:=zL h3
  rw[zC h3]at hres
  subst hres
  refine T ?_
  refine X (Ad [] E F185 q1 E W E V) ?_
  refine C q2 F188 ?_
  refine Am 4 (C7 emptyN) E vL ?_
  refine T ?_
  exact D
 have g3:decide (dv<0)=false:=zJ h3
 rw[zA h3]at hres
 by_cases h4:0≤pt
 ·have g4:decide (pt≥0)=true:=zL h4
  rw[zC h4]at hres
  subst hres
  refine T ?_
  refine X (Ad [] E F185 q1 E W E V) ?_
  refine C q2 F188 ?_
  refine C q3 F189 ?_
  refine Am 4 (C7 emptyN) E vL ?_
  refine T ?_
  exact D
 have g4:decide (pt≥0)=false:=zJ h4
 rw[zA h4]at hres
 by_cases h5:n.ports.length=40
 ·have g5:((n.ports.length:Int) == 40)=true:=by rw[yA];omega
  rw[zC h5]at hres
  subst hres
  refine T ?_
  refine X (Ad [] E F185 q1 E W E V) ?_
  refine C q2 F188 ?_
  refine C q3 F189 ?_
  refine Am 4 (C7 emptyN) E vL ?_
  refine T ?_
  exact D
 have g5:((n.ports.length:Int) == 40)=false:=by rw[zO];omega
 rw[zA h5]at hres
 have hd1l:(Ck dv n.domains l.vlan).length≤49:=by unfold Ck;split<;>(try simp)<;>omega
 have hlenB:∀ j,(A7 dv (Ck dv n.domains l.vlan) (l.tagged.take j)).length≤200000:=λ j=>by
  have h1:=X4 dv (l.tagged.take j) (Ck dv n.domains l.vlan)
  rw[zU]at h1
  omega
 by_cases hc:0<l.vlan∧n.domains.any (λ d=>d.dev == dv && d.vlan == l.vlan)=false
 ·have q6:=Kr ({ n with ports:=n.ports++[(⟨l.row,dv,l.vlan,l.cost,-1,l.port,l.tagged⟩:Port)] }:Net) (by show n.domains.length<_;omega) dv l.vlan hc
  obtain ⟨d1,hd1⟩:∃ d1,Ck dv n.domains l.vlan=d1:=⟨_,rfl⟩
  have hlenA:=hlenB
  rw[hd1]at hlenA
  have hde:=hd1.symm.trans (Vx hc)
  rw[← hde]at q6
  clear hlenB hde hc hd1l
  refine T ?_
  refine X (Ad [] E F185 q1 E W E V) ?_
  refine C q2 F188 ?_
  refine C q3 F189 ?_
  refine C q5 F90 ?_
  refine Xd (Ah Γ.toTy 66 E E E E E (.row E) (.lit (e:=Aw) (l:=[(⟨l.row,dv,l.vlan,l.cost,-1,l.port,l.tagged⟩:Port)]) E E) j_ (by simp only[zM];omega) (by simp only[zM];omega)) ?_
  refine T ?_
  refine X (Bz [(902,66),(1904,1101)] (Cb E E F190) q6 E W E V) ?_
  refine T ?_
  refine Db (λ j:Nat=>j≤l.tagged.length) (λ j=>[(4,.ptr 1001 0),(6,.ptr 900 0),(8,Aa dv),(9,.clo (.func 190) [] []),(77,.sl 1 Aa l.tagged),(78,Aa l.tagged.length),(79,Aa j)]) (λ j=>[(1001,.box [.val (.slice none 0 0),.val (.slice none 0 0),.val (.slice none 0 0),.val (.slice none 0 0),.val (.slice none 0 0),.val (.slice none 0 0),.val (.slice none 0 0),.val (.slice none 0 0)]),(900,.box [.osl 901,.osl 1002,.osl 903,.osl 1004,.osl 905,.osl 906,.osl 907,.osl 908]),(901,.row 5 Aq n.devices),(1002,.row 7 Aw (n.ports++[(⟨l.row,dv,l.vlan,l.cost,-1,l.port,l.tagged⟩:Port)])),(903,.row 3 Br n.links),(1004,.row 6 An (A7 dv d1 (l.tagged.take j))),(905,.row 4 As n.statics),(906,.row 4 A3 n.floods),(907,.row 5 B5 n.vrfs),(908,.row 5 By n.irbs)]) (λ j=>l.tagged.length-j) 0 [(1001,4),(1002,66),(1004,1101)] q_ U ?_
  intro j hj
  have hlen:=hlenA j
  refine T ?_
  constructor<;>intro h
  ·have hlt:j<l.tagged.length:=qA h
   have hlt0:((j:Nat):Int).toNat<l.tagged.length:=hlt
   clear h
   have hsn:A7 dv d1 (l.tagged.take (j+1))=Ck dv (A7 dv d1 (l.tagged.take j)) (l.tagged[((j:Nat):Int).toNat]'hlt0):=by
    rw[zY hlt,X3];rfl
   by_cases hc:0<(l.tagged[((j:Nat):Int).toNat]'hlt0)∧(A7 dv d1 (l.tagged.take j)).any (λ d=>d.dev == dv && d.vlan == (l.tagged[((j:Nat):Int).toNat]'hlt0))=false
   ·have q:=Kr ({ n with ports:=n.ports++[(⟨l.row,dv,l.vlan,l.cost,-1,l.port,l.tagged⟩:Port)],domains:=A7 dv d1 (l.tagged.take j) }:Net) (by show (A7 dv d1 (l.tagged.take j)).length<_;omega) dv (l.tagged[((j:Nat):Int).toNat]'hlt0) hc
    rw[Vx hc]at hsn
    refine T ?_
    refine X (Bz [(902,1002),(904,1004),(1904,1102)] (Cb E E F190) q E W E V) ?_
    exact Bd (j+1) [(1004,1102)] hlt q_ ⟨⟨E,E,E,E,E,E,E,E,E,E,E,E,E,E,Y⟩,⟨.inl E,E,.inl E,E,.inl E,E,.inl E,E,.inl E,E,.inl (zD (Ob.row 6 An) hsn),E,.inl E,E,.inl E,E,.inl E,E,.inl E,E,Y⟩,E,E⟩
   ·have q:=L1 ({ n with ports:=n.ports++[(⟨l.row,dv,l.vlan,l.cost,-1,l.port,l.tagged⟩:Port)],domains:=A7 dv d1 (l.tagged.take j) }:Net) (by show (A7 dv d1 (l.tagged.take j)).length<_;omega) dv (l.tagged[((j:Nat):Int).toNat]'hlt0) hc
    rw[Za hc]at hsn
    refine T ?_
    refine X (Bz [(902,1002),(904,1004)] (Cb E E F190) q E W E V) ?_
    exact Bd (j+1) [] hlt q_ ⟨⟨E,E,E,E,E,E,E,E,E,E,E,E,E,E,Y⟩,⟨.inl E,E,.inl E,E,.inl E,E,.inl E,E,.inl E,E,.inl (zD (Ob.row 6 An) hsn),E,.inl E,E,.inl E,E,.inl E,E,.inl E,E,Y⟩,E,E⟩
  ·have hje:j=l.tagged.length:=qB h
   clear h
   rw[hje,yG]
   have hfull:A7 dv n.domains (l.vlan::l.tagged)=A7 dv d1 l.tagged:=(show A7 dv n.domains (l.vlan::l.tagged)=A7 dv (Ck dv n.domains l.vlan) l.tagged from rfl).trans (by rw[hd1])
   rw[hfull]at hres
   by_cases h9:48<(A7 dv d1 l.tagged).length
   ·have g9:decide (((A7 dv d1 l.tagged).length:Int)>48)=true:=zL q_
    rw[zC h9]at hres
    subst hres
    refine T ?_
    refine Am 1001 (C7 emptyN) E vL ?_
    refine T ?_
    exact D
   ·have g9:decide (((A7 dv d1 l.tagged).length:Int)>48)=false:=zJ q_
    rw[zA h9]at hres
    subst hres
    refine T ?_
    refine Ai 901 E ?_
    refine Ai 1002 E ?_
    refine Ai 903 E ?_
    refine Ai 1004 E ?_
    refine Ai 905 E ?_
    refine Ai 906 E ?_
    refine Ai 907 E ?_
    refine Ai 908 E ?_
    exact D
 ·have q6:=L1 ({ n with ports:=n.ports++[(⟨l.row,dv,l.vlan,l.cost,-1,l.port,l.tagged⟩:Port)] }:Net) (by show n.domains.length<_;omega) dv l.vlan hc
  have hd1:Ck dv n.domains l.vlan=n.domains:=Za hc
  have hlenA:=hlenB
  rw[hd1]at hlenA
  clear hlenB hc hd1l
  refine T ?_
  refine X (Ad [] E F185 q1 E W E V) ?_
  refine C q2 F188 ?_
  refine C q3 F189 ?_
  refine C q5 F90 ?_
  refine Xd (Ah Γ.toTy 66 E E E E E (.row E) (.lit (e:=Aw) (l:=[(⟨l.row,dv,l.vlan,l.cost,-1,l.port,l.tagged⟩:Port)]) E E) j_ (by simp only[zM];omega) (by simp only[zM];omega)) ?_
  refine T ?_
  refine X (Bz [(902,66)] (Cb E E F190) q6 E W E V) ?_
  refine T ?_
  refine Db (λ j:Nat=>j≤l.tagged.length) (λ j=>[(4,.ptr 1001 0),(6,.ptr 900 0),(8,Aa dv),(9,.clo (.func 190) [] []),(77,.sl 1 Aa l.tagged),(78,Aa l.tagged.length),(79,Aa j)]) (λ j=>[(1001,.box [.val (.slice none 0 0),.val (.slice none 0 0),.val (.slice none 0 0),.val (.slice none 0 0),.val (.slice none 0 0),.val (.slice none 0 0),.val (.slice none 0 0),.val (.slice none 0 0)]),(900,.box [.osl 901,.osl 1002,.osl 903,.osl 1004,.osl 905,.osl 906,.osl 907,.osl 908]),(901,.row 5 Aq n.devices),(1002,.row 7 Aw (n.ports++[(⟨l.row,dv,l.vlan,l.cost,-1,l.port,l.tagged⟩:Port)])),(903,.row 3 Br n.links),(1004,.row 6 An (A7 dv n.domains (l.tagged.take j))),(905,.row 4 As n.statics),(906,.row 4 A3 n.floods),(907,.row 5 B5 n.vrfs),(908,.row 5 By n.irbs)]) (λ j=>l.tagged.length-j) 0 [(1001,4),(1002,66),(1004,904)] q_ U ?_
  intro j hj
  have hlen:=hlenA j
  refine T ?_
  constructor<;>intro h
  ·have hlt:j<l.tagged.length:=qA h
   have hlt0:((j:Nat):Int).toNat<l.tagged.length:=hlt
   clear h
   have hsn:A7 dv n.domains (l.tagged.take (j+1))=Ck dv (A7 dv n.domains (l.tagged.take j)) (l.tagged[((j:Nat):Int).toNat]'hlt0):=by
    rw[zY hlt,X3];rfl
   by_cases hc:0<(l.tagged[((j:Nat):Int).toNat]'hlt0)∧(A7 dv n.domains (l.tagged.take j)).any (λ d=>d.dev == dv && d.vlan == (l.tagged[((j:Nat):Int).toNat]'hlt0))=false
   ·have q:=Kr ({ n with ports:=n.ports++[(⟨l.row,dv,l.vlan,l.cost,-1,l.port,l.tagged⟩:Port)],domains:=A7 dv n.domains (l.tagged.take j) }:Net) (by show (A7 dv n.domains (l.tagged.take j)).length<_;omega) dv (l.tagged[((j:Nat):Int).toNat]'hlt0) hc
    rw[Vx hc]at hsn
    refine T ?_
    refine X (Bz [(902,1002),(904,1004),(1904,1102)] (Cb E E F190) q E W E V) ?_
    exact Bd (j+1) [(1004,1102)] hlt q_ ⟨⟨E,E,E,E,E,E,E,E,E,E,E,E,E,E,Y⟩,⟨.inl E,E,.inl E,E,.inl E,E,.inl E,E,.inl E,E,.inl (zD (Ob.row 6 An) hsn),E,.inl E,E,.inl E,E,.inl E,E,.inl E,E,Y⟩,E,E⟩
   ·have q:=L1 ({ n with ports:=n.ports++[(⟨l.row,dv,l.vlan,l.cost,-1,l.port,l.tagged⟩:Port)],domains:=A7 dv n.domains (l.tagged.take j) }:Net) (by show (A7 dv n.domains (l.tagged.take j)).length<_;omega) dv (l.tagged[((j:Nat):Int).toNat]'hlt0) hc
    rw[Za hc]at hsn
    refine T ?_
    refine X (Bz [(902,1002),(904,1004)] (Cb E E F190) q E W E V) ?_
    exact Bd (j+1) [] hlt q_ ⟨⟨E,E,E,E,E,E,E,E,E,E,E,E,E,E,Y⟩,⟨.inl E,E,.inl E,E,.inl E,E,.inl E,E,.inl E,E,.inl (zD (Ob.row 6 An) hsn),E,.inl E,E,.inl E,E,.inl E,E,.inl E,E,Y⟩,E,E⟩
  ·have hje:j=l.tagged.length:=qB h
   clear h
   rw[hje,yG]
   have hfull:A7 dv n.domains (l.vlan::l.tagged)=A7 dv n.domains l.tagged:=(show A7 dv n.domains (l.vlan::l.tagged)=A7 dv (Ck dv n.domains l.vlan) l.tagged from rfl).trans (by rw[hd1])
   rw[hfull]at hres
   by_cases h9:48<(A7 dv n.domains l.tagged).length
   ·have g9:decide (((A7 dv n.domains l.tagged).length:Int)>48)=true:=zL q_
    rw[zC h9]at hres
    subst hres
    refine T ?_
    refine Am 1001 (C7 emptyN) E vL ?_
    refine T ?_
    exact D
   ·have g9:decide (((A7 dv n.domains l.tagged).length:Int)>48)=false:=zJ q_
    rw[zA h9]at hres
    subst hres
    refine T ?_
    refine Ai 901 E ?_
    refine Ai 1002 E ?_
    refine Ai 903 E ?_
    refine Ai 1004 E ?_
    refine Ai 905 E ?_
    refine Ai 906 E ?_
    refine Ai 907 E ?_
    refine Ai 908 E ?_
    exact D
theorem A0f (n:Net) (hn:n.Fin) (ha:Dd n) (l:LineM) (hl:LineW l):Sp 76 [Aj n,A6 l] (.tup [Aj (putT n l).1,Aa (putT n l).2]):=cT F76 Tryz.ntmps76 λ F hF=>by
 have hres:=putT.eq_1 n l
 generalize putT n l=res at *
 by_cases h1:l.kind=1
 ·have g1:(l.kind == 1)=true:=by rw[yA];exact h1
  have q:=Apw n hn l hl
  rw[zC h1]at hres
  rw[← hres]at q
  refine T ?_
  refine C q F123 ?_
  exact D
 have g1:(l.kind == 1)=false:=by rw[zO];exact h1
 rw[zA h1]at hres
 by_cases h2:l.kind=2
 ·have g2:(l.kind == 2)=true:=by rw[yA];exact h2
  have q:=Awo n hn l hl
  rw[zC h2]at hres
  rw[← hres]at q
  refine T ?_
  refine C q F124 ?_
  exact D
 have g2:(l.kind == 2)=false:=by rw[zO];exact h2
 rw[zA h2]at hres
 by_cases h3:l.kind=3
 ·have g3:(l.kind == 3)=true:=by rw[yA];exact h3
  have q:=Axp n hn l hl
  rw[zC h3]at hres
  rw[← hres]at q
  refine T ?_
  refine C q F125 ?_
  exact D
 have g3:(l.kind == 3)=false:=by rw[zO];exact h3
 rw[zA h3]at hres
 by_cases h4:l.kind=4
 ·have g4:(l.kind == 4)=true:=by rw[yA];exact h4
  have q:=Anj n hn l hl
  rw[zC h4]at hres
  rw[← hres]at q
  refine T ?_
  refine C q F126 ?_
  exact D
 have g4:(l.kind == 4)=false:=by rw[zO];exact h4
 rw[zA h4]at hres
 by_cases h5:l.kind=5
 ·have g5:(l.kind == 5)=true:=by rw[yA];exact h5
  have q:=Azz n hn l hl
  rw[zC h5]at hres
  rw[← hres]at q
  refine T ?_
  refine C q F127 ?_
  exact D
 have g5:(l.kind == 5)=false:=by rw[zO];exact h5
 rw[zA h5]at hres
 by_cases h6:l.kind=6
 ·have g6:(l.kind == 6)=true:=by rw[yA];exact h6
  have q:=ovVniS n hn l hl
  rw[zC h6]at hres
  rw[← hres]at q
  refine T ?_
  refine C q F128 ?_
  exact D
 have g6:(l.kind == 6)=false:=by rw[zO];exact h6
 rw[zA h6]at hres
 by_cases h7:l.kind=7
 ·have g7:(l.kind == 7)=true:=by rw[yA];exact h7
  have q:=Awv n hn l hl
  rw[zC h7]at hres
  rw[← hres]at q
  refine T ?_
  refine C q F129 ?_
  exact D
 have g7:(l.kind == 7)=false:=by rw[zO];exact h7
 rw[zA h7]at hres
 by_cases h8:l.kind=8
 ·have g8:(l.kind == 8)=true:=by rw[yA];exact h8
  have q:=Azi n hn l hl
  rw[zC h8]at hres
  rw[← hres]at q
  refine T ?_
  refine C q F130 ?_
  exact D
 have g8:(l.kind == 8)=false:=by rw[zO];exact h8
 rw[zA h8]at hres
 by_cases h9:l.kind=9
 ·have g9:(l.kind == 9)=true:=by rw[yA];exact h9
  have q:=A0n n hn ha l hl
  rw[zC h9]at hres
  rw[← hres]at q
  refine T ?_
  refine C q F131 ?_
  exact D
 have g9:(l.kind == 9)=false:=by rw[zO];exact h9
 rw[zA h9]at hres
 subst hres
 refine T ?_
 refine Am 4 (C7 emptyN) E vL ?_
 refine T ?_
 exact D
theorem Arn {n:Net} (h:Ab n=true) {i:Nat} (hi:i<n.floods.length):L0 n n.floods[i]=true:=by
 simp only[Ab,zB]at h
 exact allB_iff.1 h.1.1.2 i hi
theorem A1c (n:Net) (hn:n.Fin) (hr:Ab n=true) (f:Flood) (hf:f∈n.floods):Sp 132 [Aj n,A3 f] (Ac (agreesB n f)):=cT F132 Tryz.ntmps132 λ F hF=>by
 have hfd:0≤f.dev∧f.dev.toNat<n.devices.length:=by
  obtain ⟨j,hj,rfl⟩:=wX hf
  have:=Arn hr hj
  simp only[L0,Af,zB,zG]at this
  omega
 have hfa:f.addrs.length<2147483648:=hn.addrs f hf
 have hown:(nth n.devices f.dev).vtep=(n.devices[f.dev.toNat]'hfd.2).vtep:=by rw[Ae hfd.2]
 have q1:=Wo n hn f.dev f.vni
 have hres:=agreesB.eq_1 n f
 have hag:∀ a,agreeA n f a=_:=agreeA.eq_1 n f
 generalize agreesB n f=res at *
 generalize H6 n f.dev f.vni=v0 at *
 refine T ?_
 refine Az 2 8 (Aj n) E E E ?_
 refine Az 3 4 (A3 f) E E E ?_
 refine T ?_
 refine C q1 F134 ?_
 refine Db (λ j:Nat=>j≤f.addrs.length) (λ j=>[(2,.ref 8 (Aj n) 0),(3,.ref 4 (A3 f) 0),(5,A8 (n.devices[f.dev.toNat]'hfd.2).vtep),(6,Ac (decide (0≤v0) && (f.addrs.take j).all (agreeA n f))),(28,.sl 1 A8 f.addrs),(29,Aa f.addrs.length),(30,Aa j)]) (λ _=>[]) (λ j=>f.addrs.length-j) 0 [] q_ ⟨⟨E,E,E,E,E,E,zD Ac y_,E,E,E,E,E,E,E,Y⟩,Y,E,E⟩ ?_
 intro j hj
 refine T ?_
 constructor<;>intro h
 ·have hlt:j<f.addrs.length:=qA h
  have hj0:((j:Nat):Int).toNat<f.addrs.length:=hlt
  clear h
  have qo:=Aoe n hn (f.addrs[((j:Nat):Int).toNat]'hj0)
  have hA:=hag (f.addrs[((j:Nat):Int).toNat]'hj0)
  have hsn:(f.addrs.take (j+1)).all (agreeA n f)=((f.addrs.take j).all (agreeA n f) && agreeA n f (f.addrs[((j:Nat):Int).toNat]'hj0)):=by
   rw[zY hlt,List.all_append]
   simp only[List.all_cons,List.all_nil,vS]
   rfl
  have hwhole:agreeA n f (f.addrs[((j:Nat):Int).toNat]'hj0)=false→f.addrs.all (agreeA n f)=false:=λ h=>by
   rw[List.all_eq_false]
   exact⟨_,zE hj0,by rw[h];simp⟩
  have hpart:(f.addrs.take j).all (agreeA n f)=false→f.addrs.all (agreeA n f)=false:=λ h=>by
   rw[List.all_eq_false]at h ⊢
   obtain ⟨x,hx,hx2⟩:=h
   exact⟨x,wB hx,hx2⟩
  have qf:=Wo n hn (Cp n (f.addrs[((j:Nat):Int).toNat]'hj0)) f.vni
  have ql:=Ahm n hn (Cp n (f.addrs[((j:Nat):Int).toNat]'hj0)) f.vni
  cases ho:(decide (0≤v0) && (f.addrs.take j).all (agreeA n f)) with
  | false =>
   have hr0:res=false:=by
    rw[hres]
    cases hd:decide (0≤v0)
    ·rfl
    ·rw[hd,zS]at ho
     rw[hpart ho];rfl
   subst hr0
   generalize Cp n (f.addrs[((j:Nat):Int).toNat]'hj0)=dv at *
   refine T ?_
   refine C qo F135 ?_
   exact D
  | true =>
   have hdr:Cp n (f.addrs[((j:Nat):Int).toNat]'hj0)<0∨0≤Cp n (f.addrs[((j:Nat):Int).toNat]'hj0):=by omega
   have hlr:Dt n (Cp n (f.addrs[((j:Nat):Int).toNat]'hj0)) f.vni<0∨∃ k:Nat,Dt n (Cp n (f.addrs[((j:Nat):Int).toNat]'hj0)) f.vni=k∧k<n.floods.length:=by
    by_cases h:Dt n (Cp n (f.addrs[((j:Nat):Int).toNat]'hj0)) f.vni<0
    ·exact .inl h
    ·exact .inr (Jy h)
   generalize H6 n (Cp n (f.addrs[((j:Nat):Int).toNat]'hj0)) f.vni=fv at *
   generalize Dt n (Cp n (f.addrs[((j:Nat):Int).toNat]'hj0)) f.vni=lv at *
   generalize Cp n (f.addrs[((j:Nat):Int).toNat]'hj0)=dv at *
   by_cases k1:dv<0
   ·have g1:decide (dv≥0)=false:=zJ q_
    have g1n:(!(decide (dv≥0)))=true:=by rw[g1];rfl
    have hr0:res=false:=by rw[hres,hwhole (by rw[hA,zJ (by omega:¬ 0≤dv)];rfl),wR]
    subst hr0
    refine T ?_
    refine C qo F135 ?_
    exact D
   have g1:decide (dv≥0)=true:=zL q_
   rw[zL (by omega:0≤dv),zS]at hA
   by_cases k2:(f.addrs[((j:Nat):Int).toNat]'hj0)=0
   ·have g2:((f.addrs[((j:Nat):Int).toNat]'hj0) != 0)=false:=by rw[bne_eq_false_iff_eq];exact k2
    have g2n:(!((f.addrs[((j:Nat):Int).toNat]'hj0) != 0))=true:=by rw[g2];rfl
    have hr0:res=false:=by rw[hres,hwhole (by rw[hA,g2];rfl),wR]
    subst hr0
    refine T ?_
    refine C qo F135 ?_
    exact D
   have g2:((f.addrs[((j:Nat):Int).toNat]'hj0) != 0)=true:=by rw[yV];exact k2
   rw[g2,zS]at hA
   by_cases k3:fv<0
   ·have g3:decide (fv≥0)=false:=zJ q_
    have g3n:(!(decide (fv≥0)))=true:=by rw[g3];rfl
    have hr0:res=false:=by rw[hres,hwhole (by rw[hA,zJ (by omega:¬ 0≤fv)];rfl),wR]
    subst hr0
    refine T ?_
    refine C qo F135 ?_
    refine C qf F134 ?_
    exact D
   have g3:decide (fv≥0)=true:=zL q_
   rw[zL (by omega:0≤fv),zS]at hA
   by_cases k4:lv<0
   ·have g4:decide (lv≥0)=false:=zJ q_
    have g4n:(!(decide (lv≥0)))=true:=by rw[g4];rfl
    have hr0:res=false:=by rw[hres,hwhole (by rw[hA,zJ (by omega:¬ 0≤lv)];rfl),wR]
    subst hr0
    refine T ?_
    refine C qo F135 ?_
    refine C qf F134 ?_
    refine C ql F133 ?_
    refine Ap E (.cons .tmp .nil) (zD Ac g4.symm) E
   have g4:decide (lv≥0)=true:=zL q_
   have g4n:(!(decide (lv≥0)))=false:=by rw[g4];rfl
   rw[zL (by omega:0≤lv),zS]at hA
   obtain ⟨m,hm,hml⟩:=hlr.resolve_left k4
   subst hm
   have hm0:((m:Nat):Int).toNat<n.floods.length:=hml
   rw[Ae hm0,hown]at hA
   have hfar:=hn.addrs _ (zE hm0)
   have qc:=Qf (n.floods[((m:Nat):Int).toNat]'hm0).addrs (n.devices[f.dev.toNat]'hfd.2).vtep hfar
   have qcb:=λ b=>Qf (n.floods[((m:Nat):Int).toNat]'hm0).addrs b hfar
   have hnx:(decide (0≤v0) && (f.addrs.take (j+1)).all (agreeA n f))=(inB (n.floods[((m:Nat):Int).toNat]'hm0).addrs (n.devices[f.dev.toNat]'hfd.2).vtep && f.addrs.all λ b=>b == (f.addrs[((j:Nat):Int).toNat]'hj0) || inB (n.floods[((m:Nat):Int).toNat]'hm0).addrs b):=by
    rw[hsn,← Bool.and_assoc,ho,zS,hA]
   clear hA hsn hwhole hpart ho hag
   refine T ?_
   refine C qo F135 ?_
   refine C qf F134 ?_
   refine C ql F133 ?_
   refine C ql F133 ?_
   refine C qc F195 ?_
   refine Db (λ k:Nat=>k≤f.addrs.length) (λ k=>[(2,.ref 8 (Aj n) 0),(3,.ref 4 (A3 f) 0),(5,A8 (n.devices[f.dev.toNat]'hfd.2).vtep),(6,Ac (inB (n.floods[((m:Nat):Int).toNat]'hm0).addrs (n.devices[f.dev.toNat]'hfd.2).vtep && (f.addrs.take k).all λ b=>b == (f.addrs[((j:Nat):Int).toNat]'hj0) || inB (n.floods[((m:Nat):Int).toNat]'hm0).addrs b)),(8,A8 (f.addrs[((j:Nat):Int).toNat]'hj0)),(10,.sl 1 A8 (n.floods[((m:Nat):Int).toNat]'hm0).addrs),(28,.sl 1 A8 f.addrs),(29,Aa f.addrs.length),(30,Aa j),(78,.sl 1 A8 f.addrs),(79,Aa f.addrs.length),(80,Aa k)]) (λ _=>[]) (λ k=>f.addrs.length-k) 0 [] q_ ⟨⟨E,E,E,E,E,E,zD Ac y_,E,E,E,E,E,E,E,E,E,E,E,E,E,E,E,E,E,Y⟩,Y,E,E⟩ ?_
   intro k hk
   refine T ?_
   constructor<;>intro h
   ·have hlt2:k<f.addrs.length:=qA h
    have hk0:((k:Nat):Int).toNat<f.addrs.length:=hlt2
    clear h
    have hsn:(f.addrs.take (k+1)).all (λ b=>b == (f.addrs[((j:Nat):Int).toNat]'hj0) || inB (n.floods[((m:Nat):Int).toNat]'hm0).addrs b)=((f.addrs.take k).all (λ b=>b == (f.addrs[((j:Nat):Int).toNat]'hj0) || inB (n.floods[((m:Nat):Int).toNat]'hm0).addrs b) && ((f.addrs[((k:Nat):Int).toNat]'hk0) == (f.addrs[((j:Nat):Int).toNat]'hj0) || inB (n.floods[((m:Nat):Int).toNat]'hm0).addrs (f.addrs[((k:Nat):Int).toNat]'hk0))):=by
     rw[zY hlt2,List.all_append]
     simp only[List.all_cons,List.all_nil,vS]
     rfl
    have hst:(inB (n.floods[((m:Nat):Int).toNat]'hm0).addrs (n.devices[f.dev.toNat]'hfd.2).vtep && (f.addrs.take (k+1)).all λ b=>b == (f.addrs[((j:Nat):Int).toNat]'hj0) || inB (n.floods[((m:Nat):Int).toNat]'hm0).addrs b)=((inB (n.floods[((m:Nat):Int).toNat]'hm0).addrs (n.devices[f.dev.toNat]'hfd.2).vtep && (f.addrs.take k).all λ b=>b == (f.addrs[((j:Nat):Int).toNat]'hj0) || inB (n.floods[((m:Nat):Int).toNat]'hm0).addrs b) && ((f.addrs[((k:Nat):Int).toNat]'hk0) == (f.addrs[((j:Nat):Int).toNat]'hj0) || inB (n.floods[((m:Nat):Int).toNat]'hm0).addrs (f.addrs[((k:Nat):Int).toNat]'hk0))):=by
     rw[hsn,Bool.and_assoc]
    have qb:=qcb (f.addrs[((k:Nat):Int).toNat]'hk0)
    cases ho2:(inB (n.floods[((m:Nat):Int).toNat]'hm0).addrs (n.devices[f.dev.toNat]'hfd.2).vtep && (f.addrs.take k).all λ b=>b == (f.addrs[((j:Nat):Int).toNat]'hj0) || inB (n.floods[((m:Nat):Int).toNat]'hm0).addrs b) with
    | false =>
     rw[ho2,zT]at hst
     refine T ?_
     exact Bd (k+1) [] hlt2 q_ ⟨⟨E,E,E,E,E,E,zD Ac hst,E,E,E,E,E,E,E,E,E,E,E,E,E,E,E,E,E,Y⟩,Y,E,E⟩
    | true =>
     rw[ho2,zS]at hst
     cases he:((f.addrs[((k:Nat):Int).toNat]'hk0) == (f.addrs[((j:Nat):Int).toNat]'hj0)) with
     | true =>
      rw[he,uS]at hst
      refine T ?_
      exact Bd (k+1) [] hlt2 q_ ⟨⟨E,E,E,E,E,E,zD Ac hst,E,E,E,E,E,E,E,E,E,E,E,E,E,E,E,E,E,Y⟩,Y,E,E⟩
     | false =>
      rw[he,vF]at hst
      refine T ?_
      refine C qb F195 ?_
      exact Bd (k+1) [] hlt2 q_ ⟨⟨E,E,E,E,E,E,zD Ac hst,E,E,E,E,E,E,E,E,E,E,E,E,E,E,E,E,E,Y⟩,Y,E,E⟩
   ·have hke:k=f.addrs.length:=qB h
    clear h
    rw[hke,yG]
    refine T ?_
    exact Bd (j+1) [] hlt q_ ⟨⟨E,E,E,E,E,E,zD Ac hnx,E,E,E,E,E,E,E,Y⟩,Y,E,E⟩
 ·have hje:j=f.addrs.length:=qB h
  clear h
  subst hje
  rw[yG,← hres]
  refine T ?_
  exact D
theorem Ac7 {α:Type} {p:α→Bool}:∀ {l:List α} {j:Nat} (hj:j<l.length),(∀ k (hk:k<l.length),k<j→p l[k]=false)→p l[j]=true→l.find? p=some l[j]
 | x::l,0,_,_,h2=>by
  rw[uR]at h2 ⊢
  rw[List.find?_cons,h2]
 | x::l,j+1,hj,h1,h2=>by
  rw[List.getElem_cons_succ]at h2 ⊢
  have h0:=h1 0 y_ q_
  rw[uR]at h0
  rw[List.find?_cons,h0]
  exact Ac7 (by simpa using hj) (λ k hk hkj=>by
   have:=h1 (k+1) (by simp;omega) q_
   rwa [List.getElem_cons_succ]at this) h2
def Qx (n:Net) (j:Nat):List Domain:=(n.domains.take j).map (λ d=>{ d with peers:=peersT n d })++n.domains.drop j
theorem Ato (n:Net):Qx n 0=n.domains:=by simp[Qx]
theorem Aw9 (n:Net):Qx n n.domains.length=(Bk n).domains:=by simp[Qx,Bk]
theorem Aw8 (n:Net) {j:Nat} (hj:j≤n.domains.length):(Qx n j).length=n.domains.length:=by simp[Qx];omega
theorem Atp (n:Net) {j:Nat} (hj:j<n.domains.length) (h:((j:Nat):Int).toNat<(Qx n j).length) :
  (Qx n j)[((j:Nat):Int).toNat]'h=n.domains[j]∧(Qx n j).set ((j:Nat):Int).toNat { n.domains[j] with peers:=peersT n n.domains[j] }=Qx n (j+1):=by
 have hl:((n.domains.take j).map (λ d=>{ d with peers:=peersT n d })).length=j:=by simp;omega
 have e:Qx n j=(n.domains.take j).map (λ d=>{ d with peers:=peersT n d })++n.domains[j]::n.domains.drop (j+1):=by
  rw[Qx,yI hj]
 have e2:Qx n (j+1)=(n.domains.take j).map (λ d=>{ d with peers:=peersT n d })++{ n.domains[j] with peers:=peersT n n.domains[j] }::n.domains.drop (j+1):=by
  rw[Qx,zY hj,wK,xR,vR,yU];rfl
 constructor
 ·simp only[zR,e]
  rw[yY q_]
  simp only[hl,uU,uR]
 ·rw[zR,e,e2,uX _ _ q_,hl,uU]
  rfl
theorem Ayl (n:Net) (h:Ab n=true):(∀ f∈n.floods,f.addrs.length≤16):=λ f hf=>by
 obtain ⟨j,hj,rfl⟩:=wX hf
 have:=Arn h hj
 simp only[L0,zB,zG]at this
 exact this.2
theorem Atf {n:Net} (h:Ab n=true) (d:Domain):(peersT n d).length≤16:=by
 unfold peersT
 split
 ·rename_i hc
  rw[yP]
  have hl:=Hj (λ f:Flood=>f.dev == d.dev && f.vni == d.vni) n.floods
  have h0:(Dt n d.dev d.vni).toNat<n.floods.length:=by
   have e:Dt n d.dev d.vni=Bg (λ f:Flood=>f.dev == d.dev && f.vni == d.vni) n.floods:=rfl
   have:=hc.2
   omega
  rw[Ae h0]
  exact Ayl n h _ (zE h0)
 ·simp
theorem Ace {n:Net} (hn:n.Fin) (h:Ab n=true):(Bk n).Fin:=by
 have hl:(Bk n).domains.length=n.domains.length:=by simp[Bk]
 refine { hn with domains:=?_,peers:=?_ }
 ·show (Bk n).domains.length<_
  rw[hl];exact hn.domains
 ·intro p hp
  have hp:p∈n.domains.map λ d=>{ d with peers:=peersT n d }:=hp
  obtain ⟨d,_,rfl⟩:=yH.1 hp
  show (peersT n d).length<_
  have:=Atf h d
  omega
theorem meshS (n:Net) (hn:n.Fin):Sp 77 [Aj n] (.tup [Aj (meshNT n).1,Aa (meshNT n).2.1,Aa (meshNT n).2.2]):=cT F77 Tryz.ntmps77 λ F hF=>by
 have qn:=Av n hn
 have qcopy:=Qe n hn
 have hres:=meshNT.eq_1 n
 generalize meshNT n=res at *
 cases hr:Ab n with
 | false =>
  rw[hr]at qn
  rw[hr,zC rfl]at hres
  subst hres
  refine T ?_
  refine C qn F19 ?_
  refine Am 2 (C7 emptyN) E vL ?_
  refine T ?_
  exact D
 | true =>
 rw[hr]at qn
 rw[hr,zA y_]at hres
 have hff:n.floods.length<2147483648:=hn.floods
 have hdd:n.domains.length<2147483648:=hn.domains
 refine T ?_
 refine C qn F19 ?_
 refine Az 1 8 (Aj n) E E E ?_
 refine Db (λ j:Nat=>j≤n.floods.length∧∀ k (hk:k<n.floods.length),k<j→agreesB n n.floods[k]=true) (λ j=>[(1,.ref 8 (Aj n) 0),(2,.ptr 1001 0),(18,.sl 4 A3 n.floods),(19,Aa n.floods.length),(20,Aa j)]) (λ _=>[(1001,.box [.val (.slice none 0 0),.val (.slice none 0 0),.val (.slice none 0 0),.val (.slice none 0 0),.val (.slice none 0 0),.val (.slice none 0 0),.val (.slice none 0 0),.val (.slice none 0 0)])]) (λ j=>n.floods.length-j) 0 [(1001,2)] ⟨by omega,λ k hk h=>by omega⟩ U ?_
 rintro j ⟨hj,hI⟩
 refine T ?_
 constructor<;>intro h
 ·have hlt:j<n.floods.length:=qA h
  have hj0:((j:Nat):Int).toNat<n.floods.length:=hlt
  clear h
  have q:=A1c n hn hr (n.floods[((j:Nat):Int).toNat]'hj0) (zE hj0)
  cases ha:agreesB n (n.floods[((j:Nat):Int).toNat]'hj0) with
  | false =>
   rw[ha]at q
   rw[Ac7 (p:=λ f=>!(agreesB n f)) hlt (λ k hk hkj=>by simp only[hI k hk hkj];rfl) (by show (!(agreesB n (n.floods[((j:Nat):Int).toNat]'hj0)))=true;rw[ha];rfl)]at hres
   dsimp only at hres
   subst hres
   refine T ?_
   refine C q F132 ?_
   refine Am 1001 (C7 emptyN) E vL ?_
   refine T ?_
   exact D
  | true =>
   rw[ha]at q
   refine T ?_
   refine C q F132 ?_
   refine Bd (j+1) [] ⟨hlt,λ k hk hkj=>?_⟩ q_ U
   by_cases e:k=j
   ·subst e;exact ha
   ·exact hI k hk q_
 ·have hje:j=n.floods.length:=qB h
  clear h
  have hnone:n.floods.find? (λ f=>!(agreesB n f))=none:=by
   rw[tN]
   intro x hx
   obtain ⟨k,hk,rfl⟩:=wX hx
   rw[hI k hk q_];simp
  rw[hnone]at hres
  dsimp only at hres
  clear hI hj hje hnone
  refine T ?_
  refine X (Ad [(0,901),(1,902),(2,903),(3,904),(4,905),(5,906),(6,907),(7,908)] E F34 qcopy E W E V) ?_
  refine Db (λ j:Nat=>j≤n.domains.length) (λ j=>[(1,.ref 8 (Aj n) 0),(2,.ptr 1001 0),(35,.sl 6 An n.domains),(36,Aa n.domains.length),(37,Aa j)]) (λ j=>[(1001,.box [.osl 901,.osl 902,.osl 903,.osl 1004,.osl 905,.osl 906,.osl 907,.osl 908]),(901,.row 5 Aq n.devices),(902,.row 7 Aw n.ports),(903,.row 3 Br n.links),(1004,.row 6 An (Qx n j)),(905,.row 4 As n.statics),(906,.row 4 A3 n.floods),(907,.row 5 B5 n.vrfs),(908,.row 5 By n.irbs)]) (λ j=>n.domains.length-j) 0 [(1004,904)] q_ ⟨⟨E,E,E,E,E,E,E,E,E,E,Y⟩,⟨.inl E,E,.inl E,E,.inl E,E,.inl E,E,.inl (zD (Ob.row 6 An) (Ato n)),E,.inl E,E,.inl E,E,.inl E,E,.inl E,E,Y⟩,E,E⟩ ?_
  intro j hj
  have hml:=Aw8 n hj
  refine T ?_
  constructor<;>intro h
  ·have hlt:j<n.domains.length:=qA h
   have hj0:((j:Nat):Int).toNat<n.domains.length:=hlt
   clear h
   have hjm:((j:Nat):Int).toNat<(Qx n j).length:=by rw[hml];exact hj0
   obtain ⟨m1,m2⟩:=Atp n hlt hjm
   have hDj:n.domains[j]=(n.domains[((j:Nat):Int).toNat]'hj0):=rfl
   rw[hDj]at m1 m2
   have hne:Qx n j≠[]:=λ e=>by rw[e]at hjm;cases hjm
   have ql:=Ahm n hn (n.domains[((j:Nat):Int).toNat]'hj0).dev (n.domains[((j:Nat):Int).toNat]'hj0).vni
   have hpt:=peersT.eq_1 n (n.domains[((j:Nat):Int).toNat]'hj0)
   have hlr:Dt n (n.domains[((j:Nat):Int).toNat]'hj0).dev (n.domains[((j:Nat):Int).toNat]'hj0).vni<0∨∃ k:Nat,Dt n (n.domains[((j:Nat):Int).toNat]'hj0).dev (n.domains[((j:Nat):Int).toNat]'hj0).vni=k∧k<n.floods.length:=by
    by_cases h:Dt n (n.domains[((j:Nat):Int).toNat]'hj0).dev (n.domains[((j:Nat):Int).toNat]'hj0).vni<0
    ·exact .inl h
    ·exact .inr (Jy h)
   generalize Dt n (n.domains[((j:Nat):Int).toNat]'hj0).dev (n.domains[((j:Nat):Int).toNat]'hj0).vni=lv at *
   generalize hpT:peersT n (n.domains[((j:Nat):Int).toNat]'hj0)=ps at *
   by_cases k1:(n.domains[((j:Nat):Int).toNat]'hj0).vni=0
   ·have g1:((n.domains[((j:Nat):Int).toNat]'hj0).vni != 0)=false:=by rw[bne_eq_false_iff_eq];exact k1
    rw[zA (λ h=>h.1 k1)]at hpt
    subst hpt
    refine T ?_
    refine Ao 9 1 Aa E ?_
    refine C ql F133 ?_
    refine⟨hne,?_⟩
    refine T ?_
    refine⟨(⟨(n.domains[((j:Nat):Int).toNat]'hj0).dev,(n.domains[((j:Nat):Int).toNat]'hj0).vlan,(n.domains[((j:Nat):Int).toNat]'hj0).vni,(n.domains[((j:Nat):Int).toNat]'hj0).irb,(n.domains[((j:Nat):Int).toNat]'hj0).row,[]⟩:Domain),by rw[m1];rfl,by rw[m1];rfl,?_⟩
    refine T ?_
    exact Bd (j+1) [] hlt q_ ⟨⟨E,E,E,E,E,E,E,E,E,E,Y⟩,⟨.inl E,E,.inl E,E,.inl E,E,.inl E,E,.inl (zD (Ob.row 6 An) m2.symm),E,.inl E,E,.inl E,E,.inl E,E,.inl E,E,Y⟩,E,E⟩
   have g1:((n.domains[((j:Nat):Int).toNat]'hj0).vni != 0)=true:=by rw[yV];exact k1
   by_cases k2:lv<0
   ·have g2:decide (lv≥0)=false:=zJ q_
    rw[zA (λ h=>by have:=h.2;omega)]at hpt
    subst hpt
    refine T ?_
    refine Ao 9 1 Aa E ?_
    refine C ql F133 ?_
    refine⟨hne,?_⟩
    refine T ?_
    refine⟨(⟨(n.domains[((j:Nat):Int).toNat]'hj0).dev,(n.domains[((j:Nat):Int).toNat]'hj0).vlan,(n.domains[((j:Nat):Int).toNat]'hj0).vni,(n.domains[((j:Nat):Int).toNat]'hj0).irb,(n.domains[((j:Nat):Int).toNat]'hj0).row,[]⟩:Domain),by rw[m1];rfl,by rw[m1];rfl,?_⟩
    refine T ?_
    exact Bd (j+1) [] hlt q_ ⟨⟨E,E,E,E,E,E,E,E,E,E,Y⟩,⟨.inl E,E,.inl E,E,.inl E,E,.inl E,E,.inl (zD (Ob.row 6 An) m2.symm),E,.inl E,E,.inl E,E,.inl E,E,.inl E,E,Y⟩,E,E⟩
   obtain ⟨m,hm,hmf⟩:=hlr.resolve_left k2
   subst hm
   clear hlr
   have g2:decide ((m:Int)≥0)=true:=zL q_
   have hm0:((m:Nat):Int).toNat<n.floods.length:=hmf
   rw[zC ⟨k1,by omega⟩,Ae hm0]at hpt
   have hfa:=Ayl n hr _ (zE hm0)
   refine T ?_
   refine Co 9 1200 1 Aa E E ?_
   refine C ql F133 ?_
   refine Az 8 6 (An (n.domains[((j:Nat):Int).toNat]'hj0)) E E E ?_
   refine Db (λ k:Nat=>k≤(n.floods[((m:Nat):Int).toNat]'hm0).addrs.length) (λ k=>[(1,.ref 8 (Aj n) 0),(2,.ptr 1001 0),(7,Aa j),(8,.ref 6 (An (n.domains[((j:Nat):Int).toNat]'hj0)) 0),(9,.osl 1200),(35,.sl 6 An n.domains),(36,Aa n.domains.length),(37,Aa j),(60,.sl 1 A8 (n.floods[((m:Nat):Int).toNat]'hm0).addrs),(61,Aa (n.floods[((m:Nat):Int).toNat]'hm0).addrs.length),(62,Aa k)]) (λ k=>[(1001,.box [.osl 901,.osl 902,.osl 903,.osl 1004,.osl 905,.osl 906,.osl 907,.osl 908]),(901,.row 5 Aq n.devices),(902,.row 7 Aw n.ports),(903,.row 3 Br n.links),(1004,.row 6 An (Qx n j)),(905,.row 4 As n.statics),(906,.row 4 A3 n.floods),(907,.row 5 B5 n.vrfs),(908,.row 5 By n.irbs),(1200,.row 1 Aa (((n.floods[((m:Nat):Int).toNat]'hm0).addrs.take k).map (λ a=>H6 n (Cp n a) (n.domains[((j:Nat):Int).toNat]'hj0).vni)))]) (λ k=>(n.floods[((m:Nat):Int).toNat]'hm0).addrs.length-k) 0 [] q_ U ?_
   intro k hk
   refine T ?_
   constructor<;>intro h
   ·have hlt2:k<(n.floods[((m:Nat):Int).toNat]'hm0).addrs.length:=qA h
    have hk0:((k:Nat):Int).toNat<(n.floods[((m:Nat):Int).toNat]'hm0).addrs.length:=hlt2
    clear h
    have qo:=Aoe n hn ((n.floods[((m:Nat):Int).toNat]'hm0).addrs[((k:Nat):Int).toNat]'hk0)
    have qf:=Wo n hn (Cp n ((n.floods[((m:Nat):Int).toNat]'hm0).addrs[((k:Nat):Int).toNat]'hk0)) (n.domains[((j:Nat):Int).toNat]'hj0).vni
    have hsn:((n.floods[((m:Nat):Int).toNat]'hm0).addrs.take (k+1)).map (λ a=>H6 n (Cp n a) (n.domains[((j:Nat):Int).toNat]'hj0).vni)=((n.floods[((m:Nat):Int).toNat]'hm0).addrs.take k).map (λ a=>H6 n (Cp n a) (n.domains[((j:Nat):Int).toNat]'hj0).vni)++[H6 n (Cp n ((n.floods[((m:Nat):Int).toNat]'hm0).addrs[((k:Nat):Int).toNat]'hk0)) (n.domains[((j:Nat):Int).toNat]'hj0).vni]:=by
     rw[zY hlt2,wK];rfl
    have hrl:(((n.floods[((m:Nat):Int).toNat]'hm0).addrs.take k).map (λ a=>H6 n (Cp n a) (n.domains[((j:Nat):Int).toNat]'hj0).vni)).length≤16:=by rw[yP,zU];omega
    refine T ?_
    refine C qo F135 ?_
    refine C qf F134 ?_
    refine Xd (Ah Γ.toTy 75 E E E E E (.row E) (.lit (e:=Aa) (l:=[H6 n (Cp n ((n.floods[((m:Nat):Int).toNat]'hm0).addrs[((k:Nat):Int).toNat]'hk0)) (n.domains[((j:Nat):Int).toNat]'hj0).vni]) E E) j_ (by simp only[zM];omega) (by simp only[zM];omega)) ?_
    refine T ?_
    exact Bd (k+1) [(1200,75)] hlt2 q_ ⟨⟨E,E,E,E,E,E,E,E,E,E,E,E,E,E,E,E,E,E,E,E,E,E,Y⟩,⟨.inl E,E,.inl E,E,.inl E,E,.inl E,E,.inl E,E,.inl E,E,.inl E,E,.inl E,E,.inl E,E,.inl (zD (Ob.row 1 Aa) hsn),E,Y⟩,E,E⟩
   ·have hke:k=(n.floods[((m:Nat):Int).toNat]'hm0).addrs.length:=qB h
    clear h
    rw[hke,yG,← hpt]
    refine Ai 1200 E ?_
    refine T ?_
    refine⟨hne,?_⟩
    refine T ?_
    refine⟨(⟨(n.domains[((j:Nat):Int).toNat]'hj0).dev,(n.domains[((j:Nat):Int).toNat]'hj0).vlan,(n.domains[((j:Nat):Int).toNat]'hj0).vni,(n.domains[((j:Nat):Int).toNat]'hj0).irb,(n.domains[((j:Nat):Int).toNat]'hj0).row,ps⟩:Domain),by rw[m1];rfl,by rw[m1];rfl,?_⟩
    refine T ?_
    exact Bd (j+1) [] hlt q_ ⟨⟨E,E,E,E,E,E,E,E,E,E,Y⟩,⟨.inl E,E,.inl E,E,.inl E,E,.inl E,E,.inl (zD (Ob.row 6 An) m2.symm),E,.inl E,E,.inl E,E,.inl E,E,.inl E,E,Y⟩,E,E⟩
  ·have hje:j=n.domains.length:=qB h
   clear h
   subst hje
   rw[Aw9]
   have qm:=Av (Bk n) (Ace hn hr)
   refine T ?_
   refine Ai 901 E ?_
   refine Ai 902 E ?_
   refine Ai 903 E ?_
   refine Ai 1004 E ?_
   refine Ai 905 E ?_
   refine Ai 906 E ?_
   refine Ai 907 E ?_
   refine Ai 908 E ?_
   cases hb:Ab (Bk n) with
   | false =>
    rw[hb]at qm
    rw[hb,zC rfl]at hres
    subst hres
    refine C qm F19 ?_
    refine Am 1001 (C7 emptyN) E vL ?_
    refine T ?_
    exact D
   | true =>
    rw[hb]at qm
    rw[hb,zA y_]at hres
    subst hres
    refine C qm F19 ?_
    exact D
end Go.Sy.YtljngfegfclkpaaGreat
namespace Go.Sy.YtljngfegfclkpaaGreat
open Go.Proofs
set_option maxHeartbeats 4000000
structure PutP (x:Net × Int):Prop where
 fin:x.1.Fin
 addrs:Dd x.1
 none:x.2≠0→x.1=emptyN
theorem Le:emptyN.Fin:=by
 constructor<;>first | (show (0:Nat)<2147483648;decide) | (intro p hp;cases hp)
theorem Bf (e:Int):PutP (emptyN,e):=⟨Le,(λ x hx=>by cases hx),λ _=>rfl⟩
theorem K4 {n:Net} (h:n.Fin) (a:Dd n):PutP (n,0):=⟨h,a,λ h=>zW rfl h⟩
theorem S6 {n:Net} {l:LineM} {k:Int} (h:¬ fitsB n l k=false):n.devices.length≤8∧n.ports.length≤40∧n.links.length≤20∧n.domains.length≤48∧n.statics.length≤64∧n.floods.length≤48∧n.vrfs.length≤16∧n.irbs.length≤48:=by
 have h:fitsB n l k=true:=by simpa using h
 rw[fitsB,zB,zB]at h
 have h3:=h.2.2
 simp only[Ab,zB]at h3
 have h4:=h3.1.1.1.1.1.1.1.1
 simpa [Aew,and_assoc] using h4
theorem Xz {n:Net} {l:LineM} {k:Int} (h:¬ (begT n l k).2≠0):n.devices.length≤8∧n.ports.length≤40∧n.links.length≤20∧n.domains.length≤48∧n.statics.length≤64∧n.floods.length≤48∧n.vrfs.length≤16∧n.irbs.length≤48:=by
 apply S6 (l:=l) (k:=k)
 intro h2
 rw[begT,zC h2]at h
 exact h j_
theorem Dl {α:Type} {l:List α} (h:l.length≤100000):Ak l:=by show l.length<2147483648;omega
theorem Aak (dev:Int):∀ (l:List Int) (ds:List Domain) (d:Domain),d∈A7 dev ds l→d∈ds∨d.peers=[]
 | [],_,_,h=>.inl h
 | v::l,ds,d,h=>by
  rcases Aak dev l (Ck dev ds v) d h with h | h
  ·unfold Ck at h
   split at h
   ·rcases yF.1 h with h | h
    ·exact .inl h
    ·rw[zX.1 h];exact .inr rfl
   ·exact .inl h
  ·exact .inr h
theorem Ts {α:Type} {l:List α} {i:Nat} {x y:α} (h:y∈l.set i x):y∈l∨y=x:=by
 rcases uD h with h | h
 ·exact .inl h
 ·exact .inr h
theorem Hp {α:Type} [Inhabited α] {l:List α} {i:Int} (h:i.toNat<l.length):nth l i∈l:=by rw[Ae h];exact zE h
theorem Aee {n:Net} {l:LineM} (hn:n.Fin) (ha:Dd n):PutP (putDevice n l):=by
 unfold putDevice
 split
 ·exact Bf _
 rename_i h
 have:=S6 h
 split
 ·exact Bf _
 split
 ·exact Bf _
 exact K4 { hn with devices:=Dl (by rw[zI,zM];omega) } ha
theorem Aka {n:Net} {l:LineM} (hn:n.Fin) (ha:Dd n) (hl:LineW l):PutP (putPort n l):=by
 unfold putPort
 split
 ·exact Bf _
 rename_i h
 have:=S6 h
 split
 ·exact Bf _
 split
 ·exact Bf _
 split
 ·exact Bf _
 split
 ·exact Bf _
 refine K4 { hn with ports:=Dl (by rw[zI,zM];omega),domains:=Dl (by dsimp only;omega),tagged:=λ p hp=>?_,peers:=λ d hd=>?_ } ha
 ·rcases yF.1 hp with hp | hp
  ·exact hn.tagged p hp
  ·rw[zX.1 hp];exact Dl hl.fin.t
 ·rcases Aak _ _ _ _ hd with h | h
  ·exact hn.peers d h
  ·exact Dl (by rw[h];exact xP _)
theorem Aqi {l:List Port} {i k:Int} {p:Port} (h:p∈Ex l i k) (hT:∀ p∈l,Ak p.tagged):Ak p.tagged:=by
 by_cases hi:i.toNat<l.length
 ·rcases Ts h with h | h
  ·exact hT p h
  ·rw[h];exact show Ak (nth l i).tagged from hT _ (Hp hi)
 ·rw[Ex,uG q_]at h
  exact hT p h
theorem Akb {n:Net} {l:LineM} (hn:n.Fin) (ha:Dd n):PutP (putLink n l):=by
 unfold putLink
 split
 ·exact Bf _
 rename_i h
 have:=S6 h
 dsimp only
 split
 ·exact Bf _
 split
 ·exact Bf _
 split
 ·exact Bf _
 refine K4 { hn with ports:=Dl (by simp only[Ex,yE];omega),links:=Dl (by rw[zI,zM];omega),tagged:=λ p hp=>Aqi hp λ q hq=>Aqi hq hn.tagged } ha
theorem Aed {n:Net} {l:LineM} (hn:n.Fin) (ha:Dd n):PutP (putStatic n l):=by
 unfold putStatic
 split
 ·exact Bf _
 rename_i h
 have:=S6 h
 dsimp only
 split
 ·exact Bf _
 split
 ·exact Bf _
 split
 ·exact Bf _
 split
 ·exact Bf _
 exact K4 { hn with statics:=Dl (by rw[zI,zM];omega) } ha
theorem Aj9 {n:Net} {l:LineM} (hn:n.Fin) (ha:Dd n):PutP (putVtep n l):=by
 unfold putVtep
 split
 ·exact Bf _
 rename_i h
 have:=Xz h
 dsimp only
 split
 ·exact Bf _
 exact K4 { hn with devices:=Dl (by simp only[Vd,yE];omega) } ha
theorem Arq {l:List Domain} {i:Nat} {e d:Domain} (h:d∈l.set i e) (he:i<l.length→Ak e.peers) (hT:∀ p∈l,Ak p.peers):Ak d.peers:=by
 by_cases hi:i<l.length
 ·rcases Ts h with h | h
  ·exact hT d h
  ·rw[h];exact he hi
 ·rw[uG q_]at h
  exact hT d h
theorem An7 {n:Net} {l:LineM} (hn:n.Fin) (ha:Dd n):PutP (putVni n l):=by
 unfold putVni
 split
 ·exact Bf _
 rename_i h
 have:=Xz h
 dsimp only
 split
 ·exact Bf _
 split
 ·exact Bf _
 split
 ·exact Bf _
 exact K4 { hn with domains:=Dl (by simp only[yE];omega),peers:=λ d hd=>Arq hd (λ hi=>show Ak (nth n.domains _).peers from hn.peers _ (Hp hi)) hn.peers } ha
theorem Ahh {n:Net} {l:LineM} (hn:n.Fin) (ha:Dd n) (hl:LineW l):PutP (putFlood n l):=by
 unfold putFlood
 split
 ·exact Bf _
 rename_i h
 have:=Xz h
 dsimp only
 split
 ·exact Bf _
 split
 ·exact Bf _
 split
 ·exact Bf _
 split
 ·exact Bf _
 refine K4 { hn with floods:=Dl (by rw[zI,zM];omega),addrs:=λ p hp=>?_ } ha
 rcases yF.1 hp with hp | hp
 ·exact hn.addrs p hp
 ·rw[zX.1 hp];exact Dl hl.fin.a
theorem An6 {n:Net} {l:LineM} (hn:n.Fin) (ha:Dd n) (hl:LineW l):PutP (putVrf n l):=by
 unfold putVrf
 split
 ·exact Bf _
 rename_i h
 have:=Xz h
 dsimp only
 split
 ·exact Bf _
 split
 ·exact Bf _
 refine K4 { hn with vrfs:=Dl (by rw[zI,zM];omega),imports:=λ p hp=>?_,exports:=λ p hp=>?_ } ha
 ·rcases yF.1 hp with hp | hp
  ·exact hn.imports p hp
  ·rw[zX.1 hp];exact Dl hl.fin.i
 ·rcases yF.1 hp with hp | hp
  ·exact hn.exports p hp
  ·rw[zX.1 hp];exact Dl hl.fin.e
theorem An8 {n:Net} {l:LineM} (hn:n.Fin) (ha:Dd n) (hl:LineW l):PutP (putIrb n l):=by
 unfold putIrb
 split
 ·exact Bf _
 rename_i h
 have:=Xz h
 dsimp only
 split
 ·exact Bf _
 split
 ·exact Bf _
 split
 ·exact Bf _
 refine K4 { hn with domains:=Dl (by simp only[yE];omega),peers:=λ d hd=>Arq hd (λ hi=>show Ak (nth n.domains _).peers from hn.peers _ (Hp hi)) hn.peers,irbs:=Dl (by rw[zI,zM];omega) } λ x hx=>?_
 rcases yF.1 hx with hx | hx
 ·exact ha x hx
 ·rw[zX.1 hx];exact hl.ok.addr
theorem Aqy {n:Net} {l:LineM} (hn:n.Fin) (ha:Dd n) (hl:LineW l):PutP (putT n l):=by
 unfold putT
 split
 ·exact Aee hn ha
 split
 ·exact Aka hn ha hl
 split
 ·exact Akb hn ha
 split
 ·exact Aed hn ha
 split
 ·exact Aj9 hn ha
 split
 ·exact An7 hn ha
 split
 ·exact Ahh hn ha hl
 split
 ·exact An6 hn ha hl
 split
 ·exact An8 hn ha hl
 exact Bf _
theorem Afo {n:Net} (hn:n.Fin):(meshNT n).1.Fin:=by
 unfold meshNT
 split
 ·exact Le
 rename_i h
 have h:Ab n=true:=by simpa using h
 split
 ·exact Le
 split
 ·exact Le
 exact Ace hn h
end Go.Sy.YtljngfegfclkpaaGreat
namespace Go.Sy.YtljngfegfclkpaaGreat
open Go.Proofs
structure NameK (n:Net):Prop where
 dev:∀ i:Nat,i<n.devices.length→Dc (nth n.devices (i:Int)).name=true∧Ca n (nth n.devices (i:Int)).name=i
 prt:∀ i:Nat,i<n.ports.length→Dc (nth n.ports (i:Int)).name=true∧Sb n (nth n.ports (i:Int)).dev (nth n.ports (i:Int)).name=i
theorem NameK.same {n m:Net} (h:NameK n) (hd:m.devices=n.devices) (hp:m.ports=n.ports):NameK m:=by
 refine⟨λ i hi=>?_,λ i hi=>?_⟩
 ·rw[hd]at hi ⊢
  have:=h.dev i hi
  unfold Ca at this ⊢
  rw[hd];exact this
 ·rw[hp]at hi ⊢
  have:=h.prt i hi
  unfold Sb at this ⊢
  rw[hp];exact this
theorem Adt:∀ (l:List LineM) (n:Net),n.Fin→Dd n→(∀ x∈l,LineW x)→(B3 n l).2.2=0→(B3 n l).1.Fin∧Dd (B3 n l).1
 | [],n,hn,ha,_,h=>by
  rw[B3,finishT]at h ⊢
  split at h
  ·rename_i h1;exact zW h h1
  rename_i h1
  rw[zA h1]
  split at h
  ·simp at h
  rename_i h2
  rw[zA h2]
  obtain ⟨e1,_⟩:=Md (n:=n) q_
  refine⟨Afo hn,?_⟩
  dsimp only
  rw[e1]
  exact ha
 | x::l,n,hn,ha,hl,h=>by
  rw[B3]at h ⊢
  split at h
  ·rename_i h1;exact zW h h1
  rename_i h1
  rw[zA h1]
  have:=Aqy hn ha (hl x y_)
  exact Adt l _ this.fin this.addrs (λ y hy=>hl y (by simp[hy])) h
end Go.Sy.YtljngfegfclkpaaGreat
