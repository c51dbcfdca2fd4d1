/-
  I22 I23 I24 I62 I25 NB3 NB4 I41 I26 NB5 NB6 NB7 NB8 NB9 NB10 NB11 NB12 NB13 NB16 BN1 BN2: parts of a proof, joined by program.
-/
import Derived.Test.YtiijbikecbjdaaaGreatDoorXU10
import Derived.Test.YtiijbikecbjdaaaGreatDoorXU8
import Derived.Test.YtiijbikecbjdaaaGreatDoorXU15
import Derived.Test.YtiijbikecbjdaaaGreatDoorXU7
import Derived.Test.YtiijbikecbjdaaaGreatDoorXU9
import Derived.Test.YtiijbikecbjdaaaGreatDoorXU4
import Derived.Test.YtiijbikecbjdaaaGreatDoorXU11
import Derived.Test.YtiijbikecbjdaaaGreatDoorXU6
set_option linter.all false
set_option linter.unusedVariables false
set_option linter.unusedSimpArgs false
set_option linter.deprecated false
namespace Go.Sy.YtiijbikecbjdaaaGreatDoor
open Go.Proofs
theorem Ai2 {n:Net} (h:(meshNT n).2.2=0):(meshNT n).1=Ir n∧(meshNT n).2.1=0∧Ac (Ir n)=true∧n.floods.find? (λ f=>!(agreesB n f))=none:=by
 rw[meshNT]at h ⊢
 split at h
 ·simp at h
 rename_i h1
 rw[zD h1]
 cases hf:n.floods.find? (λ f=>!(agreesB n f)) with
 | some f=>rw[hf]at h;simp at h
 | none =>
  rw[hf]at h
  dsimp only at h ⊢
  split at h
  ·simp at h
  rename_i h2
  rw[zD h2]
  exact⟨E,E,by simpa using h2,E⟩
theorem Aa6:∀ (l:List LineM) (n0:Net),(C5 n0 l).2.2≠0→(C5 n0 l).1=emptyN
 | [],n0,h=>by
  rw[C5,finishT]at h ⊢
  split
  ·rename_i h1
   rw[meshNT]at h1 ⊢
   split
   ·rfl
   rename_i h2
   rw[zD h2]at h1
   split
   ·rfl
   ·rename_i hf
    rw[hf]at h1
    dsimp only at h1
    split
    ·rfl
    ·rename_i h3
     rw[zD h3]at h1
     exact yB E h1
  ·rename_i h1
   rw[zD h1]at h
   split
   ·rfl
   ·rename_i h2
    rw[zD h2]at h
    exact yB E h
 | x::l,n0,h=>by
  rw[C5]at h ⊢
  split
  ·rfl
  ·rename_i h1
   rw[zD h1]at h
   exact Aa6 l _ h
end Go.Sy.YtiijbikecbjdaaaGreatDoor
namespace Go.Sy.YtiijbikecbjdaaaGreatDoor
open Go.Proofs
attribute [local irreducible] Go.Sy.G Go.Sy.DR
set_option maxRecDepth 100000
set_option maxHeartbeats 4000000
theorem Aha (l:List Int) (x:Int) (hl:Ak l):Sp 371 [.sl 1 A6 l,A6 x] (Aa (Co (· == x) l)):=cT F371 Tryz.ntmps371 λ F hF=>by
 unfold Ak at hl
 refine fW ?_
 refine A5 l.length (λ j=>∀ i (h:i<l.length),i<j→(l[i] == x)=false) (λ j=>[(0,.sl 1 A6 l),(1,A6 x),(7,Aa l.length),(8,Aa j)]) (λ _=>[]) [] (λ i h hj=>yB hj q_) ⟨⟨E,E,E,E,E,E,E,E,Y⟩,Y,E,E⟩ ?_
 intro j hj hI
 refine fU ?_
 (repeat' (first | (refine⟨λ h=>?_,λ h=>?_⟩<;>(repeat (first | simp only[An]at h | simp only[zQ]at h | simp only[zY]at h | simp only[yF]at h | simp only[zL]at h | simp only[yQ]at h | simp only[bne_eq_false_iff_eq]at h | simp only[zH]at h | simp only[yO]at h | simp only[yU]at h | simp only[wR]at h | simp only[yX]at h | simp only[wT]at h | simp only[xH]at h | simp only[Bool.not_true]at h | simp only[wQ]at h))<;>((first|refine rg ?_|refine rd z_ ?_);(conv=>whnf);repeat((first|refine aF ?_|refine aT ?_);(first|refine rg ?_|refine rd z_ ?_);(conv=>whnf)))) | (refine Aq rfl (.cons .tmp .nil) ?_ rfl) | (refine⟨z_,?_⟩;((conv=>whnf);repeat((first|refine aF ?_|refine aT ?_);(first|refine rg ?_|refine rd z_ ?_);(conv=>whnf)))) | (refine⟨by (first | (unfold I64;omega) | omega | (simp only[yL];omega) | done),by (first | (unfold I64;omega) | omega | (simp only[yL];omega) | done),?_⟩;((conv=>whnf);repeat((first|refine aF ?_|refine aT ?_);(first|refine rg ?_|refine rd z_ ?_);(conv=>whnf)))) | (refine⟨by (first | (unfold I64;omega) | omega | (simp only[yL];omega) | done),?_⟩;((conv=>whnf);repeat((first|refine aF ?_|refine aT ?_);(first|refine rg ?_|refine rd z_ ?_);(conv=>whnf)))) | refine A4 [] hI q_ ?_ ⟨⟨rfl,rfl,rfl,rfl,rfl,rfl,rfl,rfl,trivial⟩,trivial,rfl,rfl⟩))
 all_goals try (refine zG Aa ?_)
 ·exact Cr q_ hI (by simpa using h.symm)
 ·intro i hi hij
  rcases vG i j with h1 | h1
  ·exact hI i hi h1
  ·have:i=j:=by omega
   subst this
   simpa using Ne.symm h
 ·exact C7 (λ i hi=>hI i hi q_)
theorem Qn (l:List Int) (x:Int) (hl:Ak l):Sp 308 [.sl 1 A6 l,A6 x] (Ab (inB l x)):=cT F308 Tryz.ntmps308 λ F hF=>by
 refine fW ?_
 (repeat' (first | (refine⟨λ h=>?_,λ h=>?_⟩<;>(repeat (first | simp only[An]at h | simp only[zQ]at h | simp only[zY]at h | simp only[yF]at h | simp only[zL]at h | simp only[yQ]at h | simp only[bne_eq_false_iff_eq]at h | simp only[zH]at h | simp only[yO]at h | simp only[yU]at h | simp only[wR]at h | simp only[yX]at h | simp only[wT]at h | simp only[xH]at h | simp only[Bool.not_true]at h | simp only[wQ]at h))<;>((first|refine rg ?_|refine rd z_ ?_);(conv=>whnf);repeat((first|refine aF ?_|refine aT ?_);(first|refine rg ?_|refine rd z_ ?_);(conv=>whnf)))) | (refine Aq rfl (.cons .tmp .nil) ?_ rfl) | (refine⟨z_,?_⟩;((conv=>whnf);repeat((first|refine aF ?_|refine aT ?_);(first|refine rg ?_|refine rd z_ ?_);(conv=>whnf)))) | (refine⟨by (first | (unfold I64;omega) | omega | (simp only[yL];omega) | done),by (first | (unfold I64;omega) | omega | (simp only[yL];omega) | done),?_⟩;((conv=>whnf);repeat((first|refine aF ?_|refine aT ?_);(first|refine rg ?_|refine rd z_ ?_);(conv=>whnf)))) | (refine⟨by (first | (unfold I64;omega) | omega | (simp only[yL];omega) | done),?_⟩;((conv=>whnf);repeat((first|refine aF ?_|refine aT ?_);(first|refine rg ?_|refine rd z_ ?_);(conv=>whnf)))) | (refine c0 (Aha _ _ hl) F371 ?_;((first|refine rg ?_|refine rd z_ ?_);(conv=>whnf);repeat((first|refine aF ?_|refine aT ?_);(first|refine rg ?_|refine rd z_ ?_);(conv=>whnf)))) | (refine cD (Aha _ _ hl) F371 ?_;((first|refine rg ?_|refine rd z_ ?_);(conv=>whnf);repeat((first|refine aF ?_|refine aT ?_);(first|refine rg ?_|refine rd z_ ?_);(conv=>whnf))))))
 exact zG Ab (Ji _ _).symm
theorem ovVniS (n:Net) (hn:n.Fin) (l:LineM) (hl:LineW l):Sp 238 [Al n,A0 l] (.tup [Al (putVni n l).1,Aa (putVni n l).2]):=cT F238 Tryz.ntmps238 λ F hF=>by
 have hok:=@beg_ok n l 6
 have hres:=putVni.eq_1 n l
 have q1:=Mp n hn l hl 6
 have qcopy:=Qm n hn
 generalize putVni n l=res at *
 generalize begT n l 6=b at *
 obtain ⟨d,e⟩:=b
 dsimp only at hres hok q1
 by_cases h1:e≠0
 ·have g1:(e != 0)=true:=by rw[yQ];exact h1
  rw[zE h1]at hres
  subst hres
  refine T ?_
  refine C q1 F307 ?_
  refine Ai 4 (Cw emptyN) E vL ?_
  refine T ?_
  exact D
 have g1:(e != 0)=false:=by rw[bne_eq_false_iff_eq];omega
 rw[zD h1]at hres
 obtain ⟨_,hr,i,hi,hlt⟩:=hok q_
 subst hi
 clear hok
 have hlt0:((i:Nat):Int).toNat<n.devices.length:=hlt
 have hnth:nth n.devices (i:Int)=n.devices[((i:Nat):Int).toNat]'hlt0:=Aj hlt0
 rw[hnth]at hres
 have q2:=J3 n hn hr (i:Int) l.vlan
 have q3:=Xk n hn (i:Int) l.num
 have hdr:Jm n (i:Int) l.vlan<0∨∃ k:Nat,Jm n (i:Int) l.vlan=k∧k<n.domains.length:=by
  by_cases h:Jm n (i:Int) l.vlan<0
  ·exact .inl h
  ·exact .inr (I4 h)
 generalize Jm n (i:Int) l.vlan=dm at *
 by_cases h2:(n.devices[((i:Nat):Int).toNat]'hlt0).vtep=0
 ·have g2:((n.devices[((i:Nat):Int).toNat]'hlt0).vtep == 0)=true:=by rw[yF];exact h2
  rw[zE h2]at hres
  subst hres
  refine T ?_
  refine C q1 F307 ?_
  refine C q2 F129 ?_
  refine Ai 4 (Cw emptyN) E vL ?_
  refine T ?_
  exact D
 have g2:((n.devices[((i:Nat):Int).toNat]'hlt0).vtep == 0)=false:=by rw[zL];exact h2
 rw[zD h2]at hres
 by_cases h3:dm<0
 ·have g3:decide (dm<0)=true:=zR h3
  rw[zE h3]at hres
  subst hres
  refine T ?_
  refine C q1 F307 ?_
  refine C q2 F129 ?_
  refine Ai 4 (Cw emptyN) E vL ?_
  refine T ?_
  exact D
 have g3:decide (dm<0)=false:=zI h3
 rw[zD h3]at hres
 obtain ⟨k,hk,hkl⟩:=hdr.resolve_left h3
 subst hk
 clear hdr
 have hkl0:((k:Nat):Int).toNat<n.domains.length:=hkl
 have hnd:nth n.domains (k:Int)=n.domains[((k:Nat):Int).toNat]'hkl0:=Aj hkl0
 rw[hnd]at hres
 by_cases h4:(n.domains[((k:Nat):Int).toNat]'hkl0).vni≠0
 ·have g4:((n.domains[((k:Nat):Int).toNat]'hkl0).vni != 0)=true:=by rw[yQ];exact h4
  rw[zE (.inl h4)]at hres
  subst hres
  refine T ?_
  refine C q1 F307 ?_
  refine C q2 F129 ?_
  refine Ai 4 (Cw emptyN) E vL ?_
  refine T ?_
  exact D
 have g4:((n.domains[((k:Nat):Int).toNat]'hkl0).vni != 0)=false:=by rw[bne_eq_false_iff_eq];omega
 by_cases h5:0≤Q3 n (i:Int) l.num
 ·have g5:decide (Q3 n (i:Int) l.num≥0)=true:=zR h5
  rw[zE (.inr h5)]at hres
  subst hres
  refine T ?_
  refine C q1 F307 ?_
  refine C q2 F129 ?_
  refine C q3 F244 ?_
  refine Ai 4 (Cw emptyN) E vL ?_
  refine T ?_
  exact D
 have g5:decide (Q3 n (i:Int) l.num≥0)=false:=zI h5
 rw[zD (λ h=>h.elim h4 h5)]at hres
 have hne:n.domains≠[]:=λ e=>by rw[e]at hkl;cases hkl
 have hne2:∀ x,n.domains.set ((k:Nat):Int).toNat x≠[]:=λ x e=>by
  have:=zG List.length e
  rw[yW]at this
  simp at this;exact hne this
 have hk2:∀ x,((k:Nat):Int).toNat<(n.domains.set ((k:Nat):Int).toNat x).length:=λ x=>by rw[yW];exact hkl0
 have hset:∀ x y,(n.domains.set ((k:Nat):Int).toNat x).set ((k:Nat):Int).toNat y=n.domains.set ((k:Nat):Int).toNat y:=λ x y=>List.set_set ..
 have hget:∀ x,(n.domains.set ((k:Nat):Int).toNat x)[((k:Nat):Int).toNat]'(hk2 x)=x:=λ x=>uI ..
 rw[← hset (⟨(n.domains[((k:Nat):Int).toNat]'hkl0).dev,(n.domains[((k:Nat):Int).toNat]'hkl0).vlan,l.num,(n.domains[((k:Nat):Int).toNat]'hkl0).irb,(n.domains[((k:Nat):Int).toNat]'hkl0).row,(n.domains[((k:Nat):Int).toNat]'hkl0).peers⟩:Domain) (⟨(n.domains[((k:Nat):Int).toNat]'hkl0).dev,(n.domains[((k:Nat):Int).toNat]'hkl0).vlan,l.num,(n.domains[((k:Nat):Int).toNat]'hkl0).irb,l.row,(n.domains[((k:Nat):Int).toNat]'hkl0).peers⟩:Domain)]at hres
 subst hres
 refine T ?_
 refine C q1 F307 ?_
 refine C q2 F129 ?_
 refine C q3 F244 ?_
 refine X (Ad [(0,901),(1,902),(2,903),(3,904),(4,905),(5,906),(6,907),(7,908)] E F79 qcopy E W E V) ?_
 refine⟨hne,?_⟩
 refine T ?_
 refine⟨(⟨(n.domains[((k:Nat):Int).toNat]'hkl0).dev,(n.domains[((k:Nat):Int).toNat]'hkl0).vlan,l.num,(n.domains[((k:Nat):Int).toNat]'hkl0).irb,(n.domains[((k:Nat):Int).toNat]'hkl0).row,(n.domains[((k:Nat):Int).toNat]'hkl0).peers⟩:Domain),E,E,?_⟩
 refine T ?_
 refine⟨hk2 _,?_⟩
 refine T ?_
 refine⟨hne2 _,?_⟩
 refine T ?_
 refine⟨hk2 _,(⟨(n.domains[((k:Nat):Int).toNat]'hkl0).dev,(n.domains[((k:Nat):Int).toNat]'hkl0).vlan,l.num,(n.domains[((k:Nat):Int).toNat]'hkl0).irb,l.row,(n.domains[((k:Nat):Int).toNat]'hkl0).peers⟩:Domain),by rw[hget];rfl,by rw[hget];rfl,?_⟩
 refine T ?_
 refine Ag 901 E ?_
 refine Ag 902 E ?_
 refine Ag 903 E ?_
 refine Ag 904 E ?_
 refine Ag 905 E ?_
 refine Ag 906 E ?_
 refine Ag 907 E ?_
 refine Ag 908 E ?_
 exact D
theorem Aw4 (n:Net) (hn:n.Fin) (l:LineM) (hl:LineW l):Sp 239 [Al n,A0 l] (.tup [Al (putFlood n l).1,Aa (putFlood n l).2]):=cT F239 Tryz.ntmps239 λ F hF=>by
 have hok:=@beg_ok n l 7
 have hres:=putFlood.eq_1 n l
 have q1:=Mp n hn l hl 7
 have qcopy:=Qm n hn
 generalize putFlood n l=res at *
 generalize begT n l 7=b at *
 obtain ⟨d,e⟩:=b
 dsimp only at hres hok q1
 by_cases h1:e≠0
 ·have g1:(e != 0)=true:=by rw[yQ];exact h1
  rw[zE h1]at hres
  subst hres
  refine T ?_
  refine C q1 F307 ?_
  refine Ai 4 (Cw emptyN) E vL ?_
  refine T ?_
  exact D
 have g1:(e != 0)=false:=by rw[bne_eq_false_iff_eq];omega
 rw[zD h1]at hres
 obtain ⟨_,hr,i,hi,hlt⟩:=hok q_
 subst hi
 clear hok
 have hlt0:((i:Nat):Int).toNat<n.devices.length:=hlt
 have hnth:nth n.devices (i:Int)=n.devices[((i:Nat):Int).toNat]'hlt0:=Aj hlt0
 rw[hnth]at hres
 have hla:=hl.fin.a
 have q2:=Xk n hn (i:Int) l.num
 have q3:=Aiu n hn (i:Int) l.num
 have q4:=Qn l.addrs (n.devices[((i:Nat):Int).toNat]'hlt0).vtep (by unfold Ak;omega)
 have q5:=Zx l.addrs q_
 generalize Q3 n (i:Int) l.num=v2 at *
 generalize Jq n (i:Int) l.num=v3 at *
 generalize inB l.addrs (n.devices[((i:Nat):Int).toNat]'hlt0).vtep=v4 at *
 by_cases h2:v2<0
 ·have g2:decide (v2<0)=true:=zR h2
  rw[zE h2]at hres
  subst hres
  refine T ?_
  refine C q1 F307 ?_
  refine C q2 F244 ?_
  refine Ai 4 (Cw emptyN) E vL ?_
  refine T ?_
  exact D
 have g2:decide (v2<0)=false:=zI h2
 rw[zD h2]at hres
 by_cases h3:0≤v3
 ·have g3:decide (v3≥0)=true:=zR h3
  rw[zE h3]at hres
  subst hres
  refine T ?_
  refine C q1 F307 ?_
  refine C q2 F244 ?_
  refine C q3 F243 ?_
  refine Ai 4 (Cw emptyN) E vL ?_
  refine T ?_
  exact D
 have g3:decide (v3≥0)=false:=zI h3
 rw[zD h3]at hres
 cases v4 with
 | true =>
  rw[zE rfl]at hres
  subst hres
  refine T ?_
  refine C q1 F307 ?_
  refine C q2 F244 ?_
  refine C q3 F243 ?_
  refine C q4 F308 ?_
  refine Ai 4 (Cw emptyN) E vL ?_
  refine T ?_
  exact D
 | false =>
  rw[zD y_]at hres
  by_cases h5:n.floods.length=48
  ·have g5:((n.floods.length:Int) == 48)=true:=by rw[yF];omega
   rw[zE h5]at hres
   subst hres
   refine T ?_
   refine C q1 F307 ?_
   refine C q2 F244 ?_
   refine C q3 F243 ?_
   refine C q4 F308 ?_
   refine Ai 4 (Cw emptyN) E vL ?_
   refine T ?_
   exact D
  have g5:((n.floods.length:Int) == 48)=false:=by rw[zL];omega
  rw[zD h5]at hres
  subst hres
  have hfl:n.floods.length<2147483648:=hn.floods
  refine T ?_
  refine C q1 F307 ?_
  refine C q2 F244 ?_
  refine C q3 F243 ?_
  refine C q4 F308 ?_
  refine X (Ad [(0,901),(1,902),(2,903),(3,904),(4,905),(5,906),(6,907),(7,908)] E F79 qcopy E W E V) ?_
  refine C q5 F145 ?_
  refine Xd (Ae Γ.toTy 66 E E E E E (.row E) (.lit (e:=Be) (l:=[(⟨l.row,(i:Int),l.num,l.addrs⟩:Flood)]) E E) j_ (by simp only[yK];omega) (by simp only[yK];omega)) ?_
  refine T ?_
  refine Ag 901 E ?_
  refine Ag 902 E ?_
  refine Ag 903 E ?_
  refine Ag 904 E ?_
  refine Ag 905 E ?_
  refine Ag 66 E ?_
  refine Ag 907 E ?_
  refine Ag 908 E ?_
  exact D
theorem Azp (n:Net) (hn:n.Fin) (l:LineM) (hl:LineW l):Sp 240 [Al n,A0 l] (.tup [Al (putVrf n l).1,Aa (putVrf n l).2]):=cT F240 Tryz.ntmps240 λ F hF=>by
 have hok:=@beg_ok n l 8
 have hres:=putVrf.eq_1 n l
 have q1:=Acf n hn l hl 8
 have qcopy:=Qm n hn
 generalize putVrf n l=res at *
 generalize begT n l 8=b at *
 obtain ⟨d,e⟩:=b
 dsimp only at hres hok q1
 by_cases h1:e≠0
 ·have g1:(e != 0)=true:=by rw[yQ];exact h1
  rw[zE h1]at hres
  subst hres
  refine T ?_
  refine C q1 F309 ?_
  refine Ai 4 (Cw emptyN) E vL ?_
  refine T ?_
  exact D
 have g1:(e != 0)=false:=by rw[bne_eq_false_iff_eq];omega
 rw[zD h1]at hres
 obtain ⟨_,hr,i,hi,hlt⟩:=hok q_
 subst hi
 clear hok
 have hlt0:((i:Nat):Int).toNat<n.devices.length:=hlt
 have hnth:nth n.devices (i:Int)=n.devices[((i:Nat):Int).toNat]'hlt0:=Aj hlt0
 clear hnth
 have hli:=hl.fin.i
 have hle:=hl.fin.e
 have q2:=Agu n hn hr (i:Int) l.name
 have q5:=Ec l.imports q_
 have q6:=Ec l.exports q_
 have hfl:n.vrfs.length<2147483648:=hn.vrfs
 generalize Avi n (i:Int) l.name=v2 at *
 by_cases h2:0≤v2
 ·have g2:decide (v2≥0)=true:=zR h2
  rw[zE h2]at hres
  subst hres
  refine T ?_
  refine C q1 F309 ?_
  refine C q2 F310 ?_
  refine Ai 4 (Cw emptyN) E vL ?_
  refine T ?_
  exact D
 have g2:decide (v2≥0)=false:=zI h2
 rw[zD h2]at hres
 by_cases h5:n.vrfs.length=16
 ·have g5:((n.vrfs.length:Int) == 16)=true:=by rw[yF];omega
  rw[zE h5]at hres
  subst hres
  refine T ?_
  refine C q1 F309 ?_
  refine C q2 F310 ?_
  refine Ai 4 (Cw emptyN) E vL ?_
  refine T ?_
  exact D
 have g5:((n.vrfs.length:Int) == 16)=false:=by rw[zL];omega
 rw[zD h5]at hres
 subst hres
 refine T ?_
 refine C q1 F309 ?_
 refine C q2 F310 ?_
 refine X (Ad [(0,901),(1,902),(2,903),(3,904),(4,905),(5,906),(6,907),(7,908)] E F79 qcopy E W E V) ?_
 refine C q5 F144 ?_
 refine C q6 F144 ?_
 refine Xd (Ae Γ.toTy 51 E E E E E (.row E) (.lit (e:=Ca) (l:=[(⟨l.row,(i:Int),l.name,l.imports,l.exports⟩:Vrf)]) E E) j_ (by simp only[yK];omega) (by simp only[yK];omega)) ?_
 refine T ?_
 refine Ag 901 E ?_
 refine Ag 902 E ?_
 refine Ag 903 E ?_
 refine Ag 904 E ?_
 refine Ag 905 E ?_
 refine Ag 906 E ?_
 refine Ag 51 E ?_
 refine Ag 908 E ?_
 exact D
theorem Agq {a b x:Int} (hb:0≤b∧b≤32) (ha:0≤a∧a<4294967296) (hx:0≤x∧x<4294967296):Ami a b x=Zk a b x:=by
 obtain ⟨y,rfl⟩:=xA ha.1
 obtain ⟨z,rfl⟩:=xA hx.1
 obtain ⟨k,hk,hk2⟩:∃ k:Nat,(32-b).toNat=k∧k≤32:=⟨_,rfl,by omega⟩
 have hq:0<2 ^ k:=Nat.two_pow_pos k
 rw[Ami,Ago b hb,hk,Axq y z k q_ q_ hk2,Zk,zR hb.1,zR hb.2,zZ,zZ,Jw y k b hb hk,Jw z k b hb hk]
 generalize 2 ^ k=q at *
 have h1:=vR y q
 have h2:=vR z q
 have e1:y-y % q=q * (y / q):=by omega
 have e2:z-z % q=q * (z / q):=by omega
 rw[e1,e2,wA,zQ,yF]
 constructor
 ·intro h;rw[h]
 ·intro h
  exact Nat.eq_of_mul_eq_mul_left hq (by exact_mod_cast h)
theorem clashS (n:Net) (x:Irb) (hv:0≤x.vrf∧x.vrf.toNat<n.vrfs.length) (hb:0≤x.bits∧x.bits≤32) (hx:0≤x.addr∧x.addr<4294967296) (dev a b:Int) (ha:0≤a∧a<4294967296) (hb2:0≤b∧b≤32) :
  Sp 312 [Al n,B3 x,Aa dev,Ark a b] (Ab (clashB n dev a b x)):=cT F312 Tryz.ntmps312 λ F hF=>by
 have q1:=Afc x.addr x.bits a hb
 have q2:=Afc a b x.addr hb2
 rw[Agq hb hx ha]at q1
 rw[Agq hb2 ha hx]at q2
 have hc:=clashB.eq_1 n dev a b x
 have hv0:=hv.2
 rw[Aj hv0]at hc
 generalize clashB n dev a b x=r at *
 generalize Zk x.addr x.bits a=p1 at *
 generalize Zk a b x.addr=p2 at *
 cases h1:(x.addr == a) with
 | true =>
  rw[h1,tN]at hc
  subst hc
  refine T ?_
  exact D
 | false =>
  rw[h1,uP]at hc
  cases h2:((n.vrfs[x.vrf.toNat]'hv0).dev != dev) with
  | false =>
   rw[h2,yA]at hc
   subst hc
   refine T ?_
   exact D
  | true =>
   rw[h2,zZ]at hc
   cases p1 with
   | true =>
    rw[tN]at hc
    subst hc
    refine T ?_
    refine C q1 F338 ?_
    exact D
   | false =>
    rw[uP]at hc
    subst hc
    refine T ?_
    refine C q1 F338 ?_
    refine C q2 F338 ?_
    exact D
theorem irbC (n:Net) (x:Irb) (hv:0≤x.vrf∧x.vrf.toNat<n.vrfs.length) (hb:0≤x.bits∧x.bits≤32) (hx:0≤x.addr∧x.addr<4294967296) (dev:Int) (l:LineM) (ha:0≤l.addr∧l.addr<4294967296) (hb2:0≤l.bits∧l.bits≤32) :
  Sp 311 [B3 x,.ref 8 (Al n) 0,.ref 1 (Aa dev) 0,.ref 17 (A0 l) 0] (Ab (clashB n dev l.addr l.bits x)):=cT F311 Tryz.ntmps311 λ F hF=>by
 have q:=clashS n x hv hb hx dev l.addr l.bits ha hb2
 generalize clashB n dev l.addr l.bits x=r at *
 refine T ?_
 refine C q F312 ?_
 exact D
theorem Ap7 {n:Net} {l:LineM} {k:Int} (h:fitsB n l k=true):l.kind=k∧Cm l=true∧Ac n=true:=by
 unfold fitsB at h
 simp only[zH,yF]at h
 exact⟨h.1,h.2.1,h.2.2⟩
theorem Aov {l:LineM} (h:Cm l=true) (hk:l.kind=9):0≤l.bits∧l.bits≤32:=by
 rw[Cm,zH]at h
 have:=h.1
 simp[Bo,hk]at this
 have:=Z5 this.2.2
 omega
theorem A0p (n:Net) (hn:n.Fin) (ha:C8 n) (l:LineM) (hl:LineW l):Sp 241 [Al n,A0 l] (.tup [Al (putIrb n l).1,Aa (putIrb n l).2]):=cT F241 Tryz.ntmps241 λ F hF=>by
 have hok:=@beg_ok n l 9
 have hres:=putIrb.eq_1 n l
 have q1:=Acf n hn l hl 9
 have qcopy:=Qm n hn
 generalize putIrb n l=res at *
 generalize begT n l 9=b at *
 obtain ⟨d,e⟩:=b
 dsimp only at hres hok q1
 by_cases h1:e≠0
 ·have g1:(e != 0)=true:=by rw[yQ];exact h1
  rw[zE h1]at hres
  subst hres
  refine T ?_
  refine C q1 F309 ?_
  refine Ai 4 (Cw emptyN) E vL ?_
  refine T ?_
  exact D
 have g1:(e != 0)=false:=by rw[bne_eq_false_iff_eq];omega
 rw[zD h1]at hres
 obtain ⟨hfit,hr,i,hi,hlt⟩:=hok q_
 subst hi
 clear hok
 have hlt0:((i:Nat):Int).toNat<n.devices.length:=hlt
 have hnth:nth n.devices (i:Int)=n.devices[((i:Nat):Int).toNat]'hlt0:=Aj hlt0
 clear hnth
 obtain ⟨hk9,hrl,_⟩:=Ap7 hfit
 have hbits:=Aov hrl hk9
 have q2:=Agu n hn hr (i:Int) l.name
 have q3:=J3 n hn hr (i:Int) l.vlan
 have hirb:∀ x∈n.irbs,(0≤x.vrf∧x.vrf.toNat<n.vrfs.length)∧(0≤x.bits∧x.bits≤32):=λ x hx=>by
  obtain ⟨j,hj,rfl⟩:=vA hx
  have:=A1r hr hj
  simp only[Apv,An,zH,zQ]at this
  omega
 have qc:=Jn n.irbs (clashB n (i:Int) l.addr l.bits) 311 [] [.ref 8 (Al n) 0,.ref 1 (Aa (i:Int)) 0,.ref 17 (A0 l) 0] rfl (λ x hx=>⟨⟨_,_,F311⟩,irbC n x (hirb x hx).1 (hirb x hx).2 (ha x hx) (i:Int) l hl.ok.addr hbits⟩) hn.irbs
 rw[Ji]at qc
 have hdr:Jm n (i:Int) l.vlan<0∨∃ k:Nat,Jm n (i:Int) l.vlan=k∧k<n.domains.length:=by
  by_cases h:Jm n (i:Int) l.vlan<0
  ·exact .inl h
  ·exact .inr (I4 h)
 generalize Avi n (i:Int) l.name=v2 at *
 generalize Jm n (i:Int) l.vlan=dm at *
 generalize n.irbs.any (clashB n (i:Int) l.addr l.bits)=cl at *
 by_cases h2:v2<0
 ·have g2:decide (v2<0)=true:=zR h2
  rw[zE h2]at hres
  subst hres
  refine T ?_
  refine C q1 F309 ?_
  refine C q2 F310 ?_
  refine C q3 F129 ?_
  refine Ai 4 (Cw emptyN) E vL ?_
  refine T ?_
  exact D
 have g2:decide (v2<0)=false:=zI h2
 rw[zD h2]at hres
 by_cases h3:dm<0
 ·have g3:decide (dm<0)=true:=zR h3
  rw[zE h3]at hres
  subst hres
  refine T ?_
  refine C q1 F309 ?_
  refine C q2 F310 ?_
  refine C q3 F129 ?_
  refine Ai 4 (Cw emptyN) E vL ?_
  refine T ?_
  exact D
 have g3:decide (dm<0)=false:=zI h3
 rw[zD h3]at hres
 obtain ⟨k,hk,hkl⟩:=hdr.resolve_left h3
 subst hk
 clear hdr
 have hkl0:((k:Nat):Int).toNat<n.domains.length:=hkl
 have hnd:nth n.domains (k:Int)=n.domains[((k:Nat):Int).toNat]'hkl0:=Aj hkl0
 rw[hnd]at hres
 by_cases h4:0≤(n.domains[((k:Nat):Int).toNat]'hkl0).irb
 ·have g4:decide ((n.domains[((k:Nat):Int).toNat]'hkl0).irb≥0)=true:=zR h4
  rw[zE (.inl h4)]at hres
  subst hres
  refine T ?_
  refine C q1 F309 ?_
  refine C q2 F310 ?_
  refine C q3 F129 ?_
  refine Ai 4 (Cw emptyN) E vL ?_
  refine T ?_
  exact D
 have g4:decide ((n.domains[((k:Nat):Int).toNat]'hkl0).irb≥0)=false:=zI h4
 cases cl with
 | true =>
  rw[zE (.inr rfl)]at hres
  subst hres
  refine T ?_
  refine C q1 F309 ?_
  refine C q2 F310 ?_
  refine C q3 F129 ?_
  refine A7 2 8 (Al n) E E E ?_
  refine A7 3 17 (A0 l) E E E ?_
  refine A7 6 1 (Aa (i:Int)) E E E ?_
  refine C qc F256 ?_
  refine Ai 4 (Cw emptyN) E vL ?_
  refine T ?_
  exact D
 | false =>
  rw[zD (λ h=>h.elim h4 y_)]at hres
  subst hres
  have hne:n.domains≠[]:=λ e=>by rw[e]at hkl;cases hkl
  have hfl:n.irbs.length<2147483648:=hn.irbs
  refine T ?_
  refine C q1 F309 ?_
  refine C q2 F310 ?_
  refine C q3 F129 ?_
  refine A7 2 8 (Al n) E E E ?_
  refine A7 3 17 (A0 l) E E E ?_
  refine A7 6 1 (Aa (i:Int)) E E E ?_
  refine C qc F256 ?_
  refine X (Ad [(0,901),(1,902),(2,903),(3,904),(4,905),(5,906),(6,907),(7,908)] E F79 qcopy E W E V) ?_
  refine⟨hne,?_⟩
  refine T ?_
  refine⟨(⟨(n.domains[((k:Nat):Int).toNat]'hkl0).dev,(n.domains[((k:Nat):Int).toNat]'hkl0).vlan,(n.domains[((k:Nat):Int).toNat]'hkl0).vni,(n.irbs.length:Int),(n.domains[((k:Nat):Int).toNat]'hkl0).row,(n.domains[((k:Nat):Int).toNat]'hkl0).peers⟩:Domain),E,E,?_⟩
  refine T ?_
  refine X (Ae Γ.toTy 77 E E E E E (.row E) (.lit (e:=B3) (l:=[(⟨l.row,(k:Int),v2,l.addr,l.bits⟩:Irb)]) E E) j_ (by simp only[yK];omega) (by simp only[yK];omega)) ?_
  refine Ag 901 E ?_
  refine Ag 902 E ?_
  refine Ag 903 E ?_
  refine Ag 904 E ?_
  refine Ag 905 E ?_
  refine Ag 906 E ?_
  refine Ag 907 E ?_
  refine Ag 77 E ?_
  exact D
theorem Xz (l:List Static) (p:Static→Bool) (f:FuncId) (first cap:List SV) (hc:(SV.clo (.func f) first cap).inn []=true) (hf:∀ x∈l,D9 Tryz.prog f (first++[Az x]++cap) (Ab (p x))) (hl:Ak l) :
  Sp 369 [.sl 4 Az l,.clo (.func f) first cap] (Aa (Co p l)):=cT F369 Tryz.ntmps369 λ F hF=>by
 unfold Ak at hl
 have hin:∀ x:Static,By [] (first++[Az x]++cap)=true:=λ x=>Cs hc rfl
 refine fW ?_
 refine A5 l.length (λ j=>Hc (λ _ x=>!(p x)) l j) (λ j=>[(0,.sl 4 Az l),(1,.clo (.func f) first cap),(7,Aa l.length),(8,Aa j)]) (λ _=>[]) [] (Bj _ _) ⟨⟨E,E,A8 _,hc,E,E,E,E,Y⟩,Y,E,E⟩ ?_
 intro j hj hI
 refine fU ?_
 constructor<;>intro h
 ·have h:=zK h
  have hj2:j<l.length:=by omega
  refine fU ?_
  refine⟨E,by omega,by omega,?_⟩
  refine fW ?_
  refine Dj (hf l[j] (zJ hj2)) E E E (by simp only[hin];rfl) E E ?_
  refine fU ?_
  constructor<;>intro h2
  ·refine fU ?_
   refine Aq E (.cons .tmp .nil) (zG Aa ?_) E
   exact Cr hj2 (λ i hi hij=>by simpa using hI i hi hij) h2
  ·refine fU ?_
   refine iL ?_
   refine fW ?_
   exact A4 [] hI hj2 (Bh hI hj2 (by simp[h2])) ⟨⟨E,E,A8 _,hc,E,E,E,E,Y⟩,Y,E,E⟩
 ·have h:=zT h
  refine fU ?_
  refine Aq E (.cons .tmp .nil) (zG Aa ?_) E
  exact C7 (λ i hi=>by simpa using hI i hi q_)
theorem Axf (dom m:Int) (s:Static):Sp 370 [Az s,.ref 1 (Aa dom) 0,.ref 1 (Bf m) 0] (Ab (s.domain == dom && s.mac == m)):=cT F370 Tryz.ntmps370 λ F hF=>by
 cases h:(s.domain == dom)
 ·refine T ?_
  exact D
 ·refine T ?_
  exact D
theorem Axe (n:Net) (hn:n.Fin) (dom m:Int):Sp 306 [Al n,Aa dom,Bf m] (Aa (Aji n dom m)):=cT F306 Tryz.ntmps306 λ F hF=>by
 have q:=Xz n.statics (λ s:Static=>s.domain == dom && s.mac == m) 370 [] [.ref 1 (Aa dom) 0,.ref 1 (Bf m) 0] rfl (λ x _=>⟨⟨_,_,F370⟩,Axf dom m x⟩) hn.statics
 refine fW ?_
 refine A7 4 1 (Aa dom) E E E ?_
 refine A7 5 1 (Bf m) E E E ?_
 refine c0 q F369 ?_
 refine fU ?_
 exact dN
theorem Aoh (n:Net) (hn:n.Fin) (l:LineM) (hl:LineW l):Sp 236 [Al n,A0 l] (.tup [Al (putStatic n l).1,Aa (putStatic n l).2]):=cT F236 Tryz.ntmps236 λ F hF=>by
 have qr:=Js l hl
 have qn:=Ax n hn
 have qcopy:=Qm n hn
 have hres:=putStatic.eq_1 n l
 dsimp only at hres
 have hf:=fitsB.eq_1 n l 4
 generalize putStatic n l=res at *
 generalize fitsB n l 4=f at *
 cases h1:(l.kind == 4) with
 | false =>
  have g1:(l.kind != 4)=true:=by rw[bne,h1];rfl
  rw[h1,yA]at hf
  rw[hf,zE rfl]at hres
  subst hres
  refine T ?_
  refine Ai 4 (Cw emptyN) E vL ?_
  refine T ?_
  exact D
 | true =>
 have g1:(l.kind != 4)=false:=by rw[bne,h1];rfl
 rw[h1,zZ]at hf
 cases h2:Cm l with
 | false =>
  rw[h2]at qr hf
  rw[hf,yA,zE rfl]at hres
  subst hres
  refine T ?_
  refine C qr F304 ?_
  refine Ai 4 (Cw emptyN) E vL ?_
  refine T ?_
  exact D
 | true =>
 rw[h2]at qr hf
 cases hr:Ac n with
 | false =>
  rw[hr]at qn hf
  rw[hf,wL,zE rfl]at hres
  subst hres
  refine T ?_
  refine C qr F304 ?_
  refine C qn F24 ?_
  refine Ai 4 (Cw emptyN) E vL ?_
  refine T ?_
  exact D
 | true =>
 rw[hr]at qn hf
 rw[hf,zD y_]at hres
 have q1:=Hz n hn hr l.dev
 have q2:=O9 n hn hr (E4 n l.dev) l.port
 have q3:=J3 n hn hr (E4 n l.dev) l.vlan
 have q5:=Axe n hn (Jm n (E4 n l.dev) l.vlan) l.mac
 have hpr:Q8 n (E4 n l.dev) l.port<0∨∃ k:Nat,Q8 n (E4 n l.dev) l.port=k∧k<n.ports.length:=by
  by_cases h:Q8 n (E4 n l.dev) l.port<0
  ·exact .inl h
  ·exact .inr (I4 h)
 have hfl:n.statics.length<2147483648:=hn.statics
 generalize Q8 n (E4 n l.dev) l.port=pt at *
 generalize Jm n (E4 n l.dev) l.vlan=dm at *
 generalize E4 n l.dev=dv at *
 generalize Aji n dm l.mac=en at *
 by_cases h3:dv<0
 ·have g3:decide (dv<0)=true:=zR h3
  rw[zE (.inl h3)]at hres
  subst hres
  refine T ?_
  refine C qr F304 ?_
  refine C qn F24 ?_
  refine C q1 F71 ?_
  refine C q2 F70 ?_
  refine C q3 F129 ?_
  refine Ai 4 (Cw emptyN) E vL ?_
  refine T ?_
  exact D
 have g3:decide (dv<0)=false:=zI h3
 by_cases h4:pt<0
 ·have g4:decide (pt<0)=true:=zR h4
  rw[zE (.inr h4)]at hres
  subst hres
  refine T ?_
  refine C qr F304 ?_
  refine C qn F24 ?_
  refine C q1 F71 ?_
  refine C q2 F70 ?_
  refine C q3 F129 ?_
  refine Ai 4 (Cw emptyN) E vL ?_
  refine T ?_
  exact D
 have g4:decide (pt<0)=false:=zI h4
 rw[zD (λ h=>h.elim h3 h4)]at hres
 obtain ⟨p,hp,hpl⟩:=hpr.resolve_left h4
 subst hp
 clear hpr
 have hp0:((p:Nat):Int).toNat<n.ports.length:=hpl
 have hnp:nth n.ports (p:Int)=n.ports[((p:Nat):Int).toNat]'hp0:=Aj hp0
 rw[hnp]at hres
 by_cases h5:dm<0
 ·have g5:decide (dm<0)=true:=zR h5
  rw[zE (.inl h5)]at hres
  subst hres
  refine T ?_
  refine C qr F304 ?_
  refine C qn F24 ?_
  refine C q1 F71 ?_
  refine C q2 F70 ?_
  refine C q3 F129 ?_
  refine Ai 4 (Cw emptyN) E vL ?_
  refine T ?_
  exact D
 have g5:decide (dm<0)=false:=zI h5
 have q4:=Xo (n.ports[((p:Nat):Int).toNat]'hp0) l.vlan (hn.tagged _ (zJ hp0))
 cases hb:D0 (n.ports[((p:Nat):Int).toNat]'hp0) l.vlan with
 | false =>
  rw[hb]at q4
  rw[zE (.inr hb)]at hres
  subst hres
  refine T ?_
  refine C qr F304 ?_
  refine C qn F24 ?_
  refine C q1 F71 ?_
  refine C q2 F70 ?_
  refine C q3 F129 ?_
  refine C q4 F119 ?_
  refine Ai 4 (Cw emptyN) E vL ?_
  refine T ?_
  exact D
 | true =>
 rw[hb]at q4
 rw[zD (λ h=>h.elim h5 (by rw[hb];simp))]at hres
 by_cases h6:0≤en
 ·have g6:decide (en≥0)=true:=zR h6
  rw[zE h6]at hres
  subst hres
  refine T ?_
  refine C qr F304 ?_
  refine C qn F24 ?_
  refine C q1 F71 ?_
  refine C q2 F70 ?_
  refine C q3 F129 ?_
  refine C q4 F119 ?_
  refine C q5 F306 ?_
  refine Ai 4 (Cw emptyN) E vL ?_
  refine T ?_
  exact D
 have g6:decide (en≥0)=false:=zI h6
 rw[zD h6]at hres
 by_cases h7:n.statics.length=64
 ·have g7:((n.statics.length:Int) == 64)=true:=by rw[yF];omega
  rw[zE h7]at hres
  subst hres
  refine T ?_
  refine C qr F304 ?_
  refine C qn F24 ?_
  refine C q1 F71 ?_
  refine C q2 F70 ?_
  refine C q3 F129 ?_
  refine C q4 F119 ?_
  refine C q5 F306 ?_
  refine Ai 4 (Cw emptyN) E vL ?_
  refine T ?_
  exact D
 have g7:((n.statics.length:Int) == 64)=false:=by rw[zL];omega
 rw[zD h7]at hres
 subst hres
 refine T ?_
 refine C qr F304 ?_
 refine C qn F24 ?_
 refine C q1 F71 ?_
 refine C q2 F70 ?_
 refine C q3 F129 ?_
 refine C q4 F119 ?_
 refine C q5 F306 ?_
 refine X (Ad [(0,901),(1,902),(2,903),(3,904),(4,905),(5,906),(6,907),(7,908)] E F79 qcopy E W E V) ?_
 refine X (Ae Γ.toTy 87 E E E E E (.row E) (.lit (e:=Az) (l:=[(⟨l.row,dm,(p:Int),l.mac⟩:Static)]) E E) j_ (by simp only[yK];omega) (by simp only[yK];omega)) ?_
 refine Ag 901 E ?_
 refine Ag 902 E ?_
 refine Ag 903 E ?_
 refine Ag 904 E ?_
 refine Ag 87 E ?_
 refine Ag 906 E ?_
 refine Ag 907 E ?_
 refine Ag 908 E ?_
 exact D
theorem Al3 (n:Net) (hn:n.Fin) (hr:Ac n=true) (dev port:ByteArray):Sp 305 [Al n,Ao dev,Ao port] (Aa (endI n dev port)):=cT F305 Tryz.ntmps305 λ F hF=>by
 have q1:=Hz n hn hr dev
 have q2:=O9 n hn hr (E4 n dev) port
 have hres:=endI.eq_1 n dev port
 generalize endI n dev port=res at *
 generalize Q8 n (E4 n dev) port=pt at *
 generalize E4 n dev=d at *
 by_cases h:d<0
 ·have g:decide (d<0)=true:=zR h
  rw[zE h]at hres
  subst hres
  refine T ?_
  refine C q1 F71 ?_
  exact D
 ·have g:decide (d<0)=false:=zI h
  rw[zD h]at hres
  subst hres
  refine T ?_
  refine C q1 F71 ?_
  refine C q2 F70 ?_
  exact D
theorem end_range {n:Net} {dev port:ByteArray} (h:¬ endI n dev port<0):∃ k:Nat,endI n dev port=k∧k<n.ports.length:=by
 unfold endI at h ⊢
 split
 ·rename_i h1;rw[zE h1]at h;omega
 ·rename_i h1;rw[zD h1]at h;exact I4 h
theorem Axx (n:Net) (hn:n.Fin) (l:LineM) (hl:LineW l):Sp 235 [Al n,A0 l] (.tup [Al (putLink n l).1,Aa (putLink n l).2]):=cT F235 Tryz.ntmps235 λ F hF=>by
 have qr:=Js l hl
 have qn:=Ax n hn
 have qcopy:=Qm n hn
 have hres:=putLink.eq_1 n l
 dsimp only at hres
 have hf:=fitsB.eq_1 n l 3
 generalize putLink n l=res at *
 generalize fitsB n l 3=f at *
 cases h1:(l.kind == 3) with
 | false =>
  have g1:(l.kind != 3)=true:=by rw[bne,h1];rfl
  rw[h1,yA]at hf
  rw[hf,zE rfl]at hres
  subst hres
  refine T ?_
  refine Ai 4 (Cw emptyN) E vL ?_
  refine T ?_
  exact D
 | true =>
 have g1:(l.kind != 3)=false:=by rw[bne,h1];rfl
 rw[h1,zZ]at hf
 cases h2:Cm l with
 | false =>
  rw[h2]at qr hf
  rw[hf,yA,zE rfl]at hres
  subst hres
  refine T ?_
  refine C qr F304 ?_
  refine Ai 4 (Cw emptyN) E vL ?_
  refine T ?_
  exact D
 | true =>
 rw[h2]at qr hf
 cases hr:Ac n with
 | false =>
  rw[hr]at qn hf
  rw[hf,wL,zE rfl]at hres
  subst hres
  refine T ?_
  refine C qr F304 ?_
  refine C qn F24 ?_
  refine Ai 4 (Cw emptyN) E vL ?_
  refine T ?_
  exact D
 | true =>
 rw[hr]at qn hf
 rw[hf,zD y_]at hres
 have q1:=Al3 n hn hr l.dev l.port
 have q2:=Al3 n hn hr l.peer l.far
 have ra:=@end_range n l.dev l.port
 have rb:=@end_range n l.peer l.far
 have hfl:n.links.length<2147483648:=hn.links
 generalize endI n l.dev l.port=a at *
 generalize endI n l.peer l.far=b at *
 refine T ?_
 refine C qr F304 ?_
 refine C qn F24 ?_
 refine C q1 F305 ?_
 refine C q2 F305 ?_
 refine Xd (Tg Γ.toTy E E E E E E) ?_
 refine T ?_
 refine A7 2 8 (Al n) E E E ?_
 refine A7 3 17 (A0 l) E E E ?_
 refine A7 6 2 (.agg [Aa a,Aa b]) E E E ?_
 refine B6 (λ j:Nat=>j≤2∧(1≤j→¬ a<0)∧(2≤j→¬ b<0)) (λ j=>[(2,.ref 8 (Al n) 0),(3,.ref 17 (A0 l) 0),(4,.ptr 1001 0),(6,.ref 2 (.agg [Aa a,Aa b]) 0),(41,.agg [Aa a,Aa b]),(42,Aa j)]) (λ _=>[(1001,.box [.val (.slice none 0 0),.val (.slice none 0 0),.val (.slice none 0 0),.val (.slice none 0 0),.val (.slice none 0 0),.val (.slice none 0 0),.val (.slice none 0 0),.val (.slice none 0 0)])]) (λ j=>2-j) 0 [(1001,4)] ⟨by omega,by omega,by omega⟩ U ?_
 rintro j ⟨hj,ja,jb⟩
 have hc:j=0∨j=1∨j=2:=by omega
 rcases hc with rfl | rfl | rfl
 ·by_cases ka:a<0
  ·have g1:decide (a<0)=true:=zR ka
   rw[zE (.inl ka)]at hres
   subst hres
   refine T ?_
   refine X (B7 (k:=.int .i64) Γ.toTy E E E Tryz.underlying3 E E j_ j_ E) ?_
   refine Ai 1001 (Cw emptyN) E vL ?_
   refine T ?_
   exact D
  ·have g1:decide (a<0)=false:=zI ka
   refine T ?_
   refine X (B7 (k:=.int .i64) Γ.toTy E E E Tryz.underlying3 E E j_ j_ E) ?_
   exact Av 1 [] ⟨by omega,λ _=>ka,by omega⟩ q_ U
 ·have ka:=ja q_
  by_cases kb:b<0
  ·have g1:decide (b<0)=true:=zR kb
   rw[zE (.inr kb)]at hres
   subst hres
   refine T ?_
   refine X (B7 (k:=.int .i64) Γ.toTy E E E Tryz.underlying3 E E j_ j_ E) ?_
   refine Ai 1001 (Cw emptyN) E vL ?_
   refine T ?_
   exact D
  ·have g1:decide (b<0)=false:=zI kb
   refine T ?_
   refine X (B7 (k:=.int .i64) Γ.toTy E E E Tryz.underlying3 E E j_ j_ E) ?_
   exact Av 2 [] ⟨by omega,λ _=>ka,λ _=>kb⟩ q_ U
 ·have ka:=ja q_
  have kb:=jb q_
  obtain ⟨a,rfl,hal⟩:=ra ka
  obtain ⟨b,rfl,hbl⟩:=rb kb
  rw[zD (λ h=>h.elim ka kb)]at hres
  clear ja jb ra rb hj
  have ha0:((a:Nat):Int).toNat<n.ports.length:=hal
  have hb0:((b:Nat):Int).toNat<n.ports.length:=hbl
  have hna:nth n.ports (a:Int)=n.ports[((a:Nat):Int).toNat]'ha0:=Aj ha0
  have hnb:nth n.ports (b:Int)=n.ports[((b:Nat):Int).toNat]'hb0:=Aj hb0
  rw[hna,hnb]at hres
  by_cases k1:(n.ports[((a:Nat):Int).toNat]'ha0).dev=(n.ports[((b:Nat):Int).toNat]'hb0).dev
  ·have g1:((n.ports[((a:Nat):Int).toNat]'ha0).dev == (n.ports[((b:Nat):Int).toNat]'hb0).dev)=true:=by rw[yF];exact k1
   rw[zE (.inl k1)]at hres
   subst hres
   refine T ?_
   refine Ai 1001 (Cw emptyN) E vL ?_
   refine T ?_
   exact D
  have g1:((n.ports[((a:Nat):Int).toNat]'ha0).dev == (n.ports[((b:Nat):Int).toNat]'hb0).dev)=false:=by rw[zL];exact k1
  by_cases k2:0≤(n.ports[((a:Nat):Int).toNat]'ha0).link
  ·have g2:decide ((n.ports[((a:Nat):Int).toNat]'ha0).link≥0)=true:=zR k2
   rw[zE (.inr (.inl k2))]at hres
   subst hres
   refine T ?_
   refine Ai 1001 (Cw emptyN) E vL ?_
   refine T ?_
   exact D
  have g2:decide ((n.ports[((a:Nat):Int).toNat]'ha0).link≥0)=false:=zI k2
  by_cases k3:0≤(n.ports[((b:Nat):Int).toNat]'hb0).link
  ·have g3:decide ((n.ports[((b:Nat):Int).toNat]'hb0).link≥0)=true:=zR k3
   rw[zE (.inr (.inr k3))]at hres
   subst hres
   refine T ?_
   refine Ai 1001 (Cw emptyN) E vL ?_
   refine T ?_
   exact D
  have g3:decide ((n.ports[((b:Nat):Int).toNat]'hb0).link≥0)=false:=zI k3
  rw[zD (by rintro (h | h | h);exact k1 h;exact k2 h;exact k3 h)]at hres
  by_cases k4:n.links.length=20
  ·have g4:((n.links.length:Int) == 20)=true:=by rw[yF];omega
   rw[zE k4]at hres
   subst hres
   refine T ?_
   refine Ai 1001 (Cw emptyN) E vL ?_
   refine T ?_
   exact D
  have g4:((n.links.length:Int) == 20)=false:=by rw[zL];omega
  rw[zD k4]at hres
  have t1:Vv n.ports (a:Int) (n.links.length:Int)=n.ports.set ((a:Nat):Int).toNat (⟨(n.ports[((a:Nat):Int).toNat]'ha0).row,(n.ports[((a:Nat):Int).toNat]'ha0).dev,(n.ports[((a:Nat):Int).toNat]'ha0).native,(n.ports[((a:Nat):Int).toNat]'ha0).cost,(n.links.length:Int),(n.ports[((a:Nat):Int).toNat]'ha0).name,(n.ports[((a:Nat):Int).toNat]'ha0).tagged⟩:Port):=by rw[Vv,hna]
  have l1:(Vv n.ports (a:Int) (n.links.length:Int)).length=n.ports.length:=by rw[Vv,yW]
  have hne:n.ports≠[]:=λ e=>by rw[e]at hal;cases hal
  obtain ⟨P1,hP1⟩:∃ P1,Vv n.ports (a:Int) (n.links.length:Int)=P1:=⟨_,rfl⟩
  rw[hP1]at hres t1 l1
  have hb1:((b:Nat):Int).toNat<P1.length:=by rw[l1];exact hb0
  have hn1:nth P1 (b:Int)=P1[((b:Nat):Int).toNat]'hb1:=Aj hb1
  have hne1:P1≠[]:=λ e=>by rw[e]at hb1;cases hb1
  have t2:Vv P1 (b:Int) (n.links.length:Int)=P1.set ((b:Nat):Int).toNat (⟨(P1[((b:Nat):Int).toNat]'hb1).row,(P1[((b:Nat):Int).toNat]'hb1).dev,(P1[((b:Nat):Int).toNat]'hb1).native,(P1[((b:Nat):Int).toNat]'hb1).cost,(n.links.length:Int),(P1[((b:Nat):Int).toNat]'hb1).name,(P1[((b:Nat):Int).toNat]'hb1).tagged⟩:Port):=by rw[Vv,hn1]
  obtain ⟨P2,hP2⟩:∃ P2,Vv P1 (b:Int) (n.links.length:Int)=P2:=⟨_,rfl⟩
  rw[hP2]at hres t2
  subst hres
  refine T ?_
  refine X (Ad [(0,901),(1,902),(2,903),(3,904),(4,905),(5,906),(6,907),(7,908)] E F79 qcopy E W E V) ?_
  refine B6 (λ j:Nat=>j≤2) (λ j=>[(3,.ref 17 (A0 l) 0),(4,.ptr 1001 0),(6,.ref 2 (.agg [Aa (a:Int),Aa (b:Int)]) 0),(11,.ptr 1002 0),(86,.agg [Aa (a:Int),Aa (b:Int)]),(87,Aa j)]) (λ j=>[(1001,.box [.val (.slice none 0 0),.val (.slice none 0 0),.val (.slice none 0 0),.val (.slice none 0 0),.val (.slice none 0 0),.val (.slice none 0 0),.val (.slice none 0 0),.val (.slice none 0 0)]),(1002,.box [.osl 901,.osl 902,.osl 903,.osl 904,.osl 905,.osl 906,.osl 907,.osl 908]),(901,.row 5 Au n.devices),(902,.row 7 A3 (if j=0 then n.ports else if j=1 then P1 else P2)),(903,.row 3 Bw n.links),(904,.row 6 Ap n.domains),(905,.row 4 Az n.statics),(906,.row 4 Be n.floods),(907,.row 5 Ca n.vrfs),(908,.row 5 B3 n.irbs)]) (λ j=>2-j) 0 [(1002,11)] q_ U ?_
  intro j hj
  have hc:j=0∨j=1∨j=2:=by omega
  rcases hc with rfl | rfl | rfl
  ·rw[zE rfl]
   refine T ?_
   refine X (B7 (k:=.int .i64) Γ.toTy E E E Tryz.underlying3 E E j_ j_ E) ?_
   refine T ?_
   refine⟨hne,?_⟩
   refine T ?_
   refine⟨(⟨(n.ports[((a:Nat):Int).toNat]'ha0).row,(n.ports[((a:Nat):Int).toNat]'ha0).dev,(n.ports[((a:Nat):Int).toNat]'ha0).native,(n.ports[((a:Nat):Int).toNat]'ha0).cost,(n.links.length:Int),(n.ports[((a:Nat):Int).toNat]'ha0).name,(n.ports[((a:Nat):Int).toNat]'ha0).tagged⟩:Port),E,E,?_⟩
   refine T ?_
   exact Av 1 [] q_ q_ ⟨⟨E,E,E,E,E,E,E,E,E,E,E,E,Y⟩,⟨.inl E,E,.inl E,E,.inl E,E,.inl (zG (Ob.row 7 A3) t1),E,.inl E,E,.inl E,E,.inl E,E,.inl E,E,.inl E,E,.inl E,E,Y⟩,E,E⟩
  ·rw[zD j_,zE rfl]
   refine T ?_
   refine X (B7 (k:=.int .i64) Γ.toTy E E E Tryz.underlying3 E E j_ j_ E) ?_
   refine T ?_
   refine⟨hne1,?_⟩
   refine T ?_
   refine⟨(⟨(P1[((b:Nat):Int).toNat]'hb1).row,(P1[((b:Nat):Int).toNat]'hb1).dev,(P1[((b:Nat):Int).toNat]'hb1).native,(P1[((b:Nat):Int).toNat]'hb1).cost,(n.links.length:Int),(P1[((b:Nat):Int).toNat]'hb1).name,(P1[((b:Nat):Int).toNat]'hb1).tagged⟩:Port),E,E,?_⟩
   refine T ?_
   exact Av 2 [] q_ q_ ⟨⟨E,E,E,E,E,E,E,E,E,E,E,E,Y⟩,⟨.inl E,E,.inl E,E,.inl E,E,.inl (zG (Ob.row 7 A3) t2),E,.inl E,E,.inl E,E,.inl E,E,.inl E,E,.inl E,E,.inl E,E,Y⟩,E,E⟩
  ·rw[zD j_,zD j_]
   refine T ?_
   refine X (Ae Γ.toTy 109 E E E E E (.row E) (.lit (e:=Bw) (l:=[(⟨l.row,(a:Int),(b:Int)⟩:Link)]) E E) j_ (by simp only[yK];omega) (by simp only[yK];omega)) ?_
   refine T ?_
   refine Ag 901 E ?_
   refine Ag 902 E ?_
   refine Ag 109 E ?_
   refine Ag 904 E ?_
   refine Ag 905 E ?_
   refine Ag 906 E ?_
   refine Ag 907 E ?_
   refine Ag 908 E ?_
   exact D
abbrev Aqk (n:Net):Obs:=[(900,.box [.osl 901,.osl 902,.osl 903,.osl 904,.osl 905,.osl 906,.osl 907,.osl 908]),(901,.row 5 Au n.devices),(902,.row 7 A3 n.ports),(903,.row 3 Bw n.links),(904,.row 6 Ap n.domains),(905,.row 4 Az n.statics),(906,.row 4 Be n.floods),(907,.row 5 Ca n.vrfs),(908,.row 5 B3 n.irbs)]
theorem Aah (n:Net) (hn:n.Fin) (l:LineM) (hl:LineW l) (k:Int) (h:fitsB n l k=true):Sq 300 [Al n,A0 l,Aa k] [] (.tup [.ptr 900 0,Ab true]) (Aqk n):=cT F300 Tryz.ntmps300 λ F hF=>by
 have qr:=Js l hl
 have qn:=Ax n hn
 have qcopy:=Qm n hn
 unfold fitsB at h
 simp only[zH]at h
 obtain ⟨h1,h2,h3⟩:=h
 have g1:(l.kind != k)=false:=by rw[bne,h1];rfl
 rw[h2]at qr
 rw[h3]at qn
 refine T ?_
 refine C qr F304 ?_
 refine C qn F24 ?_
 refine X (Ad [(0,901),(1,902),(2,903),(3,904),(4,905),(5,906),(6,907),(7,908)] E F79 qcopy E W E V) ?_
 exact done E (.cons .tmp (.cons .tmp .nil)) [(900,25)] (Aqk n) (λ _ h=>h) E E U
theorem U3 (n:Net) (hn:n.Fin) (l:LineM) (hl:LineW l) (k:Int) (h:fitsB n l k=false):Sp 300 [Al n,A0 l,Aa k] (.tup [.val (.pointer none),Ab false]):=cT F300 Tryz.ntmps300 λ F hF=>by
 have qr:=Js l hl
 have qn:=Ax n hn
 unfold fitsB at h
 cases h1:(l.kind == k) with
 | false =>
  have g1:(l.kind != k)=true:=by rw[bne,h1];rfl
  refine T ?_
  exact D
 | true =>
 have g1:(l.kind != k)=false:=by rw[bne,h1];rfl
 rw[h1,zZ]at h
 cases h2:Cm l with
 | false =>
  rw[h2]at qr
  refine T ?_
  refine C qr F304 ?_
  exact D
 | true =>
 rw[h2]at qr h
 rw[zZ]at h
 rw[h]at qn
 refine T ?_
 refine C qr F304 ?_
 refine C qn F24 ?_
 exact D
theorem Aw3 (l:LineM) (d:Device):Sp 302 [Au d,.ref 17 (A0 l) 0] (Ab (d.name == l.dev || d.mac == l.mac)):=cT F302 Tryz.ntmps302 λ F hF=>by
 cases h:(d.name == l.dev)
 ·refine T ?_
  exact D
 ·refine T ?_
  exact D
theorem Aql (n:Net) (hn:n.Fin) (l:LineM) (hl:LineW l):Sp 233 [Al n,A0 l] (.tup [Al (putDevice n l).1,Aa (putDevice n l).2]):=cT F233 Tryz.ntmps233 λ F hF=>by
 have hres:=putDevice.eq_1 n l
 generalize putDevice n l=res at *
 cases hf:fitsB n l 1 with
 | false =>
  have q1:=U3 n hn l hl 1 hf
  rw[hf,zE rfl]at hres
  subst hres
  refine T ?_
  refine C q1 F300 ?_
  refine Ai 4 (Cw emptyN) E vL ?_
  refine T ?_
  exact D
 | true =>
 have q1:=Aah n hn l hl 1 hf
 rw[hf,zD y_]at hres
 have qc:=Tm n.devices (λ d=>d.name == l.dev || d.mac == l.mac) 302 [] [.ref 17 (A0 l) 0] rfl (λ d _=>⟨⟨_,_,F302⟩,Aw3 l d⟩) hn.devices
 rw[Ji]at qc
 have hfl:n.devices.length<2147483648:=hn.devices
 generalize n.devices.any (λ d=>d.name == l.dev || d.mac == l.mac)=cl at *
 cases cl with
 | true =>
  rw[zE rfl]at hres
  subst hres
  refine T ?_
  refine X (Ad [] E F300 q1 E W E V) ?_
  refine A7 3 17 (A0 l) E E E ?_
  refine X (Hv [901] E F301 qc (.cons (.row E E) (.cons (.refl _) .nil)) E E) ?_
  refine Ai 4 (Cw emptyN) E vL ?_
  refine T ?_
  exact D
 | false =>
 rw[zD y_]at hres
 by_cases h5:n.devices.length=8
 ·have g5:((n.devices.length:Int) == 8)=true:=by rw[yF];omega
  rw[zE h5]at hres
  subst hres
  refine T ?_
  refine X (Ad [] E F300 q1 E W E V) ?_
  refine A7 3 17 (A0 l) E E E ?_
  refine X (Hv [901] E F301 qc (.cons (.row E E) (.cons (.refl _) .nil)) E E) ?_
  refine Ai 4 (Cw emptyN) E vL ?_
  refine T ?_
  exact D
 have g5:((n.devices.length:Int) == 8)=false:=by rw[zL];omega
 rw[zD h5]at hres
 subst hres
 refine T ?_
 refine X (Ad [] E F300 q1 E W E V) ?_
 refine A7 3 17 (A0 l) E E E ?_
 refine X (Hv [901] E F301 qc (.cons (.row E E) (.cons (.refl _) .nil)) E E) ?_
 refine T ?_
 refine Xd (Ae Γ.toTy 52 E E E E E (.row E) (.lit (e:=Au) (l:=[(⟨l.row,l.num,l.dev,l.mac,0⟩:Device)]) E E) j_ (by simp only[yK];omega) (by simp only[yK];omega)) ?_
 refine T ?_
 refine Ag 52 E ?_
 refine Ag 902 E ?_
 refine Ag 903 E ?_
 refine Ag 904 E ?_
 refine Ag 905 E ?_
 refine Ag 906 E ?_
 refine Ag 907 E ?_
 refine Ag 908 E ?_
 exact D
end Go.Sy.YtiijbikecbjdaaaGreatDoor
namespace Go.Sy
theorem Af6 {P:Program} (Γ:Ty P) {o:Oper} {s:SS} (d q:Nat) {α:Type} {e:α→SV} {l:List α} (z:α) {sv:SV} {t:TypeId} {ti:TI} {et:TypeId} {sz eb:Nat} {ez:List Value} {x y:Operand} {k:Option Nat}
  (h:o.op=.call ⟨.builtin .append,#[x,y],#[t,t]⟩) (hd:s.h d=.fresh) (ht:Γ.get t=some ti) (hk:ti.k=.slice et sz eb ez) (hez:ez.length=sz)
  (hb:BaseT s sz e (ev s x) k l) (hy:ev s y=.osl q) (hq:s.h q=.lit sz [sv]) (hv:∀ (M:Nat→Prop) (w:World) (v:Value),RdD M w sv v→RdD M w (e z) v) (hkk:∀ j,k=some j→j≠d) (hbytes:(l.length+1) * eb≤140737488355328) (h63:l.length+1≤9223372036854775807) :
  Good P o s ⟨.osl d,[q],Qq k d (.row sz e (l++[z]))⟩:=by
 obtain ⟨f,hb,hf⟩:=hb.base
 have hs:AppSrc s sz (ev s y) [q] 1 (Afx [sv]):=by
  rw[hy]
  exact AppSrc.lit (sz:=sz) hq
 refine Aaz Γ h hd ht hk hez hb hs hkk hbytes h63 λ κ w hr=>?_
 rcases hr with ⟨_,h2⟩ | ⟨b,cap,cs,T,fr,e1,e2,e3,e4,e5,e6⟩
 ·omega
 ·refine .inr ⟨b,cap,cs,T,fr,by simpa using e1,e2,e3,e4,by simpa using e5,λ i x hx=>?_⟩
  obtain ⟨hi,rfl⟩:=hx
  have hi2:i<l.length+1:=by simpa using hi
  by_cases hl:i<l.length
  ·have hx:rowF e l i ((l++[z])[i] |> e):=⟨hl,by rw[xI hl]⟩
   obtain ⟨a1,a2⟩:=e6 i _ (.inl ⟨hl,hf i _ hx⟩)
   exact⟨by simpa using a1,a2⟩
  ·have hie:i=l.length:=by omega
   subst hie
   obtain ⟨a1,u,hu,hrest⟩:=e6 l.length sv (.inr ⟨yC _,by rw[tO];rfl⟩)
   refine⟨by simp,u,?_,hrest⟩
   have:=hv _ _ u hu
   simpa using this
end Go.Sy
namespace Go.Sy.YtiijbikecbjdaaaGreatDoor
open Go.Proofs
attribute [local irreducible] Go.Sy.G Go.Sy.DR
set_option maxRecDepth 100000
set_option maxHeartbeats 4000000
theorem Ye (dev v:Int) (d:Domain):Sp 366 [Ap d,.ref 1 (Aa dev) 0,.ref 1 (Aa v) 0] (Ab (d.dev == dev && d.vlan == v)):=cT F366 Tryz.ntmps366 λ F hF=>by
 cases h:(d.dev == dev)
 ·refine T ?_
  exact D
 ·refine T ?_
  exact D
abbrev A1t (n:Net) (ds:List Domain):Obs:=[(900,.box [.osl 901,.osl 902,.osl 903,.osl 1904,.osl 905,.osl 906,.osl 907,.osl 908]),(901,.row 5 Au n.devices),(902,.row 7 A3 n.ports),(903,.row 3 Bw n.links),(904,.non),(1904,.row 6 Ap ds),(905,.row 4 Az n.statics),(906,.row 4 Be n.floods),(907,.row 5 Ca n.vrfs),(908,.row 5 B3 n.irbs)]
theorem Ly (n:Net) (hl:n.domains.length<2147483648) (dev v:Int) (hc:¬ (0<v∧n.domains.any (λ d=>d.dev == dev && d.vlan == v)=false)):Sq 303 [.ptr 900 0,Aa dev,Aa v] (Aqk n) (.tup []) (Aqk n):=cT F303 Tryz.ntmps303 λ F hF=>by
 have qc:=Kn n.domains (λ d=>d.dev == dev && d.vlan == v) 366 [] [.ref 1 (Aa dev) 0,.ref 1 (Aa v) 0] rfl (λ d _=>⟨⟨_,_,F366⟩,Ye dev v d⟩) hl
 rw[Ji]at qc
 generalize n.domains.any (λ d=>d.dev == dev && d.vlan == v)=cl at *
 by_cases h1:0<v
 ·have g1:decide (v>0)=true:=zR h1
  cases cl with
  | true =>
   refine T ?_
   refine A7 4 1 (Aa dev) E E E ?_
   refine A7 5 1 (Aa v) E E E ?_
   refine X (Hv [904] E F365 qc (.cons (.row E E) (.cons (.refl _) .nil)) E E) ?_
   exact A1 E .nil [] (Aqk n) (λ _ h=>h) E E U
  | false=>exact yB ⟨h1,rfl⟩ hc
 ·have g1:decide (v>0)=false:=zI h1
  refine T ?_
  exact A1 E .nil [] (Aqk n) (λ _ h=>h) E E U
theorem Ku (n:Net) (hl:n.domains.length<2147483648) (dev v:Int) (hc:0<v∧n.domains.any (λ d=>d.dev == dev && d.vlan == v)=false):Sq 303 [.ptr 900 0,Aa dev,Aa v] (Aqk n) (.tup []) (A1t n (n.domains++[(⟨dev,v,0,-1,0,[]⟩:Domain)])):=cT F303 Tryz.ntmps303 λ F hF=>by
 have qc:=Kn n.domains (λ d=>d.dev == dev && d.vlan == v) 366 [] [.ref 1 (Aa dev) 0,.ref 1 (Aa v) 0] rfl (λ d _=>⟨⟨_,_,F366⟩,Ye dev v d⟩) hl
 rw[Ji,hc.2]at qc
 have g1:decide (v>0)=true:=zR hc.1
 refine T ?_
 refine A7 4 1 (Aa dev) E E E ?_
 refine A7 5 1 (Aa v) E E E ?_
 refine X (Hv [904] E F365 qc (.cons (.row E E) (.cons (.refl _) .nil)) E E) ?_
 refine T ?_
 refine Xd (Af6 Γ.toTy 28 27 (⟨dev,v,0,-1,0,[]⟩:Domain) E E E E E (.row E) E E (λ M w u hu=>Aut (⟨dev,v,0,-1,0,[]⟩:Domain) E hu) j_ q_ q_) ?_
 refine T ?_
 exact A1 E .nil [(1904,28)] (A1t n (n.domains++[(⟨dev,v,0,-1,0,[]⟩:Domain)])) (λ _ h=>h) E E U
theorem Z1 {dev v:Int} {ds:List Domain} (h:¬ (0<v∧ds.any (λ d=>d.dev == dev && d.vlan == v)=false)):D8 dev ds v=ds:=by rw[D8,zD h]
theorem Wi {dev v:Int} {ds:List Domain} (h:0<v∧ds.any (λ d=>d.dev == dev && d.vlan == v)=false):D8 dev ds v=ds++[(⟨dev,v,0,-1,0,[]⟩:Domain)]:=by rw[D8,zE h]
theorem Yt (dev:Int):∀ (l:List Int) (ds:List Domain),(Bp dev ds l).length≤ds.length+l.length
 | [],ds=>by simp[Bp]
 | v::l,ds=>by
  have ih:=Yt dev l (D8 dev ds v)
  have h1:(D8 dev ds v).length≤ds.length+1:=by
   unfold D8
   split<;>simp
  have e:Bp dev ds (v::l)=Bp dev (D8 dev ds v) l:=rfl
  rw[e,yN];omega
theorem Ys (dev:Int) (ds:List Domain) (l:List Int) (v:Int):Bp dev ds (l++[v])=D8 dev (Bp dev ds l) v:=by
 unfold Bp
 rw[xF];rfl
theorem Awv (n:Net) (hn:n.Fin) (l:LineM) (hl:LineW l):Sp 234 [Al n,A0 l] (.tup [Al (putPort n l).1,Aa (putPort n l).2]):=cT F234 Tryz.ntmps234 λ F hF=>by
 have hres:=putPort.eq_1 n l
 generalize putPort n l=res at *
 cases hf:fitsB n l 2 with
 | false =>
  have q1:=U3 n hn l hl 2 hf
  rw[hf,zE rfl]at hres
  subst hres
  refine T ?_
  refine C q1 F300 ?_
  refine Ai 4 (Cw emptyN) E vL ?_
  refine T ?_
  exact D
 | true =>
 have q1:=Aah n hn l hl 2 hf
 have hr:Ac n=true:=by
  unfold fitsB at hf
  simp only[zH]at hf
  exact hf.2.2
 rw[hf,zD y_]at hres
 have q2:=Hz n hn hr l.dev
 have q3:=O9 n hn hr (E4 n l.dev) l.port
 have hlt:=hl.fin.t
 have q5:=Ec l.tagged q_
 have hfl:n.ports.length≤40∧n.domains.length≤48:=⟨(Ams hr).2.1,(Ams hr).2.2.2.1⟩
 generalize Q8 n (E4 n l.dev) l.port=pt at *
 generalize E4 n l.dev=dv at *
 by_cases h3:dv<0
 ·have g3:decide (dv<0)=true:=zR h3
  rw[zE h3]at hres
  subst hres
  refine T ?_
  refine X (Ad [] E F300 q1 E W E V) ?_
  refine C q2 F71 ?_
  refine Ai 4 (Cw emptyN) E vL ?_
  refine T ?_
  exact D
 have g3:decide (dv<0)=false:=zI h3
 rw[zD h3]at hres
 by_cases h4:0≤pt
 ·have g4:decide (pt≥0)=true:=zR h4
  rw[zE h4]at hres
  subst hres
  refine T ?_
  refine X (Ad [] E F300 q1 E W E V) ?_
  refine C q2 F71 ?_
  refine C q3 F70 ?_
  refine Ai 4 (Cw emptyN) E vL ?_
  refine T ?_
  exact D
 have g4:decide (pt≥0)=false:=zI h4
 rw[zD h4]at hres
 by_cases h5:n.ports.length=40
 ·have g5:((n.ports.length:Int) == 40)=true:=by rw[yF];omega
  rw[zE h5]at hres
  subst hres
  refine T ?_
  refine X (Ad [] E F300 q1 E W E V) ?_
  refine C q2 F71 ?_
  refine C q3 F70 ?_
  refine Ai 4 (Cw emptyN) E vL ?_
  refine T ?_
  exact D
 have g5:((n.ports.length:Int) == 40)=false:=by rw[zL];omega
 rw[zD h5]at hres
 have hd1l:(D8 dv n.domains l.vlan).length≤49:=by unfold D8;split<;>(try simp)<;>omega
 have hlenB:∀ j,(Bp dv (D8 dv n.domains l.vlan) (l.tagged.take j)).length≤200000:=λ j=>by
  have h1:=Yt dv (l.tagged.take j) (D8 dv n.domains l.vlan)
  rw[zX]at h1
  omega
 by_cases hc:0<l.vlan∧n.domains.any (λ d=>d.dev == dv && d.vlan == l.vlan)=false
 ·have q6:=Ku ({ n with ports:=n.ports++[(⟨l.row,dv,l.vlan,l.cost,-1,l.port,l.tagged⟩:Port)] }:Net) (by show n.domains.length<_;omega) dv l.vlan hc
  obtain ⟨d1,hd1⟩:∃ d1,D8 dv n.domains l.vlan=d1:=⟨_,rfl⟩
  have hlenA:=hlenB
  rw[hd1]at hlenA
  have hde:=hd1.symm.trans (Wi hc)
  rw[← hde]at q6
  clear hlenB hde hc hd1l
  refine T ?_
  refine X (Ad [] E F300 q1 E W E V) ?_
  refine C q2 F71 ?_
  refine C q3 F70 ?_
  refine C q5 F144 ?_
  refine Xd (Ae Γ.toTy 66 E E E E E (.row E) (.lit (e:=A3) (l:=[(⟨l.row,dv,l.vlan,l.cost,-1,l.port,l.tagged⟩:Port)]) E E) j_ (by simp only[yK];omega) (by simp only[yK];omega)) ?_
  refine T ?_
  refine X (As [(902,66),(1904,1101)] (At E E F303) q6 E W E V) ?_
  refine T ?_
  refine B6 (λ j:Nat=>j≤l.tagged.length) (λ j=>[(4,.ptr 1001 0),(6,.ptr 900 0),(8,Aa dv),(9,.clo (.func 303) [] []),(77,.sl 1 Aa l.tagged),(78,Aa l.tagged.length),(79,Aa j)]) (λ j=>[(1001,.box [.val (.slice none 0 0),.val (.slice none 0 0),.val (.slice none 0 0),.val (.slice none 0 0),.val (.slice none 0 0),.val (.slice none 0 0),.val (.slice none 0 0),.val (.slice none 0 0)]),(900,.box [.osl 901,.osl 1002,.osl 903,.osl 1004,.osl 905,.osl 906,.osl 907,.osl 908]),(901,.row 5 Au n.devices),(1002,.row 7 A3 (n.ports++[(⟨l.row,dv,l.vlan,l.cost,-1,l.port,l.tagged⟩:Port)])),(903,.row 3 Bw n.links),(1004,.row 6 Ap (Bp dv d1 (l.tagged.take j))),(905,.row 4 Az n.statics),(906,.row 4 Be n.floods),(907,.row 5 Ca n.vrfs),(908,.row 5 B3 n.irbs)]) (λ j=>l.tagged.length-j) 0 [(1001,4),(1002,66),(1004,1101)] q_ U ?_
  intro j hj
  have hlen:=hlenA j
  refine T ?_
  constructor<;>intro h
  ·have hlt:j<l.tagged.length:=qA h
   have hlt0:((j:Nat):Int).toNat<l.tagged.length:=hlt
   clear h
   have hsn:Bp dv d1 (l.tagged.take (j+1))=D8 dv (Bp dv d1 (l.tagged.take j)) (l.tagged[((j:Nat):Int).toNat]'hlt0):=by
    rw[zW hlt,Ys];rfl
   by_cases hc:0<(l.tagged[((j:Nat):Int).toNat]'hlt0)∧(Bp dv d1 (l.tagged.take j)).any (λ d=>d.dev == dv && d.vlan == (l.tagged[((j:Nat):Int).toNat]'hlt0))=false
   ·have q:=Ku ({ n with ports:=n.ports++[(⟨l.row,dv,l.vlan,l.cost,-1,l.port,l.tagged⟩:Port)],domains:=Bp dv d1 (l.tagged.take j) }:Net) (by show (Bp dv d1 (l.tagged.take j)).length<_;omega) dv (l.tagged[((j:Nat):Int).toNat]'hlt0) hc
    rw[Wi hc]at hsn
    refine T ?_
    refine X (As [(902,1002),(904,1004),(1904,1102)] (At E E F303) q E W E V) ?_
    exact Av (j+1) [(1004,1102)] hlt q_ ⟨⟨E,E,E,E,E,E,E,E,E,E,E,E,E,E,Y⟩,⟨.inl E,E,.inl E,E,.inl E,E,.inl E,E,.inl E,E,.inl (zG (Ob.row 6 Ap) hsn),E,.inl E,E,.inl E,E,.inl E,E,.inl E,E,Y⟩,E,E⟩
   ·have q:=Ly ({ n with ports:=n.ports++[(⟨l.row,dv,l.vlan,l.cost,-1,l.port,l.tagged⟩:Port)],domains:=Bp dv d1 (l.tagged.take j) }:Net) (by show (Bp dv d1 (l.tagged.take j)).length<_;omega) dv (l.tagged[((j:Nat):Int).toNat]'hlt0) hc
    rw[Z1 hc]at hsn
    refine T ?_
    refine X (As [(902,1002),(904,1004)] (At E E F303) q E W E V) ?_
    exact Av (j+1) [] hlt q_ ⟨⟨E,E,E,E,E,E,E,E,E,E,E,E,E,E,Y⟩,⟨.inl E,E,.inl E,E,.inl E,E,.inl E,E,.inl E,E,.inl (zG (Ob.row 6 Ap) hsn),E,.inl E,E,.inl E,E,.inl E,E,.inl E,E,Y⟩,E,E⟩
  ·have hje:j=l.tagged.length:=qB h
   clear h
   rw[hje,yG]
   have hfull:Bp dv n.domains (l.vlan::l.tagged)=Bp dv d1 l.tagged:=(show Bp dv n.domains (l.vlan::l.tagged)=Bp dv (D8 dv n.domains l.vlan) l.tagged from rfl).trans (by rw[hd1])
   rw[hfull]at hres
   by_cases h9:48<(Bp dv d1 l.tagged).length
   ·have g9:decide (((Bp dv d1 l.tagged).length:Int)>48)=true:=zR q_
    rw[zE h9]at hres
    subst hres
    refine T ?_
    refine Ai 1001 (Cw emptyN) E vL ?_
    refine T ?_
    exact D
   ·have g9:decide (((Bp dv d1 l.tagged).length:Int)>48)=false:=zI q_
    rw[zD h9]at hres
    subst hres
    refine T ?_
    refine Ag 901 E ?_
    refine Ag 1002 E ?_
    refine Ag 903 E ?_
    refine Ag 1004 E ?_
    refine Ag 905 E ?_
    refine Ag 906 E ?_
    refine Ag 907 E ?_
    refine Ag 908 E ?_
    exact D
 ·have q6:=Ly ({ n with ports:=n.ports++[(⟨l.row,dv,l.vlan,l.cost,-1,l.port,l.tagged⟩:Port)] }:Net) (by show n.domains.length<_;omega) dv l.vlan hc
  have hd1:D8 dv n.domains l.vlan=n.domains:=Z1 hc
  have hlenA:=hlenB
  rw[hd1]at hlenA
  clear hlenB hc hd1l
  refine T ?_
  refine X (Ad [] E F300 q1 E W E V) ?_
  refine C q2 F71 ?_
  refine C q3 F70 ?_
  refine C q5 F144 ?_
  refine Xd (Ae Γ.toTy 66 E E E E E (.row E) (.lit (e:=A3) (l:=[(⟨l.row,dv,l.vlan,l.cost,-1,l.port,l.tagged⟩:Port)]) E E) j_ (by simp only[yK];omega) (by simp only[yK];omega)) ?_
  refine T ?_
  refine X (As [(902,66)] (At E E F303) q6 E W E V) ?_
  refine T ?_
  refine B6 (λ j:Nat=>j≤l.tagged.length) (λ j=>[(4,.ptr 1001 0),(6,.ptr 900 0),(8,Aa dv),(9,.clo (.func 303) [] []),(77,.sl 1 Aa l.tagged),(78,Aa l.tagged.length),(79,Aa j)]) (λ j=>[(1001,.box [.val (.slice none 0 0),.val (.slice none 0 0),.val (.slice none 0 0),.val (.slice none 0 0),.val (.slice none 0 0),.val (.slice none 0 0),.val (.slice none 0 0),.val (.slice none 0 0)]),(900,.box [.osl 901,.osl 1002,.osl 903,.osl 1004,.osl 905,.osl 906,.osl 907,.osl 908]),(901,.row 5 Au n.devices),(1002,.row 7 A3 (n.ports++[(⟨l.row,dv,l.vlan,l.cost,-1,l.port,l.tagged⟩:Port)])),(903,.row 3 Bw n.links),(1004,.row 6 Ap (Bp dv n.domains (l.tagged.take j))),(905,.row 4 Az n.statics),(906,.row 4 Be n.floods),(907,.row 5 Ca n.vrfs),(908,.row 5 B3 n.irbs)]) (λ j=>l.tagged.length-j) 0 [(1001,4),(1002,66),(1004,904)] q_ U ?_
  intro j hj
  have hlen:=hlenA j
  refine T ?_
  constructor<;>intro h
  ·have hlt:j<l.tagged.length:=qA h
   have hlt0:((j:Nat):Int).toNat<l.tagged.length:=hlt
   clear h
   have hsn:Bp dv n.domains (l.tagged.take (j+1))=D8 dv (Bp dv n.domains (l.tagged.take j)) (l.tagged[((j:Nat):Int).toNat]'hlt0):=by
    rw[zW hlt,Ys];rfl
   by_cases hc:0<(l.tagged[((j:Nat):Int).toNat]'hlt0)∧(Bp dv n.domains (l.tagged.take j)).any (λ d=>d.dev == dv && d.vlan == (l.tagged[((j:Nat):Int).toNat]'hlt0))=false
   ·have q:=Ku ({ n with ports:=n.ports++[(⟨l.row,dv,l.vlan,l.cost,-1,l.port,l.tagged⟩:Port)],domains:=Bp dv n.domains (l.tagged.take j) }:Net) (by show (Bp dv n.domains (l.tagged.take j)).length<_;omega) dv (l.tagged[((j:Nat):Int).toNat]'hlt0) hc
    rw[Wi hc]at hsn
    refine T ?_
    refine X (As [(902,1002),(904,1004),(1904,1102)] (At E E F303) q E W E V) ?_
    exact Av (j+1) [(1004,1102)] hlt q_ ⟨⟨E,E,E,E,E,E,E,E,E,E,E,E,E,E,Y⟩,⟨.inl E,E,.inl E,E,.inl E,E,.inl E,E,.inl E,E,.inl (zG (Ob.row 6 Ap) hsn),E,.inl E,E,.inl E,E,.inl E,E,.inl E,E,Y⟩,E,E⟩
   ·have q:=Ly ({ n with ports:=n.ports++[(⟨l.row,dv,l.vlan,l.cost,-1,l.port,l.tagged⟩:Port)],domains:=Bp dv n.domains (l.tagged.take j) }:Net) (by show (Bp dv n.domains (l.tagged.take j)).length<_;omega) dv (l.tagged[((j:Nat):Int).toNat]'hlt0) hc
    rw[Z1 hc]at hsn
    refine T ?_
    refine X (As [(902,1002),(904,1004)] (At E E F303) q E W E V) ?_
    exact Av (j+1) [] hlt q_ ⟨⟨E,E,E,E,E,E,E,E,E,E,E,E,E,E,Y⟩,⟨.inl E,E,.inl E,E,.inl E,E,.inl E,E,.inl E,E,.inl (zG (Ob.row 6 Ap) hsn),E,.inl E,E,.inl E,E,.inl E,E,.inl E,E,Y⟩,E,E⟩
  ·have hje:j=l.tagged.length:=qB h
   clear h
   rw[hje,yG]
   have hfull:Bp dv n.domains (l.vlan::l.tagged)=Bp dv n.domains l.tagged:=(show Bp dv n.domains (l.vlan::l.tagged)=Bp dv (D8 dv n.domains l.vlan) l.tagged from rfl).trans (by rw[hd1])
   rw[hfull]at hres
   by_cases h9:48<(Bp dv n.domains l.tagged).length
   ·have g9:decide (((Bp dv n.domains l.tagged).length:Int)>48)=true:=zR q_
    rw[zE h9]at hres
    subst hres
    refine T ?_
    refine Ai 1001 (Cw emptyN) E vL ?_
    refine T ?_
    exact D
   ·have g9:decide (((Bp dv n.domains l.tagged).length:Int)>48)=false:=zI q_
    rw[zD h9]at hres
    subst hres
    refine T ?_
    refine Ag 901 E ?_
    refine Ag 1002 E ?_
    refine Ag 903 E ?_
    refine Ag 1004 E ?_
    refine Ag 905 E ?_
    refine Ag 906 E ?_
    refine Ag 907 E ?_
    refine Ag 908 E ?_
    exact D
theorem A0h (n:Net) (hn:n.Fin) (ha:C8 n) (l:LineM) (hl:LineW l):Sp 174 [Al n,A0 l] (.tup [Al (putT n l).1,Aa (putT n l).2]):=cT F174 Tryz.ntmps174 λ F hF=>by
 have hres:=putT.eq_1 n l
 generalize putT n l=res at *
 by_cases h1:l.kind=1
 ·have g1:(l.kind == 1)=true:=by rw[yF];exact h1
  have q:=Aql n hn l hl
  rw[zE h1]at hres
  rw[← hres]at q
  refine T ?_
  refine C q F233 ?_
  exact D
 have g1:(l.kind == 1)=false:=by rw[zL];exact h1
 rw[zD h1]at hres
 by_cases h2:l.kind=2
 ·have g2:(l.kind == 2)=true:=by rw[yF];exact h2
  have q:=Awv n hn l hl
  rw[zE h2]at hres
  rw[← hres]at q
  refine T ?_
  refine C q F234 ?_
  exact D
 have g2:(l.kind == 2)=false:=by rw[zL];exact h2
 rw[zD h2]at hres
 by_cases h3:l.kind=3
 ·have g3:(l.kind == 3)=true:=by rw[yF];exact h3
  have q:=Axx n hn l hl
  rw[zE h3]at hres
  rw[← hres]at q
  refine T ?_
  refine C q F235 ?_
  exact D
 have g3:(l.kind == 3)=false:=by rw[zL];exact h3
 rw[zD h3]at hres
 by_cases h4:l.kind=4
 ·have g4:(l.kind == 4)=true:=by rw[yF];exact h4
  have q:=Aoh n hn l hl
  rw[zE h4]at hres
  rw[← hres]at q
  refine T ?_
  refine C q F236 ?_
  exact D
 have g4:(l.kind == 4)=false:=by rw[zL];exact h4
 rw[zD h4]at hres
 by_cases h5:l.kind=5
 ·have g5:(l.kind == 5)=true:=by rw[yF];exact h5
  have q:=Az7 n hn l hl
  rw[zE h5]at hres
  rw[← hres]at q
  refine T ?_
  refine C q F237 ?_
  exact D
 have g5:(l.kind == 5)=false:=by rw[zL];exact h5
 rw[zD h5]at hres
 by_cases h6:l.kind=6
 ·have g6:(l.kind == 6)=true:=by rw[yF];exact h6
  have q:=ovVniS n hn l hl
  rw[zE h6]at hres
  rw[← hres]at q
  refine T ?_
  refine C q F238 ?_
  exact D
 have g6:(l.kind == 6)=false:=by rw[zL];exact h6
 rw[zD h6]at hres
 by_cases h7:l.kind=7
 ·have g7:(l.kind == 7)=true:=by rw[yF];exact h7
  have q:=Aw4 n hn l hl
  rw[zE h7]at hres
  rw[← hres]at q
  refine T ?_
  refine C q F239 ?_
  exact D
 have g7:(l.kind == 7)=false:=by rw[zL];exact h7
 rw[zD h7]at hres
 by_cases h8:l.kind=8
 ·have g8:(l.kind == 8)=true:=by rw[yF];exact h8
  have q:=Azp n hn l hl
  rw[zE h8]at hres
  rw[← hres]at q
  refine T ?_
  refine C q F240 ?_
  exact D
 have g8:(l.kind == 8)=false:=by rw[zL];exact h8
 rw[zD h8]at hres
 by_cases h9:l.kind=9
 ·have g9:(l.kind == 9)=true:=by rw[yF];exact h9
  have q:=A0p n hn ha l hl
  rw[zE h9]at hres
  rw[← hres]at q
  refine T ?_
  refine C q F241 ?_
  exact D
 have g9:(l.kind == 9)=false:=by rw[zL];exact h9
 rw[zD h9]at hres
 subst hres
 refine T ?_
 refine Ai 4 (Cw emptyN) E vL ?_
 refine T ?_
 exact D
theorem Ar2 {n:Net} (h:Ac n=true) {i:Nat} (hi:i<n.floods.length):Wa n n.floods[i]=true:=by
 simp only[Ac,zH]at h
 exact allB_iff.1 h.1.1.2 i hi
theorem A1c (n:Net) (hn:n.Fin) (hr:Ac n=true) (f:Flood) (hf:f∈n.floods):Sp 242 [Al n,Be f] (Ab (agreesB n f)):=cT F242 Tryz.ntmps242 λ F hF=>by
 have hfd:0≤f.dev∧f.dev.toNat<n.devices.length:=by
  obtain ⟨j,hj,rfl⟩:=vA hf
  have:=Ar2 hr hj
  simp only[Wa,An,zH,zQ]at this
  omega
 have hfa:f.addrs.length<2147483648:=hn.addrs f hf
 have hown:(nth n.devices f.dev).vtep=(n.devices[f.dev.toNat]'hfd.2).vtep:=by rw[Aj hfd.2]
 have q1:=Xk n hn f.dev f.vni
 have hres:=agreesB.eq_1 n f
 have hag:∀ a,agreeA n f a=_:=agreeA.eq_1 n f
 generalize agreesB n f=res at *
 generalize Q3 n f.dev f.vni=v0 at *
 refine T ?_
 refine A7 2 8 (Al n) E E E ?_
 refine A7 3 4 (Be f) E E E ?_
 refine T ?_
 refine C q1 F244 ?_
 refine B6 (λ j:Nat=>j≤f.addrs.length) (λ j=>[(2,.ref 8 (Al n) 0),(3,.ref 4 (Be f) 0),(5,A6 (n.devices[f.dev.toNat]'hfd.2).vtep),(6,Ab (decide (0≤v0) && (f.addrs.take j).all (agreeA n f))),(28,.sl 1 A6 f.addrs),(29,Aa f.addrs.length),(30,Aa j)]) (λ _=>[]) (λ j=>f.addrs.length-j) 0 [] q_ ⟨⟨E,E,E,E,E,E,zG Ab y_,E,E,E,E,E,E,E,Y⟩,Y,E,E⟩ ?_
 intro j hj
 refine T ?_
 constructor<;>intro h
 ·have hlt:j<f.addrs.length:=qA h
  have hj0:((j:Nat):Int).toNat<f.addrs.length:=hlt
  clear h
  have qo:=Apd n hn (f.addrs[((j:Nat):Int).toNat]'hj0)
  have hA:=hag (f.addrs[((j:Nat):Int).toNat]'hj0)
  have hsn:(f.addrs.take (j+1)).all (agreeA n f)=((f.addrs.take j).all (agreeA n f) && agreeA n f (f.addrs[((j:Nat):Int).toNat]'hj0)):=by
   rw[zW hlt,List.all_append]
   simp only[List.all_cons,List.all_nil,vZ]
   rfl
  have hwhole:agreeA n f (f.addrs[((j:Nat):Int).toNat]'hj0)=false→f.addrs.all (agreeA n f)=false:=λ h=>by
   rw[List.all_eq_false]
   exact⟨_,zJ hj0,by rw[h];simp⟩
  have hpart:(f.addrs.take j).all (agreeA n f)=false→f.addrs.all (agreeA n f)=false:=λ h=>by
   rw[List.all_eq_false]at h ⊢
   obtain ⟨x,hx,hx2⟩:=h
   exact⟨x,wK hx,hx2⟩
  have qf:=Xk n hn (E9 n (f.addrs[((j:Nat):Int).toNat]'hj0)) f.vni
  have ql:=Aiu n hn (E9 n (f.addrs[((j:Nat):Int).toNat]'hj0)) f.vni
  cases ho:(decide (0≤v0) && (f.addrs.take j).all (agreeA n f)) with
  | false =>
   have hr0:res=false:=by
    rw[hres]
    cases hd:decide (0≤v0)
    ·rfl
    ·rw[hd,zZ]at ho
     rw[hpart ho];rfl
   subst hr0
   generalize E9 n (f.addrs[((j:Nat):Int).toNat]'hj0)=dv at *
   refine T ?_
   refine C qo F245 ?_
   exact D
  | true =>
   have hdr:E9 n (f.addrs[((j:Nat):Int).toNat]'hj0)<0∨0≤E9 n (f.addrs[((j:Nat):Int).toNat]'hj0):=by omega
   have hlr:Jq n (E9 n (f.addrs[((j:Nat):Int).toNat]'hj0)) f.vni<0∨∃ k:Nat,Jq n (E9 n (f.addrs[((j:Nat):Int).toNat]'hj0)) f.vni=k∧k<n.floods.length:=by
    by_cases h:Jq n (E9 n (f.addrs[((j:Nat):Int).toNat]'hj0)) f.vni<0
    ·exact .inl h
    ·exact .inr (I4 h)
   generalize Q3 n (E9 n (f.addrs[((j:Nat):Int).toNat]'hj0)) f.vni=fv at *
   generalize Jq n (E9 n (f.addrs[((j:Nat):Int).toNat]'hj0)) f.vni=lv at *
   generalize E9 n (f.addrs[((j:Nat):Int).toNat]'hj0)=dv at *
   by_cases k1:dv<0
   ·have g1:decide (dv≥0)=false:=zI q_
    have g1n:(!(decide (dv≥0)))=true:=by rw[g1];rfl
    have hr0:res=false:=by rw[hres,hwhole (by rw[hA,zI (by omega:¬ 0≤dv)];rfl),wL]
    subst hr0
    refine T ?_
    refine C qo F245 ?_
    exact D
   have g1:decide (dv≥0)=true:=zR q_
   rw[zR (by omega:0≤dv),zZ]at hA
   by_cases k2:(f.addrs[((j:Nat):Int).toNat]'hj0)=0
   ·have g2:((f.addrs[((j:Nat):Int).toNat]'hj0) != 0)=false:=by rw[bne_eq_false_iff_eq];exact k2
    have g2n:(!((f.addrs[((j:Nat):Int).toNat]'hj0) != 0))=true:=by rw[g2];rfl
    have hr0:res=false:=by rw[hres,hwhole (by rw[hA,g2];rfl),wL]
    subst hr0
    refine T ?_
    refine C qo F245 ?_
    exact D
   have g2:((f.addrs[((j:Nat):Int).toNat]'hj0) != 0)=true:=by rw[yQ];exact k2
   rw[g2,zZ]at hA
   by_cases k3:fv<0
   ·have g3:decide (fv≥0)=false:=zI q_
    have g3n:(!(decide (fv≥0)))=true:=by rw[g3];rfl
    have hr0:res=false:=by rw[hres,hwhole (by rw[hA,zI (by omega:¬ 0≤fv)];rfl),wL]
    subst hr0
    refine T ?_
    refine C qo F245 ?_
    refine C qf F244 ?_
    exact D
   have g3:decide (fv≥0)=true:=zR q_
   rw[zR (by omega:0≤fv),zZ]at hA
   by_cases k4:lv<0
   ·have g4:decide (lv≥0)=false:=zI q_
    have g4n:(!(decide (lv≥0)))=true:=by rw[g4];rfl
    have hr0:res=false:=by rw[hres,hwhole (by rw[hA,zI (by omega:¬ 0≤lv)];rfl),wL]
    subst hr0
    refine T ?_
    refine C qo F245 ?_
    refine C qf F244 ?_
    refine C ql F243 ?_
    refine Aq E (.cons .tmp .nil) (zG Ab g4.symm) E
   have g4:decide (lv≥0)=true:=zR q_
   have g4n:(!(decide (lv≥0)))=false:=by rw[g4];rfl
   rw[zR (by omega:0≤lv),zZ]at hA
   obtain ⟨m,hm,hml⟩:=hlr.resolve_left k4
   subst hm
   have hm0:((m:Nat):Int).toNat<n.floods.length:=hml
   rw[Aj hm0,hown]at hA
   have hfar:=hn.addrs _ (zJ hm0)
   have qc:=Qn (n.floods[((m:Nat):Int).toNat]'hm0).addrs (n.devices[f.dev.toNat]'hfd.2).vtep hfar
   have qcb:=λ b=>Qn (n.floods[((m:Nat):Int).toNat]'hm0).addrs b hfar
   have hnx:(decide (0≤v0) && (f.addrs.take (j+1)).all (agreeA n f))=(inB (n.floods[((m:Nat):Int).toNat]'hm0).addrs (n.devices[f.dev.toNat]'hfd.2).vtep && f.addrs.all λ b=>b == (f.addrs[((j:Nat):Int).toNat]'hj0) || inB (n.floods[((m:Nat):Int).toNat]'hm0).addrs b):=by
    rw[hsn,← Bool.and_assoc,ho,zZ,hA]
   clear hA hsn hwhole hpart ho hag
   refine T ?_
   refine C qo F245 ?_
   refine C qf F244 ?_
   refine C ql F243 ?_
   refine C ql F243 ?_
   refine C qc F308 ?_
   refine B6 (λ k:Nat=>k≤f.addrs.length) (λ k=>[(2,.ref 8 (Al n) 0),(3,.ref 4 (Be f) 0),(5,A6 (n.devices[f.dev.toNat]'hfd.2).vtep),(6,Ab (inB (n.floods[((m:Nat):Int).toNat]'hm0).addrs (n.devices[f.dev.toNat]'hfd.2).vtep && (f.addrs.take k).all λ b=>b == (f.addrs[((j:Nat):Int).toNat]'hj0) || inB (n.floods[((m:Nat):Int).toNat]'hm0).addrs b)),(8,A6 (f.addrs[((j:Nat):Int).toNat]'hj0)),(10,.sl 1 A6 (n.floods[((m:Nat):Int).toNat]'hm0).addrs),(28,.sl 1 A6 f.addrs),(29,Aa f.addrs.length),(30,Aa j),(78,.sl 1 A6 f.addrs),(79,Aa f.addrs.length),(80,Aa k)]) (λ _=>[]) (λ k=>f.addrs.length-k) 0 [] q_ ⟨⟨E,E,E,E,E,E,zG Ab y_,E,E,E,E,E,E,E,E,E,E,E,E,E,E,E,E,E,Y⟩,Y,E,E⟩ ?_
   intro k hk
   refine T ?_
   constructor<;>intro h
   ·have hlt2:k<f.addrs.length:=qA h
    have hk0:((k:Nat):Int).toNat<f.addrs.length:=hlt2
    clear h
    have hsn:(f.addrs.take (k+1)).all (λ b=>b == (f.addrs[((j:Nat):Int).toNat]'hj0) || inB (n.floods[((m:Nat):Int).toNat]'hm0).addrs b)=((f.addrs.take k).all (λ b=>b == (f.addrs[((j:Nat):Int).toNat]'hj0) || inB (n.floods[((m:Nat):Int).toNat]'hm0).addrs b) && ((f.addrs[((k:Nat):Int).toNat]'hk0) == (f.addrs[((j:Nat):Int).toNat]'hj0) || inB (n.floods[((m:Nat):Int).toNat]'hm0).addrs (f.addrs[((k:Nat):Int).toNat]'hk0))):=by
     rw[zW hlt2,List.all_append]
     simp only[List.all_cons,List.all_nil,vZ]
     rfl
    have hst:(inB (n.floods[((m:Nat):Int).toNat]'hm0).addrs (n.devices[f.dev.toNat]'hfd.2).vtep && (f.addrs.take (k+1)).all λ b=>b == (f.addrs[((j:Nat):Int).toNat]'hj0) || inB (n.floods[((m:Nat):Int).toNat]'hm0).addrs b)=((inB (n.floods[((m:Nat):Int).toNat]'hm0).addrs (n.devices[f.dev.toNat]'hfd.2).vtep && (f.addrs.take k).all λ b=>b == (f.addrs[((j:Nat):Int).toNat]'hj0) || inB (n.floods[((m:Nat):Int).toNat]'hm0).addrs b) && ((f.addrs[((k:Nat):Int).toNat]'hk0) == (f.addrs[((j:Nat):Int).toNat]'hj0) || inB (n.floods[((m:Nat):Int).toNat]'hm0).addrs (f.addrs[((k:Nat):Int).toNat]'hk0))):=by
     rw[hsn,Bool.and_assoc]
    have qb:=qcb (f.addrs[((k:Nat):Int).toNat]'hk0)
    cases ho2:(inB (n.floods[((m:Nat):Int).toNat]'hm0).addrs (n.devices[f.dev.toNat]'hfd.2).vtep && (f.addrs.take k).all λ b=>b == (f.addrs[((j:Nat):Int).toNat]'hj0) || inB (n.floods[((m:Nat):Int).toNat]'hm0).addrs b) with
    | false =>
     rw[ho2,yA]at hst
     refine T ?_
     exact Av (k+1) [] hlt2 q_ ⟨⟨E,E,E,E,E,E,zG Ab hst,E,E,E,E,E,E,E,E,E,E,E,E,E,E,E,E,E,Y⟩,Y,E,E⟩
    | true =>
     rw[ho2,zZ]at hst
     cases he:((f.addrs[((k:Nat):Int).toNat]'hk0) == (f.addrs[((j:Nat):Int).toNat]'hj0)) with
     | true =>
      rw[he,tN]at hst
      refine T ?_
      exact Av (k+1) [] hlt2 q_ ⟨⟨E,E,E,E,E,E,zG Ab hst,E,E,E,E,E,E,E,E,E,E,E,E,E,E,E,E,E,Y⟩,Y,E,E⟩
     | false =>
      rw[he,uP]at hst
      refine T ?_
      refine C qb F308 ?_
      exact Av (k+1) [] hlt2 q_ ⟨⟨E,E,E,E,E,E,zG Ab hst,E,E,E,E,E,E,E,E,E,E,E,E,E,E,E,E,E,Y⟩,Y,E,E⟩
   ·have hke:k=f.addrs.length:=qB h
    clear h
    rw[hke,yG]
    refine T ?_
    exact Av (j+1) [] hlt q_ ⟨⟨E,E,E,E,E,E,zG Ab hnx,E,E,E,E,E,E,E,Y⟩,Y,E,E⟩
 ·have hje:j=f.addrs.length:=qB h
  clear h
  subst hje
  rw[yG,← hres]
  refine T ?_
  exact D
theorem Aef {α:Type} {p:α→Bool}:∀ {l:List α} {j:Nat} (hj:j<l.length),(∀ k (hk:k<l.length),k<j→p l[k]=false)→p l[j]=true→l.find? p=some l[j]
 | x::l,0,_,_,h2=>by
  rw[tD]at h2 ⊢
  rw[List.find?_cons,h2]
 | x::l,j+1,hj,h1,h2=>by
  rw[uG]at h2 ⊢
  have h0:=h1 0 y_ q_
  rw[tD]at h0
  rw[List.find?_cons,h0]
  exact Aef (by simpa using hj) (λ k hk hkj=>by
   have:=h1 (k+1) (by simp;omega) q_
   rwa [uG]at this) h2
def Q9 (n:Net) (j:Nat):List Domain:=(n.domains.take j).map (λ d=>{ d with peers:=peersT n d })++n.domains.drop j
theorem Atz (n:Net):Q9 n 0=n.domains:=by simp[Q9]
theorem Axj (n:Net):Q9 n n.domains.length=(Ir n).domains:=by simp[Q9,Ir]
theorem Axi (n:Net) {j:Nat} (hj:j≤n.domains.length):(Q9 n j).length=n.domains.length:=by simp[Q9];omega
theorem At0 (n:Net) {j:Nat} (hj:j<n.domains.length) (h:((j:Nat):Int).toNat<(Q9 n j).length) :
  (Q9 n j)[((j:Nat):Int).toNat]'h=n.domains[j]∧(Q9 n j).set ((j:Nat):Int).toNat { n.domains[j] with peers:=peersT n n.domains[j] }=Q9 n (j+1):=by
 have hl:((n.domains.take j).map (λ d=>{ d with peers:=peersT n d })).length=j:=by simp;omega
 have e:Q9 n j=(n.domains.take j).map (λ d=>{ d with peers:=peersT n d })++n.domains[j]::n.domains.drop (j+1):=by
  rw[Q9,yJ hj]
 have e2:Q9 n (j+1)=(n.domains.take j).map (λ d=>{ d with peers:=peersT n d })++{ n.domains[j] with peers:=peersT n n.domains[j] }::n.domains.drop (j+1):=by
  rw[Q9,zW hj,vI,xV,vY,xQ];rfl
 constructor
 ·simp only[yL,e]
  rw[xX q_]
  simp only[hl,tO,tD]
 ·rw[yL,e,e2,tF _ _ q_,hl,tO]
  rfl
theorem Ayt (n:Net) (h:Ac n=true):(∀ f∈n.floods,f.addrs.length≤16):=λ f hf=>by
 obtain ⟨j,hj,rfl⟩:=vA hf
 have:=Ar2 h hj
 simp only[Wa,zH,zQ]at this
 exact this.2
theorem Atq {n:Net} (h:Ac n=true) (d:Domain):(peersT n d).length≤16:=by
 unfold peersT
 split
 ·rename_i hc
  rw[xJ]
  have hl:=Hk (λ f:Flood=>f.dev == d.dev && f.vni == d.vni) n.floods
  have h0:(Jq n d.dev d.vni).toNat<n.floods.length:=by
   have e:Jq n d.dev d.vni=Co (λ f:Flood=>f.dev == d.dev && f.vni == d.vni) n.floods:=rfl
   have:=hc.2
   omega
  rw[Aj h0]
  exact Ayt n h _ (zJ h0)
 ·simp
theorem Adm {n:Net} (hn:n.Fin) (h:Ac n=true):(Ir n).Fin:=by
 have hl:(Ir n).domains.length=n.domains.length:=by simp[Ir]
 refine { hn with domains:=?_,peers:=?_ }
 ·show (Ir n).domains.length<_
  rw[hl];exact hn.domains
 ·intro p hp
  have hp:p∈n.domains.map λ d=>{ d with peers:=peersT n d }:=hp
  obtain ⟨d,_,rfl⟩:=yV.1 hp
  show (peersT n d).length<_
  have:=Atq h d
  omega
theorem meshS (n:Net) (hn:n.Fin):Sp 175 [Al n] (.tup [Al (meshNT n).1,Aa (meshNT n).2.1,Aa (meshNT n).2.2]):=cT F175 Tryz.ntmps175 λ F hF=>by
 have qn:=Ax n hn
 have qcopy:=Qm n hn
 have hres:=meshNT.eq_1 n
 generalize meshNT n=res at *
 cases hr:Ac n with
 | false =>
  rw[hr]at qn
  rw[hr,zE rfl]at hres
  subst hres
  refine T ?_
  refine C qn F24 ?_
  refine Ai 2 (Cw emptyN) E vL ?_
  refine T ?_
  exact D
 | true =>
 rw[hr]at qn
 rw[hr,zD y_]at hres
 have hff:n.floods.length<2147483648:=hn.floods
 have hdd:n.domains.length<2147483648:=hn.domains
 refine T ?_
 refine C qn F24 ?_
 refine A7 1 8 (Al n) E E E ?_
 refine B6 (λ j:Nat=>j≤n.floods.length∧∀ k (hk:k<n.floods.length),k<j→agreesB n n.floods[k]=true) (λ j=>[(1,.ref 8 (Al n) 0),(2,.ptr 1001 0),(18,.sl 4 Be n.floods),(19,Aa n.floods.length),(20,Aa j)]) (λ _=>[(1001,.box [.val (.slice none 0 0),.val (.slice none 0 0),.val (.slice none 0 0),.val (.slice none 0 0),.val (.slice none 0 0),.val (.slice none 0 0),.val (.slice none 0 0),.val (.slice none 0 0)])]) (λ j=>n.floods.length-j) 0 [(1001,2)] ⟨by omega,λ k hk h=>by omega⟩ U ?_
 rintro j ⟨hj,hI⟩
 refine T ?_
 constructor<;>intro h
 ·have hlt:j<n.floods.length:=qA h
  have hj0:((j:Nat):Int).toNat<n.floods.length:=hlt
  clear h
  have q:=A1c n hn hr (n.floods[((j:Nat):Int).toNat]'hj0) (zJ hj0)
  cases ha:agreesB n (n.floods[((j:Nat):Int).toNat]'hj0) with
  | false =>
   rw[ha]at q
   rw[Aef (p:=λ f=>!(agreesB n f)) hlt (λ k hk hkj=>by simp only[hI k hk hkj];rfl) (by show (!(agreesB n (n.floods[((j:Nat):Int).toNat]'hj0)))=true;rw[ha];rfl)]at hres
   dsimp only at hres
   subst hres
   refine T ?_
   refine C q F242 ?_
   refine Ai 1001 (Cw emptyN) E vL ?_
   refine T ?_
   exact D
  | true =>
   rw[ha]at q
   refine T ?_
   refine C q F242 ?_
   refine Av (j+1) [] ⟨hlt,λ k hk hkj=>?_⟩ q_ U
   by_cases e:k=j
   ·subst e;exact ha
   ·exact hI k hk q_
 ·have hje:j=n.floods.length:=qB h
  clear h
  have hnone:n.floods.find? (λ f=>!(agreesB n f))=none:=by
   rw[List.find?_eq_none]
   intro x hx
   obtain ⟨k,hk,rfl⟩:=vA hx
   rw[hI k hk q_];simp
  rw[hnone]at hres
  dsimp only at hres
  clear hI hj hje hnone
  refine T ?_
  refine X (Ad [(0,901),(1,902),(2,903),(3,904),(4,905),(5,906),(6,907),(7,908)] E F79 qcopy E W E V) ?_
  refine B6 (λ j:Nat=>j≤n.domains.length) (λ j=>[(1,.ref 8 (Al n) 0),(2,.ptr 1001 0),(35,.sl 6 Ap n.domains),(36,Aa n.domains.length),(37,Aa j)]) (λ j=>[(1001,.box [.osl 901,.osl 902,.osl 903,.osl 1004,.osl 905,.osl 906,.osl 907,.osl 908]),(901,.row 5 Au n.devices),(902,.row 7 A3 n.ports),(903,.row 3 Bw n.links),(1004,.row 6 Ap (Q9 n j)),(905,.row 4 Az n.statics),(906,.row 4 Be n.floods),(907,.row 5 Ca n.vrfs),(908,.row 5 B3 n.irbs)]) (λ j=>n.domains.length-j) 0 [(1004,904)] q_ ⟨⟨E,E,E,E,E,E,E,E,E,E,Y⟩,⟨.inl E,E,.inl E,E,.inl E,E,.inl E,E,.inl (zG (Ob.row 6 Ap) (Atz n)),E,.inl E,E,.inl E,E,.inl E,E,.inl E,E,Y⟩,E,E⟩ ?_
  intro j hj
  have hml:=Axi n hj
  refine T ?_
  constructor<;>intro h
  ·have hlt:j<n.domains.length:=qA h
   have hj0:((j:Nat):Int).toNat<n.domains.length:=hlt
   clear h
   have hjm:((j:Nat):Int).toNat<(Q9 n j).length:=by rw[hml];exact hj0
   obtain ⟨m1,m2⟩:=At0 n hlt hjm
   have hDj:n.domains[j]=(n.domains[((j:Nat):Int).toNat]'hj0):=rfl
   rw[hDj]at m1 m2
   have hne:Q9 n j≠[]:=λ e=>by rw[e]at hjm;cases hjm
   have ql:=Aiu n hn (n.domains[((j:Nat):Int).toNat]'hj0).dev (n.domains[((j:Nat):Int).toNat]'hj0).vni
   have hpt:=peersT.eq_1 n (n.domains[((j:Nat):Int).toNat]'hj0)
   have hlr:Jq n (n.domains[((j:Nat):Int).toNat]'hj0).dev (n.domains[((j:Nat):Int).toNat]'hj0).vni<0∨∃ k:Nat,Jq n (n.domains[((j:Nat):Int).toNat]'hj0).dev (n.domains[((j:Nat):Int).toNat]'hj0).vni=k∧k<n.floods.length:=by
    by_cases h:Jq n (n.domains[((j:Nat):Int).toNat]'hj0).dev (n.domains[((j:Nat):Int).toNat]'hj0).vni<0
    ·exact .inl h
    ·exact .inr (I4 h)
   generalize Jq n (n.domains[((j:Nat):Int).toNat]'hj0).dev (n.domains[((j:Nat):Int).toNat]'hj0).vni=lv at *
   generalize hpT:peersT n (n.domains[((j:Nat):Int).toNat]'hj0)=ps at *
   by_cases k1:(n.domains[((j:Nat):Int).toNat]'hj0).vni=0
   ·have g1:((n.domains[((j:Nat):Int).toNat]'hj0).vni != 0)=false:=by rw[bne_eq_false_iff_eq];exact k1
    rw[zD (λ h=>h.1 k1)]at hpt
    subst hpt
    refine T ?_
    refine Am 9 1 Aa E ?_
    refine C ql F243 ?_
    refine⟨hne,?_⟩
    refine T ?_
    refine⟨(⟨(n.domains[((j:Nat):Int).toNat]'hj0).dev,(n.domains[((j:Nat):Int).toNat]'hj0).vlan,(n.domains[((j:Nat):Int).toNat]'hj0).vni,(n.domains[((j:Nat):Int).toNat]'hj0).irb,(n.domains[((j:Nat):Int).toNat]'hj0).row,[]⟩:Domain),by rw[m1];rfl,by rw[m1];rfl,?_⟩
    refine T ?_
    exact Av (j+1) [] hlt q_ ⟨⟨E,E,E,E,E,E,E,E,E,E,Y⟩,⟨.inl E,E,.inl E,E,.inl E,E,.inl E,E,.inl (zG (Ob.row 6 Ap) m2.symm),E,.inl E,E,.inl E,E,.inl E,E,.inl E,E,Y⟩,E,E⟩
   have g1:((n.domains[((j:Nat):Int).toNat]'hj0).vni != 0)=true:=by rw[yQ];exact k1
   by_cases k2:lv<0
   ·have g2:decide (lv≥0)=false:=zI q_
    rw[zD (λ h=>by have:=h.2;omega)]at hpt
    subst hpt
    refine T ?_
    refine Am 9 1 Aa E ?_
    refine C ql F243 ?_
    refine⟨hne,?_⟩
    refine T ?_
    refine⟨(⟨(n.domains[((j:Nat):Int).toNat]'hj0).dev,(n.domains[((j:Nat):Int).toNat]'hj0).vlan,(n.domains[((j:Nat):Int).toNat]'hj0).vni,(n.domains[((j:Nat):Int).toNat]'hj0).irb,(n.domains[((j:Nat):Int).toNat]'hj0).row,[]⟩:Domain),by rw[m1];rfl,by rw[m1];rfl,?_⟩
    refine T ?_
    exact Av (j+1) [] hlt q_ ⟨⟨E,E,E,E,E,E,E,E,E,E,Y⟩,⟨.inl E,E,.inl E,E,.inl E,E,.inl E,E,.inl (zG (Ob.row 6 Ap) m2.symm),E,.inl E,E,.inl E,E,.inl E,E,.inl E,E,Y⟩,E,E⟩
   obtain ⟨m,hm,hmf⟩:=hlr.resolve_left k2
   subst hm
   clear hlr
   have g2:decide ((m:Int)≥0)=true:=zR q_
   have hm0:((m:Nat):Int).toNat<n.floods.length:=hmf
   rw[zE ⟨k1,by omega⟩,Aj hm0]at hpt
   have hfa:=Ayt n hr _ (zJ hm0)
   refine T ?_
   refine B9 9 1200 1 Aa E E ?_
   refine C ql F243 ?_
   refine A7 8 6 (Ap (n.domains[((j:Nat):Int).toNat]'hj0)) E E E ?_
   refine B6 (λ k:Nat=>k≤(n.floods[((m:Nat):Int).toNat]'hm0).addrs.length) (λ k=>[(1,.ref 8 (Al n) 0),(2,.ptr 1001 0),(7,Aa j),(8,.ref 6 (Ap (n.domains[((j:Nat):Int).toNat]'hj0)) 0),(9,.osl 1200),(35,.sl 6 Ap n.domains),(36,Aa n.domains.length),(37,Aa j),(60,.sl 1 A6 (n.floods[((m:Nat):Int).toNat]'hm0).addrs),(61,Aa (n.floods[((m:Nat):Int).toNat]'hm0).addrs.length),(62,Aa k)]) (λ k=>[(1001,.box [.osl 901,.osl 902,.osl 903,.osl 1004,.osl 905,.osl 906,.osl 907,.osl 908]),(901,.row 5 Au n.devices),(902,.row 7 A3 n.ports),(903,.row 3 Bw n.links),(1004,.row 6 Ap (Q9 n j)),(905,.row 4 Az n.statics),(906,.row 4 Be n.floods),(907,.row 5 Ca n.vrfs),(908,.row 5 B3 n.irbs),(1200,.row 1 Aa (((n.floods[((m:Nat):Int).toNat]'hm0).addrs.take k).map (λ a=>Q3 n (E9 n a) (n.domains[((j:Nat):Int).toNat]'hj0).vni)))]) (λ k=>(n.floods[((m:Nat):Int).toNat]'hm0).addrs.length-k) 0 [] q_ U ?_
   intro k hk
   refine T ?_
   constructor<;>intro h
   ·have hlt2:k<(n.floods[((m:Nat):Int).toNat]'hm0).addrs.length:=qA h
    have hk0:((k:Nat):Int).toNat<(n.floods[((m:Nat):Int).toNat]'hm0).addrs.length:=hlt2
    clear h
    have qo:=Apd n hn ((n.floods[((m:Nat):Int).toNat]'hm0).addrs[((k:Nat):Int).toNat]'hk0)
    have qf:=Xk n hn (E9 n ((n.floods[((m:Nat):Int).toNat]'hm0).addrs[((k:Nat):Int).toNat]'hk0)) (n.domains[((j:Nat):Int).toNat]'hj0).vni
    have hsn:((n.floods[((m:Nat):Int).toNat]'hm0).addrs.take (k+1)).map (λ a=>Q3 n (E9 n a) (n.domains[((j:Nat):Int).toNat]'hj0).vni)=((n.floods[((m:Nat):Int).toNat]'hm0).addrs.take k).map (λ a=>Q3 n (E9 n a) (n.domains[((j:Nat):Int).toNat]'hj0).vni)++[Q3 n (E9 n ((n.floods[((m:Nat):Int).toNat]'hm0).addrs[((k:Nat):Int).toNat]'hk0)) (n.domains[((j:Nat):Int).toNat]'hj0).vni]:=by
     rw[zW hlt2,vI];rfl
    have hrl:(((n.floods[((m:Nat):Int).toNat]'hm0).addrs.take k).map (λ a=>Q3 n (E9 n a) (n.domains[((j:Nat):Int).toNat]'hj0).vni)).length≤16:=by rw[xJ,zX];omega
    refine T ?_
    refine C qo F245 ?_
    refine C qf F244 ?_
    refine Xd (Ae Γ.toTy 75 E E E E E (.row E) (.lit (e:=Aa) (l:=[Q3 n (E9 n ((n.floods[((m:Nat):Int).toNat]'hm0).addrs[((k:Nat):Int).toNat]'hk0)) (n.domains[((j:Nat):Int).toNat]'hj0).vni]) E E) j_ (by simp only[yK];omega) (by simp only[yK];omega)) ?_
    refine T ?_
    exact Av (k+1) [(1200,75)] hlt2 q_ ⟨⟨E,E,E,E,E,E,E,E,E,E,E,E,E,E,E,E,E,E,E,E,E,E,Y⟩,⟨.inl E,E,.inl E,E,.inl E,E,.inl E,E,.inl E,E,.inl E,E,.inl E,E,.inl E,E,.inl E,E,.inl (zG (Ob.row 1 Aa) hsn),E,Y⟩,E,E⟩
   ·have hke:k=(n.floods[((m:Nat):Int).toNat]'hm0).addrs.length:=qB h
    clear h
    rw[hke,yG,← hpt]
    refine Ag 1200 E ?_
    refine T ?_
    refine⟨hne,?_⟩
    refine T ?_
    refine⟨(⟨(n.domains[((j:Nat):Int).toNat]'hj0).dev,(n.domains[((j:Nat):Int).toNat]'hj0).vlan,(n.domains[((j:Nat):Int).toNat]'hj0).vni,(n.domains[((j:Nat):Int).toNat]'hj0).irb,(n.domains[((j:Nat):Int).toNat]'hj0).row,ps⟩:Domain),by rw[m1];rfl,by rw[m1];rfl,?_⟩
    refine T ?_
    exact Av (j+1) [] hlt q_ ⟨⟨E,E,E,E,E,E,E,E,E,E,Y⟩,⟨.inl E,E,.inl E,E,.inl E,E,.inl E,E,.inl (zG (Ob.row 6 Ap) m2.symm),E,.inl E,E,.inl E,E,.inl E,E,.inl E,E,Y⟩,E,E⟩
  ·have hje:j=n.domains.length:=qB h
   clear h
   subst hje
   rw[Axj]
   have qm:=Ax (Ir n) (Adm hn hr)
   refine T ?_
   refine Ag 901 E ?_
   refine Ag 902 E ?_
   refine Ag 903 E ?_
   refine Ag 1004 E ?_
   refine Ag 905 E ?_
   refine Ag 906 E ?_
   refine Ag 907 E ?_
   refine Ag 908 E ?_
   cases hb:Ac (Ir n) with
   | false =>
    rw[hb]at qm
    rw[hb,zE rfl]at hres
    subst hres
    refine C qm F24 ?_
    refine Ai 1001 (Cw emptyN) E vL ?_
    refine T ?_
    exact D
   | true =>
    rw[hb]at qm
    rw[hb,zD y_]at hres
    subst hres
    refine C qm F24 ?_
    exact D
end Go.Sy.YtiijbikecbjdaaaGreatDoor
namespace Go.Sy.YtiijbikecbjdaaaGreatDoor
open Go.Proofs
set_option maxHeartbeats 4000000
structure PutP (x:Net × Int):Prop where
 fin:x.1.Fin
 addrs:C8 x.1
 none:x.2≠0→x.1=emptyN
theorem Jy:emptyN.Fin:=by
 constructor<;>first | (show (0:Nat)<2147483648;decide) | (intro p hp;cases hp)
theorem Bk (e:Int):PutP (emptyN,e):=⟨Jy,(λ x hx=>by cases hx),λ _=>rfl⟩
theorem K2 {n:Net} (h:n.Fin) (a:C8 n):PutP (n,0):=⟨h,a,λ h=>yB rfl h⟩
theorem Tj {n:Net} {l:LineM} {k:Int} (h:¬ fitsB n l k=false):n.devices.length≤8∧n.ports.length≤40∧n.links.length≤20∧n.domains.length≤48∧n.statics.length≤64∧n.floods.length≤48∧n.vrfs.length≤16∧n.irbs.length≤48:=by
 have h:fitsB n l k=true:=by simpa using h
 rw[fitsB,zH,zH]at h
 have h3:=h.2.2
 simp only[Ac,zH]at h3
 have h4:=h3.1.1.1.1.1.1.1.1
 simpa [Aqb,and_assoc] using h4
theorem Yr {n:Net} {l:LineM} {k:Int} (h:¬ (begT n l k).2≠0):n.devices.length≤8∧n.ports.length≤40∧n.links.length≤20∧n.domains.length≤48∧n.statics.length≤64∧n.floods.length≤48∧n.vrfs.length≤16∧n.irbs.length≤48:=by
 apply Tj (l:=l) (k:=k)
 intro h2
 rw[begT,zE h2]at h
 exact h j_
theorem Df {α:Type} {l:List α} (h:l.length≤100000):Ak l:=by show l.length<2147483648;omega
theorem Abi (dev:Int):∀ (l:List Int) (ds:List Domain) (d:Domain),d∈Bp dev ds l→d∈ds∨d.peers=[]
 | [],_,_,h=>.inl h
 | v::l,ds,d,h=>by
  rcases Abi dev l (D8 dev ds v) d h with h | h
  ·unfold D8 at h
   split at h
   ·rcases yP.1 h with h | h
    ·exact .inl h
    ·rw[yD.1 h];exact .inr rfl
   ·exact .inl h
  ·exact .inr h
theorem Ab3 {α:Type} {l:List α} {i:Nat} {x y:α} (h:y∈l.set i x):y∈l∨y=x:=by
 rcases uJ h with h | h
 ·exact .inl h
 ·exact .inr h
theorem Aiz {α:Type} [Inhabited α] {l:List α} {i:Int} (h:i.toNat<l.length):nth l i∈l:=by rw[Aj h];exact zJ h
theorem Afp {n:Net} {l:LineM} (hn:n.Fin) (ha:C8 n):PutP (putDevice n l):=by
 unfold putDevice
 split
 ·exact Bk _
 rename_i h
 have:=Tj h
 split
 ·exact Bk _
 split
 ·exact Bk _
 exact K2 { hn with devices:=Df (by rw[yE,yK];omega) } ha
theorem Ak8 {n:Net} {l:LineM} (hn:n.Fin) (ha:C8 n) (hl:LineW l):PutP (putPort n l):=by
 unfold putPort
 split
 ·exact Bk _
 rename_i h
 have:=Tj h
 split
 ·exact Bk _
 split
 ·exact Bk _
 split
 ·exact Bk _
 split
 ·exact Bk _
 refine K2 { hn with ports:=Df (by rw[yE,yK];omega),domains:=Df (by dsimp only;omega),tagged:=λ p hp=>?_,peers:=λ d hd=>?_ } ha
 ·rcases yP.1 hp with hp | hp
  ·exact hn.tagged p hp
  ·rw[yD.1 hp];exact Df hl.fin.t
 ·rcases Abi _ _ _ _ hd with h | h
  ·exact hn.peers d h
  ·exact Df (by rw[h];exact xZ _)
theorem Aq3 {l:List Port} {i k:Int} {p:Port} (h:p∈Vv l i k) (hT:∀ p∈l,Ak p.tagged):Ak p.tagged:=by
 by_cases hi:i.toNat<l.length
 ·rcases Ab3 h with h | h
  ·exact hT p h
  ·rw[h];exact show Ak (nth l i).tagged from hT _ (Aiz hi)
 ·rw[Vv,tT q_]at h
  exact hT p h
theorem Ak9 {n:Net} {l:LineM} (hn:n.Fin) (ha:C8 n):PutP (putLink n l):=by
 unfold putLink
 split
 ·exact Bk _
 rename_i h
 have:=Tj h
 dsimp only
 split
 ·exact Bk _
 split
 ·exact Bk _
 split
 ·exact Bk _
 refine K2 { hn with ports:=Df (by simp only[Vv,yW];omega),links:=Df (by rw[yE,yK];omega),tagged:=λ p hp=>Aq3 hp λ q hq=>Aq3 hq hn.tagged } ha
theorem Afo {n:Net} {l:LineM} (hn:n.Fin) (ha:C8 n):PutP (putStatic n l):=by
 unfold putStatic
 split
 ·exact Bk _
 rename_i h
 have:=Tj h
 dsimp only
 split
 ·exact Bk _
 split
 ·exact Bk _
 split
 ·exact Bk _
 split
 ·exact Bk _
 exact K2 { hn with statics:=Df (by rw[yE,yK];omega) } ha
theorem Ak7 {n:Net} {l:LineM} (hn:n.Fin) (ha:C8 n):PutP (putVtep n l):=by
 unfold putVtep
 split
 ·exact Bk _
 rename_i h
 have:=Yr h
 dsimp only
 split
 ·exact Bk _
 exact K2 { hn with devices:=Df (by simp only[Acu,yW];omega) } ha
theorem Ar3 {l:List Domain} {i:Nat} {e d:Domain} (h:d∈l.set i e) (he:i<l.length→Ak e.peers) (hT:∀ p∈l,Ak p.peers):Ak d.peers:=by
 by_cases hi:i<l.length
 ·rcases Ab3 h with h | h
  ·exact hT d h
  ·rw[h];exact he hi
 ·rw[tT q_]at h
  exact hT d h
theorem Ao5 {n:Net} {l:LineM} (hn:n.Fin) (ha:C8 n):PutP (putVni n l):=by
 unfold putVni
 split
 ·exact Bk _
 rename_i h
 have:=Yr h
 dsimp only
 split
 ·exact Bk _
 split
 ·exact Bk _
 split
 ·exact Bk _
 exact K2 { hn with domains:=Df (by simp only[yW];omega),peers:=λ d hd=>Ar3 hd (λ hi=>show Ak (nth n.domains _).peers from hn.peers _ (Aiz hi)) hn.peers } ha
theorem Aim {n:Net} {l:LineM} (hn:n.Fin) (ha:C8 n) (hl:LineW l):PutP (putFlood n l):=by
 unfold putFlood
 split
 ·exact Bk _
 rename_i h
 have:=Yr h
 dsimp only
 split
 ·exact Bk _
 split
 ·exact Bk _
 split
 ·exact Bk _
 split
 ·exact Bk _
 refine K2 { hn with floods:=Df (by rw[yE,yK];omega),addrs:=λ p hp=>?_ } ha
 rcases yP.1 hp with hp | hp
 ·exact hn.addrs p hp
 ·rw[yD.1 hp];exact Df hl.fin.a
theorem Ao4 {n:Net} {l:LineM} (hn:n.Fin) (ha:C8 n) (hl:LineW l):PutP (putVrf n l):=by
 unfold putVrf
 split
 ·exact Bk _
 rename_i h
 have:=Yr h
 dsimp only
 split
 ·exact Bk _
 split
 ·exact Bk _
 refine K2 { hn with vrfs:=Df (by rw[yE,yK];omega),imports:=λ p hp=>?_,exports:=λ p hp=>?_ } ha
 ·rcases yP.1 hp with hp | hp
  ·exact hn.imports p hp
  ·rw[yD.1 hp];exact Df hl.fin.i
 ·rcases yP.1 hp with hp | hp
  ·exact hn.exports p hp
  ·rw[yD.1 hp];exact Df hl.fin.e
theorem Ao6 {n:Net} {l:LineM} (hn:n.Fin) (ha:C8 n) (hl:LineW l):PutP (putIrb n l):=by
 unfold putIrb
 split
 ·exact Bk _
 rename_i h
 have:=Yr h
 dsimp only
 split
 ·exact Bk _
 split
 ·exact Bk _
 split
 ·exact Bk _
 refine K2 { hn with domains:=Df (by simp only[yW];omega),peers:=λ d hd=>Ar3 hd (λ hi=>show Ak (nth n.domains _).peers from hn.peers _ (Aiz hi)) hn.peers,irbs:=Df (by rw[yE,yK];omega) } λ x hx=>?_
 rcases yP.1 hx with hx | hx
 ·exact ha x hx
 ·rw[yD.1 hx];exact hl.ok.addr
theorem Ari {n:Net} {l:LineM} (hn:n.Fin) (ha:C8 n) (hl:LineW l):PutP (putT n l):=by
 unfold putT
 split
 ·exact Afp hn ha
 split
 ·exact Ak8 hn ha hl
 split
 ·exact Ak9 hn ha
 split
 ·exact Afo hn ha
 split
 ·exact Ak7 hn ha
 split
 ·exact Ao5 hn ha
 split
 ·exact Aim hn ha hl
 split
 ·exact Ao4 hn ha hl
 split
 ·exact Ao6 hn ha hl
 exact Bk _
theorem Agv {n:Net} (hn:n.Fin):(meshNT n).1.Fin:=by
 unfold meshNT
 split
 ·exact Jy
 rename_i h
 have h:Ac n=true:=by simpa using h
 split
 ·exact Jy
 split
 ·exact Jy
 exact Adm hn h
end Go.Sy.YtiijbikecbjdaaaGreatDoor
namespace Go.Sy.YtiijbikecbjdaaaGreatDoor
open Go.Proofs
structure NameK (n:Net):Prop where
 dev:∀ i:Nat,i<n.devices.length→Ay (nth n.devices (i:Int)).name=true∧E4 n (nth n.devices (i:Int)).name=i
 prt:∀ i:Nat,i<n.ports.length→Ay (nth n.ports (i:Int)).name=true∧Q8 n (nth n.ports (i:Int)).dev (nth n.ports (i:Int)).name=i
theorem NameK.same {n m:Net} (h:NameK n) (hd:m.devices=n.devices) (hp:m.ports=n.ports):NameK m:=by
 refine⟨λ i hi=>?_,λ i hi=>?_⟩
 ·rw[hd]at hi ⊢
  have:=h.dev i hi
  unfold E4 at this ⊢
  rw[hd];exact this
 ·rw[hp]at hi ⊢
  have:=h.prt i hi
  unfold Q8 at this ⊢
  rw[hp];exact this
theorem Ae2:∀ (l:List LineM) (n:Net),n.Fin→C8 n→(∀ x∈l,LineW x)→(C5 n l).2.2=0→(C5 n l).1.Fin∧C8 (C5 n l).1
 | [],n,hn,ha,_,h=>by
  rw[C5,finishT]at h ⊢
  split at h
  ·rename_i h1;exact yB h h1
  rename_i h1
  rw[zD h1]
  split at h
  ·simp at h
  rename_i h2
  rw[zD h2]
  obtain ⟨e1,_⟩:=Ai2 (n:=n) q_
  refine⟨Agv hn,?_⟩
  dsimp only
  rw[e1]
  exact ha
 | x::l,n,hn,ha,hl,h=>by
  rw[C5]at h ⊢
  split at h
  ·rename_i h1;exact yB h h1
  rename_i h1
  rw[zD h1]
  have:=Ari hn ha (hl x y_)
  exact Ae2 l _ this.fin this.addrs (λ y hy=>hl y (by simp[hy])) h
theorem empty_num:emptyN.Num:=⟨λ d hd=>(by cases hd),λ d hd=>(by cases hd)⟩
theorem Ao3 {n:Net} {l:LineM} (hv:∀ d∈n.devices,0≤d.vtep∧d.vtep<4294967296) (hl:LineW l):∀ d∈(putT n l).1.devices,0≤d.vtep∧d.vtep<4294967296:=by
 have same:∀ {m:Net},m.devices=n.devices→∀ d∈m.devices,0≤d.vtep∧d.vtep<4294967296:=λ {m} h d hd=>hv d (by rw[← h];exact hd)
 have e:=empty_num.vtep
 rw[putT]
 split
 ·rw[putDevice]
  repeat' split
  all_goals (try exact e)
  intro d hd
  rcases yP.1 hd with hd | hd
  ·exact hv d hd
  ·rw[yD.1 hd];exact⟨wE _,by show (0:Int)<_;decide⟩
 split
 ·rw[putPort]
  repeat' split
  all_goals (first | exact e | exact same rfl)
 split
 ·rw[putLink]
  dsimp only
  repeat' split
  all_goals (first | exact e | exact same rfl)
 split
 ·rw[putStatic]
  dsimp only
  repeat' split
  all_goals (first | exact e | exact same rfl)
 split
 ·rw[putVtep]
  dsimp only
  split
  ·exact e
  split
  ·exact e
  intro d hd
  have hd:d∈Acu n.devices (begT n l 5).1 l.addr:=hd
  rcases Ab3 hd with h | h
  ·exact hv d h
  ·rw[h];exact hl.ok.addr
 split
 ·rw[putVni]
  dsimp only
  repeat' split
  all_goals (first | exact e | exact same rfl)
 split
 ·rw[putFlood]
  dsimp only
  repeat' split
  all_goals (first | exact e | exact same rfl)
 split
 ·rw[putVrf]
  dsimp only
  repeat' split
  all_goals (first | exact e | exact same rfl)
 split
 ·rw[putIrb]
  dsimp only
  repeat' split
  all_goals (first | exact e | exact same rfl)
 exact e
theorem Yo:∀ (l:List LineM) (n:Net),(∀ d∈n.devices,0≤d.vtep∧d.vtep<4294967296)→(∀ x∈l,LineW x)→(C5 n l).2.2=0→∀ d∈(C5 n l).1.devices,0≤d.vtep∧d.vtep<4294967296
 | [],n,hn,_,h=>by
  rw[C5,finishT]at h ⊢
  split at h
  ·rename_i h1;exact yB h h1
  rename_i h1
  rw[zD h1]
  split at h
  ·simp at h
  rename_i h2
  rw[zD h2]
  obtain ⟨e1,_⟩:=Ai2 (n:=n) q_
  dsimp only
  rw[e1]
  exact hn
 | x::l,n,hn,hl,h=>by
  rw[C5]at h ⊢
  split at h
  ·rename_i h1;exact yB h h1
  rename_i h1
  rw[zD h1]
  exact Yo l _ (Ao3 hn (hl x y_)) (λ y hy=>hl y (by simp[hy])) h
theorem Aou {l:LineM} (hk:l.kind=2) (h:Cm l=true):1≤l.cost∧l.cost≤65535:=by
 have h1:¬ l.kind=1:=by omega
 simp only[Cm,Bo,zD h1,zE hk,zH]at h
 exact within_iff.1 h.1.2.1
def Wj (n:Net):Prop:=∀ p∈n.ports,H5 p=false
theorem Aa3:Wj emptyN:=λ p hp=>by cases hp
theorem costsK {n:Net} (h:Wj n):Di n=true:=by
 rw[Di,yX,uM]
 intro p hp
 rw[h p hp]
 exact uZ
theorem Akj {l:List Port} {i k:Int} {p:Port} (h:p∈Vv l i k) (hT:∀ p∈l,H5 p=false):H5 p=false:=by
 by_cases hi:i.toNat<l.length
 ·rcases Ab3 h with h | h
  ·exact hT p h
  ·rw[h];exact show H5 (nth l i)=false from hT _ (Aiz hi)
 ·rw[Vv,tT q_]at h
  exact hT p h
theorem Atm {n:Net} {l:LineM} (hv:Wj n):Wj (putT n l).1:=by
 have same:∀ {m:Net},m.ports=n.ports→Wj m:=λ {m} h d hd=>hv d (by rw[← h];exact hd)
 have e:=Aa3
 rw[putT]
 split
 ·rw[putDevice]
  repeat' split
  all_goals (first | exact e | exact same rfl)
 split
 ·rename_i h2
  rw[putPort]
  split
  ·exact e
  rename_i hf
  repeat' split
  all_goals (try exact e)
  intro p hp
  rcases yP.1 hp with hp | hp
  ·exact hv p hp
  ·rw[yD.1 hp]
   have hf:fitsB n l 2=true:=by simpa using hf
   rw[fitsB,zH,zH]at hf
   have:=Aou h2 (by simpa using hf.2.1)
   simp only[H5]
   have a:decide (l.cost<1)=false:=zI q_
   have b:decide (65535<l.cost)=false:=zI q_
   simp[a,b]
 split
 ·rw[putLink]
  dsimp only
  repeat' split
  all_goals (try exact e)
  intro p hp
  exact Akj hp λ q hq=>Akj hq hv
 split
 ·rw[putStatic]
  dsimp only
  repeat' split
  all_goals (first | exact e | exact same rfl)
 split
 ·rw[putVtep]
  dsimp only
  repeat' split
  all_goals (first | exact e | exact same rfl)
 split
 ·rw[putVni]
  dsimp only
  repeat' split
  all_goals (first | exact e | exact same rfl)
 split
 ·rw[putFlood]
  dsimp only
  repeat' split
  all_goals (first | exact e | exact same rfl)
 split
 ·rw[putVrf]
  dsimp only
  repeat' split
  all_goals (first | exact e | exact same rfl)
 split
 ·rw[putIrb]
  dsimp only
  repeat' split
  all_goals (first | exact e | exact same rfl)
 exact e
theorem Aa7:∀ (l:List LineM) (n:Net),Wj n→(C5 n l).2.2=0→Wj (C5 n l).1
 | [],n,hn,h=>by
  rw[C5,finishT]at h ⊢
  split at h
  ·rename_i h1;exact yB h h1
  rename_i h1
  rw[zD h1]
  split at h
  ·simp at h
  rename_i h2
  rw[zD h2]
  obtain ⟨e1,_⟩:=Ai2 (n:=n) q_
  dsimp only
  rw[e1]
  exact hn
 | x::l,n,hn,h=>by
  rw[C5]at h ⊢
  split at h
  ·rename_i h1;exact yB h h1
  rename_i h1
  rw[zD h1]
  exact Aa7 l _ (Atm hn) h
end Go.Sy.YtiijbikecbjdaaaGreatDoor
