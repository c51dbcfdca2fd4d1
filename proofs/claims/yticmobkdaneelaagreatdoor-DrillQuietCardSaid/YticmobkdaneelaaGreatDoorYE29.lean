/- Parts of a proof. -/
import Derived.Test.YticmobkdaneelaaGreatDoorYE28
set_option linter.all false
set_option linter.unusedVariables false
set_option linter.unusedSimpArgs false
set_option linter.deprecated false
namespace Go.Sy.YticmobkdaneelaaGreatDoor
open Go.Proofs Go.Proofs.Tryz
attribute [local irreducible] Go.Sy.G Go.Sy.DR
set_option maxRecDepth 100000
set_option maxHeartbeats 4000000
def Ai7(l:List Int)(x:Int)(hl:An l):Sp 334 [.sl 1 Bb l,Bb x] (Aa (Bv (·==x) l)):=cT F334 ntmps334 λF hF=>by
 unfold An at hl;refine fW ?_;refine A9 l.length (λj=>∀i (h:i<l.length),i<j→(l[i]==x)=false) (λj=>[(0,.sl 1 Bb l),(1,Bb x),(7,Aa l.length),(8,Aa j)]) (λ_=>[]) [] (λi h hj=>zY hj q_) kU ?_;intro j hj hI;refine fU ?_
 (repeat' (first|(refine⟨λh=>?_,λh=>?_⟩<;>(repeat (first|simp only[Ah]at h|simp only[zJ]at h|simp only[zX]at h|simp only[yJ]at h|simp only[zR]at h|simp only[xG]at h|simp only[bne_eq_false_iff_eq]at h|simp only[zE]at h|simp only[yM]at h|simp only[yQ]at h|simp only[xY]at h|simp only[yU]at h|simp only[wB]at h|simp only[yW]at h|simp only[tC]at h|simp only[wJ]at h))<;>((first|refine rg ?_|refine rd z_ ?_);(conv=>whnf);repeat((first|refine aF ?_|refine aT ?_);(first|refine rg ?_|refine rd z_ ?_);(conv=>whnf))))|(refine At rfl (.cons .tmp .nil) ?_ rfl)|(refine⟨z_,?_⟩;((conv=>whnf);repeat((first|refine aF ?_|refine aT ?_);(first|refine rg ?_|refine rd z_ ?_);(conv=>whnf))))|(refine⟨by (first|(unfold I64;omega)|omega|(simp only[zU];omega)|done),by (first|(unfold I64;omega)|omega|(simp only[zU];omega)|done),?_⟩;((conv=>whnf);repeat((first|refine aF ?_|refine aT ?_);(first|refine rg ?_|refine rd z_ ?_);(conv=>whnf))))|(refine⟨by (first|(unfold I64;omega)|omega|(simp only[zU];omega)|done),?_⟩;((conv=>whnf);repeat((first|refine aF ?_|refine aT ?_);(first|refine rg ?_|refine rd z_ ?_);(conv=>whnf))))|refine A8 [] hI q_ ?_ kU))
 all_goals try (refine zH Aa ?_)
 ·exact C7 q_ hI (by simpa using h.symm)
 ·intro i hi br;rcases vM i j with h1|h1
  ·exact hI i hi h1
  ·have:i=j:=by omega
   subst this;simpa using Ne.symm h
 ·exact D4 (λi hi=>hI i hi q_)
def Tf(l:List Int)(x:Int)(hl:An l):Sp 265 [.sl 1 Bb l,Bb x] (Ab (inB l x)):=cT F265 ntmps265 λF hF=>by
 refine fW ?_
 (repeat' (first|(refine⟨λh=>?_,λh=>?_⟩<;>(repeat (first|simp only[Ah]at h|simp only[zJ]at h|simp only[zX]at h|simp only[yJ]at h|simp only[zR]at h|simp only[xG]at h|simp only[bne_eq_false_iff_eq]at h|simp only[zE]at h|simp only[yM]at h|simp only[yQ]at h|simp only[xY]at h|simp only[yU]at h|simp only[wB]at h|simp only[yW]at h|simp only[tC]at h|simp only[wJ]at h))<;>((first|refine rg ?_|refine rd z_ ?_);(conv=>whnf);repeat((first|refine aF ?_|refine aT ?_);(first|refine rg ?_|refine rd z_ ?_);(conv=>whnf))))|(refine At rfl (.cons .tmp .nil) ?_ rfl)|(refine⟨z_,?_⟩;((conv=>whnf);repeat((first|refine aF ?_|refine aT ?_);(first|refine rg ?_|refine rd z_ ?_);(conv=>whnf))))|(refine⟨by (first|(unfold I64;omega)|omega|(simp only[zU];omega)|done),by (first|(unfold I64;omega)|omega|(simp only[zU];omega)|done),?_⟩;((conv=>whnf);repeat((first|refine aF ?_|refine aT ?_);(first|refine rg ?_|refine rd z_ ?_);(conv=>whnf))))|(refine⟨by (first|(unfold I64;omega)|omega|(simp only[zU];omega)|done),?_⟩;((conv=>whnf);repeat((first|refine aF ?_|refine aT ?_);(first|refine rg ?_|refine rd z_ ?_);(conv=>whnf))))|(refine c0 (Ai7 _ _ hl) F334 ?_;((first|refine rg ?_|refine rd z_ ?_);(conv=>whnf);repeat((first|refine aF ?_|refine aT ?_);(first|refine rg ?_|refine rd z_ ?_);(conv=>whnf))))|(refine cD (Ai7 _ _ hl) F334 ?_;((first|refine rg ?_|refine rd z_ ?_);(conv=>whnf);repeat((first|refine aF ?_|refine aT ?_);(first|refine rg ?_|refine rd z_ ?_);(conv=>whnf))))))
 exact zH Ab (Kl _ _).symm
def ovVniS(n:Net)(hn:n.Fin)(l:LineM)(hl:LineW l):Sp 187 [Am n,A3 l] (.tup [Am (putVni n l).1,Aa (putVni n l).2]):=cT F187 ntmps187 λF hF=>by
 have ar:=@beg_ok n l 6;have aa:=putVni.eq_1 n l;have q1:=Qb n hn l hl 6;have db:=Te n hn;generalize putVni n l=res at *;generalize begT n l 6=b at *;obtain ⟨d,e⟩:=b;dsimp only at aa ar q1;by_cases h1:e≠0
 ·have g1:(e != 0)=true:=by rw[xG];exact h1
  rw[zG h1]at aa;subst aa;refine gD q1 F264 ?_;refine Ak 4 (C6 emptyN) E vL ?_;exact gA
 have g1:(e != 0)=false:=by rw[bne_eq_false_iff_eq];omega
 rw[zD h1]at aa;obtain ⟨_,hr,i,hi,ab⟩:=ar q_;subst hi;clear ar;have aq:(i:Int).toNat<n.devices.length:=ab;have ep:nth n.devices (i:Int)=n.devices[(i:Int).toNat]'aq:=Ai aq;rw[ep]at aa;have q2:=Lg n hn hr (i:Int) l.vlan;have q3:=Zc n hn (i:Int) l.num;have fy:C2 n (i:Int) l.vlan<0∨∃k:Nat,C2 n (i:Int) l.vlan=k∧k<n.domains.length:=by
  by_cases h:C2 n (i:Int) l.vlan<0
  ·exact .inl h
  ·exact .inr (K6 h)
 generalize C2 n (i:Int) l.vlan=dm at *;by_cases h2:(n.devices[(i:Int).toNat]'aq).vtep=0
 ·have g2:((n.devices[(i:Int).toNat]'aq).vtep==0)=true:=by rw[yJ];exact h2
  rw[zG h2]at aa;subst aa;refine gB q1 F264 q2 F102 ?_;refine Ak 4 (C6 emptyN) E vL ?_;exact gA
 have g2:((n.devices[(i:Int).toNat]'aq).vtep==0)=false:=by rw[zR];exact h2
 rw[zD h2]at aa;by_cases h3:dm<0
 ·have g3:decide (dm<0)=true:=zO h3;rw[zG h3]at aa;subst aa;refine gB q1 F264 q2 F102 ?_;refine Ak 4 (C6 emptyN) E vL ?_;exact gA
 have g3:decide (dm<0)=false:=zL h3;rw[zD h3]at aa;obtain ⟨k,hk,s7⟩:=fy.resolve_left h3;subst hk;clear fy;have bj:(k:Int).toNat<n.domains.length:=s7;have u9:nth n.domains (k:Int)=n.domains[(k:Int).toNat]'bj:=Ai bj;rw[u9]at aa;by_cases h4:(n.domains[(k:Int).toNat]'bj).vni≠0
 ·have g4:((n.domains[(k:Int).toNat]'bj).vni != 0)=true:=by rw[xG];exact h4
  rw[zG (.inl h4)]at aa;subst aa;refine gB q1 F264 q2 F102 ?_;refine Ak 4 (C6 emptyN) E vL ?_;exact gA
 have g4:((n.domains[(k:Int).toNat]'bj).vni != 0)=false:=by rw[bne_eq_false_iff_eq];omega
 by_cases h5:0≤O4 n (i:Int) l.num
 ·have g5:decide (O4 n (i:Int) l.num≥0)=true:=zO h5;rw[zG (.inr h5)]at aa;subst aa;refine gB q1 F264 q2 F102 ?_;refine C q3 F193 ?_;refine Ak 4 (C6 emptyN) E vL ?_;exact gA
 have g5:decide (O4 n (i:Int) l.num≥0)=false:=zL h5;rw[zD (λh=>h.elim h4 h5)]at aa;have ag:n.domains≠[]:=λe=>by rw[e]at s7;cases s7
 have kw:∀x,n.domains.set (k:Int).toNat x≠[]:=λx e=>by
  have:=zH List.length e;rw[yR]at this;simp at this;exact ag this
 have dg:∀x,(k:Int).toNat<(n.domains.set (k:Int).toNat x).length:=λx=>by rw[yR];exact bj
 have a7:∀x y,(n.domains.set (k:Int).toNat x).set (k:Int).toNat y=n.domains.set (k:Int).toNat y:=λx y=>List.set_set ..
 have bf:∀x,(n.domains.set (k:Int).toNat x)[(k:Int).toNat]'(dg x)=x:=λx=>uV ..
 rw[←a7 (⟨(n.domains[(k:Int).toNat]'bj).dev,(n.domains[(k:Int).toNat]'bj).vlan,l.num,(n.domains[(k:Int).toNat]'bj).irb,(n.domains[(k:Int).toNat]'bj).row,(n.domains[(k:Int).toNat]'bj).peers⟩:Domain) (⟨(n.domains[(k:Int).toNat]'bj).dev,(n.domains[(k:Int).toNat]'bj).vlan,l.num,(n.domains[(k:Int).toNat]'bj).irb,l.row,(n.domains[(k:Int).toNat]'bj).peers⟩:Domain)]at aa;subst aa;refine gB q1 F264 q2 F102 ?_;refine C q3 F193 ?_;refine X (Ad [(0,901),(1,902),(2,903),(3,904),(4,905),(5,906),(6,907),(7,908)] E F30 db E W E V) ?_;refine⟨ag,?_⟩;refine T ?_;refine⟨(⟨(n.domains[(k:Int).toNat]'bj).dev,(n.domains[(k:Int).toNat]'bj).vlan,l.num,(n.domains[(k:Int).toNat]'bj).irb,(n.domains[(k:Int).toNat]'bj).row,(n.domains[(k:Int).toNat]'bj).peers⟩:Domain),E,E,?_⟩;refine T ?_;refine⟨dg _,?_⟩;refine T ?_;refine⟨kw _,?_⟩;refine T ?_;refine⟨dg _,(⟨(n.domains[(k:Int).toNat]'bj).dev,(n.domains[(k:Int).toNat]'bj).vlan,l.num,(n.domains[(k:Int).toNat]'bj).irb,l.row,(n.domains[(k:Int).toNat]'bj).peers⟩:Domain),by rw[bf];rfl,by rw[bf];rfl,?_⟩;refine T ?_;refine Aj 901 E ?_;refine Aj 902 E ?_;refine Aj 903 E ?_;refine Aj 904 E ?_;refine Aj 905 E ?_;refine Aj 906 E ?_;refine Aj 907 E ?_;refine Aj 908 E ?_;exact D
def A1g(n:Net)(hn:n.Fin)(l:LineM)(hl:LineW l):Sp 188 [Am n,A3 l] (.tup [Am (putFlood n l).1,Aa (putFlood n l).2]):=cT F188 ntmps188 λF hF=>by
 have ar:=@beg_ok n l 7;have aa:=putFlood.eq_1 n l;have q1:=Qb n hn l hl 7;have db:=Te n hn;generalize putFlood n l=res at *;generalize begT n l 7=b at *;obtain ⟨d,e⟩:=b;dsimp only at aa ar q1;by_cases h1:e≠0
 ·have g1:(e != 0)=true:=by rw[xG];exact h1
  rw[zG h1]at aa;subst aa;refine gD q1 F264 ?_;refine Ak 4 (C6 emptyN) E vL ?_;exact gA
 have g1:(e != 0)=false:=by rw[bne_eq_false_iff_eq];omega
 rw[zD h1]at aa;obtain ⟨_,hr,i,hi,ab⟩:=ar q_;subst hi;clear ar;have aq:(i:Int).toNat<n.devices.length:=ab;have ep:nth n.devices (i:Int)=n.devices[(i:Int).toNat]'aq:=Ai aq;rw[ep]at aa;have nc:=hl.fin.a;have q2:=Zc n hn (i:Int) l.num;have q3:=Ak2 n hn (i:Int) l.num;have q4:=Tf l.addrs (n.devices[(i:Int).toNat]'aq).vtep (by unfold An;omega);have q5:=Abm l.addrs q_;generalize O4 n (i:Int) l.num=v2 at *;generalize I5 n (i:Int) l.num=v3 at *;generalize inB l.addrs (n.devices[(i:Int).toNat]'aq).vtep=v4 at *;by_cases h2:v2<0
 ·have g2:decide (v2<0)=true:=zO h2;rw[zG h2]at aa;subst aa;refine gB q1 F264 q2 F193 ?_;refine Ak 4 (C6 emptyN) E vL ?_;exact gA
 have g2:decide (v2<0)=false:=zL h2;rw[zD h2]at aa;by_cases h3:0≤v3
 ·have g3:decide (v3≥0)=true:=zO h3;rw[zG h3]at aa;subst aa;refine gB q1 F264 q2 F193 ?_;refine C q3 F192 ?_;refine Ak 4 (C6 emptyN) E vL ?_;exact gA
 have g3:decide (v3≥0)=false:=zL h3;rw[zD h3]at aa;cases v4 with
 |true=>
  rw[zG rfl]at aa;subst aa;refine gB q1 F264 q2 F193 ?_;refine gJ q3 F192 q4 F265 ?_;refine Ak 4 (C6 emptyN) E vL ?_;exact gA
 |false=>
  rw[zD y_]at aa;by_cases h5:n.floods.length=48
  ·have g5:((n.floods.length:Int)==48)=true:=by rw[yJ];omega
   rw[zG h5]at aa;subst aa;refine gB q1 F264 q2 F193 ?_;refine gJ q3 F192 q4 F265 ?_;refine Ak 4 (C6 emptyN) E vL ?_;exact gA
  have g5:((n.floods.length:Int)==48)=false:=by rw[zR];omega
  rw[zD h5]at aa;subst aa;have il:n.floods.length<2147483648:=hn.floods;refine gB q1 F264 q2 F193 ?_;refine gJ q3 F192 q4 F265 ?_;refine X (Ad [(0,901),(1,902),(2,903),(3,904),(4,905),(5,906),(6,907),(7,908)] E F30 db E W E V) ?_;refine C q5 F92 ?_;refine Xd (Ag Γ.toTy 66 E E E E E (.row E) (.lit (e:=Ba) (l:=[(⟨l.row,(i:Int),l.num,l.addrs⟩:Flood)]) E E) j_ (by simp only[yC];omega) (by simp only[yC];omega)) ?_;refine T ?_;refine Aj 901 E ?_;refine Aj 902 E ?_;refine Aj 903 E ?_;refine Aj 904 E ?_;refine Aj 905 E ?_;refine Aj 66 E ?_;refine Aj 907 E ?_;refine Aj 908 E ?_;exact D
end Go.Sy.YticmobkdaneelaaGreatDoor
