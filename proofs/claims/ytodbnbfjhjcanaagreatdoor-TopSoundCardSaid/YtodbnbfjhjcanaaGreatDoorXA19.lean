/- Parts of a proof. -/
import Derived.Test.YtodbnbfjhjcanaaGreatDoorXA18
set_option maxHeartbeats 4000000
set_option linter.all false
namespace Go.Sy.Zaa
open Go.Proofs Go.Proofs.Tryz
attribute [local irreducible]G DR
set_option maxRecDepth 100000
def Aei(l:List Int)(x:Int)(hl:An l):Sp 394 [.sl 1 A9 l,A9 x] (Aa (Bs (·==x) l)):=cT F394 ntmps394 λF hF=>by
 unfold An at hl;refine fW ?_;refine A7 l.length (λj=>∀i (h:i<l.length),i<j->(l[i]==x)=false) (λj=>[(0,.sl 1 A9 l),(1,A9 x),(7,Aa l.length),(8,Aa j)]) (λ_=>[]) [] (λi h hj=>zX hj z_) kU ?_;intro j hj hI;refine fU ?_
 (repeat' (first|(refine⟨λh=>?_,λh=>?_⟩<;>(repeat (first|simp only[Af]at h|simp only[zJ]at h|simp only[zY]at h|simp only[yJ]at h|simp only[zT]at h|simp only[xC]at h|simp only[bne_eq_false_iff_eq]at h|simp only[zG]at h|simp only[yQ]at h|simp only[yW]at h|simp only[wG]at h|simp only[xB]at h|simp only[wZ]at h|simp only[xJ]at h|simp only[Bool.not_true]at h|simp only[wW]at h))<;>((first|refine rg ?_|refine rd j_ ?_);(conv=>whnf);repeat((first|refine aF ?_|refine aT ?_);(first|refine rg ?_|refine rd j_ ?_);(conv=>whnf))))|(refine Aq rfl Ap ?_ rfl)|(refine⟨j_,?_⟩;((conv=>whnf);repeat((first|refine aF ?_|refine aT ?_);(first|refine rg ?_|refine rd j_ ?_);(conv=>whnf))))|(refine⟨by (first|(unfold I64;omega)|omega|(simp only[yE];omega)|done),by (first|(unfold I64;omega)|omega|(simp only[yE];omega)|done),?_⟩;((conv=>whnf);repeat((first|refine aF ?_|refine aT ?_);(first|refine rg ?_|refine rd j_ ?_);(conv=>whnf))))|(refine⟨by (first|(unfold I64;omega)|omega|(simp only[yE];omega)|done),?_⟩;((conv=>whnf);repeat((first|refine aF ?_|refine aT ?_);(first|refine rg ?_|refine rd j_ ?_);(conv=>whnf))))|refine A6 [] hI z_ ?_ kU))
 all_goals try (refine zH Aa ?_)
 .exact Ct z_ hI (kS h.symm)
 .intro i hi cy;rcases vR i j with h1|h1
  .exact hI i hi h1
  .have:i=j:=by omega
   subst this;simpa using Ne.symm h
 .exact Df (λi hi=>hI i hi z_)
def T8(l:List Int)(x:Int)(hl:An l):Sp 353 [.sl 1 A9 l,A9 x] (Ab (inB l x)):=cT F353 ntmps353 λF hF=>by
 refine fW ?_
 (repeat' (first|(refine⟨λh=>?_,λh=>?_⟩<;>(repeat (first|simp only[Af]at h|simp only[zJ]at h|simp only[zY]at h|simp only[yJ]at h|simp only[zT]at h|simp only[xC]at h|simp only[bne_eq_false_iff_eq]at h|simp only[zG]at h|simp only[yQ]at h|simp only[yW]at h|simp only[wG]at h|simp only[xB]at h|simp only[wZ]at h|simp only[xJ]at h|simp only[Bool.not_true]at h|simp only[wW]at h))<;>((first|refine rg ?_|refine rd j_ ?_);(conv=>whnf);repeat((first|refine aF ?_|refine aT ?_);(first|refine rg ?_|refine rd j_ ?_);(conv=>whnf))))|(refine Aq rfl Ap ?_ rfl)|(refine⟨j_,?_⟩;((conv=>whnf);repeat((first|refine aF ?_|refine aT ?_);(first|refine rg ?_|refine rd j_ ?_);(conv=>whnf))))|(refine⟨by (first|(unfold I64;omega)|omega|(simp only[yE];omega)|done),by (first|(unfold I64;omega)|omega|(simp only[yE];omega)|done),?_⟩;((conv=>whnf);repeat((first|refine aF ?_|refine aT ?_);(first|refine rg ?_|refine rd j_ ?_);(conv=>whnf))))|(refine⟨by (first|(unfold I64;omega)|omega|(simp only[yE];omega)|done),?_⟩;((conv=>whnf);repeat((first|refine aF ?_|refine aT ?_);(first|refine rg ?_|refine rd j_ ?_);(conv=>whnf))))|(refine c0 (Aei _ _ hl) F394 ?_;((first|refine rg ?_|refine rd j_ ?_);(conv=>whnf);repeat((first|refine aF ?_|refine aT ?_);(first|refine rg ?_|refine rd j_ ?_);(conv=>whnf))))|(refine cD (Aei _ _ hl) F394 ?_;((first|refine rg ?_|refine rd j_ ?_);(conv=>whnf);repeat((first|refine aF ?_|refine aT ?_);(first|refine rg ?_|refine rd j_ ?_);(conv=>whnf))))))
 exact zH Ab (Iz _ _).symm
def ovVniS(n:Net)(hn:n.Fin)(l:LineM)(hl:LineW l):Sp 279 [Am n,A3 l] (.tup [Am (putVni n l).1,Aa (putVni n l).2]):=cT F279 ntmps279 λF hF=>by
 have ar:=@beg_ok n l 6;have aa:=putVni.eq_1 n l;have q1:=Qt n hn l hl 6;have de:=Qz n hn;generalize putVni n l=res at *;generalize begT n l 6=b at *;obtain ⟨d,e⟩:=b;dsimp only at aa ar q1;by_cases h1:e≠0
 .have g1:(e != 0)=true:=by rw[xC];exact h1
  rw[zE h1]at aa;subst aa;refine gC q1 F352 ?_;exact Ak 4 (C8 emptyN) E vL gA
 have g1:(e != 0)=false:=by rw[bne_eq_false_iff_eq];omega
 rw[zD h1]at aa;obtain ⟨_,hr,i,hi,ab⟩:=ar z_;subst hi;clear ar;have aq:(i:Int).toNat<n.devices.length:=ab;have eu:nth n.devices (i:Int)=n.devices[(i:Int).toNat]'aq:=Ag aq;rw[eu]at aa;have q2:=Lp n hn hr (i:Int) l.vlan;have q3:=Z7 n hn (i:Int) l.num;have es:Da n (i:Int) l.vlan<0\/∃k:Nat,Da n (i:Int) l.vlan=k/\k<n.domains.length:=by
  by_cases h:Da n (i:Int) l.vlan<0
  .exact .inl h
  .exact .inr (Kf h)
 generalize Da n (i:Int) l.vlan=dm at *;by_cases h2:(n.devices[(i:Int).toNat]'aq).vtep=0
 .have g2:((n.devices[(i:Int).toNat]'aq).vtep==0)=true:=by rw[yJ];exact h2
  rw[zE h2]at aa;subst aa;refine gB q1 F352 q2 F181 ?_;exact Ak 4 (C8 emptyN) E vL gA
 have g2:((n.devices[(i:Int).toNat]'aq).vtep==0)=false:=by rw[zT];exact h2
 rw[zD h2]at aa;by_cases h3:dm<0
 .have g3:decide (dm<0)=true:=zK h3;rw[zE h3]at aa;subst aa;refine gB q1 F352 q2 F181 ?_;exact Ak 4 (C8 emptyN) E vL gA
 have g3:decide (dm<0)=false:=zL h3;rw[zD h3]at aa;obtain ⟨k,hk,lc⟩:=es.resolve_left h3;subst hk;clear es;have bc:(k:Int).toNat<n.domains.length:=lc;have wk:nth n.domains (k:Int)=n.domains[(k:Int).toNat]'bc:=Ag bc;rw[wk]at aa;by_cases h4:(n.domains[(k:Int).toNat]'bc).vni≠0
 .have g4:((n.domains[(k:Int).toNat]'bc).vni != 0)=true:=by rw[xC];exact h4
  rw[zE (.inl h4)]at aa;subst aa;refine gB q1 F352 q2 F181 ?_;exact Ak 4 (C8 emptyN) E vL gA
 have g4:((n.domains[(k:Int).toNat]'bc).vni != 0)=false:=by rw[bne_eq_false_iff_eq];omega
 by_cases h5:0<=Ql n (i:Int) l.num
 .have g5:decide (Ql n (i:Int) l.num>=0)=true:=zK h5;rw[zE (.inr h5)]at aa;subst aa;refine gB q1 F352 q2 F181 ?_;refine C q3 F285 ?_;exact Ak 4 (C8 emptyN) E vL gA
 have g5:decide (Ql n (i:Int) l.num>=0)=false:=zL h5;rw[zD (λh=>h.elim h4 h5)]at aa;have ag:n.domains≠[]:=λe=>by rw[e]at lc;cases lc
 have s7:∀x,n.domains.set (k:Int).toNat x≠[]:=λx e=>by
  have:=zH List.length e;rw[yN]at this;simp at this;exact ag this
 have dw:∀x,(k:Int).toNat<(n.domains.set (k:Int).toNat x).length:=λx=>by rw[yN];exact bc
 have bj:∀x y,(n.domains.set (k:Int).toNat x).set (k:Int).toNat y=n.domains.set (k:Int).toNat y:=λx y=>List.set_set ..
 have a8:∀x,(n.domains.set (k:Int).toNat x)[(k:Int).toNat]'(dw x)=x:=λx=>uS ..
 rw[<-bj (⟨(n.domains[(k:Int).toNat]'bc).dev,(n.domains[(k:Int).toNat]'bc).vlan,l.num,(n.domains[(k:Int).toNat]'bc).irb,(n.domains[(k:Int).toNat]'bc).row,(n.domains[(k:Int).toNat]'bc).peers⟩:Domain) (⟨(n.domains[(k:Int).toNat]'bc).dev,(n.domains[(k:Int).toNat]'bc).vlan,l.num,(n.domains[(k:Int).toNat]'bc).irb,l.row,(n.domains[(k:Int).toNat]'bc).peers⟩:Domain)]at aa;subst aa;refine gB q1 F352 q2 F181 ?_;refine C q3 F285 ?_;refine X (Ad [(0,901),(1,902),(2,903),(3,904),(4,905),(5,906),(6,907),(7,908)] E F102 de E W E V) ?_;refine⟨ag,?_⟩;refine T ?_;refine⟨(⟨(n.domains[(k:Int).toNat]'bc).dev,(n.domains[(k:Int).toNat]'bc).vlan,l.num,(n.domains[(k:Int).toNat]'bc).irb,(n.domains[(k:Int).toNat]'bc).row,(n.domains[(k:Int).toNat]'bc).peers⟩:Domain),E,E,?_⟩;refine T ?_;refine⟨dw _,?_⟩;refine T ?_;refine⟨s7 _,?_⟩;refine T ?_;refine⟨dw _,(⟨(n.domains[(k:Int).toNat]'bc).dev,(n.domains[(k:Int).toNat]'bc).vlan,l.num,(n.domains[(k:Int).toNat]'bc).irb,l.row,(n.domains[(k:Int).toNat]'bc).peers⟩:Domain),by rw[a8];rfl,by rw[a8];rfl,?_⟩;refine T ?_;exact Aj 901 E (Aj 902 E (Aj 903 E (Aj 904 E (Aj 905 E (Aj 906 E (Aj 907 E (Aj 908 E D)))))))
def Axg(n:Net)(hn:n.Fin)(l:LineM)(hl:LineW l):Sp 280 [Am n,A3 l] (.tup [Am (putFlood n l).1,Aa (putFlood n l).2]):=cT F280 ntmps280 λF hF=>by
 have ar:=@beg_ok n l 7;have aa:=putFlood.eq_1 n l;have q1:=Qt n hn l hl 7;have de:=Qz n hn;generalize putFlood n l=res at *;generalize begT n l 7=b at *;obtain ⟨d,e⟩:=b;dsimp only at aa ar q1;by_cases h1:e≠0
 .have g1:(e != 0)=true:=by rw[xC];exact h1
  rw[zE h1]at aa;subst aa;refine gC q1 F352 ?_;exact Ak 4 (C8 emptyN) E vL gA
 have g1:(e != 0)=false:=by rw[bne_eq_false_iff_eq];omega
 rw[zD h1]at aa;obtain ⟨_,hr,i,hi,ab⟩:=ar z_;subst hi;clear ar;have aq:(i:Int).toNat<n.devices.length:=ab;have eu:nth n.devices (i:Int)=n.devices[(i:Int).toNat]'aq:=Ag aq;rw[eu]at aa;have gr:=hl.fin.a;have q2:=Z7 n hn (i:Int) l.num;have q3:=Agi n hn (i:Int) l.num;have q4:=T8 l.addrs (n.devices[(i:Int).toNat]'aq).vtep (by unfold An;omega);have q5:=Ae7 l.addrs z_;generalize Ql n (i:Int) l.num=v2 at *;generalize Jd n (i:Int) l.num=v3 at *;generalize inB l.addrs (n.devices[(i:Int).toNat]'aq).vtep=v4 at *;by_cases h2:v2<0
 .have g2:decide (v2<0)=true:=zK h2;rw[zE h2]at aa;subst aa;refine gB q1 F352 q2 F285 ?_;exact Ak 4 (C8 emptyN) E vL gA
 have g2:decide (v2<0)=false:=zL h2;rw[zD h2]at aa;by_cases h3:0<=v3
 .have g3:decide (v3>=0)=true:=zK h3;rw[zE h3]at aa;subst aa;refine gB q1 F352 q2 F285 ?_;refine C q3 F284 ?_;exact Ak 4 (C8 emptyN) E vL gA
 have g3:decide (v3>=0)=false:=zL h3;rw[zD h3]at aa;cases v4 with
 |true=>
  rw[zE rfl]at aa;subst aa;refine gB q1 F352 q2 F285 ?_;refine gI q3 F284 q4 F353 ?_;exact Ak 4 (C8 emptyN) E vL gA
 |false=>
  rw[zD qq]at aa;by_cases h5:n.floods.length=48
  .have g5:((n.floods.length:Int)==48)=true:=by rw[yJ];omega
   rw[zE h5]at aa;subst aa;refine gB q1 F352 q2 F285 ?_;refine gI q3 F284 q4 F353 ?_;exact Ak 4 (C8 emptyN) E vL gA
  have g5:((n.floods.length:Int)==48)=false:=by rw[zT];omega
  rw[zD h5]at aa;subst aa;have im:n.floods.length<2147483648:=hn.floods;refine gB q1 F352 q2 F285 ?_;refine gI q3 F284 q4 F353 ?_;refine X (Ad [(0,901),(1,902),(2,903),(3,904),(4,905),(5,906),(6,907),(7,908)] E F102 de E W E V) ?_;refine C q5 F171 ?_;refine Xd (Ah Γ.toTy 66 E E E E E (.row E) (.lit (e:=Bm) (l:=[(⟨l.row,(i:Int),l.num,l.addrs⟩:Flood)]) E E) y_ (by simp only[yF];omega) (by simp only[yF];omega)) ?_;refine T ?_;exact Aj 901 E (Aj 902 E (Aj 903 E (Aj 904 E (Aj 905 E (Aj 66 E (Aj 907 E (Aj 908 E D)))))))
end Go.Sy.Zaa
