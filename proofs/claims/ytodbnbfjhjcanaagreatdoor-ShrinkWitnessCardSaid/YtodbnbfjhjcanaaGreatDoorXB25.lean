/- Parts of a proof. -/
import Derived.Test.YtodbnbfjhjcanaaGreatDoorXB18
set_option maxHeartbeats 4000000
set_option linter.all false
namespace Go.Sy.Zaa
open Go.Proofs Go.Proofs.Tryz
attribute [local irreducible]G DR
set_option maxRecDepth 100000
def Agi(l:List Int)(x:Int)(hl:An l):Sp 394 [.sl 1 Be l,Be x] (Aa (Bs (·==x) l)):=cT F394 ntmps394 λF hF=>by
 unfold An at hl;refine fW ?_;refine Ba l.length (λj=>∀i (h:i<l.length),i<j->(l[i]==x)=false) (λj=>[(0,.sl 1 Be l),(1,Be x),(7,Aa l.length),(8,Aa j)]) (λ_=>[]) [] (λi h hj=>yA hj q_) kU ?_;intro j hj hI;refine fU ?_
 (repeat' (first|(refine⟨λh=>?_,λh=>?_⟩<;>(repeat (first|simp only[Ag]at h|simp only[zJ]at h|simp only[yB]at h|simp only[yJ]at h|simp only[zU]at h|simp only[xC]at h|simp only[bne_eq_false_iff_eq]at h|simp only[zG]at h|simp only[yO]at h|simp only[yX]at h|simp only[xX]at h|simp only[yU]at h|simp only[wW]at h|simp only[xM]at h|simp only[Bool.not_true]at h|simp only[wS]at h))<;>((first|refine rg ?_|refine rd z_ ?_);(conv=>whnf);repeat((first|refine aF ?_|refine aT ?_);(first|refine rg ?_|refine rd z_ ?_);(conv=>whnf))))|(refine Ar rfl Aq ?_ rfl)|(refine⟨z_,?_⟩;((conv=>whnf);repeat((first|refine aF ?_|refine aT ?_);(first|refine rg ?_|refine rd z_ ?_);(conv=>whnf))))|(refine⟨by (first|(unfold I64;omega)|omega|(simp only[zZ];omega)|done),by (first|(unfold I64;omega)|omega|(simp only[zZ];omega)|done),?_⟩;((conv=>whnf);repeat((first|refine aF ?_|refine aT ?_);(first|refine rg ?_|refine rd z_ ?_);(conv=>whnf))))|(refine⟨by (first|(unfold I64;omega)|omega|(simp only[zZ];omega)|done),?_⟩;((conv=>whnf);repeat((first|refine aF ?_|refine aT ?_);(first|refine rg ?_|refine rd z_ ?_);(conv=>whnf))))|refine A8 [] hI q_ ?_ kU))
 all_goals try (refine zH Aa ?_)
 .exact Co q_ hI (kS h.symm)
 .intro i hi bu;rcases vZ i j with h1|h1
  .exact hI i hi h1
  .have:i=j:=by omega
   subst this;simpa using Ne.symm h
 .exact Dk (λi hi=>hI i hi q_)
def Uz(l:List Int)(x:Int)(hl:An l):Sp 353 [.sl 1 Be l,Be x] (Ab (inB l x)):=cT F353 ntmps353 λF hF=>by
 refine fW ?_
 (repeat' (first|(refine⟨λh=>?_,λh=>?_⟩<;>(repeat (first|simp only[Ag]at h|simp only[zJ]at h|simp only[yB]at h|simp only[yJ]at h|simp only[zU]at h|simp only[xC]at h|simp only[bne_eq_false_iff_eq]at h|simp only[zG]at h|simp only[yO]at h|simp only[yX]at h|simp only[xX]at h|simp only[yU]at h|simp only[wW]at h|simp only[xM]at h|simp only[Bool.not_true]at h|simp only[wS]at h))<;>((first|refine rg ?_|refine rd z_ ?_);(conv=>whnf);repeat((first|refine aF ?_|refine aT ?_);(first|refine rg ?_|refine rd z_ ?_);(conv=>whnf))))|(refine Ar rfl Aq ?_ rfl)|(refine⟨z_,?_⟩;((conv=>whnf);repeat((first|refine aF ?_|refine aT ?_);(first|refine rg ?_|refine rd z_ ?_);(conv=>whnf))))|(refine⟨by (first|(unfold I64;omega)|omega|(simp only[zZ];omega)|done),by (first|(unfold I64;omega)|omega|(simp only[zZ];omega)|done),?_⟩;((conv=>whnf);repeat((first|refine aF ?_|refine aT ?_);(first|refine rg ?_|refine rd z_ ?_);(conv=>whnf))))|(refine⟨by (first|(unfold I64;omega)|omega|(simp only[zZ];omega)|done),?_⟩;((conv=>whnf);repeat((first|refine aF ?_|refine aT ?_);(first|refine rg ?_|refine rd z_ ?_);(conv=>whnf))))|(refine c0 (Agi _ _ hl) F394 ?_;((first|refine rg ?_|refine rd z_ ?_);(conv=>whnf);repeat((first|refine aF ?_|refine aT ?_);(first|refine rg ?_|refine rd z_ ?_);(conv=>whnf))))|(refine cD (Agi _ _ hl) F394 ?_;((first|refine rg ?_|refine rd z_ ?_);(conv=>whnf);repeat((first|refine aF ?_|refine aT ?_);(first|refine rg ?_|refine rd z_ ?_);(conv=>whnf))))))
 exact zH Ab (I8 _ _).symm
def ovVniS(n:Net)(hn:n.Fin)(l:LineM)(hl:LineW l):Sp 279 [Am n,A5 l] (.tup [Am (putVni n l).1,Aa (putVni n l).2]):=cT F279 ntmps279 λF hF=>by
 have aq:=@beg_ok n l 6;have aa:=putVni.eq_1 n l;have q1:=Sh n hn l hl 6;have dh:=Ss n hn;generalize putVni n l=res at *;generalize begT n l 6=b at *;obtain ⟨d,e⟩:=b;dsimp only at aa aq q1;by_cases h1:e≠0
 .have g1:(e != 0)=true:=by rw[xC];exact h1
  rw[zE h1]at aa;subst aa;refine gC q1 F352 ?_;exact Ak 4 (Dc emptyN) E vL gA
 have g1:(e != 0)=false:=by rw[bne_eq_false_iff_eq];omega
 rw[zD h1]at aa;obtain ⟨_,hr,i,hi,ab⟩:=aq q_;subst hi;clear aq;have an:(i:Int).toNat<n.devices.length:=ab;have fu:nth n.devices (i:Int)=n.devices[(i:Int).toNat]'an:=Ae an;rw[fu]at aa;have q2:=L6 n hn hr (i:Int) l.vlan;have q3:=bW n hn (i:Int) l.num;have fh:C8 n (i:Int) l.vlan<0\/∃k:Nat,C8 n (i:Int) l.vlan=k/\k<n.domains.length:=by
  by_cases h:C8 n (i:Int) l.vlan<0
  .exact .inl h
  .exact .inr (Kq h)
 generalize C8 n (i:Int) l.vlan=dm at *;by_cases h2:(n.devices[(i:Int).toNat]'an).vtep=0
 .have g2:((n.devices[(i:Int).toNat]'an).vtep==0)=true:=by rw[yJ];exact h2
  rw[zE h2]at aa;subst aa;refine gB q1 F352 q2 F181 ?_;exact Ak 4 (Dc emptyN) E vL gA
 have g2:((n.devices[(i:Int).toNat]'an).vtep==0)=false:=by rw[zU];exact h2
 rw[zD h2]at aa;by_cases h3:dm<0
 .have g3:decide (dm<0)=true:=zL h3;rw[zE h3]at aa;subst aa;refine gB q1 F352 q2 F181 ?_;exact Ak 4 (Dc emptyN) E vL gA
 have g3:decide (dm<0)=false:=zK h3;rw[zD h3]at aa;obtain ⟨k,hk,p7⟩:=fh.resolve_left h3;subst hk;clear fh;have bf:(k:Int).toNat<n.domains.length:=p7;have xo:nth n.domains (k:Int)=n.domains[(k:Int).toNat]'bf:=Ae bf;rw[xo]at aa;by_cases h4:(n.domains[(k:Int).toNat]'bf).vni≠0
 .have g4:((n.domains[(k:Int).toNat]'bf).vni != 0)=true:=by rw[xC];exact h4
  rw[zE (.inl h4)]at aa;subst aa;refine gB q1 F352 q2 F181 ?_;exact Ak 4 (Dc emptyN) E vL gA
 have g4:((n.domains[(k:Int).toNat]'bf).vni != 0)=false:=by rw[bne_eq_false_iff_eq];omega
 by_cases h5:0<=Jr n (i:Int) l.num
 .have g5:decide (Jr n (i:Int) l.num>=0)=true:=zL h5;rw[zE (.inr h5)]at aa;subst aa;refine gB q1 F352 q2 F181 ?_;refine C q3 F285 ?_;exact Ak 4 (Dc emptyN) E vL gA
 have g5:decide (Jr n (i:Int) l.num>=0)=false:=zK h5;rw[zD (λh=>h.elim h4 h5)]at aa;have af:n.domains≠[]:=λe=>by rw[e]at p7;cases p7
 have t6:∀x,n.domains.set (k:Int).toNat x≠[]:=λx e=>by
  have:=zH List.length e;rw[yQ]at this;simp at this;exact af this
 have cx:∀x,(k:Int).toNat<(n.domains.set (k:Int).toNat x).length:=λx=>by rw[yQ];exact bf
 have bh:∀x y,(n.domains.set (k:Int).toNat x).set (k:Int).toNat y=n.domains.set (k:Int).toNat y:=λx y=>List.set_set ..
 have bc:∀x,(n.domains.set (k:Int).toNat x)[(k:Int).toNat]'(cx x)=x:=λx=>tA ..
 rw[<-bh (⟨(n.domains[(k:Int).toNat]'bf).dev,(n.domains[(k:Int).toNat]'bf).vlan,l.num,(n.domains[(k:Int).toNat]'bf).irb,(n.domains[(k:Int).toNat]'bf).row,(n.domains[(k:Int).toNat]'bf).peers⟩:Domain) (⟨(n.domains[(k:Int).toNat]'bf).dev,(n.domains[(k:Int).toNat]'bf).vlan,l.num,(n.domains[(k:Int).toNat]'bf).irb,l.row,(n.domains[(k:Int).toNat]'bf).peers⟩:Domain)]at aa;subst aa;refine gB q1 F352 q2 F181 ?_;refine C q3 F285 ?_;refine X (Ad [(0,901),(1,902),(2,903),(3,904),(4,905),(5,906),(6,907),(7,908)] E F102 dh E W E V) ?_;refine⟨af,?_⟩;refine T ?_;refine⟨(⟨(n.domains[(k:Int).toNat]'bf).dev,(n.domains[(k:Int).toNat]'bf).vlan,l.num,(n.domains[(k:Int).toNat]'bf).irb,(n.domains[(k:Int).toNat]'bf).row,(n.domains[(k:Int).toNat]'bf).peers⟩:Domain),E,E,?_⟩;refine T ?_;refine⟨cx _,?_⟩;refine T ?_;refine⟨t6 _,?_⟩;refine T ?_;refine⟨cx _,(⟨(n.domains[(k:Int).toNat]'bf).dev,(n.domains[(k:Int).toNat]'bf).vlan,l.num,(n.domains[(k:Int).toNat]'bf).irb,l.row,(n.domains[(k:Int).toNat]'bf).peers⟩:Domain),by rw[bc];rfl,by rw[bc];rfl,?_⟩;refine T ?_;exact Ai 901 E (Ai 902 E (Ai 903 E (Ai 904 E (Ai 905 E (Ai 906 E (Ai 907 E (Ai 908 E D)))))))
def A0c(n:Net)(hn:n.Fin)(l:LineM)(hl:LineW l):Sp 280 [Am n,A5 l] (.tup [Am (putFlood n l).1,Aa (putFlood n l).2]):=cT F280 ntmps280 λF hF=>by
 have aq:=@beg_ok n l 7;have aa:=putFlood.eq_1 n l;have q1:=Sh n hn l hl 7;have dh:=Ss n hn;generalize putFlood n l=res at *;generalize begT n l 7=b at *;obtain ⟨d,e⟩:=b;dsimp only at aa aq q1;by_cases h1:e≠0
 .have g1:(e != 0)=true:=by rw[xC];exact h1
  rw[zE h1]at aa;subst aa;refine gC q1 F352 ?_;exact Ak 4 (Dc emptyN) E vL gA
 have g1:(e != 0)=false:=by rw[bne_eq_false_iff_eq];omega
 rw[zD h1]at aa;obtain ⟨_,hr,i,hi,ab⟩:=aq q_;subst hi;clear aq;have an:(i:Int).toNat<n.devices.length:=ab;have fu:nth n.devices (i:Int)=n.devices[(i:Int).toNat]'an:=Ae an;rw[fu]at aa;have d5:=hl.fin.a;have q2:=bW n hn (i:Int) l.num;have q3:=Aij n hn (i:Int) l.num;have q4:=Uz l.addrs (n.devices[(i:Int).toNat]'an).vtep (by unfold An;omega);have q5:=Ag8 l.addrs q_;generalize Jr n (i:Int) l.num=v2 at *;generalize Ej n (i:Int) l.num=v3 at *;generalize inB l.addrs (n.devices[(i:Int).toNat]'an).vtep=v4 at *;by_cases h2:v2<0
 .have g2:decide (v2<0)=true:=zL h2;rw[zE h2]at aa;subst aa;refine gB q1 F352 q2 F285 ?_;exact Ak 4 (Dc emptyN) E vL gA
 have g2:decide (v2<0)=false:=zK h2;rw[zD h2]at aa;by_cases h3:0<=v3
 .have g3:decide (v3>=0)=true:=zL h3;rw[zE h3]at aa;subst aa;refine gB q1 F352 q2 F285 ?_;refine C q3 F284 ?_;exact Ak 4 (Dc emptyN) E vL gA
 have g3:decide (v3>=0)=false:=zK h3;rw[zD h3]at aa;cases v4 with
 |true=>
  rw[zE rfl]at aa;subst aa;refine gB q1 F352 q2 F285 ?_;refine gK q3 F284 q4 F353 ?_;exact Ak 4 (Dc emptyN) E vL gA
 |false=>
  rw[zD y_]at aa;by_cases h5:n.floods.length=48
  .have g5:((n.floods.length:Int)==48)=true:=by rw[yJ];omega
   rw[zE h5]at aa;subst aa;refine gB q1 F352 q2 F285 ?_;refine gK q3 F284 q4 F353 ?_;exact Ak 4 (Dc emptyN) E vL gA
  have g5:((n.floods.length:Int)==48)=false:=by rw[zU];omega
  rw[zD h5]at aa;subst aa;have jl:n.floods.length<2147483648:=hn.floods;refine gB q1 F352 q2 F285 ?_;refine gK q3 F284 q4 F353 ?_;refine X (Ad [(0,901),(1,902),(2,903),(3,904),(4,905),(5,906),(6,907),(7,908)] E F102 dh E W E V) ?_;refine C q5 F171 ?_;refine Xd (Ah Γ.toTy 66 E E E E E (.row E) (.lit (e:=Bn) (l:=[(⟨l.row,(i:Int),l.num,l.addrs⟩:Flood)]) E E) j_ (by simp only[zW];omega) (by simp only[zW];omega)) ?_;refine T ?_;exact Ai 901 E (Ai 902 E (Ai 903 E (Ai 904 E (Ai 905 E (Ai 66 E (Ai 907 E (Ai 908 E D)))))))
end Go.Sy.Zaa
