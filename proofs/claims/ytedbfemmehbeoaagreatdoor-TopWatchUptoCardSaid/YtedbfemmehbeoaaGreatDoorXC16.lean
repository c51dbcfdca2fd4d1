/- Parts of a proof. -/
import Derived.Test.YtedbfemmehbeoaaGreatDoorXC14
set_option maxHeartbeats 4000000
set_option linter.all false
namespace Go.Sy.Zaa
open Go.Proofs Go.Proofs.Tryz
attribute [local irreducible]G DR
set_option maxRecDepth 100000
def Anx(l:List Int)(x:Int)(r:At l):Sp 411 [.sl 1 Bo l,Bo x] (Aa (Bt (·==x) l)):=cT F411 ntmps411 λF t=>by
 unfold At at r;refine fW ?_;refine Bb l.length (λj=>∀i (h:i<l.length),i<j->(l[i]==x)=false) (λj=>[(0,.sl 1 Bo l),(1,Bo x),(7,Aa l.length),(8,Aa j)]) (λ_=>[]) [] (λi h o=>zW o j_) kU ?_;intro j o g;refine fU ?_
 (repeat' (first|(refine⟨λh=>?_,λh=>?_⟩<;>(repeat (first|simp only[Am]at h|simp only[zK]at h|simp only[yC]at h|simp only[yL]at h|simp only[zU]at h|simp only[xF]at h|simp only[bne_eq_false_iff_eq]at h|simp only[zG]at h|simp only[yR]at h|simp only[xC]at h|simp only[wY]at h|simp only[xH]at h|simp only[vE]at h|simp only[xQ]at h|simp only[Bool.not_true]at h|simp only[vA]at h))<;>((first|refine rg ?_|refine rd y_ ?_);(conv=>whnf);repeat((first|refine aF ?_|refine aT ?_);(first|refine rg ?_|refine rd y_ ?_);(conv=>whnf))))|(refine Av rfl As ?_ rfl)|(refine⟨y_,?_⟩;((conv=>whnf);repeat((first|refine aF ?_|refine aT ?_);(first|refine rg ?_|refine rd y_ ?_);(conv=>whnf))))|(refine⟨by (first|(unfold S2;omega)|omega|(simp only[yA];omega)|done),by (first|(unfold S2;omega)|omega|(simp only[yA];omega)|done),?_⟩;((conv=>whnf);repeat((first|refine aF ?_|refine aT ?_);(first|refine rg ?_|refine rd y_ ?_);(conv=>whnf))))|(refine⟨by (first|(unfold S2;omega)|omega|(simp only[yA];omega)|done),?_⟩;((conv=>whnf);repeat((first|refine aF ?_|refine aT ?_);(first|refine rg ?_|refine rd y_ ?_);(conv=>whnf))))|refine A6 [] g j_ ?_ kU))
 all_goals try (refine zH Aa ?_)
 .exact Dz j_ g (kS h.symm)
 .intro i hi I;rcases vD i j with p|p
  .exact g i hi p
  .have:i=j:=by omega
   subst this;simpa using Ne.symm h
 .exact Ez (λi hi=>g i hi j_)
def aI(l:List Int)(x:Int)(g:At l):Sp 352 [.sl 1 Bo l,Bo x] (Ab (Li l x)):=cT F352 ntmps352 λF i=>by
 refine fW ?_
 (repeat' (first|(refine⟨λh=>?_,λh=>?_⟩<;>(repeat (first|simp only[Am]at h|simp only[zK]at h|simp only[yC]at h|simp only[yL]at h|simp only[zU]at h|simp only[xF]at h|simp only[bne_eq_false_iff_eq]at h|simp only[zG]at h|simp only[yR]at h|simp only[xC]at h|simp only[wY]at h|simp only[xH]at h|simp only[vE]at h|simp only[xQ]at h|simp only[Bool.not_true]at h|simp only[vA]at h))<;>((first|refine rg ?_|refine rd y_ ?_);(conv=>whnf);repeat((first|refine aF ?_|refine aT ?_);(first|refine rg ?_|refine rd y_ ?_);(conv=>whnf))))|(refine Av rfl As ?_ rfl)|(refine⟨y_,?_⟩;((conv=>whnf);repeat((first|refine aF ?_|refine aT ?_);(first|refine rg ?_|refine rd y_ ?_);(conv=>whnf))))|(refine⟨by (first|(unfold S2;omega)|omega|(simp only[yA];omega)|done),by (first|(unfold S2;omega)|omega|(simp only[yA];omega)|done),?_⟩;((conv=>whnf);repeat((first|refine aF ?_|refine aT ?_);(first|refine rg ?_|refine rd y_ ?_);(conv=>whnf))))|(refine⟨by (first|(unfold S2;omega)|omega|(simp only[yA];omega)|done),?_⟩;((conv=>whnf);repeat((first|refine aF ?_|refine aT ?_);(first|refine rg ?_|refine rd y_ ?_);(conv=>whnf))))|(refine c0 (Anx _ _ g) F411 ?_;((first|refine rg ?_|refine rd y_ ?_);(conv=>whnf);repeat((first|refine aF ?_|refine aT ?_);(first|refine rg ?_|refine rd y_ ?_);(conv=>whnf))))|(refine cD (Anx _ _ g) F411 ?_;((first|refine rg ?_|refine rd y_ ?_);(conv=>whnf);repeat((first|refine aF ?_|refine aT ?_);(first|refine rg ?_|refine rd y_ ?_);(conv=>whnf))))))
 exact zH Ab (Mr _ _).symm
def ovVniS(n:Ai)(I:n.Fin)(l:A2)(hl:E7 l):Sp 286 [Aq n,Be l] (.tup [Aq (Iw n l).1,Aa (Iw n l).2]):=cT F286 ntmps286 λF hF=>by
 have R:=@beg_ok n l 6;have j:=Iw.eq_1 n l;have o:=X3 n I l hl 6;have dr:=Yb n I;generalize Iw n l=a0 at *;generalize Eh n l 6=b at *;obtain ⟨d,e⟩:=b;dsimp only at j R o;by_cases h1:e≠0
 .have g1:(e != 0)=true:=by rw[xF];exact h1
  rw[zE h1]at j;subst j;refine gD o F351 ?_;exact An 4 (Eo Au) q_ vL gA
 have g1:(e != 0)=false:=by rw[bne_eq_false_iff_eq];omega
 rw[zD h1]at j;obtain ⟨_,hr,i,hi,ab⟩:=R j_;subst hi;clear R;have p:(i:Int).toNat<n.j.length:=ab;have fp:Af n.j (i:Int)=n.j[(i:Int).toNat]'p:=Aj p;rw[fp]at j;have r:=Tt n I hr (i:Int) l.z;have q3:=Ab6 n I (i:Int) l.num;have fg:Ep n (i:Int) l.z<0\/∃k:Nat,Ep n (i:Int) l.z=k/\k<n.c.length:=by
  by_cases h:Ep n (i:Int) l.z<0
  .exact .inl h
  .exact .inr (Qp h)
 generalize Ep n (i:Int) l.z=dm at *;by_cases J:(n.j[(i:Int).toNat]'p).aq=0
 .have g2:((n.j[(i:Int).toNat]'p).aq==0)=true:=by rw[yL];exact J
  rw[zE J]at j;subst j;refine gB o F351 r F195 ?_;exact An 4 (Eo Au) q_ vL gA
 have g2:((n.j[(i:Int).toNat]'p).aq==0)=false:=by rw[zU];exact J
 rw[zD J]at j;by_cases t:dm<0
 .have g3:decide (dm<0)=true:=zL t;rw[zE t]at j;subst j;refine gB o F351 r F195 ?_;exact An 4 (Eo Au) q_ vL gA
 have g3:decide (dm<0)=false:=zJ t;rw[zD t]at j;obtain ⟨k,hk,py⟩:=fg.resolve_left t;subst hk;clear fg;have g:(k:Int).toNat<n.c.length:=py;have x8:Af n.c (k:Int)=n.c[(k:Int).toNat]'g:=Aj g;rw[x8]at j;by_cases h4:(n.c[(k:Int).toNat]'g).ao≠0
 .have g4:((n.c[(k:Int).toNat]'g).ao != 0)=true:=by rw[xF];exact h4
  rw[zE (.inl h4)]at j;subst j;refine gB o F351 r F195 ?_;exact An 4 (Eo Au) q_ vL gA
 have g4:((n.c[(k:Int).toNat]'g).ao != 0)=false:=by rw[bne_eq_false_iff_eq];omega
 by_cases P:0<=Xv n (i:Int) l.num
 .have g5:decide (Xv n (i:Int) l.num>=0)=true:=zL P;rw[zE (.inr P)]at j;subst j;refine gB o F351 r F195 ?_;refine C q3 F292 ?_;exact An 4 (Eo Au) q_ vL gA
 have g5:decide (Xv n (i:Int) l.num>=0)=false:=zJ P;rw[zD (λh=>h.elim h4 P)]at j;have ag:n.c≠[]:=λe=>by rw[e]at py;cases py
 have um:∀x,n.c.set (k:Int).toNat x≠[]:=λx e=>by
  have:=zH List.length e;rw[yO]at this;simp at this;exact ag this
 have cq:∀x,(k:Int).toNat<(n.c.set (k:Int).toNat x).length:=λx=>by rw[yO];exact g
 have bc:∀x y,(n.c.set (k:Int).toNat x).set (k:Int).toNat y=n.c.set (k:Int).toNat y:=λx y=>List.set_set ..
 have a8:∀x,(n.c.set (k:Int).toNat x)[(k:Int).toNat]'(cq x)=x:=λx=>uX ..
 rw[<-bc (⟨(n.c[(k:Int).toNat]'g).q,(n.c[(k:Int).toNat]'g).z,l.num,(n.c[(k:Int).toNat]'g).ar,(n.c[(k:Int).toNat]'g).row,(n.c[(k:Int).toNat]'g).ae⟩:A0) (⟨(n.c[(k:Int).toNat]'g).q,(n.c[(k:Int).toNat]'g).z,l.num,(n.c[(k:Int).toNat]'g).ar,l.row,(n.c[(k:Int).toNat]'g).ae⟩:A0)]at j;subst j;refine gB o F351 r F195 ?_;refine C q3 F292 ?_;refine X (Ad [(0,901),(1,902),(2,903),(3,904),(4,905),(5,906),(6,907),(7,908)] q_ F79 dr q_ W q_ V) ?_;refine⟨ag,?_⟩;refine T ?_;refine⟨(⟨(n.c[(k:Int).toNat]'g).q,(n.c[(k:Int).toNat]'g).z,l.num,(n.c[(k:Int).toNat]'g).ar,(n.c[(k:Int).toNat]'g).row,(n.c[(k:Int).toNat]'g).ae⟩:A0),q_,q_,?_⟩;refine T ?_;refine⟨cq _,?_⟩;refine T ?_;refine⟨um _,?_⟩;refine T ?_;refine⟨cq _,(⟨(n.c[(k:Int).toNat]'g).q,(n.c[(k:Int).toNat]'g).z,l.num,(n.c[(k:Int).toNat]'g).ar,l.row,(n.c[(k:Int).toNat]'g).ae⟩:A0),by rw[a8];rfl,by rw[a8];rfl,?_⟩;refine T ?_;exact Ao 901 q_ (Ao 902 q_ (Ao 903 q_ (Ao 904 q_ (Ao 905 q_ (Ao 906 q_ (Ao 907 q_ (Ao 908 q_ D)))))))
def Bak(n:Ai)(o:n.Fin)(l:A2)(hl:E7 l):Sp 287 [Aq n,Be l] (.tup [Aq (D1 n l).1,Aa (D1 n l).2]):=cT F287 ntmps287 λF hF=>by
 have P:=@beg_ok n l 7;have g:=D1.eq_1 n l;have j:=X3 n o l hl 7;have dr:=Yb n o;generalize D1 n l=a0 at *;generalize Eh n l 7=b at *;obtain ⟨d,e⟩:=b;dsimp only at g P j;by_cases R:e≠0
 .have g1:(e != 0)=true:=by rw[xF];exact R
  rw[zE R]at g;subst g;refine gD j F351 ?_;exact An 4 (Eo Au) q_ vL gA
 have g1:(e != 0)=false:=by rw[bne_eq_false_iff_eq];omega
 rw[zD R]at g;obtain ⟨_,hr,i,hi,ab⟩:=P j_;subst hi;clear P;have r:(i:Int).toNat<n.j.length:=ab;have fp:Af n.j (i:Int)=n.j[(i:Int).toNat]'r:=Aj r;rw[fp]at g;have gb:=hl.fin.a;have p:=Ab6 n o (i:Int) l.num;have t:=Aqf n o (i:Int) l.num;have q4:=aI l.aa (n.j[(i:Int).toNat]'r).aq (by unfold At;omega);have q5:=Aos l.aa j_;generalize Xv n (i:Int) l.num=v2 at *;generalize Oc n (i:Int) l.num=v3 at *;generalize Li l.aa (n.j[(i:Int).toNat]'r).aq=v4 at *;by_cases I:v2<0
 .have g2:decide (v2<0)=true:=zL I;rw[zE I]at g;subst g;refine gB j F351 p F292 ?_;exact An 4 (Eo Au) q_ vL gA
 have g2:decide (v2<0)=false:=zJ I;rw[zD I]at g;by_cases J:0<=v3
 .have g3:decide (v3>=0)=true:=zL J;rw[zE J]at g;subst g;refine gB j F351 p F292 ?_;refine C t F291 ?_;exact An 4 (Eo Au) q_ vL gA
 have g3:decide (v3>=0)=false:=zJ J;rw[zD J]at g;cases v4 with
 |true=>
  rw[zE rfl]at g;subst g;refine gB j F351 p F292 ?_;refine gN t F291 q4 F352 ?_;exact An 4 (Eo Au) q_ vL gA
 |false=>
  rw[zD qx]at g;by_cases h5:n.y.length=48
  .have g5:((n.y.length:Int)==48)=true:=by rw[yL];omega
   rw[zE h5]at g;subst g;refine gB j F351 p F292 ?_;refine gN t F291 q4 F352 ?_;exact An 4 (Eo Au) q_ vL gA
  have g5:((n.y.length:Int)==48)=false:=by rw[zU];omega
  rw[zD h5]at g;subst g;have je:n.y.length<2147483648:=o.y;refine gB j F351 p F292 ?_;refine gN t F291 q4 F352 ?_;refine X (Ad [(0,901),(1,902),(2,903),(3,904),(4,905),(5,906),(6,907),(7,908)] q_ F79 dr q_ W q_ V) ?_;refine C q5 F164 ?_;refine Xd (Ah Γ.toTy 66 q_ q_ q_ q_ q_ (.row q_) (.lit (e:=B6) (l:=[(⟨l.row,(i:Int),l.num,l.aa⟩:Mg)]) q_ q_) qq (by simp only[yD];omega) (by simp only[yD];omega)) ?_;refine T ?_;exact Ao 901 q_ (Ao 902 q_ (Ao 903 q_ (Ao 904 q_ (Ao 905 q_ (Ao 66 q_ (Ao 907 q_ (Ao 908 q_ D)))))))
end Go.Sy.Zaa
