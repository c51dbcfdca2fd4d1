/- Parts of a proof. -/
import Derived.Test.YtodbnbfjhjcanaaGreatDoorXA19
import Derived.Test.YtodbnbfjhjcanaaGreatDoorXA20
import Derived.Test.YtodbnbfjhjcanaaGreatDoorXA21
import Derived.Test.YtodbnbfjhjcanaaGreatDoorXA23
import Derived.Test.YtodbnbfjhjcanaaGreatDoorXA26
set_option maxHeartbeats 4000000
set_option linter.all false
namespace Go.Sy.Zaa
open Go.Proofs Go.Proofs.Tryz
attribute [local irreducible]G DR
set_option maxRecDepth 100000
def A1v(n:Net)(hn:n.Fin)(ha:C7 n)(l:LineM)(hl:LineW l):Sp 218 [Am n,A3 l] (.tup [Am (putT n l).1,Aa (putT n l).2]):=cT F218 ntmps218 λF hF=>by
 have aa:=putT.eq_1 n l;generalize putT n l=res at *;by_cases h1:l.kind=1
 .have g1:(l.kind==1)=true:=by rw[yJ];exact h1
  have q:=Apu n hn l hl;rw[zE h1]at aa;rw[<-aa]at q;refine gC q F274 ?_;exact D
 have g1:(l.kind==1)=false:=by rw[zT];exact h1
 rw[zD h1]at aa;by_cases h2:l.kind=2
 .have g2:(l.kind==2)=true:=by rw[yJ];exact h2
  have q:=Aw8 n hn l hl;rw[zE h2]at aa;rw[<-aa]at q;refine gC q F275 ?_;exact D
 have g2:(l.kind==2)=false:=by rw[zT];exact h2
 rw[zD h2]at aa;by_cases h3:l.kind=3
 .have g3:(l.kind==3)=true:=by rw[yJ];exact h3
  have q:=Ays n hn l hl;rw[zE h3]at aa;rw[<-aa]at q;refine gC q F276 ?_;exact D
 have g3:(l.kind==3)=false:=by rw[zT];exact h3
 rw[zD h3]at aa;by_cases h4:l.kind=4
 .have g4:(l.kind==4)=true:=by rw[yJ];exact h4
  have q:=Am2 n hn l hl;rw[zE h4]at aa;rw[<-aa]at q;refine gC q F277 ?_;exact D
 have g4:(l.kind==4)=false:=by rw[zT];exact h4
 rw[zD h4]at aa;by_cases h5:l.kind=5
 .have g5:(l.kind==5)=true:=by rw[yJ];exact h5
  have q:=A1i n hn l hl;rw[zE h5]at aa;rw[<-aa]at q;refine gC q F278 ?_;exact D
 have g5:(l.kind==5)=false:=by rw[zT];exact h5
 rw[zD h5]at aa;by_cases h6:l.kind=6
 .have g6:(l.kind==6)=true:=by rw[yJ];exact h6
  have q:=ovVniS n hn l hl;rw[zE h6]at aa;rw[<-aa]at q;refine gC q F279 ?_;exact D
 have g6:(l.kind==6)=false:=by rw[zT];exact h6
 rw[zD h6]at aa;by_cases h7:l.kind=7
 .have g7:(l.kind==7)=true:=by rw[yJ];exact h7
  have q:=Axg n hn l hl;rw[zE h7]at aa;rw[<-aa]at q;refine gC q F280 ?_;exact D
 have g7:(l.kind==7)=false:=by rw[zT];exact h7
 rw[zD h7]at aa;by_cases h8:l.kind=8
 .have g8:(l.kind==8)=true:=by rw[yJ];exact h8
  have q:=A0y n hn l hl;rw[zE h8]at aa;rw[<-aa]at q;refine gC q F281 ?_;exact D
 have g8:(l.kind==8)=false:=by rw[zT];exact h8
 rw[zD h8]at aa;by_cases h9:l.kind=9
 .have g9:(l.kind==9)=true:=by rw[yJ];exact h9
  have q:=A15 n hn ha l hl;rw[zE h9]at aa;rw[<-aa]at q;refine gC q F282 ?_;exact D
 have g9:(l.kind==9)=false:=by rw[zT];exact h9
 rw[zD h9]at aa;subst aa;refine T ?_;exact Ak 4 (C8 emptyN) E vL gA
def Arc{n:Net}(h:Ac n=true){i:Nat}(hi:i<n.floods.length):Oo n n.floods[i]=true:=by
 simp only[Ac,zG]at h;exact allB_iff.1 h.1.1.2 i hi
def A2u(n:Net)(hn:n.Fin)(hr:Ac n=true)(f:Flood)(hf:f∈n.floods):Sp 283 [Am n,Bm f] (Ab (agreesB n f)):=cT F283 ntmps283 λF hF=>by
 have ry:0<=f.dev/\f.dev.toNat<n.devices.length:=by
  obtain ⟨j,hj,rfl⟩:=wU hf;have:=Arc hr hj;simp only[Oo,Af,zG,zJ]at this;omega
 have hfa:f.addrs.length<2147483648:=hn.addrs f hf;have fp:(nth n.devices f.dev).vtep=(n.devices[f.dev.toNat]'ry.2).vtep:=by rw[Ag ry.2]
 have q1:=Z7 n hn f.dev f.vni;have aa:=agreesB.eq_1 n f;have hag:∀a,agreeA n f a=_:=agreeA.eq_1 n f;generalize agreesB n f=res at *;generalize Ql n f.dev f.vni=v0 at *;refine T ?_;refine Ba 2 8 (Am n) E E E ?_;refine Ba 3 4 (Bm f) E E E (gC q1 F285 ?_);refine Ci (λj:Nat=>j<=f.addrs.length) (λj=>[(2,.ref 8 (Am n) 0),(3,.ref 4 (Bm f) 0),(5,A9 (n.devices[f.dev.toNat]'ry.2).vtep),(6,Ab (decide (0<=v0)&&(f.addrs.take j).all (agreeA n f))),(28,.sl 1 A9 f.addrs),(29,Aa f.addrs.length),(30,Aa j)]) (λ_=>[]) (λj=>f.addrs.length-j) 0 [] z_ ⟨⟨E,E,E,E,E,E,zH Ab qq,E,E,E,E,E,E,E,q_⟩,q_,E,E⟩ ?_;intro j hj;refine gL ?_ ?_<;>intro h
 .have ab:j<f.addrs.length:=qA h;have aj:(j:Int).toNat<f.addrs.length:=ab;clear h;have qo:=An1 n hn (f.addrs[(j:Int).toNat]'aj);have hA:=hag (f.addrs[(j:Int).toNat]'aj);have il:(f.addrs.take (j+1)).all (agreeA n f)=((f.addrs.take j).all (agreeA n f)&&agreeA n f (f.addrs[(j:Int).toNat]'aj)):=by
   rw[yA ab,List.all_append];simp only[List.all_cons,List.all_nil,uJ];rfl
  have gx:agreeA n f (f.addrs[(j:Int).toNat]'aj)=false->f.addrs.all (agreeA n f)=false:=λh=>by
   rw[List.all_eq_false];exact⟨_,zI aj,by rw[h];simp⟩
  have tw:(f.addrs.take j).all (agreeA n f)=false->f.addrs.all (agreeA n f)=false:=λh=>by
   rw[List.all_eq_false]at h|-;obtain ⟨x,hx,x5⟩:=h;exact⟨x,wM hx,x5⟩
  have qf:=Z7 n hn (D0 n (f.addrs[(j:Int).toNat]'aj)) f.vni;have ql:=Agi n hn (D0 n (f.addrs[(j:Int).toNat]'aj)) f.vni;cases ho:(decide (0<=v0)&&(f.addrs.take j).all (agreeA n f)) with
  |false=>
   have js:res=false:=by
    rw[aa];cases hd:decide (0<=v0)
    .rfl
    .rw[hd,yD]at ho;rw[tw ho];rfl
   subst js;generalize D0 n (f.addrs[(j:Int).toNat]'aj)=dv at *;refine gC qo F286 ?_;exact D
  |true=>
   have es:D0 n (f.addrs[(j:Int).toNat]'aj)<0\/0<=D0 n (f.addrs[(j:Int).toNat]'aj):=by omega
   have xz:Jd n (D0 n (f.addrs[(j:Int).toNat]'aj)) f.vni<0\/∃k:Nat,Jd n (D0 n (f.addrs[(j:Int).toNat]'aj)) f.vni=k/\k<n.floods.length:=by
    by_cases h:Jd n (D0 n (f.addrs[(j:Int).toNat]'aj)) f.vni<0
    .exact .inl h
    .exact .inr (Kf h)
   generalize Ql n (D0 n (f.addrs[(j:Int).toNat]'aj)) f.vni=fv at *;generalize Jd n (D0 n (f.addrs[(j:Int).toNat]'aj)) f.vni=lv at *;generalize D0 n (f.addrs[(j:Int).toNat]'aj)=dv at *;by_cases k1:dv<0
   .have g1:decide (dv>=0)=false:=zL z_;have g1n:(!(decide (dv>=0)))=true:=by rw[g1];rfl
    have js:res=false:=by rw[aa,gx (by rw[hA,zL (by omega:¬0<=dv)];rfl),wS]
    subst js;refine gC qo F286 ?_;exact D
   have g1:decide (dv>=0)=true:=zK z_;rw[zK (by omega:0<=dv),yD]at hA;by_cases k2:(f.addrs[(j:Int).toNat]'aj)=0
   .have g2:((f.addrs[(j:Int).toNat]'aj) != 0)=false:=by rw[bne_eq_false_iff_eq];exact k2
    have g2n:(!((f.addrs[(j:Int).toNat]'aj) != 0))=true:=by rw[g2];rfl
    have js:res=false:=by rw[aa,gx (by rw[hA,g2];rfl),wS]
    subst js;refine gC qo F286 ?_;exact D
   have g2:((f.addrs[(j:Int).toNat]'aj) != 0)=true:=by rw[xC];exact k2
   rw[g2,yD]at hA;by_cases k3:fv<0
   .have g3:decide (fv>=0)=false:=zL z_;have g3n:(!(decide (fv>=0)))=true:=by rw[g3];rfl
    have js:res=false:=by rw[aa,gx (by rw[hA,zL (by omega:¬0<=fv)];rfl),wS]
    subst js;refine gB qo F286 qf F285 ?_;exact D
   have g3:decide (fv>=0)=true:=zK z_;rw[zK (by omega:0<=fv),yD]at hA;by_cases k4:lv<0
   .have g4:decide (lv>=0)=false:=zL z_;have g4n:(!(decide (lv>=0)))=true:=by rw[g4];rfl
    have js:res=false:=by rw[aa,gx (by rw[hA,zL (by omega:¬0<=lv)];rfl),wS]
    subst js;refine gB qo F286 qf F285 ?_;refine C ql F284 ?_;refine Aq E Ap (zH Ab g4.symm) E
   have g4:decide (lv>=0)=true:=zK z_;have g4n:(!(decide (lv>=0)))=false:=by rw[g4];rfl
   rw[zK (by omega:0<=lv),yD]at hA;obtain ⟨m,hm,gv⟩:=xz.resolve_left k4;subst hm;have ax:(m:Int).toNat<n.floods.length:=gv;rw[Ag ax,fp]at hA;have cj:=hn.addrs _ (zI ax);have qc:=T8 (n.floods[(m:Int).toNat]'ax).addrs (n.devices[f.dev.toNat]'ry.2).vtep cj;have qcb:=λb=>T8 (n.floods[(m:Int).toNat]'ax).addrs b cj
   have eo:(decide (0<=v0)&&(f.addrs.take (j+1)).all (agreeA n f))=(inB (n.floods[(m:Int).toNat]'ax).addrs (n.devices[f.dev.toNat]'ry.2).vtep&&f.addrs.all λb=>b==(f.addrs[(j:Int).toNat]'aj)||inB (n.floods[(m:Int).toNat]'ax).addrs b):=by
    rw[il,<-Bool.and_assoc,ho,yD,hA]
   clear hA il gx tw ho hag;refine gB qo F286 qf F285 ?_;refine gI ql F284 ql F284 ?_;refine C qc F353 ?_;refine Ci (λk:Nat=>k<=f.addrs.length) (λk=>[(2,.ref 8 (Am n) 0),(3,.ref 4 (Bm f) 0),(5,A9 (n.devices[f.dev.toNat]'ry.2).vtep),(6,Ab (inB (n.floods[(m:Int).toNat]'ax).addrs (n.devices[f.dev.toNat]'ry.2).vtep&&(f.addrs.take k).all λb=>b==(f.addrs[(j:Int).toNat]'aj)||inB (n.floods[(m:Int).toNat]'ax).addrs b)),(8,A9 (f.addrs[(j:Int).toNat]'aj)),(10,.sl 1 A9 (n.floods[(m:Int).toNat]'ax).addrs),(28,.sl 1 A9 f.addrs),(29,Aa f.addrs.length),(30,Aa j),(78,.sl 1 A9 f.addrs),(79,Aa f.addrs.length),(80,Aa k)]) (λ_=>[]) (λk=>f.addrs.length-k) 0 [] z_ ⟨⟨E,E,E,E,E,E,zH Ab qq,E,E,E,E,E,E,E,E,E,E,E,E,E,E,E,E,E,q_⟩,q_,E,E⟩ ?_;intro k hk;refine gL ?_ ?_<;>intro h
   .have db:k<f.addrs.length:=qA h;have bh:(k:Int).toNat<f.addrs.length:=db;clear h;have il:(f.addrs.take (k+1)).all (λb=>b==(f.addrs[(j:Int).toNat]'aj)||inB (n.floods[(m:Int).toNat]'ax).addrs b)=((f.addrs.take k).all (λb=>b==(f.addrs[(j:Int).toNat]'aj)||inB (n.floods[(m:Int).toNat]'ax).addrs b)&&((f.addrs[(k:Int).toNat]'bh)==(f.addrs[(j:Int).toNat]'aj)||inB (n.floods[(m:Int).toNat]'ax).addrs (f.addrs[(k:Int).toNat]'bh))):=by
     rw[yA db,List.all_append];simp only[List.all_cons,List.all_nil,uJ];rfl
    have br:(inB (n.floods[(m:Int).toNat]'ax).addrs (n.devices[f.dev.toNat]'ry.2).vtep&&(f.addrs.take (k+1)).all λb=>b==(f.addrs[(j:Int).toNat]'aj)||inB (n.floods[(m:Int).toNat]'ax).addrs b)=((inB (n.floods[(m:Int).toNat]'ax).addrs (n.devices[f.dev.toNat]'ry.2).vtep&&(f.addrs.take k).all λb=>b==(f.addrs[(j:Int).toNat]'aj)||inB (n.floods[(m:Int).toNat]'ax).addrs b)&&((f.addrs[(k:Int).toNat]'bh)==(f.addrs[(j:Int).toNat]'aj)||inB (n.floods[(m:Int).toNat]'ax).addrs (f.addrs[(k:Int).toNat]'bh))):=by
     rw[il,Bool.and_assoc]
    have qb:=qcb (f.addrs[(k:Int).toNat]'bh);cases ho2:(inB (n.floods[(m:Int).toNat]'ax).addrs (n.devices[f.dev.toNat]'ry.2).vtep&&(f.addrs.take k).all λb=>b==(f.addrs[(j:Int).toNat]'aj)||inB (n.floods[(m:Int).toNat]'ax).addrs b) with
    |false=>
     rw[ho2,yC]at br;refine T ?_;exact Ay (k+1) [] db z_ ⟨⟨E,E,E,E,E,E,zH Ab br,E,E,E,E,E,E,E,E,E,E,E,E,E,E,E,E,E,q_⟩,q_,E,E⟩
    |true=>
     rw[ho2,yD]at br;cases he:((f.addrs[(k:Int).toNat]'bh)==(f.addrs[(j:Int).toNat]'aj)) with
     |true=>
      rw[he,vG]at br;refine T ?_;exact Ay (k+1) [] db z_ ⟨⟨E,E,E,E,E,E,zH Ab br,E,E,E,E,E,E,E,E,E,E,E,E,E,E,E,E,E,q_⟩,q_,E,E⟩
     |false=>
      rw[he,vY]at br;refine gC qb F353 ?_;exact Ay (k+1) [] db z_ ⟨⟨E,E,E,E,E,E,zH Ab br,E,E,E,E,E,E,E,E,E,E,E,E,E,E,E,E,E,q_⟩,q_,E,E⟩
   .have u0:k=f.addrs.length:=qB h;clear h;rw[u0,yM];refine T ?_;exact Ay (j+1) [] ab z_ ⟨⟨E,E,E,E,E,E,zH Ab eo,E,E,E,E,E,E,E,q_⟩,q_,E,E⟩
 .have cq:j=f.addrs.length:=qB h;clear h;subst cq;rw[yM,<-aa];exact gA
end Go.Sy.Zaa
