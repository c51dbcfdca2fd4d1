/- Parts of a proof. -/
import Derived.Test.YticmobkdaneelaaGreatDoorYE29
import Derived.Test.YticmobkdaneelaaGreatDoorYE30
import Derived.Test.YticmobkdaneelaaGreatDoorYE31
import Derived.Test.YticmobkdaneelaaGreatDoorYE33
import Derived.Test.YticmobkdaneelaaGreatDoorYE36
set_option linter.all false
set_option linter.unusedVariables false
set_option linter.unusedSimpArgs false
set_option linter.deprecated false
namespace Go.Sy.YticmobkdaneelaaGreatDoor
open Go.Proofs Go.Proofs.Tryz
attribute [local irreducible] Go.Sy.G Go.Sy.DR
set_option maxRecDepth 100000
set_option maxHeartbeats 4000000
def A5n(n:Net)(hn:n.Fin)(ha:Dr n)(l:LineM)(hl:LineW l):Sp 134 [Am n,A3 l] (.tup [Am (putT n l).1,Aa (putT n l).2]):=cT F134 ntmps134 λF hF=>by
 have aa:=putT.eq_1 n l;generalize putT n l=res at *;by_cases h1:l.kind=1
 ·have g1:(l.kind==1)=true:=by rw[yJ];exact h1
  have q:=At8 n hn l hl;rw[zG h1]at aa;rw[←aa]at q;refine gD q F182 ?_;exact D
 have g1:(l.kind==1)=false:=by rw[zR];exact h1
 rw[zD h1]at aa;by_cases h2:l.kind=2
 ·have g2:(l.kind==2)=true:=by rw[yJ];exact h2
  have q:=A08 n hn l hl;rw[zG h2]at aa;rw[←aa]at q;refine gD q F183 ?_;exact D
 have g2:(l.kind==2)=false:=by rw[zR];exact h2
 rw[zD h2]at aa;by_cases h3:l.kind=3
 ·have g3:(l.kind==3)=true:=by rw[yJ];exact h3
  have q:=A2q n hn l hl;rw[zG h3]at aa;rw[←aa]at q;refine gD q F184 ?_;exact D
 have g3:(l.kind==3)=false:=by rw[zR];exact h3
 rw[zD h3]at aa;by_cases h4:l.kind=4
 ·have g4:(l.kind==4)=true:=by rw[yJ];exact h4
  have q:=Arp n hn l hl;rw[zG h4]at aa;rw[←aa]at q;refine gD q F185 ?_;exact D
 have g4:(l.kind==4)=false:=by rw[zR];exact h4
 rw[zD h4]at aa;by_cases h5:l.kind=5
 ·have g5:(l.kind==5)=true:=by rw[yJ];exact h5
  have q:=A5a n hn l hl;rw[zG h5]at aa;rw[←aa]at q;refine gD q F186 ?_;exact D
 have g5:(l.kind==5)=false:=by rw[zR];exact h5
 rw[zD h5]at aa;by_cases h6:l.kind=6
 ·have g6:(l.kind==6)=true:=by rw[yJ];exact h6
  have q:=ovVniS n hn l hl;rw[zG h6]at aa;rw[←aa]at q;refine gD q F187 ?_;exact D
 have g6:(l.kind==6)=false:=by rw[zR];exact h6
 rw[zD h6]at aa;by_cases h7:l.kind=7
 ·have g7:(l.kind==7)=true:=by rw[yJ];exact h7
  have q:=A1g n hn l hl;rw[zG h7]at aa;rw[←aa]at q;refine gD q F188 ?_;exact D
 have g7:(l.kind==7)=false:=by rw[zR];exact h7
 rw[zD h7]at aa;by_cases h8:l.kind=8
 ·have g8:(l.kind==8)=true:=by rw[yJ];exact h8
  have q:=A4t n hn l hl;rw[zG h8]at aa;rw[←aa]at q;refine gD q F189 ?_;exact D
 have g8:(l.kind==8)=false:=by rw[zR];exact h8
 rw[zD h8]at aa;by_cases h9:l.kind=9
 ·have g9:(l.kind==9)=true:=by rw[yJ];exact h9
  have q:=A5w n hn ha l hl;rw[zG h9]at aa;rw[←aa]at q;refine gD q F190 ?_;exact D
 have g9:(l.kind==9)=false:=by rw[zR];exact h9
 rw[zD h9]at aa;subst aa;refine T ?_;refine Ak 4 (C6 emptyN) E vL ?_;exact gA
def Avu{n:Net}(h:Ac n=true){i:Nat}(hi:i<n.floods.length):M8 n n.floods[i]=true:=by
 simp only[Ac,zE]at h;exact allB_iff.1 h.1.1.2 i hi
def A6i(n:Net)(hn:n.Fin)(hr:Ac n=true)(f:Flood)(hf:f∈n.floods):Sp 191 [Am n,Ba f] (Ab (agreesB n f)):=cT F191 ntmps191 λF hF=>by
 have p8:0≤f.dev∧f.dev.toNat<n.devices.length:=by
  obtain ⟨j,hj,rfl⟩:=wD hf;have:=Avu hr hj;simp only[M8,Ah,zE,zJ]at this;omega
 have hfa:f.addrs.length<2147483648:=hn.addrs f hf;have nh:(nth n.devices f.dev).vtep=(n.devices[f.dev.toNat]'p8.2).vtep:=by rw[Ai p8.2]
 have q1:=Zc n hn f.dev f.vni;have aa:=agreesB.eq_1 n f;have hag:∀a,agreeA n f a=_:=agreeA.eq_1 n f;generalize agreesB n f=res at *;generalize O4 n f.dev f.vni=v0 at *;refine T ?_;refine Bf 2 8 (Am n) E E E ?_;refine Bf 3 4 (Ba f) E E E ?_;refine gD q1 F193 ?_;refine C3 (λj:Nat=>j≤f.addrs.length) (λj=>[(2,.ref 8 (Am n) 0),(3,.ref 4 (Ba f) 0),(5,Bb (n.devices[f.dev.toNat]'p8.2).vtep),(6,Ab (decide (0≤v0)&&(f.addrs.take j).all (agreeA n f))),(28,.sl 1 Bb f.addrs),(29,Aa f.addrs.length),(30,Aa j)]) (λ_=>[]) (λj=>f.addrs.length-j) 0 [] q_ ⟨⟨E,E,E,E,E,E,zH Ab y_,E,E,E,E,E,E,E,Y⟩,Y,E,E⟩ ?_;intro j hj;refine T ?_;constructor<;>intro h
 ·have ab:j<f.addrs.length:=qA h;have ai:(j:Int).toNat<f.addrs.length:=ab;clear h;have qo:=Asl n hn (f.addrs[(j:Int).toNat]'ai);have hA:=hag (f.addrs[(j:Int).toNat]'ai);have ff:(f.addrs.take (j+1)).all (agreeA n f)=((f.addrs.take j).all (agreeA n f)&&agreeA n f (f.addrs[(j:Int).toNat]'ai)):=by
   rw[yD ab,List.all_append];simp only[List.all_cons,List.all_nil,uG];rfl
  have ia:agreeA n f (f.addrs[(j:Int).toNat]'ai)=false→f.addrs.all (agreeA n f)=false:=λh=>by
   rw[List.all_eq_false];exact⟨_,zI ai,by rw[h];simp⟩
  have tn:(f.addrs.take j).all (agreeA n f)=false→f.addrs.all (agreeA n f)=false:=λh=>by
   rw[List.all_eq_false]at h⊢;obtain ⟨x,hx,w5⟩:=h;exact⟨x,wQ hx,w5⟩
  have qf:=Zc n hn (D2 n (f.addrs[(j:Int).toNat]'ai)) f.vni;have ql:=Ak2 n hn (D2 n (f.addrs[(j:Int).toNat]'ai)) f.vni;cases ho:(decide (0≤v0)&&(f.addrs.take j).all (agreeA n f)) with
  |false=>
   have so:res=false:=by
    rw[aa];cases hd:decide (0≤v0)
    ·rfl
    ·rw[hd,yF]at ho;rw[tn ho];rfl
   subst so;generalize D2 n (f.addrs[(j:Int).toNat]'ai)=dv at *;refine gD qo F194 ?_;exact D
  |true=>
   have fy:D2 n (f.addrs[(j:Int).toNat]'ai)<0∨0≤D2 n (f.addrs[(j:Int).toNat]'ai):=by omega
   have w4:I5 n (D2 n (f.addrs[(j:Int).toNat]'ai)) f.vni<0∨∃k:Nat,I5 n (D2 n (f.addrs[(j:Int).toNat]'ai)) f.vni=k∧k<n.floods.length:=by
    by_cases h:I5 n (D2 n (f.addrs[(j:Int).toNat]'ai)) f.vni<0
    ·exact .inl h
    ·exact .inr (K6 h)
   generalize O4 n (D2 n (f.addrs[(j:Int).toNat]'ai)) f.vni=fv at *;generalize I5 n (D2 n (f.addrs[(j:Int).toNat]'ai)) f.vni=lv at *;generalize D2 n (f.addrs[(j:Int).toNat]'ai)=dv at *;by_cases k1:dv<0
   ·have g1:decide (dv≥0)=false:=zL q_;have g1n:(!(decide (dv≥0)))=true:=by rw[g1];rfl
    have so:res=false:=by rw[aa,ia (by rw[hA,zL (by omega:¬0≤dv)];rfl),wR]
    subst so;refine gD qo F194 ?_;exact D
   have g1:decide (dv≥0)=true:=zO q_;rw[zO (by omega:0≤dv),yF]at hA;by_cases k2:(f.addrs[(j:Int).toNat]'ai)=0
   ·have g2:((f.addrs[(j:Int).toNat]'ai) != 0)=false:=by rw[bne_eq_false_iff_eq];exact k2
    have g2n:(!((f.addrs[(j:Int).toNat]'ai) != 0))=true:=by rw[g2];rfl
    have so:res=false:=by rw[aa,ia (by rw[hA,g2];rfl),wR]
    subst so;refine gD qo F194 ?_;exact D
   have g2:((f.addrs[(j:Int).toNat]'ai) != 0)=true:=by rw[xG];exact k2
   rw[g2,yF]at hA;by_cases k3:fv<0
   ·have g3:decide (fv≥0)=false:=zL q_;have g3n:(!(decide (fv≥0)))=true:=by rw[g3];rfl
    have so:res=false:=by rw[aa,ia (by rw[hA,zL (by omega:¬0≤fv)];rfl),wR]
    subst so;refine gB qo F194 qf F193 ?_;exact D
   have g3:decide (fv≥0)=true:=zO q_;rw[zO (by omega:0≤fv),yF]at hA;by_cases k4:lv<0
   ·have g4:decide (lv≥0)=false:=zL q_;have g4n:(!(decide (lv≥0)))=true:=by rw[g4];rfl
    have so:res=false:=by rw[aa,ia (by rw[hA,zL (by omega:¬0≤lv)];rfl),wR]
    subst so;refine gB qo F194 qf F193 ?_;refine C ql F192 ?_;refine At E (.cons .tmp .nil) (zH Ab g4.symm) E
   have g4:decide (lv≥0)=true:=zO q_;have g4n:(!(decide (lv≥0)))=false:=by rw[g4];rfl
   rw[zO (by omega:0≤lv),yF]at hA;obtain ⟨m,hm,gw⟩:=w4.resolve_left k4;subst hm;have a8:(m:Int).toNat<n.floods.length:=gw;rw[Ai a8,nh]at hA;have bq:=hn.addrs _ (zI a8);have qc:=Tf (n.floods[(m:Int).toNat]'a8).addrs (n.devices[f.dev.toNat]'p8.2).vtep bq;have qcb:=λb=>Tf (n.floods[(m:Int).toNat]'a8).addrs b bq
   have d9:(decide (0≤v0)&&(f.addrs.take (j+1)).all (agreeA n f))=(inB (n.floods[(m:Int).toNat]'a8).addrs (n.devices[f.dev.toNat]'p8.2).vtep&&f.addrs.all λb=>b==(f.addrs[(j:Int).toNat]'ai)||inB (n.floods[(m:Int).toNat]'a8).addrs b):=by
    rw[ff,←Bool.and_assoc,ho,yF,hA]
   clear hA ff ia tn ho hag;refine gB qo F194 qf F193 ?_;refine gJ ql F192 ql F192 ?_;refine C qc F265 ?_;refine C3 (λk:Nat=>k≤f.addrs.length) (λk=>[(2,.ref 8 (Am n) 0),(3,.ref 4 (Ba f) 0),(5,Bb (n.devices[f.dev.toNat]'p8.2).vtep),(6,Ab (inB (n.floods[(m:Int).toNat]'a8).addrs (n.devices[f.dev.toNat]'p8.2).vtep&&(f.addrs.take k).all λb=>b==(f.addrs[(j:Int).toNat]'ai)||inB (n.floods[(m:Int).toNat]'a8).addrs b)),(8,Bb (f.addrs[(j:Int).toNat]'ai)),(10,.sl 1 Bb (n.floods[(m:Int).toNat]'a8).addrs),(28,.sl 1 Bb f.addrs),(29,Aa f.addrs.length),(30,Aa j),(78,.sl 1 Bb f.addrs),(79,Aa f.addrs.length),(80,Aa k)]) (λ_=>[]) (λk=>f.addrs.length-k) 0 [] q_ ⟨⟨E,E,E,E,E,E,zH Ab y_,E,E,E,E,E,E,E,E,E,E,E,E,E,E,E,E,E,Y⟩,Y,E,E⟩ ?_;intro k hk;refine T ?_;constructor<;>intro h
   ·have cw:k<f.addrs.length:=qA h;have cm:(k:Int).toNat<f.addrs.length:=cw;clear h;have ff:(f.addrs.take (k+1)).all (λb=>b==(f.addrs[(j:Int).toNat]'ai)||inB (n.floods[(m:Int).toNat]'a8).addrs b)=((f.addrs.take k).all (λb=>b==(f.addrs[(j:Int).toNat]'ai)||inB (n.floods[(m:Int).toNat]'a8).addrs b)&&((f.addrs[(k:Int).toNat]'cm)==(f.addrs[(j:Int).toNat]'ai)||inB (n.floods[(m:Int).toNat]'a8).addrs (f.addrs[(k:Int).toNat]'cm))):=by
     rw[yD cw,List.all_append];simp only[List.all_cons,List.all_nil,uG];rfl
    have cn:(inB (n.floods[(m:Int).toNat]'a8).addrs (n.devices[f.dev.toNat]'p8.2).vtep&&(f.addrs.take (k+1)).all λb=>b==(f.addrs[(j:Int).toNat]'ai)||inB (n.floods[(m:Int).toNat]'a8).addrs b)=((inB (n.floods[(m:Int).toNat]'a8).addrs (n.devices[f.dev.toNat]'p8.2).vtep&&(f.addrs.take k).all λb=>b==(f.addrs[(j:Int).toNat]'ai)||inB (n.floods[(m:Int).toNat]'a8).addrs b)&&((f.addrs[(k:Int).toNat]'cm)==(f.addrs[(j:Int).toNat]'ai)||inB (n.floods[(m:Int).toNat]'a8).addrs (f.addrs[(k:Int).toNat]'cm))):=by
     rw[ff,Bool.and_assoc]
    have qb:=qcb (f.addrs[(k:Int).toNat]'cm);cases ho2:(inB (n.floods[(m:Int).toNat]'a8).addrs (n.devices[f.dev.toNat]'p8.2).vtep&&(f.addrs.take k).all λb=>b==(f.addrs[(j:Int).toNat]'ai)||inB (n.floods[(m:Int).toNat]'a8).addrs b) with
    |false=>
     rw[ho2,yE]at cn;refine T ?_;exact Be (k+1) [] cw q_ ⟨⟨E,E,E,E,E,E,zH Ab cn,E,E,E,E,E,E,E,E,E,E,E,E,E,E,E,E,E,Y⟩,Y,E,E⟩
    |true=>
     rw[ho2,yF]at cn;cases he:((f.addrs[(k:Int).toNat]'cm)==(f.addrs[(j:Int).toNat]'ai)) with
     |true=>
      rw[he,vD]at cn;refine T ?_;exact Be (k+1) [] cw q_ ⟨⟨E,E,E,E,E,E,zH Ab cn,E,E,E,E,E,E,E,E,E,E,E,E,E,E,E,E,E,Y⟩,Y,E,E⟩
     |false=>
      rw[he,uH]at cn;refine gD qb F265 ?_;exact Be (k+1) [] cw q_ ⟨⟨E,E,E,E,E,E,zH Ab cn,E,E,E,E,E,E,E,E,E,E,E,E,E,E,E,E,E,Y⟩,Y,E,E⟩
   ·have x5:k=f.addrs.length:=qB h;clear h;rw[x5,yN];refine T ?_;exact Be (j+1) [] ab q_ ⟨⟨E,E,E,E,E,E,zH Ab d9,E,E,E,E,E,E,E,Y⟩,Y,E,E⟩
 ·have dh:j=f.addrs.length:=qB h;clear h;subst dh;rw[yN,←aa];exact gA
end Go.Sy.YticmobkdaneelaaGreatDoor
