/- Parts of a proof. -/
import Derived.Test.YtodbnbfjhjcanaaGreatDoorXB26
set_option maxHeartbeats 4000000
set_option linter.all false
namespace Go.Sy.Zaa
open Go.Proofs Go.Proofs.Tryz
attribute [local irreducible]G DR
set_option maxRecDepth 100000
def Amd(n:Net)(hn:n.Fin)(hr:Ac n=true)(dev port:ByteArray):Sp 350 [Am n,As dev,As port] (Aa (endI n dev port)):=cT F350 ntmps350 λF hF=>by
 have q1:=Je n hn hr dev;have q2:=Uh n hn hr (Ci n dev) port;have aa:=endI.eq_1 n dev port;generalize endI n dev port=res at *;generalize Sg n (Ci n dev) port=pt at *;generalize Ci n dev=d at *;by_cases h:d<0
 .have g:decide (d<0)=true:=zL h;rw[zE h]at aa;subst aa;refine gC q1 F96 ?_;exact D
 .have g:decide (d<0)=false:=zK h;rw[zD h]at aa;subst aa;refine gB q1 F96 q2 F95 ?_;exact D
def end_range{n:Net}{dev port:ByteArray}(h:¬endI n dev port<0):∃k:Nat,endI n dev port=k/\k<n.ports.length:=by
 unfold endI at h|-;split
 .rename_i h1;rw[zE h1]at h;omega
 .rename_i h1;rw[zD h1]at h;exact Kq h
def A1o(n:Net)(hn:n.Fin)(l:LineM)(hl:LineW l):Sp 276 [Am n,A5 l] (.tup [Am (putLink n l).1,Aa (putLink n l).2]):=cT F276 ntmps276 λF hF=>by
 have qr:=Lt l hl;have qn:=A2 n hn;have dh:=Ss n hn;have aa:=putLink.eq_1 n l;dsimp only at aa;have hf:=fitsB.eq_1 n l 3;generalize putLink n l=res at *;generalize fitsB n l 3=f at *;cases h1:(l.kind==3) with
 |false=>
  have g1:(l.kind != 3)=true:=by rw[bne,h1];rfl
  rw[h1,yF]at hf;rw[hf,zE rfl]at aa;subst aa;refine T ?_;exact Ak 4 (Dc emptyN) E vL gA
 |true=>
 have g1:(l.kind != 3)=false:=by rw[bne,h1];rfl
 rw[h1,yG]at hf;cases h2:D6 l with
 |false=>
  rw[h2]at qr hf;rw[hf,yF,zE rfl]at aa;subst aa;refine gC qr F349 ?_;exact Ak 4 (Dc emptyN) E vL gA
 |true=>
 rw[h2]at qr hf;cases hr:Ac n with
 |false=>
  rw[hr]at qn hf;rw[hf,wR,zE rfl]at aa;subst aa;refine gB qr F349 qn F39 ?_;exact Ak 4 (Dc emptyN) E vL gA
 |true=>
 rw[hr]at qn hf;rw[hf,zD y_]at aa;have q1:=Amd n hn hr l.dev l.port;have q2:=Amd n hn hr l.peer l.far;have ra:=@end_range n l.dev l.port;have rb:=@end_range n l.peer l.far;have jl:n.links.length<2147483648:=hn.links;generalize endI n l.dev l.port=a at *;generalize endI n l.peer l.far=b at *;refine gB qr F349 qn F39 ?_;refine gK q1 F350 q2 F350 ?_;refine Xd (Wt Γ.toTy E E E E E E) ?_;refine T ?_;refine Bf 2 8 (Am n) E E E ?_;refine Bf 3 17 (A5 l) E E E (Bf 6 2 (.agg [Aa a,Aa b]) E E E ?_);refine Cd (λj:Nat=>j<=2/\(1<=j->¬a<0)/\(2<=j->¬b<0)) (λj=>[(2,.ref 8 (Am n) 0),(3,.ref 17 (A5 l) 0),(4,.ptr 1001 0),(6,.ref 2 (.agg [Aa a,Aa b]) 0),(41,.agg [Aa a,Aa b]),(42,Aa j)]) (λ_=>[(1001,.box [svN,svN,svN,svN,svN,svN,svN,svN])]) (λj=>2-j) 0 [(1001,4)] ⟨by omega,by omega,by omega⟩ U ?_;rintro j ⟨hj,ja,jb⟩;have hc:j=0\/j=1\/j=2:=by omega
 rcases hc with rfl|rfl|rfl
 .by_cases ka:a<0
  .have g1:decide (a<0)=true:=zL ka;rw[zE (.inl ka)]at aa;subst aa;refine T ?_;refine X (Cg (k:=.int .i64) Γ.toTy E E E Tryz.underlying3 E E j_ j_ E) ?_;exact Ak 1001 (Dc emptyN) E vL gA
  .have g1:decide (a<0)=false:=zK ka;refine T ?_;refine X (Cg (k:=.int .i64) Γ.toTy E E E Tryz.underlying3 E E j_ j_ E) ?_;exact Ax 1 [] ⟨by omega,λ_=>ka,by omega⟩ q_ U
 .have ka:=ja q_;by_cases kb:b<0
  .have g1:decide (b<0)=true:=zL kb;rw[zE (.inr kb)]at aa;subst aa;refine T ?_;refine X (Cg (k:=.int .i64) Γ.toTy E E E Tryz.underlying3 E E j_ j_ E) ?_;exact Ak 1001 (Dc emptyN) E vL gA
  .have g1:decide (b<0)=false:=zK kb;refine T ?_;refine X (Cg (k:=.int .i64) Γ.toTy E E E Tryz.underlying3 E E j_ j_ E) ?_;exact Ax 2 [] ⟨by omega,λ_=>ka,λ_=>kb⟩ q_ U
 .have ka:=ja q_;have kb:=jb q_;obtain ⟨a,rfl,mh⟩:=ra ka;obtain ⟨b,rfl,mj⟩:=rb kb;rw[zD (λh=>h.elim ka kb)]at aa;clear ja jb ra rb hj;have jv:(a:Int).toNat<n.ports.length:=mh;have qx:(b:Int).toNat<n.ports.length:=mj;have hna:nth n.ports (a:Int)=n.ports[(a:Int).toNat]'jv:=Ae jv;have hnb:nth n.ports (b:Int)=n.ports[(b:Int).toNat]'qx:=Ae qx;rw[hna,hnb]at aa;by_cases k1:(n.ports[(a:Int).toNat]'jv).dev=(n.ports[(b:Int).toNat]'qx).dev
  .have g1:((n.ports[(a:Int).toNat]'jv).dev==(n.ports[(b:Int).toNat]'qx).dev)=true:=by rw[yJ];exact k1
   rw[zE (.inl k1)]at aa;subst aa;refine T ?_;exact Ak 1001 (Dc emptyN) E vL gA
  have g1:((n.ports[(a:Int).toNat]'jv).dev==(n.ports[(b:Int).toNat]'qx).dev)=false:=by rw[zU];exact k1
  by_cases k2:0<=(n.ports[(a:Int).toNat]'jv).link
  .have g2:decide ((n.ports[(a:Int).toNat]'jv).link>=0)=true:=zL k2;rw[zE (.inr (.inl k2))]at aa;subst aa;refine T ?_;exact Ak 1001 (Dc emptyN) E vL gA
  have g2:decide ((n.ports[(a:Int).toNat]'jv).link>=0)=false:=zK k2;by_cases k3:0<=(n.ports[(b:Int).toNat]'qx).link
  .have g3:decide ((n.ports[(b:Int).toNat]'qx).link>=0)=true:=zL k3;rw[zE (.inr (.inr k3))]at aa;subst aa;refine T ?_;exact Ak 1001 (Dc emptyN) E vL gA
  have g3:decide ((n.ports[(b:Int).toNat]'qx).link>=0)=false:=zK k3;rw[zD (by rintro (h|h|h);exact k1 h;exact k2 h;exact k3 h)]at aa;by_cases k4:n.links.length=20
  .have g4:((n.links.length:Int)==20)=true:=by rw[yJ];omega
   rw[zE k4]at aa;subst aa;refine T ?_;exact Ak 1001 (Dc emptyN) E vL gA
  have g4:((n.links.length:Int)==20)=false:=by rw[zU];omega
  rw[zD k4]at aa;have t1:H2 n.ports (a:Int) (n.links.length:Int)=n.ports.set (a:Int).toNat (⟨(n.ports[(a:Int).toNat]'jv).row,(n.ports[(a:Int).toNat]'jv).dev,(n.ports[(a:Int).toNat]'jv).native,(n.ports[(a:Int).toNat]'jv).cost,(n.links.length:Int),(n.ports[(a:Int).toNat]'jv).name,(n.ports[(a:Int).toNat]'jv).tagged⟩:Port):=by rw[H2,hna]
  have l1:(H2 n.ports (a:Int) (n.links.length:Int)).length=n.ports.length:=by rw[H2,yQ]
  have af:n.ports≠[]:=λe=>by rw[e]at mh;cases mh
  obtain ⟨P1,hP1⟩:=kE (H2 n.ports (a:Int) (n.links.length:Int));rw[hP1]at aa t1 l1;have fx:(b:Int).toNat<P1.length:=by rw[l1];exact qx
  have xq:nth P1 (b:Int)=P1[(b:Int).toNat]'fx:=Ae fx;have hne1:P1≠[]:=λe=>by rw[e]at fx;cases fx
  have t2:H2 P1 (b:Int) (n.links.length:Int)=P1.set (b:Int).toNat (⟨(P1[(b:Int).toNat]'fx).row,(P1[(b:Int).toNat]'fx).dev,(P1[(b:Int).toNat]'fx).native,(P1[(b:Int).toNat]'fx).cost,(n.links.length:Int),(P1[(b:Int).toNat]'fx).name,(P1[(b:Int).toNat]'fx).tagged⟩:Port):=by rw[H2,xq]
  obtain ⟨P2,hP2⟩:=kE (H2 P1 (b:Int) (n.links.length:Int));rw[hP2]at aa t2;subst aa;refine T ?_;refine X (Ad [(0,901),(1,902),(2,903),(3,904),(4,905),(5,906),(6,907),(7,908)] E F102 dh E W E V) ?_;refine Cd (λj:Nat=>j<=2) (λj=>[(3,.ref 17 (A5 l) 0),(4,.ptr 1001 0),(6,.ref 2 (.agg [Aa (a:Int),Aa (b:Int)]) 0),(11,.ptr 1002 0),(86,.agg [Aa (a:Int),Aa (b:Int)]),(87,Aa j)]) (λj=>[(1001,.box [svN,svN,svN,svN,svN,svN,svN,svN]),(1002,.box [.osl 901,.osl 902,.osl 903,.osl 904,.osl 905,.osl 906,.osl 907,.osl 908]),(901,.row 5 A1 n.devices),(902,.row 7 Bb (if j=0 then n.ports else if j=1 then P1 else P2)),(903,.row 3 Ck n.links),(904,.row 6 At n.domains),(905,.row 4 Bc n.statics),(906,.row 4 Bn n.floods),(907,.row 5 Ct n.vrfs),(908,.row 5 Cq n.irbs)]) (λj=>2-j) 0 [(1002,11)] q_ U ?_;intro j hj;have hc:j=0\/j=1\/j=2:=by omega
  rcases hc with rfl|rfl|rfl
  .rw[zE rfl];refine T ?_;refine X (Cg (k:=.int .i64) Γ.toTy E E E Tryz.underlying3 E E j_ j_ E) ?_;refine T ?_;refine⟨af,?_⟩;refine T ?_;refine⟨(⟨(n.ports[(a:Int).toNat]'jv).row,(n.ports[(a:Int).toNat]'jv).dev,(n.ports[(a:Int).toNat]'jv).native,(n.ports[(a:Int).toNat]'jv).cost,(n.links.length:Int),(n.ports[(a:Int).toNat]'jv).name,(n.ports[(a:Int).toNat]'jv).tagged⟩:Port),E,E,?_⟩;refine T ?_;exact Ax 1 [] q_ q_ ⟨kA,⟨.inl E,E,.inl E,E,.inl E,E,.inl (zH (Ob.row 7 Bb) t1),E,.inl E,E,.inl E,E,.inl E,E,.inl E,E,.inl E,E,.inl E,E,Y⟩,E,E⟩
  .rw[zD j_,zE rfl];refine T ?_;refine X (Cg (k:=.int .i64) Γ.toTy E E E Tryz.underlying3 E E j_ j_ E) ?_;refine T ?_;refine⟨hne1,?_⟩;refine T ?_;refine⟨(⟨(P1[(b:Int).toNat]'fx).row,(P1[(b:Int).toNat]'fx).dev,(P1[(b:Int).toNat]'fx).native,(P1[(b:Int).toNat]'fx).cost,(n.links.length:Int),(P1[(b:Int).toNat]'fx).name,(P1[(b:Int).toNat]'fx).tagged⟩:Port),E,E,?_⟩;refine T ?_;exact Ax 2 [] q_ q_ ⟨kA,⟨.inl E,E,.inl E,E,.inl E,E,.inl (zH (Ob.row 7 Bb) t2),E,.inl E,E,.inl E,E,.inl E,E,.inl E,E,.inl E,E,.inl E,E,Y⟩,E,E⟩
  .rw[zD j_,zD j_];refine T ?_;refine X (Ah Γ.toTy 109 E E E E E (.row E) (.lit (e:=Ck) (l:=[(⟨l.row,(a:Int),(b:Int)⟩:Link)]) E E) j_ (by simp only[zW];omega) (by simp only[zW];omega)) ?_;refine T ?_;exact Ai 901 E (Ai 902 E (Ai 109 E (Ai 904 E (Ai 905 E (Ai 906 E (Ai 907 E (Ai 908 E D)))))))
end Go.Sy.Zaa
