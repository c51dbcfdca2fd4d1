/- Parts of a proof. -/
import Derived.Test.YtedbfemmehbeoaaGreatDoorXC18
set_option maxHeartbeats 4000000
set_option linter.all false
namespace Go.Sy.Zaa
open Go.Proofs Go.Proofs.Tryz
attribute [local irreducible]G DR
set_option maxRecDepth 100000
def Au4(n:Ai)(j:n.Fin)(l:Ac n=true)(dev port:ByteArray):Sp 349 [Aq n,Ap dev,Ap port] (Aa (Aap n dev port)):=cT F349 ntmps349 λF t=>by
 have o:=M2 n j l dev;have p:=Zz n j l (Cg n dev) port;have i:=Aap.eq_1 n dev port;generalize Aap n dev port=r at *;generalize L4 n (Cg n dev) port=I at *;generalize Cg n dev=d at *;by_cases h:d<0
 .have g:decide (d<0)=true:=zL h;rw[zE h]at i;subst i;refine gD o F112 ?_;exact D
 .have g:decide (d<0)=false:=zJ h;rw[zD h]at i;subst i;refine gB o F112 p F111 ?_;exact D
def end_range{n:Ai}{dev port:ByteArray}(h:¬Aap n dev port<0):∃k:Nat,Aap n dev port=k/\k<n.g.length:=by
 unfold Aap at h|-;split
 .rename_i g;rw[zE g]at h;omega
 .rename_i g;rw[zD g]at h;exact Qp h
def Bbs(n:Ai)(P:n.Fin)(l:A2)(hl:E7 l):Sp 283 [Aq n,Be l] (.tup [Aq (E5 n l).1,Aa (E5 n l).2]):=cT F283 ntmps283 λF hF=>by
 have R:=S3 l hl;have qn:=A7 n P;have dr:=Yb n P;have g:=E5.eq_1 n l;dsimp only at g;have p:=Es.eq_1 n l 3;generalize E5 n l=a5 at *;generalize Es n l 3=f at *;cases h1:(l.kind==3) with
 |false=>
  have I:(l.kind != 3)=true:=by rw[bne,h1];rfl
  rw[h1,yE]at p;rw[p,zE rfl]at g;subst g;refine T ?_;exact An 4 (Eo Au) q_ vL gA
 |true=>
 have I:(l.kind != 3)=false:=by rw[bne,h1];rfl
 rw[h1,yB]at p;cases h2:Hp l with
 |false=>
  rw[h2]at R p;rw[p,yE,zE rfl]at g;subst g;refine gD R F348 ?_;exact An 4 (Eo Au) q_ vL gA
 |true=>
 rw[h2]at R p;cases hr:Ac n with
 |false=>
  rw[hr]at qn p;rw[p,wR,zE rfl]at g;subst g;refine gB R F348 qn F49 ?_;exact An 4 (Eo Au) q_ vL gA
 |true=>
 rw[hr]at qn p;rw[p,zD qx]at g;have q1:=Au4 n P hr l.q l.ac;have q2:=Au4 n P hr l.peer l.bi;have ra:=@end_range n l.q l.ac;have rb:=@end_range n l.peer l.bi;have je:n.x.length<2147483648:=P.x;generalize Aap n l.q l.ac=a at *;generalize Aap n l.peer l.bi=b at *;refine gB R F348 qn F49 ?_;refine gN q1 F349 q2 F349 ?_;refine Xd (dV Γ.toTy q_ q_ q_ q_ q_ q_) ?_;refine T ?_;refine Bi 2 8 (Aq n) q_ q_ q_ ?_;refine Bi 3 17 (Be l) q_ q_ q_ (Bi 6 2 (.agg [Aa a,Aa b]) q_ q_ q_ ?_);refine Dc (λj:Nat=>j<=2/\(1<=j->¬a<0)/\(2<=j->¬b<0)) (λj=>[(2,.ref 8 (Aq n) 0),(3,.ref 17 (Be l) 0),(4,.ptr 1001 0),(6,.ref 2 (.agg [Aa a,Aa b]) 0),(41,.agg [Aa a,Aa b]),(42,Aa j)]) (λ_=>[(1001,.box [Jl,Jl,Jl,Jl,Jl,Jl,Jl,Jl])]) (λj=>2-j) 0 [(1001,4)] ⟨by omega,by omega,by omega⟩ U ?_;rintro j ⟨hj,ja,jb⟩;have hc:j=0\/j=1\/j=2:=by omega
 rcases hc with rfl|rfl|rfl
 .by_cases r:a<0
  .have I:decide (a<0)=true:=zL r;rw[zE (.inl r)]at g;subst g;refine T ?_;refine X (B5 (k:=.int .i64) Γ.toTy q_ q_ q_ Tryz.underlying3 q_ q_ qq qq q_) ?_;exact An 1001 (Eo Au) q_ vL gA
  .have I:decide (a<0)=false:=zJ r;refine T ?_;refine X (B5 (k:=.int .i64) Γ.toTy q_ q_ q_ Tryz.underlying3 q_ q_ qq qq q_) ?_;exact A8 1 [] ⟨by omega,λ_=>r,by omega⟩ j_ U
 .have r:=ja j_;by_cases J:b<0
  .have I:decide (b<0)=true:=zL J;rw[zE (.inr J)]at g;subst g;refine T ?_;refine X (B5 (k:=.int .i64) Γ.toTy q_ q_ q_ Tryz.underlying3 q_ q_ qq qq q_) ?_;exact An 1001 (Eo Au) q_ vL gA
  .have I:decide (b<0)=false:=zJ J;refine T ?_;refine X (B5 (k:=.int .i64) Γ.toTy q_ q_ q_ Tryz.underlying3 q_ q_ qq qq q_) ?_;exact A8 2 [] ⟨by omega,λ_=>r,λ_=>J⟩ j_ U
 .have r:=ja j_;have J:=jb j_;obtain ⟨a,rfl,m7⟩:=ra r;obtain ⟨b,rfl,jt⟩:=rb J;rw[zD (λh=>h.elim r J)]at g;clear ja jb ra rb hj;have i:(a:Int).toNat<n.g.length:=m7;have t:(b:Int).toNat<n.g.length:=jt;have a0:Af n.g (a:Int)=n.g[(a:Int).toNat]'i:=Aj i;have a2:Af n.g (b:Int)=n.g[(b:Int).toNat]'t:=Aj t;rw[a0,a2]at g;by_cases k1:(n.g[(a:Int).toNat]'i).q=(n.g[(b:Int).toNat]'t).q
  .have I:((n.g[(a:Int).toNat]'i).q==(n.g[(b:Int).toNat]'t).q)=true:=by rw[yL];exact k1
   rw[zE (.inl k1)]at g;subst g;refine T ?_;exact An 1001 (Eo Au) q_ vL gA
  have I:((n.g[(a:Int).toNat]'i).q==(n.g[(b:Int).toNat]'t).q)=false:=by rw[zU];exact k1
  by_cases k2:0<=(n.g[(a:Int).toNat]'i).ah
  .have g2:decide ((n.g[(a:Int).toNat]'i).ah>=0)=true:=zL k2;rw[zE (.inr (.inl k2))]at g;subst g;refine T ?_;exact An 1001 (Eo Au) q_ vL gA
  have g2:decide ((n.g[(a:Int).toNat]'i).ah>=0)=false:=zJ k2;by_cases k3:0<=(n.g[(b:Int).toNat]'t).ah
  .have g3:decide ((n.g[(b:Int).toNat]'t).ah>=0)=true:=zL k3;rw[zE (.inr (.inr k3))]at g;subst g;refine T ?_;exact An 1001 (Eo Au) q_ vL gA
  have g3:decide ((n.g[(b:Int).toNat]'t).ah>=0)=false:=zJ k3;rw[zD (by rintro (h|h|h);exact k1 h;exact k2 h;exact k3 h)]at g;by_cases k4:n.x.length=20
  .have g4:((n.x.length:Int)==20)=true:=by rw[yL];omega
   rw[zE k4]at g;subst g;refine T ?_;exact An 1001 (Eo Au) q_ vL gA
  have g4:((n.x.length:Int)==20)=false:=by rw[zU];omega
  rw[zD k4]at g;have t1:Il n.g (a:Int) (n.x.length:Int)=n.g.set (a:Int).toNat (⟨(n.g[(a:Int).toNat]'i).row,(n.g[(a:Int).toNat]'i).q,(n.g[(a:Int).toNat]'i).native,(n.g[(a:Int).toNat]'i).aj,(n.x.length:Int),(n.g[(a:Int).toNat]'i).name,(n.g[(a:Int).toNat]'i).u⟩:D4):=by rw[Il,a0]
  have l1:(Il n.g (a:Int) (n.x.length:Int)).length=n.g.length:=by rw[Il,yO]
  have ag:n.g≠[]:=λe=>by rw[e]at m7;cases m7
  obtain ⟨P1,a3⟩:=kE (Il n.g (a:Int) (n.x.length:Int));rw[a3]at g t1 l1;have o:(b:Int).toNat<P1.length:=by rw[l1];exact t
  have vf:Af P1 (b:Int)=P1[(b:Int).toNat]'o:=Aj o;have a1:P1≠[]:=λe=>by rw[e]at o;cases o
  have t2:Il P1 (b:Int) (n.x.length:Int)=P1.set (b:Int).toNat (⟨(P1[(b:Int).toNat]'o).row,(P1[(b:Int).toNat]'o).q,(P1[(b:Int).toNat]'o).native,(P1[(b:Int).toNat]'o).aj,(n.x.length:Int),(P1[(b:Int).toNat]'o).name,(P1[(b:Int).toNat]'o).u⟩:D4):=by rw[Il,vf]
  obtain ⟨P2,a4⟩:=kE (Il P1 (b:Int) (n.x.length:Int));rw[a4]at g t2;subst g;refine T ?_;refine X (Ad [(0,901),(1,902),(2,903),(3,904),(4,905),(5,906),(6,907),(7,908)] q_ F79 dr q_ W q_ V) ?_;refine Dc (λj:Nat=>j<=2) (λj=>[(3,.ref 17 (Be l) 0),(4,.ptr 1001 0),(6,.ref 2 (.agg [Aa (a:Int),Aa (b:Int)]) 0),(11,.ptr 1002 0),(86,.agg [Aa (a:Int),Aa (b:Int)]),(87,Aa j)]) (λj=>[(1001,.box [Jl,Jl,Jl,Jl,Jl,Jl,Jl,Jl]),(1002,.box [.osl 901,.osl 902,.osl 903,.osl 904,.osl 905,.osl 906,.osl 907,.osl 908]),(901,.row 5 Bh n.j),(902,.row 7 Bm (if j=0 then n.g else if j=1 then P1 else P2)),(903,.row 3 Dq n.x),(904,.row 6 Ax n.c),(905,.row 4 Bp n.ab),(906,.row 4 B6 n.y),(907,.row 5 D5 n.ag),(908,.row 5 Dx n.r)]) (λj=>2-j) 0 [(1002,11)] j_ U ?_;intro j hj;have hc:j=0\/j=1\/j=2:=by omega
  rcases hc with rfl|rfl|rfl
  .rw[zE rfl];refine T ?_;refine X (B5 (k:=.int .i64) Γ.toTy q_ q_ q_ Tryz.underlying3 q_ q_ qq qq q_) ?_;refine T ?_;refine⟨ag,?_⟩;refine T ?_;refine⟨(⟨(n.g[(a:Int).toNat]'i).row,(n.g[(a:Int).toNat]'i).q,(n.g[(a:Int).toNat]'i).native,(n.g[(a:Int).toNat]'i).aj,(n.x.length:Int),(n.g[(a:Int).toNat]'i).name,(n.g[(a:Int).toNat]'i).u⟩:D4),q_,q_,?_⟩;refine T ?_;exact A8 1 [] j_ j_ ⟨kA,⟨.inl q_,q_,.inl q_,q_,.inl q_,q_,.inl (zH (Ob.row 7 Bm) t1),q_,.inl q_,q_,.inl q_,q_,.inl q_,q_,.inl q_,q_,.inl q_,q_,.inl q_,q_,z_⟩,q_,q_⟩
  .rw[zD qq,zE rfl];refine T ?_;refine X (B5 (k:=.int .i64) Γ.toTy q_ q_ q_ Tryz.underlying3 q_ q_ qq qq q_) ?_;refine T ?_;refine⟨a1,?_⟩;refine T ?_;refine⟨(⟨(P1[(b:Int).toNat]'o).row,(P1[(b:Int).toNat]'o).q,(P1[(b:Int).toNat]'o).native,(P1[(b:Int).toNat]'o).aj,(n.x.length:Int),(P1[(b:Int).toNat]'o).name,(P1[(b:Int).toNat]'o).u⟩:D4),q_,q_,?_⟩;refine T ?_;exact A8 2 [] j_ j_ ⟨kA,⟨.inl q_,q_,.inl q_,q_,.inl q_,q_,.inl (zH (Ob.row 7 Bm) t2),q_,.inl q_,q_,.inl q_,q_,.inl q_,q_,.inl q_,q_,.inl q_,q_,.inl q_,q_,z_⟩,q_,q_⟩
  .rw[zD qq,zD qq];refine T ?_;refine X (Ah Γ.toTy 109 q_ q_ q_ q_ q_ (.row q_) (.lit (e:=Dq) (l:=[(⟨l.row,(a:Int),(b:Int)⟩:eT)]) q_ q_) qq (by simp only[yD];omega) (by simp only[yD];omega)) ?_;refine T ?_;exact Ao 901 q_ (Ao 902 q_ (Ao 109 q_ (Ao 904 q_ (Ao 905 q_ (Ao 906 q_ (Ao 907 q_ (Ao 908 q_ D)))))))
end Go.Sy.Zaa
