/- Parts of a proof. -/
import Derived.Test.YtedbfemmehbeoaaGreatDoorXC21
set_option maxHeartbeats 4000000
set_option linter.all false
namespace Go.Sy.Zaa
open Go.Proofs Go.Proofs.Tryz
attribute [local irreducible]G DR
set_option maxRecDepth 100000
def Bad(n:Ai)(hn:n.Fin)(l:A2)(hl:E7 l):Sp 282 [Aq n,Be l] (.tup [Aq (E4 n l).1,Aa (E4 n l).2]):=cT F282 ntmps282 λF hF=>by
 have i:=E4.eq_1 n l;generalize E4 n l=a2 at *;cases P:Es n l 2 with
 |false=>
  have R:=lX n hn l hl 2 P;rw[P,zE rfl]at i;subst i;refine gD R F344 ?_;exact An 4 (Eo Au) q_ vL gA
 |true=>
 have R:=Aft n hn l hl 2 P;have hr:Ac n=true:=by
  unfold Es at P;simp only[zG]at P;exact P.2.2
 rw[P,zD qx]at i;have q2:=M2 n hn hr l.q;have q3:=Zz n hn hr (Cg n l.q) l.ac;have I:=hl.fin.t;have q5:=Qv l.u j_;have je:n.g.length<=40/\n.c.length<=48:=⟨(Ac8 hr).2.1,(Ac8 hr).2.2.2.1⟩
 generalize L4 n (Cg n l.q) l.ac=pt at *;generalize Cg n l.q=g at *;by_cases h3:g<0
 .have g3:decide (g<0)=true:=zL h3;rw[zE h3]at i;subst i;refine T ?_;refine X (Ad [] q_ F344 R q_ W q_ V) ?_;refine C q2 F112 ?_;exact An 4 (Eo Au) q_ vL gA
 have g3:decide (g<0)=false:=zJ h3;rw[zD h3]at i;by_cases h4:0<=pt
 .have g4:decide (pt>=0)=true:=zL h4;rw[zE h4]at i;subst i;refine T ?_;refine X (Ad [] q_ F344 R q_ W q_ V) ?_;refine gN q2 F112 q3 F111 ?_;exact An 4 (Eo Au) q_ vL gA
 have g4:decide (pt>=0)=false:=zJ h4;rw[zD h4]at i;by_cases h5:n.g.length=40
 .have g5:((n.g.length:Int)==40)=true:=by rw[yL];omega
  rw[zE h5]at i;subst i;refine T ?_;refine X (Ad [] q_ F344 R q_ W q_ V) ?_;refine gN q2 F112 q3 F111 ?_;exact An 4 (Eo Au) q_ vL gA
 have g5:((n.g.length:Int)==40)=false:=by rw[zU];omega
 rw[zD h5]at i;have zy:(D0 g n.c l.z).length<=49:=by unfold D0;split<;>(try simp)<;>omega
 have oh:∀j,(By g (D0 g n.c l.z) (l.u.take j)).length<=200000:=λj=>by
  have h1:=Ads g (l.u.take j) (D0 g n.c l.z);rw[zY]at h1;omega
 by_cases o:0<l.z/\n.c.any (λd=>d.q==g&&d.z==l.z)=false
 .have q6:=Uv ({n with g:=n.g++[(⟨l.row,g,l.z,l.aj,-1,l.ac,l.u⟩:D4)]}:Ai) (by show n.c.length<_;omega) g l.z o;obtain ⟨p,ur⟩:=kE (D0 g n.c l.z);have lu:=oh;rw[ur]at lu;have a0:=ur.symm.trans (Aa0 o);rw[<-a0]at q6;clear oh a0 o zy;refine T ?_;refine X (Ad [] q_ F344 R q_ W q_ V) ?_;refine gN q2 F112 q3 F111 ?_;refine C q5 F163 ?_;refine Xd (Ah Γ.toTy 66 q_ q_ q_ q_ q_ (.row q_) (.lit (e:=Bm) (l:=[(⟨l.row,g,l.z,l.aj,-1,l.ac,l.u⟩:D4)]) q_ q_) qq (by simp only[yD];omega) (by simp only[yD];omega)) ?_;refine T ?_;refine X (A1 [(902,66),(1904,1101)] (A3 q_ q_ F347) q6 q_ W q_ V) ?_;refine T ?_;refine Dc (λj:Nat=>j<=l.u.length) (λj=>[(4,.ptr 1001 0),(6,.ptr 900 0),(8,Aa g),(9,.clo (.func 347) [] []),(77,.sl 1 Aa l.u),(78,Aa l.u.length),(79,Aa j)]) (λj=>[(1001,.box [Jl,Jl,Jl,Jl,Jl,Jl,Jl,Jl]),(900,.box [.osl 901,.osl 1002,.osl 903,.osl 1004,.osl 905,.osl 906,.osl 907,.osl 908]),(901,.row 5 Bh n.j),(1002,.row 7 Bm (n.g++[(⟨l.row,g,l.z,l.aj,-1,l.ac,l.u⟩:D4)])),(903,.row 3 Dq n.x),(1004,.row 6 Ax (By g p (l.u.take j))),(905,.row 4 Bp n.ab),(906,.row 4 B6 n.y),(907,.row 5 D5 n.ag),(908,.row 5 Dx n.r)]) (λj=>l.u.length-j) 0 [(1001,4),(1002,66),(1004,1101)] j_ U ?_;intro j hj;have a1:=lu j;refine gP ?_ ?_<;>intro h
  .have I:j<l.u.length:=qA h;have r:(j:Int).toNat<l.u.length:=I;clear h;have J:By g p (l.u.take (j+1))=D0 g (By g p (l.u.take j)) (l.u[(j:Int).toNat]'r):=by
    rw[zZ I,Adr];rfl
   by_cases o:0<(l.u[(j:Int).toNat]'r)/\(By g p (l.u.take j)).any (λd=>d.q==g&&d.z==(l.u[(j:Int).toNat]'r))=false
   .have q:=Uv ({n with g:=n.g++[(⟨l.row,g,l.z,l.aj,-1,l.ac,l.u⟩:D4)],c:=By g p (l.u.take j)}:Ai) (by show (By g p (l.u.take j)).length<_;omega) g (l.u[(j:Int).toNat]'r) o;rw[Aa0 o]at J;refine T ?_;refine X (A1 [(902,1002),(904,1004),(1904,1102)] (A3 q_ q_ F347) q q_ W q_ V) ?_;exact A8 (j+1) [(1004,1102)] I j_ ⟨kA,⟨.inl q_,q_,.inl q_,q_,.inl q_,q_,.inl q_,q_,.inl q_,q_,.inl (zH (Ob.row 6 Ax) J),q_,.inl q_,q_,.inl q_,q_,.inl q_,q_,.inl q_,q_,z_⟩,q_,q_⟩
   .have q:=Wo ({n with g:=n.g++[(⟨l.row,g,l.z,l.aj,-1,l.ac,l.u⟩:D4)],c:=By g p (l.u.take j)}:Ai) (by show (By g p (l.u.take j)).length<_;omega) g (l.u[(j:Int).toNat]'r) o;rw[Ae8 o]at J;refine T ?_;refine X (A1 [(902,1002),(904,1004)] (A3 q_ q_ F347) q q_ W q_ V) ?_;exact A8 (j+1) [] I j_ ⟨kA,⟨.inl q_,q_,.inl q_,q_,.inl q_,q_,.inl q_,q_,.inl q_,q_,.inl (zH (Ob.row 6 Ax) J),q_,.inl q_,q_,.inl q_,q_,.inl q_,q_,.inl q_,q_,z_⟩,q_,q_⟩
  .have bu:j=l.u.length:=qB h;clear h;rw[bu,yM];have ly:By g n.c (l.z::l.u)=By g p l.u:=(show By g n.c (l.z::l.u)=By g (D0 g n.c l.z) l.u from rfl).trans (by rw[ur]);rw[ly]at i;by_cases h9:48<(By g p l.u).length
   .have g9:decide (((By g p l.u).length:Int)>48)=true:=zL j_;rw[zE h9]at i;subst i;refine T ?_;exact An 1001 (Eo Au) q_ vL gA
   .have g9:decide (((By g p l.u).length:Int)>48)=false:=zJ j_;rw[zD h9]at i;subst i;refine T ?_;exact Ao 901 q_ (Ao 1002 q_ (Ao 903 q_ (Ao 1004 q_ (Ao 905 q_ (Ao 906 q_ (Ao 907 q_ (Ao 908 q_ D)))))))
 .have q6:=Wo ({n with g:=n.g++[(⟨l.row,g,l.z,l.aj,-1,l.ac,l.u⟩:D4)]}:Ai) (by show n.c.length<_;omega) g l.z o;have ur:D0 g n.c l.z=n.c:=Ae8 o;have lu:=oh;rw[ur]at lu;clear oh o zy;refine T ?_;refine X (Ad [] q_ F344 R q_ W q_ V) ?_;refine gN q2 F112 q3 F111 ?_;refine C q5 F163 ?_;refine Xd (Ah Γ.toTy 66 q_ q_ q_ q_ q_ (.row q_) (.lit (e:=Bm) (l:=[(⟨l.row,g,l.z,l.aj,-1,l.ac,l.u⟩:D4)]) q_ q_) qq (by simp only[yD];omega) (by simp only[yD];omega)) ?_;refine T ?_;refine X (A1 [(902,66)] (A3 q_ q_ F347) q6 q_ W q_ V) ?_;refine T ?_;refine Dc (λj:Nat=>j<=l.u.length) (λj=>[(4,.ptr 1001 0),(6,.ptr 900 0),(8,Aa g),(9,.clo (.func 347) [] []),(77,.sl 1 Aa l.u),(78,Aa l.u.length),(79,Aa j)]) (λj=>[(1001,.box [Jl,Jl,Jl,Jl,Jl,Jl,Jl,Jl]),(900,.box [.osl 901,.osl 1002,.osl 903,.osl 1004,.osl 905,.osl 906,.osl 907,.osl 908]),(901,.row 5 Bh n.j),(1002,.row 7 Bm (n.g++[(⟨l.row,g,l.z,l.aj,-1,l.ac,l.u⟩:D4)])),(903,.row 3 Dq n.x),(1004,.row 6 Ax (By g n.c (l.u.take j))),(905,.row 4 Bp n.ab),(906,.row 4 B6 n.y),(907,.row 5 D5 n.ag),(908,.row 5 Dx n.r)]) (λj=>l.u.length-j) 0 [(1001,4),(1002,66),(1004,904)] j_ U ?_;intro j hj;have a1:=lu j;refine gP ?_ ?_<;>intro h
  .have I:j<l.u.length:=qA h;have r:(j:Int).toNat<l.u.length:=I;clear h;have J:By g n.c (l.u.take (j+1))=D0 g (By g n.c (l.u.take j)) (l.u[(j:Int).toNat]'r):=by
    rw[zZ I,Adr];rfl
   by_cases o:0<(l.u[(j:Int).toNat]'r)/\(By g n.c (l.u.take j)).any (λd=>d.q==g&&d.z==(l.u[(j:Int).toNat]'r))=false
   .have q:=Uv ({n with g:=n.g++[(⟨l.row,g,l.z,l.aj,-1,l.ac,l.u⟩:D4)],c:=By g n.c (l.u.take j)}:Ai) (by show (By g n.c (l.u.take j)).length<_;omega) g (l.u[(j:Int).toNat]'r) o;rw[Aa0 o]at J;refine T ?_;refine X (A1 [(902,1002),(904,1004),(1904,1102)] (A3 q_ q_ F347) q q_ W q_ V) ?_;exact A8 (j+1) [(1004,1102)] I j_ ⟨kA,⟨.inl q_,q_,.inl q_,q_,.inl q_,q_,.inl q_,q_,.inl q_,q_,.inl (zH (Ob.row 6 Ax) J),q_,.inl q_,q_,.inl q_,q_,.inl q_,q_,.inl q_,q_,z_⟩,q_,q_⟩
   .have q:=Wo ({n with g:=n.g++[(⟨l.row,g,l.z,l.aj,-1,l.ac,l.u⟩:D4)],c:=By g n.c (l.u.take j)}:Ai) (by show (By g n.c (l.u.take j)).length<_;omega) g (l.u[(j:Int).toNat]'r) o;rw[Ae8 o]at J;refine T ?_;refine X (A1 [(902,1002),(904,1004)] (A3 q_ q_ F347) q q_ W q_ V) ?_;exact A8 (j+1) [] I j_ ⟨kA,⟨.inl q_,q_,.inl q_,q_,.inl q_,q_,.inl q_,q_,.inl q_,q_,.inl (zH (Ob.row 6 Ax) J),q_,.inl q_,q_,.inl q_,q_,.inl q_,q_,.inl q_,q_,z_⟩,q_,q_⟩
  .have bu:j=l.u.length:=qB h;clear h;rw[bu,yM];have ly:By g n.c (l.z::l.u)=By g n.c l.u:=(show By g n.c (l.z::l.u)=By g (D0 g n.c l.z) l.u from rfl).trans (by rw[ur]);rw[ly]at i;by_cases h9:48<(By g n.c l.u).length
   .have g9:decide (((By g n.c l.u).length:Int)>48)=true:=zL j_;rw[zE h9]at i;subst i;refine T ?_;exact An 1001 (Eo Au) q_ vL gA
   .have g9:decide (((By g n.c l.u).length:Int)>48)=false:=zJ j_;rw[zD h9]at i;subst i;refine T ?_;exact Ao 901 q_ (Ao 1002 q_ (Ao 903 q_ (Ao 1004 q_ (Ao 905 q_ (Ao 906 q_ (Ao 907 q_ (Ao 908 q_ D)))))))
end Go.Sy.Zaa
