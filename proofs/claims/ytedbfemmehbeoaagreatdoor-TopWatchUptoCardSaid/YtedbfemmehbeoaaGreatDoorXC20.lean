/- Parts of a proof. -/
import Derived.Test.YtedbfemmehbeoaaGreatDoorXC14
set_option maxHeartbeats 4000000
set_option linter.all false
namespace Go.Sy.Zaa
open Go.Proofs Go.Proofs.Tryz
attribute [local irreducible]G DR
set_option maxRecDepth 100000
abbrev A1p(n:Ai):It:=[(900,.box [.osl 901,.osl 902,.osl 903,.osl 904,.osl 905,.osl 906,.osl 907,.osl 908]),(901,.row 5 Bh n.j),(902,.row 7 Bm n.g),(903,.row 3 Dq n.x),(904,.row 6 Ax n.c),(905,.row 4 Bp n.ab),(906,.row 4 B6 n.y),(907,.row 5 D5 n.ag),(908,.row 5 Dx n.r)]
def Aft(n:Ai)(g:n.Fin)(l:A2)(o:E7 l)(k:Int)(h:Es n l k=true):Sq 344 [Aq n,Be l,Aa k] [] (.tup [.ptr 900 0,Ab true]) (A1p n):=cT F344 ntmps344 λF J=>by
 have i:=S3 l o;have j:=A7 n g;have p:=Yb n g;unfold Es at h;simp only[zG]at h;obtain ⟨r,t,I⟩:=h;have P:(l.kind != k)=false:=by rw[bne,r];rfl
 rw[t]at i;rw[I]at j;refine gB i F348 j F49 ?_;refine X (Ad [(0,901),(1,902),(2,903),(3,904),(4,905),(5,906),(6,907),(7,908)] q_ F79 p q_ W q_ V) ?_;exact done q_ (.cons .tmp As) [(900,25)] (A1p n) (λ_ h=>h) q_ q_ U
def lX(n:Ai)(p:n.Fin)(l:A2)(r:E7 l)(k:Int)(h:Es n l k=false):Sp 344 [Aq n,Be l,Aa k] (.tup [.val (.pointer none),Ab false]):=cT F344 ntmps344 λF I=>by
 have g:=S3 l r;have j:=A7 n p;unfold Es at h;cases i:(l.kind==k) with
 |false=>
  have t:(l.kind != k)=true:=by rw[bne,i];rfl
  exact gA
 |true=>
 have t:(l.kind != k)=false:=by rw[bne,i];rfl
 rw[i,yB]at h;cases o:Hp l with
 |false=>
  rw[o]at g;refine gD g F348 ?_;exact D
 |true=>
 rw[o]at g h;rw[yB]at h;rw[h]at j;refine gB g F348 j F49 ?_;exact D
def Baj(l:A2)(d:Device):Sp 346 [Bh d,.ref 17 (Be l) 0] (Ab (d.name==l.q||d.an==l.an)):=cT F346 ntmps346 λF g=>by
 cases h:(d.name==l.q)
 .exact gA
 .exact gA
def A1q(n:Ai)(j:n.Fin)(l:A2)(r:E7 l):Sp 281 [Aq n,Be l] (.tup [Aq (Df n l).1,Aa (Df n l).2]):=cT F281 ntmps281 λF R=>by
 have g:=Df.eq_1 n l;generalize Df n l=I at *;cases o:Es n l 1 with
 |false=>
  have i:=lX n j l r 1 o;rw[o,zE rfl]at g;subst g;refine gD i F344 ?_;exact An 4 (Eo Au) q_ vL gA
 |true=>
 have i:=Aft n j l r 1 o;rw[o,zD qx]at g;have p:=eE n.j (λd=>d.name==l.q||d.an==l.an) 346 [] [.ref 17 (Be l) 0] rfl (λd _=>⟨⟨_,_,F346⟩,Baj l d⟩) j.j;rw[Mr]at p;have je:n.j.length<2147483648:=j.j;generalize n.j.any (λd=>d.name==l.q||d.an==l.an)=J at *;cases J with
 |true=>
  rw[zE rfl]at g;subst g;refine T ?_;refine X (Ad [] q_ F344 i q_ W q_ V) ?_;refine Bi 3 17 (Be l) q_ q_ q_ (X (Ms [901] q_ F345 p (.cons (.row q_ q_) (.cons (.refl _) .nil)) q_ q_) ?_);exact An 4 (Eo Au) q_ vL gA
 |false=>
 rw[zD qx]at g;by_cases t:n.j.length=8
 .have P:((n.j.length:Int)==8)=true:=by rw[yL];omega
  rw[zE t]at g;subst g;refine T ?_;refine X (Ad [] q_ F344 i q_ W q_ V) ?_;refine Bi 3 17 (Be l) q_ q_ q_ (X (Ms [901] q_ F345 p (.cons (.row q_ q_) (.cons (.refl _) .nil)) q_ q_) ?_);exact An 4 (Eo Au) q_ vL gA
 have P:((n.j.length:Int)==8)=false:=by rw[zU];omega
 rw[zD t]at g;subst g;refine T ?_;refine X (Ad [] q_ F344 i q_ W q_ V) ?_;refine Bi 3 17 (Be l) q_ q_ q_ (X (Ms [901] q_ F345 p (.cons (.row q_ q_) (.cons (.refl _) .nil)) q_ q_) ?_);refine T ?_;refine Xd (Ah Γ.toTy 52 q_ q_ q_ q_ q_ (.row q_) (.lit (e:=Bh) (l:=[(⟨l.row,l.num,l.q,l.an,0⟩:Device)]) q_ q_) qq (by simp only[yD];omega) (by simp only[yD];omega)) ?_;refine T ?_;exact Ao 52 q_ (Ao 902 q_ (Ao 903 q_ (Ao 904 q_ (Ao 905 q_ (Ao 906 q_ (Ao 907 q_ (Ao 908 q_ D)))))))
end Go.Sy.Zaa
