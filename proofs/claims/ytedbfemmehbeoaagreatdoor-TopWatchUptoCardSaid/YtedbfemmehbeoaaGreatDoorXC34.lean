/- Parts of a proof. -/
import Derived.Test.YtedbfemmehbeoaaGreatDoorXC32
import Derived.Test.YtedbfemmehbeoaaGreatDoorXC33
import Derived.LaidMore
import Derived.Lay
import Derived.SevenTiedAt
import Derived.Test.YtedbfemmehbeoaaGreatDoorCards
set_option maxHeartbeats 4000000
set_option linter.all false
namespace Go.Sy.Zaa
open Go.Proofs Go.Proofs.Tryz
section
attribute [local irreducible]G DR
set_option maxRecDepth 100000
def Aik(w r e:Int):Sp 25 [Aa w,Aa r,Aa e] (cI (cL w r e)):=cT F25 ntmps25 λF g=>by
 refine T ?_;exact An 6 (cellsOf (cI (cL w r e))) q_ vL D
def Asp:∀(l:List ByteArray) (t:Ex),nY t->(∀s∈l,s.size<=40)->t.av.length+l.length<=1000->t.g.length+l.length<=1000->nY (bP t l).1
 |[],t,h,_,_,_=>h
 |w::l,t,h,i,j,hp=>by
  rw[bP];have o:=i w qx;have p:=Aop w;split
  .exact⟨by decide,⟨by decide,λs i=>(by cases i)⟩,⟨by decide,λs i=>(by cases i)⟩⟩
  refine Asp l _ ⟨h.name,⟨by simp at j|-;omega,λs g=>?_⟩,⟨by simp at hp|-;omega,λs g=>?_⟩⟩ (λs g=>i s (by simp[g])) (by simp at j|-;omega) (by simp at hp|-;omega)
  .rcases yJ.1 g with g|g
   .exact h.av.2 s g
   .rw[zX.1 g];show (Ib 46 w).1.size<=_;omega
  .rcases yJ.1 g with g|g
   .exact h.g.2 s g
   .rw[zX.1 g];show (Ib 46 w).2.1.size<=_;omega
def A2i:nY Apq:=⟨by decide,⟨by decide,λs g=>(by cases g)⟩,⟨by decide,λs g=>(by cases g)⟩⟩
def A4l(w:List ByteArray)(row:Int)(g:∀s∈w,s.size<=40):nY (L7 w row).1:=by
 rw[L7];split
 .exact A2i
 rename_i h;simp only[vY]at h;split
 .exact A2i
 have i:A4 w 1=w[1]'j_:=E9 j_;refine Asp _ _ ⟨?_,⟨xV _,λs g=>(by cases g)⟩,⟨xV _,λs g=>(by cases g)⟩⟩ (λs j=>g s (List.mem_of_mem_drop j)) kO kO;show (A4 w 1).size<=_;rw[i];have:=g _ (zI (show 1<w.length by omega));omega
def cQ:∀(j:List ByteArray) (i:Nat) (out:List Ex),(∀r∈j,r.size<=20000)->(∀t∈out,nY t)->out.length<=10->(∀t∈(Ip i out j).1,nY t)/\(Ip i out j).1.length<=10
 |[],i,out,_,h,o=>⟨h,o⟩
 |r::j,i,out,p,h,o=>by
  have l:∀x∈j,x.size<=20000:=λx I=>p x (by simp[I])
  rw[Ip];split
  .exact⟨λt g=>(by cases g),by simp⟩
  split
  .exact cQ j (i+1) out l h o
  split
  .exact⟨λt g=>(by cases g),by simp⟩
  split
  .exact⟨λt g=>(by cases g),by simp⟩
  refine cQ j (i+1) _ l (λt g=>?_) kO;rcases yJ.1 g with g|g
  .exact h t g
  .rw[zX.1 g];exact A4l _ _ (Zc r (p r qx)).2
def Anb(b:List UInt8):(∀t∈(Cj b).1,nY t)/\(Cj b).1.length<=10:=by
 rw[Cj];split
 .exact⟨λt g=>(by cases g),by simp⟩
 .exact cQ _ 0 [] (W9 b).2 (λt g=>(by cases g)) qx
def A2e(b c:List UInt8)(hb:b.length<=1000000)(hc:c.length<=1000000):Sp 9 [.sl 1 Ae b,.sl 1 Ae c] (cI (D6 b c)):=cT F9 ntmps9 λF hF=>by
 have g:=D6.eq_1 b c;generalize D6 b c=a0 at *;have i:=Acg b hb;have o:=Afu c hc;obtain ⟨J,R⟩:=Jv b;have bw:=Aaa b;obtain ⟨mg,bd⟩:=Anb c;generalize Ak b=nt at *;generalize Cj c=pt at *;obtain ⟨n,xp,ne⟩:=nt;obtain ⟨L,u0,p⟩:=pt;dsimp only at *;by_cases j:ne=0;rotate_left
 .have f1:(ne != 0)=true:=by rw[xF];exact j
  rw[zE j]at g;subst g;refine gB i F18 (Aik 1 xp ne) F25 ?_;exact D
 have f1:(ne != 0)=false:=by rw[j];rfl
 rw[zD (λh=>h j)]at g;by_cases r:p=0;rotate_left
 .have f2:(p != 0)=true:=by rw[xF];exact r
  rw[zE r]at g;subst g;refine gB i F18 o F10 ?_;refine C (Aik 2 u0 p) F25 ?_;exact D
 have f2:(p != 0)=false:=by rw[r];rfl
 rw[zD (λh=>h r),Yc]at g;have P:=Bf6 n J L mg j_;have q4:=leaksS n J R (Co n L).1;have q5:=Axl n J (bw j).1 R (Kq n (Co n L).1).1 (Kq n (Co n L).1).2.1;generalize Co n L=a at *;obtain ⟨ow,wh,l,t⟩:=a;dsimp only at *;by_cases I:t=0;rotate_left
 .have f3:(t != 0)=true:=by rw[xF];exact I
  rw[zE I]at g;subst g;refine gB i F18 o F10 ?_;refine gN P F26 (Aik wh l t) F25 ?_;exact D
 have f3:(t != 0)=false:=by rw[I];rfl
 rw[zD (λh=>h I)]at g;generalize Kq n ow=lk at *;obtain ⟨lf,lt,ll⟩:=lk;dsimp only at *;cases ll
 .rw[zE rfl]at g;subst g;refine gB i F18 o F10 ?_;refine gN P F26 q4 F27 ?_;exact An 4 (cellsOf (cI ⟨1,0,0,0,0,0,[]⟩)) q_ vL D
 .rw[zD (by exact Bool.noConfusion)]at g;generalize Qx n lf lt=sc at *;obtain ⟨sl,se⟩:=sc;dsimp only at *;subst g;refine gB i F18 o F10 ?_;refine gN P F26 q4 F27 ?_;refine C q5 F28 ?_;exact D
end
section
def Atx{n:Ai}{m:B4}{J D:Int}(h:D8 n m J D)(d:Int):Uy (Afv m d):=by
 refine⟨?_,by show (0:Nat)<=_;omega,by show (0:Nat)<=_;omega⟩;have g:(if Am d m.ai.length=true then Ec m d else []).length<=64:=by
  split
  .rw[Ec];cases i:m.ai[d.toNat]? with
   |none=>simp
   |some l=>exact(h.cj l (List.mem_of_getElem? i)).1
  .simp
 have key:∀k:Nat,k<=64->L6 (if (k:Int)-1<0 then 0 else (k:Int)-1):=λk j=>by
  unfold L6;by_cases h:(k:Int)-1<0
  .rw[zE h];omega
  .rw[zD h];omega
 exact key _ g
def w0:L6 0:=by unfold L6;omega
def Au0{n:Ai}{s:GoM}(x:Kg)(i:n.x.length<=20)(h:∀y∈s.out,Uy y):∀y∈(nD n s x).out,Uy y:=by
 unfold nD;split
 .intro y g;rcases yJ.1 g with g|g
  .exact h y g
  .rw[zX.1 g];refine⟨w0,by show (0:Nat)<=_;omega,?_⟩;show (upW n x).length<=_;rw[upW,yO,wS];omega
 .exact h
def An8{n:Ai}(i:n.Fin)(j:n.Num)(p:Eb n)(o:Ac n=true)(f:Int)(l:List Kg)(r:0<l.length)(t:∀h∈l,nZ n h):∀k:Nat,∀x∈(goW n f l k).out,Uy x
 |0=>by
  intro x g;have g:x∈[]++[Vj n f l]:=g;rw[xO,zX]at g;rw[g];have:=Af8 p o f r t;exact⟨w0,by omega,by show (0:Nat)<=_;omega⟩
 |k+1=>by
  obtain ⟨I,-⟩:=Aq3 i j f l k;have J:=Au1 i j I j_ j_ (Af l ((k+1:Nat):Int));have P:=Au0 (Af l ((k+1:Nat):Int)) (Ac8 o).2.2.1 (An8 i j p o f l r t k);rw[goW];intro x g;rcases yJ.1 g with g|g
  .exact P x g
  .rw[zX.1 g];exact Atx J.1 _
def Apz{n:Ai}(i:n.Fin)(j:n.Num)(l:Eb n)(f t:Int):(Qx n f t).1.length<=1000/\∀x∈(Qx n f t).1,Uy x:=by
 rw[Qx];split
 .split
  .rename_i h;obtain ⟨r,o,I,p⟩:=Axn l h;have J:0<(Kh n f t).1.length:=xP.2 I;have hd:=(Ac8 p).2.2.2.1;obtain ⟨P,g2⟩:=Aq3 i j f (Kh n f t).1 ((Kh n f t).1.length-1);have R:=An8 i j l p f _ J r ((Kh n f t).1.length-1);have e:(Bcq n f (Kh n f t).1).out=(goW n f (Kh n f t).1 ((Kh n f t).1.length-1)).out++[Afv (goW n f (Kh n f t).1 ((Kh n f t).1.length-1)).m (Af (Kh n f t).1 (((Kh n f t).1.length:Int)-1)).l]:=rfl;dsimp only;rw[e];refine⟨by rw[zR,yD];omega,λx g=>?_⟩;rcases yJ.1 g with g|g
   .exact R x g
   .rw[zX.1 g];exact Atx P _
  .exact⟨by show (0:Nat)<=_;omega,λx g=>by cases g⟩
 .exact⟨by show (0:Nat)<=_;omega,λx g=>by cases g⟩
def Aph(b c:List UInt8):(D6 b c).bz.length<=1000/\∀x∈(D6 b c).bz,Uy x:=by
 have g:∀{l:List B7},l=[]->l.length<=1000/\∀x∈l,Uy x:=λe=>by rw[e];exact⟨by show (0:Nat)<=_;omega,λx i=>by cases i⟩
 rw[D6];split
 .exact g q_
 rename_i j;split
 .exact g q_
 rw[Yc];split
 .exact g q_
 split
 .exact g q_
 .exact Apz (Jv b).1 (Aaa b (Classical.byContradiction j)).1 (Jv b).2 _ _
def Ts(b:List UInt8):O1 (Ak b).1:=by
 by_cases h:(Ak b).2.2=0
 .rw[Ak]at h|-;split at h
  .contradiction
  rename_i g;rw[zD g];exact Agl _ _ Agi h
 .have:(Ak b).1=Au:=by
   rw[Ak]at h|-;split
   .rfl
   .rename_i g;rw[zD g]at h;exact eJ (Lk b).1 Au h
  rw[this];exact Agi
def cV{n:Ai}(h:O1 n):Qw n:=by
 have g:∀s:ByteArray,A5 s=true->s.size<=300:=λs g=>by
  simp only[A5,zG,zK]at g;omega
 refine⟨λd j=>?_,λp hp=>?_⟩
 .obtain ⟨i,hi,rfl⟩:=wH j;have:=(h.q i hi).1;rw[Aj (l:=n.j) (i:=(i:Int)) (kS hi)]at this;exact g _ this
 .obtain ⟨i,hi,rfl⟩:=wH hp;have:=(h.cl i hi).1;rw[Aj (l:=n.g) (i:=(i:Int)) (kS hi)]at this;exact g _ this
def A2t{z:Int}(h:Dk z):L6 z:=by unfold Dk at h;unfold L6;omega
def Tp(b s:List UInt8):List UInt8×Int×Int×Int :=
 if (Ak b).2.2≠0 then ([],1,(Ak b).2.1,(Ak b).2.2)
 else if (Cp (Ak b).1 s).2.2≠0 then ([],2,(Cp (Ak b).1 s).2.1,(Cp (Ak b).1 s).2.2)
 else if (runT (Ak b).1 (Cp (Ak b).1 s).1).2≠0 then ([],0,0,(runT (Ak b).1 (Cp (Ak b).1 s).1).2)
 else (Yh (Ak b).1 (runT (Ak b).1 (Cp (Ak b).1 s).1).1,0,0,0)
attribute [local irreducible]G DR
set_option maxRecDepth 100000
def Al5(b c:List UInt8)(g:b.length<=1000000)(j:c.length<=1000000):Sq 8 [.sl 1 Ae b,.sl 1 Ae c] [Bj 900] (.sl 1 Ae (To (Ak b).1 (D6 b c))) [Bj 900]:=cT F8 ntmps8 λF J=>by
 have l:=A2e b c g j;have o:=Acg b g;have i:=Aph b c;have p:=Ajb (Ak b).1 (Jv b).1 (cV (Ts b)) (D6 b c) i.1 i.2 (A2t (Ar8 b c)) (A2t (Axt b c));generalize D6 b c=r at *;generalize Ak b=t at *;obtain ⟨n,P,ne⟩:=t;dsimp only at *;generalize To n r=I at *;refine gB o F18 l F9 ?_;refine Xe (Ad [(900,900)] q_ F24 p q_ W q_ V) ?_;exact E0
end
section
def Api(b c:List UInt8):(D6 b c).kind=3\/((Ak b).2.2=0/\(Co (Ak b).1 (Cj c).1).2.2.2=0 /\
  (((D6 b c).kind=1/\(Kq (Ak b).1 (Co (Ak b).1 (Cj c).1).1).2.2=false) \/
   ((D6 b c).kind=2/\Kq (Ak b).1 (Co (Ak b).1 (Cj c).1).1=((D6 b c).ba,(D6 b c).to,true)))):=by
 rw[D6];split
 .exact .inl q_
 rename_i i;split
 .exact .inl q_
 rw[Yc];split
 .exact .inl q_
 rename_i j;refine .inr ⟨Classical.byContradiction i,Classical.byContradiction j,?_⟩;split
 .rename_i g;exact .inl ⟨rfl,g⟩
 .rename_i g;refine .inr ⟨q_,?_⟩;have g:(Kq (Ak b).1 (Co (Ak b).1 (Cj c).1).1).2.2=true:=kS g;exact Prod.ext q_ (Prod.ext q_ g)
def Alh{b c:List UInt8}(h:(D6 b c).kind≠3):(Cj c).2.2=0:=by
 rw[D6]at h;split at h
 .exact zW q_ h
 split at h
 .exact zW q_ h
 rename_i g;exact Classical.byContradiction g
def Axs{b c:List UInt8}(h:(D6 b c).kind=1):(Ak b).2.2=0/\(Cj c).2.2=0/\(Co (Ak b).1 (Cj c).1).2.2.2=0 /\
  Iso (Ak b).1 (Co (Ak b).1 (Cj c).1).1/\okB (Ak b).1 (Axv (Ak b).1)=true:=by
 rcases Api b c with hp|⟨g,i,hp⟩
 .rw[hp]at h;cases h
 rcases hp with ⟨_,j⟩|⟨k,_⟩
 .obtain ⟨_,B,l⟩:=nB g;exact⟨g,Alh (by rw[h];decide),i,⟨B,(Jv b).2,Aug g,nV i,j⟩,Bc8 B l⟩
 .rw[k]at h;cases h
def Aen{n:Ai}{s:List UInt8}(h:(Cp n s).2.2=0):Ac n=true/\(H5 s).2=0/\(H5 s).1=Dd [] s/\Cp n s=Ma n 0 [] (Dd [] s):=by
 rw[Cp]at h;split at h
 .cases h
 rename_i i;split at h
 .rename_i g;exact zW h g
 rename_i g;have g:(H5 s).2=0:=Classical.byContradiction g;have j:(H5 s).1=Dd [] s:=by
  rw[H5]at g|-;split at g
  .cases g
  rename_i l;rw[zD l];split at g
  .cases g
  rename_i o;rw[zD o]
 refine⟨kS i,g,j,?_⟩;rw[Cp,zD i,zD (λp=>p g),j]
def Bf3(L:List Ex):byX L (Hl [])=[]:=by
 have e:Bd 32 (Hl [])=[Hl []]:=by decide +g
 rw[byX,e];exact zD (λi=>zW i.1 qq)
def watch_run{b c s:List UInt8}(h:(D6 b c).kind=1)(hp:(Cp (Ak b).1 s).2.2=0):Qg (Cj c).1 (Cc 10 [] s)=(Jc (Co (Ak b).1 (Cj c).1).1 (Cp (Ak b).1 s).1).map (Af (Co (Ak b).1 (Cj c).1).1) /\
   (runT (Ak b).1 (Cp (Ak b).1 s).1).2=0/\(Cp (Ak b).1 s).1.length=(Dd [] s).length/\(∀x∈(Cp (Ak b).1 s).1,x.bytes.length<=1600) /\
   ∀x∈(runT (Ak b).1 (Cp (Ak b).1 s).1).1,Am x.ac (Ak b).1.g.length=true/\1<=x.ad/\x.ad<=(Jc (Co (Ak b).1 (Cj c).1).1 (Cp (Ak b).1 s).1).length /\
    Uo (Cj c).1 (Cr (Ak b).1 x.ac)=Af (Co (Ak b).1 (Cj c).1).1 (Af (Jc (Co (Ak b).1 (Cj c).1).1 (Cp (Ak b).1 s).1) (x.ad-1)):=by
 obtain ⟨e1,e2,i,I,P⟩:=Axs h;have j:=Ts b;obtain ⟨l,-,-,o⟩:=Aen hp;have R:=λ{k:Int}=>Aix j l i (k:=k)
 have ha:=Vp I.ow;rw[o]at hp;obtain ⟨m,p,m2,m3,m4⟩:=At2 j l i (Dd [] s) 0 [] hp;rw[xO]at p;rw[o,p];have r:=Ako _ (by rw[A5o I.B I.hu I.bi I.ow I.hl [] m]);have t:=As5 I.ow [] m;rw[show Acm (Ak b).1 []=Vg (Ak b).1 from rfl]at r t;generalize (Co (Ak b).1 (Cj c).1).1=of at *;generalize (Cj c).1=L at *;generalize (Ak b).1=n at *;rw[runT,zE P];refine⟨?_,q_,m2,m4,λx J=>?_⟩
 .rw[Qg,Aq1 _ (Bf3 L),m3]
 .obtain ⟨g,s2,s3⟩:=t x J;rw[ha.1]at g;exact⟨g,s2,s3,by rw[R g];exact(r x J).symm⟩
def Axo{n:Ai}(p:O1 n)(i:Ac n=true){l:List Kt}(j:∀x∈l,0<=x.ad/\Am x.ac n.g.length=true){t:List UInt8}(g:Yh n l=t\/Yh n l=t++[10]):∀r∈Cc 10 [] t,r=Hl []\/∃x∈l,Bd 32 r=[Cr n x.ac,I7 x.ad,dJ x.bytes]:=by
 intro r hm;rw[Yh,zD (by rw[i];decide)]at g;have I:r∈Cc 10 [] (W6 n l):=by
  rcases g with g|g
  .rw[g];exact hm
  .rw[g,Aq0];exact List.mem_append_left _ hm
 rcases A01 _ _ r I with h|h
 .rw[Am5 p i l j]at h;obtain ⟨x,o,rfl⟩:=yT.1 h;exact .inr ⟨x,o,Ay0 p i (j x o).1 (j x o).2⟩
 .exact .inl h
def Ah0(s p:ByteArray)(i:s.size<=9223372036854775807):Sp 13 [Ap s,Ap p] (Ap (Hl (Lib.trimSuffix s.data.toList p.data.toList))) :=
 Spec.of_calls λk w vs hi g _=>by
  simp only[B8]at g;obtain ⟨v,r,rfl,j,u,J,rfl,l,rfl⟩:=g;have o:v=.string s:=by simpa only [Ap,Rd] using j
  have t:u=.string p:=by simpa only [Ap,Rd] using l
  subst o t;exact(Tryz.strings_TrimSuffix s p w i).mono λe w' ⟨I,hw⟩=>⟨I,hw▸RowKit.Below.refl _ _⟩
def Bea(l:List UInt8):l=Lib.trimSuffix l [10]\/l=Lib.trimSuffix l [10]++[10]:=by
 unfold Lib.trimSuffix Lib.hasSuffix;split
 .rename_i h;refine .inr ?_;obtain ⟨t,g⟩:=List.isSuffixOf_iff_suffix.1 h;rw[<-g];simp
 .exact .inl q_
attribute [local irreducible]G DR
set_option maxRecDepth 100000
def Bet{L:List Ex}{w:ByteArray}{j:Nat}(g:j<L.length)(l:Ic (λ_ t=>!(Tc t w)) L j)(h:Tc L[j] w=true):Uo L w=j :=
 Dz g (λi hi o=>kS (l i hi o)) h
def Bes{L:List Ex}{w:ByteArray}{j:Nat}(l:L.length<=j)(g:Ic (λ_ t=>!(Tc t w)) L j):Uo L w=-1 :=
 Ez λi hi=>kS (g i hi j_)
def Ba1{t:Ex}{w:ByteArray}{k:Nat}(i:k<t.av.length)(j:k<t.g.length)(h:((t.av[k]++⟨#[46]⟩++t.g[k])==w)=true):Tc t w=true:=by
 refine wA.2 ⟨(t.av[k],t.g[k]),?_,h⟩;have g:k<(t.av.zip t.g).length:=by rw[List.length_zip];omega
 have e:(t.av.zip t.g)[k]=(t.av[k],t.g[k]):=List.getElem_zip;rw[<-e];exact zI g
def Auk{t:Ex}{w:ByteArray}{k:Nat}(j:t.av.length<=k\/t.g.length<=k)(h:∀(i:Nat) (l:i<t.av.length) (o:i<t.g.length),i<k->((t.av[i]++⟨#[46]⟩++t.g[i])==w)=false):Tc t w=false:=by
 rw[Tc,wE];intro x g;obtain ⟨i,hi,rfl⟩:=wH g;rw[List.length_zip]at hi;rw[List.getElem_zip];have:=h i j_ j_ j_;simpa using this
def A4h(L:List Ex)(hL:L.length<=100000)(ht:∀t∈L,nY t)(w:ByteArray):Sp 12 [.sl 4 He L,Ap w] (Aa (Uo L w)):=cT F12 ntmps12 λF hF=>by
 have J:=λj P o h=>Bet (L:=L) (w:=w) (j:=j) P o h
 have bw:=λj P o=>Bes (L:=L) (w:=w) (j:=j) P o
 generalize Uo L w=a0 at *;refine T ?_;refine Bb L.length (λj=>Ic (λ_ t=>!(Tc t w)) L j) (λj=>[(1,Ap w),(8,.sl 4 He L),(9,Aa L.length),(10,Aa j)]) (λ_=>[]) [] (Bn _ _) U ?_;intro j P o;refine gP ?_ ?_<;>intro h
 .have I:j<L.length:=qA h;have ai:(j:Int).toNat<L.length:=kS I;obtain ⟨t,eo⟩:=kE (L[j]);have e1:L[(j:Int).toNat]'ai=t:=eo;have du:=λh=>Bk (p:=λ_ t=>!(Tc t w)) o I h
  have J:=J j I o;rw[eo]at du J;have az:=ht t (by rw[<-eo];exact zI I);clear h bw ht;refine S ?_;refine⟨q_,by omega,ai,?_⟩;rw[e1];refine T ?_;refine Bi 6 4 (He t) q_ q_ q_ ?_;obtain ⟨trow,R,g,l⟩:=t;have tv:=az.av;have j7:=az.g;dsimp only at tv j7;refine Dc (λk:Nat=>k<=100000/\∀(i:Nat) (h1:i<g.length) (h2:i<l.length),i<k->((g[i]++⟨#[46]⟩++l[i])==w)=false)
   (λk=>[(1,Ap w),(5,Aa j),(6,.ref 4 (He ⟨trow,R,g,l⟩) 0),(7,Aa k),(8,.sl 4 He L),(9,Aa L.length),(10,Aa j)]) (λ_=>[]) (λk=>100001-k) 0 [] ⟨by omega,λi _ _ h=>zW h j_⟩ U ?_
  intro k hk;obtain ⟨dg,cq⟩:=hk;by_cases c1:k<g.length;rotate_left
  .have g1:decide ((k:Int)<(g.length:Int))=false:=zJ j_;have r:=Auk (t:=⟨trow,R,g,l⟩) (w:=w) (k:=k) (.inl (by show g.length<=k;omega)) cq;refine T ?_;refine A6 [] o I (du (by rw[r];rfl)) ?_;exact U
  by_cases c2:k<l.length;rotate_left
  .have g1:decide ((k:Int)<(g.length:Int))=true:=zL j_;have g2:decide ((k:Int)<(l.length:Int))=false:=zJ j_;have r:=Auk (t:=⟨trow,R,g,l⟩) (w:=w) (k:=k) (.inr (by show l.length<=k;omega)) cq;refine T ?_;refine A6 [] o I (du (by rw[r];rfl)) ?_;exact U
  have g1:decide ((k:Int)<(g.length:Int))=true:=zL j_;have g2:decide ((k:Int)<(l.length:Int))=true:=zL j_;have mw:(k:Int).toNat<g.length:=kS c1;have d8:(k:Int).toNat<l.length:=kS c2;have z1:=tv.2 _ (zI mw);have z2:=j7.2 _ (zI d8);have z3:(⟨#[46]⟩:ByteArray).size=1:=rfl;have y1:(g[(k:Int).toNat]'mw).size+(⟨#[46]⟩:ByteArray).size<=9223372036854775807:=by omega
  have y2:(g[(k:Int).toNat]'mw++(⟨#[46]⟩:ByteArray)).size+(l[(k:Int).toNat]'d8).size<=9223372036854775807:=by rw[Ah8];omega
  cases g3:((g[(k:Int).toNat]'mw++⟨#[46]⟩++l[(k:Int).toNat]'d8)==w)
  .refine T ?_;exact A8 (k+1) [] ⟨by omega,λ i h1 h2 hi=>by
    rcases vD i k with h3|h3
    .exact cq i h1 h2 h3
    .have:i=k:=by omega
     subst this;exact g3⟩ j_ U
  .have r:=J (Ba1 (t:=⟨trow,R,g,l⟩) c1 c2 g3);subst r;exact gA
 .have r:=bw j (qB h) o;subst r;exact gA
def Awd(u:Nat):List UInt8:=if u=0 then [] else (Da u).reverse
def A7v{u:Nat}(h:0<u):Awd u=Awd (u/10)++[UInt8.ofNat (48+u%10)]:=by
 rw[Awd,zD j_,Afo,Awd];by_cases c:u<10
 .rw[zE c,zE j_]
 .rw[zD c,zD j_]
def Bfw(m:Nat)(R:0<m)(ug:m<1000000000000000000):Sp 14 [Aa m] (Ap (I7 m)):=cT F14 ntmps14 λF hF=>by
 have i:(Da m).length<=19:=L0 18 m j_;rw[Aca];obtain ⟨D,g⟩:=kE ((Da m).reverse);have j:D.length<=19:=by rw[<-g,tJ];exact i
 rw[g];have p:D=Awd m:=by rw[<-g,Awd,zD j_]
 refine fW ?_;refine Dc (λx:Nat×List UInt8=>D=Awd x.1++x.2/\x.1<=m) (λx=>[(0,Aa x.1),(3,Ap (Hl x.2))]) (λ_=>[]) (λx=>x.1) (m,[]) [] ⟨by rw[yV];exact p,yG _⟩ kU ?_;clear g p;rintro ⟨u,t⟩ ⟨g,r⟩;dsimp only at g r|-;have I:t.length<=19:=by rw[g,zR]at j;omega
 have J:(Hl t).size<=19:=by rw[Dp];exact I
 refine gH ?_ ?_<;>intro h
 .have o:0<u:=qA h;have P:=A7v o;refine fU ?_;refine⟨by decide,?_⟩;refine fW ?_;rw[tmod10 u];refine iL ?_;refine fW ?_;rw[dig8 u];refine Al (Cz Γ.toTy (bs:=[UInt8.ofNat (48+u%10)]) q_ q_ q_ q_ q_ q_ q_ (.lit (e:=Ae) (l:=[UInt8.ofNat (48+u%10)]) q_ q_)) q_ q_ (fU ?_);refine⟨by show 1+(Hl t).size<=_;omega,?_⟩;refine fW ?_;refine⟨by decide,?_⟩;refine fW ?_;rw[tdiv10 u j_];refine A8 (u/10,UInt8.ofNat (48+u%10)::t) [] ⟨by rw[g,P];simp,by dsimp only;omega⟩ (by dsimp only;omega) ⟨⟨q_,q_,zH Ap ?_,q_,z_⟩,z_,q_,q_⟩;exact Ai8 [_] t
 .have o:u=0:=qB h;subst o;rw[Awd,zE rfl,xO]at g;subst g;refine fU ?_;exact E0
def Ajc(b s:List UInt8)(hb:b.length<=1000000)(hs:s.length<100000)(t:(Ak b).2.2=0->(Cp (Ak b).1 s).2.2=0->Adt (Cp (Ak b).1 s).1/\(runT (Ak b).1 (Cp (Ak b).1 s).1).1.length<=100000/\∀x∈(runT (Ak b).1 (Cp (Ak b).1 s).1).1,Axc x):Sq 11 [.sl 1 Ae b,.sl 1 Ae s] [Bj 900,Hg 901] (.tup [.sl 1 Ae (Tp b s).1,Aa (Tp b s).2.1,Aa (Tp b s).2.2.1,Aa (Tp b s).2.2.2]) [Bj 900,Hg 901]:=cT F11 ntmps11 λF hF=>by
 have g:=Tp.eq_1 b s;generalize Tp b s=a0 at *;have I:=(Jv b).1;have cm:=cV (Ts b);have p:=Acg b hb;have J:=Al4 (Ak b).1 I cm s hs;have j:=λh=>(Aaa b h).1
 generalize Ak b=nt at *;obtain ⟨n,xp,ne⟩:=nt;dsimp only at *;by_cases i:ne=0;rotate_left
 .have g1:(ne != 0)=true:=by rw[xF];exact i
  rw[zE i]at g;subst g;refine gD p F18 ?_;exact Ar 4 1 Ae q_ E0
 have g1:(ne != 0)=false:=by rw[i];rfl
 rw[zD (λh=>h i)]at g;have t:=t i;generalize Cp n s=pt at *;obtain ⟨l,u0,P⟩:=pt;dsimp only at *;by_cases o:P=0;rotate_left
 .have g2:(P != 0)=true:=by rw[xF];exact o
  rw[zE o]at g;subst g;refine gD p F18 ?_;refine X (Ad [(900,900),(901,901)] q_ F32 J q_ W q_ V) ?_;exact Ar 4 1 Ae q_ E0
 have g2:(P != 0)=false:=by rw[o];rfl
 rw[zD (λh=>h o)]at g;obtain ⟨R,ji,aq⟩:=t o;have q3:=A2m n I (j i) l R;generalize runT n l=rt at *;obtain ⟨seen,re⟩:=rt;dsimp only at *;by_cases r:re=0;rotate_left
 .have g3:(re != 0)=true:=by rw[xF];exact r
  rw[zE r]at g;subst g;refine gD p F18 ?_;refine X (Ad [(900,900),(901,901)] q_ F32 J q_ W q_ V) ?_;refine C q3 F20 ?_;exact Ar 4 1 Ae q_ E0
 have g3:(re != 0)=false:=by rw[r];rfl
 rw[zD (λh=>h r)]at g;have q4:=Aqo n I cm seen ji aq;generalize Yh n seen=sh at *;subst g;refine gD p F18 ?_;refine X (Ad [(900,900),(901,901)] q_ F32 J q_ W q_ V) ?_;refine gN q3 F20 q4 F33 ?_;exact E0
end
section
def Zg : List UInt8 := "device a 1 00:00:00:00:00:01\nport a p 1 access 10\nport a q 1 access 10".toUTF8.data.toList
def Ahn:Bg:=⟨281474976710655,5,0,[]⟩
def Afk:List B7:=[⟨1,0,0,0,[255,255,255,255,255,255,0,0,0,0,0,5,0,0],[]⟩,⟨2,0,0,0,[],[]⟩]
def A7g:Cf Ahn:=⟨by decide,by decide,by decide,by decide⟩
def putTS:Vc Ahn=[255,255,255,255,255,255,0,0,0,0,0,5,0,0]:=by decide
def okTS:(Ak Zg).2.2=0:=by decide +kernel
def runTS:(runT (Ak Zg).1 Afk).2=0/\((runT (Ak Zg).1 Afk).1.map (·.ac))=[1]:=by decide +kernel
def A9w:Adt Afk:=by
 refine⟨by decide,λx g=>?_⟩;simp only[Afk,yH,xJ,vH]at g;rcases g with rfl|rfl<;>decide
def Avt{P:Program}{o:Oper}{s:SS}{t:TypeId}{x:Operand}{f:Nat}{j:Array Field}{g:Field}{k:EK}{l:List SV}{y:SV}(p:P.underlying t=some (.struct j))(h:o.op=.field t x f)(r:ev s x=.agg l)(I:j[f]? = some g)(J:P.underlying g.type=some k.desc)(R:g.offset=f)(hy:Lr l f=some y):Good P o s ⟨y,[],[]⟩ :=
 Good.pure λb a w _ hr _=>by
  have i:=hr x (by simp[h,Op.operands]);rw[r]at i;simp only[Rd]at i;obtain ⟨cs,e1,_,e2⟩:=i;obtain ⟨v,e3,e4⟩:=e2.getT hy;have hp:=Abu (P:=P) w J cs.toArray e3;refine⟨v,?_,e4⟩;simp[execOp,h,e1,Instr.field,run_underlying p,I,asAgg,R,hp]
attribute [local irreducible]G DR
set_option maxRecDepth 100000
def A4f:Sp 5 [] (Ab true):=cT F5 ntmps5 λF R=>by
 have j:=Acg Zg qq;have g:=Tj Ahn A7g;rw[putTS]at g;have l:=(Jv Zg).1;have i:=okTS;have t:=A2m (Ak Zg).1 l (nB i).2.1.num Afk A9w;obtain ⟨I,J⟩:=runTS;generalize runT (Ak Zg).1 Afk=r at *;generalize Ak Zg=P at *;obtain ⟨n,row,e⟩:=P;obtain ⟨s,e'⟩:=r;dsimp only at *;subst i I;obtain ⟨o,b,rfl⟩:∃o b,s=[⟨1,o,b⟩]:=by
  match s,J with
  |[⟨p,o,b⟩],h=>simp only[List.map,List.cons.injEq,and_true]at h;exact⟨o,b,by rw[h]⟩
 refine T ?_;refine X (Acz Γ.toTy q_ q_ q_ q_ q_ q_ q_) ?_;refine Wu 9 Ae Zg q_ q_ ?_;refine Ao 9 q_ (C j F18 ?_);refine G_vw 16 (Ek Ahn) (.agg vL) ?_;refine X (Ad [(0,17)] q_ F19 g q_ z_ q_ ⟨.inr q_,z_⟩) ?_;refine Ao 17 q_ (T ?_);refine A2c 25 (Afk.map Dm) q_ (.cons (.agg vL) (.cons (.agg vL) .nil)) q_ (Wu 25 Dm Afk q_ q_ ?_);refine Ao 25 q_ (C t F20 ?_);refine⟨Nat.zero_lt_one,?_⟩;exact gA
end
section
def Aza{n:Ai}{r:Vl}(h:r.kind=1):To n r=[105,115,111,108,97,116,101,100,10]:=by
 rw[To,T4,zE h,zD j_];decide +kernel
def A0n(x:ByteArray)(l:List ByteArray)(s:ByteArray):∃t,(Hs (x::l) s).data.toList=x.data.toList++t:=by
 have e:(Hs (x::l) s).data.toList=Lib.join (x.data.toList::l.map (λy=>y.data.toList)) s.data.toList:=by
  simp only[Hs,xR]
 rw[e,Lib.join_cons];exact⟨_,q_⟩
def Ay9{n:Ai}{r:Vl}(h:r.kind≠1):To n r≠[105,115,111,108,97,116,101,100,10]:=by
 have key:∀(x:ByteArray) (l:List ByteArray) (t:List UInt8) (c:UInt8) (y:List UInt8),x.data.toList=c::y->c≠105->(Hs (x::l) ⟨#[32]⟩).data.toList++[10]++t≠[105,115,111,108,97,116,101,100,10]:=by
  intro x l t c y g i e;obtain ⟨u,j⟩:=A0n x l ⟨#[32]⟩;rw[j,g]at e;exact i (List.cons.inj e).1
 rw[To,T4,zD h];split
 .exact key A8q _ _ 108 _ q_ qq
 split
 .exact key Apf _ _ 114 _ q_ qq
 .exact key A8p _ _ 45 _ q_ qq
def dY(L:List Ex)(g:List Int)(w0 j:ByteArray)(k:Nat):Bool:=(List.range k).any λi=>(I7 ((i:Int)+1)==j)&&(Uo L w0==Af g i)
def A05(L:List Ex)(g:List Int)(w0 i:ByteArray)(k:Nat):dY L g w0 i (k+1)=(dY L g w0 i k||((I7 ((k:Int)+1)==i)&&(Uo L w0==Af g k))):=by
 rw[dY,dY,wW,List.any_append,tZ,List.any_nil,Bool.or_false]
def A7h{L:List Ex}{g:List Int}{w0:ByteArray}{o:Int}(i:1<=o)(j:o<=g.length)(h:Uo L w0=Af g (o-1)):dY L g w0 (I7 o) g.length=true:=by
 refine wA.2 ⟨(o-1).toNat,xD.2 j_,?_⟩;have e:(((o-1).toNat:Nat):Int)=o-1:=yQ j_;rw[e,show o-1+1=o by omega,h,(So _ _).2 rfl,yB,beq_self_eq_true]
def byX_at{L:List Ex}{r w0:ByteArray}{W:List ByteArray}(g:Bd 32 r=W)(i:Af W 0=w0):byX L r=if w0=Hv/\W.length=3/\0<=Uo L (Af W 1) then [Uo L (Af W 1)] else []:=by
 rw[byX,g,i]
def Awp(L:List Ex)(R:List ByteArray){j:Nat}(h:j<R.length):Qg L (R.take (j+1))=Qg L (R.take j)++byX L R[j]:=by
 rw[Qg,Qg,zZ h,List.flatMap_append,xZ,List.flatMap_nil,yV]
def Bf4(L:List Ex)(r:ByteArray):(byX L r).length<=1:=by
 rw[byX];split<;>simp
def Akx(L:List Ex):∀R:List ByteArray,(Qg L R).length<=R.length
 |[]=>by simp[Qg]
 |r::R=>by
  have i:=Bf4 L r;have g:=Akx L R;rw[Qg,xZ,zR,yI];rw[Qg]at g;omega
def A40(c:UInt8)(s:ByteArray):0<(Bd c s).length:=by rw[Ly];omega
def Ay1{n:Ai}(s:List UInt8):(Cp n s).2.1<=(Cc 10 [] s).length:=by
 have i:(0:Int)<=(Cc 10 [] s).length:=by omega
 rw[Cp];split
 .exact i
 split
 .exact i
 .rename_i h;have g:(H5 s).2=0:=Classical.byContradiction h;have j:(H5 s).1=Dd [] s:=by
   rw[H5]at g|-;split at g
   .cases g
   rename_i l;rw[zD l];split at g
   .cases g
   rename_i o;rw[zD o]
  have:=Ane (n:=n) (H5 s).1 0 [];rw[j]at this|-;have p:=Aq2 s [];omega
def oQ(d:UInt8):∀(l g:List UInt8),(Cc d g l).length<=l.length+1
 |[],g=>by rw[Cc];simp
 |c::r,g=>by
  rw[Cc];split
  .have:=oQ d r [];simp only[yI];omega
  .have:=oQ d r (g++[c]);rw[yI];omega
def Abl(d:UInt8)(s:ByteArray):(∀w∈Bd d s,w.size<=s.size)/\(Bd d s).length<=s.size+1:=by
 refine⟨Abm d s,?_⟩;rw[Vn];have e:s.data.toList.length=s.size:=rfl;have:=oQ d s.data.toList [];omega
attribute [local irreducible]G DR
set_option maxRecDepth 100000
def A4g(b c s:List UInt8)(az:s.length<=1048576):Sq 3 [.sl 1 Ae b,.sl 1 Ae c,.sl 1 Ae s] [Bj 900,Hg 901] (Ab true) [Bj 900,Hg 901]:=cT F3 ntmps3 λF hF=>by
 have qw:=A4f;have a9:(⟨s.toArray⟩:ByteArray).size=s.length:=by simp[ByteArray.size]
 have qs:=Ah7 ⟨s.toArray⟩ 10 (by rw[a9];omega);have hR:Bd 10 (⟨s.toArray⟩:ByteArray)=Cc 10 [] s:=by rw[Vn]
 have a5:=Abl 10 (⟨s.toArray⟩:ByteArray);rw[a9]at a5;rw[hR]at qs a5;have yo:=Ay1 (n:=(Ak b).1) s;have xq:=@watch_run b c s;obtain ⟨R,af⟩:=kE (Cc 10 [] s);have tw:=Aq2 s [];rw[af]at qs a5 yo xq tw;by_cases b0:3000<b.length
 .have f0:decide ((b.length:Int)>3000)=true:=zL j_;refine gD qw F5 ?_;refine X (Cz Γ.toTy (bs:=s) q_ q_ q_ q_ q_ q_ q_ .sl) ?_;refine C qs F6 ?_;exact E0
 have f0:decide ((b.length:Int)>3000)=false:=zJ j_;by_cases c0:3000<c.length
 .have f1:decide ((c.length:Int)>3000)=true:=zL j_;refine gD qw F5 ?_;refine X (Cz Γ.toTy (bs:=s) q_ q_ q_ q_ q_ q_ q_ .sl) ?_;refine C qs F6 ?_;exact E0
 have f1:decide ((c.length:Int)>3000)=false:=zJ j_;by_cases s0:3000<s.length
 .have f2:decide ((s.length:Int)>3000)=true:=zL j_;refine gD qw F5 ?_;refine X (Cz Γ.toTy (bs:=s) q_ q_ q_ q_ q_ q_ q_ .sl) ?_;refine C qs F6 ?_;exact E0
 have f2:decide ((s.length:Int)>3000)=false:=zJ j_;by_cases r0:60<R.length
 .have f3:decide ((R.length:Int)>60)=true:=zL j_;refine gD qw F5 ?_;refine X (Cz Γ.toTy (bs:=s) q_ q_ q_ q_ q_ q_ q_ .sl) ?_;refine C qs F6 ?_;exact E0
 have f3:decide ((R.length:Int)>60)=false:=zJ j_;have qg:=Bcb Au [] [];rw[show Acv Au [] []=false by decide]at qg;have qc:=Al5 b c j_ j_;have q0:=A2e b c j_ j_;have q1:=Afu c j_;have hv:=@Axs b c;have mg:=(Anb c)
 have hk:=Ts b;have sr:(D6 b c).kind=1->(Cp (Ak b).1 s).2.2=0->Adt (Cp (Ak b).1 s).1/\(runT (Ak b).1 (Cp (Ak b).1 s).1).1.length<=2460/\∀x∈(runT (Ak b).1 (Cp (Ak b).1 s).1).1,Axc x:=λh1 h2=>by
  obtain ⟨-,-,h4,h5,h6⟩:=xq h1 h2;obtain ⟨e1,-,-,I,aq⟩:=hv h1;have hr:=(Aen h2).1;have hp:=(Ac8 hr).2.1;have hl:(Cp (Ak b).1 s).1.length<=60:=by omega
  have an:(runT (Ak b).1 (Cp (Ak b).1 s).1).1=(Ja (Ak b).1 (Vg (Ak b).1) (Cp (Ak b).1 s).1).2:=by rw[runT,zE aq]
  have ao:=Aid (Ak b).1 (Cp (Ak b).1 s).1 (Vg (Ak b).1);have hm:(Cp (Ak b).1 s).1.length*((Ak b).1.g.length+1)<=60*41:=Nat.mul_le_mul hl j_;have kr:=Am7 (Jv b).1 I.B.num (Cp (Ak b).1 s).1 (Ahj (Ak b).1) (wB _) (wB _);refine⟨⟨by omega,λx g=>by have:=h5 x g;omega⟩,by rw[an];omega,λx g=>?_⟩;have h7:=h6 x g;rw[an]at g;have bd:(Jc (Co (Ak b).1 (Cj c).1).1 (Cp (Ak b).1 s).1).length<=(Cp (Ak b).1 s).1.length:=by
   rw[Jc,yS];exact uW _ _
  exact⟨by unfold L6;omega,by have:=kr x g;omega⟩
 by_cases k1:(D6 b c).kind=1;rotate_left
 .have ag:=Ay9 (n:=(Ak b).1) k1;generalize To (Ak b).1 (D6 b c)=a7 at *;have g4:(!((⟨a7.toArray⟩:ByteArray) == ⟨#[105,115,111,108,97,116,101,100,10]⟩))=true:=by
   cases hh:((⟨a7.toArray⟩:ByteArray) == ⟨#[105,115,111,108,97,116,101,100,10]⟩)
   .rfl
   .exact zW (zH (λx:ByteArray=>x.data.toList) ((So _ _).1 hh)) (kS ag)
  have g5:((D6 b c).kind != 1)=true:=by rw[xF];exact k1
  generalize D6 b c=r at *;obtain ⟨rk,au,rr,re,rf,rt,rs⟩:=r;dsimp only at g5;refine gD qw F5 ?_;refine X (Cz Γ.toTy (bs:=s) q_ q_ q_ q_ q_ q_ q_ .sl) ?_;refine C qs F6 ?_;refine X (Aak [] [] q_ F7 qg (.cons (.agg vL) (.cons .nil (.cons .nil .nil))) z_ q_ z_ q_) ?_;refine X (Ad [(900,900)] q_ F8 qc q_ W q_ V) ?_;refine X (Cz Γ.toTy (bs:=a7) q_ q_ q_ q_ q_ q_ q_ .sl) ?_;refine C q0 F9 ?_;refine X (Avt Tryz.underlying41 q_ q_ q_ (k:=.int .i64) Tryz.underlying3 q_ q_) ?_;exact Bct q_ As (zH Ab g5.symm) q_ U
 have a6:=Aza (n:=(Ak b).1) k1;rw[a6]at qc;obtain ⟨e1,e2,-,-,-⟩:=hv k1;have xq:=xq k1;have gn:=sr k1;have q2:=Ajc b s j_ j_ (λ_ h=>⟨(gn h).1,by have:=(gn h).2.1;omega,(gn h).2.2⟩);have g4:(!((⟨([105,115,111,108,97,116,101,100,10]:List UInt8).toArray⟩:ByteArray) == ⟨#[105,115,111,108,97,116,101,100,10]⟩))=false:=by decide +ae
 clear sr hv a6 q0;by_cases k2:(Cp (Ak b).1 s).2.2=0;rotate_left
 .have p8:Tp b s=([],2,(Cp (Ak b).1 s).2.1,(Cp (Ak b).1 s).2.2):=by rw[Tp,zD (λh=>h e1),zE k2]
  rw[p8]at q2;clear xq gn p8;generalize Cp (Ak b).1 s=pt at *;obtain ⟨pl,u0,pe⟩:=pt;generalize Cj c=po at *;obtain ⟨L,aa,le⟩:=po;dsimp only at *;subst e2;have g5:(pe != 0)=true:=by rw[xF];exact k2
  have g6:decide (u0<=(R.length:Int))=true:=zL yo;refine gD qw F5 ?_;refine X (Cz Γ.toTy (bs:=s) q_ q_ q_ q_ q_ q_ q_ .sl) ?_;refine C qs F6 ?_;refine X (Aak [] [] q_ F7 qg (.cons (.agg vL) (.cons .nil (.cons .nil .nil))) z_ q_ z_ q_) ?_;refine X (Ad [(900,900)] q_ F8 qc q_ W q_ V) ?_;refine X (Cz Γ.toTy (bs:=[105,115,111,108,97,116,101,100,10]) q_ q_ q_ q_ q_ q_ q_ .sl) ?_;refine C q1 F10 ?_;refine X (Ad [(900,900),(901,901)] q_ F11 q2 q_ W q_ V) ?_;exact Bct q_ As (zH Ab g6.symm) q_ U
 obtain ⟨h1,h2,h3,h4,h5⟩:=xq k2;obtain ⟨ah,hl,ma⟩:=gn k2;have p8:Tp b s=(Yh (Ak b).1 (runT (Ak b).1 (Cp (Ak b).1 s).1).1,0,0,0):=by rw[Tp,zD (λh=>h e1),zD (λh=>h k2),zD (λh=>h h2)]
 rw[p8]at q2;have hr:=(Aen k2).1;have hw:=Axo hk hr (l:=(runT (Ak b).1 (Cp (Ak b).1 s).1).1) (λx g=>⟨by have:=(h5 x g).2.1;omega,(h5 x g).1⟩) (Bea _);have ed:∀r∈Cc 10 [] (Lib.trimSuffix (Yh (Ak b).1 (runT (Ak b).1 (Cp (Ak b).1 s).1).1) [10]),r=Hl []\/∃w0 w1 w2,Bd 32 r=[w0,w1,w2]/\dY (Cj c).1 (Qg (Cj c).1 R) w0 w1 (Qg (Cj c).1 R).length=true:=λr hm=>by
  rcases hw r hm with h|⟨x,g,hs⟩
  .exact .inl h
  .obtain ⟨-,a2,a3,a4⟩:=h5 x g;refine .inr ⟨_,_,_,hs,A7h a2 ?_ ?_⟩
   .rw[h1,yS];exact a3
   .rw[h1,a4];have hi:(x.ad-1).toNat<(Jc (Co (Ak b).1 (Cj c).1).1 (Cp (Ak b).1 s).1).length:=by omega
    rw[Aj (l:=List.map _ _) (by rw[yS];exact hi),tO,Aj hi]
 have ar:(Yh (Ak b).1 (runT (Ak b).1 (Cp (Ak b).1 s).1).1).length<1000000000:=by
  rw[Yh,zD (by rw[hr];decide)];have:=As2 hr (cV hk) _ ma;omega
 clear h1 h2 h3 h4 h5 hw ma hl ah xq gn p8 hr hk yo k2 tw e1;generalize Yh (Ak b).1 (runT (Ak b).1 (Cp (Ak b).1 s).1).1=sh at *;have nz:(Lib.trimSuffix sh [10]).length<=sh.length:=by
  unfold Lib.trimSuffix;split
  .rw[zY];omega
  .omega
 have qt:=Ah0 ⟨sh.toArray⟩ ⟨#[10]⟩ (by show sh.toArray.size<=_;simp;omega);have et:(⟨sh.toArray⟩:ByteArray).data.toList=sh:=by simp
 have ak:(⟨#[10]⟩:ByteArray).data.toList=[10]:=rfl;rw[et,ak]at qt;generalize Lib.trimSuffix sh [10]=tl at *;have ac:=Ah7 (Hl tl) 10 (by rw[Dp];omega);have hT:Bd 10 (Hl tl)=Cc 10 [] tl:=by rw[Vn,Jy]
 have a8:=Abl 10 (Hl tl);rw[Dp]at a8;rw[hT]at ac a8;generalize Cc 10 [] tl=T2 at *;generalize Cj c=po at *;obtain ⟨L,aa,le⟩:=po;dsimp only at *;subst e2;have qo:=A4h L j_ mg.1;have ad:=Akx L;have al:=λj h=>Awp L R (j:=j) h
 have jt:=ad R;refine gD qw F5 ?_;refine X (Cz Γ.toTy (bs:=s) q_ q_ q_ q_ q_ q_ q_ .sl) ?_;refine C qs F6 ?_;refine X (Aak [] [] q_ F7 qg (.cons (.agg vL) (.cons .nil (.cons .nil .nil))) z_ q_ z_ q_) ?_;refine X (Ad [(900,900)] q_ F8 qc q_ W q_ V) ?_;refine X (Cz Γ.toTy (bs:=[105,115,111,108,97,116,101,100,10]) q_ q_ q_ q_ q_ q_ q_ .sl) ?_;refine C q1 F10 ?_;refine X (Ad [(900,900),(901,901)] q_ F11 q2 q_ W q_ V) ?_;refine Ct 15 1000 1 Aa q_ q_ ?_;refine Bl R.length (λj=>[(7,.sl 1 Ap R),(8,.sl 4 He L),(11,.sl 1 Ae sh),(15,.osl 1000),(94,.sl 1 Ap R),(95,Aa R.length),(96,Aa j)]) (λj=>[Bj 900,Hg 901,(1000,.row 1 Aa (Qg L (R.take j)))]) [] U ?_;intro j hj;refine gP ?_ ?_<;>intro h
 .have p:j<R.length:=qA h;have ai:(j:Int).toNat<R.length:=kS p;obtain ⟨r,eo⟩:=kE (R[j]);have er:R[(j:Int).toNat]'ai=r:=eo;have vq:=a5.1 r (by rw[<-eo];exact zI p);have hs:=al j p;rw[eo]at hs;have ji:=ad (R.take j);rw[zY]at ji;have q5:=Ah7 r 32 j_;have hp:=A40 32 r;obtain ⟨Wd,a0⟩:=kE (Bd 32 r);rw[a0]at q5 hp;have t:(0:Int).toNat<Wd.length:=hp;have g:=byX_at (L:=L) a0 (Aj t);generalize Qg L (R.take j)=J at *;clear h;refine S ?_;refine⟨q_,by omega,ai,?_⟩;rw[er];by_cases c1:Wd[(0:Int).toNat]'t=Hv;rotate_left
  .have g6:(Wd[(0:Int).toNat]'t==(⟨#[105,110,106,101,99,116]⟩:ByteArray))=false:=by
    cases hh:(Wd[(0:Int).toNat]'t==(⟨#[105,110,106,101,99,116]⟩:ByteArray))
    .rfl
    .exact zW ((So _ _).1 hh) c1
   rw[zD (λh=>c1 h.1)]at g;rw[g,yV]at hs;refine gD q5 F6 ?_;refine A9 [] p ?_;rw[hs];exact U
  have g6:(Wd[(0:Int).toNat]'t==(⟨#[105,110,106,101,99,116]⟩:ByteArray))=true:=(So _ _).2 c1;by_cases c2:Wd.length=3;rotate_left
  .have g7:((Wd.length:Int)==3)=false:=by rw[zU];omega
   rw[zD (λh=>c2 h.2.1)]at g;rw[g,yV]at hs;refine gD q5 F6 ?_;refine A9 [] p ?_;rw[hs];exact U
  have g7:((Wd.length:Int)==3)=true:=by rw[yL];omega
  have P:(1:Int).toNat<Wd.length:=by rw[c2];decide
  rw[Aj P]at g;have q6:=qo (Wd[(1:Int).toNat]'P);by_cases c3:0<=Uo L (Wd[(1:Int).toNat]'P);rotate_left
  .rw[zD (λh=>c3 h.2.2)]at g;rw[g,yV]at hs;generalize Uo L (Wd[(1:Int).toNat]'P)=o at *;have g8:decide (o>=0)=false:=zJ j_;refine gB q5 F6 q6 F12 ?_;refine A9 [] p ?_;rw[hs];exact U
  rw[zE ⟨c1,c2,c3⟩]at g;rw[g]at hs;generalize Uo L (Wd[(1:Int).toNat]'P)=o at *;have g8:decide (o>=0)=true:=zL j_;refine gB q5 F6 q6 F12 ?_;refine C q6 F12 ?_;refine X (Ah Γ.toTy 126 rfl rfl rfl rfl rfl (.row rfl) (.lit (e:=Aa) (l:=[o]) rfl rfl) (λj hj=>by cases hj;decide) kO kO) ?_;refine A9 [(1000,126)] p ?_;rw[hs];exact U
 have bu:j=R.length:=qB h;subst bu;rw[yM];generalize Qg L R=J at *;refine Ao 1000 q_ (T ?_);refine X (Cz Γ.toTy (bs:=sh) q_ q_ q_ q_ q_ q_ q_ .sl) ?_;refine gN qt F13 ac F6 ?_;refine Bl T2.length (λi=>[(8,.sl 4 He L),(15,.sl 1 Aa J),(131,.sl 1 Ap T2),(132,Aa T2.length),(133,Aa i)]) (λ_=>[Bj 900,Hg 901]) [] U ?_;intro i hi;refine gP ?_ ?_<;>intro h
 rotate_left
 .refine T ?_;exact E0
 have p:i<T2.length:=qA h;have dq:(i:Int).toNat<T2.length:=kS p;obtain ⟨r,eo⟩:=kE (T2[i]);have er:T2[(i:Int).toNat]'dq=r:=eo;have gw:r∈T2:=by rw[<-eo];exact zI p
 have vq:=a8.1 r gw;have yg:=ed r gw;have q5:=Ah7 r 32 j_;clear h;refine S ?_;refine⟨q_,by omega,dq,?_⟩;rw[er];by_cases c1:r=⟨#[]⟩
 .have g6:(r==(⟨#[]⟩:ByteArray))=true:=(So _ _).2 c1;refine gD q5 F6 ?_;exact A9 [] p U
 have g6:(r==(⟨#[]⟩:ByteArray))=false:=by
  cases hh:(r==(⟨#[]⟩:ByteArray))
  .rfl
  .exact zW ((So _ _).1 hh) c1
 obtain ⟨w0,w1,w2,a1,j9⟩:=yg.resolve_left c1;obtain ⟨Wd,a0⟩:=kE (Bd 32 r);rw[a0]at q5 a1;have jq:Wd.length=3:=by rw[a1];rfl
 have t:(0:Int).toNat<Wd.length:=by rw[jq];decide
 have P:(1:Int).toNat<Wd.length:=by rw[jq];decide
 have e0:Wd[(0:Int).toNat]'t=w0:=List.getElem_of_eq a1 t;have e1:Wd[(1:Int).toNat]'P=w1:=List.getElem_of_eq a1 P;rw[<-e0,<-e1]at j9;clear a1 e0 e1 yg a0;have q6:=qo (Wd[(0:Int).toNat]'t);have gl:((Wd.length:Int)==3)=true:=by rw[jq];rfl
 refine gD q5 F6 ?_;refine Bl J.length (λk=>[(8,.sl 4 He L),(15,.sl 1 Aa J),(21,.sl 1 Ap Wd),(22,Ab (dY L J (Wd[(0:Int).toNat]'t) (Wd[(1:Int).toNat]'P) k)),(131,.sl 1 Ap T2),(132,Aa T2.length),(133,Aa i),(141,.sl 1 Aa J),(142,Aa J.length),(143,Aa k)]) (λ_=>[Bj 900,Hg 901]) [] U ?_;intro k hk;refine gP ?_ ?_<;>intro h
 .have aj:k<J.length:=qA h;have bh:(k:Int).toNat<J.length:=kS aj;have kw:=A05 L J (Wd[(0:Int).toNat]'t) (Wd[(1:Int).toNat]'P) k;rw[Aj (i:=(k:Int)) bh]at kw;have q7:=Bfw (k+1) j_ j_;rw[Int.natCast_succ]at q7;generalize dY L J (Wd[(0:Int).toNat]'t) (Wd[(1:Int).toNat]'P) k=fk at *;clear h;refine S ?_;refine⟨q_,by omega,bh,?_⟩;cases fk with
  |true=>
   rw[wT]at kw;refine T ?_;refine A9 [] aj ?_;rw[kw];exact U
  |false=>
   rw[vI]at kw;cases g7:(I7 ((k:Int)+1)==(Wd[(1:Int).toNat]'P))
   .rw[g7,yE]at kw;refine gD q7 F14 ?_;refine A9 [] aj ?_;rw[kw];exact U
   .rw[g7,yB]at kw;refine gB q7 F14 q6 F12 ?_;refine A9 [] aj ?_;rw[kw];exact U
 .have uu:k=J.length:=qB h;subst uu;rw[j9];refine T ?_;exact A9 [] p U
end
end Go.Sy.Zaa
namespace Go.Sy
open Go.ChangeShapes Go.WideShapes Go.ChangeAt Go.RowKit
def Ava{P:Program}{w:World}:∀{j:List (String×DataW Unit)} {ps:List MemPlace},DataW.LaidVars P w j ps->∀{n:String} {d:DataW Unit},(n,d)∈j ->
  ∃g t cs i p,P.globalNamed n=some g/\(P.globals[g]?).map (·.type)=some t/\w.var? P n=some cs/\DataW.trod (λ_=>()) P w 0 (λ_=>true) false i t cs.toList=some (d,p)
 |[],_,_,_,_,h=>by cases h
 |(n,d)::r,ps,⟨g,t,cs,i,p,q,l,o,I,J,R,_⟩,m,d',h=>by
  rcases yH.1 h with h|h
  .cases h;exact⟨g,t,cs,i,p,l,o,I,J⟩
  .exact Ava R h
def An9{P:Program}{W:World}{i:List (String×DataW Unit)}(h:laidMetH P i W)(hp:(i.all λx=>x.2.handleName?.isNone)=true){b:Type}(f:b->DataW Unit)(val:b->Value){n:String}{l:List b}(hx:(n,.agg (l.map f))∈i)(hl:l≠[]){g:Nat}{t et:TypeId}(hg:P.globalNamed n=some g)(ht:(P.globals[g]?).map (·.type)=some t)(hu:P.underlying t=some (.array l.length et))(J:P.cellsOf et=1)(hT:∀(a:b) (o:Nat) (cs:List Value) (x:DataW Unit×List MemPlace),DataW.trod (λ_=>()) P W 0 (λ_=>true) false o et cs=some x->x.1=f a->cs=[val a])(hv:∀a,(val a).oneCell'=true)(k:Nat):B3 k0 W k (.glob l.length (.agg ((l.map val).map .val)) g):=by
 rw[MakeChecks.laidMetH_plain _ _ _ hp]at h;obtain ⟨ps,R,_,_⟩:=h;obtain ⟨g',t',cs,o,p,o9,a0,a1,hd⟩:=Ava R hx;obtain rfl:=Option.some.inj (hg.symm.trans o9);obtain rfl:=Option.some.inj (ht.symm.trans a0);obtain ⟨xs,m,_,ex,gu,a3,a2⟩:=DataW.trod_array hu hd;have e3:xs.map (·.1)=l.map f:=(DataW.agg.inj (Prod.mk.inj ex).1).symm;have d7:∀j,j<l.length->W.cell? ⟨g,j,none⟩=(l.map val)[j]?:=λj r=>by
  have hE:=a2 j r;rw[J,tD,zT j_]at hE;have e4:(xs.map (·.1))[j]? = (l.map f)[j]?:=by rw[e3]
  rw[wX,wX,zT (by omega:j<xs.length),zT r]at e4;simp only[vO,Option.some.injEq]at e4;have e5:=hT l[j] m _ _ hE e4;rw[World.var?_cell hg a1 j];have I:((cs.toList.drop j).take 1)[0]? = some (val l[j]):=by rw[e5];rfl
  rw[wX,zT r];simpa using I
 have gi:=xP.2 hl;have I:=d7 0 gi;rw[zT (by rw[yS];exact gi)]at I;have tw:g<W.heap.size:=World.block_lt_of_cell? W ⟨g,0,none⟩ I;have:=Bfl (W:=W) (k:=k) (g:=g) (l.map val) (λ c J=>by
  obtain ⟨a,_,rfl⟩:=yT.1 J;exact hv a) tw (λ j r=>d7 j (by rw[yS]at r;exact r))
 rw[yS]at this;exact this
def App{P:Program}{W:World}{et:TypeId}{k:IntKind}(j:P.underlying et=some (.int k))(a:Int)(g:Nat)(cs:List Value)(x:DataW Unit×List MemPlace)(h:DataW.trod (λ_=>()) P W 0 (λ_=>true) false g et cs=some x)(i:x.1=.lit (.int k a)):cs=[.int k a]:=by
 obtain ⟨n,l,o,_⟩:=DataW.trod_int j h;rw[o]at i;simp only[DataW.lit.injEq,Lit.int.injEq,true_and]at i;rw[l,i]
def Apo{P:Program}{W:World}{et:TypeId}(j:P.underlying et=some .string)(a:List UInt8)(g:Nat)(cs:List Value)(x:DataW Unit×List MemPlace)(h:DataW.trod (λ_=>()) P W 0 (λ_=>true) false g et cs=some x)(i:x.1=.lit (.string a)):cs=[.string ⟨a.toArray⟩]:=by
 obtain ⟨s,l,o,_⟩:=DataW.trod_string j h;rw[o]at i;simp only[DataW.lit.injEq,Lit.string.injEq]at i;rw[l,<-i]
end Go.Sy
namespace Go.Sy.Zaa
open Go.Proofs Go.ChangeShapes Go.WideShapes Go.ChangeAt Go.RowKit Go.Proofs.YtedbfemmehbeoaaGreatDoor
def Bc7{H:Type}(d:DataW H):1<=Rows.uptoBulk d:=by
 cases d with
 |lit l=>cases l<;>simp[Rows.uptoBulk]
 |_=>simp[Rows.uptoBulk]
def Awq{H:Type}{d:DataW H}:∀{l:List (DataW H)},d∈l->Rows.uptoBulk d<=Rows.uptoBulkAll l
 |x::r,h=>by
  simp only[Rows.uptoBulkAll];rcases yH.1 h with e|e
  .subst e;omega
  .have:=Awq e;omega
def Ao0{H:Type}:∀l:List (DataW H),l.length<=Rows.uptoBulkAll l
 |[]=>by simp[Rows.uptoBulkAll]
 |x::r=>by
  have g:=Bc7 x;have i:=Ao0 r;simp only[Rows.uptoBulkAll,yI];omega
def A1v{H:Type}(e r:List (DataW H)):e.length<=Rows.uptoBulk (.slice e r):=by
 have:=Ao0 e;simp only[Rows.uptoBulk];omega
set_option maxRecDepth 100000 in
def Bem{H:Type}{I:TypeId×Value->H}{W:World}{t et:TypeId}{k:Type}{e:k->SV}{sz base:Nat}{v:Value}{d:DataW H}{ps:List MemPlace}{l:List k}(i:Tryz.prog.underlying t=some (.slice et))(J:Value.okWide Tryz.prog W .any base t v)(P:DataW.Trod I Tryz.prog W 0 (λ_=>true) true t v d ps)(j:Rd k0 W (.sl sz e l) v):l.length<=Rows.uptoBulk d:=by
 obtain ⟨a,len,cap,rfl⟩:=okWide_slice i J;obtain ⟨o,R⟩:=P;simp only[Rd,D3]at j;rcases j with ⟨rfl,-⟩|⟨b,off,c,hv,-⟩
 .exact xV _
 have e1:Value.cells (.slice a len cap)=#[.slice a len cap]:=by simp[Value.cells]
 obtain ⟨rfl,rfl,rfl⟩:a=some ⟨b,off,none⟩/\len=l.length/\cap=c:=kS hv;rcases DataW.trod_slice i R with ⟨h,-⟩|⟨a',g,dy,p,r,n,-,h,hx,-,-,-,hl,-⟩
 .simp[Value.cells]at h
 .have h2:l.length=g:=by
   have:=h;simp[Value.cells]at this;exact this.2.1
  have h3:d=.slice (p.map (·.1)) (r.map (·.1)):=(zH Prod.fst hx)
  rw[h3];have:=A1v (p.map (·.1)) (r.map (·.1));rw[yS]at this;omega
def A1w{H:Type}{l:List (DataW H)}(g:Rows.uptoSmall H l=true):Rows.uptoBulkAll l<=1048576:=by
 simpa [Rows.uptoSmall] using g
end Go.Sy.Zaa
namespace Go.Proofs.YtedbfemmehbeoaaGreatDoor
def any_no{k:Type}{p:k->Bool}{a:Array k}(h:a.any p=false)(i:Nat):(a[i]?).any p=false:=by
 cases g:a[i]? with
 |none=>rfl
 |some x=>
  rw[Array.any_eq_false]at h;obtain ⟨hi,rfl⟩:=wQ.1 g;show p a[i]=false;simpa using h i hi
def A3k{P:Program}(h:P.funcs.any Func.goes=false)(f:FuncId):P.goes f=false:=by
 rw[Program.goes,h,wR,Bool.or_false,wE];intro g _;rw[any_no h g];decide
def A7b{P:Program}(h:P.funcs.any Func.goes=false)(c:OpenClaim):false=c.goesBy P:=by
 unfold OpenClaim.goesBy Program.goesAt Program.goesFrom;have g:(P.funcNamed c.func).any P.goes=false:=by
  cases P.funcNamed c.func with
  |none=>rfl
  |some f=>exact A3k h f
 rw[g,vI];split
 .rfl
 .symm;rw[wE];intro f _;rw[A3k h f];decide
set_option maxRecDepth 100000 in
def A6a:Tryz.pinned.checked.prog.funcs.any Func.goes=false:=by kernel_rfl
end Go.Proofs.YtedbfemmehbeoaaGreatDoor
