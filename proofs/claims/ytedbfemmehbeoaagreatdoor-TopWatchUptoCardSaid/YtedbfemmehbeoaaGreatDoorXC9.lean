/- Parts of a proof. -/
import Derived.Test.YtedbfemmehbeoaaGreatDoorXC5
set_option maxHeartbeats 4000000
set_option linter.all false
namespace Go.Sy.Zaa
open Go.Proofs Go.Proofs.Tryz
attribute [local irreducible]G DR
set_option maxRecDepth 20000
structure Item where
 (root aj q:Int)
instance:Inhabited Item:=⟨⟨0,0,0⟩⟩
def C3(x:Item):SV:=.agg [Aa x.root,Aa x.aj,Aa x.q]
def Dr(x y:Item):Bool:=decide (x.root<y.root)||(x.root==y.root&&decide (x.aj<y.aj))
def Ael(q:List Item):Sp 306 [.sl 3 C3 q] (Aa q.length):=cT F306 ntmps306 λF g=>by
 conv=>whnf
 exact dN
def V4(q:List Item)(i j:Nat)(hi:i<q.length)(l:j<q.length):Sp 459 [.sl 3 C3 q,Aa i,Aa j] (Ab (Dr q[i] q[j])):=cT F459 ntmps459 λF g=>by
 have o:q[(i:Int).toNat]'j_=q[i]:=rfl;have p:q[(j:Int).toNat]'j_=q[j]:=rfl
 conv=>whnf
 (repeat' (first|(refine⟨λh=>?_,λh=>?_⟩<;>(repeat (first|simp only[zK]at h|simp only[yC]at h|simp only[yL]at h|simp only[zU]at h))<;>((refine rd y_ ?_);(conv=>whnf)))|(refine Av rfl As ?_ rfl)|(refine⟨y_,?_⟩;((conv=>whnf)))|(refine⟨by (omega),by (omega),?_⟩;((conv=>whnf)))))
 all_goals (refine zH Ab ?_;clear g;grind [Dr])
def V3(q:List Item)(i j:Nat)(hi:i<q.length)(o:j<q.length):Sq 462 [.osl 0,Aa i,Aa j] [(0,.row 3 C3 q)] (.tup []) [(0,.row 3 C3 ((q.set i q[j]).set j q[i]))]:=cT F462 ntmps462 λF p=>by
 have g:q[(i:Int).toNat]'j_=q[i]:=rfl;have l:q[(j:Int).toNat]'j_=q[j]:=rfl
 conv=>whnf
 refine⟨by omega,by omega,?_⟩
 conv=>whnf
 refine⟨q_,by omega,?_⟩;rw[l]
 conv=>whnf
 refine⟨by omega,by omega,?_⟩
 conv=>whnf
 refine⟨q_,by omega,?_⟩;rw[g]
 conv=>whnf
 refine⟨by omega,by omega,?_⟩
 conv=>whnf
 refine⟨q_,by omega,q[j],q_,q_,?_⟩
 conv=>whnf
 refine⟨by omega,by simp;omega,?_⟩
 conv=>whnf
 refine⟨q_,by simp;omega,q[i],q_,q_,?_⟩
 conv=>whnf
 refine kW ?_;exact Bf q_ .nil [] [(0,.row 3 C3 ((q.set i q[j]).set j q[i]))] (λ_ h=>h) q_ q_ kU
def Azf(q:List Item)(x:Item)(g:q.length<1000000):Sq 461 [.ptr 0 0,.ifc 432 (C3 x)] [(0,.box [.osl 1]),(1,.row 3 C3 q)] (.tup []) [(0,.box [.osl 2]),(1,.non),(2,.row 3 C3 (q++[x]))]:=cT F461 ntmps461 λF i=>by
 conv=>whnf
 refine Al (Agc Γ.toTy q_ q_ q_ q_) q_ q_ (oT ?_);refine C6 (Ah Γ.toTy 18 q_ q_ q_ q_ q_ (.row q_) (.lit (l:=[x]) q_ q_) qx kO kO) y_ q_ (gO ?_);exact Bf q_ .nil [(2,18)] [(0,.box [.osl 2]),(1,.non),(2,.row 3 C3 (q++[x]))] (λ_ h=>h) q_ q_ kU
def A5p(q:List Item)(g:q≠[])(j:q.length<1000000):Sq 460 [.ptr 0 0] [(0,.box [.osl 1]),(1,.row 3 C3 q)] (.ifc 432 (C3 (q.getLast g))) [(0,.box [.osl 2]),(1,.non),(2,.row 3 C3 q.dropLast)]:=cT F460 ntmps460 λF l=>by
 have o:0<q.length:=xP.2 g;have i:q[((q.length:Int)-1).toNat]'j_=q.getLast g:=by
  rw[List.getLast_eq_getElem];congr 1;omega
 conv=>whnf
 refine iW ?_;refine⟨by omega,by omega,?_⟩
 conv=>whnf
 refine⟨q_,by omega,?_⟩;rw[i]
 conv=>whnf
 refine kW ?_;refine iW ?_;refine C6 (dR Γ.toTy (d:=23) (hi:=q.length-1) q_ q_ q_ q_ q_ qq q_ (.inl ⟨q_,q_⟩) (.inr ⟨_,_,q_,zH (λz=>SV.val (.int .i64 z)) j_⟩) j_) y_ q_ ?_;rw[<-List.dropLast_eq_take];refine gO ?_;exact done q_ As [(2,23)] [(0,.box [.osl 2]),(1,.non),(2,.row 3 C3 q.dropLast)] (λ_ h=>h) q_ q_ kU
set_option maxRecDepth 100000
def mLen : Alf prog 427 "Len" 306 false 429 := .of (by kernel_rfl) Tryz.underlying427
def Aut : Alf prog 427 "Less" 459 false 429 := .of (by kernel_rfl) Tryz.underlying427
def Aus : Alf prog 427 "Swap" 462 false 429 := .of (by kernel_rfl) Tryz.underlying427
def mPush : Alf prog 427 "Push" 461 true 429 := .of (by kernel_rfl) Tryz.underlying427
def mPop : Alf prog 427 "Pop" 460 true 429 := .of (by kernel_rfl) Tryz.underlying427
def Kk(q:List Item)(i j:Nat):List Item:=(q.set i (q.getD j default)).set j (q.getD i default)
def Bu(q:List Item)(i j:Nat):(Kk q i j).length=q.length:=by simp[Kk]
def upF:Nat->List Item->Nat->List Item
 |0,q,_=>q
 |n+1,q,j=>if j=0 then q else if Dr (q.getD j default) (q.getD ((j-1)/2) default) then upF n (Kk q ((j-1)/2) j) ((j-1)/2) else q
def Asf:∀(n m:Nat) (q:List Item) (j:Nat),j<=n->j<=m->upF n q j=upF m q j
 |0,m,q,j,h,_=>by
  have:j=0:=by omega
  subst this;cases m<;>simp[upF]
 |n+1,0,q,j,_,h=>by
  have:j=0:=by omega
  subst this;simp[upF]
 |n+1,m+1,q,j,g,i=>by
  rw[upF,upF];split
  .rfl
  .split
   .exact Asf n m _ _ j_ j_
   .rfl
def A80(r:List Item):∀(i:Nat),i≠0->upF i r i=if Dr (r.getD i default) (r.getD ((i-1)/2) default) then upF ((i-1)/2) (Kk r ((i-1)/2) i) ((i-1)/2) else r
 |0,h=>zW rfl h
 |m+1,_=>by
  rw[upF,zD j_];split
  .exact Asf _ _ _ _ j_ j_
  .rfl
def upS(q:List Item)(j:Nat)(hj:j<q.length)(hl:q.length<1000000):Sq 365 [.ifc 427 (.ptr 0 0),Aa j] [(0,.box [.osl 1]),(1,.row 3 C3 q)] (.tup []) [(0,.box [.osl 1]),(1,.row 3 C3 (upF j q j))]:=cT F365 ntmps365 λF hF=>by
 conv=>whnf
 refine eW (α:={p:List Item×Nat // upF p.2 p.1 p.2=upF j q j/\p.1.length=q.length/\p.2<p.1.length}) (λp=>[(0,.ifc 427 (.ptr 0 0)),(1,Aa p.1.2)]) (λp=>[(0,.box [.osl 1]),(1,.row 3 C3 p.1.1)]) (λp=>p.1.2) ⟨(q,j),q_,q_,hj⟩ []
  kU ?_
 rintro ⟨⟨r,i⟩,t,I,o⟩;simp only at t I o;dsimp only;have hw:IntKind.i64.wrap (((i:Int)-1).tdiv 2)=(((i-1)/2:Nat):Int):=by
  rcases uM i with g|g
  .subst g;rfl
  .have:((i:Int)-1)=((i-1:Nat):Int):=by omega
   rw[this,vN j_,IntKind.wrap_i64];omega
 refine gG ?_;refine⟨by decide,?_⟩;rw[hw]
 conv=>whnf
 constructor<;>intro h
 .have g:i=0:=by
   have:(((i-1)/2:Nat):Int)=i:=kS h;omega
  subst g;have e:upF j q j=r:=by rw[<-t];rfl
  rw[e];refine oT ?_;exact Bf q_ .nil [] [(0,.box [.osl 1]),(1,.row 3 C3 r)] (λ_ h=>h) q_ q_ kU
 have g:i≠0:=by
  intro g;subst g;exact zW h qq
 have hp:(i-1)/2<r.length:=by omega
 have l:=V4 r i ((i-1)/2) o hp;refine oO ?_;refine Al (K0 [1] (C1 Γ.toTy Aut F459 q_ q_ q_ q_ q_) l (.cons (.row q_ q_) (.cons (.refl _) (.cons (.refl _) .nil))) q_ q_) q_ q_ (oO ?_);have J:upF i r i=if Dr r[i] r[(i-1)/2] then upF ((i-1)/2) (Kk r ((i-1)/2) i) ((i-1)/2) else r:=by
  rw[A80 r i g,Ce o,Ce hp]
 constructor<;>intro h
 .have P:Dr r[i] r[(i-1)/2]=false:=by simpa using h
  have e:upF j q j=r:=by rw[<-t,J,P];rfl
  rw[e];refine oO ?_;exact Bf q_ .nil [] [(0,.box [.osl 1]),(1,.row 3 C3 r)] (λ_ h=>h) q_ q_ kU
 have P:Dr r[i] r[(i-1)/2]=true:=kS h;rw[P,zE rfl]at J;have R:=V3 r ((i-1)/2) i hp o;have e:(r.set ((i-1)/2) r[i]).set i r[(i-1)/2]=Kk r ((i-1)/2) i:=by
  rw[Kk,Ce o,Ce hp]
 rw[e]at R;refine oO ?_;refine Al (A1 [(0,1)] (C1 Γ.toTy Aus F462 q_ q_ q_ q_ q_) R q_ ⟨q_,z_⟩ q_ ⟨.inl q_,z_⟩) q_ q_ (oO ?_);exact oA (α:={p:List Item×Nat // upF p.2 p.1 p.2=upF j q j/\p.1.length=q.length/\p.2<p.1.length}) (L:=λp=>[(0,.ifc 427 (.ptr 0 0)),(1,Aa p.1.2)]) (O:=λp=>[(0,.box [.osl 1]),(1,.row 3 C3 p.1.1)]) (μ:=λp=>p.1.2) (x:=⟨(r,i),t,I,o⟩)
  ⟨(Kk r ((i-1)/2) i,(i-1)/2),by rw[<-t,J],by rw[Bu];exact I,by rw[Bu];exact hp⟩ [] (by simp only;omega)
  kU
def Ahx:∀(n:Nat) (q:List Item) (j:Nat),(upF n q j).length=q.length
 |0,q,j=>rfl
 |n+1,q,j=>by
  rw[upF];split
  .rfl
  .split
   .rw[Ahx n,Bu]
   .rfl
def lW(q:List Item)(x:Item):List Item:=upF q.length (q++[x]) q.length
def An4(q:List Item)(x:Item)(o:q.length<999999):Sq 305 [.ifc 427 (.ptr 0 0),.ifc 432 (C3 x)] [(0,.box [.osl 1]),(1,.row 3 C3 q)] (.tup []) [(0,.box [.osl 2]),(1,.non),(2,.row 3 C3 (lW q x))]:=cT F305 ntmps305 λF p=>by
 have j:=Azf q x j_;have g:=Ael (q++[x]);have i:=upS (q++[x]) q.length qx kO;have l:(((q++[x]).length:Nat):Int)-1=(q.length:Int):=by simp
 conv=>whnf
 refine Al (A1 (rd:=[]) [(2,6)] (nQ mPush F461 q_ q_) j q_ ⟨q_,q_,z_⟩ q_ kB) q_ q_ (oO ?_);refine Al (K0 [6] (C1 Γ.toTy mLen F306 q_ q_ q_ q_ q_) g (.cons (.row q_ q_) .nil) q_ q_) q_ q_ (oO ?_);refine⟨by unfold S2;simp;omega,?_⟩;rw[l]
 conv=>whnf
 refine Al (Ad [(1,6)] q_ F365 i q_ ⟨q_,q_,z_⟩ q_ kB) q_ q_ (oO ?_);exact Bf q_ .nil [(2,6)] [(0,.box [.osl 2]),(1,.non),(2,.row 3 C3 (lW q x))] (λ_ h=>h) q_ q_ kU
def J7(q:List Item)(i n:Nat):Nat:=if 2*i+2<n/\Dr (q.getD (2*i+2) default) (q.getD (2*i+1) default)=true then 2*i+2 else 2*i+1
def Y8(q:List Item)(i n:Nat)(h:2*i+1<n):J7 q i n<n/\i<J7 q i n:=by
 unfold J7;split<;>omega
def J9:Nat->List Item->Nat->Nat->List Item×Nat
 |0,q,i,_=>(q,i)
 |f+1,q,i,n=>if 2*i+1<n then (if Dr (q.getD (J7 q i n) default) (q.getD i default) then J9 f (Kk q i (J7 q i n)) (J7 q i n) n else (q,i)) else (q,i)
def Aar:∀(f g:Nat) (q:List Item) (i n:Nat),n<=f+i->n<=g+i->J9 f q i n=J9 g q i n
 |0,g,q,i,n,j,l=>by
  cases g with
  |zero=>rfl
  |succ g=>rw[J9,J9,zD j_]
 |f+1,0,q,i,n,j,l=>by rw[J9,J9,zD j_]
 |f+1,g+1,q,i,n,j,l=>by
  rw[J9,J9];split
  .rename_i h;have:=Y8 q i n h;split
   .exact Aar f g _ _ n j_ j_
   .rfl
  .rfl
def A1m(r:List Item)(i n:Nat):J9 (n-i) r i n=if 2*i+1<n then (if Dr (r.getD (J7 r i n) default) (r.getD i default) then J9 (n-J7 r i n) (Kk r i (J7 r i n)) (J7 r i n) n else (r,i)) else (r,i):=by
 rw[Aar (n-i) (n-i+1) r i n j_ j_,J9];split
 .rename_i h;have:=Y8 r i n h;split
  .exact Aar _ _ _ _ _ j_ j_
  .rfl
 .rfl
def Ada:∀(f:Nat) (q:List Item) (i n:Nat),(J9 f q i n).1.length=q.length
 |0,_,_,_=>rfl
 |f+1,q,i,n=>by
  rw[J9];split
  .split
   .rw[Ada f,Bu]
   .rfl
  .rfl
def downS(q:List Item)(o n:Nat)(hn:n<=q.length)(hi:o<q.length)(hl:q.length<1000000):Sq 366 [.ifc 427 (.ptr 0 0),Aa o,Aa n] [(0,.box [.osl 1]),(1,.row 3 C3 q)] (Ab (decide (((J9 (n-o) q o n).2:Int)>o))) [(0,.box [.osl 1]),(1,.row 3 C3 (J9 (n-o) q o n).1)]:=cT F366 ntmps366 λF hF=>by
 generalize hD:J9 (n-o) q o n=D
 conv=>whnf
 refine eW (α:={p:List Item×Nat // J9 (n-p.2) p.1 p.2 n=D/\p.1.length=q.length/\p.2<p.1.length}) (λp=>[(0,.ifc 427 (.ptr 0 0)),(1,Aa o),(2,Aa n),(7,Aa p.1.2)]) (λp=>[(0,.box [.osl 1]),(1,.row 3 C3 p.1.1)]) (λp=>n-p.1.2) ⟨(q,o),hD,q_,hi⟩ []
  kU ?_
 rintro ⟨⟨r,i⟩,g,J,l⟩;simp only at g J l;dsimp only;have iz:=g;rw[A1m]at g;have ni:(2:Int)*i+1=((2*i+1:Nat):Int):=by omega
 have de:((2*i+1:Nat):Int)+1=((2*i+2:Nat):Int):=by omega
 refine gG ?_;refine iL ?_;rw[ni]
 conv=>whnf
 constructor<;>intro h
 .have wu:¬2*i+1<n:=qA h;rw[zD wu]at g;rw[<-g];refine oT ?_;exact done q_ As [] [(0,.box [.osl 1]),(1,.row 3 C3 r)] (λ_ h=>h) q_ q_ kU
 have ab:2*i+1<n:=qB h;rw[zE ab]at g;refine oF ?_;refine iL ?_;rw[de]
 conv=>whnf
 constructor<;>intro h
 .have P:2*i+2<n:=qA h;have hA:2*i+2<r.length:=by omega
  have hB:2*i+1<r.length:=by omega
  have a0:=V4 r (2*i+2) (2*i+1) hA hB;refine oO ?_;refine Al (K0 [1] (C1 Γ.toTy Aut F459 q_ q_ q_ q_ q_) a0 (.cons (.row q_ q_) (.cons (.refl _) (.cons (.refl _) .nil))) q_ q_) q_ q_ ?_;refine gI ?_ ?_<;>intro h
  .have R:J7 r i n=2*i+2:=by rw[J7,zE ⟨P,by rw[Ce hA,Ce hB];exact h⟩]
   have j:=hA;refine oO ?_;rw[R,Ce j,Ce l]at g;have lc:=V4 r (2*i+2) i j l;refine Al (K0 [1] (C1 Γ.toTy Aut F459 q_ q_ q_ q_ q_) lc (.cons (.row q_ q_) (.cons (.refl _) (.cons (.refl _) .nil))) q_ q_) q_ q_ ?_;refine gI ?_ ?_<;>intro h
   .have t:Dr r[2*i+2] r[i]=false:=by simpa using h
    rw[t]at g;have e:D=(r,i):=g.symm;rw[e];refine oO ?_;exact done q_ As [] [(0,.box [.osl 1]),(1,.row 3 C3 r)] (λ_ h=>h) q_ q_ kU
   have t:Dr r[2*i+2] r[i]=true:=kS h;rw[t,zE rfl]at g;have I:=V3 r i (2*i+2) l j;have e:(r.set i r[2*i+2]).set (2*i+2) r[i]=Kk r i (2*i+2):=by
    rw[Kk,Ce l,Ce j]
   rw[e]at I;refine oO ?_;refine Al (A1 [(0,1)] (C1 Γ.toTy Aus F462 q_ q_ q_ q_ q_) I q_ ⟨q_,z_⟩ q_ ⟨.inl q_,z_⟩) q_ q_ (oO ?_);exact oA (α:={p:List Item×Nat // J9 (n-p.2) p.1 p.2 n=D/\p.1.length=q.length/\p.2<p.1.length}) (L:=λp=>[(0,.ifc 427 (.ptr 0 0)),(1,Aa o),(2,Aa n),(7,Aa p.1.2)]) (O:=λp=>[(0,.box [.osl 1]),(1,.row 3 C3 p.1.1)]) (μ:=λp=>n-p.1.2) (x:=⟨(r,i),iz,J,l⟩)
    ⟨(Kk r i (2*i+2),2*i+2),g,by rw[Bu];exact J,by rw[Bu];exact j⟩ [] (by simp only;omega)
    kU
  .have R:J7 r i n=2*i+1:=by rw[J7,zD (λhh=>by rw[Ce hA,Ce hB,h]at hh;exact zW hh.2 qx)]
   have j:=hB;refine oO ?_;rw[R,Ce j,Ce l]at g;have lc:=V4 r (2*i+1) i j l;refine Al (K0 [1] (C1 Γ.toTy Aut F459 q_ q_ q_ q_ q_) lc (.cons (.row q_ q_) (.cons (.refl _) (.cons (.refl _) .nil))) q_ q_) q_ q_ ?_;refine gI ?_ ?_<;>intro h
   .have t:Dr r[2*i+1] r[i]=false:=by simpa using h
    rw[t]at g;have e:D=(r,i):=g.symm;rw[e];refine oO ?_;exact done q_ As [] [(0,.box [.osl 1]),(1,.row 3 C3 r)] (λ_ h=>h) q_ q_ kU
   have t:Dr r[2*i+1] r[i]=true:=kS h;rw[t,zE rfl]at g;have I:=V3 r i (2*i+1) l j;have e:(r.set i r[2*i+1]).set (2*i+1) r[i]=Kk r i (2*i+1):=by
    rw[Kk,Ce l,Ce j]
   rw[e]at I;refine oO ?_;refine Al (A1 [(0,1)] (C1 Γ.toTy Aus F462 q_ q_ q_ q_ q_) I q_ ⟨q_,z_⟩ q_ ⟨.inl q_,z_⟩) q_ q_ (oO ?_);exact oA (α:={p:List Item×Nat // J9 (n-p.2) p.1 p.2 n=D/\p.1.length=q.length/\p.2<p.1.length}) (L:=λp=>[(0,.ifc 427 (.ptr 0 0)),(1,Aa o),(2,Aa n),(7,Aa p.1.2)]) (O:=λp=>[(0,.box [.osl 1]),(1,.row 3 C3 p.1.1)]) (μ:=λp=>n-p.1.2) (x:=⟨(r,i),iz,J,l⟩)
    ⟨(Kk r i (2*i+1),2*i+1),g,by rw[Bu];exact J,by rw[Bu];exact j⟩ [] (by simp only;omega)
    kU
 .have P:¬2*i+2<n:=qB h;have j:2*i+1<r.length:=by omega
  have R:J7 r i n=2*i+1:=by rw[J7,zD (λhh=>P hh.1)]
  refine oF ?_;rw[R,Ce j,Ce l]at g;have lc:=V4 r (2*i+1) i j l;refine Al (K0 [1] (C1 Γ.toTy Aut F459 q_ q_ q_ q_ q_) lc (.cons (.row q_ q_) (.cons (.refl _) (.cons (.refl _) .nil))) q_ q_) q_ q_ ?_;refine gI ?_ ?_<;>intro h
  .have t:Dr r[2*i+1] r[i]=false:=by simpa using h
   rw[t]at g;have e:D=(r,i):=g.symm;rw[e];refine oO ?_;exact done q_ As [] [(0,.box [.osl 1]),(1,.row 3 C3 r)] (λ_ h=>h) q_ q_ kU
  have t:Dr r[2*i+1] r[i]=true:=kS h;rw[t,zE rfl]at g;have I:=V3 r i (2*i+1) l j;have e:(r.set i r[2*i+1]).set (2*i+1) r[i]=Kk r i (2*i+1):=by
   rw[Kk,Ce l,Ce j]
  rw[e]at I;refine oO ?_;refine Al (A1 [(0,1)] (C1 Γ.toTy Aus F462 q_ q_ q_ q_ q_) I q_ ⟨q_,z_⟩ q_ ⟨.inl q_,z_⟩) q_ q_ (oO ?_);exact oA (α:={p:List Item×Nat // J9 (n-p.2) p.1 p.2 n=D/\p.1.length=q.length/\p.2<p.1.length}) (L:=λp=>[(0,.ifc 427 (.ptr 0 0)),(1,Aa o),(2,Aa n),(7,Aa p.1.2)]) (O:=λp=>[(0,.box [.osl 1]),(1,.row 3 C3 p.1.1)]) (μ:=λp=>n-p.1.2) (x:=⟨(r,i),iz,J,l⟩)
   ⟨(Kk r i (2*i+1),2*i+1),g,by rw[Bu];exact J,by rw[Bu];exact j⟩ [] (by simp only;omega)
   kU
def In(q:List Item):List Item:=(J9 (q.length-1-0) (Kk q 0 (q.length-1)) 0 (q.length-1)).1
def Kz(q:List Item):(In q).length=q.length:=by rw[In,Ada,Bu]
def Ke{q:List Item}(h:q≠[]):In q≠[]:=λe=>h (yF (by rw[<-Kz,e];rfl))
def Bb9(q:List Item)(i:q≠[])(l:q.length<1000000):Sq 307 [.ifc 427 (.ptr 0 0)] [(0,.box [.osl 1]),(1,.row 3 C3 q)] (.ifc 432 (C3 ((In q).getLast (Ke i)))) [(0,.box [.osl 2]),(1,.non),(2,.row 3 C3 (In q).dropLast)]:=cT F307 ntmps307 λF I=>by
 have j:0<q.length:=xP.2 i;have g:=Ael q;have o:=V3 q 0 (q.length-1) j j_;have e:(q.set 0 q[q.length-1]).set (q.length-1) q[0]=Kk q 0 (q.length-1):=by
  rw[Kk,Ce (show q.length-1<q.length by omega),Ce j]
 rw[e]at o;have p:=downS (Kk q 0 (q.length-1)) 0 (q.length-1) (by rw[Bu];omega) (by rw[Bu];exact j) (by rw[Bu];exact l);have r:=A5p (In q) (Ke i) (by rw[Kz];exact l);have t:(q.length:Int)-1=((q.length-1:Nat):Int):=by omega
 conv=>whnf
 refine Al (K0 [1] (C1 Γ.toTy mLen F306 q_ q_ q_ q_ q_) g (.cons (.row q_ q_) .nil) q_ q_) q_ q_ (oO ?_);refine iL ?_;rw[t]
 conv=>whnf
 refine Al (A1 [(0,1)] (C1 Γ.toTy Aus F462 q_ q_ q_ q_ q_) o q_ ⟨q_,z_⟩ q_ ⟨.inl q_,z_⟩) q_ q_ (oO ?_);refine Al (Ad [] q_ F366 p q_ ⟨q_,q_,z_⟩ q_ kB) q_ q_ (oO ?_);refine Al (A1 (rd:=[]) [(2,14)] (nQ mPop F460 q_ q_) r q_ ⟨q_,q_,z_⟩ q_ kB) q_ q_ (oO ?_);exact done q_ As [(2,14)] [(0,.box [.osl 2]),(1,.non),(2,.row 3 C3 (In q).dropLast)] (λ_ h=>h) q_ q_ kU
set_option maxRecDepth 20000
def great1{n:Ai}(h:n.g.any (λp=>decide (100<p.u.length))=true):Tf n=true:=by simp only[Tf,h,tY,wT]
def great2{n:Ai}(h:n.c.any (λp=>decide (100<p.ae.length))=true):Tf n=true:=by simp only[Tf,h,tY,wT]
def great3{n:Ai}(h:n.y.any (λp=>decide (100<p.aa.length))=true):Tf n=true:=by simp only[Tf,h,tY,wT]
def great4{n:Ai}(h:n.ag.any (λv=>decide (100<v.ak.length)||decide (100<v.am.length))=true):Tf n=true:=by simp only[Tf,h,tY]
def greatS(n:Ai):Sp 22 [Aq n] (Ab (Tf n)):=cT F22 ntmps22 λF o=>by
 conv=>whnf
 (repeat' (first|(refine⟨λh=>?_,λh=>?_⟩<;>(repeat (first|simp only[zK]at h|simp only[yC]at h))<;>((refine oO ?_);repeat((refine aT ?_);(refine oO ?_))))|(refine Av rfl As ?_ rfl)))
 all_goals first
  |(refine zH Ab ?_;clear o;grind [Tf])
  |skip
 have P:n.g.length<=200:=by omega
 have R:n.c.length<=200:=by omega
 have l3:n.y.length<=200:=by omega
 have l4:n.ag.length<=200:=by omega
 refine Bi 1 8 (Aq n) q_ q_ q_ ?_;refine Bb n.g.length (λj=>Ic (λ_ p=>!(decide (100<p.u.length))) n.g j) (λj=>[(1,.ref 8 (Aq n) 0),(3,Aa j)]) (λ_=>[]) [] (Bn _ _) kU ?_;intro j l g;refine gI ?_ ?_<;>intro h
 .have i:j<n.g.length:=by simpa using h
  refine oO ?_
  (repeat' (first|(refine⟨λh=>?_,λh=>?_⟩<;>(repeat (first|simp only[zK]at h|simp only[yC]at h))<;>((refine oO ?_)))|(refine Av rfl As ?_ rfl)|(refine⟨y_,?_⟩;((conv=>whnf)))|(refine⟨by (omega),by (omega),?_⟩;((conv=>whnf)))|(refine⟨by (unfold S2;omega),?_⟩;((conv=>whnf)))|refine A6 [] g i ?_ kU))
  all_goals (simp only[yA]at *)
  .refine zH Ab ?_;exact great1 (any_true i kO)
  .exact Bk g i kO
 have r:n.g.any (λp=>decide (100<p.u.length))=false:=any_false g (kS h);clear g l h;refine oO ?_;refine Bb n.c.length (λj=>Ic (λ_ p=>!(decide (100<p.ae.length))) n.c j) (λj=>[(1,.ref 8 (Aq n) 0),(4,Aa j)]) (λ_=>[]) [] (Bn _ _) kU ?_;intro j l g;refine gI ?_ ?_<;>intro h
 .have i:j<n.c.length:=by simpa using h
  refine oO ?_
  (repeat' (first|(refine⟨λh=>?_,λh=>?_⟩<;>(repeat (first|simp only[zK]at h|simp only[yC]at h))<;>((refine oO ?_)))|(refine Av rfl As ?_ rfl)|(refine⟨y_,?_⟩;((conv=>whnf)))|(refine⟨by (omega),by (omega),?_⟩;((conv=>whnf)))|(refine⟨by (unfold S2;omega),?_⟩;((conv=>whnf)))|refine A6 [] g i ?_ kU))
  all_goals (simp only[yA]at *)
  .refine zH Ab ?_;exact great2 (any_true i kO)
  .exact Bk g i kO
 have t:n.c.any (λp=>decide (100<p.ae.length))=false:=any_false g (kS h);clear g l h;refine oO ?_;refine Bb n.y.length (λj=>Ic (λ_ p=>!(decide (100<p.aa.length))) n.y j) (λj=>[(1,.ref 8 (Aq n) 0),(5,Aa j)]) (λ_=>[]) [] (Bn _ _) kU ?_;intro j l g;refine gI ?_ ?_<;>intro h
 .have i:j<n.y.length:=by simpa using h
  refine oO ?_
  (repeat' (first|(refine⟨λh=>?_,λh=>?_⟩<;>(repeat (first|simp only[zK]at h|simp only[yC]at h))<;>((refine oO ?_)))|(refine Av rfl As ?_ rfl)|(refine⟨y_,?_⟩;((conv=>whnf)))|(refine⟨by (omega),by (omega),?_⟩;((conv=>whnf)))|(refine⟨by (unfold S2;omega),?_⟩;((conv=>whnf)))|refine A6 [] g i ?_ kU))
  all_goals (simp only[yA]at *)
  .refine zH Ab ?_;exact great3 (any_true i kO)
  .exact Bk g i kO
 have I:n.y.any (λp=>decide (100<p.aa.length))=false:=any_false g (kS h);clear g l h;refine oO ?_;refine Bb n.ag.length (λj=>Ic (λ_ v=>!(decide (100<v.ak.length)||decide (100<v.am.length))) n.ag j) (λj=>[(1,.ref 8 (Aq n) 0),(6,Aa j)]) (λ_=>[]) [] (Bn _ _) kU ?_;intro j l g;refine gI ?_ ?_<;>intro h
 .have i:j<n.ag.length:=by simpa using h
  refine oO ?_
  (repeat' (first|(refine⟨λh=>?_,λh=>?_⟩<;>(repeat (first|simp only[zK]at h|simp only[yC]at h))<;>((refine oO ?_);repeat((refine aT ?_);(refine oO ?_))))|(refine Av rfl As ?_ rfl)|(refine⟨y_,?_⟩;((conv=>whnf)))|(refine⟨by (omega),by (omega),?_⟩;((conv=>whnf)))|(refine⟨by (unfold S2;omega),?_⟩;((conv=>whnf)))|refine A6 [] g i ?_ kU))
  all_goals (simp only[yA]at *)
  all_goals first
   |exact Bk g i kO
   |(refine zH Ab ?_;exact great4 (any_true i kO))
 have J:n.ag.any (λv=>decide (100<v.ak.length)||decide (100<v.am.length))=false:=any_false g (kS h);clear g l h;refine oO ?_;refine Av q_ As (zH Ab ?_) q_;rw[Tf,r,t,I,J];simp;omega
def J4:Vec->List Vec->Vec
 |v,[]=>v
 |v,x::l=>J4 (if Anp x v then x else v) l
def zeroV:Vec:=⟨0,0,0,0,0⟩
def Z2:List Vec->Vec×Bool
 |[]=>(zeroV,false)
 |v::l=>(J4 v (v::l),true)
def Ajj:∀(v:Vec) (l:List Vec),J4 v l=v\/J4 v l∈l
 |v,[]=>.inl rfl
 |v,x::l=>by
  rw[J4];rcases Ajj (if Anp x v then x else v) l with h|h
  .rw[h];split
   .exact .inr qx
   .exact .inl q_
  .exact .inr (by simp[h])
def Au7(v:Vec)(l:List Vec)(j:Nat)(h:j<l.length):J4 v (l.take (j+1))=(if Anp l[j] (J4 v (l.take j)) then l[j] else J4 v (l.take j)):=by
 have key:∀(a b:List Vec) (v:Vec),J4 v (a++b)=J4 (J4 v a) b:=by
  intro a
  induction a with
  |nil=>intro b v;rfl
  |cons x a g=>intro b v;rw[wF,J4,J4,g]
 rw[zZ h,key];rfl
def leastS(l:List Vec)(r:At l):Sp 308 [.sl 5 bJ l] (.tup [bJ (Z2 l).1,Ab (Z2 l).2]):=cT F308 ntmps308 λF hF=>by
 unfold At at r;have I:∀h:0<l.length,Z2 l=(J4 l[0] l,true):=λh=>by
  cases l with
  |nil=>simp at h
  |cons v t=>rfl
 conv=>whnf
 constructor<;>intro h
 .have:l=[]:=yF (by have:(l.length:Int)=0:=(kS h);omega);subst this;refine oO ?_;exact done q_ (.cons (.cell q_ q_ q_ q_) As) [] [] (λ_ h=>h) q_ q_ kU
 have i:0<l.length:=by
  have:¬(l.length:Int)=0:=kS h;omega
 rw[I i];refine oO ?_;refine⟨q_,by decide,i,?_⟩
 conv=>whnf
 have e0:l[(0:Int).toNat]'(i)=l[0]:=rfl;generalize J:l[0]=v at *;refine Bl l.length (λj=>[(0,.sl 5 bJ l),(2,.ptr 2 0),(4,.ptr 4 0),(14,.sl 5 bJ l),(15,Aa l.length),(16,Aa j)]) (λj=>[(2,.box [Aa 0,Aa 0,Aa 0,Aa 0,Aa 0]),(4,.box [Aa (J4 v (l.take j)).root,Aa (J4 v (l.take j)).aj,Aa (J4 v (l.take j)).bl,Aa (J4 v (l.take j)).ac,Aa (J4 v (l.take j)).bc])]) []
  ⟨⟨rfl,rfl,rfl,rfl,rfl,rfl,rfl,rfl,rfl,rfl,rfl,rfl,trivial⟩,⟨.inl rfl,rfl,.inl (by subst J;rfl),rfl,trivial⟩,rfl,rfl⟩ ?_
 intro j hj;refine gI ?_ ?_<;>intro h
 .have o:j<l.length:=by simpa using h
  have g:=Au7 v l j o;generalize P:l[j]=x at g;have R:l[(j:Int).toNat]'j_=x:=P;generalize xr:J4 v (l.take j)=m at g;refine oO ?_;refine⟨q_,by omega,by omega,?_⟩;rw[R]
  conv=>whnf
  refine gF (lessS x m) F367 ?_;constructor<;>intro p
  .rw[p,zE rfl]at g;refine gG ?_;exact A9 [] o ⟨kA,⟨.inl q_,q_,.inl (by rw[g];rfl),q_,z_⟩,q_,q_⟩
  .rw[p]at g;refine gG ?_;exact A9 [] o ⟨kA,⟨.inl q_,q_,.inl (by rw[g];rfl),q_,z_⟩,q_,q_⟩
 .have dw:¬j<l.length:=by simpa using h
  rw[xI j_];refine oO ?_;exact done q_ (.cons (.cell q_ q_ q_ q_) As) [] [] (λ_ h=>h) q_ q_ kU
def leastR_mem{l:List Vec}(h:(Z2 l).2=true):(Z2 l).1∈l:=by
 cases l with
 |nil=>cases h
 |cons v t=>
  rcases Ajj v (v::t) with h|h
  .show J4 v (v::t)∈v::t;rw[h];simp
  .exact h
def Afr(n:Ai):∀x∈Kn n,0<=x/\x<n.j.length:=λx g=>by
 rw[Atl,Yl]at g;obtain ⟨i,hi,rfl⟩:=yT.1 g;have hi:=xD.1 hi;have j:=List.countP_le_length (p:=λk=>Hq n (k:Nat) i) (l:=List.range n.j.length);rw[vT]at j;have o:(List.range n.j.length).countP (λk=>Hq n (k:Nat) i)≠n.j.length:=λe=>by
  have:=List.countP_eq_length.1 (e.trans List.length_range.symm) i (xD.2 hi);rw[aO]at this;cases this
 omega
def X0(n:Ai):(Kn n).length=n.j.length:=by rw[Atl,Yl];simp
set_option maxRecDepth 100000
def lQ(n:Ai)(up:List Bool)(ranks:List Int)(x y:SV):List SV:=[.sl 5 Bh n.j,.sl 7 Bm n.g,.sl 3 Dq n.x,.sl 6 Ax n.c,.sl 4 Bp n.ab,.sl 4 B6 n.y,.sl 5 D5 n.ag,.sl 5 Dx n.r,.sl 1 Ab up,.sl 1 Aa ranks,x,y]
def Jn(n:Ai)(up:List Bool)(i:Nat):Int :=
 let p:=n.g.getD i default
 if p.ah<0||!(up.getD p.ah.toNat false) then -1 else (Af n.x p.ah).a+(Af n.x p.ah).b-i
def farS(n:Ai)(up:List Bool)(ranks:List Int)(x y:SV)(_hx:(x.boxed&&x.data&&y.boxed&&y.data&&Nat.beq (cellsOf x).length 1&&Nat.beq (cellsOf y).length 1)=true)(i:Nat)(j:Ac n=true)(I:up.length=n.x.length)(hi:i<n.g.length):Sp 230 [.ref 12 (.agg (lQ n up ranks x y)) 0,Aa i] (Aa (Jn n up i)):=cT F230 ntmps230 λF J=>by
 have P:=fF j hi;have R:=Lz j;have o:n.g[(i:Int).toNat]'j_=n.g[i]:=rfl;have r:Jn n up i=if n.g[i].ah<0||!(up.getD n.g[i].ah.toNat false) then -1 else (Af n.x n.g[i].ah).a+(Af n.x n.g[i].ah).b-i:=by
  rw[Jn,Ce hi]
 generalize hp:n.g[i]=p at *;have g:=λh=>Yt j (i:=p.ah.toNat) h
 conv=>whnf
 refine⟨q_,by omega,by omega,?_⟩;rw[o]
 conv=>whnf
 (repeat' (first|(refine⟨λh=>?_,λh=>?_⟩<;>(repeat (first|simp only[zK]at h|simp only[yC]at h|simp only[xH]at h|simp only[vE]at h))<;>((first|refine rg ?_|refine rd y_ ?_);(conv=>whnf)))|(refine Av rfl As ?_ rfl)|(refine⟨y_,?_⟩;((conv=>whnf);repeat((refine aT ?_);(refine oO ?_))))|(refine⟨by (first|omega|((have t:=g j_;unfold S2;omega))),by (first|omega|((have t:=g j_;unfold S2;omega))),?_⟩;((conv=>whnf)))))
 all_goals (refine zH Aa ?_;rw[r])
 .simp_all
 .have l:up.getD p.ah.toNat false=false:=by rw[Ce j_];assumption
  rw[l];simp
 .have l:up.getD p.ah.toNat false=true:=by rw[Ce j_];assumption
  rw[l,Aj j_]
  simp_all
def bU(n:Ai)(up:List Bool)(ranks roots costs:List Int):SV:=.ref 12 (.agg (lQ n up ranks (.sl 1 Aa roots) (.sl 1 Aa costs))) 0
def Yg(n:Ai)(ranks costs:List Int)(i k:Nat):Bool :=
 let a:=(n.g.getD i default).q
 let b:=(n.g.getD k default).q
 decide (Af costs a<Af costs b)||(Af costs a==Af costs b&&decide (Af ranks a<Af ranks b))
def Ayt(n:Ai)(up:List Bool)(ranks roots costs:List Int)(i k:Nat)(g:Ac n=true)(p:ranks.length=n.j.length)(r:costs.length=n.j.length)(hi:i<n.g.length)(l:k<n.g.length):Sp 231 [bU n up ranks roots costs,Aa i,Aa k] (Ab (Yg n ranks costs i k)):=cT F231 ntmps231 λF o=>by
 have t:=cP g hi;have I:=cP g l;have J:n.g[(i:Int).toNat]'j_=n.g[i]:=rfl;have P:n.g[(k:Int).toNat]'j_=n.g[k]:=rfl;have j:Yg n ranks costs i k=(decide (Af costs n.g[i].q<Af costs n.g[k].q)||(Af costs n.g[i].q==Af costs n.g[k].q&&decide (Af ranks n.g[i].q<Af ranks n.g[k].q))):=by
  rw[Yg,Ce hi,Ce l]
 rw[Aj j_,Aj j_,Aj j_,Aj j_]at j
 conv=>whnf
 (repeat' (first|(refine⟨λh=>?_,λh=>?_⟩<;>(repeat (first|simp only[zK]at h|simp only[yC]at h|simp only[yL]at h|simp only[zU]at h))<;>((refine rd y_ ?_);(conv=>whnf)))|(refine Av rfl As ?_ rfl)|(refine⟨y_,?_⟩;((conv=>whnf)))|(refine⟨by (first|omega|(simp only[yA];omega)),by (first|omega|(simp only[yA];omega)),?_⟩;((conv=>whnf)))))
 all_goals (refine zH Ab ?_;rw[j];clear o j g;simp only[yA]at *;grind)
def Akc{n:Ai}{up:List Bool}(h:Ac n=true){i:Nat}(hi:i<n.g.length)(l:0<=Jn n up i):Jn n up i<n.g.length:=by
 have hp:=Zq h hi;have o:=fF h hi;simp only[Qj,zG,yR,yL]at hp;have hp:=hp.2;unfold Jn at *;rw[Ce hi]at *;simp only at *;split at l
 .omega
 .rename_i g;rw[zD g];simp only[yR,zK,vY]at g;rcases hp with hp|hp
  .omega
  .have j:n.g[i].ah.toNat<n.x.length:=by omega
   have p:=Yt h j;rw[Aj j]at *;omega
def Aku(n:Ai)(up:List Bool)(ranks roots costs:List Int)(dev:Int)(i:Nat):Option Vec :=
 let p:=n.g.getD i default
 let far:=Jn n up i
 let g:=(Af n.g far).q
 if p.q==dev&&decide (0<=far) then some ⟨Af roots g,Af costs g+p.aj,Af ranks g,far,i⟩ else none
def Y9(n:Ai)(up:List Bool)(ranks roots costs:List Int)(dev:Int)(j:Nat):List Vec:=(List.range j).filterMap (Aku n up ranks roots costs dev)
def A1z(n:Ai)(up:List Bool)(ranks roots costs:List Int)(dev:Int)(j:Nat):Y9 n up ranks roots costs dev (j+1)=Y9 n up ranks roots costs dev j++(Aku n up ranks roots costs dev j).toList:=by
 rw[Y9,wW,List.filterMap_append];cases h:Aku n up ranks roots costs dev j<;>simp[Y9,h]
def Adm(n:Ai)(up:List Bool)(ranks roots costs:List Int)(dev:Int)(j:Nat):(Y9 n up ranks roots costs dev j).length<=j:=by
 have:=tH (Aku n up ranks roots costs dev) (List.range j);simpa [Y9] using this
def nS(n:Ai)(up:List Bool)(ranks roots costs:List Int)(dev:Int):Int :=
 let r:=Z2 (Y9 n up ranks roots costs dev n.g.length)
 if !r.2||Af roots dev==Af ranks dev then -1 else r.1.bc
def bestS(n:Ai)(up:List Bool)(ranks roots costs:List Int)(dev:Int)(J:Ac n=true)(hu:up.length=n.x.length)(ak:Hj n=true)(pj:ranks.length=n.j.length)(jj:roots.length=n.j.length)(hc:costs.length=n.j.length)(hb:∀c∈costs,0<=c/\c<1000000000)(hd:0<=dev/\dev<n.j.length):Sp 232 [bU n up ranks roots costs,Aa dev] (Aa (nS n up ranks roots costs dev)):=cT F232 ntmps232 λF hF=>by
 have hf:=Lz J
 conv=>whnf
 refine Ct 5 1000 5 bJ q_ q_ ?_;refine Bl n.g.length (λj=>[(0,bU n up ranks roots costs),(1,Aa dev),(5,.osl 1000),(16,.sl 7 Bm n.g),(17,Aa n.g.length),(18,Aa j)]) (λj=>[(1000,.row 5 bJ (Y9 n up ranks roots costs dev j))]) []
  kU ?_
 intro j hj;refine gI ?_ ?_<;>intro h
 .have o:j<n.g.length:=by simpa using h
  have e1:n.g[(j:Int).toNat]'j_=n.g[j]:=rfl;have cx:=farS n up ranks (.sl 1 Aa roots) (.sl 1 Aa costs) rfl j J hu o;have je:=Akc (up:=up) J o;have R:=A1z n up ranks roots costs dev j;have jt:=Adm n up ranks roots costs dev j;have g:Aku n up ranks roots costs dev j=if n.g[j].q==dev&&decide (0<=Jn n up j) then some ⟨Af roots (Af n.g (Jn n up j)).q,Af costs (Af n.g (Jn n up j)).q+n.g[j].aj,Af ranks (Af n.g (Jn n up j)).q,Jn n up j,j⟩ else none:=by
   rw[Aku,Ce o]
  generalize Jn n up j=k at *;have a0:1<=n.g[j].aj/\n.g[j].aj<=65535:=by
   simp only[Hj,xH,wE]at ak;have:=ak _ (zI o);simp only[M9,yR,zK,vY]at this;omega
  obtain ⟨p,hp⟩:=kE (n.g[j]);rw[hp]at e1 g a0;refine oO ?_;refine⟨q_,by omega,by omega,?_⟩;rw[e1]
  conv=>whnf
  refine gF cx F230 ?_;constructor<;>intro h
  .refine oO ?_;constructor<;>intro h2
   .have t:0<=k:=zO h2;have dg:=je t;rw[zE (by simp only[zG,zK];exact⟨h,t⟩),Aj (l:=n.g) (i:=k) j_]at g;have ue:=cP J (i:=k.toNat) j_;obtain ⟨q,hq⟩:=kE (n.g[k.toNat]'j_);rw[hq]at g ue;have th:=hb (costs[q.q.toNat]'j_) (zI _);rw[Aj (l:=roots) (i:=q.q) j_,Aj (l:=costs) (i:=q.q) j_,Aj (l:=ranks) (i:=q.q) j_]at g;refine oO ?_;refine⟨q_,t,by omega,?_⟩;rw[hq]
    conv=>whnf
    refine⟨y_,?_⟩;refine⟨by omega,by omega,?_⟩
    conv=>whnf
    refine⟨y_,?_⟩;refine⟨by omega,by omega,?_⟩
    conv=>whnf
    refine iW ?_;refine⟨y_,?_⟩;refine⟨by omega,by omega,?_⟩
    conv=>whnf
    refine C6 (Ah Γ.toTy 72 q_ q_ q_ q_ q_ (.row q_) (.lit (l:=[(⟨roots[q.q.toNat]'j_,costs[q.q.toNat]'j_+p.aj,ranks[q.q.toNat]'j_,k,j⟩:Vec)]) q_ q_) qx kO kO) y_ q_ (gO ?_);refine iW ?_;refine A9 [(1000,72)] o ⟨kA,⟨.inl (zH (Ob.row 5 bJ) ?_),q_,z_⟩,q_,q_⟩;rw[R,g];rfl
   .have t:¬0<=k:=zQ h2;rw[zD (by simp only[zG,zK];exact λhh=>t hh.2)]at g;refine gG ?_;refine A9 [] o ⟨kA,⟨.inl (zH (Ob.row 5 bJ) ?_),q_,z_⟩,q_,q_⟩;rw[R,g];simp
  .rw[zD (by rw[h];simp)]at g;refine oF ?_;refine iW ?_;refine A9 [] o ⟨kA,⟨.inl (zH (Ob.row 5 bJ) ?_),q_,z_⟩,q_,q_⟩;rw[R,g];simp
 .have dw:j=n.g.length:=by
   have:¬j<n.g.length:=kS h;omega
  subst dw;have jt:=Adm n up ranks roots costs dev n.g.length;have I:nS n up ranks roots costs dev=if !(Z2 (Y9 n up ranks roots costs dev n.g.length)).2||Af roots dev==Af ranks dev then -1 else (Z2 (Y9 n up ranks roots costs dev n.g.length)).1.bc:=rfl
  rw[Aj j_,Aj j_]at I;have P:=leastS (Y9 n up ranks roots costs dev n.g.length) (by unfold At;omega);generalize Z2 (Y9 n up ranks roots costs dev n.g.length)=r at P I;obtain ⟨v,ok⟩:=r;simp only at P I;rw[I];refine oO ?_;refine Ao 1000 q_ (gF P F308 ?_)
  (repeat' (first|(refine⟨λh=>?_,λh=>?_⟩<;>(repeat (first|simp only[yL]at h|simp only[zU]at h|simp only[xH]at h|simp only[vE]at h))<;>((first|refine rg ?_|refine rd y_ ?_);(conv=>whnf)))|(refine Av rfl As ?_ rfl)|(refine⟨y_,?_⟩;((conv=>whnf);repeat((refine aT ?_);(refine oO ?_))))|(refine⟨by (omega),by (omega),?_⟩;((conv=>whnf)))))
  all_goals (refine zH Aa ?_;clear hF P I;grind)
def best_lt{n:Ai}{up:List Bool}{ranks roots costs:List Int}{dev:Int}(h:0<=nS n up ranks roots costs dev):nS n up ranks roots costs dev<n.g.length:=by
 have l:=@leastR_mem (Y9 n up ranks roots costs dev n.g.length);unfold nS at *;simp only at *;split at h
 .omega
 .rename_i j;rw[zD j];simp only[yR,xH,vY]at j;have o:=l (kS j.1);obtain ⟨i,hi,g⟩:=vM.1 o;have hi:=xD.1 hi;unfold Aku at g;simp only at g;split at g
  .have e:=zH Vec.bc (Option.some.inj g);simp only at e;omega
  .cases g
def A2w(n:Ai)(up:List Bool)(ranks costs:List Int)(i:Nat):Int :=
 if Jn n up i<0 then 0 else if Yg n ranks costs i (Jn n up i).toNat then 2 else 3
def S7(n:Ai)(up:List Bool)(ranks costs:List Int)(j:Nat):List Int:=(List.range n.g.length).map λi=>if i<j then A2w n up ranks costs i else 0
def lS(n:Ai)(up:List Bool)(ranks costs:List Int)(j:Nat):(S7 n up ranks costs j).length=n.g.length:=by simp[S7]
def Atd(n:Ai)(up:List Bool)(ranks costs:List Int):S7 n up ranks costs 0=List.replicate n.g.length 0:=by
 rw[S7];exact tL qx qx
def Ate(n:Ai)(up:List Bool)(ranks costs:List Int)(j:Nat)(g:j<n.g.length):S7 n up ranks costs (j+1)=(S7 n up ranks costs j).set j (A2w n up ranks costs j):=by
 refine tL (by simp[S7]) (λi l o=>?_);rw[uC];simp only[S7,tO,List.getElem_range];rcases Nat.lt_trichotomy i j with h|h|h
 .rw[zE j_,zD j_,zE h]
 .subst h;rw[zE j_,zE rfl]
 .rw[zD j_,zD j_,zD j_]
def Atf(n:Ai)(up:List Bool)(ranks costs:List Int)(j:Nat)(h:A2w n up ranks costs j=0):S7 n up ranks costs (j+1)=S7 n up ranks costs j:=by
 simp only[S7];refine vR (λi _=>?_);by_cases g:i<j
 .rw[zE j_,zE g]
 .by_cases l:i=j
  .subst l;rw[zE j_,zD g,h]
  .rw[zD j_,zD g]
def Xx(n:Ai)(up:List Bool)(ranks roots costs:List Int):Nat->List Int
 |0=>S7 n up ranks costs n.g.length
 |d+1=>if 0<=nS n up ranks roots costs d then (Xx n up ranks roots costs d).set (nS n up ranks roots costs d).toNat 1 else Xx n up ranks roots costs d
def Tn(n:Ai)(up:List Bool)(ranks roots costs:List Int):∀d,(Xx n up ranks roots costs d).length=n.g.length
 |0=>lS n up ranks costs _
 |d+1=>by
  rw[Xx];split
  .rw[yO,Tn]
  .rw[Tn]
def rolesS(n:Ai)(up:List Bool)(ranks roots costs:List Int)(p:Ac n=true)(J:up.length=n.x.length)(ak:Hj n=true)(P:ranks.length=n.j.length)(jj:roots.length=n.j.length)(R:costs.length=n.j.length)(hb:∀c∈costs,0<=c/\c<1000000000):Sp 154 [bU n up ranks roots costs] (.sl 1 Aa (Xx n up ranks roots costs n.j.length)):=cT F154 ntmps154 λF hF=>by
 have hf:=Lz p
 conv=>whnf
 refine Al (Cw Γ.toTy (d:=14) (n:=n.g.length) Aa 0 q_ q_ q_ q_ q_ q_ q_ q_ j_ j_ q_ q_ q_) q_ q_ ?_;rw[<-Atd n up ranks costs];refine oO ?_;refine Bl n.g.length (λj=>[(0,bU n up ranks roots costs),(3,.osl 14),(20,Aa n.g.length),(21,Aa j)]) (λj=>[(14,.row 1 Aa (S7 n up ranks costs j))]) []
  kU ?_
 intro j hj;refine gI ?_ ?_<;>intro h
 .have g:j<n.g.length:=by simpa using h
  have cx:=farS n up ranks (.sl 1 Aa roots) (.sl 1 Aa costs) rfl j p J g;have je:=Akc (up:=up) p g;have r:=lS n up ranks costs j;have i:A2w n up ranks costs j=if Jn n up j<0 then 0 else if Yg n ranks costs j (Jn n up j).toNat then 2 else 3:=rfl
  have l:=Ate n up ranks costs j g;have ls:=Atf n up ranks costs j;generalize Jn n up j=k at *;refine oO ?_;refine gF cx F230 ?_;constructor<;>intro h
  .have o:k<0:=zO h;rw[zE o]at i;refine gG ?_;exact A9 [] g ⟨kA,⟨.inl (zH (Ob.row 1 Aa) (ls i)),q_,z_⟩,q_,q_⟩
  have o:¬k<0:=zQ h;rw[zD o]at i;obtain ⟨m,rfl⟩:∃m:Nat,k=m:=⟨k.toNat,by omega⟩
  have t:=Ayt n up ranks roots costs j m p P R g j_;rw[yA]at i;refine oO ?_;refine gF t F231 ?_;constructor<;>intro h
  .rw[h,zE rfl]at i;rw[i]at l;refine oO ?_;refine⟨by omega,by omega,?_⟩
   conv=>whnf
   refine⟨q_,by omega,2,q_,q_,?_⟩
   conv=>whnf
   refine iW ?_;exact A9 [] g ⟨kA,⟨.inl (zH (Ob.row 1 Aa) l),q_,z_⟩,q_,q_⟩
  .rw[h]at i;simp only[Bool.false_eq_true,if_false]at i;rw[i]at l;refine oO ?_;refine⟨by omega,by omega,?_⟩
   conv=>whnf
   refine⟨q_,by omega,3,q_,q_,?_⟩
   conv=>whnf
   refine iW ?_;exact A9 [] g ⟨kA,⟨.inl (zH (Ob.row 1 Aa) l),q_,z_⟩,q_,q_⟩
 have dw:j=n.g.length:=by
  have:¬j<n.g.length:=kS h;omega
 subst dw;refine oO ?_;refine Bl n.j.length (λd=>[(0,bU n up ranks roots costs),(3,.osl 14),(47,Aa n.j.length),(48,Aa d)]) (λd=>[(14,.row 1 Aa (Xx n up ranks roots costs d))]) []
  kU ?_
 clear hj h;intro d a0;refine gI ?_ ?_<;>intro h
 .have g:d<n.j.length:=by simpa using h
  have I:=bestS n up ranks roots costs d p J ak P jj R hb j_;have jt:=@best_lt n up ranks roots costs d;have r:=Tn n up ranks roots costs d;have l:Xx n up ranks roots costs (d+1)=if 0<=nS n up ranks roots costs d then (Xx n up ranks roots costs d).set (nS n up ranks roots costs d).toNat 1 else Xx n up ranks roots costs d:=rfl
  generalize nS n up ranks roots costs d=k at *;refine oO ?_;refine gF I F232 ?_;constructor<;>intro h
  .have o:0<=k:=zO h;rw[zE o]at l;refine oO ?_;refine⟨o,by omega,?_⟩
   conv=>whnf
   refine⟨q_,by omega,1,q_,q_,?_⟩
   conv=>whnf
   refine iW ?_;exact A9 [] g ⟨kA,⟨.inl (zH (Ob.row 1 Aa) l),q_,z_⟩,q_,q_⟩
  .have o:¬0<=k:=zQ h;rw[zD o]at l;refine gG ?_;exact A9 [] g ⟨kA,⟨.inl (zH (Ob.row 1 Aa) l),q_,z_⟩,q_,q_⟩
 have gg:d=n.j.length:=by
  have:¬d<n.j.length:=kS h;omega
 subst gg;refine oO ?_;exact Ao 14 q_ dN
def Am4(n:Ai)(up:List Bool)(ranks:List Int)(roots costs:List Int):It:=[(0,.box (lQ n up ranks (.osl 1) (.osl 2))),(1,.row 1 Aa roots),(2,.row 1 Aa costs)]
def farR(n:Ai)(up:List Bool)(ranks roots costs:List Int)(i:Nat)(j:Ac n=true)(I:up.length=n.x.length)(hi:i<n.g.length):Sq 230 [.ptr 0 0,Aa i] (Am4 n up ranks roots costs) (Aa (Jn n up i)) (Am4 n up ranks roots costs):=cT F230 ntmps230 λF J=>by
 have P:=fF j hi;have R:=Lz j;have o:n.g[(i:Int).toNat]'j_=n.g[i]:=rfl;have r:Jn n up i=if n.g[i].ah<0||!(up.getD n.g[i].ah.toNat false) then -1 else (Af n.x n.g[i].ah).a+(Af n.x n.g[i].ah).b-i:=by
  rw[Jn,Ce hi]
 generalize hp:n.g[i]=p at *;have g:=λh=>Yt j (i:=p.ah.toNat) h
 conv=>whnf
 refine⟨q_,by omega,by omega,?_⟩;rw[o]
 conv=>whnf
 (repeat' (first|(refine⟨λh=>?_,λh=>?_⟩<;>(repeat (first|simp only[zK]at h|simp only[yC]at h|simp only[xH]at h|simp only[vE]at h))<;>((first|refine rg ?_|refine rd y_ ?_);(conv=>whnf)))|(refine⟨y_,?_⟩;((conv=>whnf);repeat((refine aT ?_);(refine oO ?_))))|(refine⟨by (first|omega|((have t:=g j_;unfold S2;omega))),by (first|omega|((have t:=g j_;unfold S2;omega))),?_⟩;((conv=>whnf)))|refine done rfl As [] (Am4 n up ranks roots costs) (λ_ h=>h) ?_ rfl kU))
 all_goals (refine zH Aa ?_;rw[r])
 .simp_all
 .have l:up.getD p.ah.toNat false=false:=by rw[Ce j_];assumption
  rw[l];simp
 .have l:up.getD p.ah.toNat false=true:=by rw[Ce j_];assumption
  rw[l,Aj j_]
  simp_all
def Jb(n:Ai)(up:List Bool)(x:Item)(q:List Item)(i:Nat):List Item :=
 if (n.g.getD i default).q=x.q/\0<=Jn n up i then lW q ⟨x.root,x.aj+(Af n.g (Jn n up i)).aj,(Af n.g (Jn n up i)).q⟩ else q
def Zs(n:Ai)(up:List Bool)(s:List Item×List Int×List Int):List Item×List Int×List Int :=
 let x:=(In s.1).getLast?.getD default
 let q:=(In s.1).dropLast
 if 0<=Af s.2.1 x.q then (q,s.2) else ((List.range n.g.length).foldl (Jb n up x) q,s.2.1.set x.q.toNat x.root,s.2.2.set x.q.toNat x.aj)
def Od(n:Ai)(up:List Bool):Nat->List Item×List Int×List Int->List Item×List Int×List Int
 |0,s=>s
 |f+1,s=>if s.1=[] then s else Od n up f (Zs n up s)
end Go.Sy.Zaa
namespace Go.Sy.Zaa
section
def oP(q:List Item)(i j:Nat)(hi:i<q.length)(g:j<q.length):(Kk q i j).Perm q:=by
 rw[Kk,Ce hi,Ce g];exact List.set_set_perm hi g
def Asd:∀(f:Nat) (q:List Item) (j:Nat),j<q.length->(upF f q j).Perm q
 |0,_,_,_=>.refl _
 |f+1,q,j,g=>by
  rw[upF];split
  .exact .refl _
  .split
   .exact(Asd f _ _ (by rw[Bu];omega)).trans (oP q _ _ j_ g)
   .exact .refl _
def Akh:∀(f:Nat) (q:List Item) (i n:Nat),i<q.length->n<=q.length->(J9 f q i n).1.Perm q
 |0,_,_,_,_,_=>.refl _
 |f+1,q,i,n,hi,g=>by
  rw[J9];split
  .rename_i h;have j:=Y8 q i n h;split
   .exact(Akh f _ _ n (by rw[Bu];omega) (by rw[Bu];exact g)).trans (oP q _ _ hi j_)
   .exact .refl _
  .exact .refl _
def Zu(q:List Item)(x:Item):(lW q x).Perm (x::q) :=
 (Asd _ _ _ qx).trans (List.perm_append_comm (l₁:=q) (l₂:=[x]))
def Vd(q:List Item)(x:Item):(lW q x).length=q.length+1:=by rw[lW,Ahx];simp
def fG(q:List Item)(i:q≠[]):(In q).Perm q:=by
 have g:0<q.length:=xP.2 i;exact(Akh _ _ _ _ (by rw[Bu];exact g) (by rw[Bu];omega)).trans (oP q _ _ g j_)
def Wt(q:List Item)(n:Nat):Prop:=∀c,0<c->c<n->c<q.length->Dr (q.getD c default) (q.getD ((c-1)/2) default)=false
def Z8{x y z:Item}(g:Dr y x=false)(i:Dr z y=false):Dr z x=false:=by
 unfold Dr at *
 grind
def A0x{q:List Item}{n:Nat}(h:Wt q n)(p:n<=q.length):∀c,c<n->Dr (q.getD c default) (q.getD 0 default)=false:=by
 intro c
 induction c using Nat.strongRecOn with
 |ind c i=>
  intro j;rcases uM c with g|g
  .subst g;unfold Dr;grind
  .have l:=h c g j j_;have o:=i ((c-1)/2) j_ j_;exact Z8 o l
def Ll(q:List Item)(i j c:Nat)(hi:i<q.length)(o:j<q.length):(Kk q i j).getD c default=if c=j then q.getD i default else if c=i then q.getD j default else q.getD c default:=by
 rw[Kk];simp only[wL,tE,yO];by_cases g:c=j
 .subst g;simp[o]
 .rw[zD (Ne.symm g),zD g];by_cases l:c=i
  .subst l;simp[hi]
  .rw[zD (Ne.symm l),zD l]
def Z9{x y:Item}(h:Dr x y=true):Dr y x=false:=by
 unfold Dr at *
 grind
structure UpInv(q:List Item)(j n:Nat):Prop where
 heap:∀c,0<c->c<n->c≠j->Dr (q.getD c default) (q.getD ((c-1)/2) default)=false
 cr:∀c,0<c->c<n->(c-1)/2=j->0<j->Dr (q.getD c default) (q.getD ((j-1)/2) default)=false
def Ase(n:Nat):∀(f:Nat) (q:List Item) (j:Nat),j<=f->j<n->n<=q.length->UpInv q j n->Wt (upF f q j) n
 |0,q,j,hf,hj,R,i=>by
  have:j=0:=by omega
  subst this;exact λc r J _=>i.heap c r J j_
 |f+1,q,j,hf,hj,R,i=>by
  rw[upF];split
  .rename_i r;subst r;exact λc r J _=>i.heap c r J j_
  .rename_i r;split
   .rename_i I;have hp:(j-1)/2<j:=by omega
    refine Ase n f _ _ j_ j_ (by rw[Bu];exact R) ⟨λc l o q9=>?_,λc l o me d8=>?_⟩
    .rw[Ll _ _ _ _ j_ j_,Ll _ _ _ _ j_ j_];by_cases g:c=j
     .subst g;rw[zE rfl,zD j_,zE rfl];exact Z9 I
     .rw[zD g,zD q9];by_cases p:(c-1)/2=j
      .rw[zE p];exact i.cr c l o p j_
      .rw[zD p];by_cases P:(c-1)/2=(j-1)/2
       .rw[zE P];have:=i.heap c l o g;rw[P]at this;exact Z8 (Z9 I) this
       .rw[zD P];exact i.heap c l o g
    .rw[Ll _ _ _ _ j_ j_,Ll _ _ _ _ j_ j_];have t:=i.heap ((j-1)/2) d8 j_ j_;rw[zD (show ((j-1)/2-1)/2≠j by omega),zD (show ((j-1)/2-1)/2≠(j-1)/2 by omega)];by_cases g:c=j
     .rw[zE g];exact t
     .rw[zD g,zD j_];have:=i.heap c l o g;rw[me]at this;exact Z8 t this
   .rename_i I;intro c l o _;by_cases g:c=j
    .subst g;simpa using I
    .exact i.heap c l o g
def Y2{q r:List Item}{c:Nat}(h:c<q.length):(q++r).getD c default=q.getD c default:=by
 simp[wL,xM h]
def Air(q:List Item)(x:Item)(h:Wt q q.length):Wt (lW q x) (lW q x).length:=by
 rw[Vd];refine Ase (q.length+1) _ _ _ (yG _) j_ qx ⟨λc g i j=>?_,λc g i l o=>by omega⟩;rw[Y2 j_,Y2 j_];exact h c g j_ j_
structure Bgo(q:List Item)(i n:Nat):Prop where
 heap:∀c,0<c->c<n->(c-1)/2≠i->Dr (q.getD c default) (q.getD ((c-1)/2) default)=false
 cr:∀c,0<c->c<n->(c-1)/2=i->0<i->Dr (q.getD c default) (q.getD ((i-1)/2) default)=false
def A71(q:List Item)(i n c:Nat)(_h:2*i+1<n)(p:0<c)(l:c<n)(hp:(c-1)/2=i):Dr (q.getD c default) (q.getD (J7 q i n) default)=false:=by
 have g:c=2*i+1\/c=2*i+2:=by omega
 unfold J7;split
 .rename_i j;rcases g with rfl|rfl
  .exact Z9 j.2
  .unfold Dr;grind
 .rename_i j;rcases g with rfl|rfl
  .unfold Dr;grind
  .cases o:Dr (q.getD (2*i+2) default) (q.getD (2*i+1) default) with
   |false=>rfl
   |true=>exact zW ⟨l,o⟩ j
def Aki(n:Nat):∀(f:Nat) (q:List Item) (i:Nat),n<=f+i->i<q.length->n<=q.length->Bgo q i n->Wt (J9 f q i n).1 n
 |0,q,i,hf,hi,P,l=>λc g r _=>l.heap c g r j_
 |f+1,q,i,hf,hi,P,l=>by
  rw[J9];split
  .rename_i h;have gu:=Y8 q i n h;have t:(J7 q i n-1)/2=i:=by unfold J7;split<;>omega
   have p:=λc=>A71 q i n c h
   generalize J7 q i n=k at *;split
   .rename_i I;refine Aki n f _ _ j_ (by rw[Bu];omega) (by rw[Bu];exact P) ⟨λc g o J=>?_,λc g o q9 bh=>?_⟩
    .rw[Ll _ _ _ _ hi j_,Ll _ _ _ _ hi j_,zD J];by_cases R:c=k
     .subst R;rw[zE rfl,zE t];exact Z9 I
     .rw[zD R];by_cases kv:c=i
      .subst kv;rw[zE rfl,zD j_];exact l.cr k j_ gu.1 t g
      .rw[zD kv];by_cases j:(c-1)/2=i
       .rw[zE j];exact p c g o j
       .rw[zD j];exact l.heap c g o j
    .rw[Ll _ _ _ _ hi j_,Ll _ _ _ _ hi j_];rw[zD j_,zD j_,t,zD j_,zE rfl];have:=l.heap c g o j_;rwa [q9]at this
   .rename_i I;intro c g o _;by_cases j:(c-1)/2=i
    .rw[j];exact Z8 (kS I) (p c g o j)
    .exact l.heap c g o j
  .exact λc g r _=>l.heap c g r j_
def Akg(n:Nat):∀(f:Nat) (q:List Item) (i c:Nat),i<n->n<=q.length->n<=c->(J9 f q i n).1.getD c default=q.getD c default
 |0,_,_,_,_,_,_=>rfl
 |f+1,q,i,c,hi,g,j=>by
  rw[J9];split
  .rename_i h;have l:=Y8 q i n h;split
   .rw[Akg n f _ _ c j_ (by rw[Bu];exact g) j,Ll _ _ _ _ j_ j_,zD j_,zD j_]
   .rfl
  .rfl
def Ats(q:List Item)(g:q≠[]):(In q).getLast (Ke g)=q.getD 0 default:=by
 have j:0<q.length:=xP.2 g;rw[List.getLast_eq_getElem,<-Ce (show (In q).length-1<(In q).length by rw[Kz];omega),Kz];by_cases i:q.length=1
 .have:In q=q:=by
   obtain ⟨x,rfl⟩:=List.length_eq_one_iff.1 i;rfl
  rw[this,i]
 .rw[In,Akg _ _ _ _ _ j_ (by rw[Bu];omega) (yG _),Ll _ _ _ _ j j_,zE rfl]
def A5x(q:List Item)(g:q≠[]):(In q).dropLast++[q.getD 0 default]=In q:=by
 rw[<-Ats q g];exact uS (Ke g)
def Baf(q:List Item)(g:q≠[]):(q.getD 0 default::(In q).dropLast).Perm q :=
 ((List.perm_append_comm (l₁:=[q.getD 0 default]) (l₂:=(In q).dropLast)).trans (by rw[A5x q g])).trans (fG q g)
def Bag(q:List Item)(l:q≠[])(h:Wt q q.length):Wt (In q).dropLast (In q).dropLast.length:=by
 have j:0<q.length:=xP.2 l;have o:(In q).dropLast.length=q.length-1:=by rw[tG,Kz]
 have p:Wt (In q) (q.length-1):=by
  rw[In];refine Aki (q.length-1) _ _ _ j_ (by rw[Bu];exact j) (by rw[Bu];omega) ⟨λc i g hp=>?_,λc i g hp h=>by omega⟩;rw[Ll _ _ _ _ j j_,Ll _ _ _ _ j j_,zD j_,zD j_,zD j_,zD hp];exact h c i j_ j_
 intro c i g _;rw[o]at g;have r:=Kz q;have e:∀k,k<q.length-1->(In q).dropLast.getD k default=(In q).getD k default:=λk t=>by
  rw[Ce (show k<(In q).dropLast.length by omega),Ce (show k<(In q).length by omega),List.getElem_dropLast]
 rw[e c g,e _ j_];exact p c i g j_
def A5y(q:List Item)(h:Wt q q.length):∀x∈q,Dr x (q.getD 0 default)=false:=λx i=>by
 obtain ⟨c,g,rfl⟩:=wH i;have:=A0x h (yG _) c g;rwa [Ce g]at this
def K6(ranks:List Int)(j:Nat):List Item:=(List.range j).foldl (λq (i:Nat)=>lW q ⟨ranks.getD i 0,0,i⟩) []
def T1(ranks:List Int)(j:Nat):K6 ranks (j+1)=lW (K6 ranks j) ⟨ranks.getD j 0,0,j⟩:=by
 rw[K6,wW,xS];rfl
def Xw(ranks:List Int):∀j,(K6 ranks j).length=j
 |0=>rfl
 |j+1=>by rw[T1,Vd,Xw ranks j]
def Ach(roots:List Int):Nat:=roots.countP (λr=>decide (r<0))
def Mi(s:List Item×List Int×List Int):Nat:=41*Ach s.2.1+s.1.length
structure Ss(n:Ai)(s:List Item×List Int×List Int):Prop where
 bt:s.2.1.length=n.j.length
 bx:s.2.2.length=n.j.length
 items:∀x∈s.1,0<=x.q/\x.q<n.j.length/\0<=x.root/\0<=x.aj/\x.aj+65535*Ach s.2.1<=65535*n.j.length
 bq:s.1.length+40*Ach s.2.1<=1000
def Ba6(roots:List Int):Ach roots<=roots.length:=List.countP_le_length
def A6i{roots:List Int}{i:Nat}{v:Int}(h:i<roots.length)(j:roots[i]<0)(l:0<=v):Ach (roots.set i v)+1=Ach roots:=by
 have o:0<roots.countP (λr=>decide (r<0)):=List.countP_pos_iff.2 ⟨roots[i],zI h,kS j⟩;have g:¬v<0:=by omega
 rw[Ach,Ach,List.countP_set h];simp only[j,g,decide_true,decide_false,if_true,Bool.false_eq_true,if_false];omega
def Ap5(n:Ai)(up:List Bool)(x:Item)(j:Ac n=true)(o:Hj n=true){m:Nat}(I:0<=x.root/\0<=x.aj/\x.aj+65535*(m+1)<=65535*n.j.length)(q:List Item)(p:∀y∈q,0<=y.q/\y.q<n.j.length/\0<=y.root/\0<=y.aj/\y.aj+65535*m<=65535*n.j.length)(i:Nat)(hi:i<n.g.length):(∀y∈Jb n up x q i,0<=y.q/\y.q<n.j.length/\0<=y.root/\0<=y.aj/\y.aj+65535*m<=65535*n.j.length)/\(Jb n up x q i).length<=q.length+1:=by
 rw[Jb];split
 .rename_i h;have J:=Akc j hi h.2;have r:(Jn n up i).toNat<n.g.length:=by omega
  have P:=cP j r;have t:1<=n.g[(Jn n up i).toNat].aj/\n.g[(Jn n up i).toNat].aj<=65535:=by
   simp only[Hj,xH,wE]at o;have:=o _ (zI r);simp only[M9,yR,zK,vY]at this;omega
  have e:Af n.g (Jn n up i)=n.g[(Jn n up i).toNat]:=Aj (l:=n.g) (i:=Jn n up i) j_;rw[e];refine⟨λy g=>?_,by rw[Vd];omega⟩;rcases yH.1 ((Zu q _).mem_iff.1 g) with rfl|g
  .simp only;omega
  .exact p y g
 .exact⟨p,by omega⟩
def Ain(n:Ai)(up:List Bool)(x:Item)(g:Ac n=true)(j:Hj n=true){m:Nat}(l:0<=x.root/\0<=x.aj/\x.aj+65535*(m+1)<=65535*n.j.length)(q:List Item)(o:∀y∈q,0<=y.q/\y.q<n.j.length/\0<=y.root/\0<=y.aj/\y.aj+65535*m<=65535*n.j.length):∀i,i<=n.g.length ->
  (∀y∈(List.range i).foldl (Jb n up x) q,0<=y.q/\y.q<n.j.length/\0<=y.root/\0<=y.aj/\y.aj+65535*m<=65535*n.j.length)/\((List.range i).foldl (Jb n up x) q).length<=q.length+i
 |0,_=>⟨o,by simp⟩
 |i+1,hi=>by
  obtain ⟨p,t⟩:=Ain n up x g j l q o i j_;rw[wW,xS];obtain ⟨r,I⟩:=Ap5 n up x g j l _ p i j_;exact⟨r,by simp only[vG,tN];omega⟩
def Ajk{q:List Item}(g:q≠[]):(In q).getLast?.getD default=(In q).getLast (Ke g):=by
 rw[List.getLast?_eq_some_getLast (Ke g)];rfl
def V2(n:Ai)(up:List Bool)(r:Ac n=true)(I:Hj n=true)(s:List Item×List Int×List Int)(g:Ss n s)(j:s.1≠[]):Ss n (Zs n up s)/\Mi (Zs n up s)<Mi s:=by
 have hf:=Lz r;have p:=g.items _ ((fG s.1 j).mem_iff.1 (List.getLast_mem (Ke j)));have t:∀y∈(In s.1).dropLast,y∈s.1:=λy o=>(fG s.1 j).mem_iff.1 ((List.dropLast_sublist _).subset o)
 have h0:0<s.1.length:=xP.2 j;have gg:(In s.1).dropLast.length+1=s.1.length:=by rw[tG,Kz];omega
 have ji:=g.bq;rw[Zs,Ajk j];generalize (In s.1).getLast (Ke j)=x at *;split
 .exact⟨⟨g.bt,g.bx,λy o=>g.items y (t y o),by simp only;omega⟩,by unfold Mi;simp only;omega⟩
 .rename_i J;have P:x.q.toNat<s.2.1.length:=by rw[g.bt];omega
  rw[Aj (l:=s.2.1) (i:=x.q) (by rw[g.bt];omega)]at J;have hm:=A6i P j_ p.2.2.1;obtain ⟨R,h2⟩:=Ain n up x r I (m:=Ach (s.2.1.set x.q.toNat x.root)) ⟨p.2.2.1,p.2.2.2.1,by have:=p.2.2.2.2;omega⟩ (In s.1).dropLast (λy o=>by have:=g.items y (t y o);omega) n.g.length (yG _);exact⟨⟨by simp only[yO];exact g.bt,by simp only[yO];exact g.bx,R,by simp only;omega⟩,by unfold Mi;simp only;omega⟩
def Afq(n:Ai)(up:List Bool)(i:Ac n=true)(j:Hj n=true):∀(f g:Nat) (s:List Item×List Int×List Int),Ss n s->Mi s<=f->Mi s<=g->Od n up f s=Od n up g s
 |0,0,_,_,_,_=>rfl
 |0,g+1,s,_,h,_=>by
  have:s.1=[]:=yF (by unfold Mi at h;omega);rw[Od,Od,zE this]
 |f+1,0,s,_,_,h=>by
  have:s.1=[]:=yF (by unfold Mi at h;omega);rw[Od,Od,zE this]
 |f+1,g+1,s,l,r,t=>by
  rw[Od,Od];split
  .rfl
  .rename_i o;obtain ⟨p,I⟩:=V2 n up i j s l o;exact Afq n up i j f g _ p j_ j_
def Un(n:Ai)(up:List Bool)(s:List Item×List Int×List Int):List Item×List Int×List Int:=Od n up (Mi s) s
def Azd(n:Ai)(up:List Bool)(s:List Item×List Int×List Int)(h:s.1=[]):Un n up s=s:=by
 rw[Un];cases Mi s with
 |zero=>rfl
 |succ m=>rw[Od,zE h]
def Atk(n:Ai)(up:List Bool)(g:Ac n=true)(i:Hj n=true)(s:List Item×List Int×List Int)(l:Ss n s)(j:s.1≠[]):Un n up s=Un n up (Zs n up s):=by
 obtain ⟨o,p⟩:=V2 n up g i s l j;rw[Un,Un];obtain ⟨m,hm⟩:∃m,Mi s=m+1:=⟨Mi s-1,by omega⟩
 rw[hm,Od,zD j];exact Afq n up g i _ _ _ o j_ (yG _)
def Afg(ranks:List Int)(m:Nat)(i:∀r∈ranks,0<=r):∀j,j<=ranks.length->∀y∈K6 ranks j,0<=y.q/\y.q<m+ranks.length/\0<=y.root/\y.aj=0
 |0,_,y,g=>by simp[K6]at g
 |j+1,p,y,g=>by
  rw[T1]at g;rcases yH.1 ((Zu _ _).mem_iff.1 g) with rfl|g
  .have o:=i (ranks[j]'j_) (zI _);have l:(0:Int)<=(j:Int)/\(j:Int)<m+ranks.length:=by omega
   exact⟨l.1,l.2,by rw[Ce (show j<ranks.length by omega)];exact o,q_⟩
  .exact Afg ranks m i j j_ y g
def Am2(n:Ai)(ranks roots costs:List Int)(g:Ac n=true)(p:ranks.length=n.j.length)(i:roots.length=n.j.length)(j:costs.length=n.j.length)(l:∀r∈ranks,0<=r):Ss n (K6 ranks ranks.length,roots,costs):=by
 have t:=Lz g;have hm:=Ba6 roots;refine⟨i,j,λy o=>?_,by simp only[Xw];omega⟩;have:=Afg ranks 0 l _ (yG _) y o;simp only;omega
def Le2(r c g i:Int):Prop:=r<g\/(r=g/\c<=i)
def A64{x y:Item}(h:Dr y x=false):Le2 x.root x.aj y.root y.aj:=by
 simp only[Dr,wY,yC,xC,zU]at h;unfold Le2;omega
def A63{a b c d e f:Int}(g:Le2 a b c d)(i:Le2 c d e f):Le2 a b e f:=by
 unfold Le2 at *;omega
def Au9{a b c d m:Int}(g:Le2 a b c d)(hm:0<=m):Le2 a b c (d+m):=by
 unfold Le2 at *;omega
def Amn(n:Ai)(up:List Bool)(i j:Nat):Prop:=i<n.g.length/\Jn n up i=j
def dI{n:Ai}{up:List Bool}(g:Ac n=true){i j:Nat}(h:Amn n up i j):j<n.g.length:=by
 have:=Akc (up:=up) g h.1 (by rw[h.2];omega);rw[h.2]at this;omega
def An1{n:Ai}{up:List Bool}(p:Ac n=true){i j:Nat}(h:Amn n up i j):∃k:Nat,k<n.x.length/\(Af n.g i).ah=k/\(Af n.g j).ah=k/\up.getD k false=true/\(((Af n.x k).a=i/\(Af n.x k).b=j)\/((Af n.x k).a=j/\(Af n.x k).b=i))/\Mh n i≠Mh n j:=by
 have hj:=dI p h;obtain ⟨hi,r⟩:=h;have hp:=Zq p hi;have bd:=fF p hi;simp only[Qj,zG,yR,yL]at hp;have hp:=hp.2;have e:Af n.g i=n.g[i]:=Aj (l:=n.g) (i:=(i:Int)) (kS hi);unfold Jn at r;rw[Ce hi]at r;simp only at r;split at r
 .omega
 .rename_i I;simp only[yR,zK,vY,xH,Bool.not_eq_false]at I;rcases hp with hp|hp
  .omega
  .have J:n.g[i].ah.toNat<n.x.length:=by omega
   have P:=Aih p J;have he:=Yt p J;have R:((n.g[i].ah.toNat:Nat):Int)=n.g[i].ah:=by omega
   refine⟨n.g[i].ah.toNat,J,by rw[e];omega,?_⟩;simp only[aU,zG,yL,xF]at P;obtain ⟨⟨⟨_,t⟩,h1⟩,h2⟩:=P;rw[R];rw[Aj (l:=n.x) (i:=n.g[i].ah) j_]at r hp|-;generalize n.x[n.g[i].ah.toNat]=l at *;rcases hp.2 with g|o
   .have o:l.b=j:=by omega
    rw[g,o]at t;rw[o]at h2;exact⟨by omega,kS I.2,.inl ⟨g,o⟩,t⟩
   .have g:l.a=j:=by omega
    rw[g,o]at t;rw[g]at h1;exact⟨by omega,kS I.2,.inr ⟨g,o⟩,λh=>t h.symm⟩
def Avo{n:Ai}{up:List Bool}(g:Ac n=true){i j:Nat}(h:Amn n up i j):Amn n up j i:=by
 have l:=dI g h;obtain ⟨k,r,_,o,p,t,_⟩:=An1 g h;refine⟨l,?_⟩;unfold Jn;have e:n.g.getD j default=Af n.g j:=rfl;rw[e];simp only[o,yA,p];rw[zD qx];omega
def fH{n:Ai}(g:Ac n=true){i:Nat}(hi:i<n.g.length):0<=Mh n i/\Mh n i<n.j.length:=by
 rw[Mh,Aj (l:=n.g) (i:=(i:Int)) (kS hi)];exact cP g hi
def Der(n:Ai)(up:List Bool)(K R C:Int->Int)(r c d:Int):Prop :=
 (r=K d/\c=0)\/∃i j:Nat,Amn n up i j/\Mh n i=d/\0<=R (Mh n j)/\r=R (Mh n j)/\c=C (Mh n j)+Ab4 n i
structure Dij(n:Ai)(up:List Bool)(K:Int->Int)(q:List Item)(R C:Int->Int):Prop where
 heap:Wt q q.length
 items:∀x∈q,Der n up K R C x.root x.aj x.q
 cg:∀d:Int,0<=d->d<n.j.length->0<=R d->Der n up K R C (R d) (C d) d
 bc:∀d:Int,0<=d->d<n.j.length->R d<0->⟨K d,0,d⟩∈q
 cn:∀i j:Nat,Amn n up i j->R (Mh n i)<0->0<=R (Mh n j)->⟨R (Mh n j),C (Mh n j)+Ab4 n i,Mh n i⟩∈q
 cp:∀d:Int,0<=d->d<n.j.length->0<=R d->∀x∈q,Le2 (R d) (C d) x.root x.aj
 self:∀d:Int,0<=d->d<n.j.length->0<=R d->Le2 (R d) (C d) (K d) 0
 cs:∀i j:Nat,Amn n up i j->0<=R (Mh n i)->0<=R (Mh n j)->Le2 (R (Mh n i)) (C (Mh n i)) (R (Mh n j)) (C (Mh n j)+Ab4 n i)
def Ail(n:Ai)(up:List Bool)(x:Item)(q:List Item)(y:Item):∀m,y∈(List.range m).foldl (Jb n up x) q↔y∈q\/∃i,i<m/\Mh n i=x.q/\0<=Jn n up i/\y=⟨x.root,x.aj+(Af n.g (Jn n up i)).aj,(Af n.g (Jn n up i)).q⟩
 |0=>by simp
 |m+1=>by
  rw[wW,xS];simp only[vG,tN];rw[Jb];have p:=Ail n up x q y m;have e:(n.g.getD m default).q=Mh n m:=rfl;rw[e];split
  .rename_i h;rw[(Zu _ _).mem_iff,yH,p];constructor
   .rintro (g|g|⟨i,g,j⟩)
    .exact .inr ⟨m,by omega,h.1,h.2,g⟩
    .exact .inl g
    .exact .inr ⟨i,by omega,j⟩
   .rintro (g|⟨i,g,j,l,o⟩)
    .exact .inr (.inl g)
    .by_cases hm:i=m
     .subst hm;exact .inl o
     .exact .inr (.inr ⟨i,by omega,j,l,o⟩)
  .rename_i h;rw[p];constructor
   .rintro (g|⟨i,g,j⟩)
    .exact .inl g
    .exact .inr ⟨i,by omega,j⟩
   .rintro (g|⟨i,g,j,l,o⟩)
    .exact .inl g
    .by_cases hm:i=m
     .subst hm;exact zW ⟨j,l⟩ h
     .exact .inr ⟨i,by omega,j,l,o⟩
def Afp(n:Ai)(up:List Bool)(x:Item)(q:List Item)(h:Wt q q.length):∀m,Wt ((List.range m).foldl (Jb n up x) q) ((List.range m).foldl (Jb n up x) q).length
 |0=>h
 |m+1=>by
  rw[wW,xS];simp only[vG,tN];have g:=Afp n up x q h m;rw[Jb];split
  .exact Air _ _ g
  .exact g
def Akm{n:Ai}{up:List Bool}{K R C g l:Int->Int}{r c d:Int}(h:Der n up K R C r c d)(t:∀e,0<=R e->g e=R e/\l e=C e):Der n up K g l r c d:=by
 rcases h with h|⟨i,j,I,J,o,P,h5⟩
 .exact .inl h
 .obtain ⟨p,e2⟩:=t _ o;exact .inr ⟨i,j,I,J,by rw[p];exact o,by rw[p];exact P,by rw[e2];exact h5⟩
def Bc0{n:Ai}{up:List Bool}{K R C:Int->Int}{q g:List Item}{x:Item}(h:Dij n up K q R C)(hp:(x::g).Perm q)(I:Wt g g.length)(p:0<=R x.q):Dij n up K g R C:=by
 have hm:∀y,y∈q↔y=x\/y∈g:=λy=>by rw[<-hp.mem_iff,yH]
 refine⟨I,λy r=>h.items y ((hm y).2 (.inr r)),h.cg,λd t l o=>?_,λi j J l o=>?_,λd t l o y r=>h.cp d t l o y ((hm y).2 (.inr r)),h.self,h.cs⟩
 .rcases (hm _).1 (h.bc d t l o) with e|e
  .rw[<-e]at p;simp only at p;omega
  .exact e
 .rcases (hm _).1 (h.cn i j J l o) with e|e
  .rw[<-e]at p;simp only at p;omega
  .exact e
def Bcz{n:Ai}{up:List Bool}{K R C R' C':Int->Int}{q J:List Item}{x:Item}(hr:Ac n=true)(ak:Hj n=true)(h:Dij n up K q R C)(hp:(x::J).Perm q)(hh:Wt J J.length)(a2:∀y∈q,Dr y x=false)(hx:R x.q<0)(jl:0<=x.root)(_hxd:0<=x.q/\x.q<n.j.length)(p:∀e,R' e=if e=x.q then x.root else R e)(hC:∀e,C' e=if e=x.q then x.aj else C e):Dij n up K ((List.range n.g.length).foldl (Jb n up x) J) R' C':=by
 have hm:∀y,y∈q↔y=x\/y∈J:=λy=>by rw[<-hp.mem_iff,yH]
 have hn:=λy=>Ail n up x J y n.g.length
 have I:∀e,0<=R e->R' e=R e/\C' e=C e:=λe he=>by
  have:e≠x.q:=λh=>by rw[h]at he;omega
  rw[p,hC,zD this,zD this];exact⟨q_,q_⟩
 have t7:R' x.q=x.root:=by rw[p,zE rfl]
 have x5:C' x.q=x.aj:=by rw[hC,zE rfl]
 have a0:x∈q:=(hm x).2 (.inl rfl);have a1:∀y∈q,Le2 x.root x.aj y.root y.aj:=λy P=>A64 (a2 y P)
 have ay:∀y,y∈(List.range n.g.length).foldl (Jb n up x) J↔y∈J\/∃i j:Nat,Amn n up i j/\Mh n i=x.q/\y=⟨x.root,x.aj+Ab4 n j,Mh n j⟩:=λy=>by
  rw[hn y];constructor
  .rintro (l|⟨i,l,g,h3,h4⟩)
   .exact .inl l
   .obtain ⟨j,hj⟩:∃j:Nat,Jn n up i=j:=⟨(Jn n up i).toNat,by omega⟩
    rw[hj]at h4;exact .inr ⟨i,j,⟨l,hj⟩,g,h4⟩
  .rintro (l|⟨i,j,l,g,h3⟩)
   .exact .inl l
   .refine .inr ⟨i,l.1,g,by rw[l.2];omega,?_⟩;rw[l.2];exact h3
 refine⟨Afp n up x J hh _,λy P=>?_,λd h0 l g=>?_,λd h0 l g=>?_,λi j df l g=>?_,λd h0 l g y P=>?_,λd h0 l g=>?_,λi j df l g=>?_⟩
 .rcases (ay y).1 P with P|⟨i,j,l,g,rfl⟩
  .exact Akm (h.items y ((hm y).2 (.inr P))) I
  .exact .inr ⟨j,i,Avo hr l,q_,by rw[g,t7];exact jl,by rw[g,t7],by rw[g,x5]⟩
 .by_cases o:d=x.q
  .subst o;rw[t7,x5];exact Akm (h.items x a0) I
  .rw[p,zD o]at g;obtain ⟨r,t⟩:=I d g;rw[r,t];exact Akm (h.cg d h0 l g) I
 .have o:d≠x.q:=λe=>by rw[e,t7]at g;omega
  rw[p,zD o]at g;refine(ay _).2 (.inl ?_);rcases (hm _).1 (h.bc d h0 l g) with e|e
  .exact zW (zH Item.q e) o
  .exact e
 .have o:Mh n i≠x.q:=λe=>by rw[e,t7]at l;omega
  rw[p,zD o]at l;by_cases hj:Mh n j=x.q
  .rw[hj,t7,x5];exact(ay _).2 (.inr ⟨j,i,Avo hr df,hj,q_⟩)
  .rw[p,zD hj]at g;obtain ⟨r,t⟩:=I _ g;rw[r,t];refine(ay _).2 (.inl ?_);rcases (hm _).1 (h.cn i j df l g) with e|e
   .exact zW (zH Item.q e) o
   .exact e
 .have a3:Le2 (R' d) (C' d) x.root x.aj:=by
   by_cases o:d=x.q
   .subst o;rw[t7,x5];exact .inr ⟨rfl,wB _⟩
   .rw[p,zD o]at g;obtain ⟨r,t⟩:=I d g;rw[r,t];exact h.cp d h0 l g x a0
  rcases (ay y).1 P with P|⟨i,j,h3,_,rfl⟩
  .exact A63 a3 (a1 y ((hm y).2 (.inr P)))
  .exact Au9 a3 (by have:=At0 ak (dI hr h3);omega)
 .by_cases o:d=x.q
  .subst o;rw[t7,x5];exact a1 _ (h.bc _ h0 l hx)
  .rw[p,zD o]at g;obtain ⟨r,t⟩:=I d g;rw[r,t];exact h.self d h0 l g
 .have hj:=dI hr df;have a4:=At0 ak df.1;have ag:=(An1 hr df).choose_spec.2.2.2.2.2;by_cases o:Mh n i=x.q
  .rw[o,t7,x5];have wb:Mh n j≠x.q:=λe=>ag (by rw[o,e])
   rw[p,zD wb]at g;obtain ⟨r,t⟩:=I _ g;rw[r,t];exact a1 _ (h.cn i j df (by rw[o];exact hx) g)
  .rw[p,zD o]at l;obtain ⟨r,t⟩:=I _ l;rw[r,t];by_cases wb:Mh n j=x.q
   .rw[wb,t7,x5];have gg:=fH hr df.1;exact Au9 (h.cp _ gg.1 gg.2 l x a0) j_
   .rw[p,zD wb]at g;obtain ⟨e3,e4⟩:=I _ g;rw[e3,e4];exact h.cs i j df l g
def atI(l:List Int)(e:Int):Int:=if e<0 then -1 else Af l e
def Wr{l:List Int}{e:Int}(h:0<=e):atI l e=Af l e:=by rw[atI,zD j_]
def A3x{l:List Int}{d v:Int}(j:0<=d)(o:d<l.length)(e:Int):atI (l.set d.toNat v) e=if e=d then v else atI l e:=by
 by_cases g:e<0
 .rw[atI,zE g,zD j_,atI,zE g]
 .rw[atI,zD g,atI,zD g,Af,Af,tE];by_cases i:e=d
  .subst i;rw[zE rfl,zE rfl,zE j_];rfl
  .rw[zD j_,zD i]
structure A8k(n:Ai)(up:List Bool)(ranks:List Int)(s:List Item×List Int×List Int):Prop where
 inv:Ss n s
 co:Dij n up (atI ranks) s.1 (atI s.2.1) (atI s.2.2)
 cm:∀c∈s.2.2,0<=c/\c<=1000000
def Aze(n:Ai)(up:List Bool)(ranks:List Int)(p:Ac n=true)(t:Hj n=true)(s:List Item×List Int×List Int)(g:A8k n up ranks s)(l:s.1≠[]):A8k n up ranks (Zs n up s):=by
 have hf:=Lz p;have o:=(V2 n up p t s g.inv l).1;have r:=Baf s.1 l;have I:=Bag s.1 l g.co.heap;have x6:=A5y s.1 g.co.heap;have i:=g.inv.items _ (r.mem_iff.1 (List.mem_cons_self ..));have wq:=g.inv.bt;have gu:=g.inv.bx;have J:=g.co;have P:=g.cm;rw[Zs,Ajk l,Ats s.1 l]at *;generalize s.1.getD 0 default=x at *;try simp only at *
 have R:Af s.2.1 x.q=atI s.2.1 x.q:=(Wr i.1).symm;rw[R];rw[R]at o;split
 .rename_i j;rw[zE j]at o;exact⟨o,Bc0 J r I j,P⟩
 .rename_i j;rw[zD j]at o;refine⟨o,Bcz p t J r I x6 j_ i.2.2.1 ⟨i.1,i.2.1⟩ (A3x i.1 j_) (A3x i.1 j_),λc j=>?_⟩;rcases tA j with h|h
  .exact P c h
  .omega
def Aio(n:Ai)(up:List Bool)(ranks:List Int)(g:Ac n=true)(i:Hj n=true):∀(f:Nat) (s:List Item×List Int×List Int),A8k n up ranks s->Mi s<=f->A8k n up ranks (Od n up f s)/\(Od n up f s).1=[]
 |0,s,h,j=>⟨h,yF (by unfold Mi at j;rw[Od];omega)⟩
 |f+1,s,h,j=>by
  rw[Od];split
  .rename_i o;exact⟨h,o⟩
  .rename_i l;exact Aio n up ranks g i f _ (Aze n up ranks g i s h l) (by have:=(V2 n up g i s h.inv l).2;omega)
structure A17(n:Ai)(up:List Bool)(ranks roots costs:List Int):Prop where
 bt:roots.length=n.j.length
 bx:costs.length=n.j.length
 cm:∀c∈costs,0<=c/\c<=1000000
 root:∀d:Int,0<=d->d<n.j.length->0<=Af roots d
 self:∀d:Int,0<=d->d<n.j.length->Le2 (Af roots d) (Af costs d) (Af ranks d) 0
 cs:∀i j:Nat,Amn n up i j->Le2 (Af roots (Mh n i)) (Af costs (Mh n i)) (Af roots (Mh n j)) (Af costs (Mh n j)+Ab4 n i)
 der:∀d:Int,0<=d->d<n.j.length->(Af roots d=Af ranks d/\Af costs d=0)\/∃i j:Nat,Amn n up i j/\Mh n i=d/\Af roots d=Af roots (Mh n j)/\Af costs d=Af costs (Mh n j)+Ab4 n i
def A42(n:Ai)(up:List Bool)(ranks:List Int)(o:Ac n=true)(s:List Item×List Int×List Int)(h:A8k n up ranks s)(he:s.1=[]):A17 n up ranks s.2.1 s.2.2:=by
 have p:=h.co;rw[he]at p;have r:∀d:Int,0<=d->d<n.j.length->0<=atI s.2.1 d:=λd g l=>by
  by_cases hc:0<=atI s.2.1 d
  .exact hc
  .have:=p.bc d g l j_;simp at this
 refine⟨h.inv.bt,h.inv.bx,h.cm,λd g l=>?_,λd g l=>?_,λi j J=>?_,λd g l=>?_⟩
 .have:=r d g l;rwa [Wr g]at this
 .have:=p.self d g l (r d g l);simpa only [Wr g] using this
 .have hi:=fH o J.1;have t:=fH o (dI o J);have:=p.cs i j J (r _ hi.1 hi.2) (r _ t.1 t.2);simpa only [Wr hi.1,Wr t.1] using this
 .rcases p.cg d g l (r d g l) with I|⟨i,j,I,h4,_,P,R⟩
  .simp only[Wr g]at I;exact .inl I
  .have t:=fH o (dI o I);simp only[Wr g,Wr t.1]at P R;exact .inr ⟨i,j,I,h4,P,R⟩
def Aed(ranks:List Int)(y:Item):∀j,y∈K6 ranks j↔∃i,i<j/\y=⟨ranks.getD i 0,0,i⟩
 |0=>by simp[K6]
 |j+1=>by
  rw[T1,(Zu _ _).mem_iff,yH,Aed ranks y j];constructor
  .rintro (h|⟨i,l,g⟩)
   .exact⟨j,by omega,h⟩
   .exact⟨i,by omega,g⟩
  .rintro ⟨i,l,g⟩;by_cases h:i=j
   .subst h;exact .inl g
   .exact .inr ⟨i,by omega,g⟩
def Ah4(ranks:List Int):∀j,Wt (K6 ranks j) (K6 ranks j).length
 |0=>λc _ g _=>by simp[K6]at g
 |j+1=>by
  rw[T1];exact Air _ _ (Ah4 ranks j)
def Aly{v:Int}{m:Nat}{d:Int}(g:d<m)(i:0<=d):Af (List.replicate m v) d=v:=by
 rw[Aj kO];simp
def A4z(n:Ai)(up:List Bool)(ranks:List Int)(p:Ac n=true)(P:ranks.length=n.j.length)(R:∀r∈ranks,0<=r):A8k n up ranks (K6 ranks ranks.length,List.replicate n.j.length (-1),List.replicate n.j.length 0):=by
 have t:∀d:Int,0<=d->d<n.j.length->atI (List.replicate n.j.length (-1)) d=-1:=λd l g=>by rw[Wr l,Aly g l]
 refine⟨Am2 n ranks _ _ p P qx qx R,⟨Ah4 ranks _,λx hx=>?_,λd l g o=>?_,λd l g o=>?_,λi j J g o=>?_,λd l g o=>?_,λd l g o=>?_,λi j J g o=>?_⟩,λc hc=>?_⟩
 .obtain ⟨i,g,rfl⟩:=(Aed ranks x _).1 hx;refine .inl ⟨?_,q_⟩;simp only;rw[Wr j_,Aj (kS g),Ce g];rfl
 .rw[t d l g]at o;omega
 .refine(Aed ranks _ _).2 ⟨d.toNat,by omega,?_⟩;rw[Wr l,Aj j_,Ce j_,yQ l]
 .have I:=fH p (dI p J);rw[t _ I.1 I.2]at o;omega
 .rw[t d l g]at o;omega
 .rw[t d l g]at o;omega
 .have I:=fH p (dI p J);rw[t _ I.1 I.2]at o;omega
 .have:=List.eq_of_mem_replicate hc;omega
def cM(n:Ai)(up:List Bool)(ranks:List Int):List Item×List Int×List Int:=Un n up (K6 ranks ranks.length,List.replicate n.j.length (-1),List.replicate n.j.length 0)
def Alo(n:Ai)(up:List Bool)(ranks:List Int)(g:Ac n=true)(i:Hj n=true)(j:ranks.length=n.j.length)(l:∀r∈ranks,0<=r):A17 n up ranks (cM n up ranks).2.1 (cM n up ranks).2.2:=by
 obtain ⟨o,p⟩:=Aio n up ranks g i _ _ (A4z n up ranks g j l) (yG _);exact A42 n up ranks g _ o p
section
variable {n:Ai} {up:List Bool} {ranks roots costs:List Int}
def rolesL(n:Ai)(up:List Bool)(ranks roots costs:List Int):List Int:=Xx n up ranks roots costs n.j.length
def Bcj(g:List Int)(l:eT):Bool:=Li [Af g l.a,Af g l.b] 1&&Li [Af g l.a,Af g l.b] 2
def fwdL(n:Ai)(g:List Int):List Bool:=n.x.map (Bcj g)
end
open Go.Proofs Go.Proofs.Tryz
def G_lit{C:Cx}{k:List KI}{s:SS}(d:Nat){sz:Nat}{c:Type}(e:c->SV)(l:List c){o:List SV}(h:s.h d=.lit sz o)(r:l.map e=o)(J:G C k ⟨s.σ,upd s.h d (.row sz e l)⟩):G C k s:=λm a w p=>by
 refine J m a w ⟨p.defers,p.size,p.inv,p.ctx,p.ax,λj=>?_⟩;show B3 m w j (upd s.h d (.row sz e l) j);by_cases t:j=d
 .subst t;rw[C2];have I:=p.obj j;rw[h]at I;have g:l.length=o.length:=by rw[<-r,yS]
  obtain ⟨b,cap,cs,T,P,R,e2,e3,e4,e5,e6⟩:=I;exact .inr ⟨b,cap,cs,T,P,by rw[g];exact R,e2,e3,e4,by omega,λi x hx=>by rw[g];exact e6 i x (Yi r i x hx)⟩
 .rw[D7 _ _ t];exact p.obj j
attribute [local irreducible]G DR
set_option maxRecDepth 100000
def Aim(n:Ai)(up:List Bool)(x:Item)(q:List Item):∀i,((List.range i).foldl (Jb n up x) q).length<=q.length+i
 |0=>by simp
 |i+1=>by
  have:=Aim n up x q i;rw[wW,xS];simp only[vG,tN];rw[Jb];split
  .rw[Vd];omega
  .omega
def reachS(n:Ai)(up:List Bool)(ranks roots costs:List Int)(hr:Ac n=true)(hu:up.length=n.x.length)(ak:Hj n=true)(pj:ranks.length=n.j.length)(jj:roots.length=n.j.length)(hc:costs.length=n.j.length)(p9:∀r∈ranks,0<=r)(D:List Item×List Int×List Int)(hD:Un n up (K6 ranks ranks.length,roots,costs)=D):Sq 229 [.ptr 0 0] (Am4 n up ranks roots costs) (.tup []) (Am4 n up ranks D.2.1 D.2.2):=cT F229 ntmps229 λF hF=>by
 have hf:=Lz hr
 conv=>whnf
 refine G_lit 10 C3 [] q_ q_ ?_;refine Bl ranks.length (λj=>[(0,.ptr 0 0),(2,.ptr 11 0),(15,.sl 1 Aa ranks),(16,Aa ranks.length),(17,Aa j)]) (λj=>[(0,.box (lQ n up ranks (.osl 1) (.osl 2))),(1,.row 1 Aa roots),(2,.row 1 Aa costs),(11,.box [.osl 12]),(12,.row 3 C3 (K6 ranks j))]) [(12,10)]
  kU ?_
 intro j hj;refine gI ?_ ?_<;>intro h
 .have P:j<ranks.length:=by simpa using h
  have e1:ranks[(j:Int).toNat]'j_=ranks[j]:=rfl;have jz:=An4 (K6 ranks j) ⟨ranks.getD j 0,0,j⟩ (by rw[Xw];omega);have t:=T1 ranks j;rw[Ce (show j<ranks.length by omega)]at jz t;refine oO ?_;refine⟨by omega,by omega,?_⟩
  conv=>whnf
  refine⟨by omega,?_⟩;rw[e1]
  conv=>whnf
  refine Al (Ad [(0,11),(1,12),(2,28)] q_ F305 jz q_ ⟨q_,q_,z_⟩ q_ kB) q_ q_ (gG ?_);refine A9 [(12,28)] P ⟨kA,⟨.inl q_,q_,.inl q_,q_,.inl q_,q_,.inl q_,q_,.inl (zH (Ob.row 3 C3) t),q_,z_⟩,q_,q_⟩
 .have dw:j=ranks.length:=by
   have:¬j<ranks.length:=kS h;omega
  subst dw;refine oO ?_;refine eW (α:={s:List Item×List Int×List Int // Ss n s/\Un n up s=D}) (λp=>[(0,.ptr 0 0),(2,.ptr 11 0)]) (λp=>[(0,.box (lQ n up ranks (.osl 1) (.osl 2))),(1,.row 1 Aa p.1.2.1),(2,.row 1 Aa p.1.2.2),(11,.box [.osl 12]),(12,.row 3 C3 p.1.1)]) (λp=>Mi p.1) ⟨(K6 ranks ranks.length,roots,costs),Am2 n ranks roots costs hr pj jj hc p9,hD⟩ []
   kU ?_
  rintro ⟨⟨q,g,co⟩,I,J⟩;have a3:=Ael q;have np:=Azd n up (q,g,co);have tv:=Atk n up hr ak (q,g,co) I;dsimp only at np tv|-;refine oO ?_;refine Al (Ms [12] q_ F306 a3 (.cons (.row q_ q_) .nil) q_ q_) q_ q_ (oO ?_);constructor<;>intro h2
  .have o:q≠[]:=λe=>by subst e;simp at h2
   have x4:=Bb9 q o (by have:=I.bq;simp only at this;omega);have hx:=I.items _ ((fG q o).mem_iff.1 (List.getLast_mem (Ke o)));have ck:Zs n up (q,g,co)=if 0<=Af g ((In q).getLast (Ke o)).q then ((In q).dropLast,g,co) else ((List.range n.g.length).foldl (Jb n up ((In q).getLast (Ke o))) (In q).dropLast,g.set ((In q).getLast (Ke o)).q.toNat ((In q).getLast (Ke o)).root,co.set ((In q).getLast (Ke o)).q.toNat ((In q).getLast (Ke o)).aj):=by
    rw[Zs,Ajk o]
   have R:=V2 n up hr ak (q,g,co) I o;have x7:=tv o;rw[J]at x7;rw[ck]at R x7;generalize (In q).getLast (Ke o)=x at *;have a4:=I.bt;have a5:=I.bx;dsimp only at a4 a5;rw[Aj (l:=g) (i:=x.q) j_]at R x7;refine oO ?_;refine Al (Ad [(0,11),(1,12),(2,38)] q_ F307 x4 q_ ⟨q_,q_,z_⟩ q_ kB) q_ q_ (oO ?_);refine Al (Agc Γ.toTy q_ q_ q_ q_) q_ q_ ?_
   (refine rg ?_;(conv=>whnf);refine aF ?_;refine oD ?_)
   have a7:=hx.1;have a8:=hx.2.1;refine⟨by omega,by omega,?_⟩
   conv=>whnf
   refine⟨q_,by omega,?_⟩
   conv=>whnf
   refine kW ?_;constructor<;>intro h3
   .have a0:0<=g[x.q.toNat]'j_:=zO h3;rw[zE a0]at R x7;refine oO ?_;exact oA (α:={s:List Item×List Int×List Int // Ss n s/\Un n up s=D}) (L:=λp=>[(0,.ptr 0 0),(2,.ptr 11 0)]) (O:=λp=>[(0,.box (lQ n up ranks (.osl 1) (.osl 2))),(1,.row 1 Aa p.1.2.1),(2,.row 1 Aa p.1.2.2),(11,.box [.osl 12]),(12,.row 3 C3 p.1.1)]) (μ:=λp=>Mi p.1) (x:=⟨(q,g,co),I,J⟩)
     ⟨((In q).dropLast,g,co),R.1,x7.symm⟩ [(12,38)] R.2
     kU
   .have a0:¬0<=g[x.q.toNat]'j_:=zQ h3;rw[zD a0]at R x7;refine oO ?_;refine⟨by omega,by omega,?_⟩
    conv=>whnf
    refine⟨by omega,by omega,?_⟩
    conv=>whnf
    refine⟨x.root,q_,q_,?_⟩
    conv=>whnf
    refine⟨by omega,by omega,q_,by omega,x.aj,q_,q_,?_⟩
    conv=>whnf
    refine kW ?_;generalize g.set x.q.toNat x.root=a1 at *;generalize co.set x.q.toNat x.aj=a2 at *;refine Bl n.g.length (λj=>[(0,.ptr 0 0),(2,.ptr 11 0),(5,.ptr 5 0),(77,.sl 7 Bm n.g),(78,Aa n.g.length),(79,Aa j)]) (λj=>[(0,.box (lQ n up ranks (.osl 1) (.osl 2))),(1,.row 1 Aa a1),(2,.row 1 Aa a2),(5,.box [Aa x.root,Aa x.aj,Aa x.q]),(11,.box [.osl 12]),(12,.row 3 C3 ((List.range j).foldl (Jb n up x) (In q).dropLast))]) [(12,38)]
     kU ?_
    intro j hj;refine oO ?_;constructor<;>intro h4
    .have P:j<n.g.length:=by simpa using h4
     have e1:n.g[(j:Int).toNat]'j_=n.g[j]:=rfl;have cx:=farR n up ranks a1 a2 j hr hu P;have a9:(In q).dropLast.length<=q.length:=by rw[tG,Kz];omega
     have a6:=Aim n up x (In q).dropLast j;have ji:=I.bq;dsimp only at ji;have t:(List.range (j+1)).foldl (Jb n up x) (In q).dropLast=Jb n up x ((List.range j).foldl (Jb n up x) (In q).dropLast) j:=by
      rw[wW,xS];rfl
     generalize (List.range j).foldl (Jb n up x) (In q).dropLast=Q at *;rw[Jb,Ce P]at t;refine oO ?_;refine⟨by omega,by omega,?_⟩
     conv=>whnf
     refine⟨by omega,?_⟩;rw[e1]
     conv=>whnf
     refine Al (Ad [] q_ F230 cx q_ kA q_ kB) q_ q_ (oO ?_);constructor<;>intro h5
     .refine oO ?_;constructor<;>intro h6
      .have bh:0<=Jn n up j:=zO h6;have dg:=Akc (up:=up) hr P bh;rw[zE ⟨kS h5,bh⟩,Aj (l:=n.g) (i:=Jn n up j) j_]at t;have aa:1<=(n.g[(Jn n up j).toNat]'j_).aj/\(n.g[(Jn n up j).toNat]'j_).aj<=65535:=by
        simp only[Hj,xH,wE]at ak;have:=ak _ (zI (show (Jn n up j).toNat<n.g.length by omega));simp only[M9,yR,zK,vY]at this;omega
       have ac:=hx.2.2.2;have jz:=An4 Q ⟨x.root,x.aj+(n.g[(Jn n up j).toNat]'j_).aj,(n.g[(Jn n up j).toNat]'j_).q⟩ j_;refine oO ?_;refine⟨q_,bh,by omega,?_⟩
       conv=>whnf
       refine iW ?_;refine⟨q_,bh,by omega,?_⟩
       conv=>whnf
       refine C6 (Ad [(0,11),(1,12),(2,123)] q_ F305 jz q_ ⟨q_,q_,z_⟩ q_ kB) y_ q_ (gO ?_);refine iW ?_;refine A9 [(12,123)] P ⟨kA,⟨.inl q_,q_,.inl q_,q_,.inl q_,q_,.inl q_,q_,.inl q_,q_,.inl (zH (Ob.row 3 C3) t),q_,z_⟩,q_,q_⟩
      .rw[zD (λhh=>(zQ h6) hh.2)]at t;refine gG ?_;refine A9 [] P ⟨kA,⟨.inl q_,q_,.inl q_,q_,.inl q_,q_,.inl q_,q_,.inl q_,q_,.inl (zH (Ob.row 3 C3) t),q_,z_⟩,q_,q_⟩
     .rw[zD (λhh=>zW hh.1 (kS h5))]at t;refine oF ?_;refine iW ?_;refine A9 [] P ⟨kA,⟨.inl q_,q_,.inl q_,q_,.inl q_,q_,.inl q_,q_,.inl q_,q_,.inl (zH (Ob.row 3 C3) t),q_,z_⟩,q_,q_⟩
    .have dw:j=n.g.length:=by
      have:¬j<n.g.length:=kS h4;omega
     subst dw;refine oO ?_;exact oA (α:={s:List Item×List Int×List Int // Ss n s/\Un n up s=D}) (L:=λp=>[(0,.ptr 0 0),(2,.ptr 11 0)]) (O:=λp=>[(0,.box (lQ n up ranks (.osl 1) (.osl 2))),(1,.row 1 Aa p.1.2.1),(2,.row 1 Aa p.1.2.2),(11,.box [.osl 12]),(12,.row 3 C3 p.1.1)]) (μ:=λp=>Mi p.1) (x:=⟨(q,g,co),I,J⟩)
      ⟨((List.range n.g.length).foldl (Jb n up x) (In q).dropLast,a1,a2),R.1,x7.symm⟩ [] R.2
      kU
  .have he:q=[]:=yF (by
    have:¬ 0<q.length:=kS h2;omega)
   have e:D=(q,g,co):=by rw[<-J,np he]
   rw[e];refine oO ?_;exact Bf q_ .nil [] (Am4 n up ranks g co) (λ_ h=>h) q_ q_ kU
def okB(n:Ai)(up:List Bool):Bool:=decide (up.length=n.x.length)&&(Ac n&&Hj n)
def Ai2{n:Ai}{up:List Bool}:okB n up=true↔up.length=n.x.length/\Ac n=true/\Hj n=true:=by simp[okB]
def Aif(n:Ai)(up:List Bool):List Int:=(cM n up (Kn n)).2.1
def Akp(n:Ai)(up:List Bool):List Int:=(cM n up (Kn n)).2.2
def Aqg(n:Ai)(up:List Bool):SV:=bU n up (Kn n) (Aif n up) (Akp n up)
def Bey(n:Ai)(up:List Bool)(g:n.Fin)(h:okB n up=false):Sp 153 [Aq n,.sl 1 Ab up] (.tup [.val (.pointer none),Aa 2]):=cT F153 ntmps153 λF l=>by
 have i:¬(up.length=n.x.length/\Ac n=true/\Hj n=true):=λj=>by rw[Ai2.2 j]at h;cases h
 conv=>whnf
 (repeat' (first|(refine⟨λh=>?_,λh=>?_⟩<;>(repeat (first|simp only[xF]at h|simp only[bne_eq_false_iff_eq]at h|simp only[xH]at h|simp only[vE]at h))<;>((refine oO ?_);repeat((refine aT ?_);(refine oO ?_))))|(refine c0 (A7 n g) F49 ?_;((refine oO ?_)))|(refine c0 (Bc2 n g.g) F227 ?_;((refine oO ?_)))|refine Av rfl (.cons .tmp As) rfl rfl))
 all_goals exact zW ⟨by omega,by assumption,by assumption⟩ i
def aX(m j:Nat):List Int:=List.replicate j (-1)++List.replicate (m-j) 0
def A1b(m:Nat):aX m 0=List.replicate m 0:=by simp[aX]
def A7k(m:Nat):aX m m=List.replicate m (-1):=by simp[aX]
def Arc(m j:Nat)(h:j<=m):(aX m j).length=m:=by simp[aX];omega
def A1c(m j:Nat)(h:j<m):aX m (j+1)=(aX m j).set j (-1):=by
 have e:m-j=(m-(j+1))+1:=by omega
 rw[aX,aX,e,uK _ _ qx,wS,uU,List.replicate_succ' (n:=j),uH (n:=m-(j+1))];simp
def openOK(n:Ai)(up:List Bool)(t:n.Fin)(I:up.length=n.x.length)(o:Ac n=true)(J:Hj n=true):Sp 153 [Aq n,.sl 1 Ab up] (.tup [Aqg n up,Aa 0]):=cT F153 ntmps153 λF hF=>by
 have hf:=Lz o;have P:=A7 n t;have g:=Bc2 n t.g;have R:=ranksS n t;rw[o]at P;rw[J]at g;rw[o,zE rfl]at R;have pj:=X0 n;have p9:∀r∈Kn n,0<=r:=λr h=>(Afr n r h).1
 have i:Aqg n up=bU n up (Kn n) (cM n up (Kn n)).2.1 (cM n up (Kn n)).2.2:=rfl;rw[i];generalize Kn n=ranks at *;have p:=λD hD=>reachS n up ranks (List.replicate n.j.length (-1)) (List.replicate n.j.length 0) o I J pj qx qx p9 D hD
 have l:Un n up (K6 ranks ranks.length,List.replicate n.j.length (-1),List.replicate n.j.length 0)=cM n up ranks:=rfl;generalize cM n up ranks=D at *;have p:=p D l;clear l i
 conv=>whnf
 refine⟨λh=>zW h (by simp[I]),λh=>?_⟩;refine oO ?_;refine c0 P F49 (oF ?_);refine c0 g F227 (oF ?_);refine cD R F228 (oD ?_);refine C6 (Cw Γ.toTy (d:=31) (n:=n.j.length) Aa 0 q_ q_ q_ q_ q_ q_ q_ q_ j_ j_ q_ q_ q_) y_ q_ (oD ?_);refine C6 (Cw Γ.toTy (d:=35) (n:=n.j.length) Aa 0 q_ q_ q_ q_ q_ q_ q_ q_ j_ j_ q_ q_ q_) y_ q_ (gO ?_);refine Bl n.j.length (λj=>[(6,.ptr 37 0),(42,Aa (List.replicate n.j.length (0:Int)).length),(43,Aa j)]) (λj=>[(37,.box (lQ n up ranks (.osl 31) (.osl 35))),(31,.row 1 Aa (aX n.j.length j)),(35,.row 1 Aa (List.replicate n.j.length 0))]) []
  ⟨⟨rfl,rfl,rfl,rfl,rfl,rfl,trivial⟩,⟨.inl rfl,rfl,.inl (by rw[A1b];rfl),rfl,.inl rfl,rfl,trivial⟩,rfl,rfl⟩ ?_
 intro j hj;have a0:=Arc n.j.length j hj;refine gI ?_ ?_<;>intro h
 .have ab:j<n.j.length:=by simpa using h
  have af:=A1c n.j.length j ab;generalize aX n.j.length j=u at *;refine oO ?_;refine⟨by omega,by omega,?_⟩
  conv=>whnf
  refine⟨q_,by omega,-1,q_,q_,?_⟩
  conv=>whnf
  refine iW ?_;exact A9 [] ab ⟨kA,⟨.inl q_,q_,.inl (zH (Ob.row 1 Aa) af),q_,.inl q_,q_,z_⟩,q_,q_⟩
 have dw:j=n.j.length:=by
  have:¬j<n.j.length:=kS h;omega
 subst dw;have db:=A7k n.j.length;rw[<-db]at p;refine oO ?_;exact Al (Ad [(0,37),(1,31),(2,35)] q_ F229 p q_ kA q_ kB) q_ q_ (Ao 31 q_ (Ao 35 q_ (Bi 37 12 (.agg (lQ n up ranks (.sl 1 Aa D.2.1) (.sl 1 Aa D.2.2))) q_ q_ q_ gM)))
def Asj{n:Ai}{up:List Bool}(h:okB n up=true):A17 n up (Kn n) (Aif n up) (Akp n up):=by
 obtain ⟨j,g,i⟩:=Ai2.1 h;exact Alo n up (Kn n) g i (X0 n) (λr h=>(Afr n r h).1)
def Ap2(n:Ai)(up:List Bool):List Int:=rolesL n up (Kn n) (Aif n up) (Akp n up)
def fwdT(n:Ai)(up:List Bool):List Bool:=fwdL n (Ap2 n up)
def Alm(n:Ai)(up:List Bool):(Ap2 n up).length=n.g.length:=Tn ..
def Azx(n:Ai)(up:List Bool)(h:okB n up=true):Sp 154 [Aqg n up] (.sl 1 Aa (Ap2 n up)):=by
 obtain ⟨g,i,j⟩:=Ai2.1 h;have S:=Asj h;exact rolesS n up (Kn n) (Aif n up) (Akp n up) i g j (X0 n) S.bt S.bx (λc l=>by have:=S.cm c l;omega)
def Aj7(n:Ai)(up:List Bool)(g:n.Fin)(h:okB n up=false):Sp 78 [Aq n,.sl 1 Ab up] (.tup [.sl 1 Ab [],Aa 2]):=cT F78 ntmps78 λF i=>by
 conv=>whnf
 refine c0 (Bey n up g h) F153 (oT ?_);exact Ar 4 1 Ab q_ dN
def Ahb(n:Ai)(g:List Int)(j:Nat):List Bool:=(n.x.take j).map (Bcj g)++List.replicate (n.x.length-j) false
def A7d(n:Ai)(g:List Int):Ahb n g 0=List.replicate n.x.length false:=by simp[Ahb]
def Bci(n:Ai)(g:List Int):Ahb n g n.x.length=fwdL n g:=by simp[Ahb,fwdL]
def Avu(n:Ai)(g:List Int)(j:Nat)(h:j<=n.x.length):(Ahb n g j).length=n.x.length:=by simp[Ahb];omega
def A7e(n:Ai)(g:List Int)(j:Nat)(h:j<n.x.length):Ahb n g (j+1)=(Ahb n g j).set j (Bcj g n.x[j]):=by
 have e:n.x.length-j=(n.x.length-(j+1))+1:=by omega
 have i:((n.x.take j).map (Bcj g)).length=j:=by simp;omega
 rw[Ahb,Ahb,uK _ _ j_,i,uU,zZ h,wP,e,uH,uA];simp
def Aob(n:Ai)(up:List Bool)(hn:n.Fin)(h:okB n up=true):Sp 78 [Aq n,.sl 1 Ab up] (.tup [.sl 1 Ab (fwdT n up),Aa 0]):=cT F78 ntmps78 λF hF=>by
 obtain ⟨hu,r,ak⟩:=Ai2.1 h;have hf:=Lz r;have t:=openOK n up hn hu r ak;have I:=Azx n up h;have wq:=Alm n up;rw[fwdT];generalize Ap2 n up=g at *;unfold Aqg at t I;generalize Kn n=ranks at *;generalize Aif n up=roots at *;generalize Akp n up=costs at *
 conv=>whnf
 refine c0 t F153 (oF ?_);refine gF I F154 ?_;refine Al (Cw Γ.toTy (d:=27) (n:=n.x.length) Ab false q_ q_ q_ q_ q_ q_ q_ q_ j_ j_ q_ q_ q_) q_ q_ ?_;rw[<-A7d n g];refine oO ?_;refine Bl n.x.length (λj=>[(8,.sl 1 Aa g),(9,.osl 27),(29,.sl 3 Dq n.x),(30,Aa n.x.length),(31,Aa j)]) (λj=>[(27,.row 1 Ab (Ahb n g j))]) []
  kU ?_
 intro j hj;have db:=Bci n g;refine gI ?_ ?_<;>intro h
 .have p:j<n.x.length:=by simpa using h
  have he:=Yt r p;have e1:n.x[(j:Int).toNat]'j_=n.x[j]:=rfl;have J:=Avu n g j hj;have o:=A7e n g j p;generalize Ahb n g j=u at *;generalize n.x[j]=l at *;rw[Bcj,Aj (l:=g) (i:=l.a) j_,Aj (l:=g) (i:=l.b) j_]at o;refine oO ?_;refine⟨q_,by omega,by omega,?_⟩;rw[e1]
  conv=>whnf
  refine⟨q_,by omega,by omega,?_⟩
  conv=>whnf
  refine⟨q_,by omega,by omega,?_⟩
  conv=>whnf
  refine kW ?_;have hA:0<=l.a/\l.a<g.length:=by omega
  have hB:0<=l.b/\l.b<g.length:=by omega
  obtain ⟨x,P⟩:=kE (g[l.a.toNat]'j_);obtain ⟨y,R⟩:=kE (g[l.b.toNat]'j_);rw[P,R]at o;refine Axe 46 (e:=Aa) (l:=[x,y]) q_ (by rw[<-P,<-R];rfl) ?_;refine Ao 46 q_ (gF (Ij [x,y] 1 (by unfold At;simp)) F114 ?_);constructor<;>intro h1
  .rw[h1,yB]at o;refine oO ?_;refine gF (Ij [x,y] 2 (by unfold At;simp)) F114 ?_;refine⟨by omega,by omega,?_⟩
   conv=>whnf
   refine⟨q_,by omega,Li [x,y] 2,q_,q_,?_⟩
   conv=>whnf
   refine iW ?_;exact A9 [] p ⟨kA,⟨.inl (zH (Ob.row 1 Ab) o),q_,z_⟩,q_,q_⟩
  .rw[h1,yE]at o;refine oO ?_;refine⟨by omega,by omega,?_⟩
   conv=>whnf
   refine⟨q_,by omega,false,q_,q_,?_⟩
   conv=>whnf
   refine iW ?_;exact A9 [] p ⟨kA,⟨.inl (zH (Ob.row 1 Ab) o),q_,z_⟩,q_,q_⟩
 have dw:j=n.x.length:=by
  have:¬j<n.x.length:=kS h;omega
 subst dw;rw[<-db];refine oO ?_;exact Ao 27 q_ dN
end
section
section
variable {n:Ai} {up:List Bool} {ranks roots costs:List Int}
end
instance:Inhabited Vec:=⟨⟨0,0,0,0,0⟩⟩
section
variable {n:Ai} {up:List Bool} {ranks roots costs:List Int}
end
end
end Go.Sy.Zaa
