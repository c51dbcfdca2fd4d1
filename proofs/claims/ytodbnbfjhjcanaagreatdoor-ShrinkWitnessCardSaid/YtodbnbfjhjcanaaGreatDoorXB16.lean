/- Parts of a proof. -/
import Derived.Test.YtodbnbfjhjcanaaGreatDoorXB12
set_option maxHeartbeats 4000000
set_option linter.all false
namespace Go.Sy.Zaa
open Go.Proofs Go.Proofs.Tryz
attribute [local irreducible]G DR
set_option maxRecDepth 20000
structure Item where
 (root cost dev:Int)
instance:Inhabited Item:=⟨⟨0,0,0⟩⟩
def B3(x:Item):SV:=.agg [Aa x.root,Aa x.cost,Aa x.dev]
def Cr(x y:Item):Bool:=decide (x.root<y.root)||(x.root==y.root&&decide (x.cost<y.cost))
def fC(q:List Item):Sp 303 [.sl 3 B3 q] (Aa q.length):=cT F303 ntmps303 λF hF=>by
 conv=>whnf
 exact dN
def O0(q:List Item)(i j:Nat)(hi:i<q.length)(hj:j<q.length):Sp 439 [.sl 3 B3 q,Aa i,Aa j] (Ab (Cr q[i] q[j])):=cT F439 ntmps439 λF hF=>by
 have e1:q[(i:Int).toNat]'q_=q[i]:=rfl;have e2:q[(j:Int).toNat]'q_=q[j]:=rfl
 conv=>whnf
 (repeat' (first|(refine⟨λh=>?_,λh=>?_⟩<;>(repeat (first|simp only[zJ]at h|simp only[yB]at h|simp only[yJ]at h|simp only[zU]at h))<;>((refine rd z_ ?_);(conv=>whnf)))|(refine Ar rfl Aq ?_ rfl)|(refine⟨z_,?_⟩;((conv=>whnf)))|(refine⟨by (omega),by (omega),?_⟩;((conv=>whnf)))))
 all_goals (refine zH Ab ?_;clear hF;grind [Cr])
def Oz(q:List Item)(i j:Nat)(hi:i<q.length)(hj:j<q.length):Sq 442 [.osl 0,Aa i,Aa j] [(0,.row 3 B3 q)] (.tup []) [(0,.row 3 B3 ((q.set i q[j]).set j q[i]))]:=cT F442 ntmps442 λF hF=>by
 have e1:q[(i:Int).toNat]'q_=q[i]:=rfl;have e2:q[(j:Int).toNat]'q_=q[j]:=rfl
 conv=>whnf
 refine⟨by omega,by omega,?_⟩
 conv=>whnf
 refine⟨E,by omega,?_⟩;rw[e2]
 conv=>whnf
 refine⟨by omega,by omega,?_⟩
 conv=>whnf
 refine⟨E,by omega,?_⟩;rw[e1]
 conv=>whnf
 refine⟨by omega,by omega,?_⟩
 conv=>whnf
 refine⟨E,by omega,q[j],E,E,?_⟩
 conv=>whnf
 refine⟨by omega,by simp;omega,?_⟩
 conv=>whnf
 refine⟨E,by simp;omega,q[i],E,E,?_⟩
 conv=>whnf
 refine kW ?_;exact A6 E .nil [] [(0,.row 3 B3 ((q.set i q[j]).set j q[i]))] (λ_ h=>h) E E kU
def Ap7(q:List Item)(x:Item)(hq:q.length<1000000):Sq 441 [.ptr 0 0,.ifc 441 (B3 x)] [(0,.box [.osl 1]),(1,.row 3 B3 q)] (.tup []) [(0,.box [.osl 2]),(1,.non),(2,.row 3 B3 (q++[x]))]:=cT F441 ntmps441 λF hF=>by
 conv=>whnf
 refine Aj (nR Γ.toTy E E E E) E E (oT ?_);refine Ce (Ah Γ.toTy 18 E E E E E (.row E) (.lit (l:=[x]) E E) y_ kO kO) z_ E (gL ?_);exact A6 E .nil [(2,18)] [(0,.box [.osl 2]),(1,.non),(2,.row 3 B3 (q++[x]))] (λ_ h=>h) E E kU
def Avy(q:List Item)(hq:q≠[])(hl:q.length<1000000):Sq 440 [.ptr 0 0] [(0,.box [.osl 1]),(1,.row 3 B3 q)] (.ifc 441 (B3 (q.getLast hq))) [(0,.box [.osl 2]),(1,.non),(2,.row 3 B3 q.dropLast)]:=cT F440 ntmps440 λF hF=>by
 have h0:0<q.length:=xS.2 hq;have e1:q[((q.length:Int)-1).toNat]'q_=q.getLast hq:=by
  rw[List.getLast_eq_getElem];congr 1;omega
 conv=>whnf
 refine iW ?_;refine⟨by omega,by omega,?_⟩
 conv=>whnf
 refine⟨E,by omega,?_⟩;rw[e1]
 conv=>whnf
 refine kW ?_;refine iW ?_;refine Ce (Acz Γ.toTy (d:=23) (hi:=q.length-1) E E E E E j_ E (.inl ⟨E,E⟩) (.inr ⟨_,_,E,zH (λz=>SV.val (.int .i64 z)) q_⟩) q_) z_ E ?_;rw[<-List.dropLast_eq_take];refine gL ?_;exact done E Aq [(2,23)] [(0,.box [.osl 2]),(1,.non),(2,.row 3 B3 q.dropLast)] (λ_ h=>h) E E kU
set_option maxRecDepth 100000
def mLen : Meth prog 436 "Len" 303 false 438 := .of (by kernel_rfl) Tryz.underlying436
def Al2 : Meth prog 436 "Less" 439 false 438 := .of (by kernel_rfl) Tryz.underlying436
def Al1 : Meth prog 436 "Swap" 442 false 438 := .of (by kernel_rfl) Tryz.underlying436
def mPush : Meth prog 436 "Push" 441 true 438 := .of (by kernel_rfl) Tryz.underlying436
def mPop : Meth prog 436 "Pop" 440 true 438 := .of (by kernel_rfl) Tryz.underlying436
def Hq(q:List Item)(i j:Nat):List Item:=(q.set i (q.getD j default)).set j (q.getD i default)
def Bj(q:List Item)(i j:Nat):(Hq q i j).length=q.length:=by simp[Hq]
def upF:Nat->List Item->Nat->List Item
 |0,q,_=>q
 |n+1,q,j=>if j=0 then q else if Cr (q.getD j default) (q.getD ((j-1)/2) default) then upF n (Hq q ((j-1)/2) j) ((j-1)/2) else q
def Aj9:∀(n m:Nat) (q:List Item) (j:Nat),j<=n->j<=m->upF n q j=upF m q j
 |0,m,q,j,h,_=>by
  have:j=0:=by omega
  subst this;cases m<;>simp[upF]
 |n+1,0,q,j,_,h=>by
  have:j=0:=by omega
  subst this;simp[upF]
 |n+1,m+1,q,j,h1,h2=>by
  rw[upF,upF];split
  .rfl
  .split
   .exact Aj9 n m _ _ q_ q_
   .rfl
def Ayv(r:List Item):∀(i:Nat),i≠0->upF i r i=if Cr (r.getD i default) (r.getD ((i-1)/2) default) then upF ((i-1)/2) (Hq r ((i-1)/2) i) ((i-1)/2) else r
 |0,h=>yA rfl h
 |m+1,_=>by
  rw[upF,zD q_];split
  .exact Aj9 _ _ _ _ q_ q_
  .rfl
def upS(q:List Item)(j:Nat)(hj:j<q.length)(hl:q.length<1000000):Sq 368 [.ifc 436 (.ptr 0 0),Aa j] [(0,.box [.osl 1]),(1,.row 3 B3 q)] (.tup []) [(0,.box [.osl 1]),(1,.row 3 B3 (upF j q j))]:=cT F368 ntmps368 λF hF=>by
 conv=>whnf
 refine Xk (α:={p:List Item×Nat // upF p.2 p.1 p.2=upF j q j/\p.1.length=q.length/\p.2<p.1.length}) (λp=>[(0,.ifc 436 (.ptr 0 0)),(1,Aa p.1.2)]) (λp=>[(0,.box [.osl 1]),(1,.row 3 B3 p.1.1)]) (λp=>p.1.2) ⟨(q,j),E,E,hj⟩ []
  kU ?_
 rintro ⟨⟨r,i⟩,h1,h2,h3⟩;simp only at h1 h2 h3;dsimp only;have hw:IntKind.i64.wrap (((i:Int)-1).tdiv 2)=(((i-1)/2:Nat):Int):=by
  rcases uQ i with h0|h0
  .subst h0;rfl
  .have:((i:Int)-1)=((i-1:Nat):Int):=by omega
   rw[this,uJ q_,IntKind.wrap_i64];omega
 refine gF ?_;refine⟨by decide,?_⟩;rw[hw]
 conv=>whnf
 constructor<;>intro h
 .have h0:i=0:=by
   have:(((i-1)/2:Nat):Int)=i:=kS h;omega
  subst h0;have e:upF j q j=r:=by rw[<-h1];rfl
  rw[e];refine oT ?_;exact A6 E .nil [] [(0,.box [.osl 1]),(1,.row 3 B3 r)] (λ_ h=>h) E E kU
 have h0:i≠0:=by
  intro h0;subst h0;exact yA h j_
 have hp:(i-1)/2<r.length:=by omega
 have y4:=O0 r i ((i-1)/2) h3 hp;refine oO ?_;refine Aj (Hz [1] (B0 Γ.toTy Al2 F439 E E E E E) y4 (.cons (.row E E) (.cons (.refl _) (.cons (.refl _) .nil))) E E) E E (oO ?_);have hu:upF i r i=if Cr r[i] r[(i-1)/2] then upF ((i-1)/2) (Hq r ((i-1)/2) i) ((i-1)/2) else r:=by
  rw[Ayv r i h0,Bo h3,Bo hp]
 constructor<;>intro h
 .have ab:Cr r[i] r[(i-1)/2]=false:=by simpa using h
  have e:upF j q j=r:=by rw[<-h1,hu,ab];rfl
  rw[e];refine oO ?_;exact A6 E .nil [] [(0,.box [.osl 1]),(1,.row 3 B3 r)] (λ_ h=>h) E E kU
 have ab:Cr r[i] r[(i-1)/2]=true:=kS h;rw[ab,zE rfl]at hu;have np:=Oz r ((i-1)/2) i hp h3;have e:(r.set ((i-1)/2) r[i]).set i r[(i-1)/2]=Hq r ((i-1)/2) i:=by
  rw[Hq,Bo h3,Bo hp]
 rw[e]at np;refine oO ?_;refine Aj (Av [(0,1)] (B0 Γ.toTy Al1 F442 E E E E E) np E ⟨E,Y⟩ E ⟨.inl E,Y⟩) E E (oO ?_);exact Zj (α:={p:List Item×Nat // upF p.2 p.1 p.2=upF j q j/\p.1.length=q.length/\p.2<p.1.length}) (L:=λp=>[(0,.ifc 436 (.ptr 0 0)),(1,Aa p.1.2)]) (O:=λp=>[(0,.box [.osl 1]),(1,.row 3 B3 p.1.1)]) (μ:=λp=>p.1.2) (x:=⟨(r,i),h1,h2,h3⟩)
  ⟨(Hq r ((i-1)/2) i,(i-1)/2),by rw[<-h1,hu],by rw[Bj];exact h2,by rw[Bj];exact hp⟩ [] (by simp only;omega)
  kU
def Aav:∀(n:Nat) (q:List Item) (j:Nat),(upF n q j).length=q.length
 |0,q,j=>rfl
 |n+1,q,j=>by
  rw[upF];split
  .rfl
  .split
   .rw[Aav n,Bj]
   .rfl
def Yy(q:List Item)(x:Item):List Item:=upF q.length (q++[x]) q.length
def Agl(q:List Item)(x:Item)(hl:q.length<999999):Sq 302 [.ifc 436 (.ptr 0 0),.ifc 441 (B3 x)] [(0,.box [.osl 1]),(1,.row 3 B3 q)] (.tup []) [(0,.box [.osl 2]),(1,.non),(2,.row 3 B3 (Yy q x))]:=cT F302 ntmps302 λF hF=>by
 have jr:=Ap7 q x q_;have hlen:=fC (q++[x]);have mo:=upS (q++[x]) q.length y_ kO;have uj:(((q++[x]).length:Nat):Int)-1=(q.length:Int):=by simp
 conv=>whnf
 refine Aj (Av (rd:=[]) [(2,6)] (Zg mPush F441 E E) jr E ⟨E,E,Y⟩ E kB) E E (oO ?_);refine Aj (Hz [6] (B0 Γ.toTy mLen F303 E E E E E) hlen (.cons (.row E E) .nil) E E) E E (oO ?_);refine⟨by unfold I64;simp;omega,?_⟩;rw[uj]
 conv=>whnf
 refine Aj (Ad [(1,6)] E F368 mo E ⟨E,E,Y⟩ E kB) E E (oO ?_);exact A6 E .nil [(2,6)] [(0,.box [.osl 2]),(1,.non),(2,.row 3 B3 (Yy q x))] (λ_ h=>h) E E kU
def Hf(q:List Item)(i n:Nat):Nat:=if 2*i+2<n/\Cr (q.getD (2*i+2) default) (q.getD (2*i+1) default)=true then 2*i+2 else 2*i+1
def Tn(q:List Item)(i n:Nat)(h:2*i+1<n):Hf q i n<n/\i<Hf q i n:=by
 unfold Hf;split<;>omega
def Hi:Nat->List Item->Nat->Nat->List Item×Nat
 |0,q,i,_=>(q,i)
 |f+1,q,i,n=>if 2*i+1<n then (if Cr (q.getD (Hf q i n) default) (q.getD i default) then Hi f (Hq q i (Hf q i n)) (Hf q i n) n else (q,i)) else (q,i)
def aD:∀(f g:Nat) (q:List Item) (i n:Nat),n<=f+i->n<=g+i->Hi f q i n=Hi g q i n
 |0,g,q,i,n,h1,h2=>by
  cases g with
  |zero=>rfl
  |succ g=>rw[Hi,Hi,zD q_]
 |f+1,0,q,i,n,h1,h2=>by rw[Hi,Hi,zD q_]
 |f+1,g+1,q,i,n,h1,h2=>by
  rw[Hi,Hi];split
  .rename_i h;have:=Tn q i n h;split
   .exact aD f g _ _ n q_ q_
   .rfl
  .rfl
def Asa(r:List Item)(i n:Nat):Hi (n-i) r i n=if 2*i+1<n then (if Cr (r.getD (Hf r i n) default) (r.getD i default) then Hi (n-Hf r i n) (Hq r i (Hf r i n)) (Hf r i n) n else (r,i)) else (r,i):=by
 rw[aD (n-i) (n-i+1) r i n q_ q_,Hi];split
 .rename_i h;have:=Tn r i n h;split
  .exact aD _ _ _ _ _ q_ q_
  .rfl
 .rfl
def dI:∀(f:Nat) (q:List Item) (i n:Nat),(Hi f q i n).1.length=q.length
 |0,_,_,_=>rfl
 |f+1,q,i,n=>by
  rw[Hi];split
  .split
   .rw[dI f,Bj]
   .rfl
  .rfl
def downS(q:List Item)(i0 n:Nat)(hn:n<=q.length)(hi:i0<q.length)(hl:q.length<1000000):Sq 369 [.ifc 436 (.ptr 0 0),Aa i0,Aa n] [(0,.box [.osl 1]),(1,.row 3 B3 q)] (Ab (decide (((Hi (n-i0) q i0 n).2:Int)>i0))) [(0,.box [.osl 1]),(1,.row 3 B3 (Hi (n-i0) q i0 n).1)]:=cT F369 ntmps369 λF hF=>by
 generalize hD:Hi (n-i0) q i0 n=D
 conv=>whnf
 refine Xk (α:={p:List Item×Nat // Hi (n-p.2) p.1 p.2 n=D/\p.1.length=q.length/\p.2<p.1.length}) (λp=>[(0,.ifc 436 (.ptr 0 0)),(1,Aa i0),(2,Aa n),(7,Aa p.1.2)]) (λp=>[(0,.box [.osl 1]),(1,.row 3 B3 p.1.1)]) (λp=>n-p.1.2) ⟨(q,i0),hD,E,hi⟩ []
  kU ?_
 rintro ⟨⟨r,i⟩,h1,h2,h3⟩;simp only at h1 h2 h3;dsimp only;have kq:=h1;rw[Asa]at h1;have mq:(2:Int)*i+1=((2*i+1:Nat):Int):=by omega
 have cn:((2*i+1:Nat):Int)+1=((2*i+2:Nat):Int):=by omega
 refine gF ?_;refine iL ?_;rw[mq]
 conv=>whnf
 constructor<;>intro h
 .have xx:¬2*i+1<n:=qA h;rw[zD xx]at h1;rw[<-h1];refine oT ?_;exact done E Aq [] [(0,.box [.osl 1]),(1,.row 3 B3 r)] (λ_ h=>h) E E kU
 have ab:2*i+1<n:=qB h;rw[zE ab]at h1;refine oF ?_;refine iL ?_;rw[cn]
 conv=>whnf
 constructor<;>intro h
 .have h2n:2*i+2<n:=qA h;have hA:2*i+2<r.length:=by omega
  have hB:2*i+1<r.length:=by omega
  have y5:=O0 r (2*i+2) (2*i+1) hA hB;refine oO ?_;refine Aj (Hz [1] (B0 Γ.toTy Al2 F439 E E E E E) y5 (.cons (.row E E) (.cons (.refl _) (.cons (.refl _) .nil))) E E) E E ?_;refine gH ?_ ?_<;>intro h
  .have hc:Hf r i n=2*i+2:=by rw[Hf,zE ⟨h2n,by rw[Bo hA,Bo hB];exact h⟩]
   have hJ:=hA;refine oO ?_;rw[hc,Bo hJ,Bo h3]at h1;have kl:=O0 r (2*i+2) i hJ h3;refine Aj (Hz [1] (B0 Γ.toTy Al2 F439 E E E E E) kl (.cons (.row E E) (.cons (.refl _) (.cons (.refl _) .nil))) E E) E E ?_;refine gH ?_ ?_<;>intro h
   .have hf:Cr r[2*i+2] r[i]=false:=by simpa using h
    rw[hf]at h1;have e:D=(r,i):=h1.symm;rw[e];refine oO ?_;exact done E Aq [] [(0,.box [.osl 1]),(1,.row 3 B3 r)] (λ_ h=>h) E E kU
   have hf:Cr r[2*i+2] r[i]=true:=kS h;rw[hf,zE rfl]at h1;have np:=Oz r i (2*i+2) h3 hJ;have e:(r.set i r[2*i+2]).set (2*i+2) r[i]=Hq r i (2*i+2):=by
    rw[Hq,Bo h3,Bo hJ]
   rw[e]at np;refine oO ?_;refine Aj (Av [(0,1)] (B0 Γ.toTy Al1 F442 E E E E E) np E ⟨E,Y⟩ E ⟨.inl E,Y⟩) E E (oO ?_);exact Zj (α:={p:List Item×Nat // Hi (n-p.2) p.1 p.2 n=D/\p.1.length=q.length/\p.2<p.1.length}) (L:=λp=>[(0,.ifc 436 (.ptr 0 0)),(1,Aa i0),(2,Aa n),(7,Aa p.1.2)]) (O:=λp=>[(0,.box [.osl 1]),(1,.row 3 B3 p.1.1)]) (μ:=λp=>n-p.1.2) (x:=⟨(r,i),kq,h2,h3⟩)
    ⟨(Hq r i (2*i+2),2*i+2),h1,by rw[Bj];exact h2,by rw[Bj];exact hJ⟩ [] (by simp only;omega)
    kU
  .have hc:Hf r i n=2*i+1:=by rw[Hf,zD (λhh=>by rw[Bo hA,Bo hB,h]at hh;exact yA hh.2 y_)]
   have hJ:=hB;refine oO ?_;rw[hc,Bo hJ,Bo h3]at h1;have kl:=O0 r (2*i+1) i hJ h3;refine Aj (Hz [1] (B0 Γ.toTy Al2 F439 E E E E E) kl (.cons (.row E E) (.cons (.refl _) (.cons (.refl _) .nil))) E E) E E ?_;refine gH ?_ ?_<;>intro h
   .have hf:Cr r[2*i+1] r[i]=false:=by simpa using h
    rw[hf]at h1;have e:D=(r,i):=h1.symm;rw[e];refine oO ?_;exact done E Aq [] [(0,.box [.osl 1]),(1,.row 3 B3 r)] (λ_ h=>h) E E kU
   have hf:Cr r[2*i+1] r[i]=true:=kS h;rw[hf,zE rfl]at h1;have np:=Oz r i (2*i+1) h3 hJ;have e:(r.set i r[2*i+1]).set (2*i+1) r[i]=Hq r i (2*i+1):=by
    rw[Hq,Bo h3,Bo hJ]
   rw[e]at np;refine oO ?_;refine Aj (Av [(0,1)] (B0 Γ.toTy Al1 F442 E E E E E) np E ⟨E,Y⟩ E ⟨.inl E,Y⟩) E E (oO ?_);exact Zj (α:={p:List Item×Nat // Hi (n-p.2) p.1 p.2 n=D/\p.1.length=q.length/\p.2<p.1.length}) (L:=λp=>[(0,.ifc 436 (.ptr 0 0)),(1,Aa i0),(2,Aa n),(7,Aa p.1.2)]) (O:=λp=>[(0,.box [.osl 1]),(1,.row 3 B3 p.1.1)]) (μ:=λp=>n-p.1.2) (x:=⟨(r,i),kq,h2,h3⟩)
    ⟨(Hq r i (2*i+1),2*i+1),h1,by rw[Bj];exact h2,by rw[Bj];exact hJ⟩ [] (by simp only;omega)
    kU
 .have h2n:¬2*i+2<n:=qB h;have hJ:2*i+1<r.length:=by omega
  have hc:Hf r i n=2*i+1:=by rw[Hf,zD (λhh=>h2n hh.1)]
  refine oF ?_;rw[hc,Bo hJ,Bo h3]at h1;have kl:=O0 r (2*i+1) i hJ h3;refine Aj (Hz [1] (B0 Γ.toTy Al2 F439 E E E E E) kl (.cons (.row E E) (.cons (.refl _) (.cons (.refl _) .nil))) E E) E E ?_;refine gH ?_ ?_<;>intro h
  .have hf:Cr r[2*i+1] r[i]=false:=by simpa using h
   rw[hf]at h1;have e:D=(r,i):=h1.symm;rw[e];refine oO ?_;exact done E Aq [] [(0,.box [.osl 1]),(1,.row 3 B3 r)] (λ_ h=>h) E E kU
  have hf:Cr r[2*i+1] r[i]=true:=kS h;rw[hf,zE rfl]at h1;have np:=Oz r i (2*i+1) h3 hJ;have e:(r.set i r[2*i+1]).set (2*i+1) r[i]=Hq r i (2*i+1):=by
   rw[Hq,Bo h3,Bo hJ]
  rw[e]at np;refine oO ?_;refine Aj (Av [(0,1)] (B0 Γ.toTy Al1 F442 E E E E E) np E ⟨E,Y⟩ E ⟨.inl E,Y⟩) E E (oO ?_);exact Zj (α:={p:List Item×Nat // Hi (n-p.2) p.1 p.2 n=D/\p.1.length=q.length/\p.2<p.1.length}) (L:=λp=>[(0,.ifc 436 (.ptr 0 0)),(1,Aa i0),(2,Aa n),(7,Aa p.1.2)]) (O:=λp=>[(0,.box [.osl 1]),(1,.row 3 B3 p.1.1)]) (μ:=λp=>n-p.1.2) (x:=⟨(r,i),kq,h2,h3⟩)
   ⟨(Hq r i (2*i+1),2*i+1),h1,by rw[Bj];exact h2,by rw[Bj];exact hJ⟩ [] (by simp only;omega)
   kU
def Ef(q:List Item):List Item:=(Hi (q.length-1-0) (Hq q 0 (q.length-1)) 0 (q.length-1)).1
def Hw(q:List Item):(Ef q).length=q.length:=by rw[Ef,dI,Bj]
def Hm{q:List Item}(h:q≠[]):Ef q≠[]:=λe=>h (yC (by rw[<-Hw,e];rfl))
def A15(q:List Item)(hq:q≠[])(hl:q.length<1000000):Sq 304 [.ifc 436 (.ptr 0 0)] [(0,.box [.osl 1]),(1,.row 3 B3 q)] (.ifc 441 (B3 ((Ef q).getLast (Hm hq)))) [(0,.box [.osl 2]),(1,.non),(2,.row 3 B3 (Ef q).dropLast)]:=cT F304 ntmps304 λF hF=>by
 have h0:0<q.length:=xS.2 hq;have hlen:=fC q;have np:=Oz q 0 (q.length-1) h0 q_;have e:(q.set 0 q[q.length-1]).set (q.length-1) q[0]=Hq q 0 (q.length-1):=by
  rw[Hq,Bo (show q.length-1<q.length by omega),Bo h0]
 rw[e]at np;have xu:=downS (Hq q 0 (q.length-1)) 0 (q.length-1) (by rw[Bj];omega) (by rw[Bj];exact h0) (by rw[Bj];exact hl);have vx:=Avy (Ef q) (Hm hq) (by rw[Hw];exact hl);have uj:(q.length:Int)-1=((q.length-1:Nat):Int):=by omega
 conv=>whnf
 refine Aj (Hz [1] (B0 Γ.toTy mLen F303 E E E E E) hlen (.cons (.row E E) .nil) E E) E E (oO ?_);refine iL ?_;rw[uj]
 conv=>whnf
 refine Aj (Av [(0,1)] (B0 Γ.toTy Al1 F442 E E E E E) np E ⟨E,Y⟩ E ⟨.inl E,Y⟩) E E (oO ?_);refine Aj (Ad [] E F369 xu E ⟨E,E,Y⟩ E kB) E E (oO ?_);refine Aj (Av (rd:=[]) [(2,14)] (Zg mPop F440 E E) vx E ⟨E,E,Y⟩ E kB) E E (oO ?_);exact done E Aq [(2,14)] [(0,.box [.osl 2]),(1,.non),(2,.row 3 B3 (Ef q).dropLast)] (λ_ h=>h) E E kU
set_option maxRecDepth 20000
def great1{n:Net}(h:n.ports.any (λp=>decide (100<p.tagged.length))=true):Lg n=true:=by simp only[Lg,h,tH,vN]
def great2{n:Net}(h:n.domains.any (λp=>decide (100<p.peers.length))=true):Lg n=true:=by simp only[Lg,h,tH,vN]
def great3{n:Net}(h:n.floods.any (λp=>decide (100<p.addrs.length))=true):Lg n=true:=by simp only[Lg,h,tH,vN]
def great4{n:Net}(h:n.vrfs.any (λv=>decide (100<v.imports.length)||decide (100<v.exports.length))=true):Lg n=true:=by simp only[Lg,h,tH]
def greatS(n:Net):Sp 21 [Am n] (Ab (Lg n)):=cT F21 ntmps21 λF hF=>by
 conv=>whnf
 (repeat' (first|(refine⟨λh=>?_,λh=>?_⟩<;>(repeat (first|simp only[zJ]at h|simp only[yB]at h))<;>((refine oO ?_);repeat((refine aT ?_);(refine oO ?_))))|(refine Ar rfl Aq ?_ rfl)))
 all_goals first
  |(refine zH Ab ?_;clear hF;grind [Lg])
  |skip
 have l1:n.ports.length<=200:=by omega
 have l2:n.domains.length<=200:=by omega
 have l3:n.floods.length<=200:=by omega
 have l4:n.vrfs.length<=200:=by omega
 refine Bf 1 8 (Am n) E E E ?_;refine Ba n.ports.length (λj=>El (λ_ p=>!(decide (100<p.tagged.length))) n.ports j) (λj=>[(1,.ref 8 (Am n) 0),(3,Aa j)]) (λ_=>[]) [] (Bi _ _) kU ?_;intro j hj hI;refine gH ?_ ?_<;>intro h
 .have dq:j<n.ports.length:=by simpa using h
  refine oO ?_
  (repeat' (first|(refine⟨λh=>?_,λh=>?_⟩<;>(repeat (first|simp only[zJ]at h|simp only[yB]at h))<;>((refine oO ?_)))|(refine Ar rfl Aq ?_ rfl)|(refine⟨z_,?_⟩;((conv=>whnf)))|(refine⟨by (omega),by (omega),?_⟩;((conv=>whnf)))|(refine⟨by (unfold I64;omega),?_⟩;((conv=>whnf)))|refine A8 [] hI dq ?_ kU))
  all_goals (simp only[zZ]at *)
  .refine zH Ab ?_;exact great1 (eA dq kO)
  .exact Bd hI dq kO
 have a1:n.ports.any (λp=>decide (100<p.tagged.length))=false:=X8 hI (kS h);clear hI hj h;refine oO ?_;refine Ba n.domains.length (λj=>El (λ_ p=>!(decide (100<p.peers.length))) n.domains j) (λj=>[(1,.ref 8 (Am n) 0),(4,Aa j)]) (λ_=>[]) [] (Bi _ _) kU ?_;intro j hj hI;refine gH ?_ ?_<;>intro h
 .have dq:j<n.domains.length:=by simpa using h
  refine oO ?_
  (repeat' (first|(refine⟨λh=>?_,λh=>?_⟩<;>(repeat (first|simp only[zJ]at h|simp only[yB]at h))<;>((refine oO ?_)))|(refine Ar rfl Aq ?_ rfl)|(refine⟨z_,?_⟩;((conv=>whnf)))|(refine⟨by (omega),by (omega),?_⟩;((conv=>whnf)))|(refine⟨by (unfold I64;omega),?_⟩;((conv=>whnf)))|refine A8 [] hI dq ?_ kU))
  all_goals (simp only[zZ]at *)
  .refine zH Ab ?_;exact great2 (eA dq kO)
  .exact Bd hI dq kO
 have a2:n.domains.any (λp=>decide (100<p.peers.length))=false:=X8 hI (kS h);clear hI hj h;refine oO ?_;refine Ba n.floods.length (λj=>El (λ_ p=>!(decide (100<p.addrs.length))) n.floods j) (λj=>[(1,.ref 8 (Am n) 0),(5,Aa j)]) (λ_=>[]) [] (Bi _ _) kU ?_;intro j hj hI;refine gH ?_ ?_<;>intro h
 .have dq:j<n.floods.length:=by simpa using h
  refine oO ?_
  (repeat' (first|(refine⟨λh=>?_,λh=>?_⟩<;>(repeat (first|simp only[zJ]at h|simp only[yB]at h))<;>((refine oO ?_)))|(refine Ar rfl Aq ?_ rfl)|(refine⟨z_,?_⟩;((conv=>whnf)))|(refine⟨by (omega),by (omega),?_⟩;((conv=>whnf)))|(refine⟨by (unfold I64;omega),?_⟩;((conv=>whnf)))|refine A8 [] hI dq ?_ kU))
  all_goals (simp only[zZ]at *)
  .refine zH Ab ?_;exact great3 (eA dq kO)
  .exact Bd hI dq kO
 have a3:n.floods.any (λp=>decide (100<p.addrs.length))=false:=X8 hI (kS h);clear hI hj h;refine oO ?_;refine Ba n.vrfs.length (λj=>El (λ_ v=>!(decide (100<v.imports.length)||decide (100<v.exports.length))) n.vrfs j) (λj=>[(1,.ref 8 (Am n) 0),(6,Aa j)]) (λ_=>[]) [] (Bi _ _) kU ?_;intro j hj hI;refine gH ?_ ?_<;>intro h
 .have dq:j<n.vrfs.length:=by simpa using h
  refine oO ?_
  (repeat' (first|(refine⟨λh=>?_,λh=>?_⟩<;>(repeat (first|simp only[zJ]at h|simp only[yB]at h))<;>((refine oO ?_);repeat((refine aT ?_);(refine oO ?_))))|(refine Ar rfl Aq ?_ rfl)|(refine⟨z_,?_⟩;((conv=>whnf)))|(refine⟨by (omega),by (omega),?_⟩;((conv=>whnf)))|(refine⟨by (unfold I64;omega),?_⟩;((conv=>whnf)))|refine A8 [] hI dq ?_ kU))
  all_goals (simp only[zZ]at *)
  all_goals first
   |exact Bd hI dq kO
   |(refine zH Ab ?_;exact great4 (eA dq kO))
 have a4:n.vrfs.any (λv=>decide (100<v.imports.length)||decide (100<v.exports.length))=false:=X8 hI (kS h);clear hI hj h;refine oO ?_;refine Ar E Aq (zH Ab ?_) E;rw[Lg,a1,a2,a3,a4];simp;omega
def Dx:Vec->List Vec->Vec
 |v,[]=>v
 |v,x::l=>Dx (if Hh x v then x else v) l
def A50:Vec:=⟨0,0,0,0,0⟩
def Kd:List Vec->Vec×Bool
 |[]=>(A50,false)
 |v::l=>(Dx v (v::l),true)
def Ame(a:Vec):Hh a a=false:=by simp[Hh]
def Aq4{a b:Vec}(h:a≠b):Hh a b=true\/Hh b a=true:=by
 obtain ⟨a1,a2,a3,a4,a5⟩:=a;obtain ⟨b1,b2,b3,b4,b5⟩:=b;simp only[ne_eq,Vec.mk.injEq]at h;simp only[Hh]
 grind
def Acd{a b c:Vec}(h1:Hh a b=true)(h2:Hh b c=true):Hh a c=true:=by
 obtain ⟨a1,a2,a3,a4,a5⟩:=a;obtain ⟨b1,b2,b3,b4,b5⟩:=b;obtain ⟨c1,c2,c3,c4,c5⟩:=c;simp only[Hh]at *
 grind
def Acf:∀(v:Vec) (l:List Vec),Dx v l=v\/Dx v l∈l
 |v,[]=>.inl rfl
 |v,x::l=>by
  rw[Dx];rcases Acf (if Hh x v then x else v) l with h|h
  .rw[h];split
   .exact .inr y_
   .exact .inl E
  .exact .inr (by simp[h])
def Agb:∀(v:Vec) (l:List Vec),Hh v (Dx v l)=false/\∀x∈l,Hh x (Dx v l)=false
 |v,[]=>⟨Ame v,by simp⟩
 |v,x::l=>by
  rw[Dx];obtain ⟨h1,h2⟩:=Agb (if Hh x v then x else v) l;have key:Hh v (Dx (if Hh x v then x else v) l)=false/\Hh x (Dx (if Hh x v then x else v) l)=false:=by
   generalize Dx (if Hh x v then x else v) l=m at *;cases hx:Hh x v with
   |true=>
    rw[hx]at h1;simp only[if_true]at h1;refine⟨?_,h1⟩;cases hv:Hh v m with
    |false=>rfl
    |true=>rw[Acd hx hv]at h1;cases h1
   |false=>
    rw[hx]at h1;simp only[uR,if_false]at h1;refine⟨h1,?_⟩;cases hv:Hh x m with
    |false=>rfl
    |true=>
     by_cases hxv:x=v
     .subst hxv;rw[hv]at h1;cases h1
     .rcases Aq4 hxv with h3|h3
      .rw[hx]at h3;cases h3
      .rw[Acd h3 hv]at h1;cases h1
  refine⟨key.1,λy hy=>?_⟩;rcases yI.1 hy with rfl|hy
  .exact key.2
  .exact h2 y hy
def Amh(v:Vec)(l:List Vec)(j:Nat)(h:j<l.length):Dx v (l.take (j+1))=(if Hh l[j] (Dx v (l.take j)) then l[j] else Dx v (l.take j)):=by
 have key:∀(a b:List Vec) (v:Vec),Dx v (a++b)=Dx (Dx v a) b:=by
  intro a
  induction a with
  |nil=>intro b v;rfl
  |cons x a ih=>intro b v;rw[wB,Dx,Dx,ih]
 rw[yD h,key];rfl
def leastS(l:List Vec)(hl:An l):Sp 305 [.sl 5 Vl l] (.tup [Vl (Kd l).1,Ab (Kd l).2]):=cT F305 ntmps305 λF hF=>by
 unfold An at hl;have hR:∀h:0<l.length,Kd l=(Dx l[0] l,true):=λh=>by
  cases l with
  |nil=>simp at h
  |cons v t=>rfl
 conv=>whnf
 constructor<;>intro h
 .have:l=[]:=yC (by have:(l.length:Int)=0:=(kS h);omega);subst this;refine oO ?_;exact done E (.cons (.cell E E E E) Aq) [] [] (λ_ h=>h) E E kU
 have h0:0<l.length:=by
  have:¬(l.length:Int)=0:=kS h;omega
 rw[hR h0];refine oO ?_;refine⟨E,by decide,h0,?_⟩
 conv=>whnf
 have e0:l[(0:Int).toNat]'(h0)=l[0]:=rfl;generalize hv:l[0]=v at *;refine Bg l.length (λj=>[(0,.sl 5 Vl l),(2,.ptr 2 0),(4,.ptr 4 0),(14,.sl 5 Vl l),(15,Aa l.length),(16,Aa j)]) (λj=>[(2,.box [Aa 0,Aa 0,Aa 0,Aa 0,Aa 0]),(4,.box [Aa (Dx v (l.take j)).root,Aa (Dx v (l.take j)).cost,Aa (Dx v (l.take j)).bridge,Aa (Dx v (l.take j)).port,Aa (Dx v (l.take j)).own])]) []
  ⟨⟨rfl,rfl,rfl,rfl,rfl,rfl,rfl,rfl,rfl,rfl,rfl,rfl,trivial⟩,⟨.inl rfl,rfl,.inl (by subst hv;rfl),rfl,trivial⟩,rfl,rfl⟩ ?_
 intro j hj;refine gH ?_ ?_<;>intro h
 .have ab:j<l.length:=by simpa using h
  have gv:=Amh v l j ab;generalize hx:l[j]=x at gv;have vr:l[(j:Int).toNat]'q_=x:=hx;generalize yw:Dx v (l.take j)=m at gv;refine oO ?_;refine⟨E,by omega,by omega,?_⟩;rw[vr]
  conv=>whnf
  refine gE (lessS x m) F370 ?_;constructor<;>intro h2
  .rw[h2,zE rfl]at gv;refine gF ?_;exact Az [] ab ⟨kA,⟨.inl E,E,.inl (by rw[gv];rfl),E,Y⟩,E,E⟩
  .rw[h2]at gv;refine gF ?_;exact Az [] ab ⟨kA,⟨.inl E,E,.inl (by rw[gv];rfl),E,Y⟩,E,E⟩
 .have dq:¬j<l.length:=by simpa using h
  rw[xI q_];refine oO ?_;exact done E (.cons (.cell E E E E) Aq) [] [] (λ_ h=>h) E E kU
def Ami{l:List Vec}(h:(Kd l).2=false):l=[]/\(Kd l).1=A50:=by
 cases l with
 |nil=>exact⟨rfl,rfl⟩
 |cons v t=>cases h
def Aw4(l:List Vec):∀x∈l,Hh x (Kd l).1=false:=by
 cases l with
 |nil=>simp
 |cons v t=>exact(Agb v (v::t)).2
def Ara{l:List Vec}(h:(Kd l).2=true):(Kd l).1∈l:=by
 cases l with
 |nil=>cases h
 |cons v t=>
  rcases Acf v (v::t) with h|h
  .show Dx v (v::t)∈v::t;rw[h];simp
  .exact h
def lX(n:Net):∀x∈Cw n,0<=x/\x<n.devices.length:=λx hx=>by
 rw[Abo,Lv]at hx;obtain ⟨i,hi,rfl⟩:=yS.1 hx;have hi:=yV.1 hi;have h1:=List.countP_le_length (p:=λk=>Cb n (k:Nat) i) (l:=List.range n.devices.length);rw[List.length_range]at h1;have h2:(List.range n.devices.length).countP (λk=>Cb n (k:Nat) i)≠n.devices.length:=λe=>by
  have:=List.countP_eq_length.1 (e.trans List.length_range.symm) i (yV.2 hi);rw[Oj]at this;cases this
 omega
def Aoa(n:Net){a b:Int}(h:a≠b):Cb n a b=true\/Cb n b a=true:=by
 unfold Cb;generalize nth n.devices a=x;generalize nth n.devices b=y
 grind
def Atd(n:Net){i k:Nat}(hi:i<n.devices.length)(_hk:k<n.devices.length)(h:Cb n i k=true):(List.range n.devices.length).countP (λq=>Cb n (q:Nat) i)<(List.range n.devices.length).countP (λq=>Cb n (q:Nat) k):=by
 have h1:(List.range n.devices.length).countP (λq=>Cb n (q:Nat) i)+((List.range n.devices.length).filter (λq=>Cb n (q:Nat) k&&!Cb n (q:Nat) i)).length=(List.range n.devices.length).countP (λq=>Cb n (q:Nat) k):=by
  generalize List.range n.devices.length=l
  induction l with
  |nil=>rfl
  |cons q l ih=>
   rw[List.countP_cons,List.countP_cons,List.filter_cons];cases h1:Cb n q i with
   |true=>
    have h2:Cb n q k=true:=Xg n h1 h;simp only[h2,if_true,Bool.not_true,wR,uR,if_false];omega
   |false=>
    cases h2:Cb n q k with
    |true=>simp only[if_true,wS,uH,uR,if_false,yM];omega
    |false=>simp only[uR,if_false,yF];omega
 have h2:0<((List.range n.devices.length).filter (λq=>Cb n (q:Nat) k&&!Cb n (q:Nat) i)).length:=by
  refine List.length_pos_of_mem (a:=i) ?_;rw[uB];exact⟨yV.2 hi,by simp[h,Oj]⟩
 omega
def Ju(n:Net):(Cw n).length=n.devices.length:=by rw[Abo,Lv];simp
def Abp(n:Net)(i:Nat)(hi:i<(Cw n).length):(Cw n)[i]=(((List.range n.devices.length).countP λk=>Cb n (k:Nat) i:Nat):Int):=by
 have e:=Abo n;have:(Cw n)[i]=(Lv n)[i]'(by rw[<-e];exact hi):=by congr 1
 rw[this];simp[Lv]
def Aia(n:Net){i k:Nat}(hi:i<(Cw n).length)(hk:k<(Cw n).length)(h:i≠k):(Cw n)[i]≠(Cw n)[k]:=by
 have e:=Ju n;rw[Abp,Abp];rcases Aoa n (a:=(i:Int)) (b:=(k:Int)) q_ with h1|h1
 .have:=Atd n (i:=i) (k:=k) q_ q_ h1;omega
 .have:=Atd n (i:=k) (k:=i) q_ q_ h1;omega
set_option maxRecDepth 100000
def Ys(n:Net)(up:List Bool)(ranks:List Int)(x y:SV):List SV:=[.sl 5 A1 n.devices,.sl 7 Bb n.ports,.sl 3 Ck n.links,.sl 6 At n.domains,.sl 4 Bc n.statics,.sl 4 Bn n.floods,.sl 5 Ct n.vrfs,.sl 5 Cq n.irbs,.sl 1 Ab up,.sl 1 Aa ranks,x,y]
def Eh(n:Net)(up:List Bool)(i:Nat):Int :=
 let p:=n.ports.getD i default
 if p.link<0||!(up.getD p.link.toNat false) then -1 else (nth n.links p.link).a+(nth n.links p.link).b-i
def farS(n:Net)(up:List Bool)(ranks:List Int)(x y:SV)(_hx:(x.boxed&&x.data&&y.boxed&&y.data&&Nat.beq (cellsOf x).length 1&&Nat.beq (cellsOf y).length 1)=true)(i:Nat)(hr:Ac n=true)(hu:up.length=n.links.length)(hi:i<n.ports.length):Sp 230 [.ref 12 (.agg (Ys n up ranks x y)) 0,Aa i] (Aa (Eh n up i)):=cT F230 ntmps230 λF hF=>by
 have ay:=Xs hr hi;have hf:=Ip hr;have e1:n.ports[(i:Int).toNat]'q_=n.ports[i]:=rfl;have bx:Eh n up i=if n.ports[i].link<0||!(up.getD n.ports[i].link.toNat false) then -1 else (nth n.links n.ports[i].link).a+(nth n.links n.ports[i].link).b-i:=by
  rw[Eh,Bo hi]
 generalize hp:n.ports[i]=p at *;have hle:=λh=>Om hr (i:=p.link.toNat) h
 conv=>whnf
 refine⟨E,by omega,by omega,?_⟩;rw[e1]
 conv=>whnf
 (repeat' (first|(refine⟨λh=>?_,λh=>?_⟩<;>(repeat (first|simp only[zJ]at h|simp only[yB]at h|simp only[yU]at h|simp only[wW]at h))<;>((first|refine rg ?_|refine rd z_ ?_);(conv=>whnf)))|(refine Ar rfl Aq ?_ rfl)|(refine⟨z_,?_⟩;((conv=>whnf);repeat((refine aT ?_);(refine oO ?_))))|(refine⟨by (first|omega|((have hq:=hle q_;unfold I64;omega))),by (first|omega|((have hq:=hle q_;unfold I64;omega))),?_⟩;((conv=>whnf)))))
 all_goals (refine zH Aa ?_;rw[bx])
 .simp_all
 .have h1:up.getD p.link.toNat false=false:=by rw[Bo q_];assumption
  rw[h1];simp
 .have h1:up.getD p.link.toNat false=true:=by rw[Bo q_];assumption
  rw[h1,Ae q_]
  simp_all
def Vq(n:Net)(up:List Bool)(ranks roots costs:List Int):SV:=.ref 12 (.agg (Ys n up ranks (.sl 1 Aa roots) (.sl 1 Aa costs))) 0
def Ol(n:Net)(ranks costs:List Int)(i k:Nat):Bool :=
 let a:=(n.ports.getD i default).dev
 let b:=(n.ports.getD k default).dev
 decide (nth costs a<nth costs b)||(nth costs a==nth costs b&&decide (nth ranks a<nth ranks b))
def Apn(n:Net)(up:List Bool)(ranks roots costs:List Int)(i k:Nat)(hr:Ac n=true)(o6:ranks.length=n.devices.length)(hc:costs.length=n.devices.length)(hi:i<n.ports.length)(hk:k<n.ports.length):Sp 231 [Vq n up ranks roots costs,Aa i,Aa k] (Ab (Ol n ranks costs i k)):=cT F231 ntmps231 λF hF=>by
 have mr:=V8 hr hi;have jf:=V8 hr hk;have e1:n.ports[(i:Int).toNat]'q_=n.ports[i]:=rfl;have e2:n.ports[(k:Int).toNat]'q_=n.ports[k]:=rfl;have aa:Ol n ranks costs i k=(decide (nth costs n.ports[i].dev<nth costs n.ports[k].dev)||(nth costs n.ports[i].dev==nth costs n.ports[k].dev&&decide (nth ranks n.ports[i].dev<nth ranks n.ports[k].dev))):=by
  rw[Ol,Bo hi,Bo hk]
 rw[Ae q_,Ae q_,Ae q_,Ae q_]at aa
 conv=>whnf
 (repeat' (first|(refine⟨λh=>?_,λh=>?_⟩<;>(repeat (first|simp only[zJ]at h|simp only[yB]at h|simp only[yJ]at h|simp only[zU]at h))<;>((refine rd z_ ?_);(conv=>whnf)))|(refine Ar rfl Aq ?_ rfl)|(refine⟨z_,?_⟩;((conv=>whnf)))|(refine⟨by (first|omega|(simp only[zZ];omega)),by (first|omega|(simp only[zZ];omega)),?_⟩;((conv=>whnf)))))
 all_goals (refine zH Ab ?_;rw[aa];clear hF aa hr;simp only[zZ]at *;grind)
def Adc{n:Net}{up:List Bool}(h:Ac n=true){i:Nat}(hi:i<n.ports.length)(hf:0<=Eh n up i):Eh n up i<n.ports.length:=by
 have hp:=T7 h hi;have ay:=Xs h hi;simp only[Kj,zG,yO,yJ]at hp;have hp:=hp.2;unfold Eh at *;rw[Bo hi]at *;simp only at *;split at hf
 .omega
 .rename_i hc;rw[zD hc];simp only[yO,zJ,uF]at hc;rcases hp with hp|hp
  .omega
  .have hl:n.ports[i].link.toNat<n.links.length:=by omega
   have he:=Om h hl;rw[Ae hl]at *;omega
def dR(n:Net)(up:List Bool)(ranks roots costs:List Int)(dev:Int)(i:Nat):Option Vec :=
 let p:=n.ports.getD i default
 let far:=Eh n up i
 let rk:=(nth n.ports far).dev
 if p.dev==dev&&decide (0<=far) then some ⟨nth roots rk,nth costs rk+p.cost,nth ranks rk,far,i⟩ else none
def Ln(n:Net)(up:List Bool)(ranks roots costs:List Int)(dev:Int)(j:Nat):List Vec:=(List.range j).filterMap (dR n up ranks roots costs dev)
def Aso(n:Net)(up:List Bool)(ranks roots costs:List Int)(dev:Int)(j:Nat):Ln n up ranks roots costs dev (j+1)=Ln n up ranks roots costs dev j++(dR n up ranks roots costs dev j).toList:=by
 rw[Ln,vH,List.filterMap_append];cases h:dR n up ranks roots costs dev j<;>simp[Ln,h]
def dU(n:Net)(up:List Bool)(ranks roots costs:List Int)(dev:Int)(j:Nat):(Ln n up ranks roots costs dev j).length<=j:=by
 have:=tI (dR n up ranks roots costs dev) (List.range j);simpa [Ln] using this
def Hb(n:Net)(up:List Bool)(ranks roots costs:List Int)(dev:Int):Int :=
 let r:=Kd (Ln n up ranks roots costs dev n.ports.length)
 if !r.2||nth roots dev==nth ranks dev then -1 else r.1.own
def bestS(n:Net)(up:List Bool)(ranks roots costs:List Int)(dev:Int)(hr:Ac n=true)(hu:up.length=n.links.length)(aj:Cv n=true)(o6:ranks.length=n.devices.length)(ji:roots.length=n.devices.length)(hc:costs.length=n.devices.length)(hb:∀c∈costs,0<=c/\c<1000000000)(hd:0<=dev/\dev<n.devices.length):Sp 232 [Vq n up ranks roots costs,Aa dev] (Aa (Hb n up ranks roots costs dev)):=cT F232 ntmps232 λF hF=>by
 have hf:=Ip hr
 conv=>whnf
 refine Ca 5 1000 5 Vl E E ?_;refine Bg n.ports.length (λj=>[(0,Vq n up ranks roots costs),(1,Aa dev),(5,.osl 1000),(16,.sl 7 Bb n.ports),(17,Aa n.ports.length),(18,Aa j)]) (λj=>[(1000,.row 5 Vl (Ln n up ranks roots costs dev j))]) []
  kU ?_
 intro j hj;refine gH ?_ ?_<;>intro h
 .have ab:j<n.ports.length:=by simpa using h
  have e1:n.ports[(j:Int).toNat]'q_=n.ports[j]:=rfl;have bx:=farS n up ranks (.sl 1 Aa roots) (.sl 1 Aa costs) rfl j hr hu ab;have jl:=Adc (up:=up) hr ab;have ag:=Aso n up ranks roots costs dev j;have mj:=dU n up ranks roots costs dev j;have fm:dR n up ranks roots costs dev j=if n.ports[j].dev==dev&&decide (0<=Eh n up j) then some ⟨nth roots (nth n.ports (Eh n up j)).dev,nth costs (nth n.ports (Eh n up j)).dev+n.ports[j].cost,nth ranks (nth n.ports (Eh n up j)).dev,Eh n up j,j⟩ else none:=by
   rw[dR,Bo ab]
  generalize Eh n up j=k at *;have hpc:1<=n.ports[j].cost/\n.ports[j].cost<=65535:=by
   simp only[Cv,yU,wE]at aj;have:=aj _ (zI ab);simp only[Iz,yO,zJ,uF]at this;omega
  obtain ⟨p,hp⟩:=kE (n.ports[j]);rw[hp]at e1 fm hpc;refine oO ?_;refine⟨E,by omega,by omega,?_⟩;rw[e1]
  conv=>whnf
  refine gE bx F230 ?_;constructor<;>intro h
  .refine oO ?_;constructor<;>intro h2
   .have bd:0<=k:=zO h2;have cy:=jl bd;rw[zE (by simp only[zG,zJ];exact⟨h,bd⟩),Ae (l:=n.ports) (i:=k) q_]at fm;have tu:=V8 hr (i:=k.toNat) q_;obtain ⟨q,hq⟩:=kE (n.ports[k.toNat]'q_);rw[hq]at fm tu;have nq:=hb (costs[q.dev.toNat]'q_) (zI _);rw[Ae (l:=roots) (i:=q.dev) q_,Ae (l:=costs) (i:=q.dev) q_,Ae (l:=ranks) (i:=q.dev) q_]at fm;refine oO ?_;refine⟨E,bd,by omega,?_⟩;rw[hq]
    conv=>whnf
    refine⟨z_,?_⟩;refine⟨by omega,by omega,?_⟩
    conv=>whnf
    refine⟨z_,?_⟩;refine⟨by omega,by omega,?_⟩
    conv=>whnf
    refine iW ?_;refine⟨z_,?_⟩;refine⟨by omega,by omega,?_⟩
    conv=>whnf
    refine Ce (Ah Γ.toTy 72 E E E E E (.row E) (.lit (l:=[(⟨roots[q.dev.toNat]'q_,costs[q.dev.toNat]'q_+p.cost,ranks[q.dev.toNat]'q_,k,j⟩:Vec)]) E E) y_ kO kO) z_ E (gL ?_);refine iW ?_;refine Az [(1000,72)] ab ⟨kA,⟨.inl (zH (Ob.row 5 Vl) ?_),E,Y⟩,E,E⟩;rw[ag,fm];rfl
   .have bd:¬0<=k:=zT h2;rw[zD (by simp only[zG,zJ];exact λhh=>bd hh.2)]at fm;refine gF ?_;refine Az [] ab ⟨kA,⟨.inl (zH (Ob.row 5 Vl) ?_),E,Y⟩,E,E⟩;rw[ag,fm];simp
  .rw[zD (by rw[h];simp)]at fm;refine oF ?_;refine iW ?_;refine Az [] ab ⟨kA,⟨.inl (zH (Ob.row 5 Vl) ?_),E,Y⟩,E,E⟩;rw[ag,fm];simp
 .have dq:j=n.ports.length:=by
   have:¬j<n.ports.length:=kS h;omega
  subst dq;have mj:=dU n up ranks roots costs dev n.ports.length;have tv:Hb n up ranks roots costs dev=if !(Kd (Ln n up ranks roots costs dev n.ports.length)).2||nth roots dev==nth ranks dev then -1 else (Kd (Ln n up ranks roots costs dev n.ports.length)).1.own:=rfl
  rw[Ae q_,Ae q_]at tv;have kl:=leastS (Ln n up ranks roots costs dev n.ports.length) (by unfold An;omega);generalize Kd (Ln n up ranks roots costs dev n.ports.length)=r at kl tv;obtain ⟨v,ok⟩:=r;simp only at kl tv;rw[tv];refine oO ?_;refine Ai 1000 E (gE kl F305 ?_)
  (repeat' (first|(refine⟨λh=>?_,λh=>?_⟩<;>(repeat (first|simp only[yJ]at h|simp only[zU]at h|simp only[yU]at h|simp only[wW]at h))<;>((first|refine rg ?_|refine rd z_ ?_);(conv=>whnf)))|(refine Ar rfl Aq ?_ rfl)|(refine⟨z_,?_⟩;((conv=>whnf);repeat((refine aT ?_);(refine oO ?_))))|(refine⟨by (omega),by (omega),?_⟩;((conv=>whnf)))))
  all_goals (refine zH Aa ?_;clear hF kl tv;grind)
def best_lt{n:Net}{up:List Bool}{ranks roots costs:List Int}{dev:Int}(h:0<=Hb n up ranks roots costs dev):Hb n up ranks roots costs dev<n.ports.length:=by
 have ey:=@Ara (Ln n up ranks roots costs dev n.ports.length);unfold Hb at *;simp only at *;split at h
 .omega
 .rename_i hc;rw[zD hc];simp only[yO,yU,uF]at hc;have h2:=ey (kS hc.1);obtain ⟨i,hi,he⟩:=wA.1 h2;have hi:=yV.1 hi;unfold dR at he;simp only at he;split at he
  .have e:=zH Vec.own (Option.some.inj he);simp only at e;omega
  .cases he
def Yu(n:Net)(up:List Bool)(ranks costs:List Int)(i:Nat):Int :=
 if Eh n up i<0 then 0 else if Ol n ranks costs i (Eh n up i).toNat then 2 else 3
def Kc(n:Net)(up:List Bool)(ranks costs:List Int)(j:Nat):List Int:=(List.range n.ports.length).map λi=>if i<j then Yu n up ranks costs i else 0
def Se(n:Net)(up:List Bool)(ranks costs:List Int)(j:Nat):(Kc n up ranks costs j).length=n.ports.length:=by simp[Kc]
def Akw(n:Net)(up:List Bool)(ranks costs:List Int):Kc n up ranks costs 0=List.replicate n.ports.length 0:=by
 rw[Kc];exact tO y_ y_
def Akx(n:Net)(up:List Bool)(ranks costs:List Int)(j:Nat)(hj:j<n.ports.length):Kc n up ranks costs (j+1)=(Kc n up ranks costs j).set j (Yu n up ranks costs j):=by
 refine tO (by simp[Kc]) (λi h1 h2=>?_);rw[vR];simp only[Kc,vI,List.getElem_range];rcases Nat.lt_trichotomy i j with h|h|h
 .rw[zE q_,zD q_,zE h]
 .subst h;rw[zE q_,zE rfl]
 .rw[zD q_,zD q_,zD q_]
def Aky(n:Net)(up:List Bool)(ranks costs:List Int)(j:Nat)(h:Yu n up ranks costs j=0):Kc n up ranks costs (j+1)=Kc n up ranks costs j:=by
 simp only[Kc];refine tL (λi _=>?_);by_cases bu:i<j
 .rw[zE q_,zE bu]
 .by_cases he:i=j
  .subst he;rw[zE q_,zD bu,h]
  .rw[zD q_,zD bu]
def K0(n:Net)(up:List Bool)(ranks roots costs:List Int):Nat->List Int
 |0=>Kc n up ranks costs n.ports.length
 |d+1=>if 0<=Hb n up ranks roots costs d then (K0 n up ranks roots costs d).set (Hb n up ranks roots costs d).toNat 1 else K0 n up ranks roots costs d
def Jt(n:Net)(up:List Bool)(ranks roots costs:List Int):∀d,(K0 n up ranks roots costs d).length=n.ports.length
 |0=>Se n up ranks costs _
 |d+1=>by
  rw[K0];split
  .rw[yQ,Jt]
  .rw[Jt]
def rolesS(n:Net)(up:List Bool)(ranks roots costs:List Int)(hr:Ac n=true)(hu:up.length=n.links.length)(aj:Cv n=true)(o6:ranks.length=n.devices.length)(ji:roots.length=n.devices.length)(hc:costs.length=n.devices.length)(hb:∀c∈costs,0<=c/\c<1000000000):Sp 161 [Vq n up ranks roots costs] (.sl 1 Aa (K0 n up ranks roots costs n.devices.length)):=cT F161 ntmps161 λF hF=>by
 have hf:=Ip hr
 conv=>whnf
 refine Aj (B4 Γ.toTy (d:=14) (n:=n.ports.length) Aa 0 E E E E E E E E q_ q_ E E E) E E ?_;rw[<-Akw n up ranks costs];refine oO ?_;refine Bg n.ports.length (λj=>[(0,Vq n up ranks roots costs),(3,.osl 14),(20,Aa n.ports.length),(21,Aa j)]) (λj=>[(14,.row 1 Aa (Kc n up ranks costs j))]) []
  kU ?_
 intro j hj;refine gH ?_ ?_<;>intro h
 .have ab:j<n.ports.length:=by simpa using h
  have bx:=farS n up ranks (.sl 1 Aa roots) (.sl 1 Aa costs) rfl j hr hu ab;have jl:=Adc (up:=up) hr ab;have hlen:=Se n up ranks costs j;have ft:Yu n up ranks costs j=if Eh n up j<0 then 0 else if Ol n ranks costs j (Eh n up j).toNat then 2 else 3:=rfl
  have ag:=Akx n up ranks costs j ab;have gr:=Aky n up ranks costs j;generalize Eh n up j=k at *;refine oO ?_;refine gE bx F230 ?_;constructor<;>intro h
  .have hk:k<0:=zO h;rw[zE hk]at ft;refine gF ?_;exact Az [] ab ⟨kA,⟨.inl (zH (Ob.row 1 Aa) (gr ft)),E,Y⟩,E,E⟩
  have hk:¬k<0:=zT h;rw[zD hk]at ft;obtain ⟨m,rfl⟩:∃m:Nat,k=m:=⟨k.toNat,by omega⟩
  have hah:=Apn n up ranks roots costs j m hr o6 hc ab q_;rw[zZ]at ft;refine oO ?_;refine gE hah F231 ?_;constructor<;>intro h
  .rw[h,zE rfl]at ft;rw[ft]at ag;refine oO ?_;refine⟨by omega,by omega,?_⟩
   conv=>whnf
   refine⟨E,by omega,2,E,E,?_⟩
   conv=>whnf
   refine iW ?_;exact Az [] ab ⟨kA,⟨.inl (zH (Ob.row 1 Aa) ag),E,Y⟩,E,E⟩
  .rw[h]at ft;simp only[uR,if_false]at ft;rw[ft]at ag;refine oO ?_;refine⟨by omega,by omega,?_⟩
   conv=>whnf
   refine⟨E,by omega,3,E,E,?_⟩
   conv=>whnf
   refine iW ?_;exact Az [] ab ⟨kA,⟨.inl (zH (Ob.row 1 Aa) ag),E,Y⟩,E,E⟩
 have dq:j=n.ports.length:=by
  have:¬j<n.ports.length:=kS h;omega
 subst dq;refine oO ?_;refine Bg n.devices.length (λd=>[(0,Vq n up ranks roots costs),(3,.osl 14),(47,Aa n.devices.length),(48,Aa d)]) (λd=>[(14,.row 1 Aa (K0 n up ranks roots costs d))]) []
  kU ?_
 clear hj h;intro d hdle;refine gH ?_ ?_<;>intro h
 .have ab:d<n.devices.length:=by simpa using h
  have hbs:=bestS n up ranks roots costs d hr hu aj o6 ji hc hb q_;have mj:=@best_lt n up ranks roots costs d;have hlen:=Jt n up ranks roots costs d;have ag:K0 n up ranks roots costs (d+1)=if 0<=Hb n up ranks roots costs d then (K0 n up ranks roots costs d).set (Hb n up ranks roots costs d).toNat 1 else K0 n up ranks roots costs d:=rfl
  generalize Hb n up ranks roots costs d=k at *;refine oO ?_;refine gE hbs F232 ?_;constructor<;>intro h
  .have hk:0<=k:=zO h;rw[zE hk]at ag;refine oO ?_;refine⟨hk,by omega,?_⟩
   conv=>whnf
   refine⟨E,by omega,1,E,E,?_⟩
   conv=>whnf
   refine iW ?_;exact Az [] ab ⟨kA,⟨.inl (zH (Ob.row 1 Aa) ag),E,Y⟩,E,E⟩
  .have hk:¬0<=k:=zT h;rw[zD hk]at ag;refine gF ?_;exact Az [] ab ⟨kA,⟨.inl (zH (Ob.row 1 Aa) ag),E,Y⟩,E,E⟩
 have gh:d=n.devices.length:=by
  have:¬d<n.devices.length:=kS h;omega
 subst gh;refine oO ?_;exact Ai 14 E dN
def Afq(n:Net)(up:List Bool)(ranks:List Int)(roots costs:List Int):Obs:=[(0,.box (Ys n up ranks (.osl 1) (.osl 2))),(1,.row 1 Aa roots),(2,.row 1 Aa costs)]
def farR(n:Net)(up:List Bool)(ranks roots costs:List Int)(i:Nat)(hr:Ac n=true)(hu:up.length=n.links.length)(hi:i<n.ports.length):Sq 230 [.ptr 0 0,Aa i] (Afq n up ranks roots costs) (Aa (Eh n up i)) (Afq n up ranks roots costs):=cT F230 ntmps230 λF hF=>by
 have ay:=Xs hr hi;have hf:=Ip hr;have e1:n.ports[(i:Int).toNat]'q_=n.ports[i]:=rfl;have bx:Eh n up i=if n.ports[i].link<0||!(up.getD n.ports[i].link.toNat false) then -1 else (nth n.links n.ports[i].link).a+(nth n.links n.ports[i].link).b-i:=by
  rw[Eh,Bo hi]
 generalize hp:n.ports[i]=p at *;have hle:=λh=>Om hr (i:=p.link.toNat) h
 conv=>whnf
 refine⟨E,by omega,by omega,?_⟩;rw[e1]
 conv=>whnf
 (repeat' (first|(refine⟨λh=>?_,λh=>?_⟩<;>(repeat (first|simp only[zJ]at h|simp only[yB]at h|simp only[yU]at h|simp only[wW]at h))<;>((first|refine rg ?_|refine rd z_ ?_);(conv=>whnf)))|(refine⟨z_,?_⟩;((conv=>whnf);repeat((refine aT ?_);(refine oO ?_))))|(refine⟨by (first|omega|((have hq:=hle q_;unfold I64;omega))),by (first|omega|((have hq:=hle q_;unfold I64;omega))),?_⟩;((conv=>whnf)))|refine done rfl Aq [] (Afq n up ranks roots costs) (λ_ h=>h) ?_ rfl kU))
 all_goals (refine zH Aa ?_;rw[bx])
 .simp_all
 .have h1:up.getD p.link.toNat false=false:=by rw[Bo q_];assumption
  rw[h1];simp
 .have h1:up.getD p.link.toNat false=true:=by rw[Bo q_];assumption
  rw[h1,Ae q_]
  simp_all
def Et(n:Net)(up:List Bool)(x:Item)(q:List Item)(i:Nat):List Item :=
 if (n.ports.getD i default).dev=x.dev/\0<=Eh n up i then Yy q ⟨x.root,x.cost+(nth n.ports (Eh n up i)).cost,(nth n.ports (Eh n up i)).dev⟩ else q
def T9(n:Net)(up:List Bool)(s:List Item×List Int×List Int):List Item×List Int×List Int :=
 let x:=(Ef s.1).getLast?.getD default
 let q:=(Ef s.1).dropLast
 if 0<=nth s.2.1 x.dev then (q,s.2) else ((List.range n.ports.length).foldl (Et n up x) q,s.2.1.set x.dev.toNat x.root,s.2.2.set x.dev.toNat x.cost)
def Jl(n:Net)(up:List Bool):Nat->List Item×List Int×List Int->List Item×List Int×List Int
 |0,s=>s
 |f+1,s=>if s.1=[] then s else Jl n up f (T9 n up s)
end Go.Sy.Zaa
namespace Go.Sy.Zaa
def Zp(q:List Item)(i j:Nat)(hi:i<q.length)(hj:j<q.length):(Hq q i j).Perm q:=by
 rw[Hq,Bo hi,Bo hj];exact List.set_set_perm hi hj
def Aj7:∀(f:Nat) (q:List Item) (j:Nat),j<q.length->(upF f q j).Perm q
 |0,_,_,_=>.refl _
 |f+1,q,j,hj=>by
  rw[upF];split
  .exact .refl _
  .split
   .exact(Aj7 f _ _ (by rw[Bj];omega)).trans (Zp q _ _ q_ hj)
   .exact .refl _
def Adm:∀(f:Nat) (q:List Item) (i n:Nat),i<q.length->n<=q.length->(Hi f q i n).1.Perm q
 |0,_,_,_,_,_=>.refl _
 |f+1,q,i,n,hi,hn=>by
  rw[Hi];split
  .rename_i h;have hc:=Tn q i n h;split
   .exact(Adm f _ _ n (by rw[Bj];omega) (by rw[Bj];exact hn)).trans (Zp q _ _ hi q_)
   .exact .refl _
  .exact .refl _
def Ub(q:List Item)(x:Item):(Yy q x).Perm (x::q) :=
 (Aj7 _ _ _ y_).trans (List.perm_append_comm (l₁:=q) (l₂:=[x]))
def Od(q:List Item)(x:Item):(Yy q x).length=q.length+1:=by rw[Yy,Aav];simp
def Xt(q:List Item)(hq:q≠[]):(Ef q).Perm q:=by
 have h0:0<q.length:=xS.2 hq;exact(Adm _ _ _ _ (by rw[Bj];exact h0) (by rw[Bj];omega)).trans (Zp q _ _ h0 q_)
def Qr(q:List Item)(n:Nat):Prop:=∀c,0<c->c<n->c<q.length->Cr (q.getD c default) (q.getD ((c-1)/2) default)=false
def Un{x y z:Item}(h1:Cr y x=false)(h2:Cr z y=false):Cr z x=false:=by
 unfold Cr at *
 grind
def Arn{q:List Item}{n:Nat}(h:Qr q n)(hn:n<=q.length):∀c,c<n->Cr (q.getD c default) (q.getD 0 default)=false:=by
 intro c
 induction c using Nat.strongRecOn with
 |ind c ih=>
  intro hc;rcases uQ c with h0|h0
  .subst h0;unfold Cr;grind
  .have h1:=h c h0 hc q_;have h2:=ih ((c-1)/2) q_ q_;exact Un h2 h1
def Ib(q:List Item)(i j c:Nat)(hi:i<q.length)(hj:j<q.length):(Hq q i j).getD c default=if c=j then q.getD i default else if c=i then q.getD j default else q.getD c default:=by
 rw[Hq];simp only[wJ,tE,yQ];by_cases h1:c=j
 .subst h1;simp[hj]
 .rw[zD (Ne.symm h1),zD h1];by_cases h2:c=i
  .subst h2;simp[hi]
  .rw[zD (Ne.symm h2),zD h2]
def Uq{x y:Item}(h:Cr x y=true):Cr y x=false:=by
 unfold Cr at *
 grind
structure UpInv(q:List Item)(j n:Nat):Prop where
 heap:∀c,0<c->c<n->c≠j->Cr (q.getD c default) (q.getD ((c-1)/2) default)=false
 over:∀c,0<c->c<n->(c-1)/2=j->0<j->Cr (q.getD c default) (q.getD ((j-1)/2) default)=false
def Aj8(n:Nat):∀(f:Nat) (q:List Item) (j:Nat),j<=f->j<n->n<=q.length->UpInv q j n->Qr (upF f q j) n
 |0,q,j,hf,hj,hn,hI=>by
  have:j=0:=by omega
  subst this;exact λc h0 hc _=>hI.heap c h0 hc q_
 |f+1,q,j,hf,hj,hn,hI=>by
  rw[upF];split
  .rename_i h0;subst h0;exact λc h0 hc _=>hI.heap c h0 hc q_
  .rename_i h0;split
   .rename_i ab;have hp:(j-1)/2<j:=by omega
    refine Aj8 n f _ _ q_ q_ (by rw[Bj];exact hn) ⟨λc d8 il o7=>?_,λc d8 il ku eo=>?_⟩
    .rw[Ib _ _ _ _ q_ q_,Ib _ _ _ _ q_ q_];by_cases mf:c=j
     .subst mf;rw[zE rfl,zD q_,zE rfl];exact Uq ab
     .rw[zD mf,zD o7];by_cases hpj:(c-1)/2=j
      .rw[zE hpj];exact hI.over c d8 il hpj q_
      .rw[zD hpj];by_cases j7:(c-1)/2=(j-1)/2
       .rw[zE j7];have:=hI.heap c d8 il mf;rw[j7]at this;exact Un (Uq ab) this
       .rw[zD j7];exact hI.heap c d8 il mf
    .rw[Ib _ _ _ _ q_ q_,Ib _ _ _ _ q_ q_];have hpI:=hI.heap ((j-1)/2) eo q_ q_;rw[zD (show ((j-1)/2-1)/2≠j by omega),zD (show ((j-1)/2-1)/2≠(j-1)/2 by omega)];by_cases mf:c=j
     .rw[zE mf];exact hpI
     .rw[zD mf,zD q_];have:=hI.heap c d8 il mf;rw[ku]at this;exact Un hpI this
   .rename_i ab;intro c d8 il _;by_cases mf:c=j
    .subst mf;simpa using ab
    .exact hI.heap c d8 il mf
def Tj{q r:List Item}{c:Nat}(h:c<q.length):(q++r).getD c default=q.getD c default:=by
 simp[wJ,xW h]
def Abt(q:List Item)(x:Item)(h:Qr q q.length):Qr (Yy q x) (Yy q x).length:=by
 rw[Od];refine Aj8 (q.length+1) _ _ _ (yE _) q_ y_ ⟨λc d8 il mf=>?_,λc d8 il ku eo=>by omega⟩;rw[Tj q_,Tj q_];exact h c d8 q_ q_
structure DownInv(q:List Item)(i n:Nat):Prop where
 heap:∀c,0<c->c<n->(c-1)/2≠i->Cr (q.getD c default) (q.getD ((c-1)/2) default)=false
 over:∀c,0<c->c<n->(c-1)/2=i->0<i->Cr (q.getD c default) (q.getD ((i-1)/2) default)=false
def Ax3(q:List Item)(i n c:Nat)(_h:2*i+1<n)(d8:0<c)(hc:c<n)(hp:(c-1)/2=i):Cr (q.getD c default) (q.getD (Hf q i n) default)=false:=by
 have so:c=2*i+1\/c=2*i+2:=by omega
 unfold Hf;split
 .rename_i hh;rcases so with rfl|rfl
  .exact Uq hh.2
  .unfold Cr;grind
 .rename_i hh;rcases so with rfl|rfl
  .unfold Cr;grind
  .cases ab:Cr (q.getD (2*i+2) default) (q.getD (2*i+1) default) with
   |false=>rfl
   |true=>exact yA ⟨hc,ab⟩ hh
def Adn(n:Nat):∀(f:Nat) (q:List Item) (i:Nat),n<=f+i->i<q.length->n<=q.length->DownInv q i n->Qr (Hi f q i n).1 n
 |0,q,i,hf,hi,hn,hI=>λc d8 hc _=>hI.heap c d8 hc q_
 |f+1,q,i,hf,hi,hn,hI=>by
  rw[Hi];split
  .rename_i h;have ie:=Tn q i n h;have ku:(Hf q i n-1)/2=i:=by unfold Hf;split<;>omega
   have hle:=λc=>Ax3 q i n c h
   generalize Hf q i n=k at *;split
   .rename_i ab;refine Adn n f _ _ q_ (by rw[Bj];omega) (by rw[Bj];exact hn) ⟨λc d8 il hck=>?_,λc d8 il o7 bd=>?_⟩
    .rw[Ib _ _ _ _ hi q_,Ib _ _ _ _ hi q_,zD hck];by_cases uo:c=k
     .subst uo;rw[zE rfl,zE ku];exact Uq ab
     .rw[zD uo];by_cases lr:c=i
      .subst lr;rw[zE rfl,zD q_];exact hI.over k q_ ie.1 ku d8
      .rw[zD lr];by_cases uu:(c-1)/2=i
       .rw[zE uu];exact hle c d8 il uu
       .rw[zD uu];exact hI.heap c d8 il uu
    .rw[Ib _ _ _ _ hi q_,Ib _ _ _ _ hi q_];rw[zD q_,zD q_,ku,zD q_,zE rfl];have:=hI.heap c d8 il q_;rwa [o7]at this
   .rename_i ab;intro c d8 il _;by_cases uu:(c-1)/2=i
    .rw[uu];exact Un (kS ab) (hle c d8 il uu)
    .exact hI.heap c d8 il uu
  .exact λc d8 hc _=>hI.heap c d8 hc q_
def Adl(n:Nat):∀(f:Nat) (q:List Item) (i c:Nat),i<n->n<=q.length->n<=c->(Hi f q i n).1.getD c default=q.getD c default
 |0,_,_,_,_,_,_=>rfl
 |f+1,q,i,c,hi,hn,hc=>by
  rw[Hi];split
  .rename_i h;have ie:=Tn q i n h;split
   .rw[Adl n f _ _ c q_ (by rw[Bj];exact hn) hc,Ib _ _ _ _ q_ q_,zD q_,zD q_]
   .rfl
  .rfl
def Ala(q:List Item)(hq:q≠[]):(Ef q).getLast (Hm hq)=q.getD 0 default:=by
 have h0:0<q.length:=xS.2 hq;rw[List.getLast_eq_getElem,<-Bo (show (Ef q).length-1<(Ef q).length by rw[Hw];omega),Hw];by_cases h1:q.length=1
 .have:Ef q=q:=by
   obtain ⟨x,rfl⟩:=List.length_eq_one_iff.1 h1;rfl
  rw[this,h1]
 .rw[Ef,Adl _ _ _ _ _ q_ (by rw[Bj];omega) (yE _),Ib _ _ _ _ h0 q_,zE rfl]
def Av2(q:List Item)(hq:q≠[]):(Ef q).dropLast++[q.getD 0 default]=Ef q:=by
 rw[<-Ala q hq];exact uC (Hm hq)
def Az6(q:List Item)(hq:q≠[]):(q.getD 0 default::(Ef q).dropLast).Perm q :=
 ((List.perm_append_comm (l₁:=[q.getD 0 default]) (l₂:=(Ef q).dropLast)).trans (by rw[Av2 q hq])).trans (Xt q hq)
def Az7(q:List Item)(hq:q≠[])(h:Qr q q.length):Qr (Ef q).dropLast (Ef q).dropLast.length:=by
 have h0:0<q.length:=xS.2 hq;have hd:(Ef q).dropLast.length=q.length-1:=by rw[tG,Hw]
 have hh:Qr (Ef q) (q.length-1):=by
  rw[Ef];refine Adn (q.length-1) _ _ _ q_ (by rw[Bj];exact h0) (by rw[Bj];omega) ⟨λc d8 il hp=>?_,λc d8 il hp h=>by omega⟩;rw[Ib _ _ _ _ h0 q_,Ib _ _ _ _ h0 q_,zD q_,zD q_,zD q_,zD hp];exact h c d8 q_ q_
 intro c d8 il _;rw[hd]at il;have hl:=Hw q;have e:∀k,k<q.length-1->(Ef q).dropLast.getD k default=(Ef q).getD k default:=λk hk=>by
  rw[Bo (show k<(Ef q).dropLast.length by omega),Bo (show k<(Ef q).length by omega),List.getElem_dropLast]
 rw[e c il,e _ q_];exact hh c d8 il q_
def Av3(q:List Item)(h:Qr q q.length):∀x∈q,Cr x (q.getD 0 default)=false:=λx hx=>by
 obtain ⟨c,hc,rfl⟩:=wN hx;have:=Arn h (yE _) c hc;rwa [Bo hc]at this
def H3(ranks:List Int)(j:Nat):List Item:=(List.range j).foldl (λq (i:Nat)=>Yy q ⟨ranks.getD i 0,0,i⟩) []
def L9(ranks:List Int)(j:Nat):H3 ranks (j+1)=Yy (H3 ranks j) ⟨ranks.getD j 0,0,j⟩:=by
 rw[H3,vH,xP];rfl
def Sc(ranks:List Int):∀j,(H3 ranks j).length=j
 |0=>rfl
 |j+1=>by rw[L9,Od,Sc ranks j]
def cB(roots:List Int):Nat:=roots.countP (λr=>decide (r<0))
def reachM(s:List Item×List Int×List Int):Nat:=41*cB s.2.1+s.1.length
structure ReachInv(n:Net)(s:List Item×List Int×List Int):Prop where
 rootsL:s.2.1.length=n.devices.length
 costsL:s.2.2.length=n.devices.length
 items:∀x∈s.1,0<=x.dev/\x.dev<n.devices.length/\0<=x.root/\0<=x.cost/\x.cost+65535*cB s.2.1<=65535*n.devices.length
 few:s.1.length+40*cB s.2.1<=1000
def A03(roots:List Int):cB roots<=roots.length:=List.countP_le_length
def Awm{roots:List Int}{i:Nat}{v:Int}(h:i<roots.length)(h0:roots[i]<0)(hv:0<=v):cB (roots.set i v)+1=cB roots:=by
 have h1:0<roots.countP (λr=>decide (r<0)):=List.countP_pos_iff.2 ⟨roots[i],zI h,kS h0⟩;have hv':¬v<0:=by omega
 rw[cB,cB,List.countP_set h];simp only[h0,hv',decide_true,decide_false,if_true,uR,if_false];omega
def Ah9(n:Net)(up:List Bool)(x:Item)(hr:Ac n=true)(aj:Cv n=true){m:Nat}(hx:0<=x.root/\0<=x.cost/\x.cost+65535*(m+1)<=65535*n.devices.length)(q:List Item)(hq:∀y∈q,0<=y.dev/\y.dev<n.devices.length/\0<=y.root/\0<=y.cost/\y.cost+65535*m<=65535*n.devices.length)(i:Nat)(hi:i<n.ports.length):(∀y∈Et n up x q i,0<=y.dev/\y.dev<n.devices.length/\0<=y.root/\0<=y.cost/\y.cost+65535*m<=65535*n.devices.length)/\(Et n up x q i).length<=q.length+1:=by
 rw[Et];split
 .rename_i h;have ab:=Adc hr hi h.2;have hk:(Eh n up i).toNat<n.ports.length:=by omega
  have hd:=V8 hr hk;have hpc:1<=n.ports[(Eh n up i).toNat].cost/\n.ports[(Eh n up i).toNat].cost<=65535:=by
   simp only[Cv,yU,wE]at aj;have:=aj _ (zI hk);simp only[Iz,yO,zJ,uF]at this;omega
  have e:nth n.ports (Eh n up i)=n.ports[(Eh n up i).toNat]:=Ae (l:=n.ports) (i:=Eh n up i) q_;rw[e];refine⟨λy hy=>?_,by rw[Od];omega⟩;rcases yI.1 ((Ub q _).mem_iff.1 hy) with rfl|hy
  .simp only;omega
  .exact hq y hy
 .exact⟨hq,by omega⟩
def Abm(n:Net)(up:List Bool)(x:Item)(hr:Ac n=true)(aj:Cv n=true){m:Nat}(hx:0<=x.root/\0<=x.cost/\x.cost+65535*(m+1)<=65535*n.devices.length)(q:List Item)(hq:∀y∈q,0<=y.dev/\y.dev<n.devices.length/\0<=y.root/\0<=y.cost/\y.cost+65535*m<=65535*n.devices.length):∀i,i<=n.ports.length ->
  (∀y∈(List.range i).foldl (Et n up x) q,0<=y.dev/\y.dev<n.devices.length/\0<=y.root/\0<=y.cost/\y.cost+65535*m<=65535*n.devices.length)/\((List.range i).foldl (Et n up x) q).length<=q.length+i
 |0,_=>⟨hq,by simp⟩
 |i+1,hi=>by
  obtain ⟨h1,h2⟩:=Abm n up x hr aj hx q hq i q_;rw[vH,xP];obtain ⟨h3,h4⟩:=Ah9 n up x hr aj hx _ h1 i q_;exact⟨h3,by simp only[vP,tP];omega⟩
def Ach{q:List Item}(hq:q≠[]):(Ef q).getLast?.getD default=(Ef q).getLast (Hm hq):=by
 rw[List.getLast?_eq_some_getLast (Hm hq)];rfl
def Oy(n:Net)(up:List Bool)(hr:Ac n=true)(aj:Cv n=true)(s:List Item×List Int×List Int)(hI:ReachInv n s)(af:s.1≠[]):ReachInv n (T9 n up s)/\reachM (T9 n up s)<reachM s:=by
 have hf:=Ip hr;have hx:=hI.items _ ((Xt s.1 af).mem_iff.1 (List.getLast_mem (Hm af)));have hd:∀y∈(Ef s.1).dropLast,y∈s.1:=λy hy=>(Xt s.1 af).mem_iff.1 ((List.dropLast_sublist _).subset hy)
 have h0:0<s.1.length:=xS.2 af;have gh:(Ef s.1).dropLast.length+1=s.1.length:=by rw[tG,Hw];omega
 have mu:=hI.few;rw[T9,Ach af];generalize (Ef s.1).getLast (Hm af)=x at *;split
 .exact⟨⟨hI.rootsL,hI.costsL,λy hy=>hI.items y (hd y hy),by simp only;omega⟩,by unfold reachM;simp only;omega⟩
 .rename_i j8;have hk:x.dev.toNat<s.2.1.length:=by rw[hI.rootsL];omega
  rw[Ae (l:=s.2.1) (i:=x.dev) (by rw[hI.rootsL];omega)]at j8;have hm:=Awm hk q_ hx.2.2.1;obtain ⟨h1,h2⟩:=Abm n up x hr aj (m:=cB (s.2.1.set x.dev.toNat x.root)) ⟨hx.2.2.1,hx.2.2.2.1,by have:=hx.2.2.2.2;omega⟩ (Ef s.1).dropLast (λy hy=>by have:=hI.items y (hd y hy);omega) n.ports.length (yE _);exact⟨⟨by simp only[yQ];exact hI.rootsL,by simp only[yQ];exact hI.costsL,h1,by simp only;omega⟩,by unfold reachM;simp only;omega⟩
def lW(n:Net)(up:List Bool)(hr:Ac n=true)(aj:Cv n=true):∀(f g:Nat) (s:List Item×List Int×List Int),ReachInv n s->reachM s<=f->reachM s<=g->Jl n up f s=Jl n up g s
 |0,0,_,_,_,_=>rfl
 |0,g+1,s,_,h,_=>by
  have:s.1=[]:=yC (by unfold reachM at h;omega);rw[Jl,Jl,zE this]
 |f+1,0,s,_,_,h=>by
  have:s.1=[]:=yC (by unfold reachM at h;omega);rw[Jl,Jl,zE this]
 |f+1,g+1,s,hI,h1,h2=>by
  rw[Jl,Jl];split
  .rfl
  .rename_i af;obtain ⟨h3,h4⟩:=Oy n up hr aj s hI af;exact lW n up hr aj f g _ h3 q_ q_
def Mv(n:Net)(up:List Bool)(s:List Item×List Int×List Int):List Item×List Int×List Int:=Jl n up (reachM s) s
def Ap5(n:Net)(up:List Bool)(s:List Item×List Int×List Int)(h:s.1=[]):Mv n up s=s:=by
 rw[Mv];cases reachM s with
 |zero=>rfl
 |succ m=>rw[Jl,zE h]
def Ak4(n:Net)(up:List Bool)(hr:Ac n=true)(aj:Cv n=true)(s:List Item×List Int×List Int)(hI:ReachInv n s)(af:s.1≠[]):Mv n up s=Mv n up (T9 n up s):=by
 obtain ⟨h3,h4⟩:=Oy n up hr aj s hI af;rw[Mv,Mv];obtain ⟨m,hm⟩:∃m,reachM s=m+1:=⟨reachM s-1,by omega⟩
 rw[hm,Jl,zD af];exact lW n up hr aj _ _ _ h3 q_ (yE _)
def lN(ranks:List Int)(m:Nat)(p9:∀r∈ranks,0<=r):∀j,j<=ranks.length->∀y∈H3 ranks j,0<=y.dev/\y.dev<m+ranks.length/\0<=y.root/\y.cost=0
 |0,_,y,hy=>by simp[H3]at hy
 |j+1,hj,y,hy=>by
  rw[L9]at hy;rcases yI.1 ((Ub _ _).mem_iff.1 hy) with rfl|hy
  .have h1:=p9 (ranks[j]'q_) (zI _);have h2:(0:Int)<=(j:Int)/\(j:Int)<m+ranks.length:=by omega
   exact⟨h2.1,h2.2,by rw[Bo (show j<ranks.length by omega)];exact h1,E⟩
  .exact lN ranks m p9 j q_ y hy
def Afn(n:Net)(ranks roots costs:List Int)(hr:Ac n=true)(o6:ranks.length=n.devices.length)(ji:roots.length=n.devices.length)(hc:costs.length=n.devices.length)(p9:∀r∈ranks,0<=r):ReachInv n (H3 ranks ranks.length,roots,costs):=by
 have hf:=Ip hr;have hm:=A03 roots;refine⟨ji,hc,λy hy=>?_,by simp only[Sc];omega⟩;have:=lN ranks 0 p9 _ (yE _) y hy;simp only;omega
def Le2(r c r' c':Int):Prop:=r<r'\/(r=r'/\c<=c')
def Aw7{x y:Item}(h:Cr y x=false):Le2 x.root x.cost y.root y.cost:=by
 simp only[Cr,xX,yB,yX,zU]at h;unfold Le2;omega
def Aw6{a b c d e f:Int}(h1:Le2 a b c d)(h2:Le2 c d e f):Le2 a b e f:=by
 unfold Le2 at *;omega
def Aml{a b c d m:Int}(h1:Le2 a b c d)(hm:0<=m):Le2 a b c (d+m):=by
 unfold Le2 at *;omega
def Ok(n:Net)(up:List Bool)(i j:Nat):Prop:=i<n.ports.length/\Eh n up i=j
def Ut{n:Net}{up:List Bool}(hr:Ac n=true){i j:Nat}(h:Ok n up i j):j<n.ports.length:=by
 have:=Adc (up:=up) hr h.1 (by rw[h.2];omega);rw[h.2]at this;omega
def fS{n:Net}{up:List Bool}(hr:Ac n=true){i j:Nat}(h:Ok n up i j):∃k:Nat,k<n.links.length/\(nth n.ports i).link=k/\(nth n.ports j).link=k/\up.getD k false=true/\(((nth n.links k).a=i/\(nth n.links k).b=j)\/((nth n.links k).a=j/\(nth n.links k).b=i))/\B6 n i≠B6 n j:=by
 have hj:=Ut hr h;obtain ⟨hi,hf⟩:=h;have hp:=T7 hr hi;have ay:=Xs hr hi;simp only[Kj,zG,yO,yJ]at hp;have hp:=hp.2;have e:nth n.ports i=n.ports[i]:=Ae (l:=n.ports) (i:=(i:Int)) (kS hi);unfold Eh at hf;rw[Bo hi]at hf;simp only at hf;split at hf
 .omega
 .rename_i hc;simp only[yO,zJ,uF,yU,Bool.not_eq_false]at hc;rcases hp with hp|hp
  .omega
  .have hl:n.ports[i].link.toNat<n.links.length:=by omega
   have ak:=Zx hr hl;have he:=Om hr hl;have ek:((n.ports[i].link.toNat:Nat):Int)=n.ports[i].link:=by omega
   refine⟨n.ports[i].link.toNat,hl,by rw[e];omega,?_⟩;simp only[M2,zG,yJ,xC]at ak;obtain ⟨⟨⟨_,af⟩,h1⟩,h2⟩:=ak;rw[ek];rw[Ae (l:=n.links) (i:=n.ports[i].link) q_]at hf hp|-;generalize n.links[n.ports[i].link.toNat]=l at *;rcases hp.2 with ha|hb
   .have hb:l.b=j:=by omega
    rw[ha,hb]at af;rw[hb]at h2;exact⟨by omega,kS hc.2,.inl ⟨ha,hb⟩,af⟩
   .have ha:l.a=j:=by omega
    rw[ha,hb]at af;rw[ha]at h1;exact⟨by omega,kS hc.2,.inr ⟨ha,hb⟩,λh=>af h.symm⟩
def Wp{n:Net}{up:List Bool}(hr:Ac n=true){i j:Nat}(h:Ok n up i j):Ok n up j i:=by
 have hj:=Ut hr h;obtain ⟨k,hk,_,h2,h3,h4,_⟩:=fS hr h;refine⟨hj,?_⟩;unfold Eh;have e:n.ports.getD j default=nth n.ports j:=rfl;rw[e];simp only[h2,zZ,h3];rw[zD y_];omega
def K3{n:Net}(hr:Ac n=true){i:Nat}(hi:i<n.ports.length):0<=B6 n i/\B6 n i<n.devices.length:=by
 rw[B6,Ae (l:=n.ports) (i:=(i:Int)) (kS hi)];exact V8 hr hi
def Der(n:Net)(up:List Bool)(K R C:Int->Int)(r c d:Int):Prop :=
 (r=K d/\c=0)\/∃i j:Nat,Ok n up i j/\B6 n i=d/\0<=R (B6 n j)/\r=R (B6 n j)/\c=C (B6 n j)+Me n i
structure Dij(n:Net)(up:List Bool)(K:Int->Int)(q:List Item)(R C:Int->Int):Prop where
 heap:Qr q q.length
 items:∀x∈q,Der n up K R C x.root x.cost x.dev
 done:∀d:Int,0<=d->d<n.devices.length->0<=R d->Der n up K R C (R d) (C d) d
 own:∀d:Int,0<=d->d<n.devices.length->R d<0->⟨K d,0,d⟩∈q
 push:∀i j:Nat,Ok n up i j->R (B6 n i)<0->0<=R (B6 n j)->⟨R (B6 n j),C (B6 n j)+Me n i,B6 n i⟩∈q
 low:∀d:Int,0<=d->d<n.devices.length->0<=R d->∀x∈q,Le2 (R d) (C d) x.root x.cost
 self:∀d:Int,0<=d->d<n.devices.length->0<=R d->Le2 (R d) (C d) (K d) 0
 tri:∀i j:Nat,Ok n up i j->0<=R (B6 n i)->0<=R (B6 n j)->Le2 (R (B6 n i)) (C (B6 n i)) (R (B6 n j)) (C (B6 n j)+Me n i)
def Abk(n:Net)(up:List Bool)(x:Item)(q:List Item)(y:Item):∀m,y∈(List.range m).foldl (Et n up x) q↔y∈q\/∃i,i<m/\B6 n i=x.dev/\0<=Eh n up i/\y=⟨x.root,x.cost+(nth n.ports (Eh n up i)).cost,(nth n.ports (Eh n up i)).dev⟩
 |0=>by simp
 |m+1=>by
  rw[vH,xP];simp only[vP,tP];rw[Et];have ih:=Abk n up x q y m;have e:(n.ports.getD m default).dev=B6 n m:=rfl;rw[e];split
  .rename_i h;rw[(Ub _ _).mem_iff,yI,ih];constructor
   .rintro (h1|h1|⟨i,h1,h2⟩)
    .exact .inr ⟨m,by omega,h.1,h.2,h1⟩
    .exact .inl h1
    .exact .inr ⟨i,by omega,h2⟩
   .rintro (h1|⟨i,h1,h2,h3,h4⟩)
    .exact .inr (.inl h1)
    .by_cases hm:i=m
     .subst hm;exact .inl h4
     .exact .inr (.inr ⟨i,by omega,h2,h3,h4⟩)
  .rename_i h;rw[ih];constructor
   .rintro (h1|⟨i,h1,h2⟩)
    .exact .inl h1
    .exact .inr ⟨i,by omega,h2⟩
   .rintro (h1|⟨i,h1,h2,h3,h4⟩)
    .exact .inl h1
    .by_cases hm:i=m
     .subst hm;exact yA ⟨h2,h3⟩ h
     .exact .inr ⟨i,by omega,h2,h3,h4⟩
def lV(n:Net)(up:List Bool)(x:Item)(q:List Item)(h:Qr q q.length):∀m,Qr ((List.range m).foldl (Et n up x) q) ((List.range m).foldl (Et n up x) q).length
 |0=>h
 |m+1=>by
  rw[vH,xP];simp only[vP,tP];have ih:=lV n up x q h m;rw[Et];split
  .exact Abt _ _ ih
  .exact ih
def Adp{n:Net}{up:List Bool}{K R C R' C':Int->Int}{r c d:Int}(h:Der n up K R C r c d)(hs:∀e,0<=R e->R' e=R e/\C' e=C e):Der n up K R' C' r c d:=by
 rcases h with h|⟨i,j,h1,h2,h3,h4,h5⟩
 .exact .inl h
 .obtain ⟨e1,e2⟩:=hs _ h3;exact .inr ⟨i,j,h1,h2,by rw[e1];exact h3,by rw[e1];exact h4,by rw[e2];exact h5⟩
def A2x{n:Net}{up:List Bool}{K R C:Int->Int}{q q':List Item}{x:Item}(h:Dij n up K q R C)(hp:(x::q').Perm q)(hh:Qr q' q'.length)(hx:0<=R x.dev):Dij n up K q' R C:=by
 have hm:∀y,y∈q↔y=x\/y∈q':=λy=>by rw[<-hp.mem_iff,yI]
 refine⟨hh,λy hy=>h.items y ((hm y).2 (.inr hy)),h.done,λd h0 h1 h2=>?_,λi j bu h1 h2=>?_,λd h0 h1 h2 y hy=>h.low d h0 h1 h2 y ((hm y).2 (.inr hy)),h.self,h.tri⟩
 .rcases (hm _).1 (h.own d h0 h1 h2) with e|e
  .rw[<-e]at hx;simp only at hx;omega
  .exact e
 .rcases (hm _).1 (h.push i j bu h1 h2) with e|e
  .rw[<-e]at hx;simp only at hx;omega
  .exact e
def A2w{n:Net}{up:List Bool}{K R C R' C':Int->Int}{q q':List Item}{x:Item}(hr:Ac n=true)(aj:Cv n=true)(h:Dij n up K q R C)(hp:(x::q').Perm q)(hh:Qr q' q'.length)(tw:∀y∈q,Cr y x=false)(hx:R x.dev<0)(jk:0<=x.root)(_hxd:0<=x.dev/\x.dev<n.devices.length)(hR:∀e,R' e=if e=x.dev then x.root else R e)(hC:∀e,C' e=if e=x.dev then x.cost else C e):Dij n up K ((List.range n.ports.length).foldl (Et n up x) q') R' C':=by
 have hm:∀y,y∈q↔y=x\/y∈q':=λy=>by rw[<-hp.mem_iff,yI]
 have hn:=λy=>Abk n up x q' y n.ports.length
 have hs:∀e,0<=R e->R' e=R e/\C' e=C e:=λe he=>by
  have:e≠x.dev:=λh=>by rw[h]at he;omega
  rw[hR,hC,zD this,zD this];exact⟨E,E⟩
 have sq:R' x.dev=x.root:=by rw[hR,zE rfl]
 have vy:C' x.dev=x.cost:=by rw[hC,zE rfl]
 have hxq:x∈q:=(hm x).2 (.inl rfl);have hle:∀y∈q,Le2 x.root x.cost y.root y.cost:=λy hy=>Aw7 (tw y hy)
 have az:∀y,y∈(List.range n.ports.length).foldl (Et n up x) q'↔y∈q'\/∃i j:Nat,Ok n up i j/\B6 n i=x.dev/\y=⟨x.root,x.cost+Me n j,B6 n j⟩:=λy=>by
  rw[hn y];constructor
  .rintro (h1|⟨i,h1,h2,h3,h4⟩)
   .exact .inl h1
   .obtain ⟨j,hj⟩:∃j:Nat,Eh n up i=j:=⟨(Eh n up i).toNat,by omega⟩
    rw[hj]at h4;exact .inr ⟨i,j,⟨h1,hj⟩,h2,h4⟩
  .rintro (h1|⟨i,j,h1,h2,h3⟩)
   .exact .inl h1
   .refine .inr ⟨i,h1.1,h2,by rw[h1.2];omega,?_⟩;rw[h1.2];exact h3
 refine⟨lV n up x q' hh _,λy hy=>?_,λd h0 h1 h2=>?_,λd h0 h1 h2=>?_,λi j bu h1 h2=>?_,λd h0 h1 h2 y hy=>?_,λd h0 h1 h2=>?_,λi j bu h1 h2=>?_⟩
 .rcases (az y).1 hy with hy|⟨i,j,h1,h2,rfl⟩
  .exact Adp (h.items y ((hm y).2 (.inr hy))) hs
  .exact .inr ⟨j,i,Wp hr h1,E,by rw[h2,sq];exact jk,by rw[h2,sq],by rw[h2,vy]⟩
 .by_cases hd:d=x.dev
  .subst hd;rw[sq,vy];exact Adp (h.items x hxq) hs
  .rw[hR,zD hd]at h2;obtain ⟨e1,e2⟩:=hs d h2;rw[e1,e2];exact Adp (h.done d h0 h1 h2) hs
 .have hd:d≠x.dev:=λe=>by rw[e,sq]at h2;omega
  rw[hR,zD hd]at h2;refine(az _).2 (.inl ?_);rcases (hm _).1 (h.own d h0 h1 h2) with e|e
  .exact yA (zH Item.dev e) hd
  .exact e
 .have hd:B6 n i≠x.dev:=λe=>by rw[e,sq]at h1;omega
  rw[hR,zD hd]at h1;by_cases hj:B6 n j=x.dev
  .rw[hj,sq,vy];exact(az _).2 (.inr ⟨j,i,Wp hr bu,hj,E⟩)
  .rw[hR,zD hj]at h2;obtain ⟨e1,e2⟩:=hs _ h2;rw[e1,e2];refine(az _).2 (.inl ?_);rcases (hm _).1 (h.push i j bu h1 h2) with e|e
   .exact yA (zH Item.dev e) hd
   .exact e
 .have hdx:Le2 (R' d) (C' d) x.root x.cost:=by
   by_cases hd:d=x.dev
   .subst hd;rw[sq,vy];exact .inr ⟨rfl,xZ _⟩
   .rw[hR,zD hd]at h2;obtain ⟨e1,e2⟩:=hs d h2;rw[e1,e2];exact h.low d h0 h1 h2 x hxq
  rcases (az y).1 hy with hy|⟨i,j,h3,_,rfl⟩
  .exact Aw6 hdx (hle y ((hm y).2 (.inr hy)))
  .exact Aml hdx (by have:=bS aj (Ut hr h3);omega)
 .by_cases hd:d=x.dev
  .subst hd;rw[sq,vy];exact hle _ (h.own _ h0 h1 hx)
  .rw[hR,zD hd]at h2;obtain ⟨e1,e2⟩:=hs d h2;rw[e1,e2];exact h.self d h0 h1 h2
 .have hj:=Ut hr bu;have hpc:=bS aj bu.1;have af:=(fS hr bu).choose_spec.2.2.2.2.2;by_cases hd:B6 n i=x.dev
  .rw[hd,sq,vy];have uv:B6 n j≠x.dev:=λe=>af (by rw[hd,e])
   rw[hR,zD uv]at h2;obtain ⟨e1,e2⟩:=hs _ h2;rw[e1,e2];exact hle _ (h.push i j bu (by rw[hd];exact hx) h2)
  .rw[hR,zD hd]at h1;obtain ⟨e1,e2⟩:=hs _ h1;rw[e1,e2];by_cases uv:B6 n j=x.dev
   .rw[uv,sq,vy];have gh:=K3 hr bu.1;exact Aml (h.low _ gh.1 gh.2 h1 x hxq) q_
   .rw[hR,zD uv]at h2;obtain ⟨e3,e4⟩:=hs _ h2;rw[e3,e4];exact h.tri i j bu h1 h2
def atI(l:List Int)(e:Int):Int:=if e<0 then -1 else nth l e
def Qp{l:List Int}{e:Int}(h:0<=e):atI l e=nth l e:=by rw[atI,zD q_]
def Auc{l:List Int}{d v:Int}(h0:0<=d)(h1:d<l.length)(e:Int):atI (l.set d.toNat v) e=if e=d then v else atI l e:=by
 by_cases he:e<0
 .rw[atI,zE he,zD q_,atI,zE he]
 .rw[atI,zD he,atI,zD he,nth,nth,tE];by_cases hd:e=d
  .subst hd;rw[zE rfl,zE rfl,zE q_];rfl
  .rw[zD q_,zD hd]
structure DijS(n:Net)(up:List Bool)(ranks:List Int)(s:List Item×List Int×List Int):Prop where
 inv:ReachInv n s
 dij:Dij n up (atI ranks) s.1 (atI s.2.1) (atI s.2.2)
 bound:∀c∈s.2.2,0<=c/\c<=1000000
def Ap6(n:Net)(up:List Bool)(ranks:List Int)(hr:Ac n=true)(aj:Cv n=true)(s:List Item×List Int×List Int)(hI:DijS n up ranks s)(af:s.1≠[]):DijS n up ranks (T9 n up s):=by
 have hf:=Ip hr;have h1:=(Oy n up hr aj s hI.inv af).1;have df:=Az6 s.1 af;have nh:=Az7 s.1 af hI.dij.heap;have vz:=Av3 s.1 hI.dij.heap;have hx:=hI.inv.items _ (df.mem_iff.1 (List.mem_cons_self ..));have v7:=hI.inv.rootsL;have ie:=hI.inv.costsL;have hd:=hI.dij;have hb:=hI.bound;rw[T9,Ach af,Ala s.1 af]at *;generalize s.1.getD 0 default=x at *;try simp only at *
 have ea:nth s.2.1 x.dev=atI s.2.1 x.dev:=(Qp hx.1).symm;rw[ea];rw[ea]at h1;split
 .rename_i hc;rw[zE hc]at h1;exact⟨h1,A2x hd df nh hc,hb⟩
 .rename_i hc;rw[zD hc]at h1;refine⟨h1,A2w hr aj hd df nh vz q_ hx.2.2.1 ⟨hx.1,hx.2.1⟩ (Auc hx.1 q_) (Auc hx.1 q_),λc hc=>?_⟩;rcases tB hc with h|h
  .exact hb c h
  .omega
def Abn(n:Net)(up:List Bool)(ranks:List Int)(hr:Ac n=true)(aj:Cv n=true):∀(f:Nat) (s:List Item×List Int×List Int),DijS n up ranks s->reachM s<=f->DijS n up ranks (Jl n up f s)/\(Jl n up f s).1=[]
 |0,s,h,hf=>⟨h,yC (by unfold reachM at hf;rw[Jl];omega)⟩
 |f+1,s,h,hf=>by
  rw[Jl];split
  .rename_i he;exact⟨h,he⟩
  .rename_i af;exact Abn n up ranks hr aj f _ (Ap6 n up ranks hr aj s h af) (by have:=(Oy n up hr aj s h.inv af).2;omega)
structure Solved(n:Net)(up:List Bool)(ranks roots costs:List Int):Prop where
 rootsL:roots.length=n.devices.length
 costsL:costs.length=n.devices.length
 bound:∀c∈costs,0<=c/\c<=1000000
 root:∀d:Int,0<=d->d<n.devices.length->0<=nth roots d
 self:∀d:Int,0<=d->d<n.devices.length->Le2 (nth roots d) (nth costs d) (nth ranks d) 0
 tri:∀i j:Nat,Ok n up i j->Le2 (nth roots (B6 n i)) (nth costs (B6 n i)) (nth roots (B6 n j)) (nth costs (B6 n j)+Me n i)
 der:∀d:Int,0<=d->d<n.devices.length->(nth roots d=nth ranks d/\nth costs d=0)\/∃i j:Nat,Ok n up i j/\B6 n i=d/\nth roots d=nth roots (B6 n j)/\nth costs d=nth costs (B6 n j)+Me n i
def Au9(n:Net)(up:List Bool)(ranks:List Int)(hr:Ac n=true)(s:List Item×List Int×List Int)(h:DijS n up ranks s)(he:s.1=[]):Solved n up ranks s.2.1 s.2.2:=by
 have hd:=h.dij;rw[he]at hd;have h0:∀d:Int,0<=d->d<n.devices.length->0<=atI s.2.1 d:=λd h1 h2=>by
  by_cases hc:0<=atI s.2.1 d
  .exact hc
  .have:=hd.own d h1 h2 q_;simp at this
 refine⟨h.inv.rootsL,h.inv.costsL,h.bound,λd h1 h2=>?_,λd h1 h2=>?_,λi j bu=>?_,λd h1 h2=>?_⟩
 .have:=h0 d h1 h2;rwa [Qp h1]at this
 .have:=hd.self d h1 h2 (h0 d h1 h2);simpa only [Qp h1] using this
 .have hi:=K3 hr bu.1;have hj:=K3 hr (Ut hr bu);have:=hd.tri i j bu (h0 _ hi.1 hi.2) (h0 _ hj.1 hj.2);simpa only [Qp hi.1,Qp hj.1] using this
 .rcases hd.done d h1 h2 (h0 d h1 h2) with h3|⟨i,j,h3,h4,_,h5,h6⟩
  .simp only[Qp h1]at h3;exact .inl h3
  .have hj:=K3 hr (Ut hr h3);simp only[Qp h1,Qp hj.1]at h5 h6;exact .inr ⟨i,j,h3,h4,h5,h6⟩
def eT(ranks:List Int)(y:Item):∀j,y∈H3 ranks j↔∃i,i<j/\y=⟨ranks.getD i 0,0,i⟩
 |0=>by simp[H3]
 |j+1=>by
  rw[L9,(Ub _ _).mem_iff,yI,eT ranks y j];constructor
  .rintro (h|⟨i,h1,h2⟩)
   .exact⟨j,by omega,h⟩
   .exact⟨i,by omega,h2⟩
  .rintro ⟨i,h1,h2⟩;by_cases h:i=j
   .subst h;exact .inl h2
   .exact .inr ⟨i,by omega,h2⟩
def Aa3(ranks:List Int):∀j,Qr (H3 ranks j) (H3 ranks j).length
 |0=>λc _ h2 _=>by simp[H3]at h2
 |j+1=>by
  rw[L9];exact Abt _ _ (Aa3 ranks j)
def Aeu{v:Int}{m:Nat}{d:Int}(h1:d<m)(h0:0<=d):nth (List.replicate m v) d=v:=by
 rw[Ae kO];simp
def Au6(n:Net)(up:List Bool)(ranks:List Int)(hr:Ac n=true)(o6:ranks.length=n.devices.length)(p9:∀r∈ranks,0<=r):DijS n up ranks (H3 ranks ranks.length,List.replicate n.devices.length (-1),List.replicate n.devices.length 0):=by
 have j8:∀d:Int,0<=d->d<n.devices.length->atI (List.replicate n.devices.length (-1)) d=-1:=λd h0 h1=>by rw[Qp h0,Aeu h1 h0]
 refine⟨Afn n ranks _ _ hr o6 y_ y_ p9,⟨Aa3 ranks _,λx hx=>?_,λd h0 h1 h2=>?_,λd h0 h1 h2=>?_,λi j bu h1 h2=>?_,λd h0 h1 h2=>?_,λd h0 h1 h2=>?_,λi j bu h1 h2=>?_⟩,λc hc=>?_⟩
 .obtain ⟨i,h1,rfl⟩:=(eT ranks x _).1 hx;refine .inl ⟨?_,E⟩;simp only;rw[Qp q_,Ae (kS h1),Bo h1];rfl
 .rw[j8 d h0 h1]at h2;omega
 .refine(eT ranks _ _).2 ⟨d.toNat,by omega,?_⟩;rw[Qp h0,Ae q_,Bo q_,yR h0]
 .have hj:=K3 hr (Ut hr bu);rw[j8 _ hj.1 hj.2]at h2;omega
 .rw[j8 d h0 h1]at h2;omega
 .rw[j8 d h0 h1]at h2;omega
 .have hj:=K3 hr (Ut hr bu);rw[j8 _ hj.1 hj.2]at h2;omega
 .have:=List.eq_of_mem_replicate hc;omega
def V7(n:Net)(up:List Bool)(ranks:List Int):List Item×List Int×List Int:=Mv n up (H3 ranks ranks.length,List.replicate n.devices.length (-1),List.replicate n.devices.length 0)
def Aej(n:Net)(up:List Bool)(ranks:List Int)(hr:Ac n=true)(aj:Cv n=true)(o6:ranks.length=n.devices.length)(p9:∀r∈ranks,0<=r):Solved n up ranks (V7 n up ranks).2.1 (V7 n up ranks).2.2:=by
 obtain ⟨h1,h2⟩:=Abn n up ranks hr aj _ _ (Au6 n up ranks hr o6 p9) (yE _);exact Au9 n up ranks hr _ h1 h2
end Go.Sy.Zaa
