/- Parts of a proof. -/
import Derived.Test.YtodbnbfjhjcanaaGreatDoorXA13
set_option maxHeartbeats 4000000
set_option linter.all false
namespace Go.Sy.Zaa
open Go.Proofs Go.Proofs.Tryz
attribute [local irreducible]G DR
set_option maxRecDepth 20000
structure Item where
 (root cost dev:Int)
instance:Inhabited Item:=⟨⟨0,0,0⟩⟩
def B4(x:Item):SV:=.agg [Aa x.root,Aa x.cost,Aa x.dev]
def Cp(x y:Item):Bool:=decide (x.root<y.root)||(x.root==y.root&&decide (x.cost<y.cost))
def cS(q:List Item):Sp 303 [.sl 3 B4 q] (Aa q.length):=cT F303 ntmps303 λF hF=>by
 conv=>whnf
 exact dN
def M6(q:List Item)(i j:Nat)(hi:i<q.length)(hj:j<q.length):Sp 439 [.sl 3 B4 q,Aa i,Aa j] (Ab (Cp q[i] q[j])):=cT F439 ntmps439 λF hF=>by
 have e1:q[(i:Int).toNat]'z_=q[i]:=rfl;have e2:q[(j:Int).toNat]'z_=q[j]:=rfl
 conv=>whnf
 (repeat' (first|(refine⟨λh=>?_,λh=>?_⟩<;>(repeat (first|simp only[zJ]at h|simp only[zY]at h|simp only[yJ]at h|simp only[zT]at h))<;>((refine rd j_ ?_);(conv=>whnf)))|(refine Aq rfl Ap ?_ rfl)|(refine⟨j_,?_⟩;((conv=>whnf)))|(refine⟨by (omega),by (omega),?_⟩;((conv=>whnf)))))
 all_goals (refine zH Ab ?_;clear hF;grind [Cp])
def M5(q:List Item)(i j:Nat)(hi:i<q.length)(hj:j<q.length):Sq 442 [.osl 0,Aa i,Aa j] [(0,.row 3 B4 q)] (.tup []) [(0,.row 3 B4 ((q.set i q[j]).set j q[i]))]:=cT F442 ntmps442 λF hF=>by
 have e1:q[(i:Int).toNat]'z_=q[i]:=rfl;have e2:q[(j:Int).toNat]'z_=q[j]:=rfl
 conv=>whnf
 refine⟨by omega,by omega,?_⟩
 conv=>whnf
 refine⟨E,by omega,?_⟩;rw[e2]
 conv=>whnf
 refine⟨by omega,by omega,?_⟩
 conv=>whnf
 refine⟨E,by omega,?_⟩;rw[e1]
 conv=>whnf
 refine⟨by omega,by omega,?_⟩
 conv=>whnf
 refine⟨E,by omega,q[j],E,E,?_⟩
 conv=>whnf
 refine⟨by omega,by simp;omega,?_⟩
 conv=>whnf
 refine⟨E,by simp;omega,q[i],E,E,?_⟩
 conv=>whnf
 refine kW ?_;exact A2 E .nil [] [(0,.row 3 B4 ((q.set i q[j]).set j q[i]))] (λ_ h=>h) E E kU
def Ano(q:List Item)(x:Item)(hq:q.length<1000000):Sq 441 [.ptr 0 0,.ifc 441 (B4 x)] [(0,.box [.osl 1]),(1,.row 3 B4 q)] (.tup []) [(0,.box [.osl 2]),(1,.non),(2,.row 3 B4 (q++[x]))]:=cT F441 ntmps441 λF hF=>by
 conv=>whnf
 refine Ai (eZ Γ.toTy E E E E) E E (oT ?_);refine Cc (Ah Γ.toTy 18 E E E E E (.row E) (.lit (l:=[x]) E E) qq kO kO) j_ E (gM ?_);exact A2 E .nil [(2,18)] [(0,.box [.osl 2]),(1,.non),(2,.row 3 B4 (q++[x]))] (λ_ h=>h) E E kU
def As5(q:List Item)(hq:q≠[])(hl:q.length<1000000):Sq 440 [.ptr 0 0] [(0,.box [.osl 1]),(1,.row 3 B4 q)] (.ifc 441 (B4 (q.getLast hq))) [(0,.box [.osl 2]),(1,.non),(2,.row 3 B4 q.dropLast)]:=cT F440 ntmps440 λF hF=>by
 have h0:0<q.length:=xU.2 hq;have e1:q[((q.length:Int)-1).toNat]'z_=q.getLast hq:=by
  rw[List.getLast_eq_getElem];congr 1;omega
 conv=>whnf
 refine iW ?_;refine⟨by omega,by omega,?_⟩
 conv=>whnf
 refine⟨E,by omega,?_⟩;rw[e1]
 conv=>whnf
 refine kW ?_;refine iW ?_;refine Cc (Aaw Γ.toTy (d:=23) (hi:=q.length-1) E E E E E y_ E (.inl ⟨E,E⟩) (.inr ⟨_,_,E,zH (λz=>SV.val (.int .i64 z)) z_⟩) z_) j_ E ?_;rw[<-List.dropLast_eq_take];refine gM ?_;exact done E Ap [(2,23)] [(0,.box [.osl 2]),(1,.non),(2,.row 3 B4 q.dropLast)] (λ_ h=>h) E E kU
set_option maxRecDepth 100000
def mLen : Meth prog 436 "Len" 303 false 438 := .of (by kernel_rfl) Tryz.underlying436
def Ajy : Meth prog 436 "Less" 439 false 438 := .of (by kernel_rfl) Tryz.underlying436
def Ajx : Meth prog 436 "Swap" 442 false 438 := .of (by kernel_rfl) Tryz.underlying436
def mPush : Meth prog 436 "Push" 441 true 438 := .of (by kernel_rfl) Tryz.underlying436
def mPop : Meth prog 436 "Pop" 440 true 438 := .of (by kernel_rfl) Tryz.underlying436
def He(q:List Item)(i j:Nat):List Item:=(q.set i (q.getD j default)).set j (q.getD i default)
def Bg(q:List Item)(i j:Nat):(He q i j).length=q.length:=by simp[He]
def upF:Nat->List Item->Nat->List Item
 |0,q,_=>q
 |n+1,q,j=>if j=0 then q else if Cp (q.getD j default) (q.getD ((j-1)/2) default) then upF n (He q ((j-1)/2) j) ((j-1)/2) else q
def Ah3:∀(n m:Nat) (q:List Item) (j:Nat),j<=n->j<=m->upF n q j=upF m q j
 |0,m,q,j,h,_=>by
  have:j=0:=by omega
  subst this;cases m<;>simp[upF]
 |n+1,0,q,j,_,h=>by
  have:j=0:=by omega
  subst this;simp[upF]
 |n+1,m+1,q,j,h1,h2=>by
  rw[upF,upF];split
  .rfl
  .split
   .exact Ah3 n m _ _ z_ z_
   .rfl
def Avx(r:List Item):∀(i:Nat),i≠0->upF i r i=if Cp (r.getD i default) (r.getD ((i-1)/2) default) then upF ((i-1)/2) (He r ((i-1)/2) i) ((i-1)/2) else r
 |0,h=>zX rfl h
 |m+1,_=>by
  rw[upF,zD z_];split
  .exact Ah3 _ _ _ _ z_ z_
  .rfl
def upS(q:List Item)(j:Nat)(hj:j<q.length)(hl:q.length<1000000):Sq 368 [.ifc 436 (.ptr 0 0),Aa j] [(0,.box [.osl 1]),(1,.row 3 B4 q)] (.tup []) [(0,.box [.osl 1]),(1,.row 3 B4 (upF j q j))]:=cT F368 ntmps368 λF hF=>by
 conv=>whnf
 refine Wj (α:={p:List Item×Nat // upF p.2 p.1 p.2=upF j q j/\p.1.length=q.length/\p.2<p.1.length}) (λp=>[(0,.ifc 436 (.ptr 0 0)),(1,Aa p.1.2)]) (λp=>[(0,.box [.osl 1]),(1,.row 3 B4 p.1.1)]) (λp=>p.1.2) ⟨(q,j),E,E,hj⟩ []
  kU ?_
 rintro ⟨⟨r,i⟩,h1,h2,h3⟩;simp only at h1 h2 h3;dsimp only;have hw:IntKind.i64.wrap (((i:Int)-1).tdiv 2)=(((i-1)/2:Nat):Int):=by
  rcases uH i with h0|h0
  .subst h0;rfl
  .have:((i:Int)-1)=((i-1:Nat):Int):=by omega
   rw[this,uA z_,IntKind.wrap_i64];omega
 refine gF ?_;refine⟨by decide,?_⟩;rw[hw]
 conv=>whnf
 constructor<;>intro h
 .have h0:i=0:=by
   have:(((i-1)/2:Nat):Int)=i:=kS h;omega
  subst h0;have e:upF j q j=r:=by rw[<-h1];rfl
  rw[e];refine oT ?_;exact A2 E .nil [] [(0,.box [.osl 1]),(1,.row 3 B4 r)] (λ_ h=>h) E E kU
 have h0:i≠0:=by
  intro h0;subst h0;exact zX h y_
 have hp:(i-1)/2<r.length:=by omega
 have y6:=M6 r i ((i-1)/2) h3 hp;refine oO ?_;refine Ai (Hn [1] (B0 Γ.toTy Ajy F439 E E E E E) y6 (.cons (.row E E) (.cons (.refl _) (.cons (.refl _) .nil))) E E) E E (oO ?_);have hu:upF i r i=if Cp r[i] r[(i-1)/2] then upF ((i-1)/2) (He r ((i-1)/2) i) ((i-1)/2) else r:=by
  rw[Avx r i h0,Bo h3,Bo hp]
 constructor<;>intro h
 .have ab:Cp r[i] r[(i-1)/2]=false:=by simpa using h
  have e:upF j q j=r:=by rw[<-h1,hu,ab];rfl
  rw[e];refine oO ?_;exact A2 E .nil [] [(0,.box [.osl 1]),(1,.row 3 B4 r)] (λ_ h=>h) E E kU
 have ab:Cp r[i] r[(i-1)/2]=true:=kS h;rw[ab,zE rfl]at hu;have m8:=M5 r ((i-1)/2) i hp h3;have e:(r.set ((i-1)/2) r[i]).set i r[(i-1)/2]=He r ((i-1)/2) i:=by
  rw[He,Bo h3,Bo hp]
 rw[e]at m8;refine oO ?_;refine Ai (Av [(0,1)] (B0 Γ.toTy Ajx F442 E E E E E) m8 E ⟨E,q_⟩ E ⟨.inl E,q_⟩) E E (oO ?_);exact Ye (α:={p:List Item×Nat // upF p.2 p.1 p.2=upF j q j/\p.1.length=q.length/\p.2<p.1.length}) (L:=λp=>[(0,.ifc 436 (.ptr 0 0)),(1,Aa p.1.2)]) (O:=λp=>[(0,.box [.osl 1]),(1,.row 3 B4 p.1.1)]) (μ:=λp=>p.1.2) (x:=⟨(r,i),h1,h2,h3⟩)
  ⟨(He r ((i-1)/2) i,(i-1)/2),by rw[<-h1,hu],by rw[Bg];exact h2,by rw[Bg];exact hp⟩ [] (by simp only;omega)
  kU
def nB:∀(n:Nat) (q:List Item) (j:Nat),(upF n q j).length=q.length
 |0,q,j=>rfl
 |n+1,q,j=>by
  rw[upF];split
  .rfl
  .split
   .rw[nB n,Bg]
   .rfl
def Xu(q:List Item)(x:Item):List Item:=upF q.length (q++[x]) q.length
def Aen(q:List Item)(x:Item)(hl:q.length<999999):Sq 302 [.ifc 436 (.ptr 0 0),.ifc 441 (B4 x)] [(0,.box [.osl 1]),(1,.row 3 B4 q)] (.tup []) [(0,.box [.osl 2]),(1,.non),(2,.row 3 B4 (Xu q x))]:=cT F302 ntmps302 λF hF=>by
 have jd:=Ano q x z_;have hlen:=cS (q++[x]);have ud:=upS (q++[x]) q.length qq kO;have tp:(((q++[x]).length:Nat):Int)-1=(q.length:Int):=by simp
 conv=>whnf
 refine Ai (Av (rd:=[]) [(2,6)] (Ya mPush F441 E E) jd E ⟨E,E,q_⟩ E kB) E E (oO ?_);refine Ai (Hn [6] (B0 Γ.toTy mLen F303 E E E E E) hlen (.cons (.row E E) .nil) E E) E E (oO ?_);refine⟨by unfold I64;simp;omega,?_⟩;rw[tp]
 conv=>whnf
 refine Ai (Ad [(1,6)] E F368 ud E ⟨E,E,q_⟩ E kB) E E (oO ?_);exact A2 E .nil [(2,6)] [(0,.box [.osl 2]),(1,.non),(2,.row 3 B4 (Xu q x))] (λ_ h=>h) E E kU
def E3(q:List Item)(i n:Nat):Nat:=if 2*i+2<n/\Cp (q.getD (2*i+2) default) (q.getD (2*i+1) default)=true then 2*i+2 else 2*i+1
def Sz(q:List Item)(i n:Nat)(h:2*i+1<n):E3 q i n<n/\i<E3 q i n:=by
 unfold E3;split<;>omega
def E5:Nat->List Item->Nat->Nat->List Item×Nat
 |0,q,i,_=>(q,i)
 |f+1,q,i,n=>if 2*i+1<n then (if Cp (q.getD (E3 q i n) default) (q.getD i default) then E5 f (He q i (E3 q i n)) (E3 q i n) n else (q,i)) else (q,i)
def Y3:∀(f g:Nat) (q:List Item) (i n:Nat),n<=f+i->n<=g+i->E5 f q i n=E5 g q i n
 |0,g,q,i,n,h1,h2=>by
  cases g with
  |zero=>rfl
  |succ g=>rw[E5,E5,zD z_]
 |f+1,0,q,i,n,h1,h2=>by rw[E5,E5,zD z_]
 |f+1,g+1,q,i,n,h1,h2=>by
  rw[E5,E5];split
  .rename_i h;have:=Sz q i n h;split
   .exact Y3 f g _ _ n z_ z_
   .rfl
  .rfl
def App(r:List Item)(i n:Nat):E5 (n-i) r i n=if 2*i+1<n then (if Cp (r.getD (E3 r i n) default) (r.getD i default) then E5 (n-E3 r i n) (He r i (E3 r i n)) (E3 r i n) n else (r,i)) else (r,i):=by
 rw[Y3 (n-i) (n-i+1) r i n z_ z_,E5];split
 .rename_i h;have:=Sz r i n h;split
  .exact Y3 _ _ _ _ _ z_ z_
  .rfl
 .rfl
def bD:∀(f:Nat) (q:List Item) (i n:Nat),(E5 f q i n).1.length=q.length
 |0,_,_,_=>rfl
 |f+1,q,i,n=>by
  rw[E5];split
  .split
   .rw[bD f,Bg]
   .rfl
  .rfl
def downS(q:List Item)(i0 n:Nat)(hn:n<=q.length)(hi:i0<q.length)(hl:q.length<1000000):Sq 369 [.ifc 436 (.ptr 0 0),Aa i0,Aa n] [(0,.box [.osl 1]),(1,.row 3 B4 q)] (Ab (decide (((E5 (n-i0) q i0 n).2:Int)>i0))) [(0,.box [.osl 1]),(1,.row 3 B4 (E5 (n-i0) q i0 n).1)]:=cT F369 ntmps369 λF hF=>by
 generalize hD:E5 (n-i0) q i0 n=D
 conv=>whnf
 refine Wj (α:={p:List Item×Nat // E5 (n-p.2) p.1 p.2 n=D/\p.1.length=q.length/\p.2<p.1.length}) (λp=>[(0,.ifc 436 (.ptr 0 0)),(1,Aa i0),(2,Aa n),(7,Aa p.1.2)]) (λp=>[(0,.box [.osl 1]),(1,.row 3 B4 p.1.1)]) (λp=>n-p.1.2) ⟨(q,i0),hD,E,hi⟩ []
  kU ?_
 rintro ⟨⟨r,i⟩,h1,h2,h3⟩;simp only at h1 h2 h3;dsimp only;have j9:=h1;rw[App]at h1;have mf:(2:Int)*i+1=((2*i+1:Nat):Int):=by omega
 have cn:((2*i+1:Nat):Int)+1=((2*i+2:Nat):Int):=by omega
 refine gF ?_;refine iL ?_;rw[mf]
 conv=>whnf
 constructor<;>intro h
 .have wv:¬2*i+1<n:=qA h;rw[zD wv]at h1;rw[<-h1];refine oT ?_;exact done E Ap [] [(0,.box [.osl 1]),(1,.row 3 B4 r)] (λ_ h=>h) E E kU
 have ab:2*i+1<n:=qB h;rw[zE ab]at h1;refine oF ?_;refine iL ?_;rw[cn]
 conv=>whnf
 constructor<;>intro h
 .have h2n:2*i+2<n:=qA h;have hA:2*i+2<r.length:=by omega
  have hB:2*i+1<r.length:=by omega
  have hlc:=M6 r (2*i+2) (2*i+1) hA hB;refine oO ?_;refine Ai (Hn [1] (B0 Γ.toTy Ajy F439 E E E E E) hlc (.cons (.row E E) (.cons (.refl _) (.cons (.refl _) .nil))) E E) E E ?_;refine gH ?_ ?_<;>intro h
  .have hc:E3 r i n=2*i+2:=by rw[E3,zE ⟨h2n,by rw[Bo hA,Bo hB];exact h⟩]
   have hJ:=hA;refine oO ?_;rw[hc,Bo hJ,Bo h3]at h1;have j5:=M6 r (2*i+2) i hJ h3;refine Ai (Hn [1] (B0 Γ.toTy Ajy F439 E E E E E) j5 (.cons (.row E E) (.cons (.refl _) (.cons (.refl _) .nil))) E E) E E ?_;refine gH ?_ ?_<;>intro h
   .have hf:Cp r[2*i+2] r[i]=false:=by simpa using h
    rw[hf]at h1;have e:D=(r,i):=h1.symm;rw[e];refine oO ?_;exact done E Ap [] [(0,.box [.osl 1]),(1,.row 3 B4 r)] (λ_ h=>h) E E kU
   have hf:Cp r[2*i+2] r[i]=true:=kS h;rw[hf,zE rfl]at h1;have m8:=M5 r i (2*i+2) h3 hJ;have e:(r.set i r[2*i+2]).set (2*i+2) r[i]=He r i (2*i+2):=by
    rw[He,Bo h3,Bo hJ]
   rw[e]at m8;refine oO ?_;refine Ai (Av [(0,1)] (B0 Γ.toTy Ajx F442 E E E E E) m8 E ⟨E,q_⟩ E ⟨.inl E,q_⟩) E E (oO ?_);exact Ye (α:={p:List Item×Nat // E5 (n-p.2) p.1 p.2 n=D/\p.1.length=q.length/\p.2<p.1.length}) (L:=λp=>[(0,.ifc 436 (.ptr 0 0)),(1,Aa i0),(2,Aa n),(7,Aa p.1.2)]) (O:=λp=>[(0,.box [.osl 1]),(1,.row 3 B4 p.1.1)]) (μ:=λp=>n-p.1.2) (x:=⟨(r,i),j9,h2,h3⟩)
    ⟨(He r i (2*i+2),2*i+2),h1,by rw[Bg];exact h2,by rw[Bg];exact hJ⟩ [] (by simp only;omega)
    kU
  .have hc:E3 r i n=2*i+1:=by rw[E3,zD (λhh=>by rw[Bo hA,Bo hB,h]at hh;exact zX hh.2 qq)]
   have hJ:=hB;refine oO ?_;rw[hc,Bo hJ,Bo h3]at h1;have j5:=M6 r (2*i+1) i hJ h3;refine Ai (Hn [1] (B0 Γ.toTy Ajy F439 E E E E E) j5 (.cons (.row E E) (.cons (.refl _) (.cons (.refl _) .nil))) E E) E E ?_;refine gH ?_ ?_<;>intro h
   .have hf:Cp r[2*i+1] r[i]=false:=by simpa using h
    rw[hf]at h1;have e:D=(r,i):=h1.symm;rw[e];refine oO ?_;exact done E Ap [] [(0,.box [.osl 1]),(1,.row 3 B4 r)] (λ_ h=>h) E E kU
   have hf:Cp r[2*i+1] r[i]=true:=kS h;rw[hf,zE rfl]at h1;have m8:=M5 r i (2*i+1) h3 hJ;have e:(r.set i r[2*i+1]).set (2*i+1) r[i]=He r i (2*i+1):=by
    rw[He,Bo h3,Bo hJ]
   rw[e]at m8;refine oO ?_;refine Ai (Av [(0,1)] (B0 Γ.toTy Ajx F442 E E E E E) m8 E ⟨E,q_⟩ E ⟨.inl E,q_⟩) E E (oO ?_);exact Ye (α:={p:List Item×Nat // E5 (n-p.2) p.1 p.2 n=D/\p.1.length=q.length/\p.2<p.1.length}) (L:=λp=>[(0,.ifc 436 (.ptr 0 0)),(1,Aa i0),(2,Aa n),(7,Aa p.1.2)]) (O:=λp=>[(0,.box [.osl 1]),(1,.row 3 B4 p.1.1)]) (μ:=λp=>n-p.1.2) (x:=⟨(r,i),j9,h2,h3⟩)
    ⟨(He r i (2*i+1),2*i+1),h1,by rw[Bg];exact h2,by rw[Bg];exact hJ⟩ [] (by simp only;omega)
    kU
 .have h2n:¬2*i+2<n:=qB h;have hJ:2*i+1<r.length:=by omega
  have hc:E3 r i n=2*i+1:=by rw[E3,zD (λhh=>h2n hh.1)]
  refine oF ?_;rw[hc,Bo hJ,Bo h3]at h1;have j5:=M6 r (2*i+1) i hJ h3;refine Ai (Hn [1] (B0 Γ.toTy Ajy F439 E E E E E) j5 (.cons (.row E E) (.cons (.refl _) (.cons (.refl _) .nil))) E E) E E ?_;refine gH ?_ ?_<;>intro h
  .have hf:Cp r[2*i+1] r[i]=false:=by simpa using h
   rw[hf]at h1;have e:D=(r,i):=h1.symm;rw[e];refine oO ?_;exact done E Ap [] [(0,.box [.osl 1]),(1,.row 3 B4 r)] (λ_ h=>h) E E kU
  have hf:Cp r[2*i+1] r[i]=true:=kS h;rw[hf,zE rfl]at h1;have m8:=M5 r i (2*i+1) h3 hJ;have e:(r.set i r[2*i+1]).set (2*i+1) r[i]=He r i (2*i+1):=by
   rw[He,Bo h3,Bo hJ]
  rw[e]at m8;refine oO ?_;refine Ai (Av [(0,1)] (B0 Γ.toTy Ajx F442 E E E E E) m8 E ⟨E,q_⟩ E ⟨.inl E,q_⟩) E E (oO ?_);exact Ye (α:={p:List Item×Nat // E5 (n-p.2) p.1 p.2 n=D/\p.1.length=q.length/\p.2<p.1.length}) (L:=λp=>[(0,.ifc 436 (.ptr 0 0)),(1,Aa i0),(2,Aa n),(7,Aa p.1.2)]) (O:=λp=>[(0,.box [.osl 1]),(1,.row 3 B4 p.1.1)]) (μ:=λp=>n-p.1.2) (x:=⟨(r,i),j9,h2,h3⟩)
   ⟨(He r i (2*i+1),2*i+1),h1,by rw[Bg];exact h2,by rw[Bg];exact hJ⟩ [] (by simp only;omega)
   kU
def D5(q:List Item):List Item:=(E5 (q.length-1-0) (He q 0 (q.length-1)) 0 (q.length-1)).1
def Hm(q:List Item):(D5 q).length=q.length:=by rw[D5,bD,Bg]
def Ha{q:List Item}(h:q≠[]):D5 q≠[]:=λe=>h (yB (by rw[<-Hm,e];rfl))
def Aza(q:List Item)(hq:q≠[])(hl:q.length<1000000):Sq 304 [.ifc 436 (.ptr 0 0)] [(0,.box [.osl 1]),(1,.row 3 B4 q)] (.ifc 441 (B4 ((D5 q).getLast (Ha hq)))) [(0,.box [.osl 2]),(1,.non),(2,.row 3 B4 (D5 q).dropLast)]:=cT F304 ntmps304 λF hF=>by
 have h0:0<q.length:=xU.2 hq;have hlen:=cS q;have m8:=M5 q 0 (q.length-1) h0 z_;have e:(q.set 0 q[q.length-1]).set (q.length-1) q[0]=He q 0 (q.length-1):=by
  rw[He,Bo (show q.length-1<q.length by omega),Bo h0]
 rw[e]at m8;have wu:=downS (He q 0 (q.length-1)) 0 (q.length-1) (by rw[Bg];omega) (by rw[Bg];exact h0) (by rw[Bg];exact hl);have vi:=As5 (D5 q) (Ha hq) (by rw[Hm];exact hl);have tp:(q.length:Int)-1=((q.length-1:Nat):Int):=by omega
 conv=>whnf
 refine Ai (Hn [1] (B0 Γ.toTy mLen F303 E E E E E) hlen (.cons (.row E E) .nil) E E) E E (oO ?_);refine iL ?_;rw[tp]
 conv=>whnf
 refine Ai (Av [(0,1)] (B0 Γ.toTy Ajx F442 E E E E E) m8 E ⟨E,q_⟩ E ⟨.inl E,q_⟩) E E (oO ?_);refine Ai (Ad [] E F369 wu E ⟨E,E,q_⟩ E kB) E E (oO ?_);refine Ai (Av (rd:=[]) [(2,14)] (Ya mPop F440 E E) vi E ⟨E,E,q_⟩ E kB) E E (oO ?_);exact done E Ap [(2,14)] [(0,.box [.osl 2]),(1,.non),(2,.row 3 B4 (D5 q).dropLast)] (λ_ h=>h) E E kU
set_option maxRecDepth 20000
def great1{n:Net}(h:n.ports.any (λp=>decide (100<p.tagged.length))=true):K1 n=true:=by simp only[K1,h,Bool.or_true,vG]
def great2{n:Net}(h:n.domains.any (λp=>decide (100<p.peers.length))=true):K1 n=true:=by simp only[K1,h,Bool.or_true,vG]
def great3{n:Net}(h:n.floods.any (λp=>decide (100<p.addrs.length))=true):K1 n=true:=by simp only[K1,h,Bool.or_true,vG]
def great4{n:Net}(h:n.vrfs.any (λv=>decide (100<v.imports.length)||decide (100<v.exports.length))=true):K1 n=true:=by simp only[K1,h,Bool.or_true]
def greatS(n:Net):Sp 21 [Am n] (Ab (K1 n)):=cT F21 ntmps21 λF hF=>by
 conv=>whnf
 (repeat' (first|(refine⟨λh=>?_,λh=>?_⟩<;>(repeat (first|simp only[zJ]at h|simp only[zY]at h))<;>((refine oO ?_);repeat((refine aT ?_);(refine oO ?_))))|(refine Aq rfl Ap ?_ rfl)))
 all_goals first
  |(refine zH Ab ?_;clear hF;grind [K1])
  |skip
 have l1:n.ports.length<=200:=by omega
 have l2:n.domains.length<=200:=by omega
 have l3:n.floods.length<=200:=by omega
 have l4:n.vrfs.length<=200:=by omega
 refine Ba 1 8 (Am n) E E E ?_;refine A7 n.ports.length (λj=>Ek (λ_ p=>!(decide (100<p.tagged.length))) n.ports j) (λj=>[(1,.ref 8 (Am n) 0),(3,Aa j)]) (λ_=>[]) [] (Bh _ _) kU ?_;intro j hj hI;refine gH ?_ ?_<;>intro h
 .have cw:j<n.ports.length:=by simpa using h
  refine oO ?_
  (repeat' (first|(refine⟨λh=>?_,λh=>?_⟩<;>(repeat (first|simp only[zJ]at h|simp only[zY]at h))<;>((refine oO ?_)))|(refine Aq rfl Ap ?_ rfl)|(refine⟨j_,?_⟩;((conv=>whnf)))|(refine⟨by (omega),by (omega),?_⟩;((conv=>whnf)))|(refine⟨by (unfold I64;omega),?_⟩;((conv=>whnf)))|refine A6 [] hI cw ?_ kU))
  all_goals (simp only[yE]at *)
  .refine zH Ab ?_;exact great1 (bQ cw kO)
  .exact Bc hI cw kO
 have a1:n.ports.any (λp=>decide (100<p.tagged.length))=false:=W8 hI (kS h);clear hI hj h;refine oO ?_;refine A7 n.domains.length (λj=>Ek (λ_ p=>!(decide (100<p.peers.length))) n.domains j) (λj=>[(1,.ref 8 (Am n) 0),(4,Aa j)]) (λ_=>[]) [] (Bh _ _) kU ?_;intro j hj hI;refine gH ?_ ?_<;>intro h
 .have cw:j<n.domains.length:=by simpa using h
  refine oO ?_
  (repeat' (first|(refine⟨λh=>?_,λh=>?_⟩<;>(repeat (first|simp only[zJ]at h|simp only[zY]at h))<;>((refine oO ?_)))|(refine Aq rfl Ap ?_ rfl)|(refine⟨j_,?_⟩;((conv=>whnf)))|(refine⟨by (omega),by (omega),?_⟩;((conv=>whnf)))|(refine⟨by (unfold I64;omega),?_⟩;((conv=>whnf)))|refine A6 [] hI cw ?_ kU))
  all_goals (simp only[yE]at *)
  .refine zH Ab ?_;exact great2 (bQ cw kO)
  .exact Bc hI cw kO
 have a2:n.domains.any (λp=>decide (100<p.peers.length))=false:=W8 hI (kS h);clear hI hj h;refine oO ?_;refine A7 n.floods.length (λj=>Ek (λ_ p=>!(decide (100<p.addrs.length))) n.floods j) (λj=>[(1,.ref 8 (Am n) 0),(5,Aa j)]) (λ_=>[]) [] (Bh _ _) kU ?_;intro j hj hI;refine gH ?_ ?_<;>intro h
 .have cw:j<n.floods.length:=by simpa using h
  refine oO ?_
  (repeat' (first|(refine⟨λh=>?_,λh=>?_⟩<;>(repeat (first|simp only[zJ]at h|simp only[zY]at h))<;>((refine oO ?_)))|(refine Aq rfl Ap ?_ rfl)|(refine⟨j_,?_⟩;((conv=>whnf)))|(refine⟨by (omega),by (omega),?_⟩;((conv=>whnf)))|(refine⟨by (unfold I64;omega),?_⟩;((conv=>whnf)))|refine A6 [] hI cw ?_ kU))
  all_goals (simp only[yE]at *)
  .refine zH Ab ?_;exact great3 (bQ cw kO)
  .exact Bc hI cw kO
 have a3:n.floods.any (λp=>decide (100<p.addrs.length))=false:=W8 hI (kS h);clear hI hj h;refine oO ?_;refine A7 n.vrfs.length (λj=>Ek (λ_ v=>!(decide (100<v.imports.length)||decide (100<v.exports.length))) n.vrfs j) (λj=>[(1,.ref 8 (Am n) 0),(6,Aa j)]) (λ_=>[]) [] (Bh _ _) kU ?_;intro j hj hI;refine gH ?_ ?_<;>intro h
 .have cw:j<n.vrfs.length:=by simpa using h
  refine oO ?_
  (repeat' (first|(refine⟨λh=>?_,λh=>?_⟩<;>(repeat (first|simp only[zJ]at h|simp only[zY]at h))<;>((refine oO ?_);repeat((refine aT ?_);(refine oO ?_))))|(refine Aq rfl Ap ?_ rfl)|(refine⟨j_,?_⟩;((conv=>whnf)))|(refine⟨by (omega),by (omega),?_⟩;((conv=>whnf)))|(refine⟨by (unfold I64;omega),?_⟩;((conv=>whnf)))|refine A6 [] hI cw ?_ kU))
  all_goals (simp only[yE]at *)
  all_goals first
   |exact Bc hI cw kO
   |(refine zH Ab ?_;exact great4 (bQ cw kO))
 have a4:n.vrfs.any (λv=>decide (100<v.imports.length)||decide (100<v.exports.length))=false:=W8 hI (kS h);clear hI hj h;refine oO ?_;refine Aq E Ap (zH Ab ?_) E;rw[K1,a1,a2,a3,a4];simp;omega
def Ez:Vec->List Vec->Vec
 |v,[]=>v
 |v,x::l=>Ez (if Ad9 x v then x else v) l
def zeroV:Vec:=⟨0,0,0,0,0⟩
def Tu:List Vec->Vec×Bool
 |[]=>(zeroV,false)
 |v::l=>(Ez v (v::l),true)
def Aaf:∀(v:Vec) (l:List Vec),Ez v l=v\/Ez v l∈l
 |v,[]=>.inl rfl
 |v,x::l=>by
  rw[Ez];rcases Aaf (if Ad9 x v then x else v) l with h|h
  .rw[h];split
   .exact .inr qq
   .exact .inl E
  .exact .inr (by simp[h])
def Aj9(v:Vec)(l:List Vec)(j:Nat)(h:j<l.length):Ez v (l.take (j+1))=(if Ad9 l[j] (Ez v (l.take j)) then l[j] else Ez v (l.take j)):=by
 have key:∀(a b:List Vec) (v:Vec),Ez v (a++b)=Ez (Ez v a) b:=by
  intro a
  induction a with
  |nil=>intro b v;rfl
  |cons x a ih=>intro b v;rw[wB,Ez,Ez,ih]
 rw[yA h,key];rfl
def leastS(l:List Vec)(hl:An l):Sp 305 [.sl 5 Uu l] (.tup [Uu (Tu l).1,Ab (Tu l).2]):=cT F305 ntmps305 λF hF=>by
 unfold An at hl;have hR:∀h:0<l.length,Tu l=(Ez l[0] l,true):=λh=>by
  cases l with
  |nil=>simp at h
  |cons v t=>rfl
 conv=>whnf
 constructor<;>intro h
 .have:l=[]:=yB (by have:(l.length:Int)=0:=(kS h);omega);subst this;refine oO ?_;exact done E (.cons (.cell E E E E) Ap) [] [] (λ_ h=>h) E E kU
 have h0:0<l.length:=by
  have:¬(l.length:Int)=0:=kS h;omega
 rw[hR h0];refine oO ?_;refine⟨E,by decide,h0,?_⟩
 conv=>whnf
 have e0:l[(0:Int).toNat]'(h0)=l[0]:=rfl;generalize hv:l[0]=v at *;refine A8 l.length (λj=>[(0,.sl 5 Uu l),(2,.ptr 2 0),(4,.ptr 4 0),(14,.sl 5 Uu l),(15,Aa l.length),(16,Aa j)]) (λj=>[(2,.box [Aa 0,Aa 0,Aa 0,Aa 0,Aa 0]),(4,.box [Aa (Ez v (l.take j)).root,Aa (Ez v (l.take j)).cost,Aa (Ez v (l.take j)).bridge,Aa (Ez v (l.take j)).port,Aa (Ez v (l.take j)).own])]) []
  ⟨⟨rfl,rfl,rfl,rfl,rfl,rfl,rfl,rfl,rfl,rfl,rfl,rfl,trivial⟩,⟨.inl rfl,rfl,.inl (by subst hv;rfl),rfl,trivial⟩,rfl,rfl⟩ ?_
 intro j hj;refine gH ?_ ?_<;>intro h
 .have ab:j<l.length:=by simpa using h
  have fx:=Aj9 v l j ab;generalize hx:l[j]=x at fx;have uz:l[(j:Int).toNat]'z_=x:=hx;generalize xq:Ez v (l.take j)=m at fx;refine oO ?_;refine⟨E,by omega,by omega,?_⟩;rw[uz]
  conv=>whnf
  refine gE (lessS x m) F370 ?_;constructor<;>intro h2
  .rw[h2,zE rfl]at fx;refine gF ?_;exact Ax [] ab ⟨kA,⟨.inl E,E,.inl (by rw[fx];rfl),E,q_⟩,E,E⟩
  .rw[h2]at fx;refine gF ?_;exact Ax [] ab ⟨kA,⟨.inl E,E,.inl (by rw[fx];rfl),E,q_⟩,E,E⟩
 .have cw:¬j<l.length:=by simpa using h
  rw[xD z_];refine oO ?_;exact done E (.cons (.cell E E E E) Ap) [] [] (λ_ h=>h) E E kU
def leastR_mem{l:List Vec}(h:(Tu l).2=true):(Tu l).1∈l:=by
 cases l with
 |nil=>cases h
 |cons v t=>
  rcases Aaf v (v::t) with h|h
  .show Ez v (v::t)∈v::t;rw[h];simp
  .exact h
def eG(n:Net):∀x∈Hh n,0<=x/\x<n.devices.length:=λx hx=>by
 rw[Ai0,Sa]at hx;obtain ⟨i,hi,rfl⟩:=yS.1 hx;have hi:=xA.1 hi;have h1:=List.countP_le_length (p:=λk=>Dr n (k:Nat) i) (l:=List.range n.devices.length);rw[tT]at h1;have h2:(List.range n.devices.length).countP (λk=>Dr n (k:Nat) i)≠n.devices.length:=λe=>by
  have:=List.countP_eq_length.1 (e.trans List.length_range.symm) i (xA.2 hi);rw[Ud]at this;cases this
 omega
def Qr(n:Net):(Hh n).length=n.devices.length:=by rw[Ai0,Sa];simp
set_option maxRecDepth 100000
def Xn(n:Net)(up:List Bool)(ranks:List Int)(x y:SV):List SV:=[.sl 5 A4 n.devices,.sl 7 Bd n.ports,.sl 3 Co n.links,.sl 6 At n.domains,.sl 4 Bb n.statics,.sl 4 Bm n.floods,.sl 5 Cu n.vrfs,.sl 5 Cr n.irbs,.sl 1 Ab up,.sl 1 Aa ranks,x,y]
def Eo(n:Net)(up:List Bool)(i:Nat):Int :=
 let p:=n.ports.getD i default
 if p.link<0||!(up.getD p.link.toNat false) then -1 else (nth n.links p.link).a+(nth n.links p.link).b-i
def farS(n:Net)(up:List Bool)(ranks:List Int)(x y:SV)(_hx:(x.boxed&&x.data&&y.boxed&&y.data&&Nat.beq (cellsOf x).length 1&&Nat.beq (cellsOf y).length 1)=true)(i:Nat)(hr:Ac n=true)(hu:up.length=n.links.length)(hi:i<n.ports.length):Sp 230 [.ref 12 (.agg (Xn n up ranks x y)) 0,Aa i] (Aa (Eo n up i)):=cT F230 ntmps230 λF hF=>by
 have bd:=Wr hr hi;have hf:=Ic hr;have e1:n.ports[(i:Int).toNat]'z_=n.ports[i]:=rfl;have cj:Eo n up i=if n.ports[i].link<0||!(up.getD n.ports[i].link.toNat false) then -1 else (nth n.links n.ports[i].link).a+(nth n.links n.ports[i].link).b-i:=by
  rw[Eo,Bo hi]
 generalize hp:n.ports[i]=p at *;have hle:=λh=>Si hr (i:=p.link.toNat) h
 conv=>whnf
 refine⟨E,by omega,by omega,?_⟩;rw[e1]
 conv=>whnf
 (repeat' (first|(refine⟨λh=>?_,λh=>?_⟩<;>(repeat (first|simp only[zJ]at h|simp only[zY]at h|simp only[xB]at h|simp only[wZ]at h))<;>((first|refine rg ?_|refine rd j_ ?_);(conv=>whnf)))|(refine Aq rfl Ap ?_ rfl)|(refine⟨j_,?_⟩;((conv=>whnf);repeat((refine aT ?_);(refine oO ?_))))|(refine⟨by (first|omega|((have hq:=hle z_;unfold I64;omega))),by (first|omega|((have hq:=hle z_;unfold I64;omega))),?_⟩;((conv=>whnf)))))
 all_goals (refine zH Aa ?_;rw[cj])
 .simp_all
 .have h1:up.getD p.link.toNat false=false:=by rw[Bo z_];assumption
  rw[h1];simp
 .have h1:up.getD p.link.toNat false=true:=by rw[Bo z_];assumption
  rw[h1,Ag z_]
  simp_all
def Uz(n:Net)(up:List Bool)(ranks roots costs:List Int):SV:=.ref 12 (.agg (Xn n up ranks (.sl 1 Aa roots) (.sl 1 Aa costs))) 0
def Q5(n:Net)(ranks costs:List Int)(i k:Nat):Bool :=
 let a:=(n.ports.getD i default).dev
 let b:=(n.ports.getD k default).dev
 decide (nth costs a<nth costs b)||(nth costs a==nth costs b&&decide (nth ranks a<nth ranks b))
def Am5(n:Net)(up:List Bool)(ranks roots costs:List Int)(i k:Nat)(hr:Ac n=true)(nu:ranks.length=n.devices.length)(hc:costs.length=n.devices.length)(hi:i<n.ports.length)(hk:k<n.ports.length):Sp 231 [Uz n up ranks roots costs,Aa i,Aa k] (Ab (Q5 n ranks costs i k)):=cT F231 ntmps231 λF hF=>by
 have s9:=Ve hr hi;have jc:=Ve hr hk;have e1:n.ports[(i:Int).toNat]'z_=n.ports[i]:=rfl;have e2:n.ports[(k:Int).toNat]'z_=n.ports[k]:=rfl;have aa:Q5 n ranks costs i k=(decide (nth costs n.ports[i].dev<nth costs n.ports[k].dev)||(nth costs n.ports[i].dev==nth costs n.ports[k].dev&&decide (nth ranks n.ports[i].dev<nth ranks n.ports[k].dev))):=by
  rw[Q5,Bo hi,Bo hk]
 rw[Ag z_,Ag z_,Ag z_,Ag z_]at aa
 conv=>whnf
 (repeat' (first|(refine⟨λh=>?_,λh=>?_⟩<;>(repeat (first|simp only[zJ]at h|simp only[zY]at h|simp only[yJ]at h|simp only[zT]at h))<;>((refine rd j_ ?_);(conv=>whnf)))|(refine Aq rfl Ap ?_ rfl)|(refine⟨j_,?_⟩;((conv=>whnf)))|(refine⟨by (first|omega|(simp only[yE];omega)),by (first|omega|(simp only[yE];omega)),?_⟩;((conv=>whnf)))))
 all_goals (refine zH Ab ?_;rw[aa];clear hF aa hr;simp only[yE]at *;grind)
def Aa4{n:Net}{up:List Bool}(h:Ac n=true){i:Nat}(hi:i<n.ports.length)(hf:0<=Eo n up i):Eo n up i<n.ports.length:=by
 have hp:=Th h hi;have bd:=Wr h hi;simp only[J7,zG,yQ,yJ]at hp;have hp:=hp.2;unfold Eo at *;rw[Bo hi]at *;simp only at *;split at hf
 .omega
 .rename_i hc;rw[zD hc];simp only[yQ,zJ,vW]at hc;rcases hp with hp|hp
  .omega
  .have hl:n.ports[i].link.toNat<n.links.length:=by omega
   have he:=Si h hl;rw[Ag hl]at *;omega
def Abm(n:Net)(up:List Bool)(ranks roots costs:List Int)(dev:Int)(i:Nat):Option Vec :=
 let p:=n.ports.getD i default
 let far:=Eo n up i
 let pz:=(nth n.ports far).dev
 if p.dev==dev&&decide (0<=far) then some ⟨nth roots pz,nth costs pz+p.cost,nth ranks pz,far,i⟩ else none
def S1(n:Net)(up:List Bool)(ranks roots costs:List Int)(dev:Int)(j:Nat):List Vec:=(List.range j).filterMap (Abm n up ranks roots costs dev)
def Ap2(n:Net)(up:List Bool)(ranks roots costs:List Int)(dev:Int)(j:Nat):S1 n up ranks roots costs dev (j+1)=S1 n up ranks roots costs dev j++(Abm n up ranks roots costs dev j).toList:=by
 rw[S1,vB,List.filterMap_append];cases h:Abm n up ranks roots costs dev j<;>simp[S1,h]
def bM(n:Net)(up:List Bool)(ranks roots costs:List Int)(dev:Int)(j:Nat):(S1 n up ranks roots costs dev j).length<=j:=by
 have:=uY (Abm n up ranks roots costs dev) (List.range j);simpa [S1] using this
def Yb(n:Net)(up:List Bool)(ranks roots costs:List Int)(dev:Int):Int :=
 let r:=Tu (S1 n up ranks roots costs dev n.ports.length)
 if !r.2||nth roots dev==nth ranks dev then -1 else r.1.own
def bestS(n:Net)(up:List Bool)(ranks roots costs:List Int)(dev:Int)(hr:Ac n=true)(hu:up.length=n.links.length)(an:Do n=true)(nu:ranks.length=n.devices.length)(em:roots.length=n.devices.length)(hc:costs.length=n.devices.length)(hb:∀c∈costs,0<=c/\c<1000000000)(hd:0<=dev/\dev<n.devices.length):Sp 232 [Uz n up ranks roots costs,Aa dev] (Aa (Yb n up ranks roots costs dev)):=cT F232 ntmps232 λF hF=>by
 have hf:=Ic hr
 conv=>whnf
 refine B6 5 1000 5 Uu E E ?_;refine A8 n.ports.length (λj=>[(0,Uz n up ranks roots costs),(1,Aa dev),(5,.osl 1000),(16,.sl 7 Bd n.ports),(17,Aa n.ports.length),(18,Aa j)]) (λj=>[(1000,.row 5 Uu (S1 n up ranks roots costs dev j))]) []
  kU ?_
 intro j hj;refine gH ?_ ?_<;>intro h
 .have ab:j<n.ports.length:=by simpa using h
  have e1:n.ports[(j:Int).toNat]'z_=n.ports[j]:=rfl;have cj:=farS n up ranks (.sl 1 Aa roots) (.sl 1 Aa costs) rfl j hr hu ab;have im:=Aa4 (up:=up) hr ab;have ai:=Ap2 n up ranks roots costs dev j;have j4:=bM n up ranks roots costs dev j;have ey:Abm n up ranks roots costs dev j=if n.ports[j].dev==dev&&decide (0<=Eo n up j) then some ⟨nth roots (nth n.ports (Eo n up j)).dev,nth costs (nth n.ports (Eo n up j)).dev+n.ports[j].cost,nth ranks (nth n.ports (Eo n up j)).dev,Eo n up j,j⟩ else none:=by
   rw[Abm,Bo ab]
  generalize Eo n up j=k at *;have hpc:1<=n.ports[j].cost/\n.ports[j].cost<=65535:=by
   simp only[Do,xB,wK]at an;have:=an _ (zI ab);simp only[Ja,yQ,zJ,vW]at this;omega
  obtain ⟨p,hp⟩:=kE (n.ports[j]);rw[hp]at e1 ey hpc;refine oO ?_;refine⟨E,by omega,by omega,?_⟩;rw[e1]
  conv=>whnf
  refine gE cj F230 ?_;constructor<;>intro h
  .refine oO ?_;constructor<;>intro h2
   .have bh:0<=k:=zO h2;have dh:=im bh;rw[zE (by simp only[zG,zJ];exact⟨h,bh⟩),Ag (l:=n.ports) (i:=k) z_]at ey;have te:=Ve hr (i:=k.toNat) z_;obtain ⟨q,hq⟩:=kE (n.ports[k.toNat]'z_);rw[hq]at ey te;have rz:=hb (costs[q.dev.toNat]'z_) (zI _);rw[Ag (l:=roots) (i:=q.dev) z_,Ag (l:=costs) (i:=q.dev) z_,Ag (l:=ranks) (i:=q.dev) z_]at ey;refine oO ?_;refine⟨E,bh,by omega,?_⟩;rw[hq]
    conv=>whnf
    refine⟨j_,?_⟩;refine⟨by omega,by omega,?_⟩
    conv=>whnf
    refine⟨j_,?_⟩;refine⟨by omega,by omega,?_⟩
    conv=>whnf
    refine iW ?_;refine⟨j_,?_⟩;refine⟨by omega,by omega,?_⟩
    conv=>whnf
    refine Cc (Ah Γ.toTy 72 E E E E E (.row E) (.lit (l:=[(⟨roots[q.dev.toNat]'z_,costs[q.dev.toNat]'z_+p.cost,ranks[q.dev.toNat]'z_,k,j⟩:Vec)]) E E) qq kO kO) j_ E (gM ?_);refine iW ?_;refine Ax [(1000,72)] ab ⟨kA,⟨.inl (zH (Ob.row 5 Uu) ?_),E,q_⟩,E,E⟩;rw[ai,ey];rfl
   .have bh:¬0<=k:=zQ h2;rw[zD (by simp only[zG,zJ];exact λhh=>bh hh.2)]at ey;refine gF ?_;refine Ax [] ab ⟨kA,⟨.inl (zH (Ob.row 5 Uu) ?_),E,q_⟩,E,E⟩;rw[ai,ey];simp
  .rw[zD (by rw[h];simp)]at ey;refine oF ?_;refine iW ?_;refine Ax [] ab ⟨kA,⟨.inl (zH (Ob.row 5 Uu) ?_),E,q_⟩,E,E⟩;rw[ai,ey];simp
 .have cw:j=n.ports.length:=by
   have:¬j<n.ports.length:=kS h;omega
  subst cw;have j4:=bM n up ranks roots costs dev n.ports.length;have sj:Yb n up ranks roots costs dev=if !(Tu (S1 n up ranks roots costs dev n.ports.length)).2||nth roots dev==nth ranks dev then -1 else (Tu (S1 n up ranks roots costs dev n.ports.length)).1.own:=rfl
  rw[Ag z_,Ag z_]at sj;have j5:=leastS (S1 n up ranks roots costs dev n.ports.length) (by unfold An;omega);generalize Tu (S1 n up ranks roots costs dev n.ports.length)=r at j5 sj;obtain ⟨v,ok⟩:=r;simp only at j5 sj;rw[sj];refine oO ?_;refine Aj 1000 E (gE j5 F305 ?_)
  (repeat' (first|(refine⟨λh=>?_,λh=>?_⟩<;>(repeat (first|simp only[yJ]at h|simp only[zT]at h|simp only[xB]at h|simp only[wZ]at h))<;>((first|refine rg ?_|refine rd j_ ?_);(conv=>whnf)))|(refine Aq rfl Ap ?_ rfl)|(refine⟨j_,?_⟩;((conv=>whnf);repeat((refine aT ?_);(refine oO ?_))))|(refine⟨by (omega),by (omega),?_⟩;((conv=>whnf)))))
  all_goals (refine zH Aa ?_;clear hF j5 sj;grind)
def best_lt{n:Net}{up:List Bool}{ranks roots costs:List Int}{dev:Int}(h:0<=Yb n up ranks roots costs dev):Yb n up ranks roots costs dev<n.ports.length:=by
 have jt:=@leastR_mem (S1 n up ranks roots costs dev n.ports.length);unfold Yb at *;simp only at *;split at h
 .omega
 .rename_i hc;rw[zD hc];simp only[yQ,xB,vW]at hc;have h2:=jt (kS hc.1);obtain ⟨i,hi,he⟩:=wL.1 h2;have hi:=xA.1 hi;unfold Abm at he;simp only at he;split at he
  .have e:=zH Vec.own (Option.some.inj he);simp only at e;omega
  .cases he
def Aqp(n:Net)(up:List Bool)(ranks costs:List Int)(i:Nat):Int :=
 if Eo n up i<0 then 0 else if Q5 n ranks costs i (Eo n up i).toNat then 2 else 3
def Lb(n:Net)(up:List Bool)(ranks costs:List Int)(j:Nat):List Int:=(List.range n.ports.length).map λi=>if i<j then Aqp n up ranks costs i else 0
def Xq(n:Net)(up:List Bool)(ranks costs:List Int)(j:Nat):(Lb n up ranks costs j).length=n.ports.length:=by simp[Lb]
def Aip(n:Net)(up:List Bool)(ranks costs:List Int):Lb n up ranks costs 0=List.replicate n.ports.length 0:=by
 rw[Lb];exact tE qq qq
def Aiq(n:Net)(up:List Bool)(ranks costs:List Int)(j:Nat)(hj:j<n.ports.length):Lb n up ranks costs (j+1)=(Lb n up ranks costs j).set j (Aqp n up ranks costs j):=by
 refine tE (by simp[Lb]) (λi h1 h2=>?_);rw[vV];simp only[Lb,List.getElem_map,List.getElem_range];rcases Nat.lt_trichotomy i j with h|h|h
 .rw[zE z_,zD z_,zE h]
 .subst h;rw[zE z_,zE rfl]
 .rw[zD z_,zD z_,zD z_]
def Air(n:Net)(up:List Bool)(ranks costs:List Int)(j:Nat)(h:Aqp n up ranks costs j=0):Lb n up ranks costs (j+1)=Lb n up ranks costs j:=by
 simp only[Lb];refine tB (λi _=>?_);by_cases cy:i<j
 .rw[zE z_,zE cy]
 .by_cases he:i=j
  .subst he;rw[zE z_,zD cy,h]
  .rw[zD z_,zD cy]
def Qo(n:Net)(up:List Bool)(ranks roots costs:List Int):Nat->List Int
 |0=>Lb n up ranks costs n.ports.length
 |d+1=>if 0<=Yb n up ranks roots costs d then (Qo n up ranks roots costs d).set (Yb n up ranks roots costs d).toNat 1 else Qo n up ranks roots costs d
def Ln(n:Net)(up:List Bool)(ranks roots costs:List Int):∀d,(Qo n up ranks roots costs d).length=n.ports.length
 |0=>Xq n up ranks costs _
 |d+1=>by
  rw[Qo];split
  .rw[yN,Ln]
  .rw[Ln]
def rolesS(n:Net)(up:List Bool)(ranks roots costs:List Int)(hr:Ac n=true)(hu:up.length=n.links.length)(an:Do n=true)(nu:ranks.length=n.devices.length)(em:roots.length=n.devices.length)(hc:costs.length=n.devices.length)(hb:∀c∈costs,0<=c/\c<1000000000):Sp 161 [Uz n up ranks roots costs] (.sl 1 Aa (Qo n up ranks roots costs n.devices.length)):=cT F161 ntmps161 λF hF=>by
 have hf:=Ic hr
 conv=>whnf
 refine Ai (B5 Γ.toTy (d:=14) (n:=n.ports.length) Aa 0 E E E E E E E E z_ z_ E E E) E E ?_;rw[<-Aip n up ranks costs];refine oO ?_;refine A8 n.ports.length (λj=>[(0,Uz n up ranks roots costs),(3,.osl 14),(20,Aa n.ports.length),(21,Aa j)]) (λj=>[(14,.row 1 Aa (Lb n up ranks costs j))]) []
  kU ?_
 intro j hj;refine gH ?_ ?_<;>intro h
 .have ab:j<n.ports.length:=by simpa using h
  have cj:=farS n up ranks (.sl 1 Aa roots) (.sl 1 Aa costs) rfl j hr hu ab;have im:=Aa4 (up:=up) hr ab;have hlen:=Xq n up ranks costs j;have fc:Aqp n up ranks costs j=if Eo n up j<0 then 0 else if Q5 n ranks costs j (Eo n up j).toNat then 2 else 3:=rfl
  have ai:=Aiq n up ranks costs j ab;have kl:=Air n up ranks costs j;generalize Eo n up j=k at *;refine oO ?_;refine gE cj F230 ?_;constructor<;>intro h
  .have hk:k<0:=zO h;rw[zE hk]at fc;refine gF ?_;exact Ax [] ab ⟨kA,⟨.inl (zH (Ob.row 1 Aa) (kl fc)),E,q_⟩,E,E⟩
  have hk:¬k<0:=zQ h;rw[zD hk]at fc;obtain ⟨m,rfl⟩:∃m:Nat,k=m:=⟨k.toNat,by omega⟩
  have hah:=Am5 n up ranks roots costs j m hr nu hc ab z_;rw[yE]at fc;refine oO ?_;refine gE hah F231 ?_;constructor<;>intro h
  .rw[h,zE rfl]at fc;rw[fc]at ai;refine oO ?_;refine⟨by omega,by omega,?_⟩
   conv=>whnf
   refine⟨E,by omega,2,E,E,?_⟩
   conv=>whnf
   refine iW ?_;exact Ax [] ab ⟨kA,⟨.inl (zH (Ob.row 1 Aa) ai),E,q_⟩,E,E⟩
  .rw[h]at fc;simp only[Bool.false_eq_true,if_false]at fc;rw[fc]at ai;refine oO ?_;refine⟨by omega,by omega,?_⟩
   conv=>whnf
   refine⟨E,by omega,3,E,E,?_⟩
   conv=>whnf
   refine iW ?_;exact Ax [] ab ⟨kA,⟨.inl (zH (Ob.row 1 Aa) ai),E,q_⟩,E,E⟩
 have cw:j=n.ports.length:=by
  have:¬j<n.ports.length:=kS h;omega
 subst cw;refine oO ?_;refine A8 n.devices.length (λd=>[(0,Uz n up ranks roots costs),(3,.osl 14),(47,Aa n.devices.length),(48,Aa d)]) (λd=>[(14,.row 1 Aa (Qo n up ranks roots costs d))]) []
  kU ?_
 clear hj h;intro d hdle;refine gH ?_ ?_<;>intro h
 .have ab:d<n.devices.length:=by simpa using h
  have vj:=bestS n up ranks roots costs d hr hu an nu em hc hb z_;have j4:=@best_lt n up ranks roots costs d;have hlen:=Ln n up ranks roots costs d;have ai:Qo n up ranks roots costs (d+1)=if 0<=Yb n up ranks roots costs d then (Qo n up ranks roots costs d).set (Yb n up ranks roots costs d).toNat 1 else Qo n up ranks roots costs d:=rfl
  generalize Yb n up ranks roots costs d=k at *;refine oO ?_;refine gE vj F232 ?_;constructor<;>intro h
  .have hk:0<=k:=zO h;rw[zE hk]at ai;refine oO ?_;refine⟨hk,by omega,?_⟩
   conv=>whnf
   refine⟨E,by omega,1,E,E,?_⟩
   conv=>whnf
   refine iW ?_;exact Ax [] ab ⟨kA,⟨.inl (zH (Ob.row 1 Aa) ai),E,q_⟩,E,E⟩
  .have hk:¬0<=k:=zQ h;rw[zD hk]at ai;refine gF ?_;exact Ax [] ab ⟨kA,⟨.inl (zH (Ob.row 1 Aa) ai),E,q_⟩,E,E⟩
 have fh:d=n.devices.length:=by
  have:¬d<n.devices.length:=kS h;omega
 subst fh;refine oO ?_;exact Aj 14 E dN
def Adr(n:Net)(up:List Bool)(ranks:List Int)(roots costs:List Int):Obs:=[(0,.box (Xn n up ranks (.osl 1) (.osl 2))),(1,.row 1 Aa roots),(2,.row 1 Aa costs)]
def farR(n:Net)(up:List Bool)(ranks roots costs:List Int)(i:Nat)(hr:Ac n=true)(hu:up.length=n.links.length)(hi:i<n.ports.length):Sq 230 [.ptr 0 0,Aa i] (Adr n up ranks roots costs) (Aa (Eo n up i)) (Adr n up ranks roots costs):=cT F230 ntmps230 λF hF=>by
 have bd:=Wr hr hi;have hf:=Ic hr;have e1:n.ports[(i:Int).toNat]'z_=n.ports[i]:=rfl;have cj:Eo n up i=if n.ports[i].link<0||!(up.getD n.ports[i].link.toNat false) then -1 else (nth n.links n.ports[i].link).a+(nth n.links n.ports[i].link).b-i:=by
  rw[Eo,Bo hi]
 generalize hp:n.ports[i]=p at *;have hle:=λh=>Si hr (i:=p.link.toNat) h
 conv=>whnf
 refine⟨E,by omega,by omega,?_⟩;rw[e1]
 conv=>whnf
 (repeat' (first|(refine⟨λh=>?_,λh=>?_⟩<;>(repeat (first|simp only[zJ]at h|simp only[zY]at h|simp only[xB]at h|simp only[wZ]at h))<;>((first|refine rg ?_|refine rd j_ ?_);(conv=>whnf)))|(refine⟨j_,?_⟩;((conv=>whnf);repeat((refine aT ?_);(refine oO ?_))))|(refine⟨by (first|omega|((have hq:=hle z_;unfold I64;omega))),by (first|omega|((have hq:=hle z_;unfold I64;omega))),?_⟩;((conv=>whnf)))|refine done rfl Ap [] (Adr n up ranks roots costs) (λ_ h=>h) ?_ rfl kU))
 all_goals (refine zH Aa ?_;rw[cj])
 .simp_all
 .have h1:up.getD p.link.toNat false=false:=by rw[Bo z_];assumption
  rw[h1];simp
 .have h1:up.getD p.link.toNat false=true:=by rw[Bo z_];assumption
  rw[h1,Ag z_]
  simp_all
def Ee(n:Net)(up:List Bool)(x:Item)(q:List Item)(i:Nat):List Item :=
 if (n.ports.getD i default).dev=x.dev/\0<=Eo n up i then Xu q ⟨x.root,x.cost+(nth n.ports (Eo n up i)).cost,(nth n.ports (Eo n up i)).dev⟩ else q
def Ti(n:Net)(up:List Bool)(s:List Item×List Int×List Int):List Item×List Int×List Int :=
 let x:=(D5 s.1).getLast?.getD default
 let q:=(D5 s.1).dropLast
 if 0<=nth s.2.1 x.dev then (q,s.2) else ((List.range n.ports.length).foldl (Ee n up x) q,s.2.1.set x.dev.toNat x.root,s.2.2.set x.dev.toNat x.cost)
def Je(n:Net)(up:List Bool):Nat->List Item×List Int×List Int->List Item×List Int×List Int
 |0,s=>s
 |f+1,s=>if s.1=[] then s else Je n up f (Ti n up s)
end Go.Sy.Zaa
namespace Go.Sy.Zaa
def Yk(q:List Item)(i j:Nat)(hi:i<q.length)(hj:j<q.length):(He q i j).Perm q:=by
 rw[He,Bo hi,Bo hj];exact List.set_set_perm hi hj
def Ah1:∀(f:Nat) (q:List Item) (j:Nat),j<q.length->(upF f q j).Perm q
 |0,_,_,_=>.refl _
 |f+1,q,j,hj=>by
  rw[upF];split
  .exact .refl _
  .split
   .exact(Ah1 f _ _ (by rw[Bg];omega)).trans (Yk q _ _ z_ hj)
   .exact .refl _
def Abb:∀(f:Nat) (q:List Item) (i n:Nat),i<q.length->n<=q.length->(E5 f q i n).1.Perm q
 |0,_,_,_,_,_=>.refl _
 |f+1,q,i,n,hi,hn=>by
  rw[E5];split
  .rename_i h;have hc:=Sz q i n h;split
   .exact(Abb f _ _ n (by rw[Bg];omega) (by rw[Bg];exact hn)).trans (Yk q _ _ hi z_)
   .exact .refl _
  .exact .refl _
def Tk(q:List Item)(x:Item):(Xu q x).Perm (x::q) :=
 (Ah1 _ _ _ qq).trans (List.perm_append_comm (l₁:=q) (l₂:=[x]))
def Mo(q:List Item)(x:Item):(Xu q x).length=q.length+1:=by rw[Xu,nB];simp
def Ws(q:List Item)(hq:q≠[]):(D5 q).Perm q:=by
 have h0:0<q.length:=xU.2 hq;exact(Abb _ _ _ _ (by rw[Bg];exact h0) (by rw[Bg];omega)).trans (Yk q _ _ h0 z_)
def Oz(q:List Item)(n:Nat):Prop:=∀c,0<c->c<n->c<q.length->Cp (q.getD c default) (q.getD ((c-1)/2) default)=false
def Tz{x y z:Item}(h1:Cp y x=false)(h2:Cp z y=false):Cp z x=false:=by
 unfold Cp at *
 grind
def Ao4{q:List Item}{n:Nat}(h:Oz q n)(hn:n<=q.length):∀c,c<n->Cp (q.getD c default) (q.getD 0 default)=false:=by
 intro c
 induction c using Nat.strongRecOn with
 |ind c ih=>
  intro hc;rcases uH c with h0|h0
  .subst h0;unfold Cp;grind
  .have h1:=h c h0 hc z_;have h2:=ih ((c-1)/2) z_ z_;exact Tz h2 h1
def H1(q:List Item)(i j c:Nat)(hi:i<q.length)(hj:j<q.length):(He q i j).getD c default=if c=j then q.getD i default else if c=i then q.getD j default else q.getD c default:=by
 rw[He];simp only[wF,uL,yN];by_cases h1:c=j
 .subst h1;simp[hj]
 .rw[zD (Ne.symm h1),zD h1];by_cases h2:c=i
  .subst h2;simp[hi]
  .rw[zD (Ne.symm h2),zD h2]
def T0{x y:Item}(h:Cp x y=true):Cp y x=false:=by
 unfold Cp at *
 grind
structure UpInv(q:List Item)(j n:Nat):Prop where
 heap:∀c,0<c->c<n->c≠j->Cp (q.getD c default) (q.getD ((c-1)/2) default)=false
 over:∀c,0<c->c<n->(c-1)/2=j->0<j->Cp (q.getD c default) (q.getD ((j-1)/2) default)=false
def Ah2(n:Nat):∀(f:Nat) (q:List Item) (j:Nat),j<=f->j<n->n<=q.length->UpInv q j n->Oz (upF f q j) n
 |0,q,j,hf,hj,hn,hI=>by
  have:j=0:=by omega
  subst this;exact λc h0 hc _=>hI.heap c h0 hc z_
 |f+1,q,j,hf,hj,hn,hI=>by
  rw[upF];split
  .rename_i h0;subst h0;exact λc h0 hc _=>hI.heap c h0 hc z_
  .rename_i h0;split
   .rename_i ab;have hp:(j-1)/2<j:=by omega
    refine Ah2 n f _ _ z_ z_ (by rw[Bg];exact hn) ⟨λc d9 gk ns=>?_,λc d9 gk kg fg=>?_⟩
    .rw[H1 _ _ _ _ z_ z_,H1 _ _ _ _ z_ z_];by_cases lu:c=j
     .subst lu;rw[zE rfl,zD z_,zE rfl];exact T0 ab
     .rw[zD lu,zD ns];by_cases hpj:(c-1)/2=j
      .rw[zE hpj];exact hI.over c d9 gk hpj z_
      .rw[zD hpj];by_cases l7:(c-1)/2=(j-1)/2
       .rw[zE l7];have:=hI.heap c d9 gk lu;rw[l7]at this;exact Tz (T0 ab) this
       .rw[zD l7];exact hI.heap c d9 gk lu
    .rw[H1 _ _ _ _ z_ z_,H1 _ _ _ _ z_ z_];have hpI:=hI.heap ((j-1)/2) fg z_ z_;rw[zD (show ((j-1)/2-1)/2≠j by omega),zD (show ((j-1)/2-1)/2≠(j-1)/2 by omega)];by_cases lu:c=j
     .rw[zE lu];exact hpI
     .rw[zD lu,zD z_];have:=hI.heap c d9 gk lu;rw[kg]at this;exact Tz hpI this
   .rename_i ab;intro c d9 gk _;by_cases lu:c=j
    .subst lu;simpa using ab
    .exact hI.heap c d9 gk lu
def Ss{q r:List Item}{c:Nat}(h:c<q.length):(q++r).getD c default=q.getD c default:=by
 simp[wF,xQ h]
def oK(q:List Item)(x:Item)(h:Oz q q.length):Oz (Xu q x) (Xu q x).length:=by
 rw[Mo];refine Ah2 (q.length+1) _ _ _ (yG _) z_ qq ⟨λc d9 gk lu=>?_,λc d9 gk kg fg=>by omega⟩;rw[Ss z_,Ss z_];exact h c d9 z_ z_
structure DownInv(q:List Item)(i n:Nat):Prop where
 heap:∀c,0<c->c<n->(c-1)/2≠i->Cp (q.getD c default) (q.getD ((c-1)/2) default)=false
 over:∀c,0<c->c<n->(c-1)/2=i->0<i->Cp (q.getD c default) (q.getD ((i-1)/2) default)=false
def Au4(q:List Item)(i n c:Nat)(_h:2*i+1<n)(d9:0<c)(hc:c<n)(hp:(c-1)/2=i):Cp (q.getD c default) (q.getD (E3 q i n) default)=false:=by
 have hcc:c=2*i+1\/c=2*i+2:=by omega
 unfold E3;split
 .rename_i hh;rcases hcc with rfl|rfl
  .exact T0 hh.2
  .unfold Cp;grind
 .rename_i hh;rcases hcc with rfl|rfl
  .unfold Cp;grind
  .cases ab:Cp (q.getD (2*i+2) default) (q.getD (2*i+1) default) with
   |false=>rfl
   |true=>exact zX ⟨hc,ab⟩ hh
def Abc(n:Nat):∀(f:Nat) (q:List Item) (i:Nat),n<=f+i->i<q.length->n<=q.length->DownInv q i n->Oz (E5 f q i n).1 n
 |0,q,i,hf,hi,hn,hI=>λc d9 hc _=>hI.heap c d9 hc z_
 |f+1,q,i,hf,hi,hn,hI=>by
  rw[E5];split
  .rename_i h;have gq:=Sz q i n h;have kg:(E3 q i n-1)/2=i:=by unfold E3;split<;>omega
   have hle:=λc=>Au4 q i n c h
   generalize E3 q i n=k at *;split
   .rename_i ab;refine Abc n f _ _ z_ (by rw[Bg];omega) (by rw[Bg];exact hn) ⟨λc d9 gk hck=>?_,λc d9 gk ns bh=>?_⟩
    .rw[H1 _ _ _ _ hi z_,H1 _ _ _ _ hi z_,zD hck];by_cases tt:c=k
     .subst tt;rw[zE rfl,zE kg];exact T0 ab
     .rw[zD tt];by_cases lg:c=i
      .subst lg;rw[zE rfl,zD z_];exact hI.over k z_ gq.1 kg d9
      .rw[zD lg];by_cases ue:(c-1)/2=i
       .rw[zE ue];exact hle c d9 gk ue
       .rw[zD ue];exact hI.heap c d9 gk ue
    .rw[H1 _ _ _ _ hi z_,H1 _ _ _ _ hi z_];rw[zD z_,zD z_,kg,zD z_,zE rfl];have:=hI.heap c d9 gk z_;rwa [ns]at this
   .rename_i ab;intro c d9 gk _;by_cases ue:(c-1)/2=i
    .rw[ue];exact Tz (kS ab) (hle c d9 gk ue)
    .exact hI.heap c d9 gk ue
  .exact λc d9 hc _=>hI.heap c d9 hc z_
def Aba(n:Nat):∀(f:Nat) (q:List Item) (i c:Nat),i<n->n<=q.length->n<=c->(E5 f q i n).1.getD c default=q.getD c default
 |0,_,_,_,_,_,_=>rfl
 |f+1,q,i,c,hi,hn,hc=>by
  rw[E5];split
  .rename_i h;have gq:=Sz q i n h;split
   .rw[Aba n f _ _ c z_ (by rw[Bg];exact hn) hc,H1 _ _ _ _ z_ z_,zD z_,zD z_]
   .rfl
  .rfl
def Ai6(q:List Item)(hq:q≠[]):(D5 q).getLast (Ha hq)=q.getD 0 default:=by
 have h0:0<q.length:=xU.2 hq;rw[List.getLast_eq_getElem,<-Bo (show (D5 q).length-1<(D5 q).length by rw[Hm];omega),Hm];by_cases h1:q.length=1
 .have:D5 q=q:=by
   obtain ⟨x,rfl⟩:=List.length_eq_one_iff.1 h1;rfl
  rw[this,h1]
 .rw[D5,Aba _ _ _ _ _ z_ (by rw[Bg];omega) (yG _),H1 _ _ _ _ h0 z_,zE rfl]
def As8(q:List Item)(hq:q≠[]):(D5 q).dropLast++[q.getD 0 default]=D5 q:=by
 rw[<-Ai6 q hq];exact uN (Ha hq)
def Axa(q:List Item)(hq:q≠[]):(q.getD 0 default::(D5 q).dropLast).Perm q :=
 ((List.perm_append_comm (l₁:=[q.getD 0 default]) (l₂:=(D5 q).dropLast)).trans (by rw[As8 q hq])).trans (Ws q hq)
def Axb(q:List Item)(hq:q≠[])(h:Oz q q.length):Oz (D5 q).dropLast (D5 q).dropLast.length:=by
 have h0:0<q.length:=xU.2 hq;have hd:(D5 q).dropLast.length=q.length-1:=by rw[uX,Hm]
 have hh:Oz (D5 q) (q.length-1):=by
  rw[D5];refine Abc (q.length-1) _ _ _ z_ (by rw[Bg];exact h0) (by rw[Bg];omega) ⟨λc d9 gk hp=>?_,λc d9 gk hp h=>by omega⟩;rw[H1 _ _ _ _ h0 z_,H1 _ _ _ _ h0 z_,zD z_,zD z_,zD z_,zD hp];exact h c d9 z_ z_
 intro c d9 gk _;rw[hd]at gk;have hl:=Hm q;have e:∀k,k<q.length-1->(D5 q).dropLast.getD k default=(D5 q).getD k default:=λk hk=>by
  rw[Bo (show k<(D5 q).dropLast.length by omega),Bo (show k<(D5 q).length by omega),List.getElem_dropLast]
 rw[e c gk,e _ z_];exact hh c d9 gk z_
def As9(q:List Item)(h:Oz q q.length):∀x∈q,Cp x (q.getD 0 default)=false:=λx hx=>by
 obtain ⟨c,hc,rfl⟩:=wU hx;have:=Ao4 h (yG _) c hc;rwa [Bo hc]at this
def Hq(ranks:List Int)(j:Nat):List Item:=(List.range j).foldl (λq (i:Nat)=>Xu q ⟨ranks.getD i 0,0,i⟩) []
def Lt(ranks:List Int)(j:Nat):Hq ranks (j+1)=Xu (Hq ranks j) ⟨ranks.getD j 0,0,j⟩:=by
 rw[Hq,vB,xO];rfl
def Qm(ranks:List Int):∀j,(Hq ranks j).length=j
 |0=>rfl
 |j+1=>by rw[Lt,Mo,Qm ranks j]
def aC(roots:List Int):Nat:=roots.countP (λr=>decide (r<0))
def reachM(s:List Item×List Int×List Int):Nat:=41*aC s.2.1+s.1.length
structure ReachInv(n:Net)(s:List Item×List Int×List Int):Prop where
 rootsL:s.2.1.length=n.devices.length
 costsL:s.2.2.length=n.devices.length
 items:∀x∈s.1,0<=x.dev/\x.dev<n.devices.length/\0<=x.root/\0<=x.cost/\x.cost+65535*aC s.2.1<=65535*n.devices.length
 few:s.1.length+40*aC s.2.1<=1000
def Ax7(roots:List Int):aC roots<=roots.length:=List.countP_le_length
def Atq{roots:List Int}{i:Nat}{v:Int}(h:i<roots.length)(h0:roots[i]<0)(hv:0<=v):aC (roots.set i v)+1=aC roots:=by
 have h1:0<roots.countP (λr=>decide (r<0)):=List.countP_pos_iff.2 ⟨roots[i],zI h,kS h0⟩;have hv':¬v<0:=by omega
 rw[aC,aC,List.countP_set h];simp only[h0,hv',decide_true,decide_false,if_true,Bool.false_eq_true,if_false];omega
def Af9(n:Net)(up:List Bool)(x:Item)(hr:Ac n=true)(an:Do n=true){m:Nat}(hx:0<=x.root/\0<=x.cost/\x.cost+65535*(m+1)<=65535*n.devices.length)(q:List Item)(hq:∀y∈q,0<=y.dev/\y.dev<n.devices.length/\0<=y.root/\0<=y.cost/\y.cost+65535*m<=65535*n.devices.length)(i:Nat)(hi:i<n.ports.length):(∀y∈Ee n up x q i,0<=y.dev/\y.dev<n.devices.length/\0<=y.root/\0<=y.cost/\y.cost+65535*m<=65535*n.devices.length)/\(Ee n up x q i).length<=q.length+1:=by
 rw[Ee];split
 .rename_i h;have ab:=Aa4 hr hi h.2;have hk:(Eo n up i).toNat<n.ports.length:=by omega
  have hd:=Ve hr hk;have hpc:1<=n.ports[(Eo n up i).toNat].cost/\n.ports[(Eo n up i).toNat].cost<=65535:=by
   simp only[Do,xB,wK]at an;have:=an _ (zI hk);simp only[Ja,yQ,zJ,vW]at this;omega
  have e:nth n.ports (Eo n up i)=n.ports[(Eo n up i).toNat]:=Ag (l:=n.ports) (i:=Eo n up i) z_;rw[e];refine⟨λy hy=>?_,by rw[Mo];omega⟩;rcases yH.1 ((Tk q _).mem_iff.1 hy) with rfl|hy
  .simp only;omega
  .exact hq y hy
 .exact⟨hq,by omega⟩
def oH(n:Net)(up:List Bool)(x:Item)(hr:Ac n=true)(an:Do n=true){m:Nat}(hx:0<=x.root/\0<=x.cost/\x.cost+65535*(m+1)<=65535*n.devices.length)(q:List Item)(hq:∀y∈q,0<=y.dev/\y.dev<n.devices.length/\0<=y.root/\0<=y.cost/\y.cost+65535*m<=65535*n.devices.length):∀i,i<=n.ports.length ->
  (∀y∈(List.range i).foldl (Ee n up x) q,0<=y.dev/\y.dev<n.devices.length/\0<=y.root/\0<=y.cost/\y.cost+65535*m<=65535*n.devices.length)/\((List.range i).foldl (Ee n up x) q).length<=q.length+i
 |0,_=>⟨hq,by simp⟩
 |i+1,hi=>by
  obtain ⟨h1,h2⟩:=oH n up x hr an hx q hq i z_;rw[vB,xO];obtain ⟨h3,h4⟩:=Af9 n up x hr an hx _ h1 i z_;exact⟨h3,by simp only[vJ,tH];omega⟩
def Aag{q:List Item}(hq:q≠[]):(D5 q).getLast?.getD default=(D5 q).getLast (Ha hq):=by
 rw[List.getLast?_eq_some_getLast (Ha hq)];rfl
def M4(n:Net)(up:List Bool)(hr:Ac n=true)(an:Do n=true)(s:List Item×List Int×List Int)(hI:ReachInv n s)(ag:s.1≠[]):ReachInv n (Ti n up s)/\reachM (Ti n up s)<reachM s:=by
 have hf:=Ic hr;have hx:=hI.items _ ((Ws s.1 ag).mem_iff.1 (List.getLast_mem (Ha ag)));have hd:∀y∈(D5 s.1).dropLast,y∈s.1:=λy hy=>(Ws s.1 ag).mem_iff.1 ((List.dropLast_sublist _).subset hy)
 have h0:0<s.1.length:=xU.2 ag;have fh:(D5 s.1).dropLast.length+1=s.1.length:=by rw[uX,Hm];omega
 have nk:=hI.few;rw[Ti,Aag ag];generalize (D5 s.1).getLast (Ha ag)=x at *;split
 .exact⟨⟨hI.rootsL,hI.costsL,λy hy=>hI.items y (hd y hy),by simp only;omega⟩,by unfold reachM;simp only;omega⟩
 .rename_i ju;have hk:x.dev.toNat<s.2.1.length:=by rw[hI.rootsL];omega
  rw[Ag (l:=s.2.1) (i:=x.dev) (by rw[hI.rootsL];omega)]at ju;have hm:=Atq hk z_ hx.2.2.1;obtain ⟨h1,h2⟩:=oH n up x hr an (m:=aC (s.2.1.set x.dev.toNat x.root)) ⟨hx.2.2.1,hx.2.2.2.1,by have:=hx.2.2.2.2;omega⟩ (D5 s.1).dropLast (λy hy=>by have:=hI.items y (hd y hy);omega) n.ports.length (yG _);exact⟨⟨by simp only[yN];exact hI.rootsL,by simp only[yN];exact hI.costsL,h1,by simp only;omega⟩,by unfold reachM;simp only;omega⟩
def eF(n:Net)(up:List Bool)(hr:Ac n=true)(an:Do n=true):∀(f g:Nat) (s:List Item×List Int×List Int),ReachInv n s->reachM s<=f->reachM s<=g->Je n up f s=Je n up g s
 |0,0,_,_,_,_=>rfl
 |0,g+1,s,_,h,_=>by
  have:s.1=[]:=yB (by unfold reachM at h;omega);rw[Je,Je,zE this]
 |f+1,0,s,_,_,h=>by
  have:s.1=[]:=yB (by unfold reachM at h;omega);rw[Je,Je,zE this]
 |f+1,g+1,s,hI,h1,h2=>by
  rw[Je,Je];split
  .rfl
  .rename_i ag;obtain ⟨h3,h4⟩:=M4 n up hr an s hI ag;exact eF n up hr an f g _ h3 z_ z_
def L8(n:Net)(up:List Bool)(s:List Item×List Int×List Int):List Item×List Int×List Int:=Je n up (reachM s) s
def Anm(n:Net)(up:List Bool)(s:List Item×List Int×List Int)(h:s.1=[]):L8 n up s=s:=by
 rw[L8];cases reachM s with
 |zero=>rfl
 |succ m=>rw[Je,zE h]
def Aiz(n:Net)(up:List Bool)(hr:Ac n=true)(an:Do n=true)(s:List Item×List Int×List Int)(hI:ReachInv n s)(ag:s.1≠[]):L8 n up s=L8 n up (Ti n up s):=by
 obtain ⟨h3,h4⟩:=M4 n up hr an s hI ag;rw[L8,L8];obtain ⟨m,hm⟩:∃m,reachM s=m+1:=⟨reachM s-1,by omega⟩
 rw[hm,Je,zD ag];exact eF n up hr an _ _ _ h3 z_ (yG _)
def dW(ranks:List Int)(m:Nat)(o6:∀r∈ranks,0<=r):∀j,j<=ranks.length->∀y∈Hq ranks j,0<=y.dev/\y.dev<m+ranks.length/\0<=y.root/\y.cost=0
 |0,_,y,hy=>by simp[Hq]at hy
 |j+1,hj,y,hy=>by
  rw[Lt]at hy;rcases yH.1 ((Tk _ _).mem_iff.1 hy) with rfl|hy
  .have h1:=o6 (ranks[j]'z_) (zI _);have h2:(0:Int)<=(j:Int)/\(j:Int)<m+ranks.length:=by omega
   exact⟨h2.1,h2.2,by rw[Bo (show j<ranks.length by omega)];exact h1,E⟩
  .exact dW ranks m o6 j z_ y hy
def Adn(n:Net)(ranks roots costs:List Int)(hr:Ac n=true)(nu:ranks.length=n.devices.length)(em:roots.length=n.devices.length)(hc:costs.length=n.devices.length)(o6:∀r∈ranks,0<=r):ReachInv n (Hq ranks ranks.length,roots,costs):=by
 have hf:=Ic hr;have hm:=Ax7 roots;refine⟨em,hc,λy hy=>?_,by simp only[Qm];omega⟩;have:=dW ranks 0 o6 _ (yG _) y hy;simp only;omega
def Le2(r c r' c':Int):Prop:=r<r'\/(r=r'/\c<=c')
def Auc{x y:Item}(h:Cp y x=false):Le2 x.root x.cost y.root y.cost:=by
 simp only[Cp,wG,zY,yW,zT]at h;unfold Le2;omega
def Aub{a b c d e f:Int}(h1:Le2 a b c d)(h2:Le2 c d e f):Le2 a b e f:=by
 unfold Le2 at *;omega
def Akb{a b c d m:Int}(h1:Le2 a b c d)(hm:0<=m):Le2 a b c (d+m):=by
 unfold Le2 at *;omega
def Adb(n:Net)(up:List Bool)(i j:Nat):Prop:=i<n.ports.length/\Eo n up i=j
def Vt{n:Net}{up:List Bool}(hr:Ac n=true){i j:Nat}(h:Adb n up i j):j<n.ports.length:=by
 have:=Aa4 (up:=up) hr h.1 (by rw[h.2];omega);rw[h.2]at this;omega
def Aem{n:Net}{up:List Bool}(hr:Ac n=true){i j:Nat}(h:Adb n up i j):∃k:Nat,k<n.links.length/\(nth n.ports i).link=k/\(nth n.ports j).link=k/\up.getD k false=true/\(((nth n.links k).a=i/\(nth n.links k).b=j)\/((nth n.links k).a=j/\(nth n.links k).b=i))/\Ip n i≠Ip n j:=by
 have hj:=Vt hr h;obtain ⟨hi,hf⟩:=h;have hp:=Th hr hi;have bd:=Wr hr hi;simp only[J7,zG,yQ,yJ]at hp;have hp:=hp.2;have e:nth n.ports i=n.ports[i]:=Ag (l:=n.ports) (i:=(i:Int)) (kS hi);unfold Eo at hf;rw[Bo hi]at hf;simp only at hf;split at hf
 .omega
 .rename_i hc;simp only[yQ,zJ,vW,xB,Bool.not_eq_false]at hc;rcases hp with hp|hp
  .omega
  .have hl:n.ports[i].link.toNat<n.links.length:=by omega
   have ak:=nZ hr hl;have he:=Si hr hl;have ek:((n.ports[i].link.toNat:Nat):Int)=n.ports[i].link:=by omega
   refine⟨n.ports[i].link.toNat,hl,by rw[e];omega,?_⟩;simp only[Qb,zG,yJ,xC]at ak;obtain ⟨⟨⟨_,ag⟩,h1⟩,h2⟩:=ak;rw[ek];rw[Ag (l:=n.links) (i:=n.ports[i].link) z_]at hf hp|-;generalize n.links[n.ports[i].link.toNat]=l at *;rcases hp.2 with ha|hb
   .have hb:l.b=j:=by omega
    rw[ha,hb]at ag;rw[hb]at h2;exact⟨by omega,kS hc.2,.inl ⟨ha,hb⟩,ag⟩
   .have ha:l.a=j:=by omega
    rw[ha,hb]at ag;rw[ha]at h1;exact⟨by omega,kS hc.2,.inr ⟨ha,hb⟩,λh=>ag h.symm⟩
def Ako{n:Net}{up:List Bool}(hr:Ac n=true){i j:Nat}(h:Adb n up i j):Adb n up j i:=by
 have hj:=Vt hr h;obtain ⟨k,hk,_,h2,h3,h4,_⟩:=Aem hr h;refine⟨hj,?_⟩;unfold Eo;have e:n.ports.getD j default=nth n.ports j:=rfl;rw[e];simp only[h2,yE,h3];rw[zD qq];omega
def Wt{n:Net}(hr:Ac n=true){i:Nat}(hi:i<n.ports.length):0<=Ip n i/\Ip n i<n.devices.length:=by
 rw[Ip,Ag (l:=n.ports) (i:=(i:Int)) (kS hi)];exact Ve hr hi
def Der(n:Net)(up:List Bool)(K R C:Int->Int)(r c d:Int):Prop :=
 (r=K d/\c=0)\/∃i j:Nat,Adb n up i j/\Ip n i=d/\0<=R (Ip n j)/\r=R (Ip n j)/\c=C (Ip n j)+Z4 n i
structure Dij(n:Net)(up:List Bool)(K:Int->Int)(q:List Item)(R C:Int->Int):Prop where
 heap:Oz q q.length
 items:∀x∈q,Der n up K R C x.root x.cost x.dev
 done:∀d:Int,0<=d->d<n.devices.length->0<=R d->Der n up K R C (R d) (C d) d
 own:∀d:Int,0<=d->d<n.devices.length->R d<0->⟨K d,0,d⟩∈q
 push:∀i j:Nat,Adb n up i j->R (Ip n i)<0->0<=R (Ip n j)->⟨R (Ip n j),C (Ip n j)+Z4 n i,Ip n i⟩∈q
 low:∀d:Int,0<=d->d<n.devices.length->0<=R d->∀x∈q,Le2 (R d) (C d) x.root x.cost
 self:∀d:Int,0<=d->d<n.devices.length->0<=R d->Le2 (R d) (C d) (K d) 0
 tri:∀i j:Nat,Adb n up i j->0<=R (Ip n i)->0<=R (Ip n j)->Le2 (R (Ip n i)) (C (Ip n i)) (R (Ip n j)) (C (Ip n j)+Z4 n i)
def oE(n:Net)(up:List Bool)(x:Item)(q:List Item)(y:Item):∀m,y∈(List.range m).foldl (Ee n up x) q↔y∈q\/∃i,i<m/\Ip n i=x.dev/\0<=Eo n up i/\y=⟨x.root,x.cost+(nth n.ports (Eo n up i)).cost,(nth n.ports (Eo n up i)).dev⟩
 |0=>by simp
 |m+1=>by
  rw[vB,xO];simp only[vJ,tH];rw[Ee];have ih:=oE n up x q y m;have e:(n.ports.getD m default).dev=Ip n m:=rfl;rw[e];split
  .rename_i h;rw[(Tk _ _).mem_iff,yH,ih];constructor
   .rintro (h1|h1|⟨i,h1,h2⟩)
    .exact .inr ⟨m,by omega,h.1,h.2,h1⟩
    .exact .inl h1
    .exact .inr ⟨i,by omega,h2⟩
   .rintro (h1|⟨i,h1,h2,h3,h4⟩)
    .exact .inr (.inl h1)
    .by_cases hm:i=m
     .subst hm;exact .inl h4
     .exact .inr (.inr ⟨i,by omega,h2,h3,h4⟩)
  .rename_i h;rw[ih];constructor
   .rintro (h1|⟨i,h1,h2⟩)
    .exact .inl h1
    .exact .inr ⟨i,by omega,h2⟩
   .rintro (h1|⟨i,h1,h2,h3,h4⟩)
    .exact .inl h1
    .by_cases hm:i=m
     .subst hm;exact zX ⟨h2,h3⟩ h
     .exact .inr ⟨i,by omega,h2,h3,h4⟩
def eE(n:Net)(up:List Bool)(x:Item)(q:List Item)(h:Oz q q.length):∀m,Oz ((List.range m).foldl (Ee n up x) q) ((List.range m).foldl (Ee n up x) q).length
 |0=>h
 |m+1=>by
  rw[vB,xO];simp only[vJ,tH];have ih:=eE n up x q h m;rw[Ee];split
  .exact oK _ _ ih
  .exact ih
def Abe{n:Net}{up:List Bool}{K R C R' C':Int->Int}{r c d:Int}(h:Der n up K R C r c d)(hs:∀e,0<=R e->R' e=R e/\C' e=C e):Der n up K R' C' r c d:=by
 rcases h with h|⟨i,j,h1,h2,h3,h4,h5⟩
 .exact .inl h
 .obtain ⟨e1,e2⟩:=hs _ h3;exact .inr ⟨i,j,h1,h2,by rw[e1];exact h3,by rw[e1];exact h4,by rw[e2];exact h5⟩
def Azz{n:Net}{up:List Bool}{K R C:Int->Int}{q q':List Item}{x:Item}(h:Dij n up K q R C)(hp:(x::q').Perm q)(hh:Oz q' q'.length)(hx:0<=R x.dev):Dij n up K q' R C:=by
 have hm:∀y,y∈q↔y=x\/y∈q':=λy=>by rw[<-hp.mem_iff,yH]
 refine⟨hh,λy hy=>h.items y ((hm y).2 (.inr hy)),h.done,λd h0 h1 h2=>?_,λi j cy h1 h2=>?_,λd h0 h1 h2 y hy=>h.low d h0 h1 h2 y ((hm y).2 (.inr hy)),h.self,h.tri⟩
 .rcases (hm _).1 (h.own d h0 h1 h2) with e|e
  .rw[<-e]at hx;simp only at hx;omega
  .exact e
 .rcases (hm _).1 (h.push i j cy h1 h2) with e|e
  .rw[<-e]at hx;simp only at hx;omega
  .exact e
def Azy{n:Net}{up:List Bool}{K R C R' C':Int->Int}{q q':List Item}{x:Item}(hr:Ac n=true)(an:Do n=true)(h:Dij n up K q R C)(hp:(x::q').Perm q)(hh:Oz q' q'.length)(hmin:∀y∈q,Cp y x=false)(hx:R x.dev<0)(iq:0<=x.root)(_hxd:0<=x.dev/\x.dev<n.devices.length)(hR:∀e,R' e=if e=x.dev then x.root else R e)(hC:∀e,C' e=if e=x.dev then x.cost else C e):Dij n up K ((List.range n.ports.length).foldl (Ee n up x) q') R' C':=by
 have hm:∀y,y∈q↔y=x\/y∈q':=λy=>by rw[<-hp.mem_iff,yH]
 have hn:=λy=>oE n up x q' y n.ports.length
 have hs:∀e,0<=R e->R' e=R e/\C' e=C e:=λe he=>by
  have:e≠x.dev:=λh=>by rw[h]at he;omega
  rw[hR,hC,zD this,zD this];exact⟨E,E⟩
 have r8:R' x.dev=x.root:=by rw[hR,zE rfl]
 have vk:C' x.dev=x.cost:=by rw[hC,zE rfl]
 have hxq:x∈q:=(hm x).2 (.inl rfl);have hle:∀y∈q,Le2 x.root x.cost y.root y.cost:=λy hy=>Auc (hmin y hy)
 have ay:∀y,y∈(List.range n.ports.length).foldl (Ee n up x) q'↔y∈q'\/∃i j:Nat,Adb n up i j/\Ip n i=x.dev/\y=⟨x.root,x.cost+Z4 n j,Ip n j⟩:=λy=>by
  rw[hn y];constructor
  .rintro (h1|⟨i,h1,h2,h3,h4⟩)
   .exact .inl h1
   .obtain ⟨j,hj⟩:∃j:Nat,Eo n up i=j:=⟨(Eo n up i).toNat,by omega⟩
    rw[hj]at h4;exact .inr ⟨i,j,⟨h1,hj⟩,h2,h4⟩
  .rintro (h1|⟨i,j,h1,h2,h3⟩)
   .exact .inl h1
   .refine .inr ⟨i,h1.1,h2,by rw[h1.2];omega,?_⟩;rw[h1.2];exact h3
 refine⟨eE n up x q' hh _,λy hy=>?_,λd h0 h1 h2=>?_,λd h0 h1 h2=>?_,λi j cy h1 h2=>?_,λd h0 h1 h2 y hy=>?_,λd h0 h1 h2=>?_,λi j cy h1 h2=>?_⟩
 .rcases (ay y).1 hy with hy|⟨i,j,h1,h2,rfl⟩
  .exact Abe (h.items y ((hm y).2 (.inr hy))) hs
  .exact .inr ⟨j,i,Ako hr h1,E,by rw[h2,r8];exact iq,by rw[h2,r8],by rw[h2,vk]⟩
 .by_cases hd:d=x.dev
  .subst hd;rw[r8,vk];exact Abe (h.items x hxq) hs
  .rw[hR,zD hd]at h2;obtain ⟨e1,e2⟩:=hs d h2;rw[e1,e2];exact Abe (h.done d h0 h1 h2) hs
 .have hd:d≠x.dev:=λe=>by rw[e,r8]at h2;omega
  rw[hR,zD hd]at h2;refine(ay _).2 (.inl ?_);rcases (hm _).1 (h.own d h0 h1 h2) with e|e
  .exact zX (zH Item.dev e) hd
  .exact e
 .have hd:Ip n i≠x.dev:=λe=>by rw[e,r8]at h1;omega
  rw[hR,zD hd]at h1;by_cases hj:Ip n j=x.dev
  .rw[hj,r8,vk];exact(ay _).2 (.inr ⟨j,i,Ako hr cy,hj,E⟩)
  .rw[hR,zD hj]at h2;obtain ⟨e1,e2⟩:=hs _ h2;rw[e1,e2];refine(ay _).2 (.inl ?_);rcases (hm _).1 (h.push i j cy h1 h2) with e|e
   .exact zX (zH Item.dev e) hd
   .exact e
 .have hdx:Le2 (R' d) (C' d) x.root x.cost:=by
   by_cases hd:d=x.dev
   .subst hd;rw[r8,vk];exact .inr ⟨rfl,xN _⟩
   .rw[hR,zD hd]at h2;obtain ⟨e1,e2⟩:=hs d h2;rw[e1,e2];exact h.low d h0 h1 h2 x hxq
  rcases (ay y).1 hy with hy|⟨i,j,h3,_,rfl⟩
  .exact Aub hdx (hle y ((hm y).2 (.inr hy)))
  .exact Akb hdx (by have:=Aja an (Vt hr h3);omega)
 .by_cases hd:d=x.dev
  .subst hd;rw[r8,vk];exact hle _ (h.own _ h0 h1 hx)
  .rw[hR,zD hd]at h2;obtain ⟨e1,e2⟩:=hs d h2;rw[e1,e2];exact h.self d h0 h1 h2
 .have hj:=Vt hr cy;have hpc:=Aja an cy.1;have ag:=(Aem hr cy).choose_spec.2.2.2.2.2;by_cases hd:Ip n i=x.dev
  .rw[hd,r8,vk];have uf:Ip n j≠x.dev:=λe=>ag (by rw[hd,e])
   rw[hR,zD uf]at h2;obtain ⟨e1,e2⟩:=hs _ h2;rw[e1,e2];exact hle _ (h.push i j cy (by rw[hd];exact hx) h2)
  .rw[hR,zD hd]at h1;obtain ⟨e1,e2⟩:=hs _ h1;rw[e1,e2];by_cases uf:Ip n j=x.dev
   .rw[uf,r8,vk];have fh:=Wt hr cy.1;exact Akb (h.low _ fh.1 fh.2 h1 x hxq) z_
   .rw[hR,zD uf]at h2;obtain ⟨e3,e4⟩:=hs _ h2;rw[e3,e4];exact h.tri i j cy h1 h2
end Go.Sy.Zaa
