/- Parts of a proof. -/
import Derived.Test.YticmobkdaneelaaGreatDoorYE14
set_option linter.all false
set_option linter.unusedVariables false
set_option linter.unusedSimpArgs false
set_option linter.deprecated false
namespace Go.Sy.YticmobkdaneelaaGreatDoor
open Go.Proofs Go.Proofs.Tryz
attribute [local irreducible] Go.Sy.G Go.Sy.DR
set_option maxRecDepth 20000
set_option maxHeartbeats 4000000
structure Item where
 (root cost dev:Int)
instance:Inhabited Item:=⟨⟨0,0,0⟩⟩
def B3(x:Item):SV:=.agg [Aa x.root,Aa x.cost,Aa x.dev]
def Ck(x y:Item):Bool:=decide (x.root<y.root)||(x.root==y.root&&decide (x.cost<y.cost))
def Aaz(q:List Item):Sp 207 [.sl 3 B3 q] (Aa q.length):=cT F207 ntmps207 λF hF=>by
 conv=>whnf
 exact dN
def Mw(q:List Item)(i j:Nat)(hi:i<q.length)(hj:j<q.length):Sp 408 [.sl 3 B3 q,Aa i,Aa j] (Ab (Ck q[i] q[j])):=cT F408 ntmps408 λF hF=>by
 have e1:q[(i:Int).toNat]'q_=q[i]:=rfl;have e2:q[(j:Int).toNat]'q_=q[j]:=rfl
 conv=>whnf
 (repeat' (first|(refine⟨λh=>?_,λh=>?_⟩<;>(repeat (first|simp only[zJ]at h|simp only[zX]at h|simp only[yJ]at h|simp only[zR]at h))<;>((refine rd z_ ?_);(conv=>whnf)))|(refine At rfl (.cons .tmp .nil) ?_ rfl)|(refine⟨z_,?_⟩;((conv=>whnf)))|(refine⟨by (omega),by (omega),?_⟩;((conv=>whnf)))))
 all_goals (refine zH Ab ?_;clear hF;grind [Ck])
def Mv(q:List Item)(i j:Nat)(hi:i<q.length)(hj:j<q.length):Sq 411 [.osl 0,Aa i,Aa j] [(0,.row 3 B3 q)] (.tup []) [(0,.row 3 B3 ((q.set i q[j]).set j q[i]))]:=cT F411 ntmps411 λF hF=>by
 have e1:q[(i:Int).toNat]'q_=q[i]:=rfl;have e2:q[(j:Int).toNat]'q_=q[j]:=rfl
 conv=>whnf
 refine⟨by omega,by omega,?_⟩
 conv=>whnf
 refine⟨E,by omega,?_⟩;rw[e2]
 conv=>whnf
 refine⟨by omega,by omega,?_⟩
 conv=>whnf
 refine⟨E,by omega,?_⟩;rw[e1]
 conv=>whnf
 refine⟨by omega,by omega,?_⟩
 conv=>whnf
 refine⟨E,by omega,q[j],E,E,?_⟩
 conv=>whnf
 refine⟨by omega,by simp;omega,?_⟩
 conv=>whnf
 refine⟨E,by simp;omega,q[i],E,E,?_⟩
 conv=>whnf
 refine kW ?_;exact A6 E .nil [] [(0,.row 3 B3 ((q.set i q[j]).set j q[i]))] (λ_ h=>h) E E kU
def Ar8(q:List Item)(x:Item)(hq:q.length<1000000):Sq 410 [.ptr 0 0,.ifc 332 (B3 x)] [(0,.box [.osl 1]),(1,.row 3 B3 q)] (.tup []) [(0,.box [.osl 2]),(1,.non),(2,.row 3 B3 (q++[x]))]:=cT F410 ntmps410 λF hF=>by
 conv=>whnf
 refine Af (Acq Γ.toTy E E E E) E E ?_;refine oT ?_;refine Bw (Ag Γ.toTy 18 E E E E E (.row E) (.lit (l:=[x]) E E) y_ (by simp;omega) (by simp;omega)) z_ E ?_;refine gH ?_;exact A6 E .nil [(2,18)] [(0,.box [.osl 2]),(1,.non),(2,.row 3 B3 (q++[x]))] (λ_ h=>h) E E kU
def Axg(q:List Item)(hq:q≠[])(hl:q.length<1000000):Sq 409 [.ptr 0 0] [(0,.box [.osl 1]),(1,.row 3 B3 q)] (.ifc 332 (B3 (q.getLast hq))) [(0,.box [.osl 2]),(1,.non),(2,.row 3 B3 q.dropLast)]:=cT F409 ntmps409 λF hF=>by
 have h0:0<q.length:=xN.2 hq;have e1:q[((q.length:Int)-1).toNat]'q_=q.getLast hq:=by
  rw[List.getLast_eq_getElem];congr 1;omega
 conv=>whnf
 refine iW ?_;refine⟨by omega,by omega,?_⟩
 conv=>whnf
 refine⟨E,by omega,?_⟩;rw[e1]
 conv=>whnf
 refine kW ?_;refine iW ?_;refine Bw (Afz Γ.toTy (d:=23) (hi:=q.length-1) E E E E E j_ E (.inl ⟨E,E⟩) (.inr ⟨_,_,E,zH (λz=>SV.val (.int .i64 z)) q_⟩) q_) z_ E ?_;rw[←List.dropLast_eq_take];refine gH ?_;exact done E (.cons .tmp .nil) [(2,23)] [(0,.box [.osl 2]),(1,.non),(2,.row 3 B3 q.dropLast)] (λ_ h=>h) E E kU
set_option maxRecDepth 100000
def mLen : Meth prog 327 "Len" 207 false 329 := .of (by kernel_rfl) Tryz.underlying327
def Aoj : Meth prog 327 "Less" 408 false 329 := .of (by kernel_rfl) Tryz.underlying327
def Aoi : Meth prog 327 "Swap" 411 false 329 := .of (by kernel_rfl) Tryz.underlying327
def mPush : Meth prog 327 "Push" 410 true 329 := .of (by kernel_rfl) Tryz.underlying327
def mPop : Meth prog 327 "Pop" 409 true 329 := .of (by kernel_rfl) Tryz.underlying327
def E7(q:List Item)(i j:Nat):List Item:=(q.set i (q.getD j default)).set j (q.getD i default)
def Bg(q:List Item)(i j:Nat):(E7 q i j).length=q.length:=by simp[E7]
def upF:Nat→List Item→Nat→List Item
 |0,q,_=>q
 |n+1,q,j=>if j=0 then q else if Ck (q.getD j default) (q.getD ((j-1)/2) default) then upF n (E7 q ((j-1)/2) j) ((j-1)/2) else q
def Amo:∀(n m:Nat) (q:List Item) (j:Nat),j≤n→j≤m→upF n q j=upF m q j
 |0,m,q,j,h,_=>by
  have:j=0:=by omega
  subst this;cases m<;>simp[upF]
 |n+1,0,q,j,_,h=>by
  have:j=0:=by omega
  subst this;simp[upF]
 |n+1,m+1,q,j,h1,h2=>by
  rw[upF,upF];split
  ·rfl
  ·split
   ·exact Amo n m _ _ q_ q_
   ·rfl
def Az0(r:List Item):∀(i:Nat),i≠0→upF i r i=if Ck (r.getD i default) (r.getD ((i-1)/2) default) then upF ((i-1)/2) (E7 r ((i-1)/2) i) ((i-1)/2) else r
 |0,h=>zY rfl h
 |m+1,_=>by
  rw[upF,zD q_];split
  ·exact Amo _ _ _ _ q_ q_
  ·rfl
def upS(q:List Item)(j:Nat)(hj:j<q.length)(hl:q.length<1000000):Sq 280 [.ifc 327 (.ptr 0 0),Aa j] [(0,.box [.osl 1]),(1,.row 3 B3 q)] (.tup []) [(0,.box [.osl 1]),(1,.row 3 B3 (upF j q j))]:=cT F280 ntmps280 λF hF=>by
 conv=>whnf
 refine Vr (α:={p:List Item×Nat // upF p.2 p.1 p.2=upF j q j∧p.1.length=q.length∧p.2<p.1.length}) (λp=>[(0,.ifc 327 (.ptr 0 0)),(1,Aa p.1.2)]) (λp=>[(0,.box [.osl 1]),(1,.row 3 B3 p.1.1)]) (λp=>p.1.2) ⟨(q,j),E,E,hj⟩ []
  kU ?_
 rintro ⟨⟨r,i⟩,h1,h2,h3⟩;simp only at h1 h2 h3;dsimp only;have hw:IntKind.i64.wrap (((i:Int)-1).tdiv 2)=(((i-1)/2:Nat):Int):=by
  rcases uB i with h0|h0
  ·subst h0;rfl
  ·have:((i:Int)-1)=((i-1:Nat):Int):=by omega
   rw[this,vU q_,IntKind.wrap_i64];omega
 refine gF ?_;refine⟨by decide,?_⟩;rw[hw]
 conv=>whnf
 constructor<;>intro h
 ·have h0:i=0:=by
   have:(((i-1)/2:Nat):Int)=i:=by simpa using h
   omega
  subst h0;have e:upF j q j=r:=by rw[←h1];rfl
  rw[e];refine oT ?_;exact A6 E .nil [] [(0,.box [.osl 1]),(1,.row 3 B3 r)] (λ_ h=>h) E E kU
 have h0:i≠0:=by
  intro h0;subst h0;exact zY h j_
 have hp:(i-1)/2<r.length:=by omega
 have xp:=Mw r i ((i-1)/2) h3 hp;refine oO ?_;refine Af (Hj [1] (B0 Γ.toTy Aoj F408 E E E E E) xp (.cons (.row E E) (.cons (.refl _) (.cons (.refl _) .nil))) E E) E E ?_;refine oO ?_;have hu:upF i r i=if Ck r[i] r[(i-1)/2] then upF ((i-1)/2) (E7 r ((i-1)/2) i) ((i-1)/2) else r:=by
  rw[Az0 r i h0,Bo h3,Bo hp]
 constructor<;>intro h
 ·have ab:Ck r[i] r[(i-1)/2]=false:=by simpa using h
  have e:upF j q j=r:=by rw[←h1,hu,ab];rfl
  rw[e];refine oO ?_;exact A6 E .nil [] [(0,.box [.osl 1]),(1,.row 3 B3 r)] (λ_ h=>h) E E kU
 have ab:Ck r[i] r[(i-1)/2]=true:=by simpa using h
 rw[ab,zG rfl]at hu;have ma:=Mv r ((i-1)/2) i hp h3;have e:(r.set ((i-1)/2) r[i]).set i r[(i-1)/2]=E7 r ((i-1)/2) i:=by
  rw[E7,Bo h3,Bo hp]
 rw[e]at ma;refine oO ?_;refine Af (Ap [(0,1)] (B0 Γ.toTy Aoi F411 E E E E E) ma E ⟨E,Y⟩ E ⟨.inl E,Y⟩) E E ?_;refine oO ?_;exact Xk (α:={p:List Item×Nat // upF p.2 p.1 p.2=upF j q j∧p.1.length=q.length∧p.2<p.1.length}) (L:=λp=>[(0,.ifc 327 (.ptr 0 0)),(1,Aa p.1.2)]) (O:=λp=>[(0,.box [.osl 1]),(1,.row 3 B3 p.1.1)]) (μ:=λp=>p.1.2) (x:=⟨(r,i),h1,h2,h3⟩)
  ⟨(E7 r ((i-1)/2) i,(i-1)/2),by rw[←h1,hu],by rw[Bg];exact h2,by rw[Bg];exact hp⟩ [] (by simp only;omega)
  kU
def Aec:∀(n:Nat) (q:List Item) (j:Nat),(upF n q j).length=q.length
 |0,q,j=>rfl
 |n+1,q,j=>by
  rw[upF];split
  ·rfl
  ·split
   ·rw[Aec n,Bg]
   ·rfl
def Ww(q:List Item)(x:Item):List Item:=upF q.length (q++[x]) q.length
def Ajc(q:List Item)(x:Item)(hl:q.length<999999):Sq 206 [.ifc 327 (.ptr 0 0),.ifc 332 (B3 x)] [(0,.box [.osl 1]),(1,.row 3 B3 q)] (.tup []) [(0,.box [.osl 2]),(1,.non),(2,.row 3 B3 (Ww q x))]:=cT F206 ntmps206 λF hF=>by
 have jd:=Ar8 q x q_;have hlen:=Aaz (q++[x]);have hup:=upS (q++[x]) q.length y_ (by simp;omega);have s6:(((q++[x]).length:Nat):Int)-1=(q.length:Int):=by simp
 conv=>whnf
 refine Af (Ap (rd:=[]) [(2,6)] (Xh mPush F410 E E) jd E ⟨E,E,Y⟩ E ⟨.inl E,.inl E,.inr E,Y⟩) E E ?_;refine oO ?_;refine Af (Hj [6] (B0 Γ.toTy mLen F207 E E E E E) hlen (.cons (.row E E) .nil) E E) E E ?_;refine oO ?_;refine⟨by unfold I64;simp;omega,?_⟩;rw[s6]
 conv=>whnf
 refine Af (Ad [(1,6)] E F280 hup E ⟨E,E,Y⟩ E ⟨.inl E,.inl E,Y⟩) E E ?_;refine oO ?_;exact A6 E .nil [(2,6)] [(0,.box [.osl 2]),(1,.non),(2,.row 3 B3 (Ww q x))] (λ_ h=>h) E E kU
def Ey(q:List Item)(i n:Nat):Nat:=if 2*i+2<n∧Ck (q.getD (2*i+2) default) (q.getD (2*i+1) default)=true then 2*i+2 else 2*i+1
def Q6(q:List Item)(i n:Nat)(h:2*i+1<n):Ey q i n<n∧i<Ey q i n:=by
 unfold Ey;split<;>omega
def Ez:Nat→List Item→Nat→Nat→List Item×Nat
 |0,q,i,_=>(q,i)
 |f+1,q,i,n=>if 2*i+1<n then (if Ck (q.getD (Ey q i n) default) (q.getD i default) then Ez f (E7 q i (Ey q i n)) (Ey q i n) n else (q,i)) else (q,i)
def Yf:∀(f g:Nat) (q:List Item) (i n:Nat),n≤f+i→n≤g+i→Ez f q i n=Ez g q i n
 |0,g,q,i,n,h1,h2=>by
  cases g with
  |zero=>rfl
  |succ g=>rw[Ez,Ez,zD q_]
 |f+1,0,q,i,n,h1,h2=>by rw[Ez,Ez,zD q_]
 |f+1,g+1,q,i,n,h1,h2=>by
  rw[Ez,Ez];split
  ·rename_i h;have:=Q6 q i n h;split
   ·exact Yf f g _ _ n q_ q_
   ·rfl
  ·rfl
def At5(r:List Item)(i n:Nat):Ez (n-i) r i n=if 2*i+1<n then (if Ck (r.getD (Ey r i n) default) (r.getD i default) then Ez (n-Ey r i n) (E7 r i (Ey r i n)) (Ey r i n) n else (r,i)) else (r,i):=by
 rw[Yf (n-i) (n-i+1) r i n q_ q_,Ez];split
 ·rename_i h;have:=Q6 r i n h;split
  ·exact Yf _ _ _ _ _ q_ q_
  ·rfl
 ·rfl
def Z2:∀(f:Nat) (q:List Item) (i n:Nat),(Ez f q i n).1.length=q.length
 |0,_,_,_=>rfl
 |f+1,q,i,n=>by
  rw[Ez];split
  ·split
   ·rw[Z2 f,Bg]
   ·rfl
  ·rfl
def downS(q:List Item)(i0 n:Nat)(hn:n≤q.length)(hi:i0<q.length)(hl:q.length<1000000):Sq 281 [.ifc 327 (.ptr 0 0),Aa i0,Aa n] [(0,.box [.osl 1]),(1,.row 3 B3 q)] (Ab (decide (((Ez (n-i0) q i0 n).2:Int)>i0))) [(0,.box [.osl 1]),(1,.row 3 B3 (Ez (n-i0) q i0 n).1)]:=cT F281 ntmps281 λF hF=>by
 generalize hD:Ez (n-i0) q i0 n=D
 conv=>whnf
 refine Vr (α:={p:List Item×Nat // Ez (n-p.2) p.1 p.2 n=D∧p.1.length=q.length∧p.2<p.1.length}) (λp=>[(0,.ifc 327 (.ptr 0 0)),(1,Aa i0),(2,Aa n),(7,Aa p.1.2)]) (λp=>[(0,.box [.osl 1]),(1,.row 3 B3 p.1.1)]) (λp=>n-p.1.2) ⟨(q,i0),hD,E,hi⟩ []
  kU ?_
 rintro ⟨⟨r,i⟩,h1,h2,h3⟩;simp only at h1 h2 h3;dsimp only;have mi:=h1;rw[At5]at h1;have xq:(2:Int)*i+1=((2*i+1:Nat):Int):=by omega
 have an:((2*i+1:Nat):Int)+1=((2*i+2:Nat):Int):=by omega
 refine gF ?_;refine iL ?_;rw[xq]
 conv=>whnf
 constructor<;>intro h
 ·have ve:¬2*i+1<n:=qA h;rw[zD ve]at h1;rw[←h1];refine oT ?_;exact done E (.cons .tmp .nil) [] [(0,.box [.osl 1]),(1,.row 3 B3 r)] (λ_ h=>h) E E kU
 have ab:2*i+1<n:=qB h;rw[zG ab]at h1;refine oF ?_;refine iL ?_;rw[an]
 conv=>whnf
 constructor<;>intro h
 ·have h2n:2*i+2<n:=qA h;have hA:2*i+2<r.length:=by omega
  have hB:2*i+1<r.length:=by omega
  have hlc:=Mw r (2*i+2) (2*i+1) hA hB;refine oO ?_;refine Af (Hj [1] (B0 Γ.toTy Aoj F408 E E E E E) hlc (.cons (.row E E) (.cons (.refl _) (.cons (.refl _) .nil))) E E) E E ?_;refine oO ?_;constructor<;>intro h
  ·have hc:Ey r i n=2*i+2:=by rw[Ey,zG ⟨h2n,by rw[Bo hA,Bo hB];exact h⟩]
   have hJ:=hA;refine oO ?_;rw[hc,Bo hJ,Bo h3]at h1;have kq:=Mw r (2*i+2) i hJ h3;refine Af (Hj [1] (B0 Γ.toTy Aoj F408 E E E E E) kq (.cons (.row E E) (.cons (.refl _) (.cons (.refl _) .nil))) E E) E E ?_;refine oO ?_;constructor<;>intro h
   ·have hf:Ck r[2*i+2] r[i]=false:=by simpa using h
    rw[hf]at h1;have e:D=(r,i):=h1.symm;rw[e];refine oO ?_;exact done E (.cons .tmp .nil) [] [(0,.box [.osl 1]),(1,.row 3 B3 r)] (λ_ h=>h) E E kU
   have hf:Ck r[2*i+2] r[i]=true:=by simpa using h
   rw[hf,zG rfl]at h1;have ma:=Mv r i (2*i+2) h3 hJ;have e:(r.set i r[2*i+2]).set (2*i+2) r[i]=E7 r i (2*i+2):=by
    rw[E7,Bo h3,Bo hJ]
   rw[e]at ma;refine oO ?_;refine Af (Ap [(0,1)] (B0 Γ.toTy Aoi F411 E E E E E) ma E ⟨E,Y⟩ E ⟨.inl E,Y⟩) E E ?_;refine oO ?_;exact Xk (α:={p:List Item×Nat // Ez (n-p.2) p.1 p.2 n=D∧p.1.length=q.length∧p.2<p.1.length}) (L:=λp=>[(0,.ifc 327 (.ptr 0 0)),(1,Aa i0),(2,Aa n),(7,Aa p.1.2)]) (O:=λp=>[(0,.box [.osl 1]),(1,.row 3 B3 p.1.1)]) (μ:=λp=>n-p.1.2) (x:=⟨(r,i),mi,h2,h3⟩)
    ⟨(E7 r i (2*i+2),2*i+2),h1,by rw[Bg];exact h2,by rw[Bg];exact hJ⟩ [] (by simp only;omega)
    kU
  ·have hc:Ey r i n=2*i+1:=by rw[Ey,zD (λhh=>by rw[Bo hA,Bo hB,h]at hh;exact zY hh.2 y_)]
   have hJ:=hB;refine oO ?_;rw[hc,Bo hJ,Bo h3]at h1;have kq:=Mw r (2*i+1) i hJ h3;refine Af (Hj [1] (B0 Γ.toTy Aoj F408 E E E E E) kq (.cons (.row E E) (.cons (.refl _) (.cons (.refl _) .nil))) E E) E E ?_;refine oO ?_;constructor<;>intro h
   ·have hf:Ck r[2*i+1] r[i]=false:=by simpa using h
    rw[hf]at h1;have e:D=(r,i):=h1.symm;rw[e];refine oO ?_;exact done E (.cons .tmp .nil) [] [(0,.box [.osl 1]),(1,.row 3 B3 r)] (λ_ h=>h) E E kU
   have hf:Ck r[2*i+1] r[i]=true:=by simpa using h
   rw[hf,zG rfl]at h1;have ma:=Mv r i (2*i+1) h3 hJ;have e:(r.set i r[2*i+1]).set (2*i+1) r[i]=E7 r i (2*i+1):=by
    rw[E7,Bo h3,Bo hJ]
   rw[e]at ma;refine oO ?_;refine Af (Ap [(0,1)] (B0 Γ.toTy Aoi F411 E E E E E) ma E ⟨E,Y⟩ E ⟨.inl E,Y⟩) E E ?_;refine oO ?_;exact Xk (α:={p:List Item×Nat // Ez (n-p.2) p.1 p.2 n=D∧p.1.length=q.length∧p.2<p.1.length}) (L:=λp=>[(0,.ifc 327 (.ptr 0 0)),(1,Aa i0),(2,Aa n),(7,Aa p.1.2)]) (O:=λp=>[(0,.box [.osl 1]),(1,.row 3 B3 p.1.1)]) (μ:=λp=>n-p.1.2) (x:=⟨(r,i),mi,h2,h3⟩)
    ⟨(E7 r i (2*i+1),2*i+1),h1,by rw[Bg];exact h2,by rw[Bg];exact hJ⟩ [] (by simp only;omega)
    kU
 ·have h2n:¬2*i+2<n:=qB h;have hJ:2*i+1<r.length:=by omega
  have hc:Ey r i n=2*i+1:=by rw[Ey,zD (λhh=>h2n hh.1)]
  refine oF ?_;rw[hc,Bo hJ,Bo h3]at h1;have kq:=Mw r (2*i+1) i hJ h3;refine Af (Hj [1] (B0 Γ.toTy Aoj F408 E E E E E) kq (.cons (.row E E) (.cons (.refl _) (.cons (.refl _) .nil))) E E) E E ?_;refine oO ?_;constructor<;>intro h
  ·have hf:Ck r[2*i+1] r[i]=false:=by simpa using h
   rw[hf]at h1;have e:D=(r,i):=h1.symm;rw[e];refine oO ?_;exact done E (.cons .tmp .nil) [] [(0,.box [.osl 1]),(1,.row 3 B3 r)] (λ_ h=>h) E E kU
  have hf:Ck r[2*i+1] r[i]=true:=by simpa using h
  rw[hf,zG rfl]at h1;have ma:=Mv r i (2*i+1) h3 hJ;have e:(r.set i r[2*i+1]).set (2*i+1) r[i]=E7 r i (2*i+1):=by
   rw[E7,Bo h3,Bo hJ]
  rw[e]at ma;refine oO ?_;refine Af (Ap [(0,1)] (B0 Γ.toTy Aoi F411 E E E E E) ma E ⟨E,Y⟩ E ⟨.inl E,Y⟩) E E ?_;refine oO ?_;exact Xk (α:={p:List Item×Nat // Ez (n-p.2) p.1 p.2 n=D∧p.1.length=q.length∧p.2<p.1.length}) (L:=λp=>[(0,.ifc 327 (.ptr 0 0)),(1,Aa i0),(2,Aa n),(7,Aa p.1.2)]) (O:=λp=>[(0,.box [.osl 1]),(1,.row 3 B3 p.1.1)]) (μ:=λp=>n-p.1.2) (x:=⟨(r,i),mi,h2,h3⟩)
   ⟨(E7 r i (2*i+1),2*i+1),h1,by rw[Bg];exact h2,by rw[Bg];exact hJ⟩ [] (by simp only;omega)
   kU
def D9(q:List Item):List Item:=(Ez (q.length-1-0) (E7 q 0 (q.length-1)) 0 (q.length-1)).1
def Hi(q:List Item):(D9 q).length=q.length:=by rw[D9,Z2,Bg]
def E4{q:List Item}(h:q≠[]):D9 q≠[]:=λe=>h (zZ (by rw[←Hi,e];rfl))
def A26(q:List Item)(hq:q≠[])(hl:q.length<1000000):Sq 208 [.ifc 327 (.ptr 0 0)] [(0,.box [.osl 1]),(1,.row 3 B3 q)] (.ifc 332 (B3 ((D9 q).getLast (E4 hq)))) [(0,.box [.osl 2]),(1,.non),(2,.row 3 B3 (D9 q).dropLast)]:=cT F208 ntmps208 λF hF=>by
 have h0:0<q.length:=xN.2 hq;have hlen:=Aaz q;have ma:=Mv q 0 (q.length-1) h0 q_;have e:(q.set 0 q[q.length-1]).set (q.length-1) q[0]=E7 q 0 (q.length-1):=by
  rw[E7,Bo (show q.length-1<q.length by omega),Bo h0]
 rw[e]at ma;have vu:=downS (E7 q 0 (q.length-1)) 0 (q.length-1) (by rw[Bg];omega) (by rw[Bg];exact h0) (by rw[Bg];exact hl);have ug:=Axg (D9 q) (E4 hq) (by rw[Hi];exact hl);have s6:(q.length:Int)-1=((q.length-1:Nat):Int):=by omega
 conv=>whnf
 refine Af (Hj [1] (B0 Γ.toTy mLen F207 E E E E E) hlen (.cons (.row E E) .nil) E E) E E ?_;refine oO ?_;refine iL ?_;rw[s6]
 conv=>whnf
 refine Af (Ap [(0,1)] (B0 Γ.toTy Aoi F411 E E E E E) ma E ⟨E,Y⟩ E ⟨.inl E,Y⟩) E E ?_;refine oO ?_;refine Af (Ad [] E F281 vu E ⟨E,E,Y⟩ E ⟨.inl E,.inl E,Y⟩) E E ?_;refine oO ?_;refine Af (Ap (rd:=[]) [(2,14)] (Xh mPop F409 E E) ug E ⟨E,E,Y⟩ E ⟨.inl E,.inl E,.inr E,Y⟩) E E ?_;refine oO ?_;exact done E (.cons .tmp .nil) [(2,14)] [(0,.box [.osl 2]),(1,.non),(2,.row 3 B3 (D9 q).dropLast)] (λ_ h=>h) E E kU
set_option maxRecDepth 20000
def great1{n:Net}(h:n.ports.any (λp=>decide (100<p.tagged.length))=true):Js n=true:=by simp only[Js,h,Bool.or_true,vD]
def great2{n:Net}(h:n.domains.any (λp=>decide (100<p.peers.length))=true):Js n=true:=by simp only[Js,h,Bool.or_true,vD]
def great3{n:Net}(h:n.floods.any (λp=>decide (100<p.addrs.length))=true):Js n=true:=by simp only[Js,h,Bool.or_true,vD]
def great4{n:Net}(h:n.vrfs.any (λv=>decide (100<v.imports.length)||decide (100<v.exports.length))=true):Js n=true:=by simp only[Js,h,Bool.or_true]
def greatS(n:Net):Sp 13 [Am n] (Ab (Js n)):=cT F13 ntmps13 λF hF=>by
 conv=>whnf
 (repeat' (first|(refine⟨λh=>?_,λh=>?_⟩<;>(repeat (first|simp only[zJ]at h|simp only[zX]at h))<;>((refine oO ?_);repeat((refine aT ?_);(refine oO ?_))))|(refine At rfl (.cons .tmp .nil) ?_ rfl)))
 all_goals first
  |(refine zH Ab ?_;clear hF;grind [Js])
  |skip
 have l1:n.ports.length≤200:=by omega
 have l2:n.domains.length≤200:=by omega
 have l3:n.floods.length≤200:=by omega
 have l4:n.vrfs.length≤200:=by omega
 refine Bf 1 8 (Am n) E E E ?_;refine A9 n.ports.length (λj=>En (λ_ p=>!(decide (100<p.tagged.length))) n.ports j) (λj=>[(1,.ref 8 (Am n) 0),(3,Aa j)]) (λ_=>[]) [] (Bl _ _) kU ?_;intro j hj hI;refine oO ?_;constructor<;>intro h
 ·have cg:j<n.ports.length:=by simpa using h
  refine oO ?_
  (repeat' (first|(refine⟨λh=>?_,λh=>?_⟩<;>(repeat (first|simp only[zJ]at h|simp only[zX]at h))<;>((refine oO ?_)))|(refine At rfl (.cons .tmp .nil) ?_ rfl)|(refine⟨z_,?_⟩;((conv=>whnf)))|(refine⟨by (omega),by (omega),?_⟩;((conv=>whnf)))|(refine⟨by (unfold I64;omega),?_⟩;((conv=>whnf)))|refine A8 [] hI cg ?_ kU))
  all_goals (simp only[zU]at *)
  ·refine zH Ab ?_;exact great1 (Aae cg (by simp;omega))
  ·exact Bi hI cg (by simp;omega)
 have a1:n.ports.any (λp=>decide (100<p.tagged.length))=false:=Wc hI (by simpa using h);clear hI hj h;refine oO ?_;refine A9 n.domains.length (λj=>En (λ_ p=>!(decide (100<p.peers.length))) n.domains j) (λj=>[(1,.ref 8 (Am n) 0),(4,Aa j)]) (λ_=>[]) [] (Bl _ _) kU ?_;intro j hj hI;refine oO ?_;constructor<;>intro h
 ·have cg:j<n.domains.length:=by simpa using h
  refine oO ?_
  (repeat' (first|(refine⟨λh=>?_,λh=>?_⟩<;>(repeat (first|simp only[zJ]at h|simp only[zX]at h))<;>((refine oO ?_)))|(refine At rfl (.cons .tmp .nil) ?_ rfl)|(refine⟨z_,?_⟩;((conv=>whnf)))|(refine⟨by (omega),by (omega),?_⟩;((conv=>whnf)))|(refine⟨by (unfold I64;omega),?_⟩;((conv=>whnf)))|refine A8 [] hI cg ?_ kU))
  all_goals (simp only[zU]at *)
  ·refine zH Ab ?_;exact great2 (Aae cg (by simp;omega))
  ·exact Bi hI cg (by simp;omega)
 have a2:n.domains.any (λp=>decide (100<p.peers.length))=false:=Wc hI (by simpa using h);clear hI hj h;refine oO ?_;refine A9 n.floods.length (λj=>En (λ_ p=>!(decide (100<p.addrs.length))) n.floods j) (λj=>[(1,.ref 8 (Am n) 0),(5,Aa j)]) (λ_=>[]) [] (Bl _ _) kU ?_;intro j hj hI;refine oO ?_;constructor<;>intro h
 ·have cg:j<n.floods.length:=by simpa using h
  refine oO ?_
  (repeat' (first|(refine⟨λh=>?_,λh=>?_⟩<;>(repeat (first|simp only[zJ]at h|simp only[zX]at h))<;>((refine oO ?_)))|(refine At rfl (.cons .tmp .nil) ?_ rfl)|(refine⟨z_,?_⟩;((conv=>whnf)))|(refine⟨by (omega),by (omega),?_⟩;((conv=>whnf)))|(refine⟨by (unfold I64;omega),?_⟩;((conv=>whnf)))|refine A8 [] hI cg ?_ kU))
  all_goals (simp only[zU]at *)
  ·refine zH Ab ?_;exact great3 (Aae cg (by simp;omega))
  ·exact Bi hI cg (by simp;omega)
 have a3:n.floods.any (λp=>decide (100<p.addrs.length))=false:=Wc hI (by simpa using h);clear hI hj h;refine oO ?_;refine A9 n.vrfs.length (λj=>En (λ_ v=>!(decide (100<v.imports.length)||decide (100<v.exports.length))) n.vrfs j) (λj=>[(1,.ref 8 (Am n) 0),(6,Aa j)]) (λ_=>[]) [] (Bl _ _) kU ?_;intro j hj hI;refine oO ?_;constructor<;>intro h
 ·have cg:j<n.vrfs.length:=by simpa using h
  refine oO ?_
  (repeat' (first|(refine⟨λh=>?_,λh=>?_⟩<;>(repeat (first|simp only[zJ]at h|simp only[zX]at h))<;>((refine oO ?_);repeat((refine aT ?_);(refine oO ?_))))|(refine At rfl (.cons .tmp .nil) ?_ rfl)|(refine⟨z_,?_⟩;((conv=>whnf)))|(refine⟨by (omega),by (omega),?_⟩;((conv=>whnf)))|(refine⟨by (unfold I64;omega),?_⟩;((conv=>whnf)))|refine A8 [] hI cg ?_ kU))
  all_goals (simp only[zU]at *)
  all_goals first
   |exact Bi hI cg (by simp;omega)
   |(refine zH Ab ?_;exact great4 (Aae cg (by simp;omega)))
 have a4:n.vrfs.any (λv=>decide (100<v.imports.length)||decide (100<v.exports.length))=false:=Wc hI (by simpa using h);clear hI hj h;refine oO ?_;refine At E (.cons .tmp .nil) (zH Ab ?_) E;rw[Js,a1,a2,a3,a4];simp;omega
def noNet:Net:=⟨[],[],[],[],[],[],[],[]⟩
def Ais:noNet.Fin:=Alm (by decide +kernel)
def Ew:Vec→List Vec→Vec
 |v,[]=>v
 |v,x::l=>Ew (if Ai0 x v then x else v) l
def zeroV:Vec:=⟨0,0,0,0,0⟩
def S3:List Vec→Vec×Bool
 |[]=>(zeroV,false)
 |v::l=>(Ew v (v::l),true)
def Afm:∀(v:Vec) (l:List Vec),Ew v l=v∨Ew v l∈l
 |v,[]=>.inl rfl
 |v,x::l=>by
  rw[Ew];rcases Afm (if Ai0 x v then x else v) l with h|h
  ·rw[h];split
   ·exact .inr y_
   ·exact .inl E
  ·exact .inr (by simp[h])
def Aow(v:Vec)(l:List Vec)(j:Nat)(h:j<l.length):Ew v (l.take (j+1))=(if Ai0 l[j] (Ew v (l.take j)) then l[j] else Ew v (l.take j)):=by
 have key:∀(a b:List Vec) (v:Vec),Ew v (a++b)=Ew (Ew v a) b:=by
  intro a
  induction a with
  |nil=>intro b v;rfl
  |cons x a ih=>intro b v;rw[xS,Ew,Ew,ih]
 rw[yD h,key];rfl
def leastS(l:List Vec)(hl:An l):Sp 209 [.sl 5 T5 l] (.tup [T5 (S3 l).1,Ab (S3 l).2]):=cT F209 ntmps209 λF hF=>by
 unfold An at hl;have hR:∀h:0<l.length,S3 l=(Ew l[0] l,true):=λh=>by
  cases l with
  |nil=>simp at h
  |cons v t=>rfl
 conv=>whnf
 constructor<;>intro h
 ·have:l=[]:=zZ (by have:(l.length:Int)=0:=(by simpa using h);omega);subst this;refine oO ?_;exact done E (.cons (.cell E E E E) (.cons .tmp .nil)) [] [] (λ_ h=>h) E E kU
 have h0:0<l.length:=by
  have:¬(l.length:Int)=0:=by simpa using h
  omega
 rw[hR h0];refine oO ?_;refine⟨E,by decide,h0,?_⟩
 conv=>whnf
 have e0:l[(0:Int).toNat]'(h0)=l[0]:=rfl;generalize hv:l[0]=v at *;refine A5 l.length (λj=>[(0,.sl 5 T5 l),(2,.ptr 2 0),(4,.ptr 4 0),(14,.sl 5 T5 l),(15,Aa l.length),(16,Aa j)]) (λj=>[(2,.box [Aa 0,Aa 0,Aa 0,Aa 0,Aa 0]),(4,.box [Aa (Ew v (l.take j)).root,Aa (Ew v (l.take j)).cost,Aa (Ew v (l.take j)).bridge,Aa (Ew v (l.take j)).port,Aa (Ew v (l.take j)).own])]) []
  ⟨⟨rfl,rfl,rfl,rfl,rfl,rfl,rfl,rfl,rfl,rfl,rfl,rfl,trivial⟩,⟨.inl rfl,rfl,.inl (by subst hv;rfl),rfl,trivial⟩,rfl,rfl⟩ ?_
 intro j hj;refine oO ?_;constructor<;>intro h
 ·have ab:j<l.length:=by simpa using h
  have fp:=Aow v l j ab;generalize hx:l[j]=x at fp;have p6:l[(j:Int).toNat]'q_=x:=hx;generalize wu:Ew v (l.take j)=m at fp;refine oO ?_;refine⟨E,by omega,by omega,?_⟩;rw[p6]
  conv=>whnf
  refine c0 (lessS x m) F282 ?_;refine oO ?_;constructor<;>intro h2
  ·rw[h2,zG rfl]at fp;refine gF ?_;exact Ay [] ab ⟨⟨E,E,E,E,E,E,E,E,E,E,E,E,Y⟩,⟨.inl E,E,.inl (by rw[fp];rfl),E,Y⟩,E,E⟩
  ·rw[h2]at fp;refine gF ?_;exact Ay [] ab ⟨⟨E,E,E,E,E,E,E,E,E,E,E,E,Y⟩,⟨.inl E,E,.inl (by rw[fp];rfl),E,Y⟩,E,E⟩
 ·have cg:¬j<l.length:=by simpa using h
  rw[xK q_];refine oO ?_;exact done E (.cons (.cell E E E E) (.cons .tmp .nil)) [] [] (λ_ h=>h) E E kU
def leastR_mem{l:List Vec}(h:(S3 l).2=true):(S3 l).1∈l:=by
 cases l with
 |nil=>cases h
 |cons v t=>
  rcases Afm v (v::t) with h|h
  ·show Ew v (v::t)∈v::t;rw[h];simp
  ·exact h
def Ab9(n:Net):∀x∈Ha n,0≤x∧x<n.devices.length:=λx hx=>by
 rw[Ank,Qp]at hx;obtain ⟨i,hi,rfl⟩:=yS.1 hx;have hi:=xA.1 hi;have h1:=List.countP_le_length (p:=λk=>Do n (k:Nat) i) (l:=List.range n.devices.length);rw[tU]at h1;have h2:(List.range n.devices.length).countP (λk=>Do n (k:Nat) i)≠n.devices.length:=λe=>by
  have:=List.countP_eq_length.1 (e.trans List.length_range.symm) i (xA.2 hi);rw[Tk]at this;cases this
 omega
def O9(n:Net):(Ha n).length=n.devices.length:=by rw[Ank,Qp];simp
set_option maxRecDepth 100000
def Wr(n:Net)(up:List Bool)(ranks:List Int)(x y:SV):List SV:=[.sl 5 Ax n.devices,.sl 7 A4 n.ports,.sl 3 Bz n.links,.sl 6 As n.domains,.sl 4 A0 n.statics,.sl 4 Ba n.floods,.sl 5 Ca n.vrfs,.sl 5 B4 n.irbs,.sl 1 Ab up,.sl 1 Aa ranks,x,y]
def Er(n:Net)(up:List Bool)(i:Nat):Int :=
 let p:=n.ports.getD i default
 if p.link<0||!(up.getD p.link.toNat false) then -1 else (nth n.links p.link).a+(nth n.links p.link).b-i
def farS(n:Net)(up:List Bool)(ranks:List Int)(x y:SV)(_hx:(x.boxed&&x.data&&y.boxed&&y.data&&Nat.beq (cellsOf x).length 1&&Nat.beq (cellsOf y).length 1)=true)(i:Nat)(hr:Ac n=true)(hu:up.length=n.links.length)(hi:i<n.ports.length):Sp 142 [.ref 12 (.agg (Wr n up ranks x y)) 0,Aa i] (Aa (Er n up i)):=cT F142 ntmps142 λF hF=>by
 have bh:=V0 hr hi;have hf:=H7 hr;have e1:n.ports[(i:Int).toNat]'q_=n.ports[i]:=rfl;have bq:Er n up i=if n.ports[i].link<0||!(up.getD n.ports[i].link.toNat false) then -1 else (nth n.links n.ports[i].link).a+(nth n.links n.ports[i].link).b-i:=by
  rw[Er,Bo hi]
 generalize hp:n.ports[i]=p at *;have hle:=λh=>Qw hr (i:=p.link.toNat) h
 conv=>whnf
 refine⟨E,by omega,by omega,?_⟩;rw[e1]
 conv=>whnf
 (repeat' (first|(refine⟨λh=>?_,λh=>?_⟩<;>(repeat (first|simp only[zJ]at h|simp only[zX]at h|simp only[yU]at h|simp only[wB]at h))<;>((first|refine rg ?_|refine rd z_ ?_);(conv=>whnf)))|(refine At rfl (.cons .tmp .nil) ?_ rfl)|(refine⟨z_,?_⟩;((conv=>whnf);repeat((refine aT ?_);(refine oO ?_))))|(refine⟨by (first|omega|((have hq:=hle q_;unfold I64;omega))),by (first|omega|((have hq:=hle q_;unfold I64;omega))),?_⟩;((conv=>whnf)))))
 all_goals (refine zH Aa ?_;rw[bq])
 ·simp_all
 ·have h1:up.getD p.link.toNat false=false:=by rw[Bo q_];assumption
  rw[h1];simp
 ·have h1:up.getD p.link.toNat false=true:=by rw[Bo q_];assumption
  rw[h1,Ai q_]
  simp_all
def T9(n:Net)(up:List Bool)(ranks roots costs:List Int):SV:=.ref 12 (.agg (Wr n up ranks (.sl 1 Aa roots) (.sl 1 Aa costs))) 0
def Ql(n:Net)(ranks costs:List Int)(i k:Nat):Bool :=
 let a:=(n.ports.getD i default).dev
 let b:=(n.ports.getD k default).dev
 decide (nth costs a<nth costs b)||(nth costs a==nth costs b&&decide (nth ranks a<nth ranks b))
def Arr(n:Net)(up:List Bool)(ranks roots costs:List Int)(i k:Nat)(hr:Ac n=true)(nf:ranks.length=n.devices.length)(hc:costs.length=n.devices.length)(hi:i<n.ports.length)(hk:k<n.ports.length):Sp 143 [T9 n up ranks roots costs,Aa i,Aa k] (Ab (Ql n ranks costs i k)):=cT F143 ntmps143 λF hF=>by
 have ph:=Ur hr hi;have jc:=Ur hr hk;have e1:n.ports[(i:Int).toNat]'q_=n.ports[i]:=rfl;have e2:n.ports[(k:Int).toNat]'q_=n.ports[k]:=rfl;have aa:Ql n ranks costs i k=(decide (nth costs n.ports[i].dev<nth costs n.ports[k].dev)||(nth costs n.ports[i].dev==nth costs n.ports[k].dev&&decide (nth ranks n.ports[i].dev<nth ranks n.ports[k].dev))):=by
  rw[Ql,Bo hi,Bo hk]
 rw[Ai q_,Ai q_,Ai q_,Ai q_]at aa
 conv=>whnf
 (repeat' (first|(refine⟨λh=>?_,λh=>?_⟩<;>(repeat (first|simp only[zJ]at h|simp only[zX]at h|simp only[yJ]at h|simp only[zR]at h))<;>((refine rd z_ ?_);(conv=>whnf)))|(refine At rfl (.cons .tmp .nil) ?_ rfl)|(refine⟨z_,?_⟩;((conv=>whnf)))|(refine⟨by (first|omega|(simp only[zU];omega)),by (first|omega|(simp only[zU];omega)),?_⟩;((conv=>whnf)))))
 all_goals (refine zH Ab ?_;rw[aa];clear hF aa hr;simp only[zU]at *;grind)
def Agb{n:Net}{up:List Bool}(h:Ac n=true){i:Nat}(hi:i<n.ports.length)(hf:0≤Er n up i):Er n up i<n.ports.length:=by
 have hp:=Sm h hi;have bh:=V0 h hi;simp only[Jd,zE,yM,yJ]at hp;have hp:=hp.2;unfold Er at *;rw[Bo hi]at *;simp only at *;split at hf
 ·omega
 ·rename_i hc;rw[zD hc];simp only[yM,zJ,uC]at hc;rcases hp with hp|hp
  ·omega
  ·have hl:n.ports[i].link.toNat<n.links.length:=by omega
   have he:=Qw h hl;rw[Ai hl]at *;omega
def Agt(n:Net)(up:List Bool)(ranks roots costs:List Int)(dev:Int)(i:Nat):Option Vec :=
 let p:=n.ports.getD i default
 let far:=Er n up i
 let pi:=(nth n.ports far).dev
 if p.dev==dev&&decide (0≤far) then some ⟨nth roots pi,nth costs pi+p.cost,nth ranks pi,far,i⟩ else none
def Q7(n:Net)(up:List Bool)(ranks roots costs:List Int)(dev:Int)(j:Nat):List Vec:=(List.range j).filterMap (Agt n up ranks roots costs dev)
def Aug(n:Net)(up:List Bool)(ranks roots costs:List Int)(dev:Int)(j:Nat):Q7 n up ranks roots costs dev (j+1)=Q7 n up ranks roots costs dev j++(Agt n up ranks roots costs dev j).toList:=by
 rw[Q7,wV,List.filterMap_append];cases h:Agt n up ranks roots costs dev j<;>simp[Q7,h]
def Aab(n:Net)(up:List Bool)(ranks roots costs:List Int)(dev:Int)(j:Nat):(Q7 n up ranks roots costs dev j).length≤j:=by
 have:=tB (Agt n up ranks roots costs dev) (List.range j);simpa [Q7] using this
def Xi(n:Net)(up:List Bool)(ranks roots costs:List Int)(dev:Int):Int :=
 let r:=S3 (Q7 n up ranks roots costs dev n.ports.length)
 if !r.2||nth roots dev==nth ranks dev then -1 else r.1.own
def bestS(n:Net)(up:List Bool)(ranks roots costs:List Int)(dev:Int)(hr:Ac n=true)(hu:up.length=n.links.length)(aj:Dk n=true)(nf:ranks.length=n.devices.length)(gm:roots.length=n.devices.length)(hc:costs.length=n.devices.length)(hb:∀c∈costs,0≤c∧c<1000000000)(hd:0≤dev∧dev<n.devices.length):Sp 144 [T9 n up ranks roots costs,Aa dev] (Aa (Xi n up ranks roots costs dev)):=cT F144 ntmps144 λF hF=>by
 have hf:=H7 hr
 conv=>whnf
 refine B7 5 1000 5 T5 E E ?_;refine A5 n.ports.length (λj=>[(0,T9 n up ranks roots costs),(1,Aa dev),(5,.osl 1000),(16,.sl 7 A4 n.ports),(17,Aa n.ports.length),(18,Aa j)]) (λj=>[(1000,.row 5 T5 (Q7 n up ranks roots costs dev j))]) []
  kU ?_
 intro j hj;refine oO ?_;constructor<;>intro h
 ·have ab:j<n.ports.length:=by simpa using h
  have e1:n.ports[(j:Int).toNat]'q_=n.ports[j]:=rfl;have bq:=farS n up ranks (.sl 1 Aa roots) (.sl 1 Aa costs) rfl j hr hu ab;have il:=Agb (up:=up) hr ab;have af:=Aug n up ranks roots costs dev j;have km:=Aab n up ranks roots costs dev j;have eu:Agt n up ranks roots costs dev j=if n.ports[j].dev==dev&&decide (0≤Er n up j) then some ⟨nth roots (nth n.ports (Er n up j)).dev,nth costs (nth n.ports (Er n up j)).dev+n.ports[j].cost,nth ranks (nth n.ports (Er n up j)).dev,Er n up j,j⟩ else none:=by
   rw[Agt,Bo ab]
  generalize Er n up j=k at *;have zd:1≤n.ports[j].cost∧n.ports[j].cost≤65535:=by
   simp only[Dk,yU,wM]at aj;have:=aj _ (zI ab);simp only[I2,yM,zJ,uC]at this;omega
  obtain ⟨p,hp⟩:∃p,n.ports[j]=p:=⟨_,rfl⟩
  rw[hp]at e1 eu zd;refine oO ?_;refine⟨E,by omega,by omega,?_⟩;rw[e1]
  conv=>whnf
  refine c0 bq F142 ?_;refine oO ?_;constructor<;>intro h
  ·refine oO ?_;constructor<;>intro h2
   ·have cm:0≤k:=zK h2;have fg:=il cm;rw[zG (by simp only[zE,zJ];exact⟨h,cm⟩),Ai (l:=n.ports) (i:=k) q_]at eu;have sf:=Ur hr (i:=k.toNat) q_;obtain ⟨q,hq⟩:∃q,n.ports[k.toNat]'q_=q:=⟨_,rfl⟩
    rw[hq]at eu sf;have od:=hb (costs[q.dev.toNat]'q_) (zI _);rw[Ai (l:=roots) (i:=q.dev) q_,Ai (l:=costs) (i:=q.dev) q_,Ai (l:=ranks) (i:=q.dev) q_]at eu;refine oO ?_;refine⟨E,cm,by omega,?_⟩;rw[hq]
    conv=>whnf
    refine⟨z_,?_⟩;refine⟨by omega,by omega,?_⟩
    conv=>whnf
    refine⟨z_,?_⟩;refine⟨by omega,by omega,?_⟩
    conv=>whnf
    refine iW ?_;refine⟨z_,?_⟩;refine⟨by omega,by omega,?_⟩
    conv=>whnf
    refine Bw (Ag Γ.toTy 72 E E E E E (.row E) (.lit (l:=[(⟨roots[q.dev.toNat]'q_,costs[q.dev.toNat]'q_+p.cost,ranks[q.dev.toNat]'q_,k,j⟩:Vec)]) E E) y_ (by simp;omega) (by simp;omega)) z_ E ?_;refine gH ?_;refine iW ?_;refine Ay [(1000,72)] ab ⟨⟨E,E,E,E,E,E,E,E,E,E,E,E,Y⟩,⟨.inl (zH (Ob.row 5 T5) ?_),E,Y⟩,E,E⟩;rw[af,eu];rfl
   ·have cm:¬0≤k:=zQ h2;rw[zD (by simp only[zE,zJ];exact λhh=>cm hh.2)]at eu;refine gF ?_;refine Ay [] ab ⟨⟨E,E,E,E,E,E,E,E,E,E,E,E,Y⟩,⟨.inl (zH (Ob.row 5 T5) ?_),E,Y⟩,E,E⟩;rw[af,eu];simp
  ·rw[zD (by rw[h];simp)]at eu;refine oF ?_;refine iW ?_;refine Ay [] ab ⟨⟨E,E,E,E,E,E,E,E,E,E,E,E,Y⟩,⟨.inl (zH (Ob.row 5 T5) ?_),E,Y⟩,E,E⟩;rw[af,eu];simp
 ·have cg:j=n.ports.length:=by
   have:¬j<n.ports.length:=by simpa using h
   omega
  subst cg;have km:=Aab n up ranks roots costs dev n.ports.length;have qy:Xi n up ranks roots costs dev=if !(S3 (Q7 n up ranks roots costs dev n.ports.length)).2||nth roots dev==nth ranks dev then -1 else (S3 (Q7 n up ranks roots costs dev n.ports.length)).1.own:=rfl
  rw[Ai q_,Ai q_]at qy;have kq:=leastS (Q7 n up ranks roots costs dev n.ports.length) (by unfold An;omega);generalize S3 (Q7 n up ranks roots costs dev n.ports.length)=r at kq qy;obtain ⟨v,ok⟩:=r;simp only at kq qy;rw[qy];refine oO ?_;refine Aj 1000 E ?_;refine c0 kq F209 ?_;refine oO ?_
  (repeat' (first|(refine⟨λh=>?_,λh=>?_⟩<;>(repeat (first|simp only[yJ]at h|simp only[zR]at h|simp only[yU]at h|simp only[wB]at h))<;>((first|refine rg ?_|refine rd z_ ?_);(conv=>whnf)))|(refine At rfl (.cons .tmp .nil) ?_ rfl)|(refine⟨z_,?_⟩;((conv=>whnf);repeat((refine aT ?_);(refine oO ?_))))|(refine⟨by (omega),by (omega),?_⟩;((conv=>whnf)))))
  all_goals (refine zH Aa ?_;clear hF kq qy;grind)
def best_lt{n:Net}{up:List Bool}{ranks roots costs:List Int}{dev:Int}(h:0≤Xi n up ranks roots costs dev):Xi n up ranks roots costs dev<n.ports.length:=by
 have gx:=@leastR_mem (Q7 n up ranks roots costs dev n.ports.length);unfold Xi at *;simp only at *;split at h
 ·omega
 ·rename_i hc;rw[zD hc];simp only[yM,yU,uC]at hc;have h2:=gx (by simpa using hc.1);obtain ⟨i,hi,he⟩:=vE.1 h2;have hi:=xA.1 hi;unfold Agt at he;simp only at he;split at he
  ·have e:=zH Vec.own (Option.some.inj he);simp only at e;omega
  ·cases he
def Au2(n:Net)(up:List Bool)(ranks costs:List Int)(i:Nat):Int :=
 if Er n up i<0 then 0 else if Ql n ranks costs i (Er n up i).toNat then 2 else 3
def Kz(n:Net)(up:List Bool)(ranks costs:List Int)(j:Nat):List Int:=(List.range n.ports.length).map λi=>if i<j then Au2 n up ranks costs i else 0
def Wt(n:Net)(up:List Bool)(ranks costs:List Int)(j:Nat):(Kz n up ranks costs j).length=n.ports.length:=by simp[Kz]
def Am9(n:Net)(up:List Bool)(ranks costs:List Int):Kz n up ranks costs 0=List.replicate n.ports.length 0:=by
 rw[Kz];exact tH y_ y_
def Ana(n:Net)(up:List Bool)(ranks costs:List Int)(j:Nat)(hj:j<n.ports.length):Kz n up ranks costs (j+1)=(Kz n up ranks costs j).set j (Au2 n up ranks costs j):=by
 refine tH (by simp[Kz]) (λi h1 h2=>?_);rw[vQ];simp only[Kz,List.getElem_map,List.getElem_range];rcases Nat.lt_trichotomy i j with h|h|h
 ·rw[zG q_,zD q_,zG h]
 ·subst h;rw[zG q_,zG rfl]
 ·rw[zD q_,zD q_,zD q_]
def Anb(n:Net)(up:List Bool)(ranks costs:List Int)(j:Nat)(h:Au2 n up ranks costs j=0):Kz n up ranks costs (j+1)=Kz n up ranks costs j:=by
 simp only[Kz];refine tF (λi _=>?_);by_cases br:i<j
 ·rw[zG q_,zG br]
 ·by_cases he:i=j
  ·subst he;rw[zG q_,zD br,h]
  ·rw[zD q_,zD br]
def O6(n:Net)(up:List Bool)(ranks roots costs:List Int):Nat→List Int
 |0=>Kz n up ranks costs n.ports.length
 |d+1=>if 0≤Xi n up ranks roots costs d then (O6 n up ranks roots costs d).set (Xi n up ranks roots costs d).toNat 1 else O6 n up ranks roots costs d
def Le(n:Net)(up:List Bool)(ranks roots costs:List Int):∀d,(O6 n up ranks roots costs d).length=n.ports.length
 |0=>Wt n up ranks costs _
 |d+1=>by
  rw[O6];split
  ·rw[yR,Le]
  ·rw[Le]
def rolesS(n:Net)(up:List Bool)(ranks roots costs:List Int)(hr:Ac n=true)(hu:up.length=n.links.length)(aj:Dk n=true)(nf:ranks.length=n.devices.length)(gm:roots.length=n.devices.length)(hc:costs.length=n.devices.length)(hb:∀c∈costs,0≤c∧c<1000000000):Sp 82 [T9 n up ranks roots costs] (.sl 1 Aa (O6 n up ranks roots costs n.devices.length)):=cT F82 ntmps82 λF hF=>by
 have hf:=H7 hr
 conv=>whnf
 refine Af (Ce Γ.toTy (d:=14) (n:=n.ports.length) Aa 0 E E E E E E E E q_ q_ E E E) E E ?_;rw[←Am9 n up ranks costs];refine oO ?_;refine A5 n.ports.length (λj=>[(0,T9 n up ranks roots costs),(3,.osl 14),(20,Aa n.ports.length),(21,Aa j)]) (λj=>[(14,.row 1 Aa (Kz n up ranks costs j))]) []
  kU ?_
 intro j hj;refine oO ?_;constructor<;>intro h
 ·have ab:j<n.ports.length:=by simpa using h
  have bq:=farS n up ranks (.sl 1 Aa roots) (.sl 1 Aa costs) rfl j hr hu ab;have il:=Agb (up:=up) hr ab;have hlen:=Wt n up ranks costs j;have ew:Au2 n up ranks costs j=if Er n up j<0 then 0 else if Ql n ranks costs j (Er n up j).toNat then 2 else 3:=rfl
  have af:=Ana n up ranks costs j ab;have j8:=Anb n up ranks costs j;generalize Er n up j=k at *;refine oO ?_;refine c0 bq F142 ?_;refine oO ?_;constructor<;>intro h
  ·have hk:k<0:=zK h;rw[zG hk]at ew;refine gF ?_;exact Ay [] ab ⟨⟨E,E,E,E,E,E,E,E,Y⟩,⟨.inl (zH (Ob.row 1 Aa) (j8 ew)),E,Y⟩,E,E⟩
  have hk:¬k<0:=zQ h;rw[zD hk]at ew;obtain ⟨m,rfl⟩:∃m:Nat,k=m:=⟨k.toNat,by omega⟩
  have hah:=Arr n up ranks roots costs j m hr nf hc ab q_;rw[zU]at ew;refine oO ?_;refine c0 hah F143 ?_;refine oO ?_;constructor<;>intro h
  ·rw[h,zG rfl]at ew;rw[ew]at af;refine oO ?_;refine⟨by omega,by omega,?_⟩
   conv=>whnf
   refine⟨E,by omega,2,E,E,?_⟩
   conv=>whnf
   refine iW ?_;exact Ay [] ab ⟨⟨E,E,E,E,E,E,E,E,Y⟩,⟨.inl (zH (Ob.row 1 Aa) af),E,Y⟩,E,E⟩
  ·rw[h]at ew;simp only[Bool.false_eq_true,if_false]at ew;rw[ew]at af;refine oO ?_;refine⟨by omega,by omega,?_⟩
   conv=>whnf
   refine⟨E,by omega,3,E,E,?_⟩
   conv=>whnf
   refine iW ?_;exact Ay [] ab ⟨⟨E,E,E,E,E,E,E,E,Y⟩,⟨.inl (zH (Ob.row 1 Aa) af),E,Y⟩,E,E⟩
 have cg:j=n.ports.length:=by
  have:¬j<n.ports.length:=by simpa using h
  omega
 subst cg;refine oO ?_;refine A5 n.devices.length (λd=>[(0,T9 n up ranks roots costs),(3,.osl 14),(47,Aa n.devices.length),(48,Aa d)]) (λd=>[(14,.row 1 Aa (O6 n up ranks roots costs d))]) []
  kU ?_
 clear hj h;intro d hdle;refine oO ?_;constructor<;>intro h
 ·have ab:d<n.devices.length:=by simpa using h
  have hbs:=bestS n up ranks roots costs d hr hu aj nf gm hc hb q_;have km:=@best_lt n up ranks roots costs d;have hlen:=Le n up ranks roots costs d;have af:O6 n up ranks roots costs (d+1)=if 0≤Xi n up ranks roots costs d then (O6 n up ranks roots costs d).set (Xi n up ranks roots costs d).toNat 1 else O6 n up ranks roots costs d:=rfl
  generalize Xi n up ranks roots costs d=k at *;refine oO ?_;refine c0 hbs F144 ?_;refine oO ?_;constructor<;>intro h
  ·have hk:0≤k:=zK h;rw[zG hk]at af;refine oO ?_;refine⟨hk,by omega,?_⟩
   conv=>whnf
   refine⟨E,by omega,1,E,E,?_⟩
   conv=>whnf
   refine iW ?_;exact Ay [] ab ⟨⟨E,E,E,E,E,E,E,E,Y⟩,⟨.inl (zH (Ob.row 1 Aa) af),E,Y⟩,E,E⟩
  ·have hk:¬0≤k:=zQ h;rw[zD hk]at af;refine gF ?_;exact Ay [] ab ⟨⟨E,E,E,E,E,E,E,E,Y⟩,⟨.inl (zH (Ob.row 1 Aa) af),E,Y⟩,E,E⟩
 have ga:d=n.devices.length:=by
  have:¬d<n.devices.length:=by simpa using h
  omega
 subst ga;refine oO ?_;refine Aj 14 E ?_;exact dN
def Aii(n:Net)(up:List Bool)(ranks:List Int)(roots costs:List Int):Obs:=[(0,.box (Wr n up ranks (.osl 1) (.osl 2))),(1,.row 1 Aa roots),(2,.row 1 Aa costs)]
def farR(n:Net)(up:List Bool)(ranks roots costs:List Int)(i:Nat)(hr:Ac n=true)(hu:up.length=n.links.length)(hi:i<n.ports.length):Sq 142 [.ptr 0 0,Aa i] (Aii n up ranks roots costs) (Aa (Er n up i)) (Aii n up ranks roots costs):=cT F142 ntmps142 λF hF=>by
 have bh:=V0 hr hi;have hf:=H7 hr;have e1:n.ports[(i:Int).toNat]'q_=n.ports[i]:=rfl;have bq:Er n up i=if n.ports[i].link<0||!(up.getD n.ports[i].link.toNat false) then -1 else (nth n.links n.ports[i].link).a+(nth n.links n.ports[i].link).b-i:=by
  rw[Er,Bo hi]
 generalize hp:n.ports[i]=p at *;have hle:=λh=>Qw hr (i:=p.link.toNat) h
 conv=>whnf
 refine⟨E,by omega,by omega,?_⟩;rw[e1]
 conv=>whnf
 (repeat' (first|(refine⟨λh=>?_,λh=>?_⟩<;>(repeat (first|simp only[zJ]at h|simp only[zX]at h|simp only[yU]at h|simp only[wB]at h))<;>((first|refine rg ?_|refine rd z_ ?_);(conv=>whnf)))|(refine⟨z_,?_⟩;((conv=>whnf);repeat((refine aT ?_);(refine oO ?_))))|(refine⟨by (first|omega|((have hq:=hle q_;unfold I64;omega))),by (first|omega|((have hq:=hle q_;unfold I64;omega))),?_⟩;((conv=>whnf)))|refine done rfl (.cons .tmp .nil) [] (Aii n up ranks roots costs) (λ_ h=>h) ?_ rfl kU))
 all_goals (refine zH Aa ?_;rw[bq])
 ·simp_all
 ·have h1:up.getD p.link.toNat false=false:=by rw[Bo q_];assumption
  rw[h1];simp
 ·have h1:up.getD p.link.toNat false=true:=by rw[Bo q_];assumption
  rw[h1,Ai q_]
  simp_all
def Ei(n:Net)(up:List Bool)(x:Item)(q:List Item)(i:Nat):List Item :=
 if (n.ports.getD i default).dev=x.dev∧0≤Er n up i then Ww q ⟨x.root,x.cost+(nth n.ports (Er n up i)).cost,(nth n.ports (Er n up i)).dev⟩ else q
def Sn(n:Net)(up:List Bool)(s:List Item×List Int×List Int):List Item×List Int×List Int :=
 let x:=(D9 s.1).getLast?.getD default
 let q:=(D9 s.1).dropLast
 if 0≤nth s.2.1 x.dev then (q,s.2) else ((List.range n.ports.length).foldl (Ei n up x) q,s.2.1.set x.dev.toNat x.root,s.2.2.set x.dev.toNat x.cost)
def I6(n:Net)(up:List Bool):Nat→List Item×List Int×List Int→List Item×List Int×List Int
 |0,s=>s
 |f+1,s=>if s.1=[] then s else I6 n up f (Sn n up s)
end Go.Sy.YticmobkdaneelaaGreatDoor
namespace Go.Sy.YticmobkdaneelaaGreatDoor
def Xr(q:List Item)(i j:Nat)(hi:i<q.length)(hj:j<q.length):(E7 q i j).Perm q:=by
 rw[E7,Bo hi,Bo hj];exact List.set_set_perm hi hj
def Amm:∀(f:Nat) (q:List Item) (j:Nat),j<q.length→(upF f q j).Perm q
 |0,_,_,_=>.refl _
 |f+1,q,j,hj=>by
  rw[upF];split
  ·exact .refl _
  ·split
   ·exact(Amm f _ _ (by rw[Bg];omega)).trans (Xr q _ _ q_ hj)
   ·exact .refl _
def Agi:∀(f:Nat) (q:List Item) (i n:Nat),i<q.length→n≤q.length→(Ez f q i n).1.Perm q
 |0,_,_,_,_,_=>.refl _
 |f+1,q,i,n,hi,hn=>by
  rw[Ez];split
  ·rename_i h;have hc:=Q6 q i n h;split
   ·exact(Agi f _ _ n (by rw[Bg];omega) (by rw[Bg];exact hn)).trans (Xr q _ _ hi q_)
   ·exact .refl _
  ·exact .refl _
def Sr(q:List Item)(x:Item):(Ww q x).Perm (x::q) :=
 (Amm _ _ _ y_).trans (List.perm_append_comm (l₁:=q) (l₂:=[x]))
def Mg(q:List Item)(x:Item):(Ww q x).length=q.length+1:=by rw[Ww,Aec];simp
def V1(q:List Item)(hq:q≠[]):(D9 q).Perm q:=by
 have h0:0<q.length:=xN.2 hq;exact(Agi _ _ _ _ (by rw[Bg];exact h0) (by rw[Bg];omega)).trans (Xr q _ _ h0 q_)
def Of(q:List Item)(n:Nat):Prop:=∀c,0<c→c<n→c<q.length→Ck (q.getD c default) (q.getD ((c-1)/2) default)=false
def S7{x y z:Item}(h1:Ck y x=false)(h2:Ck z y=false):Ck z x=false:=by
 unfold Ck at *
 grind
def Atl{q:List Item}{n:Nat}(h:Of q n)(hn:n≤q.length):∀c,c<n→Ck (q.getD c default) (q.getD 0 default)=false:=by
 intro c
 induction c using Nat.strongRecOn with
 |ind c ih=>
  intro hc;rcases uB c with h0|h0
  ·subst h0;unfold Ck;grind
  ·have h1:=h c h0 hc q_;have h2:=ih ((c-1)/2) q_ q_;exact S7 h2 h1
def Hw(q:List Item)(i j c:Nat)(hi:i<q.length)(hj:j<q.length):(E7 q i j).getD c default=if c=j then q.getD i default else if c=i then q.getD j default else q.getD c default:=by
 rw[E7];simp only[wH,tV,yR];by_cases h1:c=j
 ·subst h1;simp[hj]
 ·rw[zD (Ne.symm h1),zD h1];by_cases h2:c=i
  ·subst h2;simp[hi]
  ·rw[zD (Ne.symm h2),zD h2]
def S8{x y:Item}(h:Ck x y=true):Ck y x=false:=by
 unfold Ck at *
 grind
structure UpInv(q:List Item)(j n:Nat):Prop where
 heap:∀c,0<c→c<n→c≠j→Ck (q.getD c default) (q.getD ((c-1)/2) default)=false
 over:∀c,0<c→c<n→(c-1)/2=j→0<j→Ck (q.getD c default) (q.getD ((j-1)/2) default)=false
def Amn(n:Nat):∀(f:Nat) (q:List Item) (j:Nat),j≤f→j<n→n≤q.length→UpInv q j n→Of (upF f q j) n
 |0,q,j,hf,hj,hn,hI=>by
  have:j=0:=by omega
  subst this;exact λc h0 hc _=>hI.heap c h0 hc q_
 |f+1,q,j,hf,hj,hn,hI=>by
  rw[upF];split
  ·rename_i h0;subst h0;exact λc h0 hc _=>hI.heap c h0 hc q_
  ·rename_i h0;split
   ·rename_i ab;have hp:(j-1)/2<j:=by omega
    refine Amn n f _ _ q_ q_ (by rw[Bg];exact hn) ⟨λc d6 gi tc=>?_,λc d6 gi jz gr=>?_⟩
    ·rw[Hw _ _ _ _ q_ q_,Hw _ _ _ _ q_ q_];by_cases ky:c=j
     ·subst ky;rw[zG rfl,zD q_,zG rfl];exact S8 ab
     ·rw[zD ky,zD tc];by_cases hpj:(c-1)/2=j
      ·rw[zG hpj];exact hI.over c d6 gi hpj q_
      ·rw[zD hpj];by_cases j0:(c-1)/2=(j-1)/2
       ·rw[zG j0];have:=hI.heap c d6 gi ky;rw[j0]at this;exact S7 (S8 ab) this
       ·rw[zD j0];exact hI.heap c d6 gi ky
    ·rw[Hw _ _ _ _ q_ q_,Hw _ _ _ _ q_ q_];have hpI:=hI.heap ((j-1)/2) gr q_ q_;rw[zD (show ((j-1)/2-1)/2≠j by omega),zD (show ((j-1)/2-1)/2≠(j-1)/2 by omega)];by_cases ky:c=j
     ·rw[zG ky];exact hpI
     ·rw[zD ky,zD q_];have:=hI.heap c d6 gi ky;rw[jz]at this;exact S7 hpI this
   ·rename_i ab;intro c d6 gi _;by_cases ky:c=j
    ·subst ky;simpa using ab
    ·exact hI.heap c d6 gi ky
def Q3{q r:List Item}{c:Nat}(h:c<q.length):(q++r).getD c default=q.getD c default:=by
 simp[wH,xR h]
def Ae3(q:List Item)(x:Item)(h:Of q q.length):Of (Ww q x) (Ww q x).length:=by
 rw[Mg];refine Amn (q.length+1) _ _ _ (yG _) q_ y_ ⟨λc d6 gi ky=>?_,λc d6 gi jz gr=>by omega⟩;rw[Q3 q_,Q3 q_];exact h c d6 q_ q_
structure DownInv(q:List Item)(i n:Nat):Prop where
 heap:∀c,0<c→c<n→(c-1)/2≠i→Ck (q.getD c default) (q.getD ((c-1)/2) default)=false
 over:∀c,0<c→c<n→(c-1)/2=i→0<i→Ck (q.getD c default) (q.getD ((i-1)/2) default)=false
def Azc(q:List Item)(i n c:Nat)(_h:2*i+1<n)(d6:0<c)(hc:c<n)(hp:(c-1)/2=i):Ck (q.getD c default) (q.getD (Ey q i n) default)=false:=by
 have hcc:c=2*i+1∨c=2*i+2:=by omega
 unfold Ey;split
 ·rename_i hh;rcases hcc with rfl|rfl
  ·exact S8 hh.2
  ·unfold Ck;grind
 ·rename_i hh;rcases hcc with rfl|rfl
  ·unfold Ck;grind
  ·cases ab:Ck (q.getD (2*i+2) default) (q.getD (2*i+1) default) with
   |false=>rfl
   |true=>exact zY ⟨hc,ab⟩ hh
def Agj(n:Nat):∀(f:Nat) (q:List Item) (i:Nat),n≤f+i→i<q.length→n≤q.length→DownInv q i n→Of (Ez f q i n).1 n
 |0,q,i,hf,hi,hn,hI=>λc d6 hc _=>hI.heap c d6 hc q_
 |f+1,q,i,hf,hi,hn,hI=>by
  rw[Ez];split
  ·rename_i h;have j5:=Q6 q i n h;have jz:(Ey q i n-1)/2=i:=by unfold Ey;split<;>omega
   have hle:=λc=>Azc q i n c h
   generalize Ey q i n=k at *;split
   ·rename_i ab;refine Agj n f _ _ q_ (by rw[Bg];omega) (by rw[Bg];exact hn) ⟨λc d6 gi hck=>?_,λc d6 gi tc cm=>?_⟩
    ·rw[Hw _ _ _ _ hi q_,Hw _ _ _ _ hi q_,zD hck];by_cases rl:c=k
     ·subst rl;rw[zG rfl,zG jz];exact S8 ab
     ·rw[zD rl];by_cases m4:c=i
      ·subst m4;rw[zG rfl,zD q_];exact hI.over k q_ j5.1 jz d6
      ·rw[zD m4];by_cases sg:(c-1)/2=i
       ·rw[zG sg];exact hle c d6 gi sg
       ·rw[zD sg];exact hI.heap c d6 gi sg
    ·rw[Hw _ _ _ _ hi q_,Hw _ _ _ _ hi q_];rw[zD q_,zD q_,jz,zD q_,zG rfl];have:=hI.heap c d6 gi q_;rwa [tc]at this
   ·rename_i ab;intro c d6 gi _;by_cases sg:(c-1)/2=i
    ·rw[sg];exact S7 (by simpa using ab) (hle c d6 gi sg)
    ·exact hI.heap c d6 gi sg
  ·exact λc d6 hc _=>hI.heap c d6 hc q_
def Agh(n:Nat):∀(f:Nat) (q:List Item) (i c:Nat),i<n→n≤q.length→n≤c→(Ez f q i n).1.getD c default=q.getD c default
 |0,_,_,_,_,_,_=>rfl
 |f+1,q,i,c,hi,hn,hc=>by
  rw[Ez];split
  ·rename_i h;have j5:=Q6 q i n h;split
   ·rw[Agh n f _ _ c q_ (by rw[Bg];exact hn) hc,Hw _ _ _ _ q_ q_,zD q_,zD q_]
   ·rfl
  ·rfl
def Anr(q:List Item)(hq:q≠[]):(D9 q).getLast (E4 hq)=q.getD 0 default:=by
 have h0:0<q.length:=xN.2 hq;rw[List.getLast_eq_getElem,←Bo (show (D9 q).length-1<(D9 q).length by rw[Hi];omega),Hi];by_cases h1:q.length=1
 ·have:D9 q=q:=by
   obtain ⟨x,rfl⟩:=List.length_eq_one_iff.1 h1;rfl
  rw[this,h1]
 ·rw[D9,Agh _ _ _ _ _ q_ (by rw[Bg];omega) (yG _),Hw _ _ _ _ h0 q_,zG rfl]
def Axk(q:List Item)(hq:q≠[]):(D9 q).dropLast++[q.getD 0 default]=D9 q:=by
 rw[←Anr q hq];exact uN (E4 hq)
def A1a(q:List Item)(hq:q≠[]):(q.getD 0 default::(D9 q).dropLast).Perm q :=
 ((List.perm_append_comm (l₁:=[q.getD 0 default]) (l₂:=(D9 q).dropLast)).trans (by rw[Axk q hq])).trans (V1 q hq)
def A1b(q:List Item)(hq:q≠[])(h:Of q q.length):Of (D9 q).dropLast (D9 q).dropLast.length:=by
 have h0:0<q.length:=xN.2 hq;have hd:(D9 q).dropLast.length=q.length-1:=by rw[tA,Hi]
 have hh:Of (D9 q) (q.length-1):=by
  rw[D9];refine Agj (q.length-1) _ _ _ q_ (by rw[Bg];exact h0) (by rw[Bg];omega) ⟨λc d6 gi hp=>?_,λc d6 gi hp h=>by omega⟩;rw[Hw _ _ _ _ h0 q_,Hw _ _ _ _ h0 q_,zD q_,zD q_,zD q_,zD hp];exact h c d6 q_ q_
 intro c d6 gi _;rw[hd]at gi;have hl:=Hi q;have e:∀k,k<q.length-1→(D9 q).dropLast.getD k default=(D9 q).getD k default:=λk hk=>by
  rw[Bo (show k<(D9 q).dropLast.length by omega),Bo (show k<(D9 q).length by omega),List.getElem_dropLast]
 rw[e c gi,e _ q_];exact hh c d6 gi q_
def Axl(q:List Item)(h:Of q q.length):∀x∈q,Ck x (q.getD 0 default)=false:=λx hx=>by
 obtain ⟨c,hc,rfl⟩:=wD hx;have:=Atl h (yG _) c hc;rwa [Bo hc]at this
def Hl(ranks:List Int)(j:Nat):List Item:=(List.range j).foldl (λq (i:Nat)=>Ww q ⟨ranks.getD i 0,0,i⟩) []
def Lm(ranks:List Int)(j:Nat):Hl ranks (j+1)=Ww (Hl ranks j) ⟨ranks.getD j 0,0,j⟩:=by
 rw[Hl,wV,xO];rfl
def O5(ranks:List Int):∀j,(Hl ranks j).length=j
 |0=>rfl
 |j+1=>by rw[Lm,Mg,O5 ranks j]
def Zh(roots:List Int):Nat:=roots.countP (λr=>decide (r<0))
def reachM(s:List Item×List Int×List Int):Nat:=41*Zh s.2.1+s.1.length
structure ReachInv(n:Net)(s:List Item×List Int×List Int):Prop where
 rootsL:s.2.1.length=n.devices.length
 costsL:s.2.2.length=n.devices.length
 items:∀x∈s.1,0≤x.dev∧x.dev<n.devices.length∧0≤x.root∧0≤x.cost∧x.cost+65535*Zh s.2.1≤65535*n.devices.length
 few:s.1.length+40*Zh s.2.1≤1000
def A16(roots:List Int):Zh roots≤roots.length:=List.countP_le_length
def Ax0{roots:List Int}{i:Nat}{v:Int}(h:i<roots.length)(h0:roots[i]<0)(hv:0≤v):Zh (roots.set i v)+1=Zh roots:=by
 have h1:0<roots.countP (λr=>decide (r<0)):=List.countP_pos_iff.2 ⟨roots[i],zI h,by simpa using h0⟩;have hv':¬v<0:=by omega
 rw[Zh,Zh,List.countP_set h];simp only[h0,hv',decide_true,decide_false,if_true,Bool.false_eq_true,if_false];omega
def Aku(n:Net)(up:List Bool)(x:Item)(hr:Ac n=true)(aj:Dk n=true){m:Nat}(hx:0≤x.root∧0≤x.cost∧x.cost+65535*(m+1)≤65535*n.devices.length)(q:List Item)(hq:∀y∈q,0≤y.dev∧y.dev<n.devices.length∧0≤y.root∧0≤y.cost∧y.cost+65535*m≤65535*n.devices.length)(i:Nat)(hi:i<n.ports.length):(∀y∈Ei n up x q i,0≤y.dev∧y.dev<n.devices.length∧0≤y.root∧0≤y.cost∧y.cost+65535*m≤65535*n.devices.length)∧(Ei n up x q i).length≤q.length+1:=by
 rw[Ei];split
 ·rename_i h;have ab:=Agb hr hi h.2;have hk:(Er n up i).toNat<n.ports.length:=by omega
  have hd:=Ur hr hk;have zd:1≤n.ports[(Er n up i).toNat].cost∧n.ports[(Er n up i).toNat].cost≤65535:=by
   simp only[Dk,yU,wM]at aj;have:=aj _ (zI hk);simp only[I2,yM,zJ,uC]at this;omega
  have e:nth n.ports (Er n up i)=n.ports[(Er n up i).toNat]:=Ai (l:=n.ports) (i:=Er n up i) q_;rw[e];refine⟨λy hy=>?_,by rw[Mg];omega⟩;rcases yH.1 ((Sr q _).mem_iff.1 hy) with rfl|hy
  ·simp only;omega
  ·exact hq y hy
 ·exact⟨hq,by omega⟩
def Ae0(n:Net)(up:List Bool)(x:Item)(hr:Ac n=true)(aj:Dk n=true){m:Nat}(hx:0≤x.root∧0≤x.cost∧x.cost+65535*(m+1)≤65535*n.devices.length)(q:List Item)(hq:∀y∈q,0≤y.dev∧y.dev<n.devices.length∧0≤y.root∧0≤y.cost∧y.cost+65535*m≤65535*n.devices.length):∀i,i≤n.ports.length →
  (∀y∈(List.range i).foldl (Ei n up x) q,0≤y.dev∧y.dev<n.devices.length∧0≤y.root∧0≤y.cost∧y.cost+65535*m≤65535*n.devices.length)∧((List.range i).foldl (Ei n up x) q).length≤q.length+i
 |0,_=>⟨hq,by simp⟩
 |i+1,hi=>by
  obtain ⟨h1,h2⟩:=Ae0 n up x hr aj hx q hq i q_;rw[wV,xO];obtain ⟨h3,h4⟩:=Aku n up x hr aj hx _ h1 i q_;exact⟨h3,by simp only[vF,tI];omega⟩
def Afn{q:List Item}(hq:q≠[]):(D9 q).getLast?.getD default=(D9 q).getLast (E4 hq):=by
 rw[List.getLast?_eq_some_getLast (E4 hq)];rfl
def Mu(n:Net)(up:List Bool)(hr:Ac n=true)(aj:Dk n=true)(s:List Item×List Int×List Int)(hI:ReachInv n s)(ag:s.1≠[]):ReachInv n (Sn n up s)∧reachM (Sn n up s)<reachM s:=by
 have hf:=H7 hr;have hx:=hI.items _ ((V1 s.1 ag).mem_iff.1 (List.getLast_mem (E4 ag)));have hd:∀y∈(D9 s.1).dropLast,y∈s.1:=λy hy=>(V1 s.1 ag).mem_iff.1 ((List.dropLast_sublist _).subset hy)
 have h0:0<s.1.length:=xN.2 ag;have ga:(D9 s.1).dropLast.length+1=s.1.length:=by rw[tA,Hi];omega
 have m5:=hI.few;rw[Sn,Afn ag];generalize (D9 s.1).getLast (E4 ag)=x at *;split
 ·exact⟨⟨hI.rootsL,hI.costsL,λy hy=>hI.items y (hd y hy),by simp only;omega⟩,by unfold reachM;simp only;omega⟩
 ·rename_i js;have hk:x.dev.toNat<s.2.1.length:=by rw[hI.rootsL];omega
  rw[Ai (l:=s.2.1) (i:=x.dev) (by rw[hI.rootsL];omega)]at js;have hm:=Ax0 hk q_ hx.2.2.1;obtain ⟨h1,h2⟩:=Ae0 n up x hr aj (m:=Zh (s.2.1.set x.dev.toNat x.root)) ⟨hx.2.2.1,hx.2.2.2.1,by have:=hx.2.2.2.2;omega⟩ (D9 s.1).dropLast (λy hy=>by have:=hI.items y (hd y hy);omega) n.ports.length (yG _);exact⟨⟨by simp only[yR];exact hI.rootsL,by simp only[yR];exact hI.costsL,h1,by simp only;omega⟩,by unfold reachM;simp only;omega⟩
def Ab8(n:Net)(up:List Bool)(hr:Ac n=true)(aj:Dk n=true):∀(f g:Nat) (s:List Item×List Int×List Int),ReachInv n s→reachM s≤f→reachM s≤g→I6 n up f s=I6 n up g s
 |0,0,_,_,_,_=>rfl
 |0,g+1,s,_,h,_=>by
  have:s.1=[]:=zZ (by unfold reachM at h;omega);rw[I6,I6,zG this]
 |f+1,0,s,_,_,h=>by
  have:s.1=[]:=zZ (by unfold reachM at h;omega);rw[I6,I6,zG this]
 |f+1,g+1,s,hI,h1,h2=>by
  rw[I6,I6];split
  ·rfl
  ·rename_i ag;obtain ⟨h3,h4⟩:=Mu n up hr aj s hI ag;exact Ab8 n up hr aj f g _ h3 q_ q_
def L1(n:Net)(up:List Bool)(s:List Item×List Int×List Int):List Item×List Int×List Int:=I6 n up (reachM s) s
def Ar5(n:Net)(up:List Bool)(s:List Item×List Int×List Int)(h:s.1=[]):L1 n up s=s:=by
 rw[L1];cases reachM s with
 |zero=>rfl
 |succ m=>rw[I6,zG h]
def Ani(n:Net)(up:List Bool)(hr:Ac n=true)(aj:Dk n=true)(s:List Item×List Int×List Int)(hI:ReachInv n s)(ag:s.1≠[]):L1 n up s=L1 n up (Sn n up s):=by
 obtain ⟨h3,h4⟩:=Mu n up hr aj s hI ag;rw[L1,L1];obtain ⟨m,hm⟩:∃m,reachM s=m+1:=⟨reachM s-1,by omega⟩
 rw[hm,I6,zD ag];exact Ab8 n up hr aj _ _ _ h3 q_ (yG _)
def Abz(ranks:List Int)(m:Nat)(oe:∀r∈ranks,0≤r):∀j,j≤ranks.length→∀y∈Hl ranks j,0≤y.dev∧y.dev<m+ranks.length∧0≤y.root∧y.cost=0
 |0,_,y,hy=>by simp[Hl]at hy
 |j+1,hj,y,hy=>by
  rw[Lm]at hy;rcases yH.1 ((Sr _ _).mem_iff.1 hy) with rfl|hy
  ·have h1:=oe (ranks[j]'q_) (zI _);have h2:(0:Int)≤(j:Int)∧(j:Int)<m+ranks.length:=by omega
   exact⟨h2.1,h2.2,by rw[Bo (show j<ranks.length by omega)];exact h1,E⟩
  ·exact Abz ranks m oe j q_ y hy
def Aif(n:Net)(ranks roots costs:List Int)(hr:Ac n=true)(nf:ranks.length=n.devices.length)(gm:roots.length=n.devices.length)(hc:costs.length=n.devices.length)(oe:∀r∈ranks,0≤r):ReachInv n (Hl ranks ranks.length,roots,costs):=by
 have hf:=H7 hr;have hm:=A16 roots;refine⟨gm,hc,λy hy=>?_,by simp only[O5];omega⟩;have:=Abz ranks 0 oe _ (yG _) y hy;simp only;omega
end Go.Sy.YticmobkdaneelaaGreatDoor
