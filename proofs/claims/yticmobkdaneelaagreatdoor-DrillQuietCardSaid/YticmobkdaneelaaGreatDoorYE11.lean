/- Parts of a proof. -/
import Derived.Test.YticmobkdaneelaaGreatDoorYE10
import Derived.RangeFuncNested
import Derived.Shelf.RegionOpen
import Derived.OwnWalkIn
import Derived.LoopNIn
import Derived.LoopIn
set_option linter.all false
set_option linter.unusedVariables false
set_option linter.unusedSimpArgs false
set_option linter.deprecated false
namespace Go.Sy.YticmobkdaneelaaGreatDoor
open Go.Proofs Go.Proofs.Tryz
attribute [local irreducible] Go.Sy.G Go.Sy.DR
set_option maxRecDepth 20000
set_option maxHeartbeats 4000000
def Kv(c:UInt8):Bool:=decide (48≤c.toNat)&&decide (c.toNat≤57)
def Xn(s:ByteArray):Nat→Int
 |0=>0
 |j+1=>10*Xn s j+((Bu s j).toNat-48)
def Ap2(s:ByteArray):Bool:=(List.range s.size).all λi=>Kv (Bu s i)
def smallT(s:ByteArray)(bd:Int):Int×Bool :=
 if s.size=0∨3<s.size∨(1<s.size∧(Bu s 0).toNat=48)∨Ap2 s=false then (0,false) else (Xn s s.size,decide (Xn s s.size≤bd))
def Z3{s:ByteArray}{i:Nat}(hi:i<s.size)(h:Kv (Bu s i)=false):Ap2 s=false:=by
 rw[Ap2,List.all_eq_false];exact⟨i,by simpa using hi,by simp[h]⟩
def Ajo{s:ByteArray}(h:∀i,i<s.size→Kv (Bu s i)=true):Ap2 s=true:=by
 rw[Ap2,yZ];intro i hi;exact h i (by simpa using hi)
def digB_iff{c:UInt8}:Kv c=true↔48≤c.toNat∧c.toNat≤57:=by simp[Kv]
def Akb{s:ByteArray}:∀{j:Nat},(∀i,i<j→Kv (Bu s i)=true)→0≤Xn s j∧Xn s j<10^j
 |0,_=>by simp[Xn]
 |j+1,h=>by
  have ih:=Akb (s:=s) (j:=j) (λi hi=>h i q_);have hd:=digB_iff.1 (h j q_);rw[Xn];have e:(10:Int)^(j+1)=10*10^j:=by rw[Int.pow_succ];omega
  rw[e];omega
def Az4{n:Nat}(h:48≤n)(h2:n<256):IntKind.u8.wrap ((n:Int)-48)=(n:Int)-48:=by
 rw[IntKind.wrap_u8];omega
def A21{n:Int}(h:0≤n)(h2:n<256):IntKind.i64.wrap n=n:=by
 rw[IntKind.wrap_i64];omega
def Ag0(s:ByteArray)(bd:Int):Sp 127 [Aw s,Aa bd] (.tup [Aa (smallT s bd).1,Ab (smallT s bd).2]):=cT F127 ntmps127 λF hF=>by
 have ak:=smallT.eq_1 s bd;generalize smallT s bd=res at *;refine fW ?_;constructor<;>intro h
 ·have h1:s.size=0:=by simpa using h
  rw[zG (.inl h1)]at ak;subst ak;exact gC
 have h1:¬s.size=0:=by simpa using h
 refine fU ?_;constructor<;>intro h
 ·have h2:3<s.size:=qA h;rw[zG (.inr (.inl h2))]at ak;subst ak;exact gC
 have h2:¬3<s.size:=qB h;refine fU ?_;constructor<;>intro h
 ·have h3:1<s.size:=qA h;refine fU ?_;refine⟨by decide,by simp;omega,?_⟩;refine fW ?_;constructor<;>intro h
  ·have h4:(Bu s 0).toNat=48:=by have:=h;simp at this;omega
   rw[zG (.inr (.inr (.inl ⟨h3,h4⟩)))]at ak;subst ak;exact gC
  have zo:¬(1<s.size∧(Bu s 0).toNat=48):=by
   intro e;have:=h;simp at this;omega
  refine fU ?_;refine A9 s.size (λj=>∀i,i<j→Kv (Bu s i)=true) (λj=>[(0,Aw s),(1,Aa bd),(6,Aa (Xn s j)),(27,Aa s.size),(28,Aa j)]) (λ_=>[]) [] (λi hi=>zY hi q_) kU ?_;intro j hj hI;have hv:=Akb hI;have hp:(10:Int)^j≤1000:=by
   have:j=0∨j=1∨j=2∨j=3:=by omega
   rcases this with rfl|rfl|rfl|rfl<;>decide
  have nm:Xn s (j+1)=10*Xn s j+((Bu s j).toNat-48):=rfl;have ou:(j:Int).toNat=j:=zU j;have hb:=(Bu s j).toNat_lt;generalize zp:Xn s j=v at *;refine fU ?_;constructor<;>intro h
  ·have ab:j<s.size:=by simpa using h
   refine fU ?_;refine⟨by omega,by simpa using ab,?_⟩;rw[ou];refine fW ?_;constructor<;>intro h
   ·have h5:¬48≤(Bu s j).toNat:=qA h;rw[zG (.inr (.inr (.inr (Z3 ab (by simp only[Kv,yQ,zX];exact .inl h5)))))]at ak;subst ak;exact gC
   have h5:48≤(Bu s j).toNat:=qB h;refine fU ?_;refine⟨by omega,by simpa using ab,?_⟩;rw[ou];refine fW ?_;constructor<;>intro h
   ·have h6:¬(Bu s j).toNat≤57:=qA h;rw[zG (.inr (.inr (.inr (Z3 ab (by simp only[Kv,yQ,zX];exact .inr h6)))))]at ak;subst ak;exact gC
   have h6:(Bu s j).toNat≤57:=qB h;refine gG ?_;refine⟨by omega,by simpa using ab,?_⟩;rw[ou];refine fW ?_;rw[Az4 h5 hb,A21 q_ q_];refine iL ?_;refine gI ?_;refine A8 [] hI q_ (λi hi=>?_) ⟨⟨E,E,E,E,zH Aa nm,E,E,E,E,E,Y⟩,Y,E,E⟩;by_cases br:i=j
   ·subst br;exact digB_iff.2 ⟨h5,h6⟩
   ·exact hI i q_
  ·have:j=s.size:=qB h;subst this;rw[zD (by rw[Ajo hI];simp only[h1,h2,false_or,Bool.true_eq_false,vZ];exact zo),zp]at ak;subst ak;exact gC
 ·have zo:¬(1<s.size∧(Bu s 0).toNat=48):=qB h;refine fU ?_;refine A9 s.size (λj=>∀i,i<j→Kv (Bu s i)=true) (λj=>[(0,Aw s),(1,Aa bd),(6,Aa (Xn s j)),(27,Aa s.size),(28,Aa j)]) (λ_=>[]) [] (λi hi=>zY hi q_) kU ?_;intro j hj hI;have hv:=Akb hI;have hp:(10:Int)^j≤1000:=by
   have:j=0∨j=1∨j=2∨j=3:=by omega
   rcases this with rfl|rfl|rfl|rfl<;>decide
  have nm:Xn s (j+1)=10*Xn s j+((Bu s j).toNat-48):=rfl;have ou:(j:Int).toNat=j:=zU j;have hb:=(Bu s j).toNat_lt;generalize zp:Xn s j=v at *;refine fU ?_;constructor<;>intro h
  ·have ab:j<s.size:=by simpa using h
   refine fU ?_;refine⟨by omega,by simpa using ab,?_⟩;rw[ou];refine fW ?_;constructor<;>intro h
   ·have h5:¬48≤(Bu s j).toNat:=qA h;rw[zG (.inr (.inr (.inr (Z3 ab (by simp only[Kv,yQ,zX];exact .inl h5)))))]at ak;subst ak;exact gC
   have h5:48≤(Bu s j).toNat:=qB h;refine fU ?_;refine⟨by omega,by simpa using ab,?_⟩;rw[ou];refine fW ?_;constructor<;>intro h
   ·have h6:¬(Bu s j).toNat≤57:=qA h;rw[zG (.inr (.inr (.inr (Z3 ab (by simp only[Kv,yQ,zX];exact .inr h6)))))]at ak;subst ak;exact gC
   have h6:(Bu s j).toNat≤57:=qB h;refine gG ?_;refine⟨by omega,by simpa using ab,?_⟩;rw[ou];refine fW ?_;rw[Az4 h5 hb,A21 q_ q_];refine iL ?_;refine gI ?_;refine A8 [] hI q_ (λi hi=>?_) ⟨⟨E,E,E,E,zH Aa nm,E,E,E,E,E,Y⟩,Y,E,E⟩;by_cases br:i=j
   ·subst br;exact digB_iff.2 ⟨h5,h6⟩
   ·exact hI i q_
  ·have:j=s.size:=qB h;subst this;rw[zD (by rw[Ajo hI];simp only[h1,h2,false_or,Bool.true_eq_false,vZ];exact zo),zp]at ak;subst ak;exact gC
end Go.Sy.YticmobkdaneelaaGreatDoor
namespace Go.Sy.YticmobkdaneelaaGreatDoor
open Go.Proofs Go.Proofs.Tryz
def A1t(m:Nat)(h:0<m):A1v (-(m:Int))=(revDigs m++[45]).reverse:=by
 rw[A1v,zG q_];have:(-(m:Int)).natAbs=m:=by omega
 rw[this]
set_option maxRecDepth 20000 in
def An2(m:Nat)(h0:0<m)(hb:m≤9223372036854775808):Sp 169 [Aa (-(m:Int))] (Aw (An3 (-(m:Int)))):=cT F169 ntmps169 λF hF=>by
 have gl:=Uh m;have hlen:=λj=>Ui j m
 have bf:=λj=>Uj j m
 have nn:(revDigs m).length≤20:=O7 19 m q_;have w1:IntKind.u64.wrap (0-IntKind.u64.wrap (-(m:Int)))=m:=by rw[IntKind.wrap_u64,IntKind.wrap_u64];omega
 rw[An3,A1t m h0];generalize revDigs m=D at *;refine fW ?_;refine⟨λ_=>?_,λh=>zY (zQ h) q_⟩;refine B7 3 1000 1 Al E E ?_;refine fU ?_;refine A5 D.length (λj=>[(0,Aa (-(m:Int))),(3,.osl 1000),(4,A2 (m/10^j:Nat)),(5,Ab (decide (j<D.length)))]) (λj=>[(1000,.row 1 Al (D.take j))]) []
  ⟨⟨rfl,rfl,rfl,rfl,zH (λz=>SV.val (.int .u64 z)) (by simpa using w1.symm),rfl,zH Ab (zO gl),rfl,trivial⟩,⟨.inl rfl,rfl,trivial⟩,rfl,rfl⟩ ?_
 intro j hj;refine fU ?_;constructor<;>intro h
 ·have ab:j<D.length:=zK h;have zq:=bf j ab;have zr:=hlen j;have e:m/10^(j+1)=m/10^j/10:=by rw[uP,tN]
  have hq:m/10^j≤m:=Nat.div_le_self _ _;rw[e]at zr;refine fU ?_;refine⟨by decide,?_⟩;refine fW ?_;refine Af (Ag Γ.toTy 23 E E E E E (.row E) (.lit (l:=[D[j]]) E ?_) y_ ?_ ?_) E E ?_
  ·rw[zq];simp only[xV,vG,Al];congr 3;generalize m/10^j=q at *;rw[uR (vP _),IntKind.wrap_u64,IntKind.wrap_u8];simp
  ·simp;omega
  ·simp;omega
  refine fU ?_;refine⟨by decide,?_⟩;refine fW ?_;refine Ay [(1000,23)] ab ⟨⟨E,E,E,E,zH (λz=>SV.val (.int .u64 z)) ?_,E,zH Ab ?_,E,Y⟩,⟨.inl (zH (Ob.row 1 Al) (yD ab)),E,Y⟩,E,E⟩
  ·rw[e,vU (vP _),IntKind.wrap_u64];generalize m/10^j=q at *;omega
  ·rw[vU (vP _),IntKind.wrap_u64];generalize m/10^j=q at *;refine decide_eq_decide.2 ?_;omega
 ·have:j=D.length:=qB h;subst this;rw[yN];refine fU ?_;refine⟨λ_=>?_,λh=>zY (zQ h) q_⟩;refine fU ?_;refine Af (Ag Γ.toTy 30 E E E E E (.row E) (.lit (e:=Al) (l:=[45]) E E) y_ (by simp;omega) (by simp;omega)) E E ?_;have hDl:(D++[45]).length=D.length+1:=by simp
  generalize D++[45]=D at *;refine gG ?_;refine A5 (D.length/2) (λj=>[(3,.osl 1000),(6,Aa j),(7,Aa (D.length-1-j:Nat))]) (λj=>[(1000,.row 1 Al (Tz D j))]) [(1000,30)]
   ⟨⟨rfl,rfl,rfl,rfl,zH (λz=>SV.val (.int .i64 z)) q_,rfl,trivial⟩,⟨.inl (zH (Ob.row 1 Al) (Aax D)),rfl,trivial⟩,rfl,rfl⟩ ?_
  intro i hi;have mq:=Dx D i;refine fU ?_;constructor<;>intro h2
  ·have ab:2*i+1<D.length:=by have:=zK h2;omega
   obtain ⟨u,hu⟩:∃u,Tz D i=u:=⟨_,rfl⟩
   obtain ⟨k,hk⟩:∃k,D.length-1-i=k:=⟨_,rfl⟩
   rw[hu]at mq;have hs:=Aay hu ab hk q_ q_;rw[hu,hk];refine fU ?_;refine⟨by omega,by omega,?_⟩;refine fW ?_;refine⟨E,by omega,?_⟩;refine fW ?_;refine⟨by omega,by omega,?_⟩;refine fW ?_;refine⟨E,by omega,?_⟩;refine fW ?_;refine⟨by omega,by omega,?_⟩;refine fW ?_;refine⟨E,by omega,u[k],E,E,?_⟩;refine fW ?_;refine⟨by omega,by simp;omega,?_⟩;refine fW ?_;refine⟨E,by simp;omega,u[i],E,E,?_⟩;refine fW ?_;refine⟨z_,?_⟩;refine gI ?_;refine iL ?_;refine fW ?_;refine Ay [] q_ ⟨⟨E,E,E,E,zH (λz=>SV.val (.int .i64 z)) q_,E,Y⟩,⟨.inl (zH (Ob.row 1 Al) hs.symm),E,Y⟩,E,E⟩
  ·have h3:D.length≤2*i+1:=by have:=zQ h2;omega
   rw[Aew D i h3];refine fU ?_;refine Af (Kn Γ.toTy (bs:=D.reverse) E E E E E E E (.row E)) E E ?_;exact gC
attribute [local irreducible] Go.Sy.G Go.Sy.DR
set_option maxRecDepth 20000
set_option maxHeartbeats 4000000
def Amb(n:Int):Prop:=-9223372036854775808≤n∧n<9223372036854775808
def Axu(n:Int)(h:Amb n):Sp 169 [Aa n] (Aw (An3 n)):=by
 unfold Amb at h;by_cases h0:0≤n
 ·obtain ⟨m,rfl⟩:=xB h0;exact A1s m q_
 ·obtain ⟨m,wu⟩:∃m:Nat,n=-(m:Int):=⟨n.natAbs,by omega⟩
  subst wu;exact An2 m q_ q_
end Go.Sy.YticmobkdaneelaaGreatDoor
namespace Go.Sy
open Go.RowKit
def Awa{β:Type}(T:Nat→Prop)(J:β→World→Prop):Prop :=
 ∀s W W' row,J s W→W.grownBy W' row→(∀r,row=some r→T r)→J s W'
def OwnT{β:Type}(B:Nat)(T:Nat→Prop)(I:β→World→Prop):Prop :=
 ∀s W W' row,I s W→W.grownBy W' row→(∀r,row=some r→T r∨(B≤r∧∃o:Obj,W.heap[r]? = some o∧o.isCells=false))→I s W'
theorem OwnT.putObj{β:Type}{B:Nat}{T:Nat→Prop}{I:β→World→Prop}(h:OwnT B T I){s:β}{W:World}{l:Nat}{o:Obj}(o':Obj)(hs:I s W)(hB:B≤l)(hl:W.heap[l]? = some o)(ho:o.isCells=false):I s (W.putObj l o') :=
 h s W _ _ hs (grownBy_putObj' W l o') (λr e=>by cases e;exact .inr ⟨hB,o,hl,ho⟩)
theorem OwnT.alloc{β:Type}{B:Nat}{T:Nat→Prop}{I:β→World→Prop}(h:OwnT B T I){s:β}{W:World}(o:Obj)(hs:I s W):I s (W.alloc o) :=
 h s W _ none hs ⟨rfl,rfl,rfl,by simp,λk hk _=>Below.heap_alloc _ _ _ hk⟩ (λr e=>by cases e)
def Aj6{α:Type}(F:Fence)(n:Nat)(P:Program)(g:Nat)(lb:Array Value)(mr:α→Array Value)(T:Nat→Prop)(Kp:World→World→Prop)(S Sp:List α→Prop)(N:Nat)(w:World):Prop :=
 ∀(l:Nat) (J Jx:List α→World→Prop) (W:World),Below w.heap.size w W→Awa T J→Awa T Jx →
  (∀ pre x W1,J pre W1→pre.length<N→YieldAt F (n-1) P l (mr x) W1 λ e W' =>
   (e=.returned (.bool true)∧J (pre++[x]) W'∧Kp W1 W')∨(e=.returned (.bool false)∧Jx (pre++[x]) W')) →
  J [] W →
  CallsIn F n P g (#[.func (.yield l) #[] #[]]++lb) W λe W'=>(∃v,e=.returned v)∧((∃xs,S xs∧J xs W')∨(∃pre,Sp pre∧Jx pre W'))
def Ou{A B:World}{T:Nat→Prop}{row:Option Nat}{k:Nat}{o:Obj}(hg:A.grownBy B row)(hr:∀r,row=some r→T r)(hk:¬T k)(h:A.heap[k]? = some o):B.heap[k]? = some o:=by
 obtain ⟨_,_,_,_,h5⟩:=hg;exact(h5 k (wX.1 h).1 (λe=>hk (hr k e.symm))).trans h
variable {F:Fence} {n:Nat} {P:Program}
theorem Wf{α:Type}{g:Operand}{ps:Array Tmp}{assign body:Code}{Q:Exit→Act→World→Prop}{a:Act}{w:World}(gm:F.round=none)(h1:1≤n){gf:Nat}{lb:Array Value}(hg:a.eval g=.func (.func gf) #[] lb)(hFg:F.fn gf)(eg:∀ args w,(callFunc gf args).run P w=.ok (.enter gf args) w){mr:α→Array Value}{T:Nat→Prop}{Kp:World→World→Prop}{S Sp:List α→Prop}{N:Nat}{w0:World}(zs:Aj6 F (n-1) P gf lb mr T Kp S Sp N w0)(hT:∀ b,T b→b<w.heap.size)(hKt:∀ {A B C:World},Kp A B→Kp B C→Kp A C)(hKb:∀ (W:World) (l:Nat) (o o':Obj),w.heap.size≤l→W.heap[l]? = some o→o.isCells=false→o.isWalk=false→Kp W (W.putObj l o'))(np:Below w0.heap.size w0 w)(ov:∀ x,(mr x).size=ps.size)(I:List α→World→Prop)(Ix:Code→List α→World→Prop)(hI:OwnT w.heap.size T I)(wv:∀ c,OwnT w.heap.size T (Ix c))(h0:I [] w)(a₁:α→Act)(qx:∀ (l:Nat) (x:α) (W:World) (K:Act→World→Prop),K (a₁ x) W →
   assign.wpIn (F.inRound l) (n-1-1) P (Exit.then K (λ _ _ _=>False)) { tmps:=(ps.zip (mr x)).foldl (λ t (p,v)=>t.setIfInBounds p v) a.tmps,defers:=[] } W)(ww:∀ (l:Nat) (pre:List α) (x:α) (W:World),I pre W→pre.length<N→body.wpIn (F.inRound l) (n-1-1) P (ownPostK Kp I Ix (pre++[x]) W) (a₁ x) W)(wx:∀ (D:Nat) (xs:List α) (W:World),w.heap.size≤D→S xs→I xs W→W.heap[D]? = some (.deferred (some []))→Q .normal { a with defers:={ target:=.collected D,args:=#[] }::a.defers } W)(wy:∀ (D:Nat) (c:Code) (pre:List α) (W:World),w.heap.size≤D→Sp pre→Ix c pre W→W.heap[D]? = some (.deferred (some []))→c.wpIn F n P Q { a with defers:={ target:=.collected D,args:=#[] }::a.defers } W):(Code.rangeFunc g ps assign body).wpIn F n P Q a w:=by
 refine wpIn_rangeFunc ?_;intro fn tv;rw[gm];obtain ⟨rec,im⟩:∃rec:LoopState→Option Code→Loop,rec=λst pe=>{state:=st,pending:=pe,fn,tmps:=a.tmps,params:=ps,assign,body,defers:=w.heap.size}:=⟨_,rfl⟩
 obtain ⟨W1,wz⟩:∃W1,(w.alloc (.deferred (some []))).alloc (.loop (rec .ready none))=W1:=⟨_,rfl⟩
 have hL1:W1.heap[w.heap.size+1]? = some (.loop (rec .ready none)):=by
  rw[←wz];have:=World.alloc_heap_new (w.alloc (.deferred (some []))) (.loop (rec .ready none));rwa [World.size_alloc]at this
 have hK1:W1.heap[w.heap.size]? = some (.deferred (some [])):=by
  rw[←wz];exact(Below.heap_alloc _ _ _ y_).trans (World.alloc_heap_new w _)
 have hI1:I [] W1:=by rw[←wz];exact hI.alloc _ (hI.alloc _ h0)
 have em:Below w0.heap.size w0 W1:=by
  rw[←wz];exact np.trans ((((Below.refl _ w).alloc (yG _) _).alloc y_ _).mono np.size)
 have nT:∀k,w.heap.size≤k→¬T k:=λk hk h=>Nat.lt_irrefl _ (yV (hT k h) hk)
 refine⟨w.heap.size+1,[{ target:=.collected w.heap.size,args:=#[] }],W1,{ target:=.fn (.func gf) lb,args:=#[.func (.yield (w.heap.size+1)) #[] #[]] },W1,gf,
  #[.func (.yield (w.heap.size+1)) #[] #[]]++lb,W1,?_,?_,?_,?_,λ _=>h1,?_⟩
 ·rw[←wz,im];exact run_enterLoop_outer _ _ _ _ _
 ·simp only[resolve,hg];simp[go_sem]
 ·intro f' yy;simp[Target.leads]at yy;subst yy;exact hFg
 ·simp[invoke,go_sem,eg]
 ·refine(zs (w.heap.size+1)
   (λpre W=>I pre W∧W.heap[w.heap.size+1]? = some (.loop (rec .ready none))∧W.heap[w.heap.size]? = some (.deferred (some [])))
   (λpre W=>∃c,Ix c pre W∧W.heap[w.heap.size+1]? = some (.loop (rec .done (some c)))∧W.heap[w.heap.size]? = some (.deferred (some [])))
   W1 em
   (λs A B row hs ox hr=>⟨hI s A B row hs.1 ox (λr e=>.inl (hr r e)),Ou ox hr (nT _ q_) hs.2.1,Ou ox hr (nT _ q_) hs.2.2⟩)
   (λ s A B row hs ox hr=>by
    obtain ⟨c,hc,hl,hk⟩:=hs;exact⟨c,wv c s A B row hc ox (λ r e=>.inl (hr r e)),Ou ox hr (nT _ q_) hl,Ou ox hr (nT _ q_) hk⟩)
   ?_ ⟨hI1,hL1,hK1⟩).mono ?_
  ·rintro pre x W ⟨hi,hl,hk⟩ hlen;have ab:w.heap.size+1<W.heap.size:=(wX.1 hl).1;have hy:=run_yield (P:=P) (args:=mr x) hl (by rw[im];exact ov x);rw[im]at hy;refine⟨fn,_,assign,body,hy,roundIn_of_wpIn tv (qx _ x W _ ⟨_,run_beginRound hl (by rw[im]),?_⟩)⟩;have gn:(W.putObj (w.heap.size+1) (.loop {rec .ready none with state:=.busy})).heap[w.heap.size+1]? = some (.loop {rec .ready none with state:=.busy}):=World.putObj_heap_same ab;have dg:(W.putObj (w.heap.size+1) (.loop {rec .ready none with state:=.busy})).heap[w.heap.size]? = some (.deferred (some [])):=(World.putObj_heap_other q_).trans hk;have zt:Kp W (W.putObj (w.heap.size+1) (.loop {rec .ready none with state:=.busy})):=hKb _ _ _ _ q_ hl rfl rfl;refine wpIn_mono (ww _ pre x _ (hI.putObj _ hi (uZ _) hl E) hlen) ?_;have fin:∀(fu:Option Code) (W3:World),KeepsOthers (W.putObj (w.heap.size+1) (.loop {rec .ready none with state:=.busy})) W3 →
     (Instr.endRound (w.heap.size+1) fu).run P W3=.ok (.bool fu.isNone) (W3.putObj (w.heap.size+1) (.loop (rec (if fu.isNone then .ready else .done) fu))) ∧
     W3.heap[w.heap.size+1]? = some (.loop {rec .ready none with state:=.busy}) ∧
     (W3.putObj (w.heap.size+1) (.loop (rec (if fu.isNone then .ready else .done) fu))).heap[w.heap.size+1]? = some (.loop (rec (if fu.isNone then .ready else .done) fu)) ∧
     (W3.putObj (w.heap.size+1) (.loop (rec (if fu.isNone then .ready else .done) fu))).heap[w.heap.size]? = some (.deferred (some [])):=λfu W3 px=>by
    have ki:=px.same _ _ gn rfl;have:=run_endRound (P:=P) fu ki;rw[im]at this⊢;exact⟨this,by rw[im]at ki;exact ki,World.putObj_heap_same (wX.1 ki).1,(World.putObj_heap_other q_).trans (px.same _ _ dg E)⟩
   rintro e a3 W3 hp;cases e with
   |normal=>
    obtain ⟨px,zu,tx⟩:=hp;obtain ⟨hr,ki,tz,t6⟩:=fin none W3 px;exact⟨_,_,hr,.inl ⟨E,⟨hI.putObj _ tx (uZ _) ki E,tz,t6⟩,hKt (hKt zt zu) (hKb _ _ _ _ q_ ki E E)⟩⟩
   |ret=>
    obtain ⟨px,tx⟩:=hp;obtain ⟨hr,ki,tz,t6⟩:=fin (some .ret) W3 px;exact⟨_,_,hr,.inr ⟨E,.ret,(wv _).putObj _ tx (uZ _) ki E,tz,t6⟩⟩
   |exit id=>
    obtain ⟨px,tx⟩:=hp;obtain ⟨hr,ki,tz,t6⟩:=fin (some (.exit id)) W3 px;exact⟨_,_,hr,.inr ⟨E,.exit id,(wv _).putObj _ tx (uZ _) ki E,tz,t6⟩⟩
   |goto t=>
    obtain ⟨px,tx⟩:=hp;obtain ⟨hr,ki,tz,t6⟩:=fin (some (.goto t)) W3 px;exact⟨_,_,hr,.inr ⟨E,.goto t,(wv _).putObj _ tx (uZ _) ki E,tz,t6⟩⟩
   |panic ch=>exact hp.elim
   |outgrown=>exact hp.elim
  ·rintro e W2 ⟨⟨v,rfl⟩,(⟨xs,hS,hi,hl,hk⟩|⟨pre,hSp,c,hi,hl,hk⟩)⟩
   ·exact⟨none,_,by have:=run_endLoop (P:=P) hl (by rw[im];simp);rw[im]at this;exact this,wx _ xs _ (yG _) hS (hI.putObj _ hi (uZ _) hl E) ((World.putObj_heap_other q_).trans hk)⟩
   ·exact⟨some c,_,by have:=run_endLoop (P:=P) hl (by rw[im];simp);rw[im]at this;exact this,wy _ c pre _ (yG _) hSp ((wv c).putObj _ hi (uZ _) hl E) ((World.putObj_heap_other q_).trans hk)⟩
end Go.Sy
namespace Go.Proofs
open Go.RowKit Go.Shelf Go.Sy Go.Sy.YticmobkdaneelaaGreatDoor
attribute [local go_sem] Oper.semAt_some
structure SeqBox(W:World)(bp bs bv:Nat)(t:ByteArray):Prop where
 p:W.cell? ⟨bp,0,none⟩=some (.string ⟨#[46]⟩)
 s:W.cell? ⟨bs,0,none⟩=some (.string t)
 v:W.cell? ⟨bv,0,none⟩=some (.int .i64 0)
 f:W.frozen? ⟨bs,0,none⟩=false
def A4k(bp bs bv:Nat)(W W':World):Prop:=W'.heap[bp]? = W.heap[bp]? ∧ W'.heap[bs]? = W.heap[bs]? ∧ W'.heap[bv]? = W.heap[bv]?
theorem SeqBox.keep{W W':World}{bp bs bv:Nat}{t:ByteArray}(h:SeqBox W bp bs bv t)(k:A4k bp bs bv W W'):SeqBox W' bp bs bv t :=
 ⟨(World.cell?_of_block k.1).trans h.p,(World.cell?_of_block k.2.1).trans h.s,(World.cell?_of_block k.2.2).trans h.v,by
  have:W'.frozen? ⟨bs,0,none⟩=W.frozen? ⟨bs,0,none⟩:=by unfold World.frozen?;rw[k.2.1]
  rw[this];exact h.f⟩
def Ao6:∀{l:List UInt8} {c:UInt8},c∉l→Lib.indexByte l c=-1
 |[],_,_=>rfl
 |b::l,c,h=>by
  simp only[yH,uC]at h;rw[Lib.indexByte,zD (by simpa using Ne.symm h.1),Ao6 h.2];rfl
def A2s(bs:Nat)(W:World):Nat:=match W.cell? ⟨bs,0,none⟩ with|some (.string t)=>t.size|_=>0
set_option maxRecDepth 100000 in
set_option maxHeartbeats 4000000 in
theorem Tryz.split_stops(s:ByteArray)(hs:s.size<100000)(n:Nat)(hn:1≤n)(bp bs bv:Nat)(hd:bp≠bs∧bv≠bs)(w:World)(hw:SeqBox w bp bs bv s)(ab:bp<w.heap.size∧bs<w.heap.size∧bv<w.heap.size):Aj6 Fence.wide n Tryz.prog 248 #[.pointer (some ⟨bp,0,none⟩),.pointer (some ⟨bs,0,none⟩),.pointer (some ⟨bv,0,none⟩)] (λx:ByteArray=>#[.string x]) (λb=>b=bs) (A4k bp bs bv)
   (λxs=>xs=Ct 46 s) (λpre=>pre <+: Ct 46 s) (Ct 46 s).length w:=λl J Jx W hW hJ hJx hY h0=>by
 refine callsIn_of_wp Tryz.func248 E Y ?_ E;simp only[Tryz.ntmps248,uY,yL,xM,Nat.reduceAdd,Nat.reduceSub,tY,tZ,List.push_toArray,List.append_toArray,wC,xS];have ls:SeqBox W bp bs bv s:=hw.keep ⟨hW.block _ ab.1,hW.block _ ab.2.1,hW.block _ ab.2.2⟩;have c1:=ls.p;have c2:=ls.s;have c3:=ls.v
 gi_wp2
 gi_loopw [] (λwr=>∃j:Nat,j≤At9 46 s∧SeqBox wr bp bs bv (mkT (Cz 46 s.data.toList j))∧J ((Ct 46 s).take j) wr) (λwr=>A2s bs wr)
 case atStart=>
  exact⟨0,vA _,by rw[Cz,Kf];exact ls,h0⟩
 case round=>
  obtain ⟨j,hj,hb,hJj⟩:=hrel;have d1:=hb.p;have d2:=hb.s;have d3:=hb.v;have w4:=Ane 46 s.data.toList j;have bg:s.data.toList.length=s.size:=rfl;have ji:=Lc 46 s;have jh:=Ip (Cz 46 s.data.toList j);by_cases ab:j<At9 46 s
  ·have hi:=J2 (Ar3 ab);obtain ⟨m,mu⟩:∃m:Nat,Lib.indexByte (Cz 46 s.data.toList j) 46=m:=⟨(Lib.indexByte (Cz 46 s.data.toList j) 46).toNat,by omega⟩
   have q:=Tryz.strings_Index_one (mkT (Cz 46 s.data.toList j)) 46 wr;rw[Kg,mu]at q;rw[mu,zU]at hi;have yz:=A1c (c:=46) (s:=s) (j:=j) mu;have zw:=A45 (c:=46) (s:=s) (j:=j) mu;have bf:(Ct 46 s)[j]? = some (mkT (Ut 46 s.data.toList j)):=by
    have jx:j<s.data.toList.count 46:=ab;rw[Ct,xR (by rw[xF,tU];exact jx),uK,vW jx];rfl
   have hx:(mkT (Cz 46 s.data.toList j)).extract 0 m=mkT (Ut 46 s.data.toList j):=by
    rw[Eu,yz];simp
   have w5:(mkT (Cz 46 s.data.toList j)).extract (m+1) (mkT (Cz 46 s.data.toList j)).size=mkT (Cz 46 s.data.toList (j+1)):=by
    rw[Eu,zw,jh,yN]
   have gh:(Ct 46 s).take j++[mkT ((Cz 46 s.data.toList j).take m)]=(Ct 46 s).take (j+1):=by
    rw[vJ,bf,yz];rfl
   obtain ⟨fn,tmps,assign,body,hy,hR⟩:=hY _ (mkT ((Cz 46 s.data.toList j).take m)) wr hJj (by rw[yA];omega);rw[gh]at hR
   gi_wp2
   refine⟨Y,?_⟩;refine(callsIn_wide.2 q).mono ?_;rintro e w' ⟨rfl,rfl⟩
   gi_wp2
   refine hR.mono ?_;rintro e W' (⟨rfl,zx,hk⟩|⟨rfl,t7⟩)
   ·have sx:=hb.keep hk;have d1:=sx.p;have d2:=sx.s;have d3:=sx.v;have d4:=sx.f;have hsm1:(mkT (Cz 46 s.data.toList (j+1))).size+(m+1)=(mkT (Cz 46 s.data.toList j)).size:=by
     rw[jh,Ip,zw,yO];omega
    rw[jh]at w5
    gi_wp2
    rw[←zw];have e2:(W'.setCell ⟨bs,0,none⟩ (.string (mkT (Cz 46 s.data.toList (j+1))))).cell? ⟨bs,0,none⟩=some (.string (mkT (Cz 46 s.data.toList (j+1)))):=World.cell?_setCell_same' _ _ _ (by rw[d2];rfl);refine⟨⟨j+1,ab,⟨?_,e2,?_,?_⟩,hJ _ _ _ (some bs) zx (grownBy_setCell' _ _ _) (λr e=>by cases e;rfl)⟩,?_⟩
    ·rw[World.cell?_setCell_other _ _ _ _ (by intro e;cases e;exact hd.1 rfl)];exact d1
    ·rw[World.cell?_setCell_other _ _ _ _ (by intro e;cases e;exact hd.2 rfl)];exact d3
    ·rw[World.frozen?_setCell];exact d4
    ·unfold A2s;rw[e2,hb.s];simp only;omega
   ·gi_wp2
    refine bodyPost_ret (results_none E _ _ _) E ?_;exact⟨⟨_,E⟩,.inr ⟨_,List.take_prefix _ _,t7⟩⟩
  ·have dh:j=At9 46 s:=by omega
   have cu:(46:UInt8)∉Cz 46 s.data.toList j:=by
    have:=Yh 46 s.data.toList j hj;have e:At9 46 s=s.data.toList.count 46:=rfl;exact List.count_eq_zero.1 Go.Sy.q_
   have q:=Tryz.strings_Index_one (mkT (Cz 46 s.data.toList j)) 46 wr;rw[Kg,Ao6 cu]at q;have bf:(Ct 46 s)[j]? = some (mkT (Cz 46 s.data.toList j)):=by
    rw[dh,Ct,wG (by simp[At9])];simp[At9]
   have gh:(Ct 46 s).take j++[mkT (Cz 46 s.data.toList j)]=Ct 46 s:=by
    have:(Ct 46 s).take (j+1)=Ct 46 s:=xK Go.Sy.q_;rw[vJ,bf]at this;exact this
   have hlen:((Ct 46 s).take j).length<(Ct 46 s).length:=by rw[yA];omega
   clear dh;obtain ⟨fn,tmps,assign,body,hy,hR⟩:=hY _ (mkT (Cz 46 s.data.toList j)) wr hJj hlen;rw[gh]at hR
   gi_wp2
   refine⟨Y,?_⟩;refine(callsIn_wide.2 q).mono ?_;rintro e w' ⟨rfl,rfl⟩
   gi_wp2
   refine hR.mono ?_;rintro e W' (⟨rfl,zx,hk⟩|⟨rfl,t7⟩)
   ·gi_wp2
    go_end0
    exact⟨⟨_,E⟩,.inl ⟨_,E,zx⟩⟩
   ·gi_wp2
    go_end0
    exact⟨⟨_,E⟩,.inr ⟨_,List.prefix_rfl,t7⟩⟩
end Go.Proofs
namespace Go.Sy
open Go.RowKit
theorem Spec.calls{P:Program}{f:FuncId}{A:List SV}{R:SV}(h:Sy.Spec P f A [] R []){w:World}{vs:List Value}(hA:RdL κ0 w A vs):Calls P f vs.toArray w λe w'=>∃v κ',e=.returned v∧Rd κ' w' R v∧Below w.heap.size w w':=by
 refine(h κ0 w vs (inv0 w) (λk hk=>zY rfl hk) hA (λp hp=>by cases hp)).mono ?_;rintro e w' ⟨v,κ',rfl,ctx,inv,hR,_⟩;exact⟨v,κ',E,hR,Aac ctx⟩
theorem Spec.calls_tup2{P:Program}{f:FuncId}{A:List SV}{a b:Value}(h:Sy.Spec P f A [] (.tup [.val a,.val b]) []){w:World}{vs:List Value}(hA:RdL κ0 w A vs):Calls P f vs.toArray w λe w'=>e=.returned (.tuple #[a,b])∧Below w.heap.size w w' :=
 (h.calls hA).mono λe w' ⟨v,κ',he,hv,hb⟩=>by
  simp only[Rd,RdL]at hv;obtain ⟨cs,rfl,_,_,rfl,rfl,_,_,rfl,rfl,rfl⟩:=hv;exact⟨he,hb⟩
theorem Spec.of_calls2{P:Program}{f:FuncId}{A:List SV}{H:Obs}{a b:Value}(h:∀(κ:Ka) (w:World) (vs:List Value),Inv κ w→RdL κ w A vs→H.ok κ w→Calls P f vs.toArray w λe w'=>e=.returned (.tuple #[a,b])∧Below w.heap.size w w'):Spec P f A H (.tup [.val a,.val b]) H:=by
 intro κ w vs hi _ hr ho;refine(h κ w vs hi hr ho).mono λe w' hw=>?_
 obtain ⟨he,hw⟩:=hw;have g:Grew w w':=⟨hw.os,hw.tape,hw.output,hw.size,hw.block⟩
 have st:=Aat hi g;exact⟨.tuple #[a,b],κ,he,(Ctx.refl κ w).step st.2 st.1,st.2,by simp[Rd,RdL],λp hp=>ObOK.step st.1 y_ p.2 (ho p hp)⟩
def Afr{w w':World}(h:Below w.heap.size w w'):KeepsOthers w w':=⟨h.size,λk o hk _=>(h.block k (wX.1 hk).1).trans hk⟩
def Ags{A B:World}{row:Option Nat}{k:Nat}{v:Value}(h:A.cell? ⟨k,0,none⟩=some v)(hg:A.grownBy B row)(hr:row≠some k):B.cell? ⟨k,0,none⟩=some v∧B.frozen? ⟨k,0,none⟩=A.frozen? ⟨k,0,none⟩:=by
 obtain ⟨o,ho,_⟩:=cells_of_cell h;obtain ⟨_,_,_,_,h5⟩:=hg;have e:B.heap[k]? = A.heap[k]?:=h5 k (wX.1 ho).1 (λe=>hr e.symm);refine⟨(World.cell?_of_block e).trans h,?_⟩;unfold World.frozen?;rw[e]
def Var1(W:World)(k:Nat)(v:Value):Prop:=W.cell? ⟨k,0,none⟩=some v∧W.frozen? ⟨k,0,none⟩=false
theorem Var1.at{W:World}{B:Nat}{v:Value}{t:TypeId}(h:W.heap[B]? = some (.cells #[v] t (0,0))):Var1 W B v:=by
 constructor<;>simp[World.cell?,World.frozen?,h]
theorem Var1.below{A B:World}{k:Nat}{v:Value}(h:Var1 A k v)(hb:Below A.heap.size A B):Var1 B k v:=by
 obtain ⟨o,ho,_⟩:=cells_of_cell h.1;have e:B.heap[k]? = A.heap[k]?:=hb.block k (wX.1 ho).1;refine⟨(World.cell?_of_block e).trans h.1,?_⟩;rw[←h.2];unfold World.frozen?;rw[e]
theorem Var1.new(W:World)(v:Value)(t:TypeId){k:Nat}(hk:k=W.heap.size):Var1 (W.alloc (.cells #[v] t)) k v:=by
 subst hk;exact Var1.at (World.alloc_heap_new W _)
theorem Var1.grown{A B:World}{row:Option Nat}{k:Nat}{v:Value}(h:Var1 A k v)(hg:A.grownBy B row)(hr:row≠some k):Var1 B k v :=
 ⟨(Ags h.1 hg hr).1,(Ags h.1 hg hr).2.trans h.2⟩
theorem Var1.alloc{A:World}{k:Nat}{v:Value}(h:Var1 A k v)(o:Obj):Var1 (A.alloc o) k v:=h.grown (World.grownBy_alloc A o none) y_
theorem Var1.set{A:World}{k:Nat}{v:Value}(h:Var1 A k v)(u:Value):Var1 (A.setCell ⟨k,0,none⟩ u) k u :=
 ⟨World.cell?_setCell_same' _ _ _ (by rw[h.1];rfl),by rw[World.frozen?_setCell];exact h.2⟩
theorem Var1.other{A:World}{k b:Nat}{v:Value}(h:Var1 A k v)(hb:b≠k)(u:Value):Var1 (A.setCell ⟨b,0,none⟩ u) k v :=
 ⟨(World.cell?_setCell_other _ _ _ _ (by intro e;cases e;exact hb rfl)).trans h.1,by rw[World.frozen?_setCell];exact h.2⟩
end Go.Sy
namespace Go.Proofs
open Go.RowKit Go.Shelf Go.Sy Go.Sy.YticmobkdaneelaaGreatDoor
attribute [local go_sem] Oper.semAt_some
theorem Tryz.splitSeq_calls(s:ByteArray)(w:World):Calls Tryz.prog 126 #[.string s,.string ⟨#[46]⟩] w λe w'=>
  e=.returned (.func (.func 248) #[] #[.pointer (some ⟨w.heap.size+1,0,none⟩),.pointer (some ⟨w.heap.size,0,none⟩),.pointer (some ⟨w.heap.size+2,0,none⟩)]) ∧
   w'=((w.alloc (.cells #[.string s] 9)).alloc (.cells #[.string ⟨#[46]⟩] 9)).alloc (.cells #[.int .i64 0] 3):=by
 have q:Calls Tryz.prog 173 #[.string s,.string ⟨#[46]⟩,.int .i64 0] w λe w'=>
  e=.returned (.func (.func 248) #[] #[.pointer (some ⟨w.heap.size+1,0,none⟩),.pointer (some ⟨w.heap.size,0,none⟩),.pointer (some ⟨w.heap.size+2,0,none⟩)]) ∧
   w'=((w.alloc (.cells #[.string s] 9)).alloc (.cells #[.string ⟨#[46]⟩] 9)).alloc (.cells #[.int .i64 0] 3):=by
  refine(callsIn_wide (n:=3)).1 ?_;refine callsIn_of_wp Tryz.func173 E Y ?_ E;simp only[Tryz.ntmps173,uY,yL,xM,Nat.reduceAdd,Nat.reduceSub,tY,tZ,List.push_toArray,List.append_toArray,wC,xS]
  gi_wp2
  go_ret
  exact⟨E,E⟩
 refine(callsIn_wide (n:=3)).1 ?_;refine callsIn_of_wp Tryz.func126 E Y ?_ E;simp only[Tryz.ntmps126,uY,yL,xM,Nat.reduceAdd,Nat.reduceSub,tY,tZ,List.push_toArray,List.append_toArray,wC,xS]
 gi_wp2
 refine⟨Y,?_⟩;refine(callsIn_wide.2 q).mono ?_;rintro e w' ⟨rfl,rfl⟩
 gi_wp2
 go_ret
 exact⟨E,E⟩
def Ac9:List ByteArray→Int
 |[]=>0
 |l=>l.foldl (λa x=>bits .or .u32 (IntKind.u32.wrap (a*2^8)) (IntKind.u32.wrap (smallT x 255).1)) 0
def Axt(x:ByteArray):Bool:=(smallT x 255).2
def Dy(s:ByteArray):Int×Bool:=if (Ct 46 s).length=4∧(Ct 46 s).all Axt=true then (Ac9 (Ct 46 s),true) else (0,false)
def Ym(l:List ByteArray)(x:ByteArray):Ac9 (l++[x])=bits .or .u32 (IntKind.u32.wrap (Ac9 l*2^8)) (IntKind.u32.wrap (smallT x 255).1):=by
 cases l with
 |nil=>rfl
 |cons y l=>simp[Ac9]
set_option maxRecDepth 100000 in
set_option maxHeartbeats 4000000 in
theorem Tryz.addrRead_calls(s:ByteArray)(hs:s.size<100000)(w:World):Calls Tryz.prog 71 #[.string s] w λe w'=>e=.returned (.tuple #[.int .u32 (Dy s).1,.bool (Dy s).2])∧Below w.heap.size w w':=by
 refine(callsIn_wide (n:=5)).1 ?_;refine callsIn_of_wp_marks Tryz.func71 E Y ?_ E;simp only[Tryz.ntmps71,uY,yL,xM,Nat.reduceAdd,Nat.reduceSub,tY,tZ,List.push_toArray,List.append_toArray,wC,xS]
 gi_wp2
 refine wpIn_wide.2 (wp_scope_straight ((wpIn_wide (n:=5)).1 ?_))
 gi_wp2
 refine wpIn_label ?_
 gi_wp2
 refine⟨Y,?_⟩;refine(callsIn_wide.2 (Tryz.splitSeq_calls s _)).mono ?_;rintro e w' ⟨rfl,rfl⟩
 gi_wp2
 obtain ⟨W0,ls⟩:∃W0,((((w.alloc (.cells #[.int .u32 0] 82)).alloc (.cells #[.int .i64 0] 3)).alloc (.cells #[.string s] 9)).alloc (.cells #[.string ⟨#[46]⟩] 9)).alloc (.cells #[.int .i64 0] 3)=W0:=⟨_,rfl⟩
 have bg:W0.heap.size=w.heap.size+5:=by rw[←ls];simp
 have hB0:Below w.heap.size w W0:=by
  rw[←ls];exact(((((Below.refl _ w).alloc (yG _) _).alloc Go.Sy.y_ _).alloc (by simp;omega) _).alloc (by simp;omega) _).alloc (by simp;omega) _
 have ca:Var1 W0 w.heap.size (.int .u32 0):=by rw[←ls];exact((((Var1.new _ _ _ rfl).alloc _).alloc _).alloc _).alloc _
 have ci:Var1 W0 (w.heap.size+1) (.int .i64 0):=by rw[←ls];exact(((Var1.new (w.alloc _) _ _ Go.Sy.y_).alloc _).alloc _).alloc _
 have cs:Var1 W0 (w.heap.size+2) (.string s):=by rw[←ls];exact((Var1.new ((w.alloc _).alloc _) _ _ Go.Sy.y_).alloc _).alloc _
 have cp:Var1 W0 (w.heap.size+3) (.string ⟨#[46]⟩):=by rw[←ls];exact(Var1.new (((w.alloc _).alloc _).alloc _) _ _ Go.Sy.y_).alloc _
 have cv:Var1 W0 (w.heap.size+4) (.int .i64 0):=by rw[←ls];exact Var1.new ((((w.alloc _).alloc _).alloc _).alloc _) _ _ Go.Sy.y_
 have cb:SeqBox W0 (w.heap.size+3) (w.heap.size+2) (w.heap.size+4) s:=⟨cp.1,cs.1,cv.1,cs.2⟩
 rw[ls];clear ls;have fx:∀{k:Nat} {W:World} {row:Option Nat},k≤w.heap.size+1→(∀r,row=some r→r=w.heap.size+2∨(W0.heap.size≤r∧∃o:Obj,W.heap[r]? = some o∧o.isCells=false))→row≠some k:=λhk hr e=>by
  rcases hr _ e with h|⟨h,_⟩<;>omega
 have ve:∀{W:World} {row:Option Nat},(∀r,row=some r→r=w.heap.size+2∨(W0.heap.size≤r∧∃o:Obj,W.heap[r]? = some o∧o.isCells=false))→∀r,row=some r→w.heap.size≤r:=λhr r e=>by
  rcases hr _ e with h|⟨h,_⟩<;>omega
 refine Wf E Go.Sy.q_ (gf:=248) (lb:=#[.pointer (some ⟨w.heap.size+3,0,none⟩),.pointer (some ⟨w.heap.size+2,0,none⟩),.pointer (some ⟨w.heap.size+4,0,none⟩)]) E Y (enters_of Tryz.func248 Go.Sy.z_ E)
  (Tryz.split_stops s hs 4 Go.Sy.q_ (w.heap.size+3) (w.heap.size+2) (w.heap.size+4) ⟨by omega,by omega⟩ W0 cb Go.Sy.q_) (λb hb=>by omega)
  (λh k=>⟨k.1.trans h.1,k.2.1.trans h.2.1,k.2.2.trans h.2.2⟩)
  (λW l o o' hl _ _ _=>⟨World.putObj_heap_other Go.Sy.q_,World.putObj_heap_other Go.Sy.q_,World.putObj_heap_other Go.Sy.q_⟩) (Below.refl _ _) (λ_=>rfl)
  (λpre W=>Var1 W w.heap.size (.int .u32 (Ac9 pre))∧Var1 W (w.heap.size+1) (.int .i64 pre.length)∧(pre.length≤4∧pre.all Axt=true)∧Below w.heap.size w W∧w.heap.size+5≤W.heap.size)
  (λc pre W=>c=.exit 0∧Var1 W (w.heap.size+1) (.int .i64 0)∧¬(pre.length≤4∧pre.all Axt=true)∧Below w.heap.size w W)
  (λpre A B row hs hg hr=>⟨hs.1.grown hg (fx Go.Sy.q_ hr),hs.2.1.grown hg (fx Go.Sy.q_ hr),hs.2.2.1,hs.2.2.2.1.grown hg hs.2.2.2.1.size (ve hr),wO hs.2.2.2.2 hg.size⟩)
  (λc pre A B row hs hg hr=>⟨hs.1,hs.2.1.grown hg (fx Go.Sy.q_ hr),hs.2.2.1,hs.2.2.2.grown hg hs.2.2.2.size (ve hr)⟩)
  ⟨ca,ci,⟨by simp,rfl⟩,hB0,by omega⟩
  (λ x=>{ tmps:=#[.string s,undef,.int .u32 0,.bool false,.pointer (some ⟨w.heap.size,0,none⟩),.pointer (some ⟨w.heap.size+1,0,none⟩),.string x,undef,undef,.string s,
   .func (.func 248) #[] #[.pointer (some ⟨w.heap.size+3,0,none⟩),.pointer (some ⟨w.heap.size+2,0,none⟩),.pointer (some ⟨w.heap.size+4,0,none⟩)],.string x,
   undef,undef,undef,undef,undef,undef,undef,undef,undef,undef,undef,undef,undef,undef,undef,undef,undef,undef,undef,undef,undef],defers:=[] }) ?assign ?body ?done ?stop
 case assign=>
  intro l x W K hK
  gi_wp2
  exact hK
 case body=>
  rintro l pre x W ⟨ha,hi,⟨ig,ec⟩,hB,hB5⟩ _;have q:=(Ag0 x 255).calls_tup2 (w:=W) (vs:=[.string x,.int .i64 255]) (by simp only[RdL];exact⟨_,_,rfl,by simp[Rd,Aw],_,_,rfl,by simp[Rd,Aa],rfl⟩);have ff:=Ym pre x;have ku:((pre++[x]).all Axt)=Axt x:=by rw[List.all_append,ec];simp
  have jy:(pre++[x]).length=pre.length+1:=by simp
  have zy:Axt x=(smallT x 255).2:=rfl;generalize smallT x 255=sm at *;obtain ⟨v,ok⟩:=sm;dsimp only at ff zy q
  gi_wp2
  refine⟨Y,?_⟩;refine(CallsIn.inRound l (callsIn_wide.2 q)).mono ?_;rintro e w' ⟨rfl,hb⟩;have z6:=ha.below hb;have hi':=hi.below hb;have hB':Below w.heap.size w w':=hB.trans (hb.mono hB.size);have fg:=Afr hb;have a1:=z6.1;have a2:=z6.2;have b1:=hi'.1;have b2:=hi'.2;have s1:∀(u v:Value),Below w.heap.size w ((w'.setCell ⟨w.heap.size+1,0,none⟩ u).setCell ⟨w.heap.size+1,0,none⟩ v):=λu v=>
   (hB'.setCell (p:=⟨w.heap.size+1,0,none⟩) (uZ _) u).setCell (p:=⟨w.heap.size+1,0,none⟩) (uZ _) v
  cases ok
  ·gi_wp2
   exact⟨fg.trans ((KeepsOthers.setCell _ _ _).trans (KeepsOthers.setCell _ _ _)),rfl,(hi'.set _).set _,(λe=>by rw[ku,zy]at e;cases e.2),s1 _ _⟩
  ·by_cases h4:pre.length+1≤4
   ·have z7:Ac9 (pre++[x])=bits .or .u32 (Ac9 pre*256%4294967296) (v%4294967296):=by rw[ff,IntKind.wrap_u32,IntKind.wrap_u32];rfl
    gi_wp2
    refine⟨fg.trans ((KeepsOthers.setCell _ _ _).trans (KeepsOthers.setCell _ _ _)),⟨?_,?_,?_⟩,?_,?_,⟨by omega,by rw[ku,zy]⟩,?_,?_⟩
    ·rw[Below.heap_setCell _ _ _ _ Go.Sy.y_,Below.heap_setCell _ _ _ _ Go.Sy.y_];exact hb.block _ Go.Sy.q_
    ·rw[Below.heap_setCell _ _ _ _ Go.Sy.y_,Below.heap_setCell _ _ _ _ Go.Sy.y_];exact hb.block _ Go.Sy.q_
    ·rw[Below.heap_setCell _ _ _ _ Go.Sy.y_,Below.heap_setCell _ _ _ _ Go.Sy.y_];exact hb.block _ Go.Sy.q_
    ·rw[z7];exact(z6.other Go.Sy.y_ _).set _
    ·rw[jy];exact(hi'.set _).other Go.Sy.y_ _
    ·exact(hB'.setCell (p:=⟨w.heap.size+1,0,none⟩) (uZ _) _).setCell (p:=⟨w.heap.size,0,none⟩) (yG _) _
    ·have:=hb.size;simp;omega
   ·gi_wp2
    exact⟨fg.trans ((KeepsOthers.setCell _ _ _).trans (KeepsOthers.setCell _ _ _)),E,(hi'.set _).set _,λe=>by omega,s1 _ _⟩
 case done=>
  rintro D xs W hD rfl ⟨ha,hi,⟨ig,ec⟩,hB,_⟩ hK;have a1:=ha.1;have a2:=ha.2;have b1:=hi.1;have b2:=hi.2;by_cases h4:(Ct 46 s).length=4
  ·have hr:Dy s=(Ac9 (Ct 46 s),true):=by rw[Dy,zG ⟨h4,ec⟩]
   gi_wp2
   refine⟨by simp,.inl ⟨_,_,E,run_takeDeferred hK,?_⟩⟩;exact⟨_,results_tmp2 E _ _ _,by rw[hr];rfl,hB.trans (belowK_b (w:=w) (yG _) W D _ _ Go.Sy.q_ hK E E)⟩
  ·have hr:Dy s=(0,false):=by rw[Dy,zD (λe=>h4 e.1)]
   gi_wp2
   refine⟨by simp,.inl ⟨_,_,E,run_takeDeferred hK,?_⟩⟩;exact⟨_,results_tmp2 E _ _ _,by rw[hr];rfl,hB.trans (belowK_b (w:=w) (yG _) W D _ _ Go.Sy.q_ hK E E)⟩
 case stop=>
  rintro D c pre W hD w6 ⟨rfl,hi,df,hB⟩ hK;have b1:=hi.1;have b2:=hi.2;have hr:Dy s=(0,false):=by
   rw[Dy,zD];intro e;refine df ⟨by have:=w6.length_le;omega,?_⟩;rw[yZ]at e⊢;exact λx hx=>e.2 x (w6.subset hx)
  gi_wp2
  refine⟨by simp,.inl ⟨_,_,E,run_takeDeferred hK,?_⟩⟩;exact⟨_,results_tmp2 E _ _ _,by rw[hr];rfl,hB.trans (belowK_b (w:=w) (yG _) W D _ _ Go.Sy.q_ hK E E)⟩
end Go.Proofs
namespace Go.Sy.YticmobkdaneelaaGreatDoor
open Go.Proofs Go.Proofs.Tryz
def Abo(s:ByteArray)(hs:s.size<100000):Sp 71 [Aw s] (.tup [Bb (Dy s).1,Ab (Dy s).2]) :=
 Spec.of_calls2 λκ w vs _ hr _=>by
  simp only[RdL]at hr;obtain ⟨v,r,rfl,hv,rfl⟩:=hr;simp only[Aw,Rd]at hv;subst hv;exact Tryz.addrRead_calls s hs w
set_option maxRecDepth 20000
set_option maxHeartbeats 4000000
def V6{x:Int}(h0:0≤x)(h1:x<4294967297):IntKind.i64.wrap x=x:=by
 rw[IntKind.wrap_i64];omega
def Awj{x:Int}(h0:0≤x)(h1:x<4294967296):IntKind.u32.wrap x=x:=by
 rw[IntKind.wrap_u32];omega
def Ain(b:Int)(h:0≤b∧b≤32):Anf b=((2^(32-b).toNat-1:Nat):Int):=by
 obtain ⟨k,hk,dg⟩:∃k:Nat,(32-b).toNat=k∧k≤32:=⟨_,rfl,by omega⟩
 have h1:min (32-b).toNat IntKind.u32.bits=k:=by show min (32-b).toNat 32=k;omega
 have hp:=wY (n:=2) j_ dg;have vf:(2:Nat)^32=4294967296:=rfl;rw[vf]at hp;have h0:=wZ (n:=k);rw[Anf,h1,hk,IntKind.wrap_u32,IntKind.wrap_u32,show (2:Int)^k=((2^k:Nat):Int) by rw[uX];rfl];generalize 2^k=q at *;omega
def U5(a b x:Int)(hb:0≤b∧b≤32)(ha:0≤a∧a<4294967296)(hx:0≤x∧x<4294967296):Ahq a b x=true↔Dg a b≤x∧x≤Hz a b:=by
 obtain ⟨a,rfl⟩:=xB ha.1;obtain ⟨x,rfl⟩:=xB hx.1;obtain ⟨k,hk,dg⟩:∃k:Nat,(32-b).toNat=k∧k≤32:=⟨_,rfl,by omega⟩
 have h0:=wZ (n:=k);rw[Ahq,Ain b hb,hk,A2e a x k q_ q_ dg,decide_eq_true_iff,Aw5 a x (2^k) q_,K8 a k b hb hk,Aa7 a k b hb hk];omega
def Qx(a b:Int)(ha:0≤a∧a<4294967296):0≤Hz a b∧Hz a b<4294967296:=by
 by_cases hb:0≤b∧b≤32
 ·obtain ⟨a,rfl⟩:=xB ha.1;obtain ⟨k,hk,dg⟩:∃k:Nat,(32-b).toNat=k∧k≤32:=⟨_,rfl,by omega⟩
  have h0:=wZ (n:=k);rw[Aa7 a k b hb hk];have hd:a-a%2^k=2^k*(a/2^k):=by have:=vX a (2^k);omega
  have y0:2^k*2^(32-k)=4294967296:=by
   rw[←Nat.pow_add,show k+(32-k)=32 by omega]
  have:a/2^k<2^(32-k):=by rw[Nat.div_lt_iff_lt_mul q_,vB,y0];omega
  have:2^k*(a/2^k)+2^k≤2^k*2^(32-k):=by
   rw[←Nat.mul_succ];exact Nat.mul_le_mul_left _ this
  omega
 ·rw[Hz,zD hb];omega
def Abd(a b:Int)(ha:0≤a∧a<4294967296):0≤Dg a b∧Dg a b<4294967296:=by
 by_cases hb:0≤b∧b≤32
 ·obtain ⟨a,rfl⟩:=xB ha.1;rw[K8 a _ b hb rfl];omega
 ·rw[Dg,zD hb];omega
attribute [local irreducible] Go.Sy.G Go.Sy.DR
def Ayb{n:Net}{irb dst:Int}(h:(lookT n irb dst).2=true):Xm n irb dst (lookT n irb dst).1.toNat=true:=by
 unfold lookT at h⊢;split at h
 ·cases h
 rename_i h1;rw[zD h1];split at h
 ·cases h
 rename_i h2;rw[zD h2];have hm:=Uw (Yj n irb) (Jb n irb dst) (xN.2 h2) ((Jb n irb dst).length-1) (by have:=xN.2 h2;omega);exact((filtI_mem (p:=Xm n irb dst) (j:=n.irbs.length)).1 hm).2.2
def Aw6(x:Int)(i:Irb):Sp 311 [B4 i,.ref 1 (Bb x) 0] (Ab (i.addr==x)):=cT F311 ntmps311 λF hF=>by
 refine fW ?_;exact dN
def Aw7(x:Int)(i:Irb):Sp 241 [B4 i,.ref 1 (Bb x) 0] (Ab (i.addr==x)):=cT F241 ntmps241 λF hF=>by
 refine fW ?_;exact dN
def Ib(n:Net)(a:Int):Bool:=decide (0≤Bv (λi:Irb=>i.addr==a) n.irbs)
def pastI(n:Net)(a ju:Int):Int:=if Ib n a=true then a+1 else Hz (nth n.irbs ju).addr (nth n.irbs ju).bits+1
def Aqd(n:Net)(hn:n.Fin)(hu:Dr n)(a ju:Int)(ha:0≤a∧a<4294967296)(hl:Ib n a=false→InIrbs n ju):Sp 242 [Am n,Bb a,Aa ju] (Aa (pastI n a ju)):=cT F242 ntmps242 λF hF=>by
 have ak:=pastI.eq_1 n a ju;generalize pastI n a ju=res at *;have q7:=Ks n.irbs (λi:Irb=>i.addr==a) 311 [] [.ref 1 (Bb a) 0] rfl (λi _=>⟨⟨_,_,F311⟩,Aw6 a i⟩) hn.irbs;have ht:decide (0≤Bv (λi:Irb=>i.addr==a) n.irbs)=Ib n a:=rfl;rw[ht]at q7;generalize Ib n a=tk at *;refine fW ?_;refine Bf 3 8 (Am n) E E E ?_;refine Bf 4 1 (Bb a) E E E ?_;refine fU ?_;refine c0 q7 F240 ?_;cases tk;rotate_left
 ·rw[zG rfl]at ak;subst ak;refine fU ?_;rw[V6 q_ q_];refine iL ?_;refine fW ?_;exact dN
 rw[zD y_]at ak;have nq:=hl rfl;rw[Ai nq.2]at ak;have lu:=hu _ (zI nq.2);obtain ⟨x,hx⟩:∃x,n.irbs[ju.toNat]'nq.2=x:=⟨_,rfl⟩
 rw[hx]at ak lu;obtain ⟨y,hy⟩:=xB lu.1;have q:=Abp y x.bits q_;have hle:=Qx x.addr x.bits lu;rw[←hy]at q;generalize Hz x.addr x.bits=z at *;subst ak;refine fU ?_;refine⟨E,nq.1,nq.2,?_⟩;rw[hx];refine fW ?_
 first|refine cD q F131 ?_|refine c0 q F131 ?_
 refine fU ?_;rw[V6 q_ q_];refine iL ?_;refine fW ?_;exact dN
def Anw{n:Net}(hu:Dr n)(hb:Ac n=true){irb a:Int}(ha:0≤a∧a<4294967296)(h:Ib n a=false→(lookT n irb a).2=true):a<pastI n a (lookT n irb a).1∧pastI n a (lookT n irb a).1≤4294967296:=by
 rw[pastI];split
 ·omega
 rename_i ht;have h2:=h (by simpa using ht);have hw:=Ayb h2;have hi:=Uy h2;have e:((lookT n irb a).1.toNat:Int)=(lookT n irb a).1:=by have:=hi.1;omega
 rw[Xm,zE,e]at hw;rw[Ai hi.2]at hw⊢;have lu:=hu _ (zI hi.2);have qy:=(Da hb hi.2).2.2;have h3:=(U5 _ _ _ qy lu ha).1 hw.1;have h4:=Qx _ (n.irbs[(lookT n irb a).1.toNat]'hi.2).bits lu;omega
def addrGo(n:Net)(irb to e:Int)(x:Int):Int×Bool :=
 if x≤e then
  if (lookT n irb x).2=true∧(lookT n irb x).1=to∧Ib n x=false then (x,true)
  else if (lookT n irb x).2=false∧Ib n x=false then (0,false)
  else if x<pastI n x (lookT n irb x).1 then addrGo n irb to e (pastI n x (lookT n irb x).1) else (0,false)
 else (0,false)
 termination_by (e+1-x).toNat
 decreasing_by omega
def addrT(n:Net)(irb to:Int):Int×Bool :=
 if (0≤irb∧irb<n.irbs.length)∧(0≤to∧to<n.irbs.length)∧Ac n=true then
  addrGo n irb to (Hz (nth n.irbs to).addr (nth n.irbs to).bits) (Dg (nth n.irbs to).addr (nth n.irbs to).bits) else (0,false)
def Agr(n:Net)(hn:n.Fin)(hu:Dr n)(irb to:Int):Sp 163 [Am n,Aa irb,Aa to] (.tup [Bb (addrT n irb to).1,Ab (addrT n irb to).2]):=cT F163 ntmps163 λF hF=>by
 have ak:=addrT.eq_1 n irb to;generalize addrT n irb to=res at *;have hr:=A1 n hn;have w7:=hn.irbs;unfold An at w7;refine fW ?_;constructor<;>intro h
 ·rw[zD (qA h)]at ak;subst ak;exact gC
 have h1:¬irb<0:=zQ h;refine fU ?_;constructor<;>intro h
 ·rw[zD (qA h)]at ak;subst ak;exact gC
 have h2:¬to<0:=zQ h;refine Bf 3 8 (Am n) E E E ?_;refine fU ?_;constructor<;>intro h
 ·rw[zD (qA h)]at ak;subst ak;exact gC
 have h3:irb<n.irbs.length:=qB h;refine fU ?_;constructor<;>intro h
 ·rw[zD (qA h)]at ak;subst ak;exact gC
 have h4:to<n.irbs.length:=qB h;refine fU ?_;refine c0 hr F22 ?_;cases hb:Ac n
 ·rw[zD (by simp[hb])]at ak;subst ak;exact gC
 rw[zG ⟨⟨by omega,h3⟩,⟨by omega,h4⟩,hb⟩]at ak;have ed:InIrbs n to:=⟨by omega,by omega⟩
 have hii:InIrbs n irb:=⟨by omega,by omega⟩
 rw[Ai ed.2]at ak;have lu:=hu _ (zI ed.2);obtain ⟨x,hx⟩:∃x,n.irbs[to.toNat]'ed.2=x:=⟨_,rfl⟩
 rw[hx]at ak lu;obtain ⟨y,hy⟩:=xB lu.1;have q1:=Yn y x.bits q_;have q2:=Abp y x.bits q_;have hf:=Abd x.addr x.bits lu;have hle:=Qx x.addr x.bits lu;rw[←hy]at q1 q2;generalize Hz x.addr x.bits=e at *;generalize Dg x.addr x.bits=s at *;refine fU ?_;refine⟨E,ed.1,ed.2,?_⟩;rw[hx];refine fW ?_;refine cD q1 F130 ?_;refine fU ?_;refine cD q2 F131 ?_;refine fU ?_;refine⟨z_,?_⟩;refine fW ?_;refine C3 (λz:Int=>0≤z∧z≤4294967296∧res=addrGo n irb to e z) (λz=>[(1,Aa irb),(2,Aa to),(3,.ref 8 (Am n) 0),(9,Aa z),(10,Aa e)]) (λ_=>[]) (λz=>(e+1-z).toNat) s [] ⟨hf.1,by omega,ak⟩
  ⟨⟨rfl,rfl,rfl,rfl,rfl,rfl,zH Aa (V6 (x:=s) q_ q_).symm,rfl,zH Aa (V6 (x:=e) q_ q_).symm,rfl,trivial⟩,trivial,rfl,rfl⟩ ?_
 clear ak;rintro z ⟨bu,hz1,ak⟩;refine fU ?_;constructor<;>intro h
 ·have h5:z≤e:=zK h;rw[addrGo,zG h5]at ak;have t8:0≤z∧z<4294967296:=by omega
  have q6:=Akq n hn hb irb z hii;have yw:=Anw (irb:=irb) hu hb t8;have kv:=Uy (n:=n) (irb:=irb) (dst:=z);have q8:=λju hl=>Aqd n hn hu z ju t8 hl
  have q7:=Ks n.irbs (λi:Irb=>i.addr==z) 241 [] [.ref 1 (Bb z) 0] rfl (λi _=>⟨⟨_,_,F241⟩,Aw7 z i⟩) hn.irbs;have ht:decide (0≤Bv (λi:Irb=>i.addr==z) n.irbs)=Ib n z:=rfl;rw[ht]at q7;clear ht;generalize Ib n z=tk at *;generalize lookT n irb z=ld at *;obtain ⟨ju,ok⟩:=ld;dsimp only at *;refine fU ?_;rw[Awj t8.1 t8.2];refine c0 q6 F239 ?_;refine Bf 11 1 (Bb z) E E E ?_;refine fU ?_;refine c0 q7 F240 ?_;cases ok
  ·cases tk
   ·rw[zD y_,zG ⟨rfl,rfl⟩]at ak;subst ak;exact gC
   ·rw[zD y_,zD y_,zG (yw (λh=>by cases h)).1]at ak;have hg:=yw (λh=>by cases h);have q:=q8 ju (λh=>by cases h);generalize pastI n z ju=nx at *;refine fU ?_;refine c0 q F242 ?_;refine fU ?_;exact Be nx [] ⟨by omega,hg.2,ak⟩ q_ kU
  ·have q:=q8 ju (λ_=>kv rfl);have hg:=yw (λ_=>rfl);cases tk
   ·by_cases eh:ju=to
    ·subst eh;rw[zG ⟨rfl,rfl,rfl⟩]at ak;subst ak;refine fU ?_;constructor<;>intro h
     ·exact gC
     ·simp at h
    ·rw[zD (by simp[eh]),zD y_,zG hg.1]at ak;generalize pastI n z ju=nx at *;refine fU ?_;refine⟨λh=>zY (by simpa using h) eh,λh=>?_⟩;refine fU ?_;refine c0 q F242 ?_;refine fU ?_;exact Be nx [] ⟨by omega,hg.2,ak⟩ q_ kU
   ·rw[zD y_,zD y_,zG hg.1]at ak;generalize pastI n z ju=nx at *;refine fU ?_;constructor<;>intro h
    ·refine fU ?_;refine c0 q F242 ?_;refine fU ?_;exact Be nx [] ⟨by omega,hg.2,ak⟩ q_ kU
    ·refine fU ?_;refine c0 q F242 ?_;refine fU ?_;exact Be nx [] ⟨by omega,hg.2,ak⟩ q_ kU
 ·have h5:¬z≤e:=zQ h;rw[addrGo,zD h5]at ak;subst ak;exact gC
set_option maxHeartbeats 8000000
def Ol{i:Int}{n:Nat}(h:0≤i∧i<n):Ah i n=true:=by simp only[Ah,zE,zJ];exact h
def Y9{i:Int}{n:Nat}(h:¬(0≤i∧i<n)):Ah i n=false:=by simp only[Ah,yQ,zX];omega
def O0(c:Int→Int→Int)(l:List Int):Int:=if l=[] then -1 else Wi c l (l.length-1)
def Aoe(c:Int→Int→Int)(l:List Int)(x:Int)(j:Nat)(h:j+1≤l.length):Wi c (l++[x]) j=Wi c l j:=by
 rw[Wi,Wi,List.drop_append_of_le_length q_,uJ (by simp;omega)];congr 1;cases l with
 |nil=>simp at h
 |cons a l=>rfl
def Auf(c:Int→Int→Int)(l:List Int)(x:Int)(h:l≠[]):O0 c (l++[x])=if 0<c x (O0 c l) then x else O0 c l:=by
 have hl:0<l.length:=xN.2 h;rw[O0,zD y_,O0,zD h];have e:(l++[x]).length-1=(l.length-1)+1:=by simp;omega
 rw[e,Aa5 c (l++[x]) (l.length-1) (by simp;omega),Aoe c l x (l.length-1) q_];have e2:(l++[x])[l.length-1+1]'(by simp;omega)=x:=by
  have:l.length-1+1=l.length:=by omega
  simp[this]
 rw[e2]
def Azf(c:Int→Int→Int)(x:Int):O0 c [x]=x:=by
 rw[O0,zD y_];rfl
def Aj0(c:Int→Int→Int)(l:List Int)(h:l≠[]):O0 c l∈l:=by
 have hl:0<l.length:=xN.2 h;rw[O0,zD h];exact Uw c l hl _ q_
def filtI_in{p:Nat→Bool}{j:Nat}{x:Int}(h:x∈Ih p j):0≤x∧x<j:=by
 have:=filtI_mem.1 h;omega
set_option maxHeartbeats 4000000
structure Hop where
 (kind port domain addr:Int)
abbrev Ek(h:Hop):SV:=.agg [Aa h.kind,Aa h.port,Aa h.domain,Bb h.addr]
instance:Inhabited Hop:=⟨⟨0,0,0,0⟩⟩
def Agk(n:Net)(d:Int):Prop:=(0≤d∧d<n.domains.length)∧Ac n=true
instance (n:Net)(d:Int):Decidable (Agk n d):=inferInstanceAs (Decidable (_∧_))
def Anh(n:Net)(hn:n.Fin)(d:Int):Sp 161 [Am n,Aa d] (Ab (decide (Agk n d))):=cT F161 ntmps161 λF hF=>by
 have hr:=A1 n hn;refine fW ?_;constructor<;>intro h
 ·have h1:0≤d:=zK h;refine Bf 2 8 (Am n) E E E ?_;refine fU ?_;constructor<;>intro h
  ·have h2:d<n.domains.length:=zK h;refine fU ?_;refine c0 hr F22 ?_;refine fU ?_;refine At E (.cons .tmp .nil) (zH Ab ?_) E;cases hb:Ac n<;>simp[Agk,h1,h2,hb]
  ·have h2:¬d<n.domains.length:=zQ h;refine fU ?_;refine At E (.cons .tmp .nil) (zH Ab ?_) E;simp[Agk,h2]
 ·have h1:¬0≤d:=zQ h;refine fU ?_;refine At E (.cons .tmp .nil) (zH Ab ?_) E;simp[Agk,h1]
def linkHop(n:Net)(d p:Int):Option Hop:=if (linkDomT n p (nth n.domains d).vlan).2=true then some ⟨1,p,(linkDomT n p (nth n.domains d).vlan).1,0⟩ else none
def Sz(p:Int):Hop:=⟨2,0,p,0⟩
def hopsL(n:Net)(d:Int):List Hop:=(Bn n d).filterMap (linkHop n d)++(nth n.domains d).peers.map Sz
def Eo(n:Net)(d:Int):List Hop:=if Agk n d then hopsL n d else []
def Alb{n:Net}{d:Int}{l:List Int}{j:Nat}{p:Int}(h:j<l.length)(hp:l[j]=p):(l.take (j+1)).filterMap (linkHop n d) =
  (l.take j).filterMap (linkHop n d)++(match linkHop n d p with|some h=>[h]|none=>[]):=by
 subst hp;rw[vJ,zT h,List.filterMap_append];cases hh:linkHop n d l[j]<;>simp[hh]
def Ar4(n:Net)(hn:n.Fin)(d:Int):Sp 108 [Am n,Aa d] (.sl 4 Ek (Eo n d)):=cT F108 ntmps108 λF hF=>by
 have hp:=Anh n hn d;have de:=Qc n hn d;have vg:=Kh n hn d;unfold An at vg;refine fW ?_;refine Bf 2 8 (Am n) E E E ?_;refine fU ?_;refine c0 hp F161 ?_;by_cases hd:Agk n d;rotate_left
 ·rw[Eo,zD hd,zL hd];refine fU ?_;refine Au 4 4 Ek E ?_;exact gC
 rw[Eo,zG hd,zO hd];have hk:d.toNat<n.domains.length:=by have:=hd.1;omega
 have h0:0≤d:=hd.1.1;have gp:=hn.peers _ (zI hk);unfold An at gp;have hh:=hopsL.eq_1 n d;have z8:=linkHop.eq_1 n d;have ff:=λj p h hp=>Alb (n:=n) (d:=d) (l:=Bn n d) (j:=j) (p:=p) h hp
 have il:∀j,((Bn n d).take j |>.filterMap (linkHop n d)).length≤(Bn n d).length:=λj=>by
  refine wO (tB _ _) ?_;rw[yA];omega
 have dw:(Bn n d).take (Bn n d).length=Bn n d:=yN;rw[Ai hk]at hh z8;obtain ⟨x,hx⟩:∃x,n.domains[d.toNat]'hk=x:=⟨_,rfl⟩
 rw[hx]at hh z8 gp;generalize hopsL n d=res at *;generalize Bn n d=mem at *;refine fU ?_;refine c0 de F39 ?_;refine fU ?_;refine B7 5 1000 4 Ek E E ?_;refine A5 mem.length (λj=>[(1,Aa d),(2,.ref 8 (Am n) 0),(5,.osl 1000),(18,.sl 1 Aa mem),(19,Aa mem.length),(20,Aa j)]) (λj=>[(1000,.row 4 Ek ((mem.take j).filterMap (linkHop n d)))]) []
  kU ?_
 intro j hj;have hflj:=il j;refine fU ?_;constructor<;>intro h
 ·have ab:j<mem.length:=by simpa using h
  have ai:(j:Int).toNat<mem.length:=by simpa using ab
  obtain ⟨p,xa⟩:∃p,mem[(j:Int).toNat]'ai=p:=⟨_,rfl⟩
  have hs:=ff j p ab xa;have q:=Zm n hn p x.vlan;rw[z8 p]at hs;generalize linkDomT n p x.vlan=ld at *;obtain ⟨to,ok⟩:=ld;refine fU ?_;refine⟨E,by omega,ai,?_⟩;rw[xa];refine fW ?_;refine⟨E,h0,hk,?_⟩;rw[hx];refine fW ?_;refine cD q F162 ?_;refine fU ?_;refine⟨z_,?_⟩;refine fW ?_;dsimp only at hs;refine⟨λh=>?_,λh=>?_⟩<;>(have h:ok=_:=h;subst h)
  ·refine fU ?_;refine Af (Ag Γ.toTy 42 E E E E E (.row E) (.lit (e:=Ek) (l:=[⟨1,p,to,0⟩]) E E) y_ (by simp;omega) (by simp;omega)) E E ?_;refine gG ?_;exact Ay [(1000,42)] ab ⟨⟨E,E,E,E,E,E,E,E,E,E,E,E,Y⟩,⟨.inl (zH (Ob.row 4 Ek) hs),E,Y⟩,E,E⟩
  ·refine gG ?_;exact Ay [] ab ⟨⟨E,E,E,E,E,E,E,E,E,E,E,E,Y⟩,⟨.inl (zH (Ob.row 4 Ek) (hs.trans (xC _))),E,Y⟩,E,E⟩
 ·have:j=mem.length:=qB h;subst this;rw[dw]at hflj⊢;generalize mem.filterMap (linkHop n d)=first at *
  refine fU ?_;refine⟨E,h0,hk,?_⟩;rw[hx];refine fW ?_;refine A5 x.peers.length (λj=>[(5,.osl 1000),(49,.sl 1 Aa x.peers),(50,Aa x.peers.length),(51,Aa j)]) (λj=>[(1000,.row 4 Ek (first++(x.peers.take j).map Sz))]) []
   ⟨⟨rfl,rfl,rfl,rfl,rfl,rfl,rfl,rfl,trivial⟩,⟨.inl (zH (Ob.row 4 Ek) (xC _)),rfl,trivial⟩,rfl,rfl⟩ ?_
  intro j hj;refine fU ?_;constructor<;>intro h
  ·have ab:j<x.peers.length:=by simpa using h
   have ai:(j:Int).toNat<x.peers.length:=by simpa using ab
   obtain ⟨p,xa⟩:∃p,x.peers[(j:Int).toNat]'ai=p:=⟨_,rfl⟩
   have hs:(first++(x.peers.take j).map Sz)++[⟨2,0,p,0⟩]=first++(x.peers.take (j+1)).map Sz:=by
    rw[vJ,zT ab,wU,xJ];congr 2;simp only[Option.toList,xV,vG,Sz];congr 2;exact xa.symm
   refine fU ?_;refine⟨E,by omega,ai,?_⟩;rw[xa];refine fW ?_;refine Af (Ag Γ.toTy 59 E E E E E (.row E) (.lit (e:=Ek) (l:=[⟨2,0,p,0⟩]) E E) y_ (by simp;omega) (by simp;omega)) E E ?_;refine gG ?_;exact Ay [(1000,59)] ab ⟨⟨E,E,E,E,E,E,E,E,Y⟩,⟨.inl (zH (Ob.row 4 Ek) hs.symm),E,Y⟩,E,E⟩
  ·have:j=x.peers.length:=qB h;subst this;refine fU ?_;refine Aj 1000 E ?_;refine fU ?_;refine At E (.cons .tmp .nil) ?_ E;rw[hh,yN];rfl
structure Lead where
 (to domain addr:Int)
abbrev M2(l:Lead):SV:=.agg [Aa l.to,Aa l.domain,Bb l.addr]
instance:Inhabited Lead:=⟨⟨0,0,0⟩⟩
def leadF(n:Net)(irb:Int)(i:Nat):Option Lead:=if (addrT n irb i).2=true then some ⟨i,(nth n.irbs i).domain,(addrT n irb i).1⟩ else none
def S5(n:Net)(irb:Int)(j:Nat):List Lead:=(List.range j).filterMap (leadF n irb)
def routesT(n:Net)(d:Int):List Lead:=if (0≤d∧d<n.domains.length)∧0≤(nth n.domains d).irb∧Ac n=true then S5 n (nth n.domains d).irb n.irbs.length else []
def Aox(n:Net)(irb:Int)(j:Nat):S5 n irb (j+1)=S5 n irb j++(match leadF n irb j with|some h=>[h]|none=>[]):=by
 rw[S5,wV,List.filterMap_append];cases h:leadF n irb j<;>simp[h,S5]
def W7(n:Net)(irb:Int)(j:Nat):(S5 n irb j).length≤j:=by
 have:=tB (leadF n irb) (List.range j);simpa [S5] using this
def Ah7(n:Net)(hn:n.Fin)(hu:Dr n)(d:Int):Sp 109 [Am n,Aa d] (.sl 3 M2 (routesT n d)):=cT F109 ntmps109 λF hF=>by
 have ak:=routesT.eq_1 n d;generalize routesT n d=res at *;have hr:=A1 n hn;have w7:=hn.irbs;unfold An at w7;refine fW ?_;constructor<;>intro h
 ·rw[zD (qA h)]at ak;subst ak;refine fU ?_;refine Au 4 3 M2 E ?_;exact gC
 have h1:¬d<0:=zQ h;refine Bf 2 8 (Am n) E E E ?_;refine fU ?_;constructor<;>intro h
 ·rw[zD (qA h)]at ak;subst ak;refine fU ?_;refine Au 4 3 M2 E ?_;exact gC
 have h2:d<n.domains.length:=qB h;have hk:d.toNat<n.domains.length:=by omega
 rw[Ai hk]at ak;obtain ⟨x,hx⟩:∃x,n.domains[d.toNat]'hk=x:=⟨_,rfl⟩
 rw[hx]at ak;refine fU ?_;refine⟨E,by omega,hk,?_⟩;rw[hx];refine fW ?_;constructor<;>intro h
 ·rw[zD (qA h)]at ak;subst ak;refine fU ?_;refine Au 4 3 M2 E ?_;exact gC
 have h3:0≤x.irb:=qB h;refine fU ?_;refine c0 hr F22 ?_;cases hb:Ac n
 ·rw[zD (by simp[hb])]at ak;subst ak;refine fU ?_;refine Au 4 3 M2 E ?_;exact gC
 rw[zG ⟨⟨by omega,h2⟩,h3,hb⟩]at ak;subst ak;refine fU ?_;refine B7 5 1000 3 M2 E E ?_;refine A5 n.irbs.length (λj=>[(1,Aa d),(2,.ref 8 (Am n) 0),(5,.osl 1000),(34,.sl 5 B4 n.irbs),(35,Aa n.irbs.length),(36,Aa j)]) (λj=>[(1000,.row 3 M2 (S5 n x.irb j))]) []
  kU ?_
 intro j hj;have jy:=W7 n x.irb j;refine fU ?_;constructor<;>intro h
 ·have ab:j<n.irbs.length:=by simpa using h
  have ai:(j:Int).toNat<n.irbs.length:=by simpa using ab
  have q:=Agr n hn hu x.irb j;have hs:=Aox n x.irb j;have hle:=leadF.eq_1 n x.irb j;rw[Ai ai]at hle;rw[hle]at hs;obtain ⟨y,hy⟩:∃y,n.irbs[(j:Int).toNat]'ai=y:=⟨_,rfl⟩
  rw[hy]at hs;generalize addrT n x.irb j=ad at *;obtain ⟨a,ok⟩:=ad;dsimp only at hs q;refine fU ?_;refine⟨E,by omega,ai,?_⟩;rw[hy];refine fW ?_;refine⟨E,by omega,hk,?_⟩;rw[hx];refine fW ?_;refine cD q F163 ?_;refine fU ?_;refine⟨z_,?_⟩;refine fW ?_;refine⟨λh=>?_,λh=>?_⟩<;>(have h:ok=_:=h;subst h)
  ·refine fU ?_;refine Af (Ag Γ.toTy 61 E E E E E (.row E) (.lit (e:=M2) (l:=[⟨j,y.domain,a⟩]) E E) y_ (by simp;omega) (by simp;omega)) E E ?_;refine gG ?_;exact Ay [(1000,61)] ab ⟨⟨E,E,E,E,E,E,E,E,E,E,E,E,Y⟩,⟨.inl (zH (Ob.row 3 M2) hs),E,Y⟩,E,E⟩
  ·refine gG ?_;exact Ay [] ab ⟨⟨E,E,E,E,E,E,E,E,E,E,E,E,Y⟩,⟨.inl (zH (Ob.row 3 M2) (hs.trans (xC _))),E,Y⟩,E,E⟩
 ·have:j=n.irbs.length:=qB h;subst this;refine fU ?_;refine Aj 1000 E ?_;exact gC
end Go.Sy.YticmobkdaneelaaGreatDoor
