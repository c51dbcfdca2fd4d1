/- Parts of a proof. -/
import Derived.Test.YtodbnbfjhjcanaaGreatDoorXA9
import Derived.RangeFuncNested
import Derived.Shelf.RegionOpen
import Derived.OwnWalkIn
import Derived.LoopNIn
import Derived.LoopIn
set_option maxHeartbeats 8000000
set_option linter.all false
namespace Go.Sy.Zaa
open Go.Proofs Go.Proofs.Tryz
section
attribute [local irreducible]G DR
set_option maxRecDepth 20000
def K7(c:UInt8):Bool:=decide (48<=c.toNat)&&decide (c.toNat<=57)
def Yh(s:ByteArray):Nat->Int
 |0=>0
 |j+1=>10*Yh s j+((Bw s j).toNat-48)
def Ak9(s:ByteArray):Bool:=(List.range s.size).all λi=>K7 (Bw s i)
def smallT(s:ByteArray)(a7:Int):Int×Bool :=
 if s.size=0\/3<s.size\/(1<s.size/\(Bw s 0).toNat=48)\/Ak9 s=false then (0,false) else (Yh s s.size,decide (Yh s s.size<=a7))
def bE{s:ByteArray}{i:Nat}(hi:i<s.size)(h:K7 (Bw s i)=false):Ak9 s=false:=by
 rw[Ak9,List.all_eq_false];exact⟨i,kS hi,by simp[h]⟩
def Ae0{s:ByteArray}(h:∀i,i<s.size->K7 (Bw s i)=true):Ak9 s=true:=by
 rw[Ak9,yU];intro i hi;exact h i (kS hi)
def digB_iff{c:UInt8}:K7 c=true↔48<=c.toNat/\c.toNat<=57:=by simp[K7]
def Afn{s:ByteArray}:∀{j:Nat},(∀i,i<j->K7 (Bw s i)=true)->0<=Yh s j/\Yh s j<10^j
 |0,_=>by simp[Yh]
 |j+1,h=>by
  have ih:=Afn (s:=s) (j:=j) (λi hi=>h i z_);have hd:=digB_iff.1 (h j z_);rw[Yh];have e:(10:Int)^(j+1)=10*10^j:=by rw[Int.pow_succ];omega
  rw[e];omega
def Av1{n:Nat}(h:48<=n)(h2:n<256):IntKind.u8.wrap ((n:Int)-48)=(n:Int)-48:=by
 rw[IntKind.wrap_u8];omega
def Ay7{n:Int}(h:0<=n)(h2:n<256):IntKind.i64.wrap n=n:=by
 rw[IntKind.wrap_i64];omega
def Abz(s:ByteArray)(a7:Int):Sp 211 [Ar s,Aa a7] (.tup [Aa (smallT s a7).1,Ab (smallT s a7).2]):=cT F211 ntmps211 λF hF=>by
 have ak:=smallT.eq_1 s a7;generalize smallT s a7=res at *;refine fW ?_;constructor<;>intro h
 .have h1:s.size=0:=by simpa using h
  rw[zE (.inl h1)]at ak;subst ak;exact gD
 have h1:¬s.size=0:=kS h;refine gK ?_ ?_<;>intro h
 .have h2:3<s.size:=qA h;rw[zE (.inr (.inl h2))]at ak;subst ak;exact gD
 have h2:¬3<s.size:=qB h;refine gK ?_ ?_<;>intro h
 .have h3:1<s.size:=qA h;refine fU ?_;refine⟨by decide,by simp;omega,?_⟩;refine fW ?_;constructor<;>intro h
  .have h4:(Bw s 0).toNat=48:=by have:=h;simp at this;omega
   rw[zE (.inr (.inr (.inl ⟨h3,h4⟩)))]at ak;subst ak;exact gD
  have h34:¬(1<s.size/\(Bw s 0).toNat=48):=by
   intro e;have:=h;simp at this;omega
  refine fU ?_;refine A7 s.size (λj=>∀i,i<j->K7 (Bw s i)=true) (λj=>[(0,Ar s),(1,Aa a7),(6,Aa (Yh s j)),(27,Aa s.size),(28,Aa j)]) (λ_=>[]) [] (λi hi=>zX hi z_) kU ?_;intro j hj hI;have hv:=Afn hI;have hp:(10:Int)^j<=1000:=by
   have:j=0\/j=1\/j=2\/j=3:=by omega
   rcases this with rfl|rfl|rfl|rfl<;>decide
  have hsu:Yh s (j+1)=10*Yh s j+((Bw s j).toNat-48):=rfl;have o8:(j:Int).toNat=j:=yE j;have hb:=(Bw s j).toNat_lt;generalize hvj:Yh s j=v at *;refine gK ?_ ?_<;>intro h
  .have ab:j<s.size:=by simpa using h
   refine fU ?_;refine⟨by omega,kS ab,?_⟩;rw[o8];refine fW ?_;constructor<;>intro h
   .have h5:¬48<=(Bw s j).toNat:=qA h;rw[zE (.inr (.inr (.inr (bE ab (by simp only[K7,yW,zY];exact .inl h5)))))]at ak;subst ak;exact gD
   have h5:48<=(Bw s j).toNat:=qB h;refine fU ?_;refine⟨by omega,kS ab,?_⟩;rw[o8];refine fW ?_;constructor<;>intro h
   .have h6:¬(Bw s j).toNat<=57:=qA h;rw[zE (.inr (.inr (.inr (bE ab (by simp only[K7,yW,zY];exact .inr h6)))))]at ak;subst ak;exact gD
   have h6:(Bw s j).toNat<=57:=qB h;refine gG ?_;refine⟨by omega,kS ab,?_⟩;rw[o8];refine fW ?_;rw[Av1 h5 hb,Ay7 z_ z_];refine iL ?_;refine gO ?_;refine A6 [] hI z_ (λi hi=>?_) ⟨⟨E,E,E,E,zH Aa hsu,E,E,E,E,E,q_⟩,q_,E,E⟩;by_cases cy:i=j
   .subst cy;exact digB_iff.2 ⟨h5,h6⟩
   .exact hI i z_
  .have:j=s.size:=qB h;subst this;rw[zD (by rw[Ae0 hI];simp only[h1,h2,false_or,Bool.true_eq_false,vQ];exact h34),hvj]at ak;subst ak;exact gD
 .have h34:¬(1<s.size/\(Bw s 0).toNat=48):=qB h;refine fU ?_;refine A7 s.size (λj=>∀i,i<j->K7 (Bw s i)=true) (λj=>[(0,Ar s),(1,Aa a7),(6,Aa (Yh s j)),(27,Aa s.size),(28,Aa j)]) (λ_=>[]) [] (λi hi=>zX hi z_) kU ?_;intro j hj hI;have hv:=Afn hI;have hp:(10:Int)^j<=1000:=by
   have:j=0\/j=1\/j=2\/j=3:=by omega
   rcases this with rfl|rfl|rfl|rfl<;>decide
  have hsu:Yh s (j+1)=10*Yh s j+((Bw s j).toNat-48):=rfl;have o8:(j:Int).toNat=j:=yE j;have hb:=(Bw s j).toNat_lt;generalize hvj:Yh s j=v at *;refine gK ?_ ?_<;>intro h
  .have ab:j<s.size:=by simpa using h
   refine fU ?_;refine⟨by omega,kS ab,?_⟩;rw[o8];refine fW ?_;constructor<;>intro h
   .have h5:¬48<=(Bw s j).toNat:=qA h;rw[zE (.inr (.inr (.inr (bE ab (by simp only[K7,yW,zY];exact .inl h5)))))]at ak;subst ak;exact gD
   have h5:48<=(Bw s j).toNat:=qB h;refine fU ?_;refine⟨by omega,kS ab,?_⟩;rw[o8];refine fW ?_;constructor<;>intro h
   .have h6:¬(Bw s j).toNat<=57:=qA h;rw[zE (.inr (.inr (.inr (bE ab (by simp only[K7,yW,zY];exact .inr h6)))))]at ak;subst ak;exact gD
   have h6:(Bw s j).toNat<=57:=qB h;refine gG ?_;refine⟨by omega,kS ab,?_⟩;rw[o8];refine fW ?_;rw[Av1 h5 hb,Ay7 z_ z_];refine iL ?_;refine gO ?_;refine A6 [] hI z_ (λi hi=>?_) ⟨⟨E,E,E,E,zH Aa hsu,E,E,E,E,E,q_⟩,q_,E,E⟩;by_cases cy:i=j
   .subst cy;exact digB_iff.2 ⟨h5,h6⟩
   .exact hI i z_
  .have:j=s.size:=qB h;subst this;rw[zD (by rw[Ae0 hI];simp only[h1,h2,false_or,Bool.true_eq_false,vQ];exact h34),hvj]at ak;subst ak;exact gD
end
section
def Axv(m:Nat)(h:0<m):Axx (-(m:Int))=(revDigs m++[45]).reverse:=by
 rw[Axx,zE z_];have:(-(m:Int)).natAbs=m:=by omega
 rw[this]
set_option maxRecDepth 20000 in
def Ajg(m:Nat)(h0:0<m)(hb:m<=9223372036854775808):Sp 262 [Aa (-(m:Int))] (Ar (Ajh (-(m:Int)))):=cT F262 ntmps262 λF hF=>by
 have ic:=U4 m;have hlen:=λj=>U5 j m
 have a8:=λj=>U6 j m
 have ky:(revDigs m).length<=20:=Qp 19 m z_;have w1:IntKind.u64.wrap (0-IntKind.u64.wrap (-(m:Int)))=m:=by rw[IntKind.wrap_u64,IntKind.wrap_u64];omega
 rw[Ajh,Axv m h0];generalize revDigs m=D at *;refine fW ?_;refine⟨λ_=>?_,λh=>zX (zQ h) z_⟩;refine B6 3 1000 1 Al E E (fU ?_);refine A8 D.length (λj=>[(0,Aa (-(m:Int))),(3,.osl 1000),(4,Bi (m/10^j:Nat)),(5,Ab (decide (j<D.length)))]) (λj=>[(1000,.row 1 Al (D.take j))]) []
  ⟨⟨rfl,rfl,rfl,rfl,zH (λz=>SV.val (.int .u64 z)) (kS w1.symm),rfl,zH Ab (zK ic),rfl,trivial⟩,⟨.inl rfl,rfl,trivial⟩,rfl,rfl⟩ ?_
 intro j hj;refine gK ?_ ?_<;>intro h
 .have ab:j<D.length:=zO h;have hgj:=a8 j ab;have hlj:=hlen j;have e:m/10^(j+1)=m/10^j/10:=by rw[tL,tM]
  have hq:m/10^j<=m:=Nat.div_le_self _ _;rw[e]at hlj;refine fU ?_;refine⟨by decide,?_⟩;refine fW ?_;refine Ai (Ah Γ.toTy 23 E E E E E (.row E) (.lit (l:=[D[j]]) E ?_) qq ?_ ?_) E E ?_
  .rw[hgj];simp only[xZ,vS,Al];congr 3;generalize m/10^j=q at *;rw[tW (vI _),IntKind.wrap_u64,IntKind.wrap_u8];simp
  .simp;omega
  .simp;omega
  refine fU ?_;refine⟨by decide,?_⟩;refine fW ?_;refine Ax [(1000,23)] ab ⟨⟨E,E,E,E,zH (λz=>SV.val (.int .u64 z)) ?_,E,zH Ab ?_,E,q_⟩,⟨.inl (zH (Ob.row 1 Al) (yA ab)),E,q_⟩,E,E⟩
  .rw[e,uA (vI _),IntKind.wrap_u64];generalize m/10^j=q at *;omega
  .rw[uA (vI _),IntKind.wrap_u64];generalize m/10^j=q at *;refine decide_eq_decide.2 ?_;omega
 .have:j=D.length:=qB h;subst this;rw[yM];refine fU ?_;refine⟨λ_=>?_,λh=>zX (zQ h) z_⟩;refine fU ?_;refine Ai (Ah Γ.toTy 30 E E E E E (.row E) (.lit (e:=Al) (l:=[45]) E E) qq kO kO) E E ?_;have hDl:(D++[45]).length=D.length+1:=by simp
  generalize D++[45]=D at *;refine gG ?_;refine A8 (D.length/2) (λj=>[(3,.osl 1000),(6,Aa j),(7,Aa (D.length-1-j:Nat))]) (λj=>[(1000,.row 1 Al (Ur D j))]) [(1000,30)]
   ⟨⟨rfl,rfl,rfl,rfl,zH (λz=>SV.val (.int .i64 z)) z_,rfl,trivial⟩,⟨.inl (zH (Ob.row 1 Al) (cQ D)),rfl,trivial⟩,rfl,rfl⟩ ?_
  intro i hi;have nf:=Dx D i;refine fU ?_;constructor<;>intro h2
  .have ab:2*i+1<D.length:=by have:=zO h2;omega
   obtain ⟨u,hu⟩:=kE (Ur D i);obtain ⟨k,hk⟩:=kE (D.length-1-i);rw[hu]at nf;have hs:=cR hu ab hk z_ z_;rw[hu,hk];refine fU ?_;refine⟨by omega,by omega,?_⟩;refine fW ?_;refine⟨E,by omega,?_⟩;refine fW ?_;refine⟨by omega,by omega,?_⟩;refine fW ?_;refine⟨E,by omega,?_⟩;refine fW ?_;refine⟨by omega,by omega,?_⟩;refine fW ?_;refine⟨E,by omega,u[k],E,E,?_⟩;refine fW ?_;refine⟨by omega,by simp;omega,?_⟩;refine fW ?_;refine⟨E,by simp;omega,u[i],E,E,?_⟩;refine fW ?_;refine⟨j_,?_⟩;refine gO ?_;refine iL ?_;refine fW ?_;refine Ax [] z_ ⟨⟨E,E,E,E,zH (λz=>SV.val (.int .i64 z)) z_,E,q_⟩,⟨.inl (zH (Ob.row 1 Al) hs.symm),E,q_⟩,E,E⟩
  .have h3:D.length<=2*i+1:=by have:=zQ h2;omega
   rw[oA D i h3];refine fU ?_;exact Ai (Hv Γ.toTy (bs:=D.reverse) E E E E E E E (.row E)) E E gD
attribute [local irreducible]G DR
set_option maxRecDepth 20000
def Ahp(n:Int):Prop:=-9223372036854775808<=n/\n<9223372036854775808
def Atk(n:Int)(h:Ahp n):Sp 262 [Aa n] (Ar (Ajh n)):=by
 unfold Ahp at h;by_cases h0:0<=n
 .obtain ⟨m,rfl⟩:=xM h0;exact Axu m z_
 .obtain ⟨m,xq⟩:∃m:Nat,n=-(m:Int):=⟨n.natAbs,by omega⟩
  subst xq;exact Ajg m z_ z_
end
end Go.Sy.Zaa
namespace Go.Sy
open Go.RowKit
def Aru{k:Type}(T:Nat->Prop)(J:k->World->Prop):Prop :=
 ∀s W W' row,J s W->W.grownBy W' row->(∀r,row=some r->T r)->J s W'
def OwnT{k:Type}(B:Nat)(T:Nat->Prop)(I:k->World->Prop):Prop :=
 ∀s W W' row,I s W->W.grownBy W' row->(∀r,row=some r->T r\/(B<=r/\∃o:Obj,W.heap[r]? = some o/\o.isCells=false))->I s W'
theorem OwnT.putObj{k:Type}{B:Nat}{T:Nat->Prop}{I:k->World->Prop}(h:OwnT B T I){s:k}{W:World}{l:Nat}{o:Obj}(o':Obj)(hs:I s W)(hB:B<=l)(hl:W.heap[l]? = some o)(ho:o.isCells=false):I s (W.putObj l o') :=
 h s W _ _ hs (grownBy_putObj' W l o') (λr e=>by cases e;exact .inr ⟨hB,o,hl,ho⟩)
theorem OwnT.alloc{a:Type}{B:Nat}{T:Nat->Prop}{I:a->World->Prop}(h:OwnT B T I){s:a}{W:World}(o:Obj)(hs:I s W):I s (W.alloc o) :=
 h s W _ none hs ⟨rfl,rfl,rfl,by simp,λk hk _=>Below.heap_alloc _ _ _ hk⟩ (λr e=>by cases e)
def Afi{k:Type}(F:Fence)(n:Nat)(P:Program)(g:Nat)(lb:Array Value)(ng:k->Array Value)(T:Nat->Prop)(Kp:World->World->Prop)(S Sp:List k->Prop)(N:Nat)(w:World):Prop :=
 ∀(l:Nat) (J Jx:List k->World->Prop) (W:World),Below w.heap.size w W->Aru T J->Aru T Jx ->
  (∀ pre x W1,J pre W1->pre.length<N->YieldAt F (n-1) P l (ng x) W1 λ e W' =>
   (e=.returned (.bool true)/\J (pre++[x]) W'/\Kp W1 W')\/(e=.returned (.bool false)/\Jx (pre++[x]) W')) ->
  J [] W ->
  CallsIn F n P g (#[.func (.yield l) #[] #[]]++lb) W λe W'=>(∃v,e=.returned v)/\((∃xs,S xs/\J xs W')\/(∃pre,Sp pre/\Jx pre W'))
def Qf{A B:World}{T:Nat->Prop}{row:Option Nat}{k:Nat}{o:Obj}(hg:A.grownBy B row)(hr:∀r,row=some r->T r)(hk:¬T k)(h:A.heap[k]? = some o):B.heap[k]? = some o:=by
 obtain ⟨_,_,_,_,h5⟩:=hg;exact(h5 k (wV.1 h).1 (λe=>hk (hr k e.symm))).trans h
variable {F:Fence} {n:Nat} {P:Program}
theorem Xa{m:Type}{g:Operand}{ps:Array Tmp}{assign body:Code}{Q:Exit->Act->World->Prop}{a:Act}{w:World}(em:F.round=none)(h1:1<=n){gf:Nat}{lb:Array Value}(hg:a.eval g=.func (.func gf) #[] lb)(hFg:F.fn gf)(eg:∀ args w,(callFunc gf args).run P w=.ok (.enter gf args) w){ng:m->Array Value}{T:Nat->Prop}{Kp:World->World->Prop}{S Sp:List m->Prop}{N:Nat}{w0:World}(hseq:Afi F (n-1) P gf lb ng T Kp S Sp N w0)(hT:∀ b,T b->b<w.heap.size)(hKt:∀ {A B C:World},Kp A B->Kp B C->Kp A C)(hKb:∀ (W:World) (l:Nat) (o o':Obj),w.heap.size<=l->W.heap[l]? = some o->o.isCells=false->o.isWalk=false->Kp W (W.putObj l o'))(oq:Below w0.heap.size w0 w)(nh:∀ x,(ng x).size=ps.size)(I:List m->World->Prop)(Ix:Code->List m->World->Prop)(hI:OwnT w.heap.size T I)(xr:∀ c,OwnT w.heap.size T (Ix c))(h0:I [] w)(a₁:m->Act)(sh:∀ (l:Nat) (x:m) (W:World) (K:Act->World->Prop),K (a₁ x) W ->
   assign.wpIn (F.inRound l) (n-1-1) P (Exit.then K (λ _ _ _=>False)) { tmps:=(ps.zip (ng x)).foldl (λ t (p,v)=>t.setIfInBounds p v) a.tmps,defers:=[] } W)(xu:∀ (l:Nat) (pre:List m) (x:m) (W:World),I pre W->pre.length<N->body.wpIn (F.inRound l) (n-1-1) P (ownPostK Kp I Ix (pre++[x]) W) (a₁ x) W)(xv:∀ (D:Nat) (xs:List m) (W:World),w.heap.size<=D->S xs->I xs W->W.heap[D]? = some (.deferred (some []))->Q .normal { a with defers:={ target:=.collected D,args:=#[] }::a.defers } W)(xw:∀ (D:Nat) (c:Code) (pre:List m) (W:World),w.heap.size<=D->Sp pre->Ix c pre W->W.heap[D]? = some (.deferred (some []))->c.wpIn F n P Q { a with defers:={ target:=.collected D,args:=#[] }::a.defers } W):(Code.rangeFunc g ps assign body).wpIn F n P Q a w:=by
 refine wpIn_rangeFunc ?_;intro fn uo;rw[em];obtain ⟨rec,ie⟩:∃rec:LoopState->Option Code->Loop,rec=λst pe=>{state:=st,pending:=pe,fn,tmps:=a.tmps,params:=ps,assign,body,defers:=w.heap.size}:=⟨_,rfl⟩
 obtain ⟨W1,xx⟩:=kE ((w.alloc (.deferred (some []))).alloc (.loop (rec .ready none)));have hL1:W1.heap[w.heap.size+1]? = some (.loop (rec .ready none)):=by
  rw[<-xx];have:=World.alloc_heap_new (w.alloc (.deferred (some []))) (.loop (rec .ready none));rwa [World.size_alloc]at this
 have hK1:W1.heap[w.heap.size]? = some (.deferred (some [])):=by
  rw[<-xx];exact(Below.heap_alloc _ _ _ qq).trans (World.alloc_heap_new w _)
 have hI1:I [] W1:=by rw[<-xx];exact hI.alloc _ (hI.alloc _ h0)
 have d6:Below w0.heap.size w0 W1:=by
  rw[<-xx];exact oq.trans ((((Below.refl _ w).alloc (yG _) _).alloc qq _).mono oq.size)
 have nT:∀k,w.heap.size<=k->¬T k:=λk hk h=>Nat.lt_irrefl _ (yV (hT k h) hk)
 refine⟨w.heap.size+1,[{ target:=.collected w.heap.size,args:=#[] }],W1,{ target:=.fn (.func gf) lb,args:=#[.func (.yield (w.heap.size+1)) #[] #[]] },W1,gf,
  #[.func (.yield (w.heap.size+1)) #[] #[]]++lb,W1,?_,?_,?_,?_,λ _=>h1,?_⟩
 .rw[<-xx,ie];exact run_enterLoop_outer _ _ _ _ _
 .simp only[resolve,hg];simp[go_sem]
 .intro f' hf';simp[Target.leads]at hf';subst hf';exact hFg
 .simp[invoke,go_sem,eg]
 .refine(hseq (w.heap.size+1)
   (λpre W=>I pre W/\W.heap[w.heap.size+1]? = some (.loop (rec .ready none))/\W.heap[w.heap.size]? = some (.deferred (some [])))
   (λpre W=>∃c,Ix c pre W/\W.heap[w.heap.size+1]? = some (.loop (rec .done (some c)))/\W.heap[w.heap.size]? = some (.deferred (some [])))
   W1 d6
   (λs A B row hs o9 hr=>⟨hI s A B row hs.1 o9 (λr e=>.inl (hr r e)),Qf o9 hr (nT _ z_) hs.2.1,Qf o9 hr (nT _ z_) hs.2.2⟩)
   (λ s A B row hs o9 hr=>by
    obtain ⟨c,hc,hl,hk⟩:=hs;exact⟨c,xr c s A B row hc o9 (λ r e=>.inl (hr r e)),Qf o9 hr (nT _ z_) hl,Qf o9 hr (nT _ z_) hk⟩)
   ?_ ⟨hI1,hL1,hK1⟩).mono ?_
  .rintro pre x W ⟨hi,hl,hk⟩ hlen;have ab:w.heap.size+1<W.heap.size:=(wV.1 hl).1;have hy:=run_yield (P:=P) (args:=ng x) hl (by rw[ie];exact nh x);rw[ie]at hy;refine⟨fn,_,assign,body,hy,roundIn_of_wpIn uo (sh _ x W _ ⟨_,run_beginRound hl (by rw[ie]),?_⟩)⟩;have gd:(W.putObj (w.heap.size+1) (.loop {rec .ready none with state:=.busy})).heap[w.heap.size+1]? = some (.loop {rec .ready none with state:=.busy}):=World.putObj_heap_same ab;have dw:(W.putObj (w.heap.size+1) (.loop {rec .ready none with state:=.busy})).heap[w.heap.size]? = some (.deferred (some [])):=(World.putObj_heap_other z_).trans hk;have xy:Kp W (W.putObj (w.heap.size+1) (.loop {rec .ready none with state:=.busy})):=hKb _ _ _ _ z_ hl rfl rfl;refine wpIn_mono (xu _ pre x _ (hI.putObj _ hi (uW _) hl E) hlen) ?_;have fin:∀(gg:Option Code) (W3:World),KeepsOthers (W.putObj (w.heap.size+1) (.loop {rec .ready none with state:=.busy})) W3 ->
     (Instr.endRound (w.heap.size+1) gg).run P W3=.ok (.bool gg.isNone) (W3.putObj (w.heap.size+1) (.loop (rec (if gg.isNone then .ready else .done) gg))) /\
     W3.heap[w.heap.size+1]? = some (.loop {rec .ready none with state:=.busy}) /\
     (W3.putObj (w.heap.size+1) (.loop (rec (if gg.isNone then .ready else .done) gg))).heap[w.heap.size+1]? = some (.loop (rec (if gg.isNone then .ready else .done) gg)) /\
     (W3.putObj (w.heap.size+1) (.loop (rec (if gg.isNone then .ready else .done) gg))).heap[w.heap.size]? = some (.deferred (some [])):=λgg W3 ri=>by
    have kz:=ri.same _ _ gd rfl;have:=run_endRound (P:=P) gg kz;rw[ie]at this|-;exact⟨this,by rw[ie]at kz;exact kz,World.putObj_heap_same (wV.1 kz).1,(World.putObj_heap_other z_).trans (ri.same _ _ dw E)⟩
   rintro e a3 W3 hp;cases e with
   |normal=>
    obtain ⟨ri,hkp3,uu⟩:=hp;obtain ⟨hr,kz,uv,uw⟩:=fin none W3 ri;exact⟨_,_,hr,.inl ⟨E,⟨hI.putObj _ uu (uW _) kz E,uv,uw⟩,hKt (hKt xy hkp3) (hKb _ _ _ _ z_ kz E E)⟩⟩
   |ret=>
    obtain ⟨ri,uu⟩:=hp;obtain ⟨hr,kz,uv,uw⟩:=fin (some .ret) W3 ri;exact⟨_,_,hr,.inr ⟨E,.ret,(xr _).putObj _ uu (uW _) kz E,uv,uw⟩⟩
   |exit id=>
    obtain ⟨ri,uu⟩:=hp;obtain ⟨hr,kz,uv,uw⟩:=fin (some (.exit id)) W3 ri;exact⟨_,_,hr,.inr ⟨E,.exit id,(xr _).putObj _ uu (uW _) kz E,uv,uw⟩⟩
   |goto t=>
    obtain ⟨ri,uu⟩:=hp;obtain ⟨hr,kz,uv,uw⟩:=fin (some (.goto t)) W3 ri;exact⟨_,_,hr,.inr ⟨E,.goto t,(xr _).putObj _ uu (uW _) kz E,uv,uw⟩⟩
   |panic ch=>exact hp.elim
   |outgrown=>exact hp.elim
  .rintro e W2 ⟨⟨v,rfl⟩,(⟨xs,hS,hi,hl,hk⟩|⟨pre,hSp,c,hi,hl,hk⟩)⟩
   .exact⟨none,_,by have:=run_endLoop (P:=P) hl (by rw[ie];simp);rw[ie]at this;exact this,xv _ xs _ (yG _) hS (hI.putObj _ hi (uW _) hl E) ((World.putObj_heap_other z_).trans hk)⟩
   .exact⟨some c,_,by have:=run_endLoop (P:=P) hl (by rw[ie];simp);rw[ie]at this;exact this,xw _ c pre _ (yG _) hSp ((xr c).putObj _ hi (uW _) hl E) ((World.putObj_heap_other z_).trans hk)⟩
end Go.Sy
namespace Go.Proofs
open Go.RowKit Go.Shelf Go.Sy Go.Sy.Zaa
attribute [local go_sem] Oper.semAt_some
structure SeqBox(W:World)(bp bs bv:Nat)(t:ByteArray):Prop where
 p:W.cell? ⟨bp,0,none⟩=some (.string ⟨#[46]⟩)
 s:W.cell? ⟨bs,0,none⟩=some (.string t)
 v:W.cell? ⟨bv,0,none⟩=some (.int .i64 0)
 f:W.frozen? ⟨bs,0,none⟩=false
def A0p(bp bs bv:Nat)(W W':World):Prop:=W'.heap[bp]? = W.heap[bp]? /\ W'.heap[bs]? = W.heap[bs]? /\ W'.heap[bv]? = W.heap[bv]?
theorem SeqBox.keep{W W':World}{bp bs bv:Nat}{t:ByteArray}(h:SeqBox W bp bs bv t)(k:A0p bp bs bv W W'):SeqBox W' bp bs bv t :=
 ⟨(World.cell?_of_block k.1).trans h.p,(World.cell?_of_block k.2.1).trans h.s,(World.cell?_of_block k.2.2).trans h.v,by
  have:W'.frozen? ⟨bs,0,none⟩=W.frozen? ⟨bs,0,none⟩:=by unfold World.frozen?;rw[k.2.1]
  rw[this];exact h.f⟩
def Akh:∀{l:List UInt8} {c:UInt8},c∉l->Lib.indexByte l c=-1
 |[],_,_=>rfl
 |b::l,c,h=>by
  simp only[yH,vW]at h;rw[Lib.indexByte,zD (kS (Ne.symm h.1)),Akh h.2];rfl
def Ayu(bs:Nat)(W:World):Nat:=match W.cell? ⟨bs,0,none⟩ with|some (.string t)=>t.size|_=>0
set_option maxRecDepth 100000 in
theorem Tryz.split_stops(s:ByteArray)(hs:s.size<100000)(n:Nat)(hn:1<=n)(bp bs bv:Nat)(hd:bp≠bs/\bv≠bs)(w:World)(hw:SeqBox w bp bs bv s)(ab:bp<w.heap.size/\bs<w.heap.size/\bv<w.heap.size):Afi Fence.wide n Tryz.prog 338 #[.pointer (some ⟨bp,0,none⟩),.pointer (some ⟨bs,0,none⟩),.pointer (some ⟨bv,0,none⟩)] (λx:ByteArray=>#[.string x]) (λb=>b=bs) (A0p bp bs bv)
   (λxs=>xs=Cy 46 s) (λpre=>pre <+: Cy 46 s) (Cy 46 s).length w:=λl J Jx W hW hJ hJx hY h0=>by
 refine callsIn_of_wp Tryz.func338 E Go.Sy.q_ ?_ E;simp only[Tryz.ntmps338,uV,yL,xK,Nat.reduceAdd,Nat.reduceSub,tX,tY,List.push_toArray,List.append_toArray,wC,wB];have mu:SeqBox W bp bs bv s:=hw.keep ⟨hW.block _ ab.1,hW.block _ ab.2.1,hW.block _ ab.2.2⟩;have c1:=mu.p;have c2:=mu.s;have c3:=mu.v
 gi_wp2
 gi_loopw [] (λwr=>∃j:Nat,j<=Apv 46 s/\SeqBox wr bp bs bv (mkT (C9 46 s.data.toList j))/\J ((Cy 46 s).take j) wr) (λwr=>Ayu bs wr)
 case atStart=>
  exact⟨0,xX _,by rw[C9,Ku];exact mu,h0⟩
 case round=>
  obtain ⟨j,hj,hb,hJj⟩:=hrel;have d1:=hb.p;have d2:=hb.s;have d3:=hb.v;have xz:=Ait 46 s.data.toList j;have bg:s.data.toList.length=s.size:=rfl;have iu:=Lm 46 s;have jx:=It (C9 46 s.data.toList j);by_cases ab:j<Apv 46 s
  .have hi:=Ke (Anj ab);obtain ⟨m,ni⟩:∃m:Nat,Lib.indexByte (C9 46 s.data.toList j) 46=m:=⟨(Lib.indexByte (C9 46 s.data.toList j) 46).toNat,by omega⟩
   have q:=Tryz.strings_Index_one (mkT (C9 46 s.data.toList j)) 46 wr;rw[Kv,ni]at q;rw[ni,yE]at hi;have hpm:=Axc (c:=46) (s:=s) (j:=j) ni;have hqm:=A1d (c:=46) (s:=s) (j:=j) ni;have a8:(Cy 46 s)[j]? = some (mkT (Vh 46 s.data.toList j)):=by
    have gn:j<s.data.toList.count 46:=ab;rw[Cy,xQ (by rw[yZ,tT];exact gn),vD,uC gn];rfl
   have hx:(mkT (C9 46 s.data.toList j)).extract 0 m=mkT (Vh 46 s.data.toList j):=by
    rw[Ex,hpm];simp
   have x5:(mkT (C9 46 s.data.toList j)).extract (m+1) (mkT (C9 46 s.data.toList j)).size=mkT (C9 46 s.data.toList (j+1)):=by
    rw[Ex,hqm,jx,yM]
   have gj:(Cy 46 s).take j++[mkT ((C9 46 s.data.toList j).take m)]=(Cy 46 s).take (j+1):=by
    rw[vO,a8,hpm];rfl
   obtain ⟨fn,tmps,assign,body,hy,hR⟩:=hY _ (mkT ((C9 46 s.data.toList j).take m)) wr hJj (by rw[zW];omega);rw[gj]at hR
   gi_wp2
   refine⟨Go.Sy.q_,?_⟩;refine(callsIn_wide.2 q).mono ?_;rintro e w' ⟨rfl,rfl⟩
   gi_wp2
   refine hR.mono ?_;rintro e W' (⟨rfl,hJ',hk⟩|⟨rfl,ux⟩)
   .have rj:=hb.keep hk;have d1:=rj.p;have d2:=rj.s;have d3:=rj.v;have d4:=rj.f;have hsm1:(mkT (C9 46 s.data.toList (j+1))).size+(m+1)=(mkT (C9 46 s.data.toList j)).size:=by
     rw[jx,It,hqm,yP];omega
    rw[jx]at x5
    gi_wp2
    rw[<-hqm];have e2:(W'.setCell ⟨bs,0,none⟩ (.string (mkT (C9 46 s.data.toList (j+1))))).cell? ⟨bs,0,none⟩=some (.string (mkT (C9 46 s.data.toList (j+1)))):=World.cell?_setCell_same' _ _ _ (by rw[d2];rfl);refine⟨⟨j+1,ab,⟨?_,e2,?_,?_⟩,hJ _ _ _ (some bs) hJ' (grownBy_setCell' _ _ _) (λr e=>by cases e;rfl)⟩,?_⟩
    .rw[World.cell?_setCell_other _ _ _ _ (by intro e;cases e;exact hd.1 rfl)];exact d1
    .rw[World.cell?_setCell_other _ _ _ _ (by intro e;cases e;exact hd.2 rfl)];exact d3
    .rw[World.frozen?_setCell];exact d4
    .unfold Ayu;rw[e2,hb.s];simp only;omega
   .gi_wp2
    refine bodyPost_ret (results_none E _ _ _) E ?_;exact⟨⟨_,E⟩,.inr ⟨_,List.take_prefix _ _,ux⟩⟩
  .have cq:j=Apv 46 s:=by omega
   have cu:(46:UInt8)∉C9 46 s.data.toList j:=by
    have:=Y5 46 s.data.toList j hj;have e:Apv 46 s=s.data.toList.count 46:=rfl;exact List.count_eq_zero.1 Go.Sy.z_
   have q:=Tryz.strings_Index_one (mkT (C9 46 s.data.toList j)) 46 wr;rw[Kv,Akh cu]at q;have a8:(Cy 46 s)[j]? = some (mkT (C9 46 s.data.toList j)):=by
    rw[cq,Cy,wE (by simp[Apv])];simp[Apv]
   have gj:(Cy 46 s).take j++[mkT (C9 46 s.data.toList j)]=Cy 46 s:=by
    have:(Cy 46 s).take (j+1)=Cy 46 s:=xD Go.Sy.z_;rw[vO,a8]at this;exact this
   have hlen:((Cy 46 s).take j).length<(Cy 46 s).length:=by rw[zW];omega
   clear cq;obtain ⟨fn,tmps,assign,body,hy,hR⟩:=hY _ (mkT (C9 46 s.data.toList j)) wr hJj hlen;rw[gj]at hR
   gi_wp2
   refine⟨Go.Sy.q_,?_⟩;refine(callsIn_wide.2 q).mono ?_;rintro e w' ⟨rfl,rfl⟩
   gi_wp2
   refine hR.mono ?_;rintro e W' (⟨rfl,hJ',hk⟩|⟨rfl,ux⟩)
   .gi_wp2
    go_end0
    exact⟨⟨_,E⟩,.inl ⟨_,E,hJ'⟩⟩
   .gi_wp2
    go_end0
    exact⟨⟨_,E⟩,.inr ⟨_,List.prefix_rfl,ux⟩⟩
end Go.Proofs
namespace Go.Sy
open Go.RowKit
theorem Spec.calls{P:Program}{f:FuncId}{A:List SV}{R:SV}(h:Sy.Spec P f A [] R []){w:World}{vs:List Value}(hA:RdL k0 w A vs):Calls P f vs.toArray w λe w'=>∃v k',e=.returned v/\Rd k' w' R v/\Below w.heap.size w w':=by
 refine(h k0 w vs (inv0 w) (λk hk=>zX rfl hk) hA (λp hp=>by cases hp)).mono ?_;rintro e w' ⟨v,k',rfl,ctx,inv,hR,_⟩;exact⟨v,k',E,hR,bN ctx⟩
theorem Spec.calls_tup2{P:Program}{f:FuncId}{A:List SV}{a b:Value}(h:Sy.Spec P f A [] (.tup [.val a,.val b]) []){w:World}{vs:List Value}(hA:RdL k0 w A vs):Calls P f vs.toArray w λe w'=>e=.returned (.tuple #[a,b])/\Below w.heap.size w w' :=
 (h.calls hA).mono λe w' ⟨v,k',he,hv,hb⟩=>by
  simp only[Rd,RdL]at hv;obtain ⟨cs,rfl,_,_,rfl,rfl,_,_,rfl,rfl,rfl⟩:=hv;exact⟨he,hb⟩
theorem Spec.of_calls2{P:Program}{f:FuncId}{A:List SV}{H:Obs}{a b:Value}(h:∀(k:Ka) (w:World) (vs:List Value),Inv k w->RdL k w A vs->H.ok k w->Calls P f vs.toArray w λe w'=>e=.returned (.tuple #[a,b])/\Below w.heap.size w w'):Spec P f A H (.tup [.val a,.val b]) H:=by
 intro k w vs hi _ hr ho;refine(h k w vs hi hr ho).mono λe w' hw=>?_
 obtain ⟨he,hw⟩:=hw;have g:Grew w w':=⟨hw.os,hw.tape,hw.output,hw.size,hw.block⟩
 have st:=cL hi g;exact⟨.tuple #[a,b],k,he,(Ctx.refl k w).step st.2 st.1,st.2,by simp[Rd,RdL],λp hp=>ObOK.step st.1 qq p.2 (ho p hp)⟩
def Aak{w w':World}(h:Below w.heap.size w w'):KeepsOthers w w':=⟨h.size,λk o hk _=>(h.block k (wV.1 hk).1).trans hk⟩
def Abl{A B:World}{row:Option Nat}{k:Nat}{v:Value}(h:A.cell? ⟨k,0,none⟩=some v)(hg:A.grownBy B row)(hr:row≠some k):B.cell? ⟨k,0,none⟩=some v/\B.frozen? ⟨k,0,none⟩=A.frozen? ⟨k,0,none⟩:=by
 obtain ⟨o,ho,_⟩:=cells_of_cell h;obtain ⟨_,_,_,_,h5⟩:=hg;have e:B.heap[k]? = A.heap[k]?:=h5 k (wV.1 ho).1 (λe=>hr e.symm);refine⟨(World.cell?_of_block e).trans h,?_⟩;unfold World.frozen?;rw[e]
def Var1(W:World)(k:Nat)(v:Value):Prop:=W.cell? ⟨k,0,none⟩=some v/\W.frozen? ⟨k,0,none⟩=false
theorem Var1.at{W:World}{B:Nat}{v:Value}{t:TypeId}(h:W.heap[B]? = some (.cells #[v] t (0,0))):Var1 W B v:=by
 constructor<;>simp[World.cell?,World.frozen?,h]
theorem Var1.below{A B:World}{k:Nat}{v:Value}(h:Var1 A k v)(hb:Below A.heap.size A B):Var1 B k v:=by
 obtain ⟨o,ho,_⟩:=cells_of_cell h.1;have e:B.heap[k]? = A.heap[k]?:=hb.block k (wV.1 ho).1;refine⟨(World.cell?_of_block e).trans h.1,?_⟩;rw[<-h.2];unfold World.frozen?;rw[e]
theorem Var1.new(W:World)(v:Value)(t:TypeId){k:Nat}(hk:k=W.heap.size):Var1 (W.alloc (.cells #[v] t)) k v:=by
 subst hk;exact Var1.at (World.alloc_heap_new W _)
theorem Var1.grown{A B:World}{row:Option Nat}{k:Nat}{v:Value}(h:Var1 A k v)(hg:A.grownBy B row)(hr:row≠some k):Var1 B k v :=
 ⟨(Abl h.1 hg hr).1,(Abl h.1 hg hr).2.trans h.2⟩
theorem Var1.alloc{A:World}{k:Nat}{v:Value}(h:Var1 A k v)(o:Obj):Var1 (A.alloc o) k v:=h.grown (World.grownBy_alloc A o none) qq
theorem Var1.set{A:World}{k:Nat}{v:Value}(h:Var1 A k v)(u:Value):Var1 (A.setCell ⟨k,0,none⟩ u) k u :=
 ⟨World.cell?_setCell_same' _ _ _ (by rw[h.1];rfl),by rw[World.frozen?_setCell];exact h.2⟩
theorem Var1.other{A:World}{k b:Nat}{v:Value}(h:Var1 A k v)(hb:b≠k)(u:Value):Var1 (A.setCell ⟨b,0,none⟩ u) k v :=
 ⟨(World.cell?_setCell_other _ _ _ _ (by intro e;cases e;exact hb rfl)).trans h.1,by rw[World.frozen?_setCell];exact h.2⟩
end Go.Sy
namespace Go.Proofs
open Go.RowKit Go.Shelf Go.Sy Go.Sy.Zaa
attribute [local go_sem] Oper.semAt_some
theorem Tryz.splitSeq_calls(s:ByteArray)(w:World):Calls Tryz.prog 210 #[.string s,.string ⟨#[46]⟩] w λe w'=>
  e=.returned (.func (.func 338) #[] #[.pointer (some ⟨w.heap.size+1,0,none⟩),.pointer (some ⟨w.heap.size,0,none⟩),.pointer (some ⟨w.heap.size+2,0,none⟩)]) /\
   w'=((w.alloc (.cells #[.string s] 9)).alloc (.cells #[.string ⟨#[46]⟩] 9)).alloc (.cells #[.int .i64 0] 3):=by
 have q:Calls Tryz.prog 265 #[.string s,.string ⟨#[46]⟩,.int .i64 0] w λe w'=>
  e=.returned (.func (.func 338) #[] #[.pointer (some ⟨w.heap.size+1,0,none⟩),.pointer (some ⟨w.heap.size,0,none⟩),.pointer (some ⟨w.heap.size+2,0,none⟩)]) /\
   w'=((w.alloc (.cells #[.string s] 9)).alloc (.cells #[.string ⟨#[46]⟩] 9)).alloc (.cells #[.int .i64 0] 3):=by
  refine(callsIn_wide (n:=3)).1 ?_;refine callsIn_of_wp Tryz.func265 E Go.Sy.q_ ?_ E;simp only[Tryz.ntmps265,uV,yL,xK,Nat.reduceAdd,Nat.reduceSub,tX,tY,List.push_toArray,List.append_toArray,wC,wB]
  gi_wp2
  go_ret
  exact⟨E,E⟩
 refine(callsIn_wide (n:=3)).1 ?_;refine callsIn_of_wp Tryz.func210 E Go.Sy.q_ ?_ E;simp only[Tryz.ntmps210,uV,yL,xK,Nat.reduceAdd,Nat.reduceSub,tX,tY,List.push_toArray,List.append_toArray,wC,wB]
 gi_wp2
 refine⟨Go.Sy.q_,?_⟩;refine(callsIn_wide.2 q).mono ?_;rintro e w' ⟨rfl,rfl⟩
 gi_wp2
 go_ret
 exact⟨E,E⟩
def fO:List ByteArray->Int
 |[]=>0
 |l=>l.foldl (λa x=>bits .or .u32 (IntKind.u32.wrap (a*2^8)) (IntKind.u32.wrap (smallT x 255).1)) 0
def Atj(x:ByteArray):Bool:=(smallT x 255).2
def Dy(s:ByteArray):Int×Bool:=if (Cy 46 s).length=4/\(Cy 46 s).all Atj=true then (fO (Cy 46 s),true) else (0,false)
def Za(l:List ByteArray)(x:ByteArray):fO (l++[x])=bits .or .u32 (IntKind.u32.wrap (fO l*2^8)) (IntKind.u32.wrap (smallT x 255).1):=by
 cases l with
 |nil=>rfl
 |cons y l=>simp[fO]
set_option maxRecDepth 100000 in
theorem Tryz.addrRead_calls(s:ByteArray)(hs:s.size<100000)(w:World):Calls Tryz.prog 130 #[.string s] w λe w'=>e=.returned (.tuple #[.int .u32 (Dy s).1,.bool (Dy s).2])/\Below w.heap.size w w':=by
 refine(callsIn_wide (n:=5)).1 ?_;refine callsIn_of_wp_marks Tryz.func130 E Go.Sy.q_ ?_ E;simp only[Tryz.ntmps130,uV,yL,xK,Nat.reduceAdd,Nat.reduceSub,tX,tY,List.push_toArray,List.append_toArray,wC,wB]
 gi_wp2
 refine wpIn_wide.2 (wp_scope_straight ((wpIn_wide (n:=5)).1 ?_))
 gi_wp2
 refine wpIn_label ?_
 gi_wp2
 refine⟨Go.Sy.q_,?_⟩;refine(callsIn_wide.2 (Tryz.splitSeq_calls s _)).mono ?_;rintro e w' ⟨rfl,rfl⟩
 gi_wp2
 obtain ⟨W0,mu⟩:=kE (((((w.alloc (.cells #[.int .u32 0] 91)).alloc (.cells #[.int .i64 0] 3)).alloc (.cells #[.string s] 9)).alloc (.cells #[.string ⟨#[46]⟩] 9)).alloc (.cells #[.int .i64 0] 3));have bg:W0.heap.size=w.heap.size+5:=by rw[<-mu];simp
 have hB0:Below w.heap.size w W0:=by
  rw[<-mu];exact(((((Below.refl _ w).alloc (yG _) _).alloc qq _).alloc kO _).alloc kO _).alloc kO _
 have ca:Var1 W0 w.heap.size (.int .u32 0):=by rw[<-mu];exact((((Var1.new _ _ _ rfl).alloc _).alloc _).alloc _).alloc _
 have ci:Var1 W0 (w.heap.size+1) (.int .i64 0):=by rw[<-mu];exact(((Var1.new (w.alloc _) _ _ qq).alloc _).alloc _).alloc _
 have cs:Var1 W0 (w.heap.size+2) (.string s):=by rw[<-mu];exact((Var1.new ((w.alloc _).alloc _) _ _ qq).alloc _).alloc _
 have cp:Var1 W0 (w.heap.size+3) (.string ⟨#[46]⟩):=by rw[<-mu];exact(Var1.new (((w.alloc _).alloc _).alloc _) _ _ qq).alloc _
 have cv:Var1 W0 (w.heap.size+4) (.int .i64 0):=by rw[<-mu];exact Var1.new ((((w.alloc _).alloc _).alloc _).alloc _) _ _ qq
 have cb:SeqBox W0 (w.heap.size+3) (w.heap.size+2) (w.heap.size+4) s:=⟨cp.1,cs.1,cv.1,cs.2⟩
 rw[mu];clear mu;have gb:∀{k:Nat} {W:World} {row:Option Nat},k<=w.heap.size+1->(∀r,row=some r->r=w.heap.size+2\/(W0.heap.size<=r/\∃o:Obj,W.heap[r]? = some o/\o.isCells=false))->row≠some k:=λhk hr e=>by
  rcases hr _ e with h|⟨h,_⟩<;>omega
 have wv:∀{W:World} {row:Option Nat},(∀r,row=some r->r=w.heap.size+2\/(W0.heap.size<=r/\∃o:Obj,W.heap[r]? = some o/\o.isCells=false))->∀r,row=some r->w.heap.size<=r:=λhr r e=>by
  rcases hr _ e with h|⟨h,_⟩<;>omega
 refine Xa E Go.Sy.z_ (gf:=338) (lb:=#[.pointer (some ⟨w.heap.size+3,0,none⟩),.pointer (some ⟨w.heap.size+2,0,none⟩),.pointer (some ⟨w.heap.size+4,0,none⟩)]) E Go.Sy.q_ (enters_of Tryz.func338 Go.Sy.j_ E)
  (Tryz.split_stops s hs 4 Go.Sy.z_ (w.heap.size+3) (w.heap.size+2) (w.heap.size+4) ⟨by omega,by omega⟩ W0 cb Go.Sy.z_) (λb hb=>by omega)
  (λh k=>⟨k.1.trans h.1,k.2.1.trans h.2.1,k.2.2.trans h.2.2⟩)
  (λW l o o' hl _ _ _=>⟨World.putObj_heap_other Go.Sy.z_,World.putObj_heap_other Go.Sy.z_,World.putObj_heap_other Go.Sy.z_⟩) (Below.refl _ _) (λ_=>rfl)
  (λpre W=>Var1 W w.heap.size (.int .u32 (fO pre))/\Var1 W (w.heap.size+1) (.int .i64 pre.length)/\(pre.length<=4/\pre.all Atj=true)/\Below w.heap.size w W/\w.heap.size+5<=W.heap.size)
  (λc pre W=>c=.exit 0/\Var1 W (w.heap.size+1) (.int .i64 0)/\¬(pre.length<=4/\pre.all Atj=true)/\Below w.heap.size w W)
  (λpre A B row hs hg hr=>⟨hs.1.grown hg (gb Go.Sy.z_ hr),hs.2.1.grown hg (gb Go.Sy.z_ hr),hs.2.2.1,hs.2.2.2.1.grown hg hs.2.2.2.1.size (wv hr),wQ hs.2.2.2.2 hg.size⟩)
  (λc pre A B row hs hg hr=>⟨hs.1,hs.2.1.grown hg (gb Go.Sy.z_ hr),hs.2.2.1,hs.2.2.2.grown hg hs.2.2.2.size (wv hr)⟩)
  ⟨ca,ci,⟨by simp,rfl⟩,hB0,by omega⟩
  (λ x=>{ tmps:=#[.string s,undef,.int .u32 0,.bool false,.pointer (some ⟨w.heap.size,0,none⟩),.pointer (some ⟨w.heap.size+1,0,none⟩),.string x,undef,undef,.string s,
   .func (.func 338) #[] #[.pointer (some ⟨w.heap.size+3,0,none⟩),.pointer (some ⟨w.heap.size+2,0,none⟩),.pointer (some ⟨w.heap.size+4,0,none⟩)],.string x,
   undef,undef,undef,undef,undef,undef,undef,undef,undef,undef,undef,undef,undef,undef,undef,undef,undef,undef,undef,undef,undef],defers:=[] }) ?assign ?body ?done ?stop
 case assign=>
  intro l x W K hK
  gi_wp2
  exact hK
 case body=>
  rintro l pre x W ⟨ha,hi,⟨ig,ff⟩,hB,hB5⟩ _;have q:=(Abz x 255).calls_tup2 (w:=W) (vs:=[.string x,.int .i64 255]) (by simp only[RdL];exact⟨_,_,rfl,by simp[Rd,Ar],_,_,rfl,by simp[Rd,Aa],rfl⟩);have il:=Za pre x;have lp:((pre++[x]).all Atj)=Atj x:=by rw[List.all_append,ff];simp
  have kf:(pre++[x]).length=pre.length+1:=by simp
  have hox:Atj x=(smallT x 255).2:=rfl;generalize smallT x 255=sm at *;obtain ⟨v,ok⟩:=sm;dsimp only at il hox q
  gi_wp2
  refine⟨Go.Sy.q_,?_⟩;refine(CallsIn.inRound l (callsIn_wide.2 q)).mono ?_;rintro e w' ⟨rfl,hb⟩;have ha':=ha.below hb;have hi':=hi.below hb;have hB':Below w.heap.size w w':=hB.trans (hb.mono hB.size);have dh:=Aak hb;have a1:=ha'.1;have a2:=ha'.2;have b1:=hi'.1;have b2:=hi'.2;have s1:∀(u v:Value),Below w.heap.size w ((w'.setCell ⟨w.heap.size+1,0,none⟩ u).setCell ⟨w.heap.size+1,0,none⟩ v):=λu v=>
   (hB'.setCell (p:=⟨w.heap.size+1,0,none⟩) (uW _) u).setCell (p:=⟨w.heap.size+1,0,none⟩) (uW _) v
  cases ok
  .gi_wp2
   exact⟨dh.trans ((KeepsOthers.setCell _ _ _).trans (KeepsOthers.setCell _ _ _)),rfl,(hi'.set _).set _,(λe=>by rw[lp,hox]at e;cases e.2),s1 _ _⟩
  .by_cases h4:pre.length+1<=4
   .have hsn':fO (pre++[x])=bits .or .u32 (fO pre*256%4294967296) (v%4294967296):=by rw[il,IntKind.wrap_u32,IntKind.wrap_u32];rfl
    gi_wp2
    refine⟨dh.trans ((KeepsOthers.setCell _ _ _).trans (KeepsOthers.setCell _ _ _)),⟨?_,?_,?_⟩,?_,?_,⟨by omega,by rw[lp,hox]⟩,?_,?_⟩
    .rw[Below.heap_setCell _ _ _ _ qq,Below.heap_setCell _ _ _ _ qq];exact hb.block _ Go.Sy.z_
    .rw[Below.heap_setCell _ _ _ _ qq,Below.heap_setCell _ _ _ _ qq];exact hb.block _ Go.Sy.z_
    .rw[Below.heap_setCell _ _ _ _ qq,Below.heap_setCell _ _ _ _ qq];exact hb.block _ Go.Sy.z_
    .rw[hsn'];exact(ha'.other qq _).set _
    .rw[kf];exact(hi'.set _).other qq _
    .exact(hB'.setCell (p:=⟨w.heap.size+1,0,none⟩) (uW _) _).setCell (p:=⟨w.heap.size,0,none⟩) (yG _) _
    .have:=hb.size;simp;omega
   .gi_wp2
    exact⟨dh.trans ((KeepsOthers.setCell _ _ _).trans (KeepsOthers.setCell _ _ _)),E,(hi'.set _).set _,λe=>by omega,s1 _ _⟩
 case done=>
  rintro D xs W hD rfl ⟨ha,hi,⟨ig,ff⟩,hB,_⟩ hK;have a1:=ha.1;have a2:=ha.2;have b1:=hi.1;have b2:=hi.2;by_cases h4:(Cy 46 s).length=4
  .have hr:Dy s=(fO (Cy 46 s),true):=by rw[Dy,zE ⟨h4,ff⟩]
   gi_wp2
   refine⟨by simp,.inl ⟨_,_,E,run_takeDeferred hK,?_⟩⟩;exact⟨_,results_tmp2 E _ _ _,by rw[hr];rfl,hB.trans (belowK_b (w:=w) (yG _) W D _ _ Go.Sy.z_ hK E E)⟩
  .have hr:Dy s=(0,false):=by rw[Dy,zD (λe=>h4 e.1)]
   gi_wp2
   refine⟨by simp,.inl ⟨_,_,E,run_takeDeferred hK,?_⟩⟩;exact⟨_,results_tmp2 E _ _ _,by rw[hr];rfl,hB.trans (belowK_b (w:=w) (yG _) W D _ _ Go.Sy.z_ hK E E)⟩
 case stop=>
  rintro D c pre W hD x6 ⟨rfl,hi,ef,hB⟩ hK;have b1:=hi.1;have b2:=hi.2;have hr:Dy s=(0,false):=by
   rw[Dy,zD];intro e;refine ef ⟨by have:=x6.length_le;omega,?_⟩;rw[yU]at e|-;exact λx hx=>e.2 x (x6.subset hx)
  gi_wp2
  refine⟨by simp,.inl ⟨_,_,E,run_takeDeferred hK,?_⟩⟩;exact⟨_,results_tmp2 E _ _ _,by rw[hr];rfl,hB.trans (belowK_b (w:=w) (yG _) W D _ _ Go.Sy.z_ hK E E)⟩
end Go.Proofs
namespace Go.Sy.Zaa
open Go.Proofs Go.Proofs.Tryz
def dM(s:ByteArray)(hs:s.size<100000):Sp 130 [Ar s] (.tup [A9 (Dy s).1,Ab (Dy s).2]) :=
 Spec.of_calls2 λk w vs _ hr _=>by
  simp only[RdL]at hr;obtain ⟨v,r,rfl,hv,rfl⟩:=hr;simp only[Ar,Rd]at hv;subst hv;exact Tryz.addrRead_calls s hs w
set_option maxRecDepth 20000
def Wx{x:Int}(h0:0<=x)(h1:x<4294967297):IntKind.i64.wrap x=x:=by
 rw[IntKind.wrap_i64];omega
def Ar3{x:Int}(h0:0<=x)(h1:x<4294967296):IntKind.u32.wrap x=x:=by
 rw[IntKind.wrap_u32];omega
def Adw(b:Int)(h:0<=b/\b<=32):Aiu b=((2^(32-b).toNat-1:Nat):Int):=by
 obtain ⟨k,hk,dw⟩:∃k:Nat,(32-b).toNat=k/\k<=32:=⟨_,rfl,by omega⟩
 have h1:min (32-b).toNat IntKind.u32.bits=k:=by show min (32-b).toNat 32=k;omega
 have hp:=wY (n:=2) y_ dw;have ww:(2:Nat)^32=4294967296:=rfl;rw[ww]at hp;have h0:=vA (n:=k);rw[Aiu,h1,hk,IntKind.wrap_u32,IntKind.wrap_u32,show (2:Int)^k=((2^k:Nat):Int) by rw[uU];rfl];generalize 2^k=q at *;omega
def Vu(a b x:Int)(hb:0<=b/\b<=32)(ha:0<=a/\a<4294967296)(hx:0<=x/\x<4294967296):Acu a b x=true↔D9 a b<=x/\x<=H4 a b:=by
 obtain ⟨a,rfl⟩:=xM ha.1;obtain ⟨x,rfl⟩:=xM hx.1;obtain ⟨k,hk,dw⟩:∃k:Nat,(32-b).toNat=k/\k<=32:=⟨_,rfl,by omega⟩
 have h0:=vA (n:=k);rw[Acu,Adw b hb,hk,Aye a x k z_ z_ dw,decide_eq_true_iff,Ast a x (2^k) z_,Lg a k b hb hk,dD a k b hb hk];omega
def Sl(a b:Int)(ha:0<=a/\a<4294967296):0<=H4 a b/\H4 a b<4294967296:=by
 by_cases hb:0<=b/\b<=32
 .obtain ⟨a,rfl⟩:=xM ha.1;obtain ⟨k,hk,dw⟩:∃k:Nat,(32-b).toNat=k/\k<=32:=⟨_,rfl,by omega⟩
  have h0:=vA (n:=k);rw[dD a k b hb hk];have hd:a-a%2^k=2^k*(a/2^k):=by have:=uD a (2^k);omega
  have h32:2^k*2^(32-k)=4294967296:=by
   rw[<-Nat.pow_add,show k+(32-k)=32 by omega]
  have:a/2^k<2^(32-k):=by rw[Nat.div_lt_iff_lt_mul z_,vE,h32];omega
  have:2^k*(a/2^k)+2^k<=2^k*2^(32-k):=by
   rw[<-Nat.mul_succ];exact Nat.mul_le_mul_left _ this
  omega
 .rw[H4,zD hb];omega
def dI(a b:Int)(ha:0<=a/\a<4294967296):0<=D9 a b/\D9 a b<4294967296:=by
 by_cases hb:0<=b/\b<=32
 .obtain ⟨a,rfl⟩:=xM ha.1;rw[Lg a _ b hb rfl];omega
 .rw[D9,zD hb];omega
attribute [local irreducible]G DR
def At2{n:Net}{irb dst:Int}(h:(lookT n irb dst).2=true):Yg n irb dst (lookT n irb dst).1.toNat=true:=by
 unfold lookT at h|-;split at h
 .cases h
 rename_i h1;rw[zD h1];split at h
 .cases h
 rename_i h2;rw[zD h2];have hm:=Vl (Y7 n irb) (Jj n irb dst) (xU.2 h2) ((Jj n irb dst).length-1) (by have:=xU.2 h2;omega);exact((filtI_mem (p:=Yg n irb dst) (j:=n.irbs.length)).1 hm).2.2
def Asu(x:Int)(i:Irb):Sp 376 [Cr i,.ref 1 (A9 x) 0] (Ab (i.addr==x)):=cT F376 ntmps376 λF hF=>by
 refine fW ?_;exact dN
def Asv(x:Int)(i:Irb):Sp 334 [Cr i,.ref 1 (A9 x) 0] (Ab (i.addr==x)):=cT F334 ntmps334 λF hF=>by
 refine fW ?_;exact dN
def Hp(n:Net)(a:Int):Bool:=decide (0<=Bs (λi:Irb=>i.addr==a) n.irbs)
def pastI(n:Net)(a jy:Int):Int:=if Hp n a=true then a+1 else H4 (nth n.irbs jy).addr (nth n.irbs jy).bits+1
def Alj(n:Net)(hn:n.Fin)(hu:C7 n)(a jy:Int)(ha:0<=a/\a<4294967296)(hl:Hp n a=false->InIrbs n jy):Sp 335 [Am n,A9 a,Aa jy] (Aa (pastI n a jy)):=cT F335 ntmps335 λF hF=>by
 have ak:=pastI.eq_1 n a jy;generalize pastI n a jy=res at *;have q7:=K5 n.irbs (λi:Irb=>i.addr==a) 376 [] [.ref 1 (A9 a) 0] rfl (λi _=>⟨⟨_,_,F376⟩,Asu a i⟩) hn.irbs;have ht:decide (0<=Bs (λi:Irb=>i.addr==a) n.irbs)=Hp n a:=rfl;rw[ht]at q7;generalize Hp n a=tk at *;refine fW ?_;refine Ba 3 8 (Am n) E E E ?_;refine Ba 4 1 (A9 a) E E E (gN q7 F333 ?_);cases tk;rotate_left
 .rw[zE rfl]at ak;subst ak;refine fU ?_;rw[Wx z_ z_];refine iL ?_;refine fW ?_;exact dN
 rw[zD qq]at ak;have ot:=hl rfl;rw[Ag ot.2]at ak;have mw:=hu _ (zI ot.2);obtain ⟨x,hx⟩:=kE (n.irbs[jy.toNat]'ot.2);rw[hx]at ak mw;obtain ⟨y,hy⟩:=xM mw.1;have q:=dO y x.bits z_;have hle:=Sl x.addr x.bits mw;rw[<-hy]at q;generalize H4 x.addr x.bits=z at *;subst ak;refine fU ?_;refine⟨E,ot.1,ot.2,?_⟩;rw[hx];refine fW ?_
 first|refine cD q F215 ?_|refine c0 q F215 ?_
 refine fU ?_;rw[Wx z_ z_];refine iL ?_;refine fW ?_;exact dN
def Ajb{n:Net}(hu:C7 n)(hb:Ac n=true){irb a:Int}(ha:0<=a/\a<4294967296)(h:Hp n a=false->(lookT n irb a).2=true):a<pastI n a (lookT n irb a).1/\pastI n a (lookT n irb a).1<=4294967296:=by
 rw[pastI];split
 .omega
 rename_i ht;have h2:=h (kS ht);have hw:=At2 h2;have hi:=Vn h2;have e:((lookT n irb a).1.toNat:Int)=(lookT n irb a).1:=by have:=hi.1;omega
 rw[Yg,zG,e]at hw;rw[Ag hi.2]at hw|-;have mw:=hu _ (zI hi.2);have sj:=(Dg hb hi.2).2.2;have h3:=(Vu _ _ _ sj mw ha).1 hw.1;have h4:=Sl _ (n.irbs[(lookT n irb a).1.toNat]'hi.2).bits mw;omega
def addrGo(n:Net)(irb to e:Int)(x:Int):Int×Bool :=
 if x<=e then
  if (lookT n irb x).2=true/\(lookT n irb x).1=to/\Hp n x=false then (x,true)
  else if (lookT n irb x).2=false/\Hp n x=false then (0,false)
  else if x<pastI n x (lookT n irb x).1 then addrGo n irb to e (pastI n x (lookT n irb x).1) else (0,false)
 else (0,false)
 termination_by (e+1-x).toNat
 decreasing_by omega
def addrT(n:Net)(irb to:Int):Int×Bool :=
 if (0<=irb/\irb<n.irbs.length)/\(0<=to/\to<n.irbs.length)/\Ac n=true then
  addrGo n irb to (H4 (nth n.irbs to).addr (nth n.irbs to).bits) (D9 (nth n.irbs to).addr (nth n.irbs to).bits) else (0,false)
def Abk(n:Net)(hn:n.Fin)(hu:C7 n)(irb to:Int):Sp 257 [Am n,Aa irb,Aa to] (.tup [A9 (addrT n irb to).1,Ab (addrT n irb to).2]):=cT F257 ntmps257 λF hF=>by
 have ak:=addrT.eq_1 n irb to;generalize addrT n irb to=res at *;have hr:=A0 n hn;have x7:=hn.irbs;unfold An at x7;refine fW ?_;constructor<;>intro h
 .rw[zD (qA h)]at ak;subst ak;exact gD
 have h1:¬irb<0:=zQ h;refine gK ?_ ?_<;>intro h
 .rw[zD (qA h)]at ak;subst ak;exact gD
 have h2:¬to<0:=zQ h;refine Ba 3 8 (Am n) E E E ?_;refine gK ?_ ?_<;>intro h
 .rw[zD (qA h)]at ak;subst ak;exact gD
 have h3:irb<n.irbs.length:=qB h;refine gK ?_ ?_<;>intro h
 .rw[zD (qA h)]at ak;subst ak;exact gD
 have h4:to<n.irbs.length:=qB h;refine gN hr F39 ?_;cases hb:Ac n
 .rw[zD (by simp[hb])]at ak;subst ak;exact gD
 rw[zE ⟨⟨by omega,h3⟩,⟨by omega,h4⟩,hb⟩]at ak;have ed:InIrbs n to:=⟨by omega,by omega⟩
 have hii:InIrbs n irb:=⟨by omega,by omega⟩
 rw[Ag ed.2]at ak;have mw:=hu _ (zI ed.2);obtain ⟨x,hx⟩:=kE (n.irbs[to.toNat]'ed.2);rw[hx]at ak mw;obtain ⟨y,hy⟩:=xM mw.1;have q1:=Ab2 y x.bits z_;have q2:=dO y x.bits z_;have hf:=dI x.addr x.bits mw;have hle:=Sl x.addr x.bits mw;rw[<-hy]at q1 q2;generalize H4 x.addr x.bits=e at *;generalize D9 x.addr x.bits=s at *;refine fU ?_;refine⟨E,ed.1,ed.2,?_⟩;rw[hx];refine fW ?_;refine cD q1 F214 (fU ?_);refine cD q2 F215 (fU ?_);refine⟨j_,?_⟩;refine fW ?_;refine Ci (λz:Int=>0<=z/\z<=4294967296/\res=addrGo n irb to e z) (λz=>[(1,Aa irb),(2,Aa to),(3,.ref 8 (Am n) 0),(9,Aa z),(10,Aa e)]) (λ_=>[]) (λz=>(e+1-z).toNat) s [] ⟨hf.1,by omega,ak⟩
  ⟨⟨rfl,rfl,rfl,rfl,rfl,rfl,zH Aa (Wx (x:=s) z_ z_).symm,rfl,zH Aa (Wx (x:=e) z_ z_).symm,rfl,trivial⟩,trivial,rfl,rfl⟩ ?_
 clear ak;rintro z ⟨bq,hz1,ak⟩;refine gK ?_ ?_<;>intro h
 .have h5:z<=e:=zO h;rw[addrGo,zE h5]at ak;have uy:0<=z/\z<4294967296:=by omega
  have q6:=Af5 n hn hb irb z hii;have hgt:=Ajb (irb:=irb) hu hb uy;have lq:=Vn (n:=n) (irb:=irb) (dst:=z);have q8:=λjy hl=>Alj n hn hu z jy uy hl
  have q7:=K5 n.irbs (λi:Irb=>i.addr==z) 334 [] [.ref 1 (A9 z) 0] rfl (λi _=>⟨⟨_,_,F334⟩,Asv z i⟩) hn.irbs;have ht:decide (0<=Bs (λi:Irb=>i.addr==z) n.irbs)=Hp n z:=rfl;rw[ht]at q7;clear ht;generalize Hp n z=tk at *;generalize lookT n irb z=ld at *;obtain ⟨jy,ok⟩:=ld;dsimp only at *;refine fU ?_;rw[Ar3 uy.1 uy.2];refine c0 q6 F332 ?_;refine Ba 11 1 (A9 z) E E E (gN q7 F333 ?_);cases ok
  .cases tk
   .rw[zD qq,zE ⟨rfl,rfl⟩]at ak;subst ak;exact gD
   .rw[zD qq,zD qq,zE (hgt (λh=>by cases h)).1]at ak;have hg:=hgt (λh=>by cases h);have q:=q8 jy (λh=>by cases h);generalize pastI n z jy=nx at *;refine gN q F335 ?_;refine fU ?_;exact Ay nx [] ⟨by omega,hg.2,ak⟩ z_ kU
  .have q:=q8 jy (λ_=>lq rfl);have hg:=hgt (λ_=>rfl);cases tk
   .by_cases d7:jy=to
    .subst d7;rw[zE ⟨rfl,rfl,rfl⟩]at ak;subst ak;refine gK ?_ ?_<;>intro h
     .exact gD
     .simp at h
    .rw[zD (by simp[d7]),zD qq,zE hg.1]at ak;generalize pastI n z jy=nx at *;refine fU ?_;refine⟨λh=>zX (kS h) d7,λh=>?_⟩;refine gN q F335 ?_;refine fU ?_;exact Ay nx [] ⟨by omega,hg.2,ak⟩ z_ kU
   .rw[zD qq,zD qq,zE hg.1]at ak;generalize pastI n z jy=nx at *;refine gK ?_ ?_<;>intro h
    .refine gN q F335 ?_;refine fU ?_;exact Ay nx [] ⟨by omega,hg.2,ak⟩ z_ kU
    .refine gN q F335 ?_;refine fU ?_;exact Ay nx [] ⟨by omega,hg.2,ak⟩ z_ kU
 .have h5:¬z<=e:=zQ h;rw[addrGo,zD h5]at ak;subst ak;exact gD
def Et{i:Int}{n:Nat}(h:0<=i/\i<n):Af i n=true:=by simp only[Af,zG,zJ];exact h
def Db{i:Int}{n:Nat}(h:¬(0<=i/\i<n)):Af i n=false:=by simp only[Af,yW,zY];omega
def Qi(c:Int->Int->Int)(l:List Int):Int:=if l=[] then -1 else Xg c l (l.length-1)
def Ajt(c:Int->Int->Int)(l:List Int)(x:Int)(j:Nat)(h:j+1<=l.length):Xg c (l++[x]) j=Xg c l j:=by
 rw[Xg,Xg,List.drop_append_of_le_length z_,wX kO];congr 1;cases l with
 |nil=>simp at h
 |cons a l=>rfl
def Ap1(c:Int->Int->Int)(l:List Int)(x:Int)(h:l≠[]):Qi c (l++[x])=if 0<c x (Qi c l) then x else Qi c l:=by
 have hl:0<l.length:=xU.2 h;rw[Qi,zD qq,Qi,zD h];have e:(l++[x]).length-1=(l.length-1)+1:=by simp;omega
 rw[e,dA c (l++[x]) (l.length-1) kO,Ajt c l x (l.length-1) z_];have e2:(l++[x])[l.length-1+1]'kO=x:=by
  have:l.length-1+1=l.length:=by omega
  simp[this]
 rw[e2]
def Au7(c:Int->Int->Int)(x:Int):Qi c [x]=x:=by
 rw[Qi,zD qq];rfl
def Afe(c:Int->Int->Int)(l:List Int)(h:l≠[]):Qi c l∈l:=by
 have hl:0<l.length:=xU.2 h;rw[Qi,zD h];exact Vl c l hl _ z_
def filtI_in{p:Nat->Bool}{j:Nat}{x:Int}(h:x∈Im p j):0<=x/\x<j:=by
 have:=filtI_mem.1 h;omega
structure Hop where
 (kind port domain addr:Int)
abbrev Dc(h:Hop):SV:=.agg [Aa h.kind,Aa h.port,Aa h.domain,A9 h.addr]
instance:Inhabited Hop:=⟨⟨0,0,0,0⟩⟩
def Abd(n:Net)(d:Int):Prop:=(0<=d/\d<n.domains.length)/\Ac n=true
instance (n:Net)(d:Int):Decidable (Abd n d):=inferInstanceAs (Decidable (_/\_))
def Aiy(n:Net)(hn:n.Fin)(d:Int):Sp 255 [Am n,Aa d] (Ab (decide (Abd n d))):=cT F255 ntmps255 λF hF=>by
 have hr:=A0 n hn;refine fW ?_;constructor<;>intro h
 .have h1:0<=d:=zO h;refine Ba 2 8 (Am n) E E E ?_;refine gK ?_ ?_<;>intro h
  .have h2:d<n.domains.length:=zO h;refine gN hr F39 ?_;refine fU ?_;refine Aq E Ap (zH Ab ?_) E;cases hb:Ac n<;>simp[Abd,h1,h2,hb]
  .have h2:¬d<n.domains.length:=zQ h;refine fU ?_;refine Aq E Ap (zH Ab ?_) E;simp[Abd,h2]
 .have h1:¬0<=d:=zQ h;refine fU ?_;refine Aq E Ap (zH Ab ?_) E;simp[Abd,h1]
def linkHop(n:Net)(d p:Int):Option Hop:=if (linkDomT n p (nth n.domains d).vlan).2=true then some ⟨1,p,(linkDomT n p (nth n.domains d).vlan).1,0⟩ else none
def Mr(p:Int):Hop:=⟨2,0,p,0⟩
def hopsL(n:Net)(d:Int):List Hop:=(Bj n d).filterMap (linkHop n d)++(nth n.domains d).peers.map Mr
def C4(n:Net)(d:Int):List Hop:=if Abd n d then hopsL n d else []
def Agq{n:Net}{d:Int}{l:List Int}{j:Nat}{p:Int}(h:j<l.length)(hp:l[j]=p):(l.take (j+1)).filterMap (linkHop n d) =
  (l.take j).filterMap (linkHop n d)++(match linkHop n d p with|some h=>[h]|none=>[]):=by
 subst hp;rw[vO,zR h,List.filterMap_append];cases hh:linkHop n d l[j]<;>simp[hh]
def Anl(n:Net)(hn:n.Fin)(d:Int):Sp 199 [Am n,Aa d] (.sl 4 Dc (C4 n d)):=cT F199 ntmps199 λF hF=>by
 have hp:=Aiy n hn d;have bw:=Qu n hn d;have wx:=Kw n hn d;unfold An at wx;refine fW ?_;refine Ba 2 8 (Am n) E E E (gN hp F255 ?_);by_cases hd:Abd n d;rotate_left
 .rw[C4,zD hd,zL hd];refine fU ?_;exact Ao 4 4 Dc E gD
 rw[C4,zE hd,zK hd];have hk:d.toNat<n.domains.length:=by have:=hd.1;omega
 have h0:0<=d:=hd.1.1;have gp:=hn.peers _ (zI hk);unfold An at gp;have hh:=hopsL.eq_1 n d;have hlh:=linkHop.eq_1 n d;have il:=λj p h hp=>Agq (n:=n) (d:=d) (l:=Bj n d) (j:=j) (p:=p) h hp
 have im:∀j,((Bj n d).take j |>.filterMap (linkHop n d)).length<=(Bj n d).length:=λj=>by
  refine wQ (uY _ _) ?_;rw[zW];omega
 have dp:(Bj n d).take (Bj n d).length=Bj n d:=yM;rw[Ag hk]at hh hlh;obtain ⟨x,hx⟩:=kE (n.domains[d.toNat]'hk);rw[hx]at hh hlh gp;generalize hopsL n d=res at *;generalize Bj n d=mem at *;refine gN bw F116 ?_;refine fU ?_;refine B6 5 1000 4 Dc E E ?_;refine A8 mem.length (λj=>[(1,Aa d),(2,.ref 8 (Am n) 0),(5,.osl 1000),(18,.sl 1 Aa mem),(19,Aa mem.length),(20,Aa j)]) (λj=>[(1000,.row 4 Dc ((mem.take j).filterMap (linkHop n d)))]) []
  kU ?_
 intro j hj;have hflj:=im j;refine gK ?_ ?_<;>intro h
 .have ab:j<mem.length:=by simpa using h
  have aj:(j:Int).toNat<mem.length:=kS ab;obtain ⟨p,x8⟩:∃p,mem[(j:Int).toNat]'aj=p:=⟨_,rfl⟩
  have hs:=il j p ab x8;have q:=aI n hn p x.vlan;rw[hlh p]at hs;generalize linkDomT n p x.vlan=ld at *;obtain ⟨to,ok⟩:=ld;refine fU ?_;refine⟨E,by omega,aj,?_⟩;rw[x8];refine fW ?_;refine⟨E,h0,hk,?_⟩;rw[hx];refine fW ?_;refine cD q F256 (fU ?_);refine⟨j_,?_⟩;refine fW ?_;dsimp only at hs;refine⟨λh=>?_,λh=>?_⟩<;>(have h:ok=_:=h;subst h)
  .refine fU ?_;refine Ai (Ah Γ.toTy 42 E E E E E (.row E) (.lit (e:=Dc) (l:=[⟨1,p,to,0⟩]) E E) qq kO kO) E E (gG ?_);exact Ax [(1000,42)] ab ⟨kA,⟨.inl (zH (Ob.row 4 Dc) hs),E,q_⟩,E,E⟩
  .refine gG ?_;exact Ax [] ab ⟨kA,⟨.inl (zH (Ob.row 4 Dc) (hs.trans (xG _))),E,q_⟩,E,E⟩
 .have:j=mem.length:=qB h;subst this;rw[dp]at hflj|-;generalize mem.filterMap (linkHop n d)=first at *
  refine fU ?_;refine⟨E,h0,hk,?_⟩;rw[hx];refine fW ?_;refine A8 x.peers.length (λj=>[(5,.osl 1000),(49,.sl 1 Aa x.peers),(50,Aa x.peers.length),(51,Aa j)]) (λj=>[(1000,.row 4 Dc (first++(x.peers.take j).map Mr))]) []
   ⟨⟨rfl,rfl,rfl,rfl,rfl,rfl,rfl,rfl,trivial⟩,⟨.inl (zH (Ob.row 4 Dc) (xG _)),rfl,trivial⟩,rfl,rfl⟩ ?_
  intro j hj;refine gK ?_ ?_<;>intro h
  .have ab:j<x.peers.length:=by simpa using h
   have aj:(j:Int).toNat<x.peers.length:=kS ab;obtain ⟨p,x8⟩:∃p,x.peers[(j:Int).toNat]'aj=p:=⟨_,rfl⟩
   have hs:(first++(x.peers.take j).map Mr)++[⟨2,0,p,0⟩]=first++(x.peers.take (j+1)).map Mr:=by
    rw[vO,zR ab,xY,xF];congr 2;simp only[Option.toList,xZ,vS,Mr];congr 2;exact x8.symm
   refine fU ?_;refine⟨E,by omega,aj,?_⟩;rw[x8];refine fW ?_;refine Ai (Ah Γ.toTy 59 E E E E E (.row E) (.lit (e:=Dc) (l:=[⟨2,0,p,0⟩]) E E) qq kO kO) E E (gG ?_);exact Ax [(1000,59)] ab ⟨kA,⟨.inl (zH (Ob.row 4 Dc) hs.symm),E,q_⟩,E,E⟩
  .have:j=x.peers.length:=qB h;subst this;refine fU ?_;refine Aj 1000 E (fU ?_);refine Aq E Ap ?_ E;rw[hh,yM];rfl
structure Lead where
 (to domain addr:Int)
abbrev Oh(l:Lead):SV:=.agg [Aa l.to,Aa l.domain,A9 l.addr]
instance:Inhabited Lead:=⟨⟨0,0,0⟩⟩
def leadF(n:Net)(irb:Int)(i:Nat):Option Lead:=if (addrT n irb i).2=true then some ⟨i,(nth n.irbs i).domain,(addrT n irb i).1⟩ else none
def Tw(n:Net)(irb:Int)(j:Nat):List Lead:=(List.range j).filterMap (leadF n irb)
def routesT(n:Net)(d:Int):List Lead:=if (0<=d/\d<n.domains.length)/\0<=(nth n.domains d).irb/\Ac n=true then Tw n (nth n.domains d).irb n.irbs.length else []
def Aka(n:Net)(irb:Int)(j:Nat):Tw n irb (j+1)=Tw n irb j++(match leadF n irb j with|some h=>[h]|none=>[]):=by
 rw[Tw,vB,List.filterMap_append];cases h:leadF n irb j<;>simp[h,Tw]
def X1(n:Net)(irb:Int)(j:Nat):(Tw n irb j).length<=j:=by
 have:=uY (leadF n irb) (List.range j);simpa [Tw] using this
def Ac9(n:Net)(hn:n.Fin)(hu:C7 n)(d:Int):Sp 200 [Am n,Aa d] (.sl 3 Oh (routesT n d)):=cT F200 ntmps200 λF hF=>by
 have ak:=routesT.eq_1 n d;generalize routesT n d=res at *;have hr:=A0 n hn;have x7:=hn.irbs;unfold An at x7;refine fW ?_;constructor<;>intro h
 .rw[zD (qA h)]at ak;subst ak;refine fU ?_;exact Ao 4 3 Oh E gD
 have h1:¬d<0:=zQ h;refine Ba 2 8 (Am n) E E E ?_;refine gK ?_ ?_<;>intro h
 .rw[zD (qA h)]at ak;subst ak;refine fU ?_;exact Ao 4 3 Oh E gD
 have h2:d<n.domains.length:=qB h;have hk:d.toNat<n.domains.length:=by omega
 rw[Ag hk]at ak;obtain ⟨x,hx⟩:=kE (n.domains[d.toNat]'hk);rw[hx]at ak;refine fU ?_;refine⟨E,by omega,hk,?_⟩;rw[hx];refine fW ?_;constructor<;>intro h
 .rw[zD (qA h)]at ak;subst ak;refine fU ?_;exact Ao 4 3 Oh E gD
 have h3:0<=x.irb:=qB h;refine gN hr F39 ?_;cases hb:Ac n
 .rw[zD (by simp[hb])]at ak;subst ak;refine fU ?_;exact Ao 4 3 Oh E gD
 rw[zE ⟨⟨by omega,h2⟩,h3,hb⟩]at ak;subst ak;refine fU ?_;refine B6 5 1000 3 Oh E E ?_;refine A8 n.irbs.length (λj=>[(1,Aa d),(2,.ref 8 (Am n) 0),(5,.osl 1000),(34,.sl 5 Cr n.irbs),(35,Aa n.irbs.length),(36,Aa j)]) (λj=>[(1000,.row 3 Oh (Tw n x.irb j))]) []
  kU ?_
 intro j hj;have kf:=X1 n x.irb j;refine gK ?_ ?_<;>intro h
 .have ab:j<n.irbs.length:=by simpa using h
  have aj:(j:Int).toNat<n.irbs.length:=kS ab;have q:=Abk n hn hu x.irb j;have hs:=Aka n x.irb j;have hle:=leadF.eq_1 n x.irb j;rw[Ag aj]at hle;rw[hle]at hs;obtain ⟨y,hy⟩:=kE (n.irbs[(j:Int).toNat]'aj);rw[hy]at hs;generalize addrT n x.irb j=ad at *;obtain ⟨a,ok⟩:=ad;dsimp only at hs q;refine fU ?_;refine⟨E,by omega,aj,?_⟩;rw[hy];refine fW ?_;refine⟨E,by omega,hk,?_⟩;rw[hx];refine fW ?_;refine cD q F257 (fU ?_);refine⟨j_,?_⟩;refine fW ?_;refine⟨λh=>?_,λh=>?_⟩<;>(have h:ok=_:=h;subst h)
  .refine fU ?_;refine Ai (Ah Γ.toTy 61 E E E E E (.row E) (.lit (e:=Oh) (l:=[⟨j,y.domain,a⟩]) E E) qq kO kO) E E (gG ?_);exact Ax [(1000,61)] ab ⟨kA,⟨.inl (zH (Ob.row 3 Oh) hs),E,q_⟩,E,E⟩
  .refine gG ?_;exact Ax [] ab ⟨kA,⟨.inl (zH (Ob.row 3 Oh) (hs.trans (xG _))),E,q_⟩,E,E⟩
 .have:j=n.irbs.length:=qB h;subst this;refine fU ?_;exact Aj 1000 E gD
def Eg(n:Net)(i:Int):Bool:=decide (0<=i)&&decide (i<n.ports.length)&&decide ((nth n.ports i).link<0)
def Zd(n:Net)(i:Int):Sp 61 [Am n,Aa i] (Ab (Eg n i)):=cT F61 ntmps61 λF hF=>by
 refine fW ?_;constructor<;>intro h
 .have h1:0<=i:=zO h;refine Ba 2 8 (Am n) E E E ?_;refine gK ?_ ?_<;>intro h
  .have h2:i<n.ports.length:=zO h;have hk:i.toNat<n.ports.length:=by omega
   rw[Eg,Ag hk,zK h1,zK h2,yD,yD];obtain ⟨p,hp⟩:=kE (n.ports[i.toNat]'hk);rw[hp];refine fU ?_;refine⟨E,h1,hk,?_⟩;rw[hp];refine fW ?_;exact dN
  .have h2:¬i<n.ports.length:=zQ h;rw[Eg,zL h2,wS,yC];exact gD
 .have h1:¬0<=i:=zQ h;rw[Eg,zL h1,yC,yC];exact gD
structure Fnd where
 (domain kind:Int) (hop:Hop) (ahead:Int)
abbrev X7(f:Fnd):SV:=.agg [Aa f.domain,Aa f.kind,Aa f.hop.kind,Aa f.hop.port,Aa f.hop.domain,A9 f.hop.addr,Aa f.ahead]
instance:Inhabited Fnd:=⟨⟨0,0,default,0⟩⟩
structure Srch where
 (m0 m1:List Bool) (list:List Fnd)
abbrev stSV(d k:Int):SV:=.agg [Aa d,Aa k]
abbrev dX(n:Net)(S:Srch):Obs:=[(0,.box [.sl 5 A4 n.devices,.sl 7 Bd n.ports,.sl 3 Co n.links,.sl 6 At n.domains,.sl 4 Bb n.statics,.sl 4 Bm n.floods,.sl 5 Cu n.vrfs,.sl 5 Cr n.irbs,.osl 1,.osl 2,.osl 3]),
 (1,.row 1 Ab S.m0),(2,.row 1 Ab S.m1),(3,.row 7 X7 S.list)]
abbrev Zn(n:Net)(S:Srch):Obs:=[(0,.box [.sl 5 A4 n.devices,.sl 7 Bd n.ports,.sl 3 Co n.links,.sl 6 At n.domains,.sl 4 Bb n.statics,.sl 4 Bm n.floods,.sl 5 Cu n.vrfs,.sl 5 Cr n.irbs,.osl 1,.osl 2,.osl 4]),
 (1,.row 1 Ab S.m0),(2,.row 1 Ab S.m1),(3,.non),(4,.row 7 X7 S.list)]
def Tq(S:Srch)(d k:Int):Bool:=if k=0 then nth S.m0 d else nth S.m1 d
def Od(S:Srch)(d k:Int)(h:Hop)(ahead:Int):Srch :=
 if k=0 then ⟨S.m0.set d.toNat true,S.m1,S.list++[⟨d,k,h,ahead⟩]⟩ else ⟨S.m0,S.m1.set d.toNat true,S.list++[⟨d,k,h,ahead⟩]⟩
def meetT(S:Srch)(d k:Int)(h:Hop)(ahead:Int):Srch:=if Tq S d k=true then S else Od S d k h ahead
def Ayc(n:Net)(S:Srch)(d:Int)(h:Hop)(ahead:Int)(hd:0<=d/\d.toNat<S.m0.length)(hl:An S.list):Sq 197 [.ptr 0 0,stSV d 0,Dc h,Aa ahead] (dX n S) (.tup []) (Zn n (meetT S d 0 h ahead)):=cT F197 ntmps197 λF hF=>by
 unfold An at hl;have ak:=meetT.eq_1 S d 0 h ahead;rw[Tq,zE rfl,Ag hd.2,show Od S d 0 h ahead=⟨S.m0.set d.toNat true,S.m1,S.list++[⟨d,0,h,ahead⟩]⟩ from zE rfl]at ak;generalize meetT S d 0 h ahead=res at *;refine fW ?_;refine⟨by decide,by decide,?_⟩;refine fW ?_;refine⟨hd.1,hd.2,?_⟩;refine fW ?_;refine⟨E,hd.2,?_⟩;refine fW ?_;refine⟨j_,?_⟩;refine fW ?_;constructor<;>intro h1
 rotate_left
 .rw[zE (kS h1)]at ak;subst ak;refine S3 3 1000 E E y_ (fU ?_);exact A2 E .nil [(4,1000)] (Zn n res) (λ_ h=>h) E E kU
 rw[zD (kS h1)]at ak;subst ak;refine fU ?_;refine⟨by decide,by decide,?_⟩;refine fW ?_;refine⟨hd.1,hd.2,?_⟩;refine fW ?_;refine⟨E,hd.2,true,E,E,?_⟩;refine fW ?_;refine⟨j_,?_⟩;refine fW ?_;refine Cc (Ah Γ.toTy 40 E E E E E (.row E) (.lit (e:=X7) (l:=[⟨d,0,h,ahead⟩]) E E) qq kO kO) j_ E (fU ?_);refine⟨j_,?_⟩;refine fW ?_;exact A2 E .nil [(4,40)] (Zn n ⟨S.m0.set d.toNat true,S.m1,S.list++[⟨d,0,h,ahead⟩]⟩) (λ_ h=>h) E E kU
def Ayb(n:Net)(S:Srch)(d:Int)(h:Hop)(ahead:Int)(hd:0<=d/\d.toNat<S.m1.length)(hl:An S.list):Sq 197 [.ptr 0 0,stSV d 1,Dc h,Aa ahead] (dX n S) (.tup []) (Zn n (meetT S d 1 h ahead)):=cT F197 ntmps197 λF hF=>by
 unfold An at hl;have ak:=meetT.eq_1 S d 1 h ahead;rw[show Tq S d 1=nth S.m1 d from zD y_,Ag hd.2,show Od S d 1 h ahead=⟨S.m0,S.m1.set d.toNat true,S.list++[⟨d,1,h,ahead⟩]⟩ from zD y_]at ak;generalize meetT S d 1 h ahead=res at *;refine fW ?_;refine⟨by decide,by decide,?_⟩;refine fW ?_;refine⟨hd.1,hd.2,?_⟩;refine fW ?_;refine⟨E,hd.2,?_⟩;refine fW ?_;refine⟨j_,?_⟩;refine fW ?_;constructor<;>intro h1
 rotate_left
 .rw[zE (kS h1)]at ak;subst ak;refine S3 3 1000 E E y_ (fU ?_);exact A2 E .nil [(4,1000)] (Zn n res) (λ_ h=>h) E E kU
 rw[zD (kS h1)]at ak;subst ak;refine fU ?_;refine⟨by decide,by decide,?_⟩;refine fW ?_;refine⟨hd.1,hd.2,?_⟩;refine fW ?_;refine⟨E,hd.2,true,E,E,?_⟩;refine fW ?_;refine⟨j_,?_⟩;refine fW ?_;refine Cc (Ah Γ.toTy 40 E E E E E (.row E) (.lit (e:=X7) (l:=[⟨d,1,h,ahead⟩]) E E) qq kO kO) j_ E (fU ?_);refine⟨j_,?_⟩;refine fW ?_;exact A2 E .nil [(4,40)] (Zn n ⟨S.m0,S.m1.set d.toNat true,S.list++[⟨d,1,h,ahead⟩]⟩) (λ_ h=>h) E E kU
structure Srch.OK(n:Net)(S:Srch):Prop where
 l0:S.m0.length=n.domains.length
 l1:S.m1.length=n.domains.length
 at_:∀f∈S.list,(0<=f.domain/\f.domain.toNat<n.domains.length)/\(f.kind=0\/f.kind=1)
 len:S.list.length<=S.m0.count true+S.m1.count true
theorem Srch.OK.le{n:Net}{S:Srch}(h:S.OK n):S.list.length<=2*n.domains.length:=by
 have h1:S.m0.count true<=S.m0.length:=List.count_le_length;have h2:S.m1.count true<=S.m1.length:=List.count_le_length;have:=h.len;rw[h.l0]at h1;rw[h.l1]at h2;omega
def count_set{l:List Bool}{i:Nat}(h:i<l.length)(hi:l[i]=false):(l.set i true).count true=l.count true+1:=by
 rw[List.count_set h,hi];simp
theorem Srch.OK.meet{n:Net}{S:Srch}(h:S.OK n){d k:Int}(hd:0<=d/\d.toNat<n.domains.length)(hk:k=0\/k=1)(hp:Hop)(a:Int):(meetT S d k hp a).OK n:=by
 rw[meetT];split
 .exact h
 rename_i wy;have h0:d.toNat<S.m0.length:=by rw[h.l0];exact hd.2
 have h1:d.toNat<S.m1.length:=by rw[h.l1];exact hd.2
 rcases hk with rfl|rfl
 .rw[Tq,zE rfl,Ag h0]at wy;rw[Od,zE rfl];refine⟨by simp[h.l0],h.l1,λf hf=>?_,?_⟩
  .rcases yI.1 hf with hf|hf
   .exact h.at_ f hf
   .rw[zZ]at hf;subst hf;exact⟨hd,.inl E⟩
  .rw[count_set h0 (kS wy),zU,yF];have:=h.len;show _<=_+S.m1.count true;omega
 .rw[Tq,zD y_,Ag h1]at wy;rw[Od,zD y_];refine⟨h.l0,by simp[h.l1],λf hf=>?_,?_⟩
  .rcases yI.1 hf with hf|hf
   .exact h.at_ f hf
   .rw[zZ]at hf;subst hf;exact⟨hd,.inr E⟩
  .rw[count_set h1 (kS wy),zU,yF];have:=h.len;show _<=S.m0.count true+_;omega
def V5{n:Net}(h:Ac n=true){i:Nat}(hi:i<n.ports.length){v:Int}(hv:Cz n.ports[i] v=true):0<=Da n n.ports[i].dev v/\(Da n n.ports[i].dev v).toNat<n.domains.length:=by
 have hp:=Apk h hi;simp only[J7,zG,xB]at hp;simp only[Cz,zG,xC,yQ,yJ]at hv;have h0:0<=Da n n.ports[i].dev v:=by
  rcases hv.2 with h1|h1
  .have h2:=hp.1.2;have h3:=hp.1.1.1.1.1.1.1.2;rw[h1]at hv|-;have h4:decide (0<n.ports[i].native)=true:=by
    simp only[zJ]at h3|-;omega
   rw[h4]at h2;simpa [Ec] using h2
  .have h2:=hp.1.1.2;obtain ⟨x,hx,e⟩:=wJ.1 h1;obtain ⟨j,hj,rfl⟩:=yY.1 hx;have h3:=allB_iff.1 h2 j hj;simp only[yJ]at e;rw[e]at h3;simpa [Ec] using h3
 refine⟨h0,?_⟩;have:=Il (λd:Domain=>d.dev==n.ports[i].dev&&d.vlan==v) n.domains;have e:Da n n.ports[i].dev v=Bs (λd:Domain=>d.dev==n.ports[i].dev&&d.vlan==v) n.domains:=rfl;omega
def Qa{n:Net}{i v:Int}(h:(linkDomT n i v).2=true):0<=(linkDomT n i v).1/\(linkDomT n i v).1.toNat<n.domains.length:=by
 unfold linkDomT at h|-;split at h
 .rename_i hc;rw[zE hc];have lq:=bH hc;unfold crossT at hc lq|-;split at hc
  .rename_i h1;rw[zE h1]at lq|-;have hb:=(Eu h1.1).2.1;have h2:=h1.2.2;rw[Dp]at h2|-;rw[Ce,zE hb];dsimp only at lq|-;rw[Ag lq.2]at h2|-;refine V5 hb lq.2 ?_;simp only[Cz,zG,xC,yQ,yJ];refine⟨h2,?_⟩;split
   .exact .inl E
   .rename_i h3;rw[zD h3]at h2;split
    .rename_i h4;exact .inr h4
    .rename_i h4;rw[zD h4]at h2;exact zX E h2
  .cases hc
 .cases h
def Apl{n:Net}(h:Ac n=true){i:Nat}(hi:i<n.domains.length){p:Int}(hp:p∈n.domains[i].peers):0<=p/\p.toNat<n.domains.length:=by
 simp only[Ac,zG]at h;have h1:=allB_iff.1 h.1.1.1.1.1.1.2 i hi;obtain ⟨j,hj,rfl⟩:=yY.1 hp;have h2:=allB_iff.1 h1 j hj;simp only[Sc,Af,zG,zJ]at h2;omega
def Ok{n:Net}{d:Int}{h:Hop}(hh:h∈C4 n d):0<=h.domain/\h.domain.toNat<n.domains.length:=by
 rw[C4]at hh;split at hh
 .rename_i hd;have hk:d.toNat<n.domains.length:=by have:=hd.1;omega
  rw[hopsL,Ag hk]at hh;rcases yI.1 hh with hh|hh
  .obtain ⟨p,_,hp⟩:=wL.1 hh;rw[linkHop]at hp;split at hp
   .rename_i hl;simp only[Option.some.injEq]at hp;subst hp;exact Qa hl
   .cases hp
  .obtain ⟨p,hp,rfl⟩:=yS.1 hh;exact Apl hd.2 hk hp
 .cases hh
def Te{n:Net}{d:Int}{q:Lead}(hq:q∈routesT n d):0<=q.domain/\q.domain.toNat<n.domains.length:=by
 rw[routesT]at hq;split at hq
 .rename_i hc;obtain ⟨i,hi,hp⟩:=wL.1 hq;rw[leadF]at hp;split at hp
  .simp only[Option.some.injEq]at hp;subst hp;have hi':(i:Int).toNat<n.irbs.length:=kS hi;show 0<=(nth n.irbs i).domain/\_;rw[Ag hi'];exact(Dg hc.2.2 hi').1
  .cases hp
 .cases hq
end Go.Sy.Zaa
