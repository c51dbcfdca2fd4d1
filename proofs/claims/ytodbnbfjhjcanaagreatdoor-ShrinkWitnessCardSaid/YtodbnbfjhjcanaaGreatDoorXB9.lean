/- Parts of a proof. -/
import Derived.Test.YtodbnbfjhjcanaaGreatDoorXB8
import Derived.RangeFuncNested
import Derived.Shelf.RegionOpen
import Derived.OwnWalkIn
import Derived.LoopNIn
import Derived.LoopIn
set_option maxHeartbeats 8000000
set_option linter.all false
namespace Go.Sy.Zaa
open Go.Proofs Go.Proofs.Tryz
section
attribute [local irreducible]G DR
set_option maxRecDepth 20000
def Lp(c:UInt8):Bool:=decide (48<=c.toNat)&&decide (c.toNat<=57)
def Zm(s:ByteArray):Nat->Int
 |0=>0
 |j+1=>10*Zm s j+((Bw s j).toNat-48)
def Anl(s:ByteArray):Bool:=(List.range s.size).all λi=>Lp (Bw s i)
def smallT(s:ByteArray)(a8:Int):Int×Bool :=
 if s.size=0\/3<s.size\/(1<s.size/\(Bw s 0).toNat=48)\/Anl s=false then (0,false) else (Zm s s.size,decide (Zm s s.size<=a8))
def dJ{s:ByteArray}{i:Nat}(hi:i<s.size)(h:Lp (Bw s i)=false):Anl s=false:=by
 rw[Anl,List.all_eq_false];exact⟨i,kS hi,by simp[h]⟩
def Ag0{s:ByteArray}(h:∀i,i<s.size->Lp (Bw s i)=true):Anl s=true:=by
 rw[Anl,yT];intro i hi;exact h i (kS hi)
def digB_iff{c:UInt8}:Lp c=true↔48<=c.toNat/\c.toNat<=57:=by simp[Lp]
def Ahn{s:ByteArray}:∀{j:Nat},(∀i,i<j->Lp (Bw s i)=true)->0<=Zm s j/\Zm s j<10^j
 |0,_=>by simp[Zm]
 |j+1,h=>by
  have ih:=Ahn (s:=s) (j:=j) (λi hi=>h i q_);have hd:=digB_iff.1 (h j q_);rw[Zm];have e:(10:Int)^(j+1)=10*10^j:=by rw[Int.pow_succ];omega
  rw[e];omega
def Ayz{n:Nat}(h:48<=n)(h2:n<256):IntKind.u8.wrap ((n:Int)-48)=(n:Int)-48:=by
 rw[IntKind.wrap_u8];omega
def A11{n:Int}(h:0<=n)(h2:n<256):IntKind.i64.wrap n=n:=by
 rw[IntKind.wrap_i64];omega
def Ad8(s:ByteArray)(a8:Int):Sp 211 [As s,Aa a8] (.tup [Aa (smallT s a8).1,Ab (smallT s a8).2]):=cT F211 ntmps211 λF hF=>by
 have ak:=smallT.eq_1 s a8;generalize smallT s a8=res at *;refine fW ?_;constructor<;>intro h
 .have h1:s.size=0:=by simpa using h
  rw[zE (.inl h1)]at ak;subst ak;exact gD
 have h1:¬s.size=0:=kS h;refine gJ ?_ ?_<;>intro h
 .have h2:3<s.size:=qA h;rw[zE (.inr (.inl h2))]at ak;subst ak;exact gD
 have h2:¬3<s.size:=qB h;refine gJ ?_ ?_<;>intro h
 .have h3:1<s.size:=qA h;refine fU ?_;refine⟨by decide,by simp;omega,?_⟩;refine fW ?_;constructor<;>intro h
  .have h4:(Bw s 0).toNat=48:=by have:=h;simp at this;omega
   rw[zE (.inr (.inr (.inl ⟨h3,h4⟩)))]at ak;subst ak;exact gD
  have h34:¬(1<s.size/\(Bw s 0).toNat=48):=by
   intro e;have:=h;simp at this;omega
  refine fU ?_;refine Ba s.size (λj=>∀i,i<j->Lp (Bw s i)=true) (λj=>[(0,As s),(1,Aa a8),(6,Aa (Zm s j)),(27,Aa s.size),(28,Aa j)]) (λ_=>[]) [] (λi hi=>yA hi q_) kU ?_;intro j hj hI;have hv:=Ahn hI;have hp:(10:Int)^j<=1000:=by
   have:j=0\/j=1\/j=2\/j=3:=by omega
   rcases this with rfl|rfl|rfl|rfl<;>decide
  have hsu:Zm s (j+1)=10*Zm s j+((Bw s j).toNat-48):=rfl;have rf:(j:Int).toNat=j:=zZ j;have hb:=(Bw s j).toNat_lt;generalize hvj:Zm s j=v at *;refine gJ ?_ ?_<;>intro h
  .have ab:j<s.size:=by simpa using h
   refine fU ?_;refine⟨by omega,kS ab,?_⟩;rw[rf];refine fW ?_;constructor<;>intro h
   .have h5:¬48<=(Bw s j).toNat:=qA h;rw[zE (.inr (.inr (.inr (dJ ab (by simp only[Lp,yX,yB];exact .inl h5)))))]at ak;subst ak;exact gD
   have h5:48<=(Bw s j).toNat:=qB h;refine fU ?_;refine⟨by omega,kS ab,?_⟩;rw[rf];refine fW ?_;constructor<;>intro h
   .have h6:¬(Bw s j).toNat<=57:=qA h;rw[zE (.inr (.inr (.inr (dJ ab (by simp only[Lp,yX,yB];exact .inr h6)))))]at ak;subst ak;exact gD
   have h6:(Bw s j).toNat<=57:=qB h;refine gG ?_;refine⟨by omega,kS ab,?_⟩;rw[rf];refine fW ?_;rw[Ayz h5 hb,A11 q_ q_];refine iL ?_;refine gO ?_;refine A8 [] hI q_ (λi hi=>?_) ⟨⟨E,E,E,E,zH Aa hsu,E,E,E,E,E,Y⟩,Y,E,E⟩;by_cases bu:i=j
   .subst bu;exact digB_iff.2 ⟨h5,h6⟩
   .exact hI i q_
  .have:j=s.size:=qB h;subst this;rw[zD (by rw[Ag0 hI];simp only[h1,h2,false_or,Bool.true_eq_false,vJ];exact h34),hvj]at ak;subst ak;exact gD
 .have h34:¬(1<s.size/\(Bw s 0).toNat=48):=qB h;refine fU ?_;refine Ba s.size (λj=>∀i,i<j->Lp (Bw s i)=true) (λj=>[(0,As s),(1,Aa a8),(6,Aa (Zm s j)),(27,Aa s.size),(28,Aa j)]) (λ_=>[]) [] (λi hi=>yA hi q_) kU ?_;intro j hj hI;have hv:=Ahn hI;have hp:(10:Int)^j<=1000:=by
   have:j=0\/j=1\/j=2\/j=3:=by omega
   rcases this with rfl|rfl|rfl|rfl<;>decide
  have hsu:Zm s (j+1)=10*Zm s j+((Bw s j).toNat-48):=rfl;have rf:(j:Int).toNat=j:=zZ j;have hb:=(Bw s j).toNat_lt;generalize hvj:Zm s j=v at *;refine gJ ?_ ?_<;>intro h
  .have ab:j<s.size:=by simpa using h
   refine fU ?_;refine⟨by omega,kS ab,?_⟩;rw[rf];refine fW ?_;constructor<;>intro h
   .have h5:¬48<=(Bw s j).toNat:=qA h;rw[zE (.inr (.inr (.inr (dJ ab (by simp only[Lp,yX,yB];exact .inl h5)))))]at ak;subst ak;exact gD
   have h5:48<=(Bw s j).toNat:=qB h;refine fU ?_;refine⟨by omega,kS ab,?_⟩;rw[rf];refine fW ?_;constructor<;>intro h
   .have h6:¬(Bw s j).toNat<=57:=qA h;rw[zE (.inr (.inr (.inr (dJ ab (by simp only[Lp,yX,yB];exact .inr h6)))))]at ak;subst ak;exact gD
   have h6:(Bw s j).toNat<=57:=qB h;refine gG ?_;refine⟨by omega,kS ab,?_⟩;rw[rf];refine fW ?_;rw[Ayz h5 hb,A11 q_ q_];refine iL ?_;refine gO ?_;refine A8 [] hI q_ (λi hi=>?_) ⟨⟨E,E,E,E,zH Aa hsu,E,E,E,E,E,Y⟩,Y,E,E⟩;by_cases bu:i=j
   .subst bu;exact digB_iff.2 ⟨h5,h6⟩
   .exact hI i q_
  .have:j=s.size:=qB h;subst this;rw[zD (by rw[Ag0 hI];simp only[h1,h2,false_or,Bool.true_eq_false,vJ];exact h34),hvj]at ak;subst ak;exact gD
end
section
def A0r(m:Nat)(h:0<m):A0t (-(m:Int))=(revDigs m++[45]).reverse:=by
 rw[A0t,zE q_];have:(-(m:Int)).natAbs=m:=by omega
 rw[this]
set_option maxRecDepth 20000 in
def Alk(m:Nat)(h0:0<m)(hb:m<=9223372036854775808):Sp 262 [Aa (-(m:Int))] (As (Alm (-(m:Int)))):=cT F262 ntmps262 λF hF=>by
 have ee:=Vz m;have hlen:=λj=>V0 j m
 have bc:=λj=>V1 j m
 have lz:(revDigs m).length<=20:=Sf 19 m q_;have w1:IntKind.u64.wrap (0-IntKind.u64.wrap (-(m:Int)))=m:=by rw[IntKind.wrap_u64,IntKind.wrap_u64];omega
 rw[Alm,A0r m h0];generalize revDigs m=D at *;refine fW ?_;refine⟨λ_=>?_,λh=>yA (zT h) q_⟩;refine Ca 3 1000 1 Al E E (fU ?_);refine Bg D.length (λj=>[(0,Aa (-(m:Int))),(3,.osl 1000),(4,Bl (m/10^j:Nat)),(5,Ab (decide (j<D.length)))]) (λj=>[(1000,.row 1 Al (D.take j))]) []
  ⟨⟨rfl,rfl,rfl,rfl,zH (λz=>SV.val (.int .u64 z)) (kS w1.symm),rfl,zH Ab (zL ee),rfl,trivial⟩,⟨.inl rfl,rfl,trivial⟩,rfl,rfl⟩ ?_
 intro j hj;refine gJ ?_ ?_<;>intro h
 .have ab:j<D.length:=zO h;have hgj:=bc j ab;have hlj:=hlen j;have e:m/10^(j+1)=m/10^j/10:=by rw[tU,tV]
  have hq:m/10^j<=m:=Nat.div_le_self _ _;rw[e]at hlj;refine fU ?_;refine⟨by decide,?_⟩;refine fW ?_;refine Aj (Ah Γ.toTy 23 E E E E E (.row E) (.lit (l:=[D[j]]) E ?_) y_ ?_ ?_) E E ?_
  .rw[hgj];simp only[xV,uA,Al];congr 3;generalize m/10^j=q at *;rw[Int.tmod_eq_emod_of_nonneg (vG _),IntKind.wrap_u64,IntKind.wrap_u8];simp
  .simp;omega
  .simp;omega
  refine fU ?_;refine⟨by decide,?_⟩;refine fW ?_;refine Az [(1000,23)] ab ⟨⟨E,E,E,E,zH (λz=>SV.val (.int .u64 z)) ?_,E,zH Ab ?_,E,Y⟩,⟨.inl (zH (Ob.row 1 Al) (yD ab)),E,Y⟩,E,E⟩
  .rw[e,uJ (vG _),IntKind.wrap_u64];generalize m/10^j=q at *;omega
  .rw[uJ (vG _),IntKind.wrap_u64];generalize m/10^j=q at *;refine decide_eq_decide.2 ?_;omega
 .have:j=D.length:=qB h;subst this;rw[yN];refine fU ?_;refine⟨λ_=>?_,λh=>yA (zT h) q_⟩;refine fU ?_;refine Aj (Ah Γ.toTy 30 E E E E E (.row E) (.lit (e:=Al) (l:=[45]) E E) y_ kO kO) E E ?_;have hDl:(D++[45]).length=D.length+1:=by simp
  generalize D++[45]=D at *;refine gG ?_;refine Bg (D.length/2) (λj=>[(3,.osl 1000),(6,Aa j),(7,Aa (D.length-1-j:Nat))]) (λj=>[(1000,.row 1 Al (Vg D j))]) [(1000,30)]
   ⟨⟨rfl,rfl,rfl,rfl,zH (λz=>SV.val (.int .i64 z)) q_,rfl,trivial⟩,⟨.inl (zH (Ob.row 1 Al) (fA D)),rfl,trivial⟩,rfl,rfl⟩ ?_
  intro i hi;have ox:=D7 D i;refine fU ?_;constructor<;>intro h2
  .have ab:2*i+1<D.length:=by have:=zO h2;omega
   obtain ⟨u,hu⟩:=kE (Vg D i);obtain ⟨k,hk⟩:=kE (D.length-1-i);rw[hu]at ox;have hs:=fB hu ab hk q_ q_;rw[hu,hk];refine fU ?_;refine⟨by omega,by omega,?_⟩;refine fW ?_;refine⟨E,by omega,?_⟩;refine fW ?_;refine⟨by omega,by omega,?_⟩;refine fW ?_;refine⟨E,by omega,?_⟩;refine fW ?_;refine⟨by omega,by omega,?_⟩;refine fW ?_;refine⟨E,by omega,u[k],E,E,?_⟩;refine fW ?_;refine⟨by omega,by simp;omega,?_⟩;refine fW ?_;refine⟨E,by simp;omega,u[i],E,E,?_⟩;refine fW ?_;refine⟨z_,?_⟩;refine gO ?_;refine iL ?_;refine fW ?_;refine Az [] q_ ⟨⟨E,E,E,E,zH (λz=>SV.val (.int .i64 z)) q_,E,Y⟩,⟨.inl (zH (Ob.row 1 Al) hs.symm),E,Y⟩,E,E⟩
  .have h3:D.length<=2*i+1:=by have:=zT h2;omega
   rw[Abi D i h3];refine fU ?_;exact Aj (Lh Γ.toTy (bs:=D.reverse) E E E E E E E (.row E)) E E gD
attribute [local irreducible]G DR
set_option maxRecDepth 20000
def Ajx(n:Int):Prop:=-9223372036854775808<=n/\n<9223372036854775808
def Awg(n:Int)(h:Ajx n):Sp 262 [Aa n] (As (Alm n)):=by
 unfold Ajx at h;by_cases h0:0<=n
 .obtain ⟨m,rfl⟩:=xO h0;exact A0q m q_
 .obtain ⟨m,yw⟩:∃m:Nat,n=-(m:Int):=⟨n.natAbs,by omega⟩
  subst yw;exact Alk m q_ q_
end
end Go.Sy.Zaa
namespace Go.Sy
open Go.RowKit
def Auj{k:Type}(T:Nat->Prop)(J:k->World->Prop):Prop :=
 ∀s W W' row,J s W->W.grownBy W' row->(∀r,row=some r->T r)->J s W'
def OwnT{k:Type}(B:Nat)(T:Nat->Prop)(I:k->World->Prop):Prop :=
 ∀s W W' row,I s W->W.grownBy W' row->(∀r,row=some r->T r\/(B<=r/\∃o:Obj,W.heap[r]? = some o/\o.isCells=false))->I s W'
theorem OwnT.putObj{k:Type}{B:Nat}{T:Nat->Prop}{I:k->World->Prop}(h:OwnT B T I){s:k}{W:World}{l:Nat}{o:Obj}(o':Obj)(hs:I s W)(hB:B<=l)(hl:W.heap[l]? = some o)(ho:o.isCells=false):I s (W.putObj l o') :=
 h s W _ _ hs (grownBy_putObj' W l o') (λr e=>by cases e;exact .inr ⟨hB,o,hl,ho⟩)
theorem OwnT.alloc{a:Type}{B:Nat}{T:Nat->Prop}{I:a->World->Prop}(h:OwnT B T I){s:a}{W:World}(o:Obj)(hs:I s W):I s (W.alloc o) :=
 h s W _ none hs ⟨rfl,rfl,rfl,by simp,λk hk _=>Below.heap_alloc _ _ _ hk⟩ (λr e=>by cases e)
def Ahj{k:Type}(F:Fence)(n:Nat)(P:Program)(g:Nat)(lb:Array Value)(pq:k->Array Value)(T:Nat->Prop)(Kp:World->World->Prop)(S Sp:List k->Prop)(N:Nat)(w:World):Prop :=
 ∀(l:Nat) (J Jx:List k->World->Prop) (W:World),Below w.heap.size w W->Auj T J->Auj T Jx ->
  (∀ pre x W1,J pre W1->pre.length<N->YieldAt F (n-1) P l (pq x) W1 λ e W' =>
   (e=.returned (.bool true)/\J (pre++[x]) W'/\Kp W1 W')\/(e=.returned (.bool false)/\Jx (pre++[x]) W')) ->
  J [] W ->
  CallsIn F n P g (#[.func (.yield l) #[] #[]]++lb) W λe W'=>(∃v,e=.returned v)/\((∃xs,S xs/\J xs W')\/(∃pre,Sp pre/\Jx pre W'))
def Q6{A B:World}{T:Nat->Prop}{row:Option Nat}{k:Nat}{o:Obj}(hg:A.grownBy B row)(hr:∀r,row=some r->T r)(hk:¬T k)(h:A.heap[k]? = some o):B.heap[k]? = some o:=by
 obtain ⟨_,_,_,_,h5⟩:=hg;exact(h5 k (vC.1 h).1 (λe=>hk (hr k e.symm))).trans h
variable {F:Fence} {n:Nat} {P:Program}
theorem Yb{m:Type}{g:Operand}{ps:Array Tmp}{assign body:Code}{Q:Exit->Act->World->Prop}{a:Act}{w:World}(ji:F.round=none)(h1:1<=n){gf:Nat}{lb:Array Value}(hg:a.eval g=.func (.func gf) #[] lb)(hFg:F.fn gf)(eg:∀ args w,(callFunc gf args).run P w=.ok (.enter gf args) w){pq:m->Array Value}{T:Nat->Prop}{Kp:World->World->Prop}{S Sp:List m->Prop}{N:Nat}{w0:World}(hseq:Ahj F (n-1) P gf lb pq T Kp S Sp N w0)(hT:∀ b,T b->b<w.heap.size)(hKt:∀ {A B C:World},Kp A B->Kp B C->Kp A C)(hKb:∀ (W:World) (l:Nat) (o o':Obj),w.heap.size<=l->W.heap[l]? = some o->o.isCells=false->o.isWalk=false->Kp W (W.putObj l o'))(qx:Below w0.heap.size w0 w)(ov:∀ x,(pq x).size=ps.size)(I:List m->World->Prop)(Ix:Code->List m->World->Prop)(hI:OwnT w.heap.size T I)(hIx:∀ c,OwnT w.heap.size T (Ix c))(h0:I [] w)(a₁:m->Act)(uf:∀ (l:Nat) (x:m) (W:World) (K:Act->World->Prop),K (a₁ x) W ->
   assign.wpIn (F.inRound l) (n-1-1) P (Exit.then K (λ _ _ _=>False)) { tmps:=(ps.zip (pq x)).foldl (λ t (p,v)=>t.setIfInBounds p v) a.tmps,defers:=[] } W)(hbody:∀ (l:Nat) (pre:List m) (x:m) (W:World),I pre W->pre.length<N->body.wpIn (F.inRound l) (n-1-1) P (ownPostK Kp I Ix (pre++[x]) W) (a₁ x) W)(hdone:∀ (D:Nat) (xs:List m) (W:World),w.heap.size<=D->S xs->I xs W->W.heap[D]? = some (.deferred (some []))->Q .normal { a with defers:={ target:=.collected D,args:=#[] }::a.defers } W)(hstop:∀ (D:Nat) (c:Code) (pre:List m) (W:World),w.heap.size<=D->Sp pre->Ix c pre W->W.heap[D]? = some (.deferred (some []))->c.wpIn F n P Q { a with defers:={ target:=.collected D,args:=#[] }::a.defers } W):(Code.rangeFunc g ps assign body).wpIn F n P Q a w:=by
 refine wpIn_rangeFunc ?_;intro fn vp;rw[ji];obtain ⟨rec,jm⟩:∃rec:LoopState->Option Code->Loop,rec=λst pe=>{state:=st,pending:=pe,fn,tmps:=a.tmps,params:=ps,assign,body,defers:=w.heap.size}:=⟨_,rfl⟩
 obtain ⟨W1,hW1⟩:=kE ((w.alloc (.deferred (some []))).alloc (.loop (rec .ready none)));have hL1:W1.heap[w.heap.size+1]? = some (.loop (rec .ready none)):=by
  rw[<-hW1];have:=World.alloc_heap_new (w.alloc (.deferred (some []))) (.loop (rec .ready none));rwa [World.size_alloc]at this
 have hK1:W1.heap[w.heap.size]? = some (.deferred (some [])):=by
  rw[<-hW1];exact(Below.heap_alloc _ _ _ y_).trans (World.alloc_heap_new w _)
 have hI1:I [] W1:=by rw[<-hW1];exact hI.alloc _ (hI.alloc _ h0)
 have fx:Below w0.heap.size w0 W1:=by
  rw[<-hW1];exact qx.trans ((((Below.refl _ w).alloc (yE _) _).alloc y_ _).mono qx.size)
 have nT:∀k,w.heap.size<=k->¬T k:=λk hk h=>Nat.lt_irrefl _ (xA (hT k h) hk)
 refine⟨w.heap.size+1,[{ target:=.collected w.heap.size,args:=#[] }],W1,{ target:=.fn (.func gf) lb,args:=#[.func (.yield (w.heap.size+1)) #[] #[]] },W1,gf,
  #[.func (.yield (w.heap.size+1)) #[] #[]]++lb,W1,?_,?_,?_,?_,λ _=>h1,?_⟩
 .rw[<-hW1,jm];exact run_enterLoop_outer _ _ _ _ _
 .simp only[resolve,hg];simp[go_sem]
 .intro f' hf';simp[Target.leads]at hf';subst hf';exact hFg
 .simp[invoke,go_sem,eg]
 .refine(hseq (w.heap.size+1)
   (λpre W=>I pre W/\W.heap[w.heap.size+1]? = some (.loop (rec .ready none))/\W.heap[w.heap.size]? = some (.deferred (some [])))
   (λpre W=>∃c,Ix c pre W/\W.heap[w.heap.size+1]? = some (.loop (rec .done (some c)))/\W.heap[w.heap.size]? = some (.deferred (some [])))
   W1 fx
   (λs A B row hs pp hr=>⟨hI s A B row hs.1 pp (λr e=>.inl (hr r e)),Q6 pp hr (nT _ q_) hs.2.1,Q6 pp hr (nT _ q_) hs.2.2⟩)
   (λ s A B row hs pp hr=>by
    obtain ⟨c,hc,hl,hk⟩:=hs;exact⟨c,hIx c s A B row hc pp (λ r e=>.inl (hr r e)),Q6 pp hr (nT _ q_) hl,Q6 pp hr (nT _ q_) hk⟩)
   ?_ ⟨hI1,hL1,hK1⟩).mono ?_
  .rintro pre x W ⟨hi,hl,hk⟩ hlen;have ab:w.heap.size+1<W.heap.size:=(vC.1 hl).1;have hy:=run_yield (P:=P) (args:=pq x) hl (by rw[jm];exact ov x);rw[jm]at hy;refine⟨fn,_,assign,body,hy,roundIn_of_wpIn vp (uf _ x W _ ⟨_,run_beginRound hl (by rw[jm]),?_⟩)⟩;have gz:(W.putObj (w.heap.size+1) (.loop {rec .ready none with state:=.busy})).heap[w.heap.size+1]? = some (.loop {rec .ready none with state:=.busy}):=World.putObj_heap_same ab;have cx:(W.putObj (w.heap.size+1) (.loop {rec .ready none with state:=.busy})).heap[w.heap.size]? = some (.deferred (some [])):=(World.putObj_heap_other q_).trans hk;have zi:Kp W (W.putObj (w.heap.size+1) (.loop {rec .ready none with state:=.busy})):=hKb _ _ _ _ q_ hl rfl rfl;refine wpIn_mono (hbody _ pre x _ (hI.putObj _ hi (tF _) hl E) hlen) ?_;have fin:∀(ic:Option Code) (W3:World),KeepsOthers (W.putObj (w.heap.size+1) (.loop {rec .ready none with state:=.busy})) W3 ->
     (Instr.endRound (w.heap.size+1) ic).run P W3=.ok (.bool ic.isNone) (W3.putObj (w.heap.size+1) (.loop (rec (if ic.isNone then .ready else .done) ic))) /\
     W3.heap[w.heap.size+1]? = some (.loop {rec .ready none with state:=.busy}) /\
     (W3.putObj (w.heap.size+1) (.loop (rec (if ic.isNone then .ready else .done) ic))).heap[w.heap.size+1]? = some (.loop (rec (if ic.isNone then .ready else .done) ic)) /\
     (W3.putObj (w.heap.size+1) (.loop (rec (if ic.isNone then .ready else .done) ic))).heap[w.heap.size]? = some (.deferred (some [])):=λic W3 s6=>by
    have l5:=s6.same _ _ gz rfl;have:=run_endRound (P:=P) ic l5;rw[jm]at this|-;exact⟨this,by rw[jm]at l5;exact l5,World.putObj_heap_same (vC.1 l5).1,(World.putObj_heap_other q_).trans (s6.same _ _ cx E)⟩
   rintro e a3 W3 hp;cases e with
   |normal=>
    obtain ⟨s6,hkp3,xi⟩:=hp;obtain ⟨hr,l5,xj,xk⟩:=fin none W3 s6;exact⟨_,_,hr,.inl ⟨E,⟨hI.putObj _ xi (tF _) l5 E,xj,xk⟩,hKt (hKt zi hkp3) (hKb _ _ _ _ q_ l5 E E)⟩⟩
   |ret=>
    obtain ⟨s6,xi⟩:=hp;obtain ⟨hr,l5,xj,xk⟩:=fin (some .ret) W3 s6;exact⟨_,_,hr,.inr ⟨E,.ret,(hIx _).putObj _ xi (tF _) l5 E,xj,xk⟩⟩
   |exit id=>
    obtain ⟨s6,xi⟩:=hp;obtain ⟨hr,l5,xj,xk⟩:=fin (some (.exit id)) W3 s6;exact⟨_,_,hr,.inr ⟨E,.exit id,(hIx _).putObj _ xi (tF _) l5 E,xj,xk⟩⟩
   |goto t=>
    obtain ⟨s6,xi⟩:=hp;obtain ⟨hr,l5,xj,xk⟩:=fin (some (.goto t)) W3 s6;exact⟨_,_,hr,.inr ⟨E,.goto t,(hIx _).putObj _ xi (tF _) l5 E,xj,xk⟩⟩
   |panic ch=>exact hp.elim
   |outgrown=>exact hp.elim
  .rintro e W2 ⟨⟨v,rfl⟩,(⟨xs,hS,hi,hl,hk⟩|⟨pre,hSp,c,hi,hl,hk⟩)⟩
   .exact⟨none,_,by have:=run_endLoop (P:=P) hl (by rw[jm];simp);rw[jm]at this;exact this,hdone _ xs _ (yE _) hS (hI.putObj _ hi (tF _) hl E) ((World.putObj_heap_other q_).trans hk)⟩
   .exact⟨some c,_,by have:=run_endLoop (P:=P) hl (by rw[jm];simp);rw[jm]at this;exact this,hstop _ c pre _ (yE _) hSp ((hIx c).putObj _ hi (tF _) hl E) ((World.putObj_heap_other q_).trans hk)⟩
end Go.Sy
namespace Go.Proofs
open Go.RowKit Go.Shelf Go.Sy Go.Sy.Zaa
attribute [local go_sem] Oper.semAt_some
structure SeqBox(W:World)(bp bs bv:Nat)(t:ByteArray):Prop where
 p:W.cell? ⟨bp,0,none⟩=some (.string ⟨#[46]⟩)
 s:W.cell? ⟨bs,0,none⟩=some (.string t)
 v:W.cell? ⟨bv,0,none⟩=some (.int .i64 0)
 f:W.frozen? ⟨bs,0,none⟩=false
def A3k(bp bs bv:Nat)(W W':World):Prop:=W'.heap[bp]? = W.heap[bp]? /\ W'.heap[bs]? = W.heap[bs]? /\ W'.heap[bv]? = W.heap[bv]?
theorem SeqBox.keep{W W':World}{bp bs bv:Nat}{t:ByteArray}(h:SeqBox W bp bs bv t)(k:A3k bp bs bv W W'):SeqBox W' bp bs bv t :=
 ⟨(World.cell?_of_block k.1).trans h.p,(World.cell?_of_block k.2.1).trans h.s,(World.cell?_of_block k.2.2).trans h.v,by
  have:W'.frozen? ⟨bs,0,none⟩=W.frozen? ⟨bs,0,none⟩:=by unfold World.frozen?;rw[k.2.1]
  rw[this];exact h.f⟩
def Amu:∀{l:List UInt8} {c:UInt8},c∉l->Lib.indexByte l c=-1
 |[],_,_=>rfl
 |b::l,c,h=>by
  simp only[yI,uF]at h;rw[Lib.indexByte,zD (kS (Ne.symm h.1)),Amu h.2];rfl
def A1q(bs:Nat)(W:World):Nat:=match W.cell? ⟨bs,0,none⟩ with|some (.string t)=>t.size|_=>0
set_option maxRecDepth 100000 in
theorem Tryz.split_stops(s:ByteArray)(hs:s.size<100000)(n:Nat)(hn:1<=n)(bp bs bv:Nat)(hd:bp≠bs/\bv≠bs)(w:World)(hw:SeqBox w bp bs bv s)(ab:bp<w.heap.size/\bs<w.heap.size/\bv<w.heap.size):Ahj Fence.wide n Tryz.prog 338 #[.pointer (some ⟨bp,0,none⟩),.pointer (some ⟨bs,0,none⟩),.pointer (some ⟨bv,0,none⟩)] (λx:ByteArray=>#[.string x]) (λb=>b=bs) (A3k bp bs bv)
   (λxs=>xs=C3 46 s) (λpre=>pre <+: C3 46 s) (C3 46 s).length w:=λl J Jx W hW hJ hJx hY h0=>by
 refine callsIn_of_wp Tryz.func338 E Y ?_ E;simp only[Tryz.ntmps338,tD,yM,xG,Nat.reduceAdd,Nat.reduceSub,Array.replicate_succ,Array.replicate_zero,List.push_toArray,List.append_toArray,wL,wB];have oq:SeqBox W bp bs bv s:=hw.keep ⟨hW.block _ ab.1,hW.block _ ab.2.1,hW.block _ ab.2.2⟩;have c1:=oq.p;have c2:=oq.s;have c3:=oq.v
 gi_wp2
 gi_loopw [] (λwr=>∃j:Nat,j<=Ash 46 s/\SeqBox wr bp bs bv (mkT (Dd 46 s.data.toList j))/\J ((C3 46 s).take j) wr) (λwr=>A1q bs wr)
 case atStart=>
  exact⟨0,xN _,by rw[Dd,K6];exact oq,h0⟩
 case round=>
  obtain ⟨j,hj,hb,hJj⟩:=hrel;have d1:=hb.p;have d2:=hb.s;have d3:=hb.v;have z8:=Ak0 46 s.data.toList j;have bg:s.data.toList.length=s.size:=rfl;have iz:=L4 46 s;have jj:=I4 (Dd 46 s.data.toList j);by_cases ab:j<Ash 46 s
  .have hi:=Kn (Ap2 ab);obtain ⟨m,po⟩:∃m:Nat,Lib.indexByte (Dd 46 s.data.toList j) 46=m:=⟨(Lib.indexByte (Dd 46 s.data.toList j) 46).toNat,by omega⟩
   have q:=Tryz.strings_Index_one (mkT (Dd 46 s.data.toList j)) 46 wr;rw[K7,po]at q;rw[po,zZ]at hi;have hpm:=Az8 (c:=46) (s:=s) (j:=j) po;have hqm:=A39 (c:=46) (s:=s) (j:=j) po;have bc:(C3 46 s)[j]? = some (mkT (Wb 46 s.data.toList j)):=by
    have lc:j<s.data.toList.count 46:=ab;rw[C3,xW (by rw[yW,List.length_range];exact lc),vU,uK lc];rfl
   have hx:(mkT (Dd 46 s.data.toList j)).extract 0 m=mkT (Wb 46 s.data.toList j):=by
    rw[E8,hpm];simp
   have tz:(mkT (Dd 46 s.data.toList j)).extract (m+1) (mkT (Dd 46 s.data.toList j)).size=mkT (Dd 46 s.data.toList (j+1)):=by
    rw[E8,hqm,jj,yN]
   have ig:(C3 46 s).take j++[mkT ((Dd 46 s.data.toList j).take m)]=(C3 46 s).take (j+1):=by
    rw[vX,bc,hpm];rfl
   obtain ⟨fn,tmps,assign,body,hy,hR⟩:=hY _ (mkT ((Dd 46 s.data.toList j).take m)) wr hJj (by rw[zY];omega);rw[ig]at hR
   gi_wp2
   refine⟨Y,?_⟩;refine(callsIn_wide.2 q).mono ?_;rintro e w' ⟨rfl,rfl⟩
   gi_wp2
   refine hR.mono ?_;rintro e W' (⟨rfl,hJ',hk⟩|⟨rfl,xl⟩)
   .have u0:=hb.keep hk;have d1:=u0.p;have d2:=u0.s;have d3:=u0.v;have d4:=u0.f;have hsm1:(mkT (Dd 46 s.data.toList (j+1))).size+(m+1)=(mkT (Dd 46 s.data.toList j)).size:=by
     rw[jj,I4,hqm,yP];omega
    rw[jj]at tz
    gi_wp2
    rw[<-hqm];have e2:(W'.setCell ⟨bs,0,none⟩ (.string (mkT (Dd 46 s.data.toList (j+1))))).cell? ⟨bs,0,none⟩=some (.string (mkT (Dd 46 s.data.toList (j+1)))):=World.cell?_setCell_same' _ _ _ (by rw[d2];rfl);refine⟨⟨j+1,ab,⟨?_,e2,?_,?_⟩,hJ _ _ _ (some bs) hJ' (grownBy_setCell' _ _ _) (λr e=>by cases e;rfl)⟩,?_⟩
    .rw[World.cell?_setCell_other _ _ _ _ (by intro e;cases e;exact hd.1 rfl)];exact d1
    .rw[World.cell?_setCell_other _ _ _ _ (by intro e;cases e;exact hd.2 rfl)];exact d3
    .rw[World.frozen?_setCell];exact d4
    .unfold A1q;rw[e2,hb.s];simp only;omega
   .gi_wp2
    refine bodyPost_ret (results_none E _ _ _) E ?_;exact⟨⟨_,E⟩,.inr ⟨_,List.take_prefix _ _,xl⟩⟩
  .have cu:j=Ash 46 s:=by omega
   have cw:(46:UInt8)∉Dd 46 s.data.toList j:=by
    have:=aG 46 s.data.toList j hj;have e:Ash 46 s=s.data.toList.count 46:=rfl;exact List.count_eq_zero.1 Go.Sy.q_
   have q:=Tryz.strings_Index_one (mkT (Dd 46 s.data.toList j)) 46 wr;rw[K7,Amu cw]at q;have bc:(C3 46 s)[j]? = some (mkT (Dd 46 s.data.toList j)):=by
    rw[cu,C3,wH (by simp[Ash])];simp[Ash]
   have ig:(C3 46 s).take j++[mkT (Dd 46 s.data.toList j)]=C3 46 s:=by
    have:(C3 46 s).take (j+1)=C3 46 s:=xI Go.Sy.q_;rw[vX,bc]at this;exact this
   have hlen:((C3 46 s).take j).length<(C3 46 s).length:=by rw[zY];omega
   clear cu;obtain ⟨fn,tmps,assign,body,hy,hR⟩:=hY _ (mkT (Dd 46 s.data.toList j)) wr hJj hlen;rw[ig]at hR
   gi_wp2
   refine⟨Y,?_⟩;refine(callsIn_wide.2 q).mono ?_;rintro e w' ⟨rfl,rfl⟩
   gi_wp2
   refine hR.mono ?_;rintro e W' (⟨rfl,hJ',hk⟩|⟨rfl,xl⟩)
   .gi_wp2
    go_end0
    exact⟨⟨_,E⟩,.inl ⟨_,E,hJ'⟩⟩
   .gi_wp2
    go_end0
    exact⟨⟨_,E⟩,.inr ⟨_,List.prefix_rfl,xl⟩⟩
end Go.Proofs
namespace Go.Sy
open Go.RowKit
theorem Spec.calls{P:Program}{f:FuncId}{A:List SV}{R:SV}(h:Sy.Spec P f A [] R []){w:World}{vs:List Value}(hA:RdL k0 w A vs):Calls P f vs.toArray w λe w'=>∃v k',e=.returned v/\Rd k' w' R v/\Below w.heap.size w w':=by
 refine(h k0 w vs (inv0 w) (λk hk=>yA rfl hk) hA (λp hp=>by cases hp)).mono ?_;rintro e w' ⟨v,k',rfl,ctx,inv,hR,_⟩;exact⟨v,k',E,hR,dV ctx⟩
theorem Spec.calls_tup2{P:Program}{f:FuncId}{A:List SV}{a b:Value}(h:Sy.Spec P f A [] (.tup [.val a,.val b]) []){w:World}{vs:List Value}(hA:RdL k0 w A vs):Calls P f vs.toArray w λe w'=>e=.returned (.tuple #[a,b])/\Below w.heap.size w w' :=
 (h.calls hA).mono λe w' ⟨v,k',he,hv,hb⟩=>by
  simp only[Rd,RdL]at hv;obtain ⟨cs,rfl,_,_,rfl,rfl,_,_,rfl,rfl,rfl⟩:=hv;exact⟨he,hb⟩
theorem Spec.of_calls2{P:Program}{f:FuncId}{A:List SV}{H:Obs}{a b:Value}(h:∀(k:Ka) (w:World) (vs:List Value),Inv k w->RdL k w A vs->H.ok k w->Calls P f vs.toArray w λe w'=>e=.returned (.tuple #[a,b])/\Below w.heap.size w w'):Spec P f A H (.tup [.val a,.val b]) H:=by
 intro k w vs hi _ hr ho;refine(h k w vs hi hr ho).mono λe w' hw=>?_
 obtain ⟨he,hw⟩:=hw;have g:Grew w w':=⟨hw.os,hw.tape,hw.output,hw.size,hw.block⟩
 have st:=eS hi g;exact⟨.tuple #[a,b],k,he,(Ctx.refl k w).step st.2 st.1,st.2,by simp[Rd,RdL],λp hp=>ObOK.step st.1 y_ p.2 (ho p hp)⟩
def Acl{w w':World}(h:Below w.heap.size w w'):KeepsOthers w w':=⟨h.size,λk o hk _=>(h.block k (vC.1 hk).1).trans hk⟩
def Adw{A B:World}{row:Option Nat}{k:Nat}{v:Value}(h:A.cell? ⟨k,0,none⟩=some v)(hg:A.grownBy B row)(hr:row≠some k):B.cell? ⟨k,0,none⟩=some v/\B.frozen? ⟨k,0,none⟩=A.frozen? ⟨k,0,none⟩:=by
 obtain ⟨o,ho,_⟩:=cells_of_cell h;obtain ⟨_,_,_,_,h5⟩:=hg;have e:B.heap[k]? = A.heap[k]?:=h5 k (vC.1 ho).1 (λe=>hr e.symm);refine⟨(World.cell?_of_block e).trans h,?_⟩;unfold World.frozen?;rw[e]
def Var1(W:World)(k:Nat)(v:Value):Prop:=W.cell? ⟨k,0,none⟩=some v/\W.frozen? ⟨k,0,none⟩=false
theorem Var1.at{W:World}{B:Nat}{v:Value}{t:TypeId}(h:W.heap[B]? = some (.cells #[v] t (0,0))):Var1 W B v:=by
 constructor<;>simp[World.cell?,World.frozen?,h]
theorem Var1.below{A B:World}{k:Nat}{v:Value}(h:Var1 A k v)(hb:Below A.heap.size A B):Var1 B k v:=by
 obtain ⟨o,ho,_⟩:=cells_of_cell h.1;have e:B.heap[k]? = A.heap[k]?:=hb.block k (vC.1 ho).1;refine⟨(World.cell?_of_block e).trans h.1,?_⟩;rw[<-h.2];unfold World.frozen?;rw[e]
theorem Var1.new(W:World)(v:Value)(t:TypeId){k:Nat}(hk:k=W.heap.size):Var1 (W.alloc (.cells #[v] t)) k v:=by
 subst hk;exact Var1.at (World.alloc_heap_new W _)
theorem Var1.grown{A B:World}{row:Option Nat}{k:Nat}{v:Value}(h:Var1 A k v)(hg:A.grownBy B row)(hr:row≠some k):Var1 B k v :=
 ⟨(Adw h.1 hg hr).1,(Adw h.1 hg hr).2.trans h.2⟩
theorem Var1.alloc{A:World}{k:Nat}{v:Value}(h:Var1 A k v)(o:Obj):Var1 (A.alloc o) k v:=h.grown (World.grownBy_alloc A o none) y_
theorem Var1.set{A:World}{k:Nat}{v:Value}(h:Var1 A k v)(u:Value):Var1 (A.setCell ⟨k,0,none⟩ u) k u :=
 ⟨World.cell?_setCell_same' _ _ _ (by rw[h.1];rfl),by rw[World.frozen?_setCell];exact h.2⟩
theorem Var1.other{A:World}{k b:Nat}{v:Value}(h:Var1 A k v)(hb:b≠k)(u:Value):Var1 (A.setCell ⟨b,0,none⟩ u) k v :=
 ⟨(World.cell?_setCell_other _ _ _ _ (by intro e;cases e;exact hb rfl)).trans h.1,by rw[World.frozen?_setCell];exact h.2⟩
end Go.Sy
namespace Go.Proofs
open Go.RowKit Go.Shelf Go.Sy Go.Sy.Zaa
attribute [local go_sem] Oper.semAt_some
theorem Tryz.splitSeq_calls(s:ByteArray)(w:World):Calls Tryz.prog 210 #[.string s,.string ⟨#[46]⟩] w λe w'=>
  e=.returned (.func (.func 338) #[] #[.pointer (some ⟨w.heap.size+1,0,none⟩),.pointer (some ⟨w.heap.size,0,none⟩),.pointer (some ⟨w.heap.size+2,0,none⟩)]) /\
   w'=((w.alloc (.cells #[.string s] 9)).alloc (.cells #[.string ⟨#[46]⟩] 9)).alloc (.cells #[.int .i64 0] 3):=by
 have q:Calls Tryz.prog 265 #[.string s,.string ⟨#[46]⟩,.int .i64 0] w λe w'=>
  e=.returned (.func (.func 338) #[] #[.pointer (some ⟨w.heap.size+1,0,none⟩),.pointer (some ⟨w.heap.size,0,none⟩),.pointer (some ⟨w.heap.size+2,0,none⟩)]) /\
   w'=((w.alloc (.cells #[.string s] 9)).alloc (.cells #[.string ⟨#[46]⟩] 9)).alloc (.cells #[.int .i64 0] 3):=by
  refine(callsIn_wide (n:=3)).1 ?_;refine callsIn_of_wp Tryz.func265 E Y ?_ E;simp only[Tryz.ntmps265,tD,yM,xG,Nat.reduceAdd,Nat.reduceSub,Array.replicate_succ,Array.replicate_zero,List.push_toArray,List.append_toArray,wL,wB]
  gi_wp2
  go_ret
  exact⟨E,E⟩
 refine(callsIn_wide (n:=3)).1 ?_;refine callsIn_of_wp Tryz.func210 E Y ?_ E;simp only[Tryz.ntmps210,tD,yM,xG,Nat.reduceAdd,Nat.reduceSub,Array.replicate_succ,Array.replicate_zero,List.push_toArray,List.append_toArray,wL,wB]
 gi_wp2
 refine⟨Y,?_⟩;refine(callsIn_wide.2 q).mono ?_;rintro e w' ⟨rfl,rfl⟩
 gi_wp2
 go_ret
 exact⟨E,E⟩
def oI:List ByteArray->Int
 |[]=>0
 |l=>l.foldl (λa x=>bits .or .u32 (IntKind.u32.wrap (a*2^8)) (IntKind.u32.wrap (smallT x 255).1)) 0
def Awf(x:ByteArray):Bool:=(smallT x 255).2
def D8(s:ByteArray):Int×Bool:=if (C3 46 s).length=4/\(C3 46 s).all Awf=true then (oI (C3 46 s),true) else (0,false)
def aL(l:List ByteArray)(x:ByteArray):oI (l++[x])=bits .or .u32 (IntKind.u32.wrap (oI l*2^8)) (IntKind.u32.wrap (smallT x 255).1):=by
 cases l with
 |nil=>rfl
 |cons y l=>simp[oI]
set_option maxRecDepth 100000 in
theorem Tryz.addrRead_calls(s:ByteArray)(hs:s.size<100000)(w:World):Calls Tryz.prog 130 #[.string s] w λe w'=>e=.returned (.tuple #[.int .u32 (D8 s).1,.bool (D8 s).2])/\Below w.heap.size w w':=by
 refine(callsIn_wide (n:=5)).1 ?_;refine callsIn_of_wp_marks Tryz.func130 E Y ?_ E;simp only[Tryz.ntmps130,tD,yM,xG,Nat.reduceAdd,Nat.reduceSub,Array.replicate_succ,Array.replicate_zero,List.push_toArray,List.append_toArray,wL,wB]
 gi_wp2
 refine wpIn_wide.2 (wp_scope_straight ((wpIn_wide (n:=5)).1 ?_))
 gi_wp2
 refine wpIn_label ?_
 gi_wp2
 refine⟨Y,?_⟩;refine(callsIn_wide.2 (Tryz.splitSeq_calls s _)).mono ?_;rintro e w' ⟨rfl,rfl⟩
 gi_wp2
 obtain ⟨W0,oq⟩:=kE (((((w.alloc (.cells #[.int .u32 0] 91)).alloc (.cells #[.int .i64 0] 3)).alloc (.cells #[.string s] 9)).alloc (.cells #[.string ⟨#[46]⟩] 9)).alloc (.cells #[.int .i64 0] 3));have bg:W0.heap.size=w.heap.size+5:=by rw[<-oq];simp
 have hB0:Below w.heap.size w W0:=by
  rw[<-oq];exact(((((Below.refl _ w).alloc (yE _) _).alloc Go.Sy.y_ _).alloc kO _).alloc kO _).alloc kO _
 have ca:Var1 W0 w.heap.size (.int .u32 0):=by rw[<-oq];exact((((Var1.new _ _ _ rfl).alloc _).alloc _).alloc _).alloc _
 have ci:Var1 W0 (w.heap.size+1) (.int .i64 0):=by rw[<-oq];exact(((Var1.new (w.alloc _) _ _ Go.Sy.y_).alloc _).alloc _).alloc _
 have cs:Var1 W0 (w.heap.size+2) (.string s):=by rw[<-oq];exact((Var1.new ((w.alloc _).alloc _) _ _ Go.Sy.y_).alloc _).alloc _
 have cp:Var1 W0 (w.heap.size+3) (.string ⟨#[46]⟩):=by rw[<-oq];exact(Var1.new (((w.alloc _).alloc _).alloc _) _ _ Go.Sy.y_).alloc _
 have cv:Var1 W0 (w.heap.size+4) (.int .i64 0):=by rw[<-oq];exact Var1.new ((((w.alloc _).alloc _).alloc _).alloc _) _ _ Go.Sy.y_
 have cb:SeqBox W0 (w.heap.size+3) (w.heap.size+2) (w.heap.size+4) s:=⟨cp.1,cs.1,cv.1,cs.2⟩
 rw[oq];clear oq;have gx:∀{k:Nat} {W:World} {row:Option Nat},k<=w.heap.size+1->(∀r,row=some r->r=w.heap.size+2\/(W0.heap.size<=r/\∃o:Obj,W.heap[r]? = some o/\o.isCells=false))->row≠some k:=λhk hr e=>by
  rcases hr _ e with h|⟨h,_⟩<;>omega
 have xx:∀{W:World} {row:Option Nat},(∀r,row=some r->r=w.heap.size+2\/(W0.heap.size<=r/\∃o:Obj,W.heap[r]? = some o/\o.isCells=false))->∀r,row=some r->w.heap.size<=r:=λhr r e=>by
  rcases hr _ e with h|⟨h,_⟩<;>omega
 refine Yb E Go.Sy.q_ (gf:=338) (lb:=#[.pointer (some ⟨w.heap.size+3,0,none⟩),.pointer (some ⟨w.heap.size+2,0,none⟩),.pointer (some ⟨w.heap.size+4,0,none⟩)]) E Y (enters_of Tryz.func338 Go.Sy.z_ E)
  (Tryz.split_stops s hs 4 Go.Sy.q_ (w.heap.size+3) (w.heap.size+2) (w.heap.size+4) ⟨by omega,by omega⟩ W0 cb Go.Sy.q_) (λb hb=>by omega)
  (λh k=>⟨k.1.trans h.1,k.2.1.trans h.2.1,k.2.2.trans h.2.2⟩)
  (λW l o o' hl _ _ _=>⟨World.putObj_heap_other Go.Sy.q_,World.putObj_heap_other Go.Sy.q_,World.putObj_heap_other Go.Sy.q_⟩) (Below.refl _ _) (λ_=>rfl)
  (λpre W=>Var1 W w.heap.size (.int .u32 (oI pre))/\Var1 W (w.heap.size+1) (.int .i64 pre.length)/\(pre.length<=4/\pre.all Awf=true)/\Below w.heap.size w W/\w.heap.size+5<=W.heap.size)
  (λc pre W=>c=.exit 0/\Var1 W (w.heap.size+1) (.int .i64 0)/\¬(pre.length<=4/\pre.all Awf=true)/\Below w.heap.size w W)
  (λpre A B row hs hg hr=>⟨hs.1.grown hg (gx Go.Sy.q_ hr),hs.2.1.grown hg (gx Go.Sy.q_ hr),hs.2.2.1,hs.2.2.2.1.grown hg hs.2.2.2.1.size (xx hr),wT hs.2.2.2.2 hg.size⟩)
  (λc pre A B row hs hg hr=>⟨hs.1,hs.2.1.grown hg (gx Go.Sy.q_ hr),hs.2.2.1,hs.2.2.2.grown hg hs.2.2.2.size (xx hr)⟩)
  ⟨ca,ci,⟨by simp,rfl⟩,hB0,by omega⟩
  (λ x=>{ tmps:=#[.string s,undef,.int .u32 0,.bool false,.pointer (some ⟨w.heap.size,0,none⟩),.pointer (some ⟨w.heap.size+1,0,none⟩),.string x,undef,undef,.string s,
   .func (.func 338) #[] #[.pointer (some ⟨w.heap.size+3,0,none⟩),.pointer (some ⟨w.heap.size+2,0,none⟩),.pointer (some ⟨w.heap.size+4,0,none⟩)],.string x,
   undef,undef,undef,undef,undef,undef,undef,undef,undef,undef,undef,undef,undef,undef,undef,undef,undef,undef,undef,undef,undef],defers:=[] }) ?assign ?body ?done ?stop
 case assign=>
  intro l x W K hK
  gi_wp2
  exact hK
 case body=>
  rintro l pre x W ⟨ha,hi,⟨gb,em⟩,hB,hB5⟩ _;have q:=(Ad8 x 255).calls_tup2 (w:=W) (vs:=[.string x,.int .i64 255]) (by simp only[RdL];exact⟨_,_,rfl,by simp[Rd,As],_,_,rfl,by simp[Rd,Aa],rfl⟩);have gm:=aL pre x;have mh:((pre++[x]).all Awf)=Awf x:=by rw[List.all_append,em];simp
  have js:(pre++[x]).length=pre.length+1:=by simp
  have hox:Awf x=(smallT x 255).2:=rfl;generalize smallT x 255=sm at *;obtain ⟨v,ok⟩:=sm;dsimp only at gm hox q
  gi_wp2
  refine⟨Y,?_⟩;refine(CallsIn.inRound l (callsIn_wide.2 q)).mono ?_;rintro e w' ⟨rfl,hb⟩;have ha':=ha.below hb;have hi':=hi.below hb;have hB':Below w.heap.size w w':=hB.trans (hb.mono hB.size);have cy:=Acl hb;have a1:=ha'.1;have a2:=ha'.2;have b1:=hi'.1;have b2:=hi'.2;have s1:∀(u v:Value),Below w.heap.size w ((w'.setCell ⟨w.heap.size+1,0,none⟩ u).setCell ⟨w.heap.size+1,0,none⟩ v):=λu v=>
   (hB'.setCell (p:=⟨w.heap.size+1,0,none⟩) (tF _) u).setCell (p:=⟨w.heap.size+1,0,none⟩) (tF _) v
  cases ok
  .gi_wp2
   exact⟨cy.trans ((KeepsOthers.setCell _ _ _).trans (KeepsOthers.setCell _ _ _)),rfl,(hi'.set _).set _,(λe=>by rw[mh,hox]at e;cases e.2),s1 _ _⟩
  .by_cases h4:pre.length+1<=4
   .have hsn':oI (pre++[x])=bits .or .u32 (oI pre*256%4294967296) (v%4294967296):=by rw[gm,IntKind.wrap_u32,IntKind.wrap_u32];rfl
    gi_wp2
    refine⟨cy.trans ((KeepsOthers.setCell _ _ _).trans (KeepsOthers.setCell _ _ _)),⟨?_,?_,?_⟩,?_,?_,⟨by omega,by rw[mh,hox]⟩,?_,?_⟩
    .rw[Below.heap_setCell _ _ _ _ Go.Sy.y_,Below.heap_setCell _ _ _ _ Go.Sy.y_];exact hb.block _ Go.Sy.q_
    .rw[Below.heap_setCell _ _ _ _ Go.Sy.y_,Below.heap_setCell _ _ _ _ Go.Sy.y_];exact hb.block _ Go.Sy.q_
    .rw[Below.heap_setCell _ _ _ _ Go.Sy.y_,Below.heap_setCell _ _ _ _ Go.Sy.y_];exact hb.block _ Go.Sy.q_
    .rw[hsn'];exact(ha'.other Go.Sy.y_ _).set _
    .rw[js];exact(hi'.set _).other Go.Sy.y_ _
    .exact(hB'.setCell (p:=⟨w.heap.size+1,0,none⟩) (tF _) _).setCell (p:=⟨w.heap.size,0,none⟩) (yE _) _
    .have:=hb.size;simp;omega
   .gi_wp2
    exact⟨cy.trans ((KeepsOthers.setCell _ _ _).trans (KeepsOthers.setCell _ _ _)),E,(hi'.set _).set _,λe=>by omega,s1 _ _⟩
 case done=>
  rintro D xs W hD rfl ⟨ha,hi,⟨gb,em⟩,hB,_⟩ hK;have a1:=ha.1;have a2:=ha.2;have b1:=hi.1;have b2:=hi.2;by_cases h4:(C3 46 s).length=4
  .have hr:D8 s=(oI (C3 46 s),true):=by rw[D8,zE ⟨h4,em⟩]
   gi_wp2
   refine⟨by simp,.inl ⟨_,_,E,run_takeDeferred hK,?_⟩⟩;exact⟨_,results_tmp2 E _ _ _,by rw[hr];rfl,hB.trans (belowK_b (w:=w) (yE _) W D _ _ Go.Sy.q_ hK E E)⟩
  .have hr:D8 s=(0,false):=by rw[D8,zD (λe=>h4 e.1)]
   gi_wp2
   refine⟨by simp,.inl ⟨_,_,E,run_takeDeferred hK,?_⟩⟩;exact⟨_,results_tmp2 E _ _ _,by rw[hr];rfl,hB.trans (belowK_b (w:=w) (yE _) W D _ _ Go.Sy.q_ hK E E)⟩
 case stop=>
  rintro D c pre W hD hpre ⟨rfl,hi,eu,hB⟩ hK;have b1:=hi.1;have b2:=hi.2;have hr:D8 s=(0,false):=by
   rw[D8,zD];intro e;refine eu ⟨by have:=hpre.length_le;omega,?_⟩;rw[yT]at e|-;exact λx hx=>e.2 x (hpre.subset hx)
  gi_wp2
  refine⟨by simp,.inl ⟨_,_,E,run_takeDeferred hK,?_⟩⟩;exact⟨_,results_tmp2 E _ _ _,by rw[hr];rfl,hB.trans (belowK_b (w:=w) (yE _) W D _ _ Go.Sy.q_ hK E E)⟩
end Go.Proofs
namespace Go.Sy.Zaa
open Go.Proofs Go.Proofs.Tryz
def lE(s:ByteArray)(hs:s.size<100000):Sp 130 [As s] (.tup [Be (D8 s).1,Ab (D8 s).2]) :=
 Spec.of_calls2 λk w vs _ hr _=>by
  simp only[RdL]at hr;obtain ⟨v,r,rfl,hv,rfl⟩:=hr;simp only[As,Rd]at hv;subst hv;exact Tryz.addrRead_calls s hs w
set_option maxRecDepth 20000
def Xz{x:Int}(h0:0<=x)(h1:x<4294967297):IntKind.i64.wrap x=x:=by
 rw[IntKind.wrap_i64];omega
def Aut{x:Int}(h0:0<=x)(h1:x<4294967296):IntKind.u32.wrap x=x:=by
 rw[IntKind.wrap_u32];omega
def Aft(b:Int)(h:0<=b/\b<=32):Ak1 b=((2^(32-b).toNat-1:Nat):Int):=by
 obtain ⟨k,hk,cx⟩:∃k:Nat,(32-b).toNat=k/\k<=32:=⟨_,rfl,by omega⟩
 have h1:min (32-b).toNat IntKind.u32.bits=k:=by show min (32-b).toNat 32=k;omega
 have hp:=vE (n:=2) j_ cx;have ye:(2:Nat)^32=4294967296:=rfl;rw[ye]at hp;have h0:=vF (n:=k);rw[Ak1,h1,hk,IntKind.wrap_u32,IntKind.wrap_u32,show (2:Int)^k=((2^k:Nat):Int) by rw[tC];rfl];generalize 2^k=q at *;omega
def Wq(a b x:Int)(hb:0<=b/\b<=32)(ha:0<=a/\a<4294967296)(hx:0<=x/\x<4294967296):Ae1 a b x=true↔Eg a b<=x/\x<=Hx a b:=by
 obtain ⟨a,rfl⟩:=xO ha.1;obtain ⟨x,rfl⟩:=xO hx.1;obtain ⟨k,hk,cx⟩:∃k:Nat,(32-b).toNat=k/\k<=32:=⟨_,rfl,by omega⟩
 have h0:=vF (n:=k);rw[Ae1,Aft b hb,hk,A1b a x k q_ q_ cx,decide_eq_true_iff,Avj a x (2^k) q_,L0 a k b hb hk,fO a k b hb hk];omega
def Td(a b:Int)(ha:0<=a/\a<4294967296):0<=Hx a b/\Hx a b<4294967296:=by
 by_cases hb:0<=b/\b<=32
 .obtain ⟨a,rfl⟩:=xO ha.1;obtain ⟨k,hk,cx⟩:∃k:Nat,(32-b).toNat=k/\k<=32:=⟨_,rfl,by omega⟩
  have h0:=vF (n:=k);rw[fO a k b hb hk];have hd:a-a%2^k=2^k*(a/2^k):=by have:=uM a (2^k);omega
  have h32:2^k*2^(32-k)=4294967296:=by
   rw[<-Nat.pow_add,show k+(32-k)=32 by omega]
  have:a/2^k<2^(32-k):=by rw[Nat.div_lt_iff_lt_mul q_,vK,h32];omega
  have:2^k*(a/2^k)+2^k<=2^k*2^(32-k):=by
   rw[<-Nat.mul_succ];exact Nat.mul_le_mul_left _ this
  omega
 .rw[Hx,zD hb];omega
def fZ(a b:Int)(ha:0<=a/\a<4294967296):0<=Eg a b/\Eg a b<4294967296:=by
 by_cases hb:0<=b/\b<=32
 .obtain ⟨a,rfl⟩:=xO ha.1;rw[L0 a _ b hb rfl];omega
 .rw[Eg,zD hb];omega
attribute [local irreducible]G DR
def Aww{n:Net}{irb dst:Int}(h:(lookT n irb dst).2=true):Zl n irb dst (lookT n irb dst).1.toNat=true:=by
 unfold lookT at h|-;split at h
 .cases h
 rename_i h1;rw[zD h1];split at h
 .cases h
 rename_i h2;rw[zD h2];have hm:=Wh (aI n irb) (Jq n irb dst) (xS.2 h2) ((Jq n irb dst).length-1) (by have:=xS.2 h2;omega);exact((filtI_mem (p:=Zl n irb dst) (j:=n.irbs.length)).1 hm).2.2
def Avk(x:Int)(i:Irb):Sp 376 [Cq i,.ref 1 (Be x) 0] (Ab (i.addr==x)):=cT F376 ntmps376 λF hF=>by
 refine fW ?_;exact dN
def Avl(x:Int)(i:Irb):Sp 334 [Cq i,.ref 1 (Be x) 0] (Ab (i.addr==x)):=cT F334 ntmps334 λF hF=>by
 refine fW ?_;exact dN
def Hc(n:Net)(a:Int):Bool:=decide (0<=Bs (λi:Irb=>i.addr==a) n.irbs)
def pastI(n:Net)(a led:Int):Int:=if Hc n a=true then a+1 else Hx (nth n.irbs led).addr (nth n.irbs led).bits+1
def Anx(n:Net)(hn:n.Fin)(hu:C7 n)(a led:Int)(ha:0<=a/\a<4294967296)(hl:Hc n a=false->InIrbs n led):Sp 335 [Am n,Be a,Aa led] (Aa (pastI n a led)):=cT F335 ntmps335 λF hF=>by
 have ak:=pastI.eq_1 n a led;generalize pastI n a led=res at *;have q7:=Lm n.irbs (λi:Irb=>i.addr==a) 376 [] [.ref 1 (Be a) 0] rfl (λi _=>⟨⟨_,_,F376⟩,Avk a i⟩) hn.irbs;have ht:decide (0<=Bs (λi:Irb=>i.addr==a) n.irbs)=Hc n a:=rfl;rw[ht]at q7;generalize Hc n a=tk at *;refine fW ?_;refine Bf 3 8 (Am n) E E E ?_;refine Bf 4 1 (Be a) E E E (gM q7 F333 ?_);cases tk;rotate_left
 .rw[zE rfl]at ak;subst ak;refine fU ?_;rw[Xz q_ q_];refine iL ?_;refine fW ?_;exact dN
 rw[zD y_]at ak;have qz:=hl rfl;rw[Ae qz.2]at ak;have nk:=hu _ (zI qz.2);obtain ⟨x,hx⟩:=kE (n.irbs[led.toNat]'qz.2);rw[hx]at ak nk;obtain ⟨y,hy⟩:=xO nk.1;have q:=lF y x.bits q_;have hle:=Td x.addr x.bits nk;rw[<-hy]at q;generalize Hx x.addr x.bits=z at *;subst ak;refine fU ?_;refine⟨E,qz.1,qz.2,?_⟩;rw[hx];refine fW ?_
 first|refine cD q F215 ?_|refine c0 q F215 ?_
 refine fU ?_;rw[Xz q_ q_];refine iL ?_;refine fW ?_;exact dN
def Alf{n:Net}(hu:C7 n)(hb:Ac n=true){irb a:Int}(ha:0<=a/\a<4294967296)(h:Hc n a=false->(lookT n irb a).2=true):a<pastI n a (lookT n irb a).1/\pastI n a (lookT n irb a).1<=4294967296:=by
 rw[pastI];split
 .omega
 rename_i ht;have h2:=h (kS ht);have hw:=Aww h2;have hi:=Wj h2;have e:((lookT n irb a).1.toNat:Int)=(lookT n irb a).1:=by have:=hi.1;omega
 rw[Zl,zG,e]at hw;rw[Ae hi.2]at hw|-;have nk:=hu _ (zI hi.2);have tv:=(Dl hb hi.2).2.2;have h3:=(Wq _ _ _ tv nk ha).1 hw.1;have h4:=Td _ (n.irbs[(lookT n irb a).1.toNat]'hi.2).bits nk;omega
def addrGo(n:Net)(irb to e:Int)(x:Int):Int×Bool :=
 if x<=e then
  if (lookT n irb x).2=true/\(lookT n irb x).1=to/\Hc n x=false then (x,true)
  else if (lookT n irb x).2=false/\Hc n x=false then (0,false)
  else if x<pastI n x (lookT n irb x).1 then addrGo n irb to e (pastI n x (lookT n irb x).1) else (0,false)
 else (0,false)
 termination_by (e+1-x).toNat
 decreasing_by omega
def addrT(n:Net)(irb to:Int):Int×Bool :=
 if (0<=irb/\irb<n.irbs.length)/\(0<=to/\to<n.irbs.length)/\Ac n=true then
  addrGo n irb to (Hx (nth n.irbs to).addr (nth n.irbs to).bits) (Eg (nth n.irbs to).addr (nth n.irbs to).bits) else (0,false)
def Adv(n:Net)(hn:n.Fin)(hu:C7 n)(irb to:Int):Sp 257 [Am n,Aa irb,Aa to] (.tup [Be (addrT n irb to).1,Ab (addrT n irb to).2]):=cT F257 ntmps257 λF hF=>by
 have ak:=addrT.eq_1 n irb to;generalize addrT n irb to=res at *;have hr:=A2 n hn;have hsi:=hn.irbs;unfold An at hsi;refine fW ?_;constructor<;>intro h
 .rw[zD (qA h)]at ak;subst ak;exact gD
 have h1:¬irb<0:=zT h;refine gJ ?_ ?_<;>intro h
 .rw[zD (qA h)]at ak;subst ak;exact gD
 have h2:¬to<0:=zT h;refine Bf 3 8 (Am n) E E E ?_;refine gJ ?_ ?_<;>intro h
 .rw[zD (qA h)]at ak;subst ak;exact gD
 have h3:irb<n.irbs.length:=qB h;refine gJ ?_ ?_<;>intro h
 .rw[zD (qA h)]at ak;subst ak;exact gD
 have h4:to<n.irbs.length:=qB h;refine gM hr F39 ?_;cases hb:Ac n
 .rw[zD (by simp[hb])]at ak;subst ak;exact gD
 rw[zE ⟨⟨by omega,h3⟩,⟨by omega,h4⟩,hb⟩]at ak;have ep:InIrbs n to:=⟨by omega,by omega⟩
 have hii:InIrbs n irb:=⟨by omega,by omega⟩
 rw[Ae ep.2]at ak;have nk:=hu _ (zI ep.2);obtain ⟨x,hx⟩:=kE (n.irbs[to.toNat]'ep.2);rw[hx]at ak nk;obtain ⟨y,hy⟩:=xO nk.1;have q1:=Aeb y x.bits q_;have q2:=lF y x.bits q_;have hf:=fZ x.addr x.bits nk;have hle:=Td x.addr x.bits nk;rw[<-hy]at q1 q2;generalize Hx x.addr x.bits=e at *;generalize Eg x.addr x.bits=s at *;refine fU ?_;refine⟨E,ep.1,ep.2,?_⟩;rw[hx];refine fW ?_;refine cD q1 F214 (fU ?_);refine cD q2 F215 (fU ?_);refine⟨z_,?_⟩;refine fW ?_;refine Cd (λz:Int=>0<=z/\z<=4294967296/\res=addrGo n irb to e z) (λz=>[(1,Aa irb),(2,Aa to),(3,.ref 8 (Am n) 0),(9,Aa z),(10,Aa e)]) (λ_=>[]) (λz=>(e+1-z).toNat) s [] ⟨hf.1,by omega,ak⟩
  ⟨⟨rfl,rfl,rfl,rfl,rfl,rfl,zH Aa (Xz (x:=s) q_ q_).symm,rfl,zH Aa (Xz (x:=e) q_ q_).symm,rfl,trivial⟩,trivial,rfl,rfl⟩ ?_
 clear ak;rintro z ⟨bw,hz1,ak⟩;refine gJ ?_ ?_<;>intro h
 .have h5:z<=e:=zO h;rw[addrGo,zE h5]at ak;have vw:0<=z/\z<4294967296:=by omega
  have q6:=Ah6 n hn hb irb z hii;have hgt:=Alf (irb:=irb) hu hb vw;have m5:=Wj (n:=n) (irb:=irb) (dst:=z);have q8:=λled hl=>Anx n hn hu z led vw hl
  have q7:=Lm n.irbs (λi:Irb=>i.addr==z) 334 [] [.ref 1 (Be z) 0] rfl (λi _=>⟨⟨_,_,F334⟩,Avl z i⟩) hn.irbs;have ht:decide (0<=Bs (λi:Irb=>i.addr==z) n.irbs)=Hc n z:=rfl;rw[ht]at q7;clear ht;generalize Hc n z=tk at *;generalize lookT n irb z=ld at *;obtain ⟨led,ok⟩:=ld;dsimp only at *;refine fU ?_;rw[Aut vw.1 vw.2];refine c0 q6 F332 ?_;refine Bf 11 1 (Be z) E E E (gM q7 F333 ?_);cases ok
  .cases tk
   .rw[zD y_,zE ⟨rfl,rfl⟩]at ak;subst ak;exact gD
   .rw[zD y_,zD y_,zE (hgt (λh=>by cases h)).1]at ak;have hg:=hgt (λh=>by cases h);have q:=q8 led (λh=>by cases h);generalize pastI n z led=nx at *;refine gM q F335 ?_;refine fU ?_;exact Ax nx [] ⟨by omega,hg.2,ak⟩ q_ kU
  .have q:=q8 led (λ_=>m5 rfl);have hg:=hgt (λ_=>rfl);cases tk
   .by_cases dr:led=to
    .subst dr;rw[zE ⟨rfl,rfl,rfl⟩]at ak;subst ak;refine gJ ?_ ?_<;>intro h
     .exact gD
     .simp at h
    .rw[zD (by simp[dr]),zD y_,zE hg.1]at ak;generalize pastI n z led=nx at *;refine fU ?_;refine⟨λh=>yA (kS h) dr,λh=>?_⟩;refine gM q F335 ?_;refine fU ?_;exact Ax nx [] ⟨by omega,hg.2,ak⟩ q_ kU
   .rw[zD y_,zD y_,zE hg.1]at ak;generalize pastI n z led=nx at *;refine gJ ?_ ?_<;>intro h
    .refine gM q F335 ?_;refine fU ?_;exact Ax nx [] ⟨by omega,hg.2,ak⟩ q_ kU
    .refine gM q F335 ?_;refine fU ?_;exact Ax nx [] ⟨by omega,hg.2,ak⟩ q_ kU
 .have h5:¬z<=e:=zT h;rw[addrGo,zD h5]at ak;subst ak;exact gD
structure Hop where
 (kind port domain addr:Int)
abbrev Dh(h:Hop):SV:=.agg [Aa h.kind,Aa h.port,Aa h.domain,Be h.addr]
instance:Inhabited Hop:=⟨⟨0,0,0,0⟩⟩
def Zh(n:Net)(d:Int):Prop:=(0<=d/\d<n.domains.length)/\Ac n=true
instance (n:Net)(d:Int):Decidable (Zh n d):=inferInstanceAs (Decidable (_/\_))
def Ak3(n:Net)(hn:n.Fin)(d:Int):Sp 255 [Am n,Aa d] (Ab (decide (Zh n d))):=cT F255 ntmps255 λF hF=>by
 have hr:=A2 n hn;refine fW ?_;constructor<;>intro h
 .have h1:0<=d:=zO h;refine Bf 2 8 (Am n) E E E ?_;refine gJ ?_ ?_<;>intro h
  .have h2:d<n.domains.length:=zO h;refine gM hr F39 ?_;refine fU ?_;refine Ar E Aq (zH Ab ?_) E;cases hb:Ac n<;>simp[Zh,h1,h2,hb]
  .have h2:¬d<n.domains.length:=zT h;refine fU ?_;refine Ar E Aq (zH Ab ?_) E;simp[Zh,h2]
 .have h1:¬0<=d:=zT h;refine fU ?_;refine Ar E Aq (zH Ab ?_) E;simp[Zh,h1]
def linkHop(n:Net)(d p:Int):Option Hop:=if (linkDomT n p (nth n.domains d).vlan).2=true then some ⟨1,p,(linkDomT n p (nth n.domains d).vlan).1,0⟩ else none
def K8(p:Int):Hop:=⟨2,0,p,0⟩
def hopsL(n:Net)(d:Int):List Hop:=(A0 n d).filterMap (linkHop n d)++(nth n.domains d).peers.map K8
def Dg(n:Net)(d:Int):List Hop:=if Zh n d then hopsL n d else []
def Ait{n:Net}{d:Int}{l:List Int}{j:Nat}{p:Int}(h:j<l.length)(hp:l[j]=p):(l.take (j+1)).filterMap (linkHop n d) =
  (l.take j).filterMap (linkHop n d)++(match linkHop n d p with|some h=>[h]|none=>[]):=by
 subst hp;rw[vX,zR h,List.filterMap_append];cases hh:linkHop n d l[j]<;>simp[hh]
def Ap4(n:Net)(hn:n.Fin)(d:Int):Sp 199 [Am n,Aa d] (.sl 4 Dh (Dg n d)):=cT F199 ntmps199 λF hF=>by
 have hp:=Ak3 n hn d;have cd:=Sl n hn d;have yf:=K9 n hn d;unfold An at yf;refine fW ?_;refine Bf 2 8 (Am n) E E E (gM hp F255 ?_);by_cases hd:Zh n d;rotate_left
 .rw[Dg,zD hd,zK hd];refine fU ?_;exact Ao 4 4 Dh E gD
 rw[Dg,zE hd,zL hd];have hk:d.toNat<n.domains.length:=by have:=hd.1;omega
 have h0:0<=d:=hd.1.1;have fy:=hn.peers _ (zI hk);unfold An at fy;have hh:=hopsL.eq_1 n d;have hlh:=linkHop.eq_1 n d;have gm:=λj p h hp=>Ait (n:=n) (d:=d) (l:=A0 n d) (j:=j) (p:=p) h hp
 have jl:∀j,((A0 n d).take j |>.filterMap (linkHop n d)).length<=(A0 n d).length:=λj=>by
  refine wT (tI _ _) ?_;rw[zY];omega
 have dp:(A0 n d).take (A0 n d).length=A0 n d:=yN;rw[Ae hk]at hh hlh;obtain ⟨x,hx⟩:=kE (n.domains[d.toNat]'hk);rw[hx]at hh hlh fy;generalize hopsL n d=res at *;generalize A0 n d=mem at *;refine gM cd F116 ?_;refine fU ?_;refine Ca 5 1000 4 Dh E E ?_;refine Bg mem.length (λj=>[(1,Aa d),(2,.ref 8 (Am n) 0),(5,.osl 1000),(18,.sl 1 Aa mem),(19,Aa mem.length),(20,Aa j)]) (λj=>[(1000,.row 4 Dh ((mem.take j).filterMap (linkHop n d)))]) []
  kU ?_
 intro j hj;have hflj:=jl j;refine gJ ?_ ?_<;>intro h
 .have ab:j<mem.length:=by simpa using h
  have ai:(j:Int).toNat<mem.length:=kS ab;obtain ⟨p,hp'⟩:∃p,mem[(j:Int).toNat]'ai=p:=⟨_,rfl⟩
  have hs:=gm j p ab hp';have q:=cI n hn p x.vlan;rw[hlh p]at hs;generalize linkDomT n p x.vlan=ld at *;obtain ⟨to,ok⟩:=ld;refine fU ?_;refine⟨E,by omega,ai,?_⟩;rw[hp'];refine fW ?_;refine⟨E,h0,hk,?_⟩;rw[hx];refine fW ?_;refine cD q F256 (fU ?_);refine⟨z_,?_⟩;refine fW ?_;dsimp only at hs;refine⟨λh=>?_,λh=>?_⟩<;>(have h:ok=_:=h;subst h)
  .refine fU ?_;refine Aj (Ah Γ.toTy 42 E E E E E (.row E) (.lit (e:=Dh) (l:=[⟨1,p,to,0⟩]) E E) y_ kO kO) E E (gG ?_);exact Az [(1000,42)] ab ⟨kA,⟨.inl (zH (Ob.row 4 Dh) hs),E,Y⟩,E,E⟩
  .refine gG ?_;exact Az [] ab ⟨kA,⟨.inl (zH (Ob.row 4 Dh) (hs.trans (xD _))),E,Y⟩,E,E⟩
 .have:j=mem.length:=qB h;subst this;rw[dp]at hflj|-;generalize mem.filterMap (linkHop n d)=first at *
  refine fU ?_;refine⟨E,h0,hk,?_⟩;rw[hx];refine fW ?_;refine Bg x.peers.length (λj=>[(5,.osl 1000),(49,.sl 1 Aa x.peers),(50,Aa x.peers.length),(51,Aa j)]) (λj=>[(1000,.row 4 Dh (first++(x.peers.take j).map K8))]) []
   ⟨⟨rfl,rfl,rfl,rfl,rfl,rfl,rfl,rfl,trivial⟩,⟨.inl (zH (Ob.row 4 Dh) (xD _)),rfl,trivial⟩,rfl,rfl⟩ ?_
  intro j hj;refine gJ ?_ ?_<;>intro h
  .have ab:j<x.peers.length:=by simpa using h
   have ai:(j:Int).toNat<x.peers.length:=kS ab;obtain ⟨p,hp'⟩:∃p,x.peers[(j:Int).toNat]'ai=p:=⟨_,rfl⟩
   have hs:(first++(x.peers.take j).map K8)++[⟨2,0,p,0⟩]=first++(x.peers.take (j+1)).map K8:=by
    rw[vX,zR ab,wZ,xF];congr 2;simp only[Option.toList,xV,uA,K8];congr 2;exact hp'.symm
   refine fU ?_;refine⟨E,by omega,ai,?_⟩;rw[hp'];refine fW ?_;refine Aj (Ah Γ.toTy 59 E E E E E (.row E) (.lit (e:=Dh) (l:=[⟨2,0,p,0⟩]) E E) y_ kO kO) E E (gG ?_);exact Az [(1000,59)] ab ⟨kA,⟨.inl (zH (Ob.row 4 Dh) hs.symm),E,Y⟩,E,E⟩
  .have:j=x.peers.length:=qB h;subst this;refine fU ?_;refine Ai 1000 E (fU ?_);refine Ar E Aq ?_ E;rw[hh,yN];rfl
structure Lead where
 (to domain addr:Int)
abbrev Qb(l:Lead):SV:=.agg [Aa l.to,Aa l.domain,Be l.addr]
instance:Inhabited Lead:=⟨⟨0,0,0⟩⟩
def leadF(n:Net)(irb:Int)(i:Nat):Option Lead:=if (addrT n irb i).2=true then some ⟨i,(nth n.irbs i).domain,(addrT n irb i).1⟩ else none
def Ul(n:Net)(irb:Int)(j:Nat):List Lead:=(List.range j).filterMap (leadF n irb)
def routesT(n:Net)(d:Int):List Lead:=if (0<=d/\d<n.domains.length)/\0<=(nth n.domains d).irb/\Ac n=true then Ul n (nth n.domains d).irb n.irbs.length else []
def Amk(n:Net)(irb:Int)(j:Nat):Ul n irb (j+1)=Ul n irb j++(match leadF n irb j with|some h=>[h]|none=>[]):=by
 rw[Ul,vH,List.filterMap_append];cases h:leadF n irb j<;>simp[h,Ul]
def Y5(n:Net)(irb:Int)(j:Nat):(Ul n irb j).length<=j:=by
 have:=tI (leadF n irb) (List.range j);simpa [Ul] using this
def Afe(n:Net)(hn:n.Fin)(hu:C7 n)(d:Int):Sp 200 [Am n,Aa d] (.sl 3 Qb (routesT n d)):=cT F200 ntmps200 λF hF=>by
 have ak:=routesT.eq_1 n d;generalize routesT n d=res at *;have hr:=A2 n hn;have hsi:=hn.irbs;unfold An at hsi;refine fW ?_;constructor<;>intro h
 .rw[zD (qA h)]at ak;subst ak;refine fU ?_;exact Ao 4 3 Qb E gD
 have h1:¬d<0:=zT h;refine Bf 2 8 (Am n) E E E ?_;refine gJ ?_ ?_<;>intro h
 .rw[zD (qA h)]at ak;subst ak;refine fU ?_;exact Ao 4 3 Qb E gD
 have h2:d<n.domains.length:=qB h;have hk:d.toNat<n.domains.length:=by omega
 rw[Ae hk]at ak;obtain ⟨x,hx⟩:=kE (n.domains[d.toNat]'hk);rw[hx]at ak;refine fU ?_;refine⟨E,by omega,hk,?_⟩;rw[hx];refine fW ?_;constructor<;>intro h
 .rw[zD (qA h)]at ak;subst ak;refine fU ?_;exact Ao 4 3 Qb E gD
 have h3:0<=x.irb:=qB h;refine gM hr F39 ?_;cases hb:Ac n
 .rw[zD (by simp[hb])]at ak;subst ak;refine fU ?_;exact Ao 4 3 Qb E gD
 rw[zE ⟨⟨by omega,h2⟩,h3,hb⟩]at ak;subst ak;refine fU ?_;refine Ca 5 1000 3 Qb E E ?_;refine Bg n.irbs.length (λj=>[(1,Aa d),(2,.ref 8 (Am n) 0),(5,.osl 1000),(34,.sl 5 Cq n.irbs),(35,Aa n.irbs.length),(36,Aa j)]) (λj=>[(1000,.row 3 Qb (Ul n x.irb j))]) []
  kU ?_
 intro j hj;have js:=Y5 n x.irb j;refine gJ ?_ ?_<;>intro h
 .have ab:j<n.irbs.length:=by simpa using h
  have ai:(j:Int).toNat<n.irbs.length:=kS ab;have q:=Adv n hn hu x.irb j;have hs:=Amk n x.irb j;have hle:=leadF.eq_1 n x.irb j;rw[Ae ai]at hle;rw[hle]at hs;obtain ⟨y,hy⟩:=kE (n.irbs[(j:Int).toNat]'ai);rw[hy]at hs;generalize addrT n x.irb j=ad at *;obtain ⟨a,ok⟩:=ad;dsimp only at hs q;refine fU ?_;refine⟨E,by omega,ai,?_⟩;rw[hy];refine fW ?_;refine⟨E,by omega,hk,?_⟩;rw[hx];refine fW ?_;refine cD q F257 (fU ?_);refine⟨z_,?_⟩;refine fW ?_;refine⟨λh=>?_,λh=>?_⟩<;>(have h:ok=_:=h;subst h)
  .refine fU ?_;refine Aj (Ah Γ.toTy 61 E E E E E (.row E) (.lit (e:=Qb) (l:=[⟨j,y.domain,a⟩]) E E) y_ kO kO) E E (gG ?_);exact Az [(1000,61)] ab ⟨kA,⟨.inl (zH (Ob.row 3 Qb) hs),E,Y⟩,E,E⟩
  .refine gG ?_;exact Az [] ab ⟨kA,⟨.inl (zH (Ob.row 3 Qb) (hs.trans (xD _))),E,Y⟩,E,E⟩
 .have:j=n.irbs.length:=qB h;subst this;refine fU ?_;exact Ai 1000 E gD
def J1(n:Net)(i:Int):Bool:=decide (0<=i)&&decide (i<n.ports.length)&&decide ((nth n.ports i).link<0)
def aQ(n:Net)(i:Int):Sp 61 [Am n,Aa i] (Ab (J1 n i)):=cT F61 ntmps61 λF hF=>by
 refine fW ?_;constructor<;>intro h
 .have h1:0<=i:=zO h;refine Bf 2 8 (Am n) E E E ?_;refine gJ ?_ ?_<;>intro h
  .have h2:i<n.ports.length:=zO h;have hk:i.toNat<n.ports.length:=by omega
   rw[J1,Ae hk,zL h1,zL h2,yG,yG];obtain ⟨p,hp⟩:=kE (n.ports[i.toNat]'hk);rw[hp];refine fU ?_;refine⟨E,h1,hk,?_⟩;rw[hp];refine fW ?_;exact dN
  .have h2:¬i<n.ports.length:=zT h;rw[J1,zK h2,wR,yF];exact gD
 .have h1:¬0<=i:=zT h;rw[J1,zK h1,yF,yF];exact gD
structure Fnd where
 (domain kind:Int) (hop:Hop) (ahead:Int)
abbrev Zd(f:Fnd):SV:=.agg [Aa f.domain,Aa f.kind,Aa f.hop.kind,Aa f.hop.port,Aa f.hop.domain,Be f.hop.addr,Aa f.ahead]
instance:Inhabited Fnd:=⟨⟨0,0,default,0⟩⟩
structure Srch where
 (m0 m1:List Bool) (list:List Fnd)
abbrev stSV(d k:Int):SV:=.agg [Aa d,Aa k]
abbrev lO(n:Net)(S:Srch):Obs:=[(0,.box [.sl 5 A1 n.devices,.sl 7 Bb n.ports,.sl 3 Ck n.links,.sl 6 At n.domains,.sl 4 Bc n.statics,.sl 4 Bn n.floods,.sl 5 Ct n.vrfs,.sl 5 Cq n.irbs,.osl 1,.osl 2,.osl 3]),
 (1,.row 1 Ab S.m0),(2,.row 1 Ab S.m1),(3,.row 7 Zd S.list)]
abbrev bB(n:Net)(S:Srch):Obs:=[(0,.box [.sl 5 A1 n.devices,.sl 7 Bb n.ports,.sl 3 Ck n.links,.sl 6 At n.domains,.sl 4 Bc n.statics,.sl 4 Bn n.floods,.sl 5 Ct n.vrfs,.sl 5 Cq n.irbs,.osl 1,.osl 2,.osl 4]),
 (1,.row 1 Ab S.m0),(2,.row 1 Ab S.m1),(3,.non),(4,.row 7 Zd S.list)]
def Ui(S:Srch)(d k:Int):Bool:=if k=0 then nth S.m0 d else nth S.m1 d
def O6(S:Srch)(d k:Int)(h:Hop)(ahead:Int):Srch :=
 if k=0 then ⟨S.m0.set d.toNat true,S.m1,S.list++[⟨d,k,h,ahead⟩]⟩ else ⟨S.m0,S.m1.set d.toNat true,S.list++[⟨d,k,h,ahead⟩]⟩
def meetT(S:Srch)(d k:Int)(h:Hop)(ahead:Int):Srch:=if Ui S d k=true then S else O6 S d k h ahead
def A09(n:Net)(S:Srch)(d:Int)(h:Hop)(ahead:Int)(hd:0<=d/\d.toNat<S.m0.length)(hl:An S.list):Sq 197 [.ptr 0 0,stSV d 0,Dh h,Aa ahead] (lO n S) (.tup []) (bB n (meetT S d 0 h ahead)):=cT F197 ntmps197 λF hF=>by
 unfold An at hl;have ak:=meetT.eq_1 S d 0 h ahead;rw[Ui,zE rfl,Ae hd.2,show O6 S d 0 h ahead=⟨S.m0.set d.toNat true,S.m1,S.list++[⟨d,0,h,ahead⟩]⟩ from zE rfl]at ak;generalize meetT S d 0 h ahead=res at *;refine fW ?_;refine⟨by decide,by decide,?_⟩;refine fW ?_;refine⟨hd.1,hd.2,?_⟩;refine fW ?_;refine⟨E,hd.2,?_⟩;refine fW ?_;refine⟨z_,?_⟩;refine fW ?_;constructor<;>intro h1
 rotate_left
 .rw[zE (kS h1)]at ak;subst ak;refine Xj 3 1000 E E j_ (fU ?_);exact A6 E .nil [(4,1000)] (bB n res) (λ_ h=>h) E E kU
 rw[zD (kS h1)]at ak;subst ak;refine fU ?_;refine⟨by decide,by decide,?_⟩;refine fW ?_;refine⟨hd.1,hd.2,?_⟩;refine fW ?_;refine⟨E,hd.2,true,E,E,?_⟩;refine fW ?_;refine⟨z_,?_⟩;refine fW ?_;refine Ce (Ah Γ.toTy 40 E E E E E (.row E) (.lit (e:=Zd) (l:=[⟨d,0,h,ahead⟩]) E E) y_ kO kO) z_ E (fU ?_);refine⟨z_,?_⟩;refine fW ?_;exact A6 E .nil [(4,40)] (bB n ⟨S.m0.set d.toNat true,S.m1,S.list++[⟨d,0,h,ahead⟩]⟩) (λ_ h=>h) E E kU
def A08(n:Net)(S:Srch)(d:Int)(h:Hop)(ahead:Int)(hd:0<=d/\d.toNat<S.m1.length)(hl:An S.list):Sq 197 [.ptr 0 0,stSV d 1,Dh h,Aa ahead] (lO n S) (.tup []) (bB n (meetT S d 1 h ahead)):=cT F197 ntmps197 λF hF=>by
 unfold An at hl;have ak:=meetT.eq_1 S d 1 h ahead;rw[show Ui S d 1=nth S.m1 d from zD j_,Ae hd.2,show O6 S d 1 h ahead=⟨S.m0,S.m1.set d.toNat true,S.list++[⟨d,1,h,ahead⟩]⟩ from zD j_]at ak;generalize meetT S d 1 h ahead=res at *;refine fW ?_;refine⟨by decide,by decide,?_⟩;refine fW ?_;refine⟨hd.1,hd.2,?_⟩;refine fW ?_;refine⟨E,hd.2,?_⟩;refine fW ?_;refine⟨z_,?_⟩;refine fW ?_;constructor<;>intro h1
 rotate_left
 .rw[zE (kS h1)]at ak;subst ak;refine Xj 3 1000 E E j_ (fU ?_);exact A6 E .nil [(4,1000)] (bB n res) (λ_ h=>h) E E kU
 rw[zD (kS h1)]at ak;subst ak;refine fU ?_;refine⟨by decide,by decide,?_⟩;refine fW ?_;refine⟨hd.1,hd.2,?_⟩;refine fW ?_;refine⟨E,hd.2,true,E,E,?_⟩;refine fW ?_;refine⟨z_,?_⟩;refine fW ?_;refine Ce (Ah Γ.toTy 40 E E E E E (.row E) (.lit (e:=Zd) (l:=[⟨d,1,h,ahead⟩]) E E) y_ kO kO) z_ E (fU ?_);refine⟨z_,?_⟩;refine fW ?_;exact A6 E .nil [(4,40)] (bB n ⟨S.m0,S.m1.set d.toNat true,S.list++[⟨d,1,h,ahead⟩]⟩) (λ_ h=>h) E E kU
structure Srch.OK(n:Net)(S:Srch):Prop where
 l0:S.m0.length=n.domains.length
 l1:S.m1.length=n.domains.length
 at_:∀f∈S.list,(0<=f.domain/\f.domain.toNat<n.domains.length)/\(f.kind=0\/f.kind=1)
 len:S.list.length<=S.m0.count true+S.m1.count true
theorem Srch.OK.le{n:Net}{S:Srch}(h:S.OK n):S.list.length<=2*n.domains.length:=by
 have h1:S.m0.count true<=S.m0.length:=List.count_le_length;have h2:S.m1.count true<=S.m1.length:=List.count_le_length;have:=h.len;rw[h.l0]at h1;rw[h.l1]at h2;omega
def count_set{l:List Bool}{i:Nat}(h:i<l.length)(hi:l[i]=false):(l.set i true).count true=l.count true+1:=by
 rw[List.count_set h,hi];simp
theorem Srch.OK.meet{n:Net}{S:Srch}(h:S.OK n){d k:Int}(hd:0<=d/\d.toNat<n.domains.length)(hk:k=0\/k=1)(hp:Hop)(a:Int):(meetT S d k hp a).OK n:=by
 rw[meetT];split
 .exact h
 rename_i yb;have h0:d.toNat<S.m0.length:=by rw[h.l0];exact hd.2
 have h1:d.toNat<S.m1.length:=by rw[h.l1];exact hd.2
 rcases hk with rfl|rfl
 .rw[Ui,zE rfl,Ae h0]at yb;rw[O6,zE rfl];refine⟨by simp[h.l0],h.l1,λf hf=>?_,?_⟩
  .rcases yH.1 hf with hf|hf
   .exact h.at_ f hf
   .rw[zX]at hf;subst hf;exact⟨hd,.inl E⟩
  .rw[count_set h0 (kS yb),zQ,zW];have:=h.len;show _<=_+S.m1.count true;omega
 .rw[Ui,zD j_,Ae h1]at yb;rw[O6,zD j_];refine⟨h.l0,by simp[h.l1],λf hf=>?_,?_⟩
  .rcases yH.1 hf with hf|hf
   .exact h.at_ f hf
   .rw[zX]at hf;subst hf;exact⟨hd,.inr E⟩
  .rw[count_set h1 (kS yb),zQ,zW];have:=h.len;show _<=S.m0.count true+_;omega
def W4{n:Net}(h:Ac n=true){i:Nat}(hi:i<n.ports.length){v:Int}(hv:Cy n.ports[i] v=true):0<=C8 n n.ports[i].dev v/\(C8 n n.ports[i].dev v).toNat<n.domains.length:=by
 have hp:=Ar5 h hi;simp only[Kj,zG,yU]at hp;simp only[Cy,zG,xC,yO,yJ]at hv;have h0:0<=C8 n n.ports[i].dev v:=by
  rcases hv.2 with h1|h1
  .have h2:=hp.1.2;have h3:=hp.1.1.1.1.1.1.1.2;rw[h1]at hv|-;have h4:decide (0<n.ports[i].native)=true:=by
    simp only[zJ]at h3|-;omega
   rw[h4]at h2;simpa [Es] using h2
  .have h2:=hp.1.1.2;obtain ⟨x,hx,e⟩:=xY.1 h1;obtain ⟨j,hj,rfl⟩:=yY.1 hx;have h3:=allB_iff.1 h2 j hj;simp only[yJ]at e;rw[e]at h3;simpa [Es] using h3
 refine⟨h0,?_⟩;have:=Iw (λd:Domain=>d.dev==n.ports[i].dev&&d.vlan==v) n.domains;have e:C8 n n.ports[i].dev v=Bs (λd:Domain=>d.dev==n.ports[i].dev&&d.vlan==v) n.domains:=rfl;omega
def Mg{n:Net}{i v:Int}(h:(linkDomT n i v).2=true):0<=(linkDomT n i v).1/\(linkDomT n i v).1.toNat<n.domains.length:=by
 unfold linkDomT at h|-;split at h
 .rename_i hc;rw[zE hc];have m5:=dL hc;unfold crossT at hc m5|-;split at hc
  .rename_i h1;rw[zE h1]at m5|-;have hb:=(D2 h1.1).2.1;have h2:=h1.2.2;rw[C4]at h2|-;rw[B5,zE hb];dsimp only at m5|-;rw[Ae m5.2]at h2|-;refine W4 hb m5.2 ?_;simp only[Cy,zG,xC,yO,yJ];refine⟨h2,?_⟩;split
   .exact .inl E
   .rename_i h3;rw[zD h3]at h2;split
    .rename_i h4;exact .inr h4
    .rename_i h4;rw[zD h4]at h2;exact yA E h2
  .cases hc
 .cases h
def Ar6{n:Net}(h:Ac n=true){i:Nat}(hi:i<n.domains.length){p:Int}(hp:p∈n.domains[i].peers):0<=p/\p.toNat<n.domains.length:=by
 simp only[Ac,zG]at h;have h1:=allB_iff.1 h.1.1.1.1.1.1.2 i hi;obtain ⟨j,hj,rfl⟩:=yY.1 hp;have h2:=allB_iff.1 h1 j hj;simp only[S4,Ag,zG,zJ]at h2;omega
def Mj{n:Net}{d:Int}{h:Hop}(hh:h∈Dg n d):0<=h.domain/\h.domain.toNat<n.domains.length:=by
 rw[Dg]at hh;split at hh
 .rename_i hd;have hk:d.toNat<n.domains.length:=by have:=hd.1;omega
  rw[hopsL,Ae hk]at hh;rcases yH.1 hh with hh|hh
  .obtain ⟨p,_,hp⟩:=wA.1 hh;rw[linkHop]at hp;split at hp
   .rename_i hl;simp only[Option.some.injEq]at hp;subst hp;exact Mg hl
   .cases hp
  .obtain ⟨p,hp,rfl⟩:=yS.1 hh;exact Ar6 hd.2 hk hp
 .cases hh
def Ov{n:Net}{d:Int}{q:Lead}(hq:q∈routesT n d):0<=q.domain/\q.domain.toNat<n.domains.length:=by
 rw[routesT]at hq;split at hq
 .rename_i hc;obtain ⟨i,hi,hp⟩:=wA.1 hq;rw[leadF]at hp;split at hp
  .simp only[Option.some.injEq]at hp;subst hp;have hi':(i:Int).toNat<n.irbs.length:=kS hi;show 0<=(nth n.irbs i).domain/\_;rw[Ae hi'];exact(Dl hc.2.2 hi').1
  .cases hp
 .cases hq
def ext1(S:Srch)(k i:Int)(l:List Hop):Srch:=l.foldl (λS h=>meetT S h.domain k h i) S
def ext2(S:Srch)(i:Int)(l:List Lead):Srch:=l.foldl (λS q=>meetT S q.domain 1 ⟨3,0,q.domain,q.addr⟩ i) S
def extT(n:Net)(S:Srch)(i:Int):Srch :=
 if (nth S.list i).kind=0 then ext2 (ext1 S 0 i (Dg n (nth S.list i).domain)) i (routesT n (nth S.list i).domain) else ext1 S 1 i (Dg n (nth S.list i).domain)
def Axs(S:Srch)(k i:Int){l:List Hop}{j:Nat}{h:Hop}(hj:j<l.length)(hh:l[j]=h):ext1 S k i (l.take (j+1))=meetT (ext1 S k i (l.take j)) h.domain k h i:=by
 subst hh;rw[ext1,vX,zR hj,xP];rfl
def Axr(S:Srch)(i:Int){l:List Lead}{j:Nat}{q:Lead}(hj:j<l.length)(hh:l[j]=q):ext2 S i (l.take (j+1))=meetT (ext2 S i (l.take j)) q.domain 1 ⟨3,0,q.domain,q.addr⟩ i:=by
 subst hh;rw[ext2,vX,zR hj,xP];rfl
theorem Srch.OK.ext1{n:Net}{k i:Int}(hk:k=0\/k=1):∀{l:List Hop} {S:Srch},S.OK n->(∀h∈l,0<=h.domain/\h.domain.toNat<n.domains.length)->(ext1 S k i l).OK n
 |[],S,h,_=>h
 |x::l,S,h,hl=>Srch.OK.ext1 hk (l:=l) (h.meet (hl x y_) hk x i) (λy hy=>hl y (by simp[hy]))
theorem Srch.OK.ext2{n:Net}{i:Int}:∀{l:List Lead} {S:Srch},S.OK n->(∀h∈l,0<=h.domain/\h.domain.toNat<n.domains.length)->(ext2 S i l).OK n
 |[],S,h,_=>h
 |x::l,S,h,hl=>Srch.OK.ext2 (l:=l) (h.meet (hl x y_) (.inr rfl) _ i) (λy hy=>hl y (by simp[hy]))
theorem Srch.OK.ext{n:Net}{S:Srch}(h:S.OK n)(i:Int):(extT n S i).OK n:=by
 rw[extT];split
 .exact(h.ext1 (.inl E) (λx hx=>Mj hx)).ext2 (λx hx=>Ov hx)
 .exact h.ext1 (.inr E) (λx hx=>Mj hx)
def Amx{n:Net}(hn:n.Fin)(d:Int):(Dg n d).length<4294967296:=by
 have h1:=K9 n hn d;unfold An at h1;rw[Dg];split
 .rename_i hd;have hk:d.toNat<n.domains.length:=by have:=hd.1;omega
  have h2:=hn.peers _ (zI hk);unfold An at h2;have h3:=tI (linkHop n d) (A0 n d);rw[hopsL,Ae hk,zQ,yW];omega
 .decide
def Aeg{n:Net}(hn:n.Fin)(d:Int):(routesT n d).length<4294967296:=by
 have h1:=hn.irbs;unfold An at h1;rw[routesT];split
 .have:=Y5 n (nth n.domains d).irb n.irbs.length;omega
 .decide
abbrev Azf(n:Net)(S:Srch)(d k:Int):Obs:=[(0,.box [.sl 5 A1 n.devices,.sl 7 Bb n.ports,.sl 3 Ck n.links,.sl 6 At n.domains,.sl 4 Bc n.statics,.sl 4 Bn n.floods,.sl 5 Ct n.vrfs,.sl 5 Cq n.irbs,.osl 1,.osl 2,.osl 1000]),
 (1,.row 1 Ab S.m0),(2,.row 1 Ab S.m1),(3,.non),(1000,.row 7 Zd S.list),(4,.box [Aa d,Aa k])]
def A5a(n:Net)(hn:n.Fin)(hu:C7 n)(hD:n.domains.length<1000000)(S:Srch)(hS:S.OK n)(i:Int)(hi:0<=i/\i.toNat<S.list.length):Sq 118 [.ptr 0 0,Aa i] (lO n S) (.tup []) (bB n (extT n S i)):=cT F118 ntmps118 λF hF=>by
 have ak:=extT.eq_1 n S i;rw[Ae hi.2]at ak;generalize extT n S i=res at *;have xh:=(hS.at_ _ (zI hi.2)).2;obtain ⟨f,hf⟩:=kE (S.list[i.toNat]'hi.2);rw[hf]at ak xh;obtain ⟨d,k,hp,ah⟩:=f;dsimp only at ak xh;have q1:=Ap4 n hn d;have q2:=Afe n hn hu d;have lm:=λh=>Mj (n:=n) (d:=d) (h:=h)
 have xm:=λh=>Ov (n:=n) (d:=d) (q:=h)
 have zl:=Amx hn d;have jn:=Aeg hn d;generalize Dg n d=hops at *;generalize routesT n d=leads at *;have yg:∀k,k=0\/k=1->∀j,(ext1 S k i (hops.take j)).OK n:=λk hk j=>hS.ext1 hk (λx hx=>lm x (wV hx))
 have uc:∀j,(ext2 (ext1 S 0 i hops) i (leads.take j)).OK n:=λj=>Srch.OK.ext2 (hS.ext1 (.inl rfl) (λx hx=>lm x hx)) (λx hx=>xm x (wV hx))
 have ag:=λk j h hj hh=>Axs S k i (l:=hops) (j:=j) (h:=h) hj hh
 have ng:=λj h hj hh=>Axr (ext1 S 0 i hops) i (l:=leads) (j:=j) (q:=h) hj hh
 refine fW ?_;refine⟨hi.1,hi.2,?_⟩;refine fW ?_;refine⟨by intro e;rw[e]at hi;simp at hi,?_⟩;refine fW ?_;refine⟨E,hi.2,?_⟩;rw[hf];refine fW ?_;rcases xh with rfl|rfl
 .rw[zE rfl]at ak;have yg:=yg 0 j_;have ag:=ag 0;refine fU ?_;refine cD q1 F199 (fU ?_);refine⟨z_,?_⟩;refine fW ?_;refine Xj 3 1000 E E j_ ?_;refine Bg hops.length (λj=>[(0,.ptr 0 0),(1,Aa i),(4,.ptr 4 0),(23,.sl 4 Dh hops),(24,Aa hops.length),(25,Aa j)]) (λj=>Azf n (ext1 S 0 i (hops.take j)) d 0) []
   kU ?_
  intro j hj;have sf:=yg j;have lej:=sf.le;have l0:=sf.l0;have xn:=ag j;generalize vo:ext1 S 0 i (hops.take j)=Sj at *;refine gJ ?_ ?_<;>intro h
  .have ab:j<hops.length:=by simpa using h
   have ai:(j:Int).toNat<hops.length:=kS ab;obtain ⟨hp,sg⟩:=kE (hops[(j:Int).toNat]'ai);have nz:=lm hp (by rw[<-sg];exact zI _);have sc:=xn hp ab sg;have q3:=A09 n Sj hp.domain hp i (by rw[l0];exact nz) (by unfold An;omega);rw[<-sc]at q3;refine fU ?_;refine⟨E,by omega,ai,?_⟩;rw[sg];refine fW ?_;refine Aj (Ad [(0,0),(1,1),(2,2),(3,1000),(4,1001)] E F197 q3 E kA E kB) E E (gG ?_);exact Az [(1000,1001)] ab kU
  .have:j=hops.length:=qB h;subst this;rw[yN]at vo;simp only[vo]at ak uc ng;refine fU ?_;refine cD q2 F200 (fU ?_);refine⟨z_,?_⟩;refine fW ?_;refine Bg leads.length (λj=>[(0,.ptr 0 0),(1,Aa i),(4,.ptr 4 0),(48,.sl 3 Qb leads),(49,Aa leads.length),(50,Aa j)]) (λj=>Azf n (ext2 Sj i (leads.take j)) d 0) []
    kU ?_
   intro j hj;have sf:=uc j;have lej:=sf.le;have l0:=sf.l1;have xn:=ng j;generalize hSk:ext2 Sj i (leads.take j)=Sk at *;refine gJ ?_ ?_<;>intro h
   .have ab:j<leads.length:=by simpa using h
    have ai:(j:Int).toNat<leads.length:=kS ab;obtain ⟨hp,sg⟩:=kE (leads[(j:Int).toNat]'ai);have nz:=xm hp (by rw[<-sg];exact zI _);have sc:=xn hp ab sg;have q3:=A08 n Sk hp.domain ⟨3,0,hp.domain,hp.addr⟩ i (by rw[l0];exact nz) (by unfold An;omega);rw[<-sc]at q3;refine fU ?_;refine⟨E,by omega,ai,?_⟩;rw[sg];refine fW ?_;refine Aj (Ad [(0,0),(1,1),(2,2),(3,1000),(4,1001)] E F197 q3 E kA E kB) E E (gG ?_);exact Az [(1000,1001)] ab kU
   .have:j=leads.length:=qB h;subst this;rw[yN]at hSk;rw[hSk]at ak;subst ak;refine fU ?_;exact A6 E .nil [(4,1000)] (bB n _) (λ_ h=>h) E E kU
 .rw[zD j_]at ak;clear uc ng q2 jn xm;have yg:=yg 1 j_;have ag:=ag 1;refine fU ?_;refine cD q1 F199 (fU ?_);refine⟨z_,?_⟩;refine fW ?_;refine Xj 3 1000 E E j_ ?_;refine Bg hops.length (λj=>[(0,.ptr 0 0),(1,Aa i),(4,.ptr 4 0),(23,.sl 4 Dh hops),(24,Aa hops.length),(25,Aa j)]) (λj=>Azf n (ext1 S 1 i (hops.take j)) d 1) []
   kU ?_
  intro j hj;have sf:=yg j;have lej:=sf.le;have l0:=sf.l1;have xn:=ag j;generalize vo:ext1 S 1 i (hops.take j)=Sj at *;refine gJ ?_ ?_<;>intro h
  .have ab:j<hops.length:=by simpa using h
   have ai:(j:Int).toNat<hops.length:=kS ab;obtain ⟨hp,sg⟩:=kE (hops[(j:Int).toNat]'ai);have nz:=lm hp (by rw[<-sg];exact zI _);have sc:=xn hp ab sg;have q3:=A08 n Sj hp.domain hp i (by rw[l0];exact nz) (by unfold An;omega);rw[<-sc]at q3;refine fU ?_;refine⟨E,by omega,ai,?_⟩;rw[sg];refine fW ?_;refine Aj (Ad [(0,0),(1,1),(2,2),(3,1000),(4,1001)] E F197 q3 E kA E kB) E E (gG ?_);exact Az [(1000,1001)] ab kU
  .have:j=hops.length:=qB h;subst this;rw[yN]at vo;rw[vo]at ak;subst ak;refine fU ?_;exact A6 E .nil [(4,1000)] (bB n _) (λ_ h=>h) E E kU
def Kf(n:Net)(dev:Int)(S:Srch)(v:Int):Srch:=if v=0 then S else meetT S (B5 n dev v) 0 ⟨0,0,B5 n dev v,0⟩ (-1)
def Kz(n:Net):Srch:=⟨List.replicate n.domains.length false,List.replicate n.domains.length false,[]⟩
def Qn(n:Net)(dev:Int)(l:List Int):Srch:=l.foldl (Kf n dev) (Kz n)
def beginT(n:Net)(port:Int):Srch:=Qn n (nth n.ports port).dev ((nth n.ports port).native::(nth n.ports port).tagged)
def An3(n:Net)(dev:Int){l:List Int}{j:Nat}{v:Int}(hj:j<l.length)(hh:l[j]=v):Qn n dev (l.take (j+1))=Kf n dev (Qn n dev (l.take j)) v:=by
 subst hh;rw[Qn,vX,zR hj,xP];rfl
def Akk(n:Net):(Kz n).OK n:=⟨by simp[Kz],by simp[Kz],λf hf=>by simp[Kz]at hf,by simp[Kz]⟩
def X7{n:Net}{dev:Int}{l:List Int}(h:∀v∈l,v≠0->0<=B5 n dev v/\(B5 n dev v).toNat<n.domains.length):(Qn n dev l).OK n:=by
 suffices hs:∀(l:List Int) (S:Srch),S.OK n->(∀v∈l,v≠0->0<=B5 n dev v/\(B5 n dev v).toNat<n.domains.length)->(l.foldl (Kf n dev) S).OK n from hs l _ (Akk n) h
 intro l
 induction l with
 |nil=>exact λS h _=>h
 |cons x l ih=>
  intro S hS hl;refine ih _ ?_ (λv hv=>hl v (by simp[hv]));rw[Kf];split
  .exact hS
  .rename_i hx;exact hS.meet (hl x y_ hx) (.inl E) _ _
def Ks{n:Net}(hb:Ac n=true){i:Nat}(hi:i<n.ports.length){v:Int}(hv:v∈n.ports[i].native::n.ports[i].tagged)(h0:v≠0):0<=B5 n n.ports[i].dev v/\(B5 n n.ports[i].dev v).toNat<n.domains.length:=by
 rw[B5,zE hb];refine W4 hb hi ?_;simp only[Cy,zG,xC,yO,yJ];refine⟨h0,?_⟩;rcases yI.1 hv with h|h
 .exact .inl h
 .exact .inr (xY.2 ⟨v,h,by simp⟩)
abbrev Aa4(n:Net)(a b c:SV):Ob:=.box [.sl 5 A1 n.devices,.sl 7 Bb n.ports,.sl 3 Ck n.links,.sl 6 At n.domains,.sl 4 Bc n.statics,.sl 4 Bn n.floods,.sl 5 Ct n.vrfs,.sl 5 Cq n.irbs,a,b,c]
abbrev bZ:SV:=svN
def madeO(n:Net):Nat->Obs
 |0=>[(0,Aa4 n bZ bZ bZ)]
 |1=>[(0,Aa4 n (.osl 1001) bZ bZ),(1001,.row 1 Ab (List.replicate n.domains.length false))]
 |_=>[(0,Aa4 n (.osl 1001) (.osl 1002) bZ),(1001,.row 1 Ab (List.replicate n.domains.length false)),(1002,.row 1 Ab (List.replicate n.domains.length false))]
abbrev srchB(n:Net)(S:Srch)(vs:List Int):Obs:=[(0,Aa4 n (.osl 1001) (.osl 1002) (.osl 1003)),(1001,.row 1 Ab S.m0),(1002,.row 1 Ab S.m1),(1003,.row 7 Zd S.list),(38,.row 1 Aa vs)]
def beginS(n:Net)(hn:n.Fin)(hb:Ac n=true)(hD:n.domains.length<1000000)(port:Int)(hp:0<=port/\port.toNat<n.ports.length):Sq 114 [.ptr 0 0,Aa port] [(0,Aa4 n bZ bZ bZ)] (.tup []) (lO n (beginT n port)):=cT F114 ntmps114 λF hF=>by
 have ak:=beginT.eq_1 n port;rw[Ae hp.2]at ak;generalize beginT n port=res at *;have a6:=λv hv h0=>Ks hb hp.2 (v:=v) hv h0
 have hts:=hn.tagged _ (zI hp.2);unfold An at hts;obtain ⟨p,j7⟩:=kE (n.ports[port.toNat]'hp.2);rw[j7]at ak a6 hts;have aq:∀j,(Qn n p.dev ((p.native::p.tagged).take j)).OK n:=λj=>X7 λv hv h0=>a6 v (wV hv) h0
 have xg:=λj v hj hh=>An3 n p.dev (l:=p.native::p.tagged) (j:=j) (v:=v) hj hh
 have hd:=λv=>K5 n hn p.dev v
 refine fW ?_;refine⟨E,hp.1,hp.2,?_⟩;rw[j7];refine fW ?_;refine Bf 4 7 (Bb p) E E E ?_;refine Ba 2 (λ_=>True) (λj=>[(0,.ptr 0 0),(4,.ref 7 (Bb p) 0),(17,Aa j)]) (λj=>madeO n j) [] Y kU ?_;intro j hj _;refine gJ ?_ ?_<;>intro h
 .have ab:j<2:=qA h;have hj01:j=0\/j=1:=by omega
  rcases hj01 with rfl|rfl
  .refine fU ?_;refine Ce (B4 Γ.toTy (d:=28) (n:=n.domains.length) Ab false E E E E E E E E q_ q_ E E E) z_ E (fU ?_);refine⟨by decide,by decide,?_⟩;refine fW ?_;refine⟨z_,?_⟩;refine fW ?_;refine⟨by unfold I64;decide,?_⟩;refine fW ?_;exact A8 [(1001,28)] Y j_ Y kU
  .refine fU ?_;refine Ce (B4 Γ.toTy (d:=28) (n:=n.domains.length) Ab false E E E E E E E E q_ q_ E E E) z_ E (fU ?_);refine⟨by decide,by decide,?_⟩;refine fW ?_;refine⟨z_,?_⟩;refine fW ?_;refine⟨by unfold I64;decide,?_⟩;refine fW ?_;exact A8 [(1002,28)] Y j_ Y kU
 .have:j=2:=qB h;subst this;refine fU ?_;refine Aj (Ah Γ.toTy 38 E E E E E (.lit (e:=Aa) (l:=[p.native]) E E) .sl j_ kO kO) E E (Tq 0 10 1003 7 Zd E E E E ?_);refine fU ?_;generalize jx:p.native::p.tagged=vs at *;have fc:vs.length=p.tagged.length+1:=by rw[<-jx];rfl
  refine Bg vs.length (λj=>[(0,.ptr 0 0),(4,.ref 7 (Bb p) 0),(38,.osl 38),(39,Aa vs.length),(40,Aa j)]) (λj=>srchB n (Qn n p.dev (vs.take j)) vs) []
   ⟨⟨rfl,rfl,rfl,rfl,rfl,rfl,zH Aa (by rw[fc];rfl),rfl,rfl,rfl,trivial⟩,⟨.inl rfl,rfl,.inl rfl,rfl,.inl rfl,rfl,.inl rfl,rfl,.inl (zH (Ob.row 1 Aa) jx.symm),rfl,trivial⟩,rfl,rfl⟩ ?_
  intro j hj;have sf:=aq j;have lej:=sf.le;have l0:=sf.l0;have xn:=xg j;generalize vo:Qn n p.dev (vs.take j)=Sj at *;refine gJ ?_ ?_<;>intro h
  .have ab:j<vs.length:=by simpa using h
   have ai:(j:Int).toNat<vs.length:=kS ab;obtain ⟨v,hv⟩:=kE (vs[(j:Int).toNat]'ai);have ey:v∈vs:=by rw[<-hv];exact zI _
   have sc:=xn v ab hv;rw[Kf]at sc;have w7:=hd v;have hiv:=a6 v ey;generalize B5 n p.dev v=dm at *;refine fU ?_;refine⟨by omega,ai,?_⟩;refine fW ?_;refine⟨E,ai,?_⟩;rw[hv];refine fW ?_;constructor<;>intro h
   .have h0:v≠0:=by simpa using h
    rw[zD h0]at sc;have q3:=A09 n Sj dm ⟨0,0,dm,0⟩ (-1) (by rw[l0];exact hiv h0) (by unfold An;omega);rw[<-sc]at q3;refine fU ?_;refine cD w7 F181 (fU ?_);refine⟨z_,?_⟩;refine fW ?_;refine Aj (Ad [(0,0),(1,1001),(2,1002),(3,1003),(4,1004)] E F197 q3 E kA E kB) E E (gG ?_);exact Az [(1003,1004)] ab kU
   .have h0:v=0:=by simpa using h
    rw[zE h0]at sc;refine gG ?_;exact Az [] ab ⟨kA,⟨.inl E,E,.inl (zH (λS=>Ob.row 1 Ab (Srch.m0 S)) sc),E,.inl (zH (λS=>Ob.row 1 Ab (Srch.m1 S)) sc),E,.inl (zH (λS=>Ob.row 7 Zd (Srch.list S)) sc),E,.inl E,E,Y⟩,E,E⟩
  .have:j=vs.length:=qB h;subst this;rw[yN]at vo;rw[vo]at ak;subst ak;refine fU ?_;exact A6 E .nil [(1,1001),(2,1002),(3,1003)] (lO n _) (λ_ h=>h) E E kU
end Go.Sy.Zaa
